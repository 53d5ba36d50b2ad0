import PyProof.Rows.All
import Wide.All
import OpenK.AllK
import Wide.FinOn
import PyProof.EqAt
import PyProof.EqKinds
import PyProof.TupleCall
import HandS.ForMost
import HandS.ForExc
import HandS.CallSlots
import HandS.IsInst
import HandS.HotCalls
import HandS.ExcIs
import HandS.Flow
import KE.SortData
import KE.DataMinMax
import HandS.Style
import HandS.Deep
import HandS.Rev
import KE.SortLaws
import HandS.WordsExc
import HandS.ExcCtx
import HandS.Defaults
import KE.LtData
import PySem.Challenge.RW_desksagree_k78_shares_that_lose_nothing
set_option Elab.async false
set_option linter.all false
set_option autoImplicit false
set_option maxRecDepth 100000
set_option maxHeartbeats 4000000
/-! Z: data by values, things that change by numbers; what a reading comes to is a plain function. -/
namespace Z
open PySem PySem.Spec PyProof.Rows L2

/-! ### data -/
mutual
def fits : PyData → Prop
  | .str s => s.length ≤ sizeLine
  | .list xs => xs.length ≤ sizeLine ∧ fitsAll xs
  | .tuple xs => xs.length ≤ sizeLine ∧ fitsAll xs
  | .dict _ => False
  | _ => True
def fitsAll : List PyData → Prop
  | [] => True
  | x :: xs => fits x ∧ fitsAll xs
end
mutual
/-- what stands as data: lists that are tracked, tuples that may be read -/
inductive Dt (K : PySem.W.Frag) (H : Hp) : V → PyData → Prop
  | non : Dt K H .non .none
  | bl (b : Bool) : Dt K H (.bl b) (.bool b)
  | int (i : Int) : Dt K H (.int i) (.int i)
  | str (x : Str) : Dt K H (.str x) (.str x)
  | lst {a : Addr} {xs : List V} {ds : List PyData} : H a = some (.lst xs) → DtAll K H xs ds → Dt K H (.ref a) (.list ds)
  | tup {a : Addr} {xs : List V} {ds : List PyData} : SqT K H a xs → DtAll K H xs ds → Dt K H (.ref a) (.tuple ds)
inductive DtAll (K : PySem.W.Frag) (H : Hp) : List V → List PyData → Prop
  | nil : DtAll K H [] []
  | cons {v : V} {vs : List V} {d : PyData} {ds : List PyData} : Dt K H v d → DtAll K H vs ds → DtAll K H (v :: vs) (d :: ds)
end
theorem same_t {K : PySem.W.Frag} {H H' : Hp} {a : Addr} {xs : List V} (e : Same H H') (h : SqT K H a xs) : SqT K H' a xs := by
  rcases h with (h | ⟨o, h⟩) | h
  · exact .inl (.inl (e _ _ h))
  · exact .inl (.inr ⟨o, e _ _ h⟩)
  · exact .inr h
mutual
theorem Dt.mono {K : PySem.W.Frag} {H H' : Hp} (e : Same H H') : ∀ (d : PyData) (v : V), Dt K H v d → Dt K H' v d
  | .none, _, h => by cases h; exact .non
  | .bool b, _, h => by cases h; exact .bl b
  | .int i, _, h => by cases h; exact .int i
  | .str x, _, h => by cases h; exact .str x
  | .list ds, _, h => by
    cases h with
    | lst hs ha => exact .lst (e _ _ hs) (DtAll.mono e ds _ ha)
  | .tuple ds, _, h => by
    cases h with
    | tup hs ha => exact .tup (same_t e hs) (DtAll.mono e ds _ ha)
  | .dict _, _, h => by cases h
theorem DtAll.mono {K : PySem.W.Frag} {H H' : Hp} (e : Same H H') : ∀ (ds : List PyData) (vs : List V), DtAll K H vs ds → DtAll K H' vs ds
  | [], _, h => by cases h; exact .nil
  | d :: ds, _, h => by
    cases h with
    | cons h1 h2 => exact .cons (Dt.mono e d _ h1) (DtAll.mono e ds _ h2)
end
mutual
theorem Dt.dp {K : PySem.W.Frag} {H : Hp} : ∀ (d : PyData) (v : V), Dt K H v d → Dp K H v d
  | .none, _, h => by cases h; exact .non
  | .bool b, _, h => by cases h; exact .bl b
  | .int i, _, h => by cases h; exact .int i
  | .str x, _, h => by cases h; exact .str x
  | .list ds, _, h => by
    cases h with
    | lst hs ha => exact .lst (SqL.of hs) (DtAll.dp ds _ ha)
  | .tuple ds, _, h => by
    cases h with
    | tup hs ha => exact .tup hs (DtAll.dp ds _ ha)
  | .dict _, _, h => by cases h
theorem DtAll.dp {K : PySem.W.Frag} {H : Hp} : ∀ (ds : List PyData) (vs : List V), DtAll K H vs ds → DpAll K H vs ds
  | [], _, h => by cases h; exact .nil
  | d :: ds, _, h => by
    cases h with
    | cons h1 h2 => exact .cons (Dt.dp d _ h1) (DtAll.dp ds _ h2)
end
/-- data of a size that a line of the model bears -/
def Dz (K : PySem.W.Frag) (H : Hp) (v : V) (d : PyData) : Prop := Dt K H v d ∧ fits d
theorem Dz.mono {K : PySem.W.Frag} {H H' : Hp} {v : V} {d : PyData} (e : Same H H') (h : Dz K H v d) : Dz K H' v d := ⟨Dt.mono e d v h.1, h.2⟩
abbrev DzAll (K : PySem.W.Frag) (H : Hp) : List V → List PyData → Prop := Paired (Dz K H)
theorem dzAll_of {K : PySem.W.Frag} {H : Hp} : ∀ {ds : List PyData} {vs : List V}, DtAll K H vs ds → fitsAll ds → DzAll K H vs ds
  | [], _, h, _ => by cases h; exact .nil
  | d :: ds, _, h, f => by
    cases h with
    | cons h1 h2 => exact .cons ⟨h1, f.1⟩ (dzAll_of h2 f.2)
theorem of_dzAll {K : PySem.W.Frag} {H : Hp} : ∀ {ds : List PyData} {vs : List V}, DzAll K H vs ds → DtAll K H vs ds ∧ fitsAll ds
  | _, _, .nil => ⟨.nil, trivial⟩
  | _, _, .cons h t => ⟨.cons h.1 (of_dzAll t).1, h.2, (of_dzAll t).2⟩
theorem Paired.len {α β : Type} {F : α → β → Prop} : ∀ {l : List α} {m : List β}, Paired F l m → l.length = m.length
  | _, _, .nil => rfl
  | _, _, .cons _ t => congrArg (· + 1) (Paired.len t)
theorem Paired.imp {α β : Type} {F G : α → β → Prop} (f : ∀ a b, F a b → G a b) : ∀ {l : List α} {m : List β}, Paired F l m → Paired G l m
  | _, _, .nil => .nil
  | _, _, .cons h t => .cons (f _ _ h) (Paired.imp f t)
theorem Paired.app {α β : Type} {F : α → β → Prop} : ∀ {l l' : List α} {m m' : List β}, Paired F l m → Paired F l' m' → Paired F (l ++ l') (m ++ m')
  | _, _, _, _, .nil, h => h
  | _, _, _, _, .cons h t, h' => .cons h (Paired.app t h')
theorem Paired.at {α β : Type} {F : α → β → Prop} : ∀ {l : List α} {m : List β} {i : Nat} {b : β}, Paired F l m → m[i]? = some b → ∃ a, l[i]? = some a ∧ F a b
  | _, _, _, _, .nil, h => by simp at h
  | _, _, 0, _, .cons h t, e => by simp at e; subst e; exact ⟨_, rfl, h⟩
  | _, _, i + 1, _, .cons h t, e => by simpa using Paired.at (i := i) t (by simpa using e)
theorem Paired.put {α β : Type} {F : α → β → Prop} {a : α} {b : β} (h : F a b) : ∀ {l : List α} {m : List β} (i : Nat), Paired F l m → Paired F (l.set i a) (m.set i b)
  | _, _, _, .nil => .nil
  | _, _, 0, .cons _ t => .cons h t
  | _, _, i + 1, .cons g t => .cons g (Paired.put h i t)
theorem Paired.tk {α β : Type} {F : α → β → Prop} : ∀ {l : List α} {m : List β} (n : Nat), Paired F l m → Paired F (l.take n) (m.take n)
  | _, _, 0, _ => .nil
  | _, _, _ + 1, .nil => .nil
  | _, _, n + 1, .cons h t => .cons h (Paired.tk n t)
theorem Paired.dr {α β : Type} {F : α → β → Prop} : ∀ {l : List α} {m : List β} (n : Nat), Paired F l m → Paired F (l.drop n) (m.drop n)
  | _, _, 0, t => t
  | _, _, _ + 1, .nil => .nil
  | _, _, n + 1, .cons _ t => Paired.dr n t

/-! ### what a name holds, what changes -/
/-- data; the thing of a number; a plain value (a class, an error) -/
inductive W where
  | d (x : PyData) | r (i : Nat) | k (v : V)
/-- what changes: a list, an instance, a dict; or nothing more is known of it -/
inductive MO where
  | lst (xs : List W) | ins (C : Addr) (fs : List (Str × W)) | dic (kvs : List (Key × W)) | gone
abbrev Ms := List MO
abbrev Sl := List (Option W)
def WR (K : PySem.W.Frag) (as : List Addr) (Hb : Hp) (v : V) : W → Prop
  | .d x => Dz K Hb v x
  | .r i => ∃ a, as[i]? = some a ∧ v = .ref a
  | .k u => v = u
def MOk (K : PySem.W.Frag) (as : List Addr) (Hb H : Hp) (a : Addr) : MO → Prop
  | .lst xs => xs.length ≤ sizeLine ∧ ∃ vs, H a = some (.lst vs) ∧ Paired (WR K as Hb) vs xs
  | .ins C fs => ∃ dx fv, H a = some (.ins C dx fv) ∧ Paired (fun (p : Str × V) (q : Str × W) => p.1 = q.1 ∧ WR K as Hb p.2 q.2) fv fs
  | .dic kvs => kvs.length ≤ sizeLine ∧ ∃ kv, H a = some (.dK kv) ∧ Paired (fun (p : Key × V) (q : Key × W) => p.1 = q.1 ∧ WR K as Hb p.2 q.2) kv kvs
  | .gone => True
/-- the state: H0 stands, Hb is the data (begun with Hb0), the i-th thing is at the i-th address -/
structure Rel (K : PySem.W.Frag) (H0 Hb0 : Hp) (as : List Addr) (Hb H : Hp) (M : Ms) : Prop where
  sub : Same Hb H
  top : Same H0 H
  len : as.length = M.length
  nd : as.Nodup
  al : ∀ a ∈ as, H a ≠ none
  off : ∀ (i : Nat) (a : Addr) (o : MO), as[i]? = some a → M[i]? = some o → o ≠ .gone → Hb a = none
  off0 : ∀ a ∈ as, H0 a = none
  b0 : Same Hb0 Hb
  at' : ∀ (i : Nat) (a : Addr) (o : MO), as[i]? = some a → M[i]? = some o → MOk K as Hb H a o
  hb0 : ∀ a, Hb a ≠ none → Hb0 a = none → H0 a = none
structure Fut (as : List Addr) (Hb : Hp) (as' : List Addr) (Hb' : Hp) : Prop where
  ex : Same Hb Hb'
  pre : ∃ l, as' = as ++ l
theorem Fut.refl {as : List Addr} {Hb : Hp} : Fut as Hb as Hb := ⟨Same.refl _, [], by simp⟩
theorem Fut.trans {as as' as'' : List Addr} {Hb Hb' Hb'' : Hp} (a : Fut as Hb as' Hb') (b : Fut as' Hb' as'' Hb'') : Fut as Hb as'' Hb'' := by
  obtain ⟨e1, l1, h1⟩ := a
  obtain ⟨e2, l2, h2⟩ := b
  exact ⟨e1.trans e2, l1 ++ l2, by rw [h2, h1, List.append_assoc]⟩
theorem Fut.idx {as as' : List Addr} {Hb Hb' : Hp} (f : Fut as Hb as' Hb') {i : Nat} {a : Addr} (h : as[i]? = some a) : as'[i]? = some a := by
  obtain ⟨_, l, rfl⟩ := f
  have hl := (List.getElem?_eq_some_iff.mp h).1
  rw [List.getElem?_append_left hl]
  exact h
theorem WR.mono {K : PySem.W.Frag} {as as' : List Addr} {Hb Hb' : Hp} {v : V} {w : W} (f : Fut as Hb as' Hb') (h : WR K as Hb v w) : WR K as' Hb' v w := by
  cases w with
  | d x => exact Dz.mono f.ex h
  | r i => obtain ⟨a, h1, h2⟩ := h; exact ⟨a, f.idx h1, h2⟩
  | k u => exact h
abbrev WRs (K : PySem.W.Frag) (as : List Addr) (Hb : Hp) : List V → List W → Prop := Paired (WR K as Hb)
theorem WRs.mono {K : PySem.W.Frag} {as as' : List Addr} {Hb Hb' : Hp} {vs : List V} {ws : List W} (f : Fut as Hb as' Hb') (h : WRs K as Hb vs ws) : WRs K as' Hb' vs ws := Paired.imp (fun _ _ z => z.mono f) h
theorem MOk.fut {K : PySem.W.Frag} {as as' : List Addr} {Hb Hb' H H' : Hp} {a : Addr} {o : MO} (f : Fut as Hb as' Hb') (hH : H' a = H a) (h : MOk K as Hb H a o) : MOk K as' Hb' H' a o := by
  cases o with
  | lst xs => obtain ⟨z, vs, h1, h2⟩ := h; exact ⟨z, vs, hH.trans h1, WRs.mono f h2⟩
  | ins C fs => obtain ⟨dx, fv, h1, h2⟩ := h; exact ⟨dx, fv, hH.trans h1, Paired.imp (fun _ _ z => ⟨z.1, z.2.mono f⟩) h2⟩
  | dic kvs => obtain ⟨z, kv, h1, h2⟩ := h; exact ⟨z, kv, hH.trans h1, Paired.imp (fun _ _ z => ⟨z.1, z.2.mono f⟩) h2⟩
  | gone => trivial
theorem MOk.there {K : PySem.W.Frag} {as : List Addr} {Hb H : Hp} {a : Addr} {o : MO} (h : MOk K as Hb H a o) (ne : o ≠ .gone) : ∃ u, H a = some u := by
  cases o with
  | lst xs => obtain ⟨z, vs, h1, h2⟩ := h; exact ⟨_, h1⟩
  | ins C fs => obtain ⟨dx, fv, h1, h2⟩ := h; exact ⟨_, h1⟩
  | dic kvs => obtain ⟨z, kv, h1, h2⟩ := h; exact ⟨_, h1⟩
  | gone => exact absurd rfl ne
section
variable {K : PySem.W.Frag} {H0 Hb0 Hb H : Hp} {as : List Addr} {M : Ms}
theorem Rel.idx (r : Rel K H0 Hb0 as Hb H M) {i : Nat} {o : MO} (h : M[i]? = some o) : ∃ a, as[i]? = some a := by
  have hl := (List.getElem?_eq_some_iff.mp h).1
  exact ⟨as[i]'(by rw [r.len]; exact hl), List.getElem?_eq_getElem _⟩
theorem Rel.ne (r : Rel K H0 Hb0 as Hb H M) {p : Addr} (hp : H p = none) {i : Nat} {a : Addr} (h : as[i]? = some a) : a ≠ p := fun e => by
  subst e
  exact r.al a (List.mem_of_getElem? h) hp
theorem Rel.hbn (r : Rel K H0 Hb0 as Hb H M) {p : Addr} (hp : H p = none) : Hb p = none := r.sub.free hp
theorem Rel.h0n (r : Rel K H0 Hb0 as Hb H M) {p : Addr} (hp : H p = none) : H0 p = none := r.top.free hp
theorem same_new {H : Hp} {p : Addr} {o : HO} (hp : H p = none) : Same H (upd H p o) := fun b u e => by
  rw [upd_ne (ne_of_none e hp)]
  exact e
theorem fut_new {p : Addr} {o : HO} (hp : Hb p = none) : Fut as Hb as (upd Hb p o) := ⟨same_new hp, [], by simp⟩
/-- a new object that is data from now on -/
theorem Rel.newData (r : Rel K H0 Hb0 as Hb H M) {p : Addr} {o : HO} (hp : H p = none) : Rel K H0 Hb0 as (upd Hb p o) (upd H p o) M where
  sub := fun b u e => by
    by_cases h : b = p
    · subst h; rw [upd_same] at e ⊢; exact e
    · rw [upd_ne h] at e ⊢; exact r.sub b u e
  top := r.top.trans (same_new hp)
  len := r.len
  nd := r.nd
  al := fun a ha => by
    by_cases h : a = p
    · subst h; rw [upd_same]; simp
    · rw [upd_ne h]; exact r.al a ha
  off := fun i a u h1 h2 h3 => by
    have ne := r.ne hp h1
    rw [upd_ne ne]
    exact r.off i a u h1 h2 h3
  off0 := r.off0
  b0 := r.b0.trans (same_new (r.hbn hp))
  at' := fun i a u h1 h2 => (r.at' i a u h1 h2).fut (fut_new (r.hbn hp)) (upd_ne (r.ne hp h1))
  hb0 := fun a h1 h2 => by
    by_cases h : a = p
    · subst h; exact r.h0n hp
    · rw [upd_ne h] at h1; exact r.hb0 a h1 h2
/-- a new object of which nothing is known -/
theorem Rel.newAny (r : Rel K H0 Hb0 as Hb H M) {p : Addr} {o : HO} (hp : H p = none) : Rel K H0 Hb0 as Hb (upd H p o) M where
  sub := r.sub.trans (same_new hp)
  top := r.top.trans (same_new hp)
  len := r.len
  nd := r.nd
  al := fun a ha => by
    by_cases h : a = p
    · subst h; rw [upd_same]; simp
    · rw [upd_ne h]; exact r.al a ha
  off := r.off
  off0 := r.off0
  b0 := r.b0
  at' := fun i a u h1 h2 => (r.at' i a u h1 h2).fut Fut.refl (upd_ne (r.ne hp h1))
  hb0 := r.hb0
/-- a new thing -/
theorem Rel.newMut (r : Rel K H0 Hb0 as Hb H M) {p : Addr} {m : MO} (hH : H p ≠ none) (hbn : Hb p = none) (h0n : H0 p = none) (hp : p ∉ as) (h : MOk K (as ++ [p]) Hb H p m) : Rel K H0 Hb0 (as ++ [p]) Hb H (M ++ [m]) where
  sub := r.sub
  top := r.top
  len := by simp [r.len]
  nd := by
    refine List.nodup_append.mpr ⟨r.nd, by simp, fun a ha b hb => ?_⟩
    have e : b = p := by simpa using hb
    subst e
    exact fun z => hp (z ▸ ha)
  al := fun a ha => by
    rcases List.mem_append.mp ha with h | h
    · exact r.al a h
    · have e : a = p := by simpa using h
      subst e; exact hH
  off := fun i a u h1 h2 h3 => by
    by_cases hi : i < as.length
    · rw [List.getElem?_append_left hi] at h1
      rw [List.getElem?_append_left (by rw [← r.len]; exact hi)] at h2
      exact r.off i a u h1 h2 h3
    · have hi' : as.length ≤ i := Nat.le_of_not_lt hi
      rw [List.getElem?_append_right hi'] at h1
      cases hj : i - as.length with
      | zero => rw [hj] at h1; simp at h1; subst h1; exact hbn
      | succ j => rw [hj] at h1; simp at h1
  off0 := fun a ha => by
    rcases List.mem_append.mp ha with h | h
    · exact r.off0 a h
    · have e : a = p := by simpa using h
      subst e; exact h0n
  b0 := r.b0
  at' := fun i a u h1 h2 => by
    by_cases hi : i < as.length
    · rw [List.getElem?_append_left hi] at h1
      rw [List.getElem?_append_left (by rw [← r.len]; exact hi)] at h2
      exact (r.at' i a u h1 h2).fut ⟨Same.refl _, [p], rfl⟩ rfl
    · have hi' : as.length ≤ i := Nat.le_of_not_lt hi
      rw [List.getElem?_append_right hi'] at h1
      rw [List.getElem?_append_right (by rw [← r.len]; exact hi')] at h2
      cases hj : i - as.length with
      | zero =>
        rw [hj] at h1; simp at h1; subst h1
        rw [← r.len, hj] at h2; simp at h2; subst h2
        exact h
      | succ j => rw [hj] at h1; simp at h1
  hb0 := r.hb0
theorem nodup_idx {α : Type} {l : List α} (hN : l.Nodup) {i j : Nat} {x : α} (a : l[i]? = some x) (b : l[j]? = some x) : i = j := by
  obtain ⟨h1, e1⟩ := List.getElem?_eq_some_iff.mp a
  obtain ⟨h2, e2⟩ := List.getElem?_eq_some_iff.mp b
  exact (List.getElem_inj hN).mp (e1.trans e2.symm)
/-- a thing changes -/
theorem Rel.setMut (r : Rel K H0 Hb0 as Hb H M) {i : Nat} {a : Addr} {o o' : MO} {u : HO} (hi : as[i]? = some a) (ho : M[i]? = some o) (hne : o ≠ .gone) (h : MOk K as Hb (upd H a u) a o') : Rel K H0 Hb0 as Hb (upd H a u) (M.set i o') := by
  have hb := r.off i a o hi ho hne
  have h0 := r.off0 a (List.mem_of_getElem? hi)
  have nb : ∀ b v, Hb b = some v → b ≠ a := fun b v e z => by rw [z, hb] at e; cases e
  have n0 : ∀ b v, H0 b = some v → b ≠ a := fun b v e z => by rw [z, h0] at e; cases e
  have hil : i < M.length := (List.getElem?_eq_some_iff.mp ho).1
  refine ⟨fun b v e => ?_, fun b v e => ?_, by simp [r.len], r.nd, fun b hb' => ?_, fun j b v h1 h2 h3 => ?_, r.off0, r.b0, fun j b v h1 h2 => ?_, r.hb0⟩
  · rw [upd_ne (nb b v e)]; exact r.sub b v e
  · rw [upd_ne (n0 b v e)]; exact r.top b v e
  · by_cases z : b = a
    · subst z; rw [upd_same]; simp
    · rw [upd_ne z]; exact r.al b hb'
  · by_cases z : j = i
    · subst z
      rw [hi] at h1; cases h1
      exact hb
    · rw [List.getElem?_set_ne (Ne.symm z)] at h2
      exact r.off j b v h1 h2 h3
  · by_cases z : j = i
    · subst z
      rw [hi] at h1; cases h1
      rw [List.getElem?_set_self hil] at h2
      cases h2
      exact h
    · rw [List.getElem?_set_ne (Ne.symm z)] at h2
      have zb : b ≠ a := fun e => z (nodup_idx r.nd (e ▸ h1) hi)
      exact (r.at' j b v h1 h2).fut Fut.refl (upd_ne zb)
/-- more stands, nothing changed; some of it is data -/
theorem Rel.grow (r : Rel K H0 Hb0 as Hb H M) {H' Hb' : Hp} (e : Same H H') (eb : Same Hb Hb') (sb : Same Hb' H') (fr : ∀ a, Hb' a ≠ none → Hb a = none → H a = none) : Rel K H0 Hb0 as Hb' H' M where
  sub := sb
  top := r.top.trans e
  len := r.len
  nd := r.nd
  al := fun a ha z => r.al a ha (e.free z)
  off0 := r.off0
  b0 := r.b0.trans eb
  off := fun i a o h1 h2 h3 => by
    have hb := r.off i a o h1 h2 h3
    cases q : Hb' a with
    | none => rfl
    | some u => exact absurd (fr a (by rw [q]; simp) hb) (r.al a (List.mem_of_getElem? h1))
  at' := fun i a o h1 h2 => by
    by_cases hg : o = .gone
    · subst hg; trivial
    · obtain ⟨u, hu⟩ := (r.at' i a o h1 h2).there hg
      exact (r.at' i a o h1 h2).fut ⟨eb, [], by simp⟩ ((e a u hu).trans hu.symm)
  hb0 := fun a h1 h2 => by
    by_cases q : Hb a = none
    · exact r.top.free (fr a h1 q)
    · exact r.hb0 a q h2
/-- a thing of which nothing is known stands apart, and may be kept by what stands -/
theorem Rel.guard (r : Rel K H0 Hb0 as Hb H M) {p : Addr} {o : HO} (hH : H p = some o) (hbn : Hb p = none) (hp : p ∉ as) : Rel K (upd H0 p o) Hb0 as Hb H M where
  sub := r.sub
  top := fun b u e => by
    by_cases h : b = p
    · subst h; rw [upd_same] at e; cases e; exact hH
    · rw [upd_ne h] at e; exact r.top b u e
  len := r.len
  nd := r.nd
  al := r.al
  off := r.off
  off0 := fun a ha => by
    rw [upd_ne (fun (z : a = p) => hp (z ▸ ha))]
    exact r.off0 a ha
  b0 := r.b0
  at' := r.at'
  hb0 := fun a h1 h2 => by
    rw [upd_ne (fun (z : a = p) => h1 (z ▸ hbn))]
    exact r.hb0 a h1 h2
theorem Rel.unguard {p : Addr} {o : HO} (r : Rel K (upd H0 p o) Hb0 as Hb H M) (h0n : H0 p = none) (hb0n : Hb0 p = none) : Rel K H0 Hb0 as Hb H M ∧ H p = some o ∧ Hb p = none ∧ p ∉ as := by
  have hbn : Hb p = none := by
    cases q : Hb p with
    | none => rfl
    | some u =>
      have z := r.hb0 p (by rw [q]; simp) hb0n
      rw [upd_same] at z; cases z
  have hp : p ∉ as := fun hm => by
    have z := r.off0 p hm
    rw [upd_same] at z; cases z
  refine ⟨⟨r.sub, fun b u e => r.top b u ?_, r.len, r.nd, r.al, r.off, fun a ha => ?_, r.b0, r.at', fun a h1 h2 => ?_⟩, r.top p o upd_same, hbn, hp⟩
  · rw [upd_ne (ne_of_none e h0n)]; exact e
  · have z := r.off0 a ha
    rw [upd_ne (fun (z : a = p) => hp (z ▸ ha))] at z
    exact z
  · have z := r.hb0 a h1 h2
    rw [upd_ne (fun (z : a = p) => h1 (z ▸ hbn))] at z
    exact z
/-- a change where nothing is known -/
theorem Rel.other (r : Rel K H0 Hb0 as Hb H M) {p : Addr} {o : HO} (hbn : Hb p = none) (h0n : H0 p = none) (hp : p ∉ as) : Rel K H0 Hb0 as Hb (upd H p o) M where
  sub := fun b u e => by rw [upd_ne (ne_of_none e hbn)]; exact r.sub b u e
  top := fun b u e => by rw [upd_ne (ne_of_none e h0n)]; exact r.top b u e
  len := r.len
  nd := r.nd
  al := fun a ha => by rw [upd_ne (fun (z : a = p) => hp (z ▸ ha))]; exact r.al a ha
  off := r.off
  off0 := r.off0
  b0 := r.b0
  at' := fun i a u h1 h2 => (r.at' i a u h1 h2).fut Fut.refl (upd_ne (fun (z : a = p) => hp (z ▸ List.mem_of_getElem? h1)))
  hb0 := r.hb0
theorem set_same {α : Type} : ∀ {l : List α} {i : Nat} {a : α}, l[i]? = some a → l.set i a = l
  | [], _, _, h => by simp at h
  | _ :: _, 0, _, h => by simp at h; subst h; rfl
  | _ :: l, i + 1, _, h => by simp at h; simp [set_same (l := l) h]
end
end Z

set_option linter.all false
set_option autoImplicit false
set_option maxRecDepth 100000
set_option maxHeartbeats 4000000
namespace Z
open PySem PySem.Spec PyProof.Rows L2

/-! ### results, errors -/
structure Exn where
  c : Str
  arg : Option (Str × PyData) := none
inductive R (α : Type) where
  | ok (a : α) (m : Ms) | exc (e : Exn) (m : Ms) | stuck
def R.bind {α β : Type} (r : R α) (f : α → Ms → R β) : R β := match r with
  | .ok a m => f a m
  | .exc e m => .exc e m
  | .stuck => .stuck
theorem R.bind_ok {α β : Type} (a : α) (m : Ms) (f : α → Ms → R β) : (R.ok a m).bind f = f a m := rfl
theorem R.bind_exc {α β : Type} (e : Exn) (m : Ms) (f : α → Ms → R β) : (R.exc e m : R α).bind f = .exc e m := rfl
theorem R.bind_stuck {α β : Type} (f : α → Ms → R β) : (R.stuck : R α).bind f = .stuck := rfl
/-- an error as it lies -/
def ExnR (K : PySem.W.Frag) (mg : Str → Option Value) (e : Exn) (cls : Value) (d : Option Addr) (H : Hp) : Prop :=
  mg e.c = some cls ∧ match e.arg with
    | none => d = none
    | some (f, x) => ∃ a v, d = some a ∧ H a = some (.xd [(f, v)]) ∧ Dt K (fun _ => none) v x
def Slots (K : PySem.W.Frag) (as : List Addr) (Hb : Hp) : L2.St → Sl → Prop := Paired fun (o : Option V) (q : Option W) => ∀ w, q = some w → ∃ v, o = some v ∧ WR K as Hb v w
theorem Slots.mono {K : PySem.W.Frag} {as as' : List Addr} {Hb Hb' : Hp} {σ : L2.St} {s : Sl} (f : Fut as Hb as' Hb') (h : Slots K as Hb σ s) : Slots K as' Hb' σ s := Paired.imp (fun _ _ z w e => let ⟨v, h1, h2⟩ := z w e; ⟨v, h1, h2.mono f⟩) h
theorem Slots.get {K : PySem.W.Frag} {as : List Addr} {Hb : Hp} {σ : L2.St} {s : Sl} {i : Nat} {w : W} (h : Slots K as Hb σ s) (e : s[i]? = some (some w)) : ∃ v, σ[i]? = some (some v) ∧ WR K as Hb v w := by
  obtain ⟨o, h1, h2⟩ := Paired.at h e
  obtain ⟨v, rfl, h3⟩ := h2 w rfl
  exact ⟨v, h1, h3⟩
theorem Slots.set {K : PySem.W.Frag} {as : List Addr} {Hb : Hp} {σ : L2.St} {s : Sl} {v : V} {w : W} (h : Slots K as Hb σ s) (r : WR K as Hb v w) (i : Nat) : Slots K as Hb (σ.set i (some v)) (s.set i (some w)) := Paired.put (fun u e => ⟨v, rfl, by cases e; exact r⟩) i h
theorem Slots.unset {K : PySem.W.Frag} {as : List Addr} {Hb : Hp} {σ : L2.St} {s : Sl} (h : Slots K as Hb σ s) (o : Option V) (i : Nat) : Slots K as Hb (σ.set i o) (s.set i none) := Paired.put (fun u e => by cases e) i h

abbrev Rep (β α : Type) := Hp → List Addr → Hp → Hp → β → α → Prop
section
variable {β α β' α' : Type} (rep : Rep β α) (K : PySem.W.Frag) (mg : Str → Option Value) (w : WX) (H0 Hb0 : Hp) (as : List Addr) (Hb : Hp) (σ : L2.St) (Q : β → Hp → Prop)
def Good : R α → Prop
  | .ok a M' => ∀ b as' Hb' H', Rel K H0 Hb0 as' Hb' H' M' → Fut as Hb as' Hb' → rep H0 as' Hb' H' b a → Q b H'
  | .exc e M' => ∀ as' Hb' H' cls d, Rel K H0 Hb0 as' Hb' H' M' → Fut as Hb as' Hb' → ExnR K mg e cls d H' → w cls d σ H'
  | .stuck => False
end
section
variable {β α β' α' : Type} {rep : Rep β α} {rep' : Rep β' α'} {K : PySem.W.Frag} {mg : Str → Option Value} {w : WX} {H0 Hb0 : Hp} {as : List Addr} {Hb H : Hp} {M : Ms} {σ : L2.St} {s : Sl} {Q : β → Hp → Prop}
theorem Good.mono {as' : List Addr} {Hb' : Hp} (f : Fut as Hb as' Hb') {r : R α} (g : Good rep K mg w H0 Hb0 as Hb σ Q r) : Good rep K mg w H0 Hb0 as' Hb' σ Q r := by
  cases r with
  | ok a M' => exact fun b as2 Hb2 H2 r2 f2 rp => g b as2 Hb2 H2 r2 (f.trans f2) rp
  | exc e M' => exact fun as2 Hb2 H2 cls d r2 f2 er => g as2 Hb2 H2 cls d r2 (f.trans f2) er
  | stuck => exact g
theorem Good.ok {a : α} {b : β} (g : Good rep K mg w H0 Hb0 as Hb σ Q (.ok a M)) (r : Rel K H0 Hb0 as Hb H M) (rp : rep H0 as Hb H b a) : Q b H := g b as Hb H r Fut.refl rp
def Sim (rep : Rep β α) (K : PySem.W.Frag) (mg : Str → Option Value) (w : WX) (t : L2.St → Hp → (β → Hp → Prop) → Prop) (p : Sl → Ms → R α) : Prop :=
  ∀ (H0 Hb0 : Hp) (as : List Addr) (Hb H : Hp) (M : Ms) (σ : L2.St) (s : Sl), Rel K H0 Hb0 as Hb H M → Slots K as Hb σ s → ∀ Q : β → Hp → Prop, Good rep K mg w H0 Hb0 as Hb σ Q (p s M) → t σ H Q
theorem Good.bind {t1 : L2.St → Hp → (β → Hp → Prop) → Prop} {p1 : Sl → Ms → R α} (h1 : Sim rep K mg w t1 p1) (r : Rel K H0 Hb0 as Hb H M) (S : Slots K as Hb σ s) {f : α → Ms → R α'} {Q' : β' → Hp → Prop} {Q1 : β → Hp → Prop}
    (g : Good rep' K mg w H0 Hb0 as Hb σ Q' ((p1 s M).bind f))
    (k : ∀ b a as' Hb' H' M', Rel K H0 Hb0 as' Hb' H' M' → Fut as Hb as' Hb' → Slots K as' Hb' σ s → rep H0 as' Hb' H' b a → Good rep' K mg w H0 Hb0 as' Hb' σ Q' (f a M') → Q1 b H') : t1 σ H Q1 := by
  refine h1 H0 Hb0 as Hb H M σ s r S Q1 ?_
  cases hp : p1 s M with
  | ok a M' =>
    rw [hp] at g
    exact fun b as' Hb' H' r' f' rp => k b a as' Hb' H' M' r' f' (S.mono f') rp (Good.mono f' g)
  | exc e M' => rw [hp] at g; exact g
  | stuck => rw [hp] at g; exact g.elim
end
def repW (K : PySem.W.Frag) : Rep V W := fun _ as Hb _ v x => WR K as Hb v x
def repB : Rep Bool Bool := fun _ _ _ _ b a => b = a
def repA (K : PySem.W.Frag) : Rep (List V) (List W) := fun _ as Hb _ vs ws => WRs K as Hb vs ws
def repO : Rep (Option Int) (Option Int) := fun _ _ _ _ b a => b = a
/-- a list that was made just now -/
def repL (K : PySem.W.Frag) : Rep V (List W) := fun H0 as Hb H v ws => ∃ p vs, v = .ref p ∧ H p = some (.lst vs) ∧ ws.length ≤ sizeLine ∧ WRs K as Hb vs ws ∧ p ∉ as ∧ Hb p = none ∧ H0 p = none
abbrev PEx := Sl → Ms → R W
abbrev PTx := Sl → Ms → R Bool
abbrev PAx := Sl → Ms → R (List W)

/-! ### statements -/
inductive O where
  | nx (s : Sl) (m : Ms) | rt (w : W) (m : Ms) | bk (s : Sl) (m : Ms) | ct (s : Sl) (m : Ms) | exc (e : Exn) (s : Sl) (m : Ms) | stuck
abbrev PSx := Sl → Ms → O
def R.to {α : Type} (r : R α) (s : Sl) (f : α → Ms → O) : O := match r with
  | .ok a m => f a m
  | .exc e m => .exc e s m
  | .stuck => .stuck
section
variable (K : PySem.W.Frag) (mg : Str → Option Value) (w : WX) (H0 Hb0 : Hp) (as : List Addr) (Hb : Hp) (D : Ends)
def GoodS : O → Prop
  | .nx s' M' => ∀ σ' as' Hb' H', Rel K H0 Hb0 as' Hb' H' M' → Fut as Hb as' Hb' → Slots K as' Hb' σ' s' → D.nx σ' H'
  | .rt x M' => ∀ v as' Hb' H', Rel K H0 Hb0 as' Hb' H' M' → Fut as Hb as' Hb' → WR K as' Hb' v x → D.rt v H'
  | .bk s' M' => ∀ σ' as' Hb' H', Rel K H0 Hb0 as' Hb' H' M' → Fut as Hb as' Hb' → Slots K as' Hb' σ' s' → D.bk σ' H'
  | .ct s' M' => ∀ σ' as' Hb' H', Rel K H0 Hb0 as' Hb' H' M' → Fut as Hb as' Hb' → Slots K as' Hb' σ' s' → D.ct σ' H'
  | .exc e s' M' => ∀ σ' as' Hb' H' cls d, Rel K H0 Hb0 as' Hb' H' M' → Fut as Hb as' Hb' → Slots K as' Hb' σ' s' → ExnR K mg e cls d H' → w cls d σ' H'
  | .stuck => False
end
section
variable {K : PySem.W.Frag} {mg : Str → Option Value} {w : WX} {H0 Hb0 : Hp} {as : List Addr} {Hb H : Hp} {M : Ms} {σ : L2.St} {s : Sl} {D D' : Ends}
theorem GoodS.mono {as' : List Addr} {Hb' : Hp} (f : Fut as Hb as' Hb') {o : O} (g : GoodS K mg w H0 Hb0 as Hb D o) : GoodS K mg w H0 Hb0 as' Hb' D o := by
  cases o with
  | nx s' M' => exact fun a b c d r2 f2 rp => g a b c d r2 (f.trans f2) rp
  | rt s' M' => exact fun a b c d r2 f2 rp => g a b c d r2 (f.trans f2) rp
  | bk s' M' => exact fun a b c d r2 f2 rp => g a b c d r2 (f.trans f2) rp
  | ct s' M' => exact fun a b c d r2 f2 rp => g a b c d r2 (f.trans f2) rp
  | exc e s' M' => exact fun a b c d e' d' r2 f2 rp => g a b c d e' d' r2 (f.trans f2) rp
  | stuck => exact g
theorem GoodS.nx (g : GoodS K mg w H0 Hb0 as Hb D (.nx s M)) (r : Rel K H0 Hb0 as Hb H M) (S : Slots K as Hb σ s) : D.nx σ H := g σ as Hb H r Fut.refl S
def SimS (K : PySem.W.Frag) (mg : Str → Option Value) (w : WX) (t : TS) (p : PSx) : Prop :=
  ∀ (H0 Hb0 : Hp) (as : List Addr) (Hb H : Hp) (M : Ms) (σ : L2.St) (s : Sl), Rel K H0 Hb0 as Hb H M → Slots K as Hb σ s → ∀ D : Ends, GoodS K mg w H0 Hb0 as Hb D (p s M) → t D σ H
theorem GoodS.bind {β α : Type} {rep : Rep β α} {t1 : L2.St → Hp → (β → Hp → Prop) → Prop} {p1 : Sl → Ms → R α} (h1 : Sim rep K mg w t1 p1) (r : Rel K H0 Hb0 as Hb H M) (S : Slots K as Hb σ s) {f : α → Ms → O} {Q1 : β → Hp → Prop}
    (g : GoodS K mg w H0 Hb0 as Hb D ((p1 s M).to s f))
    (k : ∀ b a as' Hb' H' M', Rel K H0 Hb0 as' Hb' H' M' → Fut as Hb as' Hb' → Slots K as' Hb' σ s → rep H0 as' Hb' H' b a → GoodS K mg w H0 Hb0 as' Hb' D (f a M') → Q1 b H') : t1 σ H Q1 := by
  refine h1 H0 Hb0 as Hb H M σ s r S Q1 ?_
  cases hp : p1 s M with
  | ok a M' =>
    rw [hp] at g
    exact fun b as' Hb' H' r' f' rp => k b a as' Hb' H' M' r' f' (S.mono f') rp (GoodS.mono f' g)
  | exc e M' =>
    rw [hp] at g
    exact fun as' Hb' H' cls d r' f' er => g σ as' Hb' H' cls d r' f' (S.mono f') er
  | stuck => rw [hp] at g; exact g.elim
end

/-! ### judgements: a piece of text, and the plain function that it comes to -/
section
variable (X : Cx) (w : WX)
def JE (e : Expr) (p : PEx) : Prop := ∃ t, PE X e t ∧ Sim (repW X.K) X.K X.mg w t p
def JL (e : Expr) (p : PAx) : Prop := ∃ t, PE X e t ∧ Sim (repL X.K) X.K X.mg w t p
def JT (e : Expr) (p : PTx) : Prop := ∃ t, PT X e t ∧ Sim repB X.K X.mg w t p
def JW (e : Expr) (p : PTx) : Prop := ∃ t, PW X e t ∧ Sim repB X.K X.mg w t p
def JA (es : List Expr) (p : PAx) : Prop := ∃ t, PA X es t ∧ Sim (repA X.K) X.K X.mg w t p
def JO (e : Option Expr) (p : Sl → Ms → R (Option Int)) : Prop := ∃ t, PO X e t ∧ Sim repO X.K X.mg w t p
def JS (st : Stmt) (p : PSx) : Prop := ∃ t, PS X st t ∧ SimS X.K X.mg w t p
def JSs (sts : List Stmt) (p : PSx) : Prop := ∃ t, PSs X sts t ∧ SimS X.K X.mg w t p
end

/-! ### names, constants -/
def pVar (i : Nat) : PEx := fun s M => match s[i]? with
  | some (some x) => .ok x M
  | _ => .stuck
def pC (d : PyData) : PEx := fun _ M => .ok (.d d) M
def pK (v : V) : PEx := fun _ M => .ok (.k v) M
section
variable {X : Cx} {w : WX}
theorem je_var (i : Nat) {x : Str} {pos : Pos} (hN : X.N[i]? = some x := by rfl) (hv : Vis X.env.scope x := by first | exact Or.inl rfl | exact Or.inr (Or.inl rfl) | exact Or.inr (Or.inr rfl)) (hd : (x == ("__debug__" : Str)) = false := by decide)
    (hcd : (x == ("__classdict__" : Str)) = false := by decide) : JE X w (.Name x pos) (pVar i) := by
  refine ⟨_, pe_var hN hv hd hcd, fun H0 Hb0 as Hb H M σ s r S Q g => ?_⟩
  unfold pVar at g
  cases h : s[i]? with
  | none => rw [h] at g; exact g.elim
  | some o =>
    cases o with
    | none => rw [h] at g; exact g.elim
    | some x =>
      rw [h] at g
      obtain ⟨v, h1, h2⟩ := S.get h
      exact ⟨v, h1, g.ok r h2⟩
theorem dz_int (K : PySem.W.Frag) (H : Hp) (i : Int) : Dz K H (.int i) (.int i) := ⟨.int i, trivial⟩
theorem dz_bl (K : PySem.W.Frag) (H : Hp) (i : Bool) : Dz K H (.bl i) (.bool i) := ⟨.bl i, trivial⟩
theorem dz_non (K : PySem.W.Frag) (H : Hp) : Dz K H .non .none := ⟨.non, trivial⟩
theorem dz_str (K : PySem.W.Frag) (H : Hp) {x : Str} (h : x.length ≤ sizeLine) : Dz K H (.str x) (.str x) := ⟨.str x, h⟩
theorem je_int {i : Int} {j : Nat} {pos : Pos} : JE X w (.Constant (.int i) j pos) (pC (.int i)) := ⟨_, pe_int, fun H0 Hb0 as Hb H M σ s r S Q g => g.ok r (dz_int X.K Hb i)⟩
theorem je_bl {i : Bool} {j : Nat} {pos : Pos} : JE X w (.Constant (.bool i) j pos) (pC (.bool i)) := ⟨_, pe_bl, fun H0 Hb0 as Hb H M σ s r S Q g => g.ok r (dz_bl X.K Hb i)⟩
theorem je_non {j : Nat} {pos : Pos} : JE X w (.Constant .none j pos) (pC .none) := ⟨_, pe_non, fun H0 Hb0 as Hb H M σ s r S Q g => g.ok r (dz_non X.K Hb)⟩
theorem je_str {x : Str} {j : Nat} {pos : Pos} (h : x.length ≤ sizeLine := by decide) : JE X w (.Constant (.str x) j pos) (pC (.str x)) := ⟨_, pe_str, fun H0 Hb0 as Hb H M σ s r S Q g => g.ok r (dz_str X.K Hb h)⟩
/-- a module's name that holds an int, a text -/
theorem je_gint {x : Str} {i : Int} {t : Tok} {pos : Pos} (hm : X.mg x = some (.int i t)) (hg : Gl X x := by rfl) (hd : (x == ("__debug__" : Str)) = false := by decide) : JE X w (.Name x pos) (pC (.int i)) := ⟨_, pe_glob (v := .int i) hg hm ⟨t, rfl⟩ hd, fun H0 Hb0 as Hb H M σ s r S Q g => g.ok r (dz_int X.K Hb i)⟩
theorem je_gstr {x y : Str} {t : Tok} {pos : Pos} (hm : X.mg x = some (.str y t)) (h : y.length ≤ sizeLine := by decide) (hg : Gl X x := by rfl) (hd : (x == ("__debug__" : Str)) = false := by decide) : JE X w (.Name x pos) (pC (.str y)) := ⟨_, pe_glob (v := .str y) hg hm ⟨t, rfl⟩ hd, fun H0 Hb0 as Hb H M σ s r S Q g => g.ok r (dz_str X.K Hb h)⟩
/-- a module's class, a built-in class, as a value -/
theorem je_gref {x : Str} {a : Addr} {pos : Pos} (hm : X.mg x = some (.ref a)) (hg : Gl X x := by rfl) (hd : (x == ("__debug__" : Str)) = false := by decide) : JE X w (.Name x pos) (pK (.ref a)) := ⟨_, pe_glob (v := .ref a) hg hm rfl hd, fun H0 Hb0 as Hb H M σ s r S Q g => g.ok r (show WR X.K as Hb (.ref a) (.k (.ref a)) from rfl)⟩
theorem je_bty {x : Str} {n : String} {pos : Pos} (hm : X.mg x = none) (hv : bootBuiltins x = some (.type n) := by decide +kernel) (hg : Gl X x := by rfl) (hn : x ≠ "__name__" := by decide) (hd : (x == ("__debug__" : Str)) = false := by decide) : JE X w (.Name x pos) (pK (.ty n)) := ⟨_, pe_bltn (v := .ty n) hg hm hv rfl hn hd, fun H0 Hb0 as Hb H M σ s r S Q g => g.ok r (show WR X.K as Hb (.ty n) (.k (.ty n)) from rfl)⟩

/-! ### argument lists, displays -/
def pNil : PAx := fun _ M => .ok [] M
def pCons (a : PEx) (r : PAx) : PAx := fun s M => (a s M).bind fun x M1 => (r s M1).bind fun xs M2 => .ok (x :: xs) M2
theorem ja_nil : JA X w [] pNil := ⟨_, pa_nil, fun H0 Hb0 as Hb H M σ s r S Q g => g.ok r .nil⟩
theorem ja_cons {e : Expr} {es : List Expr} {a : PEx} {p : PAx} (ha : JE X w e a) (hr : JA X w es p) (hs : starEach (e :: es) X.env = (false, eval e X.env) :: starEach es X.env := by rfl) : JA X w (e :: es) (pCons a p) := by
  obtain ⟨ta, pa, sa⟩ := ha
  obtain ⟨tr, pr, sr⟩ := hr
  refine ⟨_, pa_cons pa pr hs, fun H0 Hb0 as Hb H M σ s r S Q g => ?_⟩
  refine Good.bind sa r S g fun x a' as1 Hb1 H1 M1 r1 f1 S1 w1 g1 => ?_
  refine Good.bind sr r1 S1 g1 fun xs a2 as2 Hb2 H2 M2 r2 f2 S2 w2 g2 => ?_
  exact g2.ok r2 (.cons (WR.mono f2 w1) w2)
def allD : List W → Option (List PyData)
  | [] => some []
  | .d x :: ws => (allD ws).map (x :: ·)
  | _ :: _ => none
theorem allD_ok {K : PySem.W.Frag} {as : List Addr} {Hb : Hp} : ∀ {ws : List W} {vs : List V} {ds : List PyData}, WRs K as Hb vs ws → allD ws = some ds → DzAll K Hb vs ds
  | [], _, _, h, e => by cases h; simp [allD] at e; subst e; exact .nil
  | .d x :: ws, _, ds, h, e => by
    cases h with
    | cons h1 h2 =>
      simp only [allD, Option.map_eq_some_iff] at e
      obtain ⟨r, e1, rfl⟩ := e
      exact .cons h1 (allD_ok h2 e1)
  | .r i :: ws, _, _, h, e => by simp [allD] at e
  | .k v :: ws, _, _, h, e => by simp [allD] at e
theorem allD_map : ∀ ds : List PyData, allD (ds.map W.d) = some ds
  | [] => rfl
  | d :: ds => by simp [allD, allD_map ds]
def pTup (a : PAx) : PEx := fun s M => (a s M).bind fun ws M1 => match allD ws with
  | some ds => if ds.length ≤ sizeLine then .ok (.d (.tuple ds)) M1 else .stuck
  | none => .stuck
theorem dz_tup {K : PySem.W.Frag} {H : Hp} {p : Addr} {vs : List V} {ds : List PyData} (h : SqT K H p vs) (d : DzAll K H vs ds) (z : ds.length ≤ sizeLine) : Dz K H (.ref p) (.tuple ds) := ⟨.tup h (of_dzAll d).1, z, (of_dzAll d).2⟩
theorem dz_lst {K : PySem.W.Frag} {H : Hp} {p : Addr} {vs : List V} {ds : List PyData} (h : H p = some (.lst vs)) (d : DzAll K H vs ds) (z : ds.length ≤ sizeLine) : Dz K H (.ref p) (.list ds) := ⟨.lst h (of_dzAll d).1, z, (of_dzAll d).2⟩
theorem dzAll_mono {K : PySem.W.Frag} {H H' : Hp} {vs : List V} {ds : List PyData} (e : Same H H') (h : DzAll K H vs ds) : DzAll K H' vs ds := Paired.imp (fun _ _ z => z.mono e) h
theorem je_tup {es : List Expr} {x1 : Nat} {p : PAx} {pos : Pos} (h : JA X w es p) : JE X w (.Tuple es x1 pos) (pTup p) := by
  obtain ⟨ta, pa, sa⟩ := h
  refine ⟨_, pe_tup pa, fun H0 Hb0 as Hb H M σ s r S Q g => ?_⟩
  refine Good.bind sa r S g fun vs ws as1 Hb1 H1 M1 r1 f1 S1 w1 g1 => ?_
  cases hd : allD ws with
  | none => rw [hd] at g1; exact g1.elim
  | some ds =>
    rw [hd] at g1
    have dz := allD_ok w1 hd
    have hl : vs.length = ds.length := Paired.len dz
    by_cases z : ds.length ≤ sizeLine
    · simp only [z, if_true] at g1
      refine ⟨by rw [hl]; exact z, fun q hq => ?_⟩
      have hbq := r1.hbn hq
      exact Good.ok (Good.mono (fut_new hbq) g1) (r1.newData hq) (dz_tup (SqT.of upd_same) (dzAll_mono (same_new hbq) dz) z)
    · simp only [z, if_false] at g1
      exact g1.elim
/-- [a, b, ..] as a thing made just now -/
def pLst (a : PAx) : PAx := fun s M => (a s M).bind fun ws M1 => if ws.length ≤ sizeLine then .ok ws M1 else .stuck
theorem jl_lst {es : List Expr} {p : PAx} {pos : Pos} (h : JA X w es p) : JL X w (.List es pos) (pLst p) := by
  obtain ⟨ta, pa, sa⟩ := h
  refine ⟨_, pe_lst pa, fun H0 Hb0 as Hb H M σ s r S Q g => ?_⟩
  refine Good.bind sa r S g fun vs ws as1 Hb1 H1 M1 r1 f1 S1 w1 g1 => ?_
  have hl : vs.length = ws.length := Paired.len w1
  by_cases z : ws.length ≤ sizeLine
  · simp only [z, if_true] at g1
    refine ⟨by rw [hl]; exact z, fun q hq => ?_⟩
    exact Good.ok g1 (r1.newAny hq) ⟨q, vs, rfl, upd_same, z, w1, fun hm => r1.al q hm hq, r1.hbn hq, r1.h0n hq⟩
  · simp only [z, if_false] at g1
    exact g1.elim
/-- .. as data, as a thing that will change -/
def pDat (p : PAx) : PEx := fun s M => (p s M).bind fun ws M1 => match allD ws with
  | some ds => .ok (.d (.list ds)) M1
  | none => .stuck
def pMut (p : PAx) : PEx := fun s M => (p s M).bind fun ws M1 => .ok (.r M1.length) (M1 ++ [.lst ws])
theorem Rel.freshData {K : PySem.W.Frag} {H0 Hb0 : Hp} {as : List Addr} {Hb H : Hp} {M : Ms} (r : Rel K H0 Hb0 as Hb H M) {p : Addr} {o : HO} (hH : H p = some o) (hbn : Hb p = none) (h0n : H0 p = none) (hp : p ∉ as) : Rel K H0 Hb0 as (upd Hb p o) H M where
  sub := fun b u e => by
    by_cases h : b = p
    · subst h; rw [upd_same] at e; cases e; exact hH
    · rw [upd_ne h] at e; exact r.sub b u e
  top := r.top
  len := r.len
  nd := r.nd
  al := r.al
  off := fun i a u h1 h2 h3 => by
    have ne : a ≠ p := fun z => hp (z ▸ List.mem_of_getElem? h1)
    rw [upd_ne ne]
    exact r.off i a u h1 h2 h3
  off0 := r.off0
  b0 := r.b0.trans (same_new hbn)
  at' := fun i a u h1 h2 => (r.at' i a u h1 h2).fut (fut_new hbn) rfl
  hb0 := fun a h1 h2 => by
    by_cases h : a = p
    · subst h; exact h0n
    · rw [upd_ne h] at h1; exact r.hb0 a h1 h2
theorem je_dat {e : Expr} {p : PAx} (h : JL X w e p) : JE X w e (pDat p) := by
  obtain ⟨t, pe, se⟩ := h
  refine ⟨t, pe, fun H0 Hb0 as Hb H M σ s r S Q g => ?_⟩
  refine Good.bind se r S g fun v ws as1 Hb1 H1 M1 r1 f1 S1 w1 g1 => ?_
  obtain ⟨q, vs, rfl, hq, z, wr, nq, hbn, h0n⟩ := w1
  cases hd : allD ws with
  | none => rw [hd] at g1; exact g1.elim
  | some ds =>
    rw [hd] at g1
    have dz := allD_ok wr hd
    have hl : ws.length = ds.length := (Paired.len wr).symm.trans (Paired.len dz)
    exact Good.ok (Good.mono (fut_new hbn) g1) (r1.freshData hq hbn h0n nq) (dz_lst upd_same (dzAll_mono (same_new hbn) dz) (hl ▸ z))
theorem je_mut {e : Expr} {p : PAx} (h : JL X w e p) : JE X w e (pMut p) := by
  obtain ⟨t, pe, se⟩ := h
  refine ⟨t, pe, fun H0 Hb0 as Hb H M σ s r S Q g => ?_⟩
  refine Good.bind se r S g fun v ws as1 Hb1 H1 M1 r1 f1 S1 w1 g1 => ?_
  obtain ⟨q, vs, rfl, hq, z, wr, nq, hbn, h0n⟩ := w1
  have fu : Fut as1 Hb1 (as1 ++ [q]) Hb1 := ⟨Same.refl _, [q], rfl⟩
  refine Good.ok (Good.mono fu g1) (r1.newMut (by rw [hq]; simp) hbn h0n nq ⟨z, vs, hq, WRs.mono fu wr⟩) ⟨q, ?_, rfl⟩
  rw [← r1.len]
  simp
end
end Z

set_option linter.all false
set_option autoImplicit false
set_option maxRecDepth 100000
set_option maxHeartbeats 4000000
namespace Z
open PySem PySem.Spec PyProof.Rows L2

/-! ### a value read as data, a list's items -/
def view (M : Ms) : W → Option PyData
  | .d x => some x
  | .r i => match M[i]? with
    | some (.lst ws) => (allD ws).map .list
    | _ => none
  | .k _ => none
/-- the items of a list, of a tuple -/
def itemsL (M : Ms) : W → Option (List W)
  | .d (.list xs) => some (xs.map .d)
  | .r i => match M[i]? with
    | some (.lst ws) => some ws
    | _ => none
  | _ => none
def itemsT : W → Option (List W)
  | .d (.tuple xs) => some (xs.map .d)
  | _ => none
section
variable {K : PySem.W.Frag} {H0 Hb0 Hb H : Hp} {as : List Addr} {M : Ms} {v : V} {x : W}
theorem wrs_of {vs : List V} {ds : List PyData} (h : DzAll K Hb vs ds) : WRs K as Hb vs (ds.map .d) := by
  induction h with
  | nil => exact .nil
  | cons h1 h2 ih => exact .cons h1 ih
theorem view_ok (r : Rel K H0 Hb0 as Hb H M) (h : WR K as Hb v x) {d : PyData} (e : view M x = some d) : Dz K H v d := by
  cases x with
  | d y =>
    simp only [view, Option.some.injEq] at e
    subst e
    exact Dz.mono r.sub h
  | r i =>
    obtain ⟨a, h1, rfl⟩ := h
    simp only [view] at e
    cases hm : M[i]? with
    | none => rw [hm] at e; simp at e
    | some o =>
      rw [hm] at e
      cases o with
      | lst ws =>
        simp only [Option.map_eq_some_iff] at e
        obtain ⟨ds, e1, rfl⟩ := e
        obtain ⟨z, vs, h2, h3⟩ := r.at' i a _ h1 hm
        have dz := allD_ok h3 e1
        have hl : ws.length = ds.length := (Paired.len h3).symm.trans (Paired.len dz)
        exact dz_lst h2 (dzAll_mono r.sub dz) (hl ▸ z)
      | ins _ _ => simp at e
      | dic _ => simp at e
      | gone => simp at e
  | k u => simp [view] at e
theorem itemsL_ok (r : Rel K H0 Hb0 as Hb H M) (h : WR K as Hb v x) {ws : List W} (e : itemsL M x = some ws) : ∃ a vs, v = .ref a ∧ H a = some (.lst vs) ∧ WRs K as Hb vs ws ∧ ws.length ≤ sizeLine := by
  cases x with
  | d y =>
    cases y with
    | list xs =>
      simp only [itemsL, Option.some.injEq] at e
      subst e
      obtain ⟨h1, h2⟩ := h
      cases h1 with
      | lst hs ha => exact ⟨_, _, rfl, r.sub _ _ hs, wrs_of (dzAll_of ha h2.2), by rw [List.length_map]; exact h2.1⟩
    | _ => simp [itemsL] at e
  | r i =>
    obtain ⟨a, h1, rfl⟩ := h
    simp only [itemsL] at e
    cases hm : M[i]? with
    | none => rw [hm] at e; simp at e
    | some o =>
      rw [hm] at e
      cases o with
      | lst ws' =>
        simp only [Option.some.injEq] at e
        subst e
        obtain ⟨z, vs, h2, h3⟩ := r.at' i a _ h1 hm
        exact ⟨a, vs, rfl, h2, h3, z⟩
      | ins _ _ => simp at e
      | dic _ => simp at e
      | gone => simp at e
  | k u => simp [itemsL] at e
theorem itemsT_ok (r : Rel K H0 Hb0 as Hb H M) (h : WR K as Hb v x) {ws : List W} (e : itemsT x = some ws) : ∃ a vs, v = .ref a ∧ SqT K H a vs ∧ WRs K as Hb vs ws ∧ ws.length ≤ sizeLine := by
  cases x with
  | d y =>
    cases y with
    | tuple xs =>
      simp only [itemsT, Option.some.injEq] at e
      subst e
      obtain ⟨h1, h2⟩ := h
      cases h1 with
      | tup hs ha => exact ⟨_, _, rfl, same_t r.sub hs, wrs_of (dzAll_of ha h2.2), by rw [List.length_map]; exact h2.1⟩
    | _ => simp [itemsT] at e
  | r i => simp [itemsT] at e
  | k u => simp [itemsT] at e
theorem wr_int (i : Int) : WR K as Hb (.int i) (.d (.int i)) := dz_int K Hb i
theorem wr_bl (i : Bool) : WR K as Hb (.bl i) (.d (.bool i)) := dz_bl K Hb i
theorem wr_non : WR K as Hb .non (.d .none) := dz_non K Hb
theorem wr_str {s : Str} (h : s.length ≤ sizeLine) : WR K as Hb (.str s) (.d (.str s)) := dz_str K Hb h
theorem wr_int_of {v : V} {i : Int} (h : WR K as Hb v (.d (.int i))) : v = .int i := by cases h.1; rfl
theorem wr_bl_of {v : V} {i : Bool} (h : WR K as Hb v (.d (.bool i))) : v = .bl i := by cases h.1; rfl
theorem wr_non_of {v : V} (h : WR K as Hb v (.d .none)) : v = .non := by cases h.1; rfl
theorem wr_str_of {v : V} {s : Str} (h : WR K as Hb v (.d (.str s))) : v = .str s ∧ s.length ≤ sizeLine := by
  obtain ⟨h1, h2⟩ := h
  cases h1
  exact ⟨rfl, h2⟩
end

/-! ### two-place operations -/
def Sim2 (K : PySem.W.Frag) (mg : Str → Option Value) (r : R2) (g : W → W → Ms → R W) : Prop :=
  ∀ (w : WX) (H0 Hb0 : Hp) (as : List Addr) (Hb H : Hp) (M : Ms) (σ : L2.St) (x y : W) (xv yv : V), Rel K H0 Hb0 as Hb H M → WR K as Hb xv x → WR K as Hb yv y → ∀ Q : VK, Good (repW K) K mg w H0 Hb0 as Hb σ Q (g x y M) → r xv yv H Q
def pOp (g : W → W → Ms → R W) (a b : PEx) : PEx := fun s M => (a s M).bind fun x M1 => (b s M1).bind fun y M2 => g x y M2
/-- the first that is not stuck -/
def R.or {α : Type} (a b : R α) : R α := match a with
  | .stuck => b
  | r => r
theorem Sim2.or {K : PySem.W.Frag} {mg : Str → Option Value} {r r' : R2} {g g' : W → W → Ms → R W} (h : Sim2 K mg r g) (h' : Sim2 K mg r' g') : Sim2 K mg (fun x y H Q => r x y H Q ∨ r' x y H Q) (fun x y M => (g x y M).or (g' x y M)) := by
  intro w H0 Hb0 as Hb H M σ x y xv yv R1 wx wy Q gd
  cases e : g x y M with
  | ok a m => refine .inl (h w H0 Hb0 as Hb H M σ x y xv yv R1 wx wy Q ?_); rw [e]; simp only [e, R.or] at gd; exact gd
  | exc a m => refine .inl (h w H0 Hb0 as Hb H M σ x y xv yv R1 wx wy Q ?_); rw [e]; simp only [e, R.or] at gd; exact gd
  | stuck => refine .inr (h' w H0 Hb0 as Hb H M σ x y xv yv R1 wx wy Q ?_); simp only [e, R.or] at gd; exact gd
section
variable {X : Cx} {w : WX} {a b c : Expr} {pa pb pc : PEx} {pos : Pos} {g g' : W → W → Ms → R W} {r r' : R2}
theorem sim_op {K : PySem.W.Frag} {mg : Str → Option Value} {ta tb : TE} (sa : Sim (repW K) K mg w ta pa) (sb : Sim (repW K) K mg w tb pb) (hg : Sim2 K mg r g) : Sim (repW K) K mg w (tOp r ta tb) (pOp g pa pb) := by
  intro H0 Hb0 as Hb H M σ s r0 S Q gd
  refine Good.bind sa r0 S gd fun x x' as1 Hb1 H1 M1 r1 f1 S1 w1 g1 => ?_
  refine Good.bind sb r1 S1 g1 fun y y' as2 Hb2 H2 M2 r2 f2 S2 w2 g2 => ?_
  exact hg w H0 Hb0 as2 Hb2 H2 M2 σ x' y' x y r2 (WR.mono f2 w1) w2 Q g2
theorem je_op {op : Operator} (ho : OpR X (binaryOp op) r) (hg : Sim2 X.K X.mg r g) (ha : JE X w a pa) (hb : JE X w b pb) : JE X w (.BinOp a op b pos) (pOp g pa pb) := by
  obtain ⟨ta, ea, sa⟩ := ha
  obtain ⟨tb, eb, sb⟩ := hb
  exact ⟨_, pe_op ho ea eb, sim_op sa sb hg⟩
theorem je_cmp {op : CmpOp} (ho : OpR X (compareOp op) r) (hg : Sim2 X.K X.mg r g) (ha : JE X w a pa) (hb : JE X w b pb) (hm : behindInMarks op b = false := by first | exact nomark _ | rfl) : JE X w (.Compare a [op] [b] pos) (pOp g pa pb) := by
  obtain ⟨ta, ea, sa⟩ := ha
  obtain ⟨tb, eb, sb⟩ := hb
  exact ⟨_, pe_cmpR ho ea eb hm, sim_op sa sb hg⟩
/-- a bool as a test -/
def pB (p : PEx) : PTx := fun s M => (p s M).bind fun x M1 => match x with
  | .d (.bool b) => .ok b M1
  | _ => .stuck
theorem sim_test {K : PySem.W.Frag} {mg : Str → Option Value} {t : TE} {p : PEx} (sa : Sim (repW K) K mg w t p) : Sim repB K mg w (tTest t) (pB p) := by
  intro H0 Hb0 as Hb H M σ s r0 S Q gd
  refine Good.bind sa r0 S gd fun x x' as1 Hb1 H1 M1 r1 f1 S1 w1 g1 => ?_
  cases x' with
  | d y =>
    cases y with
    | bool k =>
      obtain rfl := wr_bl_of w1
      exact ⟨k, rfl, Good.ok g1 r1 rfl⟩
    | _ => exact (show False from g1).elim
  | r i => exact (show False from g1).elim
  | k u => exact (show False from g1).elim
theorem jt_cmp {op : CmpOp} (ho : OpR X (compareOp op) r) (hg : Sim2 X.K X.mg r g) (ha : JE X w a pa) (hb : JE X w b pb) (hm : behindInMarks op b = false := by first | exact nomark _ | rfl) : JT X w (.Compare a [op] [b] pos) (pB (pOp g pa pb)) := by
  obtain ⟨ta, ea, sa⟩ := ha
  obtain ⟨tb, eb, sb⟩ := hb
  exact ⟨_, pt_cmpR ho ea eb hm, sim_test (sim_op sa sb hg)⟩
/-- a op b op' c -/
def pChain (g g' : W → W → Ms → R W) (a b c : PEx) : PEx := fun s M => (a s M).bind fun x M1 => (b s M1).bind fun y M2 => (g x y M2).bind fun k M3 => match k with
  | .d (.bool true) => (c s M3).bind fun z M4 => g' y z M4
  | .d (.bool false) => .ok (.d (.bool false)) M3
  | _ => .stuck
theorem sim_chain {K : PySem.W.Frag} {mg : Str → Option Value} {ta tb tc : TE} (sa : Sim (repW K) K mg w ta pa) (sb : Sim (repW K) K mg w tb pb) (sc : Sim (repW K) K mg w tc pc) (hg : Sim2 K mg r g) (hg' : Sim2 K mg r' g') : Sim (repW K) K mg w (tChain r r' ta tb tc) (pChain g g' pa pb pc) := by
  intro H0 Hb0 as Hb H M σ s r0 S Q gd
  refine Good.bind sa r0 S gd fun x x' as1 Hb1 H1 M1 r1 f1 S1 w1 g1 => ?_
  refine Good.bind sb r1 S1 g1 fun y y' as2 Hb2 H2 M2 r2 f2 S2 w2 g2 => ?_
  refine hg w H0 Hb0 as2 Hb2 H2 M2 σ x' y' x y r2 (WR.mono f2 w1) w2 _ ?_
  cases e : g x' y' M2 with
  | exc e1 m => rw [e] at g2; exact g2
  | stuck => rw [e] at g2; exact g2
  | ok k m =>
    rw [e] at g2
    intro kv as3 Hb3 H3 r3 f3 w3
    have g3 := Good.mono f3 g2
    cases k with
    | d z =>
      cases z with
      | bool bb =>
        obtain rfl := wr_bl_of w3
        refine ⟨bb, rfl, ?_⟩
        cases bb with
        | true =>
          rw [if_pos rfl]
          refine Good.bind sc r3 (S2.mono f3) g3 fun z z' as4 Hb4 H4 M4 r4 f4 S4 w4 g4 => ?_
          exact hg' w H0 Hb0 as4 Hb4 H4 M4 σ y' z' y z r4 (WR.mono (f3.trans f4) w2) w4 Q g4
        | false =>
          rw [if_neg Bool.false_ne_true]
          exact Good.ok g3 r3 (wr_bl false)
      | _ => exact (show False from g3).elim
    | r i => exact (show False from g3).elim
    | k u => exact (show False from g3).elim
theorem je_chain {op op' : CmpOp} (ho : OpR X (compareOp op) r) (hg : Sim2 X.K X.mg r g) (ho' : OpR X (compareOp op') r') (hg' : Sim2 X.K X.mg r' g') (ha : JE X w a pa) (hb : JE X w b pb) (hc : JE X w c pc)
    (hm : lastMarks [op, op'] [b, c] = false := by with_unfolding_all rfl) : JE X w (.Compare a [op, op'] [b, c] pos) (pChain g g' pa pb pc) := by
  obtain ⟨ta, ea, sa⟩ := ha
  obtain ⟨tb, eb, sb⟩ := hb
  obtain ⟨tc, ec, sc⟩ := hc
  exact ⟨_, pe_chain ho ho' ea eb ec hm, sim_chain sa sb sc hg hg'⟩
theorem jt_chain {op op' : CmpOp} (ho : OpR X (compareOp op) r) (hg : Sim2 X.K X.mg r g) (ho' : OpR X (compareOp op') r') (hg' : Sim2 X.K X.mg r' g') (ha : JE X w a pa) (hb : JE X w b pb) (hc : JE X w c pc)
    (hm : lastMarks [op, op'] [b, c] = false := by with_unfolding_all rfl) : JT X w (.Compare a [op, op'] [b, c] pos) (pB (pChain g g' pa pb pc)) := by
  obtain ⟨ta, ea, sa⟩ := ha
  obtain ⟨tb, eb, sb⟩ := hb
  obtain ⟨tc, ec, sc⟩ := hc
  exact ⟨_, pt_chain ho ho' ea eb ec hm, sim_test (sim_chain sa sb sc hg hg')⟩
end

/-! ### the operations -/
def gInt (f : Int → Int → Option PyData) : W → W → Ms → R W := fun x y M => match x, y with
  | .d (.int i), .d (.int j) => (match f i j with
    | some d => .ok (.d d) M
    | none => .stuck)
  | _, _ => .stuck
section
variable {K : PySem.W.Frag} {mg : Str → Option Value}
theorem sim_gInt {r : R2} {f : Int → Int → Option PyData} (h : ∀ i j d, f i j = some d → ∀ (H : Hp) (Q : VK), (∀ v, Dt K (fun _ => none) v d → Q v H) → r (.int i) (.int j) H Q) (hs : ∀ i j d, f i j = some d → fits d) : Sim2 K mg r (gInt f) := by
  intro w H0 Hb0 as Hb H M σ x y xv yv R1 wx wy Q gd
  cases x with
  | d x =>
    cases x with
    | int i =>
      cases y with
      | d y =>
        cases y with
        | int j =>
          obtain rfl := wr_int_of wx
          obtain rfl := wr_int_of wy
          cases e : f i j with
          | none => simp only [gInt, e] at gd; exact gd.elim
          | some d =>
            simp only [gInt, e] at gd
            exact h i j d e H Q fun v hv => Good.ok gd R1 ⟨Dt.mono (fun _ _ z => by cases z) d v hv, hs i j d e⟩
        | _ => exact gd.elim
      | r i => exact gd.elim
      | k u => exact gd.elim
    | _ => exact gd.elim
  | r i => exact gd.elim
  | k u => exact gd.elim
def gAddI := gInt fun i j => some (.int (i + j))
def gSubI := gInt fun i j => some (.int (i - j))
def gMulI := gInt fun i j => if (-(2 ^ 64) < i ∧ i < 2 ^ 64) ∨ (-(2 ^ 64) < j ∧ j < 2 ^ 64) then some (.int (i * j)) else none
def gDivI := gInt fun i j => if j ≠ 0 ∧ j.natAbs < 1073741824 then some (.int (i.fdiv j)) else none
def gModI := gInt fun i j => if j ≠ 0 then some (.int (i.fmod j)) else none
def gPowI := gInt fun i j => if 0 ≤ j ∧ j ≤ 1000000 ∧ i.natAbs < 2 ^ 64 then some (.int (i ^ j.toNat)) else none
def gLtI := gInt fun i j => some (.bool (decide (i < j)))
def gLeI := gInt fun i j => some (.bool (decide (i ≤ j)))
def gGtI := gInt fun i j => some (.bool (decide (j < i)))
def gGeI := gInt fun i j => some (.bool (decide (j ≤ i)))
theorem s_addI : Sim2 K mg (rI0 fun i j => .int (i + j)) gAddI := sim_gInt (fun i j d e H Q q => ⟨i, j, rfl, rfl, by cases e; exact q _ (.int _)⟩) fun _ _ _ e => by cases e; trivial
theorem s_subI : Sim2 K mg (rI0 fun i j => .int (i - j)) gSubI := sim_gInt (fun i j d e H Q q => ⟨i, j, rfl, rfl, by cases e; exact q _ (.int _)⟩) fun _ _ _ e => by cases e; trivial
theorem s_mulI : Sim2 K mg (rI CMul fun i j => .int (i * j)) gMulI := sim_gInt (fun i j d e H Q q => by
    split at e
    · rename_i hc; cases e; exact ⟨i, j, rfl, rfl, hc, q _ (.int _)⟩
    · cases e) fun _ _ _ e => by
    split at e
    · cases e; trivial
    · cases e
theorem s_divI : Sim2 K mg (rI CDivN fun i j => .int (i.fdiv j)) gDivI := sim_gInt (fun i j d e H Q q => by
    split at e
    · rename_i hc; cases e; exact ⟨i, j, rfl, rfl, hc, q _ (.int _)⟩
    · cases e) fun _ _ _ e => by
    split at e
    · cases e; trivial
    · cases e
theorem s_modI : Sim2 K mg (rI (fun _ j => j ≠ 0) fun i j => .int (i.fmod j)) gModI := sim_gInt (fun i j d e H Q q => by
    split at e
    · rename_i hc; cases e; exact ⟨i, j, rfl, rfl, hc, q _ (.int _)⟩
    · cases e) fun _ _ _ e => by
    split at e
    · cases e; trivial
    · cases e
theorem s_powI : Sim2 K mg (rI CPow fun i j => .int (i ^ j.toNat)) gPowI := sim_gInt (fun i j d e H Q q => by
    split at e
    · rename_i hc; cases e; exact ⟨i, j, rfl, rfl, hc, q _ (.int _)⟩
    · cases e) fun _ _ _ e => by
    split at e
    · cases e; trivial
    · cases e
theorem s_ltI : Sim2 K mg (rI0 fun i j => .bl (decide (i < j))) gLtI := sim_gInt (fun i j d e H Q q => ⟨i, j, rfl, rfl, by cases e; exact q _ (.bl _)⟩) fun _ _ _ e => by cases e; trivial
theorem s_leI : Sim2 K mg (rI0 fun i j => .bl (decide (i ≤ j))) gLeI := sim_gInt (fun i j d e H Q q => ⟨i, j, rfl, rfl, by cases e; exact q _ (.bl _)⟩) fun _ _ _ e => by cases e; trivial
theorem s_gtI : Sim2 K mg (rI0 fun i j => .bl (decide (j < i))) gGtI := sim_gInt (fun i j d e H Q q => ⟨i, j, rfl, rfl, by cases e; exact q _ (.bl _)⟩) fun _ _ _ e => by cases e; trivial
theorem s_geI : Sim2 K mg (rI0 fun i j => .bl (decide (j ≤ i))) gGeI := sim_gInt (fun i j d e H Q q => ⟨i, j, rfl, rfl, by cases e; exact q _ (.bl _)⟩) fun _ _ _ e => by cases e; trivial
/-- == and != of data -/
def gEqD : W → W → Ms → R W := fun x y M => match view M x, view M y with
  | some d, some e => if SeqAt.shaped d = true ∧ SeqAt.shaped e = true then .ok (.d (.bool (PyData.eqv d e))) M else .stuck
  | _, _ => .stuck
def gNeD : W → W → Ms → R W := fun x y M => match view M x, view M y with
  | some d, some e => if SeqAt.shaped d = true ∧ SeqAt.shaped e = true then .ok (.d (.bool (!PyData.eqv d e))) M else .stuck
  | _, _ => .stuck
theorem s_eqD : Sim2 K mg (rEqD K) gEqD := by
  intro w H0 Hb0 as Hb H M σ x y xv yv R1 wx wy Q gd
  unfold gEqD at gd
  cases ex : view M x with
  | none => rw [ex] at gd; exact gd.elim
  | some d =>
    cases ey : view M y with
    | none => rw [ex, ey] at gd; exact gd.elim
    | some e =>
      rw [ex, ey] at gd
      by_cases hc : SeqAt.shaped d = true ∧ SeqAt.shaped e = true
      · simp only [hc, and_self, if_true] at gd
        exact ⟨d, e, Dt.dp d _ (view_ok R1 wx ex).1, Dt.dp e _ (view_ok R1 wy ey).1, hc.1, hc.2, Good.ok gd R1 (wr_bl _)⟩
      · simp only [hc, if_false] at gd
        exact gd.elim
theorem s_neD : Sim2 K mg (rNeD K) gNeD := by
  intro w H0 Hb0 as Hb H M σ x y xv yv R1 wx wy Q gd
  unfold gNeD at gd
  cases ex : view M x with
  | none => rw [ex] at gd; exact gd.elim
  | some d =>
    cases ey : view M y with
    | none => rw [ex, ey] at gd; exact gd.elim
    | some e =>
      rw [ex, ey] at gd
      by_cases hc : SeqAt.shaped d = true ∧ SeqAt.shaped e = true
      · simp only [hc, and_self, if_true] at gd
        exact ⟨d, e, Dt.dp d _ (view_ok R1 wx ex).1, Dt.dp e _ (view_ok R1 wy ey).1, hc.1, hc.2, Good.ok gd R1 (wr_bl _)⟩
      · simp only [hc, if_false] at gd
        exact gd.elim
/-- is None, is not None; is True, is not True -/
def isNonD : PyData → Bool
  | .none => true
  | _ => false
def gIsN (neg : Bool) : W → W → Ms → R W := fun x y M => match x, y with
  | .d x, .d .none => .ok (.d (.bool (xor neg (isNonD x)))) M
  | .r _, .d .none => .ok (.d (.bool neg)) M
  | _, _ => .stuck
theorem dt_non {H : Hp} {v : V} {x : PyData} (h : Dt K H v x) : decide (v = .non) = isNonD x := by
  cases h <;> rfl
theorem s_isN : Sim2 K mg (fun x y H Q => y = .non ∧ Q (.bl (decide (x = .non))) H) (gIsN false) := by
  intro w H0 Hb0 as Hb H M σ x y xv yv R1 wx wy Q gd
  cases y with
  | d y =>
    cases y with
    | none =>
      obtain rfl := wr_non_of wy
      cases x with
      | d x =>
        refine ⟨rfl, ?_⟩
        rw [dt_non wx.1]
        have gd' : Good (repW K) K mg w H0 Hb0 as Hb σ Q (.ok (.d (.bool (xor false (isNonD x)))) M) := gd
        rw [Bool.false_xor] at gd'
        exact Good.ok gd' R1 (wr_bl _)
      | r i =>
        obtain ⟨a, _, rfl⟩ := wx
        exact ⟨rfl, Good.ok gd R1 (wr_bl _)⟩
      | k u => exact gd.elim
    | _ => cases x <;> exact gd.elim
  | r i => cases x <;> exact gd.elim
  | k u => cases x <;> exact gd.elim
theorem s_isNn : Sim2 K mg (fun x y H Q => y = .non ∧ Q (.bl (!decide (x = .non))) H) (gIsN true) := by
  intro w H0 Hb0 as Hb H M σ x y xv yv R1 wx wy Q gd
  cases y with
  | d y =>
    cases y with
    | none =>
      obtain rfl := wr_non_of wy
      cases x with
      | d x =>
        refine ⟨rfl, ?_⟩
        rw [dt_non wx.1]
        have gd' : Good (repW K) K mg w H0 Hb0 as Hb σ Q (.ok (.d (.bool (xor true (isNonD x)))) M) := gd
        rw [Bool.true_xor] at gd'
        exact Good.ok gd' R1 (wr_bl _)
      | r i =>
        obtain ⟨a, _, rfl⟩ := wx
        exact ⟨rfl, Good.ok gd R1 (wr_bl _)⟩
      | k u => exact gd.elim
    | _ => cases x <;> exact gd.elim
  | r i => cases x <;> exact gd.elim
  | k u => cases x <;> exact gd.elim
end
end Z

set_option linter.all false
set_option autoImplicit false
set_option maxRecDepth 100000
set_option maxHeartbeats 4000000
namespace Z
open PySem PySem.Spec PyProof.Rows L2

/-! ### texts -/
def gStr (f : Str → Str → Option PyData) : W → W → Ms → R W := fun x y M => match x, y with
  | .d (.str i), .d (.str j) => (match f i j with
    | some d => .ok (.d d) M
    | none => .stuck)
  | _, _ => .stuck
section
variable {K : PySem.W.Frag} {mg : Str → Option Value}
theorem sim_gStr {r : R2} {f : Str → Str → Option PyData} (h : ∀ i j d, f i j = some d → i.length ≤ sizeLine → j.length ≤ sizeLine → ∀ (H : Hp) (Q : VK), (∀ v, Dt K (fun _ => none) v d → Q v H) → r (.str i) (.str j) H Q) (hs : ∀ i j d, f i j = some d → fits d) : Sim2 K mg r (gStr f) := by
  intro w H0 Hb0 as Hb H M σ x y xv yv R1 wx wy Q gd
  cases x with
  | d x =>
    cases x with
    | str i =>
      cases y with
      | d y =>
        cases y with
        | str j =>
          obtain ⟨rfl, l1⟩ := wr_str_of wx
          obtain ⟨rfl, l2⟩ := wr_str_of wy
          cases e : f i j with
          | none => simp only [gStr, e] at gd; exact gd.elim
          | some d =>
            simp only [gStr, e] at gd
            exact h i j d e l1 l2 H Q fun v hv => Good.ok gd R1 ⟨Dt.mono (fun _ _ z => by cases z) d v hv, hs i j d e⟩
        | _ => exact gd.elim
      | r i => exact gd.elim
      | k u => exact gd.elim
    | _ => exact gd.elim
  | r i => exact gd.elim
  | k u => exact gd.elim
def gAddS := gStr fun i j => if i.length + j.length ≤ sizeLine then some (.str (i ++ j)) else none
def gLtS := gStr fun i j => some (.bool (decide (i.cps.toList < j.cps.toList)))
def gLeS := gStr fun i j => some (.bool (!decide (j.cps.toList < i.cps.toList)))
def gGtS := gStr fun i j => some (.bool (decide (j.cps.toList < i.cps.toList)))
def gGeS := gStr fun i j => some (.bool (!decide (i.cps.toList < j.cps.toList)))
def gInS := gStr fun i j => some (.bool (!(Builtin.Str.occurrences j i 0 j.length 1).isEmpty))
def gNinS := gStr fun i j => some (.bool (!(!(Builtin.Str.occurrences j i 0 j.length 1).isEmpty)))
theorem str_len_app (a b : Str) : (a ++ b).length = a.length + b.length := by
  show (a.cps ++ b.cps).size = a.cps.size + b.cps.size
  exact Array.size_append
theorem s_addS : Sim2 K mg (fun x y H Q => ∃ i j, x = .str i ∧ y = .str j ∧ i.length + j.length ≤ sizeLine ∧ Q (.str (i ++ j)) H) gAddS := sim_gStr (fun i j d e l1 l2 H Q q => by
    split at e
    · rename_i hc; cases e; exact ⟨i, j, rfl, rfl, hc, q _ (.str _)⟩
    · cases e) fun i j _ e => by
    split at e
    · rename_i hc; cases e; show (i ++ j).length ≤ sizeLine; rw [str_len_app]; exact hc
    · cases e
theorem s_ltS : Sim2 K mg (fun x y H Q => ∃ i j, x = .str i ∧ y = .str j ∧ Q (.bl (decide (i.cps.toList < j.cps.toList))) H) gLtS := sim_gStr (fun i j d e _ _ H Q q => ⟨i, j, rfl, rfl, by cases e; exact q _ (.bl _)⟩) fun _ _ _ e => by cases e; trivial
theorem s_leS : Sim2 K mg (fun x y H Q => ∃ i j, x = .str i ∧ y = .str j ∧ Q (.bl (!decide (j.cps.toList < i.cps.toList))) H) gLeS := sim_gStr (fun i j d e _ _ H Q q => ⟨i, j, rfl, rfl, by cases e; exact q _ (.bl _)⟩) fun _ _ _ e => by cases e; trivial
theorem s_gtS : Sim2 K mg (fun x y H Q => ∃ i j, x = .str i ∧ y = .str j ∧ Q (.bl (decide (j.cps.toList < i.cps.toList))) H) gGtS := sim_gStr (fun i j d e _ _ H Q q => ⟨i, j, rfl, rfl, by cases e; exact q _ (.bl _)⟩) fun _ _ _ e => by cases e; trivial
theorem s_geS : Sim2 K mg (fun x y H Q => ∃ i j, x = .str i ∧ y = .str j ∧ Q (.bl (!decide (i.cps.toList < j.cps.toList))) H) gGeS := sim_gStr (fun i j d e _ _ H Q q => ⟨i, j, rfl, rfl, by cases e; exact q _ (.bl _)⟩) fun _ _ _ e => by cases e; trivial
theorem s_inS : Sim2 K mg (fun x y H Q => ∃ i j, x = .str i ∧ y = .str j ∧ Q (.bl (!(Builtin.Str.occurrences j i 0 j.length 1).isEmpty)) H) gInS := sim_gStr (fun i j d e _ _ H Q q => ⟨i, j, rfl, rfl, by cases e; exact q _ (.bl _)⟩) fun _ _ _ e => by cases e; trivial
theorem s_ninS : Sim2 K mg (fun x y H Q => ∃ i j, x = .str i ∧ y = .str j ∧ Q (.bl (!(!(Builtin.Str.occurrences j i 0 j.length 1).isEmpty))) H) gNinS := sim_gStr (fun i j d e _ _ H Q q => ⟨i, j, rfl, rfl, by cases e; exact q _ (.bl _)⟩) fun _ _ _ e => by cases e; trivial
/-- is True, is not True -/
def gIsB (neg : Bool) : W → W → Ms → R W := fun x y M => match x, y with
  | .d (.bool a), .d (.bool b) => .ok (.d (.bool (xor neg (decide (a = b))))) M
  | _, _ => .stuck
theorem s_isB : Sim2 K mg rIsB (gIsB false) := by
  intro w H0 Hb0 as Hb H M σ x y xv yv R1 wx wy Q gd
  cases x with
  | d x =>
    cases x with
    | bool a =>
      cases y with
      | d y =>
        cases y with
        | bool b =>
          obtain rfl := wr_bl_of wx
          obtain rfl := wr_bl_of wy
          refine ⟨a, b, rfl, rfl, Good.ok gd R1 ?_⟩
          rw [Bool.false_xor]
          exact wr_bl _
        | _ => exact gd.elim
      | r i => exact gd.elim
      | k u => exact gd.elim
    | _ => exact gd.elim
  | r i => exact gd.elim
  | k u => exact gd.elim
theorem s_isBn : Sim2 K mg rNotB (gIsB true) := by
  intro w H0 Hb0 as Hb H M σ x y xv yv R1 wx wy Q gd
  cases x with
  | d x =>
    cases x with
    | bool a =>
      cases y with
      | d y =>
        cases y with
        | bool b =>
          obtain rfl := wr_bl_of wx
          obtain rfl := wr_bl_of wy
          refine ⟨a, b, rfl, rfl, Good.ok gd R1 ?_⟩
          rw [Bool.true_xor]
          exact wr_bl _
        | _ => exact gd.elim
      | r i => exact gd.elim
      | k u => exact gd.elim
    | _ => exact gd.elim
  | r i => exact gd.elim
  | k u => exact gd.elim

/-! ### lists, tuples put together -/
def catW (M : Ms) (x y : W) : Option (List W) := match itemsL M x, itemsL M y with
  | some a, some b => if a.length + b.length ≤ sizeLine then some (a ++ b) else none
  | _, _ => none
theorem catW_ok {H0 Hb0 Hb H : Hp} {as : List Addr} {M : Ms} {x y : W} {xv yv : V} {ws : List W} (R1 : Rel K H0 Hb0 as Hb H M) (wx : WR K as Hb xv x) (wy : WR K as Hb yv y) (e : catW M x y = some ws) {Q : VK}
    (h : ∀ p vs, H p = none → WRs K as Hb vs ws → ws.length ≤ sizeLine → Q (.ref p) (upd H p (.lst vs))) : rCat xv yv H Q := by
  unfold catW at e
  cases e1 : itemsL M x with
  | none => rw [e1] at e; cases e
  | some a =>
    cases e2 : itemsL M y with
    | none => rw [e1, e2] at e; cases e
    | some b =>
      rw [e1, e2] at e
      obtain ⟨l, vs, rfl, h1, r1, z1⟩ := itemsL_ok R1 wx e1
      obtain ⟨l2, us, rfl, h2, r2, z2⟩ := itemsL_ok R1 wy e2
      by_cases hc : a.length + b.length ≤ sizeLine
      · simp only [hc, if_true, Option.some.injEq] at e
        subst e
        have hl1 : vs.length = a.length := Paired.len r1
        have hl2 : us.length = b.length := Paired.len r2
        exact ⟨l, l2, vs, us, rfl, rfl, h1, h2, by rw [hl1, hl2]; exact hc, fun p hp => h p _ hp (Paired.app r1 r2) (by rw [List.length_append]; exact hc)⟩
      · simp only [hc, if_false] at e
        cases e
def pCat (a b : PEx) : PAx := fun s M => (a s M).bind fun x M1 => (b s M1).bind fun y M2 => match catW M2 x y with
  | some ws => .ok ws M2
  | none => .stuck
def gCatL : W → W → Ms → R W := fun x y M => match catW M x y with
  | some ws => (match allD ws with
    | some ds => .ok (.d (.list ds)) M
    | none => .stuck)
  | none => .stuck
theorem s_catL : Sim2 K mg rCat gCatL := by
  intro w H0 Hb0 as Hb H M σ x y xv yv R1 wx wy Q gd
  unfold gCatL at gd
  cases e : catW M x y with
  | none => rw [e] at gd; exact gd.elim
  | some ws =>
    rw [e] at gd
    refine catW_ok R1 wx wy e fun p vs hp wr z => ?_
    cases hd : allD ws with
    | none => simp only [hd] at gd; exact gd.elim
    | some ds =>
      simp only [hd] at gd
      have hbn := R1.hbn hp
      have dz := allD_ok wr hd
      have hl : ws.length = ds.length := (Paired.len wr).symm.trans (Paired.len dz)
      exact Good.ok (Good.mono (fut_new hbn) gd) (R1.newData hp) (dz_lst upd_same (dzAll_mono (same_new hbn) dz) (hl ▸ z))
def gCatT : W → W → Ms → R W := fun x y M => match x, y with
  | .d (.tuple a), .d (.tuple b) => if a ≠ [] ∧ a.length + b.length ≤ sizeLine then .ok (.d (.tuple (a ++ b))) M else .stuck
  | _, _ => .stuck
theorem s_catT : Sim2 K mg (rCatT K) gCatT := by
  intro w H0 Hb0 as Hb H M σ x y xv yv R1 wx wy Q gd
  cases x with
  | d x =>
    cases x with
    | tuple a =>
      cases y with
      | d y =>
        cases y with
        | tuple b =>
          by_cases hc : a ≠ [] ∧ a.length + b.length ≤ sizeLine
          · have gd' : Good (repW K) K mg w H0 Hb0 as Hb σ Q (.ok (.d (.tuple (a ++ b))) M) := by
              have : gCatT (.d (.tuple a)) (.d (.tuple b)) M = .ok (.d (.tuple (a ++ b))) M := if_pos hc
              rw [← this]; exact gd
            obtain ⟨h1, f1⟩ := wx
            obtain ⟨h2, f2⟩ := wy
            cases h1 with
            | tup s1 d1 =>
              cases h2 with
              | tup s2 d2 =>
                have z1 := dzAll_of d1 f1.2
                have z2 := dzAll_of d2 f2.2
                have l1 := Paired.len z1
                have l2 := Paired.len z2
                refine ⟨_, _, _, _, rfl, rfl, same_t R1.sub s1, same_t R1.sub s2, fun e => hc.1 ?_, by rw [l1, l2]; exact hc.2, fun e => ?_, fun _ p hp => ?_⟩
                · rw [e] at l1; exact List.eq_nil_of_length_eq_zero l1.symm
                · have eb : b = [] := by rw [e] at l2; exact List.eq_nil_of_length_eq_zero l2.symm
                  subst eb
                  rw [List.append_nil] at gd'
                  exact Good.ok gd' R1 ⟨.tup s1 d1, f1⟩
                · have hbn := R1.hbn hp
                  exact Good.ok (Good.mono (fut_new hbn) gd') (R1.newData hp) (dz_tup (SqT.of upd_same) (dzAll_mono (same_new hbn) (Paired.app z1 z2)) (by rw [List.length_append]; exact hc.2))
          · have : gCatT (.d (.tuple a)) (.d (.tuple b)) M = .stuck := if_neg hc
            rw [this] at gd
            exact gd.elim
        | _ => exact gd.elim
      | r i => exact gd.elim
      | k u => exact gd.elim
    | _ => exact gd.elim
  | r i => exact gd.elim
  | k u => exact gd.elim
/-- x in xs, by == of data -/
def gInD (neg : Bool) : W → W → Ms → R W := fun x y M => match view M x, view M y with
  | some d, some (.list ds) => if SeqAt.shaped d = true ∧ SeqAt.shaped (.list ds) = true then .ok (.d (.bool (xor neg (ds.any fun z => PyData.eqv z d)))) M else .stuck
  | _, _ => .stuck
theorem s_inD : Sim2 K mg (rInD K) (gInD false) := by
  intro w H0 Hb0 as Hb H M σ x y xv yv R1 wx wy Q gd
  unfold gInD at gd
  cases ex : view M x with
  | none => rw [ex] at gd; exact gd.elim
  | some d =>
    cases ey : view M y with
    | none => rw [ex, ey] at gd; exact gd.elim
    | some e =>
      rw [ex, ey] at gd
      cases e with
      | list ds =>
        by_cases hc : SeqAt.shaped d = true ∧ SeqAt.shaped (.list ds) = true
        · simp only [hc, and_self, if_true, Bool.false_xor] at gd
          exact ⟨d, ds, Dt.dp d _ (view_ok R1 wx ex).1, Dt.dp _ _ (view_ok R1 wy ey).1, hc.1, hc.2, Good.ok gd R1 (wr_bl _)⟩
        · simp only [hc, if_false] at gd
          exact gd.elim
      | _ => exact gd.elim
theorem s_ninD : Sim2 K mg (rNotInD K) (gInD true) := by
  intro w H0 Hb0 as Hb H M σ x y xv yv R1 wx wy Q gd
  unfold gInD at gd
  cases ex : view M x with
  | none => rw [ex] at gd; exact gd.elim
  | some d =>
    cases ey : view M y with
    | none => rw [ex, ey] at gd; exact gd.elim
    | some e =>
      rw [ex, ey] at gd
      cases e with
      | list ds =>
        by_cases hc : SeqAt.shaped d = true ∧ SeqAt.shaped (.list ds) = true
        · simp only [hc, and_self, if_true, Bool.true_xor] at gd
          exact ⟨d, ds, Dt.dp d _ (view_ok R1 wx ex).1, Dt.dp _ _ (view_ok R1 wy ey).1, hc.1, hc.2, Good.ok gd R1 (wr_bl _)⟩
        · simp only [hc, if_false] at gd
          exact gd.elim
      | _ => exact gd.elim

/-! ### xs[i], t[i], s[i]; xs[a:b] -/
def gIx : W → W → Ms → R W := fun x y M => match y with
  | .d (.int i) => (match itemsL M x with
    | some ws => (match atI ws i with
      | some u => .ok u M
      | none => .stuck)
    | none => (match itemsT x with
      | some ws => (match atI ws i with
        | some u => .ok u M
        | none => .stuck)
      | none => (match x with
        | .d (.str z) => (match atI z.cps.toList i with
          | some c => .ok (.d (.str ⟨#[c]⟩)) M
          | none => .stuck)
        | _ => .stuck)))
  | _ => .stuck
theorem atI_at {as : List Addr} {Hb : Hp} {vs : List V} {ws : List W} {i : Int} {u : W} (h : WRs K as Hb vs ws) (e : atI ws i = some u) : ∃ v, atI vs i = some v ∧ WR K as Hb v u := by
  unfold atI at e ⊢
  rw [Paired.len h]
  cases hx : ixN ws.length i with
  | none => rw [hx] at e; cases e
  | some j =>
    rw [hx] at e
    have e' : ws[j]? = some u := e
    exact Paired.at h e'
theorem one_fits (c : Nat) : (⟨#[c]⟩ : Str).length ≤ sizeLine := by
  show 1 ≤ sizeLine
  decide
theorem s_ix : Sim2 K mg (rIx K) gIx := by
  intro w H0 Hb0 as Hb H M σ x y xv yv R1 wx wy Q gd
  cases y with
  | d y =>
    cases y with
    | int i =>
      obtain rfl := wr_int_of wy
      cases e1 : itemsL M x with
      | some ws =>
        simp only [gIx, e1] at gd
        obtain ⟨a, vs, rfl, h1, r1, z1⟩ := itemsL_ok R1 wx e1
        cases e2 : atI ws i with
        | none => simp only [e2] at gd; exact gd.elim
        | some u =>
          simp only [e2] at gd
          obtain ⟨v, hv, wv⟩ := atI_at r1 e2
          exact .inl ⟨a, vs, i, v, rfl, rfl, SqL.of h1, hv, Good.ok gd R1 wv⟩
      | none =>
        cases e3 : itemsT x with
        | some ws =>
          simp only [gIx, e1, e3] at gd
          obtain ⟨a, vs, rfl, h1, r1, z1⟩ := itemsT_ok R1 wx e3
          cases e2 : atI ws i with
          | none => simp only [e2] at gd; exact gd.elim
          | some u =>
            simp only [e2] at gd
            obtain ⟨v, hv, wv⟩ := atI_at r1 e2
            exact .inr (.inl ⟨a, vs, i, v, rfl, rfl, h1, hv, Good.ok gd R1 wv⟩)
        | none =>
          simp only [gIx, e1, e3] at gd
          cases x with
          | d x =>
            cases x with
            | str z =>
              obtain ⟨rfl, l⟩ := wr_str_of wx
              cases e2 : atI z.cps.toList i with
              | none => simp only [e2] at gd; exact gd.elim
              | some c =>
                simp only [e2] at gd
                exact .inr (.inr ⟨z, i, c, rfl, rfl, l, e2, Good.ok gd R1 (wr_str (one_fits c))⟩)
            | _ => exact gd.elim
          | r i => exact gd.elim
          | k u => exact gd.elim
    | _ => exact gd.elim
  | r i => exact gd.elim
  | k u => exact gd.elim
end
section
variable {X : Cx} {w : WX} {a b : Expr} {pa pb : PEx} {pos : Pos}
theorem je_ix (ha : JE X w a pa) (hb : JE X w b pb) (hs : PlainIx b := by intro _ _; rfl) : JE X w (.Subscript a b pos) (pOp gIx pa pb) := by
  obtain ⟨ta, ea, sa⟩ := ha
  obtain ⟨tb, eb, sb⟩ := hb
  exact ⟨_, pe_ix ix_seq ea eb hs, sim_op sa sb s_ix⟩
/-- a new list xs + ys -/
theorem jl_cat (ha : JE X w a pa) (hb : JE X w b pb) : JL X w (.BinOp a .Add b pos) (pCat pa pb) := by
  obtain ⟨ta, ea, sa⟩ := ha
  obtain ⟨tb, eb, sb⟩ := hb
  refine ⟨_, pe_op op_cat ea eb, fun H0 Hb0 as Hb H M σ s r0 S Q gd => ?_⟩
  refine Good.bind sa r0 S gd fun x x' as1 Hb1 H1 M1 r1 f1 S1 w1 g1 => ?_
  refine Good.bind sb r1 S1 g1 fun y y' as2 Hb2 H2 M2 r2 f2 S2 w2 g2 => ?_
  cases e : catW M2 x' y' with
  | none => rw [e] at g2; exact g2.elim
  | some ws =>
    rw [e] at g2
    exact catW_ok r2 (WR.mono f2 w1) w2 e fun p vs hp wr z => Good.ok g2 (r2.newAny hp) ⟨p, vs, rfl, upd_same, z, wr, fun hm => r2.al p hm hp, r2.hbn hp, r2.h0n hp⟩
/-! slices -/
def pNo : Sl → Ms → R (Option Int) := fun _ M => .ok none M
def pSo (p : PEx) : Sl → Ms → R (Option Int) := fun s M => (p s M).bind fun x M1 => match x with
  | .d (.int i) => .ok (some i) M1
  | _ => .stuck
theorem jo_none : JO X w none pNo := ⟨_, po_none, fun H0 Hb0 as Hb H M σ s r S Q g => g.ok r rfl⟩
theorem jo_some (h : JE X w a pa) : JO X w (some a) (pSo pa) := by
  obtain ⟨ta, ea, sa⟩ := h
  refine ⟨_, po_some ea, fun H0 Hb0 as Hb H M σ s r0 S Q gd => ?_⟩
  refine Good.bind sa r0 S gd fun x x' as1 Hb1 H1 M1 r1 f1 S1 w1 g1 => ?_
  cases x' with
  | d z =>
    cases z with
    | int i =>
      obtain rfl := wr_int_of w1
      exact ⟨i, rfl, Good.ok g1 r1 rfl⟩
    | _ => exact (show False from g1).elim
  | r i => exact (show False from g1).elim
  | k u => exact (show False from g1).elim
def cutW {α : Type} (xs : List α) (lo hi : Option Int) : List α := (xs.drop (HT.sIx xs.length 0 lo)).take (HT.sIx xs.length xs.length hi - HT.sIx xs.length 0 lo)
theorem cut_ok {K : PySem.W.Frag} {as : List Addr} {Hb : Hp} {vs : List V} {ws : List W} (h : WRs K as Hb vs ws) (lo hi : Option Int) : WRs K as Hb (cutV vs lo hi) (cutW ws lo hi) := by
  unfold cutV cutW
  rw [Paired.len h]
  exact Paired.tk _ (Paired.dr _ h)
theorem cutW_len {α : Type} (xs : List α) (lo hi : Option Int) : (cutW xs lo hi).length ≤ xs.length := by
  unfold cutW
  rw [List.length_take, List.length_drop]
  omega
/-- xs[a:b], a new list -/
def pSlL (p : PEx) (l h : Sl → Ms → R (Option Int)) : PAx := fun s M => (p s M).bind fun x M1 => (l s M1).bind fun lo M2 => (h s M2).bind fun hi M3 => match itemsL M3 x with
  | some ws => .ok (cutW ws lo hi) M3
  | none => .stuck
theorem jl_slice {lo hi : Option Expr} {pl ph : Sl → Ms → R (Option Int)} {p2 : Pos} (ha : JE X w a pa) (hl : JO X w lo pl) (hh : JO X w hi ph) : JL X w (.Subscript a (.Slice lo hi none p2) pos) (pSlL pa pl ph) := by
  obtain ⟨ta, ea, sa⟩ := ha
  obtain ⟨tl, el, sl⟩ := hl
  obtain ⟨th, eh, sh⟩ := hh
  refine ⟨_, pe_slice sl_list ea el eh, fun H0 Hb0 as Hb H M σ s r0 S Q gd => ?_⟩
  refine Good.bind sa r0 S gd fun x x' as1 Hb1 H1 M1 r1 f1 S1 w1 g1 => ?_
  refine Good.bind sl r1 S1 g1 fun lo' lo'' as2 Hb2 H2 M2 r2 f2 S2 w2 g2 => ?_
  refine Good.bind sh r2 S2 g2 fun hi' hi'' as3 Hb3 H3 M3 r3 f3 S3 w3 g3 => ?_
  obtain rfl : lo' = lo'' := w2
  obtain rfl : hi' = hi'' := w3
  cases e : itemsL M3 x' with
  | none => rw [e] at g3; exact g3.elim
  | some ws =>
    rw [e] at g3
    obtain ⟨q, vs, rfl, h1, wr, z⟩ := itemsL_ok r3 (WR.mono (f2.trans f3) w1) e
    refine ⟨q, vs, rfl, SqL.of h1, fun p hp => ?_⟩
    exact Good.ok g3 (r3.newAny hp) ⟨p, _, rfl, upd_same, Nat.le_trans (cutW_len ws lo' hi') z, cut_ok wr lo' hi', fun hm => r3.al p hm hp, r3.hbn hp, r3.h0n hp⟩
/-- t[a:b], not the whole -/
def pSlT (p : PEx) (l h : Sl → Ms → R (Option Int)) : PEx := fun s M => (p s M).bind fun x M1 => (l s M1).bind fun lo M2 => (h s M2).bind fun hi M3 => match x with
  | .d (.tuple ds) => if HT.sIx ds.length 0 lo = 0 ∧ HT.sIx ds.length ds.length hi = ds.length then .stuck else .ok (.d (.tuple (cutW ds lo hi))) M3
  | _ => .stuck
theorem cutD_ok {K : PySem.W.Frag} {Hb : Hp} {vs : List V} {ws : List PyData} (h : DzAll K Hb vs ws) (lo hi : Option Int) : DzAll K Hb (cutV vs lo hi) (cutW ws lo hi) := by
  unfold cutV cutW
  rw [Paired.len h]
  exact Paired.tk _ (Paired.dr _ h)
theorem je_sliceT {lo hi : Option Expr} {pl ph : Sl → Ms → R (Option Int)} {p2 : Pos} (ha : JE X w a pa) (hl : JO X w lo pl) (hh : JO X w hi ph) : JE X w (.Subscript a (.Slice lo hi none p2) pos) (pSlT pa pl ph) := by
  obtain ⟨ta, ea, sa⟩ := ha
  obtain ⟨tl, el, sl⟩ := hl
  obtain ⟨th, eh, sh⟩ := hh
  refine ⟨_, pe_slice sl_tup ea el eh, fun H0 Hb0 as Hb H M σ s r0 S Q gd => ?_⟩
  refine Good.bind sa r0 S gd fun x x' as1 Hb1 H1 M1 r1 f1 S1 w1 g1 => ?_
  refine Good.bind sl r1 S1 g1 fun lo' lo'' as2 Hb2 H2 M2 r2 f2 S2 w2 g2 => ?_
  refine Good.bind sh r2 S2 g2 fun hi' hi'' as3 Hb3 H3 M3 r3 f3 S3 w3 g3 => ?_
  obtain rfl : lo' = lo'' := w2
  obtain rfl : hi' = hi'' := w3
  cases x' with
  | d z =>
    cases z with
    | tuple ds =>
      have w1' : WR X.K as3 Hb3 x (.d (.tuple ds)) := WR.mono (f2.trans f3) w1
      obtain ⟨h1, ff⟩ := w1'
      cases h1 with
      | tup hs ha =>
        rename_i q vs
        have dz := dzAll_of ha ff.2
        have hl := Paired.len dz
        by_cases hc : HT.sIx ds.length 0 lo' = 0 ∧ HT.sIx ds.length ds.length hi' = ds.length
        · simp only [hc, and_self, if_true] at g3
          exact g3.elim
        · simp only [hc, if_false] at g3
          refine ⟨q, vs, rfl, same_t r3.sub hs, by rw [hl]; exact hc, fun p hp => ?_⟩
          have hbn := r3.hbn hp
          exact Good.ok (Good.mono (fut_new hbn) g3) (r3.newData hp) (dz_tup (SqT.of upd_same) (dzAll_mono (same_new hbn) (cutD_ok dz lo' hi')) (Nat.le_trans (cutW_len ds lo' hi') ff.1))
    | _ => exact (show False from g3).elim
  | r i => exact (show False from g3).elim
  | k u => exact (show False from g3).elim
/-- s[a:b] -/
def pSlS (p : PEx) (l h : Sl → Ms → R (Option Int)) : PEx := fun s M => (p s M).bind fun x M1 => (l s M1).bind fun lo M2 => (h s M2).bind fun hi M3 => match x with
  | .d (.str z) => if (cutS z lo hi).length ≤ sizeLine then .ok (.d (.str (cutS z lo hi))) M3 else .stuck
  | _ => .stuck
theorem je_sliceS {lo hi : Option Expr} {pl ph : Sl → Ms → R (Option Int)} {p2 : Pos} (ha : JE X w a pa) (hl : JO X w lo pl) (hh : JO X w hi ph) : JE X w (.Subscript a (.Slice lo hi none p2) pos) (pSlS pa pl ph) := by
  obtain ⟨ta, ea, sa⟩ := ha
  obtain ⟨tl, el, sl⟩ := hl
  obtain ⟨th, eh, sh⟩ := hh
  refine ⟨_, pe_slice sl_str ea el eh, fun H0 Hb0 as Hb H M σ s r0 S Q gd => ?_⟩
  refine Good.bind sa r0 S gd fun x x' as1 Hb1 H1 M1 r1 f1 S1 w1 g1 => ?_
  refine Good.bind sl r1 S1 g1 fun lo' lo'' as2 Hb2 H2 M2 r2 f2 S2 w2 g2 => ?_
  refine Good.bind sh r2 S2 g2 fun hi' hi'' as3 Hb3 H3 M3 r3 f3 S3 w3 g3 => ?_
  obtain rfl : lo' = lo'' := w2
  obtain rfl : hi' = hi'' := w3
  cases x' with
  | d z =>
    cases z with
    | str z =>
      obtain ⟨rfl, l⟩ := wr_str_of w1
      by_cases hc : (cutS z lo' hi').length ≤ sizeLine
      · simp only [hc, if_true] at g3
        exact ⟨z, rfl, l, Good.ok g3 r3 (wr_str hc)⟩
      · simp only [hc, if_false] at g3
        exact g3.elim
    | _ => exact (show False from g3).elim
  | r i => exact (show False from g3).elim
  | k u => exact (show False from g3).elim
/-- either derivation -/
theorem PE.or {e : Expr} {t u : TE} (h : PE X e t) (h' : PE X e u) : PE X e (fun σ H Q => t σ H Q ∨ u σ H Q) := ⟨fun pins s σ H Q I q => q.elim (h.run pins s σ H Q I) (h'.run pins s σ H Q I)⟩
def pOr (p q : PEx) : PEx := fun s M => (p s M).or (q s M)
theorem je_or (ha : JE X w a pa) (hb : JE X w a pb) : JE X w a (pOr pa pb) := by
  obtain ⟨ta, ea, sa⟩ := ha
  obtain ⟨tb, eb, sb⟩ := hb
  refine ⟨_, PE.or ea eb, fun H0 Hb0 as Hb H M σ s r0 S Q gd => ?_⟩
  unfold pOr at gd
  cases e : pa s M with
  | stuck => rw [e] at gd; exact .inr (sb H0 Hb0 as Hb H M σ s r0 S Q gd)
  | ok u m => refine .inl (sa H0 Hb0 as Hb H M σ s r0 S Q ?_); rw [e] at gd ⊢; exact gd
  | exc u m => refine .inl (sa H0 Hb0 as Hb H M σ s r0 S Q ?_); rw [e] at gd ⊢; exact gd
end
end Z

set_option linter.all false
set_option autoImplicit false
set_option maxRecDepth 100000
set_option maxHeartbeats 4000000
namespace Z
open PySem PySem.Spec PyProof.Rows L2

/-! ### truth -/
def truth (M : Ms) : W → Option Bool
  | .d .none => some false
  | .d (.bool b) => some b
  | .d (.int i) => some (i != 0)
  | .d (.str s) => some ((s.length : Int) != 0)
  | .d (.list xs) => some (!xs.isEmpty)
  | .d (.tuple xs) => some (!xs.isEmpty)
  | .d (.dict _) => none
  | .r i => match M[i]? with
    | some (.lst ws) => some (!ws.isEmpty)
    | some (.dic kvs) => some (!kvs.isEmpty)
    | _ => none
  | .k _ => none
theorem emp_of {α β : Type} {F : α → β → Prop} {l : List α} {m : List β} (h : Paired F l m) : l.isEmpty = m.isEmpty := by
  cases h <;> rfl
section
variable {K : PySem.W.Frag} {mg : Str → Option Value}
theorem truth_ok {H0 Hb0 Hb H : Hp} {as : List Addr} {M : Ms} {x : W} {v : V} {b : Bool} (r : Rel K H0 Hb0 as Hb H M) (h : WR K as Hb v x) (e : truth M x = some b) : TruV K v H b := by
  cases x with
  | d y =>
    cases y with
    | none => obtain rfl := wr_non_of h; simp only [truth, Option.some.injEq] at e; exact e.symm
    | bool b' => obtain rfl := wr_bl_of h; simp only [truth, Option.some.injEq] at e; exact e.symm
    | int i => obtain rfl := wr_int_of h; simp only [truth, Option.some.injEq] at e; exact e.symm
    | str s => obtain ⟨rfl, l⟩ := wr_str_of h; simp only [truth, Option.some.injEq] at e; exact ⟨l, e.symm⟩
    | list xs =>
      simp only [truth, Option.some.injEq] at e
      obtain ⟨h1, f1⟩ := h
      cases h1 with
      | lst hs ha => exact .inl ⟨_, SqL.of (r.sub _ _ hs), by rw [emp_of (dzAll_of ha f1.2)]; exact e.symm⟩
    | tuple xs =>
      simp only [truth, Option.some.injEq] at e
      obtain ⟨h1, f1⟩ := h
      cases h1 with
      | tup hs ha => exact .inr (.inl ⟨_, same_t r.sub hs, by rw [emp_of (dzAll_of ha f1.2)]; exact e.symm⟩)
    | dict _ => simp [truth] at e
  | r i =>
    obtain ⟨a, h1, rfl⟩ := h
    simp only [truth] at e
    cases hm : M[i]? with
    | none => rw [hm] at e; simp at e
    | some o =>
      rw [hm] at e
      cases o with
      | lst ws =>
        simp only [Option.some.injEq] at e
        obtain ⟨z, vs, h2, h3⟩ := r.at' i a _ h1 hm
        exact .inl ⟨vs, SqL.of h2, by rw [emp_of h3]; exact e.symm⟩
      | dic kvs =>
        simp only [Option.some.injEq] at e
        obtain ⟨z, vs, h2, h3⟩ := r.at' i a _ h1 hm
        exact .inr (.inr ⟨vs, h2, by rw [emp_of h3]; exact e.symm⟩)
      | ins _ _ => simp at e
      | gone => simp at e
  | k u => simp [truth] at e
end
def pTru (p : PEx) : PTx := fun s M => (p s M).bind fun x M1 => match truth M1 x with
  | some b => .ok b M1
  | none => .stuck
def pAndT (p q : PTx) : PTx := fun s M => (p s M).bind fun b M1 => if b = true then q s M1 else .ok false M1
def pOrT (p q : PTx) : PTx := fun s M => (p s M).bind fun b M1 => if b = true then .ok true M1 else q s M1
def pNotT (p : PTx) : PTx := fun s M => (p s M).bind fun b M1 => .ok (!b) M1
/-- x and y, x or y as values, not x -/
def pAndV (p q : PEx) : PEx := fun s M => (p s M).bind fun x M1 => match truth M1 x with
  | some true => q s M1
  | some false => .ok x M1
  | none => .stuck
def pOrV (p q : PEx) : PEx := fun s M => (p s M).bind fun x M1 => match truth M1 x with
  | some true => .ok x M1
  | some false => q s M1
  | none => .stuck
def pNotV (p : PEx) : PEx := fun s M => (p s M).bind fun x M1 => match truth M1 x with
  | some b => .ok (.d (.bool (!b))) M1
  | none => .stuck
def pIfE (c : PTx) (p q : PEx) : PEx := fun s M => (c s M).bind fun b M1 => if b = true then p s M1 else q s M1
def pNeg (p : PEx) : PEx := fun s M => (p s M).bind fun x M1 => match x with
  | .d (.int i) => .ok (.d (.int (-i))) M1
  | _ => .stuck
section
variable {X : Cx} {w : WX} {a b c : Expr} {rest : List Expr} {pa pb : PEx} {ta tb : PTx} {pos : Pos}
theorem jt_tru (h : JE X w a pa) (he : ∀ whole, isTrue a X.env whole = (do let v ← whole; standAt a.pos; holding [v] (truthy v)) := by intro _; rfl) : JT X w a (pTru pa) := by
  obtain ⟨t, ea, sa⟩ := h
  refine ⟨_, pt_truth ea he, fun H0 Hb0 as Hb H M σ s r0 S Q gd => ?_⟩
  refine Good.bind sa r0 S gd fun x x' as1 Hb1 H1 M1 r1 f1 S1 w1 g1 => ?_
  cases e : truth M1 x' with
  | none => rw [e] at g1; exact g1.elim
  | some b => rw [e] at g1; exact ⟨b, truth_ok r1 w1 e, Good.ok g1 r1 rfl⟩
theorem jt_w (h : JW X w a ta) : JT X w a ta := let ⟨t, ea, sa⟩ := h; ⟨t, ea.pt, sa⟩
theorem jw_and1 (h : JT X w a ta) : JW X w (.BoolOp .And [a] pos) ta := let ⟨t, ea, sa⟩ := h; ⟨t, pw_and1 ea, sa⟩
theorem jw_or1 (h : JT X w a ta) : JW X w (.BoolOp .Or [a] pos) ta := let ⟨t, ea, sa⟩ := h; ⟨t, pw_or1 ea, sa⟩
theorem jw_and (ha : JT X w a ta) (hb : JW X w (.BoolOp .And (b :: rest) pos) tb) : JW X w (.BoolOp .And (a :: b :: rest) pos) (pAndT ta tb) := by
  obtain ⟨t, ea, sa⟩ := ha
  obtain ⟨u, eb, sb⟩ := hb
  refine ⟨_, pw_and ea eb, fun H0 Hb0 as Hb H M σ s r0 S Q gd => ?_⟩
  refine Good.bind sa r0 S gd fun x x' as1 Hb1 H1 M1 r1 f1 S1 w1 g1 => ?_
  obtain rfl : x = x' := w1
  cases x with
  | true => rw [if_pos rfl] at g1 ⊢; exact sb _ _ _ _ _ _ _ _ r1 S1 Q g1
  | false => rw [if_neg Bool.false_ne_true] at g1 ⊢; exact Good.ok g1 r1 rfl
theorem jw_or (ha : JT X w a ta) (hb : JW X w (.BoolOp .Or (b :: rest) pos) tb) : JW X w (.BoolOp .Or (a :: b :: rest) pos) (pOrT ta tb) := by
  obtain ⟨t, ea, sa⟩ := ha
  obtain ⟨u, eb, sb⟩ := hb
  refine ⟨_, pw_or ea eb, fun H0 Hb0 as Hb H M σ s r0 S Q gd => ?_⟩
  refine Good.bind sa r0 S gd fun x x' as1 Hb1 H1 M1 r1 f1 S1 w1 g1 => ?_
  obtain rfl : x = x' := w1
  cases x with
  | true => rw [if_pos rfl] at g1 ⊢; exact Good.ok g1 r1 rfl
  | false => rw [if_neg Bool.false_ne_true] at g1 ⊢; exact sb _ _ _ _ _ _ _ _ r1 S1 Q g1
theorem jt_not (ha : JT X w a ta) : JT X w (.UnaryOp .Not a pos) (pNotT ta) := by
  obtain ⟨t, ea, sa⟩ := ha
  refine ⟨_, pt_not ea, fun H0 Hb0 as Hb H M σ s r0 S Q gd => ?_⟩
  refine Good.bind sa r0 S gd fun x x' as1 Hb1 H1 M1 r1 f1 S1 w1 g1 => ?_
  obtain rfl : x = x' := w1
  exact Good.ok g1 r1 rfl
theorem je_and1 (h : JE X w a pa) : JE X w (.BoolOp .And [a] pos) pa := let ⟨t, ea, sa⟩ := h; ⟨t, pe_one ea, sa⟩
theorem je_or1 (h : JE X w a pa) : JE X w (.BoolOp .Or [a] pos) pa := let ⟨t, ea, sa⟩ := h; ⟨t, pe_one ea, sa⟩
theorem je_and (ha : JE X w a pa) (hb : JE X w (.BoolOp .And (b :: rest) pos) pb) : JE X w (.BoolOp .And (a :: b :: rest) pos) (pAndV pa pb) := by
  obtain ⟨t, ea, sa⟩ := ha
  obtain ⟨u, eb, sb⟩ := hb
  refine ⟨_, pe_andT ea eb, fun H0 Hb0 as Hb H M σ s r0 S Q gd => ?_⟩
  refine Good.bind sa r0 S gd fun x x' as1 Hb1 H1 M1 r1 f1 S1 w1 g1 => ?_
  cases e : truth M1 x' with
  | none => rw [e] at g1; exact g1.elim
  | some k =>
    refine ⟨k, truth_ok r1 w1 e, ?_⟩
    rw [e] at g1
    cases k with
    | true => rw [if_pos rfl]; exact sb _ _ _ _ _ _ _ _ r1 S1 Q g1
    | false => rw [if_neg Bool.false_ne_true]; exact Good.ok g1 r1 w1
theorem je_orv (ha : JE X w a pa) (hb : JE X w (.BoolOp .Or (b :: rest) pos) pb) : JE X w (.BoolOp .Or (a :: b :: rest) pos) (pOrV pa pb) := by
  obtain ⟨t, ea, sa⟩ := ha
  obtain ⟨u, eb, sb⟩ := hb
  refine ⟨_, pe_orT ea eb, fun H0 Hb0 as Hb H M σ s r0 S Q gd => ?_⟩
  refine Good.bind sa r0 S gd fun x x' as1 Hb1 H1 M1 r1 f1 S1 w1 g1 => ?_
  cases e : truth M1 x' with
  | none => rw [e] at g1; exact g1.elim
  | some k =>
    refine ⟨k, truth_ok r1 w1 e, ?_⟩
    rw [e] at g1
    cases k with
    | true => rw [if_pos rfl]; exact Good.ok g1 r1 w1
    | false => rw [if_neg Bool.false_ne_true]; exact sb _ _ _ _ _ _ _ _ r1 S1 Q g1
theorem je_not (ha : JE X w a pa) : JE X w (.UnaryOp .Not a pos) (pNotV pa) := by
  obtain ⟨t, ea, sa⟩ := ha
  refine ⟨_, pe_notT ea, fun H0 Hb0 as Hb H M σ s r0 S Q gd => ?_⟩
  refine Good.bind sa r0 S gd fun x x' as1 Hb1 H1 M1 r1 f1 S1 w1 g1 => ?_
  cases e : truth M1 x' with
  | none => rw [e] at g1; exact g1.elim
  | some k => rw [e] at g1; exact ⟨k, truth_ok r1 w1 e, Good.ok g1 r1 (wr_bl _)⟩
/-- not t as a value, by t's test -/
theorem je_neg (ha : JE X w a pa) : JE X w (.UnaryOp .USub a pos) (pNeg pa) := by
  obtain ⟨t, ea, sa⟩ := ha
  refine ⟨_, pe_un un_neg ea, fun H0 Hb0 as Hb H M σ s r0 S Q gd => ?_⟩
  refine Good.bind sa r0 S gd fun x x' as1 Hb1 H1 M1 r1 f1 S1 w1 g1 => ?_
  cases x' with
  | d z =>
    cases z with
    | int i =>
      obtain rfl := wr_int_of w1
      exact ⟨i, rfl, Good.ok g1 r1 (wr_int _)⟩
    | _ => exact (show False from g1).elim
  | r i => exact (show False from g1).elim
  | k u => exact (show False from g1).elim
theorem je_if (hc : JT X w c ta) (ha : JE X w a pa) (hb : JE X w b pb) : JE X w (.IfExp c a b pos) (pIfE ta pa pb) := by
  obtain ⟨t, ec, sc⟩ := hc
  obtain ⟨u, ea, sa⟩ := ha
  obtain ⟨u', eb, sb⟩ := hb
  refine ⟨_, pe_ifExp ec ea eb, fun H0 Hb0 as Hb H M σ s r0 S Q gd => ?_⟩
  refine Good.bind sc r0 S gd fun x x' as1 Hb1 H1 M1 r1 f1 S1 w1 g1 => ?_
  obtain rfl : x = x' := w1
  cases x with
  | true => rw [if_pos rfl] at g1 ⊢; exact sa _ _ _ _ _ _ _ _ r1 S1 Q g1
  | false => rw [if_neg Bool.false_ne_true] at g1 ⊢; exact sb _ _ _ _ _ _ _ _ r1 S1 Q g1
end

/-! ### statements -/
def pSeq (p q : PSx) : PSx := fun s M => match p s M with
  | .nx s1 M1 => q s1 M1
  | o => o
def pNext : PSx := fun s M => .nx s M
def pIf (c : PTx) (p q : PSx) : PSx := fun s M => (c s M).to s fun b M1 => if b = true then p s M1 else q s M1
def pSet (i : Nat) (p : PEx) : PSx := fun s M => (p s M).to s fun x M1 => .nx (s.set i (some x)) M1
def pDrop (p : PEx) : PSx := fun s M => (p s M).to s fun _ M1 => .nx s M1
def pRet (p : PEx) : PSx := fun s M => (p s M).to s fun x M1 => .rt x M1
def pRetN : PSx := fun _ M => .rt (.d .none) M
def pBrk : PSx := fun s M => .bk s M
def pCnt : PSx := fun s M => .ct s M
section
variable {X : Cx} {w : WX} {st : Stmt} {sts : List Stmt} {p q : PSx} {e : Expr} {pe : PEx} {pos : Pos}
theorem jss_nil : JSs X w [] pNext := ⟨_, pss_nil, fun H0 Hb0 as Hb H M σ s r S D g => g.nx r S⟩
theorem js_pass : JS X w (.Pass pos) pNext := ⟨_, ps_pass, fun H0 Hb0 as Hb H M σ s r S D g => g.nx r S⟩
theorem js_brk : JS X w (.Break pos) pBrk := ⟨_, ps_break, fun H0 Hb0 as Hb H M σ s r S D g => g σ as Hb H r Fut.refl S⟩
theorem js_cnt : JS X w (.Continue pos) pCnt := ⟨_, ps_continue, fun H0 Hb0 as Hb H M σ s r S D g => g σ as Hb H r Fut.refl S⟩
theorem sim_seq {K : PySem.W.Frag} {mg : Str → Option Value} {t u : TS} (s1 : SimS K mg w t p) (s2 : SimS K mg w u q) : SimS K mg w (tSeq t u) (pSeq p q) := by
  intro H0 Hb0 as Hb H M σ s r S D g
  refine s1 H0 Hb0 as Hb H M σ s r S { D with nx := u D } ?_
  unfold pSeq at g
  cases h : p s M with
  | nx s' M' =>
    rw [h] at g
    exact fun σ' as' Hb' H' r' f' S' => s2 H0 Hb0 as' Hb' H' M' σ' s' r' S' D (GoodS.mono f' g)
  | rt x M' => rw [h] at g; exact g
  | bk s' M' => rw [h] at g; exact g
  | ct s' M' => rw [h] at g; exact g
  | exc e s' M' => rw [h] at g; exact g
  | stuck => rw [h] at g; exact g
theorem jss_cons (h1 : JS X w st p) (h2 : JSs X w sts q) : JSs X w (st :: sts) (pSeq p q) := by
  obtain ⟨t, e1, s1⟩ := h1
  obtain ⟨u, e2, s2⟩ := h2
  exact ⟨_, pss_cons e1 e2, sim_seq s1 s2⟩
theorem jss_one (h1 : JS X w st p) : JSs X w [st] p := let ⟨t, e1, s1⟩ := h1; ⟨t, pss_one e1, s1⟩
theorem js_expr (h : JE X w e pe) (hs : swapsWith e none pos.line X.env = pure false := by rfl) : JS X w (.Expr e pos) (pDrop pe) := by
  obtain ⟨t, e1, s1⟩ := h
  refine ⟨_, ps_expr e1 hs, fun H0 Hb0 as Hb H M σ s r S D g => ?_⟩
  exact GoodS.bind s1 r S g fun x x' as1 Hb1 H1 M1 r1 f1 S1 w1 g1 => g1.nx r1 S1
theorem js_ret (h : JE X w e pe) : JS X w (.Return (some e) pos) (pRet pe) := by
  obtain ⟨t, e1, s1⟩ := h
  refine ⟨_, ps_ret e1, fun H0 Hb0 as Hb H M σ s r S D g => ?_⟩
  exact GoodS.bind s1 r S g fun x x' as1 Hb1 H1 M1 r1 f1 S1 w1 g1 => g1 x as1 Hb1 H1 r1 Fut.refl w1
theorem js_retN : JS X w (.Return none pos) pRetN := ⟨_, ps_retN, fun H0 Hb0 as Hb H M σ s r S D g => g .non as Hb H r Fut.refl wr_non⟩
theorem js_if {c : Expr} {a b : List Stmt} {pc : PTx} (hc : JT X w c pc) (ha : JSs X w a p) (hb : JSs X w b q) : JS X w (.If c a b pos) (pIf pc p q) := by
  obtain ⟨t, ec, sc⟩ := hc
  obtain ⟨u, ea, sa⟩ := ha
  obtain ⟨u', eb, sb⟩ := hb
  refine ⟨_, ps_if ec ea eb, fun H0 Hb0 as Hb H M σ s r S D g => ?_⟩
  refine GoodS.bind sc r S g fun x x' as1 Hb1 H1 M1 r1 f1 S1 w1 g1 => ?_
  obtain rfl : x = x' := w1
  cases x with
  | true => rw [if_pos rfl] at g1 ⊢; exact sa _ _ _ _ _ _ _ _ r1 S1 D g1
  | false => rw [if_neg Bool.false_ne_true] at g1 ⊢; exact sb _ _ _ _ _ _ _ _ r1 S1 D g1
/-- name = e -/
theorem js_set {i : Nat} {x : Str} {pos' : Pos} (hN : X.N.Nodup) (h : JE X w e pe) (hi : X.N[i]? = some x := by rfl) (hx : Loc X.env.scope x := by first | exact Or.inl rfl | exact Or.inr rfl) (hs : swapsWith e (some (.Name x pos')) pos.line X.env = pure false := by rfl)
    (hf : X.fn x = true ∨ X.env.scope.names.lookup x = some .local := by first | exact .inl rfl | exact .inr rfl) : JS X w (.Assign [.Name x pos'] e pos) (pSet i pe) := by
  obtain ⟨t, e1, s1⟩ := h
  refine ⟨_, ps_set hN hi hx e1 hs hf, fun H0 Hb0 as Hb H M σ s r S D g => ?_⟩
  exact GoodS.bind s1 r S g fun x x' as1 Hb1 H1 M1 r1 f1 S1 w1 g1 => g1.nx r1 (S1.set w1 i)
end

/-! ### targets -/
abbrev PGx := W → Sl → Ms → Option Sl
theorem wipe_set {σ : L2.St} {i : Nat} {o : Option V} : ∀ {vs : List Nat}, i ∈ vs → wipe (σ.set i o) vs = wipe σ vs
  | [], h => by cases h
  | v :: vs, h => by
    unfold wipe
    by_cases e : i ∈ vs
    · rw [wipe_set e]
    · have ev : v = i := by
        rcases List.mem_cons.mp h with z | z
        · exact z.symm
        · exact absurd z e
      subst ev
      have q : ∀ {us : List Nat}, v ∉ us → wipe (σ.set v o) us = (wipe σ us).set v o := by
        intro us
        induction us with
        | nil => intro _; rfl
        | cons u us ih =>
          intro hn
          have h1 : ¬ v = u := fun z => hn (by rw [z]; exact List.mem_cons_self)
          have h2 : v ∉ us := fun z => hn (List.mem_cons_of_mem _ z)
          unfold wipe
          rw [ih h2, List.set_comm _ _ h1]
      rw [q e, List.set_set]
def SimG (K : PySem.W.Frag) (t : TG) (p : PGx) (is : List Nat) : Prop :=
  ∀ (H0 Hb0 : Hp) (as : List Addr) (Hb H : Hp) (M : Ms) (σ : L2.St) (s s' : Sl) (x : W) (v : V), Rel K H0 Hb0 as Hb H M → Slots K as Hb σ s → WR K as Hb v x → p x s M = some s' → ∀ Q : L2.St → Hp → Prop,
    (∀ σ', Slots K as Hb σ' s' → (∀ vs : List Nat, (∀ i ∈ is, i ∈ vs) → wipe σ' vs = wipe σ vs) → Q σ' H) → t v σ H Q
def JG (X : Cx) (e : Expr) (p : PGx) (is : List Nat) : Prop := ∃ t, PG X e t ∧ SimG X.K t p is
def qName (i : Nat) : PGx := fun x s _ => some (s.set i (some x))
abbrev PGsx := List W → Sl → Ms → Option Sl
def SimGs (K : PySem.W.Frag) (t : TGs) (p : PGsx) (is : List Nat) : Prop :=
  ∀ (H0 Hb0 : Hp) (as : List Addr) (Hb H : Hp) (M : Ms) (σ : L2.St) (s s' : Sl) (xs : List W) (vs : List V), Rel K H0 Hb0 as Hb H M → Slots K as Hb σ s → WRs K as Hb vs xs → p xs s M = some s' → ∀ Q : L2.St → Hp → Prop,
    (∀ σ', Slots K as Hb σ' s' → (∀ vs : List Nat, (∀ i ∈ is, i ∈ vs) → wipe σ' vs = wipe σ vs) → Q σ' H) → t vs σ H Q
def JGs (X : Cx) (es : List Expr) (p : PGsx) (is : List Nat) : Prop := ∃ t, PGs X es t ∧ SimGs X.K t p is
def qNil : PGsx := fun xs s _ => match xs with
  | [] => some s
  | _ => none
def qCons (p : PGx) (q : PGsx) : PGsx := fun xs s M => match xs with
  | x :: r => (match p x s M with
    | some s1 => q r s1 M
    | none => none)
  | [] => none
def qTup (n : Nat) (q : PGsx) : PGx := fun x s M => match itemsT x with
  | some ws => if ws.length = n then q ws s M else none
  | none => none
section
variable {X : Cx} {w : WX} {e : Expr} {es : List Expr} {pg : PGx} {pgs : PGsx} {pe : PEx} {pos : Pos} {is js : List Nat}
theorem jg_name {i : Nat} {x : Str} (hN : X.N.Nodup) (hi : X.N[i]? = some x := by rfl) (hx : Loc X.env.scope x := by first | exact Or.inl rfl | exact Or.inr rfl) (hf : X.fn x = true ∨ X.env.scope.names.lookup x = some .local := by first | exact .inl rfl | exact .inr rfl) : JG X (.Name x pos) (qName i) [i] := by
  refine ⟨_, pg_name hN hi hx hf, fun H0 Hb0 as Hb H M σ s s' x v r S wr e Q q => ?_⟩
  simp only [qName, Option.some.injEq] at e
  subst e
  exact q _ (S.set wr i) fun vs h => wipe_set (h i (by simp))
theorem jgs_nil : JGs X [] qNil [] := by
  refine ⟨_, pgs_nil, fun H0 Hb0 as Hb H M σ s s' xs vs r S wr e Q q => ?_⟩
  cases wr with
  | nil =>
    simp only [qNil, Option.some.injEq] at e
    subst e
    exact ⟨rfl, q _ S fun _ _ => rfl⟩
  | cons _ _ => cases e
theorem jgs_cons (h1 : JG X e pg is) (h2 : JGs X es pgs js) (hs : (assignEach (e :: es) X.env).map (·.2) = assign e X.env :: (assignEach es X.env).map (·.2) := by rfl) : JGs X (e :: es) (qCons pg pgs) (is ++ js) := by
  obtain ⟨t, e1, s1⟩ := h1
  obtain ⟨u, e2, s2⟩ := h2
  refine ⟨_, pgs_cons e1 e2 hs, fun H0 Hb0 as Hb H M σ s s' xs vs r S wr e Q q => ?_⟩
  cases wr with
  | nil => cases e
  | cons h t =>
    rename_i v x vs xs
    simp only [qCons] at e
    cases hp : pg x s M with
    | none => rw [hp] at e; cases e
    | some sm =>
      rw [hp] at e
      exact ⟨_, _, rfl, s1 H0 Hb0 as Hb H M σ s sm x v r S h hp _ fun σ' S' w1 => s2 H0 Hb0 as Hb H M σ' sm s' xs vs r S' t e Q fun σ2 S2 w2 => q σ2 S2 fun us hu =>
        (w2 us fun i hi => hu i (List.mem_append_right _ hi)).trans (w1 us fun i hi => hu i (List.mem_append_left _ hi))⟩
theorem jg_tup {k : Nat} {n : Nat} (hc : X.calm = true) (h : JGs X es pgs is) (hn : (assignEach es X.env).length = n := by rfl) (hst : (assignEach es X.env).findIdx? (·.1) = none := by rfl) : JG X (.Tuple es k pos) (qTup n pgs) is := by
  obtain ⟨t, e1, s1⟩ := h
  refine ⟨_, pg_tup hc e1 hn hst, fun H0 Hb0 as Hb H M σ s s' x v r S wr e Q q => ?_⟩
  unfold qTup at e
  cases hi : itemsT x with
  | none => rw [hi] at e; cases e
  | some ws =>
    rw [hi] at e
    obtain ⟨a, vs, rfl, h1, wrs, z⟩ := itemsT_ok r wr hi
    by_cases hl : ws.length = n
    · simp only [hl, if_true] at e
      exact ⟨a, vs, rfl, h1, (Paired.len wrs).trans hl, s1 H0 Hb0 as Hb H M σ s s' ws vs r S wrs e Q q⟩
    · simp only [hl, if_false] at e
      cases e
/-- target = e -/
def pAsg (p : PEx) (g : PGx) : PSx := fun s M => (p s M).to s fun x M1 => match g x s M1 with
  | some s1 => .nx s1 M1
  | none => .stuck
theorem js_asg {tg : Expr} (he : JE X w e pe) (hg : JG X tg pg is) (hs : swapsWithSole [tg] e pos.line X.env = pure false := by rfl) (hw : swappedStores [tg] e X.env = pure none := by rfl)
    (h1 : (assignEach [tg] X.env).map (·.2) = [assign tg X.env] := by rfl) : JS X w (.Assign [tg] e pos) (pAsg pe pg) := by
  obtain ⟨t, e1, s1⟩ := he
  obtain ⟨u, e2, s2⟩ := hg
  refine ⟨_, ps_asg e1 e2 hs hw h1, fun H0 Hb0 as Hb H M σ s r S D g => ?_⟩
  refine GoodS.bind s1 r S g fun x x' as1 Hb1 H1 M1 r1 f1 S1 w1 g1 => ?_
  cases hp : pg x' s M1 with
  | none => rw [hp] at g1; exact g1.elim
  | some sm =>
    rw [hp] at g1
    exact s2 H0 Hb0 as1 Hb1 H1 M1 σ s sm x' x r1 S1 w1 hp _ fun σ' S' _ => g1.nx r1 S'
/-- xs[i] = e, xs a thing that changes -/
def pSub (p : PEx) (o i : PEx) : PSx := fun s M => (p s M).to s fun x M1 => (o s M1).to s fun y M2 => (i s M2).to s fun z M3 => match y, z with
  | .r n, .d (.int j) => (match M3[n]? with
    | some (.lst ws) => (match ixN ws.length j with
      | some k => .nx s (M3.set n (.lst (ws.set k x)))
      | none => .stuck)
    | _ => .stuck)
  | _, _ => .stuck
theorem js_sub {o i : Expr} {po pi : PEx} {pos' : Pos} (he : JE X w e pe) (ho : JE X w o po) (hi : JE X w i pi) (hs : swapsWithSole [.Subscript o i pos'] e pos.line X.env = pure false := by rfl) (hw : swappedStores [.Subscript o i pos'] e X.env = pure none := by rfl)
    (h1 : (assignEach [.Subscript o i pos'] X.env).map (·.2) = [assign (.Subscript o i pos') X.env] := by rfl)
    (ha : ∀ v, assign (.Subscript o i pos') X.env v = (do
      let ov ← holding [v] (eval o X.env)
      let iv ← holding [v, ov] (eval i X.env)
      standAt pos'
      holding [v, ov, iv] (setItem ov iv v)
      release [v, ov, iv] []) := by intro _; rfl) : JS X w (.Assign [.Subscript o i pos'] e pos) (pSub pe po pi) := by
  obtain ⟨t, e1, s1⟩ := he
  obtain ⟨u, e2, s2⟩ := ho
  obtain ⟨u', e3, s3⟩ := hi
  refine ⟨_, ps_asg e1 (pg_sub e2 e3 set_list ha) hs hw h1, fun H0 Hb0 as Hb H M σ s r S D g => ?_⟩
  refine GoodS.bind s1 r S g fun x x' as1 Hb1 H1 M1 r1 f1 S1 w1 g1 => ?_
  refine GoodS.bind s2 r1 S1 g1 fun y y' as2 Hb2 H2 M2 r2 f2 S2 w2 g2 => ?_
  refine GoodS.bind s3 r2 S2 g2 fun z z' as3 Hb3 H3 M3 r3 f3 S3 w3 g3 => ?_
  have w1' := WR.mono (f2.trans f3) w1
  have w2' := WR.mono f3 w2
  cases y' with
  | d _ => exact (show False from g3).elim
  | k _ => exact (show False from g3).elim
  | r n =>
    obtain ⟨q, hq, rfl⟩ := w2'
    cases z' with
    | r _ => exact (show False from g3).elim
    | k _ => exact (show False from g3).elim
    | d zz =>
      cases zz with
      | int j =>
        obtain rfl := wr_int_of w3
        cases hm : M3[n]? with
        | none => simp only [hm] at g3; exact g3.elim
        | some mo =>
          cases mo with
          | lst ws =>
            simp only [hm] at g3
            cases hk : ixN ws.length j with
            | none => simp only [hk] at g3; exact g3.elim
            | some k =>
              simp only [hk] at g3
              obtain ⟨zl, vs, h2, h3⟩ := r3.at' n q _ hq hm
              refine ⟨q, vs, j, k, rfl, rfl, h2, by rw [Paired.len h3]; exact hk, ?_⟩
              refine g3.nx (r3.setMut hq hm (fun z => by cases z) ⟨by rw [List.length_set]; exact zl, _, upd_same, Paired.put w1' k h3⟩) S3
          | ins _ _ => simp only [hm] at g3; exact g3.elim
          | dic _ => simp only [hm] at g3; exact g3.elim
          | gone => simp only [hm] at g3; exact g3.elim
      | _ => exact (show False from g3).elim
end
end Z

set_option linter.all false
set_option autoImplicit false
set_option maxRecDepth 100000
set_option maxHeartbeats 4000000
namespace Z
open PySem PySem.Spec PyProof.Rows L2

/-! ### what is walked -/
def ItOk (K : PySem.W.Frag) (J : It) (ws : List W) (as : List Addr) (Hb : Hp) : Prop :=
  ∀ (H0 Hb0 : Hp) (as' : List Addr) (Hb' H' : Hp) (M' : Ms), Rel K H0 Hb0 as' Hb' H' M' → Fut as Hb as' Hb' → ∀ i,
    (∀ x, ws[i]? = some x → J.go i H' ∧ ∀ v H2, J.yld i H' v H2 → ∃ Hb2, Rel K H0 Hb0 as' Hb2 H2 M' ∧ Fut as' Hb' as' Hb2 ∧ WR K as' Hb2 v x) ∧ (ws[i]? = none → J.stop i H')
def repI (K : PySem.W.Frag) : Rep It (List W) := fun _ as Hb _ J ws => ItOk K J ws as Hb
def JI (X : Cx) (w : WX) (tg iter : Expr) (p : PAx) : Prop := ∃ wi, PI X tg iter wi ∧ Sim (repI X.K) X.K X.mg w wi p
/-- the items of a list, a tuple that is data -/
def pItL (p : PEx) : PAx := fun s M => (p s M).bind fun x M1 => match x with
  | .d (.list ds) => .ok (ds.map .d) M1
  | _ => .stuck
def pItT (p : PEx) : PAx := fun s M => (p s M).bind fun x M1 => match x with
  | .d (.tuple ds) => .ok (ds.map .d) M1
  | _ => .stuck
def rngW (lo : Int) (n : Nat) : List W := (List.range n).map fun i => .d (.int (lo + (i : Nat)))
def pRng1 (p : PEx) : PAx := fun s M => (p s M).bind fun x M1 => match x with
  | .d (.int j) => if -(2 ^ 62) ≤ j ∧ j < 2 ^ 62 then .ok (rngW 0 j.toNat) M1 else .stuck
  | _ => .stuck
def pRng2 (p q : PEx) : PAx := fun s M => (p s M).bind fun x M1 => (q s M1).bind fun y M2 => match x, y with
  | .d (.int i), .d (.int j) => if -(2 ^ 62) ≤ i ∧ i < 2 ^ 62 ∧ -(2 ^ 62) ≤ j ∧ j < 2 ^ 62 then .ok (rngW i (j - i).toNat) M2 else .stuck
  | _, _ => .stuck
def pItS (p : PEx) : PAx := fun s M => (p s M).bind fun x M1 => match x with
  | .d (.str z) => .ok (z.cps.toList.map fun c => .d (.str ⟨#[c]⟩)) M1
  | _ => .stuck
section
variable {X : Cx} {w : WX} {tg l l2 : Expr} {p q : PEx} {pos ps : Pos}
theorem map_at {α β : Type} {f : α → β} {xs : List α} {i : Nat} {y : β} (h : (xs.map f)[i]? = some y) : ∃ x, xs[i]? = some x ∧ f x = y := by
  rw [List.getElem?_map, Option.map_eq_some_iff] at h
  exact h
theorem ji_list (h : JE X w l p) : JI X w tg l (pItL p) := by
  obtain ⟨t, e1, s1⟩ := h
  refine ⟨_, pi_list e1, fun H0 Hb0 as Hb H M σ s r S Q g => ?_⟩
  refine Good.bind s1 r S g fun x x' as1 Hb1 H1 M1 r1 f1 S1 w1 g1 => ?_
  cases x' with
  | r i => exact (show False from g1).elim
  | k u => exact (show False from g1).elim
  | d z =>
    cases z with
    | list ds =>
      obtain ⟨h1, ff⟩ := w1
      cases h1 with
      | lst hs ha =>
        rename_i a vs
        have dz := dzAll_of ha ff.2
        refine ⟨a, rfl, ⟨_, SqL.of (r1.sub _ _ hs)⟩, Good.ok g1 r1 fun H0' Hb0' as' Hb' H' M' r' f' i => ⟨fun x hx => ?_, fun hx => ?_⟩⟩
        · have hs' : H' a = some (.lst vs) := r'.sub _ _ (f'.ex _ _ hs)
          obtain ⟨d, hd, rfl⟩ := map_at hx
          obtain ⟨v, hv, dv⟩ := Paired.at dz hd
          refine ⟨⟨vs, v, SqL.of hs', hv⟩, fun v2 H2 hy => ?_⟩
          obtain ⟨rfl, hy⟩ := hy
          have e : v2 = v := by
            have z := hy vs (SqL.of hs')
            rw [hv] at z; exact (Option.some.inj z).symm
          subst e
          exact ⟨Hb', r', Fut.refl, Dz.mono f'.ex dv⟩
        · refine ⟨vs, SqL.of (r'.sub _ _ (f'.ex _ _ hs)), ?_⟩
          rw [List.getElem?_eq_none_iff, List.length_map] at hx
          rw [Paired.len dz]; exact hx
    | _ => exact (show False from g1).elim
theorem ji_tup (h : JE X w l p) : JI X w tg l (pItT p) := by
  obtain ⟨t, e1, s1⟩ := h
  refine ⟨_, pi_tup e1, fun H0 Hb0 as Hb H M σ s r S Q g => ?_⟩
  refine Good.bind s1 r S g fun x x' as1 Hb1 H1 M1 r1 f1 S1 w1 g1 => ?_
  cases x' with
  | r i => exact (show False from g1).elim
  | k u => exact (show False from g1).elim
  | d z =>
    cases z with
    | tuple ds =>
      obtain ⟨h1, ff⟩ := w1
      cases h1 with
      | tup hs ha =>
        rename_i a vs
        have dz := dzAll_of ha ff.2
        refine ⟨a, rfl, ⟨_, same_t r1.sub hs⟩, Good.ok g1 r1 fun H0' Hb0' as' Hb' H' M' r' f' i => ⟨fun x hx => ?_, fun hx => ?_⟩⟩
        · have hs' : SqT X.K H' a vs := same_t r'.sub (same_t f'.ex hs)
          obtain ⟨d, hd, rfl⟩ := map_at hx
          obtain ⟨v, hv, dv⟩ := Paired.at dz hd
          refine ⟨⟨vs, v, hs', hv⟩, fun v2 H2 hy => ?_⟩
          obtain ⟨rfl, hy⟩ := hy
          have e : v2 = v := by
            have z := hy vs hs'
            rw [hv] at z; exact (Option.some.inj z).symm
          subst e
          exact ⟨Hb', r', Fut.refl, Dz.mono f'.ex dv⟩
        · refine ⟨vs, same_t r'.sub (same_t f'.ex hs), ?_⟩
          rw [List.getElem?_eq_none_iff, List.length_map] at hx
          rw [Paired.len dz]; exact hx
    | _ => exact (show False from g1).elim
theorem itr_ok (K : PySem.W.Frag) (lo : Int) (n : Nat) (as : List Addr) (Hb : Hp) : ItOk K (Itr lo n) (rngW lo n) as Hb := fun H0' Hb0' as' Hb' H' M' r' f' i => ⟨fun x hx => by
    obtain ⟨d, hd, rfl⟩ := map_at hx
    obtain ⟨hi, e⟩ := List.getElem?_eq_some_iff.mp hd
    rw [List.length_range] at hi
    rw [List.getElem_range] at e
    subst e
    exact ⟨hi, fun v2 H2 hy => ⟨Hb', by rw [hy.1]; exact r', Fut.refl, by rw [hy.2]; exact wr_int _⟩⟩, fun hx => by
    rw [List.getElem?_eq_none_iff, rngW, List.length_map, List.length_range] at hx
    exact hx⟩
theorem ji_rng1 (hm : X.mg "range" = none) (h : JE X w l p) (hg : Gl X "range" := by rfl) (hs : starEach (l :: []) X.env = (false, eval l X.env) :: starEach [] X.env := by rfl) (hs2 : starEach [l] X.env = [(false, eval l X.env)] := by rfl) : JI X w tg (.Call (.Name "range" ps) [l] [] pos) (pRng1 p) := by
  obtain ⟨t, e1, s1⟩ := h
  refine ⟨_, pi_range1 hg hm (pa_cons e1 pa_nil hs) hs2, fun H0 Hb0 as Hb H M σ s r S Q g => ?_⟩
  refine Good.bind s1 r S g fun x x' as1 Hb1 H1 M1 r1 f1 S1 w1 g1 => ?_
  cases x' with
  | r i => exact (show False from g1).elim
  | k u => exact (show False from g1).elim
  | d z =>
    cases z with
    | int j =>
      obtain rfl := wr_int_of w1
      by_cases hc : -(2 ^ 62) ≤ j ∧ j < 2 ^ 62
      · simp only [hc, and_self, if_true] at g1
        exact ⟨j, rfl, hc.1, hc.2, Good.ok g1 r1 (itr_ok X.K 0 j.toNat as1 Hb1)⟩
      · simp only [hc, if_false] at g1
        exact g1.elim
    | _ => exact (show False from g1).elim
theorem ji_rng2 (hm : X.mg "range" = none) (h : JE X w l p) (h2 : JE X w l2 q) (hg : Gl X "range" := by rfl) (hs : starEach (l :: [l2]) X.env = (false, eval l X.env) :: starEach [l2] X.env := by rfl) (hs2 : starEach (l2 :: []) X.env = (false, eval l2 X.env) :: starEach [] X.env := by rfl)
    (hs3 : starEach [l, l2] X.env = [(false, eval l X.env), (false, eval l2 X.env)] := by rfl) (hs4 : starEach [l2] X.env = [(false, eval l2 X.env)] := by rfl) : JI X w tg (.Call (.Name "range" ps) [l, l2] [] pos) (pRng2 p q) := by
  obtain ⟨t, e1, s1⟩ := h
  obtain ⟨u, e2, s2⟩ := h2
  refine ⟨_, pi_range2 hg hm (pa_cons e1 (pa_cons e2 pa_nil hs2) hs) hs3 hs4, fun H0 Hb0 as Hb H M σ s r S Q g => ?_⟩
  refine Good.bind s1 r S g fun x x' as1 Hb1 H1 M1 r1 f1 S1 w1 g1 => ?_
  refine Good.bind s2 r1 S1 g1 fun y y' as2 Hb2 H2 M2 r2 f2 S2 w2 g2 => ?_
  cases x' with
  | r i => cases y' <;> exact (show False from g2).elim
  | k u => cases y' <;> exact (show False from g2).elim
  | d z =>
    cases z with
    | int i =>
      obtain rfl := wr_int_of w1
      cases y' with
      | r i => exact (show False from g2).elim
      | k u => exact (show False from g2).elim
      | d z =>
        cases z with
        | int j =>
          obtain rfl := wr_int_of w2
          by_cases hc : -(2 ^ 62) ≤ i ∧ i < 2 ^ 62 ∧ -(2 ^ 62) ≤ j ∧ j < 2 ^ 62
          · simp only [hc, and_self, if_true] at g2
            exact ⟨i, j, rfl, hc, Good.ok g2 r2 (itr_ok X.K i (j - i).toNat as2 Hb2)⟩
          · simp only [hc, if_false] at g2
            exact g2.elim
        | _ => exact (show False from g2).elim
    | _ => cases y' <;> exact (show False from g2).elim
theorem ji_str (h : JE X w l p) : JI X w tg l (pItS p) := by
  obtain ⟨t, e1, s1⟩ := h
  refine ⟨_, pi_str e1, fun H0 Hb0 as Hb H M σ s r S Q g => ?_⟩
  refine Good.bind s1 r S g fun x x' as1 Hb1 H1 M1 r1 f1 S1 w1 g1 => ?_
  cases x' with
  | r i => exact (show False from g1).elim
  | k u => exact (show False from g1).elim
  | d z =>
    cases z with
    | str z =>
      obtain ⟨rfl, zl⟩ := wr_str_of w1
      refine ⟨z, rfl, Good.ok g1 r1 fun H0' Hb0' as' Hb' H' M' r' f' i => ⟨fun x hx => ?_, fun hx => ?_⟩⟩
      · obtain ⟨c, hc, rfl⟩ := map_at hx
        rw [Array.getElem?_toList] at hc
        obtain ⟨hi, _⟩ := Array.getElem?_eq_some_iff.mp hc
        refine ⟨hi, fun v2 H2 hy => ?_⟩
        obtain ⟨rfl, c', h1, rfl⟩ := hy
        rw [hc] at h1
        cases h1
        exact ⟨Hb', r', Fut.refl, wr_str (one_fits c)⟩
      · rw [List.getElem?_eq_none_iff, List.length_map, Array.length_toList] at hx
        exact hx
    | _ => exact (show False from g1).elim
end

/-! ### for, while -/
def forL (g : PGx) (b : PSx) : List W → Sl → Ms → O
  | [], s, M => .nx s M
  | x :: ws, s, M => match g x s M with
    | none => .stuck
    | some s1 => match b s1 M with
      | .nx s2 M2 => forL g b ws s2 M2
      | .ct s2 M2 => forL g b ws s2 M2
      | .bk s2 M2 => .nx s2 M2
      | .rt x M2 => .rt x M2
      | .exc e s2 M2 => .exc e s2 M2
      | .stuck => .stuck
def pFor (it : PAx) (g : PGx) (b : PSx) : PSx := fun s M => (it s M).to s fun ws M1 => forL g b ws s M1
def whileL (c : PTx) (b : PSx) : Nat → Sl → Ms → O
  | 0, _, _ => .stuck
  | n + 1, s, M => (c s M).to s fun k M1 => if k = true then (match b s M1 with
      | .nx s2 M2 => whileL c b n s2 M2
      | .ct s2 M2 => whileL c b n s2 M2
      | .bk s2 M2 => .nx s2 M2
      | .rt x M2 => .rt x M2
      | .exc e s2 M2 => .exc e s2 M2
      | .stuck => .stuck) else .nx s M1
def pWhile (fuel : Sl → Ms → Nat) (c : PTx) (b : PSx) : PSx := fun s M => whileL c b (fuel s M) s M
section
variable {X : Cx} {w : WX} {tg iter c : Expr} {body : List Stmt} {it : PAx} {pg : PGx} {pb : PSx} {pc : PTx} {pos : Pos} {is : List Nat}
theorem js_for (hp : PassesOwn (model X.prog X.w) X.A X.env X.xe) (hc : X.calm = true) (hi : JI X w tg iter it) (hg : JG X tg pg is) (hb : JSs X w body pb) (hs : ∀ x, foldedSetIterable iter X.env x = pure x := by intro _; rfl) : JS X w (.For tg iter body [] pos) (pFor it pg pb) := by
  obtain ⟨wi, ei, si⟩ := hi
  obtain ⟨t, eg, sg⟩ := hg
  obtain ⟨u, eb, sb⟩ := hb
  refine ⟨_, ps_for hp hc ei eg eb hs, fun H0 Hb0 as Hb H M σ s r S D g => ?_⟩
  refine GoodS.bind si r S g fun J ws as1 Hb1 H1 M1 r1 f1 S1 io g1 => ?_
  refine ⟨fun i m σ' H' => m = ws.length - i ∧ i ≤ ws.length ∧ ∃ as' Hb' s' M', Rel X.K H0 Hb0 as' Hb' H' M' ∧ Fut as1 Hb1 as' Hb' ∧ Slots X.K as' Hb' σ' s' ∧ GoodS X.K X.mg w H0 Hb0 as' Hb' D (forL pg pb (ws.drop i) s' M'),
    ⟨ws.length, by simp, Nat.zero_le _, as1, Hb1, s, M1, r1, Fut.refl, S1, by simpa using g1⟩, ?_⟩
  rintro i m σ' H' ⟨rfl, hi, as', Hb', s', M', r', f', S', g'⟩
  obtain ⟨io1, io2⟩ := io H0 Hb0 as' Hb' H' M' r' f' i
  by_cases hlt : i < ws.length
  · have hx : ws[i]? = some ws[i] := List.getElem?_eq_getElem hlt
    obtain ⟨go, yl⟩ := io1 _ hx
    rw [List.drop_eq_getElem_cons hlt] at g'
    refine .inr ⟨go, fun σ2 H2 => ∃ as2 Hb2 s2 M2, Rel X.K H0 Hb0 as2 Hb2 H2 M2 ∧ Fut as1 Hb1 as2 Hb2 ∧ Slots X.K as2 Hb2 σ2 s2 ∧ GoodS X.K X.mg w H0 Hb0 as2 Hb2 D (forL pg pb (ws.drop (i + 1)) s2 M2), fun σ2 H2 z => ⟨ws.length - (i + 1), by omega, rfl, hlt, z⟩, fun v H2 hy => ?_⟩
    obtain ⟨Hb2, r2, f2, w2⟩ := yl v H2 hy
    have S2 := S'.mono f2
    cases hg : pg ws[i] s' M' with
    | none => rw [forL, hg] at g'; exact g'.elim
    | some s1 =>
      refine sg H0 Hb0 as' Hb2 H2 M' σ' s' s1 ws[i] v r2 S2 w2 hg _ fun σ3 S3 _ => ?_
      refine sb H0 Hb0 as' Hb2 H2 M' σ3 s1 r2 S3 _ ?_
      rw [forL, hg] at g'
      have g2 := GoodS.mono f2 g'
      cases hb : pb s1 M' with
      | nx s4 M4 =>
        simp only [hb] at g2
        exact fun σ4 as4 Hb4 H4 r4 f4 S4 => ⟨as4, Hb4, s4, M4, r4, (f'.trans f2).trans f4, S4, GoodS.mono f4 g2⟩
      | ct s4 M4 =>
        simp only [hb] at g2
        exact fun σ4 as4 Hb4 H4 r4 f4 S4 => ⟨as4, Hb4, s4, M4, r4, (f'.trans f2).trans f4, S4, GoodS.mono f4 g2⟩
      | bk s4 M4 => simp only [hb] at g2; exact g2
      | rt x4 M4 => simp only [hb] at g2; exact g2
      | exc e s4 M4 => simp only [hb] at g2; exact g2
      | stuck => simp only [hb] at g2; exact g2.elim
  · have e : i = ws.length := by omega
    subst e
    have hn : ws[ws.length]? = none := List.getElem?_eq_none_iff.mpr (Nat.le_refl _)
    rw [List.drop_length, forL] at g'
    exact .inl ⟨io2 hn, g'.nx r' S'⟩
theorem js_while (hp : PassesOwn (model X.prog X.w) X.A X.env X.xe) (fuel : Sl → Ms → Nat) (hc : JT X w c pc) (hb : JSs X w body pb) : JS X w (.While c body [] pos) (pWhile fuel pc pb) := by
  obtain ⟨t, ec, sc⟩ := hc
  obtain ⟨u, eb, sb⟩ := hb
  refine ⟨_, ps_while hp ec eb, fun H0 Hb0 as Hb H M σ s r S D g => ?_⟩
  refine ⟨fun m σ' H' => ∃ as' Hb' s' M', Rel X.K H0 Hb0 as' Hb' H' M' ∧ Fut as Hb as' Hb' ∧ Slots X.K as' Hb' σ' s' ∧ GoodS X.K X.mg w H0 Hb0 as' Hb' D (whileL pc pb m s' M'), ⟨fuel s M, as, Hb, s, M, r, Fut.refl, S, g⟩, ?_⟩
  rintro m σ' H' ⟨as', Hb', s', M', r', f', S', g'⟩
  cases m with
  | zero => exact (show False from g').elim
  | succ n =>
    refine GoodS.bind sc r' S' g' fun b b' as1 Hb1 H1 M1 r1 f1 S1 w1 g1 => ?_
    obtain rfl : b = b' := w1
    cases b with
    | false => rw [if_neg Bool.false_ne_true] at g1 ⊢; exact g1.nx r1 S1
    | true =>
      rw [if_pos rfl] at g1 ⊢
      refine ⟨fun σ2 H2 => ∃ as2 Hb2 s2 M2, Rel X.K H0 Hb0 as2 Hb2 H2 M2 ∧ Fut as Hb as2 Hb2 ∧ Slots X.K as2 Hb2 σ2 s2 ∧ GoodS X.K X.mg w H0 Hb0 as2 Hb2 D (whileL pc pb n s2 M2), fun σ2 H2 z => ⟨n, Nat.lt_succ_self n, z⟩, ?_⟩
      refine sb H0 Hb0 as1 Hb1 H1 M1 σ' s' r1 S1 _ ?_
      cases hb : pb s' M1 with
      | nx s4 M4 =>
        simp only [hb] at g1
        exact fun σ4 as4 Hb4 H4 r4 f4 S4 => ⟨as4, Hb4, s4, M4, r4, (f'.trans f1).trans f4, S4, GoodS.mono f4 g1⟩
      | ct s4 M4 =>
        simp only [hb] at g1
        exact fun σ4 as4 Hb4 H4 r4 f4 S4 => ⟨as4, Hb4, s4, M4, r4, (f'.trans f1).trans f4, S4, GoodS.mono f4 g1⟩
      | bk s4 M4 => simp only [hb] at g1; exact g1
      | rt x4 M4 => simp only [hb] at g1; exact g1
      | exc e s4 M4 => simp only [hb] at g1; exact g1
      | stuck => simp only [hb] at g1; exact g1.elim
end

/-! ### comprehensions -/
def wipeS (s : Sl) : List Nat → Sl
  | [] => s
  | v :: vs => (wipeS s vs).set v none
theorem slots_wipe {K : PySem.W.Frag} {as : List Addr} {Hb : Hp} {σ : L2.St} {s : Sl} (S : Slots K as Hb σ s) : ∀ vs : List Nat, Slots K as Hb (wipe σ vs) (wipeS s vs)
  | [] => S
  | v :: vs => (slots_wipe S vs).unset none v
/-- nothing is raised here -/
def wNone : WX := fun _ _ _ _ => False
def R.bindN {α β : Type} (r : R α) (f : α → Ms → R β) : R β := match r with
  | .ok a m => f a m
  | _ => .stuck
def lcL (g : PGx) (tt : PTx) (te : PEx) (s : Sl) : List W → List W → Ms → R (List W)
  | [], acc, M => .ok acc M
  | x :: ws, acc, M => match g x s M with
    | none => .stuck
    | some s1 => (tt s1 M).bindN fun b M1 => if b = true then (te s1 M1).bindN fun y M2 => lcL g tt te s ws (acc ++ [y]) M2 else lcL g tt te s ws acc M1
def pLc (it : PAx) (g : PGx) (tt : PTx) (te : PEx) (vs : List Nat) : PAx := fun s M => (it s M).bind fun ws M1 => if ws.length ≤ sizeLine then lcL g tt te (wipeS s vs) ws [] M1 else .stuck
/-- the reading that a plain function stands for -/
def canon {β α : Type} (rep : Rep β α) (K : PySem.W.Frag) (mg : Str → Option Value) (w : WX) (p : Sl → Ms → R α) : L2.St → Hp → (β → Hp → Prop) → Prop := fun σ H Q =>
  ∃ (H0 Hb0 : Hp) (as : List Addr) (Hb : Hp) (M : Ms) (s : Sl), Rel K H0 Hb0 as Hb H M ∧ Slots K as Hb σ s ∧ Good rep K mg w H0 Hb0 as Hb σ Q (p s M)
def canonG (K : PySem.W.Frag) (p : PGx) (is : List Nat) : TG := fun v σ H Q =>
  ∃ (H0 Hb0 : Hp) (as : List Addr) (Hb : Hp) (M : Ms) (s s' : Sl) (x : W), Rel K H0 Hb0 as Hb H M ∧ Slots K as Hb σ s ∧ WR K as Hb v x ∧ p x s M = some s' ∧ ∀ σ', Slots K as Hb σ' s' → (∀ vs : List Nat, (∀ i ∈ is, i ∈ vs) → wipe σ' vs = wipe σ vs) → Q σ' H
section
variable {X : Cx} {w : WX}
theorem JE.canon {e : Expr} {p : PEx} (h : JE X w e p) : PE X e (canon (repW X.K) X.K X.mg w p) := by
  obtain ⟨t, e1, s1⟩ := h
  exact ⟨fun pins s σ H Q I ⟨H0, Hb0, as, Hb, M, sl, r, S, g⟩ => e1.run pins s σ H Q I (s1 H0 Hb0 as Hb H M σ sl r S Q g)⟩
def JTs (X : Cx) (w : WX) (ifs : List Expr) (p : PTx) : Prop := ∃ t, PTs X ifs t ∧ Sim repB X.K X.mg w t p
def pYes : PTx := fun _ M => .ok true M
theorem jts_nil : JTs X w [] pYes := ⟨_, pts_nil, fun H0 Hb0 as Hb H M σ s r S Q g => g.ok r rfl⟩
theorem jts_one {c : Expr} {p : PTx} (h : JT X w c p) : JTs X w [c] p := let ⟨t, e1, s1⟩ := h; ⟨t, pts_one e1, s1⟩
theorem JTs.canon {ifs : List Expr} {p : PTx} (h : JTs X w ifs p) : PTs X ifs (canon repB X.K X.mg w p) := by
  obtain ⟨t, e1, s1⟩ := h
  exact ⟨fun pins s σ H Q I ⟨H0, Hb0, as, Hb, M, sl, r, S, g⟩ => e1.run pins s σ H Q I (s1 H0 Hb0 as Hb H M σ sl r S Q g)⟩
theorem JG.canon {e : Expr} {p : PGx} {is : List Nat} (h : JG X e p is) : PG X e (canonG X.K p is) := by
  obtain ⟨t, e1, s1⟩ := h
  exact ⟨fun pins s σ H v u Q I rv ⟨H0, Hb0, as, Hb, M, sl, s', x, r, S, wr, e, q⟩ => e1.run pins s σ H v u Q I rv (s1 H0 Hb0 as Hb H M σ sl s' x v r S wr e Q q)⟩
/-- what a comprehension comes to, by its reading -/
theorem sim_lc {wi : TI} {it : PAx} {pg : PGx} {tt : PTx} {te : PEx} {is vs : List Nat} (hv : ∀ i ∈ is, i ∈ vs) (si : Sim (repI X.K) X.K X.mg w wi it) :
    Sim (repL X.K) X.K X.mg w (tLc wi (canonG X.K pg is) (canon repB X.K X.mg wNone tt) (canon (repW X.K) X.K X.mg wNone te) vs) (pLc it pg tt te vs) := by
  intro H0 Hb0 as Hb H M σ s r S Q g
  refine Good.bind si r S g fun J ws as1 Hb1 H1 M1 r1 f1 S1 io g1 => ?_
  intro D hD
  by_cases hz : ws.length ≤ sizeLine
  · simp only [hz, if_true] at g1
    have Sw := slots_wipe S1 vs
    refine ⟨fun i m H' => m = ws.length - i ∧ i ≤ ws.length ∧ ∃ as' Hb' M' acc av, Rel X.K (upd H0 D (.lst av)) Hb0 as' Hb' H' M' ∧ Fut as1 Hb1 as' Hb' ∧ WRs X.K as' Hb' av acc ∧ acc.length ≤ i ∧ Good (repL X.K) X.K X.mg w H0 Hb0 as' Hb' σ Q (lcL pg tt te (wipeS s vs) (ws.drop i) acc M'),
      ⟨ws.length, by simp, Nat.zero_le _, as1, Hb1, M1, [], [], ?_, Fut.refl, .nil, Nat.zero_le _, by simpa using g1⟩, ?_⟩
    · exact (r1.newAny hD).guard upd_same (r1.hbn hD) fun hm => r1.al D hm hD
    rintro i m H' ⟨rfl, hi, as', Hb', M', acc, av, r', f', wa, hal, g'⟩
    have h0D : H0 D = none := r1.h0n hD
    have hb0D : Hb0 D = none := r1.b0.free (r1.hbn hD)
    obtain ⟨ru, hHD, hbD, nD⟩ := r'.unguard h0D hb0D
    obtain ⟨io1, io2⟩ := io _ Hb0 as' Hb' H' M' r' f' i
    by_cases hlt : i < ws.length
    · have hx : ws[i]? = some ws[i] := List.getElem?_eq_getElem hlt
      obtain ⟨go, yl⟩ := io1 _ hx
      rw [List.drop_eq_getElem_cons hlt] at g'
      refine .inr ⟨go, fun H2 => ∃ as2 Hb2 M2 acc2 av2, Rel X.K (upd H0 D (.lst av2)) Hb0 as2 Hb2 H2 M2 ∧ Fut as1 Hb1 as2 Hb2 ∧ WRs X.K as2 Hb2 av2 acc2 ∧ acc2.length ≤ i + 1 ∧ Good (repL X.K) X.K X.mg w H0 Hb0 as2 Hb2 σ Q (lcL pg tt te (wipeS s vs) (ws.drop (i + 1)) acc2 M2), fun H2 z => ⟨ws.length - (i + 1), by omega, rfl, hlt, z⟩, fun v H2 hy => ?_⟩
      obtain ⟨Hb2, r2, f2, w2⟩ := yl v H2 hy
      have S2 := Sw.mono (f'.trans f2)
      cases hg : pg ws[i] (wipeS s vs) M' with
      | none => rw [lcL, hg] at g'; exact g'.elim
      | some s1 =>
        rw [lcL, hg] at g'
        simp only at g'
        refine ⟨_, Hb0, as', Hb2, M', wipeS s vs, s1, ws[i], r2, S2, w2, hg, fun σ3 S3 hw3 => ?_⟩
        refine ⟨by
          have z := hw3 vs hv
          rw [z]
          have ww : ∀ us : List Nat, (∀ u ∈ us, u ∈ vs) → ∀ τ : L2.St, wipe (wipe τ vs) us = wipe τ vs := by
            intro us
            induction us with
            | nil => intro _ τ; rfl
            | cons u us ih =>
              intro hu τ
              have hm := hu u List.mem_cons_self
              have e1 := ih (fun x hx => hu x (List.mem_cons_of_mem _ hx)) τ
              show (wipe (wipe τ vs) us).set u none = wipe τ vs
              rw [e1]
              have sn : ∀ (l : List Nat), u ∈ l → (wipe τ l).set u none = wipe τ l := by
                intro l
                induction l with
                | nil => intro h; cases h
                | cons y l ihl =>
                  intro h
                  show ((wipe τ l).set y none).set u none = (wipe τ l).set y none
                  by_cases e : y = u
                  · subst e; rw [List.set_set]
                  · rw [List.set_comm _ _ e]
                    rcases List.mem_cons.mp h with z | z
                    · exact absurd z.symm e
                    · rw [ihl z]
              exact sn vs hm
          exact ww vs (fun _ h => h) σ, ?_⟩
        refine ⟨_, Hb0, as', Hb2, M', s1, r2, S3, ?_⟩
        cases ht : tt s1 M' with
        | exc e m => rw [ht] at g'; exact g'.elim
        | stuck => rw [ht] at g'; exact g'.elim
        | ok b Mt =>
          rw [ht] at g'
          have g3 : Good (repL X.K) X.K X.mg w H0 Hb0 as' Hb' σ Q (if b = true then (te s1 Mt).bindN fun y M2 => lcL pg tt te (wipeS s vs) (ws.drop (i + 1)) (acc ++ [y]) M2 else lcL pg tt te (wipeS s vs) (ws.drop (i + 1)) acc Mt) := g'
          intro b' as3 Hb3 H3 r3 f3 eb
          obtain rfl : b' = b := eb
          cases b' with
          | false =>
            rw [if_neg Bool.false_ne_true] at g3 ⊢
            exact ⟨as3, Hb3, Mt, acc, av, r3, (f'.trans f2).trans f3, WRs.mono (f2.trans f3) wa, Nat.le_succ_of_le hal, Good.mono (f2.trans f3) g3⟩
          | true =>
            rw [if_pos rfl] at g3 ⊢
            refine ⟨_, Hb0, as3, Hb3, Mt, s1, r3, S3.mono f3, ?_⟩
            cases hte : te s1 Mt with
            | exc e m => rw [hte] at g3; exact g3.elim
            | stuck => rw [hte] at g3; exact g3.elim
            | ok y My =>
              rw [hte] at g3
              have g4 : Good (repL X.K) X.K X.mg w H0 Hb0 as' Hb' σ Q (lcL pg tt te (wipeS s vs) (ws.drop (i + 1)) (acc ++ [y]) My) := g3
              intro yv as4 Hb4 H4 r4 f4 wy
              obtain ⟨ru4, hHD4, hbD4, nD4⟩ := r4.unguard h0D hb0D
              have wa4 := WRs.mono ((f2.trans f3).trans f4) wa
              have hl : av.length = acc.length := Paired.len wa
              refine ⟨av, hHD4, by omega, as4, Hb4, My, acc ++ [y], av ++ [yv], ?_, ((f'.trans f2).trans f3).trans f4, Paired.app wa4 (.cons wy .nil), by rw [List.length_append]; simp; omega, Good.mono ((f2.trans f3).trans f4) g4⟩
              have e5 := (ru4.other (o := .lst (av ++ [yv])) hbD4 h0D nD4).guard upd_same hbD4 nD4
              exact e5
    · have e : i = ws.length := by omega
      subst e
      have hn : ws[ws.length]? = none := List.getElem?_eq_none_iff.mpr (Nat.le_refl _)
      rw [List.drop_length, lcL] at g'
      exact .inl ⟨io2 hn, Good.ok g' ru ⟨D, av, rfl, hHD, Nat.le_trans hal hz, wa, nD, hbD, h0D⟩⟩
  · simp only [hz, if_false] at g1
    exact g1.elim
theorem jl_lc {elt tg iter : Expr} {ifs : List Expr} {scope : Scope} {own : List (Str × Nat)} {pos : Pos} {it : PAx} {pg : PGx} {tt : PTx} {te : PEx} {is : List Nat} (hc : X.calm = true) (hN : X.N.Nodup) (hi : JI X w tg iter it) (ok : BlkOk X.N X.env.scope scope own)
    (hg : ∀ (s : Shared) (H : Hp) (C : Addr) (cl : List (Str × Addr)) (fp : List Addr), JG (X.blk s H scope (compEnvC scope cl C X.env) fp) tg pg is) (ht : ∀ (s : Shared) (H : Hp) (C : Addr) (cl : List (Str × Addr)) (fp : List Addr), JTs (X.blk s H scope (compEnvC scope cl C X.env) fp) wNone ifs tt)
    (he : ∀ (s : Shared) (H : Hp) (C : Addr) (cl : List (Str × Addr)) (fp : List Addr), JE (X.blk s H scope (compEnvC scope cl C X.env) fp) wNone elt te) (hv : ∀ i ∈ is, i ∈ own.map (·.2) := by decide) (hs : ∀ x, foldedSetIterable iter X.env x = pure x := by intro _; rfl) :
    JL X w (.ListComp elt [⟨tg, iter, ifs, 0⟩] scope pos) (pLc it pg tt te (own.map (·.2))) := by
  obtain ⟨wi, ei, si⟩ := hi
  exact ⟨_, pe_lc hc hN ei ok (fun s H C cl fp => (hg s H C cl fp).canon) (fun s H C cl fp => (ht s H C cl fp).canon) (fun s H C cl fp => (he s H C cl fp).canon) hs, sim_lc hv si⟩
/-- name = [..] on one line: data, or a thing that changes -/
theorem js_setLc {i : Nat} {y : Str} {py : Pos} {elt tg iter : Expr} {ifs : List Expr} {scope : Scope} {own : List (Str × Nat)} {pos spos : Pos} {it : PAx} {pg : PGx} {tt : PTx} {te : PEx} {is : List Nat} (hc : X.calm = true) (hN : X.N.Nodup) (hi : JI X w tg iter it) (ok : BlkOk X.N X.env.scope scope own)
    (hg : ∀ (s : Shared) (H : Hp) (C : Addr) (cl : List (Str × Addr)) (fp : List Addr), JG (X.blk s H scope (compEnvC scope cl C X.env) fp) tg pg is) (ht : ∀ (s : Shared) (H : Hp) (C : Addr) (cl : List (Str × Addr)) (fp : List Addr), JTs (X.blk s H scope (compEnvC scope cl C X.env) fp) wNone ifs tt)
    (he : ∀ (s : Shared) (H : Hp) (C : Addr) (cl : List (Str × Addr)) (fp : List Addr), JE (X.blk s H scope (compEnvC scope cl C X.env) fp) wNone elt te) (hv : ∀ i ∈ is, i ∈ own.map (·.2) := by decide)
    (hy : X.N[i]? = some y := by rfl) (hyl : X.env.scope.names.lookup y = some .local := by rfl) (hsw : swapsWith (.ListComp elt [⟨tg, iter, ifs, 0⟩] scope pos) (some (.Name y py)) spos.line X.env = pure true := by exact sw_true rfl rfl rfl (by decide +kernel)) (hs : ∀ x, foldedSetIterable iter X.env x = pure x := by intro _; rfl) :
    JS X w (.Assign [.Name y py] (.ListComp elt [⟨tg, iter, ifs, 0⟩] scope pos) spos) (pSet i (pDat (pLc it pg tt te (own.map (·.2))))) := by
  obtain ⟨wi, ei, si⟩ := hi
  refine ⟨_, ps_setLc (g := canonG X.K pg is) (tt := canon repB X.K X.mg wNone tt) (te := canon (repW X.K) X.K X.mg wNone te) hc hN hy hyl hsw ei ok (fun s H C cl fp => (hg s H C cl fp).canon) (fun s H C cl fp => (ht s H C cl fp).canon) (fun s H C cl fp => (he s H C cl fp).canon) hs, fun H0 Hb0 as Hb H M σ s r S D g => ?_⟩
  have sl := sim_lc (X := X) (w := w) (pg := pg) (tt := tt) (te := te) hv si
  have g' : GoodS X.K X.mg w H0 Hb0 as Hb D ((pLc it pg tt te (own.map (·.2)) s M).to s fun ws M1 => match allD ws with
      | some ds => .nx (s.set i (some (.d (.list ds)))) M1
      | none => .stuck) := by
    unfold pSet pDat at g
    cases e : pLc it pg tt te (own.map (·.2)) s M with
    | stuck => rw [e] at g; exact g
    | exc a m => rw [e] at g; exact g
    | ok a m =>
      rw [e] at g
      simp only [R.bind, R.to] at g ⊢
      cases hd : allD a with
      | none => rw [hd] at g; exact g
      | some ds => rw [hd] at g; exact g
  refine GoodS.bind sl r S g' fun v ws as1 Hb1 H1 M1 r1 f1 S1 w1 g1 => ?_
  obtain ⟨q, vs, rfl, hq, z, wr, nq, hbn, h0n⟩ := w1
  cases hd : allD ws with
  | none => rw [hd] at g1; exact g1.elim
  | some ds =>
    rw [hd] at g1
    have dz := allD_ok wr hd
    have hl : ws.length = ds.length := (Paired.len wr).symm.trans (Paired.len dz)
    have fu : Fut as1 Hb1 as1 (upd Hb1 q (.lst vs)) := fut_new hbn
    refine GoodS.nx (GoodS.mono fu g1) (r1.freshData hq hbn h0n nq) ((S1.mono fu).set (w := .d (.list ds)) ?_ i)
    exact dz_lst upd_same (dzAll_mono (same_new hbn) dz) (hl ▸ z)
theorem js_setLcM {i : Nat} {y : Str} {py : Pos} {elt tg iter : Expr} {ifs : List Expr} {scope : Scope} {own : List (Str × Nat)} {pos spos : Pos} {it : PAx} {pg : PGx} {tt : PTx} {te : PEx} {is : List Nat} (hc : X.calm = true) (hN : X.N.Nodup) (hi : JI X w tg iter it) (ok : BlkOk X.N X.env.scope scope own)
    (hg : ∀ (s : Shared) (H : Hp) (C : Addr) (cl : List (Str × Addr)) (fp : List Addr), JG (X.blk s H scope (compEnvC scope cl C X.env) fp) tg pg is) (ht : ∀ (s : Shared) (H : Hp) (C : Addr) (cl : List (Str × Addr)) (fp : List Addr), JTs (X.blk s H scope (compEnvC scope cl C X.env) fp) wNone ifs tt)
    (he : ∀ (s : Shared) (H : Hp) (C : Addr) (cl : List (Str × Addr)) (fp : List Addr), JE (X.blk s H scope (compEnvC scope cl C X.env) fp) wNone elt te) (hv : ∀ i ∈ is, i ∈ own.map (·.2) := by decide)
    (hy : X.N[i]? = some y := by rfl) (hyl : X.env.scope.names.lookup y = some .local := by rfl) (hsw : swapsWith (.ListComp elt [⟨tg, iter, ifs, 0⟩] scope pos) (some (.Name y py)) spos.line X.env = pure true := by exact sw_true rfl rfl rfl (by decide +kernel)) (hs : ∀ x, foldedSetIterable iter X.env x = pure x := by intro _; rfl) :
    JS X w (.Assign [.Name y py] (.ListComp elt [⟨tg, iter, ifs, 0⟩] scope pos) spos) (pSet i (pMut (pLc it pg tt te (own.map (·.2))))) := by
  obtain ⟨wi, ei, si⟩ := hi
  refine ⟨_, ps_setLc (g := canonG X.K pg is) (tt := canon repB X.K X.mg wNone tt) (te := canon (repW X.K) X.K X.mg wNone te) hc hN hy hyl hsw ei ok (fun s H C cl fp => (hg s H C cl fp).canon) (fun s H C cl fp => (ht s H C cl fp).canon) (fun s H C cl fp => (he s H C cl fp).canon) hs, fun H0 Hb0 as Hb H M σ s r S D g => ?_⟩
  have sl := sim_lc (X := X) (w := w) (pg := pg) (tt := tt) (te := te) hv si
  have g' : GoodS X.K X.mg w H0 Hb0 as Hb D ((pLc it pg tt te (own.map (·.2)) s M).to s fun ws M1 => .nx (s.set i (some (.r M1.length))) (M1 ++ [.lst ws])) := by
    unfold pSet pMut at g
    cases e : pLc it pg tt te (own.map (·.2)) s M with
    | stuck => rw [e] at g; exact g
    | exc a m => rw [e] at g; exact g
    | ok a m => rw [e] at g; exact g
  refine GoodS.bind sl r S g' fun v ws as1 Hb1 H1 M1 r1 f1 S1 w1 g1 => ?_
  obtain ⟨q, vs, rfl, hq, z, wr, nq, hbn, h0n⟩ := w1
  have fu : Fut as1 Hb1 (as1 ++ [q]) Hb1 := ⟨Same.refl _, [q], rfl⟩
  refine GoodS.nx (GoodS.mono fu g1) (r1.newMut (by rw [hq]; simp) hbn h0n nq ⟨z, vs, hq, WRs.mono fu wr⟩) ((S1.mono fu).set (w := .r M1.length) ⟨q, ?_, rfl⟩ i)
  rw [← r1.len]
  simp
end
end Z

set_option linter.all false
set_option autoImplicit false
set_option maxRecDepth 100000
set_option maxHeartbeats 4000000
namespace Z
open PySem PySem.Spec PyProof.Rows L2

/-! ### calls of what is built in -/
def SimC (K : PySem.W.Frag) (mg : Str → Option Value) (r : List V → Hp → VK → Prop) (g : List W → Ms → R W) : Prop :=
  ∀ (w : WX) (H0 Hb0 : Hp) (as : List Addr) (Hb H : Hp) (M : Ms) (σ : L2.St) (ws : List W) (vs : List V), Rel K H0 Hb0 as Hb H M → WRs K as Hb vs ws → ∀ Q : VK, Good (repW K) K mg w H0 Hb0 as Hb σ Q (g ws M) → r vs H Q
/-- .. which makes a list -/
def SimCL (K : PySem.W.Frag) (mg : Str → Option Value) (r : List V → Hp → VK → Prop) (g : List W → Ms → R (List W)) : Prop :=
  ∀ (w : WX) (H0 Hb0 : Hp) (as : List Addr) (Hb H : Hp) (M : Ms) (σ : L2.St) (ws : List W) (vs : List V), Rel K H0 Hb0 as Hb H M → WRs K as Hb vs ws → ∀ Q : VK, Good (repL K) K mg w H0 Hb0 as Hb σ Q (g ws M) → r vs H Q
def pCall (g : List W → Ms → R W) (a : PAx) : PEx := fun s M => (a s M).bind fun ws M1 => g ws M1
def pCallL (g : List W → Ms → R (List W)) (a : PAx) : PAx := fun s M => (a s M).bind fun ws M1 => g ws M1
section
variable {X : Cx} {w : WX} {x : Str} {e : Expr} {es : List Expr} {pa : PAx} {p pos : Pos} {r : List V → Hp → VK → Prop} {g : List W → Ms → R W} {gl : List W → Ms → R (List W)} {id T : String}
theorem sim_cb {t : TA} (sa : Sim (repA X.K) X.K X.mg w t pa) (hg : SimC X.K X.mg r g) : Sim (repW X.K) X.K X.mg w (tCB r t) (pCall g pa) := by
  intro H0 Hb0 as Hb H M σ s r0 S Q gd
  exact Good.bind sa r0 S gd fun vs ws as1 Hb1 H1 M1 r1 f1 S1 w1 g1 => hg w H0 Hb0 as1 Hb1 H1 M1 σ ws vs r1 w1 Q g1
theorem sim_cbl {t : TA} (sa : Sim (repA X.K) X.K X.mg w t pa) (hg : SimCL X.K X.mg r gl) : Sim (repL X.K) X.K X.mg w (tCB r t) (pCallL gl pa) := by
  intro H0 Hb0 as Hb H M σ s r0 S Q gd
  exact Good.bind sa r0 S gd fun vs ws as1 Hb1 H1 M1 r1 f1 S1 w1 g1 => hg w H0 Hb0 as1 Hb1 H1 M1 σ ws vs r1 w1 Q g1
theorem je_callB (hc : CallR X (.builtin id) r) (hs : SimC X.K X.mg r g) (hm : X.mg x = none) (hv : bootBuiltins x = some (.builtin id)) (ha : JA X w (e :: es) pa) (hg : Gl X x := by rfl) (hn : x ≠ "__name__" := by decide) (hdb : (x == ("__debug__" : Str)) = false := by decide)
    (he : starEach (e :: es) X.env = (false, eval e X.env) :: starEach es X.env := by rfl) (hpl : (backTo pos (starEach es X.env)).any (·.1) = false := by rfl) : JE X w (.Call (.Name x p) (e :: es) [] pos) (pCall g pa) := by
  obtain ⟨t, ea, sa⟩ := ha
  exact ⟨_, pe_callB hc hg hm hv ea hn hdb he hpl, sim_cb sa hs⟩
theorem jl_callB (hc : CallR X (.builtin id) r) (hs : SimCL X.K X.mg r gl) (hm : X.mg x = none) (hv : bootBuiltins x = some (.builtin id)) (ha : JA X w (e :: es) pa) (hg : Gl X x := by rfl) (hn : x ≠ "__name__" := by decide) (hdb : (x == ("__debug__" : Str)) = false := by decide)
    (he : starEach (e :: es) X.env = (false, eval e X.env) :: starEach es X.env := by rfl) (hpl : (backTo pos (starEach es X.env)).any (·.1) = false := by rfl) : JL X w (.Call (.Name x p) (e :: es) [] pos) (pCallL gl pa) := by
  obtain ⟨t, ea, sa⟩ := ha
  exact ⟨_, pe_callB hc hg hm hv ea hn hdb he hpl, sim_cbl sa hs⟩
theorem je_callTy (hc : CallR X (.type T) r) (hs : SimC X.K X.mg r g) (hm : X.mg x = none) (hv : bootBuiltins x = some (.type T)) (ha : JA X w (e :: es) pa) (hg : Gl X x := by rfl) (hn : x ≠ "__name__" := by decide) (hdb : (x == ("__debug__" : Str)) = false := by decide)
    (he : starEach (e :: es) X.env = (false, eval e X.env) :: starEach es X.env := by rfl) (hpl : (backTo pos (starEach es X.env)).any (·.1) = false := by rfl) : JE X w (.Call (.Name x p) (e :: es) [] pos) (pCall g pa) := by
  obtain ⟨t, ea, sa⟩ := ha
  exact ⟨_, pe_callTy hc hg hm hv ea hn hdb he hpl, sim_cb sa hs⟩
theorem jl_callTy (hc : CallR X (.type T) r) (hs : SimCL X.K X.mg r gl) (hm : X.mg x = none) (hv : bootBuiltins x = some (.type T)) (ha : JA X w (e :: es) pa) (hg : Gl X x := by rfl) (hn : x ≠ "__name__" := by decide) (hdb : (x == ("__debug__" : Str)) = false := by decide)
    (he : starEach (e :: es) X.env = (false, eval e X.env) :: starEach es X.env := by rfl) (hpl : (backTo pos (starEach es X.env)).any (·.1) = false := by rfl) : JL X w (.Call (.Name x p) (e :: es) [] pos) (pCallL gl pa) := by
  obtain ⟨t, ea, sa⟩ := ha
  exact ⟨_, pe_callTy hc hg hm hv ea hn hdb he hpl, sim_cbl sa hs⟩
end

/-! ### len -/
def lenW (M : Ms) (x : W) : Option Nat := match itemsL M x with
  | some ws => some ws.length
  | none => match itemsT x with
    | some ws => some ws.length
    | none => match x with
      | .d (.str s) => some s.length
      | _ => none
def gLen : List W → Ms → R W := fun ws M => match ws with
  | [x] => (match lenW M x with
    | some n => .ok (.d (.int n)) M
    | none => .stuck)
  | _ => .stuck
def gAbs : List W → Ms → R W := fun ws M => match ws with
  | [.d (.int i)] => .ok (.d (.int (if i < 0 then -i else i))) M
  | _ => .stuck
def gInt1 : List W → Ms → R W := fun ws M => match ws with
  | [.d (.int i)] => .ok (.d (.int i)) M
  | _ => .stuck
def gMin2 : List W → Ms → R W := fun ws M => match ws with
  | [.d (.int i), .d (.int j)] => .ok (.d (.int (if j < i then j else i))) M
  | _ => .stuck
def gMax2 : List W → Ms → R W := fun ws M => match ws with
  | [.d (.int i), .d (.int j)] => .ok (.d (.int (if j > i then j else i))) M
  | _ => .stuck
def intsOf : List PyData → Option (List Int)
  | [] => some []
  | .int i :: ds => (intsOf ds).map (i :: ·)
  | _ :: _ => none
theorem intsOf_map : ∀ ns : List Int, intsOf (ns.map .int) = some ns
  | [] => rfl
  | n :: ns => by simp [intsOf, intsOf_map ns]
def viewI (M : Ms) (x : W) : Option (List Int) := match view M x with
  | some (.list ds) => intsOf ds
  | _ => none
def gSum : List W → Ms → R W := fun ws M => match ws with
  | [x] => (match viewI M x with
    | some ns => .ok (.d (.int ns.sum)) M
    | none => .stuck)
  | _ => .stuck
def gMaxI : List W → Ms → R W := fun ws M => match ws with
  | [x] => (match viewI M x with
    | some (n :: ns) => .ok (.d (.int (ns.foldl max n))) M
    | _ => .stuck)
  | _ => .stuck
def gMinI : List W → Ms → R W := fun ws M => match ws with
  | [x] => (match viewI M x with
    | some (n :: ns) => .ok (.d (.int (ns.foldl min n))) M
    | _ => .stuck)
  | _ => .stuck
section
variable {K : PySem.W.Frag} {mg : Str → Option Value}
theorem one_arg_of {as : List Addr} {Hb : Hp} {vs : List V} {x : W} (h : WRs K as Hb vs [x]) : ∃ v, vs = [v] ∧ WR K as Hb v x := by
  cases h with
  | cons a b => cases b; exact ⟨_, rfl, a⟩
theorem two_args_of {as : List Addr} {Hb : Hp} {vs : List V} {x y : W} (h : WRs K as Hb vs [x, y]) : ∃ v u, vs = [v, u] ∧ WR K as Hb v x ∧ WR K as Hb u y := by
  cases h with
  | cons a b =>
    obtain ⟨u, rfl, hu⟩ := one_arg_of b
    exact ⟨_, u, rfl, a, hu⟩
theorem s_len : SimC K mg (fun xs H Q => ∃ x n, xs = [x] ∧ LenV K x H n ∧ Q (.int n) H) gLen := by
  intro w H0 Hb0 as Hb H M σ ws vs r wr Q gd
  match ws, gd with
  | [], gd => exact gd.elim
  | _ :: _ :: _, gd => exact gd.elim
  | [x], gd =>
    obtain ⟨v, rfl, wx⟩ := one_arg_of wr
    unfold gLen lenW at gd
    cases e1 : itemsL M x with
    | some us =>
      simp only [e1] at gd
      obtain ⟨a, xs, rfl, h1, r1, z1⟩ := itemsL_ok r wx e1
      exact ⟨_, us.length, rfl, .inl ⟨xs, SqL.of h1, (Paired.len r1).symm⟩, Good.ok gd r (wr_int _)⟩
    | none =>
      cases e2 : itemsT x with
      | some us =>
        simp only [e1, e2] at gd
        obtain ⟨a, xs, rfl, h1, r1, z1⟩ := itemsT_ok r wx e2
        exact ⟨_, us.length, rfl, .inr ⟨xs, h1, (Paired.len r1).symm⟩, Good.ok gd r (wr_int _)⟩
      | none =>
        simp only [e1, e2] at gd
        cases x with
        | d y =>
          cases y with
          | str z =>
            obtain ⟨rfl, l⟩ := wr_str_of wx
            exact ⟨_, z.length, rfl, ⟨l, rfl⟩, Good.ok gd r (wr_int _)⟩
          | _ => exact gd.elim
        | r i => exact gd.elim
        | k u => exact gd.elim
theorem s_abs : SimC K mg (fun xs H Q => ∃ i, xs = [.int i] ∧ Q (.int (if i < 0 then -i else i)) H) gAbs := by
  intro w H0 Hb0 as Hb H M σ ws vs r wr Q gd
  match ws, gd with
  | [], gd => exact gd.elim
  | [.d (.int i)], gd =>
    obtain ⟨v, rfl, wx⟩ := one_arg_of wr
    obtain rfl := wr_int_of wx
    exact ⟨i, rfl, Good.ok gd r (wr_int _)⟩
theorem s_int1 : SimC K mg (fun xs H Q => (∃ i, xs = [.int i] ∧ Q (.int i) H) ∨ ∃ k, xs = [.bl k] ∧ Q (.int (if k then 1 else 0)) H) gInt1 := by
  intro w H0 Hb0 as Hb H M σ ws vs r wr Q gd
  match ws, gd with
  | [], gd => exact gd.elim
  | [.d (.int i)], gd =>
    obtain ⟨v, rfl, wx⟩ := one_arg_of wr
    obtain rfl := wr_int_of wx
    exact .inl ⟨i, rfl, Good.ok gd r (wr_int _)⟩
theorem s_min2 : SimC K mg (fun xs H Q => ∃ i j, xs = [.int i, .int j] ∧ Q (.int (if j < i then j else i)) H) gMin2 := by
  intro w H0 Hb0 as Hb H M σ ws vs r wr Q gd
  match ws, gd with
  | [], gd => exact gd.elim
  | [.d (.int i), .d (.int j)], gd =>
    obtain ⟨v, u, rfl, wx, wy⟩ := two_args_of wr
    obtain rfl := wr_int_of wx
    obtain rfl := wr_int_of wy
    exact ⟨i, j, rfl, Good.ok gd r (wr_int _)⟩
theorem s_max2 : SimC K mg (fun xs H Q => ∃ i j, xs = [.int i, .int j] ∧ Q (.int (if j > i then j else i)) H) gMax2 := by
  intro w H0 Hb0 as Hb H M σ ws vs r wr Q gd
  match ws, gd with
  | [], gd => exact gd.elim
  | [.d (.int i), .d (.int j)], gd =>
    obtain ⟨v, u, rfl, wx, wy⟩ := two_args_of wr
    obtain rfl := wr_int_of wx
    obtain rfl := wr_int_of wy
    exact ⟨i, j, rfl, Good.ok gd r (wr_int _)⟩
theorem ints_vs {H : Hp} : ∀ {ds : List PyData} {vs : List V} {ns : List Int}, DtAll K H vs ds → intsOf ds = some ns → vs = ns.map V.int
  | [], _, _, h, e => by
    cases h
    simp only [intsOf, Option.some.injEq] at e
    subst e; rfl
  | .int i :: ds, _, _, h, e => by
    cases h with
    | cons h1 h2 =>
      simp only [intsOf, Option.map_eq_some_iff] at e
      obtain ⟨r, e1, rfl⟩ := e
      cases h1
      rw [ints_vs h2 e1]
      rfl
  | .none :: _, _, _, _, e => by simp [intsOf] at e
  | .bool _ :: _, _, _, _, e => by simp [intsOf] at e
  | .str _ :: _, _, _, _, e => by simp [intsOf] at e
  | .list _ :: _, _, _, _, e => by simp [intsOf] at e
  | .tuple _ :: _, _, _, _, e => by simp [intsOf] at e
  | .dict _ :: _, _, _, _, e => by simp [intsOf] at e
theorem viewI_ok {H0 Hb0 Hb H : Hp} {as : List Addr} {M : Ms} {x : W} {v : V} {ns : List Int} (r : Rel K H0 Hb0 as Hb H M) (h : WR K as Hb v x) (e : viewI M x = some ns) : ∃ a, v = .ref a ∧ H a = some (.lst (ns.map V.int)) := by
  unfold viewI at e
  cases e1 : view M x with
  | none => rw [e1] at e; cases e
  | some d =>
    rw [e1] at e
    have dz := view_ok r h e1
    cases d with
    | list ds =>
      obtain ⟨h1, _⟩ := dz
      cases h1 with
      | lst hs ha => exact ⟨_, rfl, by rw [hs, ints_vs ha e]⟩
    | _ => cases e
theorem s_sum : SimC K mg (rSum K) gSum := by
  intro w H0 Hb0 as Hb H M σ ws vs r wr Q gd
  match ws, gd with
  | [], gd => exact gd.elim
  | _ :: _ :: _, gd => exact gd.elim
  | [x], gd =>
    obtain ⟨v, rfl, wx⟩ := one_arg_of wr
    unfold gSum at gd
    cases e : viewI M x with
    | none => simp only [e] at gd; exact gd.elim
    | some ns =>
      simp only [e] at gd
      obtain ⟨a, rfl, h⟩ := viewI_ok r wx e
      exact ⟨a, ns, rfl, SqL.of h, Good.ok gd r (wr_int _)⟩
theorem foldl_max_mem : ∀ (ns : List Int) (n : Int), ns.foldl max n ∈ n :: ns ∧ ∀ y ∈ n :: ns, y ≤ ns.foldl max n
  | [], n => by simp
  | k :: r, n => by
    rw [List.foldl_cons]
    obtain ⟨h1, h2⟩ := foldl_max_mem r (max n k)
    refine ⟨?_, fun y hy => ?_⟩
    · rcases List.mem_cons.mp h1 with h | h
      · rw [h]
        by_cases c : n ≤ k
        · rw [Int.max_eq_right c]; simp
        · rw [Int.max_eq_left (by omega)]; simp
      · simp [h]
    · have hm := h2 (max n k) List.mem_cons_self
      rcases List.mem_cons.mp hy with rfl | hy
      · exact Int.le_trans (Int.le_max_left _ _) hm
      · rcases List.mem_cons.mp hy with rfl | hy
        · exact Int.le_trans (Int.le_max_right _ _) hm
        · exact h2 y (List.mem_cons_of_mem _ hy)
theorem foldl_min_mem : ∀ (ns : List Int) (n : Int), ns.foldl min n ∈ n :: ns ∧ ∀ y ∈ n :: ns, ns.foldl min n ≤ y
  | [], n => by simp
  | k :: r, n => by
    rw [List.foldl_cons]
    obtain ⟨h1, h2⟩ := foldl_min_mem r (min n k)
    refine ⟨?_, fun y hy => ?_⟩
    · rcases List.mem_cons.mp h1 with h | h
      · rw [h]
        by_cases c : n ≤ k
        · rw [Int.min_eq_left c]; simp
        · rw [Int.min_eq_right (by omega)]; simp
      · simp [h]
    · have hm := h2 (min n k) List.mem_cons_self
      rcases List.mem_cons.mp hy with rfl | hy
      · exact Int.le_trans hm (Int.min_le_left _ _)
      · rcases List.mem_cons.mp hy with rfl | hy
        · exact Int.le_trans hm (Int.min_le_right _ _)
        · exact h2 y (List.mem_cons_of_mem _ hy)
theorem s_maxI : SimC K mg (rMax K) gMaxI := by
  intro w H0 Hb0 as Hb H M σ ws vs r wr Q gd
  match ws, gd with
  | [], gd => exact gd.elim
  | _ :: _ :: _, gd => exact gd.elim
  | [x], gd =>
    obtain ⟨v, rfl, wx⟩ := one_arg_of wr
    unfold gMaxI at gd
    cases e : viewI M x with
    | none => simp only [e] at gd; exact gd.elim
    | some ns =>
      cases ns with
      | nil => simp only [e] at gd; exact gd.elim
      | cons n ns =>
        simp only [e] at gd
        obtain ⟨a, rfl, h⟩ := viewI_ok r wx e
        refine ⟨a, n :: ns, rfl, SqL.of h, Nat.succ_pos _, fun m h1 h2 => ?_⟩
        obtain ⟨k1, k2⟩ := foldl_max_mem ns n
        have em : m = ns.foldl max n := Int.le_antisymm (k2 m h1) (h2 _ k1)
        subst em
        exact Good.ok gd r (wr_int _)
theorem s_minI : SimC K mg (rMin K) gMinI := by
  intro w H0 Hb0 as Hb H M σ ws vs r wr Q gd
  match ws, gd with
  | [], gd => exact gd.elim
  | _ :: _ :: _, gd => exact gd.elim
  | [x], gd =>
    obtain ⟨v, rfl, wx⟩ := one_arg_of wr
    unfold gMinI at gd
    cases e : viewI M x with
    | none => simp only [e] at gd; exact gd.elim
    | some ns =>
      cases ns with
      | nil => simp only [e] at gd; exact gd.elim
      | cons n ns =>
        simp only [e] at gd
        obtain ⟨a, rfl, h⟩ := viewI_ok r wx e
        refine ⟨a, n :: ns, rfl, SqL.of h, Nat.succ_pos _, fun m h1 h2 => ?_⟩
        obtain ⟨k1, k2⟩ := foldl_min_mem ns n
        have em : m = ns.foldl min n := Int.le_antisymm (h2 _ k1) (k2 m h1)
        subst em
        exact Good.ok gd r (wr_int _)

/-! ### list(..), sorted(..) -/
def gList : List W → Ms → R (List W) := fun ws M => match ws with
  | [x] => (match itemsL M x with
    | some us => .ok us M
    | none => (match itemsT x with
      | some us => .ok us M
      | none => .stuck))
  | _ => .stuck
theorem s_list : SimCL K mg (fun xs H Q => ∃ p ys, xs = [.ref p] ∧ (SqL K H p ys ∨ SqT K H p ys) ∧ ∀ l, H l = none → Q (.ref l) (upd H l (.lst ys))) gList := by
  intro w H0 Hb0 as Hb H M σ ws vs r wr Q gd
  match ws, gd with
  | [], gd => exact gd.elim
  | _ :: _ :: _, gd => exact gd.elim
  | [x], gd =>
    obtain ⟨v, rfl, wx⟩ := one_arg_of wr
    unfold gList at gd
    cases e1 : itemsL M x with
    | some us =>
      simp only [e1] at gd
      obtain ⟨a, xs, rfl, h1, r1, z1⟩ := itemsL_ok r wx e1
      exact ⟨a, xs, rfl, .inl (SqL.of h1), fun p hp => Good.ok gd (r.newAny hp) ⟨p, xs, rfl, upd_same, z1, r1, fun hm => r.al p hm hp, r.hbn hp, r.h0n hp⟩⟩
    | none =>
      cases e2 : itemsT x with
      | some us =>
        simp only [e1, e2] at gd
        obtain ⟨a, xs, rfl, h1, r1, z1⟩ := itemsT_ok r wx e2
        exact ⟨a, xs, rfl, .inr h1, fun p hp => Good.ok gd (r.newAny hp) ⟨p, xs, rfl, upd_same, z1, r1, fun hm => r.al p hm hp, r.hbn hp, r.h0n hp⟩⟩
      | none => simp only [e1, e2] at gd; exact gd.elim
end
/-- tuple(xs): of a list of data; of a tuple itself -/
def gTuple : List W → Ms → R W := fun ws M => match ws with
  | [x] => (match view M x with
    | some (.list ds) => .ok (.d (.tuple ds)) M
    | some (.tuple ds) => .ok x M
    | _ => .stuck)
  | _ => .stuck
theorem viewL_ok {K : PySem.W.Frag} {H0 Hb0 Hb H : Hp} {as : List Addr} {M : Ms} {x : W} {v : V} {ds : List PyData} (r : Rel K H0 Hb0 as Hb H M) (h : WR K as Hb v x) (e : view M x = some (.list ds)) : ∃ a vs, v = .ref a ∧ H a = some (.lst vs) ∧ DzAll K Hb vs ds ∧ ds.length ≤ sizeLine := by
  cases x with
  | d y =>
    simp only [view, Option.some.injEq] at e
    subst e
    obtain ⟨h1, f⟩ := h
    cases h1 with
    | lst hs ha => exact ⟨_, _, rfl, r.sub _ _ hs, dzAll_of ha f.2, f.1⟩
  | r i =>
    obtain ⟨a, h1, rfl⟩ := h
    simp only [view] at e
    cases hm : M[i]? with
    | none => rw [hm] at e; simp at e
    | some o =>
      rw [hm] at e
      cases o with
      | lst ws =>
        simp only [Option.map_eq_some_iff] at e
        obtain ⟨ds', e1, e2⟩ := e
        cases e2
        obtain ⟨z, vs, h2, h3⟩ := r.at' i a _ h1 hm
        have dz := allD_ok h3 e1
        exact ⟨a, vs, rfl, h2, dz, by rw [← Paired.len dz, Paired.len h3]; exact z⟩
      | ins _ _ => simp at e
      | dic _ => simp at e
      | gone => simp at e
  | k u => simp [view] at e
theorem viewT_ok {K : PySem.W.Frag} {H0 Hb0 Hb H : Hp} {as : List Addr} {M : Ms} {x : W} {v : V} {ds : List PyData} (r : Rel K H0 Hb0 as Hb H M) (h : WR K as Hb v x) (e : view M x = some (.tuple ds)) : x = .d (.tuple ds) := by
  cases x with
  | d y => simp only [view, Option.some.injEq] at e; rw [e]
  | r i =>
    simp only [view] at e
    cases hm : M[i]? with
    | none => rw [hm] at e; simp at e
    | some o =>
      rw [hm] at e
      cases o with
      | lst ws => simp at e
      | ins _ _ => simp at e
      | dic _ => simp at e
      | gone => simp at e
  | k u => simp [view] at e
theorem s_tuple {K : PySem.W.Frag} {mg : Str → Option Value} : SimC K mg (fun xs H Q => ∃ p ys, xs = [.ref p] ∧ ((SqL K H p ys ∧ ∀ l, H l = none → Q (.ref l) (upd H l (.tup ys))) ∨ (SqT K H p ys ∧ Q (.ref p) H))) gTuple := by
  intro w H0 Hb0 as Hb H M σ ws vs r wr Q gd
  match ws, gd with
  | [], gd => exact gd.elim
  | _ :: _ :: _, gd => exact gd.elim
  | [x], gd =>
    obtain ⟨v, rfl, wx⟩ := one_arg_of wr
    unfold gTuple at gd
    cases e : view M x with
    | none => simp only [e] at gd; exact gd.elim
    | some d =>
      cases d with
      | list ds =>
        simp only [e] at gd
        obtain ⟨a, xs, rfl, h1, dz, z⟩ := viewL_ok r wx e
        refine ⟨a, xs, rfl, .inl ⟨SqL.of h1, fun p hp => ?_⟩⟩
        have hbn := r.hbn hp
        exact Good.ok (Good.mono (fut_new hbn) gd) (r.newData hp) (dz_tup (SqT.of upd_same) (dzAll_mono (same_new hbn) dz) z)
      | tuple ds =>
        simp only [e] at gd
        have ex := viewT_ok r wx e
        subst ex
        obtain ⟨h1, f⟩ := id wx
        cases h1 with
        | tup hs ha => exact ⟨_, _, rfl, .inr ⟨same_t r.sub hs, Good.ok gd r wx⟩⟩
      | _ => simp only [e] at gd; exact gd.elim

/-! ### sorted of data -/
def sortD (ds : List PyData) : List PyData := ds.mergeSort (PySem.W.dataLe false id)
def allAlike (ds : List PyData) : Bool := ds.all fun d => ds.all fun d' => PySem.W.alike d d'
def isTup1 : PyData → Bool
  | .tuple (_ :: _) => true
  | _ => false
def isOther : PyData → Bool
  | .tuple _ => false
  | .none => false
  | _ => true
/-- what sorted bears: items alike, all tuples with an item or none of them, not too deep -/
def sortable (ds : List PyData) : Bool := allAlike ds && (ds.all isTup1 || ds.all isOther) && ds.all fun d => decide (d.depth ≤ 60)
def gSorted : List W → Ms → R (List W) := fun ws M => match ws with
  | [x] => (match view M x with
    | some (.list ds) => if sortable ds = true then .ok ((sortD ds).map .d) M else .stuck
    | _ => .stuck)
  | _ => .stuck
def rSortD (K : PySem.W.Frag) : List V → Hp → VK → Prop := fun vs H Q => ∃ (a : Addr) (xs : List V) (ds : List PyData), vs = [.ref a] ∧ SqL K H a xs ∧ DtAll K H xs ds ∧ sortable ds = true ∧ ∀ (ys : List V) (p : Addr), ys.length = xs.length → H p = none →
  (∀ (Hb : Hp), DzAll K Hb xs ds → DzAll K Hb ys (sortD ds)) → Q (.ref p) (upd H p (.lst ys))
end Z

set_option linter.all false
set_option autoImplicit false
set_option maxRecDepth 100000
set_option maxHeartbeats 4000000
namespace Z
open PySem PySem.Spec PyProof.Rows L2

theorem zip_snd {α β : Type} : ∀ {xs : List α} {ds : List β}, xs.length = ds.length → (xs.zip ds).map (·.2) = ds
  | [], [], _ => rfl
  | [], _ :: _, h => by simp at h
  | _ :: _, [], h => by simp at h
  | x :: xs, d :: ds, h => by simp [zip_snd (xs := xs) (ds := ds) (by simpa using h)]
theorem zip_all {α β : Type} {F : α → β → Prop} : ∀ {xs : List α} {ds : List β}, Paired F xs ds → ∀ p ∈ xs.zip ds, F p.1 p.2
  | _, _, .nil, p, h => by simp at h
  | _, _, .cons h t, p, hp => by
    simp only [List.zip_cons_cons, List.mem_cons] at hp
    rcases hp with rfl | hp
    · exact h
    · exact zip_all t p hp
theorem all_pairs {α β : Type} {F : α → β → Prop} : ∀ {l : List (α × β)}, (∀ p ∈ l, F p.1 p.2) → Paired F (l.map (·.1)) (l.map (·.2))
  | [], _ => .nil
  | p :: l, h => .cons (h p List.mem_cons_self) (all_pairs fun q hq => h q (List.mem_cons_of_mem _ hq))
theorem each_vals : ∀ {xs : List V} {ds : List PyData} {its : List Value}, Vals xs its → xs.length = ds.length → PySem.W.EachIs (fun (v : Value) (b : V × PyData) => RelV b.1 v) its (xs.zip ds)
  | _, [], _, .nil, _ => .nil
  | _, _ :: _, _, .nil, h => by simp at h
  | _, [], _, .cons _ _, h => by simp at h
  | _, d :: ds, _, .cons r t, h => .cons r (each_vals t (by simpa using h))
theorem each_reads {X : Cx} {pins : List (Addr × Obj)} {σ : L2.St} {H : Hp} {s : Shared} (I : Inv X pins σ H s) : ∀ {xs : List V} {ds : List PyData} {its : List Value}, Vals xs its → DtAll X.K H xs ds → PySem.W.EachIs (fun (v : Value) (b : V × PyData) => ∃ as, PySem.Reads s.heap v b.2 as) its (xs.zip ds)
  | _, [], _, .nil, _ => .nil
  | _, _ :: _, _, .nil, h => by cases h
  | _, [], _, .cons _ _, h => by cases h
  | _, d :: ds, _, .cons r t, h => by
    cases h with
    | cons h1 h2 => exact .cons (Dp.reads I d _ _ (Dt.dp d _ h1) r) (each_reads I t h2)
theorem dtAll_len {K : PySem.W.Frag} {H : Hp} : ∀ {xs : List V} {ds : List PyData}, DtAll K H xs ds → xs.length = ds.length
  | _, [], h => by cases h; rfl
  | _, d :: ds, h => by
    cases h with
    | cons h1 h2 => simp [dtAll_len h2]
theorem each_rel : ∀ {out : List Value} {bs : List (V × PyData)}, PySem.W.EachIs (fun (v : Value) (b : V × PyData) => RelV b.1 v) out bs → Vals (bs.map (·.1)) out
  | _, _, .nil => .nil
  | _, _, .cons h t => .cons h (each_rel t)
theorem cr_sortD {X : Cx} (hu : X.A.units + 64 < cLine) : CallR X (.builtin "sorted") (rSortD X.K) := by
  intro pins s σ H vs us Q I r h
  obtain ⟨a, xs, ds, rfl, hs, hd, hsort, q⟩ := h
  obtain ⟨its, rv, hl, hz⟩ := I.list hs
  rw [Vals.ref1 r]
  have hlen := dtAll_len hd
  unfold sortable at hsort
  simp only [Bool.and_eq_true, Bool.or_eq_true] at hsort
  obtain ⟨⟨h1, h2⟩, h3⟩ := hsort
  have hsnd : (xs.zip ds).map (fun b : V × PyData => b.2) = ds := zip_snd hlen
  have hal : PySem.W.AllAlike ((xs.zip ds).map (fun b : V × PyData => b.2)) := by
    rw [hsnd]
    intro d hd' d' hd2
    unfold allAlike at h1
    rw [List.all_eq_true] at h1
    have z := h1 d hd'
    rw [List.all_eq_true] at z
    exact z d' hd2
  have hk : PySem.W.Sortable ((xs.zip ds).map (fun b : V × PyData => b.2)) := by
    rw [hsnd]
    rcases h2 with h2 | h2
    · refine .inl fun d hd' => ?_
      rw [List.all_eq_true] at h2
      have z := h2 d hd'
      cases d with
      | tuple l =>
        cases l with
        | nil => simp [isTup1] at z
        | cons x r => exact ⟨x, r, rfl⟩
      | _ => simp [isTup1] at z
    · refine .inr fun d hd' => ?_
      rw [List.all_eq_true] at h2
      have z := h2 d hd'
      refine ⟨fun e => ?_, fun xs e => ?_⟩
      · subst e; simp [isOther] at z
      · subst e; simp [isOther] at z
  rw [List.all_eq_true] at h3
  have hzl : (xs.zip ds).length = xs.length := by rw [List.length_zip, ← hlen, Nat.min_self]
  refine PySem.W.sorted_data (vs := its) (bs := xs.zip ds) (enc := fun b => b.2) (R := fun v b => RelV b.1 v) hl.isList (each_vals rv hlen) (each_reads I rv hd) hal hk (by rw [hzl]; exact hz) (fun b hb => ?_) fun out ho he => ?_
  · have hm : b.2 ∈ ds := by
      rw [← hsnd]
      exact List.mem_map_of_mem (f := fun b : V × PyData => b.2) hb
    have z := of_decide_eq_true (h3 b.2 hm)
    show X.A.units + 2 + b.2.depth < cLine
    omega
  · obtain ⟨ep, he'⟩ := PyProof.Rows.sortedAll_at s.heap its (List.toArray out)
    have hv := each_rel he
    have hol : (((xs.zip ds).mergeSort (PySem.W.dataLe false fun b : V × PyData => b.2)).map (·.1)).length = xs.length := by
      rw [List.length_map, List.length_mergeSort, hzl]
    refine ⟨.ref _, _, I.laid (t' := s.toks) (o := .lst (((xs.zip ds).mergeSort (PySem.W.dataLe false fun b : V × PyData => b.2)).map (·.1))) (fun _ _ => PyProof.Rows.sortedAll_old) (Nat.le_succ _) ⟨by rw [hol]; exact hz, out, ep, hv, ?_⟩, rfl, q _ _ hol (I.hok.fresh (Nat.le_succ _)) fun Hb dz => ?_⟩
    · simpa using he'
    · have hm : ((xs.zip ds).mergeSort (PySem.W.dataLe false fun b : V × PyData => b.2)).map (·.2) = sortD ds := by
        have z := PySem.W.sort_maps (fun b : V × PyData => b.2) (r := PySem.W.dataLe false fun b : V × PyData => b.2) (s := PySem.W.dataLe false id) (l := xs.zip ds) fun a _ b _ => rfl
        rw [hsnd] at z
        exact z
      rw [← hm]
      exact all_pairs fun p hp => zip_all dz p ((List.mergeSort_perm _ _).mem_iff.mp hp)
theorem s_sorted {K : PySem.W.Frag} {mg : Str → Option Value} : SimCL K mg (rSortD K) gSorted := by
  intro w H0 Hb0 as Hb H M σ ws vs r wr Q gd
  match ws, gd with
  | [], gd => exact gd.elim
  | _ :: _ :: _, gd => exact gd.elim
  | [x], gd =>
    obtain ⟨v, rfl, wx⟩ := one_arg_of wr
    unfold gSorted at gd
    cases e : view M x with
    | none => simp only [e] at gd; exact gd.elim
    | some d =>
      cases d with
      | list ds =>
        simp only [e] at gd
        by_cases hc : sortable ds = true
        · simp only [hc, if_true] at gd
          obtain ⟨a, xs, rfl, h1, dz, z⟩ := viewL_ok r wx e
          refine ⟨a, xs, ds, rfl, SqL.of h1, (of_dzAll (dzAll_mono r.sub dz)).1, hc, fun ys p hl hp hh => ?_⟩
          have hy := hh Hb dz
          have hlen : (sortD ds).length = ds.length := List.length_mergeSort ds
          exact Good.ok gd (r.newAny hp) ⟨p, ys, rfl, upd_same, by rw [List.length_map, hlen]; exact z, wrs_of hy, fun hm => r.al p hm hp, r.hbn hp, r.h0n hp⟩
        · simp only [hc, if_false] at gd
          exact gd.elim
      | _ => simp only [e] at gd; exact gd.elim

/-! ### isinstance -/
def tagD : PyData → String
  | .none => "NoneType"
  | .bool _ => "bool"
  | .int _ => "int"
  | .str _ => "str"
  | .list _ => "list"
  | .tuple _ => "tuple"
  | .dict _ => "dict"
def tagW (M : Ms) : W → Option String
  | .d x => some (tagD x)
  | .r i => match M[i]? with
    | some (.lst _) => some "list"
    | some (.dic _) => some "dict"
    | _ => none
  | .k _ => none
/-- the answer for two built-in types -/
def isTy (a b : String) : Bool := a == b || (a == "bool" && b == "int")
theorem isTy_ok (a b : String) (ha : a ∈ ["NoneType", "bool", "int", "str", "list", "tuple", "dict"]) (hb : b ∈ ["bool", "int", "str", "list", "tuple", "dict"]) : kitB a b = some (isTy a b) := by
  simp only [List.mem_cons, List.mem_nil_iff, or_false] at ha hb
  rcases ha with rfl | rfl | rfl | rfl | rfl | rfl | rfl <;> rcases hb with rfl | rfl | rfl | rfl | rfl | rfl <;> decide +kernel
section
variable {K : PySem.W.Frag} {mg : Str → Option Value}
theorem tagD_mem (x : PyData) : tagD x ∈ ["NoneType", "bool", "int", "str", "list", "tuple", "dict"] := by
  cases x <;> simp [tagD]
theorem dt_ty {H : Hp} {v : V} {x : PyData} (h : Dt K H v x) : TyX K H v (.type (tagD x)) := by
  cases h with
  | non => exact .base .non
  | bl b => exact .base (.bl b)
  | int i => exact .base (.int i)
  | str s => exact .base (.str s)
  | lst hs ha => exact .base (.lst hs)
  | tup hs ha =>
    rcases hs with (h | ⟨o, h⟩) | ⟨o, its, n, h, hc, _⟩
    · exact .base (.tup h)
    · exact .fTuple h
    · exact .kTuple h hc
theorem tag_ok {H0 Hb0 Hb H : Hp} {as : List Addr} {M : Ms} {x : W} {v : V} {t : String} (r : Rel K H0 Hb0 as Hb H M) (h : WR K as Hb v x) (e : tagW M x = some t) : TyX K H v (.type t) ∧ t ∈ ["NoneType", "bool", "int", "str", "list", "tuple", "dict"] := by
  cases x with
  | d y =>
    simp only [tagW, Option.some.injEq] at e
    subst e
    exact ⟨dt_ty (Dz.mono r.sub h).1, tagD_mem y⟩
  | r i =>
    obtain ⟨a, h1, rfl⟩ := h
    simp only [tagW] at e
    cases hm : M[i]? with
    | none => rw [hm] at e; simp at e
    | some o =>
      rw [hm] at e
      cases o with
      | lst ws =>
        simp only [Option.some.injEq] at e
        subst e
        obtain ⟨z, vs, h2, h3⟩ := r.at' i a _ h1 hm
        exact ⟨.base (.lst h2), by simp⟩
      | dic kvs =>
        simp only [Option.some.injEq] at e
        subst e
        obtain ⟨z, vs, h2, h3⟩ := r.at' i a _ h1 hm
        exact ⟨.base (.dK h2), by simp⟩
      | ins _ _ => simp at e
      | gone => simp at e
  | k u => simp [tagW] at e
def tyOk (t : String) : Bool := ["bool", "int", "str", "list", "tuple", "dict"].contains t
def gIsi : List W → Ms → R W := fun ws M => match ws with
  | [x, .k (.ty t)] => (match tagW M x with
    | some a => if tyOk t = true then .ok (.d (.bool (isTy a t))) M else .stuck
    | none => .stuck)
  | _ => .stuck
theorem s_isi : SimC K mg (rIsi K) gIsi := by
  intro w H0 Hb0 as Hb H M σ ws vs r wr Q gd
  match ws, gd with
  | [], gd => exact gd.elim
  | [x, .k (.ty t)], gd =>
    obtain ⟨v, u, rfl, wx, wy⟩ := two_args_of wr
    have eu : u = .ty t := wy
    subst eu
    unfold gIsi at gd
    cases e : tagW M x with
    | none => simp only [e] at gd; exact gd.elim
    | some a =>
      simp only [e] at gd
      by_cases hc : tyOk t = true
      · simp only [hc, if_true] at gd
        obtain ⟨ty, hm⟩ := tag_ok r wx e
        have ht : t ∈ ["bool", "int", "str", "list", "tuple", "dict"] := by simpa [tyOk] using hc
        exact ⟨v, .ty t, .type a, .type t, isTy a t, rfl, .ty t, ty, kit_ty (isTy_ok a t hm ht), Good.ok gd r (wr_bl _)⟩
      · simp only [hc, if_false] at gd
        exact gd.elim
/-- isinstance(x, (T1, T2)) -/
def pIsi2 (p : PEx) (t1 t2 : String) : PEx := fun s M => (p s M).bind fun x M1 => match tagW M1 x with
  | some a => if tyOk t1 = true ∧ tyOk t2 = true then .ok (.d (.bool (isTy a t1 || isTy a t2))) M1 else .stuck
  | none => .stuck
end
section
variable {X : Cx} {w : WX} {x c1 c2 : Str} {e : Expr} {pe : PEx} {p p1 p2 pos pt : Pos} {k : Nat} {t1 t2 : String}
theorem je_isi2 (hm : X.mg "isinstance" = none) (h1 : X.mg c1 = none) (h2 : X.mg c2 = none) (ha : JE X w e pe) (v1 : bootBuiltins c1 = some (.type t1) := by decide +kernel) (v2 : bootBuiltins c2 = some (.type t2) := by decide +kernel)
    (hg : Gl X "isinstance" := by rfl) (g1 : Gl X c1 := by rfl) (g2 : Gl X c2 := by rfl) (n1 : c1 ≠ "__name__" := by decide) (n2 : c2 ≠ "__name__" := by decide) (d1 : (c1 == ("__debug__" : Str)) = false := by decide) (d2 : (c2 == ("__debug__" : Str)) = false := by decide)
    (he : starEach (e :: [.Tuple [.Name c1 p1, .Name c2 p2] k pt]) X.env = (false, eval e X.env) :: starEach [.Tuple [.Name c1 p1, .Name c2 p2] k pt] X.env := by rfl)
    (he2 : starEach (.Tuple [.Name c1 p1, .Name c2 p2] k pt :: []) X.env = (false, eval (.Tuple [.Name c1 p1, .Name c2 p2] k pt) X.env) :: starEach [] X.env := by rfl)
    (he3 : starEach (.Name c1 p1 :: [.Name c2 p2]) X.env = (false, eval (.Name c1 p1) X.env) :: starEach [.Name c2 p2] X.env := by rfl)
    (he4 : starEach (.Name c2 p2 :: []) X.env = (false, eval (.Name c2 p2) X.env) :: starEach [] X.env := by rfl)
    (hpl : (backTo pos (starEach [.Tuple [.Name c1 p1, .Name c2 p2] k pt] X.env)).any (·.1) = false := by rfl) :
    JE X w (.Call (.Name "isinstance" p) [e, .Tuple [.Name c1 p1, .Name c2 p2] k pt] [] pos) (pIsi2 pe t1 t2) := by
  obtain ⟨t, ea, sa⟩ := ha
  refine ⟨_, pe_callB call_isiT hg hm (by decide +kernel) (pa_cons ea (pa_cons (pe_tup (pa_cons (pe_bltn (v := .ty t1) g1 h1 v1 rfl n1 d1) (pa_cons (pe_bltn (v := .ty t2) g2 h2 v2 rfl n2 d2) pa_nil he4) he3)) pa_nil he2) he) (by decide) (by decide) he hpl, fun H0 Hb0 as Hb H M σ s r S Q gd => ?_⟩
  refine Good.bind sa r S gd fun v x as1 Hb1 H1 M1 r1 f1 S1 w1 g1 => ?_
  cases e : tagW M1 x with
  | none => simp only [e] at g1; exact g1.elim
  | some a =>
    simp only [e] at g1
    by_cases hc : tyOk t1 = true ∧ tyOk t2 = true
    · simp only [hc, and_self, if_true] at g1
      refine ⟨by show 2 ≤ sizeLine; decide, fun q hq => ?_⟩
      have r2 := r1.newAny (o := .tup [.ty t1, .ty t2]) hq
      obtain ⟨ty, hm⟩ := tag_ok r2 w1 e
      have ht1 : t1 ∈ ["bool", "int", "str", "list", "tuple", "dict"] := by simpa [tyOk] using hc.1
      have ht2 : t2 ∈ ["bool", "int", "str", "list", "tuple", "dict"] := by simpa [tyOk] using hc.2
      refine ⟨v, q, [.ty t1, .ty t2], .type a, [.type t1, .type t2], isTy a t1 || isTy a t2, rfl, upd_same, .cons (.ty t1) (.cons (.ty t2) .nil), ty, ?_, Good.ok g1 r2 (wr_bl _)⟩
      have k1 : PySem.W.kitOne X.K (.type a) (.type t1) = some (isTy a t1) := kit_ty (isTy_ok a t1 hm ht1)
      have k2 : PySem.W.kitOne X.K (.type a) (.type t2) = some (isTy a t2) := kit_ty (isTy_ok a t2 hm ht2)
      refine kitAny_cons k1 (fun h => kitAny_cons k2 (fun h' => ?_) fun h' => ?_) fun h => ?_
      · rw [h, h']; exact kitAny_nil
      · rw [h, h']; rfl
      · rw [h]; rfl
    · simp only [hc, if_false] at g1
      exact g1.elim
end
end Z

set_option linter.all false
set_option autoImplicit false
set_option maxRecDepth 100000
set_option maxHeartbeats 4000000
namespace Z
open PySem PySem.Spec PyProof.Rows L2

/-! ### defs: what a body comes to, what a def promises -/
abbrev PF := List W → Ms → R W
def O.toR : O → R W
  | .nx _ m => .ok (.d .none) m
  | .rt x m => .ok x m
  | .exc e _ m => .exc e m
  | _ => .stuck
def startS (n : Nat) (ws : List W) : Sl := ws.map some ++ List.replicate (n - ws.length) none
/-- n slots, k parameters -/
def runG (n k : Nat) (b : PSx) : PF := fun ws M => if ws.length = k then (b (startS n ws) M).toR else .stuck
def SpG (K : PySem.W.Frag) (mg : Str → Option Value) (F : PF) : Sp := fun vs H Q E =>
  ∃ (H0 Hb0 : Hp) (as : List Addr) (Hb : Hp) (M : Ms) (ws : List W), Rel K H0 Hb0 as Hb H M ∧ WRs K as Hb vs ws ∧ Good (repW K) K mg (fun c d _ H' => E c d H') H0 Hb0 as Hb ([] : L2.St) Q (F ws M)
theorem slots_none {K : PySem.W.Frag} {as : List Addr} {Hb : Hp} : ∀ n : Nat, Slots K as Hb (List.replicate n none) (List.replicate n none)
  | 0 => .nil
  | n + 1 => .cons (fun _ e => by cases e) (slots_none n)
theorem slots_start {K : PySem.W.Frag} {as : List Addr} {Hb : Hp} {N : List Str} {vs : List V} {ws : List W} (h : WRs K as Hb vs ws) : Slots K as Hb (L2.start N vs) (startS N.length ws) := by
  unfold L2.start startS
  rw [Paired.len h]
  refine Paired.app ?_ (slots_none _)
  induction h with
  | nil => exact .nil
  | cons h1 h2 ih => exact .cons (fun u e => ⟨_, rfl, by cases e; exact h1⟩) ih
section
variable {P : Program} {w : World} {K : PySem.W.Frag} {mg : Str → Option Value} {base : Heap}
theorem SpG.len {n k : Nat} {b : PSx} {vs : List V} {H : Hp} {Q : VK} {E : XK} (h : SpG K mg (runG n k b) vs H Q E) : vs.length = k := by
  obtain ⟨H0, Hb0, as, Hb, M, ws, r, wr, g⟩ := h
  unfold runG at g
  by_cases z : ws.length = k
  · rw [Paired.len wr, z]
  · simp only [z, if_false] at g
    exact g.elim
theorem body_G {X : Cx} {N : List Str} {body : List Stmt} {b : PSx} {k : Nat} {H : Hp} {vs : List V} {Q : VK} {E : XK} (hX : X.K = K) (hm : X.mg = mg) (hsp : SpG K mg (runG N.length k b) vs H Q E) (j : JSs X (fun c d _ H' => E c d H') body b) :
    ∃ t, PSs X body t ∧ t { nx := fun _ H' => Q .non H', rt := Q } (L2.start N vs) H := by
  subst hX hm
  obtain ⟨t, e, sm⟩ := j
  obtain ⟨H0, Hb0, as, Hb, M, ws, r, wr, g⟩ := hsp
  unfold runG at g
  by_cases z : ws.length = k
  · simp only [z, if_true] at g
    refine ⟨t, e, sm H0 Hb0 as Hb H M _ _ r (slots_start wr) _ ?_⟩
    cases q : b (startS N.length ws) M with
    | nx s' M' => rw [q] at g; exact fun σ' as' Hb' H' r' f' S' => g .non as' Hb' H' r' f' wr_non
    | rt x M' => rw [q] at g; exact fun v as' Hb' H' r' f' w' => g v as' Hb' H' r' f' w'
    | exc e s' M' => rw [q] at g; exact fun σ' as' Hb' H' cls d r' f' S' er => g as' Hb' H' cls d r' f' er
    | bk s' M' => rw [q] at g; exact g.elim
    | ct s' M' => rw [q] at g; exact g.elim
    | stuck => rw [q] at g; exact g.elim
  · simp only [z, if_false] at g
    exact g.elim
/-- a def of the text -/
theorem fn_G {x qual : Str} {st : Stmt} {f : Addr} {fd : FuncData} {N ps : List Str} {k : Nat} {b : PSx} (F : Fun K x qual st f fd) (S : FnScope N ps (defScope st))
    (hb : ∀ (cdv : Value) (A : Around) (outer : List Env) (s : Shared) (H : Hp) (E : XK), Room k (A.deeper (envOfC qual (defScope st) s.heap.objs.size f cdv)) → JSs (cxOf (L2N.CX P w) P w K mg base N qual (defScope st) f cdv A outer s H E) (fun c d _ H' => E c d H') (defBody st) b) :
    FnOk P w K mg base (L2N.CX P w) (k + 1) f fd ps (SpG K mg (runG N.length ps.length b)) :=
by
  obtain ⟨oc, od, kV, doc, pm, an, cdv, ct, osl, rfl, lk, hcd⟩ := F.ex
  exact fn_of lk hcd S (fun vs H Q E h => h.len) fun A outer s H vs Q E hr hsp => body_G rfl rfl hsp (hb cdv A outer s H E hr)
/-- .. with defaults -/
theorem fn_GD {x qual : Str} {params : Arguments} {body : List Stmt} {scope : Scope} {dvs : List V} {kws : List (Str × V)} {f : Addr} {fd : FuncData} {N ps : List Str} {k : Nat} {b : PSx} (F : FunD K x qual params body scope dvs kws f fd) (S : FnScope N ps scope)
    (hb : ∀ (cdv : Value) (A : Around) (outer : List Env) (s : Shared) (H : Hp) (E : XK), Room k (A.deeper (envOfC qual scope s.heap.objs.size f cdv)) → JSs (cxOf (L2N.CX P w) P w K mg base N qual scope f cdv A outer s H E) (fun c d _ H' => E c d H') body b) :
    FnOk P w K mg base (L2N.CX P w) (k + 1) f fd ps (SpG K mg (runG N.length ps.length b)) :=
  F.ok S (fun vs H Q E h => h.len) fun cdv A outer s H vs Q E hr hsp => body_G rfl rfl hsp (hb cdv A outer s H E hr)
end

/-! ### calls -/
theorem pass0 {X : Cx} {σ : L2.St} : PassesAt (L2N.CX X.prog X.w) X σ (WE wNone σ) := fun _ _ _ _ _ _ h => by
  obtain ⟨_, _, _, _, _, _, _, _, _, _, _, _, z⟩ := h
  exact z.elim
/-- a name that holds a def: its promise, its place -/
structure IsFn (P : Program) (w : World) (K : PySem.W.Frag) (mg : Str → Option Value) (base : Heap) (k : Nat) (x : Str) (ps : List Str) (dds : List PyData) (F : PF) : Prop where
  ex : ∃ f fd dvs ds, mg x = some (.ref f) ∧ PySem.W.keepIn K (.ref f) = true ∧ FnOk P w K mg base (L2N.CX P w) k f fd ps (SpG K mg F) ∧ Binds K fd ps ds ∧ Vals dvs ds ∧ DtAll K (fun _ => none) dvs dds ∧ fitsAll dds
theorem IsFn.mono {P : Program} {w : World} {K : PySem.W.Frag} {mg : Str → Option Value} {base : Heap} {j k : Nat} {x : Str} {ps : List Str} {dds : List PyData} {F : PF} (h : IsFn P w K mg base j x ps dds F) (l : j ≤ k) : IsFn P w K mg base k x ps dds F := by
  obtain ⟨f, fd, dvs, ds, h1, h2, h3, h4⟩ := h.ex
  exact ⟨f, fd, dvs, ds, h1, h2, h3.mono l, h4⟩
/-- the call as it stands: the callee works on what there is -/
def pCallG (F : PF) (dds : List PyData) (a : PAx) : PEx := fun s M => (a s M).bind fun ws M1 => F (ws ++ dds.map .d) M1
/-- the call of what changes nothing, with data, with lists seen as data; what it makes is data from now on -/
def viewAll (M : Ms) : List W → Option (List PyData)
  | [] => some []
  | x :: ws => match view M x with
    | some d => (viewAll M ws).map (d :: ·)
    | none => none
def scalar : PyData → Bool
  | .none => true | .bool _ => true | .int _ => true | .str _ => true | _ => false
/-- outcome of a pure call -/
inductive PR where
  | ok (d : PyData) | exc (e : Exn) | stuck
def R.freeze : R W → PR
  | .ok (.d x) _ => .ok x
  | .ok (.r i) m => match m[i]? with
    | some (.lst ws) => (match allD ws with
      | some ds => .ok (.list ds)
      | none => .stuck)
    | _ => .stuck
  | .ok (.k _) _ => .stuck
  | .exc e _ => .exc e
  | .stuck => .stuck
def PF.pure (F : PF) (ds : List PyData) : PR := (F (ds.map .d) []).freeze
def PR.to (r : PR) (M : Ms) : R W := match r with
  | .ok d => .ok (.d d) M
  | .exc e => .exc e M
  | .stuck => .stuck
def pCallP (F : PF) (dds : List PyData) (a : PAx) : PEx := fun s M => (a s M).bind fun ws M1 => match allD ws with
  | some ds => (F.pure (ds ++ dds)).to M1
  | none => match viewAll M1 ws with
    | some ds => (match F.pure (ds ++ dds) with
      | .ok d => if scalar d then .ok (.d d) M1 else .stuck
      | .exc e => .exc e M1
      | .stuck => .stuck)
    | none => .stuck
theorem rel_self {K : PySem.W.Frag} {H Hb : Hp} (h : Same Hb H) : Rel K H Hb [] Hb H [] where
  sub := h
  top := Same.refl _
  len := rfl
  nd := .nil
  al := fun a ha => by cases ha
  off := fun i a o h1 => by simp at h1
  off0 := fun a ha => by cases ha
  b0 := Same.refl _
  at' := fun i a o h1 => by simp at h1
  hb0 := fun a h1 h2 => absurd h2 h1
theorem viewAll_ok {K : PySem.W.Frag} {H0 Hb0 Hb H : Hp} {as : List Addr} {M : Ms} (r : Rel K H0 Hb0 as Hb H M) : ∀ {ws : List W} {vs : List V} {ds : List PyData}, WRs K as Hb vs ws → viewAll M ws = some ds → DzAll K H vs ds
  | [], _, _, h, e => by cases h; simp [viewAll] at e; subst e; exact .nil
  | x :: ws, _, ds, h, e => by
    cases h with
    | cons h1 h2 =>
      unfold viewAll at e
      cases ex : view M x with
      | none => rw [ex] at e; cases e
      | some d =>
        rw [ex] at e
        simp only [Option.map_eq_some_iff] at e
        obtain ⟨r1, e1, rfl⟩ := e
        exact .cons (view_ok r h1 ex) (viewAll_ok r h2 e1)
theorem scalar_any {K : PySem.W.Frag} {H H' : Hp} {v : V} {d : PyData} (h : Dz K H v d) (s : scalar d = true) : Dz K H' v d := by
  obtain ⟨h1, h2⟩ := h
  cases h1 with
  | non => exact ⟨.non, trivial⟩
  | bl b => exact ⟨.bl b, trivial⟩
  | int i => exact ⟨.int i, trivial⟩
  | str x => exact ⟨.str x, h2⟩
  | lst _ _ => cases s
  | tup _ _ => cases s
/-- what a pure call leaves -/
theorem freeze_ok {K : PySem.W.Frag} {mg : Str → Option Value} {wE : WX} {σ : L2.St} {H H0 Hb0 Hb Hc : Hp} {as : List Addr} {M : Ms} {Q : VK} {r : R W} (R0 : Rel K H0 Hb0 as Hb H M) (hc : Same Hc H)
    (ok : ∀ d, r.freeze = .ok d → ∀ v H' Hb', Same H H' → Same Hc Hb' → Same Hb' H' → (∀ a, Hb' a ≠ none → Hc a = none → H a = none) → Dz K Hb' v d → Q v H')
    (ex : ∀ e, r.freeze = .exc e → ∀ H' cls d, Same H H' → ExnR K mg e cls d H' → wE cls d σ H')
    (st : r.freeze ≠ .stuck) : Good (repW K) K mg (fun c d _ H' => wE c d σ H') H Hc [] Hc ([] : L2.St) Q r := by
  cases r with
  | stuck => exact (st rfl).elim
  | exc e m => exact fun as' Hb' H' cls d r' f' er => ex e rfl H' cls d r'.top er
  | ok x m =>
    intro v as' Hb' H' r' f' wr
    cases x with
    | d x => exact ok x rfl v H' Hb' r'.top f'.ex r'.sub r'.hb0 wr
    | k u => exact (st rfl).elim
    | r i =>
      obtain ⟨a, ha, rfl⟩ := wr
      cases hm : m[i]? with
      | none => exact (st (by simp [R.freeze, hm])).elim
      | some o =>
        cases o with
        | ins _ _ => exact (st (by simp [R.freeze, hm])).elim
        | dic _ => exact (st (by simp [R.freeze, hm])).elim
        | gone => exact (st (by simp [R.freeze, hm])).elim
        | lst ws =>
          cases hd : allD ws with
          | none => exact (st (by simp [R.freeze, hm, hd])).elim
          | some ds =>
            obtain ⟨z, vs, h2, h3⟩ := r'.at' i a _ ha hm
            have hbn := r'.off i a _ ha hm (by simp)
            have h0n := r'.off0 a (List.mem_of_getElem? ha)
            have dz := allD_ok h3 hd
            have hl : ws.length = ds.length := (Paired.len h3).symm.trans (Paired.len dz)
            refine ok (.list ds) (by simp [R.freeze, hm, hd]) (.ref a) H' (upd Hb' a (.lst vs)) r'.top (f'.ex.trans (same_new hbn)) (fun b u e => ?_) (fun b h1 h2 => ?_) (dz_lst upd_same (dzAll_mono (same_new hbn) dz) (hl ▸ z))
            · by_cases hb : b = a
              · subst hb; rw [upd_same] at e; cases e; exact h2
              · rw [upd_ne hb] at e; exact r'.sub b u e
            · by_cases hb : b = a
              · subst hb; exact h0n
              · rw [upd_ne hb] at h1; exact r'.hb0 b h1 h2
section
variable {X : Cx} {w : WX} {k : Nat} {x : Str} {ps : List Str} {dds : List PyData} {F : PF} {e : Expr} {es : List Expr} {pa : PAx} {p pos : Pos}
theorem dz_nil {K : PySem.W.Frag} {Hb : Hp} : ∀ {dvs : List V} {dds : List PyData}, DtAll K (fun _ => none) dvs dds → fitsAll dds → DzAll K Hb dvs dds
  | _, _, h, f => dzAll_mono (fun _ _ z => by cases z) (dzAll_of h f)
theorem je_callG (hF : IsFn X.prog X.w X.K X.mg X.base k x ps dds F) (hr : Room k X.A) (hx : ∀ σ, PassesAt (L2N.CX X.prog X.w) X σ (WE w σ)) (ha : JA X w (e :: es) pa) (hg : Gl X x := by rfl) (hdb : (x == ("__debug__" : Str)) = false := by decide)
    (he : starEach (e :: es) X.env = (false, eval e X.env) :: starEach es X.env := by rfl) (hpl : (backTo pos (starEach es X.env)).any (·.1) = false := by rfl) : JE X w (.Call (.Name x p) (e :: es) [] pos) (pCallG F dds pa) := by
  obtain ⟨f, fd, dvs, ds, hm, hk, hf, hb, hv, hd, hz⟩ := hF.ex
  obtain ⟨t, ea, sa⟩ := ha
  refine ⟨_, pe_callSD hf hr hg hm hk hb hv hx ea hdb he hpl, fun H0 Hb0 as Hb H M σ s r S Q g => ?_⟩
  refine Good.bind sa r S g fun vs ws as1 Hb1 H1 M1 r1 f1 S1 w1 g1 => ?_
  refine ⟨H0, Hb0, as1, Hb1, M1, ws ++ dds.map .d, r1, Paired.app w1 (wrs_of (dz_nil hd hz)), ?_⟩
  cases q : F (ws ++ dds.map .d) M1 with
  | ok a m => rw [q] at g1; exact g1
  | exc a m => rw [q] at g1; exact g1
  | stuck => rw [q] at g1; exact g1
theorem allD_view {M : Ms} : ∀ {ws : List W} {ds : List PyData}, allD ws = some ds → ws = ds.map .d
  | [], _, e => by simp [allD] at e; subst e; rfl
  | .d x :: ws, ds, e => by
    simp only [allD, Option.map_eq_some_iff] at e
    obtain ⟨r, e1, rfl⟩ := e
    rw [allD_view (M := M) e1]; rfl
  | .r i :: ws, _, e => by simp [allD] at e
  | .k v :: ws, _, e => by simp [allD] at e
theorem je_callP (hF : IsFn X.prog X.w X.K X.mg X.base k x ps dds F) (hr : Room k X.A) (hx : ∀ σ, PassesAt (L2N.CX X.prog X.w) X σ (WE w σ)) (ha : JA X w (e :: es) pa) (hg : Gl X x := by rfl) (hdb : (x == ("__debug__" : Str)) = false := by decide)
    (he : starEach (e :: es) X.env = (false, eval e X.env) :: starEach es X.env := by rfl) (hpl : (backTo pos (starEach es X.env)).any (·.1) = false := by rfl) : JE X w (.Call (.Name x p) (e :: es) [] pos) (pCallP F dds pa) := by
  obtain ⟨f, fd, dvs, ds', hm, hk, hf, hb, hv, hd, hz⟩ := hF.ex
  obtain ⟨t, ea, sa⟩ := ha
  refine ⟨_, pe_callSD hf hr hg hm hk hb hv hx ea hdb he hpl, fun H0 Hb0 as Hb H M σ s r S Q g => ?_⟩
  refine Good.bind sa r S g fun vs ws as1 Hb1 H1 M1 r1 f1 S1 w1 g1 => ?_
  cases hall : allD ws with
  | some ds =>
    rw [hall] at g1
    have dz := allD_ok w1 hall
    have all : WRs X.K [] Hb1 (vs ++ dvs) ((ds ++ dds).map .d) := by
      rw [List.map_append]
      exact Paired.app (wrs_of dz) (wrs_of (dz_nil hd hz))
    refine ⟨H1, Hb1, [], Hb1, [], _, rel_self r1.sub, all, ?_⟩
    refine freeze_ok (wE := w) (σ := σ) r1 r1.sub (fun d q v H' Hb' e1 e2 e3 fr z => ?_) (fun e q H' cls d e1 er => ?_) (fun q => ?_)
    · have g2 : Good (repW X.K) X.K X.mg w H0 Hb0 as1 Hb1 σ Q (.ok (.d d) M1) := by
        have : (F.pure (ds ++ dds)).to M1 = .ok (.d d) M1 := by unfold PF.pure; rw [q]; rfl
        rw [← this]; exact g1
      exact g2 v as1 Hb' H' (r1.grow e1 e2 e3 fr) ⟨e2, [], by simp⟩ z
    · have g2 : Good (repW X.K) X.K X.mg w H0 Hb0 as1 Hb1 σ Q (.exc e M1) := by
        have : (F.pure (ds ++ dds)).to M1 = .exc e M1 := by unfold PF.pure; rw [q]; rfl
        rw [← this]; exact g1
      exact g2 as1 Hb1 H' cls d (r1.grow e1 (Same.refl _) (r1.sub.trans e1) (fun a h1 h2 => absurd h2 h1)) Fut.refl er
    · have : (F.pure (ds ++ dds)).to M1 = .stuck := by unfold PF.pure; rw [q]; rfl
      have g2 : Good (repW X.K) X.K X.mg w H0 Hb0 as1 Hb1 σ Q .stuck := by rw [← this]; exact g1
      exact g2.elim
  | none =>
    rw [hall] at g1
    cases hva : viewAll M1 ws with
    | none => rw [hva] at g1; exact g1.elim
    | some ds =>
      rw [hva] at g1
      have dz := viewAll_ok r1 w1 hva
      have all : WRs X.K [] H1 (vs ++ dvs) ((ds ++ dds).map .d) := by
        rw [List.map_append]
        exact Paired.app (wrs_of dz) (wrs_of (dz_nil hd hz))
      refine ⟨H1, H1, [], H1, [], _, rel_self (Same.refl _), all, ?_⟩
      refine freeze_ok (wE := w) (σ := σ) r1 (Same.refl _) (fun d q v H' Hb' e1 e2 e3 fr z => ?_) (fun e q H' cls d e1 er => ?_) (fun q => ?_)
      · have qq : F.pure (ds ++ dds) = .ok d := q
        simp only [qq] at g1
        by_cases sc : scalar d = true
        · simp only [sc, if_true] at g1
          exact g1 v as1 Hb1 H' (r1.grow e1 (Same.refl _) (r1.sub.trans e1) (fun a h1 h2 => absurd h2 h1)) Fut.refl (scalar_any z sc)
        · simp only [sc] at g1
          exact g1.elim
      · have qq : F.pure (ds ++ dds) = .exc e := q
        simp only [qq] at g1
        exact g1 as1 Hb1 H' cls d (r1.grow e1 (Same.refl _) (r1.sub.trans e1) (fun a h1 h2 => absurd h2 h1)) Fut.refl er
      · have qq : F.pure (ds ++ dds) = .stuck := q
        simp only [qq] at g1
        exact g1.elim
end
end Z

set_option linter.all false
set_option autoImplicit false
set_option maxRecDepth 100000
set_option maxHeartbeats 4000000
namespace Z
open PySem PySem.Spec PyProof.Rows L2

/-! ### instances -/
def insOf (C : Addr) (M : Ms) : W → Option (Nat × List (Str × W))
  | .r i => match M[i]? with
    | some (.ins C' fs) => if C' = C then some (i, fs) else none
    | _ => none
  | _ => none
def putW (f : Str) (v : W) : List (Str × W) → List (Str × W)
  | [] => [(f, v)]
  | (g, x) :: r => if g = f then (g, v) :: r else (g, x) :: putW f v r
abbrev PairF (K : PySem.W.Frag) (as : List Addr) (Hb : Hp) : List (Str × V) → List (Str × W) → Prop := Paired (fun (p : Str × V) (q : Str × W) => p.1 = q.1 ∧ WR K as Hb p.2 q.2)
section
variable {K : PySem.W.Frag} {H0 Hb0 Hb H : Hp} {as : List Addr} {M : Ms} {v : V} {x : W} {C : Addr}
theorem insOf_ok (r : Rel K H0 Hb0 as Hb H M) (h : WR K as Hb v x) {i : Nat} {fs : List (Str × W)} (e : insOf C M x = some (i, fs)) : ∃ a dx fv, x = .r i ∧ as[i]? = some a ∧ v = .ref a ∧ H a = some (.ins C dx fv) ∧ PairF K as Hb fv fs ∧ M[i]? = some (.ins C fs) := by
  cases x with
  | d _ => cases e
  | k _ => cases e
  | r j =>
    obtain ⟨a, h1, rfl⟩ := h
    simp only [insOf] at e
    cases hm : M[j]? with
    | none => rw [hm] at e; cases e
    | some o =>
      rw [hm] at e
      cases o with
      | lst _ => cases e
      | dic _ => cases e
      | gone => cases e
      | ins C' gs =>
        by_cases hc : C' = C
        · simp only [hc, if_true, Option.some.injEq, Prod.mk.injEq] at e
          obtain ⟨rfl, rfl⟩ := e
          subst hc
          obtain ⟨dx, fv, h2, h3⟩ := r.at' j a _ h1 hm
          exact ⟨a, dx, fv, rfl, h1, rfl, h2, h3, hm⟩
        · simp only [hc, if_false] at e
          cases e
theorem lookup_pf {fv : List (Str × V)} {fs : List (Str × W)} {f : Str} (h : PairF K as Hb fv fs) : (∀ y, fs.lookup f = some y → ∃ u, fv.lookup f = some u ∧ WR K as Hb u y) ∧ (fs.lookup f = none → fv.lookup f = none) := by
  induction h with
  | nil => exact ⟨fun y e => (by cases e), fun _ => rfl⟩
  | @cons p q l m h1 h2 ih =>
    obtain ⟨p1, p2⟩ := p
    obtain ⟨q1, q2⟩ := q
    obtain ⟨e1, e2⟩ := h1
    dsimp only at e1 e2
    subst e1
    simp only [List.lookup_cons]
    cases hk : f == p1 with
    | true => exact ⟨fun y e => ⟨p2, rfl, by cases e; exact e2⟩, fun e => by cases e⟩
    | false => exact ih
theorem putW_pf {fv : List (Str × V)} {fs : List (Str × W)} {f : Str} {u : V} {y : W} (hu : WR K as Hb u y) (h : PairF K as Hb fv fs) : PairF K as Hb (putF f u fv) (putW f y fs) := by
  induction h with
  | nil => exact .cons ⟨rfl, hu⟩ .nil
  | @cons p q l m h1 h2 ih =>
    obtain ⟨p1, p2⟩ := p
    obtain ⟨q1, q2⟩ := q
    obtain ⟨e1, e2⟩ := h1
    dsimp only at e1 e2
    subst e1
    show PairF K as Hb (if p1 = f then (p1, u) :: l else (p1, p2) :: putF f u l) (if p1 = f then (p1, y) :: m else (p1, q2) :: putW f y m)
    by_cases hc : p1 = f
    · rw [if_pos hc, if_pos hc]; exact .cons ⟨rfl, hu⟩ h2
    · rw [if_neg hc, if_neg hc]; exact .cons ⟨rfl, e2⟩ ih
end
def pFld (C : Addr) (f : Str) (p : PEx) : PEx := fun s M => (p s M).bind fun x M1 => match insOf C M1 x with
  | some (_, fs) => (match fs.lookup f with
    | some y => .ok y M1
    | none => .stuck)
  | none => .stuck
def pSetF (C : Addr) (f : Str) (pv po : PEx) : PSx := fun s M => (pv s M).to s fun y M1 => (po s M1).to s fun x M2 => match insOf C M2 x with
  | some (i, fs) => if fs.length < 1000 then .nx s (M2.set i (.ins C (putW f y fs))) else .stuck
  | none => .stuck
section
variable {X : Cx} {w : WX} {C : Addr} {f : Str} {e o value : Expr} {pe po pv : PEx} {pos pos' : Pos}
theorem je_fld (cl : Cls X.K C) (na : NoAttr X.K C f) (h : JE X w e pe) (hb : attributeBase e f X.env (eval e X.env) = eval e X.env := by rfl) : JE X w (.Attribute e f pos) (pFld C f pe) := by
  obtain ⟨t, e1, s1⟩ := h
  refine ⟨_, pe_fld e1 hb, fun H0 Hb0 as Hb H M σ s r S Q g => ?_⟩
  refine Good.bind s1 r S g fun v x as1 Hb1 H1 M1 r1 f1 S1 w1 g1 => ?_
  cases hi : insOf C M1 x with
  | none => rw [hi] at g1; exact g1.elim
  | some p =>
    obtain ⟨i, fs⟩ := p
    rw [hi] at g1
    obtain ⟨a, dx, fv, rfl, ha, rfl, hH, hp, hm⟩ := insOf_ok r1 w1 hi
    dsimp only at g1
    cases hl : fs.lookup f with
    | none => rw [hl] at g1; exact g1.elim
    | some y =>
      rw [hl] at g1
      obtain ⟨u, hu, wu⟩ := (lookup_pf hp).1 y hl
      exact ⟨a, C, dx, fv, u, rfl, hH, cl, na, hu, Good.ok g1 r1 wu⟩
theorem js_fld (cl : Cls X.K C) (na : NoAttr X.K C f) (ho : JE X w o po) (hv : JE X w value pv) (hs : swapsWith value (some (.Attribute o f pos')) pos.line X.env = pure false := by rfl) : JS X w (.Assign [.Attribute o f pos'] value pos) (pSetF C f pv po) := by
  obtain ⟨t, e1, s1⟩ := ho
  obtain ⟨u, e2, s2⟩ := hv
  refine ⟨_, ps_fld e1 e2 hs, fun H0 Hb0 as Hb H M σ s r S D g => ?_⟩
  refine GoodS.bind s2 r S g fun y y' as1 Hb1 H1 M1 r1 f1 S1 w1 g1 => ?_
  refine GoodS.bind s1 r1 S1 g1 fun v x as2 Hb2 H2 M2 r2 f2 S2 w2 g2 => ?_
  cases hi : insOf C M2 x with
  | none => rw [hi] at g2; exact g2.elim
  | some p =>
    obtain ⟨i, fs⟩ := p
    rw [hi] at g2
    obtain ⟨a, dx, fv, rfl, ha, rfl, hH, hp, hm⟩ := insOf_ok r2 w2 hi
    dsimp only at g2
    by_cases hl : fs.length < 1000
    · simp only [hl, if_true] at g2
      refine ⟨a, C, dx, fv, rfl, hH, cl, na, by rw [Paired.len hp]; exact hl, ?_⟩
      exact GoodS.nx g2 (r2.setMut ha hm (by simp) ⟨dx, putF f y fv, upd_same, putW_pf (WR.mono f2 w1) hp⟩) S2
    · simp only [hl, if_false] at g2
      exact g2.elim
end

/-! ### methods, makers -/
/-- a method at f -/
structure IsFnAt (P : Program) (w : World) (K : PySem.W.Frag) (mg : Str → Option Value) (base : Heap) (k : Nat) (f : Addr) (ps : List Str) (dds : List PyData) (F : PF) : Prop where
  ex : ∃ fd dvs ds, FnOk P w K mg base (L2N.CX P w) k f fd ps (SpG K mg F) ∧ Binds K fd ps ds ∧ Vals dvs ds ∧ DtAll K (fun _ => none) dvs dds ∧ fitsAll dds
theorem IsFnAt.mono {P : Program} {w : World} {K : PySem.W.Frag} {mg : Str → Option Value} {base : Heap} {j k : Nat} {f : Addr} {ps : List Str} {dds : List PyData} {F : PF} (h : IsFnAt P w K mg base j f ps dds F) (l : j ≤ k) : IsFnAt P w K mg base k f ps dds F := by
  obtain ⟨fd, dvs, ds, h3, h4⟩ := h.ex
  exact ⟨fd, dvs, ds, h3.mono l, h4⟩
def noAtt (C : Addr) (m : Str) (M : Ms) (x : W) : Bool := match insOf C M x with
  | some (_, fs) => (fs.lookup m).isNone
  | none => false
def pMeth (C : Addr) (m : Str) (F : PF) (dds : List PyData) (o : PEx) (a : PAx) : PEx := fun s M => (o s M).bind fun x M1 => if noAtt C m M1 x = true then (a s M1).bind fun ws M2 => F (x :: (ws ++ dds.map .d)) M2 else .stuck
def pMake (C : Addr) (F : PF) (dds : List PyData) (a : PAx) : PEx := fun s M => (a s M).bind fun ws M1 => match F (.r M1.length :: (ws ++ dds.map .d)) (M1 ++ [.ins C []]) with
  | .ok (.d .none) M2 => .ok (.r M1.length) M2
  | _ => .stuck
def tMethSD (C : Addr) (m : Str) (sp : Sp) (dvs : List V) (E : L2.St → XK) (ta : TE) (t : TA) : TE := fun σ H Q => ta σ H fun x H1 => ∃ a dx fs, x = .ref a ∧ H1 a = some (.ins C dx fs) ∧ fs.lookup m = none ∧
  t σ H1 fun vs H2 => sp (x :: (vs ++ dvs)) H2 Q (E σ)
section
variable {X : Cx} {w : WX} {k : Nat} {C f : Addr} {m x : Str} {ps : List Str} {dds : List PyData} {F : PF} {o e : Expr} {es : List Expr} {po : PEx} {pa : PAx} {p pos apos : Pos}
theorem pe_methSD {CX : CXT} {fd : FuncData} {sp : Sp} {dvs : List V} {ds : List Value} {E : L2.St → XK} {ta : TE} {t : TA} {pl : Sem Bool} (he : PE X o ta) (c : Cls X.K C) (hm : Meth X.K C m f) (F : FnOk X.prog X.w X.K X.mg X.base CX k f fd ps sp) (hr : Room k X.A) (hb : Binds X.K fd ps ds) (hd : Vals dvs ds) (hx : ∀ σ, PassesAt CX X σ (E σ)) (ha : PA X (e :: es) t)
    (hst : starEach (e :: es) X.env = (false, eval e X.env) :: starEach es X.env := by rfl) (hpl : (backTo pos (starEach es X.env)).any (·.1) = false := by rfl)
    (ht : eval (.Call (.Attribute o m apos) (e :: es) [] pos) X.env = (do
      let ov ← eval o X.env
      standAt apos.atName
      let (f, first) ← holding [ov] (getMethod ov m pl)
      callWith pos f first (backTo pos (starEach (e :: es) X.env)) (backToKw pos (keywordEach [] X.env))) := by rfl) :
    PE X (.Call (.Attribute o m apos) (e :: es) [] pos) (tMethSD C m sp dvs E ta t) := by
  refine ⟨fun pins s σ H Q I h => ?_⟩
  refine PySem.W.methodCall_KW (pl := pl) (thn (he.run pins s σ H _ I h) fun u s1 ⟨x, H1, I1, rx, a, dx, fs, ex, ea, l, q⟩ => ?_) ht
  subst ex
  obtain rfl : u = Value.ref a := rx
  refine getmeth_ok I1 ea c hm l ?_
  refine PySem.W.callWith_K (first := [.ref a]) (h₀ := X.base) I.ok.mod.kin hm.kp (thn (ha.run pos pins s1 σ H1 _ I1 q) fun us s2 ⟨vs, H2, I2, r, q2⟩ => ⟨I2.kIn, ?_⟩) hst hpl
  exact run_fnSD (us := .ref a :: us) (vs := .ref a :: vs) F hr hb hd (hx σ) I2 (.cons rfl r) q2
theorem pe_methSD0 {CX : CXT} {fd : FuncData} {sp : Sp} {dvs : List V} {ds : List Value} {E : L2.St → XK} {ta : TE} {pl : Sem Bool} (he : PE X o ta) (c : Cls X.K C) (hm : Meth X.K C m f) (F : FnOk X.prog X.w X.K X.mg X.base CX k f fd ps sp) (hr : Room k X.A) (hb : Binds X.K fd ps ds) (hd : Vals dvs ds) (hx : ∀ σ, PassesAt CX X σ (E σ))
    (ht : eval (.Call (.Attribute o m apos) [] [] pos) X.env = (do
      let ov ← eval o X.env
      standAt apos.atName
      let (f, first) ← holding [ov] (getMethod ov m pl)
      callWith pos f first (backTo pos (starEach [] X.env)) (backToKw pos (keywordEach [] X.env))) := by rfl) :
    PE X (.Call (.Attribute o m apos) [] [] pos) (tMethSD C m sp dvs E ta tNil) := by
  refine ⟨fun pins s σ H Q I h => ?_⟩
  refine PySem.W.methodCall_KW (pl := pl) (thn (he.run pins s σ H _ I h) fun u s1 ⟨x, H1, I1, rx, a, dx, fs, ex, ea, l, q⟩ => ?_) ht
  subst ex
  obtain rfl : u = Value.ref a := rx
  refine getmeth_ok I1 ea c hm l ?_
  exact PySem.W.callWith_K0 (first := [.ref a]) I1.kIn hm.kp (run_fnSD (us := [.ref a]) (vs := [.ref a]) F hr hb hd (hx σ) I1 (.cons rfl .nil) q)
theorem sim_meth {dvs : List V} {ta : TE} {t : TA} (hd : DtAll X.K (fun _ => none) dvs dds) (hz : fitsAll dds) (so : Sim (repW X.K) X.K X.mg w ta po) (sa : Sim (repA X.K) X.K X.mg w t pa) : Sim (repW X.K) X.K X.mg w (tMethSD C m (SpG X.K X.mg F) dvs (WE w) ta t) (pMeth C m F dds po pa) := by
  intro H0 Hb0 as Hb H M σ s r S Q g
  refine Good.bind so r S g fun v y as1 Hb1 H1 M1 r1 f1 S1 w1 g1 => ?_
  by_cases hn : noAtt C m M1 y = true
  · simp only [hn, if_true] at g1
    unfold noAtt at hn
    cases hi : insOf C M1 y with
    | none => rw [hi] at hn; cases hn
    | some p =>
      obtain ⟨i, fs⟩ := p
      rw [hi] at hn
      obtain ⟨a, dx, fv, rfl, ha, rfl, hH, hp, hm⟩ := insOf_ok r1 w1 hi
      refine ⟨a, dx, fv, rfl, hH, (lookup_pf hp).2 (by simpa using hn), ?_⟩
      refine Good.bind sa r1 S1 g1 fun vs ws as2 Hb2 H2 M2 r2 f2 S2 w2 g2 => ?_
      refine ⟨H0, Hb0, as2, Hb2, M2, _, r2, .cons (WR.mono f2 w1) (Paired.app w2 (wrs_of (dz_nil hd hz))), ?_⟩
      cases q : F (.r i :: (ws ++ dds.map .d)) M2 with
      | ok a m => rw [q] at g2; exact g2
      | exc a m => rw [q] at g2; exact g2
      | stuck => rw [q] at g2; exact g2
  · simp only [hn] at g1
    exact g1.elim
theorem je_meth {pl : Sem Bool} (c : Cls X.K C) (hm : Meth X.K C m f) (hF : IsFnAt X.prog X.w X.K X.mg X.base k f ps dds F) (hr : Room k X.A) (hx : ∀ σ, PassesAt (L2N.CX X.prog X.w) X σ (WE w σ)) (ho : JE X w o po) (ha : JA X w (e :: es) pa)
    (hst : starEach (e :: es) X.env = (false, eval e X.env) :: starEach es X.env := by rfl) (hpl : (backTo pos (starEach es X.env)).any (·.1) = false := by rfl)
    (ht : eval (.Call (.Attribute o m apos) (e :: es) [] pos) X.env = (do
      let ov ← eval o X.env
      standAt apos.atName
      let (f, first) ← holding [ov] (getMethod ov m pl)
      callWith pos f first (backTo pos (starEach (e :: es) X.env)) (backToKw pos (keywordEach [] X.env))) := by rfl) :
    JE X w (.Call (.Attribute o m apos) (e :: es) [] pos) (pMeth C m F dds po pa) := by
  obtain ⟨fd, dvs, ds, h3, hb, hv, hd, hz⟩ := hF.ex
  obtain ⟨ta, eo, so⟩ := ho
  obtain ⟨t, ea, sa⟩ := ha
  exact ⟨_, pe_methSD eo c hm h3 hr hb hv hx ea hst hpl ht, sim_meth hd hz so sa⟩
theorem je_meth0 {pl : Sem Bool} (c : Cls X.K C) (hm : Meth X.K C m f) (hF : IsFnAt X.prog X.w X.K X.mg X.base k f ps dds F) (hr : Room k X.A) (hx : ∀ σ, PassesAt (L2N.CX X.prog X.w) X σ (WE w σ)) (ho : JE X w o po)
    (ht : eval (.Call (.Attribute o m apos) [] [] pos) X.env = (do
      let ov ← eval o X.env
      standAt apos.atName
      let (f, first) ← holding [ov] (getMethod ov m pl)
      callWith pos f first (backTo pos (starEach [] X.env)) (backToKw pos (keywordEach [] X.env))) := by rfl) :
    JE X w (.Call (.Attribute o m apos) [] [] pos) (pMeth C m F dds po pNil) := by
  obtain ⟨fd, dvs, ds, h3, hb, hv, hd, hz⟩ := hF.ex
  obtain ⟨ta, eo, so⟩ := ho
  exact ⟨_, pe_methSD0 eo c hm h3 hr hb hv hx ht, sim_meth hd hz so fun H0 Hb0 as Hb H M σ s r S Q g => g.ok r .nil⟩
theorem passE0 {X : Cx} : Passes (L2N.CX X.prog X.w) X (fun _ _ _ => False) := fun _ _ _ _ _ _ _ h => by
  obtain ⟨_, _, _, _, _, _, _, _, _, _, _, _, z⟩ := h
  exact z.elim
theorem sim_make {dvs : List V} {t : TA} (hd : DtAll X.K (fun _ => none) dvs dds) (hz : fitsAll dds) (sa : Sim (repA X.K) X.K X.mg w t pa) : Sim (repW X.K) X.K X.mg w (tMake C (SpG X.K X.mg F) dvs (fun _ _ _ => False) t) (pMake C F dds pa) := by
  intro H0 Hb0 as Hb H M σ s r S Q g
  refine Good.bind sa r S g fun vs ws as1 Hb1 H1 M1 r1 f1 S1 w1 g1 => ?_
  intro x dx hx hdx ne
  have r2 := r1.newAny (p := dx) (o := .own x) hdx
  have hx2 : upd H1 dx (.own x) x = none := by rw [upd_ne (Ne.symm ne)]; exact hx
  have r3 := r2.newAny (p := x) (o := .ins C dx []) hx2
  have fu : Fut as1 Hb1 (as1 ++ [x]) Hb1 := ⟨Same.refl _, [x], rfl⟩
  have r4 := r3.newMut (p := x) (m := .ins C []) (by rw [upd_same]; simp) (r1.hbn hx) (r1.h0n hx) (fun hm => r1.al x hm hx) ⟨dx, [], upd_same, .nil⟩
  have hix : (as1 ++ [x])[M1.length]? = some x := by rw [← r1.len]; simp
  refine ⟨H0, Hb0, as1 ++ [x], Hb1, M1 ++ [.ins C []], .r M1.length :: (ws ++ dds.map .d), r4, .cons ⟨x, hix, rfl⟩ (Paired.app (WRs.mono fu w1) (wrs_of (dz_nil hd hz))), ?_⟩
  cases q : F (.r M1.length :: (ws ++ dds.map .d)) (M1 ++ [.ins C []]) with
  | stuck => rw [q] at g1; exact g1
  | exc a m => rw [q] at g1; exact g1.elim
  | ok y m =>
    rw [q] at g1
    cases y with
    | r _ => exact g1.elim
    | k _ => exact g1.elim
    | d z =>
      cases z with
      | none => exact fun v as' Hb' H' r' f' wr => ⟨wr_non_of wr, g1 (.ref x) as' Hb' H' r' (fu.trans f') ⟨x, f'.idx hix, rfl⟩⟩
      | _ => exact g1.elim
theorem je_make (hM : Mk X.K C f) (hF : IsFnAt X.prog X.w X.K X.mg X.base k f ps dds F) (hr : Room (k + 1) X.A) (hm : X.mg x = some (.ref C)) (ha : JA X w (e :: es) pa) (hg : Gl X x := by rfl) (hdb : (x == ("__debug__" : Str)) = false := by decide)
    (he : starEach (e :: es) X.env = (false, eval e X.env) :: starEach es X.env := by rfl) (hpl : (backTo pos (starEach es X.env)).any (·.1) = false := by rfl) : JE X w (.Call (.Name x p) (e :: es) [] pos) (pMake C F dds pa) := by
  obtain ⟨fd, dvs, ds, h3, hb, hv, hd, hz⟩ := hF.ex
  obtain ⟨t, ea, sa⟩ := ha
  exact ⟨_, pe_make hM h3 hr hg hm hb hv passE0 ea hdb he hpl, sim_make hd hz sa⟩
theorem je_make0 (hM : Mk X.K C f) (hF : IsFnAt X.prog X.w X.K X.mg X.base k f ps dds F) (hr : Room (k + 1) X.A) (hm : X.mg x = some (.ref C)) (hg : Gl X x := by rfl) (hdb : (x == ("__debug__" : Str)) = false := by decide) : JE X w (.Call (.Name x p) [] [] pos) (pMake C F dds pNil) := by
  obtain ⟨fd, dvs, ds, h3, hb, hv, hd, hz⟩ := hF.ex
  exact ⟨_, pe_make0 hM h3 hr hg hm hb hv passE0 hdb, sim_make hd hz fun H0 Hb0 as Hb H M σ s r S Q g => g.ok r .nil⟩
end

/-! ### errors -/
/-- an own class of errors whose maker takes one text -/
structure ExcCl (K : PySem.W.Frag) (mg : Str → Option Value) (x : Str) : Prop where
  ex : ∃ (C : Addr) (bmB : List Value) (B newId initId : String), ExcBaseFacts B newId initId bmB ∧ PySem.W.excIn K C bmB newId = true ∧ mg x = some (.ref C) ∧ PySem.W.keepIn K (.ref C) = true ∧ PySem.W.subIn K (.ref C) (.type "BaseException") = some true ∧ PySem.W.typeIn K (.ref C) = some (.type "type")
def pRaise (x : Str) : PSx := fun s M => .exc ⟨x, none⟩ s M
section
variable {X : Cx} {w : WX}
theorem js_raise {x m : Str} {j : Nat} {p p2 pos pos2 : Pos} (hc : X.calm = true) (tk : L2N.Takes X w) (E : ExcCl X.K X.mg x) (hg : Gl X x := by rfl) (hdb : (x == ("__debug__" : Str)) = false := by decide) : JS X w (.Raise (some (.Call (.Name x p) [.Constant (.str m) j p2] [] pos)) none pos2) (pRaise x) := by
  obtain ⟨C, bmB, B, newId, initId, F, q, gC, kC, h1, h2⟩ := E.ex
  exact ⟨_, L2N.ps_raise hc tk (L2N.pmk_own F q gC kC (raises_own h1 h2) hg hdb), fun H0 Hb0 as Hb H M σ s r S D g => g σ as Hb H (.ref C) none r Fut.refl S ⟨gC, rfl⟩⟩

/-! ### try: .. except C as n: .. -/
def clearO (i : Nat) : O → O
  | .nx s m => .nx (s.set i none) m
  | .bk s m => .bk (s.set i none) m
  | .ct s m => .ct (s.set i none) m
  | o => o
def pTry (cat : Str → Option Bool) (i : Nat) (b : PSx) (su : Exn → Addr → PSx) : PSx := fun s M => match b s M with
  | .exc e s' M' => (match cat e.c with
    | some true => (match clearO i (su e 0 (s'.set i (some (.k (.ref 0)))) M') with
      | .exc _ _ _ => .stuck
      | o => o)
    | some false => .exc e s' M'
    | none => .stuck)
  | o => o
def canonS (K : PySem.W.Frag) (mg : Str → Option Value) (w : WX) (p : PSx) : TS := fun D σ H =>
  ∃ (H0 Hb0 : Hp) (as : List Addr) (Hb : Hp) (M : Ms) (s : Sl), Rel K H0 Hb0 as Hb H M ∧ Slots K as Hb σ s ∧ GoodS K mg w H0 Hb0 as Hb D (p s M)
theorem JSs.canon {b : List Stmt} {p : PSx} (h : JSs X w b p) : PSs X b (canonS X.K X.mg w p) := by
  obtain ⟨t, e1, s1⟩ := h
  exact ⟨fun pins s σ H D I ⟨H0, Hb0, as, Hb, M, sl, r, S, g⟩ => e1.run pins s σ H D I (s1 H0 Hb0 as Hb H M σ sl r S D g)⟩
theorem js_try_as {x n : Str} {c : Value} {i : Nat} {body suite : List Stmt} {b₀ : Stmt} {np pos pos' : Pos} {cat : Str → Option Bool} {pb : PSx} {su : Exn → Addr → PSx} (hs : X.stack = X.env :: X.outer) (hf : X.env.frame = some X.env.locals) (hN : X.N.Nodup) (hc : Names X x c) (tk : L2N.Takes X w)
    (hcat : ∀ y b, cat y = some b → ∃ cv, X.mg y = some cv ∧ PySem.W.exmOne X.K cv c = some b)
    (hb : ∀ (W : WX) (pn : List (Addr × Obj)) (xe : Value → Shared → Prop), L2N.Takes (X.tr pn xe) W → PassesOwn (model X.prog X.w) X.A X.env xe → JSs (X.tr pn xe) W body pb)
    (hsu : ∀ (e : Exn) (a : Addr) (oe : Obj) (cls : Value) (d : Option Addr) (pn : List (Addr × Obj)), cat e.c = some true → X.mg e.c = some cls → (e.arg = none → d = none) → L2N.Zn cls d oe → (∃ vs, oe.data = .fields vs) → JSs (X.suite a ((a, oe) :: pn)) wNone (b₀ :: suite) (su e a))
    (hin : ∀ (e : Exn) (a : Addr) (s : Sl) (M : Ms), clearO i (su e a (s.set i (some (.k (.ref a)))) M) = clearO i (su e 0 (s.set i (some (.k (.ref 0)))) M) := by intros; rfl)
    (hi : X.N[i]? = some n := by rfl) (hln : X.env.kindOf n = some .local := by rfl) :
    JS X w (.Try body [.ExceptHandler (some (.Name x np)) (some n) (b₀ :: suite) pos'] [] [] pos) (pTry cat i pb su) := by
  let ts : Addr → Value → Option Addr → TS := fun a cls d D σ H => ∃ e : Exn, cat e.c = some true ∧ X.mg e.c = some cls ∧ (e.arg = none → d = none) ∧ canonS X.K X.mg wNone (su e a) D σ H
  refine ⟨_, L2N.ps_try_as (tb := fun W => canonS X.K X.mg W pb) (ts := ts) hs hf hN hi hln hc tk (fun W pn xe tkW po => (hb W pn xe tkW po).canon) (fun a oe cls d pn hz hfl => ?_), ?_⟩
  · exact ⟨fun pins s σ H D I ⟨e, h1, h2, h3, h4⟩ => ((hsu e a oe cls d pn h1 h2 h3 hz hfl).canon).run pins s σ H D I h4⟩
  intro H0 Hb0 as Hb H M σ s r S D g
  refine ⟨H0, Hb0, as, Hb, M, s, r, S, ?_⟩
  unfold pTry at g
  cases q : pb s M with
  | nx s' M' => rw [q] at g; exact g
  | rt y M' => rw [q] at g; exact g
  | bk s' M' => rw [q] at g; exact g
  | ct s' M' => rw [q] at g; exact g
  | stuck => rw [q] at g; exact g
  | exc e s' M' =>
    rw [q] at g
    intro σ' as' Hb' H' cls d r' f' S' er
    dsimp only at g
    have er' := er
    obtain ⟨gc, ga⟩ := er'
    cases hcat' : cat e.c with
    | none => rw [hcat'] at g; exact g.elim
    | some b =>
      obtain ⟨cv, h1, h2⟩ := hcat _ _ hcat'
      rw [gc] at h1
      cases h1
      refine ⟨b, h2, fun hb1 a ha => ?_, fun hb1 => ?_⟩
      · subst hb1
        rw [hcat'] at g
        dsimp only at g
        refine ⟨e, hcat', gc, fun h => ?_, H0, Hb0, as', Hb', M', s'.set i (some (.k (.ref a))), r', S'.set (w := .k (.ref a)) rfl i, ?_⟩
        · rw [h] at ga; exact ga
        rw [← hin e a s' M'] at g
        cases q2 : su e a (s'.set i (some (.k (.ref a)))) M' with
        | nx s2 M2 => rw [q2] at g; exact fun σ2 as2 Hb2 H2 r2 f2 S2 => g (σ2.set i none) as2 Hb2 H2 r2 (f'.trans f2) (S2.unset none i)
        | rt y M2 => rw [q2] at g; exact fun v as2 Hb2 H2 r2 f2 w2 => g v as2 Hb2 H2 r2 (f'.trans f2) w2
        | bk s2 M2 => rw [q2] at g; exact fun σ2 as2 Hb2 H2 r2 f2 S2 => g (σ2.set i none) as2 Hb2 H2 r2 (f'.trans f2) (S2.unset none i)
        | ct s2 M2 => rw [q2] at g; exact fun σ2 as2 Hb2 H2 r2 f2 S2 => g (σ2.set i none) as2 Hb2 H2 r2 (f'.trans f2) (S2.unset none i)
        | stuck => rw [q2] at g; exact g
        | exc _ _ _ => rw [q2] at g; exact g.elim
      · subst hb1
        rw [hcat'] at g
        exact g σ' as' Hb' H' cls d r' f' S' er
end
end Z

set_option linter.all false
set_option autoImplicit false
set_option maxRecDepth 100000
set_option maxHeartbeats 4000000
namespace Z
open PySem PySem.Spec PyProof.Rows L2 L2H HotX

/-! ### a comprehension where an error is handled -/
/-- the block's context: the handled error p stands by -/
abbrev blkH (X : Cx) (p : Addr × Obj) (s : Shared) (H : Hp) (scope : Scope) (cenv : Env) (fp : List Addr) : Cx := (X.blk s H scope cenv fp).tr [p] (fun _ _ => False)
section
variable {X : Cx} {p : Addr × Obj}
theorem lc_coreH {pins : List (Addr × Obj)} {s : Shared} {σ : L2.St} {H : Hp} {Q : VK} {elt tg iter : Expr} {ifs : List Expr} {scope : Scope} {own : List (Str × Nat)} {pos pos' : Pos} {wi : TI} {g : TG} {tt : TT} {te : TE} {use : Option (Value → Sem Unit)} {Qf : Value → Shared → Prop}
    (hot : Hot1 X.A p) (hpn : p ∈ X.pn) (hN : X.N.Nodup) (I : Inv X pins σ H s) (hi : PIH X tg iter wi) (ok : BlkOk X.N X.env.scope scope own)
    (hg : ∀ (s : Shared) (H : Hp) (C : Addr) (cl : List (Str × Addr)) (fp : List Addr), PG (blkH X p s H scope (compEnvC scope cl C X.env) fp) tg g) (ht : ∀ (s : Shared) (H : Hp) (C : Addr) (cl : List (Str × Addr)) (fp : List Addr), PTs (blkH X p s H scope (compEnvC scope cl C X.env) fp) ifs tt)
    (he : ∀ (s : Shared) (H : Hp) (C : Addr) (cl : List (Str × Addr)) (fp : List Addr), PE (blkH X p s H scope (compEnvC scope cl C X.env) fp) elt te) (hs : ∀ x, foldedSetIterable iter X.env x = pure x)
    (h : tLc wi g tt te (own.map (·.2)) σ H Q)
    (hRR : ∀ D C s' m H', Inv X pins σ H' s' → Q (.ref D) H' → s'.heap.Ns C m → FpOk X pins H' C → compPost (model X.prog X.w) X.A X.xe use Qf (.ref D) C (.ok .next) s') :
    wpAny (model X.prog X.w) X.A (comprehension (.ListComp elt [⟨tg, iter, ifs, 0⟩] scope pos) scope X.env pos' (newList []) false (eval iter X.env) use) Qf X.xe s := by
  have hfree : ∀ y ∈ scope.names, y.2 = .free → ∃ c, X.env.cells.lookup y.1 = some c := fun y hy e => by
    rcases ok.free y hy e with k | k
    · exact I.ok.has _ (.inl k)
    · exact I.ok.has _ (.inr k)
  refine wpAny_comprehension_free (use := use) rfl hs (closure_ok hfree) ok.kind (fun y hy e => by rw [ok.uniq y hy, e])
    (thn (hi.run pins s σ H _ I h) fun xv s1 hx => thn hx fun itv s2 h2 => ?_)
  obtain ⟨it, fp, tn, J, H2, e, I2, T, st2, f2, q⟩ := h2
  subst e
  refine wpAny_newObj_type (newEnv_comp ?_) (by show 0 ≤ sizeLine; decide)
  generalize hD : s2.heap.objs.size = D
  have hDn : H2 D = none := I2.hok.fresh (Nat.le_of_eq hD)
  obtain ⟨W, ⟨m0, w0⟩, turn⟩ := q D hDn
  generalize hs3 : ({ s2 with heap := s2.heap.push { cls := .type "list", data := .seq ([] : List Value).toArray } } : Shared) = s3
  have I3 : Inv X pins σ (upd H2 D (.lst [])) s3 := by
    rw [← hs3]
    refine I2.laid (t' := s2.toks) (fun b o e => Heap.get?_push_of_some _ e) (Nat.le_of_eq hD) ⟨Nat.zero_le _, [], 0, .nil, ?_⟩
    rw [← hD]
    exact Heap.get?_push_size _ rfl
  have h3 : s3.heap = s2.heap.push { cls := .type "list", data := .seq ([] : List Value).toArray } := by rw [← hs3]
  have sz : ∀ b ∈ fp, b < s2.heap.objs.size := fun b hb => by
    obtain ⟨o, e, _⟩ := T.obj _ _ st2 b hb
    exact Heap.lt_size e
  have f3 : ∀ b ∈ fp, FpOk X pins (upd H2 D (.lst [])) b ∧ b < s3.heap.objs.size := fun b hb => by
    have hlt := sz b hb
    refine ⟨⟨?_, (f2 b hb).2⟩, by rw [h3, Heap.size_push]; exact Nat.lt_succ_of_lt hlt⟩
    rw [upd_ne (by rw [← hD]; exact Nat.ne_of_lt hlt)]
    exact (f2 b hb).1
  have st3 : tn 0 s3.heap := T.keep _ _ _ st2 fun b _ o e => by rw [h3]; exact Heap.get?_push_of_some _ e
  have I4 := block_start I3 ok hN f3
  have P3 := I3.pin p (List.mem_append_left _ hpn)
  have pg := hg s3 (upd H2 D (.lst [])) s3.heap.objs.size (cellsFrom (s3.heap.objs.size + 1) scope.names (cloFrom X.env.cells scope.names [])) fp
  have pt := ht s3 (upd H2 D (.lst [])) s3.heap.objs.size (cellsFrom (s3.heap.objs.size + 1) scope.names (cloFrom X.env.cells scope.names [])) fp
  have pe := he s3 (upd H2 D (.lst [])) s3.heap.objs.size (cellsFrom (s3.heap.objs.size + 1) scope.names (cloFrom X.env.cells scope.names [])) fp
  show codeAny _ _ (.compStart (.ListComp elt [⟨tg, iter, ifs, 0⟩] scope pos) 0 (.ref it) (.ref D) (compEnvC scope (cellsFrom (s3.heap.objs.size + 1) scope.names (cloFrom X.env.cells scope.names [])) s3.heap.objs.size X.env)) (compPost (model X.prog X.w) X.A X.xe use Qf (.ref D) s3.heap.objs.size) { s3 with heap := pushCells (s3.heap.push { cls := .type "dict", data := .dict #[] }) scope.names }
  have nfp : ∀ b ∈ fp, (upd H2 D (.lst [])) b = none := fun b hb => (f3 b hb).1.1
  generalize hce : compEnvC scope (cellsFrom (s3.heap.objs.size + 1) scope.names (cloFrom X.env.cells scope.names [])) s3.heap.objs.size X.env = ce at I4 pg pt pe ⊢
  have cL : ce.locals = s3.heap.objs.size := by subst hce; rfl
  generalize hH3 : upd H2 D (.lst []) = H3 at I3 I4 pg pt pe w0 nfp f3 P3
  generalize hs4 : ({ s3 with heap := pushCells (s3.heap.push { cls := .type "dict", data := .dict #[] }) scope.names } : Shared) = s4 at I4 ⊢
  have kp4 : ∀ b o, s3.heap.get? b = some o → s4.heap.get? b = some o := fun b o e => by rw [← hs4]; exact pushCells_keeps _ _ _ _ (Heap.get?_push_of_some _ e)
  have st4 : tn 0 s4.heap := T.keep _ _ _ st3 fun b _ o e => kp4 b o e
  -- the handled error stands by
  have Ip : Inv (X.blk s3 H3 scope ce fp) [p] (wipe σ (own.map (·.2))) H3 s4 := ⟨I4.ok, I4.os, I4.bare, I4.base, I4.loc, I4.cell, I4.free, I4.freeC, fun q hq => by
    have e : q = p := by simpa using (show q ∈ ([] : List (Addr × Obj)) ++ [p] from hq)
    subst e
    refine ⟨kp4 _ _ P3.1, P3.2.1, ?_, fun hm => (List.mem_cons.mp (I3.stkSub q.1 hm)).elim P3.2.2.1 P3.2.2.2.1, P3.2.2.2.2⟩
    show q.1 ≠ ce.locals
    rw [cL]
    exact Nat.ne_of_lt (Heap.lt_size P3.1), I4.hok, I4.len⟩
  have I5 : Inv (blkH X p s3 H3 scope ce fp) [] (wipe σ (own.map (·.2))) H3 s4 := Ip.toTry _
  have hc : HotC (blkH X p s3 H3 scope ce fp) := ⟨p, hot, List.mem_cons_self⟩
  have stat : ∀ {σ' : L2.St} {H' : Hp} {s' : Shared}, Inv (blkH X p s3 H3 scope ce fp) [] σ' H' s' → (∀ b ∈ fp, H' b = none) → ∀ b ∈ fp, FpOk (blkH X p s3 H3 scope ce fp) [] H' b := fun {σ' H' s'} I' hn b hb =>
    ⟨hn b hb, (I'.ok.exf b hb).1, I'.ok.exfs b hb, .inl hb, fun x c e => (I'.ok.exf b hb).2 x c e, fun r hr => by
      have e : r = p := by simpa using (show r ∈ [p] ++ ([] : List (Addr × Obj)) from hr)
      subst e
      exact (f3 b hb).1.2.2.2.2.2 r (List.mem_append_left _ hpn)⟩
  have loop : codeAny (model X.prog X.w) X.A (.compLoop (.ListComp elt [⟨tg, iter, ifs, 0⟩] scope pos) 0 (.ref it) (.ref D) ce) (compPost (model X.prog X.w) X.A X.xe use Qf (.ref D) s3.heap.objs.size) s4 := by
    refine compLoop_any (fun n s' => ∃ i H', Inv (blkH X p s3 H3 scope ce fp) [] (wipe σ (own.map (·.2))) H' s' ∧ tn i s'.heap ∧ (∀ b ∈ fp, H' b = none) ∧ W i n H') ?_ m0 ⟨0, H3, I5, st4, nfp, w0⟩
    rintro n s5 ⟨i, H5, I5, st5, n5, w5⟩
    rcases turn i n H5 w5 with ⟨stop, qq⟩ | ⟨go, Nx, hNx, step⟩
    · have td := T.done (blkH X p s3 H3 scope ce fp) rfl rfl rfl hc i [] s5 _ H5 (fun _ _ => False) I5 (stat I5 n5) st5 stop
      refine thnF td fun r s6 ⟨hr, I6⟩ => ?_
      subst hr
      have I7 : Inv X pins σ H5 s6 := I3.call' (ch := fp) I6.os I6.base I6.hok I6.bare fun b hb => ⟨(f3 b hb).1.2.2.2.1, (f3 b hb).1.2.1, (f3 b hb).1.2.2.2.2.1, (f3 b hb).1.2.2.2.2.2⟩
      have nC : H5 s3.heap.objs.size = none := by
        have z : H5 ce.locals = none := I6.free
        rw [cL] at z
        exact z
      obtain ⟨m, hn, _⟩ := I6.loc
      have hn : s6.heap.Ns ce.locals m := hn
      rw [cL] at hn
      exact hRR D s3.heap.objs.size s6 m H5 I7 qq hn (I3.fpOk (Nat.le_refl _) nC)
    · have ti := T.item (blkH X p s3 H3 scope ce fp) rfl rfl rfl hc i [] s5 _ H5 (fun _ _ => False) I5 (stat I5 n5) st5 go
      refine thnF ti fun r s6 ⟨u, hr, h6⟩ => ?_
      subst hr
      refine thnF h6 fun _ s7 ⟨x, H7, I7, r7, y7, st7, n7⟩ => ?_
      have I7' := I7.pinned (stat I7 n7) (T.obj _ _ st7)
      refine thnF (pg.run _ s7 _ H7 x u _ I7' r7 (step x H7 y7)) fun _ s8 ⟨σ8, H8, I8, hw8, q8⟩ => ?_
      refine thnF (pt.run _ s8 σ8 H8 _ I8 q8) fun b s9 ⟨H9, I9, q9⟩ => ?_
      have fin : ∀ {s' : Shared} {H' : Hp}, Inv (blkH X p s3 H3 scope ce fp) ([] ++ pinsAt fp s7.heap) σ8 H' s' → Nx H' → ∃ m, m < n ∧ ∃ i H', Inv (blkH X p s3 H3 scope ce fp) [] (wipe σ (own.map (·.2))) H' s' ∧ tn i s'.heap ∧ (∀ b ∈ fp, H' b = none) ∧ W i m H' := fun {s' H'} I' nx => by
        obtain ⟨m', hm, w'⟩ := hNx H' nx
        have pin' : ∀ b ∈ fp, ∀ o, s7.heap.get? b = some o → s'.heap.get? b = some o ∧ H' b = none := fun b hb o e =>
          let z := I'.pin (b, o) (List.mem_append_right _ (List.mem_append_right _ (mem_pinsAt hb e)))
          ⟨z.1, z.2.1⟩
        have hl : (wipe σ (own.map (·.2))).length = σ8.length := by rw [← hw8, wipe_length]
        refine ⟨m', hm, i + 1, H', (I'.unpinned (pins := [])).weak hl (fun j v e => ?_), T.keep _ _ _ st7 fun b hb o e => (pin' b hb o e).1, fun b hb => ?_, w'⟩
        · rw [← hw8] at e
          exact (wipe_some e).1
        · obtain ⟨o, e, _⟩ := T.obj _ _ st7 b hb
          exact (pin' b hb o e).2
      cases b with
      | false =>
        simp only [Bool.false_eq_true, if_false] at q9 ⊢
        exact fin I9 q9
      | true =>
        simp only [if_true] at q9 ⊢
        refine thnF (pe.run _ s9 σ8 H9 _ I9 q9) fun z s10 ⟨yv, H10, I10, r10, acc, hD10, hz10, nx⟩ => ?_
        exact app_ok (X := blkH X p s3 H3 scope ce fp) I10 hD10 hz10 r10 fun s11 I11 => fin I11 nx
  exact codeAny_compStart_list loop (T.self X.A 0 _ _ _ st4 loop)

theorem pe_lcH {elt tg iter : Expr} {ifs : List Expr} {scope : Scope} {own : List (Str × Nat)} {pos : Pos} {wi : TI} {g : TG} {tt : TT} {te : TE} (hot : Hot1 X.A p) (hpn : p ∈ X.pn) (hN : X.N.Nodup) (hi : PIH X tg iter wi) (ok : BlkOk X.N X.env.scope scope own)
    (hg : ∀ (s : Shared) (H : Hp) (C : Addr) (cl : List (Str × Addr)) (fp : List Addr), PG (blkH X p s H scope (compEnvC scope cl C X.env) fp) tg g) (ht : ∀ (s : Shared) (H : Hp) (C : Addr) (cl : List (Str × Addr)) (fp : List Addr), PTs (blkH X p s H scope (compEnvC scope cl C X.env) fp) ifs tt)
    (he : ∀ (s : Shared) (H : Hp) (C : Addr) (cl : List (Str × Addr)) (fp : List Addr), PE (blkH X p s H scope (compEnvC scope cl C X.env) fp) elt te) (hs : ∀ x, foldedSetIterable iter X.env x = pure x := by intro _; rfl) :
    PE X (.ListComp elt [⟨tg, iter, ifs, 0⟩] scope pos) (tLc wi g tt te (own.map (·.2))) := by
  refine ⟨fun pins s σ H Q I h => ?_⟩
  rw [eval_ListComp]
  refine lc_coreH hot hpn hN I hi ok hg ht he hs h fun D C s' m H' I' q hn f => ⟨m, hn, fun h'' sb => ?_⟩
  obtain ⟨f0, f1, f2, f3, f4, f5⟩ := f
  exact ⟨.ref D, H', I'.turned (t' := s'.toks) (fun b o hb e => (sb.2 b hb).trans e) f0 f1 f3 f4 f5, rfl, q⟩
theorem ps_setLcH {i : Nat} {y : Str} {py : Pos} {elt tg iter : Expr} {ifs : List Expr} {scope : Scope} {own : List (Str × Nat)} {pos spos : Pos} {wi : TI} {g : TG} {tt : TT} {te : TE} (hot : Hot1 X.A p) (hpn : p ∈ X.pn) (hN : X.N.Nodup) (hy : X.N[i]? = some y) (hyl : X.env.scope.names.lookup y = some .local)
    (hsw : swapsWith (.ListComp elt [⟨tg, iter, ifs, 0⟩] scope pos) (some (.Name y py)) spos.line X.env = pure true) (hi : PIH X tg iter wi) (ok : BlkOk X.N X.env.scope scope own)
    (hg : ∀ (s : Shared) (H : Hp) (C : Addr) (cl : List (Str × Addr)) (fp : List Addr), PG (blkH X p s H scope (compEnvC scope cl C X.env) fp) tg g) (ht : ∀ (s : Shared) (H : Hp) (C : Addr) (cl : List (Str × Addr)) (fp : List Addr), PTs (blkH X p s H scope (compEnvC scope cl C X.env) fp) ifs tt)
    (he : ∀ (s : Shared) (H : Hp) (C : Addr) (cl : List (Str × Addr)) (fp : List Addr), PE (blkH X p s H scope (compEnvC scope cl C X.env) fp) elt te) (hs : ∀ x, foldedSetIterable iter X.env x = pure x := by intro _; rfl) :
    PS X (.Assign [.Name y py] (.ListComp elt [⟨tg, iter, ifs, 0⟩] scope pos) spos) (tAsg (tLc wi g tt te (own.map (·.2))) (gName i)) := by
  refine ⟨fun pins s σ H D I h => ?_⟩
  rw [exec_Assign_Name_used _ _ _ _ hsw]
  refine wpAny_bind (wpAny_standAt (wpAny_bind ?_))
  show wpAny _ X.A (do let _ ← comprehension (.ListComp elt [⟨tg, iter, ifs, 0⟩] scope pos) scope X.env (firstIterPos [⟨tg, iter, ifs, 0⟩] pos) (newList []) false (eval iter X.env) (some (assign (.Name y py) X.env))) _ _ s
  have h : tLc wi g tt te (own.map (·.2)) σ H (fun x H1 => gName i x σ H1 D.nx) := h
  refine wpAny_bind (thn (lc_coreH (Qf := fun _ s' => SP X pins D .next s') hot hpn hN I hi ok hg ht he hs h fun L C s' m H' I' q hn f => ?_) fun _ s' hq => wpAny_pure (wpAny_pure hq))
  show wpAny _ _ (assign (.Name y py) X.env (.ref L)) _ _ _
  refine wpAny_assign_Name (store_ok2 (v := V.ref L) I' hN hy (.inl hyl) rfl (fun s2 I2 ⟨a, sb, ha⟩ => ?_) (.inr hyl))
  obtain ⟨f0, f1, f2, f3, f4, f5⟩ := f
  have haC : C ≠ a := by
    rcases ha with z | z
    · rw [z]; exact f1
    · exact fun e => f4 y a z e.symm
  refine ⟨m, hn.sameBut sb haC, fun h3 sb3 => ?_⟩
  exact ⟨_, H', I2.turned (t' := s2.toks) (fun b o hb e => (sb3.2 b hb).trans e) f0 f1 f3 f4 f5, q⟩
end
end Z

set_option linter.all false
set_option autoImplicit false
set_option maxRecDepth 100000
set_option maxHeartbeats 4000000
namespace Z
open PySem PySem.Spec PyProof.Rows L2 L2H HotX

/-! ### where an error is handled: range, a comprehension -/
def JIH (X : Cx) (w : WX) (tg iter : Expr) (p : PAx) : Prop := ∃ wi, PIH X tg iter wi ∧ Sim (repI X.K) X.K X.mg w wi p
section
variable {X : Cx} {w : WX} {p : Addr × Obj}
theorem ji_rng1H {tg l : Expr} {ps pos : Pos} {pl : PEx} (hm : X.mg "range" = none) (h : JE X w l pl) (hg : Gl X "range" := by rfl) (hs : starEach (l :: []) X.env = (false, eval l X.env) :: starEach [] X.env := by rfl) (hs2 : starEach [l] X.env = [(false, eval l X.env)] := by rfl) : JIH X w tg (.Call (.Name "range" ps) [l] [] pos) (pRng1 pl) := by
  obtain ⟨t, e1, s1⟩ := h
  refine ⟨_, pi_range1H hg hm (pa_cons e1 pa_nil hs) hs2, fun H0 Hb0 as Hb H M σ s r S Q g => ?_⟩
  refine Good.bind s1 r S g fun x x' as1 Hb1 H1 M1 r1 f1 S1 w1 g1 => ?_
  cases x' with
  | r i => exact (show False from g1).elim
  | k u => exact (show False from g1).elim
  | d z =>
    cases z with
    | int j =>
      obtain rfl := wr_int_of w1
      by_cases hc : -(2 ^ 62) ≤ j ∧ j < 2 ^ 62
      · simp only [hc, and_self, if_true] at g1
        exact ⟨j, rfl, hc.1, hc.2, Good.ok g1 r1 (itr_ok X.K 0 j.toNat as1 Hb1)⟩
      · simp only [hc, if_false] at g1
        exact g1.elim
    | _ => exact (show False from g1).elim
theorem jl_lcH {elt tg iter : Expr} {ifs : List Expr} {scope : Scope} {own : List (Str × Nat)} {pos : Pos} {it : PAx} {pg : PGx} {tt : PTx} {te : PEx} {is : List Nat} (hot : Hot1 X.A p) (hpn : p ∈ X.pn) (hN : X.N.Nodup) (hi : JIH X w tg iter it) (ok : BlkOk X.N X.env.scope scope own)
    (hg : ∀ (s : Shared) (H : Hp) (C : Addr) (cl : List (Str × Addr)) (fp : List Addr), JG (blkH X p s H scope (compEnvC scope cl C X.env) fp) tg pg is) (ht : ∀ (s : Shared) (H : Hp) (C : Addr) (cl : List (Str × Addr)) (fp : List Addr), JTs (blkH X p s H scope (compEnvC scope cl C X.env) fp) wNone ifs tt)
    (he : ∀ (s : Shared) (H : Hp) (C : Addr) (cl : List (Str × Addr)) (fp : List Addr), JE (blkH X p s H scope (compEnvC scope cl C X.env) fp) wNone elt te) (hv : ∀ i ∈ is, i ∈ own.map (·.2) := by decide) (hs : ∀ x, foldedSetIterable iter X.env x = pure x := by intro _; rfl) :
    JL X w (.ListComp elt [⟨tg, iter, ifs, 0⟩] scope pos) (pLc it pg tt te (own.map (·.2))) := by
  obtain ⟨wi, ei, si⟩ := hi
  exact ⟨_, pe_lcH hot hpn hN ei ok (fun s H C cl fp => (hg s H C cl fp).canon) (fun s H C cl fp => (ht s H C cl fp).canon) (fun s H C cl fp => (he s H C cl fp).canon) hs, sim_lc hv si⟩
/-- name = [..] on one line: data, or a thing that changes -/
theorem js_setLcH {i : Nat} {y : Str} {py : Pos} {elt tg iter : Expr} {ifs : List Expr} {scope : Scope} {own : List (Str × Nat)} {pos spos : Pos} {it : PAx} {pg : PGx} {tt : PTx} {te : PEx} {is : List Nat} (hot : Hot1 X.A p) (hpn : p ∈ X.pn) (hN : X.N.Nodup) (hi : JIH X w tg iter it) (ok : BlkOk X.N X.env.scope scope own)
    (hg : ∀ (s : Shared) (H : Hp) (C : Addr) (cl : List (Str × Addr)) (fp : List Addr), JG (blkH X p s H scope (compEnvC scope cl C X.env) fp) tg pg is) (ht : ∀ (s : Shared) (H : Hp) (C : Addr) (cl : List (Str × Addr)) (fp : List Addr), JTs (blkH X p s H scope (compEnvC scope cl C X.env) fp) wNone ifs tt)
    (he : ∀ (s : Shared) (H : Hp) (C : Addr) (cl : List (Str × Addr)) (fp : List Addr), JE (blkH X p s H scope (compEnvC scope cl C X.env) fp) wNone elt te) (hv : ∀ i ∈ is, i ∈ own.map (·.2) := by decide)
    (hy : X.N[i]? = some y := by rfl) (hyl : X.env.scope.names.lookup y = some .local := by rfl) (hsw : swapsWith (.ListComp elt [⟨tg, iter, ifs, 0⟩] scope pos) (some (.Name y py)) spos.line X.env = pure true := by exact sw_true rfl rfl rfl (by decide +kernel)) (hs : ∀ x, foldedSetIterable iter X.env x = pure x := by intro _; rfl) :
    JS X w (.Assign [.Name y py] (.ListComp elt [⟨tg, iter, ifs, 0⟩] scope pos) spos) (pSet i (pDat (pLc it pg tt te (own.map (·.2))))) := by
  obtain ⟨wi, ei, si⟩ := hi
  refine ⟨_, ps_setLcH (g := canonG X.K pg is) (tt := canon repB X.K X.mg wNone tt) (te := canon (repW X.K) X.K X.mg wNone te) hot hpn hN hy hyl hsw ei ok (fun s H C cl fp => (hg s H C cl fp).canon) (fun s H C cl fp => (ht s H C cl fp).canon) (fun s H C cl fp => (he s H C cl fp).canon) hs, fun H0 Hb0 as Hb H M σ s r S D g => ?_⟩
  have sl := sim_lc (X := X) (w := w) (pg := pg) (tt := tt) (te := te) hv si
  have g' : GoodS X.K X.mg w H0 Hb0 as Hb D ((pLc it pg tt te (own.map (·.2)) s M).to s fun ws M1 => match allD ws with
      | some ds => .nx (s.set i (some (.d (.list ds)))) M1
      | none => .stuck) := by
    unfold pSet pDat at g
    cases e : pLc it pg tt te (own.map (·.2)) s M with
    | stuck => rw [e] at g; exact g
    | exc a m => rw [e] at g; exact g
    | ok a m =>
      rw [e] at g
      simp only [R.bind, R.to] at g ⊢
      cases hd : allD a with
      | none => rw [hd] at g; exact g
      | some ds => rw [hd] at g; exact g
  refine GoodS.bind sl r S g' fun v ws as1 Hb1 H1 M1 r1 f1 S1 w1 g1 => ?_
  obtain ⟨q, vs, rfl, hq, z, wr, nq, hbn, h0n⟩ := w1
  cases hd : allD ws with
  | none => rw [hd] at g1; exact g1.elim
  | some ds =>
    rw [hd] at g1
    have dz := allD_ok wr hd
    have hl : ws.length = ds.length := (Paired.len wr).symm.trans (Paired.len dz)
    have fu : Fut as1 Hb1 as1 (upd Hb1 q (.lst vs)) := fut_new hbn
    refine GoodS.nx (GoodS.mono fu g1) (r1.freshData hq hbn h0n nq) ((S1.mono fu).set (w := .d (.list ds)) ?_ i)
    exact dz_lst upd_same (dzAll_mono (same_new hbn) dz) (hl ▸ z)
end

/-! ### a def that is called there; Z: what is known of the error -/
structure FnHC (P : Program) (w : World) (K : PySem.W.Frag) (mg : Str → Option Value) (base : Heap) (k : Nat) (f : Addr) (fd : FuncData) (ps : List Str) (Zp : Obj → Prop) (sp : Addr → Sp) : Prop where
  len : ∀ a vs H Q E, sp a vs H Q E → vs.length = ps.length
  run : ∀ (A : Around) (outer : List Env) (s : Shared) (H : Hp) (args : Args) (us : List Value) (vs : List V) (Q : VK) (E : XK) (p : Addr × Obj), RoomH k A → Hot1 A p → Zp p.2 → PinOk outer H s p → Env0 P w K mg base A outer s H → BindsTo s fd args (ps.zip us) → Vals vs us → sp p.1 vs H Q E →
    codeAny (model P w) A (.call (.ref f) args) (CR (L2N.CX P w) outer P w H s Q E) s
theorem fn_ofHC {P : Program} {w : World} {K : PySem.W.Frag} {mg : Str → Option Value} {base : Heap} {k : Nat} {f : Addr} {name qual : Str} {params : Arguments} {body : List Stmt} {scope : Scope} {dV kV doc pm cdv ct oc : Value} {an od : Option Addr}
    {osl : Array (Option Value)} {N ps : List Str} {Zp : Obj → Prop} {sp : Addr → Sp} (lk : K.lookup f = some ⟨oc, od, .func (PySem.W.fnOf name qual params body scope dV kV doc pm an cdv ct), osl⟩) (hcd : PySem.W.codeIn K cdv qual = true) (S : FnScope N ps scope)
    (len : ∀ a vs H Q E, sp a vs H Q E → vs.length = ps.length)
    (hbody : ∀ (A : Around) (outer : List Env) (s : Shared) (H : Hp) (vs : List V) (Q : VK) (E : XK) (p : Addr × Obj), Hot1 A p → Zp p.2 → RoomH k (A.deeper (envOfC qual scope s.heap.objs.size f cdv)) → sp p.1 vs H Q E →
      ∃ t, PSs (cxH (L2N.CX P w) P w K mg base N qual scope f cdv A outer s H E p) body t ∧ t { nx := fun _ H' => Q .non H', rt := Q } (L2.start N vs) H) :
    FnHC P w K mg base (k + 1) f (PySem.W.fnOf name qual params body scope dV kV doc pm an cdv ct) ps Zp sp := by
  refine ⟨len, fun A outer s H args us vs Q E p hr hot hZ hpin e0 hb r hsp => ?_⟩
  have hl := len _ _ _ _ _ hsp
  have KX : K.In s.heap := e0.mod.kin.keeps fun b o e => (e0.bs b o e).1
  have lim : s.heap.NoLimit := e0.mod.nolimit.keeps fun b o e => (e0.bs b o e).1
  have hkind : ∀ y ∈ ps.zip us, scope.names.lookup y.1 = some .local ∨ (scope.names.lookup y.1 = some .cell ∧ ((cellsFrom (s.heap.objs.size + 1) scope.names []).lookup y.1).isSome = true) := fun ⟨n, v⟩ hy => by
    rcases S.par n (List.of_mem_zip hy).1 with q | q
    · exact .inl q
    · exact .inr ⟨q, PySem.W.cellsFrom_some _ _ _ (.inl q)⟩
  refine codeAny_call_function hr.depth (KX _ _ lk) rfl S.co S.gen rfl (PySem.W.codeRec_of KX hcd) (hb _ _ _ _ ?_)
  refine wpAny_newFunctionEnv_cells S.kind hkind fun env he s1 x => ?_
  subst he
  refine ⟨lim.keeps x.toInCall.keep, codeAny_func ?_⟩
  obtain ⟨t, ht, hq⟩ := hbody A outer s H vs Q E p hot hZ (hr.deeper _) hsp
  have I : Inv (cxH (L2N.CX P w) P w K mg base N qual scope f cdv A outer s H E p) [] (L2.start N vs) H s1 := inv_startH S hpin e0 hl r x
  refine wpAny_mono (ht.run [] s1 (L2.start N vs) H _ I hq) (fun fl s' hs => ?_) fun e s' hs => hs
  have fin : ∀ {σ' : L2.St} {H' : Hp} {v : V} {u : Value}, Inv (cxH (L2N.CX P w) P w K mg base N qual scope f cdv A outer s H E p) [] σ' H' s' → RelV v u → Q v H' → CE outer P w H s Q u s' :=
    fun {σ' H' v u} J rv q => ⟨v, H', J.os, J.bare, J.base, J.hok, rv, q⟩
  cases fl with
  | ret u =>
    obtain ⟨v, σ', H', J, rv, q⟩ := hs
    exact fin J rv q
  | next =>
    obtain ⟨σ', H', J, q⟩ := hs
    exact fin (v := V.non) (u := Value.none) J rfl q
  | brk =>
    obtain ⟨_, _, _, q⟩ := hs
    exact False.elim q
  | cont =>
    obtain ⟨_, _, _, q⟩ := hs
    exact False.elim q
/-- a def of the text, called there -/
theorem fn_GH {P : Program} {w : World} {K : PySem.W.Frag} {mg : Str → Option Value} {base : Heap} {x qual : Str} {st : Stmt} {f : Addr} {fd : FuncData} {N ps : List Str} {k : Nat} {Zp : Obj → Prop} {b : Addr → PSx} (F : Fun K x qual st f fd) (S : FnScope N ps (defScope st))
    (hb : ∀ (cdv : Value) (A : Around) (outer : List Env) (s : Shared) (H : Hp) (E : XK) (p : Addr × Obj), Hot1 A p → Zp p.2 → RoomH k (A.deeper (envOfC qual (defScope st) s.heap.objs.size f cdv)) → JSs (cxH (L2N.CX P w) P w K mg base N qual (defScope st) f cdv A outer s H E p) (fun c d _ H' => E c d H') (defBody st) (b p.1)) :
    FnHC P w K mg base (k + 1) f fd ps Zp (fun a => SpG K mg (runG N.length ps.length (b a))) := by
  obtain ⟨oc, od, kV, doc, pm, an, cdv, ct, osl, rfl, lk, hcd⟩ := F.ex
  exact fn_ofHC lk hcd S (fun a vs H Q E h => h.len) fun A outer s H vs Q E p hot hZ hr hsp => body_G rfl rfl hsp (hb cdv A outer s H E p hot hZ hr)
structure IsFnH (P : Program) (w : World) (K : PySem.W.Frag) (mg : Str → Option Value) (base : Heap) (k : Nat) (x : Str) (ps : List Str) (Zp : Obj → Prop) (F : Addr → PF) : Prop where
  ex : ∃ f fd, mg x = some (.ref f) ∧ PySem.W.keepIn K (.ref f) = true ∧ FnHC P w K mg base k f fd ps Zp (fun a => SpG K mg (F a)) ∧ Binds K fd ps []
section
variable {X : Cx} {w : WX} {p : Addr × Obj} {k : Nat} {x : Str} {ps : List Str} {e : Expr} {es : List Expr} {pa : PAx} {q pos : Pos} {Zp : Obj → Prop} {F : Addr → PF}
theorem je_callHC (hF : IsFnH X.prog X.w X.K X.mg X.base k x ps Zp F) (hr : RoomH k X.A) (hot : Hot1 X.A p) (hpn : p ∈ X.pn) (hz : Zp p.2) (hx : ∀ σ, PassesAt (L2N.CX X.prog X.w) X σ (WE w σ)) (ha : JA X w (e :: es) pa) (hg : Gl X x := by rfl) (hdb : (x == ("__debug__" : Str)) = false := by decide)
    (he : starEach (e :: es) X.env = (false, eval e X.env) :: starEach es X.env := by rfl) (hpl : (backTo pos (starEach es X.env)).any (·.1) = false := by rfl) : JE X w (.Call (.Name x q) (e :: es) [] pos) (pCallG (F p.1) [] pa) := by
  obtain ⟨f, fd, hm, hk, hf, hb⟩ := hF.ex
  obtain ⟨t, ea, sa⟩ := ha
  refine ⟨tCallS (SpG X.K X.mg (F p.1)) (WE w) t, ⟨fun pins s σ H Q I h => ?_⟩, fun H0 Hb0 as Hb H M σ s r S Q g => ?_⟩
  · refine wpAny_Call_Name_kw (ld_glob I hg hm ?_ hdb)
    refine PySem.W.callWith_K (h₀ := X.base) I.ok.mod.kin hk (thn (ea.run pos pins s σ H _ I h) fun us s1 ⟨vs, H1, I1, r, q⟩ => ⟨I1.kIn, ?_⟩) he hpl
    have hl : us.length = ps.length := by rw [← r.length]; exact hf.len _ _ _ _ _ q
    have b := hb s1 us I1.kIn (by rw [List.append_nil]; exact hl)
    rw [List.append_nil] at b
    have P1 := I1.pin p (List.mem_append_left _ hpn)
    have hpin : PinOk X.stack H1 s1 p := ⟨P1.1, P1.2.1, fun hm => (List.mem_cons.mp (I1.stkSub p.1 hm)).elim P1.2.2.1 P1.2.2.2.1, P1.2.2.2.2⟩
    refine wpAny_call (codeAny_mono (hf.run X.A X.stack s1 H1 ⟨us, []⟩ us vs Q (WE w σ) p hr hot hz hpin I1.env0 b r q) fun r s' hq => ?_)
    cases r with
    | error e => exact hx σ pins H1 s1 e s' I1 hq
    | ok fl =>
      cases fl with
      | ret u => exact I1.after hq
      | next => exact False.elim hq
      | brk => exact False.elim hq
      | cont => exact False.elim hq
  · refine Good.bind sa r S g fun vs ws as1 Hb1 H1 M1 r1 f1 S1 w1 g1 => ?_
    simp only [List.map_nil, List.append_nil] at g1
    refine ⟨H0, Hb0, as1, Hb1, M1, ws, r1, w1, ?_⟩
    cases q : F p.1 ws M1 with
    | ok a m => rw [q] at g1; exact g1
    | exc a m => rw [q] at g1; exact g1
    | stuck => rw [q] at g1; exact g1

/-! ### isinstance of the error -/
theorem call_isEp {D : Addr} (C : ExcC X.K D) (hz : Zc (.ref D) none p.2) (hf : ∃ vs, p.2.data = .fields vs) (hp : p ∈ X.pn) : CallR X (.builtin "isinstance") (rIsE X.K D p.1) := by
  intro pins s σ H xs us Q I r h
  obtain ⟨c, cv, b, rfl, hcv, e, q⟩ := h
  obtain ⟨a, oe⟩ := p
  cases r with
  | cons rx rr =>
    cases rr with
    | cons rt rr =>
      cases rr
      cases rx
      have ec := hcv _ rt
      subst ec
      obtain ⟨hget, _⟩ := I.pin (a, oe) (List.mem_append.mpr (.inl hp))
      obtain ⟨vs, hv⟩ := hf
      have J : PySem.W.InstAt s.heap a oe D none := by
        obtain ⟨oc, od, oda, osl⟩ := oe
        obtain ⟨h1, h2⟩ := hz
        dsimp only at h1 h2 hv
        subst h1 h2 hv
        exact ⟨hget, rfl, rfl, trivial⟩
      exact PySem.W.kia_one (PySem.W.handS_kitx_exc C.hg C.hk C.hs C.hd C.ha C.hn C.ht C.hm) I.kIn J e (fun z => nomatch z) fun tk => ⟨.bl b, H, I.kept (t' := tk) fun _ _ z => z, rfl, q⟩
def gIsE (a : Addr) (c : V) (b : Bool) : PF := fun ws M => match ws with
  | [.k u, .k v] => if u = .ref a ∧ v = c then .ok (.d (.bool b)) M else .stuck
  | _ => .stuck
theorem s_isE {K : PySem.W.Frag} {mg : Str → Option Value} {D a : Addr} {c : V} {cv : Value} {b : Bool} (hcv : ∀ u, RelV c u → u = cv) (hk : PySem.W.kitOne K (.ref D) cv = some b) : SimC K mg (rIsE K D a) (gIsE a c b) := by
  intro w H0 Hb0 as Hb H M σ ws vs r wr Q gd
  match ws, gd with
  | [], gd => exact gd.elim
  | [.k u, .k v], gd =>
    obtain ⟨v1, v2, rfl, w1, w2⟩ := two_args_of wr
    have e1 : v1 = u := w1
    have e2 : v2 = v := w2
    subst e1 e2
    have gd' : Good (repW K) K mg w H0 Hb0 as Hb σ Q (if v1 = .ref a ∧ v2 = c then .ok (.d (.bool b)) M else .stuck) := gd
    by_cases hc : v1 = .ref a ∧ v2 = c
    · rw [if_pos hc] at gd'
      obtain ⟨rfl, rfl⟩ := hc
      exact ⟨_, cv, b, rfl, hcv, hk, Good.ok gd' r (wr_bl b)⟩
    · rw [if_neg hc] at gd'
      exact gd'.elim
end
end Z

set_option linter.all false
set_option autoImplicit false
set_option maxRecDepth 100000
set_option maxHeartbeats 4000000
namespace Z
open PySem PySem.Spec PyProof.Rows L2 RT

/-! ### list(reversed(x)), x a list -/
section
variable {prog : Program} {w : World} {A : Around} {E : Value → Shared → Prop} {s : Shared}
theorem extend_rev {it l S : Addr} {items : Array Value} {res : Value} {c₀ : Nat} {R : Result → Shared → Prop} (hh : A.handled = none) (hit : s.heap.IsRevIter it l ((items.size : Int) - 1)) (hl : s.heap.IsList l items) (hne : l ≠ it) (hn : items.size ≤ sizeLine) (hSi : S ≠ it) (hSl : S ≠ l)
    (hS : s.heap.get? S = some { cls := .type "list", data := .seq #[] c₀ })
    (hR : ∀ h' tk acc' c', (∀ b o, b ≠ S → b ≠ it → s.heap.get? b = some o → h'.get? b = some o) → h'.get? S = some { cls := .type "list", dict := none, data := .seq acc' c', slots := #[] } →
      ItemsOf (fun i v => items[items.size - 1 - i]? = some v) acc' items.size → R (.ok (.ret res)) { s with heap := h', toks := tk }) :
    wpAny (model prog w) A.in1 (Builtin.List.listExtendWith (.ref S) (.ref it) res)
      (fun fin s' => match fin with | .done f => R (.ok f) s' | .again c' => c'.quiet = true ∧ codeAny (model prog w) A c' R s') (fun e s' => R (.error e) s') s := by
  have W := (Walks.listRev (prog := prog) (w := w) (A := A.in1) hh it l hne items).toS
  have hSf : S ∉ [it, l] := by simp only [List.mem_cons, List.not_mem_nil, or_false, not_or]; exact ⟨hSi, hSl⟩
  have hT : s.TypeIs (.ref it) "list_reverseiterator" := hit.typeIs
  have h1 : Builtin.List.listSameRef (.ref S) (.ref it) = false := by simp [Builtin.List.listSameRef, hSi]
  unfold Builtin.List.listExtendWith
  refine wpAny_bind (wpAny_typeOf hT ?_)
  rw [if_neg (by rw [h1]; decide)]
  refine wpAny_bind (wpAny_pyIter_revIter hit ?_)
  refine wpAny_bind (wpAny_holding ?_)
  unfold Builtin.List.listLengthHint
  refine wpAny_bind (wpAny_specialOf hT nolen_lri ?_)
  show wpAny _ A.in1 (specialOf (Value.ref it) (Str.ofString "__length_hint__") >>= _) _ _ _
  refine wpAny_bind (wpAny_specialOf hT hint_lri ?_)
  generalize hid : ("list_reverseiterator.__length_hint__" : String) = id0
  wp_delta
  rw [show splitId id0 = some ("list_reverseiterator", "__length_hint__") from by subst hid; decide +kernel]
  subst hid
  refine wpAny_bind (wpAny_isInstance (b := true) hT (by rw [isSubtype_type]; kernel_rfl) ?_)
  refine wpAny_pure ?_
  rw [if_neg (by decide)]
  have e0 : ((items.size : Nat) : Int) - 1 - ((0 : Nat) : Int) = (items.size : Int) - 1 := by omega
  refine wpAny_pure ⟨plainId_quiet F.plain_extend_loop _, codeAny_extend_loopS W hn _ hSf _ items.size 0 _ _ _ rfl (Nat.zero_le _) ⟨Nat.zero_le _, by rw [e0]; exact hit, hl⟩ hS (ItemsOf.nil _) fun s' acc' c' hm hS' hacc => ?_⟩
  rw [Moved.eq_with hm]
  refine hR s'.heap s'.toks acc' c' (fun b ob hb hb2 e => hm.heap b ob (fun hmem => ?_) e) hS' hacc
  rcases List.mem_cons.mp hmem with e' | hmem
  · exact hb e'
  · exact hb2 (List.mem_singleton.mp hmem)
theorem list_init_rev {it l S : Addr} {items : Array Value} {R : Result → Shared → Prop} (hh : A.handled = none) (hit : s.heap.IsRevIter it l ((items.size : Int) - 1)) (hl : s.heap.IsList l items) (hne : l ≠ it) (hn : items.size ≤ sizeLine) (hSi : S ≠ it) (hSl : S ≠ l)
    (hS : s.heap.get? S = some { cls := .type "list", data := .seq #[] })
    (hR : ∀ h' tk acc' c', (∀ b o, b ≠ S → b ≠ it → s.heap.get? b = some o → h'.get? b = some o) → h'.get? S = some { cls := .type "list", dict := none, data := .seq acc' c', slots := #[] } →
      ItemsOf (fun i v => items[items.size - 1 - i]? = some v) acc' items.size → R (.ok (.ret .none)) { s with heap := h', toks := tk }) :
    wpAny (model prog w) A.in1 (Builtin.«list.__init__» ⟨[.ref S, .ref it], []⟩)
      (fun fin s' => match fin with | .done f => R (.ok f) s' | .again c' => c'.quiet = true ∧ codeAny (model prog w) A c' R s') (fun e s' => R (.error e) s') s := by
  show wpAny _ A.in1 (do let old ← Builtin.List.listItems (.ref S); Builtin.List.listUpdate (.ref S) (fun _ => #[]); letGo old.toList.reverse; Builtin.List.listExtendWith (.ref S) (.ref it) .none) _ _ s
  refine wpAny_bind ?_
  unfold Builtin.List.listItems
  refine wpAny_bind (wpAny_seqItems hS rfl (wpAny_pure ?_))
  show wpAny _ A.in1 (updateSeq S (fun _ => #[]) >>= fun _ => letGo (#[] : Array Value).toList.reverse >>= fun _ => Builtin.List.listExtendWith (.ref S) (.ref it) .none) _ _ s
  refine wpAny_bind (wpAny_updateSeq hS rfl ?_)
  have hS₂ := Heap.get?_update_self (Obj.mapSeq (fun _ => (#[] : Array Value))) hS rfl
  have oth : ∀ b o, b ≠ S → s.heap.get? b = some o → (s.heap.update S (Obj.mapSeq (fun _ => (#[] : Array Value)))).get? b = some o :=
    fun b o hb e => (Heap.get?_update_other _ _ (Ne.symm hb)).trans e
  refine wpAny_bind (wpAny_letGo ?_)
  obtain ⟨oi, ho1, ho2⟩ := id hit
  obtain ⟨ol, ho3, ho4⟩ := id hl
  refine extend_rev (s := { s with heap := s.heap.update S (Obj.mapSeq (fun _ => (#[] : Array Value))) }) hh ⟨oi, oth _ _ hSi.symm ho1, ho2⟩ ⟨ol, oth _ _ hSl.symm ho3, ho4⟩ hne hn hSi hSl hS₂ fun h' tk acc' c' hk hS' hacc => ?_
  exact hR h' tk acc' c' (fun b o hb hb2 e => hk b o hb hb2 (oth b o hb e)) hS' hacc
theorem call_list_rev {it l : Addr} {items : Array Value} {Q : Value → Shared → Prop} (hh : A.handled = none) (hit : s.heap.IsRevIter it l ((items.size : Int) - 1)) (hl : s.heap.IsList l items) (hne : l ≠ it) (hn : items.size ≤ sizeLine)
    (hQ : ∀ h' tk acc' c', (∀ b o, b ≠ it → s.heap.get? b = some o → h'.get? b = some o) →
      h'.get? s.heap.objs.size = some { cls := .type "list", dict := none, data := .seq acc' c', slots := #[] } → ItemsOf (fun i v => items[items.size - 1 - i]? = some v) acc' items.size → Q (.ref s.heap.objs.size) { s with heap := h', toks := tk }) :
    wpAny (model prog w) A (call (.type "list") [.ref it]) Q E s := by
  obtain ⟨oi, hoi, hoi2⟩ := id hit
  obtain ⟨ol, hol, hol2⟩ := id hl
  refine callType_codes (Q₁ := fun obj s₁ => obj = .ref s.heap.objs.size ∧ s₁ = { s with heap := s.heap.push { cls := .type "list", data := .seq #[] } }) F.called_list (F.typeCall_list_1 _) F.entry_list_init
    (code_list_new _ ⟨rfl, rfl⟩) fun obj s₁ h₁ => ?_
  obtain ⟨rfl, rfl⟩ := h₁
  have hS : (s.heap.push { cls := .type "list", data := .seq #[] }).get? s.heap.objs.size = some { cls := .type "list", data := .seq #[] } := Heap.get?_push_size _ rfl
  refine ⟨⟨_, hS, rfl⟩, F.args_list_init_2 _ _, list_init_rev (A := A.in1) (s := { s with heap := s.heap.push { cls := .type "list", data := .seq #[] } }) hh ⟨oi, Heap.get?_push_of_some _ hoi, hoi2⟩ ⟨ol, Heap.get?_push_of_some _ hol, hol2⟩ hne hn (Nat.ne_of_gt (Heap.lt_size hoi)) (Nat.ne_of_gt (Heap.lt_size hol)) hS fun h' tk acc' c' hk hS' hacc => ?_⟩
  exact ⟨rfl, hQ h' tk acc' c' (fun b o hb e => hk b o (Nat.ne_of_lt (Heap.lt_size e)) hb (Heap.get?_push_of_some _ e)) hS' hacc⟩
end

def tListRev (K : PySem.W.Frag) (te : TE) : TE := fun σ H Q => te σ H fun v H1 => ∃ (a : Addr) (xs : List V), v = .ref a ∧ SqL K H1 a xs ∧ ∀ q, H1 q = none → Q (.ref q) (upd H1 q (.lst xs.reverse))
section
variable {X : Cx} {w : WX}
theorem pe_listRev {e : Expr} {te : TE} {p p2 pos pos2 : Pos} (hc : X.calm = true) (hg : Gl X "list") (hm : X.mg "list" = none) (hg2 : Gl X "reversed") (hm2 : X.mg "reversed" = none) (he : PE X e te)
    (hs : starEach [e] X.env = (false, eval e X.env) :: starEach [] X.env := by rfl)
    (hs2 : starEach [.Call (.Name "reversed" p2) [e] [] pos2] X.env = (false, eval (.Call (.Name "reversed" p2) [e] [] pos2) X.env) :: starEach [] X.env := by rfl) :
    PE X (.Call (.Name "list" p) [.Call (.Name "reversed" p2) [e] [] pos2] [] pos) (tListRev X.K te) := by
  refine ⟨fun pins s σ H Q I h => ?_⟩
  refine Call_ (ld_blt I hg hm boot_list (PyProof.Rows.callWith_type1 (args_cons (Call_ (ld_blt I hg2 hm2 PyProof.Rows.boot_reversed (PyProof.Rows.callWith_type1 (args_cons (thn (he.run pins s σ H _ I h) fun u s1 ⟨v, H1, I1, r1, q1⟩ => args_nil ?_) hs) hs rfl))) hs2) hs2 rfl))
  obtain ⟨a, xs, ev, hq, q⟩ := q1
  subst ev
  obtain rfl : u = Value.ref a := r1
  obtain ⟨its, rv, p', hz⟩ := I1.list hq
  refine call_reversed_list p'.isList (args_nil ?_)
  have hl := p'.isList
  obtain ⟨ol, hol, _⟩ := id hl
  have hne : a ≠ s1.heap.objs.size := Nat.ne_of_lt (Heap.lt_size hol)
  have hn : its.toArray.size ≤ sizeLine := by rw [List.size_toArray, ← rv.length]; exact hz
  refine call_list_rev (s := { s1 with heap := s1.heap.push (revObj a ((its.toArray.size : Int) - 1)) }) (I1.ok.hd hc) ⟨_, Heap.get?_push_size _ rfl, rfl, rfl⟩ (hl.push _) hne hn fun h' tk acc c' hk hS hi => ?_
  have hsz : (s1.heap.push (revObj a ((its.toArray.size : Int) - 1))).objs.size = s1.heap.objs.size + 1 := Heap.size_push _ _
  have le : s1.heap.objs.size ≤ (s1.heap.push (revObj a ((its.toArray.size : Int) - 1))).objs.size := by rw [hsz]; exact Nat.le_succ _
  refine ⟨.ref _, upd H1 (s1.heap.push (revObj a ((its.toArray.size : Int) - 1))).objs.size (.lst xs.reverse), I1.laid (t' := tk) (fun c o e => hk c o (Nat.ne_of_lt (Heap.lt_size e)) (Heap.get?_push_of_some _ e)) le (show ObjOk X.prog X.w _ _ _ (.lst xs.reverse) from ⟨by rw [List.length_reverse]; exact hz, acc.toList, c', vals_rev rv hi, ?_⟩), rfl, q _ (I1.hok.fresh le)⟩
  rw [Array.toArray_toList]
  exact hS
def pListRev (p : PEx) : PAx := fun s M => (p s M).bind fun x M1 => match itemsL M1 x with
  | some ws => .ok ws.reverse M1
  | none => .stuck
theorem Paired.rev {α β : Type} {F : α → β → Prop} : ∀ {l : List α} {m : List β}, Paired F l m → Paired F l.reverse m.reverse
  | _, _, .nil => .nil
  | _, _, .cons h t => by
    rw [List.reverse_cons, List.reverse_cons]
    exact Paired.app (Paired.rev t) (.cons h .nil)
theorem jl_listRev {e : Expr} {pe : PEx} {p p2 pos pos2 : Pos} (hc : X.calm = true) (hm : X.mg "list" = none) (hm2 : X.mg "reversed" = none) (h : JE X w e pe) (hg : Gl X "list" := by rfl) (hg2 : Gl X "reversed" := by rfl)
    (hs : starEach [e] X.env = (false, eval e X.env) :: starEach [] X.env := by rfl)
    (hs2 : starEach [.Call (.Name "reversed" p2) [e] [] pos2] X.env = (false, eval (.Call (.Name "reversed" p2) [e] [] pos2) X.env) :: starEach [] X.env := by rfl) : JL X w (.Call (.Name "list" p) [.Call (.Name "reversed" p2) [e] [] pos2] [] pos) (pListRev pe) := by
  obtain ⟨t, e1, s1⟩ := h
  refine ⟨_, pe_listRev hc hg hm hg2 hm2 e1 hs hs2, fun H0 Hb0 as Hb H M σ s r S Q g => ?_⟩
  refine Good.bind s1 r S g fun v x as1 Hb1 H1 M1 r1 f1 S1 w1 g1 => ?_
  cases hi : itemsL M1 x with
  | none => rw [hi] at g1; exact g1.elim
  | some ws =>
    rw [hi] at g1
    obtain ⟨a, vs, rfl, hH, wr, z⟩ := itemsL_ok r1 w1 hi
    refine ⟨a, vs, rfl, SqL.of hH, fun q hq => ?_⟩
    exact Good.ok g1 (r1.newAny hq) ⟨q, vs.reverse, rfl, upd_same, by rw [List.length_reverse]; exact z, Paired.rev wr, fun hm => r1.al q hm hq, r1.hbn hq, r1.h0n hq⟩
end

/-! ### max of data -/
def rMaxT (K : PySem.W.Frag) : List V → Hp → VK → Prop := fun vs H Q => ∃ (a : Addr) (xs : List V) (d : PyData) (ds : List PyData), vs = [.ref a] ∧ SqL K H a xs ∧ DtAll K H xs (d :: ds) ∧ (allAlike (d :: ds) && ((d :: ds).all fun x => !isNonD x) && decide (PyData.depthAll (d :: ds) ≤ 60)) = true ∧
  ∀ y : V, (∀ Hb : Hp, DzAll K Hb xs (d :: ds) → Dz K Hb y (PySem.W.maxD d ds)) → Q y H
theorem reads_all {X : Cx} {pins : List (Addr × Obj)} {σ : L2.St} {H : Hp} {s : Shared} (I : Inv X pins σ H s) : ∀ {xs : List V} {ds : List PyData} {its : List Value}, Vals xs its → DtAll X.K H xs ds → ∃ as, PySem.ReadsAll s.heap its ds as
  | _, [], _, .nil, _ => ⟨_, .nil⟩
  | _, _ :: _, _, .nil, h => by cases h
  | _, [], _, .cons _ _, h => by cases h
  | _, d :: ds, _, .cons r t, h => by
    cases h with
    | cons h1 h2 =>
      obtain ⟨a1, r1⟩ := Dp.reads I d _ _ (Dt.dp d _ h1) r
      obtain ⟨a2, r2⟩ := reads_all I t h2
      exact ⟨_, .cons r1 r2⟩
theorem vals_get {xs : List V} {its : List Value} (r : Vals xs its) : ∀ {i : Nat} {v : Value}, its[i]? = some v → ∃ y, xs[i]? = some y ∧ RelV y v := by
  induction r with
  | nil => intro i v h; simp at h
  | cons h t ih =>
    intro i v e
    cases i with
    | zero => simp at e; subst e; exact ⟨_, rfl, h⟩
    | succ j => simpa using ih (by simpa using e)
theorem dt_get {K : PySem.W.Frag} {H : Hp} {xs : List V} {ds : List PyData} (h : DtAll K H xs ds) {i : Nat} {y : V} (e : xs[i]? = some y) : ∃ d, ds[i]? = some d ∧ Dt K H y d := by
  induction xs generalizing ds i with
  | nil => simp at e
  | cons x xs ih =>
    cases h with
    | cons h1 h2 =>
      cases i with
      | zero => simp at e; subst e; exact ⟨_, rfl, h1⟩
      | succ j => simpa using ih h2 (by simpa using e)
theorem Paired.get2 {α β : Type} {F : α → β → Prop} : ∀ {l : List α} {m : List β} {i : Nat} {a : α} {b : β}, Paired F l m → l[i]? = some a → m[i]? = some b → F a b
  | _, _, _, _, _, .nil, h, _ => by simp at h
  | _, _, 0, _, _, .cons h t, e, e' => by simp at e e'; subst e e'; exact h
  | _, _, i + 1, _, _, .cons h t, e, e' => Paired.get2 (i := i) t (by simpa using e) (by simpa using e')
theorem cr_maxT {X : Cx} (hc : X.calm = true) (hu : X.A.units + 64 < cLine) : CallR X (.builtin "max") (rMaxT X.K) := by
  intro pins s σ H vs us Q I r h
  obtain ⟨a, xs, d, ds, rfl, hs, hd, hk, q⟩ := h
  obtain ⟨its, rv, hl, hz⟩ := I.list hs
  rw [Vals.ref1 r]
  simp only [Bool.and_eq_true, decide_eq_true_eq] at hk
  obtain ⟨⟨h1, h2⟩, h3⟩ := hk
  have al : ∀ x ∈ d :: ds, ∀ y ∈ d :: ds, PySem.W.alike x y = true := fun x hx y hy => by
    unfold allAlike at h1
    rw [List.all_eq_true] at h1
    have z := h1 x hx
    rw [List.all_eq_true] at z
    exact z y hy
  have ha : PySem.W.AlikeAll (d :: ds) := ⟨al, fun x hx e => by
    rw [List.all_eq_true] at h2
    have z := h2 x hx
    subst e
    simp [isNonD] at z⟩
  obtain ⟨as, ra⟩ := reads_all I rv hd
  refine PySem.W.max_list_data (I.ok.hd hc) hl.isList (by simpa using ra) ha (by omega) fun i v h' tk bs hv hr hk' => ?_
  have hv' : its[i]? = some v := by simpa using hv
  obtain ⟨y, hy, ry⟩ := vals_get rv hv'
  obtain ⟨e, he, hde⟩ := dt_get hd hy
  obtain ⟨a1, r1⟩ := Dp.reads I e _ _ (Dt.dp e _ hde) ry
  have hm : PySem.W.maxD d ds ∈ d :: ds := by
    have : ∀ (l : List PyData) (x : PyData), l.foldl (fun a y => if PySem.W.dataLt a y then y else a) x ∈ x :: l := by
      intro l
      induction l with
      | nil => intro x; simp
      | cons z l ih =>
        intro x
        rw [List.foldl_cons]
        have := ih (if PySem.W.dataLt x z then z else x)
        rcases List.mem_cons.mp this with h | h
        · rw [h]; split <;> simp
        · simp [h]
    exact this ds d
  have eq : e = PySem.W.maxD d ds := PySem.W.alike_unique e _ v a1 bs (al e (List.mem_of_getElem? he) _ hm) (PySem.W.reads_keeps hk' r1) hr
  subst eq
  exact ⟨y, H, I.kept (t' := tk) hk', ry, q y fun Hb dz => Paired.get2 dz hy he⟩
def gMaxT : List W → Ms → R W := fun ws M => match ws with
  | [.d (.list (d :: ds))] => if (allAlike (d :: ds) && ((d :: ds).all fun x => !isNonD x) && decide (PyData.depthAll (d :: ds) ≤ 60)) = true then .ok (.d (PySem.W.maxD d ds)) M else .stuck
  | _ => .stuck
theorem s_maxT {K : PySem.W.Frag} {mg : Str → Option Value} : SimC K mg (rMaxT K) gMaxT := by
  intro w H0 Hb0 as Hb H M σ ws vs r wr Q gd
  match ws, gd with
  | [], gd => exact gd.elim
  | [.d (.list (d :: ds))], gd =>
    obtain ⟨v, rfl, wx⟩ := one_arg_of wr
    have gd' : Good (repW K) K mg w H0 Hb0 as Hb σ Q (if (allAlike (d :: ds) && ((d :: ds).all fun x => !isNonD x) && decide (PyData.depthAll (d :: ds) ≤ 60)) = true then .ok (.d (PySem.W.maxD d ds)) M else .stuck) := gd
    split at gd'
    · rename_i hc
      obtain ⟨h1, h2⟩ := wx
      cases h1 with
      | lst hs ha => exact ⟨_, _, d, ds, rfl, SqL.of (r.sub _ _ hs), (DtAll.mono r.sub _ _ ha), hc, fun y hy => Good.ok gd' r (hy Hb (dzAll_of ha h2.2))⟩
    · exact gd'.elim
end Z

set_option linter.all false
set_option autoImplicit false
set_option maxRecDepth 100000
set_option maxHeartbeats 4000000
namespace Z
open PySem PySem.Spec PyProof.Rows L2 L2H

/-! ### a weaker reading -/
theorem Good.le {β α : Type} {rep : Rep β α} {K : PySem.W.Frag} {mg : Str → Option Value} {w : WX} {H0 Hb0 Hb : Hp} {as : List Addr} {σ : L2.St} {Q : β → Hp → Prop} {r r' : R α} (h : r ≠ .stuck → r' = r) (g : Good rep K mg w H0 Hb0 as Hb σ Q r) : Good rep K mg w H0 Hb0 as Hb σ Q r' := by
  cases r with
  | stuck => exact g.elim
  | ok a m => rw [h (by simp)]; exact g
  | exc a m => rw [h (by simp)]; exact g
section
variable {X : Cx} {w : WX}
theorem JE.le {e : Expr} {p q : PEx} (j : JE X w e p) (h : ∀ s M, q s M ≠ .stuck → p s M = q s M) : JE X w e q := by
  obtain ⟨t, e1, s1⟩ := j
  exact ⟨t, e1, fun H0 Hb0 as Hb H M σ s r S Q g => s1 H0 Hb0 as Hb H M σ s r S Q (Good.le (h s M) g)⟩
end
theorem SpG.le {K : PySem.W.Frag} {mg : Str → Option Value} {F G : PF} (h : ∀ ws M, G ws M ≠ .stuck → F ws M = G ws M) {vs : List V} {H : Hp} {Q : VK} {E : XK} (s : SpG K mg G vs H Q E) : SpG K mg F vs H Q E := by
  obtain ⟨H0, Hb0, as, Hb, M, ws, r, wr, g⟩ := s
  exact ⟨H0, Hb0, as, Hb, M, ws, r, wr, Good.le (h ws M) g⟩
section
variable {P : Program} {w : World} {K : PySem.W.Frag} {mg : Str → Option Value} {base : Heap} {k : Nat} {x : Str} {f : Addr} {ps : List Str} {dds : List PyData} {F G : PF}
theorem IsFn.le (i : IsFn P w K mg base k x ps dds F) (h : ∀ ws M, G ws M ≠ .stuck → F ws M = G ws M) : IsFn P w K mg base k x ps dds G := by
  obtain ⟨f, fd, dvs, ds, h1, h2, h3, h4⟩ := i.ex
  exact ⟨f, fd, dvs, ds, h1, h2, h3.imp fun vs H Q E s => SpG.le h s, h4⟩
theorem IsFnAt.le (i : IsFnAt P w K mg base k f ps dds F) (h : ∀ ws M, G ws M ≠ .stuck → F ws M = G ws M) : IsFnAt P w K mg base k f ps dds G := by
  obtain ⟨fd, dvs, ds, h3, h4⟩ := i.ex
  exact ⟨fd, dvs, ds, h3.imp fun vs H Q E s => SpG.le h s, h4⟩
/-- a def that changes nothing, by a plain function of its data -/
structure IsPure (P : Program) (w : World) (K : PySem.W.Frag) (mg : Str → Option Value) (base : Heap) (k : Nat) (x : Str) (ps : List Str) (dds : List PyData) (p : List PyData → PR) : Prop where
  ex : ∃ F, IsFn P w K mg base k x ps dds F ∧ ∀ ds, p ds ≠ .stuck → F.pure ds = p ds
theorem IsFn.pure (i : IsFn P w K mg base k x ps dds F) {p : List PyData → PR} (h : ∀ ds, p ds ≠ .stuck → F.pure ds = p ds) : IsPure P w K mg base k x ps dds p := ⟨F, i, h⟩
end
def pCallQ (p : List PyData → PR) (dds : List PyData) (a : PAx) : PEx := fun s M => (a s M).bind fun ws M1 => match allD ws with
  | some ds => (p (ds ++ dds)).to M1
  | none => match viewAll M1 ws with
    | some ds => (match p (ds ++ dds) with
      | .ok d => if scalar d then .ok (.d d) M1 else .stuck
      | .exc e => .exc e M1
      | .stuck => .stuck)
    | none => .stuck
section
variable {X : Cx} {w : WX} {k : Nat} {x : Str} {ps : List Str} {dds : List PyData} {f : List PyData → PR} {e : Expr} {es : List Expr} {pa : PAx} {p pos : Pos}
theorem je_callQ (hF : IsPure X.prog X.w X.K X.mg X.base k x ps dds f) (hr : Room k X.A) (hx : ∀ σ, PassesAt (L2N.CX X.prog X.w) X σ (WE w σ)) (ha : JA X w (e :: es) pa) (hg : Gl X x := by rfl) (hdb : (x == ("__debug__" : Str)) = false := by decide)
    (he : starEach (e :: es) X.env = (false, eval e X.env) :: starEach es X.env := by rfl) (hpl : (backTo pos (starEach es X.env)).any (·.1) = false := by rfl) : JE X w (.Call (.Name x p) (e :: es) [] pos) (pCallQ f dds pa) := by
  obtain ⟨F, i, h⟩ := hF.ex
  refine (je_callP i hr hx ha hg hdb he hpl).le fun s M ne => ?_
  unfold pCallQ at ne ⊢
  unfold pCallP
  cases q : pa s M with
  | stuck => rfl
  | exc a m => rfl
  | ok ws m =>
    rw [q] at ne
    simp only [R.bind] at ne ⊢
    cases h1 : allD ws with
    | some ds =>
      rw [h1] at ne
      have n : f (ds ++ dds) ≠ .stuck := fun z => ne (by simp [z, PR.to])
      simp [h _ n]
    | none =>
      rw [h1] at ne
      cases h2 : viewAll m ws with
      | none => rfl
      | some ds =>
        rw [h2] at ne
        have n : f (ds ++ dds) ≠ .stuck := fun z => ne (by simp [z])
        first
        | (simp [h _ n]; done)
        | (simp [h _ n]; rfl)
theorem je_gintE {i : Int} {pos : Pos} (hm : ∃ t, X.mg x = some (.int i t)) (hg : Gl X x := by rfl) (hd : (x == ("__debug__" : Str)) = false := by decide) : JE X w (.Name x pos) (pC (.int i)) := by
  obtain ⟨t, h⟩ := hm
  exact je_gint h hg hd
theorem je_gstrE {y : Str} {pos : Pos} (hm : ∃ t, X.mg x = some (.str y t)) (h : y.length ≤ sizeLine := by decide) (hg : Gl X x := by rfl) (hd : (x == ("__debug__" : Str)) = false := by decide) : JE X w (.Name x pos) (pC (.str y)) := by
  obtain ⟨t, h'⟩ := hm
  exact je_gstr h' h hg hd
end
theorem hu64 {k : Nat} {A : Around} (hr : Room k A) : A.units + 64 < cLine := by have := hr.un; omega
theorem hu65 {k : Nat} {A : Around} (hr : Room k A) : A.units + 65 < cLine := by have := hr.un; omega
theorem hu64H {k : Nat} {A : Around} (hr : RoomH k A) : A.units + 64 < cLine := by have := hr.un; omega

/-! ### where the text's defs lie -/
structure DefAt (K : PySem.W.Frag) (mg : Str → Option Value) (x : Str) (st : Stmt) (ps : List Str) : Prop where
  ex : ∃ f fd, mg x = some (.ref f) ∧ PySem.W.keepIn K (.ref f) = true ∧ Fun K x x st f fd ∧ Binds K fd ps []
/-- .. with defaults, all parameters given -/
structure DefAtD (K : PySem.W.Frag) (mg : Str → Option Value) (x : Str) (st : Stmt) (ps : List Str) : Prop where
  ex : ∃ f fd dvs kws, mg x = some (.ref f) ∧ PySem.W.keepIn K (.ref f) = true ∧ FunD K x x (defArgs st) (defBody st) (defScope st) dvs kws f fd ∧ Binds K fd ps []
structure MethAt (K : PySem.W.Frag) (C : Addr) (m q : Str) (st : Stmt) (ps : List Str) : Prop where
  ex : ∃ f fd, Meth K C m f ∧ Fun K m q st f fd ∧ Binds K fd ps []
structure MakeAt (K : PySem.W.Frag) (C : Addr) (q : Str) (st : Stmt) (ps : List Str) : Prop where
  ex : ∃ f fd, Mk K C f ∧ Fun K "__init__" q st f fd ∧ Binds K fd ps []
structure IsMeth (P : Program) (w : World) (K : PySem.W.Frag) (mg : Str → Option Value) (base : Heap) (k : Nat) (C : Addr) (m : Str) (ps : List Str) (F : PF) : Prop where
  ex : ∃ f, Meth K C m f ∧ IsFnAt P w K mg base k f ps [] F
structure IsMake (P : Program) (w : World) (K : PySem.W.Frag) (mg : Str → Option Value) (base : Heap) (k : Nat) (C : Addr) (ps : List Str) (F : PF) : Prop where
  ex : ∃ f, Mk K C f ∧ IsFnAt P w K mg base k f ps [] F
section
variable {P : Program} {w : World} {K : PySem.W.Frag} {mg : Str → Option Value} {base : Heap} {k : Nat} {x q : Str} {C : Addr} {st : Stmt} {N ps : List Str} {b : PSx} {F G : PF}
theorem IsMeth.le (i : IsMeth P w K mg base k C x ps F) (h : ∀ ws M, G ws M ≠ .stuck → F ws M = G ws M) : IsMeth P w K mg base k C x ps G := let ⟨f, h1, h2⟩ := i.ex; ⟨f, h1, h2.le h⟩
theorem IsMake.le (i : IsMake P w K mg base k C ps F) (h : ∀ ws M, G ws M ≠ .stuck → F ws M = G ws M) : IsMake P w K mg base k C ps G := let ⟨f, h1, h2⟩ := i.ex; ⟨f, h1, h2.le h⟩
/-- what a body's proof gets -/
structure BodyX (X : Cx) (w : WX) (k : Nat) : Prop where
  hr : Room k X.A
  hp : PassesOwn (model X.prog X.w) X.A X.env X.xe
  tk : L2N.Takes X w
  hx : ∀ σ, PassesAt (L2N.CX X.prog X.w) X σ (WE w σ)
theorem bodyX {qual : Str} {scope : Scope} {f : Addr} {cdv : Value} {A : Around} {outer : List Env} {s : Shared} {H : Hp} {E : XK} (hr : Room k (A.deeper (envOfC qual scope s.heap.objs.size f cdv))) : BodyX (cxOf (L2N.CX P w) P w K mg base N qual scope f cdv A outer s H E) (fun c d _ H' => E c d H') k :=
  have tk : L2N.Takes (cxOf (L2N.CX P w) P w K mg base N qual scope f cdv A outer s H E) (fun c d _ H' => E c d H') := L2N.takes_of rfl rfl rfl rfl
  ⟨hr, passes_of rfl, tk, fun σ => L2N.passAt tk σ⟩
theorem DefAt.fn (d : DefAt K mg x st ps) (S : FnScope N ps (defScope st))
    (hb : ∀ (f : Addr) (cdv : Value) (A : Around) (outer : List Env) (s : Shared) (H : Hp) (E : XK), BodyX (cxOf (L2N.CX P w) P w K mg base N x (defScope st) f cdv A outer s H E) (fun c d _ H' => E c d H') k → JSs (cxOf (L2N.CX P w) P w K mg base N x (defScope st) f cdv A outer s H E) (fun c d _ H' => E c d H') (defBody st) b) :
    IsFn P w K mg base (k + 1) x ps [] (runG N.length ps.length b) := by
  obtain ⟨f, fd, h1, h2, F, hB⟩ := d.ex
  exact ⟨f, fd, [], [], h1, h2, fn_G F S fun cdv A outer s H E hr => hb f cdv A outer s H E (bodyX hr), hB, .nil, .nil, trivial⟩
theorem DefAtD.fn (d : DefAtD K mg x st ps) (S : FnScope N ps (defScope st))
    (hb : ∀ (f : Addr) (cdv : Value) (A : Around) (outer : List Env) (s : Shared) (H : Hp) (E : XK), BodyX (cxOf (L2N.CX P w) P w K mg base N x (defScope st) f cdv A outer s H E) (fun c d _ H' => E c d H') k → JSs (cxOf (L2N.CX P w) P w K mg base N x (defScope st) f cdv A outer s H E) (fun c d _ H' => E c d H') (defBody st) b) :
    IsFn P w K mg base (k + 1) x ps [] (runG N.length ps.length b) := by
  obtain ⟨f, fd, dvs, kws, h1, h2, F, hB⟩ := d.ex
  exact ⟨f, fd, [], [], h1, h2, fn_GD F S fun cdv A outer s H E hr => hb f cdv A outer s H E (bodyX hr), hB, .nil, .nil, trivial⟩
theorem MethAt.fn (d : MethAt K C x q st ps) (S : FnScope N ps (defScope st))
    (hb : ∀ (f : Addr) (cdv : Value) (A : Around) (outer : List Env) (s : Shared) (H : Hp) (E : XK), BodyX (cxOf (L2N.CX P w) P w K mg base N q (defScope st) f cdv A outer s H E) (fun c d _ H' => E c d H') k → JSs (cxOf (L2N.CX P w) P w K mg base N q (defScope st) f cdv A outer s H E) (fun c d _ H' => E c d H') (defBody st) b) :
    IsMeth P w K mg base (k + 1) C x ps (runG N.length ps.length b) := by
  obtain ⟨f, fd, h1, F, hB⟩ := d.ex
  exact ⟨f, h1, fd, [], [], fn_G F S fun cdv A outer s H E hr => hb f cdv A outer s H E (bodyX hr), hB, .nil, .nil, trivial⟩
theorem MakeAt.fn (d : MakeAt K C q st ps) (S : FnScope N ps (defScope st))
    (hb : ∀ (f : Addr) (cdv : Value) (A : Around) (outer : List Env) (s : Shared) (H : Hp) (E : XK), BodyX (cxOf (L2N.CX P w) P w K mg base N q (defScope st) f cdv A outer s H E) (fun c d _ H' => E c d H') k → JSs (cxOf (L2N.CX P w) P w K mg base N q (defScope st) f cdv A outer s H E) (fun c d _ H' => E c d H') (defBody st) b) :
    IsMake P w K mg base (k + 1) C ps (runG N.length ps.length b) := by
  obtain ⟨f, fd, h1, F, hB⟩ := d.ex
  exact ⟨f, h1, fd, [], [], fn_G F S fun cdv A outer s H E hr => hb f cdv A outer s H E (bodyX hr), hB, .nil, .nil, trivial⟩
end
section
variable {X : Cx} {w : WX} {k : Nat} {C : Addr} {m x : Str} {ps : List Str} {F : PF} {o e : Expr} {es : List Expr} {po : PEx} {pa : PAx} {p pos apos : Pos}
theorem je_methB {pl : Sem Bool} (c : Cls X.K C) (i : IsMeth X.prog X.w X.K X.mg X.base k C m ps F) (hr : Room k X.A) (hx : ∀ σ, PassesAt (L2N.CX X.prog X.w) X σ (WE w σ)) (ho : JE X w o po) (ha : JA X w (e :: es) pa)
    (hst : starEach (e :: es) X.env = (false, eval e X.env) :: starEach es X.env := by rfl) (hpl : (backTo pos (starEach es X.env)).any (·.1) = false := by rfl)
    (ht : eval (.Call (.Attribute o m apos) (e :: es) [] pos) X.env = (do
      let ov ← eval o X.env
      standAt apos.atName
      let (f, first) ← holding [ov] (getMethod ov m pl)
      callWith pos f first (backTo pos (starEach (e :: es) X.env)) (backToKw pos (keywordEach [] X.env))) := by rfl) :
    JE X w (.Call (.Attribute o m apos) (e :: es) [] pos) (pMeth C m F [] po pa) := by
  obtain ⟨f, h1, h2⟩ := i.ex
  exact je_meth c h1 h2 hr hx ho ha hst hpl ht
theorem je_methB0 {pl : Sem Bool} (c : Cls X.K C) (i : IsMeth X.prog X.w X.K X.mg X.base k C m ps F) (hr : Room k X.A) (hx : ∀ σ, PassesAt (L2N.CX X.prog X.w) X σ (WE w σ)) (ho : JE X w o po)
    (ht : eval (.Call (.Attribute o m apos) [] [] pos) X.env = (do
      let ov ← eval o X.env
      standAt apos.atName
      let (f, first) ← holding [ov] (getMethod ov m pl)
      callWith pos f first (backTo pos (starEach [] X.env)) (backToKw pos (keywordEach [] X.env))) := by rfl) :
    JE X w (.Call (.Attribute o m apos) [] [] pos) (pMeth C m F [] po pNil) := by
  obtain ⟨f, h1, h2⟩ := i.ex
  exact je_meth0 c h1 h2 hr hx ho ht
theorem je_makeB (i : IsMake X.prog X.w X.K X.mg X.base k C ps F) (hr : Room (k + 1) X.A) (hm : X.mg x = some (.ref C)) (ha : JA X w (e :: es) pa) (hg : Gl X x := by rfl) (hdb : (x == ("__debug__" : Str)) = false := by decide)
    (he : starEach (e :: es) X.env = (false, eval e X.env) :: starEach es X.env := by rfl) (hpl : (backTo pos (starEach es X.env)).any (·.1) = false := by rfl) : JE X w (.Call (.Name x p) (e :: es) [] pos) (pMake C F [] pa) := by
  obtain ⟨f, h1, h2⟩ := i.ex
  exact je_make h1 h2 hr hm ha hg hdb he hpl
theorem je_makeB0 (i : IsMake X.prog X.w X.K X.mg X.base k C ps F) (hr : Room (k + 1) X.A) (hm : X.mg x = some (.ref C)) (hg : Gl X x := by rfl) (hdb : (x == ("__debug__" : Str)) = false := by decide) : JE X w (.Call (.Name x p) [] [] pos) (pMake C F [] pNil) := by
  obtain ⟨f, h1, h2⟩ := i.ex
  exact je_make0 h1 h2 hr hm hg hdb
end
end Z

set_option linter.all false
set_option autoImplicit false
set_option maxRecDepth 100000
set_option maxHeartbeats 4000000
namespace Z
open PySem PySem.Spec PyProof.Rows L2 L2H

/-! ### except C as n: return f(n) -/
/-- an error of the class named c, without fields -/
def ZpC (mg : Str → Option Value) (c : Str) : Obj → Prop := fun o => ∃ cls, mg c = some cls ∧ L2N.Zn cls none o ∧ ∃ vs, o.data = .fields vs
def gHot (s : Str) (a : Addr) : PF := fun ws M => match ws with
  | [.k u] => if u = .ref a then .ok (.d (.str s)) M else .stuck
  | _ => .stuck
def suHot (code : Str → Str) (i : Nat) : Exn → Addr → PSx := fun e a => match e.arg with
  | none => pRet (pCallG (gHot (code e.c) a) [] (pCons (pVar i) pNil))
  | some _ => fun _ _ => .stuck
theorem suHot_in (code : Str → Str) (i : Nat) (e : Exn) (a : Addr) (s : Sl) (M : Ms) : clearO i (suHot code i e a (s.set i (some (.k (.ref a)))) M) = clearO i (suHot code i e 0 (s.set i (some (.k (.ref 0)))) M) := by
  unfold suHot
  cases e.arg with
  | some _ => rfl
  | none =>
    unfold pRet pCallG pCons pVar pNil gHot
    by_cases h : i < s.length
    · simp [List.getElem?_set_self h, R.bind, R.to, clearO]
    · have h1 : (s.set i (some (W.k (.ref a))))[i]? = none := List.getElem?_eq_none (by simpa using h)
      have h2 : (s.set i (some (W.k (.ref 0))))[i]? = none := List.getElem?_eq_none (by simpa using h)
      simp [h1, h2, R.bind, R.to, clearO]
theorem jss_none {X : Cx} {w : WX} {b : List Stmt} : JSs X w b (fun _ _ => .stuck) := ⟨fun _ _ _ => False, ⟨fun _ _ _ _ _ _ h => h.elim⟩, fun _ _ _ _ _ _ _ _ _ _ _ g => g⟩
theorem IsFnH.le {P : Program} {w : World} {K : PySem.W.Frag} {mg : Str → Option Value} {base : Heap} {k : Nat} {x : Str} {ps : List Str} {Zp : Obj → Prop} {F G : Addr → PF} (i : IsFnH P w K mg base k x ps Zp F) (h : ∀ a ws M, G a ws M ≠ .stuck → F a ws M = G a ws M) : IsFnH P w K mg base k x ps Zp G := by
  obtain ⟨f, fd, h1, h2, h3, h4⟩ := i.ex
  exact ⟨f, fd, h1, h2, ⟨fun a vs H Q E s => h3.len a vs H Q E (SpG.le (h a) s), fun A outer s H args us vs Q E p r1 r2 r3 r4 r5 r6 r7 r8 => h3.run A outer s H args us vs Q E p r1 r2 r3 r4 r5 r6 r7 (SpG.le (h p.1) r8)⟩, h4⟩
section
variable {X : Cx} {w : WX}
theorem js_try_hot {j k i : Nat} {x n xr : Str} {ps : List Str} {c : Value} {body : List Stmt} {np p1 p2 p3 p4 pos pos' : Pos} {cat : Str → Option Bool} {code : Str → Str} {pb : PSx} (hN : X.N.Nodup) (tk : L2N.Takes X w) (hr : Room k X.A) (hjk : j ≤ k) (hc : Names X x c)
    (hcat : ∀ y b, cat y = some b → ∃ cv, X.mg y = some cv ∧ PySem.W.exmOne X.K cv c = some b)
    (hF : ∀ y, cat y = some true → IsFnH X.prog X.w X.K X.mg X.base j xr ps (ZpC X.mg y) (gHot (code y)))
    (hb : ∀ (W : WX) (pn : List (Addr × Obj)) (xe : Value → Shared → Prop), L2N.Takes (X.tr pn xe) W → PassesOwn (model X.prog X.w) X.A X.env xe → JSs (X.tr pn xe) W body pb)
    (hs : X.stack = X.env :: X.outer := by rfl) (hf : X.env.frame = some X.env.locals := by rfl) (hi : X.N[i]? = some n := by rfl) (hln : X.env.kindOf n = some .local := by rfl)
    (hg : Gl X xr := by rfl) (hdb : (xr == ("__debug__" : Str)) = false := by decide) (hv : Vis X.env.scope n := by first | exact Or.inl rfl | exact Or.inr (Or.inl rfl) | exact Or.inr (Or.inr rfl)) (hd : (n == ("__debug__" : Str)) = false := by decide)
    (hcd : (n == ("__classdict__" : Str)) = false := by decide) :
    JS X w (.Try body [.ExceptHandler (some (.Name x np)) (some n) [.Return (some (.Call (.Name xr p1) [.Name n p2] [] p3)) p4] pos'] [] [] pos) (pTry cat i pb (suHot code i)) := by
  refine js_try_as hs hf hN hc tk hcat hb (fun e a oe cls d pn h1 h2 h3 hz hfl => ?_) (suHot_in code i) hi hln
  unfold suHot
  cases ha : e.arg with
  | some _ => exact jss_none
  | none =>
    have hd0 : d = none := h3 ha
    subst hd0
    obtain ⟨vs, hvs⟩ := hfl
    have hot : Hot1 (X.suite a ((a, oe) :: pn)).A (a, oe) := ⟨rfl, vs, hvs, hz.2.2 vs hvs⟩
    have hrr : RoomH j (X.suite a ((a, oe) :: pn)).A := (roomH_of hr).mono hjk |> fun r => ⟨r.dp, r.un⟩
    exact jss_one (js_ret (je_callHC (X := X.suite a ((a, oe) :: pn)) (p := (a, oe)) (hF e.c h1) hrr hot List.mem_cons_self ⟨cls, h2, hz, vs, hvs⟩ (fun _ => pass0) (ja_cons (je_var i hi hv hd hcd) ja_nil) hg hdb))
end

/-! ### isinstance of own classes, from what they are under -/
theorem kit_ref {K : PySem.W.Frag} {t : Value} {C : Addr} {b : Bool} (hd : PySem.W.hasDictIn K C = true) (ht : PySem.W.typeIn K (.ref C) = some (.type "type")) (hs : PySem.W.subIn K t (.ref C) = some b) (hn : PySem.W.subIn K (.ref C) (.ref C) = some true) : PySem.W.kitOne K t (.ref C) = some b := by
  unfold PySem.W.kitOne
  by_cases e : (t == .ref C) = true
  · rw [if_pos e]
    have e' : t = .ref C := beq_iff_eq.mp e
    subst e'
    rw [hn] at hs
    exact hs
  · rw [if_neg e]
    obtain ⟨cd, hc, _⟩ := PySem.W.any_some hd
    show (if ((PySem.W.clsIn K C).isSome && PySem.W.typeIn K (.ref C) == some (.type "type")) = true then PySem.W.subIn K t (.ref C) else none) = some b
    rw [if_pos (by rw [hc, ht]; rfl)]
    exact hs
theorem kit_bas {K : PySem.W.Frag} {C : Addr} {T : String} {b : Bool} (hm : PySem.W.kitMeta T = true) (hs : PySem.W.subIn K (.ref C) (.type T) = some b) : PySem.W.kitOne K (.ref C) (.type T) = some b := by
  unfold PySem.W.kitOne
  rw [if_neg (by simp)]
  show (if PySem.W.kitMeta T = true then PySem.W.subIn K (.ref C) (.type T) else none) = some b
  rw [if_pos hm]
  exact hs
end Z

set_option linter.all false
set_option autoImplicit false
set_option maxRecDepth 100000
set_option maxHeartbeats 4000000
namespace Z
open PySem PySem.Spec PyProof.Rows L2 L2H
theorem spG_stuck {K : PySem.W.Frag} {mg : Str → Option Value} {vs : List V} {H : Hp} {Q : VK} {E : XK} : ¬ SpG K mg (fun _ _ => .stuck) vs H Q E := fun ⟨_, _, _, _, _, _, _, _, g⟩ => g
/-! ### plain computing -/
theorem runG_pos {n k : Nat} {b : PSx} {ws : List W} {M : Ms} (h : ws.length = k) : runG n k b ws M = (b (startS n ws) M).toR := by
  unfold runG
  rw [if_pos h]
/-- a comprehension whose test and item change nothing -/
theorem lcL_pure {g : PGx} {tt : PTx} {te : PEx} {s : Sl} {M : Ms} (t : W → Bool) (f : W → W) : ∀ {ws acc : List W}, (∀ x ∈ ws, ∃ s', g x s M = some s' ∧ tt s' M = .ok (t x) M ∧ (t x = true → te s' M = .ok (f x) M)) → lcL g tt te s ws acc M = .ok (acc ++ (ws.filter t).map f) M
  | [], acc, _ => by simp [lcL]
  | x :: ws, acc, h => by
    obtain ⟨s', h1, h2, h3⟩ := h x List.mem_cons_self
    have ih := fun acc => lcL_pure (acc := acc) t f fun y hy => h y (List.mem_cons_of_mem _ hy)
    unfold lcL
    rw [h1]
    simp only [h2, R.bindN]
    cases q : t x with
    | true =>
      simp only [if_true, h3 q]
      rw [ih, List.filter_cons_of_pos q]
      simp
    | false =>
      simp only [Bool.false_eq_true, if_false]
      rw [ih, List.filter_cons_of_neg (by simp [q])]
theorem allD_nil : allD [] = some [] := rfl
theorem eqv_int (a b : Int) : PyData.eqv (.int a) (.int b) = (a == b) := by
  first
  | rfl
  | simp [PyData.eqv]
theorem shaped_int (a : Int) : SeqAt.shaped (.int a) = true := by
  first
  | rfl
  | simp [SeqAt.shaped]
theorem mul_ok {i j : Int} {M : Ms} (h : (-18446744073709551616 < i ∧ i < 18446744073709551616) ∨ (-18446744073709551616 < j ∧ j < 18446744073709551616)) : gMulI (.d (.int i)) (.d (.int j)) M = .ok (.d (.int (i * j))) M := by
  unfold gMulI gInt
  simp only
  rw [if_pos (by simpa using h)]
theorem div_ok {i j : Int} {M : Ms} (h : j ≠ 0) (h2 : j.natAbs < 1073741824) : gDivI (.d (.int i)) (.d (.int j)) M = .ok (.d (.int (i.fdiv j))) M := by
  unfold gDivI gInt
  simp only
  rw [if_pos ⟨h, h2⟩]
theorem mod_ok {i j : Int} {M : Ms} (h : j ≠ 0) : gModI (.d (.int i)) (.d (.int j)) M = .ok (.d (.int (i.fmod j))) M := by
  unfold gModI gInt
  simp only
  rw [if_pos h]
theorem pow10_ok {j : Nat} {M : Ms} (h : j ≤ 1000000) : gPowI (.d (.int 10)) (.d (.int j)) M = .ok (.d (.int (10 ^ j))) M := by
  unfold gPowI gInt
  simp only
  rw [if_pos ⟨by omega, by omega, by decide⟩]
  simp
theorem allD_ints (ns : List Int) : allD (List.map (W.d ∘ PyData.int) ns) = some (ns.map .int) := by
  rw [← List.map_map]
  exact allD_map _
end Z

set_option linter.all false
set_option autoImplicit false
set_option maxRecDepth 100000
set_option maxHeartbeats 4000000
namespace Z
open PySem PySem.Spec PyProof.Rows L2 L2H
def wi (n : Int) : W := .d (.int n)
theorem allD_wi : ∀ l : List Int, allD (l.map wi) = some (l.map .int)
  | [] => rfl
  | n :: l => by
    show (allD (l.map wi)).map (PyData.int n :: ·) = _
    rw [allD_wi l]
    rfl
theorem atI_nat {α : Type} {xs : List α} {i : Nat} : atI xs (i : Int) = xs[i]? := by
  unfold atI ixN
  rw [if_pos (by omega)]
  by_cases h : i < xs.length
  · rw [if_pos (by omega)]
    simp
  · rw [if_neg (by omega), List.getElem?_eq_none (by omega)]
    rfl
theorem ixN_nat {n i : Nat} (h : i < n) : ixN n (i : Int) = some i := by
  unfold ixN
  rw [if_pos (by omega), if_pos (by omega)]
  simp
def incrAt (l : List Int) (d : PyData) : List Int := match d with
  | .tuple [_, .int i] => l.set i.toNat (l.getD i.toNat 0 + 1)
  | _ => l
theorem incrAt_len (l : List Int) (d : PyData) : (incrAt l d).length = l.length := by
  unfold incrAt
  split
  · exact List.length_set
  · rfl
def incB (f a : Nat) : PSx := pSub (pOp gAddI (pOp gIx (pVar f) (pVar a)) (pC (.int 1))) (pVar f) (pVar a)
def incG (r a : Nat) : PGx := qTup 2 (qCons (qName r) (qCons (qName a) qNil))
theorem incB_ok {f a m i : Nat} {s : Sl} {M : Ms} {l : List Int} (hf : s[f]? = some (some (.r m))) (ha : s[a]? = some (some (wi i))) (hM : M[m]? = some (.lst (l.map wi))) (hi : i < l.length) :
    incB f a s M = .nx s (M.set m (.lst ((l.set i (l.getD i 0 + 1)).map wi))) := by
  have h1 : pVar f s M = .ok (.r m) M := by unfold pVar; rw [hf]
  have h2 : pVar a s M = .ok (wi i) M := by unfold pVar; rw [ha]
  have hl : (l.map wi)[i]? = some (wi l[i]) := by rw [List.getElem?_map, List.getElem?_eq_getElem hi]; rfl
  have hg : gIx (.r m) (wi i) M = .ok (wi l[i]) M := by
    unfold gIx wi itemsL
    simp only [hM]
    rw [atI_nat, show (l.map wi)[i]? = some (wi l[i]) from hl]
    rfl
  have hix : ixN (l.map wi).length (i : Int) = some i := ixN_nat (by rw [List.length_map]; exact hi)
  have hd : l.getD i 0 = l[i] := by rw [List.getD_eq_getElem?_getD, List.getElem?_eq_getElem hi]; rfl
  have hadd : gAddI (wi l[i]) (.d (.int 1)) M = .ok (wi (l[i] + 1)) M := rfl
  unfold incB pSub pOp pC
  simp only [h1, h2, R.bind, R.to, hg, hadd]
  show (match M[m]? with | some (.lst ws) => (match ixN ws.length (i : Int) with | some k => O.nx s (M.set m (.lst (ws.set k (wi (l[i] + 1))))) | none => .stuck) | _ => .stuck) = _
  rw [hM]
  show (match ixN (l.map wi).length (i : Int) with | some k => O.nx s (M.set m (.lst ((l.map wi).set k (wi (l[i] + 1))))) | none => .stuck) = _
  rw [hix, hd, List.map_set]
theorem incr_loop {f r a m : Nat} (h1 : f ≠ r) (h2 : f ≠ a) (h3 : r ≠ a) : ∀ (xs : List PyData) (s : Sl) (M : Ms) (l : List Int), s[f]? = some (some (.r m)) → r < s.length → a < s.length → M[m]? = some (.lst (l.map wi)) →
    (∀ d ∈ xs, ∃ (z : Int) (i : Nat), d = .tuple [.int z, .int i] ∧ i < l.length) → ∃ s', forL (incG r a) (incB f a) (xs.map .d) s M = .nx s' (M.set m (.lst ((xs.foldl incrAt l).map wi))) ∧ s'.length = s.length ∧ ∀ j, j ≠ r → j ≠ a → s'[j]? = s[j]?
  | [], s, M, l, _, _, _, hM, _ => ⟨s, by rw [List.map_nil, forL, List.foldl_nil, set_same hM], rfl, fun _ _ _ => rfl⟩
  | d :: xs, s, M, l, hf, hr, ha, hM, hd => by
    obtain ⟨z, i, rfl, hi⟩ := hd d List.mem_cons_self
    have hg : incG r a (.d (.tuple [.int z, .int i])) s M = some ((s.set r (some (wi z))).set a (some (wi i))) := by
      simp [incG, qTup, itemsT, qCons, qName, qNil, wi]
    have hs1 : ((s.set r (some (wi z))).set a (some (wi i)))[f]? = some (some (.r m)) := by
      rw [List.getElem?_set_ne (Ne.symm h2), List.getElem?_set_ne (Ne.symm h1)]; exact hf
    have hs2 : ((s.set r (some (wi z))).set a (some (wi i)))[a]? = some (some (wi i)) := List.getElem?_set_self (by simpa using ha)
    have hb := incB_ok hs1 hs2 hM hi
    have hM' : (M.set m (.lst ((l.set i (l.getD i 0 + 1)).map wi)))[m]? = some (.lst ((l.set i (l.getD i 0 + 1)).map wi)) := List.getElem?_set_self (List.getElem?_eq_some_iff.mp hM).1
    obtain ⟨s', q1, q2, q3⟩ := incr_loop h1 h2 h3 xs _ _ (l.set i (l.getD i 0 + 1)) hs1 (by simpa using hr) (by simpa using ha) hM' fun d' hd' => by
      obtain ⟨z', i', e, hi'⟩ := hd d' (List.mem_cons_of_mem _ hd')
      exact ⟨z', i', e, by rw [List.length_set]; exact hi'⟩
    refine ⟨s', ?_, by rw [q2]; simp, fun j j1 j2 => ?_⟩
    · rw [List.map_cons, forL, hg]
      simp only [hb]
      rw [q1, List.set_set]
      rfl
    · rw [q3 j j1 j2, List.getElem?_set_ne (Ne.symm j2), List.getElem?_set_ne (Ne.symm j1)]

/-! ### shares -/
def floorsL (n : Int) (ns : List Int) : List Int := ns.map fun w => (n * w).fdiv ns.sum
def restD (n : Int) (ns : List Int) (i : Nat) : PyData := .tuple [.int (-((n * ns.getD i 0).fmod ns.sum)), .int i]
def restsL (n : Int) (ns : List Int) : List PyData := (List.range ns.length).map (restD n ns)
def sharesL (n : Int) (ns : List Int) : List Int := (cutW (sortD (restsL n ns)) none (some (n - (floorsL n ns).sum))).foldl incrAt (floorsL n ns)
theorem foldl_len (xs : List PyData) (l : List Int) : (xs.foldl incrAt l).length = l.length := by
  induction xs generalizing l with
  | nil => rfl
  | cons x xs ih => rw [List.foldl_cons, ih, incrAt_len]
theorem sharesL_len (n : Int) (ns : List Int) : (sharesL n ns).length = ns.length := by
  unfold sharesL
  rw [foldl_len, floorsL, List.length_map]
theorem alike2 (a b c d : Int) : PySem.W.alike (.tuple [.int a, .int b]) (.tuple [.int c, .int d]) = true := by
  first
  | rfl
  | simp [PySem.W.alike, PySem.W.alikeAll]
theorem sortable_rests (n : Int) (ns : List Int) : sortable (restsL n ns) = true := by
  unfold sortable allAlike restsL
  simp only [Bool.and_eq_true, Bool.or_eq_true, List.all_eq_true]
  refine ⟨⟨fun d hd e he => ?_, .inl fun d hd => ?_⟩, fun d hd => ?_⟩
  · obtain ⟨i, _, rfl⟩ := List.mem_map.mp hd
    obtain ⟨j, _, rfl⟩ := List.mem_map.mp he
    exact alike2 ..
  · obtain ⟨i, _, rfl⟩ := List.mem_map.mp hd
    rfl
  · obtain ⟨i, _, rfl⟩ := List.mem_map.mp hd
    simp [restD, PyData.depth, PyData.depthAll]
theorem cutW_mem {α : Type} {xs : List α} {lo hi : Option Int} {x : α} (h : x ∈ cutW xs lo hi) : x ∈ xs := List.mem_of_mem_drop (List.mem_of_mem_take h)
theorem sortD_mem {xs : List PyData} {x : PyData} (h : x ∈ sortD xs) : x ∈ xs := (List.mergeSort_perm _ _).mem_iff.mp h
theorem rests_at {n : Int} {ns : List Int} {hi : Option Int} : ∀ d ∈ cutW (sortD (restsL n ns)) none hi, ∃ (z : Int) (i : Nat), d = .tuple [.int z, .int i] ∧ i < (floorsL n ns).length := fun d hd => by
  obtain ⟨i, hi, rfl⟩ := List.mem_map.mp (sortD_mem (cutW_mem hd))
  exact ⟨_, i, rfl, by rw [floorsL, List.length_map]; exact List.mem_range.mp hi⟩
theorem gIx_ints {ns : List Int} {i : Nat} {M : Ms} (h : i < ns.length) : gIx (.d (.list (ns.map .int))) (.d (.int i)) M = .ok (wi (ns.getD i 0)) M := by
  unfold gIx itemsL
  simp only
  rw [atI_nat, List.getElem?_map, List.getElem?_map, List.getElem?_eq_getElem h, List.getD_eq_getElem?_getD, List.getElem?_eq_getElem h]
  rfl

/-- a comprehension without test -/
theorem lcL_all {g : PGx} {te : PEx} {s : Sl} {M : Ms} (f : W → W) {ws acc : List W} (h : ∀ x ∈ ws, ∃ s', g x s M = some s' ∧ te s' M = .ok (f x) M) : lcL g pYes te s ws acc M = .ok (acc ++ ws.map f) M := by
  have z := lcL_pure (g := g) (tt := pYes) (te := te) (s := s) (M := M) (acc := acc) (fun _ => true) f (ws := ws) fun x hx => let ⟨s', h1, h2⟩ := h x hx; ⟨s', h1, rfl, fun _ => h2⟩
  rw [z]
  have e : ws.filter (fun _ => true) = ws := List.filter_eq_self.mpr fun _ _ => rfl
  rw [e]
theorem rng1_okI {p : PEx} {s : Sl} {M : Ms} {j : Int} (h : p s M = .ok (.d (.int j)) M) (hc : -(2 ^ 62) ≤ j ∧ j < 2 ^ 62) : pRng1 p s M = .ok (rngW 0 j.toNat) M := by
  show (p s M).bind _ = _
  rw [h]
  exact if_pos hc
theorem small62 {j : Int} (h1 : 0 ≤ j) (h2 : j ≤ 1000000) : -(2 ^ 62) ≤ j ∧ j < 2 ^ 62 := by
  have e : (2 : Int) ^ 62 = 4611686018427387904 := by simp
  rw [e]
  omega
theorem rng1_ok {p : PEx} {s : Sl} {M : Ms} {n : Nat} (h : p s M = .ok (.d (.int n)) M) (hn : n ≤ 1000000) : pRng1 p s M = .ok (rngW 0 n) M := by
  have z := rng1_okI h (small62 (by omega) (by omega))
  rw [Int.toNat_natCast] at z
  exact z
theorem len_list {i : Nat} {s : Sl} {M : Ms} {ds : List PyData} (h : s[i]? = some (some (.d (.list ds)))) : pCall gLen (pCons (pVar i) pNil) s M = .ok (.d (.int ds.length)) M := by
  unfold pCall pCons pVar pNil
  simp only [h, R.bind, gLen, lenW, itemsL, List.length_map]

/-! ### step by step -/
section
variable {s s' : Sl} {M M' : Ms} {p q : PSx} {pe : PEx} {pl : PAx} {c : PTx} {x : W} {ws : List W} {i : Nat} {e : Exn}
theorem seq_nx (h : p s M = .nx s' M') : pSeq p q s M = q s' M' := by unfold pSeq; rw [h]
theorem seq_rt (h : p s M = .rt x M') : pSeq p q s M = .rt x M' := by unfold pSeq; rw [h]
theorem seq_exc (h : p s M = .exc e s' M') : pSeq p q s M = .exc e s' M' := by unfold pSeq; rw [h]
theorem set_ok (h : pe s M = .ok x M') : pSet i pe s M = .nx (s.set i (some x)) M' := by unfold pSet; rw [h]; rfl
theorem drop_ok (h : pe s M = .ok x M') : pDrop pe s M = .nx s M' := by unfold pDrop; rw [h]; rfl
theorem ret_ok (h : pe s M = .ok x M') : pRet pe s M = .rt x M' := by unfold pRet; rw [h]; rfl
theorem if_tt (h : c s M = .ok true M') : pIf c p q s M = p s M' := by unfold pIf; rw [h]; rfl
theorem if_ff (h : c s M = .ok false M') : pIf c p q s M = q s M' := by unfold pIf; rw [h]; rfl
theorem for_ok {g : PGx} (h : pl s M = .ok ws M') : pFor pl g p s M = forL g p ws s M' := by unfold pFor; rw [h]; rfl
theorem dat_ok {ds : List PyData} (h : pl s M = .ok ws M') (h2 : allD ws = some ds) : pDat pl s M = .ok (.d (.list ds)) M' := by unfold pDat; rw [h]; simp only [R.bind, h2]
theorem mut_ok (h : pl s M = .ok ws M') : pMut pl s M = .ok (.r M'.length) (M' ++ [.lst ws]) := by unfold pMut; rw [h]; rfl
theorem var_ok (h : s[i]? = some (some x)) : pVar i s M = .ok x M := by unfold pVar; rw [h]
end
theorem cutW_map {α β : Type} (f : α → β) (xs : List α) (lo hi : Option Int) : cutW (xs.map f) lo hi = (cutW xs lo hi).map f := by
  unfold cutW
  rw [List.length_map, List.map_take, List.map_drop]

/-! ### what a judge sees -/
def offL (n : Int) (ns ms : List Int) : List Int := (List.range ns.length).map fun i => ms.getD i 0 * ns.sum - n * ns.getD i 0
def maxL (l : List Int) : Int := match l with
  | [] => 0
  | x :: xs => xs.foldl max x
def minL (l : List Int) : Int := match l with
  | [] => 0
  | x :: xs => xs.foldl min x
def goodB (n : Int) (ns ms : List Int) : Bool := decide (ms.length = ns.length) && (decide (ms.sum = n) && (decide (maxL (offL n ns ms) < ns.sum) && (decide (-ns.sum < minL (offL n ns ms)) && decide (maxL (offL n ns ms) - minL (offL n ns ms) ≤ ns.sum))))
theorem maxL_mem {l : List Int} (h : l ≠ []) : maxL l ∈ l ∧ ∀ y ∈ l, y ≤ maxL l := by
  cases l with
  | nil => exact absurd rfl h
  | cons x xs => exact foldl_max_mem xs x
theorem minL_mem {l : List Int} (h : l ≠ []) : minL l ∈ l ∧ ∀ y ∈ l, minL l ≤ y := by
  cases l with
  | nil => exact absurd rfl h
  | cons x xs => exact foldl_min_mem xs x
theorem offL_ne {n : Int} {ns ms : List Int} (h : 1 ≤ ns.length) : offL n ns ms ≠ [] := by
  intro z
  have := congrArg List.length z
  rw [offL, List.length_map, List.length_range, List.length_nil] at this
  omega
theorem getD_mem {l : List Int} {i : Nat} (h : i < l.length) : l.getD i 0 ∈ l := by
  rw [List.getD_eq_getElem?_getD, List.getElem?_eq_getElem h]
  exact List.getElem_mem h
theorem le_sum {ns : List Int} (h : ∀ n ∈ ns, 0 ≤ n) : 0 ≤ ns.sum ∧ ∀ w ∈ ns, w ≤ ns.sum := by
  induction ns with
  | nil => simp
  | cons a l ih =>
    obtain ⟨i1, i2⟩ := ih fun n hn => h n (List.mem_cons_of_mem _ hn)
    have ha := h a List.mem_cons_self
    rw [List.sum_cons]
    refine ⟨by omega, fun w hw => ?_⟩
    rcases List.mem_cons.mp hw with e | hw
    · omega
    · have := i2 w hw
      omega
/-- nobody gets less than nothing, or more than all -/
theorem off_amount {n w m e : Int} (hn : 0 ≤ n) (hw : 0 ≤ w) (hwe : w ≤ e) (he : 0 < e) (h1 : m * e - n * w < e) (h2 : -e < m * e - n * w) : 0 ≤ m ∧ m ≤ n := by
  have a1 : 0 ≤ n * w := Int.mul_nonneg hn hw
  have a2 : n * w ≤ n * e := Int.mul_le_mul_of_nonneg_left hwe hn
  constructor
  · rcases Int.lt_or_le m 0 with h | h
    · have : m * e ≤ (-1) * e := Int.mul_le_mul_of_nonneg_right (by omega) (Int.le_of_lt he)
      omega
    · exact h
  · rcases Int.lt_or_le n m with h | h
    · have : (n + 1) * e ≤ m * e := Int.mul_le_mul_of_nonneg_right (by omega) (Int.le_of_lt he)
      rw [Int.add_mul] at this
      omega
    · exact h
theorem mem_getD {l : List Int} {m : Int} (h : m ∈ l) : ∃ i, i < l.length ∧ l.getD i 0 = m := by
  obtain ⟨i, hi, e⟩ := List.getElem_of_mem h
  exact ⟨i, hi, by rw [List.getD_eq_getElem?_getD, List.getElem?_eq_getElem hi]; exact e⟩
theorem good_amounts {n : Int} {ns ms : List Int} (hn : 0 ≤ n) (h1 : 1 ≤ ns.length) (hw : ∀ w ∈ ns, 0 ≤ w) (hz : ns.sum ≠ 0) (g : goodB n ns ms = true) : ∀ m ∈ ms, 0 ≤ m ∧ m ≤ n := by
  unfold goodB at g
  simp only [Bool.and_eq_true, decide_eq_true_eq] at g
  obtain ⟨gl, gs, g1, g2, g3⟩ := g
  obtain ⟨z0, zl⟩ := le_sum hw
  have mx := (maxL_mem (offL_ne (n := n) (ms := ms) h1)).2
  have mn := (minL_mem (offL_ne (n := n) (ms := ms) h1)).2
  intro m hm
  obtain ⟨i, hi, rfl⟩ := mem_getD hm
  have hi' : i < ns.length := by omega
  have ho : ms.getD i 0 * ns.sum - n * ns.getD i 0 ∈ offL n ns ms := List.mem_map.mpr ⟨i, List.mem_range.mpr hi', rfl⟩
  have b1 := mx _ ho
  have b2 := mn _ ho
  exact off_amount hn (hw _ (getD_mem hi')) (zl _ (getD_mem hi')) (by omega) (by omega) (by omega)
theorem intsOf_wi (l : List Int) : intsOf (l.map PyData.int) = some l := intsOf_map l
theorem nil_ok {s : Sl} {M : Ms} : pNil s M = .ok [] M := rfl
theorem cons_ok {a : PEx} {r : PAx} {s : Sl} {M M1 M2 : Ms} {x : W} {xs : List W} (ha : a s M = .ok x M1) (hr : r s M1 = .ok xs M2) : pCons a r s M = .ok (x :: xs) M2 := by
  unfold pCons
  rw [ha]
  simp only [R.bind]
  rw [hr]
theorem op_ok {g : W → W → Ms → R W} {a b : PEx} {s : Sl} {M M' M'' : Ms} {x y : W} (ha : a s M = .ok x M') (hb : b s M' = .ok y M'') : pOp g a b s M = g x y M'' := by
  unfold pOp
  rw [ha]
  simp only [R.bind]
  rw [hb]
theorem call1 {g : List W → Ms → R W} {p : PEx} {s : Sl} {M M' : Ms} {x : W} (h : p s M = .ok x M') : pCall g (pCons p pNil) s M = g [x] M' := by
  unfold pCall
  rw [cons_ok h nil_ok]
  rfl
theorem callL1 {g : List W → Ms → R (List W)} {p : PEx} {s : Sl} {M M' : Ms} {x : W} (h : p s M = .ok x M') : pCallL g (pCons p pNil) s M = g [x] M' := by
  unfold pCallL
  rw [cons_ok h nil_ok]
  rfl
end Z

set_option linter.all false
set_option autoImplicit false
set_option maxRecDepth 100000
set_option maxHeartbeats 4000000
namespace Z
open PySem PySem.Spec PyProof.Rows L2 L2H

/-! ### the shares are fair -/
theorem dataLe_total : PySem.W.TotalLe (PySem.W.dataLe false (id : PyData → PyData)) := PySem.W.sortLe_total _ _ _
theorem sum_take_drop (l : List Int) (k : Nat) : l.sum = (l.take k).sum + (l.drop k).sum := by
  conv => lhs; rw [← List.take_append_drop k l]
  rw [List.sum_append]
theorem sum_le_mul {l : List Int} {b : Int} (h : ∀ x ∈ l, x ≤ b) : l.sum ≤ l.length * b := by
  induction l with
  | nil => simp
  | cons a l ih =>
    have h1 := h a List.mem_cons_self
    have h2 := ih fun x hx => h x (List.mem_cons_of_mem _ hx)
    rw [List.sum_cons, List.length_cons]
    have : ((l.length + 1 : Nat) : Int) * b = l.length * b + b := by
      rw [Int.natCast_add, Int.add_mul]
      simp
    omega
theorem sum_nonneg {l : List Int} (h : ∀ x ∈ l, 0 ≤ x) : 0 ≤ l.sum := (le_sum h).1
theorem perm_sum {l m : List Int} (h : l.Perm m) : l.sum = m.sum := by
  induction h with
  | nil => rfl
  | cons a _ ih => rw [List.sum_cons, List.sum_cons, ih]
  | swap a b l => simp only [List.sum_cons]; omega
  | trans _ _ i1 i2 => exact i1.trans i2
theorem set_sum : ∀ {l : List Int} {i : Nat}, i < l.length → (l.set i (l.getD i 0 + 1)).sum = l.sum + 1
  | [], _, h => by simp at h
  | a :: l, 0, _ => by simp; omega
  | a :: l, i + 1, h => by
    have ih := set_sum (l := l) (i := i) (by simpa using h)
    rw [List.set_cons_succ, List.sum_cons, List.sum_cons, show (a :: l).getD (i + 1) 0 = l.getD i 0 from rfl, ih]
    omega
theorem incr_fold (n : Int) (ns : List Int) : ∀ (I : List Nat) (l : List Int), I.Nodup → (∀ i ∈ I, i < l.length) → ((I.map (restD n ns)).foldl incrAt l).sum = l.sum + I.length ∧ ∀ j, ((I.map (restD n ns)).foldl incrAt l).getD j 0 = l.getD j 0 + (if j ∈ I then 1 else 0)
  | [], l, _, _ => ⟨by simp, fun j => by simp⟩
  | i :: I, l, hn, hl => by
    obtain ⟨h1, h2⟩ := List.nodup_cons.mp hn
    have hi := hl i List.mem_cons_self
    have e : incrAt l (restD n ns i) = l.set i (l.getD i 0 + 1) := by
      unfold incrAt restD
      simp
    rw [List.map_cons, List.foldl_cons, e]
    obtain ⟨q1, q2⟩ := incr_fold n ns I (l.set i (l.getD i 0 + 1)) h2 fun j hj => by rw [List.length_set]; exact hl j (List.mem_cons_of_mem _ hj)
    refine ⟨by rw [q1, set_sum hi, List.length_cons]; omega, fun j => ?_⟩
    rw [q2]
    by_cases hj : j = i
    · subst hj
      have e1 : (l.set j (l.getD j 0 + 1)).getD j 0 = l.getD j 0 + 1 := by
        rw [List.getD_eq_getElem?_getD, List.getElem?_set_self hi]
        rfl
      rw [e1]
      simp [h1]
    · have e1 : (l.set i (l.getD i 0 + 1)).getD j 0 = l.getD j 0 := by
        rw [List.getD_eq_getElem?_getD, List.getElem?_set_ne (Ne.symm hj), ← List.getD_eq_getElem?_getD]
      rw [e1]
      simp [hj]
def remI (n : Int) (ns : List Int) (i : Nat) : Int := (n * ns.getD i 0).fmod ns.sum
def ordJ (n : Int) (ns : List Int) : List Nat := (List.range ns.length).mergeSort (PySem.W.dataLe false (restD n ns))
theorem sorted_rests (n : Int) (ns : List Int) : sortD (restsL n ns) = (ordJ n ns).map (restD n ns) := (PySem.W.sort_maps (restD n ns) fun _ _ _ _ => rfl).symm
theorem ordJ_perm (n : Int) (ns : List Int) : (ordJ n ns).Perm (List.range ns.length) := List.mergeSort_perm _ _
theorem ordJ_sorted (n : Int) (ns : List Int) : (ordJ n ns).Pairwise fun i j => remI n ns j ≤ remI n ns i := by
  have h := PySem.W.sort_pairwise (le := PySem.W.dataLe false (restD n ns)) (PySem.W.sortLe_total _ _ _) (List.range ns.length)
  refine List.Pairwise.imp ?_ h
  intro i j hij
  have e := PySem.W.dataLe_ii (fun i : Nat => -((n * ns.getD i 0).fmod ns.sum)) (fun i : Nat => (i : Int))
  have hij' : PySem.W.dataLe false (fun b : Nat => PyData.tuple [.int (-((n * ns.getD b 0).fmod ns.sum)), .int b]) i j = true := hij
  rw [e] at hij'
  have z := of_decide_eq_true hij'
  unfold remI
  omega
theorem map_getD (l : List Int) : (List.range l.length).map (fun i => l.getD i 0) = l := by
  apply List.ext_getElem?
  intro j
  rw [List.getElem?_map]
  by_cases h : j < l.length
  · rw [List.getElem?_range h, List.getElem?_eq_getElem h]
    show some (l.getD j 0) = _
    rw [List.getD_eq_getElem?_getD, List.getElem?_eq_getElem h]
    rfl
  · rw [List.getElem?_eq_none (by simpa using h), List.getElem?_eq_none (by omega)]
    rfl
theorem sum_parts (n e : Int) : ∀ ns : List Int, n * ns.sum = e * (ns.map fun w => (n * w).fdiv e).sum + (ns.map fun w => (n * w).fmod e).sum
  | [] => by simp
  | w :: ns => by
    have ih := sum_parts n e ns
    have h := Int.mul_fdiv_add_fmod (n * w) e
    simp only [List.sum_cons, List.map_cons, Int.mul_add]
    omega
theorem shares_good {n : Int} {ns : List Int} (hn : 0 ≤ n) (h1 : 1 ≤ ns.length) (hw : ∀ w ∈ ns, 0 ≤ w) (hz : ns.sum ≠ 0) : goodB n ns (sharesL n ns) = true := by
  have z0 := sum_nonneg hw
  generalize he : ns.sum = e at *
  have epos : 0 < e := by omega
  have r0 : ∀ i, 0 ≤ remI n ns i := fun i => by unfold remI; rw [he]; exact Int.fmod_nonneg_of_pos _ epos
  have r1 : ∀ i, remI n ns i < e := fun i => by unfold remI; rw [he]; exact Int.fmod_lt_of_pos _ epos
  -- what is left over
  obtain ⟨k, hk⟩ : ∃ k, k = n - (floorsL n ns).sum := ⟨_, rfl⟩
  have hsum : e * k = ((List.range ns.length).map (remI n ns)).sum := by
    have z := sum_parts n e ns
    have e1 : (ns.map fun w => (n * w).fmod e) = (List.range ns.length).map (remI n ns) := by
      conv => lhs; rw [← map_getD ns]
      rw [List.map_map]
      refine List.map_congr_left fun i _ => ?_
      show (n * ns.getD i 0).fmod e = remI n ns i
      unfold remI
      rw [he]
    rw [he, e1] at z
    have e2 : (ns.map fun w => (n * w).fdiv e) = floorsL n ns := by unfold floorsL; rw [he]
    rw [e2] at z
    rw [hk, Int.mul_sub, Int.mul_comm e n]
    omega
  have k0 : 0 ≤ k := by
    have : 0 ≤ ((List.range ns.length).map (remI n ns)).sum := sum_nonneg fun x hx => by
      obtain ⟨i, _, rfl⟩ := List.mem_map.mp hx
      exact r0 i
    rw [← hsum] at this
    rcases Int.lt_or_le k 0 with h | h
    · have : e * k < 0 := Int.mul_neg_of_pos_of_neg epos h
      omega
    · exact h
  have k1 : k ≤ ns.length := by
    have : ((List.range ns.length).map (remI n ns)).sum ≤ (((List.range ns.length).map (remI n ns)).length : Int) * e := sum_le_mul fun x hx => by
      obtain ⟨i, _, rfl⟩ := List.mem_map.mp hx
      exact Int.le_of_lt (r1 i)
    rw [← hsum, List.length_map, List.length_range, Int.mul_comm e k] at this
    exact Int.le_of_mul_le_mul_right this epos
  -- those who get one more
  obtain ⟨I, hI⟩ : ∃ I, I = (ordJ n ns).take k.toNat := ⟨_, rfl⟩
  have hJl : (ordJ n ns).length = ns.length := by rw [(ordJ_perm n ns).length_eq, List.length_range]
  have hcut : cutW (sortD (restsL n ns)) none (some k) = I.map (restD n ns) := by
    rw [sorted_rests, cutW_map, hI]
    congr 1
    unfold cutW
    rw [hJl]
    show ((ordJ n ns).drop 0).take ((if k < 0 then (k + (ns.length : Int)).toNat else min k.toNat ns.length) - 0) = _
    rw [if_neg (by omega), List.drop_zero, Nat.sub_zero, Nat.min_eq_left (by omega)]
  have hnd : (ordJ n ns).Nodup := (ordJ_perm n ns).nodup_iff.mpr List.nodup_range
  have hIn : I.Nodup := by rw [hI]; exact hnd.sublist (List.take_sublist _ _)
  have hIl : ∀ i ∈ I, i < ns.length := fun i hi => by
    rw [hI] at hi
    exact List.mem_range.mp ((ordJ_perm n ns).mem_iff.mp (List.mem_of_mem_take hi))
  have hIlen : (I.length : Int) = k := by rw [hI, List.length_take, hJl]; omega
  have hfl : (floorsL n ns).length = ns.length := by rw [floorsL, List.length_map]
  obtain ⟨q1, q2⟩ := incr_fold n ns I (floorsL n ns) hIn fun i hi => by rw [hfl]; exact hIl i hi
  have hsh : sharesL n ns = (I.map (restD n ns)).foldl incrAt (floorsL n ns) := by
    unfold sharesL
    rw [← hk, hcut]
  rw [← hsh] at q1 q2
  -- what each is off
  have hoff : ∀ i, i < ns.length → (sharesL n ns).getD i 0 * e - n * ns.getD i 0 = (if i ∈ I then e else 0) - remI n ns i := fun i hi => by
    rw [q2]
    have hf : (floorsL n ns).getD i 0 = (n * ns.getD i 0).fdiv e := by
      rw [List.getD_eq_getElem?_getD, floorsL, List.getElem?_map, List.getElem?_eq_getElem hi, List.getD_eq_getElem?_getD, List.getElem?_eq_getElem hi, he]
      rfl
    rw [hf]
    have h := Int.mul_fdiv_add_fmod (n * ns.getD i 0) e
    unfold remI
    rw [he, Int.add_mul, Int.mul_comm _ e]
    split
    · omega
    · omega
  have order : ∀ i j, i ∈ I → j < ns.length → j ∉ I → remI n ns j ≤ remI n ns i := fun i j hi hj hnj => by
    have hjJ : j ∈ ordJ n ns := (ordJ_perm n ns).mem_iff.mpr (List.mem_range.mpr hj)
    have hs := ordJ_sorted n ns
    rw [← List.take_append_drop k.toNat (ordJ n ns)] at hjJ hs
    rw [← hI] at hjJ hs
    have hjd : j ∈ (ordJ n ns).drop k.toNat := (List.mem_append.mp hjJ).resolve_left hnj
    exact (List.pairwise_append.mp hs).2.2 i hi j hjd
  have pos : ∀ i ∈ I, 0 < remI n ns i := fun i hi => by
    rcases Int.lt_or_le 0 (remI n ns i) with h | h
    · exact h
    · exfalso
      have hz' : remI n ns i = 0 := Int.le_antisymm h (r0 i)
      have hp : ((List.range ns.length).map (remI n ns)).sum = ((ordJ n ns).map (remI n ns)).sum := (perm_sum ((ordJ_perm n ns).map _)).symm
      rw [hp, sum_take_drop _ k.toNat, ← List.map_take, ← List.map_drop, ← hI] at hsum
      have s1 : (I.map (remI n ns)).sum ≤ ((I.map (remI n ns)).length : Int) * (e - 1) := sum_le_mul fun x hx => by
        obtain ⟨j, _, rfl⟩ := List.mem_map.mp hx
        have := r1 j
        omega
      have s2 : (((ordJ n ns).drop k.toNat).map (remI n ns)).sum ≤ ((((ordJ n ns).drop k.toNat).map (remI n ns)).length : Int) * 0 := sum_le_mul fun x hx => by
        obtain ⟨j, hj, rfl⟩ := List.mem_map.mp hx
        have hs := ordJ_sorted n ns
        rw [← List.take_append_drop k.toNat (ordJ n ns), ← hI] at hs
        have := (List.pairwise_append.mp hs).2.2 i hi j hj
        omega
      rw [List.length_map, hIlen, Int.mul_sub, Int.mul_one, Int.mul_comm k e] at s1
      rw [Int.mul_zero] at s2
      have : 0 < I.length := List.length_pos_of_mem hi
      omega
  have one := offL_ne (n := n) (ms := sharesL n ns) h1
  have val : ∀ z ∈ offL n ns (sharesL n ns), ∃ i, i < ns.length ∧ z = (if i ∈ I then e else 0) - remI n ns i := fun z hz' => by
    obtain ⟨i, hi, rfl⟩ := List.mem_map.mp hz'
    have hi' := List.mem_range.mp hi
    refine ⟨i, hi', ?_⟩
    rw [he]
    exact hoff i hi'
  obtain ⟨i, hi, ei⟩ := val _ (maxL_mem one).1
  obtain ⟨j, hj, ej⟩ := val _ (minL_mem one).1
  unfold goodB
  rw [he, ei, ej, sharesL_len]
  have b1 := r0 i
  have b2 := r1 i
  have b3 := r0 j
  have b4 := r1 j
  have hs1 : (sharesL n ns).sum = n := by rw [q1, hIlen, hk]; omega
  simp only [hs1, decide_true, Bool.true_and, Bool.and_eq_true, decide_eq_true_eq]
  by_cases ci : i ∈ I <;> by_cases cj : j ∈ I
  · have p1 := pos i ci
    have p2 := pos j cj
    simp only [ci, cj, if_true]
    omega
  · have p1 := pos i ci
    have p2 := order i j ci hj cj
    simp only [ci, cj, if_true, if_false]
    omega
  · have p2 := pos j cj
    simp only [ci, cj, if_true, if_false]
    omega
  · simp only [ci, cj, if_false]
    omega
end Z

set_option linter.all false
set_option autoImplicit false
set_option maxRecDepth 100000
set_option maxHeartbeats 4000000
namespace Z
open PySem PySem.Spec PyProof.Rows L2 L2H
/-! ### rows of rates -/
structure Row where
  a : Str
  b : Str
  d : Int
  p : Int
  q : Int
def unit (s : Str) : Prop := s = "u" ∨ s = "v" ∨ s = "w"
def Row.ok (r : Row) : Prop := unit r.a ∧ unit r.b
def rowD (r : Row) : PyData := .tuple [.str r.a, .str r.b, .int r.d, .tuple [.int r.p, .int r.q]]
theorem eqv3 (a b a' b' : Str) (d d' : Int) : PyData.eqv (.tuple [.str a, .str b, .int d]) (.tuple [.str a', .str b', .int d']) = (a == a' && (b == b' && d == d')) := by
  simp [PyData.eqv, PyData.eqvAll]
theorem eqv2 (a b a' b' : Str) : PyData.eqv (.tuple [.str a, .str b]) (.tuple [.str a', .str b']) = (a == a' && b == b') := by
  simp [PyData.eqv, PyData.eqvAll]
theorem unit_str {s : Str} (h : unit s) : PyData.strOk s = true := by
  rcases h with rfl | rfl | rfl <;> decide +kernel
theorem shaped3 {a b : Str} {d : Int} (ha : unit a) (hb : unit b) : SeqAt.shaped (.tuple [.str a, .str b, .int d]) = true := by
  simp [SeqAt.shaped, PyData.canLay0, PyData.canLayAll0, PyData.depth, PyData.depthAll, unit_str ha, unit_str hb]
theorem shaped2 {a b : Str} (ha : unit a) (hb : unit b) : SeqAt.shaped (.tuple [.str a, .str b]) = true := by
  simp [SeqAt.shaped, PyData.canLay0, PyData.canLayAll0, PyData.depth, PyData.depthAll, unit_str ha, unit_str hb]
theorem alike_rows (r s : Row) : PySem.W.alike (rowD r) (rowD s) = true := by
  simp [rowD, PySem.W.alike, PySem.W.alikeAll]
theorem sortable_rows (rs : List Row) : sortable (rs.map rowD) = true := by
  unfold sortable allAlike
  simp only [Bool.and_eq_true, Bool.or_eq_true, List.all_eq_true]
  refine ⟨⟨fun d hd e he => ?_, .inl fun d hd => ?_⟩, fun d hd => ?_⟩
  · obtain ⟨i, _, rfl⟩ := List.mem_map.mp hd
    obtain ⟨j, _, rfl⟩ := List.mem_map.mp he
    exact alike_rows ..
  · obtain ⟨i, _, rfl⟩ := List.mem_map.mp hd
    rfl
  · obtain ⟨i, _, rfl⟩ := List.mem_map.mp hd
    simp [rowD, PyData.depth, PyData.depthAll]
def sortR (rs : List Row) : List Row := rs.mergeSort (PySem.W.dataLe false rowD)
theorem sortR_map (rs : List Row) : sortD (rs.map rowD) = (sortR rs).map rowD := (PySem.W.sort_maps rowD fun _ _ _ _ => rfl).symm
theorem sortR_perm (rs : List Row) : (sortR rs).Perm rs := List.mergeSort_perm _ _
def keyIs (a b : Str) (d : Int) (r : Row) : Bool := r.a == a && (r.b == b && r.d == d)
theorem lt_total {x y : PyData} (h1 : PySem.W.dataLt x y = false) (h2 : PySem.W.dataLt y x = false) (h : PySem.W.alike x y = true) : PyData.eqv x y = true := by
  have e := PyProof.Rows.lex_total _ _ h1 h2
  cases q : PyData.eqv x y with
  | true => rfl
  | false =>
    exfalso
    have z := (PySem.W.toks_eqv x y h).2 q
    have z1 := z [] []
    have z2 := z [] [.inl 0]
    rw [e, PySem.W.lex_pre] at z1 z2
    rw [← z1] at z2
    exact absurd z2 (by decide)
theorem row_eqv {r s : Row} (h : PyData.eqv (rowD r) (rowD s) = true) : r = s := by
  obtain ⟨a, b, d, p, q⟩ := r
  obtain ⟨a', b', d', p', q'⟩ := s
  simp [rowD, PyData.eqv, PyData.eqvAll] at h
  obtain ⟨rfl, rfl, rfl, rfl, rfl⟩ := h
  rfl
theorem perm_eq {α : Type} {le : α → α → Prop} : ∀ {l m : List α}, l.Perm m → l.Pairwise le → m.Pairwise le → (∀ a ∈ l, ∀ b ∈ l, le a b → le b a → a = b) → l = m
  | [], m, p, _, _, _ => p.nil_eq
  | a :: l, [], p, _, _, _ => absurd p.length_eq (by simp)
  | a :: l, b :: m, p, h1, h2, ha => by
    have hb : b ∈ a :: l := p.mem_iff.mpr List.mem_cons_self
    have ham : a ∈ b :: m := p.mem_iff.mp List.mem_cons_self
    have e : a = b := by
      rcases List.mem_cons.mp hb with e | hb'
      · exact e.symm
      · rcases List.mem_cons.mp ham with e | ham'
        · exact e
        · exact ha a List.mem_cons_self b hb (List.rel_of_pairwise_cons h1 hb') (List.rel_of_pairwise_cons h2 ham')
    subst e
    rw [perm_eq p.cons_inv (List.Pairwise.of_cons h1) (List.Pairwise.of_cons h2) fun x hx y hy => ha x (List.mem_cons_of_mem _ hx) y (List.mem_cons_of_mem _ hy)]
/-- the same rows, sorted, are one list -/
theorem sortR_perm_eq {l m : List Row} (h : l.Perm m) : sortR l = sortR m := by
  have t := PySem.W.sortLe_total (PyProof.Rows.listOrd itemOrd) false fun b : Row => PySem.W.keyToks (rowD b)
  refine perm_eq (le := fun a b => PySem.W.dataLe false rowD a b = true) ((sortR_perm l).trans (h.trans (sortR_perm m).symm)) (PySem.W.sort_pairwise t l) (PySem.W.sort_pairwise t m) fun a _ b _ h1 h2 => ?_
  rw [PySem.W.dataLe_eq] at h1 h2
  simp only [cond_false, Bool.not_eq_true'] at h1 h2
  exact row_eqv (lt_total h2 h1 (alike_rows a b))
/-! ### the greatest -/
theorem max_fold : ∀ (xs : List PyData) (a : PyData), PySem.W.dataLt (xs.foldl (fun a y => if PySem.W.dataLt a y then y else a) a) a = false ∧ ∀ y ∈ xs, PySem.W.dataLt (xs.foldl (fun a y => if PySem.W.dataLt a y then y else a) a) y = false
  | [], a => ⟨PyProof.Rows.lex_irrefl _, fun y hy => by cases hy⟩
  | x :: xs, a => by
    rw [List.foldl_cons]
    by_cases c : PySem.W.dataLt a x = true
    · rw [if_pos c]
      obtain ⟨i1, i2⟩ := max_fold xs x
      refine ⟨?_, fun y hy => ?_⟩
      · rw [Bool.eq_false_iff]
        intro z
        have t : PySem.W.dataLt (xs.foldl (fun a y => if PySem.W.dataLt a y then y else a) x) x = true := PyProof.Rows.lex_trans _ _ _ z c
        rw [i1] at t
        cases t
      · rcases List.mem_cons.mp hy with rfl | hy
        · exact i1
        · exact i2 y hy
    · rw [if_neg c]
      obtain ⟨i1, i2⟩ := max_fold xs a
      refine ⟨i1, fun y hy => ?_⟩
      rcases List.mem_cons.mp hy with rfl | hy
      · rw [Bool.eq_false_iff]
        intro z
        rcases PyProof.Rows.lex_negTrans _ (PySem.W.keyToks a) _ z with h | h
        · rw [show PyProof.Rows.lexLt itemOrd _ _ = false from i1] at h
          cases h
        · exact c h
      · exact i2 y hy
theorem max_mem : ∀ (xs : List PyData) (a : PyData), xs.foldl (fun a y => if PySem.W.dataLt a y then y else a) a ∈ a :: xs
  | [], a => by simp
  | x :: xs, a => by
    rw [List.foldl_cons]
    have ih := max_mem xs (if PySem.W.dataLt a x then x else a)
    rcases List.mem_cons.mp ih with h | h
    · rw [h]; split <;> simp
    · simp [h]
structure Cand where
  d : Int
  k : Int
  p : Int
  q : Int
def candD (c : Cand) : PyData := .tuple [.int c.d, .int c.k, .tuple [.int c.p, .int c.q]]
theorem cand_lt {c e : Cand} (h : c.d < e.d ∨ (c.d = e.d ∧ c.k < e.k)) : PySem.W.dataLt (candD c) (candD e) = true := by
  unfold candD
  rw [PySem.W.dataLt_tuple, PySem.W.dataLt_cons (by rfl), PySem.W.dataLt_cons (by rfl)]
  simp only [eqv_int, PySem.W.dataLt_int]
  rcases h with h | ⟨h1, h2⟩
  · rw [if_neg (by simp; omega)]
    simpa using h
  · rw [if_pos (by simpa using h1), if_neg (by simp; omega)]
    simpa using h2
theorem alike_cands (r s : Cand) : PySem.W.alike (candD r) (candD s) = true := by
  simp [candD, PySem.W.alike, PySem.W.alikeAll]
end Z

set_option linter.all false
set_option autoImplicit false
set_option maxRecDepth 100000
set_option maxHeartbeats 4000000
namespace Z
open PySem PySem.Spec PyProof.Rows L2 L2H
noncomputable section
def catK (y : Str) : Option Bool := if y = "InvalidNumber" ∨ y = "InvalidPaper" then some true else none
def codeK (y : Str) : Str := if y = "InvalidNumber" then "number" else "paper"
abbrev N_is_name : List Str := ["word", "sign"]
def lp0_is_name : PSx :=
  pIf (pB (pOp gNinS (pVar 1) (pC (.str "abcdefghijklmnopqrstuvwxyz")))) (pRet (pC (.bool false))) (pNext)
def b_is_name : PSx :=
  pSeq (pIf (pOrT (pNotT (pTru (pCall gIsi (pCons (pVar 0) (pCons (pK (.ty "str")) pNil))))) (pNotT (pB (pChain (gLeI) (gLeI) (pC (.int 1)) (pCall gLen (pCons (pVar 0) (pNil))) (pC (.int 12)))))) (pRet (pC (.bool false))) (pNext))
  (pSeq (pFor (pItS (pVar 0)) (qName 1) (lp0_is_name))
  (pRet (pC (.bool true))))
def f0_is_name : PF := runG N_is_name.length (["word"] : List Str).length (b_is_name)
theorem run_is_name {ws : List W} {M : Ms} (h : ws.length = 1) : f0_is_name ws M = (b_is_name (startS 2 ws) M).toR := runG_pos h
def letterB (c : Nat) : Bool := !(!(!(Builtin.Str.occurrences ("abcdefghijklmnopqrstuvwxyz" : Str) ⟨#[c]⟩ 0 ("abcdefghijklmnopqrstuvwxyz" : Str).length 1).isEmpty))
def isNameD (d : PyData) : Bool := match d with
  | .str s => decide (1 ≤ s.length) && (decide (s.length ≤ 12) && s.cps.toList.all letterB)
  | _ => false
def q_is_name : List PyData → PR := fun ds => match ds with
  | [.str s] => .ok (.bool (isNameD (.str s)))
  | _ => .stuck
theorem lp0_name : ∀ (cs : List Nat) (s : Option W) (z : W) (M : Ms), ∃ s', forL (qName 1) lp0_is_name (cs.map fun c => .d (.str ⟨#[c]⟩)) [some z, s] M = if cs.all letterB = true then .nx [some z, s'] M else .rt (.d (.bool false)) M
  | [], s, z, M => ⟨s, by simp [forL]⟩
  | c :: cs, s, z, M => by
    obtain ⟨s', ih⟩ := lp0_name cs (some (.d (.str ⟨#[c]⟩))) z M
    refine ⟨s', ?_⟩
    rw [List.map_cons, forL]
    have hg : qName 1 (.d (.str ⟨#[c]⟩)) [some z, s] M = some [some z, some (.d (.str ⟨#[c]⟩))] := rfl
    rw [hg]
    cases hc : letterB c with
    | true =>
      have hb : lp0_is_name [some z, some (.d (.str ⟨#[c]⟩))] M = .nx [some z, some (.d (.str ⟨#[c]⟩))] M := by
        have hc' : (!(!(Builtin.Str.occurrences ("abcdefghijklmnopqrstuvwxyz" : Str) ⟨#[c]⟩ 0 ("abcdefghijklmnopqrstuvwxyz" : Str).length 1).isEmpty)) = false := by
          unfold letterB at hc
          simpa using hc
        unfold lp0_is_name
        rw [if_ff (M' := M) (by
          show R.ok (!(!(Builtin.Str.occurrences ("abcdefghijklmnopqrstuvwxyz" : Str) ⟨#[c]⟩ 0 ("abcdefghijklmnopqrstuvwxyz" : Str).length 1).isEmpty)) M = R.ok false M
          rw [hc'])]
        rfl
      simp only [hb]
      rw [ih]
      simp [hc]
    | false =>
      have hb : lp0_is_name [some z, some (.d (.str ⟨#[c]⟩))] M = .rt (.d (.bool false)) M := by
        have hc' : (!(!(Builtin.Str.occurrences ("abcdefghijklmnopqrstuvwxyz" : Str) ⟨#[c]⟩ 0 ("abcdefghijklmnopqrstuvwxyz" : Str).length 1).isEmpty)) = true := by
          unfold letterB at hc
          simpa using hc
        unfold lp0_is_name
        rw [if_tt (M' := M) (by
          show R.ok (!(!(Builtin.Str.occurrences ("abcdefghijklmnopqrstuvwxyz" : Str) ⟨#[c]⟩ 0 ("abcdefghijklmnopqrstuvwxyz" : Str).length 1).isEmpty)) M = R.ok true M
          rw [hc'])]
        rfl
      simp only [hb]
      simp [hc]
theorem pure_is_name : ∀ ds, q_is_name ds ≠ .stuck → f0_is_name.pure ds = q_is_name ds := by
  intro ds h
  match ds, h with
  | [.str s], _ =>
    unfold PF.pure
    rw [run_is_name rfl]
    obtain ⟨s', hl⟩ := lp0_name s.cps.toList none (.d (.str s)) []
    have it : pItS (pVar 0) [some (.d (.str s)), none] [] = .ok (s.cps.toList.map fun c => .d (.str ⟨#[c]⟩)) [] := rfl
    by_cases h1 : (1 : Int) ≤ s.length
    · by_cases h2 : (s.length : Int) ≤ 12
      · have n1 : 1 ≤ s.length := by omega
        have n2 : s.length ≤ 12 := by omega
        unfold b_is_name
        rw [seq_nx (s' := [some (.d (.str s)), none]) (M' := []) (by simp [h1, h2, pSeq, pNext, pIf, pSet, pDrop, pRet, pRetN, pAsg, pVar, pC, pK, pCons, pNil, pTup, pLst, pDat, pMut, pOp, pB, pChain, pAndT, pOrT, pNotT, pAndV, pOrV, pNotV, pTru, pIfE, pNeg, pCall, pCallL, pCallQ, pCallG, pRaise, R.bind, R.to, R.bindN, O.toR, PR.to, truth, allD, view, viewAll, itemsL, itemsT, lenW, tagD, tagW, isTy, tyOk, scalar, R.freeze, pFor, pItL, pItT, pItS, pRng1, pRng2, qName, qNil, qCons, qTup, pSub, pNo, pSo, pYes, pBrk, pCnt, startS, clearO, gInt, gAddI, gSubI, gLtI, gLeI, gGtI, gGeI, gEqD, gNeD, gIsN, gIsB, gStr, gIsi, gLen, gAbs, gInt1, gMin2, gMax2, gSum, gMaxI, gMinI, gList, gSorted, gIx, gInD, isNonD, viewI, catW, pCat, gMaxT, pFld, pSetF, pMeth, pMake, insOf, putW, noAtt, pTry, pListRev, pSlL, pSlT, pIsi2, allD_nil, eqv_int, shaped_int, allD_ints, allD_map, intsOf_map])]
        cases hc : s.cps.toList.all letterB with
        | true =>
          rw [hc] at hl
          rw [seq_nx ((for_ok it).trans hl)]
          rw [ret_ok rfl]
          simp [q_is_name, isNameD, n1, n2, hc, pSeq, pNext, pIf, pSet, pDrop, pRet, pRetN, pAsg, pVar, pC, pK, pCons, pNil, pTup, pLst, pDat, pMut, pOp, pB, pChain, pAndT, pOrT, pNotT, pAndV, pOrV, pNotV, pTru, pIfE, pNeg, pCall, pCallL, pCallQ, pCallG, pRaise, R.bind, R.to, R.bindN, O.toR, PR.to, truth, allD, view, viewAll, itemsL, itemsT, lenW, tagD, tagW, isTy, tyOk, scalar, R.freeze, pFor, pItL, pItT, pItS, pRng1, pRng2, qName, qNil, qCons, qTup, pSub, pNo, pSo, pYes, pBrk, pCnt, startS, clearO, gInt, gAddI, gSubI, gLtI, gLeI, gGtI, gGeI, gEqD, gNeD, gIsN, gIsB, gStr, gIsi, gLen, gAbs, gInt1, gMin2, gMax2, gSum, gMaxI, gMinI, gList, gSorted, gIx, gInD, isNonD, viewI, catW, pCat, gMaxT, pFld, pSetF, pMeth, pMake, insOf, putW, noAtt, pTry, pListRev, pSlL, pSlT, pIsi2, allD_nil, eqv_int, shaped_int, allD_ints, allD_map, intsOf_map]
        | false =>
          rw [hc] at hl
          rw [seq_rt ((for_ok it).trans hl)]
          simp [q_is_name, isNameD, n1, n2, hc, pSeq, pNext, pIf, pSet, pDrop, pRet, pRetN, pAsg, pVar, pC, pK, pCons, pNil, pTup, pLst, pDat, pMut, pOp, pB, pChain, pAndT, pOrT, pNotT, pAndV, pOrV, pNotV, pTru, pIfE, pNeg, pCall, pCallL, pCallQ, pCallG, pRaise, R.bind, R.to, R.bindN, O.toR, PR.to, truth, allD, view, viewAll, itemsL, itemsT, lenW, tagD, tagW, isTy, tyOk, scalar, R.freeze, pFor, pItL, pItT, pItS, pRng1, pRng2, qName, qNil, qCons, qTup, pSub, pNo, pSo, pYes, pBrk, pCnt, startS, clearO, gInt, gAddI, gSubI, gLtI, gLeI, gGtI, gGeI, gEqD, gNeD, gIsN, gIsB, gStr, gIsi, gLen, gAbs, gInt1, gMin2, gMax2, gSum, gMaxI, gMinI, gList, gSorted, gIx, gInD, isNonD, viewI, catW, pCat, gMaxT, pFld, pSetF, pMeth, pMake, insOf, putW, noAtt, pTry, pListRev, pSlL, pSlT, pIsi2, allD_nil, eqv_int, shaped_int, allD_ints, allD_map, intsOf_map]
      · have n2 : ¬ s.length ≤ 12 := by omega
        unfold b_is_name
        rw [seq_rt (x := .d (.bool false)) (M' := []) (by simp [h1, h2, pSeq, pNext, pIf, pSet, pDrop, pRet, pRetN, pAsg, pVar, pC, pK, pCons, pNil, pTup, pLst, pDat, pMut, pOp, pB, pChain, pAndT, pOrT, pNotT, pAndV, pOrV, pNotV, pTru, pIfE, pNeg, pCall, pCallL, pCallQ, pCallG, pRaise, R.bind, R.to, R.bindN, O.toR, PR.to, truth, allD, view, viewAll, itemsL, itemsT, lenW, tagD, tagW, isTy, tyOk, scalar, R.freeze, pFor, pItL, pItT, pItS, pRng1, pRng2, qName, qNil, qCons, qTup, pSub, pNo, pSo, pYes, pBrk, pCnt, startS, clearO, gInt, gAddI, gSubI, gLtI, gLeI, gGtI, gGeI, gEqD, gNeD, gIsN, gIsB, gStr, gIsi, gLen, gAbs, gInt1, gMin2, gMax2, gSum, gMaxI, gMinI, gList, gSorted, gIx, gInD, isNonD, viewI, catW, pCat, gMaxT, pFld, pSetF, pMeth, pMake, insOf, putW, noAtt, pTry, pListRev, pSlL, pSlT, pIsi2, allD_nil, eqv_int, shaped_int, allD_ints, allD_map, intsOf_map])]
        simp [q_is_name, isNameD, n2, pSeq, pNext, pIf, pSet, pDrop, pRet, pRetN, pAsg, pVar, pC, pK, pCons, pNil, pTup, pLst, pDat, pMut, pOp, pB, pChain, pAndT, pOrT, pNotT, pAndV, pOrV, pNotV, pTru, pIfE, pNeg, pCall, pCallL, pCallQ, pCallG, pRaise, R.bind, R.to, R.bindN, O.toR, PR.to, truth, allD, view, viewAll, itemsL, itemsT, lenW, tagD, tagW, isTy, tyOk, scalar, R.freeze, pFor, pItL, pItT, pItS, pRng1, pRng2, qName, qNil, qCons, qTup, pSub, pNo, pSo, pYes, pBrk, pCnt, startS, clearO, gInt, gAddI, gSubI, gLtI, gLeI, gGtI, gGeI, gEqD, gNeD, gIsN, gIsB, gStr, gIsi, gLen, gAbs, gInt1, gMin2, gMax2, gSum, gMaxI, gMinI, gList, gSorted, gIx, gInD, isNonD, viewI, catW, pCat, gMaxT, pFld, pSetF, pMeth, pMake, insOf, putW, noAtt, pTry, pListRev, pSlL, pSlT, pIsi2, allD_nil, eqv_int, shaped_int, allD_ints, allD_map, intsOf_map]
    · have n1 : ¬ 1 ≤ s.length := by omega
      unfold b_is_name
      rw [seq_rt (x := .d (.bool false)) (M' := []) (by simp [h1, pSeq, pNext, pIf, pSet, pDrop, pRet, pRetN, pAsg, pVar, pC, pK, pCons, pNil, pTup, pLst, pDat, pMut, pOp, pB, pChain, pAndT, pOrT, pNotT, pAndV, pOrV, pNotV, pTru, pIfE, pNeg, pCall, pCallL, pCallQ, pCallG, pRaise, R.bind, R.to, R.bindN, O.toR, PR.to, truth, allD, view, viewAll, itemsL, itemsT, lenW, tagD, tagW, isTy, tyOk, scalar, R.freeze, pFor, pItL, pItT, pItS, pRng1, pRng2, qName, qNil, qCons, qTup, pSub, pNo, pSo, pYes, pBrk, pCnt, startS, clearO, gInt, gAddI, gSubI, gLtI, gLeI, gGtI, gGeI, gEqD, gNeD, gIsN, gIsB, gStr, gIsi, gLen, gAbs, gInt1, gMin2, gMax2, gSum, gMaxI, gMinI, gList, gSorted, gIx, gInD, isNonD, viewI, catW, pCat, gMaxT, pFld, pSetF, pMeth, pMake, insOf, putW, noAtt, pTry, pListRev, pSlL, pSlT, pIsi2, allD_nil, eqv_int, shaped_int, allD_ints, allD_map, intsOf_map])]
      simp [q_is_name, isNameD, n1, pSeq, pNext, pIf, pSet, pDrop, pRet, pRetN, pAsg, pVar, pC, pK, pCons, pNil, pTup, pLst, pDat, pMut, pOp, pB, pChain, pAndT, pOrT, pNotT, pAndV, pOrV, pNotV, pTru, pIfE, pNeg, pCall, pCallL, pCallQ, pCallG, pRaise, R.bind, R.to, R.bindN, O.toR, PR.to, truth, allD, view, viewAll, itemsL, itemsT, lenW, tagD, tagW, isTy, tyOk, scalar, R.freeze, pFor, pItL, pItT, pItS, pRng1, pRng2, qName, qNil, qCons, qTup, pSub, pNo, pSo, pYes, pBrk, pCnt, startS, clearO, gInt, gAddI, gSubI, gLtI, gLeI, gGtI, gGeI, gEqD, gNeD, gIsN, gIsB, gStr, gIsi, gLen, gAbs, gInt1, gMin2, gMax2, gSum, gMaxI, gMinI, gList, gSorted, gIx, gInD, isNonD, viewI, catW, pCat, gMaxT, pFld, pSetF, pMeth, pMake, insOf, putW, noAtt, pTry, pListRev, pSlL, pSlT, pIsi2, allD_nil, eqv_int, shaped_int, allD_ints, allD_map, intsOf_map]
abbrev N_is_number : List Str := ["value", "least", "most"]
def b_is_number : PSx :=
  pSeq (pIf (pOrT (pTru (pCall gIsi (pCons (pVar 0) (pCons (pK (.ty "bool")) pNil)))) (pNotT (pTru (pCall gIsi (pCons (pVar 0) (pCons (pK (.ty "int")) pNil)))))) (pRet (pC (.bool false))) (pNext))
  (pRet (pChain (gLeI) (gLeI) (pVar 1) (pVar 0) (pVar 2)))
def f0_is_number : PF := runG N_is_number.length (["value", "least", "most"] : List Str).length (b_is_number)
theorem run_is_number {ws : List W} {M : Ms} (h : ws.length = 3) : f0_is_number ws M = (b_is_number (startS 3 ws) M).toR := runG_pos h
def isNumberD (d : PyData) (lo hi : Int) : Bool := match d with
  | .int n => decide (lo ≤ n) && decide (n ≤ hi)
  | _ => false
def q_is_number : List PyData → PR := fun ds => match ds with
  | [d, .int lo, .int hi] => .ok (.bool (isNumberD d lo hi))
  | _ => .stuck
theorem pure_is_number : ∀ ds, q_is_number ds ≠ .stuck → f0_is_number.pure ds = q_is_number ds := by
  intro ds h
  match ds, h with
  | [d, .int lo, .int hi], _ =>
    unfold PF.pure
    rw [run_is_number rfl]
    cases d with
    | int n =>
      by_cases h1 : lo ≤ n <;> by_cases h2 : n ≤ hi <;> simp [b_is_number, q_is_number, isNumberD, pSeq, pNext, pIf, pSet, pDrop, pRet, pRetN, pAsg, pVar, pC, pK, pCons, pNil, pTup, pLst, pDat, pMut, pOp, pB, pChain, pAndT, pOrT, pNotT, pAndV, pOrV, pNotV, pTru, pIfE, pNeg, pCall, pCallL, pCallQ, pCallG, pRaise, R.bind, R.to, R.bindN, O.toR, PR.to, truth, allD, view, viewAll, itemsL, itemsT, lenW, tagD, tagW, isTy, tyOk, scalar, R.freeze, pFor, pItL, pItT, pItS, pRng1, pRng2, qName, qNil, qCons, qTup, pSub, pNo, pSo, pYes, pBrk, pCnt, startS, clearO, gInt, gAddI, gSubI, gLtI, gLeI, gGtI, gGeI, gEqD, gNeD, gIsN, gIsB, gStr, gIsi, gLen, gAbs, gInt1, gMin2, gMax2, gSum, gMaxI, gMinI, gList, gSorted, gIx, gInD, isNonD, viewI, catW, pCat, gMaxT, pFld, pSetF, pMeth, pMake, insOf, putW, noAtt, pTry, pListRev, pSlL, pSlT, pIsi2, allD_nil, eqv_int, shaped_int, allD_ints, allD_map, intsOf_map, h1, h2]
    | _ => simp [b_is_number, q_is_number, isNumberD, pSeq, pNext, pIf, pSet, pDrop, pRet, pRetN, pAsg, pVar, pC, pK, pCons, pNil, pTup, pLst, pDat, pMut, pOp, pB, pChain, pAndT, pOrT, pNotT, pAndV, pOrV, pNotV, pTru, pIfE, pNeg, pCall, pCallL, pCallQ, pCallG, pRaise, R.bind, R.to, R.bindN, O.toR, PR.to, truth, allD, view, viewAll, itemsL, itemsT, lenW, tagD, tagW, isTy, tyOk, scalar, R.freeze, pFor, pItL, pItT, pItS, pRng1, pRng2, qName, qNil, qCons, qTup, pSub, pNo, pSo, pYes, pBrk, pCnt, startS, clearO, gInt, gAddI, gSubI, gLtI, gLeI, gGtI, gGeI, gEqD, gNeD, gIsN, gIsB, gStr, gIsi, gLen, gAbs, gInt1, gMin2, gMax2, gSum, gMaxI, gMinI, gList, gSorted, gIx, gInD, isNonD, viewI, catW, pCat, gMaxT, pFld, pSetF, pMeth, pMake, insOf, putW, noAtt, pTry, pListRev, pSlL, pSlT, pIsi2, allD_nil, eqv_int, shaped_int, allD_ints, allD_map, intsOf_map]
abbrev N_is_amount : List Str := ["value"]
def b_is_amount : PSx :=
  pRet (pCallQ q_is_number [] (pCons (pVar 0) (pCons (pNeg (pC (.int 1000000000))) (pCons (pC (.int 1000000000)) (pNil)))))
def f0_is_amount : PF := runG N_is_amount.length (["value"] : List Str).length (b_is_amount)
theorem run_is_amount {ws : List W} {M : Ms} (h : ws.length = 1) : f0_is_amount ws M = (b_is_amount (startS 1 ws) M).toR := runG_pos h
def isAmountD (d : PyData) : Bool := isNumberD d (-1000000000) 1000000000
def q_is_amount : List PyData → PR := fun ds => match ds with
  | [d] => .ok (.bool (isAmountD d))
  | _ => .stuck
theorem pure_is_amount : ∀ ds, q_is_amount ds ≠ .stuck → f0_is_amount.pure ds = q_is_amount ds := by
  intro ds h
  match ds, h with
  | [d], _ =>
    unfold PF.pure
    rw [run_is_amount rfl]
    simp [b_is_amount, q_is_amount, q_is_number, isAmountD, pSeq, pNext, pIf, pSet, pDrop, pRet, pRetN, pAsg, pVar, pC, pK, pCons, pNil, pTup, pLst, pDat, pMut, pOp, pB, pChain, pAndT, pOrT, pNotT, pAndV, pOrV, pNotV, pTru, pIfE, pNeg, pCall, pCallL, pCallQ, pCallG, pRaise, R.bind, R.to, R.bindN, O.toR, PR.to, truth, allD, view, viewAll, itemsL, itemsT, lenW, tagD, tagW, isTy, tyOk, scalar, R.freeze, pFor, pItL, pItT, pItS, pRng1, pRng2, qName, qNil, qCons, qTup, pSub, pNo, pSo, pYes, pBrk, pCnt, startS, clearO, gInt, gAddI, gSubI, gLtI, gLeI, gGtI, gGeI, gEqD, gNeD, gIsN, gIsB, gStr, gIsi, gLen, gAbs, gInt1, gMin2, gMax2, gSum, gMaxI, gMinI, gList, gSorted, gIx, gInD, isNonD, viewI, catW, pCat, gMaxT, pFld, pSetF, pMeth, pMake, insOf, putW, noAtt, pTry, pListRev, pSlL, pSlT, pIsi2, allD_nil, eqv_int, shaped_int, allD_ints, allD_map, intsOf_map]
abbrev N_checked_rate : List Str := ["rate", "one"]
def lc0_checked_rate : PAx :=
  pLc (pItT (pVar 0)) (qName 1) (pNotT (pTru (pCallQ q_is_number [] (pCons (pVar 1) (pCons (pC (.int 1)) (pCons (pC (.int 1000000)) (pNil))))))) (pVar 1) [1]
def b_checked_rate : PSx :=
  pSeq (pIf (pOrT (pNotT (pTru (pCall gIsi (pCons (pVar 0) (pCons (pK (.ty "tuple")) pNil))))) (pOrT (pB (pOp gNeD (pCall gLen (pCons (pVar 0) (pNil))) (pC (.int 2)))) (pTru (pDat (lc0_checked_rate))))) (pRaise "InvalidPaper") (pNext))
  (pRet (pVar 0))
def f0_checked_rate : PF := runG N_checked_rate.length (["rate"] : List Str).length (b_checked_rate)
theorem run_checked_rate {ws : List W} {M : Ms} (h : ws.length = 1) : f0_checked_rate ws M = (b_checked_rate (startS 2 ws) M).toR := runG_pos h
def rateOk (d : PyData) : Bool := match d with
  | .tuple [a, b] => isNumberD a 1 1000000 && isNumberD b 1 1000000
  | _ => false
def q_checked_rate : List PyData → PR := fun ds => match ds with
  | [d] => if rateOk d = true then .ok d else .exc ⟨"InvalidPaper", none⟩
  | _ => .stuck
theorem lc0_rate (a b : PyData) (s : Option W) : lc0_checked_rate [some (.d (.tuple [a, b])), s] [] = .ok (([W.d a, W.d b]).filter fun x => match x with | .d d => !isNumberD d 1 1000000 | _ => false) [] := by
  unfold lc0_checked_rate pLc
  simp only [pItT, pVar, R.bind, List.getElem?_cons_zero, List.map_cons, List.map_nil]
  rw [if_pos (by show 2 ≤ sizeLine; decide)]
  rw [lcL_pure (fun x => match x with | .d d => !isNumberD d 1 1000000 | _ => false) id]
  · simp
  · intro x hx
    have : ∃ d, x = .d d := by
      simp at hx
      rcases hx with h | h
      · exact ⟨a, h⟩
      · exact ⟨b, h⟩
    obtain ⟨d, rfl⟩ := this
    refine ⟨[some (.d (.tuple [a, b])), some (.d d)], by simp [qName, wipeS], ?_, fun _ => ?_⟩
    · simp [q_is_number, pSeq, pNext, pIf, pSet, pDrop, pRet, pRetN, pAsg, pVar, pC, pK, pCons, pNil, pTup, pLst, pDat, pMut, pOp, pB, pChain, pAndT, pOrT, pNotT, pAndV, pOrV, pNotV, pTru, pIfE, pNeg, pCall, pCallL, pCallQ, pCallG, pRaise, R.bind, R.to, R.bindN, O.toR, PR.to, truth, allD, view, viewAll, itemsL, itemsT, lenW, tagD, tagW, isTy, tyOk, scalar, R.freeze, pFor, pItL, pItT, pItS, pRng1, pRng2, qName, qNil, qCons, qTup, pSub, pNo, pSo, pYes, pBrk, pCnt, startS, clearO, gInt, gAddI, gSubI, gLtI, gLeI, gGtI, gGeI, gEqD, gNeD, gIsN, gIsB, gStr, gIsi, gLen, gAbs, gInt1, gMin2, gMax2, gSum, gMaxI, gMinI, gList, gSorted, gIx, gInD, isNonD, viewI, catW, pCat, gMaxT, pFld, pSetF, pMeth, pMake, insOf, putW, noAtt, pTry, pListRev, pSlL, pSlT, pIsi2, allD_nil, eqv_int, shaped_int, allD_ints, allD_map, intsOf_map]
    · simp [pSeq, pNext, pIf, pSet, pDrop, pRet, pRetN, pAsg, pVar, pC, pK, pCons, pNil, pTup, pLst, pDat, pMut, pOp, pB, pChain, pAndT, pOrT, pNotT, pAndV, pOrV, pNotV, pTru, pIfE, pNeg, pCall, pCallL, pCallQ, pCallG, pRaise, R.bind, R.to, R.bindN, O.toR, PR.to, truth, allD, view, viewAll, itemsL, itemsT, lenW, tagD, tagW, isTy, tyOk, scalar, R.freeze, pFor, pItL, pItT, pItS, pRng1, pRng2, qName, qNil, qCons, qTup, pSub, pNo, pSo, pYes, pBrk, pCnt, startS, clearO, gInt, gAddI, gSubI, gLtI, gLeI, gGtI, gGeI, gEqD, gNeD, gIsN, gIsB, gStr, gIsi, gLen, gAbs, gInt1, gMin2, gMax2, gSum, gMaxI, gMinI, gList, gSorted, gIx, gInD, isNonD, viewI, catW, pCat, gMaxT, pFld, pSetF, pMeth, pMake, insOf, putW, noAtt, pTry, pListRev, pSlL, pSlT, pIsi2, allD_nil, eqv_int, shaped_int, allD_ints, allD_map, intsOf_map]
theorem pure_checked_rate : ∀ ds, q_checked_rate ds ≠ .stuck → f0_checked_rate.pure ds = q_checked_rate ds := by
  intro ds h
  match ds, h with
  | [d], _ =>
    unfold PF.pure
    rw [run_checked_rate rfl]
    match d with
    | .tuple [] => simp [b_checked_rate, q_checked_rate, rateOk, eqv_int, shaped_int, pSeq, pNext, pIf, pSet, pDrop, pRet, pRetN, pAsg, pVar, pC, pK, pCons, pNil, pTup, pLst, pDat, pMut, pOp, pB, pChain, pAndT, pOrT, pNotT, pAndV, pOrV, pNotV, pTru, pIfE, pNeg, pCall, pCallL, pCallQ, pCallG, pRaise, R.bind, R.to, R.bindN, O.toR, PR.to, truth, allD, view, viewAll, itemsL, itemsT, lenW, tagD, tagW, isTy, tyOk, scalar, R.freeze, pFor, pItL, pItT, pItS, pRng1, pRng2, qName, qNil, qCons, qTup, pSub, pNo, pSo, pYes, pBrk, pCnt, startS, clearO, gInt, gAddI, gSubI, gLtI, gLeI, gGtI, gGeI, gEqD, gNeD, gIsN, gIsB, gStr, gIsi, gLen, gAbs, gInt1, gMin2, gMax2, gSum, gMaxI, gMinI, gList, gSorted, gIx, gInD, isNonD, viewI, catW, pCat, gMaxT, pFld, pSetF, pMeth, pMake, insOf, putW, noAtt, pTry, pListRev, pSlL, pSlT, pIsi2, allD_nil, eqv_int, shaped_int, allD_ints, allD_map, intsOf_map]
    | .tuple [a] => simp [b_checked_rate, q_checked_rate, rateOk, eqv_int, shaped_int, pSeq, pNext, pIf, pSet, pDrop, pRet, pRetN, pAsg, pVar, pC, pK, pCons, pNil, pTup, pLst, pDat, pMut, pOp, pB, pChain, pAndT, pOrT, pNotT, pAndV, pOrV, pNotV, pTru, pIfE, pNeg, pCall, pCallL, pCallQ, pCallG, pRaise, R.bind, R.to, R.bindN, O.toR, PR.to, truth, allD, view, viewAll, itemsL, itemsT, lenW, tagD, tagW, isTy, tyOk, scalar, R.freeze, pFor, pItL, pItT, pItS, pRng1, pRng2, qName, qNil, qCons, qTup, pSub, pNo, pSo, pYes, pBrk, pCnt, startS, clearO, gInt, gAddI, gSubI, gLtI, gLeI, gGtI, gGeI, gEqD, gNeD, gIsN, gIsB, gStr, gIsi, gLen, gAbs, gInt1, gMin2, gMax2, gSum, gMaxI, gMinI, gList, gSorted, gIx, gInD, isNonD, viewI, catW, pCat, gMaxT, pFld, pSetF, pMeth, pMake, insOf, putW, noAtt, pTry, pListRev, pSlL, pSlT, pIsi2, allD_nil, eqv_int, shaped_int, allD_ints, allD_map, intsOf_map]
    | .tuple [a, b] =>
      have hl := lc0_rate a b none
      cases h1 : isNumberD a 1 1000000 <;> cases h2 : isNumberD b 1 1000000 <;> simp [h1, h2] at hl <;> simp [b_checked_rate, q_checked_rate, rateOk, eqv_int, shaped_int, hl, h1, h2, pSeq, pNext, pIf, pSet, pDrop, pRet, pRetN, pAsg, pVar, pC, pK, pCons, pNil, pTup, pLst, pDat, pMut, pOp, pB, pChain, pAndT, pOrT, pNotT, pAndV, pOrV, pNotV, pTru, pIfE, pNeg, pCall, pCallL, pCallQ, pCallG, pRaise, R.bind, R.to, R.bindN, O.toR, PR.to, truth, allD, view, viewAll, itemsL, itemsT, lenW, tagD, tagW, isTy, tyOk, scalar, R.freeze, pFor, pItL, pItT, pItS, pRng1, pRng2, qName, qNil, qCons, qTup, pSub, pNo, pSo, pYes, pBrk, pCnt, startS, clearO, gInt, gAddI, gSubI, gLtI, gLeI, gGtI, gGeI, gEqD, gNeD, gIsN, gIsB, gStr, gIsi, gLen, gAbs, gInt1, gMin2, gMax2, gSum, gMaxI, gMinI, gList, gSorted, gIx, gInD, isNonD, viewI, catW, pCat, gMaxT, pFld, pSetF, pMeth, pMake, insOf, putW, noAtt, pTry, pListRev, pSlL, pSlT, pIsi2, allD_nil, eqv_int, shaped_int, allD_ints, allD_map, intsOf_map]
    | .tuple (a :: b :: c :: r) =>
      have hne : ((r.length : Int) + 1 + 1 + 1 == 2) = false := by
        rw [beq_eq_false_iff_ne]
        omega
      simp [b_checked_rate, q_checked_rate, rateOk, eqv_int, shaped_int, hne, pSeq, pNext, pIf, pSet, pDrop, pRet, pRetN, pAsg, pVar, pC, pK, pCons, pNil, pTup, pLst, pDat, pMut, pOp, pB, pChain, pAndT, pOrT, pNotT, pAndV, pOrV, pNotV, pTru, pIfE, pNeg, pCall, pCallL, pCallQ, pCallG, pRaise, R.bind, R.to, R.bindN, O.toR, PR.to, truth, allD, view, viewAll, itemsL, itemsT, lenW, tagD, tagW, isTy, tyOk, scalar, R.freeze, pFor, pItL, pItT, pItS, pRng1, pRng2, qName, qNil, qCons, qTup, pSub, pNo, pSo, pYes, pBrk, pCnt, startS, clearO, gInt, gAddI, gSubI, gLtI, gLeI, gGtI, gGeI, gEqD, gNeD, gIsN, gIsB, gStr, gIsi, gLen, gAbs, gInt1, gMin2, gMax2, gSum, gMaxI, gMinI, gList, gSorted, gIx, gInD, isNonD, viewI, catW, pCat, gMaxT, pFld, pSetF, pMeth, pMake, insOf, putW, noAtt, pTry, pListRev, pSlL, pSlT, pIsi2, allD_nil, eqv_int, shaped_int, allD_ints, allD_map, intsOf_map]
    | .none => simp [b_checked_rate, q_checked_rate, rateOk, pSeq, pNext, pIf, pSet, pDrop, pRet, pRetN, pAsg, pVar, pC, pK, pCons, pNil, pTup, pLst, pDat, pMut, pOp, pB, pChain, pAndT, pOrT, pNotT, pAndV, pOrV, pNotV, pTru, pIfE, pNeg, pCall, pCallL, pCallQ, pCallG, pRaise, R.bind, R.to, R.bindN, O.toR, PR.to, truth, allD, view, viewAll, itemsL, itemsT, lenW, tagD, tagW, isTy, tyOk, scalar, R.freeze, pFor, pItL, pItT, pItS, pRng1, pRng2, qName, qNil, qCons, qTup, pSub, pNo, pSo, pYes, pBrk, pCnt, startS, clearO, gInt, gAddI, gSubI, gLtI, gLeI, gGtI, gGeI, gEqD, gNeD, gIsN, gIsB, gStr, gIsi, gLen, gAbs, gInt1, gMin2, gMax2, gSum, gMaxI, gMinI, gList, gSorted, gIx, gInD, isNonD, viewI, catW, pCat, gMaxT, pFld, pSetF, pMeth, pMake, insOf, putW, noAtt, pTry, pListRev, pSlL, pSlT, pIsi2, allD_nil, eqv_int, shaped_int, allD_ints, allD_map, intsOf_map]
    | .bool _ => simp [b_checked_rate, q_checked_rate, rateOk, pSeq, pNext, pIf, pSet, pDrop, pRet, pRetN, pAsg, pVar, pC, pK, pCons, pNil, pTup, pLst, pDat, pMut, pOp, pB, pChain, pAndT, pOrT, pNotT, pAndV, pOrV, pNotV, pTru, pIfE, pNeg, pCall, pCallL, pCallQ, pCallG, pRaise, R.bind, R.to, R.bindN, O.toR, PR.to, truth, allD, view, viewAll, itemsL, itemsT, lenW, tagD, tagW, isTy, tyOk, scalar, R.freeze, pFor, pItL, pItT, pItS, pRng1, pRng2, qName, qNil, qCons, qTup, pSub, pNo, pSo, pYes, pBrk, pCnt, startS, clearO, gInt, gAddI, gSubI, gLtI, gLeI, gGtI, gGeI, gEqD, gNeD, gIsN, gIsB, gStr, gIsi, gLen, gAbs, gInt1, gMin2, gMax2, gSum, gMaxI, gMinI, gList, gSorted, gIx, gInD, isNonD, viewI, catW, pCat, gMaxT, pFld, pSetF, pMeth, pMake, insOf, putW, noAtt, pTry, pListRev, pSlL, pSlT, pIsi2, allD_nil, eqv_int, shaped_int, allD_ints, allD_map, intsOf_map]
    | .int _ => simp [b_checked_rate, q_checked_rate, rateOk, pSeq, pNext, pIf, pSet, pDrop, pRet, pRetN, pAsg, pVar, pC, pK, pCons, pNil, pTup, pLst, pDat, pMut, pOp, pB, pChain, pAndT, pOrT, pNotT, pAndV, pOrV, pNotV, pTru, pIfE, pNeg, pCall, pCallL, pCallQ, pCallG, pRaise, R.bind, R.to, R.bindN, O.toR, PR.to, truth, allD, view, viewAll, itemsL, itemsT, lenW, tagD, tagW, isTy, tyOk, scalar, R.freeze, pFor, pItL, pItT, pItS, pRng1, pRng2, qName, qNil, qCons, qTup, pSub, pNo, pSo, pYes, pBrk, pCnt, startS, clearO, gInt, gAddI, gSubI, gLtI, gLeI, gGtI, gGeI, gEqD, gNeD, gIsN, gIsB, gStr, gIsi, gLen, gAbs, gInt1, gMin2, gMax2, gSum, gMaxI, gMinI, gList, gSorted, gIx, gInD, isNonD, viewI, catW, pCat, gMaxT, pFld, pSetF, pMeth, pMake, insOf, putW, noAtt, pTry, pListRev, pSlL, pSlT, pIsi2, allD_nil, eqv_int, shaped_int, allD_ints, allD_map, intsOf_map]
    | .str _ => simp [b_checked_rate, q_checked_rate, rateOk, pSeq, pNext, pIf, pSet, pDrop, pRet, pRetN, pAsg, pVar, pC, pK, pCons, pNil, pTup, pLst, pDat, pMut, pOp, pB, pChain, pAndT, pOrT, pNotT, pAndV, pOrV, pNotV, pTru, pIfE, pNeg, pCall, pCallL, pCallQ, pCallG, pRaise, R.bind, R.to, R.bindN, O.toR, PR.to, truth, allD, view, viewAll, itemsL, itemsT, lenW, tagD, tagW, isTy, tyOk, scalar, R.freeze, pFor, pItL, pItT, pItS, pRng1, pRng2, qName, qNil, qCons, qTup, pSub, pNo, pSo, pYes, pBrk, pCnt, startS, clearO, gInt, gAddI, gSubI, gLtI, gLeI, gGtI, gGeI, gEqD, gNeD, gIsN, gIsB, gStr, gIsi, gLen, gAbs, gInt1, gMin2, gMax2, gSum, gMaxI, gMinI, gList, gSorted, gIx, gInD, isNonD, viewI, catW, pCat, gMaxT, pFld, pSetF, pMeth, pMake, insOf, putW, noAtt, pTry, pListRev, pSlL, pSlT, pIsi2, allD_nil, eqv_int, shaped_int, allD_ints, allD_map, intsOf_map]
    | .list _ => simp [b_checked_rate, q_checked_rate, rateOk, pSeq, pNext, pIf, pSet, pDrop, pRet, pRetN, pAsg, pVar, pC, pK, pCons, pNil, pTup, pLst, pDat, pMut, pOp, pB, pChain, pAndT, pOrT, pNotT, pAndV, pOrV, pNotV, pTru, pIfE, pNeg, pCall, pCallL, pCallQ, pCallG, pRaise, R.bind, R.to, R.bindN, O.toR, PR.to, truth, allD, view, viewAll, itemsL, itemsT, lenW, tagD, tagW, isTy, tyOk, scalar, R.freeze, pFor, pItL, pItT, pItS, pRng1, pRng2, qName, qNil, qCons, qTup, pSub, pNo, pSo, pYes, pBrk, pCnt, startS, clearO, gInt, gAddI, gSubI, gLtI, gLeI, gGtI, gGeI, gEqD, gNeD, gIsN, gIsB, gStr, gIsi, gLen, gAbs, gInt1, gMin2, gMax2, gSum, gMaxI, gMinI, gList, gSorted, gIx, gInD, isNonD, viewI, catW, pCat, gMaxT, pFld, pSetF, pMeth, pMake, insOf, putW, noAtt, pTry, pListRev, pSlL, pSlT, pIsi2, allD_nil, eqv_int, shaped_int, allD_ints, allD_map, intsOf_map]
    | .dict _ => simp [b_checked_rate, q_checked_rate, rateOk, pSeq, pNext, pIf, pSet, pDrop, pRet, pRetN, pAsg, pVar, pC, pK, pCons, pNil, pTup, pLst, pDat, pMut, pOp, pB, pChain, pAndT, pOrT, pNotT, pAndV, pOrV, pNotV, pTru, pIfE, pNeg, pCall, pCallL, pCallQ, pCallG, pRaise, R.bind, R.to, R.bindN, O.toR, PR.to, truth, allD, view, viewAll, itemsL, itemsT, lenW, tagD, tagW, isTy, tyOk, scalar, R.freeze, pFor, pItL, pItT, pItS, pRng1, pRng2, qName, qNil, qCons, qTup, pSub, pNo, pSo, pYes, pBrk, pCnt, startS, clearO, gInt, gAddI, gSubI, gLtI, gLeI, gGtI, gGeI, gEqD, gNeD, gIsN, gIsB, gStr, gIsi, gLen, gAbs, gInt1, gMin2, gMax2, gSum, gMaxI, gMinI, gList, gSorted, gIx, gInD, isNonD, viewI, catW, pCat, gMaxT, pFld, pSetF, pMeth, pMake, insOf, putW, noAtt, pTry, pListRev, pSlL, pSlT, pIsi2, allD_nil, eqv_int, shaped_int, allD_ints, allD_map, intsOf_map]
abbrev N_changed : List Str := ["amount", "rate", "over", "under", "found"]
def b_changed : PSx :=
  pSeq (pIf (pNotT (pTru (pCallQ q_is_amount [] (pCons (pVar 0) (pNil))))) (pRaise "InvalidNumber") (pNext))
  (pSeq (pAsg (pCallQ q_checked_rate [] (pCons (pVar 1) (pNil))) (qTup 2 (qCons (qName 2) (qCons (qName 3) (qNil)))))
  (pSeq (pSet 4 (pOp gDivI (pOp gMulI (pCall gAbs (pCons (pVar 0) (pNil))) (pVar 2)) (pVar 3)))
  (pSeq (pIf (pB (pOp gGtI (pVar 4) (pC (.int 1000000000)))) (pRaise "InvalidNumber") (pNext))
  (pRet (pIfE (pB (pOp gGeI (pVar 0) (pC (.int 0)))) (pVar 4) (pNeg (pVar 4)))))))
def f0_changed : PF := runG N_changed.length (["amount", "rate"] : List Str).length (b_changed)
theorem run_changed {ws : List W} {M : Ms} (h : ws.length = 2) : f0_changed ws M = (b_changed (startS 5 ws) M).toR := runG_pos h
theorem number_int {d : PyData} {lo hi : Int} (h : isNumberD d lo hi = true) : ∃ n, d = .int n ∧ lo ≤ n ∧ n ≤ hi := by
  cases d with
  | int n =>
    simp only [isNumberD, Bool.and_eq_true, decide_eq_true_eq] at h
    exact ⟨n, rfl, h.1, h.2⟩
  | _ => simp [isNumberD] at h
theorem rate_is {d : PyData} (h : rateOk d = true) : ∃ o u, d = .tuple [.int o, .int u] ∧ 1 ≤ o ∧ o ≤ 1000000 ∧ 1 ≤ u ∧ u ≤ 1000000 := by
  unfold rateOk at h
  split at h
  · rename_i a b
    simp only [Bool.and_eq_true] at h
    obtain ⟨o, rfl, h1, h2⟩ := number_int h.1
    obtain ⟨u, rfl, h3, h4⟩ := number_int h.2
    exact ⟨o, u, rfl, h1, h2, h3, h4⟩
  · cases h
def absI (n : Int) : Int := if n < 0 then -n else n
def changedD (n o u : Int) : PR := if 1000000000 < (absI n * o).fdiv u then .exc ⟨"InvalidNumber", none⟩ else .ok (.int (if 0 ≤ n then (absI n * o).fdiv u else -((absI n * o).fdiv u)))
def q_changed : List PyData → PR := fun ds => match ds with
  | [a, r] => if isAmountD a = true then (if rateOk r = true then (match a, r with
    | .int n, .tuple [.int o, .int u] => changedD n o u
    | _, _ => .stuck) else .exc ⟨"InvalidPaper", none⟩) else .exc ⟨"InvalidNumber", none⟩
  | _ => .stuck
theorem pure_changed : ∀ ds, q_changed ds ≠ .stuck → f0_changed.pure ds = q_changed ds := by
  intro ds h
  match ds, h with
  | [a, r], _ =>
    unfold PF.pure
    rw [run_changed rfl]
    cases h1 : isAmountD a with
    | false => simp [b_changed, q_changed, q_is_amount, h1, pSeq, pNext, pIf, pSet, pDrop, pRet, pRetN, pAsg, pVar, pC, pK, pCons, pNil, pTup, pLst, pDat, pMut, pOp, pB, pChain, pAndT, pOrT, pNotT, pAndV, pOrV, pNotV, pTru, pIfE, pNeg, pCall, pCallL, pCallQ, pCallG, pRaise, R.bind, R.to, R.bindN, O.toR, PR.to, truth, allD, view, viewAll, itemsL, itemsT, lenW, tagD, tagW, isTy, tyOk, scalar, R.freeze, pFor, pItL, pItT, pItS, pRng1, pRng2, qName, qNil, qCons, qTup, pSub, pNo, pSo, pYes, pBrk, pCnt, startS, clearO, gInt, gAddI, gSubI, gLtI, gLeI, gGtI, gGeI, gEqD, gNeD, gIsN, gIsB, gStr, gIsi, gLen, gAbs, gInt1, gMin2, gMax2, gSum, gMaxI, gMinI, gList, gSorted, gIx, gInD, isNonD, viewI, catW, pCat, gMaxT, pFld, pSetF, pMeth, pMake, insOf, putW, noAtt, pTry, pListRev, pSlL, pSlT, pIsi2, allD_nil, eqv_int, shaped_int, allD_ints, allD_map, intsOf_map]
    | true =>
      cases h2 : rateOk r with
      | false => simp [b_changed, q_changed, q_is_amount, q_checked_rate, h1, h2, pSeq, pNext, pIf, pSet, pDrop, pRet, pRetN, pAsg, pVar, pC, pK, pCons, pNil, pTup, pLst, pDat, pMut, pOp, pB, pChain, pAndT, pOrT, pNotT, pAndV, pOrV, pNotV, pTru, pIfE, pNeg, pCall, pCallL, pCallQ, pCallG, pRaise, R.bind, R.to, R.bindN, O.toR, PR.to, truth, allD, view, viewAll, itemsL, itemsT, lenW, tagD, tagW, isTy, tyOk, scalar, R.freeze, pFor, pItL, pItT, pItS, pRng1, pRng2, qName, qNil, qCons, qTup, pSub, pNo, pSo, pYes, pBrk, pCnt, startS, clearO, gInt, gAddI, gSubI, gLtI, gLeI, gGtI, gGeI, gEqD, gNeD, gIsN, gIsB, gStr, gIsi, gLen, gAbs, gInt1, gMin2, gMax2, gSum, gMaxI, gMinI, gList, gSorted, gIx, gInD, isNonD, viewI, catW, pCat, gMaxT, pFld, pSetF, pMeth, pMake, insOf, putW, noAtt, pTry, pListRev, pSlL, pSlT, pIsi2, allD_nil, eqv_int, shaped_int, allD_ints, allD_map, intsOf_map]
      | true =>
        obtain ⟨n, rfl, n1, n2⟩ := number_int h1
        obtain ⟨o, u, rfl, o1, o2, u1, u2⟩ := rate_is h2
        have hm := mul_ok (i := absI n) (j := o) (M := []) (.inr (by omega))
        have hd := div_ok (i := absI n * o) (j := u) (M := []) (by omega) (by omega)
        have ea : (if n < 0 then -n else n) = absI n := rfl
        by_cases c1 : 1000000000 < (absI n * o).fdiv u <;> by_cases c2 : 0 ≤ n <;> simp [b_changed, q_changed, q_is_amount, q_checked_rate, h1, h2, ea, hm, hd, changedD, c1, c2, pSeq, pNext, pIf, pSet, pDrop, pRet, pRetN, pAsg, pVar, pC, pK, pCons, pNil, pTup, pLst, pDat, pMut, pOp, pB, pChain, pAndT, pOrT, pNotT, pAndV, pOrV, pNotV, pTru, pIfE, pNeg, pCall, pCallL, pCallQ, pCallG, pRaise, R.bind, R.to, R.bindN, O.toR, PR.to, truth, allD, view, viewAll, itemsL, itemsT, lenW, tagD, tagW, isTy, tyOk, scalar, R.freeze, pFor, pItL, pItT, pItS, pRng1, pRng2, qName, qNil, qCons, qTup, pSub, pNo, pSo, pYes, pBrk, pCnt, startS, clearO, gInt, gAddI, gSubI, gLtI, gLeI, gGtI, gGeI, gEqD, gNeD, gIsN, gIsB, gStr, gIsi, gLen, gAbs, gInt1, gMin2, gMax2, gSum, gMaxI, gMinI, gList, gSorted, gIx, gInD, isNonD, viewI, catW, pCat, gMaxT, pFld, pSetF, pMeth, pMake, insOf, putW, noAtt, pTry, pListRev, pSlL, pSlT, pIsi2, allD_nil, eqv_int, shaped_int, allD_ints, allD_map, intsOf_map]
abbrev N_rest_of : List Str := ["amount", "rate", "told"]
def b_rest_of : PSx :=
  pSeq (pSet 2 (pCall gAbs (pCons (pCallQ q_changed [] (pCons (pVar 0) (pCons (pVar 1) (pNil)))) (pNil))))
  (pRet (pTup (pCons (pOp gSubI (pOp gMulI (pCall gAbs (pCons (pVar 0) (pNil))) (pOp gIx (pVar 1) (pC (.int 0)))) (pOp gMulI (pVar 2) (pOp gIx (pVar 1) (pC (.int 1))))) (pCons (pOp gIx (pVar 1) (pC (.int 1))) (pNil)))))
def f0_rest_of : PF := runG N_rest_of.length (["amount", "rate"] : List Str).length (b_rest_of)
theorem run_rest_of {ws : List W} {M : Ms} (h : ws.length = 2) : f0_rest_of ws M = (b_rest_of (startS 3 ws) M).toR := runG_pos h
def q_rest_of : List PyData → PR := fun ds => match ds with
  | [.int n, .tuple [.int o, .int u]] => if 0 ≤ n ∧ n ≤ 1000000000 ∧ 1 ≤ o ∧ o ≤ 1000000 ∧ 1 ≤ u ∧ u ≤ 1000000 ∧ (n * o).fdiv u ≤ 1000000000 then .ok (.tuple [.int (n * o - (n * o).fdiv u * u), .int u]) else .stuck
  | _ => .stuck
theorem pure_rest_of : ∀ ds, q_rest_of ds ≠ .stuck → f0_rest_of.pure ds = q_rest_of ds := by
  intro ds h
  unfold q_rest_of at h
  split at h
  · rename_i n o u
    by_cases hc : 0 ≤ n ∧ n ≤ 1000000000 ∧ 1 ≤ o ∧ o ≤ 1000000 ∧ 1 ≤ u ∧ u ≤ 1000000 ∧ (n * o).fdiv u ≤ 1000000000
    · obtain ⟨n1, n2, o1, o2, u1, u2, hf⟩ := id hc
      have a1 : isAmountD (.int n) = true := by simp [isAmountD, isNumberD]; omega
      have r1 : rateOk (.tuple [.int o, .int u]) = true := by simp [rateOk, isNumberD]; omega
      have ea : absI n = n := if_neg (by omega)
      have f0 : 0 ≤ (n * o).fdiv u := Int.fdiv_nonneg (Int.mul_nonneg n1 (by omega)) (by omega)
      have eb : ¬ ((n * o).fdiv u < 0) := by omega
      have q1 : q_changed [.int n, .tuple [.int o, .int u]] = .ok (.int ((n * o).fdiv u)) := by
        simp only [q_changed, a1, r1, if_true, changedD, ea]
        rw [if_neg (by omega), if_pos n1]
      have hm1 := mul_ok (i := n) (j := o) (M := []) (.inr (by omega))
      have hm2 := mul_ok (i := (n * o).fdiv u) (j := u) (M := []) (.inr (by omega))
      have en : ¬ n < 0 := by omega
      have z2 : 2 ≤ sizeLine := by decide
      unfold PF.pure
      rw [run_rest_of rfl]
      simp [b_rest_of, q1, eb, en, hm1, hm2, atI, ixN, z2, q_rest_of, hc, pSeq, pNext, pIf, pSet, pDrop, pRet, pRetN, pAsg, pVar, pC, pK, pCons, pNil, pTup, pLst, pDat, pMut, pOp, pB, pChain, pAndT, pOrT, pNotT, pAndV, pOrV, pNotV, pTru, pIfE, pNeg, pCall, pCallL, pCallQ, pCallG, pRaise, R.bind, R.to, R.bindN, O.toR, PR.to, truth, allD, view, viewAll, itemsL, itemsT, lenW, tagD, tagW, isTy, tyOk, scalar, R.freeze, pFor, pItL, pItT, pItS, pRng1, pRng2, qName, qNil, qCons, qTup, pSub, pNo, pSo, pYes, pBrk, pCnt, startS, clearO, gInt, gAddI, gSubI, gLtI, gLeI, gGtI, gGeI, gEqD, gNeD, gIsN, gIsB, gStr, gIsi, gLen, gAbs, gInt1, gMin2, gMax2, gSum, gMaxI, gMinI, gList, gSorted, gIx, gInD, isNonD, viewI, catW, pCat, gMaxT, pFld, pSetF, pMeth, pMake, insOf, putW, noAtt, pTry, pListRev, pSlL, pSlT, pIsi2, allD_nil, eqv_int, shaped_int, allD_ints, allD_map, intsOf_map]
    · exact absurd (if_neg hc) h
  · exact absurd rfl h
abbrev N_checked_weights : List Str := ["weights", "one"]
def lc0_checked_weights : PAx :=
  pLc (pItL (pVar 0)) (qName 1) (pNotT (pTru (pCallQ q_is_number [] (pCons (pVar 1) (pCons (pC (.int 0)) (pCons (pC (.int 1000000)) (pNil))))))) (pVar 1) [1]
def b_checked_weights : PSx :=
  pSeq (pIf (pOrT (pNotT (pB (pChain (gLeI) (gLeI) (pC (.int 1)) (pCall gLen (pCons (pVar 0) (pNil))) (pC (.int 100))))) (pOrT (pTru (pDat (lc0_checked_weights))) (pB (pOp gEqD (pCall gSum (pCons (pVar 0) (pNil))) (pC (.int 0)))))) (pRaise "InvalidPaper") (pNext))
  (pRet (pDat (pCallL gList (pCons (pVar 0) (pNil)))))
def f0_checked_weights : PF := runG N_checked_weights.length (["weights"] : List Str).length (b_checked_weights)
theorem run_checked_weights {ws : List W} {M : Ms} (h : ws.length = 1) : f0_checked_weights ws M = (b_checked_weights (startS 2 ws) M).toR := runG_pos h
theorem all_ints : ∀ {ds : List PyData} {lo hi : Int}, ds.all (fun d => isNumberD d lo hi) = true → ∃ ns : List Int, ds = ns.map .int ∧ ∀ n ∈ ns, lo ≤ n ∧ n ≤ hi
  | [], _, _, _ => ⟨[], rfl, by simp⟩
  | d :: ds, lo, hi, h => by
    simp only [List.all_cons, Bool.and_eq_true] at h
    obtain ⟨n, rfl, h1, h2⟩ := number_int h.1
    obtain ⟨ns, rfl, h3⟩ := all_ints h.2
    exact ⟨n :: ns, rfl, by simpa using ⟨⟨h1, h2⟩, h3⟩⟩
def wOk (ds : List PyData) : Bool := decide (1 ≤ ds.length) && (decide (ds.length ≤ 100) && (ds.all (fun d => isNumberD d 0 1000000) && (match intsOf ds with
  | some ns => !(ns.sum == 0)
  | none => false)))
def q_checked_weights : List PyData → PR := fun ds => match ds with
  | [.list ds] => if wOk ds = true then .ok (.list ds) else .exc ⟨"InvalidPaper", none⟩
  | _ => .stuck
theorem filter_d (p : PyData → Bool) (ds : List PyData) : ((ds.map W.d).filter fun x => match x with | .d d => p d | _ => false) = (ds.filter p).map W.d := by
  induction ds with
  | nil => rfl
  | cons d ds ih =>
    rw [List.map_cons, List.filter_cons, List.filter_cons]
    dsimp only
    rw [ih]
    split <;> simp
theorem lc0_weights (ds : List PyData) (hl : ds.length ≤ 100) (s : Option W) : lc0_checked_weights [some (.d (.list ds)), s] [] = .ok ((ds.filter fun d => !isNumberD d 0 1000000).map W.d) [] := by
  unfold lc0_checked_weights pLc
  simp only [pItL, pVar, R.bind, List.getElem?_cons_zero]
  have hz : (ds.map W.d).length ≤ sizeLine := by rw [List.length_map]; exact Nat.le_trans hl (by decide)
  rw [if_pos hz]
  rw [lcL_pure (fun x => match x with | .d d => !isNumberD d 0 1000000 | _ => false) id, filter_d]
  · simp
  · intro x hx
    obtain ⟨d, _, rfl⟩ := List.mem_map.mp hx
    refine ⟨[some (.d (.list ds)), some (.d d)], by simp [qName, wipeS], ?_, fun _ => ?_⟩
    · simp [q_is_number, pSeq, pNext, pIf, pSet, pDrop, pRet, pRetN, pAsg, pVar, pC, pK, pCons, pNil, pTup, pLst, pDat, pMut, pOp, pB, pChain, pAndT, pOrT, pNotT, pAndV, pOrV, pNotV, pTru, pIfE, pNeg, pCall, pCallL, pCallQ, pCallG, pRaise, R.bind, R.to, R.bindN, O.toR, PR.to, truth, allD, view, viewAll, itemsL, itemsT, lenW, tagD, tagW, isTy, tyOk, scalar, R.freeze, pFor, pItL, pItT, pItS, pRng1, pRng2, qName, qNil, qCons, qTup, pSub, pNo, pSo, pYes, pBrk, pCnt, startS, clearO, gInt, gAddI, gSubI, gLtI, gLeI, gGtI, gGeI, gEqD, gNeD, gIsN, gIsB, gStr, gIsi, gLen, gAbs, gInt1, gMin2, gMax2, gSum, gMaxI, gMinI, gList, gSorted, gIx, gInD, isNonD, viewI, catW, pCat, gMaxT, pFld, pSetF, pMeth, pMake, insOf, putW, noAtt, pTry, pListRev, pSlL, pSlT, pIsi2, allD_nil, eqv_int, shaped_int, allD_ints, allD_map, intsOf_map]
    · simp [pSeq, pNext, pIf, pSet, pDrop, pRet, pRetN, pAsg, pVar, pC, pK, pCons, pNil, pTup, pLst, pDat, pMut, pOp, pB, pChain, pAndT, pOrT, pNotT, pAndV, pOrV, pNotV, pTru, pIfE, pNeg, pCall, pCallL, pCallQ, pCallG, pRaise, R.bind, R.to, R.bindN, O.toR, PR.to, truth, allD, view, viewAll, itemsL, itemsT, lenW, tagD, tagW, isTy, tyOk, scalar, R.freeze, pFor, pItL, pItT, pItS, pRng1, pRng2, qName, qNil, qCons, qTup, pSub, pNo, pSo, pYes, pBrk, pCnt, startS, clearO, gInt, gAddI, gSubI, gLtI, gLeI, gGtI, gGeI, gEqD, gNeD, gIsN, gIsB, gStr, gIsi, gLen, gAbs, gInt1, gMin2, gMax2, gSum, gMaxI, gMinI, gList, gSorted, gIx, gInD, isNonD, viewI, catW, pCat, gMaxT, pFld, pSetF, pMeth, pMake, insOf, putW, noAtt, pTry, pListRev, pSlL, pSlT, pIsi2, allD_nil, eqv_int, shaped_int, allD_ints, allD_map, intsOf_map]
theorem pure_checked_weights : ∀ ds, q_checked_weights ds ≠ .stuck → f0_checked_weights.pure ds = q_checked_weights ds := by
  intro ds h
  match ds, h with
  | [.list ds], _ =>
    unfold PF.pure
    rw [run_checked_weights rfl]
    by_cases h1 : 1 ≤ ds.length
    · by_cases h2 : ds.length ≤ 100
      · have hl := lc0_weights ds h2 none
        have i1 : (1 : Int) ≤ ds.length := by omega
        have i2 : (ds.length : Int) ≤ 100 := by omega
        cases h3 : ds.all (fun d => isNumberD d 0 1000000) with
        | false =>
          have hf : (ds.filter fun d => !isNumberD d 0 1000000).isEmpty = false := by
            rw [List.all_eq_false] at h3
            obtain ⟨d, hd, hn⟩ := h3
            rw [Bool.eq_false_iff, ne_eq, List.isEmpty_iff]
            intro z
            have : d ∈ ds.filter fun d => !isNumberD d 0 1000000 := List.mem_filter.mpr ⟨hd, by simpa using hn⟩
            rw [z] at this
            cases this
          simp [b_checked_weights, q_checked_weights, wOk, h1, h2, i1, i2, hl, allD_map, h3, hf, -List.isEmpty_eq_false_iff, -List.isEmpty_iff, pSeq, pNext, pIf, pSet, pDrop, pRet, pRetN, pAsg, pVar, pC, pK, pCons, pNil, pTup, pLst, pDat, pMut, pOp, pB, pChain, pAndT, pOrT, pNotT, pAndV, pOrV, pNotV, pTru, pIfE, pNeg, pCall, pCallL, pCallQ, pCallG, pRaise, R.bind, R.to, R.bindN, O.toR, PR.to, truth, allD, view, viewAll, itemsL, itemsT, lenW, tagD, tagW, isTy, tyOk, scalar, R.freeze, pFor, pItL, pItT, pItS, pRng1, pRng2, qName, qNil, qCons, qTup, pSub, pNo, pSo, pYes, pBrk, pCnt, startS, clearO, gInt, gAddI, gSubI, gLtI, gLeI, gGtI, gGeI, gEqD, gNeD, gIsN, gIsB, gStr, gIsi, gLen, gAbs, gInt1, gMin2, gMax2, gSum, gMaxI, gMinI, gList, gSorted, gIx, gInD, isNonD, viewI, catW, pCat, gMaxT, pFld, pSetF, pMeth, pMake, insOf, putW, noAtt, pTry, pListRev, pSlL, pSlT, pIsi2, allD_nil, eqv_int, shaped_int, allD_ints, allD_map, intsOf_map]
        | true =>
          obtain ⟨ns, rfl, hn⟩ := all_ints h3
          have hf : (ns.map PyData.int).filter (fun d => !isNumberD d 0 1000000) = [] := by
            rw [List.filter_eq_nil_iff]
            intro d hd
            rw [List.all_eq_true] at h3
            simp [h3 d hd]
          rw [hf] at hl
          simp only [List.length_map] at i1 i2 h1 h2
          by_cases h4 : ns.sum = 0
          · simp [b_checked_weights, q_checked_weights, wOk, h1, h2, i1, i2, hl, h3, h4, intsOf_map, eqv_int, shaped_int, pSeq, pNext, pIf, pSet, pDrop, pRet, pRetN, pAsg, pVar, pC, pK, pCons, pNil, pTup, pLst, pDat, pMut, pOp, pB, pChain, pAndT, pOrT, pNotT, pAndV, pOrV, pNotV, pTru, pIfE, pNeg, pCall, pCallL, pCallQ, pCallG, pRaise, R.bind, R.to, R.bindN, O.toR, PR.to, truth, allD, view, viewAll, itemsL, itemsT, lenW, tagD, tagW, isTy, tyOk, scalar, R.freeze, pFor, pItL, pItT, pItS, pRng1, pRng2, qName, qNil, qCons, qTup, pSub, pNo, pSo, pYes, pBrk, pCnt, startS, clearO, gInt, gAddI, gSubI, gLtI, gLeI, gGtI, gGeI, gEqD, gNeD, gIsN, gIsB, gStr, gIsi, gLen, gAbs, gInt1, gMin2, gMax2, gSum, gMaxI, gMinI, gList, gSorted, gIx, gInD, isNonD, viewI, catW, pCat, gMaxT, pFld, pSetF, pMeth, pMake, insOf, putW, noAtt, pTry, pListRev, pSlL, pSlT, pIsi2, allD_nil, eqv_int, shaped_int, allD_ints, allD_map, intsOf_map]
            try simp_all
          · have h4' : (ns.sum == 0) = false := by simpa using h4
            simp [b_checked_weights, q_checked_weights, wOk, h1, h2, i1, i2, hl, h3, h4, h4', intsOf_map, eqv_int, shaped_int, allD_map, pSeq, pNext, pIf, pSet, pDrop, pRet, pRetN, pAsg, pVar, pC, pK, pCons, pNil, pTup, pLst, pDat, pMut, pOp, pB, pChain, pAndT, pOrT, pNotT, pAndV, pOrV, pNotV, pTru, pIfE, pNeg, pCall, pCallL, pCallQ, pCallG, pRaise, R.bind, R.to, R.bindN, O.toR, PR.to, truth, allD, view, viewAll, itemsL, itemsT, lenW, tagD, tagW, isTy, tyOk, scalar, R.freeze, pFor, pItL, pItT, pItS, pRng1, pRng2, qName, qNil, qCons, qTup, pSub, pNo, pSo, pYes, pBrk, pCnt, startS, clearO, gInt, gAddI, gSubI, gLtI, gLeI, gGtI, gGeI, gEqD, gNeD, gIsN, gIsB, gStr, gIsi, gLen, gAbs, gInt1, gMin2, gMax2, gSum, gMaxI, gMinI, gList, gSorted, gIx, gInD, isNonD, viewI, catW, pCat, gMaxT, pFld, pSetF, pMeth, pMake, insOf, putW, noAtt, pTry, pListRev, pSlL, pSlT, pIsi2, allD_nil, eqv_int, shaped_int, allD_ints, allD_map, intsOf_map]
            try simp_all
      · have i2 : ¬ (ds.length : Int) ≤ 100 := by omega
        by_cases i1 : (1 : Int) ≤ ds.length <;> simp [b_checked_weights, q_checked_weights, wOk, h1, h2, i1, i2, pSeq, pNext, pIf, pSet, pDrop, pRet, pRetN, pAsg, pVar, pC, pK, pCons, pNil, pTup, pLst, pDat, pMut, pOp, pB, pChain, pAndT, pOrT, pNotT, pAndV, pOrV, pNotV, pTru, pIfE, pNeg, pCall, pCallL, pCallQ, pCallG, pRaise, R.bind, R.to, R.bindN, O.toR, PR.to, truth, allD, view, viewAll, itemsL, itemsT, lenW, tagD, tagW, isTy, tyOk, scalar, R.freeze, pFor, pItL, pItT, pItS, pRng1, pRng2, qName, qNil, qCons, qTup, pSub, pNo, pSo, pYes, pBrk, pCnt, startS, clearO, gInt, gAddI, gSubI, gLtI, gLeI, gGtI, gGeI, gEqD, gNeD, gIsN, gIsB, gStr, gIsi, gLen, gAbs, gInt1, gMin2, gMax2, gSum, gMaxI, gMinI, gList, gSorted, gIx, gInD, isNonD, viewI, catW, pCat, gMaxT, pFld, pSetF, pMeth, pMake, insOf, putW, noAtt, pTry, pListRev, pSlL, pSlT, pIsi2, allD_nil, eqv_int, shaped_int, allD_ints, allD_map, intsOf_map]
    · have i1 : ¬ (1 : Int) ≤ ds.length := by omega
      simp [b_checked_weights, q_checked_weights, wOk, h1, i1, pSeq, pNext, pIf, pSet, pDrop, pRet, pRetN, pAsg, pVar, pC, pK, pCons, pNil, pTup, pLst, pDat, pMut, pOp, pB, pChain, pAndT, pOrT, pNotT, pAndV, pOrV, pNotV, pTru, pIfE, pNeg, pCall, pCallL, pCallQ, pCallG, pRaise, R.bind, R.to, R.bindN, O.toR, PR.to, truth, allD, view, viewAll, itemsL, itemsT, lenW, tagD, tagW, isTy, tyOk, scalar, R.freeze, pFor, pItL, pItT, pItS, pRng1, pRng2, qName, qNil, qCons, qTup, pSub, pNo, pSo, pYes, pBrk, pCnt, startS, clearO, gInt, gAddI, gSubI, gLtI, gLeI, gGtI, gGeI, gEqD, gNeD, gIsN, gIsB, gStr, gIsi, gLen, gAbs, gInt1, gMin2, gMax2, gSum, gMaxI, gMinI, gList, gSorted, gIx, gInD, isNonD, viewI, catW, pCat, gMaxT, pFld, pSetF, pMeth, pMake, insOf, putW, noAtt, pTry, pListRev, pSlL, pSlT, pIsi2, allD_nil, eqv_int, shaped_int, allD_ints, allD_map, intsOf_map]
abbrev N_shared : List Str := ["amount", "weights", "rows", "every", "found", "rests", "rest", "at", "one"]
def lp0_shared : PSx :=
  pSub (pOp gAddI (pOp gIx (pVar 4) (pVar 7)) (pC (.int 1))) (pVar 4) (pVar 7)
def lc1_shared : PAx :=
  pLc (pRng1 (pCall gLen (pCons (pVar 2) (pNil)))) (qName 7) (pYes) (pTup (pCons (pNeg (pOp gModI (pOp gMulI (pVar 0) (pOp gIx (pVar 2) (pVar 7))) (pVar 3))) (pCons (pVar 7) (pNil)))) [7]
def lc2_shared : PAx :=
  pLc (pItL (pVar 2)) (qName 8) (pYes) (pOp gDivI (pOp gMulI (pVar 0) (pVar 8)) (pVar 3)) [8]
def b_shared : PSx :=
  pSeq (pSet 2 (pCallQ q_checked_weights [] (pCons (pVar 1) (pNil))))
  (pSeq (pIf (pOrT (pNotT (pTru (pCallQ q_is_amount [] (pCons (pVar 0) (pNil))))) (pB (pOp gLtI (pVar 0) (pC (.int 0))))) (pRaise "InvalidNumber") (pNext))
  (pSeq (pSet 3 (pCall gSum (pCons (pVar 2) (pNil))))
  (pSeq (pSet 4 (pMut (lc2_shared)))
  (pSeq (pSet 5 (pDat (pCallL gSorted (pCons (pDat (lc1_shared)) (pNil)))))
  (pSeq (pFor (pItL (pDat (pSlL (pVar 5) (pNo) (pSo (pOp gSubI (pVar 0) (pCall gSum (pCons (pVar 4) (pNil)))))))) (qTup 2 (qCons (qName 6) (qCons (qName 7) (qNil)))) (lp0_shared))
  (pRet (pVar 4)))))))
def f0_shared : PF := runG N_shared.length (["amount", "weights"] : List Str).length (b_shared)
theorem run_shared {ws : List W} {M : Ms} (h : ws.length = 2) : f0_shared ws M = (b_shared (startS 9 ws) M).toR := runG_pos h
def q_shared : List PyData → PR := fun ds => match ds with
  | [a, .list ws] => if wOk ws = true then (match a, intsOf ws with
    | .int n, some ns => if isAmountD (.int n) = true ∧ 0 ≤ n then .ok (.list ((sharesL n ns).map .int)) else .exc ⟨"InvalidNumber", none⟩
    | a, _ => if isAmountD a = true then .stuck else .exc ⟨"InvalidNumber", none⟩) else .exc ⟨"InvalidPaper", none⟩
  | _ => .stuck
theorem wOk_ints {ds : List PyData} (h : wOk ds = true) : ∃ ns : List Int, ds = ns.map .int ∧ 1 ≤ ns.length ∧ ns.length ≤ 100 ∧ (∀ n ∈ ns, 0 ≤ n ∧ n ≤ 1000000) ∧ ns.sum ≠ 0 := by
  unfold wOk at h
  simp only [Bool.and_eq_true, decide_eq_true_eq] at h
  obtain ⟨h1, h2, h3, h4⟩ := h
  obtain ⟨ns, rfl, hn⟩ := all_ints h3
  rw [List.length_map] at h1 h2
  rw [intsOf_map] at h4
  exact ⟨ns, rfl, h1, h2, hn, by simpa using h4⟩
theorem lc2_shares {n : Int} {ns : List Int} (n1 : 0 ≤ n) (n2 : n ≤ 1000000000) (hl : ns.length ≤ 100) (hz : ns.sum ≠ 0) (hs : ns.sum.natAbs < 1073741824) (w : Option W) : lc2_shared [some (.d (.int n)), w, some (.d (.list (ns.map .int))), some (.d (.int ns.sum)), none, none, none, none, none] [] = .ok ((floorsL n ns).map wi) [] := by
  unfold lc2_shared pLc
  simp only [pItL, pVar, R.bind, List.getElem?_cons_zero, List.getElem?_cons_succ]
  have hz2 : ((ns.map PyData.int).map W.d).length ≤ sizeLine := by rw [List.length_map, List.length_map]; exact Nat.le_trans hl (by decide)
  rw [if_pos hz2]
  rw [lcL_all (fun x => match x with | .d (.int w) => wi ((n * w).fdiv ns.sum) | _ => x)]
  · rw [List.nil_append, floorsL, List.map_map, List.map_map, List.map_map]
    rfl
  · intro x hx
    simp only [List.map_map, List.mem_map] at hx
    obtain ⟨k, _, rfl⟩ := hx
    refine ⟨[some (.d (.int n)), w, some (.d (.list (ns.map .int))), some (.d (.int ns.sum)), none, none, none, none, some (.d (.int k))], by simp [qName, wipeS], ?_⟩
    have h1 := mul_ok (i := n) (j := k) (M := []) (.inl (by omega))
    have h2 := div_ok (i := n * k) (j := ns.sum) (M := []) hz hs
    simp only [pOp, pVar, List.getElem?_cons_zero, List.getElem?_cons_succ, R.bind, h1, h2]
    rfl
theorem lc1_shares {n : Int} {ns : List Int} {M : Ms} (n1 : 0 ≤ n) (n2 : n ≤ 1000000000) (hl : ns.length ≤ 100) (hz : ns.sum ≠ 0) (w f : Option W) : lc1_shared [some (.d (.int n)), w, some (.d (.list (ns.map .int))), some (.d (.int ns.sum)), f, none, none, none, none] M = .ok ((restsL n ns).map W.d) M := by
  unfold lc1_shared pLc
  have e1 := rng1_ok (p := pCall gLen (pCons (pVar 2) pNil)) (s := [some (.d (.int n)), w, some (.d (.list (ns.map .int))), some (.d (.int ns.sum)), f, none, none, none, none]) (M := M) (n := ns.length) (by rw [len_list rfl, List.length_map]) (by omega)
  rw [e1]
  simp only [R.bind]
  rw [if_pos (by rw [rngW, List.length_map, List.length_range]; exact Nat.le_trans hl (by decide))]
  rw [lcL_all (fun x => match x with | .d (.int i) => .d (restD n ns i.toNat) | _ => x)]
  · rw [List.nil_append, restsL, rngW, List.map_map, List.map_map]
    refine congrArg (fun l => R.ok l M) (List.map_congr_left fun i _ => ?_)
    show W.d (restD n ns (0 + (i : Int)).toNat) = W.d (restD n ns i)
    rw [Int.zero_add, Int.toNat_natCast]
  · intro x hx
    unfold rngW at hx
    obtain ⟨k, hk, rfl⟩ := List.mem_map.mp hx
    have hk' : k < ns.length := List.mem_range.mp hk
    refine ⟨[some (.d (.int n)), w, some (.d (.list (ns.map .int))), some (.d (.int ns.sum)), f, none, none, some (.d (.int (0 + (k : Int)))), none], by simp [qName, wipeS], ?_⟩
    rw [Int.zero_add]
    have h0 := gIx_ints (M := M) hk'
    have h1 := mul_ok (i := n) (j := ns.getD k 0) (M := M) (.inl (by omega))
    have h2 := mod_ok (i := n * ns.getD k 0) (j := ns.sum) (M := M) hz
    unfold wi at h0
    simp only [pTup, pCons, pNil, pNeg, pOp, pVar, List.getElem?_cons_zero, List.getElem?_cons_succ, R.bind, h0, h1, h2, allD, Option.map]
    rw [if_pos (by show 2 ≤ sizeLine; decide)]
    rfl
theorem sum_small {ns : List Int} : (∀ n ∈ ns, 0 ≤ n ∧ n ≤ 1000000) → 0 ≤ ns.sum ∧ ns.sum ≤ 1000000 * ns.length := by
  intro h
  induction ns with
  | nil => simp
  | cons a l ih =>
    have ha := h a List.mem_cons_self
    have hl := ih fun n hn => h n (List.mem_cons_of_mem _ hn)
    rw [List.sum_cons, List.length_cons]
    omega
theorem pure_shared : ∀ ds, q_shared ds ≠ .stuck → f0_shared.pure ds = q_shared ds := by
  intro ds h
  match ds, h with
  | [a, .list ws], h =>
    unfold PF.pure
    rw [run_shared rfl]
    cases h1 : wOk ws with
    | false => simp [b_shared, q_shared, q_checked_weights, h1, pSeq, pNext, pIf, pSet, pDrop, pRet, pRetN, pAsg, pVar, pC, pK, pCons, pNil, pTup, pLst, pDat, pMut, pOp, pB, pChain, pAndT, pOrT, pNotT, pAndV, pOrV, pNotV, pTru, pIfE, pNeg, pCall, pCallL, pCallQ, pCallG, pRaise, R.bind, R.to, R.bindN, O.toR, PR.to, truth, allD, view, viewAll, itemsL, itemsT, lenW, tagD, tagW, isTy, tyOk, scalar, R.freeze, pFor, pItL, pItT, pItS, pRng1, pRng2, qName, qNil, qCons, qTup, pSub, pNo, pSo, pYes, pBrk, pCnt, startS, clearO, gInt, gAddI, gSubI, gLtI, gLeI, gGtI, gGeI, gEqD, gNeD, gIsN, gIsB, gStr, gIsi, gLen, gAbs, gInt1, gMin2, gMax2, gSum, gMaxI, gMinI, gList, gSorted, gIx, gInD, isNonD, viewI, catW, pCat, gMaxT, pFld, pSetF, pMeth, pMake, insOf, putW, noAtt, pTry, pListRev, pSlL, pSlT, pIsi2, allD_nil, eqv_int, shaped_int, allD_ints, allD_map, intsOf_map]
    | true =>
      obtain ⟨ns, rfl, l1, l2, hn, hz⟩ := wOk_ints h1
      cases h2 : isAmountD a with
      | false =>
        have e : q_shared [a, .list (ns.map .int)] = .exc ⟨"InvalidNumber", none⟩ := by
          cases a <;> simp [q_shared, h1, h2, intsOf_map]
        rw [e]
        simp [b_shared, q_checked_weights, q_is_amount, h1, h2, pSeq, pNext, pIf, pSet, pDrop, pRet, pRetN, pAsg, pVar, pC, pK, pCons, pNil, pTup, pLst, pDat, pMut, pOp, pB, pChain, pAndT, pOrT, pNotT, pAndV, pOrV, pNotV, pTru, pIfE, pNeg, pCall, pCallL, pCallQ, pCallG, pRaise, R.bind, R.to, R.bindN, O.toR, PR.to, truth, allD, view, viewAll, itemsL, itemsT, lenW, tagD, tagW, isTy, tyOk, scalar, R.freeze, pFor, pItL, pItT, pItS, pRng1, pRng2, qName, qNil, qCons, qTup, pSub, pNo, pSo, pYes, pBrk, pCnt, startS, clearO, gInt, gAddI, gSubI, gLtI, gLeI, gGtI, gGeI, gEqD, gNeD, gIsN, gIsB, gStr, gIsi, gLen, gAbs, gInt1, gMin2, gMax2, gSum, gMaxI, gMinI, gList, gSorted, gIx, gInD, isNonD, viewI, catW, pCat, gMaxT, pFld, pSetF, pMeth, pMake, insOf, putW, noAtt, pTry, pListRev, pSlL, pSlT, pIsi2, allD_nil, eqv_int, shaped_int, allD_ints, allD_map, intsOf_map]
      | true =>
        obtain ⟨n, rfl, n1, n2⟩ := number_int h2
        by_cases h3 : 0 ≤ n
        · have h3' : ¬ n < 0 := by omega
          have hs := sum_small hn
          have k2 := lc2_shares h3 n2 l2 hz (by omega) (some (.d (.list (ns.map .int))))
          have k1 := lc1_shares (M := [.lst ((floorsL n ns).map wi)]) h3 n2 l2 hz (some (.d (.list (ns.map .int)))) (some (.r 0))
          obtain ⟨s', q1, q2, q3⟩ := incr_loop (f := 4) (r := 6) (a := 7) (m := 0) (by decide) (by decide) (by decide) (cutW (sortD (restsL n ns)) none (some (n - (floorsL n ns).sum))) [some (.d (.int n)), some (.d (.list (ns.map .int))), some (.d (.list (ns.map .int))), some (.d (.int ns.sum)), some (.r 0), some (.d (.list (sortD (restsL n ns)))), none, none, none] [.lst ((floorsL n ns).map wi)] (floorsL n ns) rfl (by simp) (by simp) rfl rests_at
          have q4 : s'[4]? = some (some (.r 0)) := q3 4 (by decide) (by decide)
          have eb : lp0_shared = incB 4 7 := rfl
          have eg : (qTup 2 (qCons (qName 6) (qCons (qName 7) qNil))) = incG 6 7 := rfl
          have es : q_shared [.int n, .list (ns.map .int)] = .ok (.list ((sharesL n ns).map .int)) := by simp [q_shared, h1, h2, intsOf_map, h3]
          have a1 : allD ((restsL n ns).map W.d) = some (restsL n ns) := allD_map _
          have a2 : allD ((sortD (restsL n ns)).map W.d) = some (sortD (restsL n ns)) := allD_map _
          have a3 : allD ((floorsL n ns).map wi) = some ((floorsL n ns).map .int) := allD_wi _
          have a4 : allD (cutW ((sortD (restsL n ns)).map W.d) none (some (n - (floorsL n ns).sum))) = some (cutW (sortD (restsL n ns)) none (some (n - (floorsL n ns).sum))) := by
            rw [show cutW ((sortD (restsL n ns)).map W.d) none (some (n - (floorsL n ns).sum)) = (cutW (sortD (restsL n ns)) none (some (n - (floorsL n ns).sum))).map W.d by simp [cutW, List.map_take, List.map_drop]]
            exact allD_map _
          have so := sortable_rests n ns
          rw [es]
          unfold b_shared
          rw [eb, eg]
          rw [seq_nx (s' := [some (.d (.int n)), some (.d (.list (ns.map .int))), some (.d (.list (ns.map .int))), none, none, none, none, none, none]) (M' := []) (set_ok (x := .d (.list (ns.map .int))) (M' := []) (by simp [q_checked_weights, h1, pSeq, pNext, pIf, pSet, pDrop, pRet, pRetN, pAsg, pVar, pC, pK, pCons, pNil, pTup, pLst, pDat, pMut, pOp, pB, pChain, pAndT, pOrT, pNotT, pAndV, pOrV, pNotV, pTru, pIfE, pNeg, pCall, pCallL, pCallQ, pCallG, pRaise, R.bind, R.to, R.bindN, O.toR, PR.to, truth, allD, view, viewAll, itemsL, itemsT, lenW, tagD, tagW, isTy, tyOk, scalar, R.freeze, pFor, pItL, pItT, pItS, pRng1, pRng2, qName, qNil, qCons, qTup, pSub, pNo, pSo, pYes, pBrk, pCnt, startS, clearO, gInt, gAddI, gSubI, gLtI, gLeI, gGtI, gGeI, gEqD, gNeD, gIsN, gIsB, gStr, gIsi, gLen, gAbs, gInt1, gMin2, gMax2, gSum, gMaxI, gMinI, gList, gSorted, gIx, gInD, isNonD, viewI, catW, pCat, gMaxT, pFld, pSetF, pMeth, pMake, insOf, putW, noAtt, pTry, pListRev, pSlL, pSlT, pIsi2, allD_nil, eqv_int, shaped_int, allD_ints, allD_map, intsOf_map]))]
          rw [seq_nx (s' := [some (.d (.int n)), some (.d (.list (ns.map .int))), some (.d (.list (ns.map .int))), none, none, none, none, none, none]) (M' := []) (by simp [q_is_amount, h2, h3', pSeq, pNext, pIf, pSet, pDrop, pRet, pRetN, pAsg, pVar, pC, pK, pCons, pNil, pTup, pLst, pDat, pMut, pOp, pB, pChain, pAndT, pOrT, pNotT, pAndV, pOrV, pNotV, pTru, pIfE, pNeg, pCall, pCallL, pCallQ, pCallG, pRaise, R.bind, R.to, R.bindN, O.toR, PR.to, truth, allD, view, viewAll, itemsL, itemsT, lenW, tagD, tagW, isTy, tyOk, scalar, R.freeze, pFor, pItL, pItT, pItS, pRng1, pRng2, qName, qNil, qCons, qTup, pSub, pNo, pSo, pYes, pBrk, pCnt, startS, clearO, gInt, gAddI, gSubI, gLtI, gLeI, gGtI, gGeI, gEqD, gNeD, gIsN, gIsB, gStr, gIsi, gLen, gAbs, gInt1, gMin2, gMax2, gSum, gMaxI, gMinI, gList, gSorted, gIx, gInD, isNonD, viewI, catW, pCat, gMaxT, pFld, pSetF, pMeth, pMake, insOf, putW, noAtt, pTry, pListRev, pSlL, pSlT, pIsi2, allD_nil, eqv_int, shaped_int, allD_ints, allD_map, intsOf_map])]
          rw [seq_nx (s' := [some (.d (.int n)), some (.d (.list (ns.map .int))), some (.d (.list (ns.map .int))), some (.d (.int ns.sum)), none, none, none, none, none]) (M' := []) (set_ok (x := .d (.int ns.sum)) (M' := []) (by simp [pSeq, pNext, pIf, pSet, pDrop, pRet, pRetN, pAsg, pVar, pC, pK, pCons, pNil, pTup, pLst, pDat, pMut, pOp, pB, pChain, pAndT, pOrT, pNotT, pAndV, pOrV, pNotV, pTru, pIfE, pNeg, pCall, pCallL, pCallQ, pCallG, pRaise, R.bind, R.to, R.bindN, O.toR, PR.to, truth, allD, view, viewAll, itemsL, itemsT, lenW, tagD, tagW, isTy, tyOk, scalar, R.freeze, pFor, pItL, pItT, pItS, pRng1, pRng2, qName, qNil, qCons, qTup, pSub, pNo, pSo, pYes, pBrk, pCnt, startS, clearO, gInt, gAddI, gSubI, gLtI, gLeI, gGtI, gGeI, gEqD, gNeD, gIsN, gIsB, gStr, gIsi, gLen, gAbs, gInt1, gMin2, gMax2, gSum, gMaxI, gMinI, gList, gSorted, gIx, gInD, isNonD, viewI, catW, pCat, gMaxT, pFld, pSetF, pMeth, pMake, insOf, putW, noAtt, pTry, pListRev, pSlL, pSlT, pIsi2, allD_nil, eqv_int, shaped_int, allD_ints, allD_map, intsOf_map]))]
          rw [seq_nx (s' := [some (.d (.int n)), some (.d (.list (ns.map .int))), some (.d (.list (ns.map .int))), some (.d (.int ns.sum)), some (.r 0), none, none, none, none]) (M' := [.lst ((floorsL n ns).map wi)]) (set_ok (mut_ok k2))]
          have k3 : pDat (pCallL gSorted (pCons (pDat lc1_shared) pNil)) [some (.d (.int n)), some (.d (.list (ns.map .int))), some (.d (.list (ns.map .int))), some (.d (.int ns.sum)), some (.r 0), none, none, none, none] [.lst ((floorsL n ns).map wi)] = .ok (.d (.list (sortD (restsL n ns)))) [.lst ((floorsL n ns).map wi)] := by
            refine dat_ok (ws := (sortD (restsL n ns)).map W.d) ?_ a2
            unfold pCallL pCons pNil
            rw [dat_ok k1 a1]
            simp only [R.bind, gSorted, view, so, if_true]
          rw [seq_nx (s' := [some (.d (.int n)), some (.d (.list (ns.map .int))), some (.d (.list (ns.map .int))), some (.d (.int ns.sum)), some (.r 0), some (.d (.list (sortD (restsL n ns)))), none, none, none]) (M' := [.lst ((floorsL n ns).map wi)]) (set_ok k3)]
          have k4 : pItL (pDat (pSlL (pVar 5) pNo (pSo (pOp gSubI (pVar 0) (pCall gSum (pCons (pVar 4) pNil)))))) [some (.d (.int n)), some (.d (.list (ns.map .int))), some (.d (.list (ns.map .int))), some (.d (.int ns.sum)), some (.r 0), some (.d (.list (sortD (restsL n ns)))), none, none, none] [.lst ((floorsL n ns).map wi)] = .ok ((cutW (sortD (restsL n ns)) none (some (n - (floorsL n ns).sum))).map W.d) [.lst ((floorsL n ns).map wi)] := by
            unfold pItL
            rw [dat_ok (ws := cutW ((sortD (restsL n ns)).map W.d) none (some (n - (floorsL n ns).sum))) (M' := [.lst ((floorsL n ns).map wi)]) (by simp [a3, pSeq, pNext, pIf, pSet, pDrop, pRet, pRetN, pAsg, pVar, pC, pK, pCons, pNil, pTup, pLst, pDat, pMut, pOp, pB, pChain, pAndT, pOrT, pNotT, pAndV, pOrV, pNotV, pTru, pIfE, pNeg, pCall, pCallL, pCallQ, pCallG, pRaise, R.bind, R.to, R.bindN, O.toR, PR.to, truth, allD, view, viewAll, itemsL, itemsT, lenW, tagD, tagW, isTy, tyOk, scalar, R.freeze, pFor, pItL, pItT, pItS, pRng1, pRng2, qName, qNil, qCons, qTup, pSub, pNo, pSo, pYes, pBrk, pCnt, startS, clearO, gInt, gAddI, gSubI, gLtI, gLeI, gGtI, gGeI, gEqD, gNeD, gIsN, gIsB, gStr, gIsi, gLen, gAbs, gInt1, gMin2, gMax2, gSum, gMaxI, gMinI, gList, gSorted, gIx, gInD, isNonD, viewI, catW, pCat, gMaxT, pFld, pSetF, pMeth, pMake, insOf, putW, noAtt, pTry, pListRev, pSlL, pSlT, pIsi2, allD_nil, eqv_int, shaped_int, allD_ints, allD_map, intsOf_map]) a4]
            rfl
          rw [seq_nx ((for_ok k4).trans q1)]
          rw [ret_ok (var_ok q4)]
          simp only [O.toR, R.freeze, List.set_cons_zero, List.getElem?_cons_zero]
          have a5 : allD ((sharesL n ns).map wi) = some ((sharesL n ns).map .int) := allD_wi _
          show (match allD ((sharesL n ns).map wi) with | some ds => PR.ok (.list ds) | none => .stuck) = _
          rw [a5]
        · have h3' : n < 0 := by omega
          have e : q_shared [.int n, .list (ns.map .int)] = .exc ⟨"InvalidNumber", none⟩ := by simp [q_shared, h1, h2, intsOf_map, h3]
          rw [e]
          simp [b_shared, q_checked_weights, q_is_amount, h1, h2, h3', pSeq, pNext, pIf, pSet, pDrop, pRet, pRetN, pAsg, pVar, pC, pK, pCons, pNil, pTup, pLst, pDat, pMut, pOp, pB, pChain, pAndT, pOrT, pNotT, pAndV, pOrV, pNotV, pTru, pIfE, pNeg, pCall, pCallL, pCallQ, pCallG, pRaise, R.bind, R.to, R.bindN, O.toR, PR.to, truth, allD, view, viewAll, itemsL, itemsT, lenW, tagD, tagW, isTy, tyOk, scalar, R.freeze, pFor, pItL, pItT, pItS, pRng1, pRng2, qName, qNil, qCons, qTup, pSub, pNo, pSo, pYes, pBrk, pCnt, startS, clearO, gInt, gAddI, gSubI, gLtI, gLeI, gGtI, gGeI, gEqD, gNeD, gIsN, gIsB, gStr, gIsi, gLen, gAbs, gInt1, gMin2, gMax2, gSum, gMaxI, gMinI, gList, gSorted, gIx, gInD, isNonD, viewI, catW, pCat, gMaxT, pFld, pSetF, pMeth, pMake, insOf, putW, noAtt, pTry, pListRev, pSlL, pSlT, pIsi2, allD_nil, eqv_int, shaped_int, allD_ints, allD_map, intsOf_map]
  | [], h => exact absurd rfl h
  | [_], h => exact absurd rfl h
abbrev N_judge_shared : List Str := ["amount", "weights", "told", "rows", "every", "off", "one", "at"]
def lc0_judge_shared : PAx :=
  pLc (pItL (pVar 5)) (qName 6) (pNotT (pB (pChain (gLtI) (gLtI) (pNeg (pVar 4)) (pVar 6) (pVar 4)))) (pVar 6) [6]
def lc1_judge_shared : PAx :=
  pLc (pRng1 (pCall gLen (pCons (pVar 3) (pNil)))) (qName 7) (pYes) (pOp gSubI (pOp gMulI (pOp gIx (pVar 2) (pVar 7)) (pVar 4)) (pOp gMulI (pVar 0) (pOp gIx (pVar 3) (pVar 7)))) [7]
def lc2_judge_shared : PAx :=
  pLc (pItL (pVar 2)) (qName 6) (pNotT (pTru (pCallQ q_is_amount [] (pCons (pVar 6) (pNil))))) (pVar 6) [6]
def b_judge_shared : PSx :=
  pSeq (pSet 3 (pCallQ q_checked_weights [] (pCons (pVar 1) (pNil))))
  (pSeq (pIf (pOrT (pNotT (pTru (pCallQ q_is_amount [] (pCons (pVar 0) (pNil))))) (pOrT (pB (pOp gLtI (pVar 0) (pC (.int 0)))) (pB (pOp gNeD (pCall gLen (pCons (pVar 2) (pNil))) (pCall gLen (pCons (pVar 3) (pNil))))))) (pRet (pC (.bool false))) (pNext))
  (pSeq (pIf (pOrT (pTru (pDat (lc2_judge_shared))) (pB (pOp gNeD (pCall gSum (pCons (pVar 2) (pNil))) (pVar 0)))) (pRet (pC (.bool false))) (pNext))
  (pSeq (pSet 4 (pCall gSum (pCons (pVar 3) (pNil))))
  (pSeq (pSet 5 (pDat (lc1_judge_shared)))
  (pSeq (pIf (pTru (pDat (lc0_judge_shared))) (pRet (pC (.bool false))) (pNext))
  (pRet (pOp gLeI (pOp gSubI (pCall gMaxI (pCons (pVar 5) (pNil))) (pCall gMinI (pCons (pVar 5) (pNil)))) (pVar 4))))))))
def f0_judge_shared : PF := runG N_judge_shared.length (["amount", "weights", "told"] : List Str).length (b_judge_shared)
theorem run_judge_shared {ws : List W} {M : Ms} (h : ws.length = 3) : f0_judge_shared ws M = (b_judge_shared (startS 8 ws) M).toR := runG_pos h
theorem lc2_judge {n : Int} {ns ms : List Int} (hl : ms.length ≤ 1000000) : lc2_judge_shared [some (.d (.int n)), some (.d (.list (ns.map .int))), some (.d (.list (ms.map .int))), some (.d (.list (ns.map .int))), none, none, none, none] [] = .ok (((ms.map PyData.int).filter fun d => !isAmountD d).map W.d) [] := by
  unfold lc2_judge_shared pLc
  simp only [pItL, pVar, R.bind, List.getElem?_cons_zero, List.getElem?_cons_succ]
  rw [if_pos (by rw [List.length_map, List.length_map]; exact Nat.le_trans hl (by decide))]
  rw [lcL_pure (fun x => match x with | .d d => !isAmountD d | _ => false) id, filter_d]
  · simp
  · intro x hx
    obtain ⟨d, _, rfl⟩ := List.mem_map.mp hx
    refine ⟨[some (.d (.int n)), some (.d (.list (ns.map .int))), some (.d (.list (ms.map .int))), some (.d (.list (ns.map .int))), none, none, some (.d d), none], by simp [qName, wipeS], ?_, fun _ => ?_⟩
    · simp [q_is_amount, pSeq, pNext, pIf, pSet, pDrop, pRet, pRetN, pAsg, pVar, pC, pK, pCons, pNil, pTup, pLst, pDat, pMut, pOp, pB, pChain, pAndT, pOrT, pNotT, pAndV, pOrV, pNotV, pTru, pIfE, pNeg, pCall, pCallL, pCallQ, pCallG, pRaise, R.bind, R.to, R.bindN, O.toR, PR.to, truth, allD, view, viewAll, itemsL, itemsT, lenW, tagD, tagW, isTy, tyOk, scalar, R.freeze, pFor, pItL, pItT, pItS, pRng1, pRng2, qName, qNil, qCons, qTup, pSub, pNo, pSo, pYes, pBrk, pCnt, startS, clearO, gInt, gAddI, gSubI, gLtI, gLeI, gGtI, gGeI, gEqD, gNeD, gIsN, gIsB, gStr, gIsi, gLen, gAbs, gInt1, gMin2, gMax2, gSum, gMaxI, gMinI, gList, gSorted, gIx, gInD, isNonD, viewI, catW, pCat, gMaxT, pFld, pSetF, pMeth, pMake, insOf, putW, noAtt, pTry, pListRev, pSlL, pSlT, pIsi2, allD_nil, eqv_int, shaped_int, allD_ints, allD_map, intsOf_map]
    · simp [pSeq, pNext, pIf, pSet, pDrop, pRet, pRetN, pAsg, pVar, pC, pK, pCons, pNil, pTup, pLst, pDat, pMut, pOp, pB, pChain, pAndT, pOrT, pNotT, pAndV, pOrV, pNotV, pTru, pIfE, pNeg, pCall, pCallL, pCallQ, pCallG, pRaise, R.bind, R.to, R.bindN, O.toR, PR.to, truth, allD, view, viewAll, itemsL, itemsT, lenW, tagD, tagW, isTy, tyOk, scalar, R.freeze, pFor, pItL, pItT, pItS, pRng1, pRng2, qName, qNil, qCons, qTup, pSub, pNo, pSo, pYes, pBrk, pCnt, startS, clearO, gInt, gAddI, gSubI, gLtI, gLeI, gGtI, gGeI, gEqD, gNeD, gIsN, gIsB, gStr, gIsi, gLen, gAbs, gInt1, gMin2, gMax2, gSum, gMaxI, gMinI, gList, gSorted, gIx, gInD, isNonD, viewI, catW, pCat, gMaxT, pFld, pSetF, pMeth, pMake, insOf, putW, noAtt, pTry, pListRev, pSlL, pSlT, pIsi2, allD_nil, eqv_int, shaped_int, allD_ints, allD_map, intsOf_map]
theorem lc1_judge {n : Int} {ns ms : List Int} (n1 : 0 ≤ n) (n2 : n ≤ 1000000000) (hl : ns.length ≤ 100) (hm : ms.length = ns.length) (hs : 0 ≤ ns.sum ∧ ns.sum ≤ 100000000) : lc1_judge_shared [some (.d (.int n)), some (.d (.list (ns.map .int))), some (.d (.list (ms.map .int))), some (.d (.list (ns.map .int))), some (.d (.int ns.sum)), none, none, none] [] = .ok ((offL n ns ms).map wi) [] := by
  unfold lc1_judge_shared pLc
  have e1 := rng1_ok (p := pCall gLen (pCons (pVar 3) pNil)) (s := [some (.d (.int n)), some (.d (.list (ns.map .int))), some (.d (.list (ms.map .int))), some (.d (.list (ns.map .int))), some (.d (.int ns.sum)), none, none, none]) (M := []) (n := ns.length) (by rw [len_list rfl, List.length_map]) (by omega)
  rw [e1]
  simp only [R.bind]
  rw [if_pos (by rw [rngW, List.length_map, List.length_range]; exact Nat.le_trans hl (by decide))]
  rw [lcL_all (fun x => match x with | .d (.int i) => wi (ms.getD i.toNat 0 * ns.sum - n * ns.getD i.toNat 0) | _ => x)]
  · rw [List.nil_append, offL, rngW, List.map_map, List.map_map]
    refine congrArg (fun l => R.ok l []) (List.map_congr_left fun i _ => ?_)
    show wi (ms.getD (0 + (i : Int)).toNat 0 * ns.sum - n * ns.getD (0 + (i : Int)).toNat 0) = wi (ms.getD i 0 * ns.sum - n * ns.getD i 0)
    rw [Int.zero_add, Int.toNat_natCast]
  · intro x hx
    unfold rngW at hx
    obtain ⟨k, hk, rfl⟩ := List.mem_map.mp hx
    have hk' : k < ns.length := List.mem_range.mp hk
    refine ⟨[some (.d (.int n)), some (.d (.list (ns.map .int))), some (.d (.list (ms.map .int))), some (.d (.list (ns.map .int))), some (.d (.int ns.sum)), none, none, some (.d (.int (0 + (k : Int))))], by simp [qName, wipeS], ?_⟩
    rw [Int.zero_add]
    have h0 := gIx_ints (M := []) hk'
    have h0' := gIx_ints (ns := ms) (M := []) (i := k) (by omega)
    have h1 := mul_ok (i := n) (j := ns.getD k 0) (M := []) (.inl (by omega))
    have h2 := mul_ok (i := ms.getD k 0) (j := ns.sum) (M := []) (.inr (by omega))
    unfold wi at h0 h0'
    simp only [pOp, pVar, List.getElem?_cons_zero, List.getElem?_cons_succ, R.bind, h0, h0', h1, h2]
    rfl
theorem lc0_judge {n : Int} {ns ms : List Int} (hl : ns.length ≤ 100) : lc0_judge_shared [some (.d (.int n)), some (.d (.list (ns.map .int))), some (.d (.list (ms.map .int))), some (.d (.list (ns.map .int))), some (.d (.int ns.sum)), some (.d (.list ((offL n ns ms).map .int))), none, none] [] = .ok (((offL n ns ms).filter fun z => !(decide (-ns.sum < z) && decide (z < ns.sum))).map wi) [] := by
  unfold lc0_judge_shared pLc
  simp only [pItL, pVar, R.bind, List.getElem?_cons_zero, List.getElem?_cons_succ]
  rw [if_pos (by rw [List.length_map, List.length_map, offL, List.length_map, List.length_range]; exact Nat.le_trans hl (by decide))]
  rw [lcL_pure (fun x => match x with | .d (.int z) => !(decide (-ns.sum < z) && decide (z < ns.sum)) | _ => false) id]
  · rw [List.nil_append, List.map_id, List.map_map]
    generalize offL n ns ms = l
    refine congrArg (fun l => R.ok l []) ?_
    induction l with
    | nil => rfl
    | cons a l ih =>
      rw [List.map_cons, List.filter_cons, List.filter_cons, ih]
      simp only [Function.comp]
      split <;> simp [wi]
  · intro x hx
    simp only [List.map_map, List.mem_map] at hx
    obtain ⟨z, _, rfl⟩ := hx
    refine ⟨[some (.d (.int n)), some (.d (.list (ns.map .int))), some (.d (.list (ms.map .int))), some (.d (.list (ns.map .int))), some (.d (.int ns.sum)), some (.d (.list ((offL n ns ms).map .int))), some (.d (.int z)), none], by simp [qName, wipeS], ?_, fun _ => ?_⟩
    · by_cases c1 : -ns.sum < z <;> by_cases c2 : z < ns.sum <;> simp [c1, c2, pSeq, pNext, pIf, pSet, pDrop, pRet, pRetN, pAsg, pVar, pC, pK, pCons, pNil, pTup, pLst, pDat, pMut, pOp, pB, pChain, pAndT, pOrT, pNotT, pAndV, pOrV, pNotV, pTru, pIfE, pNeg, pCall, pCallL, pCallQ, pCallG, pRaise, R.bind, R.to, R.bindN, O.toR, PR.to, truth, allD, view, viewAll, itemsL, itemsT, lenW, tagD, tagW, isTy, tyOk, scalar, R.freeze, pFor, pItL, pItT, pItS, pRng1, pRng2, qName, qNil, qCons, qTup, pSub, pNo, pSo, pYes, pBrk, pCnt, startS, clearO, gInt, gAddI, gSubI, gLtI, gLeI, gGtI, gGeI, gEqD, gNeD, gIsN, gIsB, gStr, gIsi, gLen, gAbs, gInt1, gMin2, gMax2, gSum, gMaxI, gMinI, gList, gSorted, gIx, gInD, isNonD, viewI, catW, pCat, gMaxT, pFld, pSetF, pMeth, pMake, insOf, putW, noAtt, pTry, pListRev, pSlL, pSlT, pIsi2, allD_nil, eqv_int, shaped_int, allD_ints, allD_map, intsOf_map]
    · simp [pSeq, pNext, pIf, pSet, pDrop, pRet, pRetN, pAsg, pVar, pC, pK, pCons, pNil, pTup, pLst, pDat, pMut, pOp, pB, pChain, pAndT, pOrT, pNotT, pAndV, pOrV, pNotV, pTru, pIfE, pNeg, pCall, pCallL, pCallQ, pCallG, pRaise, R.bind, R.to, R.bindN, O.toR, PR.to, truth, allD, view, viewAll, itemsL, itemsT, lenW, tagD, tagW, isTy, tyOk, scalar, R.freeze, pFor, pItL, pItT, pItS, pRng1, pRng2, qName, qNil, qCons, qTup, pSub, pNo, pSo, pYes, pBrk, pCnt, startS, clearO, gInt, gAddI, gSubI, gLtI, gLeI, gGtI, gGeI, gEqD, gNeD, gIsN, gIsB, gStr, gIsi, gLen, gAbs, gInt1, gMin2, gMax2, gSum, gMaxI, gMinI, gList, gSorted, gIx, gInD, isNonD, viewI, catW, pCat, gMaxT, pFld, pSetF, pMeth, pMake, insOf, putW, noAtt, pTry, pListRev, pSlL, pSlT, pIsi2, allD_nil, eqv_int, shaped_int, allD_ints, allD_map, intsOf_map]
def q_judge_shared : List PyData → PR := fun ds => match ds with
  | [.int n, .list ws, .list ts] => (match intsOf ws, intsOf ts with
    | some ns, some ms => if wOk ws = true ∧ 0 ≤ n ∧ n ≤ 1000000000 ∧ ms.length ≤ 1000000 then .ok (.bool (goodB n ns ms)) else .stuck
    | _, _ => .stuck)
  | _ => .stuck
theorem intsOf_is : ∀ {ds : List PyData} {ns : List Int}, intsOf ds = some ns → ds = ns.map .int
  | [], _, e => by simp only [intsOf, Option.some.injEq] at e; subst e; rfl
  | .int i :: ds, _, e => by
    simp only [intsOf, Option.map_eq_some_iff] at e
    obtain ⟨r, e1, rfl⟩ := e
    rw [intsOf_is e1]; rfl
  | .none :: _, _, e => by simp [intsOf] at e
  | .bool _ :: _, _, e => by simp [intsOf] at e
  | .str _ :: _, _, e => by simp [intsOf] at e
  | .list _ :: _, _, e => by simp [intsOf] at e
  | .tuple _ :: _, _, e => by simp [intsOf] at e
  | .dict _ :: _, _, e => by simp [intsOf] at e
theorem maxI_ok {l : List Int} {i : Nat} {s : Sl} {M : Ms} (h : s[i]? = some (some (.d (.list (l.map .int))))) (hl : l ≠ []) : pCall gMaxI (pCons (pVar i) pNil) s M = .ok (wi (maxL l)) M := by
  cases l with
  | nil => exact absurd rfl hl
  | cons x xs =>
    unfold pCall pCons pVar pNil
    simp only [h, R.bind, gMaxI, viewI, view, intsOf_map]
    rfl
theorem minI_ok {l : List Int} {i : Nat} {s : Sl} {M : Ms} (h : s[i]? = some (some (.d (.list (l.map .int))))) (hl : l ≠ []) : pCall gMinI (pCons (pVar i) pNil) s M = .ok (wi (minL l)) M := by
  cases l with
  | nil => exact absurd rfl hl
  | cons x xs =>
    unfold pCall pCons pVar pNil
    simp only [h, R.bind, gMinI, viewI, view, intsOf_map]
    rfl
theorem pure_judge_shared : ∀ ds, q_judge_shared ds ≠ .stuck → f0_judge_shared.pure ds = q_judge_shared ds := by
  intro ds h
  unfold q_judge_shared at h
  split at h
  · rename_i n ws ts
    split at h
    · rename_i ns ms ens ems
      obtain rfl := intsOf_is ens
      obtain rfl := intsOf_is ems
      split at h
      · rename_i hc
        obtain ⟨h1, n1, n2, hms⟩ := id hc
        obtain ⟨ns', e', l1, l2, hn, hz⟩ := wOk_ints h1
        have e2 : ns' = ns := by
          have z := congrArg intsOf e'
          rw [intsOf_map, intsOf_map] at z
          exact (Option.some.inj z).symm
        subst e2
        have es : q_judge_shared [.int n, .list (ns'.map .int), .list (ms.map .int)] = .ok (.bool (goodB n ns' ms)) := by
          unfold q_judge_shared
          simp only [intsOf_map]
          rw [if_pos hc]
        rw [es]
        have hs := sum_small hn
        have hs' : 0 ≤ ns'.sum ∧ ns'.sum ≤ 100000000 := by omega
        have h2 : isAmountD (.int n) = true := by simp [isAmountD, isNumberD]; omega
        have h3 : ¬ n < 0 := by omega
        unfold PF.pure
        rw [run_judge_shared rfl]
        unfold b_judge_shared
        rw [seq_nx (s' := [some (.d (.int n)), some (.d (.list (ns'.map .int))), some (.d (.list (ms.map .int))), some (.d (.list (ns'.map .int))), none, none, none, none]) (M' := []) (set_ok (x := .d (.list (ns'.map .int))) (M' := []) (by simp [q_checked_weights, h1, pSeq, pNext, pIf, pSet, pDrop, pRet, pRetN, pAsg, pVar, pC, pK, pCons, pNil, pTup, pLst, pDat, pMut, pOp, pB, pChain, pAndT, pOrT, pNotT, pAndV, pOrV, pNotV, pTru, pIfE, pNeg, pCall, pCallL, pCallQ, pCallG, pRaise, R.bind, R.to, R.bindN, O.toR, PR.to, truth, allD, view, viewAll, itemsL, itemsT, lenW, tagD, tagW, isTy, tyOk, scalar, R.freeze, pFor, pItL, pItT, pItS, pRng1, pRng2, qName, qNil, qCons, qTup, pSub, pNo, pSo, pYes, pBrk, pCnt, startS, clearO, gInt, gAddI, gSubI, gLtI, gLeI, gGtI, gGeI, gEqD, gNeD, gIsN, gIsB, gStr, gIsi, gLen, gAbs, gInt1, gMin2, gMax2, gSum, gMaxI, gMinI, gList, gSorted, gIx, gInD, isNonD, viewI, catW, pCat, gMaxT, pFld, pSetF, pMeth, pMake, insOf, putW, noAtt, pTry, pListRev, pSlL, pSlT, pIsi2, allD_nil, eqv_int, shaped_int, allD_ints, allD_map, intsOf_map]))]
        by_cases hl : ms.length = ns'.length
        · have hl' : ((ms.length : Int) == ns'.length) = true := by rw [hl]; simp
          rw [seq_nx (s' := [some (.d (.int n)), some (.d (.list (ns'.map .int))), some (.d (.list (ms.map .int))), some (.d (.list (ns'.map .int))), none, none, none, none]) (M' := []) (by simp [q_is_amount, h2, h3, hl', pSeq, pNext, pIf, pSet, pDrop, pRet, pRetN, pAsg, pVar, pC, pK, pCons, pNil, pTup, pLst, pDat, pMut, pOp, pB, pChain, pAndT, pOrT, pNotT, pAndV, pOrV, pNotV, pTru, pIfE, pNeg, pCall, pCallL, pCallQ, pCallG, pRaise, R.bind, R.to, R.bindN, O.toR, PR.to, truth, allD, view, viewAll, itemsL, itemsT, lenW, tagD, tagW, isTy, tyOk, scalar, R.freeze, pFor, pItL, pItT, pItS, pRng1, pRng2, qName, qNil, qCons, qTup, pSub, pNo, pSo, pYes, pBrk, pCnt, startS, clearO, gInt, gAddI, gSubI, gLtI, gLeI, gGtI, gGeI, gEqD, gNeD, gIsN, gIsB, gStr, gIsi, gLen, gAbs, gInt1, gMin2, gMax2, gSum, gMaxI, gMinI, gList, gSorted, gIx, gInD, isNonD, viewI, catW, pCat, gMaxT, pFld, pSetF, pMeth, pMake, insOf, putW, noAtt, pTry, pListRev, pSlL, pSlT, pIsi2, allD_nil, eqv_int, shaped_int, allD_ints, allD_map, intsOf_map])]
          have k2 := lc2_judge (n := n) (ns := ns') hms
          cases ha : (ms.map PyData.int).all isAmountD with
          | false =>
            have hf : ((ms.map PyData.int).filter fun d => !isAmountD d).isEmpty = false := by
              rw [List.all_eq_false] at ha
              obtain ⟨d, hd, hn'⟩ := ha
              rw [Bool.eq_false_iff, ne_eq, List.isEmpty_iff]
              intro z
              have : d ∈ (ms.map PyData.int).filter fun d => !isAmountD d := List.mem_filter.mpr ⟨hd, by simpa using hn'⟩
              rw [z] at this
              cases this
            have hg : goodB n ns' ms = false := by
              rw [Bool.eq_false_iff]
              intro g
              have z := good_amounts n1 l1 (fun w hw => (hn w hw).1) hz g
              rw [List.all_eq_false] at ha
              obtain ⟨d, hd, hn'⟩ := ha
              obtain ⟨m, hm, rfl⟩ := List.mem_map.mp hd
              have zz := z m hm
              exact hn' (by simp [isAmountD, isNumberD]; omega)
            have d2 : pDat lc2_judge_shared [some (.d (.int n)), some (.d (.list (ns'.map .int))), some (.d (.list (ms.map .int))), some (.d (.list (ns'.map .int))), none, none, none, none] [] = .ok (.d (.list ((ms.map PyData.int).filter fun d => !isAmountD d))) [] := dat_ok k2 (allD_map _)
            rw [seq_rt (x := .d (.bool false)) (M' := []) (by
              rw [if_tt (M' := []) (by
                unfold pOrT pTru
                rw [d2]
                simp only [R.bind, truth, hf, Bool.not_false, if_true])]
              rfl)]
            rw [hg]
            rfl
          | true =>
            have hf : (ms.map PyData.int).filter (fun d => !isAmountD d) = [] := by
              rw [List.filter_eq_nil_iff]
              intro d hd
              rw [List.all_eq_true] at ha
              simp [ha d hd]
            rw [hf] at k2
            have d2 : pDat lc2_judge_shared [some (.d (.int n)), some (.d (.list (ns'.map .int))), some (.d (.list (ms.map .int))), some (.d (.list (ns'.map .int))), none, none, none, none] [] = .ok (.d (.list [])) [] := dat_ok k2 rfl
            by_cases hsum : ms.sum = n
            · have hsum' : (ms.sum == n) = true := by simpa using hsum
              rw [seq_nx (s' := [some (.d (.int n)), some (.d (.list (ns'.map .int))), some (.d (.list (ms.map .int))), some (.d (.list (ns'.map .int))), none, none, none, none]) (M' := []) (by
                rw [if_ff (M' := []) (by
                  unfold pOrT pTru
                  rw [d2]
                  simp [hsum', pSeq, pNext, pIf, pSet, pDrop, pRet, pRetN, pAsg, pVar, pC, pK, pCons, pNil, pTup, pLst, pDat, pMut, pOp, pB, pChain, pAndT, pOrT, pNotT, pAndV, pOrV, pNotV, pTru, pIfE, pNeg, pCall, pCallL, pCallQ, pCallG, pRaise, R.bind, R.to, R.bindN, O.toR, PR.to, truth, allD, view, viewAll, itemsL, itemsT, lenW, tagD, tagW, isTy, tyOk, scalar, R.freeze, pFor, pItL, pItT, pItS, pRng1, pRng2, qName, qNil, qCons, qTup, pSub, pNo, pSo, pYes, pBrk, pCnt, startS, clearO, gInt, gAddI, gSubI, gLtI, gLeI, gGtI, gGeI, gEqD, gNeD, gIsN, gIsB, gStr, gIsi, gLen, gAbs, gInt1, gMin2, gMax2, gSum, gMaxI, gMinI, gList, gSorted, gIx, gInD, isNonD, viewI, catW, pCat, gMaxT, pFld, pSetF, pMeth, pMake, insOf, putW, noAtt, pTry, pListRev, pSlL, pSlT, pIsi2, allD_nil, eqv_int, shaped_int, allD_ints, allD_map, intsOf_map])]
                rfl)]
              rw [seq_nx (s' := [some (.d (.int n)), some (.d (.list (ns'.map .int))), some (.d (.list (ms.map .int))), some (.d (.list (ns'.map .int))), some (.d (.int ns'.sum)), none, none, none]) (M' := []) (set_ok (x := .d (.int ns'.sum)) (M' := []) (by simp [pSeq, pNext, pIf, pSet, pDrop, pRet, pRetN, pAsg, pVar, pC, pK, pCons, pNil, pTup, pLst, pDat, pMut, pOp, pB, pChain, pAndT, pOrT, pNotT, pAndV, pOrV, pNotV, pTru, pIfE, pNeg, pCall, pCallL, pCallQ, pCallG, pRaise, R.bind, R.to, R.bindN, O.toR, PR.to, truth, allD, view, viewAll, itemsL, itemsT, lenW, tagD, tagW, isTy, tyOk, scalar, R.freeze, pFor, pItL, pItT, pItS, pRng1, pRng2, qName, qNil, qCons, qTup, pSub, pNo, pSo, pYes, pBrk, pCnt, startS, clearO, gInt, gAddI, gSubI, gLtI, gLeI, gGtI, gGeI, gEqD, gNeD, gIsN, gIsB, gStr, gIsi, gLen, gAbs, gInt1, gMin2, gMax2, gSum, gMaxI, gMinI, gList, gSorted, gIx, gInD, isNonD, viewI, catW, pCat, gMaxT, pFld, pSetF, pMeth, pMake, insOf, putW, noAtt, pTry, pListRev, pSlL, pSlT, pIsi2, allD_nil, eqv_int, shaped_int, allD_ints, allD_map, intsOf_map]))]
              have k1 := lc1_judge (ms := ms) n1 n2 l2 hl hs'
              have d1 := dat_ok k1 (allD_wi _)
              rw [seq_nx (s' := [some (.d (.int n)), some (.d (.list (ns'.map .int))), some (.d (.list (ms.map .int))), some (.d (.list (ns'.map .int))), some (.d (.int ns'.sum)), some (.d (.list ((offL n ns' ms).map .int))), none, none]) (M' := []) (set_ok d1)]
              have k0 := lc0_judge (n := n) (ns := ns') (ms := ms) l2
              have d0 := dat_ok k0 (allD_wi _)
              have one : offL n ns' ms ≠ [] := offL_ne l1
              cases hb : (offL n ns' ms).all (fun z => decide (-ns'.sum < z) && decide (z < ns'.sum)) with
              | false =>
                have hf0 : (((offL n ns' ms).filter fun z => !(decide (-ns'.sum < z) && decide (z < ns'.sum))).map PyData.int).isEmpty = false := by
                  rw [List.all_eq_false] at hb
                  obtain ⟨d, hd, hn'⟩ := hb
                  rw [Bool.eq_false_iff, ne_eq, List.isEmpty_iff, List.map_eq_nil_iff]
                  intro z
                  have : d ∈ (offL n ns' ms).filter fun z => !(decide (-ns'.sum < z) && decide (z < ns'.sum)) := List.mem_filter.mpr ⟨hd, by rw [Bool.not_eq_true']; exact Bool.eq_false_iff.mpr hn'⟩
                  rw [z] at this
                  cases this
                have hg : goodB n ns' ms = false := by
                  rw [Bool.eq_false_iff]
                  intro g
                  unfold goodB at g
                  simp only [Bool.and_eq_true, decide_eq_true_eq] at g
                  obtain ⟨_, _, g1, g2, _⟩ := g
                  rw [List.all_eq_false] at hb
                  obtain ⟨d, hd, hn'⟩ := hb
                  have m1 := (maxL_mem one).2 d hd
                  have m2 := (minL_mem one).2 d hd
                  simp only [Bool.and_eq_true, decide_eq_true_eq] at hn'
                  omega
                rw [seq_rt (x := .d (.bool false)) (M' := []) (by
                  rw [if_tt (M' := []) (by
                    unfold pTru
                    rw [d0]
                    simp only [R.bind, truth, hf0, Bool.not_false])]
                  rfl)]
                rw [hg]
                rfl
              | true =>
                have hf0 : (offL n ns' ms).filter (fun z => !(decide (-ns'.sum < z) && decide (z < ns'.sum))) = [] := by
                  rw [List.filter_eq_nil_iff]
                  intro d hd
                  rw [List.all_eq_true] at hb
                  simp only [hb d hd]
                  decide
                rw [hf0] at d0
                rw [seq_nx (s' := [some (.d (.int n)), some (.d (.list (ns'.map .int))), some (.d (.list (ms.map .int))), some (.d (.list (ns'.map .int))), some (.d (.int ns'.sum)), some (.d (.list ((offL n ns' ms).map .int))), none, none]) (M' := []) (by
                  rw [if_ff (M' := []) (by
                    unfold pTru
                    rw [d0]
                    rfl)]
                  rfl)]
                rw [List.all_eq_true] at hb
                have bm := hb _ (maxL_mem one).1
                have bn := hb _ (minL_mem one).1
                simp only [Bool.and_eq_true, decide_eq_true_eq] at bm bn
                have hg : goodB n ns' ms = decide (maxL (offL n ns' ms) - minL (offL n ns' ms) ≤ ns'.sum) := by
                  unfold goodB
                  simp only [hl, hsum, bm.2, bn.1, decide_true, Bool.true_and]
                rw [hg]
                rw [ret_ok (x := .d (.bool (decide (maxL (offL n ns' ms) - minL (offL n ns' ms) ≤ ns'.sum)))) (M' := []) (by
                  unfold pOp
                  rw [show (pCall gMaxI (pCons (pVar 5) pNil)) [some (.d (.int n)), some (.d (.list (ns'.map .int))), some (.d (.list (ms.map .int))), some (.d (.list (ns'.map .int))), some (.d (.int ns'.sum)), some (.d (.list ((offL n ns' ms).map .int))), none, none] [] = _ from maxI_ok rfl one]
                  simp only [R.bind]
                  rw [show (pCall gMinI (pCons (pVar 5) pNil)) [some (.d (.int n)), some (.d (.list (ns'.map .int))), some (.d (.list (ms.map .int))), some (.d (.list (ns'.map .int))), some (.d (.int ns'.sum)), some (.d (.list ((offL n ns' ms).map .int))), none, none] [] = _ from minI_ok rfl one]
                  rfl)]
                rfl
            · have hsum' : (ms.sum == n) = false := by simpa using hsum
              have hg : goodB n ns' ms = false := by
                unfold goodB
                simp [hsum]
              rw [seq_rt (x := .d (.bool false)) (M' := []) (by
                rw [if_tt (M' := []) (by
                  unfold pOrT pTru
                  rw [d2]
                  simp [hsum', pSeq, pNext, pIf, pSet, pDrop, pRet, pRetN, pAsg, pVar, pC, pK, pCons, pNil, pTup, pLst, pDat, pMut, pOp, pB, pChain, pAndT, pOrT, pNotT, pAndV, pOrV, pNotV, pTru, pIfE, pNeg, pCall, pCallL, pCallQ, pCallG, pRaise, R.bind, R.to, R.bindN, O.toR, PR.to, truth, allD, view, viewAll, itemsL, itemsT, lenW, tagD, tagW, isTy, tyOk, scalar, R.freeze, pFor, pItL, pItT, pItS, pRng1, pRng2, qName, qNil, qCons, qTup, pSub, pNo, pSo, pYes, pBrk, pCnt, startS, clearO, gInt, gAddI, gSubI, gLtI, gLeI, gGtI, gGeI, gEqD, gNeD, gIsN, gIsB, gStr, gIsi, gLen, gAbs, gInt1, gMin2, gMax2, gSum, gMaxI, gMinI, gList, gSorted, gIx, gInD, isNonD, viewI, catW, pCat, gMaxT, pFld, pSetF, pMeth, pMake, insOf, putW, noAtt, pTry, pListRev, pSlL, pSlT, pIsi2, allD_nil, eqv_int, shaped_int, allD_ints, allD_map, intsOf_map])]
                rfl)]
              rw [hg]
              rfl
        · have hl' : ((ms.length : Int) == ns'.length) = false := by
            rw [beq_eq_false_iff_ne]
            omega
          have hg : goodB n ns' ms = false := by
            unfold goodB
            simp [hl]
          rw [seq_rt (x := .d (.bool false)) (M' := []) (by simp [q_is_amount, h2, h3, hl', pSeq, pNext, pIf, pSet, pDrop, pRet, pRetN, pAsg, pVar, pC, pK, pCons, pNil, pTup, pLst, pDat, pMut, pOp, pB, pChain, pAndT, pOrT, pNotT, pAndV, pOrV, pNotV, pTru, pIfE, pNeg, pCall, pCallL, pCallQ, pCallG, pRaise, R.bind, R.to, R.bindN, O.toR, PR.to, truth, allD, view, viewAll, itemsL, itemsT, lenW, tagD, tagW, isTy, tyOk, scalar, R.freeze, pFor, pItL, pItT, pItS, pRng1, pRng2, qName, qNil, qCons, qTup, pSub, pNo, pSo, pYes, pBrk, pCnt, startS, clearO, gInt, gAddI, gSubI, gLtI, gLeI, gGtI, gGeI, gEqD, gNeD, gIsN, gIsB, gStr, gIsi, gLen, gAbs, gInt1, gMin2, gMax2, gSum, gMaxI, gMinI, gList, gSorted, gIx, gInD, isNonD, viewI, catW, pCat, gMaxT, pFld, pSetF, pMeth, pMake, insOf, putW, noAtt, pTry, pListRev, pSlL, pSlT, pIsi2, allD_nil, eqv_int, shaped_int, allD_ints, allD_map, intsOf_map])]
          rw [hg]
          rfl
      · exact absurd rfl h
    · exact absurd rfl h
  · exact absurd rfl h
abbrev N_Rates_init : List Str := ["self"]
def b_Rates_init (C_Rates : Addr) : PSx :=
  pSetF C_Rates "_rows" (pDat (pLst (pNil))) (pVar 0)
def f0_Rates_init (C_Rates : Addr) : PF := runG N_Rates_init.length (["self"] : List Str).length (b_Rates_init C_Rates)
theorem run_Rates_init (C_Rates : Addr) {ws : List W} {M : Ms} (h : ws.length = 1) : f0_Rates_init C_Rates ws M = (b_Rates_init C_Rates (startS 1 ws) M).toR := runG_pos h
theorem init_ok {C : Addr} {M : Ms} {i : Nat} (h : M[i]? = some (.ins C [])) : f0_Rates_init C [.r i] M = .ok (.d .none) (M.set i (.ins C [("_rows", .d (.list []))])) := by
  rw [run_Rates_init C rfl]
  simp [b_Rates_init, h, pSeq, pNext, pIf, pSet, pDrop, pRet, pRetN, pAsg, pVar, pC, pK, pCons, pNil, pTup, pLst, pDat, pMut, pOp, pB, pChain, pAndT, pOrT, pNotT, pAndV, pOrV, pNotV, pTru, pIfE, pNeg, pCall, pCallL, pCallQ, pCallG, pRaise, R.bind, R.to, R.bindN, O.toR, PR.to, truth, allD, view, viewAll, itemsL, itemsT, lenW, tagD, tagW, isTy, tyOk, scalar, R.freeze, pFor, pItL, pItT, pItS, pRng1, pRng2, qName, qNil, qCons, qTup, pSub, pNo, pSo, pYes, pBrk, pCnt, startS, clearO, gInt, gAddI, gSubI, gLtI, gLeI, gGtI, gGeI, gEqD, gNeD, gIsN, gIsB, gStr, gIsi, gLen, gAbs, gInt1, gMin2, gMax2, gSum, gMaxI, gMinI, gList, gSorted, gIx, gInD, isNonD, viewI, catW, pCat, gMaxT, pFld, pSetF, pMeth, pMake, insOf, putW, noAtt, pTry, pListRev, pSlL, pSlT, pIsi2, allD_nil, eqv_int, shaped_int, allD_ints, allD_map, intsOf_map]
theorem make_ok {C : Addr} {s : Sl} {M : Ms} : pMake C (f0_Rates_init C) [] pNil s M = .ok (.r M.length) (M ++ [.ins C [("_rows", .d (.list []))]]) := by
  have h : (M ++ [.ins C []])[M.length]? = some (.ins C []) := by simp
  have z := init_ok h
  unfold pMake pNil
  simp only [R.bind, List.map_nil, List.append_nil]
  rw [z]
  simp
def ratesO (C : Addr) (rs : List Row) : MO := .ins C [("_rows", .d (.list (rs.map rowD)))]
theorem fld_ok {C : Addr} {M : Ms} {i j : Nat} {s : Sl} {L : List PyData} (h : M[i]? = some (.ins C [("_rows", .d (.list L))])) (hs : s[j]? = some (some (.r i))) : pFld C "_rows" (pVar j) s M = .ok (.d (.list L)) M := by
  unfold pFld pVar
  simp [hs, h, R.bind, insOf]
theorem filter_rows (p : PyData → Bool) (rs : List Row) : (((rs.map rowD).map W.d).filter fun w => match w with | .d d => p d | _ => false) = ((rs.filter fun r => p (rowD r)).map rowD).map W.d := by
  rw [filter_d, List.filter_map]
  rfl
abbrev f_Rates_init (C_Rates : Addr) : PF := f0_Rates_init C_Rates
abbrev N_Rates_tell : List Str := ["self", "day", "one", "other", "rate", "row"]
def lc0_Rates_tell (C_Rates : Addr) : PAx :=
  pLc (pItL (pFld C_Rates "_rows" (pVar 0))) (qName 5) (pB (pOp gNeD (pSlT (pVar 5) (pNo) (pSo (pC (.int 3)))) (pTup (pCons (pVar 2) (pCons (pVar 3) (pCons (pVar 1) (pNil))))))) (pVar 5) [5]
def b_Rates_tell (C_Rates : Addr) : PSx :=
  pSeq (pIf (pNotT (pTru (pCallQ q_is_number [] (pCons (pVar 1) (pCons (pC (.int 0)) (pCons (pC (.int 100000)) (pNil))))))) (pRaise "InvalidNumber") (pNext))
  (pSeq (pIf (pOrT (pNotT (pTru (pCallQ q_is_name [] (pCons (pVar 2) (pNil))))) (pOrT (pNotT (pTru (pCallQ q_is_name [] (pCons (pVar 3) (pNil))))) (pB (pOp gEqD (pVar 2) (pVar 3))))) (pRaise "InvalidPaper") (pNext))
  (pSeq (pDrop (pCallQ q_checked_rate [] (pCons (pVar 4) (pNil))))
  (pSeq (pSetF C_Rates "_rows" (pDat ((lc0_Rates_tell C_Rates))) (pVar 0))
  (pSetF C_Rates "_rows" (pDat (pCallL gSorted (pCons (pDat (pCat (pFld C_Rates "_rows" (pVar 0)) (pDat (pLst (pCons (pTup (pCons (pVar 2) (pCons (pVar 3) (pCons (pVar 1) (pCons (pVar 4) (pNil)))))) (pNil)))))) (pNil)))) (pVar 0)))))
def f0_Rates_tell (C_Rates : Addr) : PF := runG N_Rates_tell.length (["self", "day", "one", "other", "rate"] : List Str).length (b_Rates_tell C_Rates)
theorem run_Rates_tell (C_Rates : Addr) {ws : List W} {M : Ms} (h : ws.length = 5) : f0_Rates_tell C_Rates ws M = (b_Rates_tell C_Rates (startS 6 ws) M).toR := runG_pos h
theorem name_unit {s : Str} (h : unit s) : isNameD (.str s) = true := by
  rcases h with rfl | rfl | rfl <;> decide +kernel
def neKey (one other : Str) (day : Int) : PyData → Bool := fun d => match d with
  | .tuple [.str a, .str b, .int d, _] => !(a == one && (b == other && d == day))
  | _ => false
theorem lc0_tell {C : Addr} {M : Ms} {i : Nat} {rs : List Row} {one other : Str} {day : Int} {x : Option W} (h : M[i]? = some (.ins C [("_rows", .d (.list (rs.map rowD)))])) (hr : ∀ r ∈ rs, r.ok) (hl : rs.length ≤ 1000) (u1 : unit one) (u2 : unit other) :
    lc0_Rates_tell C [some (.r i), some (.d (.int day)), some (.d (.str one)), some (.d (.str other)), x, none] M = .ok (((rs.filter fun r => !keyIs one other day r).map rowD).map W.d) M := by
  unfold lc0_Rates_tell pLc
  have e1 : pItL (pFld C "_rows" (pVar 0)) [some (.r i), some (.d (.int day)), some (.d (.str one)), some (.d (.str other)), x, none] M = .ok ((rs.map rowD).map W.d) M := by
    unfold pItL
    rw [fld_ok h rfl]
    rfl
  rw [e1]
  simp only [R.bind]
  rw [if_pos (by rw [List.length_map, List.length_map]; exact Nat.le_trans hl (by decide))]
  rw [lcL_pure (fun w => match w with | .d d => neKey one other day d | _ => false) id, filter_rows]
  · rw [List.nil_append, List.map_id]
    rfl
  · intro w hw
    simp only [List.map_map, List.mem_map] at hw
    obtain ⟨r, hrm, rfl⟩ := hw
    obtain ⟨v1, v2⟩ := hr r hrm
    refine ⟨[some (.r i), some (.d (.int day)), some (.d (.str one)), some (.d (.str other)), x, some (.d (rowD r))], by simp [qName, wipeS], ?_, fun _ => ?_⟩
    · have z3 : 3 ≤ sizeLine := by decide
      simp [rowD, neKey, eqv3, shaped3 v1 v2, shaped3 u1 u2, cutW, HT.sIx, z3, pSeq, pNext, pIf, pSet, pDrop, pRet, pRetN, pAsg, pVar, pC, pK, pCons, pNil, pTup, pLst, pDat, pMut, pOp, pB, pChain, pAndT, pOrT, pNotT, pAndV, pOrV, pNotV, pTru, pIfE, pNeg, pCall, pCallL, pCallQ, pCallG, pRaise, R.bind, R.to, R.bindN, O.toR, PR.to, truth, allD, view, viewAll, itemsL, itemsT, lenW, tagD, tagW, isTy, tyOk, scalar, R.freeze, pFor, pItL, pItT, pItS, pRng1, pRng2, qName, qNil, qCons, qTup, pSub, pNo, pSo, pYes, pBrk, pCnt, startS, clearO, gInt, gAddI, gSubI, gLtI, gLeI, gGtI, gGeI, gEqD, gNeD, gIsN, gIsB, gStr, gIsi, gLen, gAbs, gInt1, gMin2, gMax2, gSum, gMaxI, gMinI, gList, gSorted, gIx, gInD, isNonD, viewI, catW, pCat, gMaxT, pFld, pSetF, pMeth, pMake, insOf, putW, noAtt, pTry, pListRev, pSlL, pSlT, pIsi2, allD_nil, eqv_int, shaped_int, allD_ints, allD_map, intsOf_map]
    · simp [pSeq, pNext, pIf, pSet, pDrop, pRet, pRetN, pAsg, pVar, pC, pK, pCons, pNil, pTup, pLst, pDat, pMut, pOp, pB, pChain, pAndT, pOrT, pNotT, pAndV, pOrV, pNotV, pTru, pIfE, pNeg, pCall, pCallL, pCallQ, pCallG, pRaise, R.bind, R.to, R.bindN, O.toR, PR.to, truth, allD, view, viewAll, itemsL, itemsT, lenW, tagD, tagW, isTy, tyOk, scalar, R.freeze, pFor, pItL, pItT, pItS, pRng1, pRng2, qName, qNil, qCons, qTup, pSub, pNo, pSo, pYes, pBrk, pCnt, startS, clearO, gInt, gAddI, gSubI, gLtI, gLeI, gGtI, gGeI, gEqD, gNeD, gIsN, gIsB, gStr, gIsi, gLen, gAbs, gInt1, gMin2, gMax2, gSum, gMaxI, gMinI, gList, gSorted, gIx, gInD, isNonD, viewI, catW, pCat, gMaxT, pFld, pSetF, pMeth, pMake, insOf, putW, noAtt, pTry, pListRev, pSlL, pSlT, pIsi2, allD_nil, eqv_int, shaped_int, allD_ints, allD_map, intsOf_map]
theorem tell_ok {C : Addr} {M : Ms} {i : Nat} {rs : List Row} {n : Row} (h : M[i]? = some (.ins C [("_rows", .d (.list (rs.map rowD)))])) (hr : ∀ r ∈ rs, r.ok) (hl : rs.length ≤ 1000) (hn : n.ok) (hne : n.a ≠ n.b) (d1 : 0 ≤ n.d) (d2 : n.d ≤ 100000) (p1 : 1 ≤ n.p) (p2 : n.p ≤ 1000000) (q1 : 1 ≤ n.q) (q2 : n.q ≤ 1000000) :
    f0_Rates_tell C [.r i, .d (.int n.d), .d (.str n.a), .d (.str n.b), .d (.tuple [.int n.p, .int n.q])] M = .ok (.d .none) (M.set i (.ins C [("_rows", .d (.list ((sortR ((rs.filter fun r => !keyIs n.a n.b n.d r) ++ [n])).map rowD)))])) := by
  obtain ⟨a, b, d, p, q⟩ := n
  dsimp only at *
  rw [run_Rates_tell C rfl]
  have hi : i < M.length := (List.getElem?_eq_some_iff.mp h).1
  obtain ⟨u1, u2⟩ := hn
  dsimp only at u1 u2
  have hd : isNumberD (.int d) 0 100000 = true := by simp [isNumberD]; omega
  have hab : (a == b) = false := by simpa using hne
  have hrate : rateOk (.tuple [.int p, .int q]) = true := by simp [rateOk, isNumberD]; omega
  unfold b_Rates_tell
  show O.toR (pSeq _ _ [some (.r i), some (.d (.int d)), some (.d (.str a)), some (.d (.str b)), some (.d (.tuple [.int p, .int q])), none] M) = _
  rw [seq_nx (s' := [some (.r i), some (.d (.int d)), some (.d (.str a)), some (.d (.str b)), some (.d (.tuple [.int p, .int q])), none]) (M' := M) (by simp [q_is_number, hd, pSeq, pNext, pIf, pSet, pDrop, pRet, pRetN, pAsg, pVar, pC, pK, pCons, pNil, pTup, pLst, pDat, pMut, pOp, pB, pChain, pAndT, pOrT, pNotT, pAndV, pOrV, pNotV, pTru, pIfE, pNeg, pCall, pCallL, pCallQ, pCallG, pRaise, R.bind, R.to, R.bindN, O.toR, PR.to, truth, allD, view, viewAll, itemsL, itemsT, lenW, tagD, tagW, isTy, tyOk, scalar, R.freeze, pFor, pItL, pItT, pItS, pRng1, pRng2, qName, qNil, qCons, qTup, pSub, pNo, pSo, pYes, pBrk, pCnt, startS, clearO, gInt, gAddI, gSubI, gLtI, gLeI, gGtI, gGeI, gEqD, gNeD, gIsN, gIsB, gStr, gIsi, gLen, gAbs, gInt1, gMin2, gMax2, gSum, gMaxI, gMinI, gList, gSorted, gIx, gInD, isNonD, viewI, catW, pCat, gMaxT, pFld, pSetF, pMeth, pMake, insOf, putW, noAtt, pTry, pListRev, pSlL, pSlT, pIsi2, allD_nil, eqv_int, shaped_int, allD_ints, allD_map, intsOf_map])]
  rw [seq_nx (s' := [some (.r i), some (.d (.int d)), some (.d (.str a)), some (.d (.str b)), some (.d (.tuple [.int p, .int q])), none]) (M' := M) (by
    have s1 : ∀ {x : Str}, unit x → SeqAt.shaped (.str x) = true := fun hx => by simp [SeqAt.shaped, PyData.canLay0, PyData.depth, unit_str hx]
    have e1 : PyData.eqv (.str a) (.str b) = (a == b) := by simp [PyData.eqv]
    simp [q_is_name, name_unit u1, name_unit u2, s1 u1, s1 u2, e1, hab, pSeq, pNext, pIf, pSet, pDrop, pRet, pRetN, pAsg, pVar, pC, pK, pCons, pNil, pTup, pLst, pDat, pMut, pOp, pB, pChain, pAndT, pOrT, pNotT, pAndV, pOrV, pNotV, pTru, pIfE, pNeg, pCall, pCallL, pCallQ, pCallG, pRaise, R.bind, R.to, R.bindN, O.toR, PR.to, truth, allD, view, viewAll, itemsL, itemsT, lenW, tagD, tagW, isTy, tyOk, scalar, R.freeze, pFor, pItL, pItT, pItS, pRng1, pRng2, qName, qNil, qCons, qTup, pSub, pNo, pSo, pYes, pBrk, pCnt, startS, clearO, gInt, gAddI, gSubI, gLtI, gLeI, gGtI, gGeI, gEqD, gNeD, gIsN, gIsB, gStr, gIsi, gLen, gAbs, gInt1, gMin2, gMax2, gSum, gMaxI, gMinI, gList, gSorted, gIx, gInD, isNonD, viewI, catW, pCat, gMaxT, pFld, pSetF, pMeth, pMake, insOf, putW, noAtt, pTry, pListRev, pSlL, pSlT, pIsi2, allD_nil, eqv_int, shaped_int, allD_ints, allD_map, intsOf_map])]
  rw [seq_nx (s' := [some (.r i), some (.d (.int d)), some (.d (.str a)), some (.d (.str b)), some (.d (.tuple [.int p, .int q])), none]) (M' := M) (by simp [q_checked_rate, hrate, pSeq, pNext, pIf, pSet, pDrop, pRet, pRetN, pAsg, pVar, pC, pK, pCons, pNil, pTup, pLst, pDat, pMut, pOp, pB, pChain, pAndT, pOrT, pNotT, pAndV, pOrV, pNotV, pTru, pIfE, pNeg, pCall, pCallL, pCallQ, pCallG, pRaise, R.bind, R.to, R.bindN, O.toR, PR.to, truth, allD, view, viewAll, itemsL, itemsT, lenW, tagD, tagW, isTy, tyOk, scalar, R.freeze, pFor, pItL, pItT, pItS, pRng1, pRng2, qName, qNil, qCons, qTup, pSub, pNo, pSo, pYes, pBrk, pCnt, startS, clearO, gInt, gAddI, gSubI, gLtI, gLeI, gGtI, gGeI, gEqD, gNeD, gIsN, gIsB, gStr, gIsi, gLen, gAbs, gInt1, gMin2, gMax2, gSum, gMaxI, gMinI, gList, gSorted, gIx, gInD, isNonD, viewI, catW, pCat, gMaxT, pFld, pSetF, pMeth, pMake, insOf, putW, noAtt, pTry, pListRev, pSlL, pSlT, pIsi2, allD_nil, eqv_int, shaped_int, allD_ints, allD_map, intsOf_map])]
  have k0 := lc0_tell (x := some (.d (.tuple [.int p, .int q]))) (day := d) h hr hl u1 u2
  have dd := dat_ok k0 (allD_map _)
  rw [seq_nx (s' := [some (.r i), some (.d (.int d)), some (.d (.str a)), some (.d (.str b)), some (.d (.tuple [.int p, .int q])), none]) (M' := M.set i (.ins C [("_rows", .d (.list ((rs.filter fun r => !keyIs a b d r).map rowD)))])) (by
    unfold pSetF
    rw [dd]
    simp [pVar, R.to, insOf, putW, h])]
  have h2 : (M.set i (.ins C [("_rows", .d (.list ((rs.filter fun r => !keyIs a b d r).map rowD)))]))[i]? = some (.ins C [("_rows", .d (.list ((rs.filter fun r => !keyIs a b d r).map rowD)))]) := List.getElem?_set_self hi
  have fl := fld_ok (s := [some (.r i), some (.d (.int d)), some (.d (.str a)), some (.d (.str b)), some (.d (.tuple [.int p, .int q])), none]) (j := 0) h2 rfl
  generalize hM2 : M.set i (.ins C [("_rows", .d (.list ((rs.filter fun r => !keyIs a b d r).map rowD)))]) = M2 at *
  have hfl : (rs.filter fun r => !keyIs a b d r).length ≤ 1000 := Nat.le_trans (List.length_filter_le _ _) hl
  have z4 : 4 ≤ sizeLine := by decide
  have z1 : 1 ≤ sizeLine := by decide
  have new : pDat (pLst (pCons (pTup (pCons (pVar 2) (pCons (pVar 3) (pCons (pVar 1) (pCons (pVar 4) pNil))))) pNil)) [some (.r i), some (.d (.int d)), some (.d (.str a)), some (.d (.str b)), some (.d (.tuple [.int p, .int q])), none] M2 = .ok (.d (.list [rowD ⟨a, b, d, p, q⟩])) M2 := by
    simp [rowD, z4, z1, pSeq, pNext, pIf, pSet, pDrop, pRet, pRetN, pAsg, pVar, pC, pK, pCons, pNil, pTup, pLst, pDat, pMut, pOp, pB, pChain, pAndT, pOrT, pNotT, pAndV, pOrV, pNotV, pTru, pIfE, pNeg, pCall, pCallL, pCallQ, pCallG, pRaise, R.bind, R.to, R.bindN, O.toR, PR.to, truth, allD, view, viewAll, itemsL, itemsT, lenW, tagD, tagW, isTy, tyOk, scalar, R.freeze, pFor, pItL, pItT, pItS, pRng1, pRng2, qName, qNil, qCons, qTup, pSub, pNo, pSo, pYes, pBrk, pCnt, startS, clearO, gInt, gAddI, gSubI, gLtI, gLeI, gGtI, gGeI, gEqD, gNeD, gIsN, gIsB, gStr, gIsi, gLen, gAbs, gInt1, gMin2, gMax2, gSum, gMaxI, gMinI, gList, gSorted, gIx, gInD, isNonD, viewI, catW, pCat, gMaxT, pFld, pSetF, pMeth, pMake, insOf, putW, noAtt, pTry, pListRev, pSlL, pSlT, pIsi2, allD_nil, eqv_int, shaped_int, allD_ints, allD_map, intsOf_map]
  have cat : pDat (pCat (pFld C "_rows" (pVar 0)) (pDat (pLst (pCons (pTup (pCons (pVar 2) (pCons (pVar 3) (pCons (pVar 1) (pCons (pVar 4) pNil))))) pNil)))) [some (.r i), some (.d (.int d)), some (.d (.str a)), some (.d (.str b)), some (.d (.tuple [.int p, .int q])), none] M2 = .ok (.d (.list (((rs.filter fun r => !keyIs a b d r) ++ [(⟨a, b, d, p, q⟩ : Row)]).map rowD))) M2 := by
    refine dat_ok (ws := (((rs.filter fun r => !keyIs a b d r) ++ [(⟨a, b, d, p, q⟩ : Row)]).map rowD).map W.d) ?_ (allD_map _)
    unfold pCat
    rw [fl]
    simp only [R.bind]
    rw [new]
    simp only [R.bind, catW, itemsL]
    rw [if_pos (by
      simp only [List.length_map, List.length_cons, List.length_nil]
      exact Nat.le_trans (Nat.add_le_add_right hfl 1) (by decide))]
    simp
  have srt : pDat (pCallL gSorted (pCons (pDat (pCat (pFld C "_rows" (pVar 0)) (pDat (pLst (pCons (pTup (pCons (pVar 2) (pCons (pVar 3) (pCons (pVar 1) (pCons (pVar 4) pNil))))) pNil))))) pNil)) [some (.r i), some (.d (.int d)), some (.d (.str a)), some (.d (.str b)), some (.d (.tuple [.int p, .int q])), none] M2 = .ok (.d (.list ((sortR ((rs.filter fun r => !keyIs a b d r) ++ [(⟨a, b, d, p, q⟩ : Row)])).map rowD))) M2 := by
    refine dat_ok (ws := ((sortR ((rs.filter fun r => !keyIs a b d r) ++ [(⟨a, b, d, p, q⟩ : Row)])).map rowD).map W.d) ?_ (allD_map _)
    rw [callL1 cat]
    simp only [gSorted, view, sortable_rows, if_true, sortR_map]
  unfold pSetF
  rw [srt]
  subst hM2
  simp [pVar, R.to, insOf, putW, h2, O.toR]
abbrev f_Rates_tell (C_Rates : Addr) : PF := f0_Rates_tell C_Rates
abbrev N_Rates_rate : List Str := ["self", "one", "other", "day", "told", "rows", "row"]
def lc0_Rates_rate (C_Rates : Addr) : PAx :=
  pLc (pItL (pVar 4)) (qName 6) (pB (pOp gEqD (pSlT (pVar 6) (pNo) (pSo (pC (.int 2)))) (pTup (pCons (pVar 2) (pCons (pVar 1) (pNil)))))) (pTup (pCons (pOp gIx (pVar 6) (pC (.int 2))) (pCons (pC (.int 0)) (pCons (pTup (pCons (pOp gIx (pOp gIx (pVar 6) (pC (.int 3))) (pC (.int 1))) (pCons (pOp gIx (pOp gIx (pVar 6) (pC (.int 3))) (pC (.int 0))) (pNil)))) (pNil))))) [6]
def lc1_Rates_rate (C_Rates : Addr) : PAx :=
  pLc (pItL (pVar 4)) (qName 6) (pB (pOp gEqD (pSlT (pVar 6) (pNo) (pSo (pC (.int 2)))) (pTup (pCons (pVar 1) (pCons (pVar 2) (pNil)))))) (pTup (pCons (pOp gIx (pVar 6) (pC (.int 2))) (pCons (pC (.int 1)) (pCons (pOp gIx (pVar 6) (pC (.int 3))) (pNil))))) [6]
def lc2_Rates_rate (C_Rates : Addr) : PAx :=
  pLc (pItL (pFld C_Rates "_rows" (pVar 0))) (qName 6) (pB (pOp gLeI (pOp gIx (pVar 6) (pC (.int 2))) (pVar 3))) (pVar 6) [6]
def b_Rates_rate (C_Rates : Addr) : PSx :=
  pSeq (pIf (pB (pOp gEqD (pVar 1) (pVar 2))) (pRet (pTup (pCons (pC (.int 1)) (pCons (pC (.int 1)) (pNil))))) (pNext))
  (pSeq (pSet 4 (pDat ((lc2_Rates_rate C_Rates))))
  (pSeq (pSet 5 (pDat ((lc1_Rates_rate C_Rates))))
  (pSeq (pSet 5 (pDat (pCat (pVar 5) (pDat ((lc0_Rates_rate C_Rates))))))
  (pRet (pIfE (pTru (pVar 5)) (pOp gIx (pCall gMaxT (pCons (pVar 5) (pNil))) (pC (.int 2))) (pC .none))))))
def f0_Rates_rate (C_Rates : Addr) : PF := runG N_Rates_rate.length (["self", "one", "other", "day"] : List Str).length (b_Rates_rate C_Rates)
theorem run_Rates_rate (C_Rates : Addr) {ws : List W} {M : Ms} (h : ws.length = 4) : f0_Rates_rate C_Rates ws M = (b_Rates_rate C_Rates (startS 7 ws) M).toR := runG_pos h
def toldR (day : Int) (rs : List Row) : List Row := rs.filter fun r => decide (r.d ≤ day)
def dirC (one other : Str) (day : Int) (rs : List Row) : List Cand := ((toldR day rs).filter fun r => r.a == one && r.b == other).map fun r => ⟨r.d, 1, r.p, r.q⟩
def revC (one other : Str) (day : Int) (rs : List Row) : List Cand := ((toldR day rs).filter fun r => r.a == other && r.b == one).map fun r => ⟨r.d, 0, r.q, r.p⟩
theorem lc2_rate {C : Addr} {M : Ms} {i : Nat} {rs : List Row} {one other : Str} {day : Int} (h : M[i]? = some (.ins C [("_rows", .d (.list (rs.map rowD)))])) (hl : rs.length ≤ 1000) :
    lc2_Rates_rate C [some (.r i), some (.d (.str one)), some (.d (.str other)), some (.d (.int day)), none, none, none] M = .ok (((toldR day rs).map rowD).map W.d) M := by
  unfold lc2_Rates_rate pLc
  have e1 : pItL (pFld C "_rows" (pVar 0)) [some (.r i), some (.d (.str one)), some (.d (.str other)), some (.d (.int day)), none, none, none] M = .ok ((rs.map rowD).map W.d) M := by
    unfold pItL
    rw [fld_ok h rfl]
    rfl
  rw [e1]
  simp only [R.bind]
  rw [if_pos (by rw [List.length_map, List.length_map]; exact Nat.le_trans hl (by decide))]
  rw [lcL_pure (fun w => match w with | .d d => (match d with | .tuple [_, _, .int d, _] => decide (d ≤ day) | _ => false) | _ => false) id, filter_rows]
  · rw [List.nil_append, List.map_id]
    rfl
  · intro w hw
    simp only [List.map_map, List.mem_map] at hw
    obtain ⟨r, hrm, rfl⟩ := hw
    refine ⟨[some (.r i), some (.d (.str one)), some (.d (.str other)), some (.d (.int day)), none, none, some (.d (rowD r))], by simp [qName, wipeS], ?_, fun _ => ?_⟩
    · simp [rowD, atI, ixN, pSeq, pNext, pIf, pSet, pDrop, pRet, pRetN, pAsg, pVar, pC, pK, pCons, pNil, pTup, pLst, pDat, pMut, pOp, pB, pChain, pAndT, pOrT, pNotT, pAndV, pOrV, pNotV, pTru, pIfE, pNeg, pCall, pCallL, pCallQ, pCallG, pRaise, R.bind, R.to, R.bindN, O.toR, PR.to, truth, allD, view, viewAll, itemsL, itemsT, lenW, tagD, tagW, isTy, tyOk, scalar, R.freeze, pFor, pItL, pItT, pItS, pRng1, pRng2, qName, qNil, qCons, qTup, pSub, pNo, pSo, pYes, pBrk, pCnt, startS, clearO, gInt, gAddI, gSubI, gLtI, gLeI, gGtI, gGeI, gEqD, gNeD, gIsN, gIsB, gStr, gIsi, gLen, gAbs, gInt1, gMin2, gMax2, gSum, gMaxI, gMinI, gList, gSorted, gIx, gInD, isNonD, viewI, catW, pCat, gMaxT, pFld, pSetF, pMeth, pMake, insOf, putW, noAtt, pTry, pListRev, pSlL, pSlT, pIsi2, allD_nil, eqv_int, shaped_int, allD_ints, allD_map, intsOf_map]
    · simp [pSeq, pNext, pIf, pSet, pDrop, pRet, pRetN, pAsg, pVar, pC, pK, pCons, pNil, pTup, pLst, pDat, pMut, pOp, pB, pChain, pAndT, pOrT, pNotT, pAndV, pOrV, pNotV, pTru, pIfE, pNeg, pCall, pCallL, pCallQ, pCallG, pRaise, R.bind, R.to, R.bindN, O.toR, PR.to, truth, allD, view, viewAll, itemsL, itemsT, lenW, tagD, tagW, isTy, tyOk, scalar, R.freeze, pFor, pItL, pItT, pItS, pRng1, pRng2, qName, qNil, qCons, qTup, pSub, pNo, pSo, pYes, pBrk, pCnt, startS, clearO, gInt, gAddI, gSubI, gLtI, gLeI, gGtI, gGeI, gEqD, gNeD, gIsN, gIsB, gStr, gIsi, gLen, gAbs, gInt1, gMin2, gMax2, gSum, gMaxI, gMinI, gList, gSorted, gIx, gInD, isNonD, viewI, catW, pCat, gMaxT, pFld, pSetF, pMeth, pMake, insOf, putW, noAtt, pTry, pListRev, pSlL, pSlT, pIsi2, allD_nil, eqv_int, shaped_int, allD_ints, allD_map, intsOf_map]
theorem lc1_rate {C : Addr} {M : Ms} {i : Nat} {rs : List Row} {one other : Str} {day : Int} (hr : ∀ r ∈ rs, r.ok) (hl : rs.length ≤ 1000) (u1 : unit one) (u2 : unit other) :
    lc1_Rates_rate C [some (.r i), some (.d (.str one)), some (.d (.str other)), some (.d (.int day)), some (.d (.list ((toldR day rs).map rowD))), none, none] M = .ok (((dirC one other day rs).map candD).map W.d) M := by
  unfold lc1_Rates_rate pLc
  have hl' : (toldR day rs).length ≤ 1000 := Nat.le_trans (List.length_filter_le _ _) hl
  have e1 : pItL (pVar 4) [some (.r i), some (.d (.str one)), some (.d (.str other)), some (.d (.int day)), some (.d (.list ((toldR day rs).map rowD))), none, none] M = .ok (((toldR day rs).map rowD).map W.d) M := rfl
  rw [e1]
  simp only [R.bind]
  rw [if_pos (by rw [List.length_map, List.length_map]; exact Nat.le_trans hl' (by decide))]
  rw [lcL_pure (fun w => match w with | .d d => (match d with | .tuple [.str a, .str b, _, _] => a == one && b == other | _ => false) | _ => false) (fun w => match w with | .d (.tuple [_, _, .int d, .tuple [.int p, .int q]]) => .d (candD ⟨d, 1, p, q⟩) | _ => w), filter_rows]
  · rw [List.nil_append, dirC, List.map_map, List.map_map, List.map_map, List.map_map]
    rfl
  · intro w hw
    simp only [List.map_map, List.mem_map] at hw
    obtain ⟨r, hrm, rfl⟩ := hw
    obtain ⟨v1, v2⟩ := hr r (List.mem_filter.mp hrm).1
    refine ⟨[some (.r i), some (.d (.str one)), some (.d (.str other)), some (.d (.int day)), some (.d (.list ((toldR day rs).map rowD))), none, some (.d (rowD r))], by simp [qName, wipeS], ?_, fun _ => ?_⟩
    · have z2 : 2 ≤ sizeLine := by decide
      simp [rowD, eqv2, shaped2 v1 v2, shaped2 u1 u2, cutW, HT.sIx, z2, pSeq, pNext, pIf, pSet, pDrop, pRet, pRetN, pAsg, pVar, pC, pK, pCons, pNil, pTup, pLst, pDat, pMut, pOp, pB, pChain, pAndT, pOrT, pNotT, pAndV, pOrV, pNotV, pTru, pIfE, pNeg, pCall, pCallL, pCallQ, pCallG, pRaise, R.bind, R.to, R.bindN, O.toR, PR.to, truth, allD, view, viewAll, itemsL, itemsT, lenW, tagD, tagW, isTy, tyOk, scalar, R.freeze, pFor, pItL, pItT, pItS, pRng1, pRng2, qName, qNil, qCons, qTup, pSub, pNo, pSo, pYes, pBrk, pCnt, startS, clearO, gInt, gAddI, gSubI, gLtI, gLeI, gGtI, gGeI, gEqD, gNeD, gIsN, gIsB, gStr, gIsi, gLen, gAbs, gInt1, gMin2, gMax2, gSum, gMaxI, gMinI, gList, gSorted, gIx, gInD, isNonD, viewI, catW, pCat, gMaxT, pFld, pSetF, pMeth, pMake, insOf, putW, noAtt, pTry, pListRev, pSlL, pSlT, pIsi2, allD_nil, eqv_int, shaped_int, allD_ints, allD_map, intsOf_map]
    · have z3 : 3 ≤ sizeLine := by decide
      simp [rowD, candD, atI, ixN, z3, pSeq, pNext, pIf, pSet, pDrop, pRet, pRetN, pAsg, pVar, pC, pK, pCons, pNil, pTup, pLst, pDat, pMut, pOp, pB, pChain, pAndT, pOrT, pNotT, pAndV, pOrV, pNotV, pTru, pIfE, pNeg, pCall, pCallL, pCallQ, pCallG, pRaise, R.bind, R.to, R.bindN, O.toR, PR.to, truth, allD, view, viewAll, itemsL, itemsT, lenW, tagD, tagW, isTy, tyOk, scalar, R.freeze, pFor, pItL, pItT, pItS, pRng1, pRng2, qName, qNil, qCons, qTup, pSub, pNo, pSo, pYes, pBrk, pCnt, startS, clearO, gInt, gAddI, gSubI, gLtI, gLeI, gGtI, gGeI, gEqD, gNeD, gIsN, gIsB, gStr, gIsi, gLen, gAbs, gInt1, gMin2, gMax2, gSum, gMaxI, gMinI, gList, gSorted, gIx, gInD, isNonD, viewI, catW, pCat, gMaxT, pFld, pSetF, pMeth, pMake, insOf, putW, noAtt, pTry, pListRev, pSlL, pSlT, pIsi2, allD_nil, eqv_int, shaped_int, allD_ints, allD_map, intsOf_map]
theorem lc0_rate_rev {C : Addr} {M : Ms} {i : Nat} {rs : List Row} {one other : Str} {day : Int} {x : Option W} (hr : ∀ r ∈ rs, r.ok) (hl : rs.length ≤ 1000) (u1 : unit one) (u2 : unit other) :
    lc0_Rates_rate C [some (.r i), some (.d (.str one)), some (.d (.str other)), some (.d (.int day)), some (.d (.list ((toldR day rs).map rowD))), x, none] M = .ok (((revC one other day rs).map candD).map W.d) M := by
  unfold lc0_Rates_rate pLc
  have hl' : (toldR day rs).length ≤ 1000 := Nat.le_trans (List.length_filter_le _ _) hl
  have e1 : pItL (pVar 4) [some (.r i), some (.d (.str one)), some (.d (.str other)), some (.d (.int day)), some (.d (.list ((toldR day rs).map rowD))), x, none] M = .ok (((toldR day rs).map rowD).map W.d) M := rfl
  rw [e1]
  simp only [R.bind]
  rw [if_pos (by rw [List.length_map, List.length_map]; exact Nat.le_trans hl' (by decide))]
  rw [lcL_pure (fun w => match w with | .d d => (match d with | .tuple [.str a, .str b, _, _] => a == other && b == one | _ => false) | _ => false) (fun w => match w with | .d (.tuple [_, _, .int d, .tuple [.int p, .int q]]) => .d (candD ⟨d, 0, q, p⟩) | _ => w), filter_rows]
  · rw [List.nil_append, revC, List.map_map, List.map_map, List.map_map, List.map_map]
    rfl
  · intro w hw
    simp only [List.map_map, List.mem_map] at hw
    obtain ⟨r, hrm, rfl⟩ := hw
    obtain ⟨v1, v2⟩ := hr r (List.mem_filter.mp hrm).1
    refine ⟨[some (.r i), some (.d (.str one)), some (.d (.str other)), some (.d (.int day)), some (.d (.list ((toldR day rs).map rowD))), x, some (.d (rowD r))], by simp [qName, wipeS], ?_, fun _ => ?_⟩
    · have z2 : 2 ≤ sizeLine := by decide
      simp [rowD, eqv2, shaped2 v1 v2, shaped2 u2 u1, cutW, HT.sIx, z2, pSeq, pNext, pIf, pSet, pDrop, pRet, pRetN, pAsg, pVar, pC, pK, pCons, pNil, pTup, pLst, pDat, pMut, pOp, pB, pChain, pAndT, pOrT, pNotT, pAndV, pOrV, pNotV, pTru, pIfE, pNeg, pCall, pCallL, pCallQ, pCallG, pRaise, R.bind, R.to, R.bindN, O.toR, PR.to, truth, allD, view, viewAll, itemsL, itemsT, lenW, tagD, tagW, isTy, tyOk, scalar, R.freeze, pFor, pItL, pItT, pItS, pRng1, pRng2, qName, qNil, qCons, qTup, pSub, pNo, pSo, pYes, pBrk, pCnt, startS, clearO, gInt, gAddI, gSubI, gLtI, gLeI, gGtI, gGeI, gEqD, gNeD, gIsN, gIsB, gStr, gIsi, gLen, gAbs, gInt1, gMin2, gMax2, gSum, gMaxI, gMinI, gList, gSorted, gIx, gInD, isNonD, viewI, catW, pCat, gMaxT, pFld, pSetF, pMeth, pMake, insOf, putW, noAtt, pTry, pListRev, pSlL, pSlT, pIsi2, allD_nil, eqv_int, shaped_int, allD_ints, allD_map, intsOf_map]
    · have z3 : 3 ≤ sizeLine := by decide
      have z2 : 2 ≤ sizeLine := by decide
      simp [rowD, candD, atI, ixN, z3, z2, pSeq, pNext, pIf, pSet, pDrop, pRet, pRetN, pAsg, pVar, pC, pK, pCons, pNil, pTup, pLst, pDat, pMut, pOp, pB, pChain, pAndT, pOrT, pNotT, pAndV, pOrV, pNotV, pTru, pIfE, pNeg, pCall, pCallL, pCallQ, pCallG, pRaise, R.bind, R.to, R.bindN, O.toR, PR.to, truth, allD, view, viewAll, itemsL, itemsT, lenW, tagD, tagW, isTy, tyOk, scalar, R.freeze, pFor, pItL, pItT, pItS, pRng1, pRng2, qName, qNil, qCons, qTup, pSub, pNo, pSo, pYes, pBrk, pCnt, startS, clearO, gInt, gAddI, gSubI, gLtI, gLeI, gGtI, gGeI, gEqD, gNeD, gIsN, gIsB, gStr, gIsi, gLen, gAbs, gInt1, gMin2, gMax2, gSum, gMaxI, gMinI, gList, gSorted, gIx, gInD, isNonD, viewI, catW, pCat, gMaxT, pFld, pSetF, pMeth, pMake, insOf, putW, noAtt, pTry, pListRev, pSlL, pSlT, pIsi2, allD_nil, eqv_int, shaped_int, allD_ints, allD_map, intsOf_map]
/-- what rate tells: of the best told row -/
def Best (cs : List Cand) (res : PyData) : Prop := (cs = [] ∧ res = .none) ∨ ∃ c ∈ cs, res = .tuple [.int c.p, .int c.q] ∧ ∀ e ∈ cs, ¬ (c.d < e.d ∨ (c.d = e.d ∧ c.k < e.k))
theorem rate_ok {C : Addr} {M : Ms} {i : Nat} {rs : List Row} {one other : Str} {day : Int} (h : M[i]? = some (.ins C [("_rows", .d (.list (rs.map rowD)))])) (hr : ∀ r ∈ rs, r.ok) (hl : rs.length ≤ 1000) (u1 : unit one) (u2 : unit other) (hne : one ≠ other) :
    ∃ res, f0_Rates_rate C [.r i, .d (.str one), .d (.str other), .d (.int day)] M = .ok (.d res) M ∧ Best (dirC one other day rs ++ revC one other day rs) res := by
  rw [run_Rates_rate C rfl]
  unfold b_Rates_rate
  show ∃ res, O.toR (pSeq _ _ [some (.r i), some (.d (.str one)), some (.d (.str other)), some (.d (.int day)), none, none, none] M) = _ ∧ _
  have hab : (one == other) = false := by simpa using hne
  have s1 : ∀ {x : Str}, unit x → SeqAt.shaped (.str x) = true := fun hx => by simp [SeqAt.shaped, PyData.canLay0, PyData.depth, unit_str hx]
  have e1 : PyData.eqv (.str one) (.str other) = (one == other) := by simp [PyData.eqv]
  rw [seq_nx (s' := [some (.r i), some (.d (.str one)), some (.d (.str other)), some (.d (.int day)), none, none, none]) (M' := M) (by simp [s1 u1, s1 u2, e1, hab, pSeq, pNext, pIf, pSet, pDrop, pRet, pRetN, pAsg, pVar, pC, pK, pCons, pNil, pTup, pLst, pDat, pMut, pOp, pB, pChain, pAndT, pOrT, pNotT, pAndV, pOrV, pNotV, pTru, pIfE, pNeg, pCall, pCallL, pCallQ, pCallG, pRaise, R.bind, R.to, R.bindN, O.toR, PR.to, truth, allD, view, viewAll, itemsL, itemsT, lenW, tagD, tagW, isTy, tyOk, scalar, R.freeze, pFor, pItL, pItT, pItS, pRng1, pRng2, qName, qNil, qCons, qTup, pSub, pNo, pSo, pYes, pBrk, pCnt, startS, clearO, gInt, gAddI, gSubI, gLtI, gLeI, gGtI, gGeI, gEqD, gNeD, gIsN, gIsB, gStr, gIsi, gLen, gAbs, gInt1, gMin2, gMax2, gSum, gMaxI, gMinI, gList, gSorted, gIx, gInD, isNonD, viewI, catW, pCat, gMaxT, pFld, pSetF, pMeth, pMake, insOf, putW, noAtt, pTry, pListRev, pSlL, pSlT, pIsi2, allD_nil, eqv_int, shaped_int, allD_ints, allD_map, intsOf_map])]
  rw [seq_nx (s' := [some (.r i), some (.d (.str one)), some (.d (.str other)), some (.d (.int day)), some (.d (.list ((toldR day rs).map rowD))), none, none]) (M' := M) (set_ok (dat_ok (lc2_rate h hl) (allD_map _)))]
  have k1 := lc1_rate (C := C) (M := M) (i := i) (day := day) hr hl u1 u2
  have k1d := dat_ok k1 (allD_map _)
  rw [seq_nx (s' := [some (.r i), some (.d (.str one)), some (.d (.str other)), some (.d (.int day)), some (.d (.list ((toldR day rs).map rowD))), some (.d (.list ((dirC one other day rs).map candD))), none]) (M' := M) (set_ok k1d)]
  have k0 := lc0_rate_rev (C := C) (M := M) (i := i) (day := day) (x := some (.d (.list ((dirC one other day rs).map candD)))) hr hl u1 u2
  have k0d := dat_ok k0 (allD_map _)
  have lt : (toldR day rs).length ≤ 1000 := Nat.le_trans (List.length_filter_le _ _) hl
  have l1 : (dirC one other day rs).length ≤ 1000 := by
    rw [dirC, List.length_map]
    exact Nat.le_trans (List.length_filter_le _ _) lt
  have l0 : (revC one other day rs).length ≤ 1000 := by
    rw [revC, List.length_map]
    exact Nat.le_trans (List.length_filter_le _ _) lt
  have cat : pDat (pCat (pVar 5) (pDat (lc0_Rates_rate C))) [some (.r i), some (.d (.str one)), some (.d (.str other)), some (.d (.int day)), some (.d (.list ((toldR day rs).map rowD))), some (.d (.list ((dirC one other day rs).map candD))), none] M = .ok (.d (.list ((dirC one other day rs ++ revC one other day rs).map candD))) M := by
    refine dat_ok (ws := ((dirC one other day rs ++ revC one other day rs).map candD).map W.d) ?_ (allD_map _)
    unfold pCat
    rw [var_ok rfl]
    simp only [R.bind]
    rw [k0d]
    simp only [R.bind, catW, itemsL]
    rw [if_pos (by
      simp only [List.length_map]
      exact Nat.le_trans (Nat.add_le_add l1 l0) (by decide))]
    simp
  rw [seq_nx (s' := [some (.r i), some (.d (.str one)), some (.d (.str other)), some (.d (.int day)), some (.d (.list ((toldR day rs).map rowD))), some (.d (.list ((dirC one other day rs ++ revC one other day rs).map candD))), none]) (M' := M) (set_ok cat)]
  generalize dirC one other day rs ++ revC one other day rs = cs
  cases cs with
  | nil => exact ⟨.none, by simp [pSeq, pNext, pIf, pSet, pDrop, pRet, pRetN, pAsg, pVar, pC, pK, pCons, pNil, pTup, pLst, pDat, pMut, pOp, pB, pChain, pAndT, pOrT, pNotT, pAndV, pOrV, pNotV, pTru, pIfE, pNeg, pCall, pCallL, pCallQ, pCallG, pRaise, R.bind, R.to, R.bindN, O.toR, PR.to, truth, allD, view, viewAll, itemsL, itemsT, lenW, tagD, tagW, isTy, tyOk, scalar, R.freeze, pFor, pItL, pItT, pItS, pRng1, pRng2, qName, qNil, qCons, qTup, pSub, pNo, pSo, pYes, pBrk, pCnt, startS, clearO, gInt, gAddI, gSubI, gLtI, gLeI, gGtI, gGeI, gEqD, gNeD, gIsN, gIsB, gStr, gIsi, gLen, gAbs, gInt1, gMin2, gMax2, gSum, gMaxI, gMinI, gList, gSorted, gIx, gInD, isNonD, viewI, catW, pCat, gMaxT, pFld, pSetF, pMeth, pMake, insOf, putW, noAtt, pTry, pListRev, pSlL, pSlT, pIsi2, allD_nil, eqv_int, shaped_int, allD_ints, allD_map, intsOf_map], .inl ⟨rfl, rfl⟩⟩
  | cons c cs =>
    have hc : (allAlike ((c :: cs).map candD) && (((c :: cs).map candD).all fun x => !isNonD x) && decide (PyData.depthAll ((c :: cs).map candD) ≤ 60)) = true := by
      simp only [Bool.and_eq_true, decide_eq_true_eq]
      refine ⟨⟨?_, ?_⟩, ?_⟩
      · unfold allAlike
        simp only [List.all_eq_true]
        intro d hd e he
        obtain ⟨x, _, rfl⟩ := List.mem_map.mp hd
        obtain ⟨y, _, rfl⟩ := List.mem_map.mp he
        exact alike_cands x y
      · simp only [List.all_eq_true]
        intro d hd
        obtain ⟨x, _, rfl⟩ := List.mem_map.mp hd
        rfl
      · have : ∀ l : List Cand, PyData.depthAll (l.map candD) ≤ 60 := by
          intro l
          induction l with
          | nil => simp [PyData.depthAll]
          | cons x l ih =>
            rw [List.map_cons]
            simp only [PyData.depthAll, candD, PyData.depth] at ih ⊢
            omega
        exact this _
    have hmax : pCall gMaxT (pCons (pVar 5) pNil) [some (.r i), some (.d (.str one)), some (.d (.str other)), some (.d (.int day)), some (.d (.list ((toldR day rs).map rowD))), some (.d (.list ((c :: cs).map candD))), none] M = .ok (.d (PySem.W.maxD (candD c) (cs.map candD))) M := by
      rw [call1 (var_ok rfl)]
      show (if _ then _ else _) = _
      exact if_pos hc
    have hm : PySem.W.maxD (candD c) (cs.map candD) ∈ (c :: cs).map candD := max_mem (cs.map candD) (candD c)
    obtain ⟨b, hb, eb⟩ := List.mem_map.mp hm
    refine ⟨.tuple [.int b.p, .int b.q], ?_, .inr ⟨b, hb, rfl, fun e he hlt => ?_⟩⟩
    · rw [ret_ok (x := .d (.tuple [.int b.p, .int b.q])) (M' := M) (by
        unfold pIfE pTru
        rw [var_ok rfl]
        simp only [R.bind, truth, List.map_cons, List.isEmpty_cons, Bool.not_false, if_true]
        rw [op_ok (x := .d (candD b)) (y := .d (.int 2)) (M' := M) (M'' := M) (by rw [eb]; exact hmax) rfl]
        simp [candD, atI, ixN, pSeq, pNext, pIf, pSet, pDrop, pRet, pRetN, pAsg, pVar, pC, pK, pCons, pNil, pTup, pLst, pDat, pMut, pOp, pB, pChain, pAndT, pOrT, pNotT, pAndV, pOrV, pNotV, pTru, pIfE, pNeg, pCall, pCallL, pCallQ, pCallG, pRaise, R.bind, R.to, R.bindN, O.toR, PR.to, truth, allD, view, viewAll, itemsL, itemsT, lenW, tagD, tagW, isTy, tyOk, scalar, R.freeze, pFor, pItL, pItT, pItS, pRng1, pRng2, qName, qNil, qCons, qTup, pSub, pNo, pSo, pYes, pBrk, pCnt, startS, clearO, gInt, gAddI, gSubI, gLtI, gLeI, gGtI, gGeI, gEqD, gNeD, gIsN, gIsB, gStr, gIsi, gLen, gAbs, gInt1, gMin2, gMax2, gSum, gMaxI, gMinI, gList, gSorted, gIx, gInD, isNonD, viewI, catW, pCat, gMaxT, pFld, pSetF, pMeth, pMake, insOf, putW, noAtt, pTry, pListRev, pSlL, pSlT, pIsi2, allD_nil, eqv_int, shaped_int, allD_ints, allD_map, intsOf_map])]
      rfl
    · have z := cand_lt hlt
      rw [eb] at z
      have mf := max_fold (cs.map candD) (candD c)
      have : PySem.W.dataLt (PySem.W.maxD (candD c) (cs.map candD)) (candD e) = false := by
        rcases List.mem_cons.mp he with rfl | he
        · exact mf.1
        · exact mf.2 _ (List.mem_map_of_mem he)
      rw [this] at z
      cases z
abbrev f_Rates_rate (C_Rates : Addr) : PF := f0_Rates_rate C_Rates
abbrev N_Rates_rows : List Str := ["self"]
def b_Rates_rows (C_Rates : Addr) : PSx :=
  pRet (pDat (pCallL gList (pCons (pFld C_Rates "_rows" (pVar 0)) (pNil))))
def f0_Rates_rows (C_Rates : Addr) : PF := runG N_Rates_rows.length (["self"] : List Str).length (b_Rates_rows C_Rates)
theorem run_Rates_rows (C_Rates : Addr) {ws : List W} {M : Ms} (h : ws.length = 1) : f0_Rates_rows C_Rates ws M = (b_Rates_rows C_Rates (startS 1 ws) M).toR := runG_pos h
theorem rows_ok {C : Addr} {M : Ms} {i : Nat} {L : List PyData} (h : M[i]? = some (.ins C [("_rows", .d (.list L))])) : f0_Rates_rows C [.r i] M = .ok (.d (.list L)) M := by
  rw [run_Rates_rows C rfl]
  have z := fld_ok (s := [some (.r i)]) (j := 0) h rfl
  unfold b_Rates_rows
  show O.toR (pRet _ [some (.r i)] M) = _
  rw [ret_ok (x := .d (.list L)) (M' := M) (by
    refine dat_ok (ws := L.map W.d) ?_ (allD_map _)
    unfold pCallL pCons pNil
    rw [z]
    rfl)]
  rfl
abbrev f_Rates_rows (C_Rates : Addr) : PF := f0_Rates_rows C_Rates
abbrev N_Rates_copy : List Str := ["self", "found"]
def b_Rates_copy (C_Rates : Addr) : PSx :=
  pSeq (pSet 1 (pMake C_Rates ((f_Rates_init C_Rates)) [] pNil))
  (pSeq (pSetF C_Rates "_rows" (pDat (pCallL gList (pCons (pFld C_Rates "_rows" (pVar 0)) (pNil)))) (pVar 1))
  (pRet (pVar 1)))
def f0_Rates_copy (C_Rates : Addr) : PF := runG N_Rates_copy.length (["self"] : List Str).length (b_Rates_copy C_Rates)
theorem run_Rates_copy (C_Rates : Addr) {ws : List W} {M : Ms} (h : ws.length = 1) : f0_Rates_copy C_Rates ws M = (b_Rates_copy C_Rates (startS 2 ws) M).toR := runG_pos h
theorem copy_ok {C : Addr} {M : Ms} {i : Nat} {L : List PyData} (h : M[i]? = some (.ins C [("_rows", .d (.list L))])) : f0_Rates_copy C [.r i] M = .ok (.r M.length) (M ++ [.ins C [("_rows", .d (.list L))]]) := by
  rw [run_Rates_copy C rfl]
  unfold b_Rates_copy
  show O.toR (pSeq _ _ [some (.r i), none] M) = _
  have hi : i < M.length := (List.getElem?_eq_some_iff.mp h).1
  rw [seq_nx (s' := [some (.r i), some (.r M.length)]) (M' := M ++ [.ins C [("_rows", .d (.list []))]]) (set_ok make_ok)]
  have h' : (M ++ [.ins C [("_rows", .d (.list []))]])[i]? = some (.ins C [("_rows", .d (.list L))]) := by rw [List.getElem?_append_left hi]; exact h
  have z := fld_ok (s := [some (.r i), some (.r M.length)]) (j := 0) h' rfl
  have e1 : pDat (pCallL gList (pCons (pFld C "_rows" (pVar 0)) pNil)) [some (.r i), some (.r M.length)] (M ++ [.ins C [("_rows", .d (.list []))]]) = .ok (.d (.list L)) (M ++ [.ins C [("_rows", .d (.list []))]]) := by
    refine dat_ok (ws := L.map W.d) ?_ (allD_map _)
    unfold pCallL pCons pNil
    rw [z]
    rfl
  rw [seq_nx (s' := [some (.r i), some (.r M.length)]) (M' := M ++ [.ins C [("_rows", .d (.list L))]]) (by
    unfold pSetF
    rw [e1]
    simp [pVar, R.to, insOf, putW])]
  rfl
abbrev f_Rates_copy (C_Rates : Addr) : PF := f0_Rates_copy C_Rates
abbrev N__law_same : List Str := ["actual", "due", "k"]
def lp0__law_same (rec : List PyData → PR) : PSx :=
  pIf (pNotT (pTru (pCallQ rec [] (pCons (pOp gIx (pVar 0) (pVar 2)) (pCons (pOp gIx (pVar 1) (pVar 2)) (pNil)))))) (pRet (pC (.bool false))) (pNext)
def b__law_same (rec : List PyData → PR) : PSx :=
  pSeq (pIf (pB (pOp (gIsN false) (pVar 1) (pC .none))) (pRet (pOp (gIsN false) (pVar 0) (pC .none))) (pNext))
  (pSeq (pIf (pTru (pIsi2 (pVar 1) "tuple" "list")) (pSeq (pIf (pOrT (pB (pOp gNeD (pCall gIsi (pCons (pVar 1) (pCons (pK (.ty "tuple")) pNil))) (pCall gIsi (pCons (pVar 0) (pCons (pK (.ty "tuple")) pNil))))) (pB (pOp gNeD (pCall gIsi (pCons (pVar 1) (pCons (pK (.ty "list")) pNil))) (pCall gIsi (pCons (pVar 0) (pCons (pK (.ty "list")) pNil)))))) (pRet (pC (.bool false))) (pNext))
  (pSeq (pIf (pB (pOp gNeD (pCall gLen (pCons (pVar 0) (pNil))) (pCall gLen (pCons (pVar 1) (pNil))))) (pRet (pC (.bool false))) (pNext))
  (pSeq (pFor (pRng1 (pCall gLen (pCons (pVar 1) (pNil)))) (qName 2) ((lp0__law_same rec)))
  (pRet (pC (.bool true)))))) (pNext))
  (pSeq (pIf (pTru (pCall gIsi (pCons (pVar 1) (pCons (pK (.ty "bool")) pNil)))) (pRet (pAndV (pCall gIsi (pCons (pVar 0) (pCons (pK (.ty "bool")) pNil))) (pOp gEqD (pVar 0) (pVar 1)))) (pNext))
  (pSeq (pIf (pTru (pCall gIsi (pCons (pVar 1) (pCons (pK (.ty "int")) pNil)))) (pRet (pAndV (pCall gIsi (pCons (pVar 0) (pCons (pK (.ty "int")) pNil))) (pAndV (pNotV (pCall gIsi (pCons (pVar 0) (pCons (pK (.ty "bool")) pNil)))) (pOp gEqD (pVar 0) (pVar 1))))) (pNext))
  (pRet (pAndV (pCall gIsi (pCons (pVar 0) (pCons (pK (.ty "str")) pNil))) (pOp gEqD (pVar 0) (pVar 1)))))))
def f0__law_same (rec : List PyData → PR) : PF := runG N__law_same.length (["actual", "due"] : List Str).length (b__law_same rec)
theorem run__law_same (rec : List PyData → PR) {ws : List W} {M : Ms} (h : ws.length = 2) : f0__law_same rec ws M = (b__law_same rec (startS 3 ws) M).toR := runG_pos h
mutual
/-- data whose sameness the law asks, so deep -/
def sameOk : Nat → PyData → Bool
  | _, .none => true
  | _, .bool _ => true
  | _, .int _ => true
  | _, .str s => PyData.strOk s
  | 0, .list _ => false
  | 0, .tuple _ => false
  | n + 1, .list ds => decide (ds.length ≤ 1000000) && sameAll n ds
  | n + 1, .tuple ds => decide (ds.length ≤ 1000000) && sameAll n ds
  | _, .dict _ => false
def sameAll : Nat → List PyData → Bool
  | _, [] => true
  | n, d :: ds => sameOk n d && sameAll n ds
end
theorem sameAll_at : ∀ {n : Nat} {ds : List PyData}, sameAll n ds = true → ∀ (i : Nat) (h : i < ds.length), sameOk n ds[i] = true
  | _, [], _, _, h => by simp at h
  | n, d :: ds, s, i, h => by
    unfold sameAll at s
    simp only [Bool.and_eq_true] at s
    cases i with
    | zero => exact s.1
    | succ j => simpa using sameAll_at s.2 j (by simpa using h)
open Classical in
/-- the same data: yes -/
def qs (n : Nat) : List PyData → PR := fun ds => match ds with
  | [a, d] => if a = d ∧ sameOk n d = true then .ok (.bool true) else .stuck
  | _ => .stuck
def recOf : Nat → List PyData → PR
  | 0 => fun _ => .stuck
  | n + 1 => qs n
def q__law_same : List PyData → PR := qs 5
open Classical in
theorem qs_ok {n : Nat} {d : PyData} (h : sameOk n d = true) : qs n [d, d] = .ok (.bool true) := by
  show (if d = d ∧ sameOk n d = true then PR.ok (.bool true) else .stuck) = _
  rw [if_pos ⟨rfl, h⟩]
theorem same_loop {A : PyData} {xs : List PyData} {n : Nat} (hix : ∀ (i : Nat) (h : i < xs.length), gIx (.d A) (.d (.int i)) [] = .ok (.d xs[i]) []) (hs : sameAll n xs = true) : ∀ (l : List Nat) (s : Option W), (∀ i ∈ l, i < xs.length) →
    ∃ s', forL (qName 2) (lp0__law_same (qs n)) (l.map fun i : Nat => W.d (.int (0 + (i : Int)))) [some (.d A), some (.d A), s] [] = .nx [some (.d A), some (.d A), s'] []
  | [], s, _ => ⟨s, rfl⟩
  | i :: l, s, hl => by
    have hi := hl i List.mem_cons_self
    obtain ⟨s', ih⟩ := same_loop hix hs l (some (.d (.int (0 + (i : Int))))) fun j hj => hl j (List.mem_cons_of_mem _ hj)
    refine ⟨s', ?_⟩
    rw [List.map_cons, forL]
    have hg : qName 2 (.d (.int (0 + (i : Int)))) [some (.d A), some (.d A), s] [] = some [some (.d A), some (.d A), some (.d (.int (0 + (i : Int))))] := rfl
    rw [hg]
    have hx := hix i hi
    have hq := qs_ok (sameAll_at hs i hi)
    have hb : lp0__law_same (qs n) [some (.d A), some (.d A), some (.d (.int (0 + (i : Int))))] [] = .nx [some (.d A), some (.d A), some (.d (.int (0 + (i : Int))))] [] := by
      rw [Int.zero_add]
      unfold lp0__law_same
      rw [if_ff (M' := []) (by
        unfold pNotT pTru pCallQ pCons pNil pOp pVar
        simp only [List.getElem?_cons_zero, List.getElem?_cons_succ, R.bind, hx, allD, Option.map, List.append_nil, hq, PR.to, truth]
        rfl)]
      rfl
    simp only [hb]
    exact ih
theorem eqv_bool (a b : Bool) : PyData.eqv (.bool a) (.bool b) = (a == b) := by
  first
  | rfl
  | simp [PyData.eqv]
theorem shaped_bool (a : Bool) : SeqAt.shaped (.bool a) = true := by
  first
  | rfl
  | simp [SeqAt.shaped]
theorem eqv_str (a b : Str) : PyData.eqv (.str a) (.str b) = (a == b) := by
  first
  | rfl
  | simp [PyData.eqv]
theorem shaped_str {a : Str} (h : PyData.strOk a = true) : SeqAt.shaped (.str a) = true := by
  simp [SeqAt.shaped, PyData.canLay0, PyData.depth, h]
theorem pure__law_same : ∀ (n : Nat) (ds : List PyData), qs n ds ≠ .stuck → (f0__law_same (recOf n)).pure ds = qs n ds := by
  intro n ds h
  match ds, h with
  | [a, d], h =>
    have hc : a = d ∧ sameOk n d = true := by
      unfold qs at h
      simp only at h
      split at h
      · assumption
      · exact absurd rfl h
    obtain ⟨rfl, hs⟩ := hc
    rw [qs_ok hs]
    unfold PF.pure
    rw [run__law_same _ rfl]
    have e1 : (PyData.int 0 : PyData) = .int 0 := rfl
    cases a with
    | none => simp [b__law_same, pSeq, pNext, pIf, pSet, pDrop, pRet, pRetN, pAsg, pVar, pC, pK, pCons, pNil, pTup, pLst, pDat, pMut, pOp, pB, pChain, pAndT, pOrT, pNotT, pAndV, pOrV, pNotV, pTru, pIfE, pNeg, pCall, pCallL, pCallQ, pCallG, pRaise, R.bind, R.to, R.bindN, O.toR, PR.to, truth, allD, view, viewAll, itemsL, itemsT, lenW, tagD, tagW, isTy, tyOk, scalar, R.freeze, pFor, pItL, pItT, pItS, pRng1, pRng2, qName, qNil, qCons, qTup, pSub, pNo, pSo, pYes, pBrk, pCnt, startS, clearO, gInt, gAddI, gSubI, gLtI, gLeI, gGtI, gGeI, gEqD, gNeD, gIsN, gIsB, gStr, gIsi, gLen, gAbs, gInt1, gMin2, gMax2, gSum, gMaxI, gMinI, gList, gSorted, gIx, gInD, isNonD, viewI, catW, pCat, gMaxT, pFld, pSetF, pMeth, pMake, insOf, putW, noAtt, pTry, pListRev, pSlL, pSlT, pIsi2, allD_nil, eqv_int, shaped_int, allD_ints, allD_map, intsOf_map]
    | bool b => cases b <;> simp [b__law_same, eqv_bool, shaped_bool, pSeq, pNext, pIf, pSet, pDrop, pRet, pRetN, pAsg, pVar, pC, pK, pCons, pNil, pTup, pLst, pDat, pMut, pOp, pB, pChain, pAndT, pOrT, pNotT, pAndV, pOrV, pNotV, pTru, pIfE, pNeg, pCall, pCallL, pCallQ, pCallG, pRaise, R.bind, R.to, R.bindN, O.toR, PR.to, truth, allD, view, viewAll, itemsL, itemsT, lenW, tagD, tagW, isTy, tyOk, scalar, R.freeze, pFor, pItL, pItT, pItS, pRng1, pRng2, qName, qNil, qCons, qTup, pSub, pNo, pSo, pYes, pBrk, pCnt, startS, clearO, gInt, gAddI, gSubI, gLtI, gLeI, gGtI, gGeI, gEqD, gNeD, gIsN, gIsB, gStr, gIsi, gLen, gAbs, gInt1, gMin2, gMax2, gSum, gMaxI, gMinI, gList, gSorted, gIx, gInD, isNonD, viewI, catW, pCat, gMaxT, pFld, pSetF, pMeth, pMake, insOf, putW, noAtt, pTry, pListRev, pSlL, pSlT, pIsi2, allD_nil, eqv_int, shaped_int, allD_ints, allD_map, intsOf_map]
    | int i => simp [b__law_same, eqv_bool, shaped_bool, pSeq, pNext, pIf, pSet, pDrop, pRet, pRetN, pAsg, pVar, pC, pK, pCons, pNil, pTup, pLst, pDat, pMut, pOp, pB, pChain, pAndT, pOrT, pNotT, pAndV, pOrV, pNotV, pTru, pIfE, pNeg, pCall, pCallL, pCallQ, pCallG, pRaise, R.bind, R.to, R.bindN, O.toR, PR.to, truth, allD, view, viewAll, itemsL, itemsT, lenW, tagD, tagW, isTy, tyOk, scalar, R.freeze, pFor, pItL, pItT, pItS, pRng1, pRng2, qName, qNil, qCons, qTup, pSub, pNo, pSo, pYes, pBrk, pCnt, startS, clearO, gInt, gAddI, gSubI, gLtI, gLeI, gGtI, gGeI, gEqD, gNeD, gIsN, gIsB, gStr, gIsi, gLen, gAbs, gInt1, gMin2, gMax2, gSum, gMaxI, gMinI, gList, gSorted, gIx, gInD, isNonD, viewI, catW, pCat, gMaxT, pFld, pSetF, pMeth, pMake, insOf, putW, noAtt, pTry, pListRev, pSlL, pSlT, pIsi2, allD_nil, eqv_int, shaped_int, allD_ints, allD_map, intsOf_map]
    | str s =>
      have hst : PyData.strOk s = true := by cases n <;> simpa [sameOk] using hs
      simp [b__law_same, eqv_str, shaped_str hst, pSeq, pNext, pIf, pSet, pDrop, pRet, pRetN, pAsg, pVar, pC, pK, pCons, pNil, pTup, pLst, pDat, pMut, pOp, pB, pChain, pAndT, pOrT, pNotT, pAndV, pOrV, pNotV, pTru, pIfE, pNeg, pCall, pCallL, pCallQ, pCallG, pRaise, R.bind, R.to, R.bindN, O.toR, PR.to, truth, allD, view, viewAll, itemsL, itemsT, lenW, tagD, tagW, isTy, tyOk, scalar, R.freeze, pFor, pItL, pItT, pItS, pRng1, pRng2, qName, qNil, qCons, qTup, pSub, pNo, pSo, pYes, pBrk, pCnt, startS, clearO, gInt, gAddI, gSubI, gLtI, gLeI, gGtI, gGeI, gEqD, gNeD, gIsN, gIsB, gStr, gIsi, gLen, gAbs, gInt1, gMin2, gMax2, gSum, gMaxI, gMinI, gList, gSorted, gIx, gInD, isNonD, viewI, catW, pCat, gMaxT, pFld, pSetF, pMeth, pMake, insOf, putW, noAtt, pTry, pListRev, pSlL, pSlT, pIsi2, allD_nil, eqv_int, shaped_int, allD_ints, allD_map, intsOf_map]
    | dict kvs => cases n <;> simp [sameOk] at hs
    | list xs =>
      cases n with
      | zero => simp [sameOk] at hs
      | succ n =>
        simp only [sameOk, Bool.and_eq_true, decide_eq_true_eq] at hs
        obtain ⟨hl, hs⟩ := hs
        obtain ⟨s', q1⟩ := same_loop (A := .list xs) (xs := xs) (n := n) (fun i hi => by
          unfold gIx itemsL
          simp only
          rw [atI_nat, List.getElem?_map, List.getElem?_eq_getElem hi]
          rfl) hs (List.range xs.length) none (fun i hi => List.mem_range.mp hi)
        have it : pRng1 (pCall gLen (pCons (pVar 1) pNil)) [some (.d (.list xs)), some (.d (.list xs)), none] [] = .ok (rngW 0 xs.length) [] := rng1_ok (len_list rfl) hl
        unfold b__law_same
        rw [show recOf (n + 1) = qs n from rfl]
        show (O.toR (pSeq _ _ [some (.d (.list xs)), some (.d (.list xs)), none] [])).freeze = _
        rw [seq_nx (s' := [some (.d (.list xs)), some (.d (.list xs)), none]) (M' := []) (by simp [pSeq, pNext, pIf, pSet, pDrop, pRet, pRetN, pAsg, pVar, pC, pK, pCons, pNil, pTup, pLst, pDat, pMut, pOp, pB, pChain, pAndT, pOrT, pNotT, pAndV, pOrV, pNotV, pTru, pIfE, pNeg, pCall, pCallL, pCallQ, pCallG, pRaise, R.bind, R.to, R.bindN, O.toR, PR.to, truth, allD, view, viewAll, itemsL, itemsT, lenW, tagD, tagW, isTy, tyOk, scalar, R.freeze, pFor, pItL, pItT, pItS, pRng1, pRng2, qName, qNil, qCons, qTup, pSub, pNo, pSo, pYes, pBrk, pCnt, startS, clearO, gInt, gAddI, gSubI, gLtI, gLeI, gGtI, gGeI, gEqD, gNeD, gIsN, gIsB, gStr, gIsi, gLen, gAbs, gInt1, gMin2, gMax2, gSum, gMaxI, gMinI, gList, gSorted, gIx, gInD, isNonD, viewI, catW, pCat, gMaxT, pFld, pSetF, pMeth, pMake, insOf, putW, noAtt, pTry, pListRev, pSlL, pSlT, pIsi2, allD_nil, eqv_int, shaped_int, allD_ints, allD_map, intsOf_map])]
        rw [seq_rt (x := .d (.bool true)) (M' := []) (by
          rw [if_tt (M' := []) (by simp [pSeq, pNext, pIf, pSet, pDrop, pRet, pRetN, pAsg, pVar, pC, pK, pCons, pNil, pTup, pLst, pDat, pMut, pOp, pB, pChain, pAndT, pOrT, pNotT, pAndV, pOrV, pNotV, pTru, pIfE, pNeg, pCall, pCallL, pCallQ, pCallG, pRaise, R.bind, R.to, R.bindN, O.toR, PR.to, truth, allD, view, viewAll, itemsL, itemsT, lenW, tagD, tagW, isTy, tyOk, scalar, R.freeze, pFor, pItL, pItT, pItS, pRng1, pRng2, qName, qNil, qCons, qTup, pSub, pNo, pSo, pYes, pBrk, pCnt, startS, clearO, gInt, gAddI, gSubI, gLtI, gLeI, gGtI, gGeI, gEqD, gNeD, gIsN, gIsB, gStr, gIsi, gLen, gAbs, gInt1, gMin2, gMax2, gSum, gMaxI, gMinI, gList, gSorted, gIx, gInD, isNonD, viewI, catW, pCat, gMaxT, pFld, pSetF, pMeth, pMake, insOf, putW, noAtt, pTry, pListRev, pSlL, pSlT, pIsi2, allD_nil, eqv_int, shaped_int, allD_ints, allD_map, intsOf_map])]
          rw [seq_nx (s' := [some (.d (.list xs)), some (.d (.list xs)), none]) (M' := []) (by simp [eqv_bool, shaped_bool, pSeq, pNext, pIf, pSet, pDrop, pRet, pRetN, pAsg, pVar, pC, pK, pCons, pNil, pTup, pLst, pDat, pMut, pOp, pB, pChain, pAndT, pOrT, pNotT, pAndV, pOrV, pNotV, pTru, pIfE, pNeg, pCall, pCallL, pCallQ, pCallG, pRaise, R.bind, R.to, R.bindN, O.toR, PR.to, truth, allD, view, viewAll, itemsL, itemsT, lenW, tagD, tagW, isTy, tyOk, scalar, R.freeze, pFor, pItL, pItT, pItS, pRng1, pRng2, qName, qNil, qCons, qTup, pSub, pNo, pSo, pYes, pBrk, pCnt, startS, clearO, gInt, gAddI, gSubI, gLtI, gLeI, gGtI, gGeI, gEqD, gNeD, gIsN, gIsB, gStr, gIsi, gLen, gAbs, gInt1, gMin2, gMax2, gSum, gMaxI, gMinI, gList, gSorted, gIx, gInD, isNonD, viewI, catW, pCat, gMaxT, pFld, pSetF, pMeth, pMake, insOf, putW, noAtt, pTry, pListRev, pSlL, pSlT, pIsi2, allD_nil, eqv_int, shaped_int, allD_ints, allD_map, intsOf_map])]
          rw [seq_nx (s' := [some (.d (.list xs)), some (.d (.list xs)), none]) (M' := []) (by simp [eqv_bool, shaped_bool, pSeq, pNext, pIf, pSet, pDrop, pRet, pRetN, pAsg, pVar, pC, pK, pCons, pNil, pTup, pLst, pDat, pMut, pOp, pB, pChain, pAndT, pOrT, pNotT, pAndV, pOrV, pNotV, pTru, pIfE, pNeg, pCall, pCallL, pCallQ, pCallG, pRaise, R.bind, R.to, R.bindN, O.toR, PR.to, truth, allD, view, viewAll, itemsL, itemsT, lenW, tagD, tagW, isTy, tyOk, scalar, R.freeze, pFor, pItL, pItT, pItS, pRng1, pRng2, qName, qNil, qCons, qTup, pSub, pNo, pSo, pYes, pBrk, pCnt, startS, clearO, gInt, gAddI, gSubI, gLtI, gLeI, gGtI, gGeI, gEqD, gNeD, gIsN, gIsB, gStr, gIsi, gLen, gAbs, gInt1, gMin2, gMax2, gSum, gMaxI, gMinI, gList, gSorted, gIx, gInD, isNonD, viewI, catW, pCat, gMaxT, pFld, pSetF, pMeth, pMake, insOf, putW, noAtt, pTry, pListRev, pSlL, pSlT, pIsi2, allD_nil, eqv_int, shaped_int, allD_ints, allD_map, intsOf_map])]
          rw [seq_nx ((for_ok it).trans q1)]
          rfl)]
        rfl
    | tuple xs =>
      cases n with
      | zero => simp [sameOk] at hs
      | succ n =>
        simp only [sameOk, Bool.and_eq_true, decide_eq_true_eq] at hs
        obtain ⟨hl, hs⟩ := hs
        obtain ⟨s', q1⟩ := same_loop (A := .tuple xs) (xs := xs) (n := n) (fun i hi => by
          unfold gIx itemsL itemsT
          simp only
          rw [atI_nat, List.getElem?_map, List.getElem?_eq_getElem hi]
          rfl) hs (List.range xs.length) none (fun i hi => List.mem_range.mp hi)
        have it : pRng1 (pCall gLen (pCons (pVar 1) pNil)) [some (.d (.tuple xs)), some (.d (.tuple xs)), none] [] = .ok (rngW 0 xs.length) [] := rng1_ok (by
          unfold pCall pCons pVar pNil
          simp only [List.getElem?_cons_succ, List.getElem?_cons_zero, R.bind, gLen, lenW, itemsL, itemsT, List.length_map]) hl
        unfold b__law_same
        rw [show recOf (n + 1) = qs n from rfl]
        show (O.toR (pSeq _ _ [some (.d (.tuple xs)), some (.d (.tuple xs)), none] [])).freeze = _
        rw [seq_nx (s' := [some (.d (.tuple xs)), some (.d (.tuple xs)), none]) (M' := []) (by simp [pSeq, pNext, pIf, pSet, pDrop, pRet, pRetN, pAsg, pVar, pC, pK, pCons, pNil, pTup, pLst, pDat, pMut, pOp, pB, pChain, pAndT, pOrT, pNotT, pAndV, pOrV, pNotV, pTru, pIfE, pNeg, pCall, pCallL, pCallQ, pCallG, pRaise, R.bind, R.to, R.bindN, O.toR, PR.to, truth, allD, view, viewAll, itemsL, itemsT, lenW, tagD, tagW, isTy, tyOk, scalar, R.freeze, pFor, pItL, pItT, pItS, pRng1, pRng2, qName, qNil, qCons, qTup, pSub, pNo, pSo, pYes, pBrk, pCnt, startS, clearO, gInt, gAddI, gSubI, gLtI, gLeI, gGtI, gGeI, gEqD, gNeD, gIsN, gIsB, gStr, gIsi, gLen, gAbs, gInt1, gMin2, gMax2, gSum, gMaxI, gMinI, gList, gSorted, gIx, gInD, isNonD, viewI, catW, pCat, gMaxT, pFld, pSetF, pMeth, pMake, insOf, putW, noAtt, pTry, pListRev, pSlL, pSlT, pIsi2, allD_nil, eqv_int, shaped_int, allD_ints, allD_map, intsOf_map])]
        rw [seq_rt (x := .d (.bool true)) (M' := []) (by
          rw [if_tt (M' := []) (by simp [pSeq, pNext, pIf, pSet, pDrop, pRet, pRetN, pAsg, pVar, pC, pK, pCons, pNil, pTup, pLst, pDat, pMut, pOp, pB, pChain, pAndT, pOrT, pNotT, pAndV, pOrV, pNotV, pTru, pIfE, pNeg, pCall, pCallL, pCallQ, pCallG, pRaise, R.bind, R.to, R.bindN, O.toR, PR.to, truth, allD, view, viewAll, itemsL, itemsT, lenW, tagD, tagW, isTy, tyOk, scalar, R.freeze, pFor, pItL, pItT, pItS, pRng1, pRng2, qName, qNil, qCons, qTup, pSub, pNo, pSo, pYes, pBrk, pCnt, startS, clearO, gInt, gAddI, gSubI, gLtI, gLeI, gGtI, gGeI, gEqD, gNeD, gIsN, gIsB, gStr, gIsi, gLen, gAbs, gInt1, gMin2, gMax2, gSum, gMaxI, gMinI, gList, gSorted, gIx, gInD, isNonD, viewI, catW, pCat, gMaxT, pFld, pSetF, pMeth, pMake, insOf, putW, noAtt, pTry, pListRev, pSlL, pSlT, pIsi2, allD_nil, eqv_int, shaped_int, allD_ints, allD_map, intsOf_map])]
          rw [seq_nx (s' := [some (.d (.tuple xs)), some (.d (.tuple xs)), none]) (M' := []) (by simp [eqv_bool, shaped_bool, pSeq, pNext, pIf, pSet, pDrop, pRet, pRetN, pAsg, pVar, pC, pK, pCons, pNil, pTup, pLst, pDat, pMut, pOp, pB, pChain, pAndT, pOrT, pNotT, pAndV, pOrV, pNotV, pTru, pIfE, pNeg, pCall, pCallL, pCallQ, pCallG, pRaise, R.bind, R.to, R.bindN, O.toR, PR.to, truth, allD, view, viewAll, itemsL, itemsT, lenW, tagD, tagW, isTy, tyOk, scalar, R.freeze, pFor, pItL, pItT, pItS, pRng1, pRng2, qName, qNil, qCons, qTup, pSub, pNo, pSo, pYes, pBrk, pCnt, startS, clearO, gInt, gAddI, gSubI, gLtI, gLeI, gGtI, gGeI, gEqD, gNeD, gIsN, gIsB, gStr, gIsi, gLen, gAbs, gInt1, gMin2, gMax2, gSum, gMaxI, gMinI, gList, gSorted, gIx, gInD, isNonD, viewI, catW, pCat, gMaxT, pFld, pSetF, pMeth, pMake, insOf, putW, noAtt, pTry, pListRev, pSlL, pSlT, pIsi2, allD_nil, eqv_int, shaped_int, allD_ints, allD_map, intsOf_map])]
          rw [seq_nx (s' := [some (.d (.tuple xs)), some (.d (.tuple xs)), none]) (M' := []) (by simp [eqv_bool, shaped_bool, pSeq, pNext, pIf, pSet, pDrop, pRet, pRetN, pAsg, pVar, pC, pK, pCons, pNil, pTup, pLst, pDat, pMut, pOp, pB, pChain, pAndT, pOrT, pNotT, pAndV, pOrV, pNotV, pTru, pIfE, pNeg, pCall, pCallL, pCallQ, pCallG, pRaise, R.bind, R.to, R.bindN, O.toR, PR.to, truth, allD, view, viewAll, itemsL, itemsT, lenW, tagD, tagW, isTy, tyOk, scalar, R.freeze, pFor, pItL, pItT, pItS, pRng1, pRng2, qName, qNil, qCons, qTup, pSub, pNo, pSo, pYes, pBrk, pCnt, startS, clearO, gInt, gAddI, gSubI, gLtI, gLeI, gGtI, gGeI, gEqD, gNeD, gIsN, gIsB, gStr, gIsi, gLen, gAbs, gInt1, gMin2, gMax2, gSum, gMaxI, gMinI, gList, gSorted, gIx, gInD, isNonD, viewI, catW, pCat, gMaxT, pFld, pSetF, pMeth, pMake, insOf, putW, noAtt, pTry, pListRev, pSlL, pSlT, pIsi2, allD_nil, eqv_int, shaped_int, allD_ints, allD_map, intsOf_map])]
          rw [seq_nx ((for_ok it).trans q1)]
          rfl)]
        rfl
  | [], h => exact absurd rfl h
  | [_], h => exact absurd rfl h
  | _ :: _ :: _ :: _, h => exact absurd rfl h
abbrev N__law_draw : List Str := ["pool", "many", "found", "cell", "mixed"]
def b__law_draw : PSx :=
  pSeq (pIf (pB (pOp gGtI (pOp gIx (pVar 0) (pC (.int 2))) (pC (.int 0)))) (pSeq (pSet 2 (pOp gModI (pCall gInt1 (pCons (pOp gIx (pVar 0) (pC (.int 2))) (pNil))) (pVar 1)))
  (pSeq (pSub (pOp gDivI (pOp gIx (pVar 0) (pC (.int 2))) (pVar 1)) (pVar 0) (pC (.int 2)))
  (pRet (pVar 2)))) (pNext))
  (pSeq (pIf (pAndT (pB (pOp gEqD (pOp gModI (pCall gInt1 (pCons (pOp gIx (pVar 0) (pC (.int 4))) (pNil))) (pC (.int 8))) (pC (.int 0)))) (pB (pOp gLtI (pOp gIx (pVar 0) (pC (.int 1))) (pCall gLen (pCons (pOp gIx (pVar 0) (pC (.int 0))) (pNil)))))) (pSeq (pSet 3 (pCall gAbs (pCons (pOp gIx (pOp gIx (pVar 0) (pC (.int 0))) (pOp gIx (pVar 0) (pC (.int 1)))) (pNil))))
  (pSeq (pSub (pOp gAddI (pOp gIx (pVar 0) (pC (.int 1))) (pC (.int 1))) (pVar 0) (pC (.int 1)))
  (pSeq (pIf (pB (pOp gGeI (pVar 3) (pOp gPowI (pC (.int 10)) (pC (.int 18))))) (pSeq (pSub (pOp gDivI (pVar 3) (pVar 1)) (pVar 0) (pC (.int 2)))
  (pRet (pOp gModI (pCall gInt1 (pCons (pVar 3) (pNil))) (pVar 1)))) (pNext))
  (pSub (pVar 3) (pVar 0) (pC (.int 3)))))) (pNext))
  (pSeq (pSub (pOp gAddI (pOp gIx (pVar 0) (pC (.int 4))) (pC (.int 1))) (pVar 0) (pC (.int 4)))
  (pSeq (pSet 4 (pOp gModI (pCall gInt1 (pCons (pOp gAddI (pOp gAddI (pOp gMulI (pOp gIx (pVar 0) (pC (.int 3))) (pC (.int 48271))) (pOp gMulI (pOp gIx (pVar 0) (pC (.int 4))) (pC (.int 69621)))) (pC (.int 7919))) (pNil))) (pC (.int 2147483647))))
  (pSeq (pSet 4 (pOp gModI (pCall gInt1 (pCons (pOp gAddI (pOp gMulI (pVar 4) (pVar 4)) (pOp gMulI (pOp gIx (pVar 0) (pC (.int 4))) (pC (.int 40692)))) (pNil))) (pC (.int 2147483399))))
  (pRet (pOp gModI (pCall gInt1 (pCons (pVar 4) (pNil))) (pVar 1)))))))
def f0__law_draw : PF := runG N__law_draw.length (["pool", "many"] : List Str).length (b__law_draw)
theorem run__law_draw {ws : List W} {M : Ms} (h : ws.length = 2) : f0__law_draw ws M = (b__law_draw (startS 5 ws) M).toR := runG_pos h
def poolM (ns : List Int) (p1 p2 p3 p4 : Int) : MO := .lst [.d (.list (ns.map .int)), .d (.int p1), .d (.int p2), .d (.int p3), .d (.int p4)]
def PoolOk (M : Ms) : Prop := ∃ (ns : List Int) (p1 p2 p3 p4 : Int), M[0]? = some (poolM ns p1 p2 p3 p4) ∧ 0 ≤ p1
theorem draw_tail {M : Ms} {ns : List Int} {p1 p2 p3 p4 many : Int} {a b : Option W} (hM : M[0]? = some (poolM ns p1 p2 p3 p4)) (h0 : 0 < many) :
    ∃ v, (pSeq (pSub (pOp gAddI (pOp gIx (pVar 0) (pC (.int 4))) (pC (.int 1))) (pVar 0) (pC (.int 4)))
  (pSeq (pSet 4 (pOp gModI (pCall gInt1 (pCons (pOp gAddI (pOp gAddI (pOp gMulI (pOp gIx (pVar 0) (pC (.int 3))) (pC (.int 48271))) (pOp gMulI (pOp gIx (pVar 0) (pC (.int 4))) (pC (.int 69621)))) (pC (.int 7919))) (pNil))) (pC (.int 2147483647))))
  (pSeq (pSet 4 (pOp gModI (pCall gInt1 (pCons (pOp gAddI (pOp gMulI (pVar 4) (pVar 4)) (pOp gMulI (pOp gIx (pVar 0) (pC (.int 4))) (pC (.int 40692)))) (pNil))) (pC (.int 2147483399))))
  (pRet (pOp gModI (pCall gInt1 (pCons (pVar 4) (pNil))) (pVar 1)))))) [some (.r 0), some (.d (.int many)), a, b, none] M = .rt (.d (.int v)) (M.set 0 (poolM ns p1 p2 p3 (p4 + 1))) ∧ 0 ≤ v ∧ v < many := by
  have hlen : 0 < M.length := (List.getElem?_eq_some_iff.mp hM).1
  have gs : ∀ x, (M.set 0 x)[0]? = some x := fun x => List.getElem?_set_self hlen
  have m0 : 0 ≤ (p3 * 48271 + (p4 + 1) * 69621 + 7919).fmod 2147483647 := Int.fmod_nonneg_of_pos _ (by decide)
  have m1 : (p3 * 48271 + (p4 + 1) * 69621 + 7919).fmod 2147483647 < 2147483647 := Int.fmod_lt_of_pos _ (by decide)
  refine ⟨(((p3 * 48271 + (p4 + 1) * 69621 + 7919).fmod 2147483647 * (p3 * 48271 + (p4 + 1) * 69621 + 7919).fmod 2147483647 + (p4 + 1) * 40692).fmod 2147483399).fmod many, ?_, Int.fmod_nonneg_of_pos _ h0, Int.fmod_lt_of_pos _ h0⟩
  have q1 : ∀ {M' : Ms}, gMulI (.d (.int p3)) (.d (.int 48271)) M' = .ok (.d (.int (p3 * 48271))) M' := mul_ok (.inr (by decide))
  have q2 : ∀ {M' : Ms}, gMulI (.d (.int (p4 + 1))) (.d (.int 69621)) M' = .ok (.d (.int ((p4 + 1) * 69621))) M' := mul_ok (.inr (by decide))
  have q3 : ∀ {M' : Ms}, gModI (.d (.int (p3 * 48271 + (p4 + 1) * 69621 + 7919))) (.d (.int 2147483647)) M' = .ok (.d (.int ((p3 * 48271 + (p4 + 1) * 69621 + 7919).fmod 2147483647))) M' := mod_ok (by decide)
  generalize (p3 * 48271 + (p4 + 1) * 69621 + 7919).fmod 2147483647 = mx at *
  have q4 : ∀ {M' : Ms}, gMulI (.d (.int mx)) (.d (.int mx)) M' = .ok (.d (.int (mx * mx))) M' := mul_ok (.inr (by omega))
  have q5 : ∀ {M' : Ms}, gMulI (.d (.int (p4 + 1))) (.d (.int 40692)) M' = .ok (.d (.int ((p4 + 1) * 40692))) M' := mul_ok (.inr (by decide))
  have q6 : ∀ {M' : Ms}, gModI (.d (.int (mx * mx + (p4 + 1) * 40692))) (.d (.int 2147483399)) M' = .ok (.d (.int ((mx * mx + (p4 + 1) * 40692).fmod 2147483399))) M' := mod_ok (by decide)
  generalize (mx * mx + (p4 + 1) * 40692).fmod 2147483399 = my at *
  have q7 : ∀ {M' : Ms}, gModI (.d (.int my)) (.d (.int many)) M' = .ok (.d (.int (my.fmod many))) M' := mod_ok (by omega)
  unfold poolM at hM ⊢
  simp [hM, gs, q1, q2, q3, q4, q5, q6, q7, atI, ixN, pSeq, pNext, pIf, pSet, pDrop, pRet, pRetN, pAsg, pVar, pC, pK, pCons, pNil, pTup, pLst, pDat, pMut, pOp, pB, pChain, pAndT, pOrT, pNotT, pAndV, pOrV, pNotV, pTru, pIfE, pNeg, pCall, pCallL, pCallQ, pCallG, pRaise, R.bind, R.to, R.bindN, O.toR, PR.to, truth, allD, view, viewAll, itemsL, itemsT, lenW, tagD, tagW, isTy, tyOk, scalar, R.freeze, pFor, pItL, pItT, pItS, pRng1, pRng2, qName, qNil, qCons, qTup, pSub, pNo, pSo, pYes, pBrk, pCnt, startS, clearO, gInt, gAddI, gSubI, gLtI, gLeI, gGtI, gGeI, gEqD, gNeD, gIsN, gIsB, gStr, gIsi, gLen, gAbs, gInt1, gMin2, gMax2, gSum, gMaxI, gMinI, gList, gSorted, gIx, gInD, isNonD, viewI, catW, pCat, gMaxT, pFld, pSetF, pMeth, pMake, insOf, putW, noAtt, pTry, pListRev, pSlL, pSlT, pIsi2, allD_nil, eqv_int, shaped_int, allD_ints, allD_map, intsOf_map]
theorem draw_ok {M : Ms} (h : PoolOk M) {many : Int} (h0 : 0 < many) (h1 : many ≤ 1000000000) : ∃ v M', f0__law_draw [.r 0, .d (.int many)] M = .ok (.d (.int v)) M' ∧ 0 ≤ v ∧ v < many ∧ PoolOk M' ∧ M'.length = M.length ∧ ∀ i, i ≠ 0 → M'[i]? = M[i]? := by
  obtain ⟨ns, p1, p2, p3, p4, hM, hp⟩ := h
  have hlen : 0 < M.length := (List.getElem?_eq_some_iff.mp hM).1
  have gs : ∀ x, (M.set 0 x)[0]? = some x := fun x => List.getElem?_set_self hlen
  have other : ∀ x, ∀ i, i ≠ 0 → (M.set 0 x)[i]? = M[i]? := fun x i hi => List.getElem?_set_ne (Ne.symm hi)
  have hmz : many ≠ 0 := by omega
  rw [run__law_draw rfl]
  show ∃ v M', O.toR (b__law_draw [some (.r 0), some (.d (.int many)), none, none, none] M) = _ ∧ _
  by_cases c1 : 0 < p2
  · have d1 : ∀ {M' : Ms}, gModI (.d (.int p2)) (.d (.int many)) M' = .ok (.d (.int (p2.fmod many))) M' := mod_ok hmz
    have d2 : ∀ {M' : Ms}, gDivI (.d (.int p2)) (.d (.int many)) M' = .ok (.d (.int (p2.fdiv many))) M' := div_ok hmz (by omega)
    refine ⟨p2.fmod many, M.set 0 (poolM ns p1 (p2.fdiv many) p3 p4), ?_, Int.fmod_nonneg_of_pos _ h0, Int.fmod_lt_of_pos _ h0, ⟨ns, p1, _, p3, p4, gs _, hp⟩, by simp, other _⟩
    unfold poolM at hM ⊢
    unfold b__law_draw
    rw [seq_rt (x := .d (.int (p2.fmod many))) (M' := M.set 0 (.lst [.d (.list (ns.map .int)), .d (.int p1), .d (.int (p2.fdiv many)), .d (.int p3), .d (.int p4)])) (by simp [hM, gs, d1, d2, c1, atI, ixN, pSeq, pNext, pIf, pSet, pDrop, pRet, pRetN, pAsg, pVar, pC, pK, pCons, pNil, pTup, pLst, pDat, pMut, pOp, pB, pChain, pAndT, pOrT, pNotT, pAndV, pOrV, pNotV, pTru, pIfE, pNeg, pCall, pCallL, pCallQ, pCallG, pRaise, R.bind, R.to, R.bindN, O.toR, PR.to, truth, allD, view, viewAll, itemsL, itemsT, lenW, tagD, tagW, isTy, tyOk, scalar, R.freeze, pFor, pItL, pItT, pItS, pRng1, pRng2, qName, qNil, qCons, qTup, pSub, pNo, pSo, pYes, pBrk, pCnt, startS, clearO, gInt, gAddI, gSubI, gLtI, gLeI, gGtI, gGeI, gEqD, gNeD, gIsN, gIsB, gStr, gIsi, gLen, gAbs, gInt1, gMin2, gMax2, gSum, gMaxI, gMinI, gList, gSorted, gIx, gInD, isNonD, viewI, catW, pCat, gMaxT, pFld, pSetF, pMeth, pMake, insOf, putW, noAtt, pTry, pListRev, pSlL, pSlT, pIsi2, allD_nil, eqv_int, shaped_int, allD_ints, allD_map, intsOf_map])]
    rfl
  · have e8 : ∀ {M' : Ms}, gModI (.d (.int p4)) (.d (.int 8)) M' = .ok (.d (.int (p4.fmod 8))) M' := mod_ok (by decide)
    unfold b__law_draw
    rw [seq_nx (s' := [some (.r 0), some (.d (.int many)), none, none, none]) (M' := M) (by
      unfold poolM at hM
      simp [hM, c1, atI, ixN, pSeq, pNext, pIf, pSet, pDrop, pRet, pRetN, pAsg, pVar, pC, pK, pCons, pNil, pTup, pLst, pDat, pMut, pOp, pB, pChain, pAndT, pOrT, pNotT, pAndV, pOrV, pNotV, pTru, pIfE, pNeg, pCall, pCallL, pCallQ, pCallG, pRaise, R.bind, R.to, R.bindN, O.toR, PR.to, truth, allD, view, viewAll, itemsL, itemsT, lenW, tagD, tagW, isTy, tyOk, scalar, R.freeze, pFor, pItL, pItT, pItS, pRng1, pRng2, qName, qNil, qCons, qTup, pSub, pNo, pSo, pYes, pBrk, pCnt, startS, clearO, gInt, gAddI, gSubI, gLtI, gLeI, gGtI, gGeI, gEqD, gNeD, gIsN, gIsB, gStr, gIsi, gLen, gAbs, gInt1, gMin2, gMax2, gSum, gMaxI, gMinI, gList, gSorted, gIx, gInD, isNonD, viewI, catW, pCat, gMaxT, pFld, pSetF, pMeth, pMake, insOf, putW, noAtt, pTry, pListRev, pSlL, pSlT, pIsi2, allD_nil, eqv_int, shaped_int, allD_ints, allD_map, intsOf_map])]
    by_cases c2 : p4.fmod 8 = 0 ∧ p1 < ns.length
    · obtain ⟨c2, c3⟩ := c2
      have hk : p1.toNat < ns.length := by omega
      have hpe : ((p1.toNat : Nat) : Int) = p1 := by omega
      have g1 : ∀ {M' : Ms}, gIx (.d (.list (ns.map .int))) (.d (.int p1)) M' = .ok (wi (ns.getD p1.toNat 0)) M' := by
        intro M'
        have z := gIx_ints (ns := ns) (M := M') hk
        rw [hpe] at z
        exact z
      have ea : (if ns.getD p1.toNat 0 < 0 then -(ns.getD p1.toNat 0) else ns.getD p1.toNat 0) = absI (ns.getD p1.toNat 0) := rfl
      generalize hcell : absI (ns.getD p1.toNat 0) = cell at *
      have d1 : ∀ {M' : Ms}, gModI (.d (.int cell)) (.d (.int many)) M' = .ok (.d (.int (cell.fmod many))) M' := mod_ok hmz
      have d2 : ∀ {M' : Ms}, gDivI (.d (.int cell)) (.d (.int many)) M' = .ok (.d (.int (cell.fdiv many))) M' := div_ok hmz (by omega)
      have d3 : ∀ {M' : Ms}, gPowI (.d (.int 10)) (.d (.int 18)) M' = .ok (.d (.int 1000000000000000000)) M' := by
        intro M'
        have z := pow10_ok (j := 18) (M := M') (by decide)
        simpa using z
      have hcond : ∀ {M' : Ms} , M'[0]? = some (poolM ns p1 p2 p3 p4) → pAndT (pB (pOp gEqD (pOp gModI (pCall gInt1 (pCons (pOp gIx (pVar 0) (pC (.int 4))) (pNil))) (pC (.int 8))) (pC (.int 0)))) (pB (pOp gLtI (pOp gIx (pVar 0) (pC (.int 1))) (pCall gLen (pCons (pOp gIx (pVar 0) (pC (.int 0))) (pNil))))) [some (.r 0), some (.d (.int many)), none, none, none] M' = .ok true M' := by
        intro M' h
        unfold poolM at h
        simp [h, e8, c2, c3, atI, ixN, pSeq, pNext, pIf, pSet, pDrop, pRet, pRetN, pAsg, pVar, pC, pK, pCons, pNil, pTup, pLst, pDat, pMut, pOp, pB, pChain, pAndT, pOrT, pNotT, pAndV, pOrV, pNotV, pTru, pIfE, pNeg, pCall, pCallL, pCallQ, pCallG, pRaise, R.bind, R.to, R.bindN, O.toR, PR.to, truth, allD, view, viewAll, itemsL, itemsT, lenW, tagD, tagW, isTy, tyOk, scalar, R.freeze, pFor, pItL, pItT, pItS, pRng1, pRng2, qName, qNil, qCons, qTup, pSub, pNo, pSo, pYes, pBrk, pCnt, startS, clearO, gInt, gAddI, gSubI, gLtI, gLeI, gGtI, gGeI, gEqD, gNeD, gIsN, gIsB, gStr, gIsi, gLen, gAbs, gInt1, gMin2, gMax2, gSum, gMaxI, gMinI, gList, gSorted, gIx, gInD, isNonD, viewI, catW, pCat, gMaxT, pFld, pSetF, pMeth, pMake, insOf, putW, noAtt, pTry, pListRev, pSlL, pSlT, pIsi2, allD_nil, eqv_int, shaped_int, allD_ints, allD_map, intsOf_map]
      have hcell1 : pSet 3 (pCall gAbs (pCons (pOp gIx (pOp gIx (pVar 0) (pC (.int 0))) (pOp gIx (pVar 0) (pC (.int 1)))) (pNil))) [some (.r 0), some (.d (.int many)), none, none, none] M = .nx [some (.r 0), some (.d (.int many)), none, some (.d (.int cell)), none] M := by
        rw [set_ok (x := .d (.int cell)) (M' := M)]
        · rfl
        · have i0 : pOp gIx (pVar 0) (pC (.int 0)) [some (.r 0), some (.d (.int many)), none, none, none] M = .ok (.d (.list (ns.map .int))) M := by
            unfold poolM at hM
            simp [hM, atI, ixN, pSeq, pNext, pIf, pSet, pDrop, pRet, pRetN, pAsg, pVar, pC, pK, pCons, pNil, pTup, pLst, pDat, pMut, pOp, pB, pChain, pAndT, pOrT, pNotT, pAndV, pOrV, pNotV, pTru, pIfE, pNeg, pCall, pCallL, pCallQ, pCallG, pRaise, R.bind, R.to, R.bindN, O.toR, PR.to, truth, allD, view, viewAll, itemsL, itemsT, lenW, tagD, tagW, isTy, tyOk, scalar, R.freeze, pFor, pItL, pItT, pItS, pRng1, pRng2, qName, qNil, qCons, qTup, pSub, pNo, pSo, pYes, pBrk, pCnt, startS, clearO, gInt, gAddI, gSubI, gLtI, gLeI, gGtI, gGeI, gEqD, gNeD, gIsN, gIsB, gStr, gIsi, gLen, gAbs, gInt1, gMin2, gMax2, gSum, gMaxI, gMinI, gList, gSorted, gIx, gInD, isNonD, viewI, catW, pCat, gMaxT, pFld, pSetF, pMeth, pMake, insOf, putW, noAtt, pTry, pListRev, pSlL, pSlT, pIsi2, allD_nil, eqv_int, shaped_int, allD_ints, allD_map, intsOf_map]
          have i1 : pOp gIx (pVar 0) (pC (.int 1)) [some (.r 0), some (.d (.int many)), none, none, none] M = .ok (.d (.int p1)) M := by
            unfold poolM at hM
            simp [hM, atI, ixN, pSeq, pNext, pIf, pSet, pDrop, pRet, pRetN, pAsg, pVar, pC, pK, pCons, pNil, pTup, pLst, pDat, pMut, pOp, pB, pChain, pAndT, pOrT, pNotT, pAndV, pOrV, pNotV, pTru, pIfE, pNeg, pCall, pCallL, pCallQ, pCallG, pRaise, R.bind, R.to, R.bindN, O.toR, PR.to, truth, allD, view, viewAll, itemsL, itemsT, lenW, tagD, tagW, isTy, tyOk, scalar, R.freeze, pFor, pItL, pItT, pItS, pRng1, pRng2, qName, qNil, qCons, qTup, pSub, pNo, pSo, pYes, pBrk, pCnt, startS, clearO, gInt, gAddI, gSubI, gLtI, gLeI, gGtI, gGeI, gEqD, gNeD, gIsN, gIsB, gStr, gIsi, gLen, gAbs, gInt1, gMin2, gMax2, gSum, gMaxI, gMinI, gList, gSorted, gIx, gInD, isNonD, viewI, catW, pCat, gMaxT, pFld, pSetF, pMeth, pMake, insOf, putW, noAtt, pTry, pListRev, pSlL, pSlT, pIsi2, allD_nil, eqv_int, shaped_int, allD_ints, allD_map, intsOf_map]
          have i2 : pOp gIx (pOp gIx (pVar 0) (pC (.int 0))) (pOp gIx (pVar 0) (pC (.int 1))) [some (.r 0), some (.d (.int many)), none, none, none] M = .ok (wi (ns.getD p1.toNat 0)) M := by
            show ((pOp gIx (pVar 0) (pC (.int 0))) _ M).bind _ = _
            rw [i0]
            show ((pOp gIx (pVar 0) (pC (.int 1))) _ M).bind _ = _
            rw [i1]
            exact g1
          unfold pCall pCons pNil
          rw [i2]
          simp only [R.bind, wi, gAbs, ea]
      have hsub1 : pSub (pOp gAddI (pOp gIx (pVar 0) (pC (.int 1))) (pC (.int 1))) (pVar 0) (pC (.int 1)) [some (.r 0), some (.d (.int many)), none, some (.d (.int cell)), none] M = .nx [some (.r 0), some (.d (.int many)), none, some (.d (.int cell)), none] (M.set 0 (poolM ns (p1 + 1) p2 p3 p4)) := by
        unfold poolM at hM ⊢
        simp [hM, atI, ixN, pSeq, pNext, pIf, pSet, pDrop, pRet, pRetN, pAsg, pVar, pC, pK, pCons, pNil, pTup, pLst, pDat, pMut, pOp, pB, pChain, pAndT, pOrT, pNotT, pAndV, pOrV, pNotV, pTru, pIfE, pNeg, pCall, pCallL, pCallQ, pCallG, pRaise, R.bind, R.to, R.bindN, O.toR, PR.to, truth, allD, view, viewAll, itemsL, itemsT, lenW, tagD, tagW, isTy, tyOk, scalar, R.freeze, pFor, pItL, pItT, pItS, pRng1, pRng2, qName, qNil, qCons, qTup, pSub, pNo, pSo, pYes, pBrk, pCnt, startS, clearO, gInt, gAddI, gSubI, gLtI, gLeI, gGtI, gGeI, gEqD, gNeD, gIsN, gIsB, gStr, gIsi, gLen, gAbs, gInt1, gMin2, gMax2, gSum, gMaxI, gMinI, gList, gSorted, gIx, gInD, isNonD, viewI, catW, pCat, gMaxT, pFld, pSetF, pMeth, pMake, insOf, putW, noAtt, pTry, pListRev, pSlL, pSlT, pIsi2, allD_nil, eqv_int, shaped_int, allD_ints, allD_map, intsOf_map]
      by_cases c4 : 1000000000000000000 ≤ cell
      · refine ⟨cell.fmod many, M.set 0 (poolM ns (p1 + 1) (cell.fdiv many) p3 p4), ?_, Int.fmod_nonneg_of_pos _ h0, Int.fmod_lt_of_pos _ h0, ⟨ns, p1 + 1, _, p3, p4, gs _, by omega⟩, by simp, other _⟩
        rw [seq_rt (x := .d (.int (cell.fmod many))) (M' := M.set 0 (poolM ns (p1 + 1) (cell.fdiv many) p3 p4)) (by
          rw [if_tt (hcond hM), seq_nx hcell1, seq_nx hsub1]
          unfold poolM
          simp [gs, d1, d2, d3, c4, atI, ixN, pSeq, pNext, pIf, pSet, pDrop, pRet, pRetN, pAsg, pVar, pC, pK, pCons, pNil, pTup, pLst, pDat, pMut, pOp, pB, pChain, pAndT, pOrT, pNotT, pAndV, pOrV, pNotV, pTru, pIfE, pNeg, pCall, pCallL, pCallQ, pCallG, pRaise, R.bind, R.to, R.bindN, O.toR, PR.to, truth, allD, view, viewAll, itemsL, itemsT, lenW, tagD, tagW, isTy, tyOk, scalar, R.freeze, pFor, pItL, pItT, pItS, pRng1, pRng2, qName, qNil, qCons, qTup, pSub, pNo, pSo, pYes, pBrk, pCnt, startS, clearO, gInt, gAddI, gSubI, gLtI, gLeI, gGtI, gGeI, gEqD, gNeD, gIsN, gIsB, gStr, gIsi, gLen, gAbs, gInt1, gMin2, gMax2, gSum, gMaxI, gMinI, gList, gSorted, gIx, gInD, isNonD, viewI, catW, pCat, gMaxT, pFld, pSetF, pMeth, pMake, insOf, putW, noAtt, pTry, pListRev, pSlL, pSlT, pIsi2, allD_nil, eqv_int, shaped_int, allD_ints, allD_map, intsOf_map])]
        rfl
      · obtain ⟨v, t1, t2, t3⟩ := draw_tail (M := M.set 0 (poolM ns (p1 + 1) p2 cell p4)) (a := none) (b := some (.d (.int cell))) (gs _) h0
        rw [List.set_set] at t1
        refine ⟨v, M.set 0 (poolM ns (p1 + 1) p2 cell (p4 + 1)), ?_, t2, t3, ⟨ns, p1 + 1, _, _, _, gs _, by omega⟩, by simp, other _⟩
        rw [seq_nx (s' := [some (.r 0), some (.d (.int many)), none, some (.d (.int cell)), none]) (M' := M.set 0 (poolM ns (p1 + 1) p2 cell p4)) (by
          rw [if_tt (hcond hM), seq_nx hcell1, seq_nx hsub1]
          unfold poolM
          simp [gs, d3, c4, atI, ixN, pSeq, pNext, pIf, pSet, pDrop, pRet, pRetN, pAsg, pVar, pC, pK, pCons, pNil, pTup, pLst, pDat, pMut, pOp, pB, pChain, pAndT, pOrT, pNotT, pAndV, pOrV, pNotV, pTru, pIfE, pNeg, pCall, pCallL, pCallQ, pCallG, pRaise, R.bind, R.to, R.bindN, O.toR, PR.to, truth, allD, view, viewAll, itemsL, itemsT, lenW, tagD, tagW, isTy, tyOk, scalar, R.freeze, pFor, pItL, pItT, pItS, pRng1, pRng2, qName, qNil, qCons, qTup, pSub, pNo, pSo, pYes, pBrk, pCnt, startS, clearO, gInt, gAddI, gSubI, gLtI, gLeI, gGtI, gGeI, gEqD, gNeD, gIsN, gIsB, gStr, gIsi, gLen, gAbs, gInt1, gMin2, gMax2, gSum, gMaxI, gMinI, gList, gSorted, gIx, gInD, isNonD, viewI, catW, pCat, gMaxT, pFld, pSetF, pMeth, pMake, insOf, putW, noAtt, pTry, pListRev, pSlL, pSlT, pIsi2, allD_nil, eqv_int, shaped_int, allD_ints, allD_map, intsOf_map])]
        rw [t1]
        rfl
    · obtain ⟨v, t1, t2, t3⟩ := draw_tail (M := M) (a := none) (b := none) hM h0
      refine ⟨v, M.set 0 (poolM ns p1 p2 p3 (p4 + 1)), ?_, t2, t3, ⟨ns, p1, _, _, _, gs _, hp⟩, by simp, other _⟩
      rw [seq_nx (s' := [some (.r 0), some (.d (.int many)), none, none, none]) (M' := M) (by
        rw [if_ff (M' := M) (by
          unfold poolM at hM
          by_cases c3 : p4.fmod 8 = 0
          · have c5 : ¬ p1 < ns.length := fun z => c2 ⟨c3, z⟩
            simp [hM, e8, c3, c5, atI, ixN, pSeq, pNext, pIf, pSet, pDrop, pRet, pRetN, pAsg, pVar, pC, pK, pCons, pNil, pTup, pLst, pDat, pMut, pOp, pB, pChain, pAndT, pOrT, pNotT, pAndV, pOrV, pNotV, pTru, pIfE, pNeg, pCall, pCallL, pCallQ, pCallG, pRaise, R.bind, R.to, R.bindN, O.toR, PR.to, truth, allD, view, viewAll, itemsL, itemsT, lenW, tagD, tagW, isTy, tyOk, scalar, R.freeze, pFor, pItL, pItT, pItS, pRng1, pRng2, qName, qNil, qCons, qTup, pSub, pNo, pSo, pYes, pBrk, pCnt, startS, clearO, gInt, gAddI, gSubI, gLtI, gLeI, gGtI, gGeI, gEqD, gNeD, gIsN, gIsB, gStr, gIsi, gLen, gAbs, gInt1, gMin2, gMax2, gSum, gMaxI, gMinI, gList, gSorted, gIx, gInD, isNonD, viewI, catW, pCat, gMaxT, pFld, pSetF, pMeth, pMake, insOf, putW, noAtt, pTry, pListRev, pSlL, pSlT, pIsi2, allD_nil, eqv_int, shaped_int, allD_ints, allD_map, intsOf_map]
          · have c3' : (p4.fmod 8 == 0) = false := by simpa using c3
            simp [hM, e8, c3', atI, ixN, pSeq, pNext, pIf, pSet, pDrop, pRet, pRetN, pAsg, pVar, pC, pK, pCons, pNil, pTup, pLst, pDat, pMut, pOp, pB, pChain, pAndT, pOrT, pNotT, pAndV, pOrV, pNotV, pTru, pIfE, pNeg, pCall, pCallL, pCallQ, pCallG, pRaise, R.bind, R.to, R.bindN, O.toR, PR.to, truth, allD, view, viewAll, itemsL, itemsT, lenW, tagD, tagW, isTy, tyOk, scalar, R.freeze, pFor, pItL, pItT, pItS, pRng1, pRng2, qName, qNil, qCons, qTup, pSub, pNo, pSo, pYes, pBrk, pCnt, startS, clearO, gInt, gAddI, gSubI, gLtI, gLeI, gGtI, gGeI, gEqD, gNeD, gIsN, gIsB, gStr, gIsi, gLen, gAbs, gInt1, gMin2, gMax2, gSum, gMaxI, gMinI, gList, gSorted, gIx, gInD, isNonD, viewI, catW, pCat, gMaxT, pFld, pSetF, pMeth, pMake, insOf, putW, noAtt, pTry, pListRev, pSlL, pSlT, pIsi2, allD_nil, eqv_int, shaped_int, allD_ints, allD_map, intsOf_map])]
        rfl)]
      rw [t1]
      rfl
abbrev f__law_draw : PF := f0__law_draw
abbrev N__law_pick : List Str := ["pool", "rows"]
def b__law_pick : PSx :=
  pRet (pOp gIx (pVar 1) (pCallG f__law_draw [] (pCons (pVar 0) (pCons (pCall gLen (pCons (pVar 1) (pNil))) (pNil)))))
def f0__law_pick : PF := runG N__law_pick.length (["pool", "rows"] : List Str).length (b__law_pick)
theorem run__law_pick {ws : List W} {M : Ms} (h : ws.length = 2) : f0__law_pick ws M = (b__law_pick (startS 2 ws) M).toR := runG_pos h
/-- the pool has changed, nothing else -/
def Only0 (M M' : Ms) : Prop := PoolOk M' ∧ M'.length = M.length ∧ ∀ i, i ≠ 0 → M'[i]? = M[i]?
theorem draw_ok' {M : Ms} (h : PoolOk M) {many : Int} (h0 : 0 < many) (h1 : many ≤ 1000000000) : ∃ v M', f0__law_draw [.r 0, .d (.int many)] M = .ok (.d (.int v)) M' ∧ 0 ≤ v ∧ v < many ∧ Only0 M M' := by
  obtain ⟨v, M', a, b, c, d, e, f⟩ := draw_ok h h0 h1
  exact ⟨v, M', a, b, c, d, e, f⟩
theorem Only0.trans {M M1 M2 : Ms} (a : Only0 M M1) (b : Only0 M1 M2) : Only0 M M2 := ⟨b.1, b.2.1.trans a.2.1, fun i hi => (b.2.2 i hi).trans (a.2.2 i hi)⟩
theorem drawE {s : Sl} {M : Ms} {j : Nat} {pe : PEx} {many : Int} (h : PoolOk M) (hs : s[j]? = some (some (.r 0))) (hp : pe s M = .ok (.d (.int many)) M) (h0 : 0 < many) (h1 : many ≤ 1000000000) : ∃ v M', pCallG f0__law_draw [] (pCons (pVar j) (pCons pe pNil)) s M = .ok (.d (.int v)) M' ∧ 0 ≤ v ∧ v < many ∧ Only0 M M' := by
  obtain ⟨v, M', a, b⟩ := draw_ok' h h0 h1
  refine ⟨v, M', ?_, b⟩
  unfold pCallG
  rw [cons_ok (var_ok hs) (cons_ok hp nil_ok)]
  simp only [R.bind, List.map_nil, List.append_nil]
  exact a
theorem pick_data {M : Ms} {ds : List PyData} (h : PoolOk M) (h1 : 1 ≤ ds.length) (h2 : ds.length ≤ 1000000) : ∃ d M', d ∈ ds ∧ f0__law_pick [.r 0, .d (.list ds)] M = .ok (.d d) M' ∧ Only0 M M' := by
  rw [run__law_pick rfl]
  unfold b__law_pick
  show ∃ d M', _ ∧ O.toR (pRet _ [some (.r 0), some (.d (.list ds))] M) = _ ∧ _
  obtain ⟨v, M', e, v0, v1, o⟩ := drawE (s := [some (.r 0), some (.d (.list ds))]) (j := 0) (pe := pCall gLen (pCons (pVar 1) pNil)) h rfl (len_list rfl) (by omega) (by omega)
  obtain ⟨k, rfl⟩ := Int.eq_ofNat_of_zero_le v0
  have hv : k < ds.length := by omega
  refine ⟨ds[k], M', List.getElem_mem hv, ?_, o⟩
  rw [ret_ok (x := .d ds[k]) (M' := M') (by
    rw [op_ok (var_ok rfl) e]
    unfold gIx itemsL
    simp only
    rw [atI_nat, List.getElem?_map, List.getElem?_eq_getElem hv]
    rfl)]
  rfl
theorem pick_mut {M : Ms} {j : Nat} {ws : List W} (h : PoolOk M) (hj : j ≠ 0) (hM : M[j]? = some (.lst ws)) (h1 : 1 ≤ ws.length) (h2 : ws.length ≤ 1000000) : ∃ w M', w ∈ ws ∧ f0__law_pick [.r 0, .r j] M = .ok w M' ∧ Only0 M M' := by
  rw [run__law_pick rfl]
  unfold b__law_pick
  show ∃ d M', _ ∧ O.toR (pRet _ [some (.r 0), some (.r j)] M) = _ ∧ _
  obtain ⟨v, M', e, v0, v1, o⟩ := drawE (s := [some (.r 0), some (.r j)]) (j := 0) (pe := pCall gLen (pCons (pVar 1) pNil)) (many := ws.length) h rfl (by
    rw [call1 (var_ok rfl)]
    simp [gLen, lenW, itemsL, hM]) (by omega) (by omega)
  obtain ⟨k, rfl⟩ := Int.eq_ofNat_of_zero_le v0
  have hv : k < ws.length := by omega
  have hM' : M'[j]? = some (.lst ws) := (o.2.2 j hj).trans hM
  refine ⟨ws[k], M', List.getElem_mem hv, ?_, o⟩
  rw [ret_ok (x := ws[k]) (M' := M') (by
    rw [op_ok (var_ok rfl) e]
    unfold gIx itemsL
    simp only [hM']
    rw [atI_nat, List.getElem?_eq_getElem hv])]
  rfl
theorem pickE {s : Sl} {M : Ms} {j : Nat} {pe : PEx} {ds : List PyData} (h : PoolOk M) (hs : s[j]? = some (some (.r 0))) (hp : pe s M = .ok (.d (.list ds)) M) (h1 : 1 ≤ ds.length) (h2 : ds.length ≤ 1000000) : ∃ d M', d ∈ ds ∧ pCallG f0__law_pick [] (pCons (pVar j) (pCons pe pNil)) s M = .ok (.d d) M' ∧ Only0 M M' := by
  obtain ⟨d, M', a, b, c⟩ := pick_data h h1 h2
  refine ⟨d, M', a, ?_, c⟩
  unfold pCallG
  rw [cons_ok (var_ok hs) (cons_ok hp nil_ok)]
  simp only [R.bind, List.map_nil, List.append_nil]
  exact b
abbrev f__law_pick : PF := f0__law_pick
abbrev N__law_refusal : List Str := ["problem", "kinds", "found", "k"]
def b__law_refusal (c1 c2 : Addr) (b1 b2 : Bool) (a : Addr) : PSx :=
  pSeq (pSet 1 (pDat (pLst (pCons (pCall (gIsE a (.ref c1) b1) (pCons (pVar 0) (pCons (pK (.ref c1)) pNil))) (pCons (pCall (gIsE a (.ref c2) b2) (pCons (pVar 0) (pCons (pK (.ref c2)) pNil))) pNil)))))
  (pSeq (pSet 2 (pDat (pLc (pRng1 (pC (.int 2))) (qName 3) (pTru (pOp gIx (pVar 1) (pVar 3))) (pOp gIx (pDat (pLst (pCons (pC (.str "number")) (pCons (pC (.str "paper")) pNil)))) (pVar 3)) [3])))
  (pRet (pIfE (pAndT (pB (pOp gEqD (pCall gLen (pCons (pVar 2) pNil)) (pC (.int 1)))) (pTru (pCall (gIsE a (.ty "ValueError") true) (pCons (pVar 0) (pCons (pK (.ty "ValueError")) pNil))))) (pOp gIx (pVar 2) (pC (.int 0))) (pC (.str "several")))))
theorem refusal_is (c1 c2 : Addr) (b1 b2 : Bool) (a : Addr) (ws : List W) (M : Ms) (s : Str) (hb : (b1 = true ∧ b2 = false ∧ s = "number") ∨ (b1 = false ∧ b2 = true ∧ s = "paper")) : gHot s a ws M ≠ .stuck → runG N__law_refusal.length (["problem"] : List Str).length (b__law_refusal c1 c2 b1 b2 a) ws M = gHot s a ws M := by
  intro h
  match ws, h with
  | [], h => exact absurd rfl h
  | [.d _], h => exact absurd rfl h
  | [.r _], h => exact absurd rfl h
  | _ :: _ :: _, h => exact absurd (by simp [gHot]) h
  | [.k u], h =>
    have hu : u = .ref a := by
      by_cases z : u = .ref a
      · exact z
      · exact absurd (by simp [gHot, z]) h
    subst hu
    have z1 : 1 ≤ sizeLine := by decide
    have z2 : 2 ≤ sizeLine := by decide
    have i2 : -(2 ^ 62) ≤ (2 : Int) ∧ (2 : Int) < 2 ^ 62 := small62 (by decide) (by decide)
    have rg : rngW 0 2 = [W.d (.int 0), W.d (.int 1)] := by rfl
    have it : ∀ {s : Sl}, pRng1 (pC (.int 2)) s M = .ok [W.d (.int 0), W.d (.int 1)] M := fun {s} => by
      have z := rng1_okI (p := pC (.int 2)) (s := s) (M := M) (j := 2) rfl i2
      rw [z, show (2 : Int).toNat = 2 from rfl, rg]
    have rn : runG N__law_refusal.length (["problem"] : List Str).length (b__law_refusal c1 c2 b1 b2 a) [.k (.ref a)] M = (b__law_refusal c1 c2 b1 b2 a (startS 4 [.k (.ref a)]) M).toR := runG_pos rfl
    rw [rn]
    unfold b__law_refusal
    show O.toR (pSeq _ _ [some (.k (.ref a)), none, none, none] M) = _
    rw [seq_nx (s' := [some (.k (.ref a)), some (.d (.list [.bool b1, .bool b2])), none, none]) (M' := M) (by simp [gIsE, z2, pSeq, pNext, pIf, pSet, pDrop, pRet, pRetN, pAsg, pVar, pC, pK, pCons, pNil, pTup, pLst, pDat, pMut, pOp, pB, pChain, pAndT, pOrT, pNotT, pAndV, pOrV, pNotV, pTru, pIfE, pNeg, pCall, pCallL, pCallQ, pCallG, pRaise, R.bind, R.to, R.bindN, O.toR, PR.to, truth, allD, view, viewAll, itemsL, itemsT, lenW, tagD, tagW, isTy, tyOk, scalar, R.freeze, pFor, pItL, pItT, pItS, pRng1, pRng2, qName, qNil, qCons, qTup, pSub, pNo, pSo, pYes, pBrk, pCnt, startS, clearO, gInt, gAddI, gSubI, gLtI, gLeI, gGtI, gGeI, gEqD, gNeD, gIsN, gIsB, gStr, gIsi, gLen, gAbs, gInt1, gMin2, gMax2, gSum, gMaxI, gMinI, gList, gSorted, gIx, gInD, isNonD, viewI, catW, pCat, gMaxT, pFld, pSetF, pMeth, pMake, insOf, putW, noAtt, pTry, pListRev, pSlL, pSlT, pIsi2, allD_nil, eqv_int, shaped_int, allD_ints, allD_map, intsOf_map])]
    have key : ∀ x : Str, (if b1 = true then (if b2 = true then (["number", "paper"] : List Str) else ["number"]) else (if b2 = true then ["paper"] else [])) = [x] → pLc (pRng1 (pC (.int 2))) (qName 3) (pTru (pOp gIx (pVar 1) (pVar 3))) (pOp gIx (pDat (pLst (pCons (pC (.str "number")) (pCons (pC (.str "paper")) pNil)))) (pVar 3)) [3] [some (.k (.ref a)), some (.d (.list [.bool b1, .bool b2])), none, none] M = .ok [W.d (.str x)] M := fun x hx => by
      unfold pLc
      rw [it]
      cases b1 <;> cases b2 <;> simp only [if_true, if_false, Bool.false_eq_true, List.cons.injEq, and_true, reduceCtorEq, and_false] at hx
      · subst hx
        simp [wipeS, lcL, atI, ixN, z2, pSeq, pNext, pIf, pSet, pDrop, pRet, pRetN, pAsg, pVar, pC, pK, pCons, pNil, pTup, pLst, pDat, pMut, pOp, pB, pChain, pAndT, pOrT, pNotT, pAndV, pOrV, pNotV, pTru, pIfE, pNeg, pCall, pCallL, pCallQ, pCallG, pRaise, R.bind, R.to, R.bindN, O.toR, PR.to, truth, allD, view, viewAll, itemsL, itemsT, lenW, tagD, tagW, isTy, tyOk, scalar, R.freeze, pFor, pItL, pItT, pItS, pRng1, pRng2, qName, qNil, qCons, qTup, pSub, pNo, pSo, pYes, pBrk, pCnt, startS, clearO, gInt, gAddI, gSubI, gLtI, gLeI, gGtI, gGeI, gEqD, gNeD, gIsN, gIsB, gStr, gIsi, gLen, gAbs, gInt1, gMin2, gMax2, gSum, gMaxI, gMinI, gList, gSorted, gIx, gInD, isNonD, viewI, catW, pCat, gMaxT, pFld, pSetF, pMeth, pMake, insOf, putW, noAtt, pTry, pListRev, pSlL, pSlT, pIsi2, allD_nil, eqv_int, shaped_int, allD_ints, allD_map, intsOf_map]
      · subst hx
        simp [wipeS, lcL, atI, ixN, z2, pSeq, pNext, pIf, pSet, pDrop, pRet, pRetN, pAsg, pVar, pC, pK, pCons, pNil, pTup, pLst, pDat, pMut, pOp, pB, pChain, pAndT, pOrT, pNotT, pAndV, pOrV, pNotV, pTru, pIfE, pNeg, pCall, pCallL, pCallQ, pCallG, pRaise, R.bind, R.to, R.bindN, O.toR, PR.to, truth, allD, view, viewAll, itemsL, itemsT, lenW, tagD, tagW, isTy, tyOk, scalar, R.freeze, pFor, pItL, pItT, pItS, pRng1, pRng2, qName, qNil, qCons, qTup, pSub, pNo, pSo, pYes, pBrk, pCnt, startS, clearO, gInt, gAddI, gSubI, gLtI, gLeI, gGtI, gGeI, gEqD, gNeD, gIsN, gIsB, gStr, gIsi, gLen, gAbs, gInt1, gMin2, gMax2, gSum, gMaxI, gMinI, gList, gSorted, gIx, gInD, isNonD, viewI, catW, pCat, gMaxT, pFld, pSetF, pMeth, pMake, insOf, putW, noAtt, pTry, pListRev, pSlL, pSlT, pIsi2, allD_nil, eqv_int, shaped_int, allD_ints, allD_map, intsOf_map]
    have kk := key s (by rcases hb with ⟨rfl, rfl, rfl⟩ | ⟨rfl, rfl, rfl⟩ <;> rfl)
    rw [seq_nx (s' := [some (.k (.ref a)), some (.d (.list [.bool b1, .bool b2])), some (.d (.list [.str s])), none]) (M' := M) (set_ok (dat_ok kk rfl))]
    simp [gIsE, gHot, atI, ixN, eqv_int, shaped_int, pSeq, pNext, pIf, pSet, pDrop, pRet, pRetN, pAsg, pVar, pC, pK, pCons, pNil, pTup, pLst, pDat, pMut, pOp, pB, pChain, pAndT, pOrT, pNotT, pAndV, pOrV, pNotV, pTru, pIfE, pNeg, pCall, pCallL, pCallQ, pCallG, pRaise, R.bind, R.to, R.bindN, O.toR, PR.to, truth, allD, view, viewAll, itemsL, itemsT, lenW, tagD, tagW, isTy, tyOk, scalar, R.freeze, pFor, pItL, pItT, pItS, pRng1, pRng2, qName, qNil, qCons, qTup, pSub, pNo, pSo, pYes, pBrk, pCnt, startS, clearO, gInt, gAddI, gSubI, gLtI, gLeI, gGtI, gGeI, gEqD, gNeD, gIsN, gIsB, gStr, gIsi, gLen, gAbs, gInt1, gMin2, gMax2, gSum, gMaxI, gMinI, gList, gSorted, gIx, gInD, isNonD, viewI, catW, pCat, gMaxT, pFld, pSetF, pMeth, pMake, insOf, putW, noAtt, pTry, pListRev, pSlL, pSlT, pIsi2, allD_nil, eqv_int, shaped_int, allD_ints, allD_map, intsOf_map]
abbrev N__law_good : List Str := ["amount", "weights", "told", "every", "off", "one", "at"]
def lc0__law_good : PAx :=
  pLc (pRng1 (pCall gLen (pCons (pVar 2) (pNil)))) (qName 6) (pYes) (pOp gSubI (pOp gMulI (pOp gIx (pVar 2) (pVar 6)) (pVar 3)) (pOp gMulI (pVar 0) (pOp gIx (pVar 1) (pVar 6)))) [6]
def lc1__law_good : PAx :=
  pLc (pItL (pVar 2)) (qName 5) (pTru (pCall gIsi (pCons (pVar 5) (pCons (pK (.ty "bool")) pNil)))) (pVar 5) [5]
def b__law_good : PSx :=
  pSeq (pSet 3 (pCall gSum (pCons (pVar 1) (pNil))))
  (pSeq (pIf (pOrT (pB (pOp gNeD (pCall gLen (pCons (pVar 2) (pNil))) (pCall gLen (pCons (pVar 1) (pNil))))) (pOrT (pB (pOp gGtI (pCall gLen (pCons (pDat (lc1__law_good)) (pNil))) (pC (.int 0)))) (pB (pOp gNeD (pCall gSum (pCons (pVar 2) (pNil))) (pVar 0))))) (pRet (pC (.bool false))) (pNext))
  (pSeq (pSet 4 (pDat (lc0__law_good)))
  (pRet (pAndV (pOp gLtI (pCall gMaxI (pCons (pVar 4) (pNil))) (pVar 3)) (pAndV (pOp gGtI (pCall gMinI (pCons (pVar 4) (pNil))) (pOp gSubI (pC (.int 0)) (pVar 3))) (pOp gLeI (pOp gSubI (pCall gMaxI (pCons (pVar 4) (pNil))) (pCall gMinI (pCons (pVar 4) (pNil)))) (pVar 3)))))))
def f0__law_good : PF := runG N__law_good.length (["amount", "weights", "told"] : List Str).length (b__law_good)
theorem run__law_good {ws : List W} {M : Ms} (h : ws.length = 3) : f0__law_good ws M = (b__law_good (startS 7 ws) M).toR := runG_pos h
theorem lc1_good {n : Int} {ns ms : List Int} (hl : ms.length ≤ 1000000) : lc1__law_good [some (.d (.int n)), some (.d (.list (ns.map .int))), some (.d (.list (ms.map .int))), some (.d (.int ns.sum)), none, none, none] [] = .ok [] [] := by
  unfold lc1__law_good pLc
  simp only [pItL, pVar, R.bind, List.getElem?_cons_zero, List.getElem?_cons_succ]
  rw [if_pos (by rw [List.length_map, List.length_map]; exact Nat.le_trans hl (by decide))]
  rw [lcL_pure (fun _ => false) id]
  · have e : ((ms.map PyData.int).map W.d).filter (fun _ => false) = [] := List.filter_eq_nil_iff.mpr fun _ _ => by simp
    rw [e]
    rfl
  · intro x hx
    simp only [List.map_map, List.mem_map] at hx
    obtain ⟨z, _, rfl⟩ := hx
    refine ⟨[some (.d (.int n)), some (.d (.list (ns.map .int))), some (.d (.list (ms.map .int))), some (.d (.int ns.sum)), none, some (.d (.int z)), none], by simp [qName, wipeS], ?_, fun h => by cases h⟩
    simp [pSeq, pNext, pIf, pSet, pDrop, pRet, pRetN, pAsg, pVar, pC, pK, pCons, pNil, pTup, pLst, pDat, pMut, pOp, pB, pChain, pAndT, pOrT, pNotT, pAndV, pOrV, pNotV, pTru, pIfE, pNeg, pCall, pCallL, pCallQ, pCallG, pRaise, R.bind, R.to, R.bindN, O.toR, PR.to, truth, allD, view, viewAll, itemsL, itemsT, lenW, tagD, tagW, isTy, tyOk, scalar, R.freeze, pFor, pItL, pItT, pItS, pRng1, pRng2, qName, qNil, qCons, qTup, pSub, pNo, pSo, pYes, pBrk, pCnt, startS, clearO, gInt, gAddI, gSubI, gLtI, gLeI, gGtI, gGeI, gEqD, gNeD, gIsN, gIsB, gStr, gIsi, gLen, gAbs, gInt1, gMin2, gMax2, gSum, gMaxI, gMinI, gList, gSorted, gIx, gInD, isNonD, viewI, catW, pCat, gMaxT, pFld, pSetF, pMeth, pMake, insOf, putW, noAtt, pTry, pListRev, pSlL, pSlT, pIsi2, allD_nil, eqv_int, shaped_int, allD_ints, allD_map, intsOf_map]
theorem lc0_good {n : Int} {ns ms : List Int} (n1 : 0 ≤ n) (n2 : n ≤ 1000000000) (hl : ns.length ≤ 100) (hm : ms.length = ns.length) (hs : 0 ≤ ns.sum ∧ ns.sum ≤ 100000000) : lc0__law_good [some (.d (.int n)), some (.d (.list (ns.map .int))), some (.d (.list (ms.map .int))), some (.d (.int ns.sum)), none, none, none] [] = .ok ((offL n ns ms).map wi) [] := by
  unfold lc0__law_good pLc
  have e1 := rng1_ok (p := pCall gLen (pCons (pVar 2) pNil)) (s := [some (.d (.int n)), some (.d (.list (ns.map .int))), some (.d (.list (ms.map .int))), some (.d (.int ns.sum)), none, none, none]) (M := []) (n := ns.length) (by rw [len_list rfl, List.length_map, hm]) (by omega)
  rw [e1]
  simp only [R.bind]
  rw [if_pos (by rw [rngW, List.length_map, List.length_range]; exact Nat.le_trans hl (by decide))]
  rw [lcL_all (fun x => match x with | .d (.int i) => wi (ms.getD i.toNat 0 * ns.sum - n * ns.getD i.toNat 0) | _ => x)]
  · rw [List.nil_append, offL, rngW, List.map_map, List.map_map]
    refine congrArg (fun l => R.ok l []) (List.map_congr_left fun i _ => ?_)
    show wi (ms.getD (0 + (i : Int)).toNat 0 * ns.sum - n * ns.getD (0 + (i : Int)).toNat 0) = wi (ms.getD i 0 * ns.sum - n * ns.getD i 0)
    rw [Int.zero_add, Int.toNat_natCast]
  · intro x hx
    unfold rngW at hx
    obtain ⟨k, hk, rfl⟩ := List.mem_map.mp hx
    have hk' : k < ns.length := List.mem_range.mp hk
    refine ⟨[some (.d (.int n)), some (.d (.list (ns.map .int))), some (.d (.list (ms.map .int))), some (.d (.int ns.sum)), none, none, some (.d (.int (0 + (k : Int))))], by simp [qName, wipeS], ?_⟩
    rw [Int.zero_add]
    have h0 := gIx_ints (M := []) hk'
    have h0' := gIx_ints (ns := ms) (M := []) (i := k) (by omega)
    have h1 := mul_ok (i := n) (j := ns.getD k 0) (M := []) (.inl (by omega))
    have h2 := mul_ok (i := ms.getD k 0) (j := ns.sum) (M := []) (.inr (by omega))
    unfold wi at h0 h0'
    simp only [pOp, pVar, List.getElem?_cons_zero, List.getElem?_cons_succ, R.bind, h0, h0', h1, h2]
    rfl
def q__law_good : List PyData → PR := fun ds => match ds with
  | [.int n, .list ws, .list ts] => (match intsOf ws, intsOf ts with
    | some ns, some ms => if wOk ws = true ∧ 0 ≤ n ∧ n ≤ 1000000000 ∧ ms.length ≤ 1000000 then .ok (.bool (goodB n ns ms)) else .stuck
    | _, _ => .stuck)
  | _ => .stuck
theorem pure__law_good : ∀ ds, q__law_good ds ≠ .stuck → f0__law_good.pure ds = q__law_good ds := by
  intro ds h
  unfold q__law_good at h
  split at h
  · rename_i n ws ts
    split at h
    · rename_i ns ms ens ems
      obtain rfl := intsOf_is ens
      obtain rfl := intsOf_is ems
      split at h
      · rename_i hc
        obtain ⟨h1, n1, n2, hms⟩ := id hc
        obtain ⟨ns', e', l1, l2, hn, hz⟩ := wOk_ints h1
        have e2 : ns' = ns := by
          have z := congrArg intsOf e'
          rw [intsOf_map, intsOf_map] at z
          exact (Option.some.inj z).symm
        subst e2
        have es : q__law_good [.int n, .list (ns'.map .int), .list (ms.map .int)] = .ok (.bool (goodB n ns' ms)) := by
          unfold q__law_good
          simp only [intsOf_map]
          rw [if_pos hc]
        rw [es]
        have hs := sum_small hn
        have hs' : 0 ≤ ns'.sum ∧ ns'.sum ≤ 100000000 := by omega
        unfold PF.pure
        rw [run__law_good rfl]
        unfold b__law_good
        rw [seq_nx (s' := [some (.d (.int n)), some (.d (.list (ns'.map .int))), some (.d (.list (ms.map .int))), some (.d (.int ns'.sum)), none, none, none]) (M' := []) (set_ok (x := .d (.int ns'.sum)) (M' := []) (by simp [pSeq, pNext, pIf, pSet, pDrop, pRet, pRetN, pAsg, pVar, pC, pK, pCons, pNil, pTup, pLst, pDat, pMut, pOp, pB, pChain, pAndT, pOrT, pNotT, pAndV, pOrV, pNotV, pTru, pIfE, pNeg, pCall, pCallL, pCallQ, pCallG, pRaise, R.bind, R.to, R.bindN, O.toR, PR.to, truth, allD, view, viewAll, itemsL, itemsT, lenW, tagD, tagW, isTy, tyOk, scalar, R.freeze, pFor, pItL, pItT, pItS, pRng1, pRng2, qName, qNil, qCons, qTup, pSub, pNo, pSo, pYes, pBrk, pCnt, startS, clearO, gInt, gAddI, gSubI, gLtI, gLeI, gGtI, gGeI, gEqD, gNeD, gIsN, gIsB, gStr, gIsi, gLen, gAbs, gInt1, gMin2, gMax2, gSum, gMaxI, gMinI, gList, gSorted, gIx, gInD, isNonD, viewI, catW, pCat, gMaxT, pFld, pSetF, pMeth, pMake, insOf, putW, noAtt, pTry, pListRev, pSlL, pSlT, pIsi2, allD_nil, eqv_int, shaped_int, allD_ints, allD_map, intsOf_map]))]
        have k1 := lc1_good (n := n) (ns := ns') hms
        have d1 : pDat lc1__law_good [some (.d (.int n)), some (.d (.list (ns'.map .int))), some (.d (.list (ms.map .int))), some (.d (.int ns'.sum)), none, none, none] [] = .ok (.d (.list [])) [] := dat_ok k1 rfl
        by_cases hl : ms.length = ns'.length
        · have hl' : ((ms.length : Int) == ns'.length) = true := by rw [hl]; simp
          by_cases hsum : ms.sum = n
          · have hsum' : (ms.sum == n) = true := by simpa using hsum
            rw [seq_nx (s' := [some (.d (.int n)), some (.d (.list (ns'.map .int))), some (.d (.list (ms.map .int))), some (.d (.int ns'.sum)), none, none, none]) (M' := []) (by simp [k1, hl', hsum', pSeq, pNext, pIf, pSet, pDrop, pRet, pRetN, pAsg, pVar, pC, pK, pCons, pNil, pTup, pLst, pDat, pMut, pOp, pB, pChain, pAndT, pOrT, pNotT, pAndV, pOrV, pNotV, pTru, pIfE, pNeg, pCall, pCallL, pCallQ, pCallG, pRaise, R.bind, R.to, R.bindN, O.toR, PR.to, truth, allD, view, viewAll, itemsL, itemsT, lenW, tagD, tagW, isTy, tyOk, scalar, R.freeze, pFor, pItL, pItT, pItS, pRng1, pRng2, qName, qNil, qCons, qTup, pSub, pNo, pSo, pYes, pBrk, pCnt, startS, clearO, gInt, gAddI, gSubI, gLtI, gLeI, gGtI, gGeI, gEqD, gNeD, gIsN, gIsB, gStr, gIsi, gLen, gAbs, gInt1, gMin2, gMax2, gSum, gMaxI, gMinI, gList, gSorted, gIx, gInD, isNonD, viewI, catW, pCat, gMaxT, pFld, pSetF, pMeth, pMake, insOf, putW, noAtt, pTry, pListRev, pSlL, pSlT, pIsi2, allD_nil, eqv_int, shaped_int, allD_ints, allD_map, intsOf_map])]
            have k0 := lc0_good (ms := ms) n1 n2 l2 hl hs'
            have d0 := dat_ok k0 (allD_wi _)
            rw [seq_nx (s' := [some (.d (.int n)), some (.d (.list (ns'.map .int))), some (.d (.list (ms.map .int))), some (.d (.int ns'.sum)), some (.d (.list ((offL n ns' ms).map .int))), none, none]) (M' := []) (set_ok d0)]
            have one : offL n ns' ms ≠ [] := offL_ne l1
            have mx : pCall gMaxI (pCons (pVar 4) pNil) [some (.d (.int n)), some (.d (.list (ns'.map .int))), some (.d (.list (ms.map .int))), some (.d (.int ns'.sum)), some (.d (.list ((offL n ns' ms).map .int))), none, none] [] = _ := maxI_ok rfl one
            have mn : pCall gMinI (pCons (pVar 4) pNil) [some (.d (.int n)), some (.d (.list (ns'.map .int))), some (.d (.list (ms.map .int))), some (.d (.int ns'.sum)), some (.d (.list ((offL n ns' ms).map .int))), none, none] [] = _ := minI_ok rfl one
            have hg : goodB n ns' ms = (decide (maxL (offL n ns' ms) < ns'.sum) && (decide (-ns'.sum < minL (offL n ns' ms)) && decide (maxL (offL n ns' ms) - minL (offL n ns' ms) ≤ ns'.sum))) := by
              unfold goodB
              simp only [hl, hsum, decide_true, Bool.true_and]
            rw [hg]
            have t1 : pOp gLtI (pCall gMaxI (pCons (pVar 4) pNil)) (pVar 3) [some (.d (.int n)), some (.d (.list (ns'.map .int))), some (.d (.list (ms.map .int))), some (.d (.int ns'.sum)), some (.d (.list ((offL n ns' ms).map .int))), none, none] [] = .ok (.d (.bool (decide (maxL (offL n ns' ms) < ns'.sum)))) [] := by
              unfold pOp
              rw [mx]
              rfl
            have t2 : pOp gGtI (pCall gMinI (pCons (pVar 4) pNil)) (pOp gSubI (pC (.int 0)) (pVar 3)) [some (.d (.int n)), some (.d (.list (ns'.map .int))), some (.d (.list (ms.map .int))), some (.d (.int ns'.sum)), some (.d (.list ((offL n ns' ms).map .int))), none, none] [] = .ok (.d (.bool (decide (-ns'.sum < minL (offL n ns' ms))))) [] := by
              unfold pOp
              rw [mn]
              show R.ok (W.d (.bool (decide (0 - ns'.sum < minL (offL n ns' ms))))) [] = _
              rw [Int.zero_sub]
            have t3 : pOp gLeI (pOp gSubI (pCall gMaxI (pCons (pVar 4) pNil)) (pCall gMinI (pCons (pVar 4) pNil))) (pVar 3) [some (.d (.int n)), some (.d (.list (ns'.map .int))), some (.d (.list (ms.map .int))), some (.d (.int ns'.sum)), some (.d (.list ((offL n ns' ms).map .int))), none, none] [] = .ok (.d (.bool (decide (maxL (offL n ns' ms) - minL (offL n ns' ms) ≤ ns'.sum)))) [] := by
              unfold pOp
              rw [mx]
              simp only [R.bind]
              rw [mn]
              rfl
            rw [ret_ok (x := .d (.bool (decide (maxL (offL n ns' ms) < ns'.sum) && (decide (-ns'.sum < minL (offL n ns' ms)) && decide (maxL (offL n ns' ms) - minL (offL n ns' ms) ≤ ns'.sum))))) (M' := []) (by
              unfold pAndV
              rw [t1]
              simp only [R.bind, truth]
              cases decide (maxL (offL n ns' ms) < ns'.sum) with
              | false => rfl
              | true =>
                simp only [if_true]
                rw [t2]
                simp only [R.bind, truth]
                cases decide (-ns'.sum < minL (offL n ns' ms)) with
                | false => rfl
                | true =>
                  simp only [if_true]
                  rw [t3]
                  rfl)]
            rfl
          · have hsum' : (ms.sum == n) = false := by simpa using hsum
            have hg : goodB n ns' ms = false := by
              unfold goodB
              simp [hsum]
            rw [seq_rt (x := .d (.bool false)) (M' := []) (by simp [k1, hl', hsum', pSeq, pNext, pIf, pSet, pDrop, pRet, pRetN, pAsg, pVar, pC, pK, pCons, pNil, pTup, pLst, pDat, pMut, pOp, pB, pChain, pAndT, pOrT, pNotT, pAndV, pOrV, pNotV, pTru, pIfE, pNeg, pCall, pCallL, pCallQ, pCallG, pRaise, R.bind, R.to, R.bindN, O.toR, PR.to, truth, allD, view, viewAll, itemsL, itemsT, lenW, tagD, tagW, isTy, tyOk, scalar, R.freeze, pFor, pItL, pItT, pItS, pRng1, pRng2, qName, qNil, qCons, qTup, pSub, pNo, pSo, pYes, pBrk, pCnt, startS, clearO, gInt, gAddI, gSubI, gLtI, gLeI, gGtI, gGeI, gEqD, gNeD, gIsN, gIsB, gStr, gIsi, gLen, gAbs, gInt1, gMin2, gMax2, gSum, gMaxI, gMinI, gList, gSorted, gIx, gInD, isNonD, viewI, catW, pCat, gMaxT, pFld, pSetF, pMeth, pMake, insOf, putW, noAtt, pTry, pListRev, pSlL, pSlT, pIsi2, allD_nil, eqv_int, shaped_int, allD_ints, allD_map, intsOf_map])]
            rw [hg]
            rfl
        · have hl' : ((ms.length : Int) == ns'.length) = false := by
            rw [beq_eq_false_iff_ne]
            omega
          have hg : goodB n ns' ms = false := by
            unfold goodB
            simp [hl]
          rw [seq_rt (x := .d (.bool false)) (M' := []) (by simp [hl', pSeq, pNext, pIf, pSet, pDrop, pRet, pRetN, pAsg, pVar, pC, pK, pCons, pNil, pTup, pLst, pDat, pMut, pOp, pB, pChain, pAndT, pOrT, pNotT, pAndV, pOrV, pNotV, pTru, pIfE, pNeg, pCall, pCallL, pCallQ, pCallG, pRaise, R.bind, R.to, R.bindN, O.toR, PR.to, truth, allD, view, viewAll, itemsL, itemsT, lenW, tagD, tagW, isTy, tyOk, scalar, R.freeze, pFor, pItL, pItT, pItS, pRng1, pRng2, qName, qNil, qCons, qTup, pSub, pNo, pSo, pYes, pBrk, pCnt, startS, clearO, gInt, gAddI, gSubI, gLtI, gLeI, gGtI, gGeI, gEqD, gNeD, gIsN, gIsB, gStr, gIsi, gLen, gAbs, gInt1, gMin2, gMax2, gSum, gMaxI, gMinI, gList, gSorted, gIx, gInD, isNonD, viewI, catW, pCat, gMaxT, pFld, pSetF, pMeth, pMake, insOf, putW, noAtt, pTry, pListRev, pSlL, pSlT, pIsi2, allD_nil, eqv_int, shaped_int, allD_ints, allD_map, intsOf_map])]
          rw [hg]
          rfl
      · exact absurd rfl h
    · exact absurd rfl h
  · exact absurd rfl h
abbrev N__law_refused : List Str := ["choice", "one", "two", "three", "problem"]
def b__law_refused (C_Rates : Addr) : PSx :=
  pSeq (pTry catK 4 (pIf (pB (pOp gEqD (pVar 0) (pC (.int 0)))) (pDrop (pCallQ q_changed [] (pCons (pVar 1) (pCons (pVar 2) (pNil))))) (pIf (pB (pOp gEqD (pVar 0) (pC (.int 1)))) (pDrop (pCallQ q_checked_rate [] (pCons (pVar 1) (pNil)))) (pIf (pB (pOp gEqD (pVar 0) (pC (.int 2)))) (pDrop (pCallQ q_checked_weights [] (pCons (pVar 1) (pNil)))) (pIf (pB (pOp gEqD (pVar 0) (pC (.int 3)))) (pDrop (pCallQ q_shared [] (pCons (pVar 1) (pCons (pVar 2) (pNil))))) (pIf (pB (pOp gEqD (pVar 0) (pC (.int 4)))) (pDrop (pMeth C_Rates "tell" ((f_Rates_tell C_Rates)) [] (pMake C_Rates ((f_Rates_init C_Rates)) [] pNil) (pCons (pVar 1) (pCons (pVar 2) (pCons (pVar 3) (pCons (pTup (pCons (pC (.int 1)) (pCons (pC (.int 1)) (pNil)))) (pNil))))))) (pDrop (pMeth C_Rates "tell" ((f_Rates_tell C_Rates)) [] (pMake C_Rates ((f_Rates_init C_Rates)) [] pNil) (pCons (pC (.int 1)) (pCons (pC (.str "u")) (pCons (pC (.str "v")) (pCons (pVar 1) (pNil)))))))))))) (suHot codeK 4))
  (pRet (pC (.str "none")))
def f0__law_refused (C_Rates : Addr) : PF := runG N__law_refused.length (["choice", "one", "two", "three"] : List Str).length (b__law_refused C_Rates)
theorem run__law_refused (C_Rates : Addr) {ws : List W} {M : Ms} (h : ws.length = 4) : f0__law_refused C_Rates ws M = (b__law_refused C_Rates (startS 5 ws) M).toR := runG_pos h
theorem tell_x1 {C : Addr} {M : Ms} {i : Nat} {day x y z : W} {d : PyData} (hd : day = .d d) (h : isNumberD d 0 100000 = false) (hx : ∀ w ∈ [x, y, z], ∃ d, w = .d d) : f0_Rates_tell C [.r i, day, x, y, z] M = .exc ⟨"InvalidNumber", none⟩ M := by
  subst hd
  rw [run_Rates_tell C rfl]
  unfold b_Rates_tell
  show O.toR (pSeq _ _ [some (.r i), some (.d d), some x, some y, some z, none] M) = _
  rw [seq_exc (e := ⟨"InvalidNumber", none⟩) (s' := [some (.r i), some (.d d), some x, some y, some z, none]) (M' := M) (by simp [q_is_number, h, pSeq, pNext, pIf, pSet, pDrop, pRet, pRetN, pAsg, pVar, pC, pK, pCons, pNil, pTup, pLst, pDat, pMut, pOp, pB, pChain, pAndT, pOrT, pNotT, pAndV, pOrV, pNotV, pTru, pIfE, pNeg, pCall, pCallL, pCallQ, pCallG, pRaise, R.bind, R.to, R.bindN, O.toR, PR.to, truth, allD, view, viewAll, itemsL, itemsT, lenW, tagD, tagW, isTy, tyOk, scalar, R.freeze, pFor, pItL, pItT, pItS, pRng1, pRng2, qName, qNil, qCons, qTup, pSub, pNo, pSo, pYes, pBrk, pCnt, startS, clearO, gInt, gAddI, gSubI, gLtI, gLeI, gGtI, gGeI, gEqD, gNeD, gIsN, gIsB, gStr, gIsi, gLen, gAbs, gInt1, gMin2, gMax2, gSum, gMaxI, gMinI, gList, gSorted, gIx, gInD, isNonD, viewI, catW, pCat, gMaxT, pFld, pSetF, pMeth, pMake, insOf, putW, noAtt, pTry, pListRev, pSlL, pSlT, pIsi2, allD_nil, eqv_int, shaped_int, allD_ints, allD_map, intsOf_map])]
  rfl
theorem str_eq (a b : Str) : PyData.eqv (.str a) (.str b) = (a == b) := by simp [PyData.eqv]
theorem tell_x2 {C : Addr} {M : Ms} {i : Nat} {d : PyData} {a b : Str} {z : W} (h : isNumberD d 0 100000 = true) (sa : SeqAt.shaped (.str a) = true) (sb : SeqAt.shaped (.str b) = true) (hx : isNameD (.str a) = false ∨ isNameD (.str b) = false ∨ a = b) : f0_Rates_tell C [.r i, .d d, .d (.str a), .d (.str b), z] M = .exc ⟨"InvalidPaper", none⟩ M := by
  rw [run_Rates_tell C rfl]
  unfold b_Rates_tell
  show O.toR (pSeq _ _ [some (.r i), some (.d d), some (.d (.str a)), some (.d (.str b)), some z, none] M) = _
  rw [seq_nx (s' := [some (.r i), some (.d d), some (.d (.str a)), some (.d (.str b)), some z, none]) (M' := M) (by simp [q_is_number, h, pSeq, pNext, pIf, pSet, pDrop, pRet, pRetN, pAsg, pVar, pC, pK, pCons, pNil, pTup, pLst, pDat, pMut, pOp, pB, pChain, pAndT, pOrT, pNotT, pAndV, pOrV, pNotV, pTru, pIfE, pNeg, pCall, pCallL, pCallQ, pCallG, pRaise, R.bind, R.to, R.bindN, O.toR, PR.to, truth, allD, view, viewAll, itemsL, itemsT, lenW, tagD, tagW, isTy, tyOk, scalar, R.freeze, pFor, pItL, pItT, pItS, pRng1, pRng2, qName, qNil, qCons, qTup, pSub, pNo, pSo, pYes, pBrk, pCnt, startS, clearO, gInt, gAddI, gSubI, gLtI, gLeI, gGtI, gGeI, gEqD, gNeD, gIsN, gIsB, gStr, gIsi, gLen, gAbs, gInt1, gMin2, gMax2, gSum, gMaxI, gMinI, gList, gSorted, gIx, gInD, isNonD, viewI, catW, pCat, gMaxT, pFld, pSetF, pMeth, pMake, insOf, putW, noAtt, pTry, pListRev, pSlL, pSlT, pIsi2, allD_nil, eqv_int, shaped_int, allD_ints, allD_map, intsOf_map])]
  rw [seq_exc (e := ⟨"InvalidPaper", none⟩) (s' := [some (.r i), some (.d d), some (.d (.str a)), some (.d (.str b)), some z, none]) (M' := M) (by
    cases h1 : isNameD (.str a) with
    | false => simp [q_is_name, h1, pSeq, pNext, pIf, pSet, pDrop, pRet, pRetN, pAsg, pVar, pC, pK, pCons, pNil, pTup, pLst, pDat, pMut, pOp, pB, pChain, pAndT, pOrT, pNotT, pAndV, pOrV, pNotV, pTru, pIfE, pNeg, pCall, pCallL, pCallQ, pCallG, pRaise, R.bind, R.to, R.bindN, O.toR, PR.to, truth, allD, view, viewAll, itemsL, itemsT, lenW, tagD, tagW, isTy, tyOk, scalar, R.freeze, pFor, pItL, pItT, pItS, pRng1, pRng2, qName, qNil, qCons, qTup, pSub, pNo, pSo, pYes, pBrk, pCnt, startS, clearO, gInt, gAddI, gSubI, gLtI, gLeI, gGtI, gGeI, gEqD, gNeD, gIsN, gIsB, gStr, gIsi, gLen, gAbs, gInt1, gMin2, gMax2, gSum, gMaxI, gMinI, gList, gSorted, gIx, gInD, isNonD, viewI, catW, pCat, gMaxT, pFld, pSetF, pMeth, pMake, insOf, putW, noAtt, pTry, pListRev, pSlL, pSlT, pIsi2, allD_nil, eqv_int, shaped_int, allD_ints, allD_map, intsOf_map]
    | true =>
      cases h2 : isNameD (.str b) with
      | false => simp [q_is_name, h1, h2, pSeq, pNext, pIf, pSet, pDrop, pRet, pRetN, pAsg, pVar, pC, pK, pCons, pNil, pTup, pLst, pDat, pMut, pOp, pB, pChain, pAndT, pOrT, pNotT, pAndV, pOrV, pNotV, pTru, pIfE, pNeg, pCall, pCallL, pCallQ, pCallG, pRaise, R.bind, R.to, R.bindN, O.toR, PR.to, truth, allD, view, viewAll, itemsL, itemsT, lenW, tagD, tagW, isTy, tyOk, scalar, R.freeze, pFor, pItL, pItT, pItS, pRng1, pRng2, qName, qNil, qCons, qTup, pSub, pNo, pSo, pYes, pBrk, pCnt, startS, clearO, gInt, gAddI, gSubI, gLtI, gLeI, gGtI, gGeI, gEqD, gNeD, gIsN, gIsB, gStr, gIsi, gLen, gAbs, gInt1, gMin2, gMax2, gSum, gMaxI, gMinI, gList, gSorted, gIx, gInD, isNonD, viewI, catW, pCat, gMaxT, pFld, pSetF, pMeth, pMake, insOf, putW, noAtt, pTry, pListRev, pSlL, pSlT, pIsi2, allD_nil, eqv_int, shaped_int, allD_ints, allD_map, intsOf_map]
      | true =>
        have e : (a == b) = true := by
          rcases hx with h | h | h
          · rw [h1] at h; cases h
          · rw [h2] at h; cases h
          · simpa using h
        simp [q_is_name, h1, h2, str_eq, e, sa, sb, pSeq, pNext, pIf, pSet, pDrop, pRet, pRetN, pAsg, pVar, pC, pK, pCons, pNil, pTup, pLst, pDat, pMut, pOp, pB, pChain, pAndT, pOrT, pNotT, pAndV, pOrV, pNotV, pTru, pIfE, pNeg, pCall, pCallL, pCallQ, pCallG, pRaise, R.bind, R.to, R.bindN, O.toR, PR.to, truth, allD, view, viewAll, itemsL, itemsT, lenW, tagD, tagW, isTy, tyOk, scalar, R.freeze, pFor, pItL, pItT, pItS, pRng1, pRng2, qName, qNil, qCons, qTup, pSub, pNo, pSo, pYes, pBrk, pCnt, startS, clearO, gInt, gAddI, gSubI, gLtI, gLeI, gGtI, gGeI, gEqD, gNeD, gIsN, gIsB, gStr, gIsi, gLen, gAbs, gInt1, gMin2, gMax2, gSum, gMaxI, gMinI, gList, gSorted, gIx, gInD, isNonD, viewI, catW, pCat, gMaxT, pFld, pSetF, pMeth, pMake, insOf, putW, noAtt, pTry, pListRev, pSlL, pSlT, pIsi2, allD_nil, eqv_int, shaped_int, allD_ints, allD_map, intsOf_map])]
  rfl
theorem tell_x3 {C : Addr} {M : Ms} {i : Nat} {d : PyData} {a b : Str} {z : PyData} (h : isNumberD d 0 100000 = true) (ua : unit a) (ub : unit b) (hne : a ≠ b) (hz : rateOk z = false) : f0_Rates_tell C [.r i, .d d, .d (.str a), .d (.str b), .d z] M = .exc ⟨"InvalidPaper", none⟩ M := by
  rw [run_Rates_tell C rfl]
  unfold b_Rates_tell
  have s1 : ∀ {x : Str}, unit x → SeqAt.shaped (.str x) = true := fun hx => by simp [SeqAt.shaped, PyData.canLay0, PyData.depth, unit_str hx]
  have hab : (a == b) = false := by simpa using hne
  show O.toR (pSeq _ _ [some (.r i), some (.d d), some (.d (.str a)), some (.d (.str b)), some (.d z), none] M) = _
  rw [seq_nx (s' := [some (.r i), some (.d d), some (.d (.str a)), some (.d (.str b)), some (.d z), none]) (M' := M) (by simp [q_is_number, h, pSeq, pNext, pIf, pSet, pDrop, pRet, pRetN, pAsg, pVar, pC, pK, pCons, pNil, pTup, pLst, pDat, pMut, pOp, pB, pChain, pAndT, pOrT, pNotT, pAndV, pOrV, pNotV, pTru, pIfE, pNeg, pCall, pCallL, pCallQ, pCallG, pRaise, R.bind, R.to, R.bindN, O.toR, PR.to, truth, allD, view, viewAll, itemsL, itemsT, lenW, tagD, tagW, isTy, tyOk, scalar, R.freeze, pFor, pItL, pItT, pItS, pRng1, pRng2, qName, qNil, qCons, qTup, pSub, pNo, pSo, pYes, pBrk, pCnt, startS, clearO, gInt, gAddI, gSubI, gLtI, gLeI, gGtI, gGeI, gEqD, gNeD, gIsN, gIsB, gStr, gIsi, gLen, gAbs, gInt1, gMin2, gMax2, gSum, gMaxI, gMinI, gList, gSorted, gIx, gInD, isNonD, viewI, catW, pCat, gMaxT, pFld, pSetF, pMeth, pMake, insOf, putW, noAtt, pTry, pListRev, pSlL, pSlT, pIsi2, allD_nil, eqv_int, shaped_int, allD_ints, allD_map, intsOf_map])]
  rw [seq_nx (s' := [some (.r i), some (.d d), some (.d (.str a)), some (.d (.str b)), some (.d z), none]) (M' := M) (by simp [q_is_name, name_unit ua, name_unit ub, str_eq, hab, s1 ua, s1 ub, pSeq, pNext, pIf, pSet, pDrop, pRet, pRetN, pAsg, pVar, pC, pK, pCons, pNil, pTup, pLst, pDat, pMut, pOp, pB, pChain, pAndT, pOrT, pNotT, pAndV, pOrV, pNotV, pTru, pIfE, pNeg, pCall, pCallL, pCallQ, pCallG, pRaise, R.bind, R.to, R.bindN, O.toR, PR.to, truth, allD, view, viewAll, itemsL, itemsT, lenW, tagD, tagW, isTy, tyOk, scalar, R.freeze, pFor, pItL, pItT, pItS, pRng1, pRng2, qName, qNil, qCons, qTup, pSub, pNo, pSo, pYes, pBrk, pCnt, startS, clearO, gInt, gAddI, gSubI, gLtI, gLeI, gGtI, gGeI, gEqD, gNeD, gIsN, gIsB, gStr, gIsi, gLen, gAbs, gInt1, gMin2, gMax2, gSum, gMaxI, gMinI, gList, gSorted, gIx, gInD, isNonD, viewI, catW, pCat, gMaxT, pFld, pSetF, pMeth, pMake, insOf, putW, noAtt, pTry, pListRev, pSlL, pSlT, pIsi2, allD_nil, eqv_int, shaped_int, allD_ints, allD_map, intsOf_map])]
  rw [seq_exc (e := ⟨"InvalidPaper", none⟩) (s' := [some (.r i), some (.d d), some (.d (.str a)), some (.d (.str b)), some (.d z), none]) (M' := M) (by simp [q_checked_rate, hz, pSeq, pNext, pIf, pSet, pDrop, pRet, pRetN, pAsg, pVar, pC, pK, pCons, pNil, pTup, pLst, pDat, pMut, pOp, pB, pChain, pAndT, pOrT, pNotT, pAndV, pOrV, pNotV, pTru, pIfE, pNeg, pCall, pCallL, pCallQ, pCallG, pRaise, R.bind, R.to, R.bindN, O.toR, PR.to, truth, allD, view, viewAll, itemsL, itemsT, lenW, tagD, tagW, isTy, tyOk, scalar, R.freeze, pFor, pItL, pItT, pItS, pRng1, pRng2, qName, qNil, qCons, qTup, pSub, pNo, pSo, pYes, pBrk, pCnt, startS, clearO, gInt, gAddI, gSubI, gLtI, gLeI, gGtI, gGeI, gEqD, gNeD, gIsN, gIsB, gStr, gIsi, gLen, gAbs, gInt1, gMin2, gMax2, gSum, gMaxI, gMinI, gList, gSorted, gIx, gInD, isNonD, viewI, catW, pCat, gMaxT, pFld, pSetF, pMeth, pMake, insOf, putW, noAtt, pTry, pListRev, pSlL, pSlT, pIsi2, allD_nil, eqv_int, shaped_int, allD_ints, allD_map, intsOf_map])]
  rfl
theorem try_exc {b : PSx} {s s' : Sl} {M M' : Ms} {y : Str} (h : b s M = .exc ⟨y, none⟩ s' M') (hc : catK y = some true) (hl : 4 < s'.length) : pTry catK 4 b (suHot codeK 4) s M = .rt (.d (.str (codeK y))) M' := by
  unfold pTry
  rw [h]
  simp only [hc]
  have e : suHot codeK 4 ⟨y, none⟩ 0 (s'.set 4 (some (.k (.ref 0)))) M' = .rt (.d (.str (codeK y))) M' := by
    unfold suHot
    simp only
    rw [ret_ok (x := .d (.str (codeK y))) (M' := M') (by
      unfold pCallG
      rw [cons_ok (var_ok (x := .k (.ref 0)) (List.getElem?_set_self hl)) nil_ok]
      simp [R.bind, gHot])]
  rw [e]
  rfl
/-- what is refused, by its kind -/
def refKind : Int → PyData → PyData → PyData → Option Str
  | 0, a, r, _ => if isAmountD a = false then some "number" else if rateOk r = false then some "paper" else match a, r with
    | .int n, .tuple [.int o, .int u] => if 1000000000 < (absI n * o).fdiv u then some "number" else none
    | _, _ => none
  | 1, r, _, _ => if rateOk r = false then some "paper" else none
  | 2, .list ws, _, _ => if wOk ws = false then some "paper" else none
  | 3, a, .list ws, _ => if wOk ws = false then some "paper" else if isAmountD a = false then some "number" else match a with
    | .int n => if n < 0 then some "number" else none
    | _ => none
  | 4, d, .str a, .str b => if isNumberD d 0 100000 = false then some "number" else if (isNameD (.str a) = false ∨ isNameD (.str b) = false ∨ a = b) ∧ SeqAt.shaped (.str a) = true ∧ SeqAt.shaped (.str b) = true then some "paper" else none
  | 5, r, _, _ => if rateOk r = false then some "paper" else none
  | _, _, _, _ => none
def q__law_refused : List PyData → PR := fun ds => match ds with
  | [.int c, a, b, d] => (match refKind c a b d with
    | some s => .ok (.str s)
    | none => .stuck)
  | _ => .stuck
theorem ref_end {c : Int} {a b d : PyData} {s y : Str} {M' : Ms} {q r : PSx} (hy : codeK y = s) (hc : catK y = some true) (hq : q [some (W.d (.int c)), some (.d a), some (.d b), some (.d d), none] [] = .exc ⟨y, none⟩ [some (W.d (.int c)), some (.d a), some (.d b), some (.d d), none] M') :
    (O.toR (pSeq (pTry catK 4 q (suHot codeK 4)) r [some (W.d (.int c)), some (.d a), some (.d b), some (.d d), none] [])).freeze = .ok (.str s) := by
  rw [seq_rt (try_exc hq hc (by simp)), hy]
  rfl
theorem meth_exc {C : Addr} {m : Str} {F : PF} {o : PEx} {pa : PAx} {s : Sl} {M M1 M2 M3 : Ms} {x : W} {ws : List W} {e : Exn} (ho : o s M = .ok x M1) (hn : noAtt C m M1 x = true) (ha : pa s M1 = .ok ws M2) (hF : F (x :: ws) M2 = .exc e M3) : pDrop (pMeth C m F [] o pa) s M = .exc e s M3 := by
  unfold pDrop pMeth
  rw [ho]
  simp only [R.bind, hn, if_true]
  rw [ha]
  simp only [List.map_nil, List.append_nil, hF, R.to]
theorem meth_ok {C : Addr} {m : Str} {F : PF} {o : PEx} {pa : PAx} {s : Sl} {M M1 M2 M3 : Ms} {x y : W} {ws : List W} (ho : o s M = .ok x M1) (hn : noAtt C m M1 x = true) (ha : pa s M1 = .ok ws M2) (hF : F (x :: ws) M2 = .ok y M3) : pMeth C m F [] o pa s M = .ok y M3 := by
  unfold pMeth
  rw [ho]
  simp only [R.bind, hn, if_true]
  rw [ha]
  simp only [List.map_nil, List.append_nil, hF]
theorem is_num {n c : Int} {t : Sl} {v : Bool} (h : t[0]? = some (some (.d (.int c)))) (hv : (c == n) = v) : pB (pOp gEqD (pVar 0) (pC (.int n))) t [] = .ok v [] := by
  subst hv
  unfold pB
  rw [op_ok (var_ok h) rfl]
  simp only [gEqD, view, shaped_int, and_self, if_true, R.bind, eqv_int]
theorem cat_n : catK "InvalidNumber" = some true := by decide +kernel
theorem cat_p : catK "InvalidPaper" = some true := by decide +kernel
theorem code_n : codeK "InvalidNumber" = "number" := by decide +kernel
theorem code_p : codeK "InvalidPaper" = "paper" := by decide +kernel
theorem pure__law_refused (C_Rates : Addr) : ∀ ds, q__law_refused ds ≠ .stuck → (f0__law_refused C_Rates).pure ds = q__law_refused ds := by
  intro ds h
  unfold q__law_refused at h
  split at h
  · rename_i c a b d
    split at h
    · rename_i s hk
      have es : q__law_refused [.int c, a, b, d] = .ok (.str s) := by
        unfold q__law_refused
        simp only [hk]
      rw [es]
      clear h es
      unfold PF.pure
      rw [run__law_refused _ rfl]
      unfold b__law_refused
      have mk : ∀ {s : Sl} {M : Ms}, pMake C_Rates (f0_Rates_init C_Rates) [] pNil s M = .ok (.r M.length) (M ++ [.ins C_Rates [("_rows", .d (.list []))]]) := make_ok
      have na : noAtt C_Rates "tell" [.ins C_Rates [("_rows", .d (.list []))]] (.r 0) = true := by
        unfold noAtt insOf
        simp
        decide +kernel
      unfold refKind at hk
      split at hk
      · split at hk
        · rename_i h1
          cases hk
          have hq : ∀ r, q_changed [a, r] = .exc ⟨"InvalidNumber", none⟩ := fun r => by simp [q_changed, h1]
          exact ref_end code_n cat_n (M' := []) (by simp [hq, eqv_int, shaped_int, pSeq, pNext, pIf, pSet, pDrop, pRet, pRetN, pAsg, pVar, pC, pK, pCons, pNil, pTup, pLst, pDat, pMut, pOp, pB, pChain, pAndT, pOrT, pNotT, pAndV, pOrV, pNotV, pTru, pIfE, pNeg, pCall, pCallL, pCallQ, pCallG, pRaise, R.bind, R.to, R.bindN, O.toR, PR.to, truth, allD, view, viewAll, itemsL, itemsT, lenW, tagD, tagW, isTy, tyOk, scalar, R.freeze, pFor, pItL, pItT, pItS, pRng1, pRng2, qName, qNil, qCons, qTup, pSub, pNo, pSo, pYes, pBrk, pCnt, startS, clearO, gInt, gAddI, gSubI, gLtI, gLeI, gGtI, gGeI, gEqD, gNeD, gIsN, gIsB, gStr, gIsi, gLen, gAbs, gInt1, gMin2, gMax2, gSum, gMaxI, gMinI, gList, gSorted, gIx, gInD, isNonD, viewI, catW, pCat, gMaxT, pFld, pSetF, pMeth, pMake, insOf, putW, noAtt, pTry, pListRev, pSlL, pSlT, pIsi2, allD_nil, eqv_int, shaped_int, allD_ints, allD_map, intsOf_map])
        · rename_i h1
          have h1' : isAmountD a = true := by simpa using h1
          split at hk
          · rename_i h2
            cases hk
            have hq : q_changed [a, b] = .exc ⟨"InvalidPaper", none⟩ := by simp [q_changed, h1', h2]
            exact ref_end code_p cat_p (M' := []) (by simp [hq, eqv_int, shaped_int, pSeq, pNext, pIf, pSet, pDrop, pRet, pRetN, pAsg, pVar, pC, pK, pCons, pNil, pTup, pLst, pDat, pMut, pOp, pB, pChain, pAndT, pOrT, pNotT, pAndV, pOrV, pNotV, pTru, pIfE, pNeg, pCall, pCallL, pCallQ, pCallG, pRaise, R.bind, R.to, R.bindN, O.toR, PR.to, truth, allD, view, viewAll, itemsL, itemsT, lenW, tagD, tagW, isTy, tyOk, scalar, R.freeze, pFor, pItL, pItT, pItS, pRng1, pRng2, qName, qNil, qCons, qTup, pSub, pNo, pSo, pYes, pBrk, pCnt, startS, clearO, gInt, gAddI, gSubI, gLtI, gLeI, gGtI, gGeI, gEqD, gNeD, gIsN, gIsB, gStr, gIsi, gLen, gAbs, gInt1, gMin2, gMax2, gSum, gMaxI, gMinI, gList, gSorted, gIx, gInD, isNonD, viewI, catW, pCat, gMaxT, pFld, pSetF, pMeth, pMake, insOf, putW, noAtt, pTry, pListRev, pSlL, pSlT, pIsi2, allD_nil, eqv_int, shaped_int, allD_ints, allD_map, intsOf_map])
          · rename_i h2
            have h2' : rateOk b = true := by simpa using h2
            split at hk
            · rename_i n o u
              split at hk
              · rename_i h3
                cases hk
                have hq : q_changed [.int n, .tuple [.int o, .int u]] = .exc ⟨"InvalidNumber", none⟩ := by simp [q_changed, h1', h2', changedD, h3]
                exact ref_end code_n cat_n (M' := []) (by simp [hq, eqv_int, shaped_int, pSeq, pNext, pIf, pSet, pDrop, pRet, pRetN, pAsg, pVar, pC, pK, pCons, pNil, pTup, pLst, pDat, pMut, pOp, pB, pChain, pAndT, pOrT, pNotT, pAndV, pOrV, pNotV, pTru, pIfE, pNeg, pCall, pCallL, pCallQ, pCallG, pRaise, R.bind, R.to, R.bindN, O.toR, PR.to, truth, allD, view, viewAll, itemsL, itemsT, lenW, tagD, tagW, isTy, tyOk, scalar, R.freeze, pFor, pItL, pItT, pItS, pRng1, pRng2, qName, qNil, qCons, qTup, pSub, pNo, pSo, pYes, pBrk, pCnt, startS, clearO, gInt, gAddI, gSubI, gLtI, gLeI, gGtI, gGeI, gEqD, gNeD, gIsN, gIsB, gStr, gIsi, gLen, gAbs, gInt1, gMin2, gMax2, gSum, gMaxI, gMinI, gList, gSorted, gIx, gInD, isNonD, viewI, catW, pCat, gMaxT, pFld, pSetF, pMeth, pMake, insOf, putW, noAtt, pTry, pListRev, pSlL, pSlT, pIsi2, allD_nil, eqv_int, shaped_int, allD_ints, allD_map, intsOf_map])
              · cases hk
            · cases hk
      · split at hk
        · rename_i h1
          cases hk
          have hq : q_checked_rate [a] = .exc ⟨"InvalidPaper", none⟩ := by simp [q_checked_rate, h1]
          exact ref_end code_p cat_p (M' := []) (by simp [hq, eqv_int, shaped_int, pSeq, pNext, pIf, pSet, pDrop, pRet, pRetN, pAsg, pVar, pC, pK, pCons, pNil, pTup, pLst, pDat, pMut, pOp, pB, pChain, pAndT, pOrT, pNotT, pAndV, pOrV, pNotV, pTru, pIfE, pNeg, pCall, pCallL, pCallQ, pCallG, pRaise, R.bind, R.to, R.bindN, O.toR, PR.to, truth, allD, view, viewAll, itemsL, itemsT, lenW, tagD, tagW, isTy, tyOk, scalar, R.freeze, pFor, pItL, pItT, pItS, pRng1, pRng2, qName, qNil, qCons, qTup, pSub, pNo, pSo, pYes, pBrk, pCnt, startS, clearO, gInt, gAddI, gSubI, gLtI, gLeI, gGtI, gGeI, gEqD, gNeD, gIsN, gIsB, gStr, gIsi, gLen, gAbs, gInt1, gMin2, gMax2, gSum, gMaxI, gMinI, gList, gSorted, gIx, gInD, isNonD, viewI, catW, pCat, gMaxT, pFld, pSetF, pMeth, pMake, insOf, putW, noAtt, pTry, pListRev, pSlL, pSlT, pIsi2, allD_nil, eqv_int, shaped_int, allD_ints, allD_map, intsOf_map])
        · cases hk
      · rename_i ws
        split at hk
        · rename_i h1
          cases hk
          have hq : q_checked_weights [.list ws] = .exc ⟨"InvalidPaper", none⟩ := by simp [q_checked_weights, h1]
          exact ref_end code_p cat_p (M' := []) (by simp [hq, eqv_int, shaped_int, pSeq, pNext, pIf, pSet, pDrop, pRet, pRetN, pAsg, pVar, pC, pK, pCons, pNil, pTup, pLst, pDat, pMut, pOp, pB, pChain, pAndT, pOrT, pNotT, pAndV, pOrV, pNotV, pTru, pIfE, pNeg, pCall, pCallL, pCallQ, pCallG, pRaise, R.bind, R.to, R.bindN, O.toR, PR.to, truth, allD, view, viewAll, itemsL, itemsT, lenW, tagD, tagW, isTy, tyOk, scalar, R.freeze, pFor, pItL, pItT, pItS, pRng1, pRng2, qName, qNil, qCons, qTup, pSub, pNo, pSo, pYes, pBrk, pCnt, startS, clearO, gInt, gAddI, gSubI, gLtI, gLeI, gGtI, gGeI, gEqD, gNeD, gIsN, gIsB, gStr, gIsi, gLen, gAbs, gInt1, gMin2, gMax2, gSum, gMaxI, gMinI, gList, gSorted, gIx, gInD, isNonD, viewI, catW, pCat, gMaxT, pFld, pSetF, pMeth, pMake, insOf, putW, noAtt, pTry, pListRev, pSlL, pSlT, pIsi2, allD_nil, eqv_int, shaped_int, allD_ints, allD_map, intsOf_map])
        · cases hk
      · rename_i ws
        split at hk
        · rename_i h1
          cases hk
          have hq : q_shared [a, .list ws] = .exc ⟨"InvalidPaper", none⟩ := by simp [q_shared, h1]
          exact ref_end code_p cat_p (M' := []) (by simp [hq, eqv_int, shaped_int, pSeq, pNext, pIf, pSet, pDrop, pRet, pRetN, pAsg, pVar, pC, pK, pCons, pNil, pTup, pLst, pDat, pMut, pOp, pB, pChain, pAndT, pOrT, pNotT, pAndV, pOrV, pNotV, pTru, pIfE, pNeg, pCall, pCallL, pCallQ, pCallG, pRaise, R.bind, R.to, R.bindN, O.toR, PR.to, truth, allD, view, viewAll, itemsL, itemsT, lenW, tagD, tagW, isTy, tyOk, scalar, R.freeze, pFor, pItL, pItT, pItS, pRng1, pRng2, qName, qNil, qCons, qTup, pSub, pNo, pSo, pYes, pBrk, pCnt, startS, clearO, gInt, gAddI, gSubI, gLtI, gLeI, gGtI, gGeI, gEqD, gNeD, gIsN, gIsB, gStr, gIsi, gLen, gAbs, gInt1, gMin2, gMax2, gSum, gMaxI, gMinI, gList, gSorted, gIx, gInD, isNonD, viewI, catW, pCat, gMaxT, pFld, pSetF, pMeth, pMake, insOf, putW, noAtt, pTry, pListRev, pSlL, pSlT, pIsi2, allD_nil, eqv_int, shaped_int, allD_ints, allD_map, intsOf_map])
        · rename_i h1
          have h1' : wOk ws = true := by simpa using h1
          obtain ⟨ns, rfl, _⟩ := wOk_ints h1'
          split at hk
          · rename_i h2
            cases hk
            have hq : q_shared [a, .list (ns.map .int)] = .exc ⟨"InvalidNumber", none⟩ := by cases a <;> simp [q_shared, h1', h2, intsOf_map]
            exact ref_end code_n cat_n (M' := []) (by simp [hq, eqv_int, shaped_int, pSeq, pNext, pIf, pSet, pDrop, pRet, pRetN, pAsg, pVar, pC, pK, pCons, pNil, pTup, pLst, pDat, pMut, pOp, pB, pChain, pAndT, pOrT, pNotT, pAndV, pOrV, pNotV, pTru, pIfE, pNeg, pCall, pCallL, pCallQ, pCallG, pRaise, R.bind, R.to, R.bindN, O.toR, PR.to, truth, allD, view, viewAll, itemsL, itemsT, lenW, tagD, tagW, isTy, tyOk, scalar, R.freeze, pFor, pItL, pItT, pItS, pRng1, pRng2, qName, qNil, qCons, qTup, pSub, pNo, pSo, pYes, pBrk, pCnt, startS, clearO, gInt, gAddI, gSubI, gLtI, gLeI, gGtI, gGeI, gEqD, gNeD, gIsN, gIsB, gStr, gIsi, gLen, gAbs, gInt1, gMin2, gMax2, gSum, gMaxI, gMinI, gList, gSorted, gIx, gInD, isNonD, viewI, catW, pCat, gMaxT, pFld, pSetF, pMeth, pMake, insOf, putW, noAtt, pTry, pListRev, pSlL, pSlT, pIsi2, allD_nil, eqv_int, shaped_int, allD_ints, allD_map, intsOf_map])
          · split at hk
            · rename_i n h2
              split at hk
              · rename_i h3
                cases hk
                have h3' : ¬ 0 ≤ n := by omega
                have hq : q_shared [.int n, .list (ns.map .int)] = .exc ⟨"InvalidNumber", none⟩ := by simp [q_shared, h1', intsOf_map, h3']
                exact ref_end code_n cat_n (M' := []) (by simp [hq, eqv_int, shaped_int, pSeq, pNext, pIf, pSet, pDrop, pRet, pRetN, pAsg, pVar, pC, pK, pCons, pNil, pTup, pLst, pDat, pMut, pOp, pB, pChain, pAndT, pOrT, pNotT, pAndV, pOrV, pNotV, pTru, pIfE, pNeg, pCall, pCallL, pCallQ, pCallG, pRaise, R.bind, R.to, R.bindN, O.toR, PR.to, truth, allD, view, viewAll, itemsL, itemsT, lenW, tagD, tagW, isTy, tyOk, scalar, R.freeze, pFor, pItL, pItT, pItS, pRng1, pRng2, qName, qNil, qCons, qTup, pSub, pNo, pSo, pYes, pBrk, pCnt, startS, clearO, gInt, gAddI, gSubI, gLtI, gLeI, gGtI, gGeI, gEqD, gNeD, gIsN, gIsB, gStr, gIsi, gLen, gAbs, gInt1, gMin2, gMax2, gSum, gMaxI, gMinI, gList, gSorted, gIx, gInD, isNonD, viewI, catW, pCat, gMaxT, pFld, pSetF, pMeth, pMake, insOf, putW, noAtt, pTry, pListRev, pSlL, pSlT, pIsi2, allD_nil, eqv_int, shaped_int, allD_ints, allD_map, intsOf_map])
              · cases hk
            · cases hk
      · rename_i x y
        have args : pCons (pVar 1) (pCons (pVar 2) (pCons (pVar 3) (pCons (pTup (pCons (pC (.int 1)) (pCons (pC (.int 1)) pNil))) pNil))) [some (W.d (.int 4)), some (.d a), some (.d (.str x)), some (.d (.str y)), none] [.ins C_Rates [("_rows", .d (.list []))]] = .ok [.d a, .d (.str x), .d (.str y), .d (.tuple [.int 1, .int 1])] [.ins C_Rates [("_rows", .d (.list []))]] := by
          have z2 : 2 ≤ sizeLine := by decide
          simp [z2, pSeq, pNext, pIf, pSet, pDrop, pRet, pRetN, pAsg, pVar, pC, pK, pCons, pNil, pTup, pLst, pDat, pMut, pOp, pB, pChain, pAndT, pOrT, pNotT, pAndV, pOrV, pNotV, pTru, pIfE, pNeg, pCall, pCallL, pCallQ, pCallG, pRaise, R.bind, R.to, R.bindN, O.toR, PR.to, truth, allD, view, viewAll, itemsL, itemsT, lenW, tagD, tagW, isTy, tyOk, scalar, R.freeze, pFor, pItL, pItT, pItS, pRng1, pRng2, qName, qNil, qCons, qTup, pSub, pNo, pSo, pYes, pBrk, pCnt, startS, clearO, gInt, gAddI, gSubI, gLtI, gLeI, gGtI, gGeI, gEqD, gNeD, gIsN, gIsB, gStr, gIsi, gLen, gAbs, gInt1, gMin2, gMax2, gSum, gMaxI, gMinI, gList, gSorted, gIx, gInD, isNonD, viewI, catW, pCat, gMaxT, pFld, pSetF, pMeth, pMake, insOf, putW, noAtt, pTry, pListRev, pSlL, pSlT, pIsi2, allD_nil, eqv_int, shaped_int, allD_ints, allD_map, intsOf_map]
        split at hk
        · rename_i h1
          cases hk
          refine ref_end code_n cat_n (M' := [.ins C_Rates [("_rows", .d (.list []))]]) ?_
          rw [if_ff (is_num rfl rfl), if_ff (is_num rfl rfl), if_ff (is_num rfl rfl), if_ff (is_num rfl rfl), if_tt (is_num rfl rfl)]
          exact meth_exc mk na args (tell_x1 rfl h1 (by simp))
        · rename_i h1
          have h1' : isNumberD a 0 100000 = true := by simpa using h1
          split at hk
          · rename_i h2
            cases hk
            refine ref_end code_p cat_p (M' := [.ins C_Rates [("_rows", .d (.list []))]]) ?_
            rw [if_ff (is_num rfl rfl), if_ff (is_num rfl rfl), if_ff (is_num rfl rfl), if_ff (is_num rfl rfl), if_tt (is_num rfl rfl)]
            exact meth_exc mk na args (tell_x2 h1' h2.2.1 h2.2.2 h2.1)
          · cases hk
      · split at hk
        · rename_i h1
          cases hk
          have args : pCons (pC (.int 1)) (pCons (pC (.str "u")) (pCons (pC (.str "v")) (pCons (pVar 1) pNil))) [some (W.d (.int 5)), some (.d a), some (.d b), some (.d d), none] [.ins C_Rates [("_rows", .d (.list []))]] = .ok [.d (.int 1), .d (.str "u"), .d (.str "v"), .d a] [.ins C_Rates [("_rows", .d (.list []))]] := rfl
          refine ref_end code_p cat_p (M' := [.ins C_Rates [("_rows", .d (.list []))]]) ?_
          rw [if_ff (is_num rfl rfl), if_ff (is_num rfl rfl), if_ff (is_num rfl rfl), if_ff (is_num rfl rfl), if_ff (is_num rfl rfl)]
          exact meth_exc mk na args (tell_x3 (by decide) (.inl rfl) (.inr (.inl rfl)) (by decide +kernel) h1)
        · cases hk
      · cases hk
    · exact absurd rfl h
  · exact absurd rfl h
abbrev N__law_rates_right : List Str := ["pool", "rates", "rows", "kept", "k", "one", "other", "day", "rate", "best", "row"]
def lp0__law_rates_right (C_Rates : Addr) : PSx :=
  pIf (pAndT (pB (pOp gLeI (pOp gIx (pVar 10) (pC (.int 2))) (pVar 7))) (pAndT (pB (pOp gEqD (pSlT (pVar 10) (pNo) (pSo (pC (.int 2)))) (pTup (pCons (pVar 6) (pCons (pVar 5) (pNil)))))) (pOrT (pB (pOp (gIsN false) (pVar 9) (pC .none))) (pB (pOp gGtI (pOp gIx (pVar 10) (pC (.int 2))) (pOp gIx (pVar 9) (pC (.int 0)))))))) (pSet 9 (pTup (pCons (pOp gIx (pVar 10) (pC (.int 2))) (pCons (pTup (pCons (pOp gIx (pOp gIx (pVar 10) (pC (.int 3))) (pC (.int 1))) (pCons (pOp gIx (pOp gIx (pVar 10) (pC (.int 3))) (pC (.int 0))) (pNil)))) (pNil))))) (pNext)
def lp1__law_rates_right (C_Rates : Addr) : PSx :=
  pIf (pAndT (pB (pOp gLeI (pOp gIx (pVar 10) (pC (.int 2))) (pVar 7))) (pAndT (pB (pOp gEqD (pSlT (pVar 10) (pNo) (pSo (pC (.int 2)))) (pTup (pCons (pVar 5) (pCons (pVar 6) (pNil)))))) (pOrT (pB (pOp (gIsN false) (pVar 9) (pC .none))) (pB (pOp gGeI (pOp gIx (pVar 10) (pC (.int 2))) (pOp gIx (pVar 9) (pC (.int 0)))))))) (pSet 9 (pTup (pCons (pOp gIx (pVar 10) (pC (.int 2))) (pCons (pOp gIx (pVar 10) (pC (.int 3))) (pNil))))) (pNext)
def lp2__law_rates_right (C_Rates : Addr) : PSx :=
  pSeq (pSet 7 (pCallG f__law_draw [] (pCons (pVar 0) (pCons (pC (.int 7)) (pNil)))))
  (pSeq (pSet 9 (pC .none))
  (pSeq (pFor (pItL (pVar 2)) (qName 10) ((lp1__law_rates_right C_Rates)))
  (pSeq (pFor (pItL (pVar 2)) (qName 10) ((lp0__law_rates_right C_Rates)))
  (pIf (pNotT (pTru (pCallQ q__law_same [] (pCons (pMeth C_Rates "rate" ((f_Rates_rate C_Rates)) [] (pVar 1) (pCons (pVar 5) (pCons (pVar 6) (pCons (pVar 7) (pNil))))) (pCons (pIfE (pB (pOp gEqD (pVar 5) (pVar 6))) (pTup (pCons (pC (.int 1)) (pCons (pC (.int 1)) (pNil)))) (pIfE (pB (pOp (gIsN false) (pVar 9) (pC .none))) (pC .none) (pOp gIx (pVar 9) (pC (.int 1))))) (pNil)))))) (pRet (pC (.bool false))) (pNext)))))
def lp3__law_rates_right (C_Rates : Addr) : PSx :=
  pFor (pItL (pDat (pLst (pCons (pC (.str "u")) (pCons (pC (.str "v")) (pCons (pC (.str "w")) (pNil))))))) (qName 6) ((lp2__law_rates_right C_Rates))
def lc4__law_rates_right (C_Rates : Addr) : PAx :=
  pLc (pItL (pVar 2)) (qName 10) (pB (pOp gNeD (pSlT (pVar 10) (pNo) (pSo (pC (.int 3)))) (pTup (pCons (pVar 5) (pCons (pVar 6) (pCons (pVar 7) (pNil))))))) (pVar 10) [10]
def lp5__law_rates_right (C_Rates : Addr) : PSx :=
  pSeq (pAsg (pCallG f__law_pick [] (pCons (pVar 0) (pCons (pDat (pLst (pCons (pTup (pCons (pC (.str "u")) (pCons (pC (.str "v")) (pNil)))) (pCons (pTup (pCons (pC (.str "v")) (pCons (pC (.str "u")) (pNil)))) (pCons (pTup (pCons (pC (.str "u")) (pCons (pC (.str "w")) (pNil)))) (pCons (pTup (pCons (pC (.str "w")) (pCons (pC (.str "v")) (pNil)))) (pNil))))))) (pNil)))) (qTup 2 (qCons (qName 5) (qCons (qName 6) (qNil)))))
  (pSeq (pSet 7 (pCallG f__law_draw [] (pCons (pVar 0) (pCons (pC (.int 6)) (pNil)))))
  (pSeq (pSet 8 (pTup (pCons (pOp gAddI (pC (.int 1)) (pCallG f__law_draw [] (pCons (pVar 0) (pCons (pC (.int 5)) (pNil))))) (pCons (pOp gAddI (pC (.int 1)) (pCallG f__law_draw [] (pCons (pVar 0) (pCons (pC (.int 5)) (pNil))))) (pNil)))))
  (pSeq (pDrop (pMeth C_Rates "tell" ((f_Rates_tell C_Rates)) [] (pVar 1) (pCons (pVar 7) (pCons (pVar 5) (pCons (pVar 6) (pCons (pVar 8) (pNil)))))))
  (pSeq (pSet 2 (pDat (pCat (pDat ((lc4__law_rates_right C_Rates))) (pDat (pLst (pCons (pTup (pCons (pVar 5) (pCons (pVar 6) (pCons (pVar 7) (pCons (pVar 8) (pNil)))))) (pNil)))))))
  (pIf (pNotT (pTru (pCallQ q__law_same [] (pCons (pMeth C_Rates "rows" ((f_Rates_rows C_Rates)) [] (pVar 1) pNil) (pCons (pDat (pCallL gSorted (pCons (pVar 2) (pNil)))) (pNil)))))) (pRet (pC (.bool false))) (pNext))))))
def b__law_rates_right (C_Rates : Addr) : PSx :=
  pSeq (pSet 1 (pMake C_Rates ((f_Rates_init C_Rates)) [] pNil))
  (pSeq (pSet 2 (pDat (pLst (pNil))))
  (pSeq (pSet 3 (pMeth C_Rates "copy" ((f_Rates_copy C_Rates)) [] (pVar 1) pNil))
  (pSeq (pFor (pRng1 (pCallG f__law_draw [] (pCons (pVar 0) (pCons (pC (.int 7)) (pNil))))) (qName 4) ((lp5__law_rates_right C_Rates)))
  (pSeq (pFor (pItL (pDat (pLst (pCons (pC (.str "u")) (pCons (pC (.str "v")) (pCons (pC (.str "w")) (pNil))))))) (qName 5) ((lp3__law_rates_right C_Rates)))
  (pRet (pOp gEqD (pMeth C_Rates "rows" ((f_Rates_rows C_Rates)) [] (pVar 3) pNil) (pDat (pLst (pNil)))))))))
def f0__law_rates_right (C_Rates : Addr) : PF := runG N__law_rates_right.length (["pool"] : List Str).length (b__law_rates_right C_Rates)
theorem run__law_rates_right (C_Rates : Addr) {ws : List W} {M : Ms} (h : ws.length = 1) : f0__law_rates_right C_Rates ws M = (b__law_rates_right C_Rates (startS 11 ws) M).toR := runG_pos h
/-- the rows: well made, each key once -/
structure RowsOk (S : List Row) : Prop where
  ok : ∀ r ∈ S, r.ok
  uq : S.Pairwise fun r t => ¬ (r.a = t.a ∧ r.b = t.b ∧ r.d = t.d)
def CandsOk (cs : List Cand) : Prop := ∀ c ∈ cs, ∀ e ∈ cs, c.d = e.d → c.k = e.k → c.p = e.p ∧ c.q = e.q
theorem uq_mem {S : List Row} (h : S.Pairwise fun r t => ¬ (r.a = t.a ∧ r.b = t.b ∧ r.d = t.d)) {r t : Row} (hr : r ∈ S) (ht : t ∈ S) (e1 : r.a = t.a) (e2 : r.b = t.b) (e3 : r.d = t.d) : r = t := by
  induction S with
  | nil => cases hr
  | cons x S ih =>
    obtain ⟨h1, h2⟩ := List.pairwise_cons.mp h
    rcases List.mem_cons.mp hr with e | hr'
    · rcases List.mem_cons.mp ht with e' | ht'
      · rw [e, e']
      · subst e
        exact absurd ⟨e1, e2, e3⟩ (h1 t ht')
    · rcases List.mem_cons.mp ht with e' | ht'
      · subst e'
        exact absurd ⟨e1.symm, e2.symm, e3.symm⟩ (h1 r hr')
      · exact ih h2 hr' ht'
theorem mem_dir {one other : Str} {day : Int} {rs : List Row} {c : Cand} : c ∈ dirC one other day rs ↔ ∃ r ∈ rs, r.d ≤ day ∧ r.a = one ∧ r.b = other ∧ c = ⟨r.d, 1, r.p, r.q⟩ := by
  unfold dirC toldR
  simp only [List.mem_map, List.mem_filter, decide_eq_true_eq, Bool.and_eq_true, beq_iff_eq]
  constructor
  · rintro ⟨r, ⟨⟨h1, h2⟩, h3, h4⟩, rfl⟩
    exact ⟨r, h1, h2, h3, h4, rfl⟩
  · rintro ⟨r, h1, h2, h3, h4, rfl⟩
    exact ⟨r, ⟨⟨h1, h2⟩, h3, h4⟩, rfl⟩
theorem mem_rev {one other : Str} {day : Int} {rs : List Row} {c : Cand} : c ∈ revC one other day rs ↔ ∃ r ∈ rs, r.d ≤ day ∧ r.a = other ∧ r.b = one ∧ c = ⟨r.d, 0, r.q, r.p⟩ := by
  unfold revC toldR
  simp only [List.mem_map, List.mem_filter, decide_eq_true_eq, Bool.and_eq_true, beq_iff_eq]
  constructor
  · rintro ⟨r, ⟨⟨h1, h2⟩, h3, h4⟩, rfl⟩
    exact ⟨r, h1, h2, h3, h4, rfl⟩
  · rintro ⟨r, h1, h2, h3, h4, rfl⟩
    exact ⟨r, ⟨⟨h1, h2⟩, h3, h4⟩, rfl⟩
theorem cands_ok {S : List Row} (h : RowsOk S) (one other : Str) (day : Int) : CandsOk (dirC one other day S ++ revC one other day S) := by
  intro c hc e he hd hk
  rcases List.mem_append.mp hc with hc | hc <;> rcases List.mem_append.mp he with he | he
  · obtain ⟨r, r1, r2, r3, r4, rfl⟩ := mem_dir.mp hc
    obtain ⟨t, t1, t2, t3, t4, rfl⟩ := mem_dir.mp he
    have := uq_mem h.uq r1 t1 (r3.trans t3.symm) (r4.trans t4.symm) hd
    subst this
    exact ⟨rfl, rfl⟩
  · obtain ⟨r, r1, r2, r3, r4, rfl⟩ := mem_dir.mp hc
    obtain ⟨t, t1, t2, t3, t4, rfl⟩ := mem_rev.mp he
    exact absurd hk (by simp)
  · obtain ⟨r, r1, r2, r3, r4, rfl⟩ := mem_rev.mp hc
    obtain ⟨t, t1, t2, t3, t4, rfl⟩ := mem_dir.mp he
    exact absurd hk (by simp)
  · obtain ⟨r, r1, r2, r3, r4, rfl⟩ := mem_rev.mp hc
    obtain ⟨t, t1, t2, t3, t4, rfl⟩ := mem_rev.mp he
    have := uq_mem h.uq r1 t1 (r3.trans t3.symm) (r4.trans t4.symm) hd
    subst this
    exact ⟨rfl, rfl⟩
theorem best_one {cs cs' : List Cand} {x y : PyData} (hm : ∀ c, c ∈ cs ↔ c ∈ cs') (hk : CandsOk cs) (h1 : Best cs x) (h2 : Best cs' y) : x = y := by
  rcases h1 with ⟨e1, rfl⟩ | ⟨c, c1, rfl, c2⟩
  · rcases h2 with ⟨e2, rfl⟩ | ⟨e, e1', rfl, e2⟩
    · rfl
    · rw [← hm, e1] at e1'
      cases e1'
  · rcases h2 with ⟨e2, rfl⟩ | ⟨e, e1', rfl, e2⟩
    · rw [hm, e2] at c1
      cases c1
    · have a1 := c2 e ((hm e).mpr e1')
      have a2 := e2 c ((hm c).mp c1)
      have d : c.d = e.d := by omega
      have k : c.k = e.k := by omega
      obtain ⟨p, q⟩ := hk c c1 e ((hm e).mpr e1') d k
      rw [p, q]
/-- the law's own search: a row, and what it has found so far -/
def bestD : Option Cand → PyData
  | none => .none
  | some c => .tuple [.int c.d, .tuple [.int c.p, .int c.q]]
def step1 (one other : Str) (day : Int) (b : Option Cand) (r : Row) : Option Cand := if r.d ≤ day ∧ r.a = one ∧ r.b = other ∧ (∀ c, b = some c → c.d ≤ r.d) then some ⟨r.d, 1, r.p, r.q⟩ else b
def step0 (one other : Str) (day : Int) (b : Option Cand) (r : Row) : Option Cand := if r.d ≤ day ∧ r.a = other ∧ r.b = one ∧ (∀ c, b = some c → c.d < r.d) then some ⟨r.d, 0, r.q, r.p⟩ else b
def BestC (cs : List Cand) (b : Option Cand) : Prop := (b = none ∧ cs = []) ∨ ∃ c, b = some c ∧ c ∈ cs ∧ ∀ e ∈ cs, ¬ (c.d < e.d ∨ (c.d = e.d ∧ c.k < e.k))
theorem dir_snoc (one other : Str) (day : Int) (pre : List Row) (r : Row) : dirC one other day (pre ++ [r]) = dirC one other day pre ++ (if r.d ≤ day ∧ r.a = one ∧ r.b = other then [⟨r.d, 1, r.p, r.q⟩] else []) := by
  unfold dirC toldR
  rw [List.filter_append, List.filter_append, List.map_append]
  congr 1
  by_cases h1 : r.d ≤ day <;> by_cases h2 : r.a = one <;> by_cases h3 : r.b = other <;> simp [h1, h2, h3]
theorem rev_snoc (one other : Str) (day : Int) (pre : List Row) (r : Row) : revC one other day (pre ++ [r]) = revC one other day pre ++ (if r.d ≤ day ∧ r.a = other ∧ r.b = one then [⟨r.d, 0, r.q, r.p⟩] else []) := by
  unfold revC toldR
  rw [List.filter_append, List.filter_append, List.map_append]
  congr 1
  by_cases h1 : r.d ≤ day <;> by_cases h2 : r.a = other <;> by_cases h3 : r.b = one <;> simp [h1, h2, h3]
theorem step_best {cs : List Cand} {b : Option Cand} {n : Cand} (h : BestC cs b) : (∀ c, b = some c → c.d < n.d ∨ (c.d = n.d ∧ c.k ≤ n.k)) → BestC (cs ++ [n]) (some n) := fun hb => by
  refine .inr ⟨n, rfl, by simp, fun e he => ?_⟩
  rcases List.mem_append.mp he with he | he
  · rcases h with ⟨_, h2⟩ | ⟨c, h1, h2, h3⟩
    · rw [h2] at he; cases he
    · have z := h3 e he
      have y := hb c h1
      omega
  · simp at he
    subst he
    omega
theorem step_keep {cs : List Cand} {c n : Cand} (h : BestC cs (some c)) (hn : ¬ (c.d < n.d ∨ (c.d = n.d ∧ c.k < n.k))) : BestC (cs ++ [n]) (some c) := by
  rcases h with ⟨h1, _⟩ | ⟨c', h1, h2, h3⟩
  · cases h1
  · cases h1
    refine .inr ⟨c, rfl, by simp [h2], fun e he => ?_⟩
    rcases List.mem_append.mp he with he | he
    · exact h3 e he
    · simp at he
      subst he
      exact hn
theorem best1 (one other : Str) (day : Int) : ∀ (l pre : List Row) (b : Option Cand), BestC (dirC one other day pre) b → BestC (dirC one other day (pre ++ l)) (l.foldl (step1 one other day) b)
  | [], pre, b, h => by simpa using h
  | r :: l, pre, b, h => by
    have e : pre ++ r :: l = (pre ++ [r]) ++ l := by simp
    rw [e, List.foldl_cons]
    refine best1 one other day l (pre ++ [r]) _ ?_
    rw [dir_snoc]
    unfold step1
    by_cases hk : r.d ≤ day ∧ r.a = one ∧ r.b = other
    · rw [if_pos hk]
      by_cases hb : ∀ c, b = some c → c.d ≤ r.d
      · rw [if_pos ⟨hk.1, hk.2.1, hk.2.2, hb⟩]
        refine step_best h fun c hc => ?_
        have z := hb c hc
        rcases h with ⟨h1, _⟩ | ⟨c', h1, h2, _⟩
        · rw [h1] at hc; cases hc
        · rw [h1] at hc
          cases hc
          obtain ⟨t, _, _, _, _, rfl⟩ := mem_dir.mp h2
          dsimp only at z ⊢
          omega
      · rw [if_neg (fun z => hb z.2.2.2)]
        cases b with
        | none => exact absurd (fun c hc => by cases hc) hb
        | some c =>
          have hc : ¬ c.d ≤ r.d := fun z => hb fun c' hc' => by cases hc'; exact z
          exact step_keep h (by dsimp only; omega)
    · rw [if_neg hk, if_neg (fun z => hk ⟨z.1, z.2.1, z.2.2.1⟩), List.append_nil]
      exact h
theorem best0 (one other : Str) (day : Int) (S : List Row) : ∀ (l pre : List Row) (b : Option Cand), BestC (dirC one other day S ++ revC one other day pre) b → BestC (dirC one other day S ++ revC one other day (pre ++ l)) (l.foldl (step0 one other day) b)
  | [], pre, b, h => by simpa using h
  | r :: l, pre, b, h => by
    have e : pre ++ r :: l = (pre ++ [r]) ++ l := by simp
    rw [e, List.foldl_cons]
    refine best0 one other day S l (pre ++ [r]) _ ?_
    rw [rev_snoc, ← List.append_assoc]
    unfold step0
    by_cases hk : r.d ≤ day ∧ r.a = other ∧ r.b = one
    · rw [if_pos hk]
      by_cases hb : ∀ c, b = some c → c.d < r.d
      · rw [if_pos ⟨hk.1, hk.2.1, hk.2.2, hb⟩]
        exact step_best h fun c hc => .inl (hb c hc)
      · rw [if_neg (fun z => hb z.2.2.2)]
        cases b with
        | none => exact absurd (fun c hc => by cases hc) hb
        | some c =>
          have hc : ¬ c.d < r.d := fun z => hb fun c' hc' => by cases hc'; exact z
          refine step_keep h ?_
          have hk0 : 0 ≤ c.k := by
            rcases h with ⟨h1, _⟩ | ⟨c', h1, h2, _⟩
            · cases h1
            · cases h1
              rcases List.mem_append.mp h2 with h2 | h2
              · obtain ⟨t, _, _, _, _, rfl⟩ := mem_dir.mp h2
                show (0 : Int) ≤ 1
                decide
              · obtain ⟨t, _, _, _, _, rfl⟩ := mem_rev.mp h2
                show (0 : Int) ≤ 0
                decide
          dsimp only
          omega
    · rw [if_neg hk, if_neg (fun z => hk ⟨z.1, z.2.1, z.2.2.1⟩), List.append_nil]
      exact h
theorem lp1_ok {C : Addr} {one other : Str} {day : Int} {b : Option Cand} {r : Row} {k2 k3 k4 k8 k0 k1 : Option W} {M : Ms} (hr : r.ok) (u1 : unit one) (u2 : unit other) :
    lp1__law_rates_right C [k0, k1, k2, k3, k4, some (.d (.str one)), some (.d (.str other)), some (.d (.int day)), k8, some (.d (bestD b)), some (.d (rowD r))] M = .nx [k0, k1, k2, k3, k4, some (.d (.str one)), some (.d (.str other)), some (.d (.int day)), k8, some (.d (bestD (step1 one other day b r))), some (.d (rowD r))] M := by
  obtain ⟨v1, v2⟩ := hr
  have z2 : 2 ≤ sizeLine := by decide
  unfold lp1__law_rates_right
  by_cases h1 : r.d ≤ day
  · by_cases h2 : r.a = one ∧ r.b = other
    · obtain ⟨rfl, rfl⟩ := h2
      cases b with
      | none => simp [rowD, bestD, step1, h1, eqv2, shaped2 v1 v2, cutW, HT.sIx, atI, ixN, z2, pSeq, pNext, pIf, pSet, pDrop, pRet, pRetN, pAsg, pVar, pC, pK, pCons, pNil, pTup, pLst, pDat, pMut, pOp, pB, pChain, pAndT, pOrT, pNotT, pAndV, pOrV, pNotV, pTru, pIfE, pNeg, pCall, pCallL, pCallQ, pCallG, pRaise, R.bind, R.to, R.bindN, O.toR, PR.to, truth, allD, view, viewAll, itemsL, itemsT, lenW, tagD, tagW, isTy, tyOk, scalar, R.freeze, pFor, pItL, pItT, pItS, pRng1, pRng2, qName, qNil, qCons, qTup, pSub, pNo, pSo, pYes, pBrk, pCnt, startS, clearO, gInt, gAddI, gSubI, gLtI, gLeI, gGtI, gGeI, gEqD, gNeD, gIsN, gIsB, gStr, gIsi, gLen, gAbs, gInt1, gMin2, gMax2, gSum, gMaxI, gMinI, gList, gSorted, gIx, gInD, isNonD, viewI, catW, pCat, gMaxT, pFld, pSetF, pMeth, pMake, insOf, putW, noAtt, pTry, pListRev, pSlL, pSlT, pIsi2, allD_nil, eqv_int, shaped_int, allD_ints, allD_map, intsOf_map]
      | some c => by_cases h3 : c.d ≤ r.d <;> simp [rowD, bestD, step1, h1, h3, eqv2, shaped2 v1 v2, cutW, HT.sIx, atI, ixN, z2, pSeq, pNext, pIf, pSet, pDrop, pRet, pRetN, pAsg, pVar, pC, pK, pCons, pNil, pTup, pLst, pDat, pMut, pOp, pB, pChain, pAndT, pOrT, pNotT, pAndV, pOrV, pNotV, pTru, pIfE, pNeg, pCall, pCallL, pCallQ, pCallG, pRaise, R.bind, R.to, R.bindN, O.toR, PR.to, truth, allD, view, viewAll, itemsL, itemsT, lenW, tagD, tagW, isTy, tyOk, scalar, R.freeze, pFor, pItL, pItT, pItS, pRng1, pRng2, qName, qNil, qCons, qTup, pSub, pNo, pSo, pYes, pBrk, pCnt, startS, clearO, gInt, gAddI, gSubI, gLtI, gLeI, gGtI, gGeI, gEqD, gNeD, gIsN, gIsB, gStr, gIsi, gLen, gAbs, gInt1, gMin2, gMax2, gSum, gMaxI, gMinI, gList, gSorted, gIx, gInD, isNonD, viewI, catW, pCat, gMaxT, pFld, pSetF, pMeth, pMake, insOf, putW, noAtt, pTry, pListRev, pSlL, pSlT, pIsi2, allD_nil, eqv_int, shaped_int, allD_ints, allD_map, intsOf_map]
    · have h2' : (r.a == one && r.b == other) = false := by simpa using h2
      have h2'' : ¬ (r.d ≤ day ∧ r.a = one ∧ r.b = other ∧ ∀ c, b = some c → c.d ≤ r.d) := fun z => h2 ⟨z.2.1, z.2.2.1⟩
      have e : step1 one other day b r = b := if_neg h2''
      rw [e]
      simp [rowD, h1, h2', eqv2, shaped2 v1 v2, shaped2 u1 u2, cutW, HT.sIx, atI, ixN, z2, pSeq, pNext, pIf, pSet, pDrop, pRet, pRetN, pAsg, pVar, pC, pK, pCons, pNil, pTup, pLst, pDat, pMut, pOp, pB, pChain, pAndT, pOrT, pNotT, pAndV, pOrV, pNotV, pTru, pIfE, pNeg, pCall, pCallL, pCallQ, pCallG, pRaise, R.bind, R.to, R.bindN, O.toR, PR.to, truth, allD, view, viewAll, itemsL, itemsT, lenW, tagD, tagW, isTy, tyOk, scalar, R.freeze, pFor, pItL, pItT, pItS, pRng1, pRng2, qName, qNil, qCons, qTup, pSub, pNo, pSo, pYes, pBrk, pCnt, startS, clearO, gInt, gAddI, gSubI, gLtI, gLeI, gGtI, gGeI, gEqD, gNeD, gIsN, gIsB, gStr, gIsi, gLen, gAbs, gInt1, gMin2, gMax2, gSum, gMaxI, gMinI, gList, gSorted, gIx, gInD, isNonD, viewI, catW, pCat, gMaxT, pFld, pSetF, pMeth, pMake, insOf, putW, noAtt, pTry, pListRev, pSlL, pSlT, pIsi2, allD_nil, eqv_int, shaped_int, allD_ints, allD_map, intsOf_map]
  · have e : step1 one other day b r = b := if_neg fun z => h1 z.1
    rw [e]
    simp [rowD, h1, cutW, HT.sIx, atI, ixN, z2, pSeq, pNext, pIf, pSet, pDrop, pRet, pRetN, pAsg, pVar, pC, pK, pCons, pNil, pTup, pLst, pDat, pMut, pOp, pB, pChain, pAndT, pOrT, pNotT, pAndV, pOrV, pNotV, pTru, pIfE, pNeg, pCall, pCallL, pCallQ, pCallG, pRaise, R.bind, R.to, R.bindN, O.toR, PR.to, truth, allD, view, viewAll, itemsL, itemsT, lenW, tagD, tagW, isTy, tyOk, scalar, R.freeze, pFor, pItL, pItT, pItS, pRng1, pRng2, qName, qNil, qCons, qTup, pSub, pNo, pSo, pYes, pBrk, pCnt, startS, clearO, gInt, gAddI, gSubI, gLtI, gLeI, gGtI, gGeI, gEqD, gNeD, gIsN, gIsB, gStr, gIsi, gLen, gAbs, gInt1, gMin2, gMax2, gSum, gMaxI, gMinI, gList, gSorted, gIx, gInD, isNonD, viewI, catW, pCat, gMaxT, pFld, pSetF, pMeth, pMake, insOf, putW, noAtt, pTry, pListRev, pSlL, pSlT, pIsi2, allD_nil, eqv_int, shaped_int, allD_ints, allD_map, intsOf_map]
theorem lp0_ok {C : Addr} {one other : Str} {day : Int} {b : Option Cand} {r : Row} {k2 k3 k4 k8 k0 k1 : Option W} {M : Ms} (hr : r.ok) (u1 : unit one) (u2 : unit other) :
    lp0__law_rates_right C [k0, k1, k2, k3, k4, some (.d (.str one)), some (.d (.str other)), some (.d (.int day)), k8, some (.d (bestD b)), some (.d (rowD r))] M = .nx [k0, k1, k2, k3, k4, some (.d (.str one)), some (.d (.str other)), some (.d (.int day)), k8, some (.d (bestD (step0 one other day b r))), some (.d (rowD r))] M := by
  obtain ⟨v1, v2⟩ := hr
  have z2 : 2 ≤ sizeLine := by decide
  unfold lp0__law_rates_right
  by_cases h1 : r.d ≤ day
  · by_cases h2 : r.a = other ∧ r.b = one
    · obtain ⟨rfl, rfl⟩ := h2
      cases b with
      | none => simp [rowD, bestD, step0, h1, eqv2, shaped2 v1 v2, cutW, HT.sIx, atI, ixN, z2, pSeq, pNext, pIf, pSet, pDrop, pRet, pRetN, pAsg, pVar, pC, pK, pCons, pNil, pTup, pLst, pDat, pMut, pOp, pB, pChain, pAndT, pOrT, pNotT, pAndV, pOrV, pNotV, pTru, pIfE, pNeg, pCall, pCallL, pCallQ, pCallG, pRaise, R.bind, R.to, R.bindN, O.toR, PR.to, truth, allD, view, viewAll, itemsL, itemsT, lenW, tagD, tagW, isTy, tyOk, scalar, R.freeze, pFor, pItL, pItT, pItS, pRng1, pRng2, qName, qNil, qCons, qTup, pSub, pNo, pSo, pYes, pBrk, pCnt, startS, clearO, gInt, gAddI, gSubI, gLtI, gLeI, gGtI, gGeI, gEqD, gNeD, gIsN, gIsB, gStr, gIsi, gLen, gAbs, gInt1, gMin2, gMax2, gSum, gMaxI, gMinI, gList, gSorted, gIx, gInD, isNonD, viewI, catW, pCat, gMaxT, pFld, pSetF, pMeth, pMake, insOf, putW, noAtt, pTry, pListRev, pSlL, pSlT, pIsi2, allD_nil, eqv_int, shaped_int, allD_ints, allD_map, intsOf_map]
      | some c => by_cases h3 : c.d < r.d <;> simp [rowD, bestD, step0, h1, h3, eqv2, shaped2 v1 v2, cutW, HT.sIx, atI, ixN, z2, pSeq, pNext, pIf, pSet, pDrop, pRet, pRetN, pAsg, pVar, pC, pK, pCons, pNil, pTup, pLst, pDat, pMut, pOp, pB, pChain, pAndT, pOrT, pNotT, pAndV, pOrV, pNotV, pTru, pIfE, pNeg, pCall, pCallL, pCallQ, pCallG, pRaise, R.bind, R.to, R.bindN, O.toR, PR.to, truth, allD, view, viewAll, itemsL, itemsT, lenW, tagD, tagW, isTy, tyOk, scalar, R.freeze, pFor, pItL, pItT, pItS, pRng1, pRng2, qName, qNil, qCons, qTup, pSub, pNo, pSo, pYes, pBrk, pCnt, startS, clearO, gInt, gAddI, gSubI, gLtI, gLeI, gGtI, gGeI, gEqD, gNeD, gIsN, gIsB, gStr, gIsi, gLen, gAbs, gInt1, gMin2, gMax2, gSum, gMaxI, gMinI, gList, gSorted, gIx, gInD, isNonD, viewI, catW, pCat, gMaxT, pFld, pSetF, pMeth, pMake, insOf, putW, noAtt, pTry, pListRev, pSlL, pSlT, pIsi2, allD_nil, eqv_int, shaped_int, allD_ints, allD_map, intsOf_map]
    · have h2' : (r.a == other && r.b == one) = false := by simpa using h2
      have h2'' : ¬ (r.d ≤ day ∧ r.a = other ∧ r.b = one ∧ ∀ c, b = some c → c.d < r.d) := fun z => h2 ⟨z.2.1, z.2.2.1⟩
      have e : step0 one other day b r = b := if_neg h2''
      rw [e]
      simp [rowD, h1, h2', eqv2, shaped2 v1 v2, shaped2 u2 u1, cutW, HT.sIx, atI, ixN, z2, pSeq, pNext, pIf, pSet, pDrop, pRet, pRetN, pAsg, pVar, pC, pK, pCons, pNil, pTup, pLst, pDat, pMut, pOp, pB, pChain, pAndT, pOrT, pNotT, pAndV, pOrV, pNotV, pTru, pIfE, pNeg, pCall, pCallL, pCallQ, pCallG, pRaise, R.bind, R.to, R.bindN, O.toR, PR.to, truth, allD, view, viewAll, itemsL, itemsT, lenW, tagD, tagW, isTy, tyOk, scalar, R.freeze, pFor, pItL, pItT, pItS, pRng1, pRng2, qName, qNil, qCons, qTup, pSub, pNo, pSo, pYes, pBrk, pCnt, startS, clearO, gInt, gAddI, gSubI, gLtI, gLeI, gGtI, gGeI, gEqD, gNeD, gIsN, gIsB, gStr, gIsi, gLen, gAbs, gInt1, gMin2, gMax2, gSum, gMaxI, gMinI, gList, gSorted, gIx, gInD, isNonD, viewI, catW, pCat, gMaxT, pFld, pSetF, pMeth, pMake, insOf, putW, noAtt, pTry, pListRev, pSlL, pSlT, pIsi2, allD_nil, eqv_int, shaped_int, allD_ints, allD_map, intsOf_map]
  · have e : step0 one other day b r = b := if_neg fun z => h1 z.1
    rw [e]
    simp [rowD, h1, cutW, HT.sIx, atI, ixN, z2, pSeq, pNext, pIf, pSet, pDrop, pRet, pRetN, pAsg, pVar, pC, pK, pCons, pNil, pTup, pLst, pDat, pMut, pOp, pB, pChain, pAndT, pOrT, pNotT, pAndV, pOrV, pNotV, pTru, pIfE, pNeg, pCall, pCallL, pCallQ, pCallG, pRaise, R.bind, R.to, R.bindN, O.toR, PR.to, truth, allD, view, viewAll, itemsL, itemsT, lenW, tagD, tagW, isTy, tyOk, scalar, R.freeze, pFor, pItL, pItT, pItS, pRng1, pRng2, qName, qNil, qCons, qTup, pSub, pNo, pSo, pYes, pBrk, pCnt, startS, clearO, gInt, gAddI, gSubI, gLtI, gLeI, gGtI, gGeI, gEqD, gNeD, gIsN, gIsB, gStr, gIsi, gLen, gAbs, gInt1, gMin2, gMax2, gSum, gMaxI, gMinI, gList, gSorted, gIx, gInD, isNonD, viewI, catW, pCat, gMaxT, pFld, pSetF, pMeth, pMake, insOf, putW, noAtt, pTry, pListRev, pSlL, pSlT, pIsi2, allD_nil, eqv_int, shaped_int, allD_ints, allD_map, intsOf_map]
theorem loop1_ok {C : Addr} {one other : Str} {day : Int} {k2 k3 k4 k8 k0 k1 : Option W} {M : Ms} (u1 : unit one) (u2 : unit other) : ∀ (l : List Row) (b : Option Cand) (x : Option W), (∀ r ∈ l, r.ok) →
    ∃ y, forL (qName 10) (lp1__law_rates_right C) ((l.map rowD).map W.d) [k0, k1, k2, k3, k4, some (.d (.str one)), some (.d (.str other)), some (.d (.int day)), k8, some (.d (bestD b)), x] M = .nx [k0, k1, k2, k3, k4, some (.d (.str one)), some (.d (.str other)), some (.d (.int day)), k8, some (.d (bestD (l.foldl (step1 one other day) b))), y] M
  | [], b, x, _ => ⟨x, rfl⟩
  | r :: l, b, x, h => by
    obtain ⟨y, ih⟩ := loop1_ok (C := C) (k2 := k2) (k3 := k3) (k4 := k4) (k8 := k8) (k0 := k0) (k1 := k1) (M := M) (day := day) u1 u2 l (step1 one other day b r) (some (.d (rowD r))) fun t ht => h t (List.mem_cons_of_mem _ ht)
    refine ⟨y, ?_⟩
    rw [List.map_cons, List.map_cons, forL]
    show (match lp1__law_rates_right C [k0, k1, k2, k3, k4, some (.d (.str one)), some (.d (.str other)), some (.d (.int day)), k8, some (.d (bestD b)), some (.d (rowD r))] M with | .nx s2 M2 => _ | .ct s2 M2 => _ | .bk s2 M2 => _ | .rt x M2 => _ | .exc e s2 M2 => _ | .stuck => _) = _
    rw [lp1_ok (h r List.mem_cons_self) u1 u2]
    exact ih
theorem loop0_ok {C : Addr} {one other : Str} {day : Int} {k2 k3 k4 k8 k0 k1 : Option W} {M : Ms} (u1 : unit one) (u2 : unit other) : ∀ (l : List Row) (b : Option Cand) (x : Option W), (∀ r ∈ l, r.ok) →
    ∃ y, forL (qName 10) (lp0__law_rates_right C) ((l.map rowD).map W.d) [k0, k1, k2, k3, k4, some (.d (.str one)), some (.d (.str other)), some (.d (.int day)), k8, some (.d (bestD b)), x] M = .nx [k0, k1, k2, k3, k4, some (.d (.str one)), some (.d (.str other)), some (.d (.int day)), k8, some (.d (bestD (l.foldl (step0 one other day) b))), y] M
  | [], b, x, _ => ⟨x, rfl⟩
  | r :: l, b, x, h => by
    obtain ⟨y, ih⟩ := loop0_ok (C := C) (k2 := k2) (k3 := k3) (k4 := k4) (k8 := k8) (k0 := k0) (k1 := k1) (M := M) (day := day) u1 u2 l (step0 one other day b r) (some (.d (rowD r))) fun t ht => h t (List.mem_cons_of_mem _ ht)
    refine ⟨y, ?_⟩
    rw [List.map_cons, List.map_cons, forL]
    show (match lp0__law_rates_right C [k0, k1, k2, k3, k4, some (.d (.str one)), some (.d (.str other)), some (.d (.int day)), k8, some (.d (bestD b)), some (.d (rowD r))] M with | .nx s2 M2 => _ | .ct s2 M2 => _ | .bk s2 M2 => _ | .rt x M2 => _ | .exc e s2 M2 => _ | .stuck => _) = _
    rw [lp0_ok (h r List.mem_cons_self) u1 u2]
    exact ih
theorem forL_keep {g : PGx} {b : PSx} {I : Nat → Sl → Ms → Prop} : ∀ (ws : List W) (k : Nat) (s : Sl) (M : Ms), I k s M → (∀ x ∈ ws, ∀ k s M, I k s M → ∃ s1 s2 M2, g x s M = some s1 ∧ b s1 M = .nx s2 M2 ∧ I (k + 1) s2 M2) → ∃ s' M', forL g b ws s M = .nx s' M' ∧ I (k + ws.length) s' M'
  | [], k, s, M, h, _ => ⟨s, M, rfl, h⟩
  | x :: ws, k, s, M, h, st => by
    obtain ⟨s1, s2, M2, h1, h2, h3⟩ := st x List.mem_cons_self k s M h
    obtain ⟨s', M', q1, q2⟩ := forL_keep ws (k + 1) s2 M2 h3 fun y hy => st y (List.mem_cons_of_mem _ hy)
    refine ⟨s', M', ?_, by rw [List.length_cons]; rwa [Nat.add_assoc, Nat.add_comm 1] at q2⟩
    rw [forL, h1]
    simp only [h2]
    exact q1
structure RInv (C : Addr) (n : Nat) (k : Nat) (s : Sl) (M : Ms) : Prop where
  pool : PoolOk M
  n0 : n ≠ 0
  ex : ∃ (S : List Row) (x4 x5 x6 x7 x8 x9 x10 : Option W), s = [some (.r 0), some (.r n), some (.d (.list (S.map rowD))), some (.r (n + 1)), x4, x5, x6, x7, x8, x9, x10] ∧ RowsOk S ∧ S.length ≤ k ∧ M[n]? = some (.ins C [("_rows", .d (.list ((sortR S).map rowD)))])
  kept : M[n + 1]? = some (.ins C [("_rows", .d (.list []))])
theorem rate_same {C : Addr} {M : Ms} {i : Nat} {one : Str} {day : Int} (u : unit one) : f0_Rates_rate C [.r i, .d (.str one), .d (.str one), .d (.int day)] M = .ok (.d (.tuple [.int 1, .int 1])) M := by
  rw [run_Rates_rate C rfl]
  unfold b_Rates_rate
  have s1 : SeqAt.shaped (.str one) = true := by simp [SeqAt.shaped, PyData.canLay0, PyData.depth, unit_str u]
  have z2 : 2 ≤ sizeLine := by decide
  show O.toR (pSeq _ _ [some (.r i), some (.d (.str one)), some (.d (.str one)), some (.d (.int day)), none, none, none] M) = _
  rw [seq_rt (x := .d (.tuple [.int 1, .int 1])) (M' := M) (by simp [s1, str_eq, z2, pSeq, pNext, pIf, pSet, pDrop, pRet, pRetN, pAsg, pVar, pC, pK, pCons, pNil, pTup, pLst, pDat, pMut, pOp, pB, pChain, pAndT, pOrT, pNotT, pAndV, pOrV, pNotV, pTru, pIfE, pNeg, pCall, pCallL, pCallQ, pCallG, pRaise, R.bind, R.to, R.bindN, O.toR, PR.to, truth, allD, view, viewAll, itemsL, itemsT, lenW, tagD, tagW, isTy, tyOk, scalar, R.freeze, pFor, pItL, pItT, pItS, pRng1, pRng2, qName, qNil, qCons, qTup, pSub, pNo, pSo, pYes, pBrk, pCnt, startS, clearO, gInt, gAddI, gSubI, gLtI, gLeI, gGtI, gGeI, gEqD, gNeD, gIsN, gIsB, gStr, gIsi, gLen, gAbs, gInt1, gMin2, gMax2, gSum, gMaxI, gMinI, gList, gSorted, gIx, gInD, isNonD, viewI, catW, pCat, gMaxT, pFld, pSetF, pMeth, pMake, insOf, putW, noAtt, pTry, pListRev, pSlL, pSlT, pIsi2, allD_nil, eqv_int, shaped_int, allD_ints, allD_map, intsOf_map])]
  rfl
theorem noAtt_ok {C : Addr} {M : Ms} {i : Nat} {x : W} {m : Str} (h : M[i]? = some (.ins C [("_rows", x)])) (hm : (m == ("_rows" : Str)) = false) : noAtt C m M (.r i) = true := by
  unfold noAtt insOf
  simp [h, List.lookup, hm]
def resOf : Option Cand → PyData
  | none => .none
  | some c => .tuple [.int c.p, .int c.q]
theorem same_true {p q : PEx} {s : Sl} {M M1 M2 : Ms} {d : PyData} (h1 : p s M = .ok (.d d) M1) (h2 : q s M1 = .ok (.d d) M2) (hd : sameOk 5 d = true) : pNotT (pTru (pCallQ q__law_same [] (pCons p (pCons q pNil)))) s M = .ok false M2 := by
  unfold pNotT pTru pCallQ
  rw [cons_ok h1 (cons_ok h2 nil_ok)]
  have z : q__law_same [d, d] = .ok (.bool true) := qs_ok hd
  simp [R.bind, allD, z, PR.to, truth]
theorem lp2_ok {C : Addr} {n k : Nat} {S : List Row} {M : Ms} {one other : Str} {x4 x7 x8 x9 x10 : Option W} (hp : PoolOk M) (n0 : n ≠ 0) (hS : RowsOk S) (hl : S.length ≤ 1000) (hM : M[n]? = some (.ins C [("_rows", .d (.list ((sortR S).map rowD)))])) (u1 : unit one) (u2 : unit other) :
    ∃ y7 y9 y10 M', lp2__law_rates_right C [some (.r 0), some (.r n), some (.d (.list (S.map rowD))), some (.r (n + 1)), x4, some (.d (.str one)), some (.d (.str other)), x7, x8, x9, x10] M = .nx [some (.r 0), some (.r n), some (.d (.list (S.map rowD))), some (.r (n + 1)), x4, some (.d (.str one)), some (.d (.str other)), y7, x8, y9, y10] M' ∧ Only0 M M' := by
  unfold lp2__law_rates_right
  obtain ⟨day, M1, e1, v0, v1, o1⟩ := drawE (s := [some (.r 0), some (.r n), some (.d (.list (S.map rowD))), some (.r (n + 1)), x4, some (.d (.str one)), some (.d (.str other)), x7, x8, x9, x10]) (j := 0) (pe := pC (.int 7)) (many := 7) hp rfl rfl (by decide) (by decide)
  have hM1 : M1[n]? = some (.ins C [("_rows", .d (.list ((sortR S).map rowD)))]) := (o1.2.2 n n0).trans hM
  rw [seq_nx (s' := [some (.r 0), some (.r n), some (.d (.list (S.map rowD))), some (.r (n + 1)), x4, some (.d (.str one)), some (.d (.str other)), some (.d (.int day)), x8, x9, x10]) (M' := M1) (set_ok e1)]
  rw [seq_nx (s' := [some (.r 0), some (.r n), some (.d (.list (S.map rowD))), some (.r (n + 1)), x4, some (.d (.str one)), some (.d (.str other)), some (.d (.int day)), x8, some (.d (bestD none)), x10]) (M' := M1) (set_ok (x := .d .none) (M' := M1) rfl)]
  obtain ⟨y, l1⟩ := loop1_ok (C := C) (k2 := some (.d (.list (S.map rowD)))) (k3 := some (.r (n + 1))) (k4 := x4) (k8 := x8) (k0 := some (.r 0)) (k1 := some (.r n)) (M := M1) (day := day) u1 u2 S none x10 hS.ok
  have it : ∀ {b10 b9 : Option W}, pItL (pVar 2) [some (.r 0), some (.r n), some (.d (.list (S.map rowD))), some (.r (n + 1)), x4, some (.d (.str one)), some (.d (.str other)), some (.d (.int day)), x8, b9, b10] M1 = .ok ((S.map rowD).map W.d) M1 := fun {b10 b9} => rfl
  rw [seq_nx ((for_ok it).trans l1)]
  obtain ⟨y', l0⟩ := loop0_ok (C := C) (k2 := some (.d (.list (S.map rowD)))) (k3 := some (.r (n + 1))) (k4 := x4) (k8 := x8) (k0 := some (.r 0)) (k1 := some (.r n)) (M := M1) (day := day) u1 u2 S (S.foldl (step1 one other day) none) y hS.ok
  rw [seq_nx ((for_ok it).trans l0)]
  have b1 := best1 one other day S [] none (.inl ⟨rfl, rfl⟩)
  rw [List.nil_append] at b1
  have b0 := best0 one other day S S [] _ (by
    have e : revC one other day [] = [] := rfl
    rw [e, List.append_nil]
    exact b1)
  rw [List.nil_append] at b0
  generalize S.foldl (step0 one other day) (S.foldl (step1 one other day) none) = best at *
  refine ⟨some (.d (.int day)), some (.d (bestD best)), y', M1, ?_, o1⟩
  have hR : ∀ r ∈ sortR S, r.ok := fun r hr => hS.ok r ((sortR_perm S).mem_iff.mp hr)
  have hRl : (sortR S).length ≤ 1000 := by rw [(sortR_perm S).length_eq]; exact hl
  have na : noAtt C "rate" M1 (.r n) = true := noAtt_ok hM1 (by decide +kernel)
  have args : pCons (pVar 5) (pCons (pVar 6) (pCons (pVar 7) pNil)) [some (.r 0), some (.r n), some (.d (.list (S.map rowD))), some (.r (n + 1)), x4, some (.d (.str one)), some (.d (.str other)), some (.d (.int day)), x8, some (.d (bestD best)), y'] M1 = .ok [.d (.str one), .d (.str other), .d (.int day)] M1 := rfl
  have s1 : ∀ {x : Str}, unit x → SeqAt.shaped (.str x) = true := fun hx => by simp [SeqAt.shaped, PyData.canLay0, PyData.depth, unit_str hx]
  have z2 : 2 ≤ sizeLine := by decide
  by_cases hne : one = other
  · subst hne
    rw [if_ff (M' := M1) (same_true (d := .tuple [.int 1, .int 1]) (meth_ok (x := .r n) rfl na args (rate_same u1)) (by simp [s1 u1, str_eq, z2, pSeq, pNext, pIf, pSet, pDrop, pRet, pRetN, pAsg, pVar, pC, pK, pCons, pNil, pTup, pLst, pDat, pMut, pOp, pB, pChain, pAndT, pOrT, pNotT, pAndV, pOrV, pNotV, pTru, pIfE, pNeg, pCall, pCallL, pCallQ, pCallG, pRaise, R.bind, R.to, R.bindN, O.toR, PR.to, truth, allD, view, viewAll, itemsL, itemsT, lenW, tagD, tagW, isTy, tyOk, scalar, R.freeze, pFor, pItL, pItT, pItS, pRng1, pRng2, qName, qNil, qCons, qTup, pSub, pNo, pSo, pYes, pBrk, pCnt, startS, clearO, gInt, gAddI, gSubI, gLtI, gLeI, gGtI, gGeI, gEqD, gNeD, gIsN, gIsB, gStr, gIsi, gLen, gAbs, gInt1, gMin2, gMax2, gSum, gMaxI, gMinI, gList, gSorted, gIx, gInD, isNonD, viewI, catW, pCat, gMaxT, pFld, pSetF, pMeth, pMake, insOf, putW, noAtt, pTry, pListRev, pSlL, pSlT, pIsi2, allD_nil, eqv_int, shaped_int, allD_ints, allD_map, intsOf_map]) (by decide +kernel))]
    rfl
  · have hab : (one == other) = false := by simpa using hne
    obtain ⟨res, er, br⟩ := rate_ok (day := day) hM1 hR hRl u1 u2 hne
    have hbest : Best (dirC one other day S ++ revC one other day S) (resOf best) := by
      rcases b0 with ⟨rfl, h⟩ | ⟨c, rfl, h1, h2⟩
      · exact .inl ⟨h, rfl⟩
      · exact .inr ⟨c, h1, rfl, h2⟩
    have hmem : ∀ c, c ∈ dirC one other day (sortR S) ++ revC one other day (sortR S) ↔ c ∈ dirC one other day S ++ revC one other day S := fun c => by
      have p := sortR_perm S
      rw [List.mem_append, List.mem_append, mem_dir, mem_dir, mem_rev, mem_rev]
      constructor
      · rintro (⟨r, h, t⟩ | ⟨r, h, t⟩)
        · exact .inl ⟨r, p.mem_iff.mp h, t⟩
        · exact .inr ⟨r, p.mem_iff.mp h, t⟩
      · rintro (⟨r, h, t⟩ | ⟨r, h, t⟩)
        · exact .inl ⟨r, p.mem_iff.mpr h, t⟩
        · exact .inr ⟨r, p.mem_iff.mpr h, t⟩
    have hk : CandsOk (dirC one other day (sortR S) ++ revC one other day (sortR S)) := fun c hc e he => cands_ok hS one other day c ((hmem c).mp hc) e ((hmem e).mp he)
    have eres : res = resOf best := best_one hmem hk br hbest
    subst eres
    rw [if_ff (M' := M1) (same_true (d := resOf best) (meth_ok (x := .r n) rfl na args er) (by cases best <;> simp [s1 u1, s1 u2, str_eq, hab, bestD, resOf, atI, ixN, pSeq, pNext, pIf, pSet, pDrop, pRet, pRetN, pAsg, pVar, pC, pK, pCons, pNil, pTup, pLst, pDat, pMut, pOp, pB, pChain, pAndT, pOrT, pNotT, pAndV, pOrV, pNotV, pTru, pIfE, pNeg, pCall, pCallL, pCallQ, pCallG, pRaise, R.bind, R.to, R.bindN, O.toR, PR.to, truth, allD, view, viewAll, itemsL, itemsT, lenW, tagD, tagW, isTy, tyOk, scalar, R.freeze, pFor, pItL, pItT, pItS, pRng1, pRng2, qName, qNil, qCons, qTup, pSub, pNo, pSo, pYes, pBrk, pCnt, startS, clearO, gInt, gAddI, gSubI, gLtI, gLeI, gGtI, gGeI, gEqD, gNeD, gIsN, gIsB, gStr, gIsi, gLen, gAbs, gInt1, gMin2, gMax2, gSum, gMaxI, gMinI, gList, gSorted, gIx, gInD, isNonD, viewI, catW, pCat, gMaxT, pFld, pSetF, pMeth, pMake, insOf, putW, noAtt, pTry, pListRev, pSlL, pSlT, pIsi2, allD_nil, eqv_int, shaped_int, allD_ints, allD_map, intsOf_map]) (by cases best <;> rfl))]
    rfl
theorem lc4_ok {S : List Row} {n : Nat} {M : Ms} {C : Addr} {a b : Str} {day : Int} {x4 x8 x9 : Option W} (hS : ∀ r ∈ S, r.ok) (hl : S.length ≤ 1000) (u1 : unit a) (u2 : unit b) :
    lc4__law_rates_right C [some (.r 0), some (.r n), some (.d (.list (S.map rowD))), some (.r (n + 1)), x4, some (.d (.str a)), some (.d (.str b)), some (.d (.int day)), x8, x9, none] M = .ok (((S.filter fun r => !keyIs a b day r).map rowD).map W.d) M := by
  unfold lc4__law_rates_right pLc
  have e1 : pItL (pVar 2) [some (.r 0), some (.r n), some (.d (.list (S.map rowD))), some (.r (n + 1)), x4, some (.d (.str a)), some (.d (.str b)), some (.d (.int day)), x8, x9, none] M = .ok ((S.map rowD).map W.d) M := rfl
  rw [e1]
  simp only [R.bind]
  rw [if_pos (by rw [List.length_map, List.length_map]; exact Nat.le_trans hl (by decide))]
  rw [lcL_pure (fun w => match w with | .d d => neKey a b day d | _ => false) id, filter_rows]
  · rw [List.nil_append, List.map_id]
    rfl
  · intro w hw
    simp only [List.map_map, List.mem_map] at hw
    obtain ⟨r, hrm, rfl⟩ := hw
    obtain ⟨v1, v2⟩ := hS r hrm
    refine ⟨[some (.r 0), some (.r n), some (.d (.list (S.map rowD))), some (.r (n + 1)), x4, some (.d (.str a)), some (.d (.str b)), some (.d (.int day)), x8, x9, some (.d (rowD r))], by simp [qName, wipeS], ?_, fun _ => ?_⟩
    · have z3 : 3 ≤ sizeLine := by decide
      simp [rowD, neKey, eqv3, shaped3 v1 v2, shaped3 u1 u2, cutW, HT.sIx, z3, pSeq, pNext, pIf, pSet, pDrop, pRet, pRetN, pAsg, pVar, pC, pK, pCons, pNil, pTup, pLst, pDat, pMut, pOp, pB, pChain, pAndT, pOrT, pNotT, pAndV, pOrV, pNotV, pTru, pIfE, pNeg, pCall, pCallL, pCallQ, pCallG, pRaise, R.bind, R.to, R.bindN, O.toR, PR.to, truth, allD, view, viewAll, itemsL, itemsT, lenW, tagD, tagW, isTy, tyOk, scalar, R.freeze, pFor, pItL, pItT, pItS, pRng1, pRng2, qName, qNil, qCons, qTup, pSub, pNo, pSo, pYes, pBrk, pCnt, startS, clearO, gInt, gAddI, gSubI, gLtI, gLeI, gGtI, gGeI, gEqD, gNeD, gIsN, gIsB, gStr, gIsi, gLen, gAbs, gInt1, gMin2, gMax2, gSum, gMaxI, gMinI, gList, gSorted, gIx, gInD, isNonD, viewI, catW, pCat, gMaxT, pFld, pSetF, pMeth, pMake, insOf, putW, noAtt, pTry, pListRev, pSlL, pSlT, pIsi2, allD_nil, eqv_int, shaped_int, allD_ints, allD_map, intsOf_map]
    · simp [pSeq, pNext, pIf, pSet, pDrop, pRet, pRetN, pAsg, pVar, pC, pK, pCons, pNil, pTup, pLst, pDat, pMut, pOp, pB, pChain, pAndT, pOrT, pNotT, pAndV, pOrV, pNotV, pTru, pIfE, pNeg, pCall, pCallL, pCallQ, pCallG, pRaise, R.bind, R.to, R.bindN, O.toR, PR.to, truth, allD, view, viewAll, itemsL, itemsT, lenW, tagD, tagW, isTy, tyOk, scalar, R.freeze, pFor, pItL, pItT, pItS, pRng1, pRng2, qName, qNil, qCons, qTup, pSub, pNo, pSo, pYes, pBrk, pCnt, startS, clearO, gInt, gAddI, gSubI, gLtI, gLeI, gGtI, gGeI, gEqD, gNeD, gIsN, gIsB, gStr, gIsi, gLen, gAbs, gInt1, gMin2, gMax2, gSum, gMaxI, gMinI, gList, gSorted, gIx, gInD, isNonD, viewI, catW, pCat, gMaxT, pFld, pSetF, pMeth, pMake, insOf, putW, noAtt, pTry, pListRev, pSlL, pSlT, pIsi2, allD_nil, eqv_int, shaped_int, allD_ints, allD_map, intsOf_map]
theorem lc4_any {S : List Row} {n : Nat} {M : Ms} {C : Addr} {a b : Str} {day : Int} {x4 x8 x9 x10 : Option W} (hS : ∀ r ∈ S, r.ok) (hl : S.length ≤ 1000) (u1 : unit a) (u2 : unit b) :
    lc4__law_rates_right C [some (.r 0), some (.r n), some (.d (.list (S.map rowD))), some (.r (n + 1)), x4, some (.d (.str a)), some (.d (.str b)), some (.d (.int day)), x8, x9, x10] M = .ok (((S.filter fun r => !keyIs a b day r).map rowD).map W.d) M := by
  have z := lc4_ok (C := C) (M := M) (n := n) (day := day) (x4 := x4) (x8 := x8) (x9 := x9) hS hl u1 u2
  rw [← z]
  rfl
theorem rows_next {S : List Row} {r : Row} (h : RowsOk S) (hr : r.ok) : RowsOk ((S.filter fun t => !keyIs r.a r.b r.d t) ++ [r]) where
  ok := fun t ht => by
    rcases List.mem_append.mp ht with ht | ht
    · exact h.ok t (List.mem_filter.mp ht).1
    · simp at ht; subst ht; exact hr
  uq := by
    refine List.pairwise_append.mpr ⟨h.uq.sublist List.filter_sublist, List.pairwise_singleton _ _, fun t ht x hx => ?_⟩
    simp at hx
    subst hx
    have z := (List.mem_filter.mp ht).2
    intro ⟨e1, e2, e3⟩
    simp [keyIs, e1, e2, e3] at z
theorem rowD_same (l : List Row) (h : ∀ r ∈ l, r.ok) (hl : l.length ≤ 1000) : sameOk 5 (.list (l.map rowD)) = true := by
  have : ∀ l : List Row, (∀ r ∈ l, r.ok) → sameAll 4 (l.map rowD) = true := by
    intro l
    induction l with
    | nil => intro _; rfl
    | cons r l ih =>
      intro h
      obtain ⟨v1, v2⟩ := h r List.mem_cons_self
      rw [List.map_cons, sameAll, ih fun t ht => h t (List.mem_cons_of_mem _ ht)]
      simp [rowD, sameOk, sameAll, unit_str v1, unit_str v2]
  rw [sameOk, this l h, List.length_map]
  simp
  omega
theorem asg_ok {pe : PEx} {g : PGx} {s s' : Sl} {M M' : Ms} {x : W} (h : pe s M = .ok x M') (hg : g x s M' = some s') : pAsg pe g s M = .nx s' M' := by
  unfold pAsg
  rw [h]
  simp only [R.to, hg]
theorem lp5_ok {C : Addr} {n k : Nat} {s : Sl} {M : Ms} (h : RInv C n k s M) (hk : k ≤ 100) (x : W) : ∃ s1 s2 M2, qName 4 x s M = some s1 ∧ lp5__law_rates_right C s1 M = .nx s2 M2 ∧ RInv C n (k + 1) s2 M2 := by
  obtain ⟨S, x4, x5, x6, x7, x8, x9, x10, rfl, hS, hl, hM⟩ := h.ex
  suffices hh : ∃ s2 M2, lp5__law_rates_right C [some (.r 0), some (.r n), some (.d (.list (S.map rowD))), some (.r (n + 1)), some x, x5, x6, x7, x8, x9, x10] M = .nx s2 M2 ∧ RInv C n (k + 1) s2 M2 by
    obtain ⟨s2, M2, a, b⟩ := hh
    exact ⟨_, s2, M2, rfl, a, b⟩
  unfold lp5__law_rates_right
  have z2 : 2 ≤ sizeLine := by decide
  have z4 : 4 ≤ sizeLine := by decide
  have z1 : 1 ≤ sizeLine := by decide
  obtain ⟨d, M1, hd, e1, o1⟩ := pickE (s := [some (.r 0), some (.r n), some (.d (.list (S.map rowD))), some (.r (n + 1)), some x, x5, x6, x7, x8, x9, x10]) (j := 0) (pe := pDat (pLst (pCons (pTup (pCons (pC (.str "u")) (pCons (pC (.str "v")) (pNil)))) (pCons (pTup (pCons (pC (.str "v")) (pCons (pC (.str "u")) (pNil)))) (pCons (pTup (pCons (pC (.str "u")) (pCons (pC (.str "w")) (pNil)))) (pCons (pTup (pCons (pC (.str "w")) (pCons (pC (.str "v")) (pNil)))) (pNil))))))) (ds := [.tuple [.str "u", .str "v"], .tuple [.str "v", .str "u"], .tuple [.str "u", .str "w"], .tuple [.str "w", .str "v"]]) h.pool rfl (by simp [z2, z4, pSeq, pNext, pIf, pSet, pDrop, pRet, pRetN, pAsg, pVar, pC, pK, pCons, pNil, pTup, pLst, pDat, pMut, pOp, pB, pChain, pAndT, pOrT, pNotT, pAndV, pOrV, pNotV, pTru, pIfE, pNeg, pCall, pCallL, pCallQ, pCallG, pRaise, R.bind, R.to, R.bindN, O.toR, PR.to, truth, allD, view, viewAll, itemsL, itemsT, lenW, tagD, tagW, isTy, tyOk, scalar, R.freeze, pFor, pItL, pItT, pItS, pRng1, pRng2, qName, qNil, qCons, qTup, pSub, pNo, pSo, pYes, pBrk, pCnt, startS, clearO, gInt, gAddI, gSubI, gLtI, gLeI, gGtI, gGeI, gEqD, gNeD, gIsN, gIsB, gStr, gIsi, gLen, gAbs, gInt1, gMin2, gMax2, gSum, gMaxI, gMinI, gList, gSorted, gIx, gInD, isNonD, viewI, catW, pCat, gMaxT, pFld, pSetF, pMeth, pMake, insOf, putW, noAtt, pTry, pListRev, pSlL, pSlT, pIsi2, allD_nil, eqv_int, shaped_int, allD_ints, allD_map, intsOf_map]) (by decide) (by decide)
  have hd' : ∃ a b, d = .tuple [.str a, .str b] ∧ unit a ∧ unit b ∧ a ≠ b := by
    simp only [List.mem_cons, List.not_mem_nil, or_false] at hd
    rcases hd with rfl | rfl | rfl | rfl
    · exact ⟨_, _, rfl, .inl rfl, .inr (.inl rfl), by decide +kernel⟩
    · exact ⟨_, _, rfl, .inr (.inl rfl), .inl rfl, by decide +kernel⟩
    · exact ⟨_, _, rfl, .inl rfl, .inr (.inr rfl), by decide +kernel⟩
    · exact ⟨_, _, rfl, .inr (.inr rfl), .inr (.inl rfl), by decide +kernel⟩
  obtain ⟨a, b, rfl, u1, u2, hab⟩ := hd'
  rw [seq_nx (s' := [some (.r 0), some (.r n), some (.d (.list (S.map rowD))), some (.r (n + 1)), some x, some (.d (.str a)), some (.d (.str b)), x7, x8, x9, x10]) (M' := M1) (asg_ok e1 rfl)]
  obtain ⟨day, M2, e2, v0, v1, o2⟩ := drawE (s := [some (.r 0), some (.r n), some (.d (.list (S.map rowD))), some (.r (n + 1)), some x, some (.d (.str a)), some (.d (.str b)), x7, x8, x9, x10]) (j := 0) (pe := pC (.int 6)) (many := 6) o1.1 rfl rfl (by decide) (by decide)
  rw [seq_nx (s' := [some (.r 0), some (.r n), some (.d (.list (S.map rowD))), some (.r (n + 1)), some x, some (.d (.str a)), some (.d (.str b)), some (.d (.int day)), x8, x9, x10]) (M' := M2) (set_ok e2)]
  obtain ⟨p, M3, e3, p0, p1, o3⟩ := drawE (s := [some (.r 0), some (.r n), some (.d (.list (S.map rowD))), some (.r (n + 1)), some x, some (.d (.str a)), some (.d (.str b)), some (.d (.int day)), x8, x9, x10]) (j := 0) (pe := pC (.int 5)) (many := 5) o2.1 rfl rfl (by decide) (by decide)
  obtain ⟨q, M4, e4, q0, q1, o4⟩ := drawE (s := [some (.r 0), some (.r n), some (.d (.list (S.map rowD))), some (.r (n + 1)), some x, some (.d (.str a)), some (.d (.str b)), some (.d (.int day)), x8, x9, x10]) (j := 0) (pe := pC (.int 5)) (many := 5) o3.1 rfl rfl (by decide) (by decide)
  have o := ((o1.trans o2).trans o3).trans o4
  have a3 : pOp gAddI (pC (.int 1)) (pCallG f__law_draw [] (pCons (pVar 0) (pCons (pC (.int 5)) pNil))) [some (.r 0), some (.r n), some (.d (.list (S.map rowD))), some (.r (n + 1)), some x, some (.d (.str a)), some (.d (.str b)), some (.d (.int day)), x8, x9, x10] M2 = .ok (.d (.int (1 + p))) M3 := by
    rw [op_ok (x := .d (.int 1)) (M' := M2) rfl e3]
    rfl
  have a4 : pOp gAddI (pC (.int 1)) (pCallG f__law_draw [] (pCons (pVar 0) (pCons (pC (.int 5)) pNil))) [some (.r 0), some (.r n), some (.d (.list (S.map rowD))), some (.r (n + 1)), some x, some (.d (.str a)), some (.d (.str b)), some (.d (.int day)), x8, x9, x10] M3 = .ok (.d (.int (1 + q))) M4 := by
    rw [op_ok (x := .d (.int 1)) (M' := M3) rfl e4]
    rfl
  rw [seq_nx (s' := [some (.r 0), some (.r n), some (.d (.list (S.map rowD))), some (.r (n + 1)), some x, some (.d (.str a)), some (.d (.str b)), some (.d (.int day)), some (.d (.tuple [.int (1 + p), .int (1 + q)])), x9, x10]) (M' := M4) (set_ok (x := .d (.tuple [.int (1 + p), .int (1 + q)])) (by
    unfold pTup
    rw [cons_ok a3 (cons_ok a4 nil_ok)]
    simp [R.bind, allD, z2]))]
  have hM4 : M4[n]? = some (.ins C [("_rows", .d (.list ((sortR S).map rowD)))]) := (o.2.2 n h.n0).trans hM
  have hR : ∀ r ∈ sortR S, r.ok := fun r hr => hS.ok r ((sortR_perm S).mem_iff.mp hr)
  have hRl : (sortR S).length ≤ 1000 := by rw [(sortR_perm S).length_eq]; omega
  have tl := tell_ok (n := ⟨a, b, day, 1 + p, 1 + q⟩) hM4 hR hRl ⟨u1, u2⟩ hab v0 (by show day ≤ 100000; omega) (by show 1 ≤ 1 + p; omega) (by show 1 + p ≤ 1000000; omega) (by show 1 ≤ 1 + q; omega) (by show 1 + q ≤ 1000000; omega)
  dsimp only at tl
  have eS : sortR (((sortR S).filter fun r => !keyIs a b day r) ++ [(⟨a, b, day, 1 + p, 1 + q⟩ : Row)]) = sortR ((S.filter fun r => !keyIs a b day r) ++ [(⟨a, b, day, 1 + p, 1 + q⟩ : Row)]) := sortR_perm_eq (((sortR_perm S).filter _).append_right _)
  rw [eS] at tl
  have na : noAtt C "tell" M4 (.r n) = true := noAtt_ok hM4 (by decide +kernel)
  obtain ⟨M5, hM5⟩ : ∃ M5, M5 = M4.set n (.ins C [("_rows", .d (.list ((sortR ((S.filter fun r => !keyIs a b day r) ++ [(⟨a, b, day, 1 + p, 1 + q⟩ : Row)])).map rowD)))]) := ⟨_, rfl⟩
  rw [← hM5] at tl
  have hn4 : n < M4.length := (List.getElem?_eq_some_iff.mp hM4).1
  have g5 : M5[n]? = some (.ins C [("_rows", .d (.list ((sortR ((S.filter fun r => !keyIs a b day r) ++ [(⟨a, b, day, 1 + p, 1 + q⟩ : Row)])).map rowD)))]) := by rw [hM5]; exact List.getElem?_set_self hn4
  have k5 : M5[n + 1]? = some (.ins C [("_rows", .d (.list []))]) := by
    rw [hM5, List.getElem?_set_ne (by omega), o.2.2 (n + 1) (by omega)]
    exact h.kept
  have p5 : PoolOk M5 := by
    obtain ⟨ns, p1, p2, p3, p4, w1, w2⟩ := o.1
    exact ⟨ns, p1, p2, p3, p4, by rw [hM5, List.getElem?_set_ne h.n0]; exact w1, w2⟩
  rw [seq_nx (s' := [some (.r 0), some (.r n), some (.d (.list (S.map rowD))), some (.r (n + 1)), some x, some (.d (.str a)), some (.d (.str b)), some (.d (.int day)), some (.d (.tuple [.int (1 + p), .int (1 + q)])), x9, x10]) (M' := M5) (drop_ok (x := .d .none) (meth_ok (x := .r n) rfl na (ws := [.d (.int day), .d (.str a), .d (.str b), .d (.tuple [.int (1 + p), .int (1 + q)])]) rfl tl))]
  have k4 := dat_ok (lc4_any (C := C) (M := M5) (n := n) (day := day) (x4 := some x) (x8 := some (.d (.tuple [.int (1 + p), .int (1 + q)]))) (x9 := x9) (x10 := x10) hS.ok (by omega) u1 u2) (allD_map _)
  have fl : (S.filter fun r => !keyIs a b day r).length ≤ k := Nat.le_trans (List.length_filter_le _ _) hl
  have new : pDat (pLst (pCons (pTup (pCons (pVar 5) (pCons (pVar 6) (pCons (pVar 7) (pCons (pVar 8) (pNil)))))) (pNil))) [some (.r 0), some (.r n), some (.d (.list (S.map rowD))), some (.r (n + 1)), some x, some (.d (.str a)), some (.d (.str b)), some (.d (.int day)), some (.d (.tuple [.int (1 + p), .int (1 + q)])), x9, x10] M5 = .ok (.d (.list [rowD ⟨a, b, day, 1 + p, 1 + q⟩])) M5 := by
    simp [rowD, z4, z1, pSeq, pNext, pIf, pSet, pDrop, pRet, pRetN, pAsg, pVar, pC, pK, pCons, pNil, pTup, pLst, pDat, pMut, pOp, pB, pChain, pAndT, pOrT, pNotT, pAndV, pOrV, pNotV, pTru, pIfE, pNeg, pCall, pCallL, pCallQ, pCallG, pRaise, R.bind, R.to, R.bindN, O.toR, PR.to, truth, allD, view, viewAll, itemsL, itemsT, lenW, tagD, tagW, isTy, tyOk, scalar, R.freeze, pFor, pItL, pItT, pItS, pRng1, pRng2, qName, qNil, qCons, qTup, pSub, pNo, pSo, pYes, pBrk, pCnt, startS, clearO, gInt, gAddI, gSubI, gLtI, gLeI, gGtI, gGeI, gEqD, gNeD, gIsN, gIsB, gStr, gIsi, gLen, gAbs, gInt1, gMin2, gMax2, gSum, gMaxI, gMinI, gList, gSorted, gIx, gInD, isNonD, viewI, catW, pCat, gMaxT, pFld, pSetF, pMeth, pMake, insOf, putW, noAtt, pTry, pListRev, pSlL, pSlT, pIsi2, allD_nil, eqv_int, shaped_int, allD_ints, allD_map, intsOf_map]
  have cat : pDat (pCat (pDat ((lc4__law_rates_right C))) (pDat (pLst (pCons (pTup (pCons (pVar 5) (pCons (pVar 6) (pCons (pVar 7) (pCons (pVar 8) (pNil)))))) (pNil))))) [some (.r 0), some (.r n), some (.d (.list (S.map rowD))), some (.r (n + 1)), some x, some (.d (.str a)), some (.d (.str b)), some (.d (.int day)), some (.d (.tuple [.int (1 + p), .int (1 + q)])), x9, x10] M5 = .ok (.d (.list (((S.filter fun r => !keyIs a b day r) ++ [(⟨a, b, day, 1 + p, 1 + q⟩ : Row)]).map rowD))) M5 := by
    refine dat_ok (ws := (((S.filter fun r => !keyIs a b day r) ++ [(⟨a, b, day, 1 + p, 1 + q⟩ : Row)]).map rowD).map W.d) ?_ (allD_map _)
    unfold pCat
    rw [k4]
    simp only [R.bind]
    rw [new]
    simp only [R.bind, catW, itemsL]
    rw [if_pos (by
      simp only [List.length_map, List.length_cons, List.length_nil]
      exact Nat.le_trans (Nat.add_le_add_right (Nat.le_trans fl hk) 1) (by decide))]
    simp
  rw [seq_nx (s' := [some (.r 0), some (.r n), some (.d (.list (((S.filter fun r => !keyIs a b day r) ++ [(⟨a, b, day, 1 + p, 1 + q⟩ : Row)]).map rowD))), some (.r (n + 1)), some x, some (.d (.str a)), some (.d (.str b)), some (.d (.int day)), some (.d (.tuple [.int (1 + p), .int (1 + q)])), x9, x10]) (M' := M5) (set_ok cat)]
  have hS' := rows_next (r := ⟨a, b, day, 1 + p, 1 + q⟩) hS ⟨u1, u2⟩
  dsimp only at hS'
  have l' : ((S.filter fun r => !keyIs a b day r) ++ [(⟨a, b, day, 1 + p, 1 + q⟩ : Row)]).length ≤ k + 1 := by
    rw [List.length_append, List.length_singleton]
    omega
  have nr : noAtt C "rows" M5 (.r n) = true := noAtt_ok g5 (by decide +kernel)
  generalize (S.filter fun r => !keyIs a b day r) ++ [(⟨a, b, day, 1 + p, 1 + q⟩ : Row)] = S' at *
  have srt : pDat (pCallL gSorted (pCons (pVar 2) pNil)) [some (.r 0), some (.r n), some (.d (.list (S'.map rowD))), some (.r (n + 1)), some x, some (.d (.str a)), some (.d (.str b)), some (.d (.int day)), some (.d (.tuple [.int (1 + p), .int (1 + q)])), x9, x10] M5 = .ok (.d (.list ((sortR S').map rowD))) M5 := by
    refine dat_ok (ws := ((sortR S').map rowD).map W.d) ?_ (allD_map _)
    rw [callL1 (var_ok rfl)]
    simp only [gSorted, view, sortable_rows, if_true, sortR_map]
  have hok : sameOk 5 (.list ((sortR S').map rowD)) = true := rowD_same _ (fun r hr => hS'.ok r ((sortR_perm S').mem_iff.mp hr)) (by rw [(sortR_perm S').length_eq]; omega)
  refine ⟨[some (.r 0), some (.r n), some (.d (.list (S'.map rowD))), some (.r (n + 1)), some x, some (.d (.str a)), some (.d (.str b)), some (.d (.int day)), some (.d (.tuple [.int (1 + p), .int (1 + q)])), x9, x10], M5, ?_, ⟨p5, h.n0, ⟨S', _, _, _, _, _, _, _, rfl, hS', l', g5⟩, k5⟩⟩
  rw [if_ff (M' := M5) (same_true (d := .list ((sortR S').map rowD)) (meth_ok (x := .r n) rfl nr (ws := []) rfl (rows_ok g5)) srt hok)]
  rfl
theorem forL_keepN {g : PGx} {b : PSx} {I : Nat → Sl → Ms → Prop} (N : Nat) : ∀ (ws : List W) (k : Nat) (s : Sl) (M : Ms), k + ws.length ≤ N → I k s M → (∀ x ∈ ws, ∀ k s M, k < N → I k s M → ∃ s1 s2 M2, g x s M = some s1 ∧ b s1 M = .nx s2 M2 ∧ I (k + 1) s2 M2) → ∃ s' M', forL g b ws s M = .nx s' M' ∧ I (k + ws.length) s' M'
  | [], k, s, M, _, h, _ => ⟨s, M, rfl, h⟩
  | x :: ws, k, s, M, hn, h, st => by
    rw [List.length_cons] at hn
    obtain ⟨s1, s2, M2, h1, h2, h3⟩ := st x List.mem_cons_self k s M (by omega) h
    obtain ⟨s', M', q1, q2⟩ := forL_keepN N ws (k + 1) s2 M2 (by omega) h3 fun y hy => st y (List.mem_cons_of_mem _ hy)
    refine ⟨s', M', ?_, by rw [List.length_cons]; rwa [Nat.add_assoc, Nat.add_comm 1] at q2⟩
    rw [forL, h1]
    simp only [h2]
    exact q1
structure RSt (C : Addr) (n : Nat) (S : List Row) (M : Ms) : Prop where
  pool : PoolOk M
  at_ : M[n]? = some (.ins C [("_rows", .d (.list ((sortR S).map rowD)))])
  kept : M[n + 1]? = some (.ins C [("_rows", .d (.list []))])
theorem RSt.next {C : Addr} {n : Nat} {S : List Row} {M M' : Ms} (h : RSt C n S M) (n0 : n ≠ 0) (o : Only0 M M') : RSt C n S M' := ⟨o.1, (o.2.2 n n0).trans h.at_, (o.2.2 (n + 1) (by omega)).trans h.kept⟩
theorem units_it {s : Sl} {M : Ms} : pItL (pDat (pLst (pCons (pC (.str "u")) (pCons (pC (.str "v")) (pCons (pC (.str "w")) (pNil)))))) s M = .ok [.d (.str "u"), .d (.str "v"), .d (.str "w")] M := by
  have z3 : 3 ≤ sizeLine := by decide
  simp [z3, pSeq, pNext, pIf, pSet, pDrop, pRet, pRetN, pAsg, pVar, pC, pK, pCons, pNil, pTup, pLst, pDat, pMut, pOp, pB, pChain, pAndT, pOrT, pNotT, pAndV, pOrV, pNotV, pTru, pIfE, pNeg, pCall, pCallL, pCallQ, pCallG, pRaise, R.bind, R.to, R.bindN, O.toR, PR.to, truth, allD, view, viewAll, itemsL, itemsT, lenW, tagD, tagW, isTy, tyOk, scalar, R.freeze, pFor, pItL, pItT, pItS, pRng1, pRng2, qName, qNil, qCons, qTup, pSub, pNo, pSo, pYes, pBrk, pCnt, startS, clearO, gInt, gAddI, gSubI, gLtI, gLeI, gGtI, gGeI, gEqD, gNeD, gIsN, gIsB, gStr, gIsi, gLen, gAbs, gInt1, gMin2, gMax2, gSum, gMaxI, gMinI, gList, gSorted, gIx, gInD, isNonD, viewI, catW, pCat, gMaxT, pFld, pSetF, pMeth, pMake, insOf, putW, noAtt, pTry, pListRev, pSlL, pSlT, pIsi2, allD_nil, eqv_int, shaped_int, allD_ints, allD_map, intsOf_map]
theorem units_of {x : W} (h : x ∈ [W.d (.str "u"), .d (.str "v"), .d (.str "w")]) : ∃ one, x = .d (.str one) ∧ unit one := by
  simp only [List.mem_cons, List.not_mem_nil, or_false] at h
  rcases h with rfl | rfl | rfl
  · exact ⟨_, rfl, .inl rfl⟩
  · exact ⟨_, rfl, .inr (.inl rfl)⟩
  · exact ⟨_, rfl, .inr (.inr rfl)⟩
theorem rng1_okM {p : PEx} {s : Sl} {M M' : Ms} {j : Int} (h : p s M = .ok (.d (.int j)) M') (hc : -(2 ^ 62) ≤ j ∧ j < 2 ^ 62) : pRng1 p s M = .ok (rngW 0 j.toNat) M' := by
  show (p s M).bind _ = _
  rw [h]
  exact if_pos hc
theorem rates_right_ok {C : Addr} {M : Ms} (hp : PoolOk M) : ∃ M', f0__law_rates_right C [.r 0] M = .ok (.d (.bool true)) M' := by
  rw [run__law_rates_right C rfl]
  obtain ⟨n, hn⟩ : ∃ n, n = M.length := ⟨_, rfl⟩
  have n0 : n ≠ 0 := by
    obtain ⟨ns, p1, p2, p3, p4, w1, w2⟩ := hp
    have := (List.getElem?_eq_some_iff.mp w1).1
    omega
  unfold b__law_rates_right
  show ∃ M', O.toR (pSeq _ _ [some (.r 0), none, none, none, none, none, none, none, none, none, none] M) = _
  have e1 := make_ok (C := C) (s := [some (.r 0), none, none, none, none, none, none, none, none, none, none]) (M := M)
  rw [← hn] at e1
  rw [seq_nx (s' := [some (.r 0), some (.r n), none, none, none, none, none, none, none, none, none]) (M' := M ++ [.ins C [("_rows", .d (.list []))]]) (set_ok e1)]
  rw [seq_nx (s' := [some (.r 0), some (.r n), some (.d (.list [])), none, none, none, none, none, none, none, none]) (M' := M ++ [.ins C [("_rows", .d (.list []))]]) (set_ok (x := .d (.list [])) (by simp [pSeq, pNext, pIf, pSet, pDrop, pRet, pRetN, pAsg, pVar, pC, pK, pCons, pNil, pTup, pLst, pDat, pMut, pOp, pB, pChain, pAndT, pOrT, pNotT, pAndV, pOrV, pNotV, pTru, pIfE, pNeg, pCall, pCallL, pCallQ, pCallG, pRaise, R.bind, R.to, R.bindN, O.toR, PR.to, truth, allD, view, viewAll, itemsL, itemsT, lenW, tagD, tagW, isTy, tyOk, scalar, R.freeze, pFor, pItL, pItT, pItS, pRng1, pRng2, qName, qNil, qCons, qTup, pSub, pNo, pSo, pYes, pBrk, pCnt, startS, clearO, gInt, gAddI, gSubI, gLtI, gLeI, gGtI, gGeI, gEqD, gNeD, gIsN, gIsB, gStr, gIsi, gLen, gAbs, gInt1, gMin2, gMax2, gSum, gMaxI, gMinI, gList, gSorted, gIx, gInD, isNonD, viewI, catW, pCat, gMaxT, pFld, pSetF, pMeth, pMake, insOf, putW, noAtt, pTry, pListRev, pSlL, pSlT, pIsi2, allD_nil, eqv_int, shaped_int, allD_ints, allD_map, intsOf_map]))]
  have g1 : (M ++ [.ins C [("_rows", .d (.list []))]])[n]? = some (.ins C [("_rows", .d (.list []))]) := by rw [hn]; simp
  have cp := copy_ok g1
  have lenM : (M ++ [MO.ins C [("_rows", .d (.list []))]]).length = n + 1 := by rw [List.length_append, hn]; rfl
  rw [lenM] at cp
  obtain ⟨M2, hM2⟩ : ∃ M2, M2 = M ++ [.ins C [("_rows", .d (.list []))]] ++ [.ins C [("_rows", .d (.list []))]] := ⟨_, rfl⟩
  rw [← hM2] at cp
  have nc : noAtt C "copy" (M ++ [.ins C [("_rows", .d (.list []))]]) (.r n) = true := noAtt_ok g1 (by decide +kernel)
  rw [seq_nx (s' := [some (.r 0), some (.r n), some (.d (.list [])), some (.r (n + 1)), none, none, none, none, none, none, none]) (M' := M2) (set_ok (meth_ok (x := .r n) rfl nc (ws := []) rfl cp))]
  have h2n : M2[n]? = some (.ins C [("_rows", .d (.list []))]) := by
    rw [hM2, List.getElem?_append_left (by rw [lenM]; omega)]
    exact g1
  have h2k : M2[n + 1]? = some (.ins C [("_rows", .d (.list []))]) := by
    rw [hM2, List.getElem?_append_right (by rw [lenM]; exact Nat.le_refl _), lenM]
    simp
  have p2 : PoolOk M2 := by
    obtain ⟨ns, p1, p2, p3, p4, w1, w2⟩ := hp
    have hl := (List.getElem?_eq_some_iff.mp w1).1
    exact ⟨ns, p1, p2, p3, p4, by rw [hM2, List.append_assoc, List.getElem?_append_left hl]; exact w1, w2⟩
  have inv : RInv C n 0 [some (.r 0), some (.r n), some (.d (.list [])), some (.r (n + 1)), none, none, none, none, none, none, none] M2 :=
    ⟨p2, n0, ⟨[], _, _, _, _, _, _, _, rfl, ⟨fun r hr => (by cases hr), .nil⟩, Nat.le_refl _, by simpa [sortR] using h2n⟩, h2k⟩
  obtain ⟨v, M3, e3, v0, v1, o3⟩ := drawE (s := [some (.r 0), some (.r n), some (.d (.list [])), some (.r (n + 1)), none, none, none, none, none, none, none]) (j := 0) (pe := pC (.int 7)) (many := 7) p2 rfl rfl (by decide) (by decide)
  obtain ⟨w, rfl⟩ := Int.eq_ofNat_of_zero_le v0
  have inv3 : RInv C n 0 [some (.r 0), some (.r n), some (.d (.list [])), some (.r (n + 1)), none, none, none, none, none, none, none] M3 :=
    ⟨o3.1, n0, ⟨[], _, _, _, _, _, _, _, rfl, ⟨fun r hr => (by cases hr), .nil⟩, Nat.le_refl _, by rw [o3.2.2 n n0]; simpa [sortR] using h2n⟩, by rw [o3.2.2 (n + 1) (by omega)]; exact h2k⟩
  obtain ⟨s4, M4, e4, inv4⟩ := forL_keepN (g := qName 4) (b := lp5__law_rates_right C) (I := RInv C n) 100 (rngW 0 w) 0 _ M3 (by rw [rngW, List.length_map, List.length_range]; omega) inv3 fun x _ k s M hk h => lp5_ok h (by omega) x
  have it : pRng1 (pCallG f__law_draw [] (pCons (pVar 0) (pCons (pC (.int 7)) (pNil)))) [some (.r 0), some (.r n), some (.d (.list [])), some (.r (n + 1)), none, none, none, none, none, none, none] M2 = .ok (rngW 0 w) M3 := by
    have z := rng1_okM e3 (small62 (by omega) (by omega))
    rw [Int.toNat_natCast] at z
    exact z
  rw [seq_nx ((for_ok it).trans e4)]
  obtain ⟨S, x4, x5, x6, x7, x8, x9, x10, rfl, hS, hl, hM4⟩ := inv4.ex
  have hl' : S.length ≤ 1000 := by rw [rngW, List.length_map, List.length_range] at hl; omega
  have st4 : RSt C n S M4 := ⟨inv4.pool, hM4, inv4.kept⟩
  obtain ⟨s5, M5, e5, h5⟩ := forL_keep (g := qName 5) (b := lp3__law_rates_right C) (I := fun _ s M => RSt C n S M ∧ ∃ x5 x6 x7 x9 x10, s = [some (.r 0), some (.r n), some (.d (.list (S.map rowD))), some (.r (n + 1)), x4, x5, x6, x7, x8, x9, x10]) [.d (.str "u"), .d (.str "v"), .d (.str "w")] 0 [some (.r 0), some (.r n), some (.d (.list (S.map rowD))), some (.r (n + 1)), x4, x5, x6, x7, x8, x9, x10] M4 ⟨st4, _, _, _, _, _, rfl⟩ fun x hx k s M ⟨h, y5, y6, y7, y9, y10, es⟩ => by
    subst es
    obtain ⟨one, rfl, u1⟩ := units_of hx
    obtain ⟨s6, M6, e6, h6⟩ := forL_keep (g := qName 6) (b := lp2__law_rates_right C) (I := fun _ s M => RSt C n S M ∧ ∃ x6 x7 x9 x10, s = [some (.r 0), some (.r n), some (.d (.list (S.map rowD))), some (.r (n + 1)), x4, some (.d (.str one)), x6, x7, x8, x9, x10]) [.d (.str "u"), .d (.str "v"), .d (.str "w")] 0 [some (.r 0), some (.r n), some (.d (.list (S.map rowD))), some (.r (n + 1)), x4, some (.d (.str one)), y6, y7, x8, y9, y10] M ⟨h, _, _, _, _, rfl⟩ fun z hz k' s' M' ⟨h', t6, t7, t9, t10, es'⟩ => by
      subst es'
      obtain ⟨other, rfl, u2⟩ := units_of hz
      obtain ⟨q7, q9, q10, M7, e7, o7⟩ := lp2_ok (C := C) (k := 0) (x4 := x4) (x7 := t7) (x8 := x8) (x9 := t9) (x10 := t10) h'.pool n0 hS hl' h'.at_ u1 u2
      exact ⟨_, _, M7, rfl, e7, h'.next n0 o7, _, _, _, _, rfl⟩
    refine ⟨_, s6, M6, rfl, ?_, h6.1, ?_⟩
    · exact (for_ok units_it).trans e6
    · obtain ⟨_, t6, t7, t9, t10, es'⟩ := h6
      exact ⟨_, _, _, _, _, es'⟩
  rw [seq_nx ((for_ok units_it).trans e5)]
  obtain ⟨h5, y5, y6, y7, y9, y10, rfl⟩ := h5
  have nr : noAtt C "rows" M5 (.r (n + 1)) = true := noAtt_ok h5.kept (by decide +kernel)
  refine ⟨M5, ?_⟩
  rw [ret_ok (x := .d (.bool true)) (M' := M5) (by
    rw [op_ok (x := .d (.list [])) (y := .d (.list [])) (M' := M5) (M'' := M5) (meth_ok (x := .r (n + 1)) rfl nr (ws := []) rfl (rows_ok h5.kept)) (by simp [pSeq, pNext, pIf, pSet, pDrop, pRet, pRetN, pAsg, pVar, pC, pK, pCons, pNil, pTup, pLst, pDat, pMut, pOp, pB, pChain, pAndT, pOrT, pNotT, pAndV, pOrV, pNotV, pTru, pIfE, pNeg, pCall, pCallL, pCallQ, pCallG, pRaise, R.bind, R.to, R.bindN, O.toR, PR.to, truth, allD, view, viewAll, itemsL, itemsT, lenW, tagD, tagW, isTy, tyOk, scalar, R.freeze, pFor, pItL, pItT, pItS, pRng1, pRng2, qName, qNil, qCons, qTup, pSub, pNo, pSo, pYes, pBrk, pCnt, startS, clearO, gInt, gAddI, gSubI, gLtI, gLeI, gGtI, gGeI, gEqD, gNeD, gIsN, gIsB, gStr, gIsi, gLen, gAbs, gInt1, gMin2, gMax2, gSum, gMaxI, gMinI, gList, gSorted, gIx, gInD, isNonD, viewI, catW, pCat, gMaxT, pFld, pSetF, pMeth, pMake, insOf, putW, noAtt, pTry, pListRev, pSlL, pSlT, pIsi2, allD_nil, eqv_int, shaped_int, allD_ints, allD_map, intsOf_map])]
    rfl)]
  rfl
abbrev f__law_rates_right (C_Rates : Addr) : PF := f0__law_rates_right C_Rates
abbrev N_law : List Str := ["script", "pool", "k", "amount", "rate", "much", "weights", "told", "every", "due", "rests", "rest", "at", "j", "some", "i", "other", "wrong", "one"]
def lc0_law (C_Rates : Addr) : PAx :=
  pLc (pRng1 (pC (.int 101))) (qName 13) (pYes) (pC (.int 1)) [13]
def lp1_law (C_Rates : Addr) : PSx :=
  pIf (pOrT (pB (pOp gNeD (pCallQ q__law_refused [] (pCons (pC (.int 2)) (pCons (pVar 17) (pCons (pC (.int 0)) (pCons (pC (.int 0)) (pNil)))))) (pC (.str "paper")))) (pB (pOp gNeD (pCallQ q__law_refused [] (pCons (pC (.int 3)) (pCons (pC (.int 5)) (pCons (pVar 17) (pCons (pC (.int 0)) (pNil)))))) (pC (.str "paper"))))) (pRet (pC (.bool false))) (pNext)
def lp2_law (C_Rates : Addr) : PSx :=
  pIf (pOrT (pB (pOp gNeD (pCallQ q__law_refused [] (pCons (pC (.int 1)) (pCons (pVar 17) (pCons (pC (.int 0)) (pCons (pC (.int 0)) (pNil)))))) (pC (.str "paper")))) (pOrT (pB (pOp gNeD (pCallQ q__law_refused [] (pCons (pC (.int 0)) (pCons (pC (.int 5)) (pCons (pVar 17) (pCons (pC (.int 0)) (pNil)))))) (pC (.str "paper")))) (pB (pOp gNeD (pCallQ q__law_refused [] (pCons (pC (.int 5)) (pCons (pVar 17) (pCons (pC (.int 0)) (pCons (pC (.int 0)) (pNil)))))) (pC (.str "paper")))))) (pRet (pC (.bool false))) (pNext)
def lp3_law (C_Rates : Addr) : PSx :=
  pSeq (pSet 12 (pIfE (pB (pOp gGtI (pCall gLen (pCons (pVar 14) (pNil))) (pC (.int 0)))) (pCallG f__law_draw [] (pCons (pVar 1) (pCons (pCall gLen (pCons (pVar 14) (pNil))) (pNil)))) (pC (.int 0))))
  (pSeq (pSet 16 (pIfE (pB (pOp gGtI (pCall gLen (pCons (pVar 14) (pNil))) (pC (.int 0)))) (pCallG f__law_draw [] (pCons (pVar 1) (pCons (pCall gLen (pCons (pVar 14) (pNil))) (pNil)))) (pC (.int 0))))
  (pIf (pAndT (pB (pOp gGtI (pCall gLen (pCons (pVar 14) (pNil))) (pC (.int 0)))) (pB (pOp gGtI (pCallG f__law_draw [] (pCons (pVar 1) (pCons (pC (.int 3)) (pNil)))) (pC (.int 0))))) (pSeq (pSub (pOp gAddI (pOp gIx (pVar 14) (pVar 12)) (pC (.int 1))) (pVar 14) (pVar 12))
  (pSub (pOp gSubI (pOp gIx (pVar 14) (pVar 16)) (pC (.int 1))) (pVar 14) (pVar 16))) (pSet 14 (pCallG f__law_pick [] (pCons (pVar 1) (pCons (pMut (pLst (pCons (pMut (pSlL (pVar 14) (pSo (pC (.int 1))) (pNo))) (pCons (pMut (pCat (pVar 14) (pDat (pLst (pCons (pC (.int 0)) (pNil)))))) (pCons (pMut (pListRev (pVar 14))) (pNil)))))) (pNil)))))))
def lp4_law (C_Rates : Addr) : PSx :=
  pSeq (pSet 14 (pMut (pCallL gList (pCons (pVar 7) (pNil)))))
  (pSeq (pFor (pRng1 (pCallG f__law_draw [] (pCons (pVar 1) (pCons (pC (.int 3)) (pNil))))) (qName 15) ((lp3_law C_Rates)))
  (pIf (pNotT (pTru (pCallQ q__law_same [] (pCons (pCallQ q_judge_shared [] (pCons (pVar 3) (pCons (pVar 6) (pCons (pVar 14) (pNil))))) (pCons (pCallQ q__law_good [] (pCons (pVar 3) (pCons (pVar 6) (pCons (pVar 14) (pNil))))) (pNil)))))) (pRet (pC (.bool false))) (pNext)))
def lp5_law (C_Rates : Addr) : PSx :=
  pSub (pOp gAddI (pOp gIx (pVar 9) (pVar 12)) (pC (.int 1))) (pVar 9) (pVar 12)
def lc6_law (C_Rates : Addr) : PAx :=
  pLc (pRng1 (pCall gLen (pCons (pVar 6) (pNil)))) (qName 12) (pYes) (pTup (pCons (pOp gSubI (pC (.int 0)) (pOp gModI (pCall gInt1 (pCons (pOp gMulI (pVar 3) (pOp gIx (pVar 6) (pVar 12))) (pNil))) (pVar 8))) (pCons (pVar 12) (pNil)))) [12]
def lc7_law (C_Rates : Addr) : PAx :=
  pLc (pItL (pVar 6)) (qName 18) (pYes) (pOp gDivI (pOp gMulI (pVar 3) (pVar 18)) (pVar 8)) [18]
def lc8_law (C_Rates : Addr) : PAx :=
  pLc (pRng1 (pCallG f__law_draw [] (pCons (pVar 1) (pCons (pC (.int 5)) (pNil))))) (qName 13) (pYes) (pCallG f__law_draw [] (pCons (pVar 1) (pCons (pC (.int 5)) (pNil)))) [13]
def lp9_law (C_Rates : Addr) : PSx :=
  pSeq (pSet 3 (pCallG f__law_pick [] (pCons (pVar 1) (pCons (pDat (pLst (pCons (pCallG f__law_draw [] (pCons (pVar 1) (pCons (pC (.int 60)) (pNil)))) (pCons (pCallG f__law_draw [] (pCons (pVar 1) (pCons (pOp gPowI (pC (.int 10)) (pC (.int 9))) (pNil)))) (pCons (pOp gPowI (pC (.int 10)) (pC (.int 9))) (pNil)))))) (pNil)))))
  (pSeq (pSet 4 (pTup (pCons (pOp gAddI (pC (.int 1)) (pCallG f__law_draw [] (pCons (pVar 1) (pCons (pC (.int 9)) (pNil))))) (pCons (pOp gAddI (pC (.int 1)) (pCallG f__law_draw [] (pCons (pVar 1) (pCons (pC (.int 9)) (pNil))))) (pNil)))))
  (pSeq (pSet 5 (pOp gDivI (pOp gMulI (pVar 3) (pOp gIx (pVar 4) (pC (.int 0)))) (pOp gIx (pVar 4) (pC (.int 1)))))
  (pSeq (pIf (pB (pOp gLeI (pVar 5) (pOp gPowI (pC (.int 10)) (pC (.int 9))))) (pIf (pOrT (pNotT (pTru (pCallQ q__law_same [] (pCons (pCallQ q_changed [] (pCons (pVar 3) (pCons (pVar 4) (pNil)))) (pCons (pVar 5) (pNil)))))) (pOrT (pNotT (pTru (pCallQ q__law_same [] (pCons (pCallQ q_changed [] (pCons (pOp gSubI (pC (.int 0)) (pVar 3)) (pCons (pVar 4) (pNil)))) (pCons (pOp gSubI (pC (.int 0)) (pVar 5)) (pNil)))))) (pNotT (pTru (pCallQ q__law_same [] (pCons (pCallQ q_rest_of [] (pCons (pVar 3) (pCons (pVar 4) (pNil)))) (pCons (pTup (pCons (pOp gSubI (pOp gMulI (pVar 3) (pOp gIx (pVar 4) (pC (.int 0)))) (pOp gMulI (pVar 5) (pOp gIx (pVar 4) (pC (.int 1))))) (pCons (pOp gIx (pVar 4) (pC (.int 1))) (pNil)))) (pNil)))))))) (pRet (pC (.bool false))) (pNext)) (pIf (pB (pOp gNeD (pCallQ q__law_refused [] (pCons (pC (.int 0)) (pCons (pVar 3) (pCons (pVar 4) (pCons (pC (.int 0)) (pNil)))))) (pC (.str "number")))) (pRet (pC (.bool false))) (pNext)))
  (pSeq (pSet 6 (pDat (pCat (pDat ((lc8_law C_Rates))) (pDat (pLst (pCons (pOp gAddI (pC (.int 1)) (pCallG f__law_draw [] (pCons (pVar 1) (pCons (pC (.int 4)) (pNil))))) (pNil)))))))
  (pSeq (pSet 7 (pCallQ q_shared [] (pCons (pVar 3) (pCons (pDat (pCallL gList (pCons (pVar 6) (pNil)))) (pNil)))))
  (pSeq (pSet 8 (pCall gSum (pCons (pVar 6) (pNil))))
  (pSeq (pSet 9 (pMut ((lc7_law C_Rates))))
  (pSeq (pSet 10 (pDat (pCallL gSorted (pCons (pDat ((lc6_law C_Rates))) (pNil)))))
  (pSeq (pFor (pItL (pDat (pSlL (pVar 10) (pNo) (pSo (pOp gSubI (pVar 3) (pCall gSum (pCons (pVar 9) (pNil)))))))) (qTup 2 (qCons (qName 11) (qCons (qName 12) (qNil)))) ((lp5_law C_Rates)))
  (pSeq (pIf (pOrT (pNotT (pTru (pCallQ q__law_same [] (pCons (pVar 7) (pCons (pVar 9) (pNil)))))) (pOrT (pB (pOp (gIsB true) (pCallQ q_judge_shared [] (pCons (pVar 3) (pCons (pVar 6) (pCons (pDat (pCallL gList (pCons (pVar 7) (pNil)))) (pNil))))) (pC (.bool true)))) (pNotT (pTru (pCallQ q__law_same [] (pCons (pCallQ q_checked_weights [] (pCons (pVar 6) (pNil))) (pCons (pVar 6) (pNil)))))))) (pRet (pC (.bool false))) (pNext))
  (pFor (pRng1 (pC (.int 4))) (qName 13) ((lp4_law C_Rates)))))))))))))
def b_law (C_Rates : Addr) : PSx :=
  pSeq (pFor (pRng1 (pC (.int 4))) (qName 2) ((lp9_law C_Rates)))
  (pSeq (pFor (pItL (pDat (pLst (pCons (pTup (pCons (pC (.int 0)) (pCons (pC (.int 1)) (pNil)))) (pCons (pTup (pCons (pC (.int 1)) (pCons (pC (.int 0)) (pNil)))) (pCons (pTup (pCons (pC (.int 1)) (pCons (pC (.int 1000001)) (pNil)))) (pCons (pTup (pCons (pC (.int 1)) (pNil))) (pCons (pDat (pLst (pCons (pC (.int 1)) (pCons (pC (.int 1)) (pNil))))) (pCons (pTup (pCons (pC (.bool true)) (pCons (pC (.int 1)) (pNil)))) (pCons (pC (.int 5)) (pNil))))))))))) (qName 17) ((lp2_law C_Rates)))
  (pSeq (pFor (pItL (pDat (pLst (pCons (pDat (pLst (pNil))) (pCons (pDat (pLst (pCons (pC (.int 0)) (pNil)))) (pCons (pDat (pLst (pCons (pC (.int 0)) (pCons (pC (.int 0)) (pNil))))) (pCons (pDat (pLst (pCons (pNeg (pC (.int 1))) (pCons (pC (.int 2)) (pNil))))) (pCons (pDat (pLst (pCons (pC (.bool true)) (pNil)))) (pCons (pDat (pLst (pCons (pC (.int 1000001)) (pNil)))) (pCons (pDat ((lc0_law C_Rates))) (pNil))))))))))) (qName 17) ((lp1_law C_Rates)))
  (pSeq (pIf (pOrT (pB (pOp gNeD (pCallQ q__law_refused [] (pCons (pC (.int 0)) (pCons (pCallG f__law_pick [] (pCons (pVar 1) (pCons (pDat (pLst (pCons (pOp gAddI (pOp gPowI (pC (.int 10)) (pC (.int 9))) (pC (.int 1))) (pCons (pC (.bool true)) (pNil))))) (pNil)))) (pCons (pTup (pCons (pC (.int 1)) (pCons (pC (.int 1)) (pNil)))) (pCons (pC (.int 0)) (pNil)))))) (pC (.str "number")))) (pB (pOp gNeD (pCallQ q__law_refused [] (pCons (pC (.int 3)) (pCons (pCallG f__law_pick [] (pCons (pVar 1) (pCons (pDat (pLst (pCons (pNeg (pC (.int 1))) (pCons (pOp gAddI (pOp gPowI (pC (.int 10)) (pC (.int 9))) (pC (.int 1))) (pCons (pC (.bool true)) (pNil)))))) (pNil)))) (pCons (pDat (pLst (pCons (pC (.int 1)) (pNil)))) (pCons (pC (.int 0)) (pNil)))))) (pC (.str "number"))))) (pRet (pC (.bool false))) (pNext))
  (pSeq (pIf (pOrT (pB (pOp gNeD (pCallQ q__law_refused [] (pCons (pC (.int 4)) (pCons (pCallG f__law_pick [] (pCons (pVar 1) (pCons (pDat (pLst (pCons (pNeg (pC (.int 1))) (pCons (pC (.int 100001)) (pCons (pC (.bool true)) (pNil)))))) (pNil)))) (pCons (pC (.str "u")) (pCons (pC (.str "v")) (pNil)))))) (pC (.str "number")))) (pOrT (pB (pOp gNeD (pCallQ q__law_refused [] (pCons (pC (.int 4)) (pCons (pC (.int 1)) (pCons (pC (.str "u")) (pCons (pC (.str "u")) (pNil)))))) (pC (.str "paper")))) (pB (pOp gNeD (pCallQ q__law_refused [] (pCons (pC (.int 4)) (pCons (pC (.int 1)) (pCons (pC (.str "U")) (pCons (pC (.str "v")) (pNil)))))) (pC (.str "paper")))))) (pRet (pC (.bool false))) (pNext))
  (pRet (pAndV (pCallG (f__law_rates_right C_Rates) [] (pCons (pVar 1) (pNil))) (pOp gEqD (pCallQ q_checked_rate [] (pCons (pTup (pCons (pC (.int 3)) (pCons (pC (.int 4)) (pNil)))) (pNil))) (pTup (pCons (pC (.int 3)) (pCons (pC (.int 4)) (pNil)))))))))))
def f0_law (C_Rates : Addr) : PF := runG N_law.length (["script"] : List Str).length (b_law C_Rates)
theorem run_law (C_Rates : Addr) {ws : List W} {M : Ms} (h : ws.length = 1) : f0_law C_Rates ws M = (b_law C_Rates (startS 19 ws) M).toR := runG_pos h
theorem pickE2 {s : Sl} {M M1 : Ms} {j : Nat} {pe : PEx} {ds : List PyData} (h : PoolOk M1) (hs : s[j]? = some (some (.r 0))) (hp : pe s M = .ok (.d (.list ds)) M1) (h1 : 1 ≤ ds.length) (h2 : ds.length ≤ 1000000) : ∃ d M', d ∈ ds ∧ pCallG f__law_pick [] (pCons (pVar j) (pCons pe pNil)) s M = .ok (.d d) M' ∧ Only0 M1 M' := by
  obtain ⟨d, M', a, b, c⟩ := pick_data h h1 h2
  refine ⟨d, M', a, ?_, c⟩
  unfold pCallG
  rw [cons_ok (var_ok hs) (cons_ok hp nil_ok)]
  simp only [R.bind, List.map_nil, List.append_nil]
  exact b
theorem draw1 {s : Sl} {M : Ms} {m : Int} (h : PoolOk M) (hs : s[1]? = some (some (.r 0))) (h0 : 0 < m) (h1 : m ≤ 1000000000) : ∃ v M', pCallG f__law_draw [] (pCons (pVar 1) (pCons (pC (.int m)) pNil)) s M = .ok (.d (.int v)) M' ∧ 0 ≤ v ∧ v < m ∧ Only0 M M' := drawE h hs rfl h0 h1
theorem draw1p {s : Sl} {M : Ms} {m : Int} (h : PoolOk M) (hs : s[1]? = some (some (.r 0))) (h0 : 0 < m) (h1 : m ≤ 1000000) : ∃ v M', pOp gAddI (pC (.int 1)) (pCallG f__law_draw [] (pCons (pVar 1) (pCons (pC (.int m)) pNil))) s M = .ok (.d (.int v)) M' ∧ 1 ≤ v ∧ v ≤ m ∧ Only0 M M' := by
  obtain ⟨v, M', e, v0, v1, o⟩ := draw1 h hs h0 (by omega)
  refine ⟨1 + v, M', ?_, by omega, by omega, o⟩
  rw [op_ok (x := .d (.int 1)) (M' := M) rfl e]
  rfl
theorem Only0.refl {M : Ms} (h : PoolOk M) : Only0 M M := ⟨h, rfl, fun _ _ => rfl⟩
theorem lcL_draws {s : Sl} (hs : s[1]? = some (some (.r 0))) : ∀ (xs acc : List W) (M : Ms), PoolOk M → ∃ (ws : List Int) (M' : Ms), lcL (qName 13) pYes (pCallG f__law_draw [] (pCons (pVar 1) (pCons (pC (.int 5)) pNil))) s xs acc M = .ok (acc ++ ws.map wi) M' ∧ (∀ w ∈ ws, 0 ≤ w ∧ w ≤ 1000000) ∧ ws.length = xs.length ∧ Only0 M M'
  | [], acc, M, h => ⟨[], M, by simp [lcL], fun _ h => (by cases h), rfl, Only0.refl h⟩
  | x :: xs, acc, M, h => by
    have hs' : (s.set 13 (some x))[1]? = some (some (.r 0)) := by rw [List.getElem?_set_ne (by decide)]; exact hs
    obtain ⟨v, M1, e, v0, v1, o⟩ := draw1 (m := 5) h hs' (by decide) (by decide)
    obtain ⟨ws, M', q1, q2, q3, q4⟩ := lcL_draws hs xs (acc ++ [wi v]) M1 o.1
    refine ⟨v :: ws, M', ?_, fun w hw => ?_, by simp [q3], o.trans q4⟩
    · rw [lcL]
      show (match some (s.set 13 (some x)) with | none => R.stuck | some s1 => (pYes s1 M).bindN fun b M1 => if b = true then (pCallG f__law_draw [] (pCons (pVar 1) (pCons (pC (.int 5)) pNil)) s1 M1).bindN fun y M2 => lcL (qName 13) pYes (pCallG f__law_draw [] (pCons (pVar 1) (pCons (pC (.int 5)) pNil))) s xs (acc ++ [y]) M2 else lcL (qName 13) pYes (pCallG f__law_draw [] (pCons (pVar 1) (pCons (pC (.int 5)) pNil))) s xs acc M1) = _
      simp only [pYes, R.bindN, if_true]
      rw [e]
      show lcL (qName 13) pYes (pCallG f__law_draw [] (pCons (pVar 1) (pCons (pC (.int 5)) pNil))) s xs (acc ++ [wi v]) M1 = _
      rw [q1]
      simp
    · rcases List.mem_cons.mp hw with rfl | hw
      · omega
      · exact q2 w hw
theorem lc8_ok {C : Addr} {s : Sl} {M : Ms} (h : PoolOk M) (hs : s[1]? = some (some (.r 0))) : ∃ (ws : List Int) (M' : Ms), lc8_law C s M = .ok (ws.map wi) M' ∧ (∀ w ∈ ws, 0 ≤ w ∧ w ≤ 1000000) ∧ ws.length ≤ 5 ∧ Only0 M M' := by
  obtain ⟨v, M1, e, v0, v1, o⟩ := draw1 (m := 5) h hs (by decide) (by decide)
  obtain ⟨k, rfl⟩ := Int.eq_ofNat_of_zero_le v0
  have z := rng1_okM e (small62 (by omega) (by omega))
  rw [Int.toNat_natCast] at z
  have hs' : (wipeS s [13])[1]? = some (some (.r 0)) := by
    show (s.set 13 none)[1]? = _
    rw [List.getElem?_set_ne (by decide)]
    exact hs
  obtain ⟨ws, M', q1, q2, q3, q4⟩ := lcL_draws hs' (rngW 0 k) [] M1 o.1
  have hl : (rngW 0 k).length = k := by rw [rngW, List.length_map, List.length_range]
  refine ⟨ws, M', ?_, q2, by rw [q3, hl]; omega, o.trans q4⟩
  unfold lc8_law pLc
  rw [z]
  simp only [R.bind]
  rw [if_pos (by rw [hl]; exact Nat.le_trans (show k ≤ 5 by omega) (by decide)), q1]
  rfl
theorem lst_ok {pa : PAx} {s : Sl} {M M' : Ms} {ws : List W} (h : pa s M = .ok ws M') (hz : ws.length ≤ sizeLine) : pLst pa s M = .ok ws M' := by
  unfold pLst
  rw [h]
  simp only [R.bind]
  rw [if_pos hz]
theorem lenM {s : Sl} {M : Ms} {f j : Nat} {l : List Int} (hs : s[f]? = some (some (.r j))) (hM : M[j]? = some (.lst (l.map wi))) : pCall gLen (pCons (pVar f) pNil) s M = .ok (.d (.int l.length)) M := by
  rw [call1 (var_ok hs)]
  simp [gLen, lenW, itemsL, hM]
theorem ixM {s : Sl} {M : Ms} {f a m i : Nat} {l : List Int} (hf : s[f]? = some (some (.r m))) (ha : s[a]? = some (some (wi i))) (hM : M[m]? = some (.lst (l.map wi))) (hi : i < l.length) : pOp gIx (pVar f) (pVar a) s M = .ok (wi (l.getD i 0)) M := by
  rw [op_ok (var_ok hf) (var_ok ha)]
  unfold gIx wi itemsL
  simp only [hM]
  rw [atI_nat, List.getElem?_map, List.getElem?_eq_getElem hi, List.getD_eq_getElem?_getD, List.getElem?_eq_getElem hi]
  rfl
theorem subM {s : Sl} {M : Ms} {f a m i : Nat} {l : List Int} {pe : PEx} {z : Int} (he : pe s M = .ok (wi z) M) (hf : s[f]? = some (some (.r m))) (ha : s[a]? = some (some (wi i))) (hM : M[m]? = some (.lst (l.map wi))) (hi : i < l.length) : pSub pe (pVar f) (pVar a) s M = .nx s (M.set m (.lst ((l.set i z).map wi))) := by
  have h1 : pVar f s M = .ok (.r m) M := var_ok hf
  have h2 : pVar a s M = .ok (wi i) M := var_ok ha
  have hix : ixN (l.map wi).length (i : Int) = some i := ixN_nat (by rw [List.length_map]; exact hi)
  unfold pSub
  simp only [he, h1, h2, R.to]
  show (match M[m]? with | some (.lst ws) => (match ixN ws.length (i : Int) with | some k => O.nx s (M.set m (.lst (ws.set k (wi z)))) | none => .stuck) | _ => .stuck) = _
  rw [hM]
  show (match ixN (l.map wi).length (i : Int) with | some k => O.nx s (M.set m (.lst ((l.map wi).set k (wi z)))) | none => .stuck) = _
  rw [hix, List.map_set]
theorem atE {s : Sl} {M : Ms} {j : Nat} {l : List Int} (hp : PoolOk M) (h1 : s[1]? = some (some (.r 0))) (h14 : s[14]? = some (some (.r j))) (hj : j ≠ 0) (hM : M[j]? = some (.lst (l.map wi))) (hl : l.length ≤ 1000000) :
    ∃ (a : Nat) (M' : Ms), pIfE (pB (pOp gGtI (pCall gLen (pCons (pVar 14) (pNil))) (pC (.int 0)))) (pCallG f__law_draw [] (pCons (pVar 1) (pCons (pCall gLen (pCons (pVar 14) (pNil))) (pNil)))) (pC (.int 0)) s M = .ok (wi a) M' ∧ (0 < l.length → a < l.length) ∧ Only0 M M' := by
  have ln := lenM h14 hM
  have tst : pB (pOp gGtI (pCall gLen (pCons (pVar 14) (pNil))) (pC (.int 0))) s M = .ok (decide (0 < (l.length : Int))) M := by
    unfold pB
    rw [op_ok ln rfl]
    rfl
  by_cases h : 0 < l.length
  · obtain ⟨v, M', e, v0, v1, o⟩ := drawE hp h1 ln (by omega) (by omega)
    obtain ⟨a, rfl⟩ := Int.eq_ofNat_of_zero_le v0
    refine ⟨a, M', ?_, fun _ => by omega, o⟩
    unfold pIfE
    rw [tst]
    have : decide (0 < (l.length : Int)) = true := by simpa using h
    simp only [R.bind, this, if_true]
    exact e
  · refine ⟨0, M, ?_, fun z => absurd z h, Only0.refl hp⟩
    unfold pIfE
    rw [tst]
    have : decide (0 < (l.length : Int)) = false := decide_eq_false (by omega)
    simp only [R.bind, this, Bool.false_eq_true, if_false]
    rfl
theorem pool_set {M : Ms} {j : Nat} {x : MO} (h : PoolOk M) (hj : j ≠ 0) : PoolOk (M.set j x) := by
  obtain ⟨ns, p1, p2, p3, p4, w1, w2⟩ := h
  exact ⟨ns, p1, p2, p3, p4, by rw [List.getElem?_set_ne hj]; exact w1, w2⟩
theorem pool_app {M : Ms} {x : Ms} (h : PoolOk M) : PoolOk (M ++ x) := by
  obtain ⟨ns, p1, p2, p3, p4, w1, w2⟩ := h
  exact ⟨ns, p1, p2, p3, p4, by rw [List.getElem?_append_left (List.getElem?_eq_some_iff.mp w1).1]; exact w1, w2⟩
structure SomeAt (s : Sl) (M : Ms) (B : Nat) : Prop where
  pool : PoolOk M
  len : s.length = 19
  s1 : s[1]? = some (some (.r 0))
  ex : ∃ (j : Nat) (l : List Int), s[14]? = some (some (.r j)) ∧ j ≠ 0 ∧ M[j]? = some (.lst (l.map wi)) ∧ l.length ≤ B
theorem lp3_ok {C : Addr} {s : Sl} {M : Ms} {B : Nat} (h : SomeAt s M B) (hB : B ≤ 1000) : ∃ s' M', lp3_law C s M = .nx s' M' ∧ SomeAt s' M' (B + 1) ∧ ∀ i, i ≠ 12 → i ≠ 14 → i ≠ 16 → s'[i]? = s[i]? := by
  obtain ⟨j, l, h14, hj, hM, hl⟩ := h.ex
  unfold lp3_law
  obtain ⟨a, M1, e1, a1, o1⟩ := atE h.pool h.s1 h14 hj hM (by omega)
  have q1 : (s.set 12 (some (wi a)))[1]? = some (some (.r 0)) := by rw [List.getElem?_set_ne (by decide)]; exact h.s1
  have q14 : (s.set 12 (some (wi a)))[14]? = some (some (.r j)) := by rw [List.getElem?_set_ne (by decide)]; exact h14
  have hM1 : M1[j]? = some (.lst (l.map wi)) := (o1.2.2 j hj).trans hM
  obtain ⟨b, M2, e2, b1, o2⟩ := atE o1.1 q1 q14 hj hM1 (by omega)
  have hM2 : M2[j]? = some (.lst (l.map wi)) := (o2.2.2 j hj).trans hM1
  rw [seq_nx (set_ok e1), seq_nx (set_ok e2)]
  obtain ⟨t, ht⟩ : ∃ t, t = (s.set 12 (some (wi a))).set 16 (some (wi b)) := ⟨_, rfl⟩
  rw [← ht]
  have tl : t.length = 19 := by rw [ht]; simp [h.len]
  have t1 : t[1]? = some (some (.r 0)) := by rw [ht, List.getElem?_set_ne (by decide)]; exact q1
  have t14 : t[14]? = some (some (.r j)) := by rw [ht, List.getElem?_set_ne (by decide)]; exact q14
  have t12 : t[12]? = some (some (wi a)) := by rw [ht, List.getElem?_set_ne (by decide)]; exact List.getElem?_set_self (by rw [h.len]; decide)
  have t16 : t[16]? = some (some (wi b)) := by rw [ht]; exact List.getElem?_set_self (by rw [List.length_set, h.len]; decide)
  have tk : ∀ i, i ≠ 12 → i ≠ 16 → t[i]? = s[i]? := fun i h1 h2 => by rw [ht, List.getElem?_set_ne (Ne.symm h2), List.getElem?_set_ne (Ne.symm h1)]
  have ln := lenM t14 hM2
  have tst : pB (pOp gGtI (pCall gLen (pCons (pVar 14) (pNil))) (pC (.int 0))) t M2 = .ok (decide (0 < (l.length : Int))) M2 := by
    unfold pB
    rw [op_ok ln rfl]
    rfl
  have alt : ∀ M3, PoolOk M3 → M3[j]? = some (.lst (l.map wi)) → ∃ s' M', pSet 14 (pCallG f__law_pick [] (pCons (pVar 1) (pCons (pMut (pLst (pCons (pMut (pSlL (pVar 14) (pSo (pC (.int 1))) (pNo))) (pCons (pMut (pCat (pVar 14) (pDat (pLst (pCons (pC (.int 0)) (pNil)))))) (pCons (pMut (pListRev (pVar 14))) (pNil)))))) (pNil)))) t M3 = .nx s' M' ∧ SomeAt s' M' (B + 1) ∧ ∀ i, i ≠ 14 → s'[i]? = t[i]? := fun M3 hp3 hM3 => by
    have hj3 : j < M3.length := (List.getElem?_eq_some_iff.mp hM3).1
    have z1 : 1 ≤ sizeLine := by decide
    have m1 : pMut (pSlL (pVar 14) (pSo (pC (.int 1))) (pNo)) t M3 = .ok (.r M3.length) (M3 ++ [.lst ((cutW l (some 1) none).map wi)]) := by
      refine mut_ok ?_
      unfold pSlL
      rw [var_ok t14]
      show (match itemsL M3 (.r j) with | some ws => R.ok (cutW ws (some 1) none) M3 | none => .stuck) = _
      unfold itemsL
      simp only [hM3]
      rw [cutW_map]
    have hMa : (M3 ++ [.lst ((cutW l (some 1) none).map wi)])[j]? = some (.lst (l.map wi)) := by rw [List.getElem?_append_left hj3]; exact hM3
    have m2 : pMut (pCat (pVar 14) (pDat (pLst (pCons (pC (.int 0)) (pNil))))) t (M3 ++ [.lst ((cutW l (some 1) none).map wi)]) = .ok (.r (M3.length + 1)) (M3 ++ [.lst ((cutW l (some 1) none).map wi)] ++ [.lst ((l ++ [0]).map wi)]) := by
      have z : pCat (pVar 14) (pDat (pLst (pCons (pC (.int 0)) (pNil)))) t (M3 ++ [.lst ((cutW l (some 1) none).map wi)]) = .ok ((l ++ [0]).map wi) (M3 ++ [.lst ((cutW l (some 1) none).map wi)]) := by
        have e0 : pDat (pLst (pCons (pC (.int 0)) pNil)) t (M3 ++ [.lst ((cutW l (some 1) none).map wi)]) = .ok (.d (.list [.int 0])) (M3 ++ [.lst ((cutW l (some 1) none).map wi)]) := by simp [z1, pSeq, pNext, pIf, pSet, pDrop, pRet, pRetN, pAsg, pVar, pC, pK, pCons, pNil, pTup, pLst, pDat, pMut, pOp, pB, pChain, pAndT, pOrT, pNotT, pAndV, pOrV, pNotV, pTru, pIfE, pNeg, pCall, pCallL, pCallQ, pCallG, pRaise, R.bind, R.to, R.bindN, O.toR, PR.to, truth, allD, view, viewAll, itemsL, itemsT, lenW, tagD, tagW, isTy, tyOk, scalar, R.freeze, pFor, pItL, pItT, pItS, pRng1, pRng2, qName, qNil, qCons, qTup, pSub, pNo, pSo, pYes, pBrk, pCnt, startS, clearO, gInt, gAddI, gSubI, gLtI, gLeI, gGtI, gGeI, gEqD, gNeD, gIsN, gIsB, gStr, gIsi, gLen, gAbs, gInt1, gMin2, gMax2, gSum, gMaxI, gMinI, gList, gSorted, gIx, gInD, isNonD, viewI, catW, pCat, gMaxT, pFld, pSetF, pMeth, pMake, insOf, putW, noAtt, pTry, pListRev, pSlL, pSlT, pIsi2, allD_nil, eqv_int, shaped_int, allD_ints, allD_map, intsOf_map]
        unfold pCat
        rw [var_ok t14]
        simp only [R.bind]
        rw [e0]
        simp only [R.bind, catW, itemsL, hMa]
        rw [if_pos (by
          simp only [List.length_map, List.length_cons, List.length_nil]
          exact Nat.le_trans (Nat.add_le_add_right (Nat.le_trans hl hB) 1) (by decide))]
        rw [List.map_append]
        rfl
      have := mut_ok z
      rw [this]
      simp
    have hMb : (M3 ++ [.lst ((cutW l (some 1) none).map wi)] ++ [.lst ((l ++ [0]).map wi)])[j]? = some (.lst (l.map wi)) := by rw [List.append_assoc, List.getElem?_append_left hj3]; exact hM3
    have m3 : pMut (pListRev (pVar 14)) t (M3 ++ [.lst ((cutW l (some 1) none).map wi)] ++ [.lst ((l ++ [0]).map wi)]) = .ok (.r (M3.length + 2)) (M3 ++ [.lst ((cutW l (some 1) none).map wi)] ++ [.lst ((l ++ [0]).map wi)] ++ [.lst (l.reverse.map wi)]) := by
      have z : pListRev (pVar 14) t (M3 ++ [.lst ((cutW l (some 1) none).map wi)] ++ [.lst ((l ++ [0]).map wi)]) = .ok (l.reverse.map wi) (M3 ++ [.lst ((cutW l (some 1) none).map wi)] ++ [.lst ((l ++ [0]).map wi)]) := by
        unfold pListRev
        rw [var_ok t14]
        simp only [R.bind, itemsL, hMb]
        rw [List.map_reverse]
      have := mut_ok z
      rw [this]
      simp
    obtain ⟨M4, hM4⟩ : ∃ M4, M4 = M3 ++ [.lst ((cutW l (some 1) none).map wi)] ++ [.lst ((l ++ [0]).map wi)] ++ [.lst (l.reverse.map wi)] := ⟨_, rfl⟩
    rw [← hM4] at m3
    have m4 : pMut (pLst (pCons (pMut (pSlL (pVar 14) (pSo (pC (.int 1))) (pNo))) (pCons (pMut (pCat (pVar 14) (pDat (pLst (pCons (pC (.int 0)) (pNil)))))) (pCons (pMut (pListRev (pVar 14))) (pNil))))) t M3 = .ok (.r M4.length) (M4 ++ [.lst [.r M3.length, .r (M3.length + 1), .r (M3.length + 2)]]) := by
      exact mut_ok (lst_ok (cons_ok m1 (cons_ok m2 (cons_ok m3 nil_ok))) (by show 3 ≤ sizeLine; decide))
    have p4 : PoolOk (M4 ++ [.lst [.r M3.length, .r (M3.length + 1), .r (M3.length + 2)]]) := by
      refine pool_app ?_
      rw [hM4, List.append_assoc, List.append_assoc]
      exact pool_app hp3
    have l4 : M4.length = M3.length + 3 := by rw [hM4]; simp
    have g : ∀ w ∈ [W.r M3.length, .r (M3.length + 1), .r (M3.length + 2)], ∃ (j' : Nat) (l' : List Int), w = .r j' ∧ j' ≠ 0 ∧ (M4 ++ [.lst [.r M3.length, .r (M3.length + 1), .r (M3.length + 2)]])[j']? = some (.lst (l'.map wi)) ∧ l'.length ≤ B + 1 := fun w hw => by
      simp only [List.mem_cons, List.not_mem_nil, or_false] at hw
      rcases hw with rfl | rfl | rfl
      · refine ⟨M3.length, cutW l (some 1) none, rfl, by omega, ?_, Nat.le_trans (cutW_len _ _ _) (by omega)⟩
        rw [List.getElem?_append_left (by omega), hM4]
        simp
      · refine ⟨M3.length + 1, l ++ [0], rfl, by omega, ?_, by simp; omega⟩
        rw [List.getElem?_append_left (by omega), hM4]
        simp [List.getElem?_append]
      · refine ⟨M3.length + 2, l.reverse, rfl, by omega, ?_, by simp; omega⟩
        rw [List.getElem?_append_left (by omega), hM4]
        simp [List.getElem?_append]
    obtain ⟨w, M5, hw, e5, o5⟩ := pick_mut (M := M4 ++ [.lst [.r M3.length, .r (M3.length + 1), .r (M3.length + 2)]]) (j := M4.length) (ws := [.r M3.length, .r (M3.length + 1), .r (M3.length + 2)]) p4 (by omega) (by simp) (by show 1 ≤ 3; decide) (by show 3 ≤ 1000000; decide)
    obtain ⟨j', l', rfl, hj', hM', hl'⟩ := g w hw
    refine ⟨t.set 14 (some (.r j')), M5, ?_, ⟨o5.1, by simp [tl], by rw [List.getElem?_set_ne (by decide)]; exact t1, j', l', List.getElem?_set_self (by rw [tl]; decide), hj', (o5.2.2 j' hj').trans hM', hl'⟩, fun i hi => List.getElem?_set_ne (Ne.symm hi)⟩
    refine set_ok ?_
    unfold pCallG
    rw [cons_ok (var_ok t1) (cons_ok m4 nil_ok)]
    simp only [R.bind, List.map_nil, List.append_nil]
    exact e5
  by_cases hpos : 0 < l.length
  · have dp : decide (0 < (l.length : Int)) = true := by simpa using hpos
    obtain ⟨v, M3, e3, v0, v1, o3⟩ := draw1 (m := 3) o2.1 t1 (by decide) (by decide)
    have hM3 : M3[j]? = some (.lst (l.map wi)) := (o3.2.2 j hj).trans hM2
    have tst2 : pAndT (pB (pOp gGtI (pCall gLen (pCons (pVar 14) (pNil))) (pC (.int 0)))) (pB (pOp gGtI (pCallG f__law_draw [] (pCons (pVar 1) (pCons (pC (.int 3)) (pNil)))) (pC (.int 0)))) t M2 = .ok (decide (0 < v)) M3 := by
      unfold pAndT
      rw [tst]
      simp only [R.bind, dp, if_true]
      unfold pB
      rw [op_ok e3 rfl]
      rfl
    by_cases hv : 0 < v
    · rw [if_tt (by rw [tst2, decide_eq_true hv])]
      have k1 := subM (pe := pOp gAddI (pOp gIx (pVar 14) (pVar 12)) (pC (.int 1))) (z := l.getD a 0 + 1) (by
        rw [op_ok (ixM t14 t12 hM3 (a1 hpos)) rfl]
        rfl) t14 t12 hM3 (a1 hpos)
      rw [seq_nx k1]
      have hj3 : j < M3.length := (List.getElem?_eq_some_iff.mp hM3).1
      have hM4 : (M3.set j (.lst ((l.set a (l.getD a 0 + 1)).map wi)))[j]? = some (.lst ((l.set a (l.getD a 0 + 1)).map wi)) := List.getElem?_set_self hj3
      have hb : b < (l.set a (l.getD a 0 + 1)).length := by rw [List.length_set]; exact b1 hpos
      have k2 := subM (pe := pOp gSubI (pOp gIx (pVar 14) (pVar 16)) (pC (.int 1))) (z := (l.set a (l.getD a 0 + 1)).getD b 0 - 1) (by
        rw [op_ok (ixM t14 t16 hM4 hb) rfl]
        rfl) t14 t16 hM4 hb
      refine ⟨t, _, k2, ⟨pool_set (pool_set o3.1 hj) hj, tl, t1, j, _, t14, hj, List.getElem?_set_self (by rw [List.length_set]; exact hj3), ?_⟩, fun i h1 h2 h3 => tk i h1 h3⟩
      rw [List.length_set, List.length_set]
      omega
    · rw [if_ff (by rw [tst2, decide_eq_false hv])]
      obtain ⟨s', M', e, sa, sk⟩ := alt M3 o3.1 hM3
      exact ⟨s', M', e, sa, fun i h1 h2 h3 => (sk i h2).trans (tk i h1 h3)⟩
  · have dp : decide (0 < (l.length : Int)) = false := decide_eq_false (by omega)
    rw [if_ff (M' := M2) (by
      unfold pAndT
      rw [tst]
      simp only [R.bind, dp]
      rfl)]
    obtain ⟨s', M', e, sa, sk⟩ := alt M2 o2.1 hM2
    exact ⟨s', M', e, sa, fun i h1 h2 h3 => (sk i h2).trans (tk i h1 h3)⟩
theorem call_view {q : List PyData → PR} {s : Sl} {M : Ms} {n : Int} {ns l : List Int} {j : Nat} {b : Bool} (h3 : s[3]? = some (some (.d (.int n)))) (h6 : s[6]? = some (some (.d (.list (ns.map .int))))) (h14 : s[14]? = some (some (.r j))) (hM : M[j]? = some (.lst (l.map wi))) (hq : q [.int n, .list (ns.map .int), .list (l.map .int)] = .ok (.bool b)) :
    pCallQ q [] (pCons (pVar 3) (pCons (pVar 6) (pCons (pVar 14) (pNil)))) s M = .ok (.d (.bool b)) M := by
  unfold pCallQ
  rw [cons_ok (var_ok h3) (cons_ok (var_ok h6) (cons_ok (var_ok h14) nil_ok))]
  have e1 : allD [W.d (.int n), .d (.list (ns.map .int)), .r j] = none := rfl
  have e2 : viewAll M [W.d (.int n), .d (.list (ns.map .int)), .r j] = some [.int n, .list (ns.map .int), .list (l.map .int)] := by
    simp [viewAll, view, hM, allD_wi]
  simp only [R.bind, e1, e2, List.append_nil, hq]
  rfl
theorem lp4_ok {C : Addr} {s : Sl} {M : Ms} {n : Int} {ns ts : List Int} (hp : PoolOk M) (hlen : s.length = 19) (h1 : s[1]? = some (some (.r 0))) (h3 : s[3]? = some (some (.d (.int n)))) (h6 : s[6]? = some (some (.d (.list (ns.map .int))))) (h7 : s[7]? = some (some (.d (.list (ts.map .int)))))
    (hw : wOk (ns.map .int) = true) (n0 : 0 ≤ n) (n1 : n ≤ 1000000000) (ht : ts.length ≤ 100) : ∃ s' M', lp4_law C s M = .nx s' M' ∧ PoolOk M' ∧ s'.length = 19 ∧ ∀ i, i < 12 → s'[i]? = s[i]? := by
  unfold lp4_law
  have e0 : pMut (pCallL gList (pCons (pVar 7) (pNil))) s M = .ok (.r M.length) (M ++ [.lst (ts.map wi)]) := by
    refine mut_ok ?_
    rw [callL1 (var_ok h7)]
    show R.ok ((ts.map PyData.int).map W.d) M = _
    rw [List.map_map]
    rfl
  rw [seq_nx (set_ok e0)]
  have hM0 : M.length ≠ 0 := by
    obtain ⟨_, _, _, _, _, w1, _⟩ := hp
    have := (List.getElem?_eq_some_iff.mp w1).1
    omega
  have p1 : PoolOk (M ++ [.lst (ts.map wi)]) := pool_app hp
  have q1 : (s.set 14 (some (.r M.length)))[1]? = some (some (.r 0)) := by rw [List.getElem?_set_ne (by decide)]; exact h1
  obtain ⟨v, M2, e2, v0, v1, o2⟩ := draw1 (m := 3) p1 q1 (by decide) (by decide)
  obtain ⟨k, rfl⟩ := Int.eq_ofNat_of_zero_le v0
  have it := rng1_okM e2 (small62 (by omega) (by omega))
  rw [Int.toNat_natCast] at it
  have sa : SomeAt (s.set 14 (some (.r M.length))) M2 100 := ⟨o2.1, by simp [hlen], q1, M.length, ts, List.getElem?_set_self (by rw [hlen]; decide), hM0, by rw [o2.2.2 _ hM0]; simp, ht⟩
  obtain ⟨s3, M3, e3, h3'⟩ := forL_keepN (g := qName 15) (b := lp3_law C) (I := fun k t M => SomeAt t M (100 + k) ∧ ∀ i, i < 12 → t[i]? = s[i]?) 100 (rngW 0 k) 0 (s.set 14 (some (.r M.length))) M2 (by rw [rngW, List.length_map, List.length_range]; omega) ⟨sa, fun i hi => List.getElem?_set_ne (by omega)⟩ fun x _ k t M hk ⟨ha, hb⟩ => by
    have ha' : SomeAt (t.set 15 (some x)) M (100 + k) := by
      obtain ⟨j, l, a1, a2, a3, a4⟩ := ha.ex
      exact ⟨ha.pool, by rw [List.length_set]; exact ha.len, by rw [List.getElem?_set_ne (by decide)]; exact ha.s1, j, l, by rw [List.getElem?_set_ne (by decide)]; exact a1, a2, a3, a4⟩
    obtain ⟨t', M', e, c1, c2⟩ := lp3_ok (C := C) ha' (by omega)
    refine ⟨_, t', M', rfl, e, c1, fun i hi => ?_⟩
    rw [c2 i (by omega) (by omega) (by omega), List.getElem?_set_ne (by omega)]
    exact hb i hi
  rw [seq_nx ((for_ok it).trans e3)]
  obtain ⟨sa3, sk3⟩ := h3'
  obtain ⟨j, l, a1, a2, a3, a4⟩ := sa3.ex
  have hl : l.length ≤ 1000000 := by rw [rngW, List.length_map, List.length_range] at a4; omega
  have g3 : s3[3]? = some (some (.d (.int n))) := (sk3 3 (by decide)).trans h3
  have g6 : s3[6]? = some (some (.d (.list (ns.map .int)))) := (sk3 6 (by decide)).trans h6
  have qj : q_judge_shared [.int n, .list (ns.map .int), .list (l.map .int)] = .ok (.bool (goodB n ns l)) := by
    unfold q_judge_shared
    simp only [intsOf_map]
    rw [if_pos ⟨hw, n0, n1, hl⟩]
  have qg : q__law_good [.int n, .list (ns.map .int), .list (l.map .int)] = .ok (.bool (goodB n ns l)) := by
    unfold q__law_good
    simp only [intsOf_map]
    rw [if_pos ⟨hw, n0, n1, hl⟩]
  refine ⟨s3, M3, ?_, sa3.pool, sa3.len, sk3⟩
  rw [if_ff (M' := M3) (same_true (d := .bool (goodB n ns l)) (call_view g3 g6 a1 a3 qj) (call_view g3 g6 a1 a3 qg) rfl)]
  rfl
theorem call_data {q : List PyData → PR} {pa : PAx} {s : Sl} {M M' : Ms} {ds : List PyData} (h : pa s M = .ok (ds.map W.d) M') : pCallQ q [] pa s M = (q ds).to M' := by
  unfold pCallQ
  rw [h]
  simp only [R.bind, allD_map, List.append_nil]
theorem has_set {s : Sl} {i k : Nat} {x : Option (Option W)} {y : Option W} (h : s[i]? = x) (ne : k ≠ i) : (s.set k y)[i]? = x := by rw [List.getElem?_set_ne ne]; exact h
theorem set_has {s : Sl} {k : Nat} {x : W} (hl : s.length = 19) (hk : k < 19) : (s.set k (some x))[k]? = some (some x) := List.getElem?_set_self (by omega)
theorem pow9 {s : Sl} {M : Ms} : pOp gPowI (pC (.int 10)) (pC (.int 9)) s M = .ok (.d (.int 1000000000)) M := by
  rw [op_ok (x := .d (.int 10)) (y := .d (.int 9)) (M' := M) (M'' := M) rfl rfl]
  have z := pow10_ok (j := 9) (M := M) (by decide)
  simpa using z
theorem amount_ok {s : Sl} {M : Ms} (hp : PoolOk M) (h1 : s[1]? = some (some (.r 0))) : ∃ n M', pCallG f__law_pick [] (pCons (pVar 1) (pCons (pDat (pLst (pCons (pCallG f__law_draw [] (pCons (pVar 1) (pCons (pC (.int 60)) (pNil)))) (pCons (pCallG f__law_draw [] (pCons (pVar 1) (pCons (pOp gPowI (pC (.int 10)) (pC (.int 9))) (pNil)))) (pCons (pOp gPowI (pC (.int 10)) (pC (.int 9))) (pNil)))))) (pNil))) s M = .ok (.d (.int n)) M' ∧ 0 ≤ n ∧ n ≤ 1000000000 ∧ PoolOk M' := by
  obtain ⟨v1, M1, e1, a1, a2, o1⟩ := draw1 (m := 60) hp h1 (by decide) (by decide)
  obtain ⟨v2, M2, e2, b1, b2, o2⟩ := drawE (s := s) (M := M1) (j := 1) (pe := pOp gPowI (pC (.int 10)) (pC (.int 9))) (many := 1000000000) o1.1 h1 pow9 (by decide) (by decide)
  have el : pDat (pLst (pCons (pCallG f__law_draw [] (pCons (pVar 1) (pCons (pC (.int 60)) (pNil)))) (pCons (pCallG f__law_draw [] (pCons (pVar 1) (pCons (pOp gPowI (pC (.int 10)) (pC (.int 9))) (pNil)))) (pCons (pOp gPowI (pC (.int 10)) (pC (.int 9))) (pNil))))) s M = .ok (.d (.list [.int v1, .int v2, .int 1000000000])) M2 :=
    dat_ok (lst_ok (cons_ok e1 (cons_ok e2 (cons_ok pow9 nil_ok))) (by show 3 ≤ sizeLine; decide)) rfl
  obtain ⟨d, M3, hd, e3, o3⟩ := pickE2 (ds := [.int v1, .int v2, .int 1000000000]) o2.1 h1 el (by show 1 ≤ 3; decide) (by show 3 ≤ 1000000; decide)
  simp only [List.mem_cons, List.not_mem_nil, or_false] at hd
  rcases hd with rfl | rfl | rfl
  · exact ⟨v1, M3, e3, a1, by omega, o3.1⟩
  · exact ⟨v2, M3, e3, b1, by omega, o3.1⟩
  · exact ⟨_, M3, e3, by decide, by decide, o3.1⟩
theorem ne_str {x : Str} {M : Ms} (h : PyData.strOk x = true) : gNeD (.d (.str x)) (.d (.str x)) M = .ok (.d (.bool false)) M := by
  unfold gNeD
  simp [view, shaped_str h, str_eq]
theorem rates_checks {s : Sl} {M : Ms} {n o u : Int} (h3 : s[3]? = some (some (.d (.int n)))) (h4 : s[4]? = some (some (.d (.tuple [.int o, .int u])))) (h5 : s[5]? = some (some (.d (.int ((n * o).fdiv u))))) (n0 : 0 ≤ n) (n1 : n ≤ 1000000000) (o0 : 1 ≤ o) (o1 : o ≤ 9) (u0 : 1 ≤ u) (u1 : u ≤ 9) :
    (pIf (pB (pOp gLeI (pVar 5) (pOp gPowI (pC (.int 10)) (pC (.int 9))))) (pIf (pOrT (pNotT (pTru (pCallQ q__law_same [] (pCons (pCallQ q_changed [] (pCons (pVar 3) (pCons (pVar 4) (pNil)))) (pCons (pVar 5) (pNil)))))) (pOrT (pNotT (pTru (pCallQ q__law_same [] (pCons (pCallQ q_changed [] (pCons (pOp gSubI (pC (.int 0)) (pVar 3)) (pCons (pVar 4) (pNil)))) (pCons (pOp gSubI (pC (.int 0)) (pVar 5)) (pNil)))))) (pNotT (pTru (pCallQ q__law_same [] (pCons (pCallQ q_rest_of [] (pCons (pVar 3) (pCons (pVar 4) (pNil)))) (pCons (pTup (pCons (pOp gSubI (pOp gMulI (pVar 3) (pOp gIx (pVar 4) (pC (.int 0)))) (pOp gMulI (pVar 5) (pOp gIx (pVar 4) (pC (.int 1))))) (pCons (pOp gIx (pVar 4) (pC (.int 1))) (pNil)))) (pNil)))))))) (pRet (pC (.bool false))) (pNext)) (pIf (pB (pOp gNeD (pCallQ q__law_refused [] (pCons (pC (.int 0)) (pCons (pVar 3) (pCons (pVar 4) (pCons (pC (.int 0)) (pNil)))))) (pC (.str "number")))) (pRet (pC (.bool false))) (pNext))) s M = .nx s M := by
  have f0 : 0 ≤ (n * o).fdiv u := Int.fdiv_nonneg (Int.mul_nonneg n0 (by omega)) (by omega)
  have am : isAmountD (.int n) = true := by simp [isAmountD, isNumberD]; omega
  have am' : isAmountD (.int (0 - n)) = true := by simp [isAmountD, isNumberD]; omega
  have ra : rateOk (.tuple [.int o, .int u]) = true := by simp [rateOk, isNumberD]; omega
  have ab : absI n = n := if_neg (by omega)
  have ab' : absI (0 - n) = n := by unfold absI; split <;> omega
  have tst : pB (pOp gLeI (pVar 5) (pOp gPowI (pC (.int 10)) (pC (.int 9)))) s M = .ok (decide ((n * o).fdiv u ≤ 1000000000)) M := by
    unfold pB
    rw [op_ok (var_ok h5) pow9]
    rfl
  by_cases hc : (n * o).fdiv u ≤ 1000000000
  · rw [if_tt (by rw [tst, decide_eq_true hc])]
    have c1 : q_changed [.int n, .tuple [.int o, .int u]] = .ok (.int ((n * o).fdiv u)) := by
      simp only [q_changed, am, ra, if_true, changedD, ab]
      rw [if_neg (by omega), if_pos n0]
    have c2 : q_changed [.int (0 - n), .tuple [.int o, .int u]] = .ok (.int (0 - (n * o).fdiv u)) := by
      simp only [q_changed, am', ra, if_true, changedD, ab']
      rw [if_neg (by omega)]
      by_cases hz : n = 0
      · subst hz
        simp
      · rw [if_neg (by omega), Int.zero_sub]
    have c3 : q_rest_of [.int n, .tuple [.int o, .int u]] = .ok (.tuple [.int (n * o - (n * o).fdiv u * u), .int u]) := by
      unfold q_rest_of
      exact if_pos ⟨n0, n1, by omega, by omega, by omega, by omega, hc⟩
    have k1 : pCallQ q_changed [] (pCons (pVar 3) (pCons (pVar 4) (pNil))) s M = .ok (.d (.int ((n * o).fdiv u))) M := by
      rw [call_data (ds := [.int n, .tuple [.int o, .int u]]) (cons_ok (var_ok h3) (cons_ok (var_ok h4) nil_ok)), c1]
      rfl
    have sb : pOp gSubI (pC (.int 0)) (pVar 3) s M = .ok (.d (.int (0 - n))) M := by
      rw [op_ok (x := .d (.int 0)) (M' := M) rfl (var_ok h3)]
      rfl
    have sb5 : pOp gSubI (pC (.int 0)) (pVar 5) s M = .ok (.d (.int (0 - (n * o).fdiv u))) M := by
      rw [op_ok (x := .d (.int 0)) (M' := M) rfl (var_ok h5)]
      rfl
    have k2 : pCallQ q_changed [] (pCons (pOp gSubI (pC (.int 0)) (pVar 3)) (pCons (pVar 4) (pNil))) s M = .ok (.d (.int (0 - (n * o).fdiv u))) M := by
      rw [call_data (ds := [.int (0 - n), .tuple [.int o, .int u]]) (cons_ok sb (cons_ok (var_ok h4) nil_ok)), c2]
      rfl
    have k3 : pCallQ q_rest_of [] (pCons (pVar 3) (pCons (pVar 4) (pNil))) s M = .ok (.d (.tuple [.int (n * o - (n * o).fdiv u * u), .int u])) M := by
      rw [call_data (ds := [.int n, .tuple [.int o, .int u]]) (cons_ok (var_ok h3) (cons_ok (var_ok h4) nil_ok)), c3]
      rfl
    have i0 : pOp gIx (pVar 4) (pC (.int 0)) s M = .ok (.d (.int o)) M := by
      rw [op_ok (y := .d (.int 0)) (M'' := M) (var_ok h4) rfl]
      rfl
    have i1 : pOp gIx (pVar 4) (pC (.int 1)) s M = .ok (.d (.int u)) M := by
      rw [op_ok (y := .d (.int 1)) (M'' := M) (var_ok h4) rfl]
      rfl
    have t1 : pOp gSubI (pOp gMulI (pVar 3) (pOp gIx (pVar 4) (pC (.int 0)))) (pOp gMulI (pVar 5) (pOp gIx (pVar 4) (pC (.int 1)))) s M = .ok (.d (.int (n * o - (n * o).fdiv u * u))) M := by
      rw [op_ok (x := .d (.int (n * o))) (y := .d (.int ((n * o).fdiv u * u))) (M' := M) (M'' := M) (by rw [op_ok (var_ok h3) i0]; exact mul_ok (.inr (by omega))) (by rw [op_ok (var_ok h5) i1]; exact mul_ok (.inr (by omega)))]
      rfl
    have k4 : pTup (pCons (pOp gSubI (pOp gMulI (pVar 3) (pOp gIx (pVar 4) (pC (.int 0)))) (pOp gMulI (pVar 5) (pOp gIx (pVar 4) (pC (.int 1))))) (pCons (pOp gIx (pVar 4) (pC (.int 1))) (pNil))) s M = .ok (.d (.tuple [.int (n * o - (n * o).fdiv u * u), .int u])) M := by
      unfold pTup
      rw [cons_ok t1 (cons_ok i1 nil_ok)]
      have z2 : 2 ≤ sizeLine := by decide
      simp [R.bind, allD, z2]
    rw [if_ff (M' := M) (by
      unfold pOrT
      rw [same_true k1 (var_ok h5) rfl]
      simp only [R.bind, Bool.false_eq_true, if_false]
      rw [same_true k2 sb5 rfl]
      simp only [R.bind, Bool.false_eq_true, if_false]
      exact same_true k3 k4 rfl)]
    rfl
  · rw [if_ff (by rw [tst, decide_eq_false hc])]
    have kr : refKind 0 (.int n) (.tuple [.int o, .int u]) (.int 0) = some "number" := by
      unfold refKind
      simp only [am, ra, ab]
      simp
      omega
    have k1 : pCallQ q__law_refused [] (pCons (pC (.int 0)) (pCons (pVar 3) (pCons (pVar 4) (pCons (pC (.int 0)) (pNil))))) s M = .ok (.d (.str "number")) M := by
      rw [call_data (ds := [.int 0, .int n, .tuple [.int o, .int u], .int 0]) (cons_ok rfl (cons_ok (var_ok h3) (cons_ok (var_ok h4) (cons_ok rfl nil_ok))))]
      unfold q__law_refused
      simp only [kr]
      rfl
    rw [if_ff (M' := M) (by
      unfold pB
      rw [op_ok (y := .d (.str "number")) (M'' := M) k1 rfl, ne_str (by decide +kernel)]
      rfl)]
    rfl
theorem refused_false {C c : Int} {a b d : PyData} {x : Str} {pa : PAx} {s : Sl} {M M' : Ms} (h : pa s M = .ok [.d (.int c), .d a, .d b, .d d] M') (hk : refKind c a b d = some x) (hx : PyData.strOk x = true) : pB (pOp gNeD (pCallQ q__law_refused [] pa) (pC (.str x))) s M = .ok false M' := by
  have k1 : pCallQ q__law_refused [] pa s M = .ok (.d (.str x)) M' := by
    rw [call_data (ds := [.int c, a, b, d]) h]
    unfold q__law_refused
    simp only [hk]
    rfl
  unfold pB
  rw [op_ok (y := .d (.str x)) (M'' := M') k1 rfl, ne_str hx]
  rfl
theorem lp2_law_ok {C : Addr} {s : Sl} {M : Ms} {d : PyData} (h : s[17]? = some (some (.d d))) (hd : rateOk d = false) : lp2_law C s M = .nx s M := by
  have h5 : isAmountD (.int 5) = true := by decide
  unfold lp2_law
  rw [if_ff (M' := M) (by
    unfold pOrT
    rw [refused_false (C := 0) (c := 1) (a := d) (b := .int 0) (d := .int 0) (x := "paper") (M' := M) (cons_ok rfl (cons_ok (var_ok h) (cons_ok rfl (cons_ok rfl nil_ok)))) (by simp [refKind, hd]) (by decide +kernel)]
    simp only [R.bind, Bool.false_eq_true, if_false]
    rw [refused_false (C := 0) (c := 0) (a := .int 5) (b := d) (d := .int 0) (x := "paper") (M' := M) (cons_ok rfl (cons_ok rfl (cons_ok (var_ok h) (cons_ok rfl nil_ok)))) (by simp [refKind, hd, h5]) (by decide +kernel)]
    simp only [R.bind, Bool.false_eq_true, if_false]
    exact refused_false (C := 0) (c := 5) (a := d) (b := .int 0) (d := .int 0) (x := "paper") (M' := M) (cons_ok rfl (cons_ok (var_ok h) (cons_ok rfl (cons_ok rfl nil_ok)))) (by simp [refKind, hd]) (by decide +kernel))]
  rfl
theorem lp1_law_ok {C : Addr} {s : Sl} {M : Ms} {ws : List PyData} (h : s[17]? = some (some (.d (.list ws)))) (hd : wOk ws = false) : lp1_law C s M = .nx s M := by
  unfold lp1_law
  rw [if_ff (M' := M) (by
    unfold pOrT
    rw [refused_false (C := 0) (c := 2) (a := .list ws) (b := .int 0) (d := .int 0) (x := "paper") (M' := M) (cons_ok rfl (cons_ok (var_ok h) (cons_ok rfl (cons_ok rfl nil_ok)))) (by simp [refKind, hd]) (by decide +kernel)]
    simp only [R.bind, Bool.false_eq_true, if_false]
    exact refused_false (C := 0) (c := 3) (a := .int 5) (b := .list ws) (d := .int 0) (x := "paper") (M' := M) (cons_ok rfl (cons_ok rfl (cons_ok (var_ok h) (cons_ok rfl nil_ok)))) (by simp [refKind, hd]) (by decide +kernel))]
  rfl
structure LInv (s : Sl) (M : Ms) : Prop where
  pool : PoolOk M
  len : s.length = 19
  s1 : s[1]? = some (some (.r 0))
theorem LInv.set {s : Sl} {M : Ms} (h : LInv s M) {k : Nat} {x : Option W} (hk : k ≠ 1) : LInv (s.set k x) M := ⟨h.pool, by rw [List.length_set]; exact h.len, has_set h.s1 hk⟩
theorem num_wrong {d : PyData} (h : d ∈ [PyData.int (-1), .int 1000000001, .bool true, .int 100001]) : True := trivial
theorem law_end {C : Addr} {s : Sl} {M : Ms} (lp9_ok : ∀ s M, LInv s M → ∃ s' M', lp9_law C s M = .nx s' M' ∧ LInv s' M') (h : LInv s M) : ∃ m, b_law C s M = .rt (.d (.bool true)) m := by
  unfold b_law
  have z1 : 1 ≤ sizeLine := by decide
  have z2 : 2 ≤ sizeLine := by decide
  have z3 : 3 ≤ sizeLine := by decide
  have z7 : 7 ≤ sizeLine := by decide
  obtain ⟨s1, M1, e1, h1⟩ := forL_keep (g := qName 2) (b := lp9_law C) (I := fun _ s M => LInv s M) (rngW 0 4) 0 s M h fun x _ k t M ht => by
    obtain ⟨t', M', e, h'⟩ := lp9_ok _ _ (ht.set (k := 2) (x := some x) (by decide))
    exact ⟨_, t', M', rfl, e, h'⟩
  have it1 : pRng1 (pC (.int 4)) s M = .ok (rngW 0 4) M := rng1_okI (j := 4) rfl (small62 (by decide) (by decide))
  rw [seq_nx ((for_ok it1).trans e1)]
  obtain ⟨s2, M2, e2, h2⟩ := forL_keep (g := qName 17) (b := lp2_law C) (I := fun _ s M => LInv s M) ([PyData.tuple [.int 0, .int 1], .tuple [.int 1, .int 0], .tuple [.int 1, .int 1000001], .tuple [.int 1], .list [.int 1, .int 1], .tuple [.bool true, .int 1], .int 5].map W.d) 0 s1 M1 h1 fun x hx k t M ht => by
    obtain ⟨d, hd, rfl⟩ := List.mem_map.mp hx
    have hr : rateOk d = false := by
      simp only [List.mem_cons, List.not_mem_nil, or_false] at hd
      rcases hd with rfl | rfl | rfl | rfl | rfl | rfl | rfl <;> rfl
    exact ⟨_, _, M, rfl, lp2_law_ok (C := C) (d := d) (set_has ht.len (by decide)) hr, ht.set (by decide)⟩
  have it2 : pItL (pDat (pLst (pCons (pTup (pCons (pC (.int 0)) (pCons (pC (.int 1)) (pNil)))) (pCons (pTup (pCons (pC (.int 1)) (pCons (pC (.int 0)) (pNil)))) (pCons (pTup (pCons (pC (.int 1)) (pCons (pC (.int 1000001)) (pNil)))) (pCons (pTup (pCons (pC (.int 1)) (pNil))) (pCons (pDat (pLst (pCons (pC (.int 1)) (pCons (pC (.int 1)) (pNil))))) (pCons (pTup (pCons (pC (.bool true)) (pCons (pC (.int 1)) (pNil)))) (pCons (pC (.int 5)) (pNil)))))))))) s1 M1 = .ok ([PyData.tuple [.int 0, .int 1], .tuple [.int 1, .int 0], .tuple [.int 1, .int 1000001], .tuple [.int 1], .list [.int 1, .int 1], .tuple [.bool true, .int 1], .int 5].map W.d) M1 := by
    simp [z1, z2, z7, pSeq, pNext, pIf, pSet, pDrop, pRet, pRetN, pAsg, pVar, pC, pK, pCons, pNil, pTup, pLst, pDat, pMut, pOp, pB, pChain, pAndT, pOrT, pNotT, pAndV, pOrV, pNotV, pTru, pIfE, pNeg, pCall, pCallL, pCallQ, pCallG, pRaise, R.bind, R.to, R.bindN, O.toR, PR.to, truth, allD, view, viewAll, itemsL, itemsT, lenW, tagD, tagW, isTy, tyOk, scalar, R.freeze, pFor, pItL, pItT, pItS, pRng1, pRng2, qName, qNil, qCons, qTup, pSub, pNo, pSo, pYes, pBrk, pCnt, startS, clearO, gInt, gAddI, gSubI, gLtI, gLeI, gGtI, gGeI, gEqD, gNeD, gIsN, gIsB, gStr, gIsi, gLen, gAbs, gInt1, gMin2, gMax2, gSum, gMaxI, gMinI, gList, gSorted, gIx, gInD, isNonD, viewI, catW, pCat, gMaxT, pFld, pSetF, pMeth, pMake, insOf, putW, noAtt, pTry, pListRev, pSlL, pSlT, pIsi2, allD_nil, eqv_int, shaped_int, allD_ints, allD_map, intsOf_map]
  rw [seq_nx ((for_ok it2).trans e2)]
  have l0 : lc0_law C s2 M2 = .ok ((List.replicate 101 (1 : Int)).map wi) M2 := by
    unfold lc0_law pLc
    rw [rng1_okI (j := 101) rfl (small62 (by decide) (by decide))]
    simp only [R.bind]
    rw [if_pos (by show 101 ≤ sizeLine; decide), lcL_all (fun _ => wi 1) fun x _ => ⟨_, rfl, rfl⟩]
    rfl
  have l0d := dat_ok l0 (allD_wi _)
  obtain ⟨s3, M3, e3, h3⟩ := forL_keep (g := qName 17) (b := lp1_law C) (I := fun _ s M => LInv s M) ([PyData.list [], .list [.int 0], .list [.int 0, .int 0], .list [.int (-1), .int 2], .list [.bool true], .list [.int 1000001], .list ((List.replicate 101 (1 : Int)).map .int)].map W.d) 0 s2 M2 h2 fun x hx k t M ht => by
    obtain ⟨d, hd, rfl⟩ := List.mem_map.mp hx
    have hr : ∃ ws, d = .list ws ∧ wOk ws = false := by
      simp only [List.mem_cons, List.not_mem_nil, or_false] at hd
      rcases hd with rfl | rfl | rfl | rfl | rfl | rfl | rfl
      · exact ⟨_, rfl, rfl⟩
      · exact ⟨_, rfl, rfl⟩
      · exact ⟨_, rfl, rfl⟩
      · exact ⟨_, rfl, rfl⟩
      · exact ⟨_, rfl, rfl⟩
      · exact ⟨_, rfl, rfl⟩
      · exact ⟨_, rfl, by unfold wOk; simp⟩
    obtain ⟨ws, rfl, hw⟩ := hr
    exact ⟨_, _, M, rfl, lp1_law_ok (C := C) (set_has ht.len (by decide)) hw, ht.set (by decide)⟩
  have it3 : pItL (pDat (pLst (pCons (pDat (pLst (pNil))) (pCons (pDat (pLst (pCons (pC (.int 0)) (pNil)))) (pCons (pDat (pLst (pCons (pC (.int 0)) (pCons (pC (.int 0)) (pNil))))) (pCons (pDat (pLst (pCons (pNeg (pC (.int 1))) (pCons (pC (.int 2)) (pNil))))) (pCons (pDat (pLst (pCons (pC (.bool true)) (pNil)))) (pCons (pDat (pLst (pCons (pC (.int 1000001)) (pNil)))) (pCons (pDat ((lc0_law C))) (pNil)))))))))) s2 M2 = .ok ([PyData.list [], .list [.int 0], .list [.int 0, .int 0], .list [.int (-1), .int 2], .list [.bool true], .list [.int 1000001], .list ((List.replicate 101 (1 : Int)).map .int)].map W.d) M2 := by
    have a1 : pDat (pLst (pNil)) s2 M2 = .ok (.d (.list [])) M2 := by simp [pSeq, pNext, pIf, pSet, pDrop, pRet, pRetN, pAsg, pVar, pC, pK, pCons, pNil, pTup, pLst, pDat, pMut, pOp, pB, pChain, pAndT, pOrT, pNotT, pAndV, pOrV, pNotV, pTru, pIfE, pNeg, pCall, pCallL, pCallQ, pCallG, pRaise, R.bind, R.to, R.bindN, O.toR, PR.to, truth, allD, view, viewAll, itemsL, itemsT, lenW, tagD, tagW, isTy, tyOk, scalar, R.freeze, pFor, pItL, pItT, pItS, pRng1, pRng2, qName, qNil, qCons, qTup, pSub, pNo, pSo, pYes, pBrk, pCnt, startS, clearO, gInt, gAddI, gSubI, gLtI, gLeI, gGtI, gGeI, gEqD, gNeD, gIsN, gIsB, gStr, gIsi, gLen, gAbs, gInt1, gMin2, gMax2, gSum, gMaxI, gMinI, gList, gSorted, gIx, gInD, isNonD, viewI, catW, pCat, gMaxT, pFld, pSetF, pMeth, pMake, insOf, putW, noAtt, pTry, pListRev, pSlL, pSlT, pIsi2, allD_nil, eqv_int, shaped_int, allD_ints, allD_map, intsOf_map]
    have a2 : pDat (pLst (pCons (pC (.int 0)) (pNil))) s2 M2 = .ok (.d (.list [.int 0])) M2 := by simp [z1, pSeq, pNext, pIf, pSet, pDrop, pRet, pRetN, pAsg, pVar, pC, pK, pCons, pNil, pTup, pLst, pDat, pMut, pOp, pB, pChain, pAndT, pOrT, pNotT, pAndV, pOrV, pNotV, pTru, pIfE, pNeg, pCall, pCallL, pCallQ, pCallG, pRaise, R.bind, R.to, R.bindN, O.toR, PR.to, truth, allD, view, viewAll, itemsL, itemsT, lenW, tagD, tagW, isTy, tyOk, scalar, R.freeze, pFor, pItL, pItT, pItS, pRng1, pRng2, qName, qNil, qCons, qTup, pSub, pNo, pSo, pYes, pBrk, pCnt, startS, clearO, gInt, gAddI, gSubI, gLtI, gLeI, gGtI, gGeI, gEqD, gNeD, gIsN, gIsB, gStr, gIsi, gLen, gAbs, gInt1, gMin2, gMax2, gSum, gMaxI, gMinI, gList, gSorted, gIx, gInD, isNonD, viewI, catW, pCat, gMaxT, pFld, pSetF, pMeth, pMake, insOf, putW, noAtt, pTry, pListRev, pSlL, pSlT, pIsi2, allD_nil, eqv_int, shaped_int, allD_ints, allD_map, intsOf_map]
    have a3 : pDat (pLst (pCons (pC (.int 0)) (pCons (pC (.int 0)) (pNil)))) s2 M2 = .ok (.d (.list [.int 0, .int 0])) M2 := by simp [z2, pSeq, pNext, pIf, pSet, pDrop, pRet, pRetN, pAsg, pVar, pC, pK, pCons, pNil, pTup, pLst, pDat, pMut, pOp, pB, pChain, pAndT, pOrT, pNotT, pAndV, pOrV, pNotV, pTru, pIfE, pNeg, pCall, pCallL, pCallQ, pCallG, pRaise, R.bind, R.to, R.bindN, O.toR, PR.to, truth, allD, view, viewAll, itemsL, itemsT, lenW, tagD, tagW, isTy, tyOk, scalar, R.freeze, pFor, pItL, pItT, pItS, pRng1, pRng2, qName, qNil, qCons, qTup, pSub, pNo, pSo, pYes, pBrk, pCnt, startS, clearO, gInt, gAddI, gSubI, gLtI, gLeI, gGtI, gGeI, gEqD, gNeD, gIsN, gIsB, gStr, gIsi, gLen, gAbs, gInt1, gMin2, gMax2, gSum, gMaxI, gMinI, gList, gSorted, gIx, gInD, isNonD, viewI, catW, pCat, gMaxT, pFld, pSetF, pMeth, pMake, insOf, putW, noAtt, pTry, pListRev, pSlL, pSlT, pIsi2, allD_nil, eqv_int, shaped_int, allD_ints, allD_map, intsOf_map]
    have a4 : pDat (pLst (pCons (pNeg (pC (.int 1))) (pCons (pC (.int 2)) (pNil)))) s2 M2 = .ok (.d (.list [.int (-1), .int 2])) M2 := by simp [z2, pSeq, pNext, pIf, pSet, pDrop, pRet, pRetN, pAsg, pVar, pC, pK, pCons, pNil, pTup, pLst, pDat, pMut, pOp, pB, pChain, pAndT, pOrT, pNotT, pAndV, pOrV, pNotV, pTru, pIfE, pNeg, pCall, pCallL, pCallQ, pCallG, pRaise, R.bind, R.to, R.bindN, O.toR, PR.to, truth, allD, view, viewAll, itemsL, itemsT, lenW, tagD, tagW, isTy, tyOk, scalar, R.freeze, pFor, pItL, pItT, pItS, pRng1, pRng2, qName, qNil, qCons, qTup, pSub, pNo, pSo, pYes, pBrk, pCnt, startS, clearO, gInt, gAddI, gSubI, gLtI, gLeI, gGtI, gGeI, gEqD, gNeD, gIsN, gIsB, gStr, gIsi, gLen, gAbs, gInt1, gMin2, gMax2, gSum, gMaxI, gMinI, gList, gSorted, gIx, gInD, isNonD, viewI, catW, pCat, gMaxT, pFld, pSetF, pMeth, pMake, insOf, putW, noAtt, pTry, pListRev, pSlL, pSlT, pIsi2, allD_nil, eqv_int, shaped_int, allD_ints, allD_map, intsOf_map]
    have a5 : pDat (pLst (pCons (pC (.bool true)) (pNil))) s2 M2 = .ok (.d (.list [.bool true])) M2 := by simp [z1, pSeq, pNext, pIf, pSet, pDrop, pRet, pRetN, pAsg, pVar, pC, pK, pCons, pNil, pTup, pLst, pDat, pMut, pOp, pB, pChain, pAndT, pOrT, pNotT, pAndV, pOrV, pNotV, pTru, pIfE, pNeg, pCall, pCallL, pCallQ, pCallG, pRaise, R.bind, R.to, R.bindN, O.toR, PR.to, truth, allD, view, viewAll, itemsL, itemsT, lenW, tagD, tagW, isTy, tyOk, scalar, R.freeze, pFor, pItL, pItT, pItS, pRng1, pRng2, qName, qNil, qCons, qTup, pSub, pNo, pSo, pYes, pBrk, pCnt, startS, clearO, gInt, gAddI, gSubI, gLtI, gLeI, gGtI, gGeI, gEqD, gNeD, gIsN, gIsB, gStr, gIsi, gLen, gAbs, gInt1, gMin2, gMax2, gSum, gMaxI, gMinI, gList, gSorted, gIx, gInD, isNonD, viewI, catW, pCat, gMaxT, pFld, pSetF, pMeth, pMake, insOf, putW, noAtt, pTry, pListRev, pSlL, pSlT, pIsi2, allD_nil, eqv_int, shaped_int, allD_ints, allD_map, intsOf_map]
    have a6 : pDat (pLst (pCons (pC (.int 1000001)) (pNil))) s2 M2 = .ok (.d (.list [.int 1000001])) M2 := by simp [z1, pSeq, pNext, pIf, pSet, pDrop, pRet, pRetN, pAsg, pVar, pC, pK, pCons, pNil, pTup, pLst, pDat, pMut, pOp, pB, pChain, pAndT, pOrT, pNotT, pAndV, pOrV, pNotV, pTru, pIfE, pNeg, pCall, pCallL, pCallQ, pCallG, pRaise, R.bind, R.to, R.bindN, O.toR, PR.to, truth, allD, view, viewAll, itemsL, itemsT, lenW, tagD, tagW, isTy, tyOk, scalar, R.freeze, pFor, pItL, pItT, pItS, pRng1, pRng2, qName, qNil, qCons, qTup, pSub, pNo, pSo, pYes, pBrk, pCnt, startS, clearO, gInt, gAddI, gSubI, gLtI, gLeI, gGtI, gGeI, gEqD, gNeD, gIsN, gIsB, gStr, gIsi, gLen, gAbs, gInt1, gMin2, gMax2, gSum, gMaxI, gMinI, gList, gSorted, gIx, gInD, isNonD, viewI, catW, pCat, gMaxT, pFld, pSetF, pMeth, pMake, insOf, putW, noAtt, pTry, pListRev, pSlL, pSlT, pIsi2, allD_nil, eqv_int, shaped_int, allD_ints, allD_map, intsOf_map]
    unfold pItL
    rw [dat_ok (lst_ok (cons_ok a1 (cons_ok a2 (cons_ok a3 (cons_ok a4 (cons_ok a5 (cons_ok a6 (cons_ok l0d nil_ok))))))) (by show 7 ≤ sizeLine; decide)) rfl]
    rfl
  rw [seq_nx ((for_ok it3).trans e3)]
  have tup11 : ∀ {M : Ms}, pTup (pCons (pC (.int 1)) (pCons (pC (.int 1)) (pNil))) s3 M = .ok (.d (.tuple [.int 1, .int 1])) M := fun {M} => by simp [z2, pSeq, pNext, pIf, pSet, pDrop, pRet, pRetN, pAsg, pVar, pC, pK, pCons, pNil, pTup, pLst, pDat, pMut, pOp, pB, pChain, pAndT, pOrT, pNotT, pAndV, pOrV, pNotV, pTru, pIfE, pNeg, pCall, pCallL, pCallQ, pCallG, pRaise, R.bind, R.to, R.bindN, O.toR, PR.to, truth, allD, view, viewAll, itemsL, itemsT, lenW, tagD, tagW, isTy, tyOk, scalar, R.freeze, pFor, pItL, pItT, pItS, pRng1, pRng2, qName, qNil, qCons, qTup, pSub, pNo, pSo, pYes, pBrk, pCnt, startS, clearO, gInt, gAddI, gSubI, gLtI, gLeI, gGtI, gGeI, gEqD, gNeD, gIsN, gIsB, gStr, gIsi, gLen, gAbs, gInt1, gMin2, gMax2, gSum, gMaxI, gMinI, gList, gSorted, gIx, gInD, isNonD, viewI, catW, pCat, gMaxT, pFld, pSetF, pMeth, pMake, insOf, putW, noAtt, pTry, pListRev, pSlL, pSlT, pIsi2, allD_nil, eqv_int, shaped_int, allD_ints, allD_map, intsOf_map]
  have lst1 : ∀ {M : Ms}, pDat (pLst (pCons (pC (.int 1)) (pNil))) s3 M = .ok (.d (.list [.int 1])) M := fun {M} => by simp [z1, pSeq, pNext, pIf, pSet, pDrop, pRet, pRetN, pAsg, pVar, pC, pK, pCons, pNil, pTup, pLst, pDat, pMut, pOp, pB, pChain, pAndT, pOrT, pNotT, pAndV, pOrV, pNotV, pTru, pIfE, pNeg, pCall, pCallL, pCallQ, pCallG, pRaise, R.bind, R.to, R.bindN, O.toR, PR.to, truth, allD, view, viewAll, itemsL, itemsT, lenW, tagD, tagW, isTy, tyOk, scalar, R.freeze, pFor, pItL, pItT, pItS, pRng1, pRng2, qName, qNil, qCons, qTup, pSub, pNo, pSo, pYes, pBrk, pCnt, startS, clearO, gInt, gAddI, gSubI, gLtI, gLeI, gGtI, gGeI, gEqD, gNeD, gIsN, gIsB, gStr, gIsi, gLen, gAbs, gInt1, gMin2, gMax2, gSum, gMaxI, gMinI, gList, gSorted, gIx, gInD, isNonD, viewI, catW, pCat, gMaxT, pFld, pSetF, pMeth, pMake, insOf, putW, noAtt, pTry, pListRev, pSlL, pSlT, pIsi2, allD_nil, eqv_int, shaped_int, allD_ints, allD_map, intsOf_map]
  have p9 : ∀ {M : Ms}, pOp gAddI (pOp gPowI (pC (.int 10)) (pC (.int 9))) (pC (.int 1)) s3 M = .ok (.d (.int 1000000001)) M := fun {M} => by
    rw [op_ok (y := .d (.int 1)) (M'' := M) pow9 rfl]
    rfl
  have m1 : ∀ {M : Ms}, pNeg (pC (.int 1)) s3 M = .ok (.d (.int (-1))) M := fun {M} => rfl
  obtain ⟨d1, M4, hd1, k1, o1⟩ := pickE (s := s3) (j := 1) (pe := pDat (pLst (pCons (pOp gAddI (pOp gPowI (pC (.int 10)) (pC (.int 9))) (pC (.int 1))) (pCons (pC (.bool true)) (pNil))))) (ds := [.int 1000000001, .bool true]) h3.pool h3.s1 (dat_ok (lst_ok (cons_ok p9 (cons_ok rfl nil_ok)) (by show 2 ≤ sizeLine; decide)) rfl) (by decide) (by decide)
  have r1 : refKind 0 d1 (.tuple [.int 1, .int 1]) (.int 0) = some "number" := by
    simp only [List.mem_cons, List.not_mem_nil, or_false] at hd1
    rcases hd1 with rfl | rfl <;> rfl
  obtain ⟨d2, M5, hd2, k2, o2⟩ := pickE (s := s3) (j := 1) (pe := pDat (pLst (pCons (pNeg (pC (.int 1))) (pCons (pOp gAddI (pOp gPowI (pC (.int 10)) (pC (.int 9))) (pC (.int 1))) (pCons (pC (.bool true)) (pNil)))))) (ds := [.int (-1), .int 1000000001, .bool true]) o1.1 h3.s1 (dat_ok (lst_ok (cons_ok m1 (cons_ok p9 (cons_ok rfl nil_ok))) (by show 3 ≤ sizeLine; decide)) rfl) (by decide) (by decide)
  have r2 : refKind 3 d2 (.list [.int 1]) (.int 0) = some "number" := by
    simp only [List.mem_cons, List.not_mem_nil, or_false] at hd2
    rcases hd2 with rfl | rfl | rfl <;> rfl
  rw [seq_nx (s' := s3) (M' := M5) (by
    rw [if_ff (M' := M5) (by
      unfold pOrT
      rw [refused_false (C := 0) (c := 0) (a := d1) (b := .tuple [.int 1, .int 1]) (d := .int 0) (x := "number") (M' := M4) (cons_ok rfl (cons_ok k1 (cons_ok tup11 (cons_ok rfl nil_ok)))) r1 (by decide +kernel)]
      simp only [R.bind, Bool.false_eq_true, if_false]
      exact refused_false (C := 0) (c := 3) (a := d2) (b := .list [.int 1]) (d := .int 0) (x := "number") (M' := M5) (cons_ok rfl (cons_ok k2 (cons_ok lst1 (cons_ok rfl nil_ok)))) r2 (by decide +kernel))]
    rfl)]
  obtain ⟨d3, M6, hd3, k3, o3⟩ := pickE (s := s3) (j := 1) (pe := pDat (pLst (pCons (pNeg (pC (.int 1))) (pCons (pC (.int 100001)) (pCons (pC (.bool true)) (pNil)))))) (ds := [.int (-1), .int 100001, .bool true]) o2.1 h3.s1 (dat_ok (lst_ok (cons_ok m1 (cons_ok rfl (cons_ok rfl nil_ok))) (by show 3 ≤ sizeLine; decide)) rfl) (by decide) (by decide)
  have r3 : refKind 4 d3 (.str "u") (.str "v") = some "number" := by
    simp only [List.mem_cons, List.not_mem_nil, or_false] at hd3
    rcases hd3 with rfl | rfl | rfl <;> rfl
  have sh : ∀ {x : Str}, PyData.strOk x = true → SeqAt.shaped (.str x) = true := fun h => shaped_str h
  have nu : isNameD (.str "U") = false := by decide +kernel
  have r4 : refKind 4 (.int 1) (.str "u") (.str "u") = some "paper" := by
    have e1 : isNumberD (.int 1) 0 100000 = true := by decide
    unfold refKind
    simp [e1, sh (x := "u") (by decide +kernel)]
  have r5 : refKind 4 (.int 1) (.str "U") (.str "v") = some "paper" := by
    have e1 : isNumberD (.int 1) 0 100000 = true := by decide
    unfold refKind
    simp [e1, nu, sh (x := "U") (by decide +kernel), sh (x := "v") (by decide +kernel)]
  rw [seq_nx (s' := s3) (M' := M6) (by
    rw [if_ff (M' := M6) (by
      unfold pOrT
      rw [refused_false (C := 0) (c := 4) (a := d3) (b := .str "u") (d := .str "v") (x := "number") (M' := M6) (cons_ok rfl (cons_ok k3 (cons_ok rfl (cons_ok rfl nil_ok)))) r3 (by decide +kernel)]
      simp only [R.bind, Bool.false_eq_true, if_false]
      rw [refused_false (C := 0) (c := 4) (a := .int 1) (b := .str "u") (d := .str "u") (x := "paper") (M' := M6) (cons_ok rfl (cons_ok rfl (cons_ok rfl (cons_ok rfl nil_ok)))) r4 (by decide +kernel)]
      simp only [R.bind, Bool.false_eq_true, if_false]
      exact refused_false (C := 0) (c := 4) (a := .int 1) (b := .str "U") (d := .str "v") (x := "paper") (M' := M6) (cons_ok rfl (cons_ok rfl (cons_ok rfl (cons_ok rfl nil_ok)))) r5 (by decide +kernel))]
    rfl)]
  obtain ⟨M7, e7⟩ := rates_right_ok (C := C) o3.1
  refine ⟨M7, ret_ok ?_⟩
  have c7 : pCallG (f__law_rates_right C) [] (pCons (pVar 1) (pNil)) s3 M6 = .ok (.d (.bool true)) M7 := by
    unfold pCallG
    rw [cons_ok (var_ok h3.s1) nil_ok]
    exact e7
  have t34 : ∀ {M : Ms}, pTup (pCons (pC (.int 3)) (pCons (pC (.int 4)) (pNil))) s3 M = .ok (.d (.tuple [.int 3, .int 4])) M := fun {M} => by simp [z2, pSeq, pNext, pIf, pSet, pDrop, pRet, pRetN, pAsg, pVar, pC, pK, pCons, pNil, pTup, pLst, pDat, pMut, pOp, pB, pChain, pAndT, pOrT, pNotT, pAndV, pOrV, pNotV, pTru, pIfE, pNeg, pCall, pCallL, pCallQ, pCallG, pRaise, R.bind, R.to, R.bindN, O.toR, PR.to, truth, allD, view, viewAll, itemsL, itemsT, lenW, tagD, tagW, isTy, tyOk, scalar, R.freeze, pFor, pItL, pItT, pItS, pRng1, pRng2, qName, qNil, qCons, qTup, pSub, pNo, pSo, pYes, pBrk, pCnt, startS, clearO, gInt, gAddI, gSubI, gLtI, gLeI, gGtI, gGeI, gEqD, gNeD, gIsN, gIsB, gStr, gIsi, gLen, gAbs, gInt1, gMin2, gMax2, gSum, gMaxI, gMinI, gList, gSorted, gIx, gInD, isNonD, viewI, catW, pCat, gMaxT, pFld, pSetF, pMeth, pMake, insOf, putW, noAtt, pTry, pListRev, pSlL, pSlT, pIsi2, allD_nil, eqv_int, shaped_int, allD_ints, allD_map, intsOf_map]
  have c8 : pOp gEqD (pCallQ q_checked_rate [] (pCons (pTup (pCons (pC (.int 3)) (pCons (pC (.int 4)) (pNil)))) (pNil))) (pTup (pCons (pC (.int 3)) (pCons (pC (.int 4)) (pNil)))) s3 M7 = .ok (.d (.bool true)) M7 := by
    have c9 : pCallQ q_checked_rate [] (pCons (pTup (pCons (pC (.int 3)) (pCons (pC (.int 4)) (pNil)))) (pNil)) s3 M7 = .ok (.d (.tuple [.int 3, .int 4])) M7 := by
      rw [call_data (ds := [.tuple [.int 3, .int 4]]) (cons_ok t34 nil_ok)]
      rfl
    rw [op_ok c9 t34]
    rfl
  unfold pAndV
  rw [c7]
  simp only [R.bind, truth, if_true]
  exact c8
theorem lc7_ok {C : Addr} {s : Sl} {M : Ms} {n : Int} {ns : List Int} (h3 : s[3]? = some (some (.d (.int n)))) (h6 : s[6]? = some (some (.d (.list (ns.map .int))))) (h8 : s[8]? = some (some (.d (.int ns.sum)))) (hlen : s.length = 19) (n1 : 0 ≤ n) (n2 : n ≤ 1000000000) (hl : ns.length ≤ 100) (hz : ns.sum ≠ 0) (hs : ns.sum.natAbs < 1073741824) : lc7_law C s M = .ok ((floorsL n ns).map wi) M := by
  unfold lc7_law pLc
  have e1 : pItL (pVar 6) s M = .ok ((ns.map PyData.int).map W.d) M := by
    unfold pItL
    rw [var_ok h6]
    rfl
  rw [e1]
  simp only [R.bind]
  rw [if_pos (by rw [List.length_map, List.length_map]; exact Nat.le_trans hl (by decide))]
  rw [lcL_all (fun x => match x with | .d (.int w) => wi ((n * w).fdiv ns.sum) | _ => x)]
  · rw [List.nil_append, floorsL, List.map_map, List.map_map, List.map_map]
    rfl
  · intro x hx
    simp only [List.map_map, List.mem_map] at hx
    obtain ⟨k, _, rfl⟩ := hx
    refine ⟨(s.set 18 none).set 18 (some (.d (.int k))), rfl, ?_⟩
    have g3 : ((s.set 18 none).set 18 (some (W.d (.int k))))[3]? = some (some (.d (.int n))) := has_set (has_set h3 (by decide)) (by decide)
    have g8 : ((s.set 18 none).set 18 (some (W.d (.int k))))[8]? = some (some (.d (.int ns.sum))) := has_set (has_set h8 (by decide)) (by decide)
    have g18 : ((s.set 18 none).set 18 (some (W.d (.int k))))[18]? = some (some (.d (.int k))) := List.getElem?_set_self (by rw [List.length_set, hlen]; decide)
    rw [op_ok (x := .d (.int (n * k))) (M' := M) (by rw [op_ok (var_ok g3) (var_ok g18)]; exact mul_ok (.inl (by omega))) (var_ok g8)]
    exact div_ok hz hs
theorem lc6_ok {C : Addr} {s : Sl} {M : Ms} {n : Int} {ns : List Int} (h3 : s[3]? = some (some (.d (.int n)))) (h6 : s[6]? = some (some (.d (.list (ns.map .int))))) (h8 : s[8]? = some (some (.d (.int ns.sum)))) (hlen : s.length = 19) (n1 : 0 ≤ n) (n2 : n ≤ 1000000000) (hl : ns.length ≤ 100) (hz : ns.sum ≠ 0) : lc6_law C s M = .ok ((restsL n ns).map W.d) M := by
  unfold lc6_law pLc
  have e1 := rng1_ok (p := pCall gLen (pCons (pVar 6) pNil)) (s := s) (M := M) (n := ns.length) (by rw [len_list h6, List.length_map]) (by omega)
  rw [e1]
  simp only [R.bind]
  rw [if_pos (by rw [rngW, List.length_map, List.length_range]; exact Nat.le_trans hl (by decide))]
  rw [lcL_all (fun x => match x with | .d (.int i) => .d (restD n ns i.toNat) | _ => x)]
  · rw [List.nil_append, restsL, rngW, List.map_map, List.map_map]
    refine congrArg (fun l => R.ok l M) (List.map_congr_left fun i _ => ?_)
    show W.d (restD n ns (0 + (i : Int)).toNat) = W.d (restD n ns i)
    rw [Int.zero_add, Int.toNat_natCast]
  · intro x hx
    unfold rngW at hx
    obtain ⟨k, hk, rfl⟩ := List.mem_map.mp hx
    have hk' : k < ns.length := List.mem_range.mp hk
    rw [Int.zero_add]
    refine ⟨(s.set 12 none).set 12 (some (.d (.int k))), rfl, ?_⟩
    have g3 : ((s.set 12 none).set 12 (some (W.d (.int k))))[3]? = some (some (.d (.int n))) := has_set (has_set h3 (by decide)) (by decide)
    have g6 : ((s.set 12 none).set 12 (some (W.d (.int k))))[6]? = some (some (.d (.list (ns.map .int)))) := has_set (has_set h6 (by decide)) (by decide)
    have g8 : ((s.set 12 none).set 12 (some (W.d (.int k))))[8]? = some (some (.d (.int ns.sum))) := has_set (has_set h8 (by decide)) (by decide)
    have g12 : ((s.set 12 none).set 12 (some (W.d (.int k))))[12]? = some (some (.d (.int k))) := List.getElem?_set_self (by rw [List.length_set, hlen]; decide)
    generalize (s.set 12 none).set 12 (some (W.d (.int k))) = t at *
    have i1 : pOp gIx (pVar 6) (pVar 12) t M = .ok (.d (.int (ns.getD k 0))) M := by
      rw [op_ok (var_ok g6) (var_ok g12)]
      exact gIx_ints hk'
    have i2 : pOp gMulI (pVar 3) (pOp gIx (pVar 6) (pVar 12)) t M = .ok (.d (.int (n * ns.getD k 0))) M := by
      rw [op_ok (var_ok g3) i1]
      exact mul_ok (.inl (by omega))
    have i3 : pOp gModI (pCall gInt1 (pCons (pOp gMulI (pVar 3) (pOp gIx (pVar 6) (pVar 12))) (pNil))) (pVar 8) t M = .ok (.d (.int ((n * ns.getD k 0).fmod ns.sum))) M := by
      rw [op_ok (x := .d (.int (n * ns.getD k 0))) (M' := M) (by rw [call1 i2]; rfl) (var_ok g8)]
      exact mod_ok hz
    have i4 : pOp gSubI (pC (.int 0)) (pOp gModI (pCall gInt1 (pCons (pOp gMulI (pVar 3) (pOp gIx (pVar 6) (pVar 12))) (pNil))) (pVar 8)) t M = .ok (.d (.int (-((n * ns.getD k 0).fmod ns.sum)))) M := by
      rw [op_ok (x := .d (.int 0)) (M' := M) rfl i3]
      show R.ok (W.d (.int (0 - (n * ns.getD k 0).fmod ns.sum))) M = _
      rw [Int.zero_sub]
    unfold pTup
    rw [cons_ok i4 (cons_ok (var_ok g12) nil_ok)]
    have z2 : 2 ≤ sizeLine := by decide
    simp [R.bind, allD, z2, restD]
theorem same_view {p q : PEx} {s : Sl} {M M1 M2 : Ms} {j : Nat} {l : List Int} (h1 : p s M = .ok (.d (.list (l.map .int))) M1) (h2 : q s M1 = .ok (.r j) M2) (hM : M2[j]? = some (.lst (l.map wi))) (hd : sameOk 5 (.list (l.map .int)) = true) : pNotT (pTru (pCallQ q__law_same [] (pCons p (pCons q pNil)))) s M = .ok false M2 := by
  unfold pNotT pTru pCallQ
  rw [cons_ok h1 (cons_ok h2 nil_ok)]
  have z : q__law_same [.list (l.map .int), .list (l.map .int)] = .ok (.bool true) := qs_ok hd
  have e1 : allD [W.d (.list (l.map .int)), .r j] = none := rfl
  have e2 : viewAll M2 [W.d (.list (l.map .int)), .r j] = some [.list (l.map .int), .list (l.map .int)] := by
    simp [viewAll, view, hM, allD_wi]
  simp only [R.bind, e1, e2, List.append_nil, z]
  rfl
theorem sameAll_ints (n : Nat) : ∀ l : List Int, sameAll n (l.map .int) = true
  | [] => by simp [sameAll]
  | a :: l => by
    rw [List.map_cons, sameAll, sameAll_ints n l]
    cases n <;> simp [sameOk]
theorem sameOk_ints {l : List Int} (h : l.length ≤ 1000000) : sameOk 5 (.list (l.map .int)) = true := by
  rw [sameOk, sameAll_ints]
  simp [h]
theorem lp9_ok {C : Addr} {s : Sl} {M : Ms} (h : LInv s M) : ∃ s' M', lp9_law C s M = .nx s' M' ∧ LInv s' M' := by
  unfold lp9_law
  have z2 : 2 ≤ sizeLine := by decide
  have z1 : 1 ≤ sizeLine := by decide
  obtain ⟨n, M1, e1, n0, n1, p1⟩ := amount_ok h.pool h.s1
  rw [seq_nx (set_ok e1)]
  obtain ⟨t1, ht1⟩ : ∃ t, t = s.set 3 (some (.d (.int n))) := ⟨_, rfl⟩
  rw [← ht1]
  have i1 : LInv t1 M1 := by rw [ht1]; exact ⟨p1, by rw [List.length_set]; exact h.len, has_set h.s1 (by decide)⟩
  have a3 : t1[3]? = some (some (.d (.int n))) := by rw [ht1]; exact set_has h.len (by decide)
  obtain ⟨o, M2, e2, o0, o1, q2⟩ := draw1p (m := 9) i1.pool i1.s1 (by decide) (by decide)
  obtain ⟨u, M3, e3, u0, u1, q3⟩ := draw1p (m := 9) q2.1 i1.s1 (by decide) (by decide)
  have e4 : pTup (pCons (pOp gAddI (pC (.int 1)) (pCallG f__law_draw [] (pCons (pVar 1) (pCons (pC (.int 9)) (pNil))))) (pCons (pOp gAddI (pC (.int 1)) (pCallG f__law_draw [] (pCons (pVar 1) (pCons (pC (.int 9)) (pNil))))) (pNil))) t1 M1 = .ok (.d (.tuple [.int o, .int u])) M3 := by
    unfold pTup
    rw [cons_ok e2 (cons_ok e3 nil_ok)]
    simp [R.bind, allD, z2]
  rw [seq_nx (set_ok e4)]
  obtain ⟨t2, ht2⟩ : ∃ t, t = t1.set 4 (some (.d (.tuple [.int o, .int u]))) := ⟨_, rfl⟩
  rw [← ht2]
  have l2 : t2.length = 19 := by rw [ht2, List.length_set]; exact i1.len
  have b1 : t2[1]? = some (some (.r 0)) := by rw [ht2]; exact has_set i1.s1 (by decide)
  have b3 : t2[3]? = some (some (.d (.int n))) := by rw [ht2]; exact has_set a3 (by decide)
  have b4 : t2[4]? = some (some (.d (.tuple [.int o, .int u]))) := by rw [ht2]; exact set_has i1.len (by decide)
  have e5 : pOp gDivI (pOp gMulI (pVar 3) (pOp gIx (pVar 4) (pC (.int 0)))) (pOp gIx (pVar 4) (pC (.int 1))) t2 M3 = .ok (.d (.int ((n * o).fdiv u))) M3 := by
    have i0 : pOp gIx (pVar 4) (pC (.int 0)) t2 M3 = .ok (.d (.int o)) M3 := by
      rw [op_ok (y := .d (.int 0)) (M'' := M3) (var_ok b4) rfl]
      rfl
    have i1 : pOp gIx (pVar 4) (pC (.int 1)) t2 M3 = .ok (.d (.int u)) M3 := by
      rw [op_ok (y := .d (.int 1)) (M'' := M3) (var_ok b4) rfl]
      rfl
    rw [op_ok (x := .d (.int (n * o))) (M' := M3) (by rw [op_ok (var_ok b3) i0]; exact mul_ok (.inr (by omega))) i1]
    exact div_ok (by omega) (by omega)
  rw [seq_nx (set_ok e5)]
  obtain ⟨t3, ht3⟩ : ∃ t, t = t2.set 5 (some (.d (.int ((n * o).fdiv u)))) := ⟨_, rfl⟩
  rw [← ht3]
  have l3 : t3.length = 19 := by rw [ht3, List.length_set]; exact l2
  have c1 : t3[1]? = some (some (.r 0)) := by rw [ht3]; exact has_set b1 (by decide)
  have c3 : t3[3]? = some (some (.d (.int n))) := by rw [ht3]; exact has_set b3 (by decide)
  have c4 : t3[4]? = some (some (.d (.tuple [.int o, .int u]))) := by rw [ht3]; exact has_set b4 (by decide)
  have c5 : t3[5]? = some (some (.d (.int ((n * o).fdiv u)))) := by rw [ht3]; exact set_has l2 (by decide)
  rw [seq_nx (rates_checks c3 c4 c5 n0 n1 o0 (by omega) u0 (by omega))]
  obtain ⟨ws, M4, e6, w1, w2, q4⟩ := lc8_ok (C := C) q3.1 c1
  obtain ⟨w, M5, e7, v0, v1, q5⟩ := draw1p (s := t3) (m := 4) q4.1 c1 (by decide) (by decide)
  obtain ⟨ns, hns⟩ : ∃ ns, ns = ws ++ [w] := ⟨_, rfl⟩
  have e8 : pDat (pCat (pDat ((lc8_law C))) (pDat (pLst (pCons (pOp gAddI (pC (.int 1)) (pCallG f__law_draw [] (pCons (pVar 1) (pCons (pC (.int 4)) (pNil))))) (pNil))))) t3 M3 = .ok (.d (.list (ns.map .int))) M5 := by
    refine dat_ok (ws := ns.map wi) ?_ (allD_wi _)
    unfold pCat
    rw [dat_ok e6 (allD_wi _)]
    simp only [R.bind]
    rw [dat_ok (lst_ok (cons_ok e7 nil_ok) (by show 1 ≤ sizeLine; decide)) rfl]
    simp only [R.bind, catW, itemsL]
    rw [if_pos (by
      simp only [List.length_map, List.length_cons, List.length_nil]
      exact Nat.le_trans (Nat.add_le_add_right w2 1) (by decide)), hns]
    simp [wi]
  rw [seq_nx (set_ok e8)]
  have hl1 : 1 ≤ ns.length := by rw [hns, List.length_append, List.length_singleton]; omega
  have hl2 : ns.length ≤ 100 := by rw [hns, List.length_append, List.length_singleton]; omega
  have hw : ∀ x ∈ ns, 0 ≤ x ∧ x ≤ 1000000 := fun x hx => by
    rw [hns] at hx
    rcases List.mem_append.mp hx with hx | hx
    · exact w1 x hx
    · simp at hx; omega
  have hsum := sum_small hw
  have hz : ns.sum ≠ 0 := by
    have a := (le_sum (ns := ns) fun x hx => (hw x hx).1).2 w (by rw [hns]; simp)
    omega
  have hwok : wOk (ns.map .int) = true := by
    unfold wOk
    rw [List.length_map, intsOf_map]
    simp only [Bool.and_eq_true, decide_eq_true_eq]
    refine ⟨hl1, hl2, ?_, by simpa using hz⟩
    rw [List.all_eq_true]
    intro d hd
    obtain ⟨x, hx, rfl⟩ := List.mem_map.mp hd
    have := hw x hx
    simp [isNumberD]
    omega
  have am : isAmountD (.int n) = true := by simp [isAmountD, isNumberD]; omega
  obtain ⟨t4, ht4⟩ : ∃ t, t = t3.set 6 (some (.d (.list (ns.map .int)))) := ⟨_, rfl⟩
  rw [← ht4]
  have l4 : t4.length = 19 := by rw [ht4, List.length_set]; exact l3
  have d1 : t4[1]? = some (some (.r 0)) := by rw [ht4]; exact has_set c1 (by decide)
  have d3 : t4[3]? = some (some (.d (.int n))) := by rw [ht4]; exact has_set c3 (by decide)
  have d6 : t4[6]? = some (some (.d (.list (ns.map .int)))) := by rw [ht4]; exact set_has l3 (by decide)
  have e9 : pCallQ q_shared [] (pCons (pVar 3) (pCons (pDat (pCallL gList (pCons (pVar 6) (pNil)))) (pNil))) t4 M5 = .ok (.d (.list ((sharesL n ns).map .int))) M5 := by
    have el : pDat (pCallL gList (pCons (pVar 6) (pNil))) t4 M5 = .ok (.d (.list (ns.map .int))) M5 := dat_ok (by rw [callL1 (var_ok d6)]; rfl) (allD_map _)
    rw [call_data (ds := [.int n, .list (ns.map .int)]) (cons_ok (var_ok d3) (cons_ok el nil_ok))]
    have : q_shared [.int n, .list (ns.map .int)] = .ok (.list ((sharesL n ns).map .int)) := by simp [q_shared, hwok, intsOf_map, am, n0]
    rw [this]
    rfl
  rw [seq_nx (set_ok e9)]
  obtain ⟨t5, ht5⟩ : ∃ t, t = t4.set 7 (some (.d (.list ((sharesL n ns).map .int)))) := ⟨_, rfl⟩
  rw [← ht5]
  have l5 : t5.length = 19 := by rw [ht5, List.length_set]; exact l4
  have f1 : t5[1]? = some (some (.r 0)) := by rw [ht5]; exact has_set d1 (by decide)
  have f3 : t5[3]? = some (some (.d (.int n))) := by rw [ht5]; exact has_set d3 (by decide)
  have f6 : t5[6]? = some (some (.d (.list (ns.map .int)))) := by rw [ht5]; exact has_set d6 (by decide)
  have f7 : t5[7]? = some (some (.d (.list ((sharesL n ns).map .int)))) := by rw [ht5]; exact set_has l4 (by decide)
  have e10 : pCall gSum (pCons (pVar 6) (pNil)) t5 M5 = .ok (.d (.int ns.sum)) M5 := by
    rw [call1 (var_ok f6)]
    simp [gSum, viewI, view, intsOf_map]
  rw [seq_nx (set_ok e10)]
  obtain ⟨t6, ht6⟩ : ∃ t, t = t5.set 8 (some (.d (.int ns.sum))) := ⟨_, rfl⟩
  rw [← ht6]
  have l6 : t6.length = 19 := by rw [ht6, List.length_set]; exact l5
  have g1 : t6[1]? = some (some (.r 0)) := by rw [ht6]; exact has_set f1 (by decide)
  have g3 : t6[3]? = some (some (.d (.int n))) := by rw [ht6]; exact has_set f3 (by decide)
  have g6 : t6[6]? = some (some (.d (.list (ns.map .int)))) := by rw [ht6]; exact has_set f6 (by decide)
  have g7 : t6[7]? = some (some (.d (.list ((sharesL n ns).map .int)))) := by rw [ht6]; exact has_set f7 (by decide)
  have g8 : t6[8]? = some (some (.d (.int ns.sum))) := by rw [ht6]; exact set_has l5 (by decide)
  rw [seq_nx (set_ok (mut_ok (lc7_ok (C := C) (M := M5) g3 g6 g8 l6 n0 n1 hl2 hz (by omega))))]
  obtain ⟨j, hj⟩ : ∃ j, j = M5.length := ⟨_, rfl⟩
  rw [← hj]
  obtain ⟨M6, hM6⟩ : ∃ M6, M6 = M5 ++ [MO.lst ((floorsL n ns).map wi)] := ⟨_, rfl⟩
  rw [← hM6]
  have p5 : PoolOk M5 := q5.1
  have j0 : j ≠ 0 := by
    obtain ⟨_, _, _, _, _, y1, _⟩ := p5
    have := (List.getElem?_eq_some_iff.mp y1).1
    omega
  have p6 : PoolOk M6 := by rw [hM6]; exact pool_app p5
  have m6 : M6[j]? = some (.lst ((floorsL n ns).map wi)) := by rw [hM6, hj]; simp
  obtain ⟨t7, ht7⟩ : ∃ t, t = t6.set 9 (some (.r j)) := ⟨_, rfl⟩
  rw [← ht7]
  have l7 : t7.length = 19 := by rw [ht7, List.length_set]; exact l6
  have h1 : t7[1]? = some (some (.r 0)) := by rw [ht7]; exact has_set g1 (by decide)
  have h3 : t7[3]? = some (some (.d (.int n))) := by rw [ht7]; exact has_set g3 (by decide)
  have h6 : t7[6]? = some (some (.d (.list (ns.map .int)))) := by rw [ht7]; exact has_set g6 (by decide)
  have h7 : t7[7]? = some (some (.d (.list ((sharesL n ns).map .int)))) := by rw [ht7]; exact has_set g7 (by decide)
  have h8 : t7[8]? = some (some (.d (.int ns.sum))) := by rw [ht7]; exact has_set g8 (by decide)
  have h9 : t7[9]? = some (some (.r j)) := by rw [ht7]; exact set_has l6 (by decide)
  have e12 : pDat (pCallL gSorted (pCons (pDat ((lc6_law C))) (pNil))) t7 M6 = .ok (.d (.list (sortD (restsL n ns)))) M6 := by
    refine dat_ok (ws := (sortD (restsL n ns)).map W.d) ?_ (allD_map _)
    unfold pCallL pCons pNil
    rw [dat_ok (lc6_ok (C := C) (M := M6) h3 h6 h8 l7 n0 n1 hl2 hz) (allD_map _)]
    have so := sortable_rests n ns
    simp only [R.bind, gSorted, view, so, if_true]
  rw [seq_nx (set_ok e12)]
  obtain ⟨t8, ht8⟩ : ∃ t, t = t7.set 10 (some (.d (.list (sortD (restsL n ns))))) := ⟨_, rfl⟩
  rw [← ht8]
  have l8 : t8.length = 19 := by rw [ht8, List.length_set]; exact l7
  have k1 : t8[1]? = some (some (.r 0)) := by rw [ht8]; exact has_set h1 (by decide)
  have k3 : t8[3]? = some (some (.d (.int n))) := by rw [ht8]; exact has_set h3 (by decide)
  have k6 : t8[6]? = some (some (.d (.list (ns.map .int)))) := by rw [ht8]; exact has_set h6 (by decide)
  have k7 : t8[7]? = some (some (.d (.list ((sharesL n ns).map .int)))) := by rw [ht8]; exact has_set h7 (by decide)
  have k9 : t8[9]? = some (some (.r j)) := by rw [ht8]; exact has_set h9 (by decide)
  have k10 : t8[10]? = some (some (.d (.list (sortD (restsL n ns))))) := by rw [ht8]; exact set_has l7 (by decide)
  have e13 : pItL (pDat (pSlL (pVar 10) (pNo) (pSo (pOp gSubI (pVar 3) (pCall gSum (pCons (pVar 9) (pNil))))))) t8 M6 = .ok ((cutW (sortD (restsL n ns)) none (some (n - (floorsL n ns).sum))).map W.d) M6 := by
    have c1 : pCall gSum (pCons (pVar 9) (pNil)) t8 M6 = .ok (.d (.int (floorsL n ns).sum)) M6 := by
      rw [call1 (var_ok k9)]
      simp [gSum, viewI, view, m6, allD_wi, intsOf_map]
    have c2 : pOp gSubI (pVar 3) (pCall gSum (pCons (pVar 9) (pNil))) t8 M6 = .ok (.d (.int (n - (floorsL n ns).sum))) M6 := by
      rw [op_ok (var_ok k3) c1]
      rfl
    have c3 : pSlL (pVar 10) (pNo) (pSo (pOp gSubI (pVar 3) (pCall gSum (pCons (pVar 9) (pNil))))) t8 M6 = .ok ((cutW (sortD (restsL n ns)) none (some (n - (floorsL n ns).sum))).map W.d) M6 := by
      unfold pSlL
      rw [var_ok k10]
      simp only [R.bind, pNo, pSo, c2, itemsL]
      rw [cutW_map]
    unfold pItL
    rw [dat_ok c3 (allD_map _)]
    rfl
  have eb : lp5_law C = incB 9 12 := rfl
  have eg : (qTup 2 (qCons (qName 11) (qCons (qName 12) qNil))) = incG 11 12 := rfl
  rw [eb, eg]
  obtain ⟨t9, z1', z2', z3'⟩ := incr_loop (f := 9) (r := 11) (a := 12) (m := j) (by decide) (by decide) (by decide) (cutW (sortD (restsL n ns)) none (some (n - (floorsL n ns).sum))) t8 M6 (floorsL n ns) k9 (by omega) (by omega) m6 rests_at
  rw [seq_nx ((for_ok e13).trans z1')]
  have eS : (cutW (sortD (restsL n ns)) none (some (n - (floorsL n ns).sum))).foldl incrAt (floorsL n ns) = sharesL n ns := rfl
  rw [eS]
  obtain ⟨M7, hM7⟩ : ∃ M7, M7 = M6.set j (MO.lst ((sharesL n ns).map wi)) := ⟨_, rfl⟩
  rw [← hM7]
  have p7 : PoolOk M7 := by rw [hM7]; exact pool_set p6 j0
  have m7 : M7[j]? = some (.lst ((sharesL n ns).map wi)) := by rw [hM7]; exact List.getElem?_set_self (List.getElem?_eq_some_iff.mp m6).1
  have l9 : t9.length = 19 := by rw [z2']; exact l8
  have r1 : t9[1]? = some (some (.r 0)) := (z3' 1 (by decide) (by decide)).trans k1
  have r3 : t9[3]? = some (some (.d (.int n))) := (z3' 3 (by decide) (by decide)).trans k3
  have r6 : t9[6]? = some (some (.d (.list (ns.map .int)))) := (z3' 6 (by decide) (by decide)).trans k6
  have r7 : t9[7]? = some (some (.d (.list ((sharesL n ns).map .int)))) := (z3' 7 (by decide) (by decide)).trans k7
  have r9 : t9[9]? = some (some (.r j)) := (z3' 9 (by decide) (by decide)).trans k9
  have sl : (sharesL n ns).length ≤ 1000000 := by rw [sharesL_len]; omega
  have c1 := same_view (M := M7) (var_ok r7) (var_ok r9) m7 (sameOk_ints sl)
  have gd := shares_good n0 hl1 (fun x hx => (hw x hx).1) hz
  have c2 : pB (pOp (gIsB true) (pCallQ q_judge_shared [] (pCons (pVar 3) (pCons (pVar 6) (pCons (pDat (pCallL gList (pCons (pVar 7) (pNil)))) (pNil))))) (pC (.bool true))) t9 M7 = .ok false M7 := by
    have el : pDat (pCallL gList (pCons (pVar 7) (pNil))) t9 M7 = .ok (.d (.list ((sharesL n ns).map .int))) M7 := dat_ok (by rw [callL1 (var_ok r7)]; rfl) (allD_map _)
    have ej : pCallQ q_judge_shared [] (pCons (pVar 3) (pCons (pVar 6) (pCons (pDat (pCallL gList (pCons (pVar 7) (pNil)))) (pNil)))) t9 M7 = .ok (.d (.bool true)) M7 := by
      rw [call_data (ds := [.int n, .list (ns.map .int), .list ((sharesL n ns).map .int)]) (cons_ok (var_ok r3) (cons_ok (var_ok r6) (cons_ok el nil_ok)))]
      have : q_judge_shared [.int n, .list (ns.map .int), .list ((sharesL n ns).map .int)] = .ok (.bool true) := by
        unfold q_judge_shared
        simp only [intsOf_map]
        rw [if_pos ⟨hwok, n0, n1, sl⟩, gd]
      rw [this]
      rfl
    unfold pB
    rw [op_ok (y := .d (.bool true)) (M'' := M7) ej rfl]
    rfl
  have c3 : pNotT (pTru (pCallQ q__law_same [] (pCons (pCallQ q_checked_weights [] (pCons (pVar 6) (pNil))) (pCons (pVar 6) (pNil))))) t9 M7 = .ok false M7 := by
    refine same_true (d := .list (ns.map .int)) (M1 := M7) ?_ (var_ok r6) (sameOk_ints (by omega))
    rw [call_data (ds := [.list (ns.map .int)]) (cons_ok (var_ok r6) nil_ok)]
    simp [q_checked_weights, hwok, PR.to]
  rw [seq_nx (s' := t9) (M' := M7) (by
    rw [if_ff (M' := M7) (by
      unfold pOrT
      rw [c1]
      simp only [R.bind, Bool.false_eq_true, if_false]
      rw [c2]
      simp only [R.bind, Bool.false_eq_true, if_false]
      exact c3)]
    rfl)]
  have it : pRng1 (pC (.int 4)) t9 M7 = .ok (rngW 0 4) M7 := rng1_okI (j := 4) rfl (small62 (by decide) (by decide))
  obtain ⟨s', M', e, hI, hk⟩ := forL_keep (g := qName 13) (b := lp4_law C) (I := fun _ t M => LInv t M ∧ ∀ i, i < 12 → t[i]? = t9[i]?) (rngW 0 4) 0 t9 M7 ⟨⟨p7, l9, r1⟩, fun _ _ => rfl⟩ fun x _ k t M ⟨ht, hk⟩ => by
    obtain ⟨t', M', e, a1, a2, a3⟩ := lp4_ok (C := C) (s := t.set 13 (some x)) (n := n) (ns := ns) (ts := sharesL n ns) ht.pool (by rw [List.length_set]; exact ht.len) (has_set ht.s1 (by decide)) (has_set ((hk 3 (by decide)).trans r3) (by decide)) (has_set ((hk 6 (by decide)).trans r6) (by decide)) (has_set ((hk 7 (by decide)).trans r7) (by decide)) hwok n0 n1 (by rw [sharesL_len]; exact hl2)
    have b : ∀ i, i < 12 → t'[i]? = t9[i]? := fun i hi => by
      rw [a3 i hi, List.getElem?_set_ne (by omega)]
      exact hk i hi
    exact ⟨_, t', M', rfl, e, ⟨a1, a2, (b 1 (by decide)).trans r1⟩, b⟩
  exact ⟨s', M', (for_ok it).trans e, hI⟩
theorem law_true_at (C : Addr) (ns : List Int) : ∃ m, b_law C (none :: some (.r 0) :: List.replicate 17 none) [poolM ns 0 0 0 0] = .rt (.d (.bool true)) m :=
  law_end (fun _ _ h => lp9_ok h) ⟨⟨ns, 0, 0, 0, 0, rfl, by decide⟩, by simp, rfl⟩
end
end Z

set_option linter.all false
set_option autoImplicit false
set_option maxRecDepth 100000
set_option maxHeartbeats 4000000
namespace Z
open PySem PySem.Spec PyProof.Rows L2 L2H
def top (i : Nat) : Stmt := PySem.Challenge.pw_desksagree_k78_shares_that_lose_nothing.main.body.getD i (.Pass ⟨0, 0, 0, 0⟩)
structure Txt (K : PySem.W.Frag) (mg : Str → Option Value) (C_Rates : Addr) (C_DeskError : Addr) (C_InvalidNumber : Addr) (C_InvalidPaper : Addr) : Prop where
  n_ValueError : mg "ValueError" = none
  n_abs : mg "abs" = none
  n_bool : mg "bool" = none
  c_AMOUNT : ∃ t, mg "AMOUNT" = some (.int 1000000000 t)
  c_LETTERS : ∃ t, mg "LETTERS" = some (.str "abcdefghijklmnopqrstuvwxyz" t)
  c_LONGEST : ∃ t, mg "LONGEST" = some (.int 12 t)
  c_MOST : ∃ t, mg "MOST" = some (.int 1000000 t)
  na_Rates__rows : NoAttr K C_Rates "_rows"
  n_int : mg "int" = none
  n_isinstance : mg "isinstance" = none
  cl_Rates : Cls K C_Rates
  g_Rates : mg "Rates" = some (.ref C_Rates)
  n_len : mg "len" = none
  n_list : mg "list" = none
  n_max : mg "max" = none
  n_min : mg "min" = none
  n_range : mg "range" = none
  n_reversed : mg "reversed" = none
  n_sorted : mg "sorted" = none
  n_str : mg "str" = none
  n_sum : mg "sum" = none
  n_tuple : mg "tuple" = none
  x_InvalidNumber : ExcCl K mg "InvalidNumber"
  x_InvalidPaper : ExcCl K mg "InvalidPaper"
  d_is_name : DefAt K mg "is_name" (top 8) ["word"]
  d_is_number : DefAtD K mg "is_number" (top 9) ["value", "least", "most"]
  d_is_amount : DefAt K mg "is_amount" (top 11) ["value"]
  d_checked_rate : DefAt K mg "checked_rate" (top 14) ["rate"]
  d_changed : DefAt K mg "changed" (top 15) ["amount", "rate"]
  d_rest_of : DefAt K mg "rest_of" (top 16) ["amount", "rate"]
  d_checked_weights : DefAt K mg "checked_weights" (top 17) ["weights"]
  d_shared : DefAt K mg "shared" (top 18) ["amount", "weights"]
  d_judge_shared : DefAt K mg "judge_shared" (top 19) ["amount", "weights", "told"]
  d_Rates_init : MakeAt K C_Rates "Rates.__init__" (inClass (top 20) 0) ["self"]
  d_Rates_tell : MethAt K C_Rates "tell" "Rates.tell" (inClass (top 20) 1) ["self", "day", "one", "other", "rate"]
  d_Rates_rate : MethAt K C_Rates "rate" "Rates.rate" (inClass (top 20) 2) ["self", "one", "other", "day"]
  d_Rates_rows : MethAt K C_Rates "rows" "Rates.rows" (inClass (top 20) 3) ["self"]
  d_Rates_copy : MethAt K C_Rates "copy" "Rates.copy" (inClass (top 20) 4) ["self"]
  d__law_same : DefAt K mg "_law_same" (top 22) ["actual", "due"]
  d__law_pool : DefAt K mg "_law_pool" (top 23) ["script"]
  d__law_draw : DefAt K mg "_law_draw" (top 24) ["pool", "many"]
  d__law_pick : DefAt K mg "_law_pick" (top 25) ["pool", "rows"]
  d__law_refusal : DefAt K mg "_law_refusal" (top 26) ["problem"]
  d__law_good : DefAt K mg "_law_good" (top 27) ["amount", "weights", "told"]
  d__law_refused : DefAt K mg "_law_refused" (top 28) ["choice", "one", "two", "three"]
  d__law_rates_right : DefAt K mg "_law_rates_right" (top 29) ["pool"]
  d_law : DefAt K mg "law" (top 30) ["script"]
  cat : ∀ y b, catK y = some b → ∃ cv, mg y = some cv ∧ PySem.W.exmOne K cv (.ref C_DeskError) = some b
  g_DeskError : mg "DeskError" = some (.ref C_DeskError)
  g_InvalidNumber : mg "InvalidNumber" = some (.ref C_InvalidNumber)
  g_InvalidPaper : mg "InvalidPaper" = some (.ref C_InvalidPaper)
  e_InvalidNumber : ExcC K C_InvalidNumber
  e_InvalidPaper : ExcC K C_InvalidPaper
  k_NN : PySem.W.kitOne K (.ref C_InvalidNumber) (.ref C_InvalidNumber) = some true
  k_NP : PySem.W.kitOne K (.ref C_InvalidNumber) (.ref C_InvalidPaper) = some false
  k_PN : PySem.W.kitOne K (.ref C_InvalidPaper) (.ref C_InvalidNumber) = some false
  k_PP : PySem.W.kitOne K (.ref C_InvalidPaper) (.ref C_InvalidPaper) = some true
  k_NV : PySem.W.kitOne K (.ref C_InvalidNumber) (.type "ValueError") = some true
  k_PV : PySem.W.kitOne K (.ref C_InvalidPaper) (.type "ValueError") = some true
section
variable {P : Program} {w : World} {K : PySem.W.Frag} {mg : Str → Option Value} {base : Heap} {C_Rates C_DeskError C_InvalidNumber C_InvalidPaper : Addr}
abbrev s_is_name : Stmt := top 8
theorem sc_is_name : FnScope N_is_name ["word"] (defScope s_is_name) := ⟨rfl, rfl, rfl, by decide +kernel, rfl, by decide +kernel, by decide +kernel⟩
theorem ok0_is_name (T : Txt K mg C_Rates C_DeskError C_InvalidNumber C_InvalidPaper) : IsFn P w K mg base 1 "is_name" ["word"] [] (f0_is_name) := T.d_is_name.fn (k := 0) (b := b_is_name) sc_is_name fun f cdv A outer s H E b =>
    jss_cons (js_if (jt_w (jw_or (jt_not (jt_tru (je_callB call_isi s_isi T.n_isinstance (by decide +kernel) (ja_cons (je_var 0) (ja_cons (je_bty T.n_str) ja_nil))))) (jw_or1 (jt_not (jt_chain op_le s_leI op_le s_leI (je_int) (je_callB call_len s_len T.n_len (by decide +kernel) (ja_cons (je_var 0) (ja_nil))) (je_gintE T.c_LONGEST)))))) (jss_one (js_ret (je_bl))) (jss_nil))
    (jss_cons (js_for b.hp rfl (ji_str (je_var 0)) (jg_name sc_is_name.nd) (jss_one (js_if (jt_cmp op_notin_str s_ninS (je_var 1) (je_gstrE T.c_LETTERS)) (jss_one (js_ret (je_bl))) (jss_nil))))
    (jss_one (js_ret (je_bl))))
theorem ok_is_name (T : Txt K mg C_Rates C_DeskError C_InvalidNumber C_InvalidPaper) : IsPure P w K mg base 1 "is_name" ["word"] [] q_is_name := (ok0_is_name T).pure (pure_is_name)
abbrev s_is_number : Stmt := top 9
theorem sc_is_number : FnScope N_is_number ["value", "least", "most"] (defScope s_is_number) := ⟨rfl, rfl, rfl, by decide +kernel, rfl, by decide +kernel, by decide +kernel⟩
theorem ok0_is_number (T : Txt K mg C_Rates C_DeskError C_InvalidNumber C_InvalidPaper) : IsFn P w K mg base 1 "is_number" ["value", "least", "most"] [] (f0_is_number) := T.d_is_number.fn (k := 0) (b := b_is_number) sc_is_number fun f cdv A outer s H E b =>
    jss_cons (js_if (jt_w (jw_or (jt_tru (je_callB call_isi s_isi T.n_isinstance (by decide +kernel) (ja_cons (je_var 0) (ja_cons (je_bty T.n_bool) ja_nil)))) (jw_or1 (jt_not (jt_tru (je_callB call_isi s_isi T.n_isinstance (by decide +kernel) (ja_cons (je_var 0) (ja_cons (je_bty T.n_int) ja_nil)))))))) (jss_one (js_ret (je_bl))) (jss_nil))
    (jss_one (js_ret (je_chain op_le s_leI op_le s_leI (je_var 1) (je_var 0) (je_var 2))))
theorem ok_is_number (T : Txt K mg C_Rates C_DeskError C_InvalidNumber C_InvalidPaper) : IsPure P w K mg base 1 "is_number" ["value", "least", "most"] [] q_is_number := (ok0_is_number T).pure (pure_is_number)
abbrev s_is_amount : Stmt := top 11
theorem sc_is_amount : FnScope N_is_amount ["value"] (defScope s_is_amount) := ⟨rfl, rfl, rfl, by decide +kernel, rfl, by decide +kernel, by decide +kernel⟩
theorem ok0_is_amount (T : Txt K mg C_Rates C_DeskError C_InvalidNumber C_InvalidPaper) : IsFn P w K mg base 2 "is_amount" ["value"] [] (f0_is_amount) := T.d_is_amount.fn (k := 1) (b := b_is_amount) sc_is_amount fun f cdv A outer s H E b =>
    jss_one (js_ret (je_callQ (ok_is_number T) (b.hr.mono (by decide)) b.hx (ja_cons (je_var 0) (ja_cons (je_neg (je_gintE T.c_AMOUNT)) (ja_cons (je_gintE T.c_AMOUNT) (ja_nil))))))
theorem ok_is_amount (T : Txt K mg C_Rates C_DeskError C_InvalidNumber C_InvalidPaper) : IsPure P w K mg base 2 "is_amount" ["value"] [] q_is_amount := (ok0_is_amount T).pure (pure_is_amount)
abbrev s_checked_rate : Stmt := top 14
theorem sc_checked_rate : FnScope N_checked_rate ["rate"] (defScope s_checked_rate) := ⟨rfl, rfl, rfl, by decide +kernel, rfl, by decide +kernel, by decide +kernel⟩
theorem ok0_checked_rate (T : Txt K mg C_Rates C_DeskError C_InvalidNumber C_InvalidPaper) : IsFn P w K mg base 2 "checked_rate" ["rate"] [] (f0_checked_rate) := T.d_checked_rate.fn (k := 1) (b := b_checked_rate) sc_checked_rate fun f cdv A outer s H E b =>
    jss_cons (js_if (jt_w (jw_or (jt_not (jt_tru (je_callB call_isi s_isi T.n_isinstance (by decide +kernel) (ja_cons (je_var 0) (ja_cons (je_bty T.n_tuple) ja_nil))))) (jw_or (jt_cmp (op_neD (hu64 b.hr)) s_neD (je_callB call_len s_len T.n_len (by decide +kernel) (ja_cons (je_var 0) (ja_nil))) (je_int)) (jw_or1 (jt_tru (je_dat (jl_lc (own := [("one", 1)]) rfl sc_checked_rate.nd (ji_tup (je_var 0)) (blkOk_by (N := N_checked_rate) (sc := (defScope s_checked_rate)) (by decide +kernel)) (fun _ _ _ _ _ => jg_name sc_checked_rate.nd) (fun _ _ _ _ _ => jts_one (jt_not (jt_tru (je_callQ (ok_is_number T) (b.hr.mono (by decide)) (fun _ => pass0) (ja_cons (je_var 1) (ja_cons (je_int) (ja_cons (je_gintE T.c_MOST) (ja_nil)))))))) (fun _ _ _ _ _ => je_var 1)))))))) (jss_one (js_raise rfl b.tk T.x_InvalidPaper)) (jss_nil))
    (jss_one (js_ret (je_var 0)))
theorem ok_checked_rate (T : Txt K mg C_Rates C_DeskError C_InvalidNumber C_InvalidPaper) : IsPure P w K mg base 2 "checked_rate" ["rate"] [] q_checked_rate := (ok0_checked_rate T).pure (pure_checked_rate)
abbrev s_changed : Stmt := top 15
theorem sc_changed : FnScope N_changed ["amount", "rate"] (defScope s_changed) := ⟨rfl, rfl, rfl, by decide +kernel, rfl, by decide +kernel, by decide +kernel⟩
theorem ok0_changed (T : Txt K mg C_Rates C_DeskError C_InvalidNumber C_InvalidPaper) : IsFn P w K mg base 3 "changed" ["amount", "rate"] [] (f0_changed) := T.d_changed.fn (k := 2) (b := b_changed) sc_changed fun f cdv A outer s H E b =>
    jss_cons (js_if (jt_not (jt_tru (je_callQ (ok_is_amount T) (b.hr.mono (by decide)) b.hx (ja_cons (je_var 0) (ja_nil))))) (jss_one (js_raise rfl b.tk T.x_InvalidNumber)) (jss_nil))
    (jss_cons (js_asg (je_callQ (ok_checked_rate T) (b.hr.mono (by decide)) b.hx (ja_cons (je_var 1) (ja_nil))) (jg_tup rfl (jgs_cons (jg_name sc_changed.nd) (jgs_cons (jg_name sc_changed.nd) (jgs_nil)))))
    (jss_cons (js_set (i := 4) sc_changed.nd (je_op op_fdivN s_divI (je_op op_mul s_mulI (je_callB call_abs s_abs T.n_abs (by decide +kernel) (ja_cons (je_var 0) (ja_nil))) (je_var 2)) (je_var 3)))
    (jss_cons (js_if (jt_cmp op_gt s_gtI (je_var 4) (je_gintE T.c_AMOUNT)) (jss_one (js_raise rfl b.tk T.x_InvalidNumber)) (jss_nil))
    (jss_one (js_ret (je_if (jt_cmp op_ge s_geI (je_var 0) (je_int)) (je_var 4) (je_neg (je_var 4))))))))
theorem ok_changed (T : Txt K mg C_Rates C_DeskError C_InvalidNumber C_InvalidPaper) : IsPure P w K mg base 3 "changed" ["amount", "rate"] [] q_changed := (ok0_changed T).pure (pure_changed)
abbrev s_rest_of : Stmt := top 16
theorem sc_rest_of : FnScope N_rest_of ["amount", "rate"] (defScope s_rest_of) := ⟨rfl, rfl, rfl, by decide +kernel, rfl, by decide +kernel, by decide +kernel⟩
theorem ok0_rest_of (T : Txt K mg C_Rates C_DeskError C_InvalidNumber C_InvalidPaper) : IsFn P w K mg base 4 "rest_of" ["amount", "rate"] [] (f0_rest_of) := T.d_rest_of.fn (k := 3) (b := b_rest_of) sc_rest_of fun f cdv A outer s H E b =>
    jss_cons (js_set (i := 2) sc_rest_of.nd (je_callB call_abs s_abs T.n_abs (by decide +kernel) (ja_cons (je_callQ (ok_changed T) (b.hr.mono (by decide)) b.hx (ja_cons (je_var 0) (ja_cons (je_var 1) (ja_nil)))) (ja_nil))))
    (jss_one (js_ret (je_tup (ja_cons (je_op op_sub s_subI (je_op op_mul s_mulI (je_callB call_abs s_abs T.n_abs (by decide +kernel) (ja_cons (je_var 0) (ja_nil))) (je_ix (je_var 1) (je_int))) (je_op op_mul s_mulI (je_var 2) (je_ix (je_var 1) (je_int)))) (ja_cons (je_ix (je_var 1) (je_int)) (ja_nil))))))
theorem ok_rest_of (T : Txt K mg C_Rates C_DeskError C_InvalidNumber C_InvalidPaper) : IsPure P w K mg base 4 "rest_of" ["amount", "rate"] [] q_rest_of := (ok0_rest_of T).pure (pure_rest_of)
abbrev s_checked_weights : Stmt := top 17
theorem sc_checked_weights : FnScope N_checked_weights ["weights"] (defScope s_checked_weights) := ⟨rfl, rfl, rfl, by decide +kernel, rfl, by decide +kernel, by decide +kernel⟩
theorem ok0_checked_weights (T : Txt K mg C_Rates C_DeskError C_InvalidNumber C_InvalidPaper) : IsFn P w K mg base 2 "checked_weights" ["weights"] [] (f0_checked_weights) := T.d_checked_weights.fn (k := 1) (b := b_checked_weights) sc_checked_weights fun f cdv A outer s H E b =>
    jss_cons (js_if (jt_w (jw_or (jt_not (jt_chain op_le s_leI op_le s_leI (je_int) (je_callB call_len s_len T.n_len (by decide +kernel) (ja_cons (je_var 0) (ja_nil))) (je_int))) (jw_or (jt_tru (je_dat (jl_lc (own := [("one", 1)]) rfl sc_checked_weights.nd (ji_list (je_var 0)) (blkOk_by (N := N_checked_weights) (sc := (defScope s_checked_weights)) (by decide +kernel)) (fun _ _ _ _ _ => jg_name sc_checked_weights.nd) (fun _ _ _ _ _ => jts_one (jt_not (jt_tru (je_callQ (ok_is_number T) (b.hr.mono (by decide)) (fun _ => pass0) (ja_cons (je_var 1) (ja_cons (je_int) (ja_cons (je_gintE T.c_MOST) (ja_nil)))))))) (fun _ _ _ _ _ => je_var 1)))) (jw_or1 (jt_cmp (op_eqD (hu64 b.hr)) s_eqD (je_callB (cr_sum rfl) s_sum T.n_sum (by decide +kernel) (ja_cons (je_var 0) (ja_nil))) (je_int)))))) (jss_one (js_raise rfl b.tk T.x_InvalidPaper)) (jss_nil))
    (jss_one (js_ret (je_dat (jl_callTy call_list_of s_list T.n_list (by decide +kernel) (ja_cons (je_var 0) (ja_nil))))))
theorem ok_checked_weights (T : Txt K mg C_Rates C_DeskError C_InvalidNumber C_InvalidPaper) : IsPure P w K mg base 2 "checked_weights" ["weights"] [] q_checked_weights := (ok0_checked_weights T).pure (pure_checked_weights)
abbrev s_shared : Stmt := top 18
theorem sc_shared : FnScope N_shared ["amount", "weights"] (defScope s_shared) := ⟨rfl, rfl, rfl, by decide +kernel, rfl, by decide +kernel, by decide +kernel⟩
theorem ok0_shared (T : Txt K mg C_Rates C_DeskError C_InvalidNumber C_InvalidPaper) : IsFn P w K mg base 3 "shared" ["amount", "weights"] [] (f0_shared) := T.d_shared.fn (k := 2) (b := b_shared) sc_shared fun f cdv A outer s H E b =>
    jss_cons (js_set (i := 2) sc_shared.nd (je_callQ (ok_checked_weights T) (b.hr.mono (by decide)) b.hx (ja_cons (je_var 1) (ja_nil))))
    (jss_cons (js_if (jt_w (jw_or (jt_not (jt_tru (je_callQ (ok_is_amount T) (b.hr.mono (by decide)) b.hx (ja_cons (je_var 0) (ja_nil))))) (jw_or1 (jt_cmp op_lt s_ltI (je_var 0) (je_int))))) (jss_one (js_raise rfl b.tk T.x_InvalidNumber)) (jss_nil))
    (jss_cons (js_set (i := 3) sc_shared.nd (je_callB (cr_sum rfl) s_sum T.n_sum (by decide +kernel) (ja_cons (je_var 2) (ja_nil))))
    (jss_cons (js_setLcM (i := 4) (own := [("one", 8)]) rfl sc_shared.nd (ji_list (je_var 2)) (blkOk_by (N := N_shared) (sc := (defScope s_shared)) (by decide +kernel)) (fun _ _ _ _ _ => jg_name sc_shared.nd) (fun _ _ _ _ _ => jts_nil) (fun _ _ _ _ _ => je_op op_fdivN s_divI (je_op op_mul s_mulI (je_var 0) (je_var 8)) (je_var 3)))
    (jss_cons (js_set (i := 5) sc_shared.nd (je_dat (jl_callB (cr_sortD (hu64 b.hr)) s_sorted T.n_sorted (by decide +kernel) (ja_cons (je_dat (jl_lc (own := [("at", 7)]) rfl sc_shared.nd (ji_rng1 T.n_range (je_callB call_len s_len T.n_len (by decide +kernel) (ja_cons (je_var 2) (ja_nil)))) (blkOk_by (N := N_shared) (sc := (defScope s_shared)) (by decide +kernel)) (fun _ _ _ _ _ => jg_name sc_shared.nd) (fun _ _ _ _ _ => jts_nil) (fun _ _ _ _ _ => je_tup (ja_cons (je_neg (je_op op_modN s_modI (je_op op_mul s_mulI (je_var 0) (je_ix (je_var 2) (je_var 7))) (je_var 3))) (ja_cons (je_var 7) (ja_nil)))))) (ja_nil)))))
    (jss_cons (js_for b.hp rfl (ji_list (je_dat (jl_slice (je_var 5) (jo_none) (jo_some (je_op op_sub s_subI (je_var 0) (je_callB (cr_sum rfl) s_sum T.n_sum (by decide +kernel) (ja_cons (je_var 4) (ja_nil)))))))) (jg_tup rfl (jgs_cons (jg_name sc_shared.nd) (jgs_cons (jg_name sc_shared.nd) (jgs_nil)))) (jss_one (js_sub (je_op op_add s_addI (je_ix (je_var 4) (je_var 7)) (je_int)) (je_var 4) (je_var 7))))
    (jss_one (js_ret (je_var 4))))))))
theorem ok_shared (T : Txt K mg C_Rates C_DeskError C_InvalidNumber C_InvalidPaper) : IsPure P w K mg base 3 "shared" ["amount", "weights"] [] q_shared := (ok0_shared T).pure (pure_shared)
abbrev s_judge_shared : Stmt := top 19
theorem sc_judge_shared : FnScope N_judge_shared ["amount", "weights", "told"] (defScope s_judge_shared) := ⟨rfl, rfl, rfl, by decide +kernel, rfl, by decide +kernel, by decide +kernel⟩
theorem ok0_judge_shared (T : Txt K mg C_Rates C_DeskError C_InvalidNumber C_InvalidPaper) : IsFn P w K mg base 3 "judge_shared" ["amount", "weights", "told"] [] (f0_judge_shared) := T.d_judge_shared.fn (k := 2) (b := b_judge_shared) sc_judge_shared fun f cdv A outer s H E b =>
    jss_cons (js_set (i := 3) sc_judge_shared.nd (je_callQ (ok_checked_weights T) (b.hr.mono (by decide)) b.hx (ja_cons (je_var 1) (ja_nil))))
    (jss_cons (js_if (jt_w (jw_or (jt_not (jt_tru (je_callQ (ok_is_amount T) (b.hr.mono (by decide)) b.hx (ja_cons (je_var 0) (ja_nil))))) (jw_or (jt_cmp op_lt s_ltI (je_var 0) (je_int)) (jw_or1 (jt_cmp (op_neD (hu64 b.hr)) s_neD (je_callB call_len s_len T.n_len (by decide +kernel) (ja_cons (je_var 2) (ja_nil))) (je_callB call_len s_len T.n_len (by decide +kernel) (ja_cons (je_var 3) (ja_nil)))))))) (jss_one (js_ret (je_bl))) (jss_nil))
    (jss_cons (js_if (jt_w (jw_or (jt_tru (je_dat (jl_lc (own := [("one", 6)]) rfl sc_judge_shared.nd (ji_list (je_var 2)) (blkOk_by (N := N_judge_shared) (sc := (defScope s_judge_shared)) (by decide +kernel)) (fun _ _ _ _ _ => jg_name sc_judge_shared.nd) (fun _ _ _ _ _ => jts_one (jt_not (jt_tru (je_callQ (ok_is_amount T) (b.hr.mono (by decide)) (fun _ => pass0) (ja_cons (je_var 6) (ja_nil)))))) (fun _ _ _ _ _ => je_var 6)))) (jw_or1 (jt_cmp (op_neD (hu64 b.hr)) s_neD (je_callB (cr_sum rfl) s_sum T.n_sum (by decide +kernel) (ja_cons (je_var 2) (ja_nil))) (je_var 0))))) (jss_one (js_ret (je_bl))) (jss_nil))
    (jss_cons (js_set (i := 4) sc_judge_shared.nd (je_callB (cr_sum rfl) s_sum T.n_sum (by decide +kernel) (ja_cons (je_var 3) (ja_nil))))
    (jss_cons (js_setLc (i := 5) (own := [("at", 7)]) rfl sc_judge_shared.nd (ji_rng1 T.n_range (je_callB call_len s_len T.n_len (by decide +kernel) (ja_cons (je_var 3) (ja_nil)))) (blkOk_by (N := N_judge_shared) (sc := (defScope s_judge_shared)) (by decide +kernel)) (fun _ _ _ _ _ => jg_name sc_judge_shared.nd) (fun _ _ _ _ _ => jts_nil) (fun _ _ _ _ _ => je_op op_sub s_subI (je_op op_mul s_mulI (je_ix (je_var 2) (je_var 7)) (je_var 4)) (je_op op_mul s_mulI (je_var 0) (je_ix (je_var 3) (je_var 7)))))
    (jss_cons (js_if (jt_tru (je_dat (jl_lc (own := [("one", 6)]) rfl sc_judge_shared.nd (ji_list (je_var 5)) (blkOk_by (N := N_judge_shared) (sc := (defScope s_judge_shared)) (by decide +kernel)) (fun _ _ _ _ _ => jg_name sc_judge_shared.nd) (fun _ _ _ _ _ => jts_one (jt_not (jt_chain op_lt s_ltI op_lt s_ltI (je_neg (je_var 4)) (je_var 6) (je_var 4)))) (fun _ _ _ _ _ => je_var 6)))) (jss_one (js_ret (je_bl))) (jss_nil))
    (jss_one (js_ret (je_cmp op_le s_leI (je_op op_sub s_subI (je_callB (cr_max rfl) s_maxI T.n_max (by decide +kernel) (ja_cons (je_var 5) (ja_nil))) (je_callB (cr_min rfl) s_minI T.n_min (by decide +kernel) (ja_cons (je_var 5) (ja_nil)))) (je_var 4)))))))))
theorem ok_judge_shared (T : Txt K mg C_Rates C_DeskError C_InvalidNumber C_InvalidPaper) : IsPure P w K mg base 3 "judge_shared" ["amount", "weights", "told"] [] q_judge_shared := (ok0_judge_shared T).pure (pure_judge_shared)
abbrev s_Rates_init : Stmt := inClass (top 20) 0
theorem sc_Rates_init : FnScope N_Rates_init ["self"] (defScope s_Rates_init) := ⟨rfl, rfl, rfl, by decide +kernel, rfl, by decide +kernel, by decide +kernel⟩
theorem ok0_Rates_init (T : Txt K mg C_Rates C_DeskError C_InvalidNumber C_InvalidPaper) : IsMake P w K mg base 1 C_Rates ["self"] (f0_Rates_init C_Rates) := T.d_Rates_init.fn (k := 0) (b := b_Rates_init C_Rates) sc_Rates_init fun f cdv A outer s H E b =>
    jss_one (js_fld T.cl_Rates T.na_Rates__rows (je_var 0) (je_dat (jl_lst (ja_nil))))
theorem ok_Rates_init (T : Txt K mg C_Rates C_DeskError C_InvalidNumber C_InvalidPaper) : IsMake P w K mg base 1 C_Rates ["self"] (f_Rates_init C_Rates) := ok0_Rates_init T
abbrev s_Rates_tell : Stmt := inClass (top 20) 1
theorem sc_Rates_tell : FnScope N_Rates_tell ["self", "day", "one", "other", "rate"] (defScope s_Rates_tell) := ⟨rfl, rfl, rfl, by decide +kernel, rfl, by decide +kernel, by decide +kernel⟩
theorem ok0_Rates_tell (T : Txt K mg C_Rates C_DeskError C_InvalidNumber C_InvalidPaper) : IsMeth P w K mg base 3 C_Rates "tell" ["self", "day", "one", "other", "rate"] (f0_Rates_tell C_Rates) := T.d_Rates_tell.fn (k := 2) (b := b_Rates_tell C_Rates) sc_Rates_tell fun f cdv A outer s H E b =>
    jss_cons (js_if (jt_not (jt_tru (je_callQ (ok_is_number T) (b.hr.mono (by decide)) b.hx (ja_cons (je_var 1) (ja_cons (je_int) (ja_cons (je_int) (ja_nil))))))) (jss_one (js_raise rfl b.tk T.x_InvalidNumber)) (jss_nil))
    (jss_cons (js_if (jt_w (jw_or (jt_not (jt_tru (je_callQ (ok_is_name T) (b.hr.mono (by decide)) b.hx (ja_cons (je_var 2) (ja_nil))))) (jw_or (jt_not (jt_tru (je_callQ (ok_is_name T) (b.hr.mono (by decide)) b.hx (ja_cons (je_var 3) (ja_nil))))) (jw_or1 (jt_cmp (op_eqD (hu64 b.hr)) s_eqD (je_var 2) (je_var 3)))))) (jss_one (js_raise rfl b.tk T.x_InvalidPaper)) (jss_nil))
    (jss_cons (js_expr (je_callQ (ok_checked_rate T) (b.hr.mono (by decide)) b.hx (ja_cons (je_var 4) (ja_nil))))
    (jss_cons (js_fld T.cl_Rates T.na_Rates__rows (je_var 0) (je_dat (jl_lc (own := [("row", 5)]) rfl sc_Rates_tell.nd (ji_list (je_fld T.cl_Rates T.na_Rates__rows (je_var 0))) (blkOk_by (N := N_Rates_tell) (sc := (defScope s_Rates_tell)) (by decide +kernel)) (fun _ _ _ _ _ => jg_name sc_Rates_tell.nd) (fun _ _ _ _ _ => jts_one (jt_cmp (op_neD (hu64 b.hr)) s_neD (je_sliceT (je_var 5) (jo_none) (jo_some (je_int))) (je_tup (ja_cons (je_var 2) (ja_cons (je_var 3) (ja_cons (je_var 1) (ja_nil))))))) (fun _ _ _ _ _ => je_var 5))))
    (jss_one (js_fld T.cl_Rates T.na_Rates__rows (je_var 0) (je_dat (jl_callB (cr_sortD (hu64 b.hr)) s_sorted T.n_sorted (by decide +kernel) (ja_cons (je_dat (jl_cat (je_fld T.cl_Rates T.na_Rates__rows (je_var 0)) (je_dat (jl_lst (ja_cons (je_tup (ja_cons (je_var 2) (ja_cons (je_var 3) (ja_cons (je_var 1) (ja_cons (je_var 4) (ja_nil)))))) (ja_nil)))))) (ja_nil)))))))))
theorem ok_Rates_tell (T : Txt K mg C_Rates C_DeskError C_InvalidNumber C_InvalidPaper) : IsMeth P w K mg base 3 C_Rates "tell" ["self", "day", "one", "other", "rate"] (f_Rates_tell C_Rates) := ok0_Rates_tell T
abbrev s_Rates_rate : Stmt := inClass (top 20) 2
theorem sc_Rates_rate : FnScope N_Rates_rate ["self", "one", "other", "day"] (defScope s_Rates_rate) := ⟨rfl, rfl, rfl, by decide +kernel, rfl, by decide +kernel, by decide +kernel⟩
theorem ok0_Rates_rate (T : Txt K mg C_Rates C_DeskError C_InvalidNumber C_InvalidPaper) : IsMeth P w K mg base 1 C_Rates "rate" ["self", "one", "other", "day"] (f0_Rates_rate C_Rates) := T.d_Rates_rate.fn (k := 0) (b := b_Rates_rate C_Rates) sc_Rates_rate fun f cdv A outer s H E b =>
    jss_cons (js_if (jt_cmp (op_eqD (hu64 b.hr)) s_eqD (je_var 1) (je_var 2)) (jss_one (js_ret (je_tup (ja_cons (je_int) (ja_cons (je_int) (ja_nil)))))) (jss_nil))
    (jss_cons (js_setLc (i := 4) (own := [("row", 6)]) rfl sc_Rates_rate.nd (ji_list (je_fld T.cl_Rates T.na_Rates__rows (je_var 0))) (blkOk_by (N := N_Rates_rate) (sc := (defScope s_Rates_rate)) (by decide +kernel)) (fun _ _ _ _ _ => jg_name sc_Rates_rate.nd) (fun _ _ _ _ _ => jts_one (jt_cmp op_le s_leI (je_ix (je_var 6) (je_int)) (je_var 3))) (fun _ _ _ _ _ => je_var 6))
    (jss_cons (js_setLc (i := 5) (own := [("row", 6)]) rfl sc_Rates_rate.nd (ji_list (je_var 4)) (blkOk_by (N := N_Rates_rate) (sc := (defScope s_Rates_rate)) (by decide +kernel)) (fun _ _ _ _ _ => jg_name sc_Rates_rate.nd) (fun _ _ _ _ _ => jts_one (jt_cmp (op_eqD (hu64 b.hr)) s_eqD (je_sliceT (je_var 6) (jo_none) (jo_some (je_int))) (je_tup (ja_cons (je_var 1) (ja_cons (je_var 2) (ja_nil)))))) (fun _ _ _ _ _ => je_tup (ja_cons (je_ix (je_var 6) (je_int)) (ja_cons (je_int) (ja_cons (je_ix (je_var 6) (je_int)) (ja_nil))))))
    (jss_cons (js_set (i := 5) sc_Rates_rate.nd (je_dat (jl_cat (je_var 5) (je_dat (jl_lc (own := [("row", 6)]) rfl sc_Rates_rate.nd (ji_list (je_var 4)) (blkOk_by (N := N_Rates_rate) (sc := (defScope s_Rates_rate)) (by decide +kernel)) (fun _ _ _ _ _ => jg_name sc_Rates_rate.nd) (fun _ _ _ _ _ => jts_one (jt_cmp (op_eqD (hu64 b.hr)) s_eqD (je_sliceT (je_var 6) (jo_none) (jo_some (je_int))) (je_tup (ja_cons (je_var 2) (ja_cons (je_var 1) (ja_nil)))))) (fun _ _ _ _ _ => je_tup (ja_cons (je_ix (je_var 6) (je_int)) (ja_cons (je_int) (ja_cons (je_tup (ja_cons (je_ix (je_ix (je_var 6) (je_int)) (je_int)) (ja_cons (je_ix (je_ix (je_var 6) (je_int)) (je_int)) (ja_nil)))) (ja_nil))))))))))
    (jss_one (js_ret (je_if (jt_tru (je_var 5)) (je_ix (je_callB (cr_maxT rfl (hu64 b.hr)) s_maxT T.n_max (by decide +kernel) (ja_cons (je_var 5) (ja_nil))) (je_int)) (je_non)))))))
theorem ok_Rates_rate (T : Txt K mg C_Rates C_DeskError C_InvalidNumber C_InvalidPaper) : IsMeth P w K mg base 1 C_Rates "rate" ["self", "one", "other", "day"] (f_Rates_rate C_Rates) := ok0_Rates_rate T
abbrev s_Rates_rows : Stmt := inClass (top 20) 3
theorem sc_Rates_rows : FnScope N_Rates_rows ["self"] (defScope s_Rates_rows) := ⟨rfl, rfl, rfl, by decide +kernel, rfl, by decide +kernel, by decide +kernel⟩
theorem ok0_Rates_rows (T : Txt K mg C_Rates C_DeskError C_InvalidNumber C_InvalidPaper) : IsMeth P w K mg base 1 C_Rates "rows" ["self"] (f0_Rates_rows C_Rates) := T.d_Rates_rows.fn (k := 0) (b := b_Rates_rows C_Rates) sc_Rates_rows fun f cdv A outer s H E b =>
    jss_one (js_ret (je_dat (jl_callTy call_list_of s_list T.n_list (by decide +kernel) (ja_cons (je_fld T.cl_Rates T.na_Rates__rows (je_var 0)) (ja_nil)))))
theorem ok_Rates_rows (T : Txt K mg C_Rates C_DeskError C_InvalidNumber C_InvalidPaper) : IsMeth P w K mg base 1 C_Rates "rows" ["self"] (f_Rates_rows C_Rates) := ok0_Rates_rows T
abbrev s_Rates_copy : Stmt := inClass (top 20) 4
theorem sc_Rates_copy : FnScope N_Rates_copy ["self"] (defScope s_Rates_copy) := ⟨rfl, rfl, rfl, by decide +kernel, rfl, by decide +kernel, by decide +kernel⟩
theorem ok0_Rates_copy (T : Txt K mg C_Rates C_DeskError C_InvalidNumber C_InvalidPaper) : IsMeth P w K mg base 3 C_Rates "copy" ["self"] (f0_Rates_copy C_Rates) := T.d_Rates_copy.fn (k := 2) (b := b_Rates_copy C_Rates) sc_Rates_copy fun f cdv A outer s H E b =>
    jss_cons (js_set (i := 1) sc_Rates_copy.nd (je_makeB0 (ok_Rates_init T) (b.hr.mono (by decide)) T.g_Rates))
    (jss_cons (js_fld T.cl_Rates T.na_Rates__rows (je_var 1) (je_dat (jl_callTy call_list_of s_list T.n_list (by decide +kernel) (ja_cons (je_fld T.cl_Rates T.na_Rates__rows (je_var 0)) (ja_nil)))))
    (jss_one (js_ret (je_var 1))))
theorem ok_Rates_copy (T : Txt K mg C_Rates C_DeskError C_InvalidNumber C_InvalidPaper) : IsMeth P w K mg base 3 C_Rates "copy" ["self"] (f_Rates_copy C_Rates) := ok0_Rates_copy T
abbrev s__law_same : Stmt := top 22
theorem sc__law_same : FnScope N__law_same ["actual", "due"] (defScope s__law_same) := ⟨rfl, rfl, rfl, by decide +kernel, rfl, by decide +kernel, by decide +kernel⟩
theorem ok0__law_same {k : Nat} (T : Txt K mg C_Rates C_DeskError C_InvalidNumber C_InvalidPaper) {rec : List PyData → PR} (ih : IsPure P w K mg base k "_law_same" ["actual", "due"] [] rec) : IsFn P w K mg base (k + 1) "_law_same" ["actual", "due"] [] (f0__law_same rec) := T.d__law_same.fn (k := k) (b := b__law_same rec) sc__law_same fun f cdv A outer s H E b =>
    jss_cons (js_if (jt_cmp op_isN s_isN (je_var 1) (je_non)) (jss_one (js_ret (je_cmp op_isN s_isN (je_var 0) (je_non)))) (jss_nil))
    (jss_cons (js_if (jt_tru (je_isi2 T.n_isinstance T.n_tuple T.n_list (je_var 1))) (jss_cons (js_if (jt_w (jw_or (jt_cmp (op_neD (hu64 b.hr)) s_neD (je_callB call_isi s_isi T.n_isinstance (by decide +kernel) (ja_cons (je_var 1) (ja_cons (je_bty T.n_tuple) ja_nil))) (je_callB call_isi s_isi T.n_isinstance (by decide +kernel) (ja_cons (je_var 0) (ja_cons (je_bty T.n_tuple) ja_nil)))) (jw_or1 (jt_cmp (op_neD (hu64 b.hr)) s_neD (je_callB call_isi s_isi T.n_isinstance (by decide +kernel) (ja_cons (je_var 1) (ja_cons (je_bty T.n_list) ja_nil))) (je_callB call_isi s_isi T.n_isinstance (by decide +kernel) (ja_cons (je_var 0) (ja_cons (je_bty T.n_list) ja_nil))))))) (jss_one (js_ret (je_bl))) (jss_nil))
    (jss_cons (js_if (jt_cmp (op_neD (hu64 b.hr)) s_neD (je_callB call_len s_len T.n_len (by decide +kernel) (ja_cons (je_var 0) (ja_nil))) (je_callB call_len s_len T.n_len (by decide +kernel) (ja_cons (je_var 1) (ja_nil)))) (jss_one (js_ret (je_bl))) (jss_nil))
    (jss_cons (js_for b.hp rfl (ji_rng1 T.n_range (je_callB call_len s_len T.n_len (by decide +kernel) (ja_cons (je_var 1) (ja_nil)))) (jg_name sc__law_same.nd) (jss_one (js_if (jt_not (jt_tru (je_callQ ih b.hr b.hx (ja_cons (je_ix (je_var 0) (je_var 2)) (ja_cons (je_ix (je_var 1) (je_var 2)) (ja_nil)))))) (jss_one (js_ret (je_bl))) (jss_nil))))
    (jss_one (js_ret (je_bl)))))) (jss_nil))
    (jss_cons (js_if (jt_tru (je_callB call_isi s_isi T.n_isinstance (by decide +kernel) (ja_cons (je_var 1) (ja_cons (je_bty T.n_bool) ja_nil)))) (jss_one (js_ret (je_and (je_callB call_isi s_isi T.n_isinstance (by decide +kernel) (ja_cons (je_var 0) (ja_cons (je_bty T.n_bool) ja_nil))) (je_and1 (je_cmp (op_eqD (hu64 b.hr)) s_eqD (je_var 0) (je_var 1)))))) (jss_nil))
    (jss_cons (js_if (jt_tru (je_callB call_isi s_isi T.n_isinstance (by decide +kernel) (ja_cons (je_var 1) (ja_cons (je_bty T.n_int) ja_nil)))) (jss_one (js_ret (je_and (je_callB call_isi s_isi T.n_isinstance (by decide +kernel) (ja_cons (je_var 0) (ja_cons (je_bty T.n_int) ja_nil))) (je_and (je_not (je_callB call_isi s_isi T.n_isinstance (by decide +kernel) (ja_cons (je_var 0) (ja_cons (je_bty T.n_bool) ja_nil)))) (je_and1 (je_cmp (op_eqD (hu64 b.hr)) s_eqD (je_var 0) (je_var 1))))))) (jss_nil))
    (jss_one (js_ret (je_and (je_callB call_isi s_isi T.n_isinstance (by decide +kernel) (ja_cons (je_var 0) (ja_cons (je_bty T.n_str) ja_nil))) (je_and1 (je_cmp (op_eqD (hu64 b.hr)) s_eqD (je_var 0) (je_var 1)))))))))
theorem ok__law_same_n (T : Txt K mg C_Rates C_DeskError C_InvalidNumber C_InvalidPaper) : ∀ n, IsPure P w K mg base (n + 1) "_law_same" ["actual", "due"] [] (qs n)
  | 0 => (ok0__law_same (k := 0) T (rec := fun _ => .stuck) (let ⟨f, fd, h1, h2, F, hB⟩ := T.d__law_same.ex; ⟨fun _ _ => .stuck, ⟨f, fd, [], [], h1, h2, ⟨fun _ _ _ _ h => absurd h spG_stuck, fun _ _ _ _ _ _ _ _ _ _ _ _ _ h => absurd h spG_stuck⟩, hB, .nil, .nil, trivial⟩, fun _ h => absurd rfl h⟩)).pure (pure__law_same 0)
  | n + 1 => (ok0__law_same (k := n + 1) T (ok__law_same_n T n)).pure (pure__law_same (n + 1))
theorem ok__law_same (T : Txt K mg C_Rates C_DeskError C_InvalidNumber C_InvalidPaper) : IsPure P w K mg base 6 "_law_same" ["actual", "due"] [] q__law_same := ok__law_same_n T 5
abbrev s__law_draw : Stmt := top 24
theorem sc__law_draw : FnScope N__law_draw ["pool", "many"] (defScope s__law_draw) := ⟨rfl, rfl, rfl, by decide +kernel, rfl, by decide +kernel, by decide +kernel⟩
theorem ok0__law_draw (T : Txt K mg C_Rates C_DeskError C_InvalidNumber C_InvalidPaper) : IsFn P w K mg base 1 "_law_draw" ["pool", "many"] [] (f0__law_draw) := T.d__law_draw.fn (k := 0) (b := b__law_draw) sc__law_draw fun f cdv A outer s H E b =>
    jss_cons (js_if (jt_cmp op_gt s_gtI (je_ix (je_var 0) (je_int)) (je_int)) (jss_cons (js_set (i := 2) sc__law_draw.nd (je_op op_modN s_modI (je_callTy call_int1 s_int1 T.n_int (by decide +kernel) (ja_cons (je_ix (je_var 0) (je_int)) (ja_nil))) (je_var 1)))
    (jss_cons (js_sub (je_op op_fdivN s_divI (je_ix (je_var 0) (je_int)) (je_var 1)) (je_var 0) (je_int))
    (jss_one (js_ret (je_var 2))))) (jss_nil))
    (jss_cons (js_if (jt_w (jw_and (jt_cmp (op_eqD (hu64 b.hr)) s_eqD (je_op op_modN s_modI (je_callTy call_int1 s_int1 T.n_int (by decide +kernel) (ja_cons (je_ix (je_var 0) (je_int)) (ja_nil))) (je_int)) (je_int)) (jw_and1 (jt_cmp op_lt s_ltI (je_ix (je_var 0) (je_int)) (je_callB call_len s_len T.n_len (by decide +kernel) (ja_cons (je_ix (je_var 0) (je_int)) (ja_nil))))))) (jss_cons (js_set (i := 3) sc__law_draw.nd (je_callB call_abs s_abs T.n_abs (by decide +kernel) (ja_cons (je_ix (je_ix (je_var 0) (je_int)) (je_ix (je_var 0) (je_int))) (ja_nil))))
    (jss_cons (js_sub (je_op op_add s_addI (je_ix (je_var 0) (je_int)) (je_int)) (je_var 0) (je_int))
    (jss_cons (js_if (jt_cmp op_ge s_geI (je_var 3) (je_op op_pow s_powI (je_int) (je_int))) (jss_cons (js_sub (je_op op_fdivN s_divI (je_var 3) (je_var 1)) (je_var 0) (je_int))
    (jss_one (js_ret (je_op op_modN s_modI (je_callTy call_int1 s_int1 T.n_int (by decide +kernel) (ja_cons (je_var 3) (ja_nil))) (je_var 1))))) (jss_nil))
    (jss_one (js_sub (je_var 3) (je_var 0) (je_int)))))) (jss_nil))
    (jss_cons (js_sub (je_op op_add s_addI (je_ix (je_var 0) (je_int)) (je_int)) (je_var 0) (je_int))
    (jss_cons (js_set (i := 4) sc__law_draw.nd (je_op op_modN s_modI (je_callTy call_int1 s_int1 T.n_int (by decide +kernel) (ja_cons (je_op op_add s_addI (je_op op_add s_addI (je_op op_mul s_mulI (je_ix (je_var 0) (je_int)) (je_int)) (je_op op_mul s_mulI (je_ix (je_var 0) (je_int)) (je_int))) (je_int)) (ja_nil))) (je_int)))
    (jss_cons (js_set (i := 4) sc__law_draw.nd (je_op op_modN s_modI (je_callTy call_int1 s_int1 T.n_int (by decide +kernel) (ja_cons (je_op op_add s_addI (je_op op_mul s_mulI (je_var 4) (je_var 4)) (je_op op_mul s_mulI (je_ix (je_var 0) (je_int)) (je_int))) (ja_nil))) (je_int)))
    (jss_one (js_ret (je_op op_modN s_modI (je_callTy call_int1 s_int1 T.n_int (by decide +kernel) (ja_cons (je_var 4) (ja_nil))) (je_var 1))))))))
theorem ok__law_draw (T : Txt K mg C_Rates C_DeskError C_InvalidNumber C_InvalidPaper) : IsFn P w K mg base 1 "_law_draw" ["pool", "many"] [] (f__law_draw) := ok0__law_draw T
abbrev s__law_pick : Stmt := top 25
theorem sc__law_pick : FnScope N__law_pick ["pool", "rows"] (defScope s__law_pick) := ⟨rfl, rfl, rfl, by decide +kernel, rfl, by decide +kernel, by decide +kernel⟩
theorem ok0__law_pick (T : Txt K mg C_Rates C_DeskError C_InvalidNumber C_InvalidPaper) : IsFn P w K mg base 2 "_law_pick" ["pool", "rows"] [] (f0__law_pick) := T.d__law_pick.fn (k := 1) (b := b__law_pick) sc__law_pick fun f cdv A outer s H E b =>
    jss_one (js_ret (je_ix (je_var 1) (je_callG (ok__law_draw T) (b.hr.mono (by decide)) b.hx (ja_cons (je_var 0) (ja_cons (je_callB call_len s_len T.n_len (by decide +kernel) (ja_cons (je_var 1) (ja_nil))) (ja_nil))))))
theorem ok__law_pick (T : Txt K mg C_Rates C_DeskError C_InvalidNumber C_InvalidPaper) : IsFn P w K mg base 2 "_law_pick" ["pool", "rows"] [] (f__law_pick) := ok0__law_pick T
abbrev s__law_refusal : Stmt := top 26
theorem sc__law_refusal : FnScope N__law_refusal ["problem"] (defScope s__law_refusal) := ⟨rfl, rfl, rfl, by decide +kernel, rfl, by decide +kernel, by decide +kernel⟩
theorem ok_refusal (T : Txt K mg C_Rates C_DeskError C_InvalidNumber C_InvalidPaper) : ∀ y, catK y = some true → IsFnH P w K mg base 1 "_law_refusal" ["problem"] (ZpC mg y) (gHot (codeK y)) := by
  intro y hy
  have key : ∀ (D : Addr) (b1 b2 : Bool), mg y = some (.ref D) → ExcC K D → PySem.W.kitOne K (.ref D) (.ref C_InvalidNumber) = some b1 → PySem.W.kitOne K (.ref D) (.ref C_InvalidPaper) = some b2 → PySem.W.kitOne K (.ref D) (.type "ValueError") = some true →
      IsFnH P w K mg base 1 "_law_refusal" ["problem"] (ZpC mg y) (fun a => runG N__law_refusal.length (["problem"] : List Str).length (b__law_refusal C_InvalidNumber C_InvalidPaper b1 b2 a)) := by
    intro D b1 b2 gD eD k1 k2 k3
    obtain ⟨f, fd, h1, h2, F, hB⟩ := T.d__law_refusal.ex
    refine ⟨f, fd, h1, h2, fn_GH (b := b__law_refusal C_InvalidNumber C_InvalidPaper b1 b2) F sc__law_refusal fun cdv A outer s H E p hot hz hr => ?_, hB⟩
    obtain ⟨cls, g', zn, hf⟩ := hz
    rw [gD] at g'
    cases g'
    have hu := hu64H hr
    exact jss_cons (js_set (i := 1) sc__law_refusal.nd (je_dat (jl_lst (ja_cons (je_callB (call_isEp eD zn.zc hf List.mem_cons_self) (s_isE (fun _ h => h) k1) T.n_isinstance (by decide +kernel) (ja_cons (je_var 0) (ja_cons (je_gref T.g_InvalidNumber) ja_nil))) (ja_cons (je_callB (call_isEp eD zn.zc hf List.mem_cons_self) (s_isE (fun _ h => h) k2) T.n_isinstance (by decide +kernel) (ja_cons (je_var 0) (ja_cons (je_gref T.g_InvalidPaper) ja_nil))) ja_nil)))))
      (jss_cons (js_setLcH (i := 2) (own := [("k", 3)]) hot List.mem_cons_self sc__law_refusal.nd (ji_rng1H T.n_range je_int) (blkOk_by (N := N__law_refusal) (sc := (defScope s__law_refusal)) (by decide +kernel)) (fun _ _ _ _ _ => jg_name sc__law_refusal.nd) (fun _ _ _ _ _ => jts_one (jt_tru (je_ix (je_var 1) (je_var 3)))) (fun _ _ _ _ _ => je_ix (je_dat (jl_lst (ja_cons je_str (ja_cons je_str ja_nil)))) (je_var 3)))
      (jss_one (js_ret (je_if (jt_w (jw_and (jt_cmp (op_eqD hu) s_eqD (je_callB call_len s_len T.n_len (by decide +kernel) (ja_cons (je_var 2) ja_nil)) je_int) (jw_and1 (jt_tru (je_callB (call_isEp eD zn.zc hf List.mem_cons_self) (s_isE (fun _ h => h) k3) T.n_isinstance (by decide +kernel) (ja_cons (je_var 0) (ja_cons (je_bty T.n_ValueError) ja_nil))))))) (je_ix (je_var 2) je_int) je_str))))
  unfold catK at hy
  by_cases h1 : y = "InvalidNumber"
  · subst h1
    exact (key _ true false T.g_InvalidNumber T.e_InvalidNumber T.k_NN T.k_NP T.k_NV).le fun a ws M => refusal_is _ _ _ _ a ws M _ (.inl ⟨rfl, rfl, rfl⟩)
  · by_cases h2 : y = "InvalidPaper"
    · subst h2
      exact (key _ false true T.g_InvalidPaper T.e_InvalidPaper T.k_PN T.k_PP T.k_PV).le fun a ws M => refusal_is _ _ _ _ a ws M _ (.inr ⟨rfl, rfl, rfl⟩)
    · simp [h1, h2] at hy
abbrev s__law_good : Stmt := top 27
theorem sc__law_good : FnScope N__law_good ["amount", "weights", "told"] (defScope s__law_good) := ⟨rfl, rfl, rfl, by decide +kernel, rfl, by decide +kernel, by decide +kernel⟩
theorem ok0__law_good (T : Txt K mg C_Rates C_DeskError C_InvalidNumber C_InvalidPaper) : IsFn P w K mg base 1 "_law_good" ["amount", "weights", "told"] [] (f0__law_good) := T.d__law_good.fn (k := 0) (b := b__law_good) sc__law_good fun f cdv A outer s H E b =>
    jss_cons (js_set (i := 3) sc__law_good.nd (je_callB (cr_sum rfl) s_sum T.n_sum (by decide +kernel) (ja_cons (je_var 1) (ja_nil))))
    (jss_cons (js_if (jt_w (jw_or (jt_cmp (op_neD (hu64 b.hr)) s_neD (je_callB call_len s_len T.n_len (by decide +kernel) (ja_cons (je_var 2) (ja_nil))) (je_callB call_len s_len T.n_len (by decide +kernel) (ja_cons (je_var 1) (ja_nil)))) (jw_or (jt_cmp op_gt s_gtI (je_callB call_len s_len T.n_len (by decide +kernel) (ja_cons (je_dat (jl_lc (own := [("one", 5)]) rfl sc__law_good.nd (ji_list (je_var 2)) (blkOk_by (N := N__law_good) (sc := (defScope s__law_good)) (by decide +kernel)) (fun _ _ _ _ _ => jg_name sc__law_good.nd) (fun _ _ _ _ _ => jts_one (jt_tru (je_callB call_isi s_isi T.n_isinstance (by decide +kernel) (ja_cons (je_var 5) (ja_cons (je_bty T.n_bool) ja_nil))))) (fun _ _ _ _ _ => je_var 5))) (ja_nil))) (je_int)) (jw_or1 (jt_cmp (op_neD (hu64 b.hr)) s_neD (je_callB (cr_sum rfl) s_sum T.n_sum (by decide +kernel) (ja_cons (je_var 2) (ja_nil))) (je_var 0)))))) (jss_one (js_ret (je_bl))) (jss_nil))
    (jss_cons (js_setLc (i := 4) (own := [("at", 6)]) rfl sc__law_good.nd (ji_rng1 T.n_range (je_callB call_len s_len T.n_len (by decide +kernel) (ja_cons (je_var 2) (ja_nil)))) (blkOk_by (N := N__law_good) (sc := (defScope s__law_good)) (by decide +kernel)) (fun _ _ _ _ _ => jg_name sc__law_good.nd) (fun _ _ _ _ _ => jts_nil) (fun _ _ _ _ _ => je_op op_sub s_subI (je_op op_mul s_mulI (je_ix (je_var 2) (je_var 6)) (je_var 3)) (je_op op_mul s_mulI (je_var 0) (je_ix (je_var 1) (je_var 6)))))
    (jss_one (js_ret (je_and (je_cmp op_lt s_ltI (je_callB (cr_max rfl) s_maxI T.n_max (by decide +kernel) (ja_cons (je_var 4) (ja_nil))) (je_var 3)) (je_and (je_cmp op_gt s_gtI (je_callB (cr_min rfl) s_minI T.n_min (by decide +kernel) (ja_cons (je_var 4) (ja_nil))) (je_op op_sub s_subI (je_int) (je_var 3))) (je_and1 (je_cmp op_le s_leI (je_op op_sub s_subI (je_callB (cr_max rfl) s_maxI T.n_max (by decide +kernel) (ja_cons (je_var 4) (ja_nil))) (je_callB (cr_min rfl) s_minI T.n_min (by decide +kernel) (ja_cons (je_var 4) (ja_nil)))) (je_var 3)))))))))
theorem ok__law_good (T : Txt K mg C_Rates C_DeskError C_InvalidNumber C_InvalidPaper) : IsPure P w K mg base 1 "_law_good" ["amount", "weights", "told"] [] q__law_good := (ok0__law_good T).pure (pure__law_good)
abbrev s__law_refused : Stmt := top 28
theorem sc__law_refused : FnScope N__law_refused ["choice", "one", "two", "three"] (defScope s__law_refused) := ⟨rfl, rfl, rfl, by decide +kernel, rfl, by decide +kernel, by decide +kernel⟩
theorem ok0__law_refused (T : Txt K mg C_Rates C_DeskError C_InvalidNumber C_InvalidPaper) : IsFn P w K mg base 6 "_law_refused" ["choice", "one", "two", "three"] [] (f0__law_refused C_Rates) := T.d__law_refused.fn (k := 5) (b := b__law_refused C_Rates) sc__law_refused fun f cdv A outer s H E b =>
    jss_cons (js_try_hot (j := 1) sc__law_refused.nd b.tk b.hr (by decide) ⟨rfl, by decide, Or.inl T.g_DeskError⟩ T.cat (ok_refusal T) (fun W pn xe tkW po => jss_one (js_if (jt_cmp (op_eqD (hu64 b.hr)) s_eqD (je_var 0) (je_int)) (jss_one (js_expr (je_callQ (ok_changed T) (b.hr.mono (by decide)) (fun σ => L2N.passAt tkW σ) (ja_cons (je_var 1) (ja_cons (je_var 2) (ja_nil)))))) (jss_one (js_if (jt_cmp (op_eqD (hu64 b.hr)) s_eqD (je_var 0) (je_int)) (jss_one (js_expr (je_callQ (ok_checked_rate T) (b.hr.mono (by decide)) (fun σ => L2N.passAt tkW σ) (ja_cons (je_var 1) (ja_nil))))) (jss_one (js_if (jt_cmp (op_eqD (hu64 b.hr)) s_eqD (je_var 0) (je_int)) (jss_one (js_expr (je_callQ (ok_checked_weights T) (b.hr.mono (by decide)) (fun σ => L2N.passAt tkW σ) (ja_cons (je_var 1) (ja_nil))))) (jss_one (js_if (jt_cmp (op_eqD (hu64 b.hr)) s_eqD (je_var 0) (je_int)) (jss_one (js_expr (je_callQ (ok_shared T) (b.hr.mono (by decide)) (fun σ => L2N.passAt tkW σ) (ja_cons (je_var 1) (ja_cons (je_var 2) (ja_nil)))))) (jss_one (js_if (jt_cmp (op_eqD (hu64 b.hr)) s_eqD (je_var 0) (je_int)) (jss_one (js_expr (je_methB T.cl_Rates (ok_Rates_tell T) (b.hr.mono (by decide)) (fun σ => L2N.passAt tkW σ) (je_makeB0 (ok_Rates_init T) (b.hr.mono (by decide)) T.g_Rates) (ja_cons (je_var 1) (ja_cons (je_var 2) (ja_cons (je_var 3) (ja_cons (je_tup (ja_cons (je_int) (ja_cons (je_int) (ja_nil)))) (ja_nil)))))))) (jss_one (js_expr (je_methB T.cl_Rates (ok_Rates_tell T) (b.hr.mono (by decide)) (fun σ => L2N.passAt tkW σ) (je_makeB0 (ok_Rates_init T) (b.hr.mono (by decide)) T.g_Rates) (ja_cons (je_int) (ja_cons (je_str) (ja_cons (je_str) (ja_cons (je_var 1) (ja_nil)))))))))))))))))))
    (jss_one (js_ret (je_str)))
theorem ok__law_refused (T : Txt K mg C_Rates C_DeskError C_InvalidNumber C_InvalidPaper) : IsPure P w K mg base 6 "_law_refused" ["choice", "one", "two", "three"] [] q__law_refused := (ok0__law_refused T).pure (pure__law_refused C_Rates)
abbrev s__law_rates_right : Stmt := top 29
theorem sc__law_rates_right : FnScope N__law_rates_right ["pool"] (defScope s__law_rates_right) := ⟨rfl, rfl, rfl, by decide +kernel, rfl, by decide +kernel, by decide +kernel⟩
theorem ok0__law_rates_right (T : Txt K mg C_Rates C_DeskError C_InvalidNumber C_InvalidPaper) : IsFn P w K mg base 7 "_law_rates_right" ["pool"] [] (f0__law_rates_right C_Rates) := T.d__law_rates_right.fn (k := 6) (b := b__law_rates_right C_Rates) sc__law_rates_right fun f cdv A outer s H E b =>
    jss_cons (js_set (i := 1) sc__law_rates_right.nd (je_makeB0 (ok_Rates_init T) (b.hr.mono (by decide)) T.g_Rates))
    (jss_cons (js_set (i := 2) sc__law_rates_right.nd (je_dat (jl_lst (ja_nil))))
    (jss_cons (js_set (i := 3) sc__law_rates_right.nd (je_methB0 T.cl_Rates (ok_Rates_copy T) (b.hr.mono (by decide)) b.hx (je_var 1)))
    (jss_cons (js_for b.hp rfl (ji_rng1 T.n_range (je_callG (ok__law_draw T) (b.hr.mono (by decide)) b.hx (ja_cons (je_var 0) (ja_cons (je_int) (ja_nil))))) (jg_name sc__law_rates_right.nd) (jss_cons (js_asg (je_callG (ok__law_pick T) (b.hr.mono (by decide)) b.hx (ja_cons (je_var 0) (ja_cons (je_dat (jl_lst (ja_cons (je_tup (ja_cons (je_str) (ja_cons (je_str) (ja_nil)))) (ja_cons (je_tup (ja_cons (je_str) (ja_cons (je_str) (ja_nil)))) (ja_cons (je_tup (ja_cons (je_str) (ja_cons (je_str) (ja_nil)))) (ja_cons (je_tup (ja_cons (je_str) (ja_cons (je_str) (ja_nil)))) (ja_nil))))))) (ja_nil)))) (jg_tup rfl (jgs_cons (jg_name sc__law_rates_right.nd) (jgs_cons (jg_name sc__law_rates_right.nd) (jgs_nil)))))
    (jss_cons (js_set (i := 7) sc__law_rates_right.nd (je_callG (ok__law_draw T) (b.hr.mono (by decide)) b.hx (ja_cons (je_var 0) (ja_cons (je_int) (ja_nil)))))
    (jss_cons (js_set (i := 8) sc__law_rates_right.nd (je_tup (ja_cons (je_op op_add s_addI (je_int) (je_callG (ok__law_draw T) (b.hr.mono (by decide)) b.hx (ja_cons (je_var 0) (ja_cons (je_int) (ja_nil))))) (ja_cons (je_op op_add s_addI (je_int) (je_callG (ok__law_draw T) (b.hr.mono (by decide)) b.hx (ja_cons (je_var 0) (ja_cons (je_int) (ja_nil))))) (ja_nil)))))
    (jss_cons (js_expr (je_methB T.cl_Rates (ok_Rates_tell T) (b.hr.mono (by decide)) b.hx (je_var 1) (ja_cons (je_var 7) (ja_cons (je_var 5) (ja_cons (je_var 6) (ja_cons (je_var 8) (ja_nil)))))))
    (jss_cons (js_set (i := 2) sc__law_rates_right.nd (je_dat (jl_cat (je_dat (jl_lc (own := [("row", 10)]) rfl sc__law_rates_right.nd (ji_list (je_var 2)) (blkOk_by (N := N__law_rates_right) (sc := (defScope s__law_rates_right)) (by decide +kernel)) (fun _ _ _ _ _ => jg_name sc__law_rates_right.nd) (fun _ _ _ _ _ => jts_one (jt_cmp (op_neD (hu64 b.hr)) s_neD (je_sliceT (je_var 10) (jo_none) (jo_some (je_int))) (je_tup (ja_cons (je_var 5) (ja_cons (je_var 6) (ja_cons (je_var 7) (ja_nil))))))) (fun _ _ _ _ _ => je_var 10))) (je_dat (jl_lst (ja_cons (je_tup (ja_cons (je_var 5) (ja_cons (je_var 6) (ja_cons (je_var 7) (ja_cons (je_var 8) (ja_nil)))))) (ja_nil)))))))
    (jss_one (js_if (jt_not (jt_tru (je_callQ (ok__law_same T) (b.hr.mono (by decide)) b.hx (ja_cons (je_methB0 T.cl_Rates (ok_Rates_rows T) (b.hr.mono (by decide)) b.hx (je_var 1)) (ja_cons (je_dat (jl_callB (cr_sortD (hu64 b.hr)) s_sorted T.n_sorted (by decide +kernel) (ja_cons (je_var 2) (ja_nil)))) (ja_nil)))))) (jss_one (js_ret (je_bl))) (jss_nil)))))))))
    (jss_cons (js_for b.hp rfl (ji_list (je_dat (jl_lst (ja_cons (je_str) (ja_cons (je_str) (ja_cons (je_str) (ja_nil))))))) (jg_name sc__law_rates_right.nd) (jss_one (js_for b.hp rfl (ji_list (je_dat (jl_lst (ja_cons (je_str) (ja_cons (je_str) (ja_cons (je_str) (ja_nil))))))) (jg_name sc__law_rates_right.nd) (jss_cons (js_set (i := 7) sc__law_rates_right.nd (je_callG (ok__law_draw T) (b.hr.mono (by decide)) b.hx (ja_cons (je_var 0) (ja_cons (je_int) (ja_nil)))))
    (jss_cons (js_set (i := 9) sc__law_rates_right.nd (je_non))
    (jss_cons (js_for b.hp rfl (ji_list (je_var 2)) (jg_name sc__law_rates_right.nd) (jss_one (js_if (jt_w (jw_and (jt_cmp op_le s_leI (je_ix (je_var 10) (je_int)) (je_var 7)) (jw_and (jt_cmp (op_eqD (hu64 b.hr)) s_eqD (je_sliceT (je_var 10) (jo_none) (jo_some (je_int))) (je_tup (ja_cons (je_var 5) (ja_cons (je_var 6) (ja_nil))))) (jw_and1 (jt_w (jw_or (jt_cmp op_isN s_isN (je_var 9) (je_non)) (jw_or1 (jt_cmp op_ge s_geI (je_ix (je_var 10) (je_int)) (je_ix (je_var 9) (je_int)))))))))) (jss_one (js_set (i := 9) sc__law_rates_right.nd (je_tup (ja_cons (je_ix (je_var 10) (je_int)) (ja_cons (je_ix (je_var 10) (je_int)) (ja_nil)))))) (jss_nil))))
    (jss_cons (js_for b.hp rfl (ji_list (je_var 2)) (jg_name sc__law_rates_right.nd) (jss_one (js_if (jt_w (jw_and (jt_cmp op_le s_leI (je_ix (je_var 10) (je_int)) (je_var 7)) (jw_and (jt_cmp (op_eqD (hu64 b.hr)) s_eqD (je_sliceT (je_var 10) (jo_none) (jo_some (je_int))) (je_tup (ja_cons (je_var 6) (ja_cons (je_var 5) (ja_nil))))) (jw_and1 (jt_w (jw_or (jt_cmp op_isN s_isN (je_var 9) (je_non)) (jw_or1 (jt_cmp op_gt s_gtI (je_ix (je_var 10) (je_int)) (je_ix (je_var 9) (je_int)))))))))) (jss_one (js_set (i := 9) sc__law_rates_right.nd (je_tup (ja_cons (je_ix (je_var 10) (je_int)) (ja_cons (je_tup (ja_cons (je_ix (je_ix (je_var 10) (je_int)) (je_int)) (ja_cons (je_ix (je_ix (je_var 10) (je_int)) (je_int)) (ja_nil)))) (ja_nil)))))) (jss_nil))))
    (jss_one (js_if (jt_not (jt_tru (je_callQ (ok__law_same T) (b.hr.mono (by decide)) b.hx (ja_cons (je_methB T.cl_Rates (ok_Rates_rate T) (b.hr.mono (by decide)) b.hx (je_var 1) (ja_cons (je_var 5) (ja_cons (je_var 6) (ja_cons (je_var 7) (ja_nil))))) (ja_cons (je_if (jt_cmp (op_eqD (hu64 b.hr)) s_eqD (je_var 5) (je_var 6)) (je_tup (ja_cons (je_int) (ja_cons (je_int) (ja_nil)))) (je_if (jt_cmp op_isN s_isN (je_var 9) (je_non)) (je_non) (je_ix (je_var 9) (je_int)))) (ja_nil)))))) (jss_one (js_ret (je_bl))) (jss_nil))))))))))
    (jss_one (js_ret (je_cmp (op_eqD (hu64 b.hr)) s_eqD (je_methB0 T.cl_Rates (ok_Rates_rows T) (b.hr.mono (by decide)) b.hx (je_var 3)) (je_dat (jl_lst (ja_nil))))))))))
theorem ok__law_rates_right (T : Txt K mg C_Rates C_DeskError C_InvalidNumber C_InvalidPaper) : IsFn P w K mg base 7 "_law_rates_right" ["pool"] [] (f__law_rates_right C_Rates) := ok0__law_rates_right T
abbrev s_law : Stmt := top 30
theorem sc_law : FnScope N_law ["script"] (defScope s_law) := ⟨rfl, rfl, rfl, by decide +kernel, rfl, by decide +kernel, by decide +kernel⟩
theorem jlaw (T : Txt K mg C_Rates C_DeskError C_InvalidNumber C_InvalidPaper) {f : Addr} {cdv : Value} {A : Around} {outer : List Env} {s : Shared} {H : Hp} {E : XK} (b : BodyX (cxOf (L2N.CX P w) P w K mg base N_law "law" (defScope s_law) f cdv A outer s H E) (fun c d _ H' => E c d H') 8) : JSs (cxOf (L2N.CX P w) P w K mg base N_law "law" (defScope s_law) f cdv A outer s H E) (fun c d _ H' => E c d H') ((defBody s_law).tail) (b_law C_Rates) :=
    jss_cons (js_for b.hp rfl (ji_rng1 T.n_range (je_int)) (jg_name sc_law.nd) (jss_cons (js_set (i := 3) sc_law.nd (je_callG (ok__law_pick T) (b.hr.mono (by decide)) b.hx (ja_cons (je_var 1) (ja_cons (je_dat (jl_lst (ja_cons (je_callG (ok__law_draw T) (b.hr.mono (by decide)) b.hx (ja_cons (je_var 1) (ja_cons (je_int) (ja_nil)))) (ja_cons (je_callG (ok__law_draw T) (b.hr.mono (by decide)) b.hx (ja_cons (je_var 1) (ja_cons (je_op op_pow s_powI (je_int) (je_int)) (ja_nil)))) (ja_cons (je_op op_pow s_powI (je_int) (je_int)) (ja_nil)))))) (ja_nil)))))
    (jss_cons (js_set (i := 4) sc_law.nd (je_tup (ja_cons (je_op op_add s_addI (je_int) (je_callG (ok__law_draw T) (b.hr.mono (by decide)) b.hx (ja_cons (je_var 1) (ja_cons (je_int) (ja_nil))))) (ja_cons (je_op op_add s_addI (je_int) (je_callG (ok__law_draw T) (b.hr.mono (by decide)) b.hx (ja_cons (je_var 1) (ja_cons (je_int) (ja_nil))))) (ja_nil)))))
    (jss_cons (js_set (i := 5) sc_law.nd (je_op op_fdivN s_divI (je_op op_mul s_mulI (je_var 3) (je_ix (je_var 4) (je_int))) (je_ix (je_var 4) (je_int))))
    (jss_cons (js_if (jt_cmp op_le s_leI (je_var 5) (je_op op_pow s_powI (je_int) (je_int))) (jss_one (js_if (jt_w (jw_or (jt_not (jt_tru (je_callQ (ok__law_same T) (b.hr.mono (by decide)) b.hx (ja_cons (je_callQ (ok_changed T) (b.hr.mono (by decide)) b.hx (ja_cons (je_var 3) (ja_cons (je_var 4) (ja_nil)))) (ja_cons (je_var 5) (ja_nil)))))) (jw_or (jt_not (jt_tru (je_callQ (ok__law_same T) (b.hr.mono (by decide)) b.hx (ja_cons (je_callQ (ok_changed T) (b.hr.mono (by decide)) b.hx (ja_cons (je_op op_sub s_subI (je_int) (je_var 3)) (ja_cons (je_var 4) (ja_nil)))) (ja_cons (je_op op_sub s_subI (je_int) (je_var 5)) (ja_nil)))))) (jw_or1 (jt_not (jt_tru (je_callQ (ok__law_same T) (b.hr.mono (by decide)) b.hx (ja_cons (je_callQ (ok_rest_of T) (b.hr.mono (by decide)) b.hx (ja_cons (je_var 3) (ja_cons (je_var 4) (ja_nil)))) (ja_cons (je_tup (ja_cons (je_op op_sub s_subI (je_op op_mul s_mulI (je_var 3) (je_ix (je_var 4) (je_int))) (je_op op_mul s_mulI (je_var 5) (je_ix (je_var 4) (je_int)))) (ja_cons (je_ix (je_var 4) (je_int)) (ja_nil)))) (ja_nil)))))))))) (jss_one (js_ret (je_bl))) (jss_nil))) (jss_one (js_if (jt_cmp (op_neD (hu64 b.hr)) s_neD (je_callQ (ok__law_refused T) (b.hr.mono (by decide)) b.hx (ja_cons (je_int) (ja_cons (je_var 3) (ja_cons (je_var 4) (ja_cons (je_int) (ja_nil)))))) (je_str)) (jss_one (js_ret (je_bl))) (jss_nil))))
    (jss_cons (js_set (i := 6) sc_law.nd (je_dat (jl_cat (je_dat (jl_lc (own := [("j", 13)]) rfl sc_law.nd (ji_rng1 T.n_range (je_callG (ok__law_draw T) (b.hr.mono (by decide)) b.hx (ja_cons (je_var 1) (ja_cons (je_int) (ja_nil))))) (blkOk_by (N := N_law) (sc := (defScope s_law)) (by decide +kernel)) (fun _ _ _ _ _ => jg_name sc_law.nd) (fun _ _ _ _ _ => jts_nil) (fun _ _ _ _ _ => je_callG (ok__law_draw T) (b.hr.mono (by decide)) (fun _ => pass0) (ja_cons (je_var 1) (ja_cons (je_int) (ja_nil)))))) (je_dat (jl_lst (ja_cons (je_op op_add s_addI (je_int) (je_callG (ok__law_draw T) (b.hr.mono (by decide)) b.hx (ja_cons (je_var 1) (ja_cons (je_int) (ja_nil))))) (ja_nil)))))))
    (jss_cons (js_set (i := 7) sc_law.nd (je_callQ (ok_shared T) (b.hr.mono (by decide)) b.hx (ja_cons (je_var 3) (ja_cons (je_dat (jl_callTy call_list_of s_list T.n_list (by decide +kernel) (ja_cons (je_var 6) (ja_nil)))) (ja_nil)))))
    (jss_cons (js_set (i := 8) sc_law.nd (je_callB (cr_sum rfl) s_sum T.n_sum (by decide +kernel) (ja_cons (je_var 6) (ja_nil))))
    (jss_cons (js_setLcM (i := 9) (own := [("one", 18)]) rfl sc_law.nd (ji_list (je_var 6)) (blkOk_by (N := N_law) (sc := (defScope s_law)) (by decide +kernel)) (fun _ _ _ _ _ => jg_name sc_law.nd) (fun _ _ _ _ _ => jts_nil) (fun _ _ _ _ _ => je_op op_fdivN s_divI (je_op op_mul s_mulI (je_var 3) (je_var 18)) (je_var 8)))
    (jss_cons (js_set (i := 10) sc_law.nd (je_dat (jl_callB (cr_sortD (hu64 b.hr)) s_sorted T.n_sorted (by decide +kernel) (ja_cons (je_dat (jl_lc (own := [("at", 12)]) rfl sc_law.nd (ji_rng1 T.n_range (je_callB call_len s_len T.n_len (by decide +kernel) (ja_cons (je_var 6) (ja_nil)))) (blkOk_by (N := N_law) (sc := (defScope s_law)) (by decide +kernel)) (fun _ _ _ _ _ => jg_name sc_law.nd) (fun _ _ _ _ _ => jts_nil) (fun _ _ _ _ _ => je_tup (ja_cons (je_op op_sub s_subI (je_int) (je_op op_modN s_modI (je_callTy call_int1 s_int1 T.n_int (by decide +kernel) (ja_cons (je_op op_mul s_mulI (je_var 3) (je_ix (je_var 6) (je_var 12))) (ja_nil))) (je_var 8))) (ja_cons (je_var 12) (ja_nil)))))) (ja_nil)))))
    (jss_cons (js_for b.hp rfl (ji_list (je_dat (jl_slice (je_var 10) (jo_none) (jo_some (je_op op_sub s_subI (je_var 3) (je_callB (cr_sum rfl) s_sum T.n_sum (by decide +kernel) (ja_cons (je_var 9) (ja_nil)))))))) (jg_tup rfl (jgs_cons (jg_name sc_law.nd) (jgs_cons (jg_name sc_law.nd) (jgs_nil)))) (jss_one (js_sub (je_op op_add s_addI (je_ix (je_var 9) (je_var 12)) (je_int)) (je_var 9) (je_var 12))))
    (jss_cons (js_if (jt_w (jw_or (jt_not (jt_tru (je_callQ (ok__law_same T) (b.hr.mono (by decide)) b.hx (ja_cons (je_var 7) (ja_cons (je_var 9) (ja_nil)))))) (jw_or (jt_cmp op_notBl s_isBn (je_callQ (ok_judge_shared T) (b.hr.mono (by decide)) b.hx (ja_cons (je_var 3) (ja_cons (je_var 6) (ja_cons (je_dat (jl_callTy call_list_of s_list T.n_list (by decide +kernel) (ja_cons (je_var 7) (ja_nil)))) (ja_nil))))) (je_bl)) (jw_or1 (jt_not (jt_tru (je_callQ (ok__law_same T) (b.hr.mono (by decide)) b.hx (ja_cons (je_callQ (ok_checked_weights T) (b.hr.mono (by decide)) b.hx (ja_cons (je_var 6) (ja_nil))) (ja_cons (je_var 6) (ja_nil)))))))))) (jss_one (js_ret (je_bl))) (jss_nil))
    (jss_one (js_for b.hp rfl (ji_rng1 T.n_range (je_int)) (jg_name sc_law.nd) (jss_cons (js_set (i := 14) sc_law.nd (je_mut (jl_callTy call_list_of s_list T.n_list (by decide +kernel) (ja_cons (je_var 7) (ja_nil)))))
    (jss_cons (js_for b.hp rfl (ji_rng1 T.n_range (je_callG (ok__law_draw T) (b.hr.mono (by decide)) b.hx (ja_cons (je_var 1) (ja_cons (je_int) (ja_nil))))) (jg_name sc_law.nd) (jss_cons (js_set (i := 12) sc_law.nd (je_if (jt_cmp op_gt s_gtI (je_callB call_len s_len T.n_len (by decide +kernel) (ja_cons (je_var 14) (ja_nil))) (je_int)) (je_callG (ok__law_draw T) (b.hr.mono (by decide)) b.hx (ja_cons (je_var 1) (ja_cons (je_callB call_len s_len T.n_len (by decide +kernel) (ja_cons (je_var 14) (ja_nil))) (ja_nil)))) (je_int)))
    (jss_cons (js_set (i := 16) sc_law.nd (je_if (jt_cmp op_gt s_gtI (je_callB call_len s_len T.n_len (by decide +kernel) (ja_cons (je_var 14) (ja_nil))) (je_int)) (je_callG (ok__law_draw T) (b.hr.mono (by decide)) b.hx (ja_cons (je_var 1) (ja_cons (je_callB call_len s_len T.n_len (by decide +kernel) (ja_cons (je_var 14) (ja_nil))) (ja_nil)))) (je_int)))
    (jss_one (js_if (jt_w (jw_and (jt_cmp op_gt s_gtI (je_callB call_len s_len T.n_len (by decide +kernel) (ja_cons (je_var 14) (ja_nil))) (je_int)) (jw_and1 (jt_cmp op_gt s_gtI (je_callG (ok__law_draw T) (b.hr.mono (by decide)) b.hx (ja_cons (je_var 1) (ja_cons (je_int) (ja_nil)))) (je_int))))) (jss_cons (js_sub (je_op op_add s_addI (je_ix (je_var 14) (je_var 12)) (je_int)) (je_var 14) (je_var 12))
    (jss_one (js_sub (je_op op_sub s_subI (je_ix (je_var 14) (je_var 16)) (je_int)) (je_var 14) (je_var 16)))) (jss_one (js_set (i := 14) sc_law.nd (je_callG (ok__law_pick T) (b.hr.mono (by decide)) b.hx (ja_cons (je_var 1) (ja_cons (je_mut (jl_lst (ja_cons (je_mut (jl_slice (je_var 14) (jo_some (je_int)) (jo_none))) (ja_cons (je_mut (jl_cat (je_var 14) (je_dat (jl_lst (ja_cons (je_int) (ja_nil)))))) (ja_cons (je_mut (jl_listRev rfl T.n_list T.n_reversed (je_var 14))) (ja_nil)))))) (ja_nil)))))))))))
    (jss_one (js_if (jt_not (jt_tru (je_callQ (ok__law_same T) (b.hr.mono (by decide)) b.hx (ja_cons (je_callQ (ok_judge_shared T) (b.hr.mono (by decide)) b.hx (ja_cons (je_var 3) (ja_cons (je_var 6) (ja_cons (je_var 14) (ja_nil))))) (ja_cons (je_callQ (ok__law_good T) (b.hr.mono (by decide)) b.hx (ja_cons (je_var 3) (ja_cons (je_var 6) (ja_cons (je_var 14) (ja_nil))))) (ja_nil)))))) (jss_one (js_ret (je_bl))) (jss_nil)))))))))))))))))))
    (jss_cons (js_for b.hp rfl (ji_list (je_dat (jl_lst (ja_cons (je_tup (ja_cons (je_int) (ja_cons (je_int) (ja_nil)))) (ja_cons (je_tup (ja_cons (je_int) (ja_cons (je_int) (ja_nil)))) (ja_cons (je_tup (ja_cons (je_int) (ja_cons (je_int) (ja_nil)))) (ja_cons (je_tup (ja_cons (je_int) (ja_nil))) (ja_cons (je_dat (jl_lst (ja_cons (je_int) (ja_cons (je_int) (ja_nil))))) (ja_cons (je_tup (ja_cons (je_bl) (ja_cons (je_int) (ja_nil)))) (ja_cons (je_int) (ja_nil))))))))))) (jg_name sc_law.nd) (jss_one (js_if (jt_w (jw_or (jt_cmp (op_neD (hu64 b.hr)) s_neD (je_callQ (ok__law_refused T) (b.hr.mono (by decide)) b.hx (ja_cons (je_int) (ja_cons (je_var 17) (ja_cons (je_int) (ja_cons (je_int) (ja_nil)))))) (je_str)) (jw_or (jt_cmp (op_neD (hu64 b.hr)) s_neD (je_callQ (ok__law_refused T) (b.hr.mono (by decide)) b.hx (ja_cons (je_int) (ja_cons (je_int) (ja_cons (je_var 17) (ja_cons (je_int) (ja_nil)))))) (je_str)) (jw_or1 (jt_cmp (op_neD (hu64 b.hr)) s_neD (je_callQ (ok__law_refused T) (b.hr.mono (by decide)) b.hx (ja_cons (je_int) (ja_cons (je_var 17) (ja_cons (je_int) (ja_cons (je_int) (ja_nil)))))) (je_str)))))) (jss_one (js_ret (je_bl))) (jss_nil))))
    (jss_cons (js_for b.hp rfl (ji_list (je_dat (jl_lst (ja_cons (je_dat (jl_lst (ja_nil))) (ja_cons (je_dat (jl_lst (ja_cons (je_int) (ja_nil)))) (ja_cons (je_dat (jl_lst (ja_cons (je_int) (ja_cons (je_int) (ja_nil))))) (ja_cons (je_dat (jl_lst (ja_cons (je_neg (je_int)) (ja_cons (je_int) (ja_nil))))) (ja_cons (je_dat (jl_lst (ja_cons (je_bl) (ja_nil)))) (ja_cons (je_dat (jl_lst (ja_cons (je_int) (ja_nil)))) (ja_cons (je_dat (jl_lc (own := [("j", 13)]) rfl sc_law.nd (ji_rng1 T.n_range (je_int)) (blkOk_by (N := N_law) (sc := (defScope s_law)) (by decide +kernel)) (fun _ _ _ _ _ => jg_name sc_law.nd) (fun _ _ _ _ _ => jts_nil) (fun _ _ _ _ _ => je_int))) (ja_nil))))))))))) (jg_name sc_law.nd) (jss_one (js_if (jt_w (jw_or (jt_cmp (op_neD (hu64 b.hr)) s_neD (je_callQ (ok__law_refused T) (b.hr.mono (by decide)) b.hx (ja_cons (je_int) (ja_cons (je_var 17) (ja_cons (je_int) (ja_cons (je_int) (ja_nil)))))) (je_str)) (jw_or1 (jt_cmp (op_neD (hu64 b.hr)) s_neD (je_callQ (ok__law_refused T) (b.hr.mono (by decide)) b.hx (ja_cons (je_int) (ja_cons (je_int) (ja_cons (je_var 17) (ja_cons (je_int) (ja_nil)))))) (je_str))))) (jss_one (js_ret (je_bl))) (jss_nil))))
    (jss_cons (js_if (jt_w (jw_or (jt_cmp (op_neD (hu64 b.hr)) s_neD (je_callQ (ok__law_refused T) (b.hr.mono (by decide)) b.hx (ja_cons (je_int) (ja_cons (je_callG (ok__law_pick T) (b.hr.mono (by decide)) b.hx (ja_cons (je_var 1) (ja_cons (je_dat (jl_lst (ja_cons (je_op op_add s_addI (je_op op_pow s_powI (je_int) (je_int)) (je_int)) (ja_cons (je_bl) (ja_nil))))) (ja_nil)))) (ja_cons (je_tup (ja_cons (je_int) (ja_cons (je_int) (ja_nil)))) (ja_cons (je_int) (ja_nil)))))) (je_str)) (jw_or1 (jt_cmp (op_neD (hu64 b.hr)) s_neD (je_callQ (ok__law_refused T) (b.hr.mono (by decide)) b.hx (ja_cons (je_int) (ja_cons (je_callG (ok__law_pick T) (b.hr.mono (by decide)) b.hx (ja_cons (je_var 1) (ja_cons (je_dat (jl_lst (ja_cons (je_neg (je_int)) (ja_cons (je_op op_add s_addI (je_op op_pow s_powI (je_int) (je_int)) (je_int)) (ja_cons (je_bl) (ja_nil)))))) (ja_nil)))) (ja_cons (je_dat (jl_lst (ja_cons (je_int) (ja_nil)))) (ja_cons (je_int) (ja_nil)))))) (je_str))))) (jss_one (js_ret (je_bl))) (jss_nil))
    (jss_cons (js_if (jt_w (jw_or (jt_cmp (op_neD (hu64 b.hr)) s_neD (je_callQ (ok__law_refused T) (b.hr.mono (by decide)) b.hx (ja_cons (je_int) (ja_cons (je_callG (ok__law_pick T) (b.hr.mono (by decide)) b.hx (ja_cons (je_var 1) (ja_cons (je_dat (jl_lst (ja_cons (je_neg (je_int)) (ja_cons (je_int) (ja_cons (je_bl) (ja_nil)))))) (ja_nil)))) (ja_cons (je_str) (ja_cons (je_str) (ja_nil)))))) (je_str)) (jw_or (jt_cmp (op_neD (hu64 b.hr)) s_neD (je_callQ (ok__law_refused T) (b.hr.mono (by decide)) b.hx (ja_cons (je_int) (ja_cons (je_int) (ja_cons (je_str) (ja_cons (je_str) (ja_nil)))))) (je_str)) (jw_or1 (jt_cmp (op_neD (hu64 b.hr)) s_neD (je_callQ (ok__law_refused T) (b.hr.mono (by decide)) b.hx (ja_cons (je_int) (ja_cons (je_int) (ja_cons (je_str) (ja_cons (je_str) (ja_nil)))))) (je_str)))))) (jss_one (js_ret (je_bl))) (jss_nil))
    (jss_one (js_ret (je_and (je_callG (ok__law_rates_right T) (b.hr.mono (by decide)) b.hx (ja_cons (je_var 1) (ja_nil))) (je_and1 (je_cmp (op_eqD (hu64 b.hr)) s_eqD (je_callQ (ok_checked_rate T) (b.hr.mono (by decide)) b.hx (ja_cons (je_tup (ja_cons (je_int) (ja_cons (je_int) (ja_nil)))) (ja_nil))) (je_tup (ja_cons (je_int) (ja_cons (je_int) (ja_nil)))))))))))))
end
end Z

set_option linter.all false
set_option autoImplicit false
set_option maxRecDepth 100000
set_option maxHeartbeats 4000000
namespace Z
open PySem PySem.Spec PyProof.Rows L2 L2H

section
variable {P : Program} {w : World} {K : PySem.W.Frag} {mg : Str → Option Value} {base : Heap} {C_Rates C_DeskError C_InvalidNumber C_InvalidPaper : Addr}
def spPool (K : PySem.W.Frag) : Sp := fun vs H Q _ => ∃ (a : Addr) (ns : List Int), vs = [.ref a] ∧ SqL K H a (ns.map V.int) ∧ ∀ qq p, H qq = none → (upd H qq (.lst (ns.map V.int))) p = none → Q (.ref p) (upd (upd H qq (.lst (ns.map V.int))) p (.lst [.ref qq, .int 0, .int 0, .int 0, .int 0]))
abbrev s__law_pool : Stmt := top 23
theorem sc__law_pool : FnScope ["script"] ["script"] (defScope s__law_pool) := ⟨rfl, rfl, rfl, by decide +kernel, rfl, by decide +kernel, by decide +kernel⟩
theorem ok_pool (T : Txt K mg C_Rates C_DeskError C_InvalidNumber C_InvalidPaper) : ∃ f fd, mg "_law_pool" = some (.ref f) ∧ PySem.W.keepIn K (.ref f) = true ∧ FnOk P w K mg base (L2N.CX P w) 1 f fd ["script"] (spPool K) ∧ Binds K fd ["script"] [] := by
  obtain ⟨f, fd, h1, h2, F, hB⟩ := T.d__law_pool.ex
  refine ⟨f, fd, h1, h2, ?_, hB⟩
  obtain ⟨oc, od, kV, doc, pm, an, cdv, ct, osl, rfl, lk, hcd⟩ := F.ex
  refine fn_of lk hcd sc__law_pool (fun vs H Q E ⟨a, ns, e, _⟩ => by rw [e]; rfl) fun A outer s H vs Q E hr ⟨a, ns, ev, hS, hq⟩ => ?_
  subst ev
  refine ⟨_, pss_one (ps_ret (pe_lst (pa_cons (pe_callTy call_list_of (by rfl) T.n_list (by decide +kernel) (pa_cons (pv 0) pa_nil)) (pa_cons pe_int (pa_cons pe_int (pa_cons pe_int (pa_cons pe_int pa_nil))))))), ?_⟩
  refine ⟨_, rfl, a, _, rfl, .inl hS, fun qq hqq => ⟨by show 5 ≤ sizeLine; decide, fun p hp => hq qq p hqq hp⟩⟩
def poolMO (ns : List Int) : MO := .lst [.d (.list (ns.map .int)), .d (.int 0), .d (.int 0), .d (.int 0), .d (.int 0)]
def law0 : Sl := none :: some (.r 0) :: List.replicate (N_law.length - 2) none
def spLaw (K : PySem.W.Frag) : Sp := fun vs H Q _ => ∃ (a : Addr) (ns : List Int), vs = [.ref a] ∧ SqL K H a (ns.map V.int) ∧ ns.length ≤ 63 ∧ ∀ H', Q (.bl true) H'
theorem dtInts {H : Hp} : ∀ ns : List Int, DtAll K H (ns.map V.int) (ns.map .int)
  | [] => .nil
  | n :: ns => .cons (.int n) (dtInts ns)
theorem fitsInts : ∀ ns : List Int, fitsAll (ns.map .int)
  | [] => trivial
  | n :: ns => ⟨trivial, fitsInts ns⟩
theorem ok_law (T : Txt K mg C_Rates C_DeskError C_InvalidNumber C_InvalidPaper) {f : Addr} {fd : FuncData} (F : Fun K "law" "law" s_law f fd) (law_true : ∀ ns : List Int, ns.length ≤ 63 → ∃ m, b_law C_Rates law0 [poolMO ns] = .rt (.d (.bool true)) m) : FnOk P w K mg base (L2N.CX P w) 9 f fd ["script"] (spLaw K) := by
  obtain ⟨oc, od, kV, doc, pm, an, cdv, ct, osl, rfl, lk, hcd⟩ := F.ex
  refine fn_of lk hcd sc_law (fun vs H Q E ⟨a, ns, e, _⟩ => by rw [e]; rfl) fun A outer s H vs Q E hr ⟨a, ns, ev, hS, hl, hq⟩ => ?_
  subst ev
  have b := bodyX (P := P) (w := w) (K := K) (mg := mg) (base := base) (N := N_law) (E := E) (H := H) (outer := outer) hr
  obtain ⟨t, pt, sm⟩ := jlaw T b
  obtain ⟨fp, fdp, g1, g2, Fp, Bp⟩ := ok_pool (P := P) (w := w) (base := base) T
  refine ⟨_, pss_cons (ps_set (i := 1) sc_law.nd rfl (Or.inr rfl) (pe_call Fp (b.hr.mono (by decide)) rfl g1 g2 Bp .nil passE0 (pa_cons (pv 0) pa_nil))) pt, ?_⟩
  refine ⟨_, rfl, a, ns, rfl, hS, fun qq p hqq hp => ?_⟩
  have hqn : (fun _ : Addr => (none : Option HO)) qq = none := rfl
  have r0 : Rel K H (fun _ => none) [] (fun _ => none) H [] := rel_self fun _ _ z => by cases z
  have r1 := r0.newData (o := .lst (ns.map V.int)) hqq
  have r2 := r1.newAny (o := .lst [.ref qq, .int 0, .int 0, .int 0, .int 0]) hp
  have z1 : ns.length ≤ sizeLine := Nat.le_trans hl (by decide)
  have zl : WR K ([] ++ [p]) (upd (fun _ => none) qq (.lst (ns.map V.int))) (.ref qq) (.d (.list (ns.map .int))) := ⟨.lst upd_same (dtInts ns), by rw [List.length_map]; exact z1, fitsInts ns⟩
  have r3 := r2.newMut (p := p) (m := poolMO ns) (by rw [upd_same]; simp) (r1.hbn hp) (r1.h0n hp) (by simp) ⟨by show 5 ≤ sizeLine; decide, _, upd_same, .cons zl (.cons (wr_int 0) (.cons (wr_int 0) (.cons (wr_int 0) (.cons (wr_int 0) .nil))))⟩
  obtain ⟨m, hm⟩ := law_true ns hl
  refine sm H (fun _ => none) ([] ++ [p]) _ _ [poolMO ns] _ law0 r3 ?_ _ ?_
  · exact .cons (fun _ e => by cases e) (.cons (fun _ e => by cases e; exact ⟨_, rfl, p, rfl, rfl⟩) (slots_none _))
  · rw [hm]
    exact fun v as' Hb' H' r' f' w' => by rw [wr_bl_of w']; exact hq H'
theorem all_mk {h : Heap} {fa : Addr} (X : K.In h) (G : h.Ns mainGlobals mg) (hfa : mg "law" = some (.ref fa)) (law_true : ∀ (C : Addr) (ns : List Int), ns.length ≤ 63 → ∃ m, b_law C law0 [poolMO ns] = .rt (.d (.bool true)) m)
    {t_AMOUNT : Tok} {t_LETTERS : Tok} {t_LONGEST : Tok} {t_MOST : Tok} {oc_is_name : Value} {kV_is_name : Value} {dc_is_name : Value} {pm_is_name : Value} {cd_is_name : Value} {ct_is_name : Value} {od_is_name : Option Addr} {an_is_name : Option Addr} {sl_is_name : Array (Option Value)} {f_is_name : Addr} {oc_is_number : Value} {kV_is_number : Value} {dc_is_number : Value} {pm_is_number : Value} {cd_is_number : Value} {ct_is_number : Value} {od_is_number : Option Addr} {an_is_number : Option Addr} {sl_is_number : Array (Option Value)} {f_is_number : Addr} {T_is_number : Addr} {ocT_is_number : Value} {odT_is_number : Option Addr} {slT_is_number : Array (Option Value)} {nT_is_number : Nat} {tk0_is_number : Tok} {tk1_is_number : Tok} {oc_is_amount : Value} {kV_is_amount : Value} {dc_is_amount : Value} {pm_is_amount : Value} {cd_is_amount : Value} {ct_is_amount : Value} {od_is_amount : Option Addr} {an_is_amount : Option Addr} {sl_is_amount : Array (Option Value)} {f_is_amount : Addr} {oc_checked_rate : Value} {kV_checked_rate : Value} {dc_checked_rate : Value} {pm_checked_rate : Value} {cd_checked_rate : Value} {ct_checked_rate : Value} {od_checked_rate : Option Addr} {an_checked_rate : Option Addr} {sl_checked_rate : Array (Option Value)} {f_checked_rate : Addr} {oc_changed : Value} {kV_changed : Value} {dc_changed : Value} {pm_changed : Value} {cd_changed : Value} {ct_changed : Value} {od_changed : Option Addr} {an_changed : Option Addr} {sl_changed : Array (Option Value)} {f_changed : Addr} {oc_rest_of : Value} {kV_rest_of : Value} {dc_rest_of : Value} {pm_rest_of : Value} {cd_rest_of : Value} {ct_rest_of : Value} {od_rest_of : Option Addr} {an_rest_of : Option Addr} {sl_rest_of : Array (Option Value)} {f_rest_of : Addr} {oc_checked_weights : Value} {kV_checked_weights : Value} {dc_checked_weights : Value} {pm_checked_weights : Value} {cd_checked_weights : Value} {ct_checked_weights : Value} {od_checked_weights : Option Addr} {an_checked_weights : Option Addr} {sl_checked_weights : Array (Option Value)} {f_checked_weights : Addr} {oc_shared : Value} {kV_shared : Value} {dc_shared : Value} {pm_shared : Value} {cd_shared : Value} {ct_shared : Value} {od_shared : Option Addr} {an_shared : Option Addr} {sl_shared : Array (Option Value)} {f_shared : Addr} {oc_judge_shared : Value} {kV_judge_shared : Value} {dc_judge_shared : Value} {pm_judge_shared : Value} {cd_judge_shared : Value} {ct_judge_shared : Value} {od_judge_shared : Option Addr} {an_judge_shared : Option Addr} {sl_judge_shared : Array (Option Value)} {f_judge_shared : Addr} {oc_Rates_init : Value} {kV_Rates_init : Value} {dc_Rates_init : Value} {pm_Rates_init : Value} {cd_Rates_init : Value} {ct_Rates_init : Value} {od_Rates_init : Option Addr} {an_Rates_init : Option Addr} {sl_Rates_init : Array (Option Value)} {f_Rates_init : Addr} {oc_Rates_tell : Value} {kV_Rates_tell : Value} {dc_Rates_tell : Value} {pm_Rates_tell : Value} {cd_Rates_tell : Value} {ct_Rates_tell : Value} {od_Rates_tell : Option Addr} {an_Rates_tell : Option Addr} {sl_Rates_tell : Array (Option Value)} {f_Rates_tell : Addr} {oc_Rates_rate : Value} {kV_Rates_rate : Value} {dc_Rates_rate : Value} {pm_Rates_rate : Value} {cd_Rates_rate : Value} {ct_Rates_rate : Value} {od_Rates_rate : Option Addr} {an_Rates_rate : Option Addr} {sl_Rates_rate : Array (Option Value)} {f_Rates_rate : Addr} {oc_Rates_rows : Value} {kV_Rates_rows : Value} {dc_Rates_rows : Value} {pm_Rates_rows : Value} {cd_Rates_rows : Value} {ct_Rates_rows : Value} {od_Rates_rows : Option Addr} {an_Rates_rows : Option Addr} {sl_Rates_rows : Array (Option Value)} {f_Rates_rows : Addr} {oc_Rates_copy : Value} {kV_Rates_copy : Value} {dc_Rates_copy : Value} {pm_Rates_copy : Value} {cd_Rates_copy : Value} {ct_Rates_copy : Value} {od_Rates_copy : Option Addr} {an_Rates_copy : Option Addr} {sl_Rates_copy : Array (Option Value)} {f_Rates_copy : Addr} {oc__law_same : Value} {kV__law_same : Value} {dc__law_same : Value} {pm__law_same : Value} {cd__law_same : Value} {ct__law_same : Value} {od__law_same : Option Addr} {an__law_same : Option Addr} {sl__law_same : Array (Option Value)} {f__law_same : Addr} {oc__law_pool : Value} {kV__law_pool : Value} {dc__law_pool : Value} {pm__law_pool : Value} {cd__law_pool : Value} {ct__law_pool : Value} {od__law_pool : Option Addr} {an__law_pool : Option Addr} {sl__law_pool : Array (Option Value)} {f__law_pool : Addr} {oc__law_draw : Value} {kV__law_draw : Value} {dc__law_draw : Value} {pm__law_draw : Value} {cd__law_draw : Value} {ct__law_draw : Value} {od__law_draw : Option Addr} {an__law_draw : Option Addr} {sl__law_draw : Array (Option Value)} {f__law_draw : Addr} {oc__law_pick : Value} {kV__law_pick : Value} {dc__law_pick : Value} {pm__law_pick : Value} {cd__law_pick : Value} {ct__law_pick : Value} {od__law_pick : Option Addr} {an__law_pick : Option Addr} {sl__law_pick : Array (Option Value)} {f__law_pick : Addr} {oc__law_refusal : Value} {kV__law_refusal : Value} {dc__law_refusal : Value} {pm__law_refusal : Value} {cd__law_refusal : Value} {ct__law_refusal : Value} {od__law_refusal : Option Addr} {an__law_refusal : Option Addr} {sl__law_refusal : Array (Option Value)} {f__law_refusal : Addr} {oc__law_good : Value} {kV__law_good : Value} {dc__law_good : Value} {pm__law_good : Value} {cd__law_good : Value} {ct__law_good : Value} {od__law_good : Option Addr} {an__law_good : Option Addr} {sl__law_good : Array (Option Value)} {f__law_good : Addr} {oc__law_refused : Value} {kV__law_refused : Value} {dc__law_refused : Value} {pm__law_refused : Value} {cd__law_refused : Value} {ct__law_refused : Value} {od__law_refused : Option Addr} {an__law_refused : Option Addr} {sl__law_refused : Array (Option Value)} {f__law_refused : Addr} {oc__law_rates_right : Value} {kV__law_rates_right : Value} {dc__law_rates_right : Value} {pm__law_rates_right : Value} {cd__law_rates_right : Value} {ct__law_rates_right : Value} {od__law_rates_right : Option Addr} {an__law_rates_right : Option Addr} {sl__law_rates_right : Array (Option Value)} {f__law_rates_right : Addr} {oc_law : Value} {kV_law : Value} {dc_law : Value} {pm_law : Value} {cd_law : Value} {ct_law : Value} {od_law : Option Addr} {an_law : Option Addr} {sl_law : Array (Option Value)} {f_law : Addr}
    (a_Rates : PySem.W.nsIn K mainGlobals "Rates" = some (some (.ref C_Rates))) (a_DeskError : PySem.W.nsIn K mainGlobals "DeskError" = some (some (.ref C_DeskError))) (a_InvalidNumber : PySem.W.nsIn K mainGlobals "InvalidNumber" = some (some (.ref C_InvalidNumber))) (a_InvalidPaper : PySem.W.nsIn K mainGlobals "InvalidPaper" = some (some (.ref C_InvalidPaper))) (z_ValueError : PySem.W.nsIn K mainGlobals "ValueError" = some none) (z_abs : PySem.W.nsIn K mainGlobals "abs" = some none) (z_bool : PySem.W.nsIn K mainGlobals "bool" = some none) (c_AMOUNT : PySem.W.nsIn K mainGlobals "AMOUNT" = some (some (.int 1000000000 t_AMOUNT))) (c_LETTERS : PySem.W.nsIn K mainGlobals "LETTERS" = some (some (.str "abcdefghijklmnopqrstuvwxyz" t_LETTERS))) (c_LONGEST : PySem.W.nsIn K mainGlobals "LONGEST" = some (some (.int 12 t_LONGEST))) (c_MOST : PySem.W.nsIn K mainGlobals "MOST" = some (some (.int 1000000 t_MOST))) (f_Rates__rows : PySem.W.findIn K (.ref C_Rates) "_rows" = some none) (z_int : PySem.W.nsIn K mainGlobals "int" = some none) (z_isinstance : PySem.W.nsIn K mainGlobals "isinstance" = some none) (l1_Rates : PySem.W.plainGet K C_Rates Str.empty = true) (l2_Rates : PySem.W.hasDictIn K C_Rates = true) (l3_Rates : PySem.W.plainOver K C_Rates = true) (l4_Rates : PySem.W.findIn K (.ref C_Rates) "__setattr__" = some (some (.builtin "object.__setattr__"))) (z_len : PySem.W.nsIn K mainGlobals "len" = some none) (z_list : PySem.W.nsIn K mainGlobals "list" = some none) (z_max : PySem.W.nsIn K mainGlobals "max" = some none) (z_min : PySem.W.nsIn K mainGlobals "min" = some none) (z_range : PySem.W.nsIn K mainGlobals "range" = some none) (z_reversed : PySem.W.nsIn K mainGlobals "reversed" = some none) (z_sorted : PySem.W.nsIn K mainGlobals "sorted" = some none) (z_str : PySem.W.nsIn K mainGlobals "str" = some none) (z_sum : PySem.W.nsIn K mainGlobals "sum" = some none) (z_tuple : PySem.W.nsIn K mainGlobals "tuple" = some none) (x1_InvalidNumber : PySem.W.excIn K C_InvalidNumber [.type "ValueError", .type "Exception", .type "BaseException", .type "object"] "ValueError.__new__" = true) (x2_InvalidNumber : PySem.W.keepIn K (.ref C_InvalidNumber) = true) (x3_InvalidNumber : PySem.W.subIn K (.ref C_InvalidNumber) (.type "BaseException") = some true) (x4_InvalidNumber : PySem.W.typeIn K (.ref C_InvalidNumber) = some (.type "type")) (x1_InvalidPaper : PySem.W.excIn K C_InvalidPaper [.type "ValueError", .type "Exception", .type "BaseException", .type "object"] "ValueError.__new__" = true) (x2_InvalidPaper : PySem.W.keepIn K (.ref C_InvalidPaper) = true) (x3_InvalidPaper : PySem.W.subIn K (.ref C_InvalidPaper) (.type "BaseException") = some true) (x4_InvalidPaper : PySem.W.typeIn K (.ref C_InvalidPaper) = some (.type "type")) (m1_is_name : PySem.W.nsIn K mainGlobals "is_name" = some (some (.ref f_is_name))) (m3_is_name : K.lookup f_is_name = some ⟨oc_is_name, od_is_name, .func (PySem.W.fnOf "is_name" "is_name" (defArgs (top 8)) (defBody (top 8)) (defScope (top 8)) .none kV_is_name dc_is_name pm_is_name an_is_name cd_is_name ct_is_name), sl_is_name⟩) (m4_is_name : PySem.W.codeIn K cd_is_name "is_name" = true) (m5_is_name : PySem.W.keepIn K (.ref f_is_name) = true) (m1_is_number : PySem.W.nsIn K mainGlobals "is_number" = some (some (.ref f_is_number))) (m3_is_number : K.lookup f_is_number = some ⟨oc_is_number, od_is_number, .func (PySem.W.fnOf "is_number" "is_number" (defArgs (top 9)) (defBody (top 9)) (defScope (top 9)) (.ref T_is_number) kV_is_number dc_is_number pm_is_number an_is_number cd_is_number ct_is_number), sl_is_number⟩) (m4_is_number : PySem.W.codeIn K cd_is_number "is_number" = true) (m5_is_number : PySem.W.keepIn K (.ref f_is_number) = true) (m6_is_number : K.lookup T_is_number = some ⟨ocT_is_number, odT_is_number, .seq #[.int 0 tk0_is_number, .int 1000000 tk1_is_number] nT_is_number, slT_is_number⟩) (m1_is_amount : PySem.W.nsIn K mainGlobals "is_amount" = some (some (.ref f_is_amount))) (m3_is_amount : K.lookup f_is_amount = some ⟨oc_is_amount, od_is_amount, .func (PySem.W.fnOf "is_amount" "is_amount" (defArgs (top 11)) (defBody (top 11)) (defScope (top 11)) .none kV_is_amount dc_is_amount pm_is_amount an_is_amount cd_is_amount ct_is_amount), sl_is_amount⟩) (m4_is_amount : PySem.W.codeIn K cd_is_amount "is_amount" = true) (m5_is_amount : PySem.W.keepIn K (.ref f_is_amount) = true) (m1_checked_rate : PySem.W.nsIn K mainGlobals "checked_rate" = some (some (.ref f_checked_rate))) (m3_checked_rate : K.lookup f_checked_rate = some ⟨oc_checked_rate, od_checked_rate, .func (PySem.W.fnOf "checked_rate" "checked_rate" (defArgs (top 14)) (defBody (top 14)) (defScope (top 14)) .none kV_checked_rate dc_checked_rate pm_checked_rate an_checked_rate cd_checked_rate ct_checked_rate), sl_checked_rate⟩) (m4_checked_rate : PySem.W.codeIn K cd_checked_rate "checked_rate" = true) (m5_checked_rate : PySem.W.keepIn K (.ref f_checked_rate) = true) (m1_changed : PySem.W.nsIn K mainGlobals "changed" = some (some (.ref f_changed))) (m3_changed : K.lookup f_changed = some ⟨oc_changed, od_changed, .func (PySem.W.fnOf "changed" "changed" (defArgs (top 15)) (defBody (top 15)) (defScope (top 15)) .none kV_changed dc_changed pm_changed an_changed cd_changed ct_changed), sl_changed⟩) (m4_changed : PySem.W.codeIn K cd_changed "changed" = true) (m5_changed : PySem.W.keepIn K (.ref f_changed) = true) (m1_rest_of : PySem.W.nsIn K mainGlobals "rest_of" = some (some (.ref f_rest_of))) (m3_rest_of : K.lookup f_rest_of = some ⟨oc_rest_of, od_rest_of, .func (PySem.W.fnOf "rest_of" "rest_of" (defArgs (top 16)) (defBody (top 16)) (defScope (top 16)) .none kV_rest_of dc_rest_of pm_rest_of an_rest_of cd_rest_of ct_rest_of), sl_rest_of⟩) (m4_rest_of : PySem.W.codeIn K cd_rest_of "rest_of" = true) (m5_rest_of : PySem.W.keepIn K (.ref f_rest_of) = true) (m1_checked_weights : PySem.W.nsIn K mainGlobals "checked_weights" = some (some (.ref f_checked_weights))) (m3_checked_weights : K.lookup f_checked_weights = some ⟨oc_checked_weights, od_checked_weights, .func (PySem.W.fnOf "checked_weights" "checked_weights" (defArgs (top 17)) (defBody (top 17)) (defScope (top 17)) .none kV_checked_weights dc_checked_weights pm_checked_weights an_checked_weights cd_checked_weights ct_checked_weights), sl_checked_weights⟩) (m4_checked_weights : PySem.W.codeIn K cd_checked_weights "checked_weights" = true) (m5_checked_weights : PySem.W.keepIn K (.ref f_checked_weights) = true) (m1_shared : PySem.W.nsIn K mainGlobals "shared" = some (some (.ref f_shared))) (m3_shared : K.lookup f_shared = some ⟨oc_shared, od_shared, .func (PySem.W.fnOf "shared" "shared" (defArgs (top 18)) (defBody (top 18)) (defScope (top 18)) .none kV_shared dc_shared pm_shared an_shared cd_shared ct_shared), sl_shared⟩) (m4_shared : PySem.W.codeIn K cd_shared "shared" = true) (m5_shared : PySem.W.keepIn K (.ref f_shared) = true) (m1_judge_shared : PySem.W.nsIn K mainGlobals "judge_shared" = some (some (.ref f_judge_shared))) (m3_judge_shared : K.lookup f_judge_shared = some ⟨oc_judge_shared, od_judge_shared, .func (PySem.W.fnOf "judge_shared" "judge_shared" (defArgs (top 19)) (defBody (top 19)) (defScope (top 19)) .none kV_judge_shared dc_judge_shared pm_judge_shared an_judge_shared cd_judge_shared ct_judge_shared), sl_judge_shared⟩) (m4_judge_shared : PySem.W.codeIn K cd_judge_shared "judge_shared" = true) (m5_judge_shared : PySem.W.keepIn K (.ref f_judge_shared) = true) (m1_Rates_init : PySem.W.findIn K (.ref C_Rates) "__init__" = some (some (.ref f_Rates_init))) (m2_Rates_init : PySem.W.isFn K (.ref f_Rates_init) = true) (m3_Rates_init : K.lookup f_Rates_init = some ⟨oc_Rates_init, od_Rates_init, .func (PySem.W.fnOf "__init__" "Rates.__init__" (defArgs (inClass (top 20) 0)) (defBody (inClass (top 20) 0)) (defScope (inClass (top 20) 0)) .none kV_Rates_init dc_Rates_init pm_Rates_init an_Rates_init cd_Rates_init ct_Rates_init), sl_Rates_init⟩) (m4_Rates_init : PySem.W.codeIn K cd_Rates_init "Rates.__init__" = true) (m5_Rates_init : PySem.W.keepIn K (.ref f_Rates_init) = true) (m8_Rates_init : PySem.W.makesIn K C_Rates = true) (m9_Rates_init : PySem.W.keepIn K (.ref C_Rates) = true) (m1_Rates_tell : PySem.W.findIn K (.ref C_Rates) "tell" = some (some (.ref f_Rates_tell))) (m2_Rates_tell : PySem.W.isFn K (.ref f_Rates_tell) = true) (m3_Rates_tell : K.lookup f_Rates_tell = some ⟨oc_Rates_tell, od_Rates_tell, .func (PySem.W.fnOf "tell" "Rates.tell" (defArgs (inClass (top 20) 1)) (defBody (inClass (top 20) 1)) (defScope (inClass (top 20) 1)) .none kV_Rates_tell dc_Rates_tell pm_Rates_tell an_Rates_tell cd_Rates_tell ct_Rates_tell), sl_Rates_tell⟩) (m4_Rates_tell : PySem.W.codeIn K cd_Rates_tell "Rates.tell" = true) (m5_Rates_tell : PySem.W.keepIn K (.ref f_Rates_tell) = true) (m1_Rates_rate : PySem.W.findIn K (.ref C_Rates) "rate" = some (some (.ref f_Rates_rate))) (m2_Rates_rate : PySem.W.isFn K (.ref f_Rates_rate) = true) (m3_Rates_rate : K.lookup f_Rates_rate = some ⟨oc_Rates_rate, od_Rates_rate, .func (PySem.W.fnOf "rate" "Rates.rate" (defArgs (inClass (top 20) 2)) (defBody (inClass (top 20) 2)) (defScope (inClass (top 20) 2)) .none kV_Rates_rate dc_Rates_rate pm_Rates_rate an_Rates_rate cd_Rates_rate ct_Rates_rate), sl_Rates_rate⟩) (m4_Rates_rate : PySem.W.codeIn K cd_Rates_rate "Rates.rate" = true) (m5_Rates_rate : PySem.W.keepIn K (.ref f_Rates_rate) = true) (m1_Rates_rows : PySem.W.findIn K (.ref C_Rates) "rows" = some (some (.ref f_Rates_rows))) (m2_Rates_rows : PySem.W.isFn K (.ref f_Rates_rows) = true) (m3_Rates_rows : K.lookup f_Rates_rows = some ⟨oc_Rates_rows, od_Rates_rows, .func (PySem.W.fnOf "rows" "Rates.rows" (defArgs (inClass (top 20) 3)) (defBody (inClass (top 20) 3)) (defScope (inClass (top 20) 3)) .none kV_Rates_rows dc_Rates_rows pm_Rates_rows an_Rates_rows cd_Rates_rows ct_Rates_rows), sl_Rates_rows⟩) (m4_Rates_rows : PySem.W.codeIn K cd_Rates_rows "Rates.rows" = true) (m5_Rates_rows : PySem.W.keepIn K (.ref f_Rates_rows) = true) (m1_Rates_copy : PySem.W.findIn K (.ref C_Rates) "copy" = some (some (.ref f_Rates_copy))) (m2_Rates_copy : PySem.W.isFn K (.ref f_Rates_copy) = true) (m3_Rates_copy : K.lookup f_Rates_copy = some ⟨oc_Rates_copy, od_Rates_copy, .func (PySem.W.fnOf "copy" "Rates.copy" (defArgs (inClass (top 20) 4)) (defBody (inClass (top 20) 4)) (defScope (inClass (top 20) 4)) .none kV_Rates_copy dc_Rates_copy pm_Rates_copy an_Rates_copy cd_Rates_copy ct_Rates_copy), sl_Rates_copy⟩) (m4_Rates_copy : PySem.W.codeIn K cd_Rates_copy "Rates.copy" = true) (m5_Rates_copy : PySem.W.keepIn K (.ref f_Rates_copy) = true) (m1__law_same : PySem.W.nsIn K mainGlobals "_law_same" = some (some (.ref f__law_same))) (m3__law_same : K.lookup f__law_same = some ⟨oc__law_same, od__law_same, .func (PySem.W.fnOf "_law_same" "_law_same" (defArgs (top 22)) (defBody (top 22)) (defScope (top 22)) .none kV__law_same dc__law_same pm__law_same an__law_same cd__law_same ct__law_same), sl__law_same⟩) (m4__law_same : PySem.W.codeIn K cd__law_same "_law_same" = true) (m5__law_same : PySem.W.keepIn K (.ref f__law_same) = true) (m1__law_pool : PySem.W.nsIn K mainGlobals "_law_pool" = some (some (.ref f__law_pool))) (m3__law_pool : K.lookup f__law_pool = some ⟨oc__law_pool, od__law_pool, .func (PySem.W.fnOf "_law_pool" "_law_pool" (defArgs (top 23)) (defBody (top 23)) (defScope (top 23)) .none kV__law_pool dc__law_pool pm__law_pool an__law_pool cd__law_pool ct__law_pool), sl__law_pool⟩) (m4__law_pool : PySem.W.codeIn K cd__law_pool "_law_pool" = true) (m5__law_pool : PySem.W.keepIn K (.ref f__law_pool) = true) (m1__law_draw : PySem.W.nsIn K mainGlobals "_law_draw" = some (some (.ref f__law_draw))) (m3__law_draw : K.lookup f__law_draw = some ⟨oc__law_draw, od__law_draw, .func (PySem.W.fnOf "_law_draw" "_law_draw" (defArgs (top 24)) (defBody (top 24)) (defScope (top 24)) .none kV__law_draw dc__law_draw pm__law_draw an__law_draw cd__law_draw ct__law_draw), sl__law_draw⟩) (m4__law_draw : PySem.W.codeIn K cd__law_draw "_law_draw" = true) (m5__law_draw : PySem.W.keepIn K (.ref f__law_draw) = true) (m1__law_pick : PySem.W.nsIn K mainGlobals "_law_pick" = some (some (.ref f__law_pick))) (m3__law_pick : K.lookup f__law_pick = some ⟨oc__law_pick, od__law_pick, .func (PySem.W.fnOf "_law_pick" "_law_pick" (defArgs (top 25)) (defBody (top 25)) (defScope (top 25)) .none kV__law_pick dc__law_pick pm__law_pick an__law_pick cd__law_pick ct__law_pick), sl__law_pick⟩) (m4__law_pick : PySem.W.codeIn K cd__law_pick "_law_pick" = true) (m5__law_pick : PySem.W.keepIn K (.ref f__law_pick) = true) (m1__law_refusal : PySem.W.nsIn K mainGlobals "_law_refusal" = some (some (.ref f__law_refusal))) (m3__law_refusal : K.lookup f__law_refusal = some ⟨oc__law_refusal, od__law_refusal, .func (PySem.W.fnOf "_law_refusal" "_law_refusal" (defArgs (top 26)) (defBody (top 26)) (defScope (top 26)) .none kV__law_refusal dc__law_refusal pm__law_refusal an__law_refusal cd__law_refusal ct__law_refusal), sl__law_refusal⟩) (m4__law_refusal : PySem.W.codeIn K cd__law_refusal "_law_refusal" = true) (m5__law_refusal : PySem.W.keepIn K (.ref f__law_refusal) = true) (m1__law_good : PySem.W.nsIn K mainGlobals "_law_good" = some (some (.ref f__law_good))) (m3__law_good : K.lookup f__law_good = some ⟨oc__law_good, od__law_good, .func (PySem.W.fnOf "_law_good" "_law_good" (defArgs (top 27)) (defBody (top 27)) (defScope (top 27)) .none kV__law_good dc__law_good pm__law_good an__law_good cd__law_good ct__law_good), sl__law_good⟩) (m4__law_good : PySem.W.codeIn K cd__law_good "_law_good" = true) (m5__law_good : PySem.W.keepIn K (.ref f__law_good) = true) (m1__law_refused : PySem.W.nsIn K mainGlobals "_law_refused" = some (some (.ref f__law_refused))) (m3__law_refused : K.lookup f__law_refused = some ⟨oc__law_refused, od__law_refused, .func (PySem.W.fnOf "_law_refused" "_law_refused" (defArgs (top 28)) (defBody (top 28)) (defScope (top 28)) .none kV__law_refused dc__law_refused pm__law_refused an__law_refused cd__law_refused ct__law_refused), sl__law_refused⟩) (m4__law_refused : PySem.W.codeIn K cd__law_refused "_law_refused" = true) (m5__law_refused : PySem.W.keepIn K (.ref f__law_refused) = true) (m1__law_rates_right : PySem.W.nsIn K mainGlobals "_law_rates_right" = some (some (.ref f__law_rates_right))) (m3__law_rates_right : K.lookup f__law_rates_right = some ⟨oc__law_rates_right, od__law_rates_right, .func (PySem.W.fnOf "_law_rates_right" "_law_rates_right" (defArgs (top 29)) (defBody (top 29)) (defScope (top 29)) .none kV__law_rates_right dc__law_rates_right pm__law_rates_right an__law_rates_right cd__law_rates_right ct__law_rates_right), sl__law_rates_right⟩) (m4__law_rates_right : PySem.W.codeIn K cd__law_rates_right "_law_rates_right" = true) (m5__law_rates_right : PySem.W.keepIn K (.ref f__law_rates_right) = true) (m1_law : PySem.W.nsIn K mainGlobals "law" = some (some (.ref f_law))) (m3_law : K.lookup f_law = some ⟨oc_law, od_law, .func (PySem.W.fnOf "law" "law" (defArgs (top 30)) (defBody (top 30)) (defScope (top 30)) .none kV_law dc_law pm_law an_law cd_law ct_law), sl_law⟩) (m4_law : PySem.W.codeIn K cd_law "law" = true) (m5_law : PySem.W.keepIn K (.ref f_law) = true) (b1 : PySem.W.subIn K (.ref C_DeskError) (.type "BaseException") = some true) (b2 : PySem.W.hasDictIn K C_DeskError = true) (b3 : PySem.W.typeIn K (.ref C_DeskError) = some (.type "type")) (b4_InvalidNumber : PySem.W.subIn K (.ref C_InvalidNumber) (.ref C_DeskError) = some true) (b4_InvalidPaper : PySem.W.subIn K (.ref C_InvalidPaper) (.ref C_DeskError) = some true) (e1_InvalidNumber : PySem.W.findIn K (.ref C_InvalidNumber) "__getattribute__" = some (some (.builtin "BaseException.__getattribute__"))) (e2_InvalidNumber : PySem.W.findIn K (.ref C_InvalidNumber) "__getattr__" = some none) (e4_InvalidNumber : PySem.W.hasDictIn K C_InvalidNumber = true) (e5_InvalidNumber : PySem.W.findIn K (.ref C_InvalidNumber) "__class__" = some (some (.builtin "object.__class__"))) (e8_InvalidNumber : PySem.W.mroIn K C_InvalidNumber (.type "object") = some true) (e1_InvalidPaper : PySem.W.findIn K (.ref C_InvalidPaper) "__getattribute__" = some (some (.builtin "BaseException.__getattribute__"))) (e2_InvalidPaper : PySem.W.findIn K (.ref C_InvalidPaper) "__getattr__" = some none) (e4_InvalidPaper : PySem.W.hasDictIn K C_InvalidPaper = true) (e5_InvalidPaper : PySem.W.findIn K (.ref C_InvalidPaper) "__class__" = some (some (.builtin "object.__class__"))) (e8_InvalidPaper : PySem.W.mroIn K C_InvalidPaper (.type "object") = some true) (e6 : PySem.W.specialIn K (.builtin "object.__class__") "__get__" = some (some (.builtin "getset_descriptor.__get__"))) (e7 : PySem.W.takesIn K (.builtin "object.__class__") = some true) (s_NN : PySem.W.subIn K (.ref C_InvalidNumber) (.ref C_InvalidNumber) = some true) (s_NP : PySem.W.subIn K (.ref C_InvalidNumber) (.ref C_InvalidPaper) = some false) (s_PN : PySem.W.subIn K (.ref C_InvalidPaper) (.ref C_InvalidNumber) = some false) (s_PP : PySem.W.subIn K (.ref C_InvalidPaper) (.ref C_InvalidPaper) = some true) (s_NV : PySem.W.subIn K (.ref C_InvalidNumber) (.type "ValueError") = some true) (s_PV : PySem.W.subIn K (.ref C_InvalidPaper) (.type "ValueError") = some true) :
    ∃ fd : FuncData, (∀ (s : Shared) (u : Value), BindsTo s fd ⟨[u], []⟩ [("script", u)]) ∧ ∀ base : Heap, K.In base → base.Ns mainGlobals mg → FnOk P w K mg base (L2N.CX P w) 9 fa fd ["script"] (spLaw K) := by
  have F_is_name := fun_mk (st := (top 8)) m3_is_name m4_is_name m5_is_name
  have B_is_name := F_is_name.binds (ps := ["word"]) fun _ _ _ _ _ _ us hl => match us, hl with | [_], _ => rfl
  have F_is_number : FunD K "is_number" "is_number" (defArgs (top 9)) (defBody (top 9)) (defScope (top 9)) [.int 0, .int 1000000] [] f_is_number (PySem.W.fnOf "is_number" "is_number" (defArgs (top 9)) (defBody (top 9)) (defScope (top 9)) (.ref T_is_number) kV_is_number dc_is_number pm_is_number an_is_number cd_is_number ct_is_number) :=
    ⟨⟨_, _, _, _, _, _, _, _, _, _, rfl, m3_is_number, m4_is_number, .inr ⟨by simp, _, _, _, nT_is_number, rfl, m6_is_number, rfl, .cons ⟨tk0_is_number, rfl⟩ (.cons ⟨tk1_is_number, rfl⟩ (.nil))⟩, Or.inl rfl⟩, m5_is_number⟩
  have B_is_number : Binds K (PySem.W.fnOf "is_number" "is_number" (defArgs (top 9)) (defBody (top 9)) (defScope (top 9)) (.ref T_is_number) kV_is_number dc_is_number pm_is_number an_is_number cd_is_number ct_is_number) ["value", "least", "most"] [] := by
    obtain ⟨ds, hv, hb⟩ := F_is_number.binds1 (ps := ["value", "least", "most"]) 3 2 (by simp) rfl fun T kV doc pm an cdv ct us its hu hi => match us, its, hu, hi with | [_, _, _], [_, _], _, _ => ⟨_, rfl, rfl⟩
    cases hv
    exact hb
  have F_is_amount := fun_mk (st := (top 11)) m3_is_amount m4_is_amount m5_is_amount
  have B_is_amount := F_is_amount.binds (ps := ["value"]) fun _ _ _ _ _ _ us hl => match us, hl with | [_], _ => rfl
  have F_checked_rate := fun_mk (st := (top 14)) m3_checked_rate m4_checked_rate m5_checked_rate
  have B_checked_rate := F_checked_rate.binds (ps := ["rate"]) fun _ _ _ _ _ _ us hl => match us, hl with | [_], _ => rfl
  have F_changed := fun_mk (st := (top 15)) m3_changed m4_changed m5_changed
  have B_changed := F_changed.binds (ps := ["amount", "rate"]) fun _ _ _ _ _ _ us hl => match us, hl with | [_, _], _ => rfl
  have F_rest_of := fun_mk (st := (top 16)) m3_rest_of m4_rest_of m5_rest_of
  have B_rest_of := F_rest_of.binds (ps := ["amount", "rate"]) fun _ _ _ _ _ _ us hl => match us, hl with | [_, _], _ => rfl
  have F_checked_weights := fun_mk (st := (top 17)) m3_checked_weights m4_checked_weights m5_checked_weights
  have B_checked_weights := F_checked_weights.binds (ps := ["weights"]) fun _ _ _ _ _ _ us hl => match us, hl with | [_], _ => rfl
  have F_shared := fun_mk (st := (top 18)) m3_shared m4_shared m5_shared
  have B_shared := F_shared.binds (ps := ["amount", "weights"]) fun _ _ _ _ _ _ us hl => match us, hl with | [_, _], _ => rfl
  have F_judge_shared := fun_mk (st := (top 19)) m3_judge_shared m4_judge_shared m5_judge_shared
  have B_judge_shared := F_judge_shared.binds (ps := ["amount", "weights", "told"]) fun _ _ _ _ _ _ us hl => match us, hl with | [_, _, _], _ => rfl
  have F_Rates_init := fun_mk (st := (inClass (top 20) 0)) m3_Rates_init m4_Rates_init m5_Rates_init
  have B_Rates_init := F_Rates_init.binds (ps := ["self"]) fun _ _ _ _ _ _ us hl => match us, hl with | [_], _ => rfl
  have F_Rates_tell := fun_mk (st := (inClass (top 20) 1)) m3_Rates_tell m4_Rates_tell m5_Rates_tell
  have B_Rates_tell := F_Rates_tell.binds (ps := ["self", "day", "one", "other", "rate"]) fun _ _ _ _ _ _ us hl => match us, hl with | [_, _, _, _, _], _ => rfl
  have F_Rates_rate := fun_mk (st := (inClass (top 20) 2)) m3_Rates_rate m4_Rates_rate m5_Rates_rate
  have B_Rates_rate := F_Rates_rate.binds (ps := ["self", "one", "other", "day"]) fun _ _ _ _ _ _ us hl => match us, hl with | [_, _, _, _], _ => rfl
  have F_Rates_rows := fun_mk (st := (inClass (top 20) 3)) m3_Rates_rows m4_Rates_rows m5_Rates_rows
  have B_Rates_rows := F_Rates_rows.binds (ps := ["self"]) fun _ _ _ _ _ _ us hl => match us, hl with | [_], _ => rfl
  have F_Rates_copy := fun_mk (st := (inClass (top 20) 4)) m3_Rates_copy m4_Rates_copy m5_Rates_copy
  have B_Rates_copy := F_Rates_copy.binds (ps := ["self"]) fun _ _ _ _ _ _ us hl => match us, hl with | [_], _ => rfl
  have F__law_same := fun_mk (st := (top 22)) m3__law_same m4__law_same m5__law_same
  have B__law_same := F__law_same.binds (ps := ["actual", "due"]) fun _ _ _ _ _ _ us hl => match us, hl with | [_, _], _ => rfl
  have F__law_pool := fun_mk (st := (top 23)) m3__law_pool m4__law_pool m5__law_pool
  have B__law_pool := F__law_pool.binds (ps := ["script"]) fun _ _ _ _ _ _ us hl => match us, hl with | [_], _ => rfl
  have F__law_draw := fun_mk (st := (top 24)) m3__law_draw m4__law_draw m5__law_draw
  have B__law_draw := F__law_draw.binds (ps := ["pool", "many"]) fun _ _ _ _ _ _ us hl => match us, hl with | [_, _], _ => rfl
  have F__law_pick := fun_mk (st := (top 25)) m3__law_pick m4__law_pick m5__law_pick
  have B__law_pick := F__law_pick.binds (ps := ["pool", "rows"]) fun _ _ _ _ _ _ us hl => match us, hl with | [_, _], _ => rfl
  have F__law_refusal := fun_mk (st := (top 26)) m3__law_refusal m4__law_refusal m5__law_refusal
  have B__law_refusal := F__law_refusal.binds (ps := ["problem"]) fun _ _ _ _ _ _ us hl => match us, hl with | [_], _ => rfl
  have F__law_good := fun_mk (st := (top 27)) m3__law_good m4__law_good m5__law_good
  have B__law_good := F__law_good.binds (ps := ["amount", "weights", "told"]) fun _ _ _ _ _ _ us hl => match us, hl with | [_, _, _], _ => rfl
  have F__law_refused := fun_mk (st := (top 28)) m3__law_refused m4__law_refused m5__law_refused
  have B__law_refused := F__law_refused.binds (ps := ["choice", "one", "two", "three"]) fun _ _ _ _ _ _ us hl => match us, hl with | [_, _, _, _], _ => rfl
  have F__law_rates_right := fun_mk (st := (top 29)) m3__law_rates_right m4__law_rates_right m5__law_rates_right
  have B__law_rates_right := F__law_rates_right.binds (ps := ["pool"]) fun _ _ _ _ _ _ us hl => match us, hl with | [_], _ => rfl
  have F_law := fun_mk (st := (top 30)) m3_law m4_law m5_law
  have B_law := F_law.binds (ps := ["script"]) fun _ _ _ _ _ _ us hl => match us, hl with | [_], _ => rfl
  have T : Txt K mg C_Rates C_DeskError C_InvalidNumber C_InvalidPaper := {
    n_ValueError := PySem.W.mg_none_of X G z_ValueError
    n_abs := PySem.W.mg_none_of X G z_abs
    n_bool := PySem.W.mg_none_of X G z_bool
    c_AMOUNT := ⟨_, PySem.W.mg_of X G c_AMOUNT⟩
    c_LETTERS := ⟨_, PySem.W.mg_of X G c_LETTERS⟩
    c_LONGEST := ⟨_, PySem.W.mg_of X G c_LONGEST⟩
    c_MOST := ⟨_, PySem.W.mg_of X G c_MOST⟩
    na_Rates__rows := f_Rates__rows
    n_int := PySem.W.mg_none_of X G z_int
    n_isinstance := PySem.W.mg_none_of X G z_isinstance
    cl_Rates := ⟨l1_Rates, l2_Rates, l3_Rates, l4_Rates⟩
    g_Rates := PySem.W.mg_of X G a_Rates
    n_len := PySem.W.mg_none_of X G z_len
    n_list := PySem.W.mg_none_of X G z_list
    n_max := PySem.W.mg_none_of X G z_max
    n_min := PySem.W.mg_none_of X G z_min
    n_range := PySem.W.mg_none_of X G z_range
    n_reversed := PySem.W.mg_none_of X G z_reversed
    n_sorted := PySem.W.mg_none_of X G z_sorted
    n_str := PySem.W.mg_none_of X G z_str
    n_sum := PySem.W.mg_none_of X G z_sum
    n_tuple := PySem.W.mg_none_of X G z_tuple
    x_InvalidNumber := ⟨_, _, _, _, _, PySem.F.excBase_ValueError, x1_InvalidNumber, PySem.W.mg_of X G a_InvalidNumber, x2_InvalidNumber, x3_InvalidNumber, x4_InvalidNumber⟩
    x_InvalidPaper := ⟨_, _, _, _, _, PySem.F.excBase_ValueError, x1_InvalidPaper, PySem.W.mg_of X G a_InvalidPaper, x2_InvalidPaper, x3_InvalidPaper, x4_InvalidPaper⟩
    d_is_name := ⟨_, _, PySem.W.mg_of X G m1_is_name, m5_is_name, F_is_name, B_is_name⟩
    d_is_number := ⟨_, _, _, _, PySem.W.mg_of X G m1_is_number, m5_is_number, F_is_number, B_is_number⟩
    d_is_amount := ⟨_, _, PySem.W.mg_of X G m1_is_amount, m5_is_amount, F_is_amount, B_is_amount⟩
    d_checked_rate := ⟨_, _, PySem.W.mg_of X G m1_checked_rate, m5_checked_rate, F_checked_rate, B_checked_rate⟩
    d_changed := ⟨_, _, PySem.W.mg_of X G m1_changed, m5_changed, F_changed, B_changed⟩
    d_rest_of := ⟨_, _, PySem.W.mg_of X G m1_rest_of, m5_rest_of, F_rest_of, B_rest_of⟩
    d_checked_weights := ⟨_, _, PySem.W.mg_of X G m1_checked_weights, m5_checked_weights, F_checked_weights, B_checked_weights⟩
    d_shared := ⟨_, _, PySem.W.mg_of X G m1_shared, m5_shared, F_shared, B_shared⟩
    d_judge_shared := ⟨_, _, PySem.W.mg_of X G m1_judge_shared, m5_judge_shared, F_judge_shared, B_judge_shared⟩
    d_Rates_init := ⟨_, _, ⟨m8_Rates_init, m1_Rates_init, m2_Rates_init, m9_Rates_init⟩, F_Rates_init, B_Rates_init⟩
    d_Rates_tell := ⟨_, _, ⟨m1_Rates_tell, m2_Rates_tell, m5_Rates_tell⟩, F_Rates_tell, B_Rates_tell⟩
    d_Rates_rate := ⟨_, _, ⟨m1_Rates_rate, m2_Rates_rate, m5_Rates_rate⟩, F_Rates_rate, B_Rates_rate⟩
    d_Rates_rows := ⟨_, _, ⟨m1_Rates_rows, m2_Rates_rows, m5_Rates_rows⟩, F_Rates_rows, B_Rates_rows⟩
    d_Rates_copy := ⟨_, _, ⟨m1_Rates_copy, m2_Rates_copy, m5_Rates_copy⟩, F_Rates_copy, B_Rates_copy⟩
    d__law_same := ⟨_, _, PySem.W.mg_of X G m1__law_same, m5__law_same, F__law_same, B__law_same⟩
    d__law_pool := ⟨_, _, PySem.W.mg_of X G m1__law_pool, m5__law_pool, F__law_pool, B__law_pool⟩
    d__law_draw := ⟨_, _, PySem.W.mg_of X G m1__law_draw, m5__law_draw, F__law_draw, B__law_draw⟩
    d__law_pick := ⟨_, _, PySem.W.mg_of X G m1__law_pick, m5__law_pick, F__law_pick, B__law_pick⟩
    d__law_refusal := ⟨_, _, PySem.W.mg_of X G m1__law_refusal, m5__law_refusal, F__law_refusal, B__law_refusal⟩
    d__law_good := ⟨_, _, PySem.W.mg_of X G m1__law_good, m5__law_good, F__law_good, B__law_good⟩
    d__law_refused := ⟨_, _, PySem.W.mg_of X G m1__law_refused, m5__law_refused, F__law_refused, B__law_refused⟩
    d__law_rates_right := ⟨_, _, PySem.W.mg_of X G m1__law_rates_right, m5__law_rates_right, F__law_rates_right, B__law_rates_right⟩
    d_law := ⟨_, _, PySem.W.mg_of X G m1_law, m5_law, F_law, B_law⟩
    g_DeskError := PySem.W.mg_of X G a_DeskError
    g_InvalidNumber := PySem.W.mg_of X G a_InvalidNumber
    g_InvalidPaper := PySem.W.mg_of X G a_InvalidPaper
    e_InvalidNumber := ⟨e1_InvalidNumber, e2_InvalidNumber, x3_InvalidNumber, e4_InvalidNumber, e5_InvalidNumber, e6, e7, e8_InvalidNumber⟩
    e_InvalidPaper := ⟨e1_InvalidPaper, e2_InvalidPaper, x3_InvalidPaper, e4_InvalidPaper, e5_InvalidPaper, e6, e7, e8_InvalidPaper⟩
    k_NN := kit_ref e4_InvalidNumber x4_InvalidNumber s_NN s_NN
    k_NP := kit_ref e4_InvalidPaper x4_InvalidPaper s_NP s_PP
    k_PN := kit_ref e4_InvalidNumber x4_InvalidNumber s_PN s_NN
    k_PP := kit_ref e4_InvalidPaper x4_InvalidPaper s_PP s_PP
    k_NV := kit_bas (by decide +kernel) s_NV
    k_PV := kit_bas (by decide +kernel) s_PV
    cat := fun y b hy => by
      unfold catK at hy
      by_cases h1 : y = "InvalidNumber"
      · subst h1
        simp only [true_or, if_true, Option.some.injEq] at hy
        subst hy
        exact ⟨_, PySem.W.mg_of X G a_InvalidNumber, PySem.W.exm_ref b1 b2 b3 b4_InvalidNumber⟩
      · by_cases h2 : y = "InvalidPaper"
        · subst h2
          simp only [or_true, if_true, Option.some.injEq] at hy
          subst hy
          exact ⟨_, PySem.W.mg_of X G a_InvalidPaper, PySem.W.exm_ref b1 b2 b3 b4_InvalidPaper⟩
        · simp [h1, h2] at hy }
  have e := hfa.symm.trans (PySem.W.mg_of X G m1_law)
  cases e
  refine ⟨PySem.W.fnOf "law" "law" (defArgs (top 30)) (defBody (top 30)) (defScope (top 30)) .none kV_law dc_law pm_law an_law cd_law ct_law, fun s v => .of_eq rfl, fun base _ _ => ?_⟩
  exact ok_law T F_law (law_true _)
end
theorem law_true : ∀ (C : Addr) (ns : List Int), ns.length ≤ 63 → ∃ m, b_law C law0 [poolMO ns] = .rt (.d (.bool true)) m := fun C ns _ => law_true_at C ns

theorem walk {l : PySem.W.OpenLaw} {qq : Program} {loose : List Str} {XP : (Str → Option Value) → Heap → Prop} {YP : World → Heap → Prop} {d : DefRec} {K : Params → PySem.W.Frag} (hn : l.most = some 63) (hdf : d.params.defaults = [])
    (hY : ∀ (w : World) (h : Heap), YP w h → (K w.params).In h)
    (F : ∀ (w : World) (mg : Str → Option Value) (fa : Addr) (h : Heap), (K w.params).In h → h.Ns mainGlobals mg → mg d.name = some (.ref fa) →
      ∃ fd : FuncData, (∀ (s : Shared) (u : Value), BindsTo s fd ⟨[u], []⟩ [("script", u)]) ∧ ∀ base : Heap, (K w.params).In base → base.Ns mainGlobals mg → FnOk l.prog w (K w.params) mg base (L2N.CX l.prog w) 9 fa fd ["script"] (spLaw (K w.params))) :
    PySem.W.WalkO qq loose XP YP l.row.toRowW d [] (fun f vs => PySem.call f vs) :=
  L2.walk_of (n := 63) (k := 9) (x := "script") (CX := fun w => L2N.CX l.prog w) (sp := fun w => spLaw (K w.params)) hn (by decide) hdf ⟨rfl, by decide, by decide⟩ hY F (fun _ _ a ns hl _ hS => ⟨a, ns, rfl, hS, hl, fun _ => rfl⟩) fun w H s e s' h => by
    obtain ⟨_, _, _, _, _, _, _, _, _, _, _, _, z⟩ := h
    exact z
end Z
open PySem PySem.W PyProof.Rows
set_option maxRecDepth 100000 in
set_option maxHeartbeats 0 in
theorem PySem.Challenge.cw_desksagree_k78_shares_that_lose_nothing_holds : PySem.Challenge.rw_desksagree_k78_shares_that_lose_nothing.Holds := by
  w_on; o_law; k_head; (case hw => w_witness2)
  k_fill
  refine Z.walk (l := PySem.Challenge.rw_desksagree_k78_shares_that_lose_nothing) rfl rfl (fun w h Y => PySem.W.kIn_of Y) ?F
  case F =>
    intro w mg fa h KX G hmg
    refine' Z.all_mk KX G hmg Z.law_true ?a_Rates ?a_DeskError ?a_InvalidNumber ?a_InvalidPaper ?z_ValueError ?z_abs ?z_bool ?c_AMOUNT ?c_LETTERS ?c_LONGEST ?c_MOST ?f_Rates__rows ?z_int ?z_isinstance ?l1_Rates ?l2_Rates ?l3_Rates ?l4_Rates ?z_len ?z_list ?z_max ?z_min ?z_range ?z_reversed ?z_sorted ?z_str ?z_sum ?z_tuple ?x1_InvalidNumber ?x2_InvalidNumber ?x3_InvalidNumber ?x4_InvalidNumber ?x1_InvalidPaper ?x2_InvalidPaper ?x3_InvalidPaper ?x4_InvalidPaper ?m1_is_name ?m3_is_name ?m4_is_name ?m5_is_name ?m1_is_number ?m3_is_number ?m4_is_number ?m5_is_number ?m6_is_number ?m1_is_amount ?m3_is_amount ?m4_is_amount ?m5_is_amount ?m1_checked_rate ?m3_checked_rate ?m4_checked_rate ?m5_checked_rate ?m1_changed ?m3_changed ?m4_changed ?m5_changed ?m1_rest_of ?m3_rest_of ?m4_rest_of ?m5_rest_of ?m1_checked_weights ?m3_checked_weights ?m4_checked_weights ?m5_checked_weights ?m1_shared ?m3_shared ?m4_shared ?m5_shared ?m1_judge_shared ?m3_judge_shared ?m4_judge_shared ?m5_judge_shared ?m1_Rates_init ?m2_Rates_init ?m3_Rates_init ?m4_Rates_init ?m5_Rates_init ?m8_Rates_init ?m9_Rates_init ?m1_Rates_tell ?m2_Rates_tell ?m3_Rates_tell ?m4_Rates_tell ?m5_Rates_tell ?m1_Rates_rate ?m2_Rates_rate ?m3_Rates_rate ?m4_Rates_rate ?m5_Rates_rate ?m1_Rates_rows ?m2_Rates_rows ?m3_Rates_rows ?m4_Rates_rows ?m5_Rates_rows ?m1_Rates_copy ?m2_Rates_copy ?m3_Rates_copy ?m4_Rates_copy ?m5_Rates_copy ?m1__law_same ?m3__law_same ?m4__law_same ?m5__law_same ?m1__law_pool ?m3__law_pool ?m4__law_pool ?m5__law_pool ?m1__law_draw ?m3__law_draw ?m4__law_draw ?m5__law_draw ?m1__law_pick ?m3__law_pick ?m4__law_pick ?m5__law_pick ?m1__law_refusal ?m3__law_refusal ?m4__law_refusal ?m5__law_refusal ?m1__law_good ?m3__law_good ?m4__law_good ?m5__law_good ?m1__law_refused ?m3__law_refused ?m4__law_refused ?m5__law_refused ?m1__law_rates_right ?m3__law_rates_right ?m4__law_rates_right ?m5__law_rates_right ?m1_law ?m3_law ?m4_law ?m5_law ?b1 ?b2 ?b3 ?b4_InvalidNumber ?b4_InvalidPaper ?e1_InvalidNumber ?e2_InvalidNumber ?e4_InvalidNumber ?e5_InvalidNumber ?e8_InvalidNumber ?e1_InvalidPaper ?e2_InvalidPaper ?e4_InvalidPaper ?e5_InvalidPaper ?e8_InvalidPaper ?e6 ?e7 ?s_NN ?s_NP ?s_PN ?s_PP ?s_NV ?s_PV
    (case a_Rates => k_is)
    (case a_DeskError => k_is)
    (case a_InvalidNumber => k_is)
    (case a_InvalidPaper => k_is)
    (case z_ValueError => k_is)
    (case z_abs => k_is)
    (case z_bool => k_is)
    (case c_AMOUNT => k_is)
    (case c_LETTERS => k_is)
    (case c_LONGEST => k_is)
    (case c_MOST => k_is)
    (case f_Rates__rows => k_is)
    (case z_int => k_is)
    (case z_isinstance => k_is)
    (case l1_Rates => k_is)
    (case l2_Rates => k_is)
    (case l3_Rates => k_is)
    (case l4_Rates => k_is)
    (case z_len => k_is)
    (case z_list => k_is)
    (case z_max => k_is)
    (case z_min => k_is)
    (case z_range => k_is)
    (case z_reversed => k_is)
    (case z_sorted => k_is)
    (case z_str => k_is)
    (case z_sum => k_is)
    (case z_tuple => k_is)
    (case x1_InvalidNumber => k_exc)
    (case x2_InvalidNumber => k_is)
    (case x3_InvalidNumber => k_is)
    (case x4_InvalidNumber => k_is)
    (case x1_InvalidPaper => k_exc)
    (case x2_InvalidPaper => k_is)
    (case x3_InvalidPaper => k_is)
    (case x4_InvalidPaper => k_is)
    (case m1_is_name => k_is)
    (case m3_is_name => k_is)
    (case m4_is_name => k_is)
    (case m5_is_name => k_is)
    (case m1_is_number => k_is)
    (case m3_is_number => k_is)
    (case m4_is_number => k_is)
    (case m5_is_number => k_is)
    (case m6_is_number => k_is)
    (case m1_is_amount => k_is)
    (case m3_is_amount => k_is)
    (case m4_is_amount => k_is)
    (case m5_is_amount => k_is)
    (case m1_checked_rate => k_is)
    (case m3_checked_rate => k_is)
    (case m4_checked_rate => k_is)
    (case m5_checked_rate => k_is)
    (case m1_changed => k_is)
    (case m3_changed => k_is)
    (case m4_changed => k_is)
    (case m5_changed => k_is)
    (case m1_rest_of => k_is)
    (case m3_rest_of => k_is)
    (case m4_rest_of => k_is)
    (case m5_rest_of => k_is)
    (case m1_checked_weights => k_is)
    (case m3_checked_weights => k_is)
    (case m4_checked_weights => k_is)
    (case m5_checked_weights => k_is)
    (case m1_shared => k_is)
    (case m3_shared => k_is)
    (case m4_shared => k_is)
    (case m5_shared => k_is)
    (case m1_judge_shared => k_is)
    (case m3_judge_shared => k_is)
    (case m4_judge_shared => k_is)
    (case m5_judge_shared => k_is)
    (case m1_Rates_init => k_is)
    (case m2_Rates_init => k_is)
    (case m3_Rates_init => k_is)
    (case m4_Rates_init => k_is)
    (case m5_Rates_init => k_is)
    (case m8_Rates_init => k_is)
    (case m9_Rates_init => k_is)
    (case m1_Rates_tell => k_is)
    (case m2_Rates_tell => k_is)
    (case m3_Rates_tell => k_is)
    (case m4_Rates_tell => k_is)
    (case m5_Rates_tell => k_is)
    (case m1_Rates_rate => k_is)
    (case m2_Rates_rate => k_is)
    (case m3_Rates_rate => k_is)
    (case m4_Rates_rate => k_is)
    (case m5_Rates_rate => k_is)
    (case m1_Rates_rows => k_is)
    (case m2_Rates_rows => k_is)
    (case m3_Rates_rows => k_is)
    (case m4_Rates_rows => k_is)
    (case m5_Rates_rows => k_is)
    (case m1_Rates_copy => k_is)
    (case m2_Rates_copy => k_is)
    (case m3_Rates_copy => k_is)
    (case m4_Rates_copy => k_is)
    (case m5_Rates_copy => k_is)
    (case m1__law_same => k_is)
    (case m3__law_same => k_is)
    (case m4__law_same => k_is)
    (case m5__law_same => k_is)
    (case m1__law_pool => k_is)
    (case m3__law_pool => k_is)
    (case m4__law_pool => k_is)
    (case m5__law_pool => k_is)
    (case m1__law_draw => k_is)
    (case m3__law_draw => k_is)
    (case m4__law_draw => k_is)
    (case m5__law_draw => k_is)
    (case m1__law_pick => k_is)
    (case m3__law_pick => k_is)
    (case m4__law_pick => k_is)
    (case m5__law_pick => k_is)
    (case m1__law_refusal => k_is)
    (case m3__law_refusal => k_is)
    (case m4__law_refusal => k_is)
    (case m5__law_refusal => k_is)
    (case m1__law_good => k_is)
    (case m3__law_good => k_is)
    (case m4__law_good => k_is)
    (case m5__law_good => k_is)
    (case m1__law_refused => k_is)
    (case m3__law_refused => k_is)
    (case m4__law_refused => k_is)
    (case m5__law_refused => k_is)
    (case m1__law_rates_right => k_is)
    (case m3__law_rates_right => k_is)
    (case m4__law_rates_right => k_is)
    (case m5__law_rates_right => k_is)
    (case m1_law => k_is)
    (case m3_law => k_is)
    (case m4_law => k_is)
    (case m5_law => k_is)
    (case b1 => k_is)
    (case b2 => k_is)
    (case b3 => k_is)
    (case b4_InvalidNumber => k_is)
    (case b4_InvalidPaper => k_is)
    (case e1_InvalidNumber => k_is)
    (case e2_InvalidNumber => k_is)
    (case e4_InvalidNumber => k_is)
    (case e5_InvalidNumber => k_is)
    (case e8_InvalidNumber => k_is)
    (case e1_InvalidPaper => k_is)
    (case e2_InvalidPaper => k_is)
    (case e4_InvalidPaper => k_is)
    (case e5_InvalidPaper => k_is)
    (case e8_InvalidPaper => k_is)
    (case e6 => k_is)
    (case e7 => k_is)
    (case s_NN => k_is)
    (case s_NP => k_is)
    (case s_PN => k_is)
    (case s_PP => k_is)
    (case s_NV => k_is)
    (case s_PV => k_is)

