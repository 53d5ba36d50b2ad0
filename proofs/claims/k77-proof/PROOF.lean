import PyProof.Rows.All
import Wide.All
import OpenK.AllK
import Wide.FinOn
import PyProof.EqAt
import PyProof.EqKinds
import PyProof.TupleCall
import HandS.ForMost
import HandS.ForExc
import HandS.CallSlots
import HandS.IsInst
import HandS.HotCalls
import HandS.ExcIs
import HandS.Flow
import KE.SortData
import KE.DataMinMax
import HandS.Style
import HandS.Deep
import HandS.Rev
import KE.SortLaws
import HandS.WordsExc
import HandS.ExcCtx
import HandS.Defaults
import KE.LtData
import HandS.Small
import HandS.More
import HandS.Conv
import HandS.DictComp
import HandS.SetBool
import HandS.SetTxt0
import HandS.Set
import KE.KExcSuper
import HandS.ExcInitHot
import HandS.ExcField
import HandS.Nested
import HandS.SuiteRaise
import KE.KExcIs
import HandS.Replace
import KE.RegKSuper
import PyProof.StrLawsIn
import HandS.Text
import KE.IntTextLaws
import HandS.WrittenGet
import KE.KDictWalk
import HandS.RaiseFrom
import PySem.Challenge.RW_desksagree_k77_ranges_of_accounts
set_option Elab.async false
set_option linter.all false
set_option autoImplicit false
set_option maxRecDepth 100000
set_option maxHeartbeats 4000000
/-! Z: data by values, things that change by numbers; what a reading comes to is a plain function. -/
namespace Z
open PySem PySem.Spec PyProof.Rows L2

/-! ### data -/
mutual
def fits : PyData → Prop
  | .str s => s.length ≤ sizeLine
  | .list xs => xs.length ≤ sizeLine ∧ fitsAll xs
  | .tuple xs => xs.length ≤ sizeLine ∧ fitsAll xs
  | .dict _ => False
  | _ => True
def fitsAll : List PyData → Prop
  | [] => True
  | x :: xs => fits x ∧ fitsAll xs
end
mutual
/-- what stands as data: lists that are tracked, tuples that may be read -/
inductive Dt (K : PySem.W.Frag) (H : Hp) : V → PyData → Prop
  | non : Dt K H .non .none
  | bl (b : Bool) : Dt K H (.bl b) (.bool b)
  | int (i : Int) : Dt K H (.int i) (.int i)
  | str (x : Str) : Dt K H (.str x) (.str x)
  | lst {a : Addr} {xs : List V} {ds : List PyData} : H a = some (.lst xs) → DtAll K H xs ds → Dt K H (.ref a) (.list ds)
  | tup {a : Addr} {xs : List V} {ds : List PyData} : SqT K H a xs → DtAll K H xs ds → Dt K H (.ref a) (.tuple ds)
inductive DtAll (K : PySem.W.Frag) (H : Hp) : List V → List PyData → Prop
  | nil : DtAll K H [] []
  | cons {v : V} {vs : List V} {d : PyData} {ds : List PyData} : Dt K H v d → DtAll K H vs ds → DtAll K H (v :: vs) (d :: ds)
end
theorem same_t {K : PySem.W.Frag} {H H' : Hp} {a : Addr} {xs : List V} (e : Same H H') (h : SqT K H a xs) : SqT K H' a xs := by
  rcases h with (h | ⟨o, h⟩) | h
  · exact .inl (.inl (e _ _ h))
  · exact .inl (.inr ⟨o, e _ _ h⟩)
  · exact .inr h
mutual
theorem Dt.mono {K : PySem.W.Frag} {H H' : Hp} (e : Same H H') : ∀ (d : PyData) (v : V), Dt K H v d → Dt K H' v d
  | .none, _, h => by cases h; exact .non
  | .bool b, _, h => by cases h; exact .bl b
  | .int i, _, h => by cases h; exact .int i
  | .str x, _, h => by cases h; exact .str x
  | .list ds, _, h => by
    cases h with
    | lst hs ha => exact .lst (e _ _ hs) (DtAll.mono e ds _ ha)
  | .tuple ds, _, h => by
    cases h with
    | tup hs ha => exact .tup (same_t e hs) (DtAll.mono e ds _ ha)
  | .dict _, _, h => by cases h
theorem DtAll.mono {K : PySem.W.Frag} {H H' : Hp} (e : Same H H') : ∀ (ds : List PyData) (vs : List V), DtAll K H vs ds → DtAll K H' vs ds
  | [], _, h => by cases h; exact .nil
  | d :: ds, _, h => by
    cases h with
    | cons h1 h2 => exact .cons (Dt.mono e d _ h1) (DtAll.mono e ds _ h2)
end
mutual
theorem Dt.dp {K : PySem.W.Frag} {H : Hp} : ∀ (d : PyData) (v : V), Dt K H v d → Dp K H v d
  | .none, _, h => by cases h; exact .non
  | .bool b, _, h => by cases h; exact .bl b
  | .int i, _, h => by cases h; exact .int i
  | .str x, _, h => by cases h; exact .str x
  | .list ds, _, h => by
    cases h with
    | lst hs ha => exact .lst (SqL.of hs) (DtAll.dp ds _ ha)
  | .tuple ds, _, h => by
    cases h with
    | tup hs ha => exact .tup hs (DtAll.dp ds _ ha)
  | .dict _, _, h => by cases h
theorem DtAll.dp {K : PySem.W.Frag} {H : Hp} : ∀ (ds : List PyData) (vs : List V), DtAll K H vs ds → DpAll K H vs ds
  | [], _, h => by cases h; exact .nil
  | d :: ds, _, h => by
    cases h with
    | cons h1 h2 => exact .cons (Dt.dp d _ h1) (DtAll.dp ds _ h2)
end
/-- data of a size that a line of the model bears -/
def Dz (K : PySem.W.Frag) (H : Hp) (v : V) (d : PyData) : Prop := Dt K H v d ∧ fits d
theorem Dz.mono {K : PySem.W.Frag} {H H' : Hp} {v : V} {d : PyData} (e : Same H H') (h : Dz K H v d) : Dz K H' v d := ⟨Dt.mono e d v h.1, h.2⟩
abbrev DzAll (K : PySem.W.Frag) (H : Hp) : List V → List PyData → Prop := Paired (Dz K H)
theorem dzAll_of {K : PySem.W.Frag} {H : Hp} : ∀ {ds : List PyData} {vs : List V}, DtAll K H vs ds → fitsAll ds → DzAll K H vs ds
  | [], _, h, _ => by cases h; exact .nil
  | d :: ds, _, h, f => by
    cases h with
    | cons h1 h2 => exact .cons ⟨h1, f.1⟩ (dzAll_of h2 f.2)
theorem of_dzAll {K : PySem.W.Frag} {H : Hp} : ∀ {ds : List PyData} {vs : List V}, DzAll K H vs ds → DtAll K H vs ds ∧ fitsAll ds
  | _, _, .nil => ⟨.nil, trivial⟩
  | _, _, .cons h t => ⟨.cons h.1 (of_dzAll t).1, h.2, (of_dzAll t).2⟩
theorem Paired.len {α β : Type} {F : α → β → Prop} : ∀ {l : List α} {m : List β}, Paired F l m → l.length = m.length
  | _, _, .nil => rfl
  | _, _, .cons _ t => congrArg (· + 1) (Paired.len t)
theorem Paired.imp {α β : Type} {F G : α → β → Prop} (f : ∀ a b, F a b → G a b) : ∀ {l : List α} {m : List β}, Paired F l m → Paired G l m
  | _, _, .nil => .nil
  | _, _, .cons h t => .cons (f _ _ h) (Paired.imp f t)
theorem Paired.app {α β : Type} {F : α → β → Prop} : ∀ {l l' : List α} {m m' : List β}, Paired F l m → Paired F l' m' → Paired F (l ++ l') (m ++ m')
  | _, _, _, _, .nil, h => h
  | _, _, _, _, .cons h t, h' => .cons h (Paired.app t h')
theorem Paired.at {α β : Type} {F : α → β → Prop} : ∀ {l : List α} {m : List β} {i : Nat} {b : β}, Paired F l m → m[i]? = some b → ∃ a, l[i]? = some a ∧ F a b
  | _, _, _, _, .nil, h => by simp at h
  | _, _, 0, _, .cons h t, e => by simp at e; subst e; exact ⟨_, rfl, h⟩
  | _, _, i + 1, _, .cons h t, e => by simpa using Paired.at (i := i) t (by simpa using e)
theorem Paired.put {α β : Type} {F : α → β → Prop} {a : α} {b : β} (h : F a b) : ∀ {l : List α} {m : List β} (i : Nat), Paired F l m → Paired F (l.set i a) (m.set i b)
  | _, _, _, .nil => .nil
  | _, _, 0, .cons _ t => .cons h t
  | _, _, i + 1, .cons g t => .cons g (Paired.put h i t)
theorem Paired.tk {α β : Type} {F : α → β → Prop} : ∀ {l : List α} {m : List β} (n : Nat), Paired F l m → Paired F (l.take n) (m.take n)
  | _, _, 0, _ => .nil
  | _, _, _ + 1, .nil => .nil
  | _, _, n + 1, .cons h t => .cons h (Paired.tk n t)
theorem Paired.dr {α β : Type} {F : α → β → Prop} : ∀ {l : List α} {m : List β} (n : Nat), Paired F l m → Paired F (l.drop n) (m.drop n)
  | _, _, 0, t => t
  | _, _, _ + 1, .nil => .nil
  | _, _, n + 1, .cons _ t => Paired.dr n t

/-! ### what a name holds, what changes -/
/-- data; the thing of a number; a plain value (a class, an error) -/
inductive W where
  | d (x : PyData) | r (i : Nat) | k (v : V)
/-- what changes: a list, an instance, a dict; or nothing more is known of it -/
inductive MO where
  | lst (xs : List W) | ins (C : Addr) (fs : List (Str × W)) | dic (t : Bool) (kvs : List (PyData × W)) | dlk (t : Bool) (kvs : List (PyData × W)) | gone
/-- it is known, and may change -/
def MO.live : MO → Bool
  | .gone => false | .dlk _ _ => false | _ => true
/-- a key as data -/
def keyD : Key → PyData
  | .inl i => .int i
  | .inr s => .str s
abbrev Ms := List MO
abbrev Sl := List (Option W)
def WR (K : PySem.W.Frag) (as : List Addr) (Hb : Hp) (v : V) : W → Prop
  | .d x => Dz K Hb v x
  | .r i => ∃ a, as[i]? = some a ∧ v = .ref a
  | .k u => v = u
/-- a dict's keys and values (t: its keys are tuples) -/
def DicR (K : PySem.W.Frag) (as : List Addr) (Hb : Hp) (t : Bool) (u : HO) (kvs : List (PyData × W)) : Prop := match t with
  | false => ∃ kv, u = .dK kv ∧ Paired (fun (p : Key × V) (q : PyData × W) => q.1 = keyD p.1 ∧ fits q.1 ∧ WR K as Hb p.2 q.2) kv kvs
  | true => ∃ kv, u = .dT kv ∧ Paired (fun (p : List Key × V) (q : PyData × W) => q.1 = .tuple (p.1.map keyD) ∧ fits q.1 ∧ WR K as Hb p.2 q.2) kv kvs
def MOk (K : PySem.W.Frag) (as : List Addr) (Hb H : Hp) (a : Addr) : MO → Prop
  | .lst xs => xs.length ≤ sizeLine ∧ ∃ vs, H a = some (.lst vs) ∧ Paired (WR K as Hb) vs xs
  | .ins C fs => ∃ dx fv, H a = some (.ins C dx fv) ∧ Paired (fun (p : Str × V) (q : Str × W) => p.1 = q.1 ∧ WR K as Hb p.2 q.2) fv fs
  | .dic t kvs => kvs.length ≤ sizeLine ∧ ∃ u, H a = some u ∧ DicR K as Hb t u kvs
  | .dlk t kvs => kvs.length ≤ sizeLine ∧ ∃ od u, Hb a = some (.frz od u) ∧ H a = some (.frz od u) ∧ DicR K as Hb t u kvs
  | .gone => True
/-- the state: H0 stands, Hb is the data (begun with Hb0), the i-th thing is at the i-th address -/
structure Rel (K : PySem.W.Frag) (H0 Hb0 : Hp) (as : List Addr) (Hb H : Hp) (M : Ms) : Prop where
  sub : Same Hb H
  top : Same H0 H
  len : as.length = M.length
  nd : as.Nodup
  al : ∀ a ∈ as, H a ≠ none
  off : ∀ (i : Nat) (a : Addr) (o : MO), as[i]? = some a → M[i]? = some o → o.live = true → Hb a = none
  off0 : ∀ a ∈ as, H0 a = none
  b0 : Same Hb0 Hb
  at' : ∀ (i : Nat) (a : Addr) (o : MO), as[i]? = some a → M[i]? = some o → MOk K as Hb H a o
  hb0 : ∀ a, Hb a ≠ none → Hb0 a = none → H0 a = none
structure Fut (as : List Addr) (Hb : Hp) (as' : List Addr) (Hb' : Hp) : Prop where
  ex : Same Hb Hb'
  pre : ∃ l, as' = as ++ l
theorem Fut.refl {as : List Addr} {Hb : Hp} : Fut as Hb as Hb := ⟨Same.refl _, [], by simp⟩
theorem Fut.trans {as as' as'' : List Addr} {Hb Hb' Hb'' : Hp} (a : Fut as Hb as' Hb') (b : Fut as' Hb' as'' Hb'') : Fut as Hb as'' Hb'' := by
  obtain ⟨e1, l1, h1⟩ := a
  obtain ⟨e2, l2, h2⟩ := b
  exact ⟨e1.trans e2, l1 ++ l2, by rw [h2, h1, List.append_assoc]⟩
theorem Fut.idx {as as' : List Addr} {Hb Hb' : Hp} (f : Fut as Hb as' Hb') {i : Nat} {a : Addr} (h : as[i]? = some a) : as'[i]? = some a := by
  obtain ⟨_, l, rfl⟩ := f
  have hl := (List.getElem?_eq_some_iff.mp h).1
  rw [List.getElem?_append_left hl]
  exact h
theorem WR.mono {K : PySem.W.Frag} {as as' : List Addr} {Hb Hb' : Hp} {v : V} {w : W} (f : Fut as Hb as' Hb') (h : WR K as Hb v w) : WR K as' Hb' v w := by
  cases w with
  | d x => exact Dz.mono f.ex h
  | r i => obtain ⟨a, h1, h2⟩ := h; exact ⟨a, f.idx h1, h2⟩
  | k u => exact h
abbrev WRs (K : PySem.W.Frag) (as : List Addr) (Hb : Hp) : List V → List W → Prop := Paired (WR K as Hb)
theorem WRs.mono {K : PySem.W.Frag} {as as' : List Addr} {Hb Hb' : Hp} {vs : List V} {ws : List W} (f : Fut as Hb as' Hb') (h : WRs K as Hb vs ws) : WRs K as' Hb' vs ws := Paired.imp (fun _ _ z => z.mono f) h
theorem DicR.mono {K : PySem.W.Frag} {as as' : List Addr} {Hb Hb' : Hp} {t : Bool} {u : HO} {kvs : List (PyData × W)} (f : Fut as Hb as' Hb') (h : DicR K as Hb t u kvs) : DicR K as' Hb' t u kvs := by
  cases t with
  | false => obtain ⟨kv, e, p⟩ := h; exact ⟨kv, e, Paired.imp (fun _ _ z => ⟨z.1, z.2.1, z.2.2.mono f⟩) p⟩
  | true => obtain ⟨kv, e, p⟩ := h; exact ⟨kv, e, Paired.imp (fun _ _ z => ⟨z.1, z.2.1, z.2.2.mono f⟩) p⟩
theorem MOk.fut {K : PySem.W.Frag} {as as' : List Addr} {Hb Hb' H H' : Hp} {a : Addr} {o : MO} (f : Fut as Hb as' Hb') (hH : H' a = H a) (h : MOk K as Hb H a o) : MOk K as' Hb' H' a o := by
  cases o with
  | lst xs => obtain ⟨z, vs, h1, h2⟩ := h; exact ⟨z, vs, hH.trans h1, WRs.mono f h2⟩
  | ins C fs => obtain ⟨dx, fv, h1, h2⟩ := h; exact ⟨dx, fv, hH.trans h1, Paired.imp (fun _ _ z => ⟨z.1, z.2.mono f⟩) h2⟩
  | dic t kvs => obtain ⟨z, u, h1, h2⟩ := h; exact ⟨z, u, hH.trans h1, h2.mono f⟩
  | dlk t kvs => obtain ⟨z, od, u, h0, h1, h2⟩ := h; exact ⟨z, od, u, f.ex _ _ h0, hH.trans h1, h2.mono f⟩
  | gone => trivial
theorem MOk.there {K : PySem.W.Frag} {as : List Addr} {Hb H : Hp} {a : Addr} {o : MO} (h : MOk K as Hb H a o) (ne : o ≠ .gone) : ∃ u, H a = some u := by
  cases o with
  | lst xs => obtain ⟨z, vs, h1, h2⟩ := h; exact ⟨_, h1⟩
  | ins C fs => obtain ⟨dx, fv, h1, h2⟩ := h; exact ⟨_, h1⟩
  | dic t kvs => obtain ⟨z, u, h1, h2⟩ := h; exact ⟨_, h1⟩
  | dlk t kvs => obtain ⟨z, od, u, h0, h1, h2⟩ := h; exact ⟨_, h1⟩
  | gone => exact absurd rfl ne
section
variable {K : PySem.W.Frag} {H0 Hb0 Hb H : Hp} {as : List Addr} {M : Ms}
theorem Rel.idx (r : Rel K H0 Hb0 as Hb H M) {i : Nat} {o : MO} (h : M[i]? = some o) : ∃ a, as[i]? = some a := by
  have hl := (List.getElem?_eq_some_iff.mp h).1
  exact ⟨as[i]'(by rw [r.len]; exact hl), List.getElem?_eq_getElem _⟩
theorem Rel.ne (r : Rel K H0 Hb0 as Hb H M) {p : Addr} (hp : H p = none) {i : Nat} {a : Addr} (h : as[i]? = some a) : a ≠ p := fun e => by
  subst e
  exact r.al a (List.mem_of_getElem? h) hp
theorem Rel.hbn (r : Rel K H0 Hb0 as Hb H M) {p : Addr} (hp : H p = none) : Hb p = none := r.sub.free hp
theorem Rel.h0n (r : Rel K H0 Hb0 as Hb H M) {p : Addr} (hp : H p = none) : H0 p = none := r.top.free hp
theorem same_new {H : Hp} {p : Addr} {o : HO} (hp : H p = none) : Same H (upd H p o) := fun b u e => by
  rw [upd_ne (ne_of_none e hp)]
  exact e
theorem fut_new {p : Addr} {o : HO} (hp : Hb p = none) : Fut as Hb as (upd Hb p o) := ⟨same_new hp, [], by simp⟩
/-- a new object that is data from now on -/
theorem Rel.newData (r : Rel K H0 Hb0 as Hb H M) {p : Addr} {o : HO} (hp : H p = none) : Rel K H0 Hb0 as (upd Hb p o) (upd H p o) M where
  sub := fun b u e => by
    by_cases h : b = p
    · subst h; rw [upd_same] at e ⊢; exact e
    · rw [upd_ne h] at e ⊢; exact r.sub b u e
  top := r.top.trans (same_new hp)
  len := r.len
  nd := r.nd
  al := fun a ha => by
    by_cases h : a = p
    · subst h; rw [upd_same]; simp
    · rw [upd_ne h]; exact r.al a ha
  off := fun i a u h1 h2 h3 => by
    have ne := r.ne hp h1
    rw [upd_ne ne]
    exact r.off i a u h1 h2 h3
  off0 := r.off0
  b0 := r.b0.trans (same_new (r.hbn hp))
  at' := fun i a u h1 h2 => (r.at' i a u h1 h2).fut (fut_new (r.hbn hp)) (upd_ne (r.ne hp h1))
  hb0 := fun a h1 h2 => by
    by_cases h : a = p
    · subst h; exact r.h0n hp
    · rw [upd_ne h] at h1; exact r.hb0 a h1 h2
/-- a new object of which nothing is known -/
theorem Rel.newAny (r : Rel K H0 Hb0 as Hb H M) {p : Addr} {o : HO} (hp : H p = none) : Rel K H0 Hb0 as Hb (upd H p o) M where
  sub := r.sub.trans (same_new hp)
  top := r.top.trans (same_new hp)
  len := r.len
  nd := r.nd
  al := fun a ha => by
    by_cases h : a = p
    · subst h; rw [upd_same]; simp
    · rw [upd_ne h]; exact r.al a ha
  off := r.off
  off0 := r.off0
  b0 := r.b0
  at' := fun i a u h1 h2 => (r.at' i a u h1 h2).fut Fut.refl (upd_ne (r.ne hp h1))
  hb0 := r.hb0
/-- a new thing -/
theorem Rel.newMut (r : Rel K H0 Hb0 as Hb H M) {p : Addr} {m : MO} (hH : H p ≠ none) (hbn : Hb p = none) (h0n : H0 p = none) (hp : p ∉ as) (h : MOk K (as ++ [p]) Hb H p m) : Rel K H0 Hb0 (as ++ [p]) Hb H (M ++ [m]) where
  sub := r.sub
  top := r.top
  len := by simp [r.len]
  nd := by
    refine List.nodup_append.mpr ⟨r.nd, by simp, fun a ha b hb => ?_⟩
    have e : b = p := by simpa using hb
    subst e
    exact fun z => hp (z ▸ ha)
  al := fun a ha => by
    rcases List.mem_append.mp ha with h | h
    · exact r.al a h
    · have e : a = p := by simpa using h
      subst e; exact hH
  off := fun i a u h1 h2 h3 => by
    by_cases hi : i < as.length
    · rw [List.getElem?_append_left hi] at h1
      rw [List.getElem?_append_left (by rw [← r.len]; exact hi)] at h2
      exact r.off i a u h1 h2 h3
    · have hi' : as.length ≤ i := Nat.le_of_not_lt hi
      rw [List.getElem?_append_right hi'] at h1
      cases hj : i - as.length with
      | zero => rw [hj] at h1; simp at h1; subst h1; exact hbn
      | succ j => rw [hj] at h1; simp at h1
  off0 := fun a ha => by
    rcases List.mem_append.mp ha with h | h
    · exact r.off0 a h
    · have e : a = p := by simpa using h
      subst e; exact h0n
  b0 := r.b0
  at' := fun i a u h1 h2 => by
    by_cases hi : i < as.length
    · rw [List.getElem?_append_left hi] at h1
      rw [List.getElem?_append_left (by rw [← r.len]; exact hi)] at h2
      exact (r.at' i a u h1 h2).fut ⟨Same.refl _, [p], rfl⟩ rfl
    · have hi' : as.length ≤ i := Nat.le_of_not_lt hi
      rw [List.getElem?_append_right hi'] at h1
      rw [List.getElem?_append_right (by rw [← r.len]; exact hi')] at h2
      cases hj : i - as.length with
      | zero =>
        rw [hj] at h1; simp at h1; subst h1
        rw [← r.len, hj] at h2; simp at h2; subst h2
        exact h
      | succ j => rw [hj] at h1; simp at h1
  hb0 := r.hb0
theorem nodup_idx {α : Type} {l : List α} (hN : l.Nodup) {i j : Nat} {x : α} (a : l[i]? = some x) (b : l[j]? = some x) : i = j := by
  obtain ⟨h1, e1⟩ := List.getElem?_eq_some_iff.mp a
  obtain ⟨h2, e2⟩ := List.getElem?_eq_some_iff.mp b
  exact (List.getElem_inj hN).mp (e1.trans e2.symm)
/-- a thing changes -/
theorem Rel.setMut (r : Rel K H0 Hb0 as Hb H M) {i : Nat} {a : Addr} {o o' : MO} {u : HO} (hi : as[i]? = some a) (ho : M[i]? = some o) (hne : o.live = true) (h : MOk K as Hb (upd H a u) a o') : Rel K H0 Hb0 as Hb (upd H a u) (M.set i o') := by
  have hb := r.off i a o hi ho hne
  have h0 := r.off0 a (List.mem_of_getElem? hi)
  have nb : ∀ b v, Hb b = some v → b ≠ a := fun b v e z => by rw [z, hb] at e; cases e
  have n0 : ∀ b v, H0 b = some v → b ≠ a := fun b v e z => by rw [z, h0] at e; cases e
  have hil : i < M.length := (List.getElem?_eq_some_iff.mp ho).1
  refine ⟨fun b v e => ?_, fun b v e => ?_, by simp [r.len], r.nd, fun b hb' => ?_, fun j b v h1 h2 h3 => ?_, r.off0, r.b0, fun j b v h1 h2 => ?_, r.hb0⟩
  · rw [upd_ne (nb b v e)]; exact r.sub b v e
  · rw [upd_ne (n0 b v e)]; exact r.top b v e
  · by_cases z : b = a
    · subst z; rw [upd_same]; simp
    · rw [upd_ne z]; exact r.al b hb'
  · by_cases z : j = i
    · subst z
      rw [hi] at h1; cases h1
      exact hb
    · rw [List.getElem?_set_ne (Ne.symm z)] at h2
      exact r.off j b v h1 h2 h3
  · by_cases z : j = i
    · subst z
      rw [hi] at h1; cases h1
      rw [List.getElem?_set_self hil] at h2
      cases h2
      exact h
    · rw [List.getElem?_set_ne (Ne.symm z)] at h2
      have zb : b ≠ a := fun e => z (nodup_idx r.nd (e ▸ h1) hi)
      exact (r.at' j b v h1 h2).fut Fut.refl (upd_ne zb)
/-- more stands, nothing changed; some of it is data -/
theorem Rel.grow (r : Rel K H0 Hb0 as Hb H M) {H' Hb' : Hp} (e : Same H H') (eb : Same Hb Hb') (sb : Same Hb' H') (fr : ∀ a, Hb' a ≠ none → Hb a = none → H a = none) : Rel K H0 Hb0 as Hb' H' M where
  sub := sb
  top := r.top.trans e
  len := r.len
  nd := r.nd
  al := fun a ha z => r.al a ha (e.free z)
  off0 := r.off0
  b0 := r.b0.trans eb
  off := fun i a o h1 h2 h3 => by
    have hb := r.off i a o h1 h2 h3
    cases q : Hb' a with
    | none => rfl
    | some u => exact absurd (fr a (by rw [q]; simp) hb) (r.al a (List.mem_of_getElem? h1))
  at' := fun i a o h1 h2 => by
    by_cases hg : o = .gone
    · subst hg; trivial
    · obtain ⟨u, hu⟩ := (r.at' i a o h1 h2).there hg
      exact (r.at' i a o h1 h2).fut ⟨eb, [], by simp⟩ ((e a u hu).trans hu.symm)
  hb0 := fun a h1 h2 => by
    by_cases q : Hb a = none
    · exact r.top.free (fr a h1 q)
    · exact r.hb0 a q h2
/-- a thing of which nothing is known stands apart, and may be kept by what stands -/
theorem Rel.guard (r : Rel K H0 Hb0 as Hb H M) {p : Addr} {o : HO} (hH : H p = some o) (hbn : Hb p = none) (hp : p ∉ as) : Rel K (upd H0 p o) Hb0 as Hb H M where
  sub := r.sub
  top := fun b u e => by
    by_cases h : b = p
    · subst h; rw [upd_same] at e; cases e; exact hH
    · rw [upd_ne h] at e; exact r.top b u e
  len := r.len
  nd := r.nd
  al := r.al
  off := r.off
  off0 := fun a ha => by
    rw [upd_ne (fun (z : a = p) => hp (z ▸ ha))]
    exact r.off0 a ha
  b0 := r.b0
  at' := r.at'
  hb0 := fun a h1 h2 => by
    rw [upd_ne (fun (z : a = p) => h1 (z ▸ hbn))]
    exact r.hb0 a h1 h2
theorem Rel.unguard {p : Addr} {o : HO} (r : Rel K (upd H0 p o) Hb0 as Hb H M) (h0n : H0 p = none) (hb0n : Hb0 p = none) : Rel K H0 Hb0 as Hb H M ∧ H p = some o ∧ Hb p = none ∧ p ∉ as := by
  have hbn : Hb p = none := by
    cases q : Hb p with
    | none => rfl
    | some u =>
      have z := r.hb0 p (by rw [q]; simp) hb0n
      rw [upd_same] at z; cases z
  have hp : p ∉ as := fun hm => by
    have z := r.off0 p hm
    rw [upd_same] at z; cases z
  refine ⟨⟨r.sub, fun b u e => r.top b u ?_, r.len, r.nd, r.al, r.off, fun a ha => ?_, r.b0, r.at', fun a h1 h2 => ?_⟩, r.top p o upd_same, hbn, hp⟩
  · rw [upd_ne (ne_of_none e h0n)]; exact e
  · have z := r.off0 a ha
    rw [upd_ne (fun (z : a = p) => hp (z ▸ ha))] at z
    exact z
  · have z := r.hb0 a h1 h2
    rw [upd_ne (fun (z : a = p) => h1 (z ▸ hbn))] at z
    exact z
/-- a change where nothing is known -/
theorem Rel.other (r : Rel K H0 Hb0 as Hb H M) {p : Addr} {o : HO} (hbn : Hb p = none) (h0n : H0 p = none) (hp : p ∉ as) : Rel K H0 Hb0 as Hb (upd H p o) M where
  sub := fun b u e => by rw [upd_ne (ne_of_none e hbn)]; exact r.sub b u e
  top := fun b u e => by rw [upd_ne (ne_of_none e h0n)]; exact r.top b u e
  len := r.len
  nd := r.nd
  al := fun a ha => by rw [upd_ne (fun (z : a = p) => hp (z ▸ ha))]; exact r.al a ha
  off := r.off
  off0 := r.off0
  b0 := r.b0
  at' := fun i a u h1 h2 => (r.at' i a u h1 h2).fut Fut.refl (upd_ne (fun (z : a = p) => hp (z ▸ List.mem_of_getElem? h1)))
  hb0 := r.hb0
theorem set_same {α : Type} : ∀ {l : List α} {i : Nat} {a : α}, l[i]? = some a → l.set i a = l
  | [], _, _, h => by simp at h
  | _ :: _, 0, _, h => by simp at h; subst h; rfl
  | _ :: l, i + 1, _, h => by simp at h; simp [set_same (l := l) h]
end
end Z

set_option linter.all false
set_option autoImplicit false
set_option maxRecDepth 100000
set_option maxHeartbeats 4000000
namespace Z
open PySem PySem.Spec PyProof.Rows L2

/-! ### results, errors -/
structure Exn where
  c : Str
  arg : Option (Str × PyData) := none
inductive R (α : Type) where
  | ok (a : α) (m : Ms) | exc (e : Exn) (m : Ms) | stuck
def R.bind {α β : Type} (r : R α) (f : α → Ms → R β) : R β := match r with
  | .ok a m => f a m
  | .exc e m => .exc e m
  | .stuck => .stuck
theorem R.bind_ok {α β : Type} (a : α) (m : Ms) (f : α → Ms → R β) : (R.ok a m).bind f = f a m := rfl
theorem R.bind_exc {α β : Type} (e : Exn) (m : Ms) (f : α → Ms → R β) : (R.exc e m : R α).bind f = .exc e m := rfl
theorem R.bind_stuck {α β : Type} (f : α → Ms → R β) : (R.stuck : R α).bind f = .stuck := rfl
/-- an error as it lies -/
def ExnR (K : PySem.W.Frag) (mg : Str → Option Value) (e : Exn) (cls : Value) (d : Option Addr) (H : Hp) : Prop :=
  mg e.c = some cls ∧ match e.arg with
    | none => d = none
    | some (f, x) => ∃ a v, d = some a ∧ H a = some (.xd [(f, v)]) ∧ Dt K (fun _ => none) v x
def Slots (K : PySem.W.Frag) (as : List Addr) (Hb : Hp) : L2.St → Sl → Prop := Paired fun (o : Option V) (q : Option W) => ∀ w, q = some w → ∃ v, o = some v ∧ WR K as Hb v w
theorem Slots.mono {K : PySem.W.Frag} {as as' : List Addr} {Hb Hb' : Hp} {σ : L2.St} {s : Sl} (f : Fut as Hb as' Hb') (h : Slots K as Hb σ s) : Slots K as' Hb' σ s := Paired.imp (fun _ _ z w e => let ⟨v, h1, h2⟩ := z w e; ⟨v, h1, h2.mono f⟩) h
theorem Slots.get {K : PySem.W.Frag} {as : List Addr} {Hb : Hp} {σ : L2.St} {s : Sl} {i : Nat} {w : W} (h : Slots K as Hb σ s) (e : s[i]? = some (some w)) : ∃ v, σ[i]? = some (some v) ∧ WR K as Hb v w := by
  obtain ⟨o, h1, h2⟩ := Paired.at h e
  obtain ⟨v, rfl, h3⟩ := h2 w rfl
  exact ⟨v, h1, h3⟩
theorem Slots.set {K : PySem.W.Frag} {as : List Addr} {Hb : Hp} {σ : L2.St} {s : Sl} {v : V} {w : W} (h : Slots K as Hb σ s) (r : WR K as Hb v w) (i : Nat) : Slots K as Hb (σ.set i (some v)) (s.set i (some w)) := Paired.put (fun u e => ⟨v, rfl, by cases e; exact r⟩) i h
theorem Slots.unset {K : PySem.W.Frag} {as : List Addr} {Hb : Hp} {σ : L2.St} {s : Sl} (h : Slots K as Hb σ s) (o : Option V) (i : Nat) : Slots K as Hb (σ.set i o) (s.set i none) := Paired.put (fun u e => by cases e) i h

abbrev Rep (β α : Type) := Hp → List Addr → Hp → Hp → β → α → Prop
section
variable {β α β' α' : Type} (rep : Rep β α) (K : PySem.W.Frag) (mg : Str → Option Value) (w : WX) (H0 Hb0 : Hp) (as : List Addr) (Hb : Hp) (σ : L2.St) (Q : β → Hp → Prop)
def Good : R α → Prop
  | .ok a M' => ∀ b as' Hb' H', Rel K H0 Hb0 as' Hb' H' M' → Fut as Hb as' Hb' → rep H0 as' Hb' H' b a → Q b H'
  | .exc e M' => ∀ as' Hb' H' cls d, Rel K H0 Hb0 as' Hb' H' M' → Fut as Hb as' Hb' → ExnR K mg e cls d H' → w cls d σ H'
  | .stuck => False
end
section
variable {β α β' α' : Type} {rep : Rep β α} {rep' : Rep β' α'} {K : PySem.W.Frag} {mg : Str → Option Value} {w : WX} {H0 Hb0 : Hp} {as : List Addr} {Hb H : Hp} {M : Ms} {σ : L2.St} {s : Sl} {Q : β → Hp → Prop}
theorem Good.mono {as' : List Addr} {Hb' : Hp} (f : Fut as Hb as' Hb') {r : R α} (g : Good rep K mg w H0 Hb0 as Hb σ Q r) : Good rep K mg w H0 Hb0 as' Hb' σ Q r := by
  cases r with
  | ok a M' => exact fun b as2 Hb2 H2 r2 f2 rp => g b as2 Hb2 H2 r2 (f.trans f2) rp
  | exc e M' => exact fun as2 Hb2 H2 cls d r2 f2 er => g as2 Hb2 H2 cls d r2 (f.trans f2) er
  | stuck => exact g
theorem Good.ok {a : α} {b : β} (g : Good rep K mg w H0 Hb0 as Hb σ Q (.ok a M)) (r : Rel K H0 Hb0 as Hb H M) (rp : rep H0 as Hb H b a) : Q b H := g b as Hb H r Fut.refl rp
def Sim (rep : Rep β α) (K : PySem.W.Frag) (mg : Str → Option Value) (w : WX) (t : L2.St → Hp → (β → Hp → Prop) → Prop) (p : Sl → Ms → R α) : Prop :=
  ∀ (H0 Hb0 : Hp) (as : List Addr) (Hb H : Hp) (M : Ms) (σ : L2.St) (s : Sl), Rel K H0 Hb0 as Hb H M → Slots K as Hb σ s → ∀ Q : β → Hp → Prop, Good rep K mg w H0 Hb0 as Hb σ Q (p s M) → t σ H Q
theorem Good.bind {t1 : L2.St → Hp → (β → Hp → Prop) → Prop} {p1 : Sl → Ms → R α} (h1 : Sim rep K mg w t1 p1) (r : Rel K H0 Hb0 as Hb H M) (S : Slots K as Hb σ s) {f : α → Ms → R α'} {Q' : β' → Hp → Prop} {Q1 : β → Hp → Prop}
    (g : Good rep' K mg w H0 Hb0 as Hb σ Q' ((p1 s M).bind f))
    (k : ∀ b a as' Hb' H' M', Rel K H0 Hb0 as' Hb' H' M' → Fut as Hb as' Hb' → Slots K as' Hb' σ s → rep H0 as' Hb' H' b a → Good rep' K mg w H0 Hb0 as' Hb' σ Q' (f a M') → Q1 b H') : t1 σ H Q1 := by
  refine h1 H0 Hb0 as Hb H M σ s r S Q1 ?_
  cases hp : p1 s M with
  | ok a M' =>
    rw [hp] at g
    exact fun b as' Hb' H' r' f' rp => k b a as' Hb' H' M' r' f' (S.mono f') rp (Good.mono f' g)
  | exc e M' => rw [hp] at g; exact g
  | stuck => rw [hp] at g; exact g.elim
end
def repW (K : PySem.W.Frag) : Rep V W := fun _ as Hb _ v x => WR K as Hb v x
def repB : Rep Bool Bool := fun _ _ _ _ b a => b = a
def repA (K : PySem.W.Frag) : Rep (List V) (List W) := fun _ as Hb _ vs ws => WRs K as Hb vs ws
def repO : Rep (Option Int) (Option Int) := fun _ _ _ _ b a => b = a
/-- a list that was made just now -/
def repL (K : PySem.W.Frag) : Rep V (List W) := fun H0 as Hb H v ws => ∃ p vs, v = .ref p ∧ H p = some (.lst vs) ∧ ws.length ≤ sizeLine ∧ WRs K as Hb vs ws ∧ p ∉ as ∧ Hb p = none ∧ H0 p = none
abbrev PEx := Sl → Ms → R W
abbrev PTx := Sl → Ms → R Bool
abbrev PAx := Sl → Ms → R (List W)

/-! ### statements -/
inductive O where
  | nx (s : Sl) (m : Ms) | rt (w : W) (m : Ms) | bk (s : Sl) (m : Ms) | ct (s : Sl) (m : Ms) | exc (e : Exn) (s : Sl) (m : Ms) | stuck
abbrev PSx := Sl → Ms → O
def R.to {α : Type} (r : R α) (s : Sl) (f : α → Ms → O) : O := match r with
  | .ok a m => f a m
  | .exc e m => .exc e s m
  | .stuck => .stuck
section
variable (K : PySem.W.Frag) (mg : Str → Option Value) (w : WX) (H0 Hb0 : Hp) (as : List Addr) (Hb : Hp) (D : Ends)
def GoodS : O → Prop
  | .nx s' M' => ∀ σ' as' Hb' H', Rel K H0 Hb0 as' Hb' H' M' → Fut as Hb as' Hb' → Slots K as' Hb' σ' s' → D.nx σ' H'
  | .rt x M' => ∀ v as' Hb' H', Rel K H0 Hb0 as' Hb' H' M' → Fut as Hb as' Hb' → WR K as' Hb' v x → D.rt v H'
  | .bk s' M' => ∀ σ' as' Hb' H', Rel K H0 Hb0 as' Hb' H' M' → Fut as Hb as' Hb' → Slots K as' Hb' σ' s' → D.bk σ' H'
  | .ct s' M' => ∀ σ' as' Hb' H', Rel K H0 Hb0 as' Hb' H' M' → Fut as Hb as' Hb' → Slots K as' Hb' σ' s' → D.ct σ' H'
  | .exc e s' M' => ∀ σ' as' Hb' H' cls d, Rel K H0 Hb0 as' Hb' H' M' → Fut as Hb as' Hb' → Slots K as' Hb' σ' s' → ExnR K mg e cls d H' → w cls d σ' H'
  | .stuck => False
end
section
variable {K : PySem.W.Frag} {mg : Str → Option Value} {w : WX} {H0 Hb0 : Hp} {as : List Addr} {Hb H : Hp} {M : Ms} {σ : L2.St} {s : Sl} {D D' : Ends}
theorem GoodS.mono {as' : List Addr} {Hb' : Hp} (f : Fut as Hb as' Hb') {o : O} (g : GoodS K mg w H0 Hb0 as Hb D o) : GoodS K mg w H0 Hb0 as' Hb' D o := by
  cases o with
  | nx s' M' => exact fun a b c d r2 f2 rp => g a b c d r2 (f.trans f2) rp
  | rt s' M' => exact fun a b c d r2 f2 rp => g a b c d r2 (f.trans f2) rp
  | bk s' M' => exact fun a b c d r2 f2 rp => g a b c d r2 (f.trans f2) rp
  | ct s' M' => exact fun a b c d r2 f2 rp => g a b c d r2 (f.trans f2) rp
  | exc e s' M' => exact fun a b c d e' d' r2 f2 rp => g a b c d e' d' r2 (f.trans f2) rp
  | stuck => exact g
theorem GoodS.nx (g : GoodS K mg w H0 Hb0 as Hb D (.nx s M)) (r : Rel K H0 Hb0 as Hb H M) (S : Slots K as Hb σ s) : D.nx σ H := g σ as Hb H r Fut.refl S
def SimS (K : PySem.W.Frag) (mg : Str → Option Value) (w : WX) (t : TS) (p : PSx) : Prop :=
  ∀ (H0 Hb0 : Hp) (as : List Addr) (Hb H : Hp) (M : Ms) (σ : L2.St) (s : Sl), Rel K H0 Hb0 as Hb H M → Slots K as Hb σ s → ∀ D : Ends, GoodS K mg w H0 Hb0 as Hb D (p s M) → t D σ H
theorem GoodS.bind {β α : Type} {rep : Rep β α} {t1 : L2.St → Hp → (β → Hp → Prop) → Prop} {p1 : Sl → Ms → R α} (h1 : Sim rep K mg w t1 p1) (r : Rel K H0 Hb0 as Hb H M) (S : Slots K as Hb σ s) {f : α → Ms → O} {Q1 : β → Hp → Prop}
    (g : GoodS K mg w H0 Hb0 as Hb D ((p1 s M).to s f))
    (k : ∀ b a as' Hb' H' M', Rel K H0 Hb0 as' Hb' H' M' → Fut as Hb as' Hb' → Slots K as' Hb' σ s → rep H0 as' Hb' H' b a → GoodS K mg w H0 Hb0 as' Hb' D (f a M') → Q1 b H') : t1 σ H Q1 := by
  refine h1 H0 Hb0 as Hb H M σ s r S Q1 ?_
  cases hp : p1 s M with
  | ok a M' =>
    rw [hp] at g
    exact fun b as' Hb' H' r' f' rp => k b a as' Hb' H' M' r' f' (S.mono f') rp (GoodS.mono f' g)
  | exc e M' =>
    rw [hp] at g
    exact fun as' Hb' H' cls d r' f' er => g σ as' Hb' H' cls d r' f' (S.mono f') er
  | stuck => rw [hp] at g; exact g.elim
end

/-! ### judgements: a piece of text, and the plain function that it comes to -/
section
variable (X : Cx) (w : WX)
def JE (e : Expr) (p : PEx) : Prop := ∃ t, PE X e t ∧ Sim (repW X.K) X.K X.mg w t p
def JL (e : Expr) (p : PAx) : Prop := ∃ t, PE X e t ∧ Sim (repL X.K) X.K X.mg w t p
def JT (e : Expr) (p : PTx) : Prop := ∃ t, PT X e t ∧ Sim repB X.K X.mg w t p
def JW (e : Expr) (p : PTx) : Prop := ∃ t, PW X e t ∧ Sim repB X.K X.mg w t p
def JA (es : List Expr) (p : PAx) : Prop := ∃ t, PA X es t ∧ Sim (repA X.K) X.K X.mg w t p
def JO (e : Option Expr) (p : Sl → Ms → R (Option Int)) : Prop := ∃ t, PO X e t ∧ Sim repO X.K X.mg w t p
def JS (st : Stmt) (p : PSx) : Prop := ∃ t, PS X st t ∧ SimS X.K X.mg w t p
def JSs (sts : List Stmt) (p : PSx) : Prop := ∃ t, PSs X sts t ∧ SimS X.K X.mg w t p
end

/-! ### names, constants -/
def pVar (i : Nat) : PEx := fun s M => match s[i]? with
  | some (some x) => .ok x M
  | _ => .stuck
def pC (d : PyData) : PEx := fun _ M => .ok (.d d) M
def pK (v : V) : PEx := fun _ M => .ok (.k v) M
section
variable {X : Cx} {w : WX}
theorem je_var (i : Nat) {x : Str} {pos : Pos} (hN : X.N[i]? = some x := by rfl) (hv : Vis X.env.scope x := by first | exact Or.inl rfl | exact Or.inr (Or.inl rfl) | exact Or.inr (Or.inr rfl)) (hd : (x == ("__debug__" : Str)) = false := by decide)
    (hcd : (x == ("__classdict__" : Str)) = false := by decide) : JE X w (.Name x pos) (pVar i) := by
  refine ⟨_, pe_var hN hv hd hcd, fun H0 Hb0 as Hb H M σ s r S Q g => ?_⟩
  unfold pVar at g
  cases h : s[i]? with
  | none => rw [h] at g; exact g.elim
  | some o =>
    cases o with
    | none => rw [h] at g; exact g.elim
    | some x =>
      rw [h] at g
      obtain ⟨v, h1, h2⟩ := S.get h
      exact ⟨v, h1, g.ok r h2⟩
theorem dz_int (K : PySem.W.Frag) (H : Hp) (i : Int) : Dz K H (.int i) (.int i) := ⟨.int i, trivial⟩
theorem dz_bl (K : PySem.W.Frag) (H : Hp) (i : Bool) : Dz K H (.bl i) (.bool i) := ⟨.bl i, trivial⟩
theorem dz_non (K : PySem.W.Frag) (H : Hp) : Dz K H .non .none := ⟨.non, trivial⟩
theorem dz_str (K : PySem.W.Frag) (H : Hp) {x : Str} (h : x.length ≤ sizeLine) : Dz K H (.str x) (.str x) := ⟨.str x, h⟩
theorem je_int {i : Int} {j : Nat} {pos : Pos} : JE X w (.Constant (.int i) j pos) (pC (.int i)) := ⟨_, pe_int, fun H0 Hb0 as Hb H M σ s r S Q g => g.ok r (dz_int X.K Hb i)⟩
theorem je_bl {i : Bool} {j : Nat} {pos : Pos} : JE X w (.Constant (.bool i) j pos) (pC (.bool i)) := ⟨_, pe_bl, fun H0 Hb0 as Hb H M σ s r S Q g => g.ok r (dz_bl X.K Hb i)⟩
theorem je_non {j : Nat} {pos : Pos} : JE X w (.Constant .none j pos) (pC .none) := ⟨_, pe_non, fun H0 Hb0 as Hb H M σ s r S Q g => g.ok r (dz_non X.K Hb)⟩
theorem je_str {x : Str} {j : Nat} {pos : Pos} (h : x.length ≤ sizeLine := by decide) : JE X w (.Constant (.str x) j pos) (pC (.str x)) := ⟨_, pe_str, fun H0 Hb0 as Hb H M σ s r S Q g => g.ok r (dz_str X.K Hb h)⟩
/-- a module's name that holds an int, a text -/
theorem je_gint {x : Str} {i : Int} {t : Tok} {pos : Pos} (hm : X.mg x = some (.int i t)) (hg : Gl X x := by rfl) (hd : (x == ("__debug__" : Str)) = false := by decide) : JE X w (.Name x pos) (pC (.int i)) := ⟨_, pe_glob (v := .int i) hg hm ⟨t, rfl⟩ hd, fun H0 Hb0 as Hb H M σ s r S Q g => g.ok r (dz_int X.K Hb i)⟩
theorem je_gstr {x y : Str} {t : Tok} {pos : Pos} (hm : X.mg x = some (.str y t)) (h : y.length ≤ sizeLine := by decide) (hg : Gl X x := by rfl) (hd : (x == ("__debug__" : Str)) = false := by decide) : JE X w (.Name x pos) (pC (.str y)) := ⟨_, pe_glob (v := .str y) hg hm ⟨t, rfl⟩ hd, fun H0 Hb0 as Hb H M σ s r S Q g => g.ok r (dz_str X.K Hb h)⟩
/-- a module's class, a built-in class, as a value -/
theorem je_gref {x : Str} {a : Addr} {pos : Pos} (hm : X.mg x = some (.ref a)) (hg : Gl X x := by rfl) (hd : (x == ("__debug__" : Str)) = false := by decide) : JE X w (.Name x pos) (pK (.ref a)) := ⟨_, pe_glob (v := .ref a) hg hm rfl hd, fun H0 Hb0 as Hb H M σ s r S Q g => g.ok r (show WR X.K as Hb (.ref a) (.k (.ref a)) from rfl)⟩
theorem je_bty {x : Str} {n : String} {pos : Pos} (hm : X.mg x = none) (hv : bootBuiltins x = some (.type n) := by decide +kernel) (hg : Gl X x := by rfl) (hn : x ≠ "__name__" := by decide) (hd : (x == ("__debug__" : Str)) = false := by decide) : JE X w (.Name x pos) (pK (.ty n)) := ⟨_, pe_bltn (v := .ty n) hg hm hv rfl hn hd, fun H0 Hb0 as Hb H M σ s r S Q g => g.ok r (show WR X.K as Hb (.ty n) (.k (.ty n)) from rfl)⟩

/-! ### argument lists, displays -/
def pNil : PAx := fun _ M => .ok [] M
def pCons (a : PEx) (r : PAx) : PAx := fun s M => (a s M).bind fun x M1 => (r s M1).bind fun xs M2 => .ok (x :: xs) M2
theorem ja_nil : JA X w [] pNil := ⟨_, pa_nil, fun H0 Hb0 as Hb H M σ s r S Q g => g.ok r .nil⟩
theorem ja_cons {e : Expr} {es : List Expr} {a : PEx} {p : PAx} (ha : JE X w e a) (hr : JA X w es p) (hs : starEach (e :: es) X.env = (false, eval e X.env) :: starEach es X.env := by rfl) : JA X w (e :: es) (pCons a p) := by
  obtain ⟨ta, pa, sa⟩ := ha
  obtain ⟨tr, pr, sr⟩ := hr
  refine ⟨_, pa_cons pa pr hs, fun H0 Hb0 as Hb H M σ s r S Q g => ?_⟩
  refine Good.bind sa r S g fun x a' as1 Hb1 H1 M1 r1 f1 S1 w1 g1 => ?_
  refine Good.bind sr r1 S1 g1 fun xs a2 as2 Hb2 H2 M2 r2 f2 S2 w2 g2 => ?_
  exact g2.ok r2 (.cons (WR.mono f2 w1) w2)
def allD : List W → Option (List PyData)
  | [] => some []
  | .d x :: ws => (allD ws).map (x :: ·)
  | _ :: _ => none
theorem allD_ok {K : PySem.W.Frag} {as : List Addr} {Hb : Hp} : ∀ {ws : List W} {vs : List V} {ds : List PyData}, WRs K as Hb vs ws → allD ws = some ds → DzAll K Hb vs ds
  | [], _, _, h, e => by cases h; simp [allD] at e; subst e; exact .nil
  | .d x :: ws, _, ds, h, e => by
    cases h with
    | cons h1 h2 =>
      simp only [allD, Option.map_eq_some_iff] at e
      obtain ⟨r, e1, rfl⟩ := e
      exact .cons h1 (allD_ok h2 e1)
  | .r i :: ws, _, _, h, e => by simp [allD] at e
  | .k v :: ws, _, _, h, e => by simp [allD] at e
theorem allD_map : ∀ ds : List PyData, allD (ds.map W.d) = some ds
  | [] => rfl
  | d :: ds => by simp [allD, allD_map ds]
def pTup (a : PAx) : PEx := fun s M => (a s M).bind fun ws M1 => match allD ws with
  | some ds => if ds.length ≤ sizeLine then .ok (.d (.tuple ds)) M1 else .stuck
  | none => .stuck
theorem dz_tup {K : PySem.W.Frag} {H : Hp} {p : Addr} {vs : List V} {ds : List PyData} (h : SqT K H p vs) (d : DzAll K H vs ds) (z : ds.length ≤ sizeLine) : Dz K H (.ref p) (.tuple ds) := ⟨.tup h (of_dzAll d).1, z, (of_dzAll d).2⟩
theorem dz_lst {K : PySem.W.Frag} {H : Hp} {p : Addr} {vs : List V} {ds : List PyData} (h : H p = some (.lst vs)) (d : DzAll K H vs ds) (z : ds.length ≤ sizeLine) : Dz K H (.ref p) (.list ds) := ⟨.lst h (of_dzAll d).1, z, (of_dzAll d).2⟩
theorem dzAll_mono {K : PySem.W.Frag} {H H' : Hp} {vs : List V} {ds : List PyData} (e : Same H H') (h : DzAll K H vs ds) : DzAll K H' vs ds := Paired.imp (fun _ _ z => z.mono e) h
theorem je_tup {es : List Expr} {x1 : Nat} {p : PAx} {pos : Pos} (h : JA X w es p) : JE X w (.Tuple es x1 pos) (pTup p) := by
  obtain ⟨ta, pa, sa⟩ := h
  refine ⟨_, pe_tup pa, fun H0 Hb0 as Hb H M σ s r S Q g => ?_⟩
  refine Good.bind sa r S g fun vs ws as1 Hb1 H1 M1 r1 f1 S1 w1 g1 => ?_
  cases hd : allD ws with
  | none => rw [hd] at g1; exact g1.elim
  | some ds =>
    rw [hd] at g1
    have dz := allD_ok w1 hd
    have hl : vs.length = ds.length := Paired.len dz
    by_cases z : ds.length ≤ sizeLine
    · simp only [z, if_true] at g1
      refine ⟨by rw [hl]; exact z, fun q hq => ?_⟩
      have hbq := r1.hbn hq
      exact Good.ok (Good.mono (fut_new hbq) g1) (r1.newData hq) (dz_tup (SqT.of upd_same) (dzAll_mono (same_new hbq) dz) z)
    · simp only [z, if_false] at g1
      exact g1.elim
/-- [a, b, ..] as a thing made just now -/
def pLst (a : PAx) : PAx := fun s M => (a s M).bind fun ws M1 => if ws.length ≤ sizeLine then .ok ws M1 else .stuck
theorem jl_lst {es : List Expr} {p : PAx} {pos : Pos} (h : JA X w es p) : JL X w (.List es pos) (pLst p) := by
  obtain ⟨ta, pa, sa⟩ := h
  refine ⟨_, pe_lst pa, fun H0 Hb0 as Hb H M σ s r S Q g => ?_⟩
  refine Good.bind sa r S g fun vs ws as1 Hb1 H1 M1 r1 f1 S1 w1 g1 => ?_
  have hl : vs.length = ws.length := Paired.len w1
  by_cases z : ws.length ≤ sizeLine
  · simp only [z, if_true] at g1
    refine ⟨by rw [hl]; exact z, fun q hq => ?_⟩
    exact Good.ok g1 (r1.newAny hq) ⟨q, vs, rfl, upd_same, z, w1, fun hm => r1.al q hm hq, r1.hbn hq, r1.h0n hq⟩
  · simp only [z, if_false] at g1
    exact g1.elim
/-- .. as data, as a thing that will change -/
def pDat (p : PAx) : PEx := fun s M => (p s M).bind fun ws M1 => match allD ws with
  | some ds => .ok (.d (.list ds)) M1
  | none => .stuck
def pMut (p : PAx) : PEx := fun s M => (p s M).bind fun ws M1 => .ok (.r M1.length) (M1 ++ [.lst ws])
theorem Rel.freshData {K : PySem.W.Frag} {H0 Hb0 : Hp} {as : List Addr} {Hb H : Hp} {M : Ms} (r : Rel K H0 Hb0 as Hb H M) {p : Addr} {o : HO} (hH : H p = some o) (hbn : Hb p = none) (h0n : H0 p = none) (hp : p ∉ as) : Rel K H0 Hb0 as (upd Hb p o) H M where
  sub := fun b u e => by
    by_cases h : b = p
    · subst h; rw [upd_same] at e; cases e; exact hH
    · rw [upd_ne h] at e; exact r.sub b u e
  top := r.top
  len := r.len
  nd := r.nd
  al := r.al
  off := fun i a u h1 h2 h3 => by
    have ne : a ≠ p := fun z => hp (z ▸ List.mem_of_getElem? h1)
    rw [upd_ne ne]
    exact r.off i a u h1 h2 h3
  off0 := r.off0
  b0 := r.b0.trans (same_new hbn)
  at' := fun i a u h1 h2 => (r.at' i a u h1 h2).fut (fut_new hbn) rfl
  hb0 := fun a h1 h2 => by
    by_cases h : a = p
    · subst h; exact h0n
    · rw [upd_ne h] at h1; exact r.hb0 a h1 h2
theorem je_dat {e : Expr} {p : PAx} (h : JL X w e p) : JE X w e (pDat p) := by
  obtain ⟨t, pe, se⟩ := h
  refine ⟨t, pe, fun H0 Hb0 as Hb H M σ s r S Q g => ?_⟩
  refine Good.bind se r S g fun v ws as1 Hb1 H1 M1 r1 f1 S1 w1 g1 => ?_
  obtain ⟨q, vs, rfl, hq, z, wr, nq, hbn, h0n⟩ := w1
  cases hd : allD ws with
  | none => rw [hd] at g1; exact g1.elim
  | some ds =>
    rw [hd] at g1
    have dz := allD_ok wr hd
    have hl : ws.length = ds.length := (Paired.len wr).symm.trans (Paired.len dz)
    exact Good.ok (Good.mono (fut_new hbn) g1) (r1.freshData hq hbn h0n nq) (dz_lst upd_same (dzAll_mono (same_new hbn) dz) (hl ▸ z))
theorem je_mut {e : Expr} {p : PAx} (h : JL X w e p) : JE X w e (pMut p) := by
  obtain ⟨t, pe, se⟩ := h
  refine ⟨t, pe, fun H0 Hb0 as Hb H M σ s r S Q g => ?_⟩
  refine Good.bind se r S g fun v ws as1 Hb1 H1 M1 r1 f1 S1 w1 g1 => ?_
  obtain ⟨q, vs, rfl, hq, z, wr, nq, hbn, h0n⟩ := w1
  have fu : Fut as1 Hb1 (as1 ++ [q]) Hb1 := ⟨Same.refl _, [q], rfl⟩
  refine Good.ok (Good.mono fu g1) (r1.newMut (by rw [hq]; simp) hbn h0n nq ⟨z, vs, hq, WRs.mono fu wr⟩) ⟨q, ?_, rfl⟩
  rw [← r1.len]
  simp
end
end Z

set_option linter.all false
set_option autoImplicit false
set_option maxRecDepth 100000
set_option maxHeartbeats 4000000
namespace Z
open PySem PySem.Spec PyProof.Rows L2

/-! ### a value read as data, a list's items -/
def view (M : Ms) : W → Option PyData
  | .d x => some x
  | .r i => match M[i]? with
    | some (.lst ws) => (allD ws).map .list
    | _ => none
  | .k _ => none
/-- the items of a list, of a tuple -/
def itemsL (M : Ms) : W → Option (List W)
  | .d (.list xs) => some (xs.map .d)
  | .r i => match M[i]? with
    | some (.lst ws) => some ws
    | _ => none
  | _ => none
def itemsT : W → Option (List W)
  | .d (.tuple xs) => some (xs.map .d)
  | _ => none
section
variable {K : PySem.W.Frag} {H0 Hb0 Hb H : Hp} {as : List Addr} {M : Ms} {v : V} {x : W}
theorem wrs_of {vs : List V} {ds : List PyData} (h : DzAll K Hb vs ds) : WRs K as Hb vs (ds.map .d) := by
  induction h with
  | nil => exact .nil
  | cons h1 h2 ih => exact .cons h1 ih
theorem view_ok (r : Rel K H0 Hb0 as Hb H M) (h : WR K as Hb v x) {d : PyData} (e : view M x = some d) : Dz K H v d := by
  cases x with
  | d y =>
    simp only [view, Option.some.injEq] at e
    subst e
    exact Dz.mono r.sub h
  | r i =>
    obtain ⟨a, h1, rfl⟩ := h
    simp only [view] at e
    cases hm : M[i]? with
    | none => rw [hm] at e; simp at e
    | some o =>
      rw [hm] at e
      cases o with
      | lst ws =>
        simp only [Option.map_eq_some_iff] at e
        obtain ⟨ds, e1, rfl⟩ := e
        obtain ⟨z, vs, h2, h3⟩ := r.at' i a _ h1 hm
        have dz := allD_ok h3 e1
        have hl : ws.length = ds.length := (Paired.len h3).symm.trans (Paired.len dz)
        exact dz_lst h2 (dzAll_mono r.sub dz) (hl ▸ z)
      | ins _ _ => simp at e
      | dic _ _ => simp at e
      | dlk _ _ => simp at e
      | gone => simp at e
  | k u => simp [view] at e
theorem itemsL_ok (r : Rel K H0 Hb0 as Hb H M) (h : WR K as Hb v x) {ws : List W} (e : itemsL M x = some ws) : ∃ a vs, v = .ref a ∧ H a = some (.lst vs) ∧ WRs K as Hb vs ws ∧ ws.length ≤ sizeLine := by
  cases x with
  | d y =>
    cases y with
    | list xs =>
      simp only [itemsL, Option.some.injEq] at e
      subst e
      obtain ⟨h1, h2⟩ := h
      cases h1 with
      | lst hs ha => exact ⟨_, _, rfl, r.sub _ _ hs, wrs_of (dzAll_of ha h2.2), by rw [List.length_map]; exact h2.1⟩
    | _ => simp [itemsL] at e
  | r i =>
    obtain ⟨a, h1, rfl⟩ := h
    simp only [itemsL] at e
    cases hm : M[i]? with
    | none => rw [hm] at e; simp at e
    | some o =>
      rw [hm] at e
      cases o with
      | lst ws' =>
        simp only [Option.some.injEq] at e
        subst e
        obtain ⟨z, vs, h2, h3⟩ := r.at' i a _ h1 hm
        exact ⟨a, vs, rfl, h2, h3, z⟩
      | ins _ _ => simp at e
      | dic _ _ => simp at e
      | dlk _ _ => simp at e
      | gone => simp at e
  | k u => simp [itemsL] at e
theorem itemsT_ok (r : Rel K H0 Hb0 as Hb H M) (h : WR K as Hb v x) {ws : List W} (e : itemsT x = some ws) : ∃ a vs, v = .ref a ∧ SqT K H a vs ∧ WRs K as Hb vs ws ∧ ws.length ≤ sizeLine := by
  cases x with
  | d y =>
    cases y with
    | tuple xs =>
      simp only [itemsT, Option.some.injEq] at e
      subst e
      obtain ⟨h1, h2⟩ := h
      cases h1 with
      | tup hs ha => exact ⟨_, _, rfl, same_t r.sub hs, wrs_of (dzAll_of ha h2.2), by rw [List.length_map]; exact h2.1⟩
    | _ => simp [itemsT] at e
  | r i => simp [itemsT] at e
  | k u => simp [itemsT] at e
theorem wr_int (i : Int) : WR K as Hb (.int i) (.d (.int i)) := dz_int K Hb i
theorem wr_bl (i : Bool) : WR K as Hb (.bl i) (.d (.bool i)) := dz_bl K Hb i
theorem wr_non : WR K as Hb .non (.d .none) := dz_non K Hb
theorem wr_str {s : Str} (h : s.length ≤ sizeLine) : WR K as Hb (.str s) (.d (.str s)) := dz_str K Hb h
theorem wr_int_of {v : V} {i : Int} (h : WR K as Hb v (.d (.int i))) : v = .int i := by cases h.1; rfl
theorem wr_bl_of {v : V} {i : Bool} (h : WR K as Hb v (.d (.bool i))) : v = .bl i := by cases h.1; rfl
theorem wr_non_of {v : V} (h : WR K as Hb v (.d .none)) : v = .non := by cases h.1; rfl
theorem wr_str_of {v : V} {s : Str} (h : WR K as Hb v (.d (.str s))) : v = .str s ∧ s.length ≤ sizeLine := by
  obtain ⟨h1, h2⟩ := h
  cases h1
  exact ⟨rfl, h2⟩
end

/-! ### two-place operations -/
def Sim2 (K : PySem.W.Frag) (mg : Str → Option Value) (r : R2) (g : W → W → Ms → R W) : Prop :=
  ∀ (w : WX) (H0 Hb0 : Hp) (as : List Addr) (Hb H : Hp) (M : Ms) (σ : L2.St) (x y : W) (xv yv : V), Rel K H0 Hb0 as Hb H M → WR K as Hb xv x → WR K as Hb yv y → ∀ Q : VK, Good (repW K) K mg w H0 Hb0 as Hb σ Q (g x y M) → r xv yv H Q
def pOp (g : W → W → Ms → R W) (a b : PEx) : PEx := fun s M => (a s M).bind fun x M1 => (b s M1).bind fun y M2 => g x y M2
/-- the first that is not stuck -/
def R.or {α : Type} (a b : R α) : R α := match a with
  | .stuck => b
  | r => r
theorem Sim2.or {K : PySem.W.Frag} {mg : Str → Option Value} {r r' : R2} {g g' : W → W → Ms → R W} (h : Sim2 K mg r g) (h' : Sim2 K mg r' g') : Sim2 K mg (fun x y H Q => r x y H Q ∨ r' x y H Q) (fun x y M => (g x y M).or (g' x y M)) := by
  intro w H0 Hb0 as Hb H M σ x y xv yv R1 wx wy Q gd
  cases e : g x y M with
  | ok a m => refine .inl (h w H0 Hb0 as Hb H M σ x y xv yv R1 wx wy Q ?_); rw [e]; simp only [e, R.or] at gd; exact gd
  | exc a m => refine .inl (h w H0 Hb0 as Hb H M σ x y xv yv R1 wx wy Q ?_); rw [e]; simp only [e, R.or] at gd; exact gd
  | stuck => refine .inr (h' w H0 Hb0 as Hb H M σ x y xv yv R1 wx wy Q ?_); simp only [e, R.or] at gd; exact gd
section
variable {X : Cx} {w : WX} {a b c : Expr} {pa pb pc : PEx} {pos : Pos} {g g' : W → W → Ms → R W} {r r' : R2}
theorem sim_op {K : PySem.W.Frag} {mg : Str → Option Value} {ta tb : TE} (sa : Sim (repW K) K mg w ta pa) (sb : Sim (repW K) K mg w tb pb) (hg : Sim2 K mg r g) : Sim (repW K) K mg w (tOp r ta tb) (pOp g pa pb) := by
  intro H0 Hb0 as Hb H M σ s r0 S Q gd
  refine Good.bind sa r0 S gd fun x x' as1 Hb1 H1 M1 r1 f1 S1 w1 g1 => ?_
  refine Good.bind sb r1 S1 g1 fun y y' as2 Hb2 H2 M2 r2 f2 S2 w2 g2 => ?_
  exact hg w H0 Hb0 as2 Hb2 H2 M2 σ x' y' x y r2 (WR.mono f2 w1) w2 Q g2
theorem je_op {op : Operator} (ho : OpR X (binaryOp op) r) (hg : Sim2 X.K X.mg r g) (ha : JE X w a pa) (hb : JE X w b pb) : JE X w (.BinOp a op b pos) (pOp g pa pb) := by
  obtain ⟨ta, ea, sa⟩ := ha
  obtain ⟨tb, eb, sb⟩ := hb
  exact ⟨_, pe_op ho ea eb, sim_op sa sb hg⟩
theorem je_cmp {op : CmpOp} (ho : OpR X (compareOp op) r) (hg : Sim2 X.K X.mg r g) (ha : JE X w a pa) (hb : JE X w b pb) (hm : behindInMarks op b = false := by first | exact nomark _ | rfl) : JE X w (.Compare a [op] [b] pos) (pOp g pa pb) := by
  obtain ⟨ta, ea, sa⟩ := ha
  obtain ⟨tb, eb, sb⟩ := hb
  exact ⟨_, pe_cmpR ho ea eb hm, sim_op sa sb hg⟩
/-- a bool as a test -/
def pB (p : PEx) : PTx := fun s M => (p s M).bind fun x M1 => match x with
  | .d (.bool b) => .ok b M1
  | _ => .stuck
theorem sim_test {K : PySem.W.Frag} {mg : Str → Option Value} {t : TE} {p : PEx} (sa : Sim (repW K) K mg w t p) : Sim repB K mg w (tTest t) (pB p) := by
  intro H0 Hb0 as Hb H M σ s r0 S Q gd
  refine Good.bind sa r0 S gd fun x x' as1 Hb1 H1 M1 r1 f1 S1 w1 g1 => ?_
  cases x' with
  | d y =>
    cases y with
    | bool k =>
      obtain rfl := wr_bl_of w1
      exact ⟨k, rfl, Good.ok g1 r1 rfl⟩
    | _ => exact (show False from g1).elim
  | r i => exact (show False from g1).elim
  | k u => exact (show False from g1).elim
theorem jt_cmp {op : CmpOp} (ho : OpR X (compareOp op) r) (hg : Sim2 X.K X.mg r g) (ha : JE X w a pa) (hb : JE X w b pb) (hm : behindInMarks op b = false := by first | exact nomark _ | rfl) : JT X w (.Compare a [op] [b] pos) (pB (pOp g pa pb)) := by
  obtain ⟨ta, ea, sa⟩ := ha
  obtain ⟨tb, eb, sb⟩ := hb
  exact ⟨_, pt_cmpR ho ea eb hm, sim_test (sim_op sa sb hg)⟩
/-- a op b op' c -/
def pChain (g g' : W → W → Ms → R W) (a b c : PEx) : PEx := fun s M => (a s M).bind fun x M1 => (b s M1).bind fun y M2 => (g x y M2).bind fun k M3 => match k with
  | .d (.bool true) => (c s M3).bind fun z M4 => g' y z M4
  | .d (.bool false) => .ok (.d (.bool false)) M3
  | _ => .stuck
theorem sim_chain {K : PySem.W.Frag} {mg : Str → Option Value} {ta tb tc : TE} (sa : Sim (repW K) K mg w ta pa) (sb : Sim (repW K) K mg w tb pb) (sc : Sim (repW K) K mg w tc pc) (hg : Sim2 K mg r g) (hg' : Sim2 K mg r' g') : Sim (repW K) K mg w (tChain r r' ta tb tc) (pChain g g' pa pb pc) := by
  intro H0 Hb0 as Hb H M σ s r0 S Q gd
  refine Good.bind sa r0 S gd fun x x' as1 Hb1 H1 M1 r1 f1 S1 w1 g1 => ?_
  refine Good.bind sb r1 S1 g1 fun y y' as2 Hb2 H2 M2 r2 f2 S2 w2 g2 => ?_
  refine hg w H0 Hb0 as2 Hb2 H2 M2 σ x' y' x y r2 (WR.mono f2 w1) w2 _ ?_
  cases e : g x' y' M2 with
  | exc e1 m => rw [e] at g2; exact g2
  | stuck => rw [e] at g2; exact g2
  | ok k m =>
    rw [e] at g2
    intro kv as3 Hb3 H3 r3 f3 w3
    have g3 := Good.mono f3 g2
    cases k with
    | d z =>
      cases z with
      | bool bb =>
        obtain rfl := wr_bl_of w3
        refine ⟨bb, rfl, ?_⟩
        cases bb with
        | true =>
          rw [if_pos rfl]
          refine Good.bind sc r3 (S2.mono f3) g3 fun z z' as4 Hb4 H4 M4 r4 f4 S4 w4 g4 => ?_
          exact hg' w H0 Hb0 as4 Hb4 H4 M4 σ y' z' y z r4 (WR.mono (f3.trans f4) w2) w4 Q g4
        | false =>
          rw [if_neg Bool.false_ne_true]
          exact Good.ok g3 r3 (wr_bl false)
      | _ => exact (show False from g3).elim
    | r i => exact (show False from g3).elim
    | k u => exact (show False from g3).elim
theorem je_chain {op op' : CmpOp} (ho : OpR X (compareOp op) r) (hg : Sim2 X.K X.mg r g) (ho' : OpR X (compareOp op') r') (hg' : Sim2 X.K X.mg r' g') (ha : JE X w a pa) (hb : JE X w b pb) (hc : JE X w c pc)
    (hm : lastMarks [op, op'] [b, c] = false := by with_unfolding_all rfl) : JE X w (.Compare a [op, op'] [b, c] pos) (pChain g g' pa pb pc) := by
  obtain ⟨ta, ea, sa⟩ := ha
  obtain ⟨tb, eb, sb⟩ := hb
  obtain ⟨tc, ec, sc⟩ := hc
  exact ⟨_, pe_chain ho ho' ea eb ec hm, sim_chain sa sb sc hg hg'⟩
theorem jt_chain {op op' : CmpOp} (ho : OpR X (compareOp op) r) (hg : Sim2 X.K X.mg r g) (ho' : OpR X (compareOp op') r') (hg' : Sim2 X.K X.mg r' g') (ha : JE X w a pa) (hb : JE X w b pb) (hc : JE X w c pc)
    (hm : lastMarks [op, op'] [b, c] = false := by with_unfolding_all rfl) : JT X w (.Compare a [op, op'] [b, c] pos) (pB (pChain g g' pa pb pc)) := by
  obtain ⟨ta, ea, sa⟩ := ha
  obtain ⟨tb, eb, sb⟩ := hb
  obtain ⟨tc, ec, sc⟩ := hc
  exact ⟨_, pt_chain ho ho' ea eb ec hm, sim_test (sim_chain sa sb sc hg hg')⟩
end

/-! ### the operations -/
def gInt (f : Int → Int → Option PyData) : W → W → Ms → R W := fun x y M => match x, y with
  | .d (.int i), .d (.int j) => (match f i j with
    | some d => .ok (.d d) M
    | none => .stuck)
  | _, _ => .stuck
section
variable {K : PySem.W.Frag} {mg : Str → Option Value}
theorem sim_gInt {r : R2} {f : Int → Int → Option PyData} (h : ∀ i j d, f i j = some d → ∀ (H : Hp) (Q : VK), (∀ v, Dt K (fun _ => none) v d → Q v H) → r (.int i) (.int j) H Q) (hs : ∀ i j d, f i j = some d → fits d) : Sim2 K mg r (gInt f) := by
  intro w H0 Hb0 as Hb H M σ x y xv yv R1 wx wy Q gd
  cases x with
  | d x =>
    cases x with
    | int i =>
      cases y with
      | d y =>
        cases y with
        | int j =>
          obtain rfl := wr_int_of wx
          obtain rfl := wr_int_of wy
          cases e : f i j with
          | none => simp only [gInt, e] at gd; exact gd.elim
          | some d =>
            simp only [gInt, e] at gd
            exact h i j d e H Q fun v hv => Good.ok gd R1 ⟨Dt.mono (fun _ _ z => by cases z) d v hv, hs i j d e⟩
        | _ => exact gd.elim
      | r i => exact gd.elim
      | k u => exact gd.elim
    | _ => exact gd.elim
  | r i => exact gd.elim
  | k u => exact gd.elim
def gAddI := gInt fun i j => some (.int (i + j))
def gSubI := gInt fun i j => some (.int (i - j))
def gMulI := gInt fun i j => if (-(2 ^ 64) < i ∧ i < 2 ^ 64) ∨ (-(2 ^ 64) < j ∧ j < 2 ^ 64) then some (.int (i * j)) else none
def gDivI := gInt fun i j => if j ≠ 0 ∧ j.natAbs < 1073741824 then some (.int (i.fdiv j)) else none
def gModI := gInt fun i j => if j ≠ 0 then some (.int (i.fmod j)) else none
def gPowI := gInt fun i j => if 0 ≤ j ∧ j ≤ 1000000 ∧ i.natAbs < 2 ^ 64 then some (.int (i ^ j.toNat)) else none
def gLtI := gInt fun i j => some (.bool (decide (i < j)))
def gLeI := gInt fun i j => some (.bool (decide (i ≤ j)))
def gGtI := gInt fun i j => some (.bool (decide (j < i)))
def gGeI := gInt fun i j => some (.bool (decide (j ≤ i)))
theorem s_addI : Sim2 K mg (rI0 fun i j => .int (i + j)) gAddI := sim_gInt (fun i j d e H Q q => ⟨i, j, rfl, rfl, by cases e; exact q _ (.int _)⟩) fun _ _ _ e => by cases e; trivial
theorem s_subI : Sim2 K mg (rI0 fun i j => .int (i - j)) gSubI := sim_gInt (fun i j d e H Q q => ⟨i, j, rfl, rfl, by cases e; exact q _ (.int _)⟩) fun _ _ _ e => by cases e; trivial
theorem s_mulI : Sim2 K mg (rI CMul fun i j => .int (i * j)) gMulI := sim_gInt (fun i j d e H Q q => by
    split at e
    · rename_i hc; cases e; exact ⟨i, j, rfl, rfl, hc, q _ (.int _)⟩
    · cases e) fun _ _ _ e => by
    split at e
    · cases e; trivial
    · cases e
theorem s_divI : Sim2 K mg (rI CDivN fun i j => .int (i.fdiv j)) gDivI := sim_gInt (fun i j d e H Q q => by
    split at e
    · rename_i hc; cases e; exact ⟨i, j, rfl, rfl, hc, q _ (.int _)⟩
    · cases e) fun _ _ _ e => by
    split at e
    · cases e; trivial
    · cases e
theorem s_modI : Sim2 K mg (rI (fun _ j => j ≠ 0) fun i j => .int (i.fmod j)) gModI := sim_gInt (fun i j d e H Q q => by
    split at e
    · rename_i hc; cases e; exact ⟨i, j, rfl, rfl, hc, q _ (.int _)⟩
    · cases e) fun _ _ _ e => by
    split at e
    · cases e; trivial
    · cases e
theorem s_powI : Sim2 K mg (rI CPow fun i j => .int (i ^ j.toNat)) gPowI := sim_gInt (fun i j d e H Q q => by
    split at e
    · rename_i hc; cases e; exact ⟨i, j, rfl, rfl, hc, q _ (.int _)⟩
    · cases e) fun _ _ _ e => by
    split at e
    · cases e; trivial
    · cases e
theorem s_ltI : Sim2 K mg (rI0 fun i j => .bl (decide (i < j))) gLtI := sim_gInt (fun i j d e H Q q => ⟨i, j, rfl, rfl, by cases e; exact q _ (.bl _)⟩) fun _ _ _ e => by cases e; trivial
theorem s_leI : Sim2 K mg (rI0 fun i j => .bl (decide (i ≤ j))) gLeI := sim_gInt (fun i j d e H Q q => ⟨i, j, rfl, rfl, by cases e; exact q _ (.bl _)⟩) fun _ _ _ e => by cases e; trivial
theorem s_gtI : Sim2 K mg (rI0 fun i j => .bl (decide (j < i))) gGtI := sim_gInt (fun i j d e H Q q => ⟨i, j, rfl, rfl, by cases e; exact q _ (.bl _)⟩) fun _ _ _ e => by cases e; trivial
theorem s_geI : Sim2 K mg (rI0 fun i j => .bl (decide (j ≤ i))) gGeI := sim_gInt (fun i j d e H Q q => ⟨i, j, rfl, rfl, by cases e; exact q _ (.bl _)⟩) fun _ _ _ e => by cases e; trivial
/-- == and != of data -/
def gEqD : W → W → Ms → R W := fun x y M => match view M x, view M y with
  | some d, some e => if SeqAt.shaped d = true ∧ SeqAt.shaped e = true then .ok (.d (.bool (PyData.eqv d e))) M else .stuck
  | _, _ => .stuck
def gNeD : W → W → Ms → R W := fun x y M => match view M x, view M y with
  | some d, some e => if SeqAt.shaped d = true ∧ SeqAt.shaped e = true then .ok (.d (.bool (!PyData.eqv d e))) M else .stuck
  | _, _ => .stuck
theorem s_eqD : Sim2 K mg (rEqD K) gEqD := by
  intro w H0 Hb0 as Hb H M σ x y xv yv R1 wx wy Q gd
  unfold gEqD at gd
  cases ex : view M x with
  | none => rw [ex] at gd; exact gd.elim
  | some d =>
    cases ey : view M y with
    | none => rw [ex, ey] at gd; exact gd.elim
    | some e =>
      rw [ex, ey] at gd
      by_cases hc : SeqAt.shaped d = true ∧ SeqAt.shaped e = true
      · simp only [hc, and_self, if_true] at gd
        exact ⟨d, e, Dt.dp d _ (view_ok R1 wx ex).1, Dt.dp e _ (view_ok R1 wy ey).1, hc.1, hc.2, Good.ok gd R1 (wr_bl _)⟩
      · simp only [hc, if_false] at gd
        exact gd.elim
theorem s_neD : Sim2 K mg (rNeD K) gNeD := by
  intro w H0 Hb0 as Hb H M σ x y xv yv R1 wx wy Q gd
  unfold gNeD at gd
  cases ex : view M x with
  | none => rw [ex] at gd; exact gd.elim
  | some d =>
    cases ey : view M y with
    | none => rw [ex, ey] at gd; exact gd.elim
    | some e =>
      rw [ex, ey] at gd
      by_cases hc : SeqAt.shaped d = true ∧ SeqAt.shaped e = true
      · simp only [hc, and_self, if_true] at gd
        exact ⟨d, e, Dt.dp d _ (view_ok R1 wx ex).1, Dt.dp e _ (view_ok R1 wy ey).1, hc.1, hc.2, Good.ok gd R1 (wr_bl _)⟩
      · simp only [hc, if_false] at gd
        exact gd.elim
/-- is None, is not None; is True, is not True -/
def isNonD : PyData → Bool
  | .none => true
  | _ => false
def gIsN (neg : Bool) : W → W → Ms → R W := fun x y M => match x, y with
  | .d x, .d .none => .ok (.d (.bool (xor neg (isNonD x)))) M
  | .r _, .d .none => .ok (.d (.bool neg)) M
  | _, _ => .stuck
theorem dt_non {H : Hp} {v : V} {x : PyData} (h : Dt K H v x) : decide (v = .non) = isNonD x := by
  cases h <;> rfl
theorem s_isN : Sim2 K mg (fun x y H Q => y = .non ∧ Q (.bl (decide (x = .non))) H) (gIsN false) := by
  intro w H0 Hb0 as Hb H M σ x y xv yv R1 wx wy Q gd
  cases y with
  | d y =>
    cases y with
    | none =>
      obtain rfl := wr_non_of wy
      cases x with
      | d x =>
        refine ⟨rfl, ?_⟩
        rw [dt_non wx.1]
        have gd' : Good (repW K) K mg w H0 Hb0 as Hb σ Q (.ok (.d (.bool (xor false (isNonD x)))) M) := gd
        rw [Bool.false_xor] at gd'
        exact Good.ok gd' R1 (wr_bl _)
      | r i =>
        obtain ⟨a, _, rfl⟩ := wx
        exact ⟨rfl, Good.ok gd R1 (wr_bl _)⟩
      | k u => exact gd.elim
    | _ => cases x <;> exact gd.elim
  | r i => cases x <;> exact gd.elim
  | k u => cases x <;> exact gd.elim
theorem s_isNn : Sim2 K mg (fun x y H Q => y = .non ∧ Q (.bl (!decide (x = .non))) H) (gIsN true) := by
  intro w H0 Hb0 as Hb H M σ x y xv yv R1 wx wy Q gd
  cases y with
  | d y =>
    cases y with
    | none =>
      obtain rfl := wr_non_of wy
      cases x with
      | d x =>
        refine ⟨rfl, ?_⟩
        rw [dt_non wx.1]
        have gd' : Good (repW K) K mg w H0 Hb0 as Hb σ Q (.ok (.d (.bool (xor true (isNonD x)))) M) := gd
        rw [Bool.true_xor] at gd'
        exact Good.ok gd' R1 (wr_bl _)
      | r i =>
        obtain ⟨a, _, rfl⟩ := wx
        exact ⟨rfl, Good.ok gd R1 (wr_bl _)⟩
      | k u => exact gd.elim
    | _ => cases x <;> exact gd.elim
  | r i => cases x <;> exact gd.elim
  | k u => cases x <;> exact gd.elim
end
end Z

set_option linter.all false
set_option autoImplicit false
set_option maxRecDepth 100000
set_option maxHeartbeats 4000000
namespace Z
open PySem PySem.Spec PyProof.Rows L2

/-! ### texts -/
def gStr (f : Str → Str → Option PyData) : W → W → Ms → R W := fun x y M => match x, y with
  | .d (.str i), .d (.str j) => (match f i j with
    | some d => .ok (.d d) M
    | none => .stuck)
  | _, _ => .stuck
section
variable {K : PySem.W.Frag} {mg : Str → Option Value}
theorem sim_gStr {r : R2} {f : Str → Str → Option PyData} (h : ∀ i j d, f i j = some d → i.length ≤ sizeLine → j.length ≤ sizeLine → ∀ (H : Hp) (Q : VK), (∀ v, Dt K (fun _ => none) v d → Q v H) → r (.str i) (.str j) H Q) (hs : ∀ i j d, f i j = some d → fits d) : Sim2 K mg r (gStr f) := by
  intro w H0 Hb0 as Hb H M σ x y xv yv R1 wx wy Q gd
  cases x with
  | d x =>
    cases x with
    | str i =>
      cases y with
      | d y =>
        cases y with
        | str j =>
          obtain ⟨rfl, l1⟩ := wr_str_of wx
          obtain ⟨rfl, l2⟩ := wr_str_of wy
          cases e : f i j with
          | none => simp only [gStr, e] at gd; exact gd.elim
          | some d =>
            simp only [gStr, e] at gd
            exact h i j d e l1 l2 H Q fun v hv => Good.ok gd R1 ⟨Dt.mono (fun _ _ z => by cases z) d v hv, hs i j d e⟩
        | _ => exact gd.elim
      | r i => exact gd.elim
      | k u => exact gd.elim
    | _ => exact gd.elim
  | r i => exact gd.elim
  | k u => exact gd.elim
def gAddS := gStr fun i j => if i.length + j.length ≤ sizeLine then some (.str (i ++ j)) else none
def gLtS := gStr fun i j => some (.bool (decide (i.cps.toList < j.cps.toList)))
def gLeS := gStr fun i j => some (.bool (!decide (j.cps.toList < i.cps.toList)))
def gGtS := gStr fun i j => some (.bool (decide (j.cps.toList < i.cps.toList)))
def gGeS := gStr fun i j => some (.bool (!decide (i.cps.toList < j.cps.toList)))
def gInS := gStr fun i j => some (.bool (!(Builtin.Str.occurrences j i 0 j.length 1).isEmpty))
def gNinS := gStr fun i j => some (.bool (!(!(Builtin.Str.occurrences j i 0 j.length 1).isEmpty)))
theorem str_len_app (a b : Str) : (a ++ b).length = a.length + b.length := by
  show (a.cps ++ b.cps).size = a.cps.size + b.cps.size
  exact Array.size_append
theorem s_addS : Sim2 K mg (fun x y H Q => ∃ i j, x = .str i ∧ y = .str j ∧ i.length + j.length ≤ sizeLine ∧ Q (.str (i ++ j)) H) gAddS := sim_gStr (fun i j d e l1 l2 H Q q => by
    split at e
    · rename_i hc; cases e; exact ⟨i, j, rfl, rfl, hc, q _ (.str _)⟩
    · cases e) fun i j _ e => by
    split at e
    · rename_i hc; cases e; show (i ++ j).length ≤ sizeLine; rw [str_len_app]; exact hc
    · cases e
theorem s_ltS : Sim2 K mg (fun x y H Q => ∃ i j, x = .str i ∧ y = .str j ∧ Q (.bl (decide (i.cps.toList < j.cps.toList))) H) gLtS := sim_gStr (fun i j d e _ _ H Q q => ⟨i, j, rfl, rfl, by cases e; exact q _ (.bl _)⟩) fun _ _ _ e => by cases e; trivial
theorem s_leS : Sim2 K mg (fun x y H Q => ∃ i j, x = .str i ∧ y = .str j ∧ Q (.bl (!decide (j.cps.toList < i.cps.toList))) H) gLeS := sim_gStr (fun i j d e _ _ H Q q => ⟨i, j, rfl, rfl, by cases e; exact q _ (.bl _)⟩) fun _ _ _ e => by cases e; trivial
theorem s_gtS : Sim2 K mg (fun x y H Q => ∃ i j, x = .str i ∧ y = .str j ∧ Q (.bl (decide (j.cps.toList < i.cps.toList))) H) gGtS := sim_gStr (fun i j d e _ _ H Q q => ⟨i, j, rfl, rfl, by cases e; exact q _ (.bl _)⟩) fun _ _ _ e => by cases e; trivial
theorem s_geS : Sim2 K mg (fun x y H Q => ∃ i j, x = .str i ∧ y = .str j ∧ Q (.bl (!decide (i.cps.toList < j.cps.toList))) H) gGeS := sim_gStr (fun i j d e _ _ H Q q => ⟨i, j, rfl, rfl, by cases e; exact q _ (.bl _)⟩) fun _ _ _ e => by cases e; trivial
theorem s_inS : Sim2 K mg (fun x y H Q => ∃ i j, x = .str i ∧ y = .str j ∧ Q (.bl (!(Builtin.Str.occurrences j i 0 j.length 1).isEmpty)) H) gInS := sim_gStr (fun i j d e _ _ H Q q => ⟨i, j, rfl, rfl, by cases e; exact q _ (.bl _)⟩) fun _ _ _ e => by cases e; trivial
theorem s_ninS : Sim2 K mg (fun x y H Q => ∃ i j, x = .str i ∧ y = .str j ∧ Q (.bl (!(!(Builtin.Str.occurrences j i 0 j.length 1).isEmpty))) H) gNinS := sim_gStr (fun i j d e _ _ H Q q => ⟨i, j, rfl, rfl, by cases e; exact q _ (.bl _)⟩) fun _ _ _ e => by cases e; trivial
/-- is True, is not True -/
def gIsB (neg : Bool) : W → W → Ms → R W := fun x y M => match x, y with
  | .d (.bool a), .d (.bool b) => .ok (.d (.bool (xor neg (decide (a = b))))) M
  | _, _ => .stuck
theorem s_isB : Sim2 K mg rIsB (gIsB false) := by
  intro w H0 Hb0 as Hb H M σ x y xv yv R1 wx wy Q gd
  cases x with
  | d x =>
    cases x with
    | bool a =>
      cases y with
      | d y =>
        cases y with
        | bool b =>
          obtain rfl := wr_bl_of wx
          obtain rfl := wr_bl_of wy
          refine ⟨a, b, rfl, rfl, Good.ok gd R1 ?_⟩
          rw [Bool.false_xor]
          exact wr_bl _
        | _ => exact gd.elim
      | r i => exact gd.elim
      | k u => exact gd.elim
    | _ => exact gd.elim
  | r i => exact gd.elim
  | k u => exact gd.elim
theorem s_isBn : Sim2 K mg rNotB (gIsB true) := by
  intro w H0 Hb0 as Hb H M σ x y xv yv R1 wx wy Q gd
  cases x with
  | d x =>
    cases x with
    | bool a =>
      cases y with
      | d y =>
        cases y with
        | bool b =>
          obtain rfl := wr_bl_of wx
          obtain rfl := wr_bl_of wy
          refine ⟨a, b, rfl, rfl, Good.ok gd R1 ?_⟩
          rw [Bool.true_xor]
          exact wr_bl _
        | _ => exact gd.elim
      | r i => exact gd.elim
      | k u => exact gd.elim
    | _ => exact gd.elim
  | r i => exact gd.elim
  | k u => exact gd.elim

/-! ### lists, tuples put together -/
def catW (M : Ms) (x y : W) : Option (List W) := match itemsL M x, itemsL M y with
  | some a, some b => if a.length + b.length ≤ sizeLine then some (a ++ b) else none
  | _, _ => none
theorem catW_ok {H0 Hb0 Hb H : Hp} {as : List Addr} {M : Ms} {x y : W} {xv yv : V} {ws : List W} (R1 : Rel K H0 Hb0 as Hb H M) (wx : WR K as Hb xv x) (wy : WR K as Hb yv y) (e : catW M x y = some ws) {Q : VK}
    (h : ∀ p vs, H p = none → WRs K as Hb vs ws → ws.length ≤ sizeLine → Q (.ref p) (upd H p (.lst vs))) : rCat xv yv H Q := by
  unfold catW at e
  cases e1 : itemsL M x with
  | none => rw [e1] at e; cases e
  | some a =>
    cases e2 : itemsL M y with
    | none => rw [e1, e2] at e; cases e
    | some b =>
      rw [e1, e2] at e
      obtain ⟨l, vs, rfl, h1, r1, z1⟩ := itemsL_ok R1 wx e1
      obtain ⟨l2, us, rfl, h2, r2, z2⟩ := itemsL_ok R1 wy e2
      by_cases hc : a.length + b.length ≤ sizeLine
      · simp only [hc, if_true, Option.some.injEq] at e
        subst e
        have hl1 : vs.length = a.length := Paired.len r1
        have hl2 : us.length = b.length := Paired.len r2
        exact ⟨l, l2, vs, us, rfl, rfl, h1, h2, by rw [hl1, hl2]; exact hc, fun p hp => h p _ hp (Paired.app r1 r2) (by rw [List.length_append]; exact hc)⟩
      · simp only [hc, if_false] at e
        cases e
def pCat (a b : PEx) : PAx := fun s M => (a s M).bind fun x M1 => (b s M1).bind fun y M2 => match catW M2 x y with
  | some ws => .ok ws M2
  | none => .stuck
def gCatL : W → W → Ms → R W := fun x y M => match catW M x y with
  | some ws => (match allD ws with
    | some ds => .ok (.d (.list ds)) M
    | none => .stuck)
  | none => .stuck
theorem s_catL : Sim2 K mg rCat gCatL := by
  intro w H0 Hb0 as Hb H M σ x y xv yv R1 wx wy Q gd
  unfold gCatL at gd
  cases e : catW M x y with
  | none => rw [e] at gd; exact gd.elim
  | some ws =>
    rw [e] at gd
    refine catW_ok R1 wx wy e fun p vs hp wr z => ?_
    cases hd : allD ws with
    | none => simp only [hd] at gd; exact gd.elim
    | some ds =>
      simp only [hd] at gd
      have hbn := R1.hbn hp
      have dz := allD_ok wr hd
      have hl : ws.length = ds.length := (Paired.len wr).symm.trans (Paired.len dz)
      exact Good.ok (Good.mono (fut_new hbn) gd) (R1.newData hp) (dz_lst upd_same (dzAll_mono (same_new hbn) dz) (hl ▸ z))
def gCatT : W → W → Ms → R W := fun x y M => match x, y with
  | .d (.tuple a), .d (.tuple b) => if a ≠ [] ∧ a.length + b.length ≤ sizeLine then .ok (.d (.tuple (a ++ b))) M else .stuck
  | _, _ => .stuck
theorem s_catT : Sim2 K mg (rCatT K) gCatT := by
  intro w H0 Hb0 as Hb H M σ x y xv yv R1 wx wy Q gd
  cases x with
  | d x =>
    cases x with
    | tuple a =>
      cases y with
      | d y =>
        cases y with
        | tuple b =>
          by_cases hc : a ≠ [] ∧ a.length + b.length ≤ sizeLine
          · have gd' : Good (repW K) K mg w H0 Hb0 as Hb σ Q (.ok (.d (.tuple (a ++ b))) M) := by
              have : gCatT (.d (.tuple a)) (.d (.tuple b)) M = .ok (.d (.tuple (a ++ b))) M := if_pos hc
              rw [← this]; exact gd
            obtain ⟨h1, f1⟩ := wx
            obtain ⟨h2, f2⟩ := wy
            cases h1 with
            | tup s1 d1 =>
              cases h2 with
              | tup s2 d2 =>
                have z1 := dzAll_of d1 f1.2
                have z2 := dzAll_of d2 f2.2
                have l1 := Paired.len z1
                have l2 := Paired.len z2
                refine ⟨_, _, _, _, rfl, rfl, same_t R1.sub s1, same_t R1.sub s2, fun e => hc.1 ?_, by rw [l1, l2]; exact hc.2, fun e => ?_, fun _ p hp => ?_⟩
                · rw [e] at l1; exact List.eq_nil_of_length_eq_zero l1.symm
                · have eb : b = [] := by rw [e] at l2; exact List.eq_nil_of_length_eq_zero l2.symm
                  subst eb
                  rw [List.append_nil] at gd'
                  exact Good.ok gd' R1 ⟨.tup s1 d1, f1⟩
                · have hbn := R1.hbn hp
                  exact Good.ok (Good.mono (fut_new hbn) gd') (R1.newData hp) (dz_tup (SqT.of upd_same) (dzAll_mono (same_new hbn) (Paired.app z1 z2)) (by rw [List.length_append]; exact hc.2))
          · have : gCatT (.d (.tuple a)) (.d (.tuple b)) M = .stuck := if_neg hc
            rw [this] at gd
            exact gd.elim
        | _ => exact gd.elim
      | r i => exact gd.elim
      | k u => exact gd.elim
    | _ => exact gd.elim
  | r i => exact gd.elim
  | k u => exact gd.elim
/-- x in xs, by == of data -/
def gInD (neg : Bool) : W → W → Ms → R W := fun x y M => match view M x, view M y with
  | some d, some (.list ds) => if SeqAt.shaped d = true ∧ SeqAt.shaped (.list ds) = true then .ok (.d (.bool (xor neg (ds.any fun z => PyData.eqv z d)))) M else .stuck
  | _, _ => .stuck
theorem s_inD : Sim2 K mg (rInD K) (gInD false) := by
  intro w H0 Hb0 as Hb H M σ x y xv yv R1 wx wy Q gd
  unfold gInD at gd
  cases ex : view M x with
  | none => rw [ex] at gd; exact gd.elim
  | some d =>
    cases ey : view M y with
    | none => rw [ex, ey] at gd; exact gd.elim
    | some e =>
      rw [ex, ey] at gd
      cases e with
      | list ds =>
        by_cases hc : SeqAt.shaped d = true ∧ SeqAt.shaped (.list ds) = true
        · simp only [hc, and_self, if_true, Bool.false_xor] at gd
          exact ⟨d, ds, Dt.dp d _ (view_ok R1 wx ex).1, Dt.dp _ _ (view_ok R1 wy ey).1, hc.1, hc.2, Good.ok gd R1 (wr_bl _)⟩
        · simp only [hc, if_false] at gd
          exact gd.elim
      | _ => exact gd.elim
theorem s_ninD : Sim2 K mg (rNotInD K) (gInD true) := by
  intro w H0 Hb0 as Hb H M σ x y xv yv R1 wx wy Q gd
  unfold gInD at gd
  cases ex : view M x with
  | none => rw [ex] at gd; exact gd.elim
  | some d =>
    cases ey : view M y with
    | none => rw [ex, ey] at gd; exact gd.elim
    | some e =>
      rw [ex, ey] at gd
      cases e with
      | list ds =>
        by_cases hc : SeqAt.shaped d = true ∧ SeqAt.shaped (.list ds) = true
        · simp only [hc, and_self, if_true, Bool.true_xor] at gd
          exact ⟨d, ds, Dt.dp d _ (view_ok R1 wx ex).1, Dt.dp _ _ (view_ok R1 wy ey).1, hc.1, hc.2, Good.ok gd R1 (wr_bl _)⟩
        · simp only [hc, if_false] at gd
          exact gd.elim
      | _ => exact gd.elim

/-! ### xs[i], t[i], s[i]; xs[a:b] -/
def gIx : W → W → Ms → R W := fun x y M => match y with
  | .d (.int i) => (match itemsL M x with
    | some ws => (match atI ws i with
      | some u => .ok u M
      | none => .stuck)
    | none => (match itemsT x with
      | some ws => (match atI ws i with
        | some u => .ok u M
        | none => .stuck)
      | none => (match x with
        | .d (.str z) => (match atI z.cps.toList i with
          | some c => .ok (.d (.str ⟨#[c]⟩)) M
          | none => .stuck)
        | _ => .stuck)))
  | _ => .stuck
theorem atI_at {as : List Addr} {Hb : Hp} {vs : List V} {ws : List W} {i : Int} {u : W} (h : WRs K as Hb vs ws) (e : atI ws i = some u) : ∃ v, atI vs i = some v ∧ WR K as Hb v u := by
  unfold atI at e ⊢
  rw [Paired.len h]
  cases hx : ixN ws.length i with
  | none => rw [hx] at e; cases e
  | some j =>
    rw [hx] at e
    have e' : ws[j]? = some u := e
    exact Paired.at h e'
theorem one_fits (c : Nat) : (⟨#[c]⟩ : Str).length ≤ sizeLine := by
  show 1 ≤ sizeLine
  decide
theorem s_ix : Sim2 K mg (rIx K) gIx := by
  intro w H0 Hb0 as Hb H M σ x y xv yv R1 wx wy Q gd
  cases y with
  | d y =>
    cases y with
    | int i =>
      obtain rfl := wr_int_of wy
      cases e1 : itemsL M x with
      | some ws =>
        simp only [gIx, e1] at gd
        obtain ⟨a, vs, rfl, h1, r1, z1⟩ := itemsL_ok R1 wx e1
        cases e2 : atI ws i with
        | none => simp only [e2] at gd; exact gd.elim
        | some u =>
          simp only [e2] at gd
          obtain ⟨v, hv, wv⟩ := atI_at r1 e2
          exact .inl ⟨a, vs, i, v, rfl, rfl, SqL.of h1, hv, Good.ok gd R1 wv⟩
      | none =>
        cases e3 : itemsT x with
        | some ws =>
          simp only [gIx, e1, e3] at gd
          obtain ⟨a, vs, rfl, h1, r1, z1⟩ := itemsT_ok R1 wx e3
          cases e2 : atI ws i with
          | none => simp only [e2] at gd; exact gd.elim
          | some u =>
            simp only [e2] at gd
            obtain ⟨v, hv, wv⟩ := atI_at r1 e2
            exact .inr (.inl ⟨a, vs, i, v, rfl, rfl, h1, hv, Good.ok gd R1 wv⟩)
        | none =>
          simp only [gIx, e1, e3] at gd
          cases x with
          | d x =>
            cases x with
            | str z =>
              obtain ⟨rfl, l⟩ := wr_str_of wx
              cases e2 : atI z.cps.toList i with
              | none => simp only [e2] at gd; exact gd.elim
              | some c =>
                simp only [e2] at gd
                exact .inr (.inr ⟨z, i, c, rfl, rfl, l, e2, Good.ok gd R1 (wr_str (one_fits c))⟩)
            | _ => exact gd.elim
          | r i => exact gd.elim
          | k u => exact gd.elim
    | _ => exact gd.elim
  | r i => exact gd.elim
  | k u => exact gd.elim
end
section
variable {X : Cx} {w : WX} {a b : Expr} {pa pb : PEx} {pos : Pos}
theorem je_ix (ha : JE X w a pa) (hb : JE X w b pb) (hs : PlainIx b := by intro _ _; rfl) : JE X w (.Subscript a b pos) (pOp gIx pa pb) := by
  obtain ⟨ta, ea, sa⟩ := ha
  obtain ⟨tb, eb, sb⟩ := hb
  exact ⟨_, pe_ix ix_seq ea eb hs, sim_op sa sb s_ix⟩
/-- a new list xs + ys -/
theorem jl_cat (ha : JE X w a pa) (hb : JE X w b pb) : JL X w (.BinOp a .Add b pos) (pCat pa pb) := by
  obtain ⟨ta, ea, sa⟩ := ha
  obtain ⟨tb, eb, sb⟩ := hb
  refine ⟨_, pe_op op_cat ea eb, fun H0 Hb0 as Hb H M σ s r0 S Q gd => ?_⟩
  refine Good.bind sa r0 S gd fun x x' as1 Hb1 H1 M1 r1 f1 S1 w1 g1 => ?_
  refine Good.bind sb r1 S1 g1 fun y y' as2 Hb2 H2 M2 r2 f2 S2 w2 g2 => ?_
  cases e : catW M2 x' y' with
  | none => rw [e] at g2; exact g2.elim
  | some ws =>
    rw [e] at g2
    exact catW_ok r2 (WR.mono f2 w1) w2 e fun p vs hp wr z => Good.ok g2 (r2.newAny hp) ⟨p, vs, rfl, upd_same, z, wr, fun hm => r2.al p hm hp, r2.hbn hp, r2.h0n hp⟩
/-! slices -/
def pNo : Sl → Ms → R (Option Int) := fun _ M => .ok none M
def pSo (p : PEx) : Sl → Ms → R (Option Int) := fun s M => (p s M).bind fun x M1 => match x with
  | .d (.int i) => .ok (some i) M1
  | _ => .stuck
theorem jo_none : JO X w none pNo := ⟨_, po_none, fun H0 Hb0 as Hb H M σ s r S Q g => g.ok r rfl⟩
theorem jo_some (h : JE X w a pa) : JO X w (some a) (pSo pa) := by
  obtain ⟨ta, ea, sa⟩ := h
  refine ⟨_, po_some ea, fun H0 Hb0 as Hb H M σ s r0 S Q gd => ?_⟩
  refine Good.bind sa r0 S gd fun x x' as1 Hb1 H1 M1 r1 f1 S1 w1 g1 => ?_
  cases x' with
  | d z =>
    cases z with
    | int i =>
      obtain rfl := wr_int_of w1
      exact ⟨i, rfl, Good.ok g1 r1 rfl⟩
    | _ => exact (show False from g1).elim
  | r i => exact (show False from g1).elim
  | k u => exact (show False from g1).elim
def cutW {α : Type} (xs : List α) (lo hi : Option Int) : List α := (xs.drop (HT.sIx xs.length 0 lo)).take (HT.sIx xs.length xs.length hi - HT.sIx xs.length 0 lo)
theorem cut_ok {K : PySem.W.Frag} {as : List Addr} {Hb : Hp} {vs : List V} {ws : List W} (h : WRs K as Hb vs ws) (lo hi : Option Int) : WRs K as Hb (cutV vs lo hi) (cutW ws lo hi) := by
  unfold cutV cutW
  rw [Paired.len h]
  exact Paired.tk _ (Paired.dr _ h)
theorem cutW_len {α : Type} (xs : List α) (lo hi : Option Int) : (cutW xs lo hi).length ≤ xs.length := by
  unfold cutW
  rw [List.length_take, List.length_drop]
  omega
/-- xs[a:b], a new list -/
def pSlL (p : PEx) (l h : Sl → Ms → R (Option Int)) : PAx := fun s M => (p s M).bind fun x M1 => (l s M1).bind fun lo M2 => (h s M2).bind fun hi M3 => match itemsL M3 x with
  | some ws => .ok (cutW ws lo hi) M3
  | none => .stuck
theorem jl_slice {lo hi : Option Expr} {pl ph : Sl → Ms → R (Option Int)} {p2 : Pos} (ha : JE X w a pa) (hl : JO X w lo pl) (hh : JO X w hi ph) : JL X w (.Subscript a (.Slice lo hi none p2) pos) (pSlL pa pl ph) := by
  obtain ⟨ta, ea, sa⟩ := ha
  obtain ⟨tl, el, sl⟩ := hl
  obtain ⟨th, eh, sh⟩ := hh
  refine ⟨_, pe_slice sl_list ea el eh, fun H0 Hb0 as Hb H M σ s r0 S Q gd => ?_⟩
  refine Good.bind sa r0 S gd fun x x' as1 Hb1 H1 M1 r1 f1 S1 w1 g1 => ?_
  refine Good.bind sl r1 S1 g1 fun lo' lo'' as2 Hb2 H2 M2 r2 f2 S2 w2 g2 => ?_
  refine Good.bind sh r2 S2 g2 fun hi' hi'' as3 Hb3 H3 M3 r3 f3 S3 w3 g3 => ?_
  obtain rfl : lo' = lo'' := w2
  obtain rfl : hi' = hi'' := w3
  cases e : itemsL M3 x' with
  | none => rw [e] at g3; exact g3.elim
  | some ws =>
    rw [e] at g3
    obtain ⟨q, vs, rfl, h1, wr, z⟩ := itemsL_ok r3 (WR.mono (f2.trans f3) w1) e
    refine ⟨q, vs, rfl, SqL.of h1, fun p hp => ?_⟩
    exact Good.ok g3 (r3.newAny hp) ⟨p, _, rfl, upd_same, Nat.le_trans (cutW_len ws lo' hi') z, cut_ok wr lo' hi', fun hm => r3.al p hm hp, r3.hbn hp, r3.h0n hp⟩
/-- t[a:b], not the whole -/
def pSlT (p : PEx) (l h : Sl → Ms → R (Option Int)) : PEx := fun s M => (p s M).bind fun x M1 => (l s M1).bind fun lo M2 => (h s M2).bind fun hi M3 => match x with
  | .d (.tuple ds) => if HT.sIx ds.length 0 lo = 0 ∧ HT.sIx ds.length ds.length hi = ds.length then .stuck else .ok (.d (.tuple (cutW ds lo hi))) M3
  | _ => .stuck
theorem cutD_ok {K : PySem.W.Frag} {Hb : Hp} {vs : List V} {ws : List PyData} (h : DzAll K Hb vs ws) (lo hi : Option Int) : DzAll K Hb (cutV vs lo hi) (cutW ws lo hi) := by
  unfold cutV cutW
  rw [Paired.len h]
  exact Paired.tk _ (Paired.dr _ h)
theorem je_sliceT {lo hi : Option Expr} {pl ph : Sl → Ms → R (Option Int)} {p2 : Pos} (ha : JE X w a pa) (hl : JO X w lo pl) (hh : JO X w hi ph) : JE X w (.Subscript a (.Slice lo hi none p2) pos) (pSlT pa pl ph) := by
  obtain ⟨ta, ea, sa⟩ := ha
  obtain ⟨tl, el, sl⟩ := hl
  obtain ⟨th, eh, sh⟩ := hh
  refine ⟨_, pe_slice sl_tup ea el eh, fun H0 Hb0 as Hb H M σ s r0 S Q gd => ?_⟩
  refine Good.bind sa r0 S gd fun x x' as1 Hb1 H1 M1 r1 f1 S1 w1 g1 => ?_
  refine Good.bind sl r1 S1 g1 fun lo' lo'' as2 Hb2 H2 M2 r2 f2 S2 w2 g2 => ?_
  refine Good.bind sh r2 S2 g2 fun hi' hi'' as3 Hb3 H3 M3 r3 f3 S3 w3 g3 => ?_
  obtain rfl : lo' = lo'' := w2
  obtain rfl : hi' = hi'' := w3
  cases x' with
  | d z =>
    cases z with
    | tuple ds =>
      have w1' : WR X.K as3 Hb3 x (.d (.tuple ds)) := WR.mono (f2.trans f3) w1
      obtain ⟨h1, ff⟩ := w1'
      cases h1 with
      | tup hs ha =>
        rename_i q vs
        have dz := dzAll_of ha ff.2
        have hl := Paired.len dz
        by_cases hc : HT.sIx ds.length 0 lo' = 0 ∧ HT.sIx ds.length ds.length hi' = ds.length
        · simp only [hc, and_self, if_true] at g3
          exact g3.elim
        · simp only [hc, if_false] at g3
          refine ⟨q, vs, rfl, same_t r3.sub hs, by rw [hl]; exact hc, fun p hp => ?_⟩
          have hbn := r3.hbn hp
          exact Good.ok (Good.mono (fut_new hbn) g3) (r3.newData hp) (dz_tup (SqT.of upd_same) (dzAll_mono (same_new hbn) (cutD_ok dz lo' hi')) (Nat.le_trans (cutW_len ds lo' hi') ff.1))
    | _ => exact (show False from g3).elim
  | r i => exact (show False from g3).elim
  | k u => exact (show False from g3).elim
/-- s[a:b] -/
def pSlS (p : PEx) (l h : Sl → Ms → R (Option Int)) : PEx := fun s M => (p s M).bind fun x M1 => (l s M1).bind fun lo M2 => (h s M2).bind fun hi M3 => match x with
  | .d (.str z) => if (cutS z lo hi).length ≤ sizeLine then .ok (.d (.str (cutS z lo hi))) M3 else .stuck
  | _ => .stuck
theorem je_sliceS {lo hi : Option Expr} {pl ph : Sl → Ms → R (Option Int)} {p2 : Pos} (ha : JE X w a pa) (hl : JO X w lo pl) (hh : JO X w hi ph) : JE X w (.Subscript a (.Slice lo hi none p2) pos) (pSlS pa pl ph) := by
  obtain ⟨ta, ea, sa⟩ := ha
  obtain ⟨tl, el, sl⟩ := hl
  obtain ⟨th, eh, sh⟩ := hh
  refine ⟨_, pe_slice sl_str ea el eh, fun H0 Hb0 as Hb H M σ s r0 S Q gd => ?_⟩
  refine Good.bind sa r0 S gd fun x x' as1 Hb1 H1 M1 r1 f1 S1 w1 g1 => ?_
  refine Good.bind sl r1 S1 g1 fun lo' lo'' as2 Hb2 H2 M2 r2 f2 S2 w2 g2 => ?_
  refine Good.bind sh r2 S2 g2 fun hi' hi'' as3 Hb3 H3 M3 r3 f3 S3 w3 g3 => ?_
  obtain rfl : lo' = lo'' := w2
  obtain rfl : hi' = hi'' := w3
  cases x' with
  | d z =>
    cases z with
    | str z =>
      obtain ⟨rfl, l⟩ := wr_str_of w1
      by_cases hc : (cutS z lo' hi').length ≤ sizeLine
      · simp only [hc, if_true] at g3
        exact ⟨z, rfl, l, Good.ok g3 r3 (wr_str hc)⟩
      · simp only [hc, if_false] at g3
        exact g3.elim
    | _ => exact (show False from g3).elim
  | r i => exact (show False from g3).elim
  | k u => exact (show False from g3).elim
/-- either derivation -/
theorem PE.or {e : Expr} {t u : TE} (h : PE X e t) (h' : PE X e u) : PE X e (fun σ H Q => t σ H Q ∨ u σ H Q) := ⟨fun pins s σ H Q I q => q.elim (h.run pins s σ H Q I) (h'.run pins s σ H Q I)⟩
def pOr (p q : PEx) : PEx := fun s M => (p s M).or (q s M)
theorem je_or (ha : JE X w a pa) (hb : JE X w a pb) : JE X w a (pOr pa pb) := by
  obtain ⟨ta, ea, sa⟩ := ha
  obtain ⟨tb, eb, sb⟩ := hb
  refine ⟨_, PE.or ea eb, fun H0 Hb0 as Hb H M σ s r0 S Q gd => ?_⟩
  unfold pOr at gd
  cases e : pa s M with
  | stuck => rw [e] at gd; exact .inr (sb H0 Hb0 as Hb H M σ s r0 S Q gd)
  | ok u m => refine .inl (sa H0 Hb0 as Hb H M σ s r0 S Q ?_); rw [e] at gd ⊢; exact gd
  | exc u m => refine .inl (sa H0 Hb0 as Hb H M σ s r0 S Q ?_); rw [e] at gd ⊢; exact gd
end
end Z

set_option linter.all false
set_option autoImplicit false
set_option maxRecDepth 100000
set_option maxHeartbeats 4000000
namespace Z
open PySem PySem.Spec PyProof.Rows L2

/-! ### truth -/
def truth (M : Ms) : W → Option Bool
  | .d .none => some false
  | .d (.bool b) => some b
  | .d (.int i) => some (i != 0)
  | .d (.str s) => some ((s.length : Int) != 0)
  | .d (.list xs) => some (!xs.isEmpty)
  | .d (.tuple xs) => some (!xs.isEmpty)
  | .d (.dict _) => none
  | .r i => match M[i]? with
    | some (.lst ws) => some (!ws.isEmpty)
    | some (.dic false kvs) => some (!kvs.isEmpty)
    | _ => none
  | .k _ => none
theorem emp_of {α β : Type} {F : α → β → Prop} {l : List α} {m : List β} (h : Paired F l m) : l.isEmpty = m.isEmpty := by
  cases h <;> rfl
section
variable {K : PySem.W.Frag} {mg : Str → Option Value}
theorem truth_ok {H0 Hb0 Hb H : Hp} {as : List Addr} {M : Ms} {x : W} {v : V} {b : Bool} (r : Rel K H0 Hb0 as Hb H M) (h : WR K as Hb v x) (e : truth M x = some b) : TruV K v H b := by
  cases x with
  | d y =>
    cases y with
    | none => obtain rfl := wr_non_of h; simp only [truth, Option.some.injEq] at e; exact e.symm
    | bool b' => obtain rfl := wr_bl_of h; simp only [truth, Option.some.injEq] at e; exact e.symm
    | int i => obtain rfl := wr_int_of h; simp only [truth, Option.some.injEq] at e; exact e.symm
    | str s => obtain ⟨rfl, l⟩ := wr_str_of h; simp only [truth, Option.some.injEq] at e; exact ⟨l, e.symm⟩
    | list xs =>
      simp only [truth, Option.some.injEq] at e
      obtain ⟨h1, f1⟩ := h
      cases h1 with
      | lst hs ha => exact .inl ⟨_, SqL.of (r.sub _ _ hs), by rw [emp_of (dzAll_of ha f1.2)]; exact e.symm⟩
    | tuple xs =>
      simp only [truth, Option.some.injEq] at e
      obtain ⟨h1, f1⟩ := h
      cases h1 with
      | tup hs ha => exact .inr (.inl ⟨_, same_t r.sub hs, by rw [emp_of (dzAll_of ha f1.2)]; exact e.symm⟩)
    | dict _ => simp [truth] at e
  | r i =>
    obtain ⟨a, h1, rfl⟩ := h
    simp only [truth] at e
    cases hm : M[i]? with
    | none => rw [hm] at e; simp at e
    | some o =>
      rw [hm] at e
      cases o with
      | lst ws =>
        simp only [Option.some.injEq] at e
        obtain ⟨z, vs, h2, h3⟩ := r.at' i a _ h1 hm
        exact .inl ⟨vs, SqL.of h2, by rw [emp_of h3]; exact e.symm⟩
      | dic t kvs =>
        cases t with
        | true => simp at e
        | false =>
          simp only [Option.some.injEq] at e
          obtain ⟨z, u, h2, vs, rfl, h3⟩ := r.at' i a _ h1 hm
          exact .inr (.inr ⟨vs, h2, by rw [emp_of h3]; exact e.symm⟩)
      | dlk _ _ => simp at e
      | ins _ _ => simp at e
      | gone => simp at e
  | k u => simp [truth] at e
end
def pTru (p : PEx) : PTx := fun s M => (p s M).bind fun x M1 => match truth M1 x with
  | some b => .ok b M1
  | none => .stuck
def pAndT (p q : PTx) : PTx := fun s M => (p s M).bind fun b M1 => if b = true then q s M1 else .ok false M1
def pOrT (p q : PTx) : PTx := fun s M => (p s M).bind fun b M1 => if b = true then .ok true M1 else q s M1
def pNotT (p : PTx) : PTx := fun s M => (p s M).bind fun b M1 => .ok (!b) M1
/-- x and y, x or y as values, not x -/
def pAndV (p q : PEx) : PEx := fun s M => (p s M).bind fun x M1 => match truth M1 x with
  | some true => q s M1
  | some false => .ok x M1
  | none => .stuck
def pOrV (p q : PEx) : PEx := fun s M => (p s M).bind fun x M1 => match truth M1 x with
  | some true => .ok x M1
  | some false => q s M1
  | none => .stuck
def pNotV (p : PEx) : PEx := fun s M => (p s M).bind fun x M1 => match truth M1 x with
  | some b => .ok (.d (.bool (!b))) M1
  | none => .stuck
def pIfE (c : PTx) (p q : PEx) : PEx := fun s M => (c s M).bind fun b M1 => if b = true then p s M1 else q s M1
def pNeg (p : PEx) : PEx := fun s M => (p s M).bind fun x M1 => match x with
  | .d (.int i) => .ok (.d (.int (-i))) M1
  | _ => .stuck
section
variable {X : Cx} {w : WX} {a b c : Expr} {rest : List Expr} {pa pb : PEx} {ta tb : PTx} {pos : Pos}
theorem jt_tru (h : JE X w a pa) (he : ∀ whole, isTrue a X.env whole = (do let v ← whole; standAt a.pos; holding [v] (truthy v)) := by intro _; rfl) : JT X w a (pTru pa) := by
  obtain ⟨t, ea, sa⟩ := h
  refine ⟨_, pt_truth ea he, fun H0 Hb0 as Hb H M σ s r0 S Q gd => ?_⟩
  refine Good.bind sa r0 S gd fun x x' as1 Hb1 H1 M1 r1 f1 S1 w1 g1 => ?_
  cases e : truth M1 x' with
  | none => rw [e] at g1; exact g1.elim
  | some b => rw [e] at g1; exact ⟨b, truth_ok r1 w1 e, Good.ok g1 r1 rfl⟩
theorem jt_w (h : JW X w a ta) : JT X w a ta := let ⟨t, ea, sa⟩ := h; ⟨t, ea.pt, sa⟩
theorem jw_and1 (h : JT X w a ta) : JW X w (.BoolOp .And [a] pos) ta := let ⟨t, ea, sa⟩ := h; ⟨t, pw_and1 ea, sa⟩
theorem jw_or1 (h : JT X w a ta) : JW X w (.BoolOp .Or [a] pos) ta := let ⟨t, ea, sa⟩ := h; ⟨t, pw_or1 ea, sa⟩
theorem jw_and (ha : JT X w a ta) (hb : JW X w (.BoolOp .And (b :: rest) pos) tb) : JW X w (.BoolOp .And (a :: b :: rest) pos) (pAndT ta tb) := by
  obtain ⟨t, ea, sa⟩ := ha
  obtain ⟨u, eb, sb⟩ := hb
  refine ⟨_, pw_and ea eb, fun H0 Hb0 as Hb H M σ s r0 S Q gd => ?_⟩
  refine Good.bind sa r0 S gd fun x x' as1 Hb1 H1 M1 r1 f1 S1 w1 g1 => ?_
  obtain rfl : x = x' := w1
  cases x with
  | true => rw [if_pos rfl] at g1 ⊢; exact sb _ _ _ _ _ _ _ _ r1 S1 Q g1
  | false => rw [if_neg Bool.false_ne_true] at g1 ⊢; exact Good.ok g1 r1 rfl
theorem jw_or (ha : JT X w a ta) (hb : JW X w (.BoolOp .Or (b :: rest) pos) tb) : JW X w (.BoolOp .Or (a :: b :: rest) pos) (pOrT ta tb) := by
  obtain ⟨t, ea, sa⟩ := ha
  obtain ⟨u, eb, sb⟩ := hb
  refine ⟨_, pw_or ea eb, fun H0 Hb0 as Hb H M σ s r0 S Q gd => ?_⟩
  refine Good.bind sa r0 S gd fun x x' as1 Hb1 H1 M1 r1 f1 S1 w1 g1 => ?_
  obtain rfl : x = x' := w1
  cases x with
  | true => rw [if_pos rfl] at g1 ⊢; exact Good.ok g1 r1 rfl
  | false => rw [if_neg Bool.false_ne_true] at g1 ⊢; exact sb _ _ _ _ _ _ _ _ r1 S1 Q g1
theorem jt_not (ha : JT X w a ta) : JT X w (.UnaryOp .Not a pos) (pNotT ta) := by
  obtain ⟨t, ea, sa⟩ := ha
  refine ⟨_, pt_not ea, fun H0 Hb0 as Hb H M σ s r0 S Q gd => ?_⟩
  refine Good.bind sa r0 S gd fun x x' as1 Hb1 H1 M1 r1 f1 S1 w1 g1 => ?_
  obtain rfl : x = x' := w1
  exact Good.ok g1 r1 rfl
theorem je_and1 (h : JE X w a pa) : JE X w (.BoolOp .And [a] pos) pa := let ⟨t, ea, sa⟩ := h; ⟨t, pe_one ea, sa⟩
theorem je_or1 (h : JE X w a pa) : JE X w (.BoolOp .Or [a] pos) pa := let ⟨t, ea, sa⟩ := h; ⟨t, pe_one ea, sa⟩
theorem je_and (ha : JE X w a pa) (hb : JE X w (.BoolOp .And (b :: rest) pos) pb) : JE X w (.BoolOp .And (a :: b :: rest) pos) (pAndV pa pb) := by
  obtain ⟨t, ea, sa⟩ := ha
  obtain ⟨u, eb, sb⟩ := hb
  refine ⟨_, pe_andT ea eb, fun H0 Hb0 as Hb H M σ s r0 S Q gd => ?_⟩
  refine Good.bind sa r0 S gd fun x x' as1 Hb1 H1 M1 r1 f1 S1 w1 g1 => ?_
  cases e : truth M1 x' with
  | none => rw [e] at g1; exact g1.elim
  | some k =>
    refine ⟨k, truth_ok r1 w1 e, ?_⟩
    rw [e] at g1
    cases k with
    | true => rw [if_pos rfl]; exact sb _ _ _ _ _ _ _ _ r1 S1 Q g1
    | false => rw [if_neg Bool.false_ne_true]; exact Good.ok g1 r1 w1
theorem je_orv (ha : JE X w a pa) (hb : JE X w (.BoolOp .Or (b :: rest) pos) pb) : JE X w (.BoolOp .Or (a :: b :: rest) pos) (pOrV pa pb) := by
  obtain ⟨t, ea, sa⟩ := ha
  obtain ⟨u, eb, sb⟩ := hb
  refine ⟨_, pe_orT ea eb, fun H0 Hb0 as Hb H M σ s r0 S Q gd => ?_⟩
  refine Good.bind sa r0 S gd fun x x' as1 Hb1 H1 M1 r1 f1 S1 w1 g1 => ?_
  cases e : truth M1 x' with
  | none => rw [e] at g1; exact g1.elim
  | some k =>
    refine ⟨k, truth_ok r1 w1 e, ?_⟩
    rw [e] at g1
    cases k with
    | true => rw [if_pos rfl]; exact Good.ok g1 r1 w1
    | false => rw [if_neg Bool.false_ne_true]; exact sb _ _ _ _ _ _ _ _ r1 S1 Q g1
theorem je_not (ha : JE X w a pa) : JE X w (.UnaryOp .Not a pos) (pNotV pa) := by
  obtain ⟨t, ea, sa⟩ := ha
  refine ⟨_, pe_notT ea, fun H0 Hb0 as Hb H M σ s r0 S Q gd => ?_⟩
  refine Good.bind sa r0 S gd fun x x' as1 Hb1 H1 M1 r1 f1 S1 w1 g1 => ?_
  cases e : truth M1 x' with
  | none => rw [e] at g1; exact g1.elim
  | some k => rw [e] at g1; exact ⟨k, truth_ok r1 w1 e, Good.ok g1 r1 (wr_bl _)⟩
/-- not t as a value, by t's test -/
theorem je_neg (ha : JE X w a pa) : JE X w (.UnaryOp .USub a pos) (pNeg pa) := by
  obtain ⟨t, ea, sa⟩ := ha
  refine ⟨_, pe_un un_neg ea, fun H0 Hb0 as Hb H M σ s r0 S Q gd => ?_⟩
  refine Good.bind sa r0 S gd fun x x' as1 Hb1 H1 M1 r1 f1 S1 w1 g1 => ?_
  cases x' with
  | d z =>
    cases z with
    | int i =>
      obtain rfl := wr_int_of w1
      exact ⟨i, rfl, Good.ok g1 r1 (wr_int _)⟩
    | _ => exact (show False from g1).elim
  | r i => exact (show False from g1).elim
  | k u => exact (show False from g1).elim
theorem je_if (hc : JT X w c ta) (ha : JE X w a pa) (hb : JE X w b pb) : JE X w (.IfExp c a b pos) (pIfE ta pa pb) := by
  obtain ⟨t, ec, sc⟩ := hc
  obtain ⟨u, ea, sa⟩ := ha
  obtain ⟨u', eb, sb⟩ := hb
  refine ⟨_, pe_ifExp ec ea eb, fun H0 Hb0 as Hb H M σ s r0 S Q gd => ?_⟩
  refine Good.bind sc r0 S gd fun x x' as1 Hb1 H1 M1 r1 f1 S1 w1 g1 => ?_
  obtain rfl : x = x' := w1
  cases x with
  | true => rw [if_pos rfl] at g1 ⊢; exact sa _ _ _ _ _ _ _ _ r1 S1 Q g1
  | false => rw [if_neg Bool.false_ne_true] at g1 ⊢; exact sb _ _ _ _ _ _ _ _ r1 S1 Q g1
end

/-! ### statements -/
def pSeq (p q : PSx) : PSx := fun s M => match p s M with
  | .nx s1 M1 => q s1 M1
  | o => o
def pNext : PSx := fun s M => .nx s M
def pIf (c : PTx) (p q : PSx) : PSx := fun s M => (c s M).to s fun b M1 => if b = true then p s M1 else q s M1
def pSet (i : Nat) (p : PEx) : PSx := fun s M => (p s M).to s fun x M1 => .nx (s.set i (some x)) M1
def pDrop (p : PEx) : PSx := fun s M => (p s M).to s fun _ M1 => .nx s M1
def pRet (p : PEx) : PSx := fun s M => (p s M).to s fun x M1 => .rt x M1
def pRetN : PSx := fun _ M => .rt (.d .none) M
def pBrk : PSx := fun s M => .bk s M
def pCnt : PSx := fun s M => .ct s M
section
variable {X : Cx} {w : WX} {st : Stmt} {sts : List Stmt} {p q : PSx} {e : Expr} {pe : PEx} {pos : Pos}
theorem jss_nil : JSs X w [] pNext := ⟨_, pss_nil, fun H0 Hb0 as Hb H M σ s r S D g => g.nx r S⟩
theorem js_pass : JS X w (.Pass pos) pNext := ⟨_, ps_pass, fun H0 Hb0 as Hb H M σ s r S D g => g.nx r S⟩
theorem js_brk : JS X w (.Break pos) pBrk := ⟨_, ps_break, fun H0 Hb0 as Hb H M σ s r S D g => g σ as Hb H r Fut.refl S⟩
theorem js_cnt : JS X w (.Continue pos) pCnt := ⟨_, ps_continue, fun H0 Hb0 as Hb H M σ s r S D g => g σ as Hb H r Fut.refl S⟩
theorem sim_seq {K : PySem.W.Frag} {mg : Str → Option Value} {t u : TS} (s1 : SimS K mg w t p) (s2 : SimS K mg w u q) : SimS K mg w (tSeq t u) (pSeq p q) := by
  intro H0 Hb0 as Hb H M σ s r S D g
  refine s1 H0 Hb0 as Hb H M σ s r S { D with nx := u D } ?_
  unfold pSeq at g
  cases h : p s M with
  | nx s' M' =>
    rw [h] at g
    exact fun σ' as' Hb' H' r' f' S' => s2 H0 Hb0 as' Hb' H' M' σ' s' r' S' D (GoodS.mono f' g)
  | rt x M' => rw [h] at g; exact g
  | bk s' M' => rw [h] at g; exact g
  | ct s' M' => rw [h] at g; exact g
  | exc e s' M' => rw [h] at g; exact g
  | stuck => rw [h] at g; exact g
theorem jss_cons (h1 : JS X w st p) (h2 : JSs X w sts q) : JSs X w (st :: sts) (pSeq p q) := by
  obtain ⟨t, e1, s1⟩ := h1
  obtain ⟨u, e2, s2⟩ := h2
  exact ⟨_, pss_cons e1 e2, sim_seq s1 s2⟩
theorem jss_one (h1 : JS X w st p) : JSs X w [st] p := let ⟨t, e1, s1⟩ := h1; ⟨t, pss_one e1, s1⟩
theorem js_expr (h : JE X w e pe) (hs : swapsWith e none pos.line X.env = pure false := by rfl) : JS X w (.Expr e pos) (pDrop pe) := by
  obtain ⟨t, e1, s1⟩ := h
  refine ⟨_, ps_expr e1 hs, fun H0 Hb0 as Hb H M σ s r S D g => ?_⟩
  exact GoodS.bind s1 r S g fun x x' as1 Hb1 H1 M1 r1 f1 S1 w1 g1 => g1.nx r1 S1
theorem js_ret (h : JE X w e pe) : JS X w (.Return (some e) pos) (pRet pe) := by
  obtain ⟨t, e1, s1⟩ := h
  refine ⟨_, ps_ret e1, fun H0 Hb0 as Hb H M σ s r S D g => ?_⟩
  exact GoodS.bind s1 r S g fun x x' as1 Hb1 H1 M1 r1 f1 S1 w1 g1 => g1 x as1 Hb1 H1 r1 Fut.refl w1
theorem js_retN : JS X w (.Return none pos) pRetN := ⟨_, ps_retN, fun H0 Hb0 as Hb H M σ s r S D g => g .non as Hb H r Fut.refl wr_non⟩
theorem js_if {c : Expr} {a b : List Stmt} {pc : PTx} (hc : JT X w c pc) (ha : JSs X w a p) (hb : JSs X w b q) : JS X w (.If c a b pos) (pIf pc p q) := by
  obtain ⟨t, ec, sc⟩ := hc
  obtain ⟨u, ea, sa⟩ := ha
  obtain ⟨u', eb, sb⟩ := hb
  refine ⟨_, ps_if ec ea eb, fun H0 Hb0 as Hb H M σ s r S D g => ?_⟩
  refine GoodS.bind sc r S g fun x x' as1 Hb1 H1 M1 r1 f1 S1 w1 g1 => ?_
  obtain rfl : x = x' := w1
  cases x with
  | true => rw [if_pos rfl] at g1 ⊢; exact sa _ _ _ _ _ _ _ _ r1 S1 D g1
  | false => rw [if_neg Bool.false_ne_true] at g1 ⊢; exact sb _ _ _ _ _ _ _ _ r1 S1 D g1
/-- name = e -/
theorem js_set {i : Nat} {x : Str} {pos' : Pos} (hN : X.N.Nodup) (h : JE X w e pe) (hi : X.N[i]? = some x := by rfl) (hx : Loc X.env.scope x := by first | exact Or.inl rfl | exact Or.inr rfl) (hs : swapsWith e (some (.Name x pos')) pos.line X.env = pure false := by rfl)
    (hf : X.fn x = true ∨ X.env.scope.names.lookup x = some .local := by first | exact .inl rfl | exact .inr rfl) : JS X w (.Assign [.Name x pos'] e pos) (pSet i pe) := by
  obtain ⟨t, e1, s1⟩ := h
  refine ⟨_, ps_set hN hi hx e1 hs hf, fun H0 Hb0 as Hb H M σ s r S D g => ?_⟩
  exact GoodS.bind s1 r S g fun x x' as1 Hb1 H1 M1 r1 f1 S1 w1 g1 => g1.nx r1 (S1.set w1 i)
end

/-! ### targets -/
abbrev PGx := W → Sl → Ms → Option Sl
theorem wipe_set {σ : L2.St} {i : Nat} {o : Option V} : ∀ {vs : List Nat}, i ∈ vs → wipe (σ.set i o) vs = wipe σ vs
  | [], h => by cases h
  | v :: vs, h => by
    unfold wipe
    by_cases e : i ∈ vs
    · rw [wipe_set e]
    · have ev : v = i := by
        rcases List.mem_cons.mp h with z | z
        · exact z.symm
        · exact absurd z e
      subst ev
      have q : ∀ {us : List Nat}, v ∉ us → wipe (σ.set v o) us = (wipe σ us).set v o := by
        intro us
        induction us with
        | nil => intro _; rfl
        | cons u us ih =>
          intro hn
          have h1 : ¬ v = u := fun z => hn (by rw [z]; exact List.mem_cons_self)
          have h2 : v ∉ us := fun z => hn (List.mem_cons_of_mem _ z)
          unfold wipe
          rw [ih h2, List.set_comm _ _ h1]
      rw [q e, List.set_set]
def SimG (K : PySem.W.Frag) (t : TG) (p : PGx) (is : List Nat) : Prop :=
  ∀ (H0 Hb0 : Hp) (as : List Addr) (Hb H : Hp) (M : Ms) (σ : L2.St) (s s' : Sl) (x : W) (v : V), Rel K H0 Hb0 as Hb H M → Slots K as Hb σ s → WR K as Hb v x → p x s M = some s' → ∀ Q : L2.St → Hp → Prop,
    (∀ σ', Slots K as Hb σ' s' → (∀ vs : List Nat, (∀ i ∈ is, i ∈ vs) → wipe σ' vs = wipe σ vs) → Q σ' H) → t v σ H Q
def JG (X : Cx) (e : Expr) (p : PGx) (is : List Nat) : Prop := ∃ t, PG X e t ∧ SimG X.K t p is
def qName (i : Nat) : PGx := fun x s _ => some (s.set i (some x))
abbrev PGsx := List W → Sl → Ms → Option Sl
def SimGs (K : PySem.W.Frag) (t : TGs) (p : PGsx) (is : List Nat) : Prop :=
  ∀ (H0 Hb0 : Hp) (as : List Addr) (Hb H : Hp) (M : Ms) (σ : L2.St) (s s' : Sl) (xs : List W) (vs : List V), Rel K H0 Hb0 as Hb H M → Slots K as Hb σ s → WRs K as Hb vs xs → p xs s M = some s' → ∀ Q : L2.St → Hp → Prop,
    (∀ σ', Slots K as Hb σ' s' → (∀ vs : List Nat, (∀ i ∈ is, i ∈ vs) → wipe σ' vs = wipe σ vs) → Q σ' H) → t vs σ H Q
def JGs (X : Cx) (es : List Expr) (p : PGsx) (is : List Nat) : Prop := ∃ t, PGs X es t ∧ SimGs X.K t p is
def qNil : PGsx := fun xs s _ => match xs with
  | [] => some s
  | _ => none
def qCons (p : PGx) (q : PGsx) : PGsx := fun xs s M => match xs with
  | x :: r => (match p x s M with
    | some s1 => q r s1 M
    | none => none)
  | [] => none
def qTup (n : Nat) (q : PGsx) : PGx := fun x s M => match itemsT x with
  | some ws => if ws.length = n then q ws s M else none
  | none => none
section
variable {X : Cx} {w : WX} {e : Expr} {es : List Expr} {pg : PGx} {pgs : PGsx} {pe : PEx} {pos : Pos} {is js : List Nat}
theorem jg_name {i : Nat} {x : Str} (hN : X.N.Nodup) (hi : X.N[i]? = some x := by rfl) (hx : Loc X.env.scope x := by first | exact Or.inl rfl | exact Or.inr rfl) (hf : X.fn x = true ∨ X.env.scope.names.lookup x = some .local := by first | exact .inl rfl | exact .inr rfl) : JG X (.Name x pos) (qName i) [i] := by
  refine ⟨_, pg_name hN hi hx hf, fun H0 Hb0 as Hb H M σ s s' x v r S wr e Q q => ?_⟩
  simp only [qName, Option.some.injEq] at e
  subst e
  exact q _ (S.set wr i) fun vs h => wipe_set (h i (by simp))
theorem jgs_nil : JGs X [] qNil [] := by
  refine ⟨_, pgs_nil, fun H0 Hb0 as Hb H M σ s s' xs vs r S wr e Q q => ?_⟩
  cases wr with
  | nil =>
    simp only [qNil, Option.some.injEq] at e
    subst e
    exact ⟨rfl, q _ S fun _ _ => rfl⟩
  | cons _ _ => cases e
theorem jgs_cons (h1 : JG X e pg is) (h2 : JGs X es pgs js) (hs : (assignEach (e :: es) X.env).map (·.2) = assign e X.env :: (assignEach es X.env).map (·.2) := by rfl) : JGs X (e :: es) (qCons pg pgs) (is ++ js) := by
  obtain ⟨t, e1, s1⟩ := h1
  obtain ⟨u, e2, s2⟩ := h2
  refine ⟨_, pgs_cons e1 e2 hs, fun H0 Hb0 as Hb H M σ s s' xs vs r S wr e Q q => ?_⟩
  cases wr with
  | nil => cases e
  | cons h t =>
    rename_i v x vs xs
    simp only [qCons] at e
    cases hp : pg x s M with
    | none => rw [hp] at e; cases e
    | some sm =>
      rw [hp] at e
      exact ⟨_, _, rfl, s1 H0 Hb0 as Hb H M σ s sm x v r S h hp _ fun σ' S' w1 => s2 H0 Hb0 as Hb H M σ' sm s' xs vs r S' t e Q fun σ2 S2 w2 => q σ2 S2 fun us hu =>
        (w2 us fun i hi => hu i (List.mem_append_right _ hi)).trans (w1 us fun i hi => hu i (List.mem_append_left _ hi))⟩
theorem jg_tup {k : Nat} {n : Nat} (hc : X.calm = true) (h : JGs X es pgs is) (hn : (assignEach es X.env).length = n := by rfl) (hst : (assignEach es X.env).findIdx? (·.1) = none := by rfl) : JG X (.Tuple es k pos) (qTup n pgs) is := by
  obtain ⟨t, e1, s1⟩ := h
  refine ⟨_, pg_tup hc e1 hn hst, fun H0 Hb0 as Hb H M σ s s' x v r S wr e Q q => ?_⟩
  unfold qTup at e
  cases hi : itemsT x with
  | none => rw [hi] at e; cases e
  | some ws =>
    rw [hi] at e
    obtain ⟨a, vs, rfl, h1, wrs, z⟩ := itemsT_ok r wr hi
    by_cases hl : ws.length = n
    · simp only [hl, if_true] at e
      exact ⟨a, vs, rfl, h1, (Paired.len wrs).trans hl, s1 H0 Hb0 as Hb H M σ s s' ws vs r S wrs e Q q⟩
    · simp only [hl, if_false] at e
      cases e
/-- target = e -/
def pAsg (p : PEx) (g : PGx) : PSx := fun s M => (p s M).to s fun x M1 => match g x s M1 with
  | some s1 => .nx s1 M1
  | none => .stuck
theorem js_asg {tg : Expr} (he : JE X w e pe) (hg : JG X tg pg is) (hs : swapsWithSole [tg] e pos.line X.env = pure false := by rfl) (hw : swappedStores [tg] e X.env = pure none := by rfl)
    (h1 : (assignEach [tg] X.env).map (·.2) = [assign tg X.env] := by rfl) : JS X w (.Assign [tg] e pos) (pAsg pe pg) := by
  obtain ⟨t, e1, s1⟩ := he
  obtain ⟨u, e2, s2⟩ := hg
  refine ⟨_, ps_asg e1 e2 hs hw h1, fun H0 Hb0 as Hb H M σ s r S D g => ?_⟩
  refine GoodS.bind s1 r S g fun x x' as1 Hb1 H1 M1 r1 f1 S1 w1 g1 => ?_
  cases hp : pg x' s M1 with
  | none => rw [hp] at g1; exact g1.elim
  | some sm =>
    rw [hp] at g1
    exact s2 H0 Hb0 as1 Hb1 H1 M1 σ s sm x' x r1 S1 w1 hp _ fun σ' S' _ => g1.nx r1 S'
/-- xs[i] = e, xs a thing that changes -/
def pSub (p : PEx) (o i : PEx) : PSx := fun s M => (p s M).to s fun x M1 => (o s M1).to s fun y M2 => (i s M2).to s fun z M3 => match y, z with
  | .r n, .d (.int j) => (match M3[n]? with
    | some (.lst ws) => (match ixN ws.length j with
      | some k => .nx s (M3.set n (.lst (ws.set k x)))
      | none => .stuck)
    | _ => .stuck)
  | _, _ => .stuck
theorem js_sub {o i : Expr} {po pi : PEx} {pos' : Pos} (he : JE X w e pe) (ho : JE X w o po) (hi : JE X w i pi) (hs : swapsWithSole [.Subscript o i pos'] e pos.line X.env = pure false := by rfl) (hw : swappedStores [.Subscript o i pos'] e X.env = pure none := by rfl)
    (h1 : (assignEach [.Subscript o i pos'] X.env).map (·.2) = [assign (.Subscript o i pos') X.env] := by rfl)
    (ha : ∀ v, assign (.Subscript o i pos') X.env v = (do
      let ov ← holding [v] (eval o X.env)
      let iv ← holding [v, ov] (eval i X.env)
      standAt pos'
      holding [v, ov, iv] (setItem ov iv v)
      release [v, ov, iv] []) := by intro _; rfl) : JS X w (.Assign [.Subscript o i pos'] e pos) (pSub pe po pi) := by
  obtain ⟨t, e1, s1⟩ := he
  obtain ⟨u, e2, s2⟩ := ho
  obtain ⟨u', e3, s3⟩ := hi
  refine ⟨_, ps_asg e1 (pg_sub e2 e3 set_list ha) hs hw h1, fun H0 Hb0 as Hb H M σ s r S D g => ?_⟩
  refine GoodS.bind s1 r S g fun x x' as1 Hb1 H1 M1 r1 f1 S1 w1 g1 => ?_
  refine GoodS.bind s2 r1 S1 g1 fun y y' as2 Hb2 H2 M2 r2 f2 S2 w2 g2 => ?_
  refine GoodS.bind s3 r2 S2 g2 fun z z' as3 Hb3 H3 M3 r3 f3 S3 w3 g3 => ?_
  have w1' := WR.mono (f2.trans f3) w1
  have w2' := WR.mono f3 w2
  cases y' with
  | d _ => exact (show False from g3).elim
  | k _ => exact (show False from g3).elim
  | r n =>
    obtain ⟨q, hq, rfl⟩ := w2'
    cases z' with
    | r _ => exact (show False from g3).elim
    | k _ => exact (show False from g3).elim
    | d zz =>
      cases zz with
      | int j =>
        obtain rfl := wr_int_of w3
        cases hm : M3[n]? with
        | none => simp only [hm] at g3; exact g3.elim
        | some mo =>
          cases mo with
          | lst ws =>
            simp only [hm] at g3
            cases hk : ixN ws.length j with
            | none => simp only [hk] at g3; exact g3.elim
            | some k =>
              simp only [hk] at g3
              obtain ⟨zl, vs, h2, h3⟩ := r3.at' n q _ hq hm
              refine ⟨q, vs, j, k, rfl, rfl, h2, by rw [Paired.len h3]; exact hk, ?_⟩
              refine g3.nx (r3.setMut hq hm rfl ⟨by rw [List.length_set]; exact zl, _, upd_same, Paired.put w1' k h3⟩) S3
          | ins _ _ => simp only [hm] at g3; exact g3.elim
          | dic _ _ => simp only [hm] at g3; exact g3.elim
          | dlk _ _ => simp only [hm] at g3; exact g3.elim
          | gone => simp only [hm] at g3; exact g3.elim
      | _ => exact (show False from g3).elim
end
end Z

set_option linter.all false
set_option autoImplicit false
set_option maxRecDepth 100000
set_option maxHeartbeats 4000000
namespace Z
open PySem PySem.Spec PyProof.Rows L2

/-! ### what is walked -/
def ItOk (K : PySem.W.Frag) (J : It) (ws : List W) (as : List Addr) (Hb : Hp) : Prop :=
  ∀ (H0 Hb0 : Hp) (as' : List Addr) (Hb' H' : Hp) (M' : Ms), Rel K H0 Hb0 as' Hb' H' M' → Fut as Hb as' Hb' → ∀ i,
    (∀ x, ws[i]? = some x → J.go i H' ∧ ∀ v H2, J.yld i H' v H2 → ∃ Hb2, Rel K H0 Hb0 as' Hb2 H2 M' ∧ Fut as' Hb' as' Hb2 ∧ WR K as' Hb2 v x) ∧ (ws[i]? = none → J.stop i H')
def repI (K : PySem.W.Frag) : Rep It (List W) := fun _ as Hb _ J ws => ItOk K J ws as Hb
def JI (X : Cx) (w : WX) (tg iter : Expr) (p : PAx) : Prop := ∃ wi, PI X tg iter wi ∧ Sim (repI X.K) X.K X.mg w wi p
/-- the items of a list, a tuple that is data -/
def pItL (p : PEx) : PAx := fun s M => (p s M).bind fun x M1 => match x with
  | .d (.list ds) => .ok (ds.map .d) M1
  | _ => .stuck
def pItT (p : PEx) : PAx := fun s M => (p s M).bind fun x M1 => match x with
  | .d (.tuple ds) => .ok (ds.map .d) M1
  | _ => .stuck
def rngW (lo : Int) (n : Nat) : List W := (List.range n).map fun i => .d (.int (lo + (i : Nat)))
def pRng1 (p : PEx) : PAx := fun s M => (p s M).bind fun x M1 => match x with
  | .d (.int j) => if -(2 ^ 62) ≤ j ∧ j < 2 ^ 62 then .ok (rngW 0 j.toNat) M1 else .stuck
  | _ => .stuck
def pRng2 (p q : PEx) : PAx := fun s M => (p s M).bind fun x M1 => (q s M1).bind fun y M2 => match x, y with
  | .d (.int i), .d (.int j) => if -(2 ^ 62) ≤ i ∧ i < 2 ^ 62 ∧ -(2 ^ 62) ≤ j ∧ j < 2 ^ 62 then .ok (rngW i (j - i).toNat) M2 else .stuck
  | _, _ => .stuck
def pItS (p : PEx) : PAx := fun s M => (p s M).bind fun x M1 => match x with
  | .d (.str z) => .ok (z.cps.toList.map fun c => .d (.str ⟨#[c]⟩)) M1
  | _ => .stuck
section
variable {X : Cx} {w : WX} {tg l l2 : Expr} {p q : PEx} {pos ps : Pos}
theorem map_at {α β : Type} {f : α → β} {xs : List α} {i : Nat} {y : β} (h : (xs.map f)[i]? = some y) : ∃ x, xs[i]? = some x ∧ f x = y := by
  rw [List.getElem?_map, Option.map_eq_some_iff] at h
  exact h
theorem ji_list (h : JE X w l p) : JI X w tg l (pItL p) := by
  obtain ⟨t, e1, s1⟩ := h
  refine ⟨_, pi_list e1, fun H0 Hb0 as Hb H M σ s r S Q g => ?_⟩
  refine Good.bind s1 r S g fun x x' as1 Hb1 H1 M1 r1 f1 S1 w1 g1 => ?_
  cases x' with
  | r i => exact (show False from g1).elim
  | k u => exact (show False from g1).elim
  | d z =>
    cases z with
    | list ds =>
      obtain ⟨h1, ff⟩ := w1
      cases h1 with
      | lst hs ha =>
        rename_i a vs
        have dz := dzAll_of ha ff.2
        refine ⟨a, rfl, ⟨_, SqL.of (r1.sub _ _ hs)⟩, Good.ok g1 r1 fun H0' Hb0' as' Hb' H' M' r' f' i => ⟨fun x hx => ?_, fun hx => ?_⟩⟩
        · have hs' : H' a = some (.lst vs) := r'.sub _ _ (f'.ex _ _ hs)
          obtain ⟨d, hd, rfl⟩ := map_at hx
          obtain ⟨v, hv, dv⟩ := Paired.at dz hd
          refine ⟨⟨vs, v, SqL.of hs', hv⟩, fun v2 H2 hy => ?_⟩
          obtain ⟨rfl, hy⟩ := hy
          have e : v2 = v := by
            have z := hy vs (SqL.of hs')
            rw [hv] at z; exact (Option.some.inj z).symm
          subst e
          exact ⟨Hb', r', Fut.refl, Dz.mono f'.ex dv⟩
        · refine ⟨vs, SqL.of (r'.sub _ _ (f'.ex _ _ hs)), ?_⟩
          rw [List.getElem?_eq_none_iff, List.length_map] at hx
          rw [Paired.len dz]; exact hx
    | _ => exact (show False from g1).elim
theorem ji_tup (h : JE X w l p) : JI X w tg l (pItT p) := by
  obtain ⟨t, e1, s1⟩ := h
  refine ⟨_, pi_tup e1, fun H0 Hb0 as Hb H M σ s r S Q g => ?_⟩
  refine Good.bind s1 r S g fun x x' as1 Hb1 H1 M1 r1 f1 S1 w1 g1 => ?_
  cases x' with
  | r i => exact (show False from g1).elim
  | k u => exact (show False from g1).elim
  | d z =>
    cases z with
    | tuple ds =>
      obtain ⟨h1, ff⟩ := w1
      cases h1 with
      | tup hs ha =>
        rename_i a vs
        have dz := dzAll_of ha ff.2
        refine ⟨a, rfl, ⟨_, same_t r1.sub hs⟩, Good.ok g1 r1 fun H0' Hb0' as' Hb' H' M' r' f' i => ⟨fun x hx => ?_, fun hx => ?_⟩⟩
        · have hs' : SqT X.K H' a vs := same_t r'.sub (same_t f'.ex hs)
          obtain ⟨d, hd, rfl⟩ := map_at hx
          obtain ⟨v, hv, dv⟩ := Paired.at dz hd
          refine ⟨⟨vs, v, hs', hv⟩, fun v2 H2 hy => ?_⟩
          obtain ⟨rfl, hy⟩ := hy
          have e : v2 = v := by
            have z := hy vs hs'
            rw [hv] at z; exact (Option.some.inj z).symm
          subst e
          exact ⟨Hb', r', Fut.refl, Dz.mono f'.ex dv⟩
        · refine ⟨vs, same_t r'.sub (same_t f'.ex hs), ?_⟩
          rw [List.getElem?_eq_none_iff, List.length_map] at hx
          rw [Paired.len dz]; exact hx
    | _ => exact (show False from g1).elim
theorem itr_ok (K : PySem.W.Frag) (lo : Int) (n : Nat) (as : List Addr) (Hb : Hp) : ItOk K (Itr lo n) (rngW lo n) as Hb := fun H0' Hb0' as' Hb' H' M' r' f' i => ⟨fun x hx => by
    obtain ⟨d, hd, rfl⟩ := map_at hx
    obtain ⟨hi, e⟩ := List.getElem?_eq_some_iff.mp hd
    rw [List.length_range] at hi
    rw [List.getElem_range] at e
    subst e
    exact ⟨hi, fun v2 H2 hy => ⟨Hb', by rw [hy.1]; exact r', Fut.refl, by rw [hy.2]; exact wr_int _⟩⟩, fun hx => by
    rw [List.getElem?_eq_none_iff, rngW, List.length_map, List.length_range] at hx
    exact hx⟩
theorem ji_rng1 (hm : X.mg "range" = none) (h : JE X w l p) (hg : Gl X "range" := by rfl) (hs : starEach (l :: []) X.env = (false, eval l X.env) :: starEach [] X.env := by rfl) (hs2 : starEach [l] X.env = [(false, eval l X.env)] := by rfl) : JI X w tg (.Call (.Name "range" ps) [l] [] pos) (pRng1 p) := by
  obtain ⟨t, e1, s1⟩ := h
  refine ⟨_, pi_range1 hg hm (pa_cons e1 pa_nil hs) hs2, fun H0 Hb0 as Hb H M σ s r S Q g => ?_⟩
  refine Good.bind s1 r S g fun x x' as1 Hb1 H1 M1 r1 f1 S1 w1 g1 => ?_
  cases x' with
  | r i => exact (show False from g1).elim
  | k u => exact (show False from g1).elim
  | d z =>
    cases z with
    | int j =>
      obtain rfl := wr_int_of w1
      by_cases hc : -(2 ^ 62) ≤ j ∧ j < 2 ^ 62
      · simp only [hc, and_self, if_true] at g1
        exact ⟨j, rfl, hc.1, hc.2, Good.ok g1 r1 (itr_ok X.K 0 j.toNat as1 Hb1)⟩
      · simp only [hc, if_false] at g1
        exact g1.elim
    | _ => exact (show False from g1).elim
theorem ji_rng2 (hm : X.mg "range" = none) (h : JE X w l p) (h2 : JE X w l2 q) (hg : Gl X "range" := by rfl) (hs : starEach (l :: [l2]) X.env = (false, eval l X.env) :: starEach [l2] X.env := by rfl) (hs2 : starEach (l2 :: []) X.env = (false, eval l2 X.env) :: starEach [] X.env := by rfl)
    (hs3 : starEach [l, l2] X.env = [(false, eval l X.env), (false, eval l2 X.env)] := by rfl) (hs4 : starEach [l2] X.env = [(false, eval l2 X.env)] := by rfl) : JI X w tg (.Call (.Name "range" ps) [l, l2] [] pos) (pRng2 p q) := by
  obtain ⟨t, e1, s1⟩ := h
  obtain ⟨u, e2, s2⟩ := h2
  refine ⟨_, pi_range2 hg hm (pa_cons e1 (pa_cons e2 pa_nil hs2) hs) hs3 hs4, fun H0 Hb0 as Hb H M σ s r S Q g => ?_⟩
  refine Good.bind s1 r S g fun x x' as1 Hb1 H1 M1 r1 f1 S1 w1 g1 => ?_
  refine Good.bind s2 r1 S1 g1 fun y y' as2 Hb2 H2 M2 r2 f2 S2 w2 g2 => ?_
  cases x' with
  | r i => cases y' <;> exact (show False from g2).elim
  | k u => cases y' <;> exact (show False from g2).elim
  | d z =>
    cases z with
    | int i =>
      obtain rfl := wr_int_of w1
      cases y' with
      | r i => exact (show False from g2).elim
      | k u => exact (show False from g2).elim
      | d z =>
        cases z with
        | int j =>
          obtain rfl := wr_int_of w2
          by_cases hc : -(2 ^ 62) ≤ i ∧ i < 2 ^ 62 ∧ -(2 ^ 62) ≤ j ∧ j < 2 ^ 62
          · simp only [hc, and_self, if_true] at g2
            exact ⟨i, j, rfl, hc, Good.ok g2 r2 (itr_ok X.K i (j - i).toNat as2 Hb2)⟩
          · simp only [hc, if_false] at g2
            exact g2.elim
        | _ => exact (show False from g2).elim
    | _ => cases y' <;> exact (show False from g2).elim
theorem ji_str (h : JE X w l p) : JI X w tg l (pItS p) := by
  obtain ⟨t, e1, s1⟩ := h
  refine ⟨_, pi_str e1, fun H0 Hb0 as Hb H M σ s r S Q g => ?_⟩
  refine Good.bind s1 r S g fun x x' as1 Hb1 H1 M1 r1 f1 S1 w1 g1 => ?_
  cases x' with
  | r i => exact (show False from g1).elim
  | k u => exact (show False from g1).elim
  | d z =>
    cases z with
    | str z =>
      obtain ⟨rfl, zl⟩ := wr_str_of w1
      refine ⟨z, rfl, Good.ok g1 r1 fun H0' Hb0' as' Hb' H' M' r' f' i => ⟨fun x hx => ?_, fun hx => ?_⟩⟩
      · obtain ⟨c, hc, rfl⟩ := map_at hx
        rw [Array.getElem?_toList] at hc
        obtain ⟨hi, _⟩ := Array.getElem?_eq_some_iff.mp hc
        refine ⟨hi, fun v2 H2 hy => ?_⟩
        obtain ⟨rfl, c', h1, rfl⟩ := hy
        rw [hc] at h1
        cases h1
        exact ⟨Hb', r', Fut.refl, wr_str (one_fits c)⟩
      · rw [List.getElem?_eq_none_iff, List.length_map, Array.length_toList] at hx
        exact hx
    | _ => exact (show False from g1).elim
end

/-! ### for, while -/
def forL (g : PGx) (b : PSx) : List W → Sl → Ms → O
  | [], s, M => .nx s M
  | x :: ws, s, M => match g x s M with
    | none => .stuck
    | some s1 => match b s1 M with
      | .nx s2 M2 => forL g b ws s2 M2
      | .ct s2 M2 => forL g b ws s2 M2
      | .bk s2 M2 => .nx s2 M2
      | .rt x M2 => .rt x M2
      | .exc e s2 M2 => .exc e s2 M2
      | .stuck => .stuck
def pFor (it : PAx) (g : PGx) (b : PSx) : PSx := fun s M => (it s M).to s fun ws M1 => forL g b ws s M1
def whileL (c : PTx) (b : PSx) : Nat → Sl → Ms → O
  | 0, _, _ => .stuck
  | n + 1, s, M => (c s M).to s fun k M1 => if k = true then (match b s M1 with
      | .nx s2 M2 => whileL c b n s2 M2
      | .ct s2 M2 => whileL c b n s2 M2
      | .bk s2 M2 => .nx s2 M2
      | .rt x M2 => .rt x M2
      | .exc e s2 M2 => .exc e s2 M2
      | .stuck => .stuck) else .nx s M1
def pWhile (fuel : Sl → Ms → Nat) (c : PTx) (b : PSx) : PSx := fun s M => whileL c b (fuel s M) s M
section
variable {X : Cx} {w : WX} {tg iter c : Expr} {body : List Stmt} {it : PAx} {pg : PGx} {pb : PSx} {pc : PTx} {pos : Pos} {is : List Nat}
theorem js_for (hp : PassesOwn (model X.prog X.w) X.A X.env X.xe) (hc : X.calm = true) (hi : JI X w tg iter it) (hg : JG X tg pg is) (hb : JSs X w body pb) (hs : ∀ x, foldedSetIterable iter X.env x = pure x := by intro _; rfl) : JS X w (.For tg iter body [] pos) (pFor it pg pb) := by
  obtain ⟨wi, ei, si⟩ := hi
  obtain ⟨t, eg, sg⟩ := hg
  obtain ⟨u, eb, sb⟩ := hb
  refine ⟨_, ps_for hp hc ei eg eb hs, fun H0 Hb0 as Hb H M σ s r S D g => ?_⟩
  refine GoodS.bind si r S g fun J ws as1 Hb1 H1 M1 r1 f1 S1 io g1 => ?_
  refine ⟨fun i m σ' H' => m = ws.length - i ∧ i ≤ ws.length ∧ ∃ as' Hb' s' M', Rel X.K H0 Hb0 as' Hb' H' M' ∧ Fut as1 Hb1 as' Hb' ∧ Slots X.K as' Hb' σ' s' ∧ GoodS X.K X.mg w H0 Hb0 as' Hb' D (forL pg pb (ws.drop i) s' M'),
    ⟨ws.length, by simp, Nat.zero_le _, as1, Hb1, s, M1, r1, Fut.refl, S1, by simpa using g1⟩, ?_⟩
  rintro i m σ' H' ⟨rfl, hi, as', Hb', s', M', r', f', S', g'⟩
  obtain ⟨io1, io2⟩ := io H0 Hb0 as' Hb' H' M' r' f' i
  by_cases hlt : i < ws.length
  · have hx : ws[i]? = some ws[i] := List.getElem?_eq_getElem hlt
    obtain ⟨go, yl⟩ := io1 _ hx
    rw [List.drop_eq_getElem_cons hlt] at g'
    refine .inr ⟨go, fun σ2 H2 => ∃ as2 Hb2 s2 M2, Rel X.K H0 Hb0 as2 Hb2 H2 M2 ∧ Fut as1 Hb1 as2 Hb2 ∧ Slots X.K as2 Hb2 σ2 s2 ∧ GoodS X.K X.mg w H0 Hb0 as2 Hb2 D (forL pg pb (ws.drop (i + 1)) s2 M2), fun σ2 H2 z => ⟨ws.length - (i + 1), by omega, rfl, hlt, z⟩, fun v H2 hy => ?_⟩
    obtain ⟨Hb2, r2, f2, w2⟩ := yl v H2 hy
    have S2 := S'.mono f2
    cases hg : pg ws[i] s' M' with
    | none => rw [forL, hg] at g'; exact g'.elim
    | some s1 =>
      refine sg H0 Hb0 as' Hb2 H2 M' σ' s' s1 ws[i] v r2 S2 w2 hg _ fun σ3 S3 _ => ?_
      refine sb H0 Hb0 as' Hb2 H2 M' σ3 s1 r2 S3 _ ?_
      rw [forL, hg] at g'
      have g2 := GoodS.mono f2 g'
      cases hb : pb s1 M' with
      | nx s4 M4 =>
        simp only [hb] at g2
        exact fun σ4 as4 Hb4 H4 r4 f4 S4 => ⟨as4, Hb4, s4, M4, r4, (f'.trans f2).trans f4, S4, GoodS.mono f4 g2⟩
      | ct s4 M4 =>
        simp only [hb] at g2
        exact fun σ4 as4 Hb4 H4 r4 f4 S4 => ⟨as4, Hb4, s4, M4, r4, (f'.trans f2).trans f4, S4, GoodS.mono f4 g2⟩
      | bk s4 M4 => simp only [hb] at g2; exact g2
      | rt x4 M4 => simp only [hb] at g2; exact g2
      | exc e s4 M4 => simp only [hb] at g2; exact g2
      | stuck => simp only [hb] at g2; exact g2.elim
  · have e : i = ws.length := by omega
    subst e
    have hn : ws[ws.length]? = none := List.getElem?_eq_none_iff.mpr (Nat.le_refl _)
    rw [List.drop_length, forL] at g'
    exact .inl ⟨io2 hn, g'.nx r' S'⟩
theorem js_while (hp : PassesOwn (model X.prog X.w) X.A X.env X.xe) (fuel : Sl → Ms → Nat) (hc : JT X w c pc) (hb : JSs X w body pb) : JS X w (.While c body [] pos) (pWhile fuel pc pb) := by
  obtain ⟨t, ec, sc⟩ := hc
  obtain ⟨u, eb, sb⟩ := hb
  refine ⟨_, ps_while hp ec eb, fun H0 Hb0 as Hb H M σ s r S D g => ?_⟩
  refine ⟨fun m σ' H' => ∃ as' Hb' s' M', Rel X.K H0 Hb0 as' Hb' H' M' ∧ Fut as Hb as' Hb' ∧ Slots X.K as' Hb' σ' s' ∧ GoodS X.K X.mg w H0 Hb0 as' Hb' D (whileL pc pb m s' M'), ⟨fuel s M, as, Hb, s, M, r, Fut.refl, S, g⟩, ?_⟩
  rintro m σ' H' ⟨as', Hb', s', M', r', f', S', g'⟩
  cases m with
  | zero => exact (show False from g').elim
  | succ n =>
    refine GoodS.bind sc r' S' g' fun b b' as1 Hb1 H1 M1 r1 f1 S1 w1 g1 => ?_
    obtain rfl : b = b' := w1
    cases b with
    | false => rw [if_neg Bool.false_ne_true] at g1 ⊢; exact g1.nx r1 S1
    | true =>
      rw [if_pos rfl] at g1 ⊢
      refine ⟨fun σ2 H2 => ∃ as2 Hb2 s2 M2, Rel X.K H0 Hb0 as2 Hb2 H2 M2 ∧ Fut as Hb as2 Hb2 ∧ Slots X.K as2 Hb2 σ2 s2 ∧ GoodS X.K X.mg w H0 Hb0 as2 Hb2 D (whileL pc pb n s2 M2), fun σ2 H2 z => ⟨n, Nat.lt_succ_self n, z⟩, ?_⟩
      refine sb H0 Hb0 as1 Hb1 H1 M1 σ' s' r1 S1 _ ?_
      cases hb : pb s' M1 with
      | nx s4 M4 =>
        simp only [hb] at g1
        exact fun σ4 as4 Hb4 H4 r4 f4 S4 => ⟨as4, Hb4, s4, M4, r4, (f'.trans f1).trans f4, S4, GoodS.mono f4 g1⟩
      | ct s4 M4 =>
        simp only [hb] at g1
        exact fun σ4 as4 Hb4 H4 r4 f4 S4 => ⟨as4, Hb4, s4, M4, r4, (f'.trans f1).trans f4, S4, GoodS.mono f4 g1⟩
      | bk s4 M4 => simp only [hb] at g1; exact g1
      | rt x4 M4 => simp only [hb] at g1; exact g1
      | exc e s4 M4 => simp only [hb] at g1; exact g1
      | stuck => simp only [hb] at g1; exact g1.elim
end

/-! ### comprehensions -/
def wipeS (s : Sl) : List Nat → Sl
  | [] => s
  | v :: vs => (wipeS s vs).set v none
theorem slots_wipe {K : PySem.W.Frag} {as : List Addr} {Hb : Hp} {σ : L2.St} {s : Sl} (S : Slots K as Hb σ s) : ∀ vs : List Nat, Slots K as Hb (wipe σ vs) (wipeS s vs)
  | [] => S
  | v :: vs => (slots_wipe S vs).unset none v
/-- nothing is raised here -/
def wNone : WX := fun _ _ _ _ => False
def R.bindN {α β : Type} (r : R α) (f : α → Ms → R β) : R β := match r with
  | .ok a m => f a m
  | _ => .stuck
def lcL (g : PGx) (tt : PTx) (te : PEx) (s : Sl) : List W → List W → Ms → R (List W)
  | [], acc, M => .ok acc M
  | x :: ws, acc, M => match g x s M with
    | none => .stuck
    | some s1 => (tt s1 M).bindN fun b M1 => if b = true then (te s1 M1).bindN fun y M2 => lcL g tt te s ws (acc ++ [y]) M2 else lcL g tt te s ws acc M1
def pLc (it : PAx) (g : PGx) (tt : PTx) (te : PEx) (vs : List Nat) : PAx := fun s M => (it s M).bind fun ws M1 => if ws.length ≤ sizeLine then lcL g tt te (wipeS s vs) ws [] M1 else .stuck
/-- the reading that a plain function stands for -/
def canon {β α : Type} (rep : Rep β α) (K : PySem.W.Frag) (mg : Str → Option Value) (w : WX) (p : Sl → Ms → R α) : L2.St → Hp → (β → Hp → Prop) → Prop := fun σ H Q =>
  ∃ (H0 Hb0 : Hp) (as : List Addr) (Hb : Hp) (M : Ms) (s : Sl), Rel K H0 Hb0 as Hb H M ∧ Slots K as Hb σ s ∧ Good rep K mg w H0 Hb0 as Hb σ Q (p s M)
def canonG (K : PySem.W.Frag) (p : PGx) (is : List Nat) : TG := fun v σ H Q =>
  ∃ (H0 Hb0 : Hp) (as : List Addr) (Hb : Hp) (M : Ms) (s s' : Sl) (x : W), Rel K H0 Hb0 as Hb H M ∧ Slots K as Hb σ s ∧ WR K as Hb v x ∧ p x s M = some s' ∧ ∀ σ', Slots K as Hb σ' s' → (∀ vs : List Nat, (∀ i ∈ is, i ∈ vs) → wipe σ' vs = wipe σ vs) → Q σ' H
section
variable {X : Cx} {w : WX}
theorem JE.canon {e : Expr} {p : PEx} (h : JE X w e p) : PE X e (canon (repW X.K) X.K X.mg w p) := by
  obtain ⟨t, e1, s1⟩ := h
  exact ⟨fun pins s σ H Q I ⟨H0, Hb0, as, Hb, M, sl, r, S, g⟩ => e1.run pins s σ H Q I (s1 H0 Hb0 as Hb H M σ sl r S Q g)⟩
def JTs (X : Cx) (w : WX) (ifs : List Expr) (p : PTx) : Prop := ∃ t, PTs X ifs t ∧ Sim repB X.K X.mg w t p
def pYes : PTx := fun _ M => .ok true M
theorem jts_nil : JTs X w [] pYes := ⟨_, pts_nil, fun H0 Hb0 as Hb H M σ s r S Q g => g.ok r rfl⟩
theorem jts_one {c : Expr} {p : PTx} (h : JT X w c p) : JTs X w [c] p := let ⟨t, e1, s1⟩ := h; ⟨t, pts_one e1, s1⟩
theorem JTs.canon {ifs : List Expr} {p : PTx} (h : JTs X w ifs p) : PTs X ifs (canon repB X.K X.mg w p) := by
  obtain ⟨t, e1, s1⟩ := h
  exact ⟨fun pins s σ H Q I ⟨H0, Hb0, as, Hb, M, sl, r, S, g⟩ => e1.run pins s σ H Q I (s1 H0 Hb0 as Hb H M σ sl r S Q g)⟩
theorem JG.canon {e : Expr} {p : PGx} {is : List Nat} (h : JG X e p is) : PG X e (canonG X.K p is) := by
  obtain ⟨t, e1, s1⟩ := h
  exact ⟨fun pins s σ H v u Q I rv ⟨H0, Hb0, as, Hb, M, sl, s', x, r, S, wr, e, q⟩ => e1.run pins s σ H v u Q I rv (s1 H0 Hb0 as Hb H M σ sl s' x v r S wr e Q q)⟩
/-- what a comprehension comes to, by its reading -/
theorem sim_lc {wi : TI} {it : PAx} {pg : PGx} {tt : PTx} {te : PEx} {is vs : List Nat} (hv : ∀ i ∈ is, i ∈ vs) (si : Sim (repI X.K) X.K X.mg w wi it) :
    Sim (repL X.K) X.K X.mg w (tLc wi (canonG X.K pg is) (canon repB X.K X.mg wNone tt) (canon (repW X.K) X.K X.mg wNone te) vs) (pLc it pg tt te vs) := by
  intro H0 Hb0 as Hb H M σ s r S Q g
  refine Good.bind si r S g fun J ws as1 Hb1 H1 M1 r1 f1 S1 io g1 => ?_
  intro D hD
  by_cases hz : ws.length ≤ sizeLine
  · simp only [hz, if_true] at g1
    have Sw := slots_wipe S1 vs
    refine ⟨fun i m H' => m = ws.length - i ∧ i ≤ ws.length ∧ ∃ as' Hb' M' acc av, Rel X.K (upd H0 D (.lst av)) Hb0 as' Hb' H' M' ∧ Fut as1 Hb1 as' Hb' ∧ WRs X.K as' Hb' av acc ∧ acc.length ≤ i ∧ Good (repL X.K) X.K X.mg w H0 Hb0 as' Hb' σ Q (lcL pg tt te (wipeS s vs) (ws.drop i) acc M'),
      ⟨ws.length, by simp, Nat.zero_le _, as1, Hb1, M1, [], [], ?_, Fut.refl, .nil, Nat.zero_le _, by simpa using g1⟩, ?_⟩
    · exact (r1.newAny hD).guard upd_same (r1.hbn hD) fun hm => r1.al D hm hD
    rintro i m H' ⟨rfl, hi, as', Hb', M', acc, av, r', f', wa, hal, g'⟩
    have h0D : H0 D = none := r1.h0n hD
    have hb0D : Hb0 D = none := r1.b0.free (r1.hbn hD)
    obtain ⟨ru, hHD, hbD, nD⟩ := r'.unguard h0D hb0D
    obtain ⟨io1, io2⟩ := io _ Hb0 as' Hb' H' M' r' f' i
    by_cases hlt : i < ws.length
    · have hx : ws[i]? = some ws[i] := List.getElem?_eq_getElem hlt
      obtain ⟨go, yl⟩ := io1 _ hx
      rw [List.drop_eq_getElem_cons hlt] at g'
      refine .inr ⟨go, fun H2 => ∃ as2 Hb2 M2 acc2 av2, Rel X.K (upd H0 D (.lst av2)) Hb0 as2 Hb2 H2 M2 ∧ Fut as1 Hb1 as2 Hb2 ∧ WRs X.K as2 Hb2 av2 acc2 ∧ acc2.length ≤ i + 1 ∧ Good (repL X.K) X.K X.mg w H0 Hb0 as2 Hb2 σ Q (lcL pg tt te (wipeS s vs) (ws.drop (i + 1)) acc2 M2), fun H2 z => ⟨ws.length - (i + 1), by omega, rfl, hlt, z⟩, fun v H2 hy => ?_⟩
      obtain ⟨Hb2, r2, f2, w2⟩ := yl v H2 hy
      have S2 := Sw.mono (f'.trans f2)
      cases hg : pg ws[i] (wipeS s vs) M' with
      | none => rw [lcL, hg] at g'; exact g'.elim
      | some s1 =>
        rw [lcL, hg] at g'
        simp only at g'
        refine ⟨_, Hb0, as', Hb2, M', wipeS s vs, s1, ws[i], r2, S2, w2, hg, fun σ3 S3 hw3 => ?_⟩
        refine ⟨by
          have z := hw3 vs hv
          rw [z]
          have ww : ∀ us : List Nat, (∀ u ∈ us, u ∈ vs) → ∀ τ : L2.St, wipe (wipe τ vs) us = wipe τ vs := by
            intro us
            induction us with
            | nil => intro _ τ; rfl
            | cons u us ih =>
              intro hu τ
              have hm := hu u List.mem_cons_self
              have e1 := ih (fun x hx => hu x (List.mem_cons_of_mem _ hx)) τ
              show (wipe (wipe τ vs) us).set u none = wipe τ vs
              rw [e1]
              have sn : ∀ (l : List Nat), u ∈ l → (wipe τ l).set u none = wipe τ l := by
                intro l
                induction l with
                | nil => intro h; cases h
                | cons y l ihl =>
                  intro h
                  show ((wipe τ l).set y none).set u none = (wipe τ l).set y none
                  by_cases e : y = u
                  · subst e; rw [List.set_set]
                  · rw [List.set_comm _ _ e]
                    rcases List.mem_cons.mp h with z | z
                    · exact absurd z.symm e
                    · rw [ihl z]
              exact sn vs hm
          exact ww vs (fun _ h => h) σ, ?_⟩
        refine ⟨_, Hb0, as', Hb2, M', s1, r2, S3, ?_⟩
        cases ht : tt s1 M' with
        | exc e m => rw [ht] at g'; exact g'.elim
        | stuck => rw [ht] at g'; exact g'.elim
        | ok b Mt =>
          rw [ht] at g'
          have g3 : Good (repL X.K) X.K X.mg w H0 Hb0 as' Hb' σ Q (if b = true then (te s1 Mt).bindN fun y M2 => lcL pg tt te (wipeS s vs) (ws.drop (i + 1)) (acc ++ [y]) M2 else lcL pg tt te (wipeS s vs) (ws.drop (i + 1)) acc Mt) := g'
          intro b' as3 Hb3 H3 r3 f3 eb
          obtain rfl : b' = b := eb
          cases b' with
          | false =>
            rw [if_neg Bool.false_ne_true] at g3 ⊢
            exact ⟨as3, Hb3, Mt, acc, av, r3, (f'.trans f2).trans f3, WRs.mono (f2.trans f3) wa, Nat.le_succ_of_le hal, Good.mono (f2.trans f3) g3⟩
          | true =>
            rw [if_pos rfl] at g3 ⊢
            refine ⟨_, Hb0, as3, Hb3, Mt, s1, r3, S3.mono f3, ?_⟩
            cases hte : te s1 Mt with
            | exc e m => rw [hte] at g3; exact g3.elim
            | stuck => rw [hte] at g3; exact g3.elim
            | ok y My =>
              rw [hte] at g3
              have g4 : Good (repL X.K) X.K X.mg w H0 Hb0 as' Hb' σ Q (lcL pg tt te (wipeS s vs) (ws.drop (i + 1)) (acc ++ [y]) My) := g3
              intro yv as4 Hb4 H4 r4 f4 wy
              obtain ⟨ru4, hHD4, hbD4, nD4⟩ := r4.unguard h0D hb0D
              have wa4 := WRs.mono ((f2.trans f3).trans f4) wa
              have hl : av.length = acc.length := Paired.len wa
              refine ⟨av, hHD4, by omega, as4, Hb4, My, acc ++ [y], av ++ [yv], ?_, ((f'.trans f2).trans f3).trans f4, Paired.app wa4 (.cons wy .nil), by rw [List.length_append]; simp; omega, Good.mono ((f2.trans f3).trans f4) g4⟩
              have e5 := (ru4.other (o := .lst (av ++ [yv])) hbD4 h0D nD4).guard upd_same hbD4 nD4
              exact e5
    · have e : i = ws.length := by omega
      subst e
      have hn : ws[ws.length]? = none := List.getElem?_eq_none_iff.mpr (Nat.le_refl _)
      rw [List.drop_length, lcL] at g'
      exact .inl ⟨io2 hn, Good.ok g' ru ⟨D, av, rfl, hHD, Nat.le_trans hal hz, wa, nD, hbD, h0D⟩⟩
  · simp only [hz, if_false] at g1
    exact g1.elim
theorem jl_lc {elt tg iter : Expr} {ifs : List Expr} {scope : Scope} {own : List (Str × Nat)} {pos : Pos} {it : PAx} {pg : PGx} {tt : PTx} {te : PEx} {is : List Nat} (hc : X.calm = true) (hN : X.N.Nodup) (hi : JI X w tg iter it) (ok : BlkOk X.N X.env.scope scope own)
    (hg : ∀ (s : Shared) (H : Hp) (C : Addr) (cl : List (Str × Addr)) (fp : List Addr), JG (X.blk s H scope (compEnvC scope cl C X.env) fp) tg pg is) (ht : ∀ (s : Shared) (H : Hp) (C : Addr) (cl : List (Str × Addr)) (fp : List Addr), JTs (X.blk s H scope (compEnvC scope cl C X.env) fp) wNone ifs tt)
    (he : ∀ (s : Shared) (H : Hp) (C : Addr) (cl : List (Str × Addr)) (fp : List Addr), JE (X.blk s H scope (compEnvC scope cl C X.env) fp) wNone elt te) (hv : ∀ i ∈ is, i ∈ own.map (·.2) := by decide) (hs : ∀ x, foldedSetIterable iter X.env x = pure x := by intro _; rfl) :
    JL X w (.ListComp elt [⟨tg, iter, ifs, 0⟩] scope pos) (pLc it pg tt te (own.map (·.2))) := by
  obtain ⟨wi, ei, si⟩ := hi
  exact ⟨_, pe_lc hc hN ei ok (fun s H C cl fp => (hg s H C cl fp).canon) (fun s H C cl fp => (ht s H C cl fp).canon) (fun s H C cl fp => (he s H C cl fp).canon) hs, sim_lc hv si⟩
/-- name = [..] on one line: data, or a thing that changes -/
theorem js_setLc {i : Nat} {y : Str} {py : Pos} {elt tg iter : Expr} {ifs : List Expr} {scope : Scope} {own : List (Str × Nat)} {pos spos : Pos} {it : PAx} {pg : PGx} {tt : PTx} {te : PEx} {is : List Nat} (hc : X.calm = true) (hN : X.N.Nodup) (hi : JI X w tg iter it) (ok : BlkOk X.N X.env.scope scope own)
    (hg : ∀ (s : Shared) (H : Hp) (C : Addr) (cl : List (Str × Addr)) (fp : List Addr), JG (X.blk s H scope (compEnvC scope cl C X.env) fp) tg pg is) (ht : ∀ (s : Shared) (H : Hp) (C : Addr) (cl : List (Str × Addr)) (fp : List Addr), JTs (X.blk s H scope (compEnvC scope cl C X.env) fp) wNone ifs tt)
    (he : ∀ (s : Shared) (H : Hp) (C : Addr) (cl : List (Str × Addr)) (fp : List Addr), JE (X.blk s H scope (compEnvC scope cl C X.env) fp) wNone elt te) (hv : ∀ i ∈ is, i ∈ own.map (·.2) := by decide)
    (hy : X.N[i]? = some y := by rfl) (hyl : X.env.scope.names.lookup y = some .local := by rfl) (hsw : swapsWith (.ListComp elt [⟨tg, iter, ifs, 0⟩] scope pos) (some (.Name y py)) spos.line X.env = pure true := by exact sw_true rfl rfl rfl (by decide +kernel)) (hs : ∀ x, foldedSetIterable iter X.env x = pure x := by intro _; rfl) :
    JS X w (.Assign [.Name y py] (.ListComp elt [⟨tg, iter, ifs, 0⟩] scope pos) spos) (pSet i (pDat (pLc it pg tt te (own.map (·.2))))) := by
  obtain ⟨wi, ei, si⟩ := hi
  refine ⟨_, ps_setLc (g := canonG X.K pg is) (tt := canon repB X.K X.mg wNone tt) (te := canon (repW X.K) X.K X.mg wNone te) hc hN hy hyl hsw ei ok (fun s H C cl fp => (hg s H C cl fp).canon) (fun s H C cl fp => (ht s H C cl fp).canon) (fun s H C cl fp => (he s H C cl fp).canon) hs, fun H0 Hb0 as Hb H M σ s r S D g => ?_⟩
  have sl := sim_lc (X := X) (w := w) (pg := pg) (tt := tt) (te := te) hv si
  have g' : GoodS X.K X.mg w H0 Hb0 as Hb D ((pLc it pg tt te (own.map (·.2)) s M).to s fun ws M1 => match allD ws with
      | some ds => .nx (s.set i (some (.d (.list ds)))) M1
      | none => .stuck) := by
    unfold pSet pDat at g
    cases e : pLc it pg tt te (own.map (·.2)) s M with
    | stuck => rw [e] at g; exact g
    | exc a m => rw [e] at g; exact g
    | ok a m =>
      rw [e] at g
      simp only [R.bind, R.to] at g ⊢
      cases hd : allD a with
      | none => rw [hd] at g; exact g
      | some ds => rw [hd] at g; exact g
  refine GoodS.bind sl r S g' fun v ws as1 Hb1 H1 M1 r1 f1 S1 w1 g1 => ?_
  obtain ⟨q, vs, rfl, hq, z, wr, nq, hbn, h0n⟩ := w1
  cases hd : allD ws with
  | none => rw [hd] at g1; exact g1.elim
  | some ds =>
    rw [hd] at g1
    have dz := allD_ok wr hd
    have hl : ws.length = ds.length := (Paired.len wr).symm.trans (Paired.len dz)
    have fu : Fut as1 Hb1 as1 (upd Hb1 q (.lst vs)) := fut_new hbn
    refine GoodS.nx (GoodS.mono fu g1) (r1.freshData hq hbn h0n nq) ((S1.mono fu).set (w := .d (.list ds)) ?_ i)
    exact dz_lst upd_same (dzAll_mono (same_new hbn) dz) (hl ▸ z)
theorem js_setLcM {i : Nat} {y : Str} {py : Pos} {elt tg iter : Expr} {ifs : List Expr} {scope : Scope} {own : List (Str × Nat)} {pos spos : Pos} {it : PAx} {pg : PGx} {tt : PTx} {te : PEx} {is : List Nat} (hc : X.calm = true) (hN : X.N.Nodup) (hi : JI X w tg iter it) (ok : BlkOk X.N X.env.scope scope own)
    (hg : ∀ (s : Shared) (H : Hp) (C : Addr) (cl : List (Str × Addr)) (fp : List Addr), JG (X.blk s H scope (compEnvC scope cl C X.env) fp) tg pg is) (ht : ∀ (s : Shared) (H : Hp) (C : Addr) (cl : List (Str × Addr)) (fp : List Addr), JTs (X.blk s H scope (compEnvC scope cl C X.env) fp) wNone ifs tt)
    (he : ∀ (s : Shared) (H : Hp) (C : Addr) (cl : List (Str × Addr)) (fp : List Addr), JE (X.blk s H scope (compEnvC scope cl C X.env) fp) wNone elt te) (hv : ∀ i ∈ is, i ∈ own.map (·.2) := by decide)
    (hy : X.N[i]? = some y := by rfl) (hyl : X.env.scope.names.lookup y = some .local := by rfl) (hsw : swapsWith (.ListComp elt [⟨tg, iter, ifs, 0⟩] scope pos) (some (.Name y py)) spos.line X.env = pure true := by exact sw_true rfl rfl rfl (by decide +kernel)) (hs : ∀ x, foldedSetIterable iter X.env x = pure x := by intro _; rfl) :
    JS X w (.Assign [.Name y py] (.ListComp elt [⟨tg, iter, ifs, 0⟩] scope pos) spos) (pSet i (pMut (pLc it pg tt te (own.map (·.2))))) := by
  obtain ⟨wi, ei, si⟩ := hi
  refine ⟨_, ps_setLc (g := canonG X.K pg is) (tt := canon repB X.K X.mg wNone tt) (te := canon (repW X.K) X.K X.mg wNone te) hc hN hy hyl hsw ei ok (fun s H C cl fp => (hg s H C cl fp).canon) (fun s H C cl fp => (ht s H C cl fp).canon) (fun s H C cl fp => (he s H C cl fp).canon) hs, fun H0 Hb0 as Hb H M σ s r S D g => ?_⟩
  have sl := sim_lc (X := X) (w := w) (pg := pg) (tt := tt) (te := te) hv si
  have g' : GoodS X.K X.mg w H0 Hb0 as Hb D ((pLc it pg tt te (own.map (·.2)) s M).to s fun ws M1 => .nx (s.set i (some (.r M1.length))) (M1 ++ [.lst ws])) := by
    unfold pSet pMut at g
    cases e : pLc it pg tt te (own.map (·.2)) s M with
    | stuck => rw [e] at g; exact g
    | exc a m => rw [e] at g; exact g
    | ok a m => rw [e] at g; exact g
  refine GoodS.bind sl r S g' fun v ws as1 Hb1 H1 M1 r1 f1 S1 w1 g1 => ?_
  obtain ⟨q, vs, rfl, hq, z, wr, nq, hbn, h0n⟩ := w1
  have fu : Fut as1 Hb1 (as1 ++ [q]) Hb1 := ⟨Same.refl _, [q], rfl⟩
  refine GoodS.nx (GoodS.mono fu g1) (r1.newMut (by rw [hq]; simp) hbn h0n nq ⟨z, vs, hq, WRs.mono fu wr⟩) ((S1.mono fu).set (w := .r M1.length) ⟨q, ?_, rfl⟩ i)
  rw [← r1.len]
  simp
end
end Z

set_option linter.all false
set_option autoImplicit false
set_option maxRecDepth 100000
set_option maxHeartbeats 4000000
namespace Z
open PySem PySem.Spec PyProof.Rows L2

/-! ### calls of what is built in -/
def SimC (K : PySem.W.Frag) (mg : Str → Option Value) (r : List V → Hp → VK → Prop) (g : List W → Ms → R W) : Prop :=
  ∀ (w : WX) (H0 Hb0 : Hp) (as : List Addr) (Hb H : Hp) (M : Ms) (σ : L2.St) (ws : List W) (vs : List V), Rel K H0 Hb0 as Hb H M → WRs K as Hb vs ws → ∀ Q : VK, Good (repW K) K mg w H0 Hb0 as Hb σ Q (g ws M) → r vs H Q
/-- .. which makes a list -/
def SimCL (K : PySem.W.Frag) (mg : Str → Option Value) (r : List V → Hp → VK → Prop) (g : List W → Ms → R (List W)) : Prop :=
  ∀ (w : WX) (H0 Hb0 : Hp) (as : List Addr) (Hb H : Hp) (M : Ms) (σ : L2.St) (ws : List W) (vs : List V), Rel K H0 Hb0 as Hb H M → WRs K as Hb vs ws → ∀ Q : VK, Good (repL K) K mg w H0 Hb0 as Hb σ Q (g ws M) → r vs H Q
def pCall (g : List W → Ms → R W) (a : PAx) : PEx := fun s M => (a s M).bind fun ws M1 => g ws M1
def pCallL (g : List W → Ms → R (List W)) (a : PAx) : PAx := fun s M => (a s M).bind fun ws M1 => g ws M1
section
variable {X : Cx} {w : WX} {x : Str} {e : Expr} {es : List Expr} {pa : PAx} {p pos : Pos} {r : List V → Hp → VK → Prop} {g : List W → Ms → R W} {gl : List W → Ms → R (List W)} {id T : String}
theorem sim_cb {t : TA} (sa : Sim (repA X.K) X.K X.mg w t pa) (hg : SimC X.K X.mg r g) : Sim (repW X.K) X.K X.mg w (tCB r t) (pCall g pa) := by
  intro H0 Hb0 as Hb H M σ s r0 S Q gd
  exact Good.bind sa r0 S gd fun vs ws as1 Hb1 H1 M1 r1 f1 S1 w1 g1 => hg w H0 Hb0 as1 Hb1 H1 M1 σ ws vs r1 w1 Q g1
theorem sim_cbl {t : TA} (sa : Sim (repA X.K) X.K X.mg w t pa) (hg : SimCL X.K X.mg r gl) : Sim (repL X.K) X.K X.mg w (tCB r t) (pCallL gl pa) := by
  intro H0 Hb0 as Hb H M σ s r0 S Q gd
  exact Good.bind sa r0 S gd fun vs ws as1 Hb1 H1 M1 r1 f1 S1 w1 g1 => hg w H0 Hb0 as1 Hb1 H1 M1 σ ws vs r1 w1 Q g1
theorem je_callB (hc : CallR X (.builtin id) r) (hs : SimC X.K X.mg r g) (hm : X.mg x = none) (hv : bootBuiltins x = some (.builtin id)) (ha : JA X w (e :: es) pa) (hg : Gl X x := by rfl) (hn : x ≠ "__name__" := by decide) (hdb : (x == ("__debug__" : Str)) = false := by decide)
    (he : starEach (e :: es) X.env = (false, eval e X.env) :: starEach es X.env := by rfl) (hpl : (backTo pos (starEach es X.env)).any (·.1) = false := by rfl) : JE X w (.Call (.Name x p) (e :: es) [] pos) (pCall g pa) := by
  obtain ⟨t, ea, sa⟩ := ha
  exact ⟨_, pe_callB hc hg hm hv ea hn hdb he hpl, sim_cb sa hs⟩
theorem jl_callB (hc : CallR X (.builtin id) r) (hs : SimCL X.K X.mg r gl) (hm : X.mg x = none) (hv : bootBuiltins x = some (.builtin id)) (ha : JA X w (e :: es) pa) (hg : Gl X x := by rfl) (hn : x ≠ "__name__" := by decide) (hdb : (x == ("__debug__" : Str)) = false := by decide)
    (he : starEach (e :: es) X.env = (false, eval e X.env) :: starEach es X.env := by rfl) (hpl : (backTo pos (starEach es X.env)).any (·.1) = false := by rfl) : JL X w (.Call (.Name x p) (e :: es) [] pos) (pCallL gl pa) := by
  obtain ⟨t, ea, sa⟩ := ha
  exact ⟨_, pe_callB hc hg hm hv ea hn hdb he hpl, sim_cbl sa hs⟩
theorem je_callTy (hc : CallR X (.type T) r) (hs : SimC X.K X.mg r g) (hm : X.mg x = none) (hv : bootBuiltins x = some (.type T)) (ha : JA X w (e :: es) pa) (hg : Gl X x := by rfl) (hn : x ≠ "__name__" := by decide) (hdb : (x == ("__debug__" : Str)) = false := by decide)
    (he : starEach (e :: es) X.env = (false, eval e X.env) :: starEach es X.env := by rfl) (hpl : (backTo pos (starEach es X.env)).any (·.1) = false := by rfl) : JE X w (.Call (.Name x p) (e :: es) [] pos) (pCall g pa) := by
  obtain ⟨t, ea, sa⟩ := ha
  exact ⟨_, pe_callTy hc hg hm hv ea hn hdb he hpl, sim_cb sa hs⟩
theorem jl_callTy (hc : CallR X (.type T) r) (hs : SimCL X.K X.mg r gl) (hm : X.mg x = none) (hv : bootBuiltins x = some (.type T)) (ha : JA X w (e :: es) pa) (hg : Gl X x := by rfl) (hn : x ≠ "__name__" := by decide) (hdb : (x == ("__debug__" : Str)) = false := by decide)
    (he : starEach (e :: es) X.env = (false, eval e X.env) :: starEach es X.env := by rfl) (hpl : (backTo pos (starEach es X.env)).any (·.1) = false := by rfl) : JL X w (.Call (.Name x p) (e :: es) [] pos) (pCallL gl pa) := by
  obtain ⟨t, ea, sa⟩ := ha
  exact ⟨_, pe_callTy hc hg hm hv ea hn hdb he hpl, sim_cbl sa hs⟩
end

/-! ### len -/
def lenW (M : Ms) (x : W) : Option Nat := match itemsL M x with
  | some ws => some ws.length
  | none => match itemsT x with
    | some ws => some ws.length
    | none => match x with
      | .d (.str s) => some s.length
      | _ => none
def gLen : List W → Ms → R W := fun ws M => match ws with
  | [x] => (match lenW M x with
    | some n => .ok (.d (.int n)) M
    | none => .stuck)
  | _ => .stuck
def gAbs : List W → Ms → R W := fun ws M => match ws with
  | [.d (.int i)] => .ok (.d (.int (if i < 0 then -i else i))) M
  | _ => .stuck
def gInt1 : List W → Ms → R W := fun ws M => match ws with
  | [.d (.int i)] => .ok (.d (.int i)) M
  | _ => .stuck
def gMin2 : List W → Ms → R W := fun ws M => match ws with
  | [.d (.int i), .d (.int j)] => .ok (.d (.int (if j < i then j else i))) M
  | _ => .stuck
def gMax2 : List W → Ms → R W := fun ws M => match ws with
  | [.d (.int i), .d (.int j)] => .ok (.d (.int (if j > i then j else i))) M
  | _ => .stuck
def intsOf : List PyData → Option (List Int)
  | [] => some []
  | .int i :: ds => (intsOf ds).map (i :: ·)
  | _ :: _ => none
theorem intsOf_map : ∀ ns : List Int, intsOf (ns.map .int) = some ns
  | [] => rfl
  | n :: ns => by simp [intsOf, intsOf_map ns]
def viewI (M : Ms) (x : W) : Option (List Int) := match view M x with
  | some (.list ds) => intsOf ds
  | _ => none
def gSum : List W → Ms → R W := fun ws M => match ws with
  | [x] => (match viewI M x with
    | some ns => .ok (.d (.int ns.sum)) M
    | none => .stuck)
  | _ => .stuck
def gMaxI : List W → Ms → R W := fun ws M => match ws with
  | [x] => (match viewI M x with
    | some (n :: ns) => .ok (.d (.int (ns.foldl max n))) M
    | _ => .stuck)
  | _ => .stuck
def gMinI : List W → Ms → R W := fun ws M => match ws with
  | [x] => (match viewI M x with
    | some (n :: ns) => .ok (.d (.int (ns.foldl min n))) M
    | _ => .stuck)
  | _ => .stuck
section
variable {K : PySem.W.Frag} {mg : Str → Option Value}
theorem one_arg_of {as : List Addr} {Hb : Hp} {vs : List V} {x : W} (h : WRs K as Hb vs [x]) : ∃ v, vs = [v] ∧ WR K as Hb v x := by
  cases h with
  | cons a b => cases b; exact ⟨_, rfl, a⟩
theorem two_args_of {as : List Addr} {Hb : Hp} {vs : List V} {x y : W} (h : WRs K as Hb vs [x, y]) : ∃ v u, vs = [v, u] ∧ WR K as Hb v x ∧ WR K as Hb u y := by
  cases h with
  | cons a b =>
    obtain ⟨u, rfl, hu⟩ := one_arg_of b
    exact ⟨_, u, rfl, a, hu⟩
theorem s_len : SimC K mg (fun xs H Q => ∃ x n, xs = [x] ∧ LenV K x H n ∧ Q (.int n) H) gLen := by
  intro w H0 Hb0 as Hb H M σ ws vs r wr Q gd
  match ws, gd with
  | [], gd => exact gd.elim
  | _ :: _ :: _, gd => exact gd.elim
  | [x], gd =>
    obtain ⟨v, rfl, wx⟩ := one_arg_of wr
    unfold gLen lenW at gd
    cases e1 : itemsL M x with
    | some us =>
      simp only [e1] at gd
      obtain ⟨a, xs, rfl, h1, r1, z1⟩ := itemsL_ok r wx e1
      exact ⟨_, us.length, rfl, .inl ⟨xs, SqL.of h1, (Paired.len r1).symm⟩, Good.ok gd r (wr_int _)⟩
    | none =>
      cases e2 : itemsT x with
      | some us =>
        simp only [e1, e2] at gd
        obtain ⟨a, xs, rfl, h1, r1, z1⟩ := itemsT_ok r wx e2
        exact ⟨_, us.length, rfl, .inr ⟨xs, h1, (Paired.len r1).symm⟩, Good.ok gd r (wr_int _)⟩
      | none =>
        simp only [e1, e2] at gd
        cases x with
        | d y =>
          cases y with
          | str z =>
            obtain ⟨rfl, l⟩ := wr_str_of wx
            exact ⟨_, z.length, rfl, ⟨l, rfl⟩, Good.ok gd r (wr_int _)⟩
          | _ => exact gd.elim
        | r i => exact gd.elim
        | k u => exact gd.elim
theorem s_abs : SimC K mg (fun xs H Q => ∃ i, xs = [.int i] ∧ Q (.int (if i < 0 then -i else i)) H) gAbs := by
  intro w H0 Hb0 as Hb H M σ ws vs r wr Q gd
  match ws, gd with
  | [], gd => exact gd.elim
  | [.d (.int i)], gd =>
    obtain ⟨v, rfl, wx⟩ := one_arg_of wr
    obtain rfl := wr_int_of wx
    exact ⟨i, rfl, Good.ok gd r (wr_int _)⟩
theorem s_int1 : SimC K mg (fun xs H Q => (∃ i, xs = [.int i] ∧ Q (.int i) H) ∨ ∃ k, xs = [.bl k] ∧ Q (.int (if k then 1 else 0)) H) gInt1 := by
  intro w H0 Hb0 as Hb H M σ ws vs r wr Q gd
  match ws, gd with
  | [], gd => exact gd.elim
  | [.d (.int i)], gd =>
    obtain ⟨v, rfl, wx⟩ := one_arg_of wr
    obtain rfl := wr_int_of wx
    exact .inl ⟨i, rfl, Good.ok gd r (wr_int _)⟩
theorem s_min2 : SimC K mg (fun xs H Q => ∃ i j, xs = [.int i, .int j] ∧ Q (.int (if j < i then j else i)) H) gMin2 := by
  intro w H0 Hb0 as Hb H M σ ws vs r wr Q gd
  match ws, gd with
  | [], gd => exact gd.elim
  | [.d (.int i), .d (.int j)], gd =>
    obtain ⟨v, u, rfl, wx, wy⟩ := two_args_of wr
    obtain rfl := wr_int_of wx
    obtain rfl := wr_int_of wy
    exact ⟨i, j, rfl, Good.ok gd r (wr_int _)⟩
theorem s_max2 : SimC K mg (fun xs H Q => ∃ i j, xs = [.int i, .int j] ∧ Q (.int (if j > i then j else i)) H) gMax2 := by
  intro w H0 Hb0 as Hb H M σ ws vs r wr Q gd
  match ws, gd with
  | [], gd => exact gd.elim
  | [.d (.int i), .d (.int j)], gd =>
    obtain ⟨v, u, rfl, wx, wy⟩ := two_args_of wr
    obtain rfl := wr_int_of wx
    obtain rfl := wr_int_of wy
    exact ⟨i, j, rfl, Good.ok gd r (wr_int _)⟩
theorem ints_vs {H : Hp} : ∀ {ds : List PyData} {vs : List V} {ns : List Int}, DtAll K H vs ds → intsOf ds = some ns → vs = ns.map V.int
  | [], _, _, h, e => by
    cases h
    simp only [intsOf, Option.some.injEq] at e
    subst e; rfl
  | .int i :: ds, _, _, h, e => by
    cases h with
    | cons h1 h2 =>
      simp only [intsOf, Option.map_eq_some_iff] at e
      obtain ⟨r, e1, rfl⟩ := e
      cases h1
      rw [ints_vs h2 e1]
      rfl
  | .none :: _, _, _, _, e => by simp [intsOf] at e
  | .bool _ :: _, _, _, _, e => by simp [intsOf] at e
  | .str _ :: _, _, _, _, e => by simp [intsOf] at e
  | .list _ :: _, _, _, _, e => by simp [intsOf] at e
  | .tuple _ :: _, _, _, _, e => by simp [intsOf] at e
  | .dict _ :: _, _, _, _, e => by simp [intsOf] at e
theorem viewI_ok {H0 Hb0 Hb H : Hp} {as : List Addr} {M : Ms} {x : W} {v : V} {ns : List Int} (r : Rel K H0 Hb0 as Hb H M) (h : WR K as Hb v x) (e : viewI M x = some ns) : ∃ a, v = .ref a ∧ H a = some (.lst (ns.map V.int)) := by
  unfold viewI at e
  cases e1 : view M x with
  | none => rw [e1] at e; cases e
  | some d =>
    rw [e1] at e
    have dz := view_ok r h e1
    cases d with
    | list ds =>
      obtain ⟨h1, _⟩ := dz
      cases h1 with
      | lst hs ha => exact ⟨_, rfl, by rw [hs, ints_vs ha e]⟩
    | _ => cases e
theorem s_sum : SimC K mg (rSum K) gSum := by
  intro w H0 Hb0 as Hb H M σ ws vs r wr Q gd
  match ws, gd with
  | [], gd => exact gd.elim
  | _ :: _ :: _, gd => exact gd.elim
  | [x], gd =>
    obtain ⟨v, rfl, wx⟩ := one_arg_of wr
    unfold gSum at gd
    cases e : viewI M x with
    | none => simp only [e] at gd; exact gd.elim
    | some ns =>
      simp only [e] at gd
      obtain ⟨a, rfl, h⟩ := viewI_ok r wx e
      exact ⟨a, ns, rfl, SqL.of h, Good.ok gd r (wr_int _)⟩
theorem foldl_max_mem : ∀ (ns : List Int) (n : Int), ns.foldl max n ∈ n :: ns ∧ ∀ y ∈ n :: ns, y ≤ ns.foldl max n
  | [], n => by simp
  | k :: r, n => by
    rw [List.foldl_cons]
    obtain ⟨h1, h2⟩ := foldl_max_mem r (max n k)
    refine ⟨?_, fun y hy => ?_⟩
    · rcases List.mem_cons.mp h1 with h | h
      · rw [h]
        by_cases c : n ≤ k
        · rw [Int.max_eq_right c]; simp
        · rw [Int.max_eq_left (by omega)]; simp
      · simp [h]
    · have hm := h2 (max n k) List.mem_cons_self
      rcases List.mem_cons.mp hy with rfl | hy
      · exact Int.le_trans (Int.le_max_left _ _) hm
      · rcases List.mem_cons.mp hy with rfl | hy
        · exact Int.le_trans (Int.le_max_right _ _) hm
        · exact h2 y (List.mem_cons_of_mem _ hy)
theorem foldl_min_mem : ∀ (ns : List Int) (n : Int), ns.foldl min n ∈ n :: ns ∧ ∀ y ∈ n :: ns, ns.foldl min n ≤ y
  | [], n => by simp
  | k :: r, n => by
    rw [List.foldl_cons]
    obtain ⟨h1, h2⟩ := foldl_min_mem r (min n k)
    refine ⟨?_, fun y hy => ?_⟩
    · rcases List.mem_cons.mp h1 with h | h
      · rw [h]
        by_cases c : n ≤ k
        · rw [Int.min_eq_left c]; simp
        · rw [Int.min_eq_right (by omega)]; simp
      · simp [h]
    · have hm := h2 (min n k) List.mem_cons_self
      rcases List.mem_cons.mp hy with rfl | hy
      · exact Int.le_trans hm (Int.min_le_left _ _)
      · rcases List.mem_cons.mp hy with rfl | hy
        · exact Int.le_trans hm (Int.min_le_right _ _)
        · exact h2 y (List.mem_cons_of_mem _ hy)
theorem s_maxI : SimC K mg (rMax K) gMaxI := by
  intro w H0 Hb0 as Hb H M σ ws vs r wr Q gd
  match ws, gd with
  | [], gd => exact gd.elim
  | _ :: _ :: _, gd => exact gd.elim
  | [x], gd =>
    obtain ⟨v, rfl, wx⟩ := one_arg_of wr
    unfold gMaxI at gd
    cases e : viewI M x with
    | none => simp only [e] at gd; exact gd.elim
    | some ns =>
      cases ns with
      | nil => simp only [e] at gd; exact gd.elim
      | cons n ns =>
        simp only [e] at gd
        obtain ⟨a, rfl, h⟩ := viewI_ok r wx e
        refine ⟨a, n :: ns, rfl, SqL.of h, Nat.succ_pos _, fun m h1 h2 => ?_⟩
        obtain ⟨k1, k2⟩ := foldl_max_mem ns n
        have em : m = ns.foldl max n := Int.le_antisymm (k2 m h1) (h2 _ k1)
        subst em
        exact Good.ok gd r (wr_int _)
theorem s_minI : SimC K mg (rMin K) gMinI := by
  intro w H0 Hb0 as Hb H M σ ws vs r wr Q gd
  match ws, gd with
  | [], gd => exact gd.elim
  | _ :: _ :: _, gd => exact gd.elim
  | [x], gd =>
    obtain ⟨v, rfl, wx⟩ := one_arg_of wr
    unfold gMinI at gd
    cases e : viewI M x with
    | none => simp only [e] at gd; exact gd.elim
    | some ns =>
      cases ns with
      | nil => simp only [e] at gd; exact gd.elim
      | cons n ns =>
        simp only [e] at gd
        obtain ⟨a, rfl, h⟩ := viewI_ok r wx e
        refine ⟨a, n :: ns, rfl, SqL.of h, Nat.succ_pos _, fun m h1 h2 => ?_⟩
        obtain ⟨k1, k2⟩ := foldl_min_mem ns n
        have em : m = ns.foldl min n := Int.le_antisymm (h2 _ k1) (k2 m h1)
        subst em
        exact Good.ok gd r (wr_int _)

/-! ### list(..), sorted(..) -/
def gList : List W → Ms → R (List W) := fun ws M => match ws with
  | [x] => (match itemsL M x with
    | some us => .ok us M
    | none => (match itemsT x with
      | some us => .ok us M
      | none => .stuck))
  | _ => .stuck
theorem s_list : SimCL K mg (fun xs H Q => ∃ p ys, xs = [.ref p] ∧ (SqL K H p ys ∨ SqT K H p ys) ∧ ∀ l, H l = none → Q (.ref l) (upd H l (.lst ys))) gList := by
  intro w H0 Hb0 as Hb H M σ ws vs r wr Q gd
  match ws, gd with
  | [], gd => exact gd.elim
  | _ :: _ :: _, gd => exact gd.elim
  | [x], gd =>
    obtain ⟨v, rfl, wx⟩ := one_arg_of wr
    unfold gList at gd
    cases e1 : itemsL M x with
    | some us =>
      simp only [e1] at gd
      obtain ⟨a, xs, rfl, h1, r1, z1⟩ := itemsL_ok r wx e1
      exact ⟨a, xs, rfl, .inl (SqL.of h1), fun p hp => Good.ok gd (r.newAny hp) ⟨p, xs, rfl, upd_same, z1, r1, fun hm => r.al p hm hp, r.hbn hp, r.h0n hp⟩⟩
    | none =>
      cases e2 : itemsT x with
      | some us =>
        simp only [e1, e2] at gd
        obtain ⟨a, xs, rfl, h1, r1, z1⟩ := itemsT_ok r wx e2
        exact ⟨a, xs, rfl, .inr h1, fun p hp => Good.ok gd (r.newAny hp) ⟨p, xs, rfl, upd_same, z1, r1, fun hm => r.al p hm hp, r.hbn hp, r.h0n hp⟩⟩
      | none => simp only [e1, e2] at gd; exact gd.elim
end
/-- tuple(xs): of a list of data; of a tuple itself -/
def gTuple : List W → Ms → R W := fun ws M => match ws with
  | [x] => (match view M x with
    | some (.list ds) => .ok (.d (.tuple ds)) M
    | some (.tuple ds) => .ok x M
    | _ => .stuck)
  | _ => .stuck
theorem viewL_ok {K : PySem.W.Frag} {H0 Hb0 Hb H : Hp} {as : List Addr} {M : Ms} {x : W} {v : V} {ds : List PyData} (r : Rel K H0 Hb0 as Hb H M) (h : WR K as Hb v x) (e : view M x = some (.list ds)) : ∃ a vs, v = .ref a ∧ H a = some (.lst vs) ∧ DzAll K Hb vs ds ∧ ds.length ≤ sizeLine := by
  cases x with
  | d y =>
    simp only [view, Option.some.injEq] at e
    subst e
    obtain ⟨h1, f⟩ := h
    cases h1 with
    | lst hs ha => exact ⟨_, _, rfl, r.sub _ _ hs, dzAll_of ha f.2, f.1⟩
  | r i =>
    obtain ⟨a, h1, rfl⟩ := h
    simp only [view] at e
    cases hm : M[i]? with
    | none => rw [hm] at e; simp at e
    | some o =>
      rw [hm] at e
      cases o with
      | lst ws =>
        simp only [Option.map_eq_some_iff] at e
        obtain ⟨ds', e1, e2⟩ := e
        cases e2
        obtain ⟨z, vs, h2, h3⟩ := r.at' i a _ h1 hm
        have dz := allD_ok h3 e1
        exact ⟨a, vs, rfl, h2, dz, by rw [← Paired.len dz, Paired.len h3]; exact z⟩
      | ins _ _ => simp at e
      | dic _ _ => simp at e
      | dlk _ _ => simp at e
      | gone => simp at e
  | k u => simp [view] at e
theorem viewT_ok {K : PySem.W.Frag} {H0 Hb0 Hb H : Hp} {as : List Addr} {M : Ms} {x : W} {v : V} {ds : List PyData} (r : Rel K H0 Hb0 as Hb H M) (h : WR K as Hb v x) (e : view M x = some (.tuple ds)) : x = .d (.tuple ds) := by
  cases x with
  | d y => simp only [view, Option.some.injEq] at e; rw [e]
  | r i =>
    simp only [view] at e
    cases hm : M[i]? with
    | none => rw [hm] at e; simp at e
    | some o =>
      rw [hm] at e
      cases o with
      | lst ws => simp at e
      | ins _ _ => simp at e
      | dic _ _ => simp at e
      | dlk _ _ => simp at e
      | gone => simp at e
  | k u => simp [view] at e
theorem s_tuple {K : PySem.W.Frag} {mg : Str → Option Value} : SimC K mg (fun xs H Q => ∃ p ys, xs = [.ref p] ∧ ((SqL K H p ys ∧ ∀ l, H l = none → Q (.ref l) (upd H l (.tup ys))) ∨ (SqT K H p ys ∧ Q (.ref p) H))) gTuple := by
  intro w H0 Hb0 as Hb H M σ ws vs r wr Q gd
  match ws, gd with
  | [], gd => exact gd.elim
  | _ :: _ :: _, gd => exact gd.elim
  | [x], gd =>
    obtain ⟨v, rfl, wx⟩ := one_arg_of wr
    unfold gTuple at gd
    cases e : view M x with
    | none => simp only [e] at gd; exact gd.elim
    | some d =>
      cases d with
      | list ds =>
        simp only [e] at gd
        obtain ⟨a, xs, rfl, h1, dz, z⟩ := viewL_ok r wx e
        refine ⟨a, xs, rfl, .inl ⟨SqL.of h1, fun p hp => ?_⟩⟩
        have hbn := r.hbn hp
        exact Good.ok (Good.mono (fut_new hbn) gd) (r.newData hp) (dz_tup (SqT.of upd_same) (dzAll_mono (same_new hbn) dz) z)
      | tuple ds =>
        simp only [e] at gd
        have ex := viewT_ok r wx e
        subst ex
        obtain ⟨h1, f⟩ := id wx
        cases h1 with
        | tup hs ha => exact ⟨_, _, rfl, .inr ⟨same_t r.sub hs, Good.ok gd r wx⟩⟩
      | _ => simp only [e] at gd; exact gd.elim

/-! ### sorted of data -/
def sortD (ds : List PyData) : List PyData := ds.mergeSort (PySem.W.dataLe false id)
def allAlike (ds : List PyData) : Bool := ds.all fun d => ds.all fun d' => PySem.W.alike d d'
def isTup1 : PyData → Bool
  | .tuple (_ :: _) => true
  | _ => false
def isOther : PyData → Bool
  | .tuple _ => false
  | .none => false
  | _ => true
/-- what sorted bears: items alike, all tuples with an item or none of them, not too deep -/
def sortable (ds : List PyData) : Bool := allAlike ds && (ds.all isTup1 || ds.all isOther) && ds.all fun d => decide (d.depth ≤ 60)
def gSorted : List W → Ms → R (List W) := fun ws M => match ws with
  | [x] => (match view M x with
    | some (.list ds) => if sortable ds = true then .ok ((sortD ds).map .d) M else .stuck
    | _ => .stuck)
  | _ => .stuck
def rSortD (K : PySem.W.Frag) : List V → Hp → VK → Prop := fun vs H Q => ∃ (a : Addr) (xs : List V) (ds : List PyData), vs = [.ref a] ∧ SqL K H a xs ∧ DtAll K H xs ds ∧ sortable ds = true ∧ ∀ (ys : List V) (p : Addr), ys.length = xs.length → H p = none →
  (∀ (Hb : Hp), DzAll K Hb xs ds → DzAll K Hb ys (sortD ds)) → Q (.ref p) (upd H p (.lst ys))
end Z

set_option linter.all false
set_option autoImplicit false
set_option maxRecDepth 100000
set_option maxHeartbeats 4000000
namespace Z
open PySem PySem.Spec PyProof.Rows L2

theorem zip_snd {α β : Type} : ∀ {xs : List α} {ds : List β}, xs.length = ds.length → (xs.zip ds).map (·.2) = ds
  | [], [], _ => rfl
  | [], _ :: _, h => by simp at h
  | _ :: _, [], h => by simp at h
  | x :: xs, d :: ds, h => by simp [zip_snd (xs := xs) (ds := ds) (by simpa using h)]
theorem zip_all {α β : Type} {F : α → β → Prop} : ∀ {xs : List α} {ds : List β}, Paired F xs ds → ∀ p ∈ xs.zip ds, F p.1 p.2
  | _, _, .nil, p, h => by simp at h
  | _, _, .cons h t, p, hp => by
    simp only [List.zip_cons_cons, List.mem_cons] at hp
    rcases hp with rfl | hp
    · exact h
    · exact zip_all t p hp
theorem all_pairs {α β : Type} {F : α → β → Prop} : ∀ {l : List (α × β)}, (∀ p ∈ l, F p.1 p.2) → Paired F (l.map (·.1)) (l.map (·.2))
  | [], _ => .nil
  | p :: l, h => .cons (h p List.mem_cons_self) (all_pairs fun q hq => h q (List.mem_cons_of_mem _ hq))
theorem each_vals : ∀ {xs : List V} {ds : List PyData} {its : List Value}, Vals xs its → xs.length = ds.length → PySem.W.EachIs (fun (v : Value) (b : V × PyData) => RelV b.1 v) its (xs.zip ds)
  | _, [], _, .nil, _ => .nil
  | _, _ :: _, _, .nil, h => by simp at h
  | _, [], _, .cons _ _, h => by simp at h
  | _, d :: ds, _, .cons r t, h => .cons r (each_vals t (by simpa using h))
theorem each_reads {X : Cx} {pins : List (Addr × Obj)} {σ : L2.St} {H : Hp} {s : Shared} (I : Inv X pins σ H s) : ∀ {xs : List V} {ds : List PyData} {its : List Value}, Vals xs its → DtAll X.K H xs ds → PySem.W.EachIs (fun (v : Value) (b : V × PyData) => ∃ as, PySem.Reads s.heap v b.2 as) its (xs.zip ds)
  | _, [], _, .nil, _ => .nil
  | _, _ :: _, _, .nil, h => by cases h
  | _, [], _, .cons _ _, h => by cases h
  | _, d :: ds, _, .cons r t, h => by
    cases h with
    | cons h1 h2 => exact .cons (Dp.reads I d _ _ (Dt.dp d _ h1) r) (each_reads I t h2)
theorem dtAll_len {K : PySem.W.Frag} {H : Hp} : ∀ {xs : List V} {ds : List PyData}, DtAll K H xs ds → xs.length = ds.length
  | _, [], h => by cases h; rfl
  | _, d :: ds, h => by
    cases h with
    | cons h1 h2 => simp [dtAll_len h2]
theorem each_rel : ∀ {out : List Value} {bs : List (V × PyData)}, PySem.W.EachIs (fun (v : Value) (b : V × PyData) => RelV b.1 v) out bs → Vals (bs.map (·.1)) out
  | _, _, .nil => .nil
  | _, _, .cons h t => .cons h (each_rel t)
theorem cr_sortD {X : Cx} (hu : X.A.units + 64 < cLine) : CallR X (.builtin "sorted") (rSortD X.K) := by
  intro pins s σ H vs us Q I r h
  obtain ⟨a, xs, ds, rfl, hs, hd, hsort, q⟩ := h
  obtain ⟨its, rv, hl, hz⟩ := I.list hs
  rw [Vals.ref1 r]
  have hlen := dtAll_len hd
  unfold sortable at hsort
  simp only [Bool.and_eq_true, Bool.or_eq_true] at hsort
  obtain ⟨⟨h1, h2⟩, h3⟩ := hsort
  have hsnd : (xs.zip ds).map (fun b : V × PyData => b.2) = ds := zip_snd hlen
  have hal : PySem.W.AllAlike ((xs.zip ds).map (fun b : V × PyData => b.2)) := by
    rw [hsnd]
    intro d hd' d' hd2
    unfold allAlike at h1
    rw [List.all_eq_true] at h1
    have z := h1 d hd'
    rw [List.all_eq_true] at z
    exact z d' hd2
  have hk : PySem.W.Sortable ((xs.zip ds).map (fun b : V × PyData => b.2)) := by
    rw [hsnd]
    rcases h2 with h2 | h2
    · refine .inl fun d hd' => ?_
      rw [List.all_eq_true] at h2
      have z := h2 d hd'
      cases d with
      | tuple l =>
        cases l with
        | nil => simp [isTup1] at z
        | cons x r => exact ⟨x, r, rfl⟩
      | _ => simp [isTup1] at z
    · refine .inr fun d hd' => ?_
      rw [List.all_eq_true] at h2
      have z := h2 d hd'
      refine ⟨fun e => ?_, fun xs e => ?_⟩
      · subst e; simp [isOther] at z
      · subst e; simp [isOther] at z
  rw [List.all_eq_true] at h3
  have hzl : (xs.zip ds).length = xs.length := by rw [List.length_zip, ← hlen, Nat.min_self]
  refine PySem.W.sorted_data (vs := its) (bs := xs.zip ds) (enc := fun b => b.2) (R := fun v b => RelV b.1 v) hl.isList (each_vals rv hlen) (each_reads I rv hd) hal hk (by rw [hzl]; exact hz) (fun b hb => ?_) fun out ho he => ?_
  · have hm : b.2 ∈ ds := by
      rw [← hsnd]
      exact List.mem_map_of_mem (f := fun b : V × PyData => b.2) hb
    have z := of_decide_eq_true (h3 b.2 hm)
    show X.A.units + 2 + b.2.depth < cLine
    omega
  · obtain ⟨ep, he'⟩ := PyProof.Rows.sortedAll_at s.heap its (List.toArray out)
    have hv := each_rel he
    have hol : (((xs.zip ds).mergeSort (PySem.W.dataLe false fun b : V × PyData => b.2)).map (·.1)).length = xs.length := by
      rw [List.length_map, List.length_mergeSort, hzl]
    refine ⟨.ref _, _, I.laid (t' := s.toks) (o := .lst (((xs.zip ds).mergeSort (PySem.W.dataLe false fun b : V × PyData => b.2)).map (·.1))) (fun _ _ => PyProof.Rows.sortedAll_old) (Nat.le_succ _) ⟨by rw [hol]; exact hz, out, ep, hv, ?_⟩, rfl, q _ _ hol (I.hok.fresh (Nat.le_succ _)) fun Hb dz => ?_⟩
    · simpa using he'
    · have hm : ((xs.zip ds).mergeSort (PySem.W.dataLe false fun b : V × PyData => b.2)).map (·.2) = sortD ds := by
        have z := PySem.W.sort_maps (fun b : V × PyData => b.2) (r := PySem.W.dataLe false fun b : V × PyData => b.2) (s := PySem.W.dataLe false id) (l := xs.zip ds) fun a _ b _ => rfl
        rw [hsnd] at z
        exact z
      rw [← hm]
      exact all_pairs fun p hp => zip_all dz p ((List.mergeSort_perm _ _).mem_iff.mp hp)
theorem s_sorted {K : PySem.W.Frag} {mg : Str → Option Value} : SimCL K mg (rSortD K) gSorted := by
  intro w H0 Hb0 as Hb H M σ ws vs r wr Q gd
  match ws, gd with
  | [], gd => exact gd.elim
  | _ :: _ :: _, gd => exact gd.elim
  | [x], gd =>
    obtain ⟨v, rfl, wx⟩ := one_arg_of wr
    unfold gSorted at gd
    cases e : view M x with
    | none => simp only [e] at gd; exact gd.elim
    | some d =>
      cases d with
      | list ds =>
        simp only [e] at gd
        by_cases hc : sortable ds = true
        · simp only [hc, if_true] at gd
          obtain ⟨a, xs, rfl, h1, dz, z⟩ := viewL_ok r wx e
          refine ⟨a, xs, ds, rfl, SqL.of h1, (of_dzAll (dzAll_mono r.sub dz)).1, hc, fun ys p hl hp hh => ?_⟩
          have hy := hh Hb dz
          have hlen : (sortD ds).length = ds.length := List.length_mergeSort ds
          exact Good.ok gd (r.newAny hp) ⟨p, ys, rfl, upd_same, by rw [List.length_map, hlen]; exact z, wrs_of hy, fun hm => r.al p hm hp, r.hbn hp, r.h0n hp⟩
        · simp only [hc, if_false] at gd
          exact gd.elim
      | _ => simp only [e] at gd; exact gd.elim

/-! ### isinstance -/
def tagD : PyData → String
  | .none => "NoneType"
  | .bool _ => "bool"
  | .int _ => "int"
  | .str _ => "str"
  | .list _ => "list"
  | .tuple _ => "tuple"
  | .dict _ => "dict"
def tagW (M : Ms) : W → Option String
  | .d x => some (tagD x)
  | .r i => match M[i]? with
    | some (.lst _) => some "list"
    | some (.dic false _) => some "dict"
    | _ => none
  | .k _ => none
/-- the answer for two built-in types -/
def isTy (a b : String) : Bool := a == b || (a == "bool" && b == "int")
theorem isTy_ok (a b : String) (ha : a ∈ ["NoneType", "bool", "int", "str", "list", "tuple", "dict"]) (hb : b ∈ ["bool", "int", "str", "list", "tuple", "dict"]) : kitB a b = some (isTy a b) := by
  simp only [List.mem_cons, List.mem_nil_iff, or_false] at ha hb
  rcases ha with rfl | rfl | rfl | rfl | rfl | rfl | rfl <;> rcases hb with rfl | rfl | rfl | rfl | rfl | rfl <;> decide +kernel
section
variable {K : PySem.W.Frag} {mg : Str → Option Value}
theorem tagD_mem (x : PyData) : tagD x ∈ ["NoneType", "bool", "int", "str", "list", "tuple", "dict"] := by
  cases x <;> simp [tagD]
theorem dt_ty {H : Hp} {v : V} {x : PyData} (h : Dt K H v x) : TyX K H v (.type (tagD x)) := by
  cases h with
  | non => exact .base .non
  | bl b => exact .base (.bl b)
  | int i => exact .base (.int i)
  | str s => exact .base (.str s)
  | lst hs ha => exact .base (.lst hs)
  | tup hs ha =>
    rcases hs with (h | ⟨o, h⟩) | ⟨o, its, n, h, hc, _⟩
    · exact .base (.tup h)
    · exact .fTuple h
    · exact .kTuple h hc
theorem tag_ok {H0 Hb0 Hb H : Hp} {as : List Addr} {M : Ms} {x : W} {v : V} {t : String} (r : Rel K H0 Hb0 as Hb H M) (h : WR K as Hb v x) (e : tagW M x = some t) : TyX K H v (.type t) ∧ t ∈ ["NoneType", "bool", "int", "str", "list", "tuple", "dict"] := by
  cases x with
  | d y =>
    simp only [tagW, Option.some.injEq] at e
    subst e
    exact ⟨dt_ty (Dz.mono r.sub h).1, tagD_mem y⟩
  | r i =>
    obtain ⟨a, h1, rfl⟩ := h
    simp only [tagW] at e
    cases hm : M[i]? with
    | none => rw [hm] at e; simp at e
    | some o =>
      rw [hm] at e
      cases o with
      | lst ws =>
        simp only [Option.some.injEq] at e
        subst e
        obtain ⟨z, vs, h2, h3⟩ := r.at' i a _ h1 hm
        exact ⟨.base (.lst h2), by simp⟩
      | dic t' kvs =>
        cases t' with
        | true => simp at e
        | false =>
          simp only [Option.some.injEq] at e
          subst e
          obtain ⟨z, u, h2, vs, rfl, h3⟩ := r.at' i a _ h1 hm
          exact ⟨.base (.dK h2), by simp⟩
      | dlk _ _ => simp at e
      | ins _ _ => simp at e
      | gone => simp at e
  | k u => simp [tagW] at e
def tyOk (t : String) : Bool := ["bool", "int", "str", "list", "tuple", "dict"].contains t
def gIsi : List W → Ms → R W := fun ws M => match ws with
  | [x, .k (.ty t)] => (match tagW M x with
    | some a => if tyOk t = true then .ok (.d (.bool (isTy a t))) M else .stuck
    | none => .stuck)
  | _ => .stuck
theorem s_isi : SimC K mg (rIsi K) gIsi := by
  intro w H0 Hb0 as Hb H M σ ws vs r wr Q gd
  match ws, gd with
  | [], gd => exact gd.elim
  | [x, .k (.ty t)], gd =>
    obtain ⟨v, u, rfl, wx, wy⟩ := two_args_of wr
    have eu : u = .ty t := wy
    subst eu
    unfold gIsi at gd
    cases e : tagW M x with
    | none => simp only [e] at gd; exact gd.elim
    | some a =>
      simp only [e] at gd
      by_cases hc : tyOk t = true
      · simp only [hc, if_true] at gd
        obtain ⟨ty, hm⟩ := tag_ok r wx e
        have ht : t ∈ ["bool", "int", "str", "list", "tuple", "dict"] := by simpa [tyOk] using hc
        exact ⟨v, .ty t, .type a, .type t, isTy a t, rfl, .ty t, ty, kit_ty (isTy_ok a t hm ht), Good.ok gd r (wr_bl _)⟩
      · simp only [hc, if_false] at gd
        exact gd.elim
/-- isinstance(x, (T1, T2)) -/
def pIsi2 (p : PEx) (t1 t2 : String) : PEx := fun s M => (p s M).bind fun x M1 => match tagW M1 x with
  | some a => if tyOk t1 = true ∧ tyOk t2 = true then .ok (.d (.bool (isTy a t1 || isTy a t2))) M1 else .stuck
  | none => .stuck
end
section
variable {X : Cx} {w : WX} {x c1 c2 : Str} {e : Expr} {pe : PEx} {p p1 p2 pos pt : Pos} {k : Nat} {t1 t2 : String}
theorem je_isi2 (hm : X.mg "isinstance" = none) (h1 : X.mg c1 = none) (h2 : X.mg c2 = none) (ha : JE X w e pe) (v1 : bootBuiltins c1 = some (.type t1) := by decide +kernel) (v2 : bootBuiltins c2 = some (.type t2) := by decide +kernel)
    (hg : Gl X "isinstance" := by rfl) (g1 : Gl X c1 := by rfl) (g2 : Gl X c2 := by rfl) (n1 : c1 ≠ "__name__" := by decide) (n2 : c2 ≠ "__name__" := by decide) (d1 : (c1 == ("__debug__" : Str)) = false := by decide) (d2 : (c2 == ("__debug__" : Str)) = false := by decide)
    (he : starEach (e :: [.Tuple [.Name c1 p1, .Name c2 p2] k pt]) X.env = (false, eval e X.env) :: starEach [.Tuple [.Name c1 p1, .Name c2 p2] k pt] X.env := by rfl)
    (he2 : starEach (.Tuple [.Name c1 p1, .Name c2 p2] k pt :: []) X.env = (false, eval (.Tuple [.Name c1 p1, .Name c2 p2] k pt) X.env) :: starEach [] X.env := by rfl)
    (he3 : starEach (.Name c1 p1 :: [.Name c2 p2]) X.env = (false, eval (.Name c1 p1) X.env) :: starEach [.Name c2 p2] X.env := by rfl)
    (he4 : starEach (.Name c2 p2 :: []) X.env = (false, eval (.Name c2 p2) X.env) :: starEach [] X.env := by rfl)
    (hpl : (backTo pos (starEach [.Tuple [.Name c1 p1, .Name c2 p2] k pt] X.env)).any (·.1) = false := by rfl) :
    JE X w (.Call (.Name "isinstance" p) [e, .Tuple [.Name c1 p1, .Name c2 p2] k pt] [] pos) (pIsi2 pe t1 t2) := by
  obtain ⟨t, ea, sa⟩ := ha
  refine ⟨_, pe_callB call_isiT hg hm (by decide +kernel) (pa_cons ea (pa_cons (pe_tup (pa_cons (pe_bltn (v := .ty t1) g1 h1 v1 rfl n1 d1) (pa_cons (pe_bltn (v := .ty t2) g2 h2 v2 rfl n2 d2) pa_nil he4) he3)) pa_nil he2) he) (by decide) (by decide) he hpl, fun H0 Hb0 as Hb H M σ s r S Q gd => ?_⟩
  refine Good.bind sa r S gd fun v x as1 Hb1 H1 M1 r1 f1 S1 w1 g1 => ?_
  cases e : tagW M1 x with
  | none => simp only [e] at g1; exact g1.elim
  | some a =>
    simp only [e] at g1
    by_cases hc : tyOk t1 = true ∧ tyOk t2 = true
    · simp only [hc, and_self, if_true] at g1
      refine ⟨by show 2 ≤ sizeLine; decide, fun q hq => ?_⟩
      have r2 := r1.newAny (o := .tup [.ty t1, .ty t2]) hq
      obtain ⟨ty, hm⟩ := tag_ok r2 w1 e
      have ht1 : t1 ∈ ["bool", "int", "str", "list", "tuple", "dict"] := by simpa [tyOk] using hc.1
      have ht2 : t2 ∈ ["bool", "int", "str", "list", "tuple", "dict"] := by simpa [tyOk] using hc.2
      refine ⟨v, q, [.ty t1, .ty t2], .type a, [.type t1, .type t2], isTy a t1 || isTy a t2, rfl, upd_same, .cons (.ty t1) (.cons (.ty t2) .nil), ty, ?_, Good.ok g1 r2 (wr_bl _)⟩
      have k1 : PySem.W.kitOne X.K (.type a) (.type t1) = some (isTy a t1) := kit_ty (isTy_ok a t1 hm ht1)
      have k2 : PySem.W.kitOne X.K (.type a) (.type t2) = some (isTy a t2) := kit_ty (isTy_ok a t2 hm ht2)
      refine kitAny_cons k1 (fun h => kitAny_cons k2 (fun h' => ?_) fun h' => ?_) fun h => ?_
      · rw [h, h']; exact kitAny_nil
      · rw [h, h']; rfl
      · rw [h]; rfl
    · simp only [hc, if_false] at g1
      exact g1.elim
end
end Z

set_option linter.all false
set_option autoImplicit false
set_option maxRecDepth 100000
set_option maxHeartbeats 4000000
namespace Z
open PySem PySem.Spec PyProof.Rows L2

/-! ### defs: what a body comes to, what a def promises -/
abbrev PF := List W → Ms → R W
def O.toR : O → R W
  | .nx _ m => .ok (.d .none) m
  | .rt x m => .ok x m
  | .exc e _ m => .exc e m
  | _ => .stuck
def startS (n : Nat) (ws : List W) : Sl := ws.map some ++ List.replicate (n - ws.length) none
/-- n slots, k parameters -/
def runG (n k : Nat) (b : PSx) : PF := fun ws M => if ws.length = k then (b (startS n ws) M).toR else .stuck
def SpG (K : PySem.W.Frag) (mg : Str → Option Value) (F : PF) : Sp := fun vs H Q E =>
  ∃ (H0 Hb0 : Hp) (as : List Addr) (Hb : Hp) (M : Ms) (ws : List W), Rel K H0 Hb0 as Hb H M ∧ WRs K as Hb vs ws ∧ Good (repW K) K mg (fun c d _ H' => E c d H') H0 Hb0 as Hb ([] : L2.St) Q (F ws M)
theorem slots_none {K : PySem.W.Frag} {as : List Addr} {Hb : Hp} : ∀ n : Nat, Slots K as Hb (List.replicate n none) (List.replicate n none)
  | 0 => .nil
  | n + 1 => .cons (fun _ e => by cases e) (slots_none n)
theorem slots_start {K : PySem.W.Frag} {as : List Addr} {Hb : Hp} {N : List Str} {vs : List V} {ws : List W} (h : WRs K as Hb vs ws) : Slots K as Hb (L2.start N vs) (startS N.length ws) := by
  unfold L2.start startS
  rw [Paired.len h]
  refine Paired.app ?_ (slots_none _)
  induction h with
  | nil => exact .nil
  | cons h1 h2 ih => exact .cons (fun u e => ⟨_, rfl, by cases e; exact h1⟩) ih
section
variable {P : Program} {w : World} {K : PySem.W.Frag} {mg : Str → Option Value} {base : Heap}
theorem SpG.len {n k : Nat} {b : PSx} {vs : List V} {H : Hp} {Q : VK} {E : XK} (h : SpG K mg (runG n k b) vs H Q E) : vs.length = k := by
  obtain ⟨H0, Hb0, as, Hb, M, ws, r, wr, g⟩ := h
  unfold runG at g
  by_cases z : ws.length = k
  · rw [Paired.len wr, z]
  · simp only [z, if_false] at g
    exact g.elim
theorem body_G {X : Cx} {N : List Str} {body : List Stmt} {b : PSx} {k : Nat} {H : Hp} {vs : List V} {Q : VK} {E : XK} (hX : X.K = K) (hm : X.mg = mg) (hsp : SpG K mg (runG N.length k b) vs H Q E) (j : JSs X (fun c d _ H' => E c d H') body b) :
    ∃ t, PSs X body t ∧ t { nx := fun _ H' => Q .non H', rt := Q } (L2.start N vs) H := by
  subst hX hm
  obtain ⟨t, e, sm⟩ := j
  obtain ⟨H0, Hb0, as, Hb, M, ws, r, wr, g⟩ := hsp
  unfold runG at g
  by_cases z : ws.length = k
  · simp only [z, if_true] at g
    refine ⟨t, e, sm H0 Hb0 as Hb H M _ _ r (slots_start wr) _ ?_⟩
    cases q : b (startS N.length ws) M with
    | nx s' M' => rw [q] at g; exact fun σ' as' Hb' H' r' f' S' => g .non as' Hb' H' r' f' wr_non
    | rt x M' => rw [q] at g; exact fun v as' Hb' H' r' f' w' => g v as' Hb' H' r' f' w'
    | exc e s' M' => rw [q] at g; exact fun σ' as' Hb' H' cls d r' f' S' er => g as' Hb' H' cls d r' f' er
    | bk s' M' => rw [q] at g; exact g.elim
    | ct s' M' => rw [q] at g; exact g.elim
    | stuck => rw [q] at g; exact g.elim
  · simp only [z, if_false] at g
    exact g.elim
/-- a def of the text -/
theorem fn_G {x qual : Str} {st : Stmt} {f : Addr} {fd : FuncData} {N ps : List Str} {k : Nat} {b : PSx} (F : Fun K x qual st f fd) (S : FnScope N ps (defScope st))
    (hb : ∀ (cdv : Value) (A : Around) (outer : List Env) (s : Shared) (H : Hp) (E : XK), Room k (A.deeper (envOfC qual (defScope st) s.heap.objs.size f cdv)) → JSs (cxOf (L2N.CX P w) P w K mg base N qual (defScope st) f cdv A outer s H E) (fun c d _ H' => E c d H') (defBody st) b) :
    FnOk P w K mg base (L2N.CX P w) (k + 1) f fd ps (SpG K mg (runG N.length ps.length b)) :=
by
  obtain ⟨oc, od, kV, doc, pm, an, cdv, ct, osl, rfl, lk, hcd⟩ := F.ex
  exact fn_of lk hcd S (fun vs H Q E h => h.len) fun A outer s H vs Q E hr hsp => body_G rfl rfl hsp (hb cdv A outer s H E hr)
/-- .. with defaults -/
theorem fn_GD {x qual : Str} {params : Arguments} {body : List Stmt} {scope : Scope} {dvs : List V} {kws : List (Str × V)} {f : Addr} {fd : FuncData} {N ps : List Str} {k : Nat} {b : PSx} (F : FunD K x qual params body scope dvs kws f fd) (S : FnScope N ps scope)
    (hb : ∀ (cdv : Value) (A : Around) (outer : List Env) (s : Shared) (H : Hp) (E : XK), Room k (A.deeper (envOfC qual scope s.heap.objs.size f cdv)) → JSs (cxOf (L2N.CX P w) P w K mg base N qual scope f cdv A outer s H E) (fun c d _ H' => E c d H') body b) :
    FnOk P w K mg base (L2N.CX P w) (k + 1) f fd ps (SpG K mg (runG N.length ps.length b)) :=
  F.ok S (fun vs H Q E h => h.len) fun cdv A outer s H vs Q E hr hsp => body_G rfl rfl hsp (hb cdv A outer s H E hr)
end

/-! ### calls -/
theorem pass0 {X : Cx} {σ : L2.St} : PassesAt (L2N.CX X.prog X.w) X σ (WE wNone σ) := fun _ _ _ _ _ _ h => by
  obtain ⟨_, _, _, _, _, _, _, _, _, _, _, _, z⟩ := h
  exact z.elim
/-- a name that holds a def: its promise, its place -/
structure IsFn (P : Program) (w : World) (K : PySem.W.Frag) (mg : Str → Option Value) (base : Heap) (k : Nat) (x : Str) (ps : List Str) (dds : List PyData) (F : PF) : Prop where
  ex : ∃ f fd dvs ds, mg x = some (.ref f) ∧ PySem.W.keepIn K (.ref f) = true ∧ FnOk P w K mg base (L2N.CX P w) k f fd ps (SpG K mg F) ∧ Binds K fd ps ds ∧ Vals dvs ds ∧ DtAll K (fun _ => none) dvs dds ∧ fitsAll dds
theorem IsFn.mono {P : Program} {w : World} {K : PySem.W.Frag} {mg : Str → Option Value} {base : Heap} {j k : Nat} {x : Str} {ps : List Str} {dds : List PyData} {F : PF} (h : IsFn P w K mg base j x ps dds F) (l : j ≤ k) : IsFn P w K mg base k x ps dds F := by
  obtain ⟨f, fd, dvs, ds, h1, h2, h3, h4⟩ := h.ex
  exact ⟨f, fd, dvs, ds, h1, h2, h3.mono l, h4⟩
/-- the call as it stands: the callee works on what there is -/
def pCallG (F : PF) (dds : List PyData) (a : PAx) : PEx := fun s M => (a s M).bind fun ws M1 => F (ws ++ dds.map .d) M1
/-- the call of what changes nothing, with data, with lists seen as data; what it makes is data from now on -/
def viewAll (M : Ms) : List W → Option (List PyData)
  | [] => some []
  | x :: ws => match view M x with
    | some d => (viewAll M ws).map (d :: ·)
    | none => none
def scalar : PyData → Bool
  | .none => true | .bool _ => true | .int _ => true | .str _ => true | _ => false
/-- outcome of a pure call -/
inductive PR where
  | ok (d : PyData) | exc (e : Exn) | stuck
def R.freeze : R W → PR
  | .ok (.d x) _ => .ok x
  | .ok (.r i) m => match m[i]? with
    | some (.lst ws) => (match allD ws with
      | some ds => .ok (.list ds)
      | none => .stuck)
    | _ => .stuck
  | .ok (.k _) _ => .stuck
  | .exc e _ => .exc e
  | .stuck => .stuck
def PF.pure (F : PF) (ds : List PyData) : PR := (F (ds.map .d) []).freeze
def PR.to (r : PR) (M : Ms) : R W := match r with
  | .ok d => .ok (.d d) M
  | .exc e => .exc e M
  | .stuck => .stuck
def pCallP (F : PF) (dds : List PyData) (a : PAx) : PEx := fun s M => (a s M).bind fun ws M1 => match allD ws with
  | some ds => (F.pure (ds ++ dds)).to M1
  | none => match viewAll M1 ws with
    | some ds => (match F.pure (ds ++ dds) with
      | .ok d => if scalar d then .ok (.d d) M1 else .stuck
      | .exc e => .exc e M1
      | .stuck => .stuck)
    | none => .stuck
theorem rel_self {K : PySem.W.Frag} {H Hb : Hp} (h : Same Hb H) : Rel K H Hb [] Hb H [] where
  sub := h
  top := Same.refl _
  len := rfl
  nd := .nil
  al := fun a ha => by cases ha
  off := fun i a o h1 => by simp at h1
  off0 := fun a ha => by cases ha
  b0 := Same.refl _
  at' := fun i a o h1 => by simp at h1
  hb0 := fun a h1 h2 => absurd h2 h1
theorem viewAll_ok {K : PySem.W.Frag} {H0 Hb0 Hb H : Hp} {as : List Addr} {M : Ms} (r : Rel K H0 Hb0 as Hb H M) : ∀ {ws : List W} {vs : List V} {ds : List PyData}, WRs K as Hb vs ws → viewAll M ws = some ds → DzAll K H vs ds
  | [], _, _, h, e => by cases h; simp [viewAll] at e; subst e; exact .nil
  | x :: ws, _, ds, h, e => by
    cases h with
    | cons h1 h2 =>
      unfold viewAll at e
      cases ex : view M x with
      | none => rw [ex] at e; cases e
      | some d =>
        rw [ex] at e
        simp only [Option.map_eq_some_iff] at e
        obtain ⟨r1, e1, rfl⟩ := e
        exact .cons (view_ok r h1 ex) (viewAll_ok r h2 e1)
theorem scalar_any {K : PySem.W.Frag} {H H' : Hp} {v : V} {d : PyData} (h : Dz K H v d) (s : scalar d = true) : Dz K H' v d := by
  obtain ⟨h1, h2⟩ := h
  cases h1 with
  | non => exact ⟨.non, trivial⟩
  | bl b => exact ⟨.bl b, trivial⟩
  | int i => exact ⟨.int i, trivial⟩
  | str x => exact ⟨.str x, h2⟩
  | lst _ _ => cases s
  | tup _ _ => cases s
/-- what a pure call leaves -/
theorem freeze_ok {K : PySem.W.Frag} {mg : Str → Option Value} {wE : WX} {σ : L2.St} {H H0 Hb0 Hb Hc : Hp} {as : List Addr} {M : Ms} {Q : VK} {r : R W} (R0 : Rel K H0 Hb0 as Hb H M) (hc : Same Hc H)
    (ok : ∀ d, r.freeze = .ok d → ∀ v H' Hb', Same H H' → Same Hc Hb' → Same Hb' H' → (∀ a, Hb' a ≠ none → Hc a = none → H a = none) → Dz K Hb' v d → Q v H')
    (ex : ∀ e, r.freeze = .exc e → ∀ H' cls d, Same H H' → ExnR K mg e cls d H' → wE cls d σ H')
    (st : r.freeze ≠ .stuck) : Good (repW K) K mg (fun c d _ H' => wE c d σ H') H Hc [] Hc ([] : L2.St) Q r := by
  cases r with
  | stuck => exact (st rfl).elim
  | exc e m => exact fun as' Hb' H' cls d r' f' er => ex e rfl H' cls d r'.top er
  | ok x m =>
    intro v as' Hb' H' r' f' wr
    cases x with
    | d x => exact ok x rfl v H' Hb' r'.top f'.ex r'.sub r'.hb0 wr
    | k u => exact (st rfl).elim
    | r i =>
      obtain ⟨a, ha, rfl⟩ := wr
      cases hm : m[i]? with
      | none => exact (st (by simp [R.freeze, hm])).elim
      | some o =>
        cases o with
        | ins _ _ => exact (st (by simp [R.freeze, hm])).elim
        | dic _ _ => exact (st (by simp [R.freeze, hm])).elim
        | dlk _ _ => exact (st (by simp [R.freeze, hm])).elim
        | gone => exact (st (by simp [R.freeze, hm])).elim
        | lst ws =>
          cases hd : allD ws with
          | none => exact (st (by simp [R.freeze, hm, hd])).elim
          | some ds =>
            obtain ⟨z, vs, h2, h3⟩ := r'.at' i a _ ha hm
            have hbn := r'.off i a _ ha hm rfl
            have h0n := r'.off0 a (List.mem_of_getElem? ha)
            have dz := allD_ok h3 hd
            have hl : ws.length = ds.length := (Paired.len h3).symm.trans (Paired.len dz)
            refine ok (.list ds) (by simp [R.freeze, hm, hd]) (.ref a) H' (upd Hb' a (.lst vs)) r'.top (f'.ex.trans (same_new hbn)) (fun b u e => ?_) (fun b h1 h2 => ?_) (dz_lst upd_same (dzAll_mono (same_new hbn) dz) (hl ▸ z))
            · by_cases hb : b = a
              · subst hb; rw [upd_same] at e; cases e; exact h2
              · rw [upd_ne hb] at e; exact r'.sub b u e
            · by_cases hb : b = a
              · subst hb; exact h0n
              · rw [upd_ne hb] at h1; exact r'.hb0 b h1 h2
section
variable {X : Cx} {w : WX} {k : Nat} {x : Str} {ps : List Str} {dds : List PyData} {F : PF} {e : Expr} {es : List Expr} {pa : PAx} {p pos : Pos}
theorem dz_nil {K : PySem.W.Frag} {Hb : Hp} : ∀ {dvs : List V} {dds : List PyData}, DtAll K (fun _ => none) dvs dds → fitsAll dds → DzAll K Hb dvs dds
  | _, _, h, f => dzAll_mono (fun _ _ z => by cases z) (dzAll_of h f)
theorem je_callG (hF : IsFn X.prog X.w X.K X.mg X.base k x ps dds F) (hr : Room k X.A) (hx : ∀ σ, PassesAt (L2N.CX X.prog X.w) X σ (WE w σ)) (ha : JA X w (e :: es) pa) (hg : Gl X x := by rfl) (hdb : (x == ("__debug__" : Str)) = false := by decide)
    (he : starEach (e :: es) X.env = (false, eval e X.env) :: starEach es X.env := by rfl) (hpl : (backTo pos (starEach es X.env)).any (·.1) = false := by rfl) : JE X w (.Call (.Name x p) (e :: es) [] pos) (pCallG F dds pa) := by
  obtain ⟨f, fd, dvs, ds, hm, hk, hf, hb, hv, hd, hz⟩ := hF.ex
  obtain ⟨t, ea, sa⟩ := ha
  refine ⟨_, pe_callSD hf hr hg hm hk hb hv hx ea hdb he hpl, fun H0 Hb0 as Hb H M σ s r S Q g => ?_⟩
  refine Good.bind sa r S g fun vs ws as1 Hb1 H1 M1 r1 f1 S1 w1 g1 => ?_
  refine ⟨H0, Hb0, as1, Hb1, M1, ws ++ dds.map .d, r1, Paired.app w1 (wrs_of (dz_nil hd hz)), ?_⟩
  cases q : F (ws ++ dds.map .d) M1 with
  | ok a m => rw [q] at g1; exact g1
  | exc a m => rw [q] at g1; exact g1
  | stuck => rw [q] at g1; exact g1
theorem allD_view {M : Ms} : ∀ {ws : List W} {ds : List PyData}, allD ws = some ds → ws = ds.map .d
  | [], _, e => by simp [allD] at e; subst e; rfl
  | .d x :: ws, ds, e => by
    simp only [allD, Option.map_eq_some_iff] at e
    obtain ⟨r, e1, rfl⟩ := e
    rw [allD_view (M := M) e1]; rfl
  | .r i :: ws, _, e => by simp [allD] at e
  | .k v :: ws, _, e => by simp [allD] at e
theorem je_callP (hF : IsFn X.prog X.w X.K X.mg X.base k x ps dds F) (hr : Room k X.A) (hx : ∀ σ, PassesAt (L2N.CX X.prog X.w) X σ (WE w σ)) (ha : JA X w (e :: es) pa) (hg : Gl X x := by rfl) (hdb : (x == ("__debug__" : Str)) = false := by decide)
    (he : starEach (e :: es) X.env = (false, eval e X.env) :: starEach es X.env := by rfl) (hpl : (backTo pos (starEach es X.env)).any (·.1) = false := by rfl) : JE X w (.Call (.Name x p) (e :: es) [] pos) (pCallP F dds pa) := by
  obtain ⟨f, fd, dvs, ds', hm, hk, hf, hb, hv, hd, hz⟩ := hF.ex
  obtain ⟨t, ea, sa⟩ := ha
  refine ⟨_, pe_callSD hf hr hg hm hk hb hv hx ea hdb he hpl, fun H0 Hb0 as Hb H M σ s r S Q g => ?_⟩
  refine Good.bind sa r S g fun vs ws as1 Hb1 H1 M1 r1 f1 S1 w1 g1 => ?_
  cases hall : allD ws with
  | some ds =>
    rw [hall] at g1
    have dz := allD_ok w1 hall
    have all : WRs X.K [] Hb1 (vs ++ dvs) ((ds ++ dds).map .d) := by
      rw [List.map_append]
      exact Paired.app (wrs_of dz) (wrs_of (dz_nil hd hz))
    refine ⟨H1, Hb1, [], Hb1, [], _, rel_self r1.sub, all, ?_⟩
    refine freeze_ok (wE := w) (σ := σ) r1 r1.sub (fun d q v H' Hb' e1 e2 e3 fr z => ?_) (fun e q H' cls d e1 er => ?_) (fun q => ?_)
    · have g2 : Good (repW X.K) X.K X.mg w H0 Hb0 as1 Hb1 σ Q (.ok (.d d) M1) := by
        have : (F.pure (ds ++ dds)).to M1 = .ok (.d d) M1 := by unfold PF.pure; rw [q]; rfl
        rw [← this]; exact g1
      exact g2 v as1 Hb' H' (r1.grow e1 e2 e3 fr) ⟨e2, [], by simp⟩ z
    · have g2 : Good (repW X.K) X.K X.mg w H0 Hb0 as1 Hb1 σ Q (.exc e M1) := by
        have : (F.pure (ds ++ dds)).to M1 = .exc e M1 := by unfold PF.pure; rw [q]; rfl
        rw [← this]; exact g1
      exact g2 as1 Hb1 H' cls d (r1.grow e1 (Same.refl _) (r1.sub.trans e1) (fun a h1 h2 => absurd h2 h1)) Fut.refl er
    · have : (F.pure (ds ++ dds)).to M1 = .stuck := by unfold PF.pure; rw [q]; rfl
      have g2 : Good (repW X.K) X.K X.mg w H0 Hb0 as1 Hb1 σ Q .stuck := by rw [← this]; exact g1
      exact g2.elim
  | none =>
    rw [hall] at g1
    cases hva : viewAll M1 ws with
    | none => rw [hva] at g1; exact g1.elim
    | some ds =>
      rw [hva] at g1
      have dz := viewAll_ok r1 w1 hva
      have all : WRs X.K [] H1 (vs ++ dvs) ((ds ++ dds).map .d) := by
        rw [List.map_append]
        exact Paired.app (wrs_of dz) (wrs_of (dz_nil hd hz))
      refine ⟨H1, H1, [], H1, [], _, rel_self (Same.refl _), all, ?_⟩
      refine freeze_ok (wE := w) (σ := σ) r1 (Same.refl _) (fun d q v H' Hb' e1 e2 e3 fr z => ?_) (fun e q H' cls d e1 er => ?_) (fun q => ?_)
      · have qq : F.pure (ds ++ dds) = .ok d := q
        simp only [qq] at g1
        by_cases sc : scalar d = true
        · simp only [sc, if_true] at g1
          exact g1 v as1 Hb1 H' (r1.grow e1 (Same.refl _) (r1.sub.trans e1) (fun a h1 h2 => absurd h2 h1)) Fut.refl (scalar_any z sc)
        · simp only [sc] at g1
          exact g1.elim
      · have qq : F.pure (ds ++ dds) = .exc e := q
        simp only [qq] at g1
        exact g1 as1 Hb1 H' cls d (r1.grow e1 (Same.refl _) (r1.sub.trans e1) (fun a h1 h2 => absurd h2 h1)) Fut.refl er
      · have qq : F.pure (ds ++ dds) = .stuck := q
        simp only [qq] at g1
        exact g1.elim
end
end Z

set_option linter.all false
set_option autoImplicit false
set_option maxRecDepth 100000
set_option maxHeartbeats 4000000
namespace Z
open PySem PySem.Spec PyProof.Rows L2

/-! ### instances -/
def insOf (C : Addr) (M : Ms) : W → Option (Nat × List (Str × W))
  | .r i => match M[i]? with
    | some (.ins C' fs) => if C' = C then some (i, fs) else none
    | _ => none
  | _ => none
def putW (f : Str) (v : W) : List (Str × W) → List (Str × W)
  | [] => [(f, v)]
  | (g, x) :: r => if g = f then (g, v) :: r else (g, x) :: putW f v r
abbrev PairF (K : PySem.W.Frag) (as : List Addr) (Hb : Hp) : List (Str × V) → List (Str × W) → Prop := Paired (fun (p : Str × V) (q : Str × W) => p.1 = q.1 ∧ WR K as Hb p.2 q.2)
section
variable {K : PySem.W.Frag} {H0 Hb0 Hb H : Hp} {as : List Addr} {M : Ms} {v : V} {x : W} {C : Addr}
theorem insOf_ok (r : Rel K H0 Hb0 as Hb H M) (h : WR K as Hb v x) {i : Nat} {fs : List (Str × W)} (e : insOf C M x = some (i, fs)) : ∃ a dx fv, x = .r i ∧ as[i]? = some a ∧ v = .ref a ∧ H a = some (.ins C dx fv) ∧ PairF K as Hb fv fs ∧ M[i]? = some (.ins C fs) := by
  cases x with
  | d _ => cases e
  | k _ => cases e
  | r j =>
    obtain ⟨a, h1, rfl⟩ := h
    simp only [insOf] at e
    cases hm : M[j]? with
    | none => rw [hm] at e; cases e
    | some o =>
      rw [hm] at e
      cases o with
      | lst _ => cases e
      | dic _ _ => cases e
      | dlk _ _ => cases e
      | gone => cases e
      | ins C' gs =>
        by_cases hc : C' = C
        · simp only [hc, if_true, Option.some.injEq, Prod.mk.injEq] at e
          obtain ⟨rfl, rfl⟩ := e
          subst hc
          obtain ⟨dx, fv, h2, h3⟩ := r.at' j a _ h1 hm
          exact ⟨a, dx, fv, rfl, h1, rfl, h2, h3, hm⟩
        · simp only [hc, if_false] at e
          cases e
theorem lookup_pf {fv : List (Str × V)} {fs : List (Str × W)} {f : Str} (h : PairF K as Hb fv fs) : (∀ y, fs.lookup f = some y → ∃ u, fv.lookup f = some u ∧ WR K as Hb u y) ∧ (fs.lookup f = none → fv.lookup f = none) := by
  induction h with
  | nil => exact ⟨fun y e => (by cases e), fun _ => rfl⟩
  | @cons p q l m h1 h2 ih =>
    obtain ⟨p1, p2⟩ := p
    obtain ⟨q1, q2⟩ := q
    obtain ⟨e1, e2⟩ := h1
    dsimp only at e1 e2
    subst e1
    simp only [List.lookup_cons]
    cases hk : f == p1 with
    | true => exact ⟨fun y e => ⟨p2, rfl, by cases e; exact e2⟩, fun e => by cases e⟩
    | false => exact ih
theorem putW_pf {fv : List (Str × V)} {fs : List (Str × W)} {f : Str} {u : V} {y : W} (hu : WR K as Hb u y) (h : PairF K as Hb fv fs) : PairF K as Hb (putF f u fv) (putW f y fs) := by
  induction h with
  | nil => exact .cons ⟨rfl, hu⟩ .nil
  | @cons p q l m h1 h2 ih =>
    obtain ⟨p1, p2⟩ := p
    obtain ⟨q1, q2⟩ := q
    obtain ⟨e1, e2⟩ := h1
    dsimp only at e1 e2
    subst e1
    show PairF K as Hb (if p1 = f then (p1, u) :: l else (p1, p2) :: putF f u l) (if p1 = f then (p1, y) :: m else (p1, q2) :: putW f y m)
    by_cases hc : p1 = f
    · rw [if_pos hc, if_pos hc]; exact .cons ⟨rfl, hu⟩ h2
    · rw [if_neg hc, if_neg hc]; exact .cons ⟨rfl, e2⟩ ih
end
def pFld (C : Addr) (f : Str) (p : PEx) : PEx := fun s M => (p s M).bind fun x M1 => match insOf C M1 x with
  | some (_, fs) => (match fs.lookup f with
    | some y => .ok y M1
    | none => .stuck)
  | none => .stuck
def pSetF (C : Addr) (f : Str) (pv po : PEx) : PSx := fun s M => (pv s M).to s fun y M1 => (po s M1).to s fun x M2 => match insOf C M2 x with
  | some (i, fs) => if fs.length < 1000 then .nx s (M2.set i (.ins C (putW f y fs))) else .stuck
  | none => .stuck
section
variable {X : Cx} {w : WX} {C : Addr} {f : Str} {e o value : Expr} {pe po pv : PEx} {pos pos' : Pos}
theorem je_fld (cl : Cls X.K C) (na : NoAttr X.K C f) (h : JE X w e pe) (hb : attributeBase e f X.env (eval e X.env) = eval e X.env := by rfl) : JE X w (.Attribute e f pos) (pFld C f pe) := by
  obtain ⟨t, e1, s1⟩ := h
  refine ⟨_, pe_fld e1 hb, fun H0 Hb0 as Hb H M σ s r S Q g => ?_⟩
  refine Good.bind s1 r S g fun v x as1 Hb1 H1 M1 r1 f1 S1 w1 g1 => ?_
  cases hi : insOf C M1 x with
  | none => rw [hi] at g1; exact g1.elim
  | some p =>
    obtain ⟨i, fs⟩ := p
    rw [hi] at g1
    obtain ⟨a, dx, fv, rfl, ha, rfl, hH, hp, hm⟩ := insOf_ok r1 w1 hi
    dsimp only at g1
    cases hl : fs.lookup f with
    | none => rw [hl] at g1; exact g1.elim
    | some y =>
      rw [hl] at g1
      obtain ⟨u, hu, wu⟩ := (lookup_pf hp).1 y hl
      exact ⟨a, C, dx, fv, u, rfl, hH, cl, na, hu, Good.ok g1 r1 wu⟩
theorem js_fld (cl : Cls X.K C) (na : NoAttr X.K C f) (ho : JE X w o po) (hv : JE X w value pv) (hs : swapsWith value (some (.Attribute o f pos')) pos.line X.env = pure false := by rfl) : JS X w (.Assign [.Attribute o f pos'] value pos) (pSetF C f pv po) := by
  obtain ⟨t, e1, s1⟩ := ho
  obtain ⟨u, e2, s2⟩ := hv
  refine ⟨_, ps_fld e1 e2 hs, fun H0 Hb0 as Hb H M σ s r S D g => ?_⟩
  refine GoodS.bind s2 r S g fun y y' as1 Hb1 H1 M1 r1 f1 S1 w1 g1 => ?_
  refine GoodS.bind s1 r1 S1 g1 fun v x as2 Hb2 H2 M2 r2 f2 S2 w2 g2 => ?_
  cases hi : insOf C M2 x with
  | none => rw [hi] at g2; exact g2.elim
  | some p =>
    obtain ⟨i, fs⟩ := p
    rw [hi] at g2
    obtain ⟨a, dx, fv, rfl, ha, rfl, hH, hp, hm⟩ := insOf_ok r2 w2 hi
    dsimp only at g2
    by_cases hl : fs.length < 1000
    · simp only [hl, if_true] at g2
      refine ⟨a, C, dx, fv, rfl, hH, cl, na, by rw [Paired.len hp]; exact hl, ?_⟩
      exact GoodS.nx g2 (r2.setMut ha hm rfl ⟨dx, putF f y fv, upd_same, putW_pf (WR.mono f2 w1) hp⟩) S2
    · simp only [hl, if_false] at g2
      exact g2.elim
end

/-! ### methods, makers -/
/-- a method at f -/
structure IsFnAt (P : Program) (w : World) (K : PySem.W.Frag) (mg : Str → Option Value) (base : Heap) (k : Nat) (f : Addr) (ps : List Str) (dds : List PyData) (F : PF) : Prop where
  ex : ∃ fd dvs ds, FnOk P w K mg base (L2N.CX P w) k f fd ps (SpG K mg F) ∧ Binds K fd ps ds ∧ Vals dvs ds ∧ DtAll K (fun _ => none) dvs dds ∧ fitsAll dds
theorem IsFnAt.mono {P : Program} {w : World} {K : PySem.W.Frag} {mg : Str → Option Value} {base : Heap} {j k : Nat} {f : Addr} {ps : List Str} {dds : List PyData} {F : PF} (h : IsFnAt P w K mg base j f ps dds F) (l : j ≤ k) : IsFnAt P w K mg base k f ps dds F := by
  obtain ⟨fd, dvs, ds, h3, h4⟩ := h.ex
  exact ⟨fd, dvs, ds, h3.mono l, h4⟩
def noAtt (C : Addr) (m : Str) (M : Ms) (x : W) : Bool := match insOf C M x with
  | some (_, fs) => (fs.lookup m).isNone
  | none => false
def pMeth (C : Addr) (m : Str) (F : PF) (dds : List PyData) (o : PEx) (a : PAx) : PEx := fun s M => (o s M).bind fun x M1 => if noAtt C m M1 x = true then (a s M1).bind fun ws M2 => F (x :: (ws ++ dds.map .d)) M2 else .stuck
def pMake (C : Addr) (F : PF) (dds : List PyData) (a : PAx) : PEx := fun s M => (a s M).bind fun ws M1 => match F (.r M1.length :: (ws ++ dds.map .d)) (M1 ++ [.ins C []]) with
  | .ok (.d .none) M2 => .ok (.r M1.length) M2
  | _ => .stuck
def tMethSD (C : Addr) (m : Str) (sp : Sp) (dvs : List V) (E : L2.St → XK) (ta : TE) (t : TA) : TE := fun σ H Q => ta σ H fun x H1 => ∃ a dx fs, x = .ref a ∧ H1 a = some (.ins C dx fs) ∧ fs.lookup m = none ∧
  t σ H1 fun vs H2 => sp (x :: (vs ++ dvs)) H2 Q (E σ)
section
variable {X : Cx} {w : WX} {k : Nat} {C f : Addr} {m x : Str} {ps : List Str} {dds : List PyData} {F : PF} {o e : Expr} {es : List Expr} {po : PEx} {pa : PAx} {p pos apos : Pos}
theorem pe_methSD {CX : CXT} {fd : FuncData} {sp : Sp} {dvs : List V} {ds : List Value} {E : L2.St → XK} {ta : TE} {t : TA} {pl : Sem Bool} (he : PE X o ta) (c : Cls X.K C) (hm : Meth X.K C m f) (F : FnOk X.prog X.w X.K X.mg X.base CX k f fd ps sp) (hr : Room k X.A) (hb : Binds X.K fd ps ds) (hd : Vals dvs ds) (hx : ∀ σ, PassesAt CX X σ (E σ)) (ha : PA X (e :: es) t)
    (hst : starEach (e :: es) X.env = (false, eval e X.env) :: starEach es X.env := by rfl) (hpl : (backTo pos (starEach es X.env)).any (·.1) = false := by rfl)
    (ht : eval (.Call (.Attribute o m apos) (e :: es) [] pos) X.env = (do
      let ov ← eval o X.env
      standAt apos.atName
      let (f, first) ← holding [ov] (getMethod ov m pl)
      callWith pos f first (backTo pos (starEach (e :: es) X.env)) (backToKw pos (keywordEach [] X.env))) := by rfl) :
    PE X (.Call (.Attribute o m apos) (e :: es) [] pos) (tMethSD C m sp dvs E ta t) := by
  refine ⟨fun pins s σ H Q I h => ?_⟩
  refine PySem.W.methodCall_KW (pl := pl) (thn (he.run pins s σ H _ I h) fun u s1 ⟨x, H1, I1, rx, a, dx, fs, ex, ea, l, q⟩ => ?_) ht
  subst ex
  obtain rfl : u = Value.ref a := rx
  refine getmeth_ok I1 ea c hm l ?_
  refine PySem.W.callWith_K (first := [.ref a]) (h₀ := X.base) I.ok.mod.kin hm.kp (thn (ha.run pos pins s1 σ H1 _ I1 q) fun us s2 ⟨vs, H2, I2, r, q2⟩ => ⟨I2.kIn, ?_⟩) hst hpl
  exact run_fnSD (us := .ref a :: us) (vs := .ref a :: vs) F hr hb hd (hx σ) I2 (.cons rfl r) q2
theorem pe_methSD0 {CX : CXT} {fd : FuncData} {sp : Sp} {dvs : List V} {ds : List Value} {E : L2.St → XK} {ta : TE} {pl : Sem Bool} (he : PE X o ta) (c : Cls X.K C) (hm : Meth X.K C m f) (F : FnOk X.prog X.w X.K X.mg X.base CX k f fd ps sp) (hr : Room k X.A) (hb : Binds X.K fd ps ds) (hd : Vals dvs ds) (hx : ∀ σ, PassesAt CX X σ (E σ))
    (ht : eval (.Call (.Attribute o m apos) [] [] pos) X.env = (do
      let ov ← eval o X.env
      standAt apos.atName
      let (f, first) ← holding [ov] (getMethod ov m pl)
      callWith pos f first (backTo pos (starEach [] X.env)) (backToKw pos (keywordEach [] X.env))) := by rfl) :
    PE X (.Call (.Attribute o m apos) [] [] pos) (tMethSD C m sp dvs E ta tNil) := by
  refine ⟨fun pins s σ H Q I h => ?_⟩
  refine PySem.W.methodCall_KW (pl := pl) (thn (he.run pins s σ H _ I h) fun u s1 ⟨x, H1, I1, rx, a, dx, fs, ex, ea, l, q⟩ => ?_) ht
  subst ex
  obtain rfl : u = Value.ref a := rx
  refine getmeth_ok I1 ea c hm l ?_
  exact PySem.W.callWith_K0 (first := [.ref a]) I1.kIn hm.kp (run_fnSD (us := [.ref a]) (vs := [.ref a]) F hr hb hd (hx σ) I1 (.cons rfl .nil) q)
theorem sim_meth {dvs : List V} {ta : TE} {t : TA} (hd : DtAll X.K (fun _ => none) dvs dds) (hz : fitsAll dds) (so : Sim (repW X.K) X.K X.mg w ta po) (sa : Sim (repA X.K) X.K X.mg w t pa) : Sim (repW X.K) X.K X.mg w (tMethSD C m (SpG X.K X.mg F) dvs (WE w) ta t) (pMeth C m F dds po pa) := by
  intro H0 Hb0 as Hb H M σ s r S Q g
  refine Good.bind so r S g fun v y as1 Hb1 H1 M1 r1 f1 S1 w1 g1 => ?_
  by_cases hn : noAtt C m M1 y = true
  · simp only [hn, if_true] at g1
    unfold noAtt at hn
    cases hi : insOf C M1 y with
    | none => rw [hi] at hn; cases hn
    | some p =>
      obtain ⟨i, fs⟩ := p
      rw [hi] at hn
      obtain ⟨a, dx, fv, rfl, ha, rfl, hH, hp, hm⟩ := insOf_ok r1 w1 hi
      refine ⟨a, dx, fv, rfl, hH, (lookup_pf hp).2 (by simpa using hn), ?_⟩
      refine Good.bind sa r1 S1 g1 fun vs ws as2 Hb2 H2 M2 r2 f2 S2 w2 g2 => ?_
      refine ⟨H0, Hb0, as2, Hb2, M2, _, r2, .cons (WR.mono f2 w1) (Paired.app w2 (wrs_of (dz_nil hd hz))), ?_⟩
      cases q : F (.r i :: (ws ++ dds.map .d)) M2 with
      | ok a m => rw [q] at g2; exact g2
      | exc a m => rw [q] at g2; exact g2
      | stuck => rw [q] at g2; exact g2
  · simp only [hn] at g1
    exact g1.elim
theorem je_meth {pl : Sem Bool} (c : Cls X.K C) (hm : Meth X.K C m f) (hF : IsFnAt X.prog X.w X.K X.mg X.base k f ps dds F) (hr : Room k X.A) (hx : ∀ σ, PassesAt (L2N.CX X.prog X.w) X σ (WE w σ)) (ho : JE X w o po) (ha : JA X w (e :: es) pa)
    (hst : starEach (e :: es) X.env = (false, eval e X.env) :: starEach es X.env := by rfl) (hpl : (backTo pos (starEach es X.env)).any (·.1) = false := by rfl)
    (ht : eval (.Call (.Attribute o m apos) (e :: es) [] pos) X.env = (do
      let ov ← eval o X.env
      standAt apos.atName
      let (f, first) ← holding [ov] (getMethod ov m pl)
      callWith pos f first (backTo pos (starEach (e :: es) X.env)) (backToKw pos (keywordEach [] X.env))) := by rfl) :
    JE X w (.Call (.Attribute o m apos) (e :: es) [] pos) (pMeth C m F dds po pa) := by
  obtain ⟨fd, dvs, ds, h3, hb, hv, hd, hz⟩ := hF.ex
  obtain ⟨ta, eo, so⟩ := ho
  obtain ⟨t, ea, sa⟩ := ha
  exact ⟨_, pe_methSD eo c hm h3 hr hb hv hx ea hst hpl ht, sim_meth hd hz so sa⟩
theorem je_meth0 {pl : Sem Bool} (c : Cls X.K C) (hm : Meth X.K C m f) (hF : IsFnAt X.prog X.w X.K X.mg X.base k f ps dds F) (hr : Room k X.A) (hx : ∀ σ, PassesAt (L2N.CX X.prog X.w) X σ (WE w σ)) (ho : JE X w o po)
    (ht : eval (.Call (.Attribute o m apos) [] [] pos) X.env = (do
      let ov ← eval o X.env
      standAt apos.atName
      let (f, first) ← holding [ov] (getMethod ov m pl)
      callWith pos f first (backTo pos (starEach [] X.env)) (backToKw pos (keywordEach [] X.env))) := by rfl) :
    JE X w (.Call (.Attribute o m apos) [] [] pos) (pMeth C m F dds po pNil) := by
  obtain ⟨fd, dvs, ds, h3, hb, hv, hd, hz⟩ := hF.ex
  obtain ⟨ta, eo, so⟩ := ho
  exact ⟨_, pe_methSD0 eo c hm h3 hr hb hv hx ht, sim_meth hd hz so fun H0 Hb0 as Hb H M σ s r S Q g => g.ok r .nil⟩
theorem passE0 {X : Cx} : Passes (L2N.CX X.prog X.w) X (fun _ _ _ => False) := fun _ _ _ _ _ _ _ h => by
  obtain ⟨_, _, _, _, _, _, _, _, _, _, _, _, z⟩ := h
  exact z.elim
theorem sim_make {dvs : List V} {t : TA} (hd : DtAll X.K (fun _ => none) dvs dds) (hz : fitsAll dds) (sa : Sim (repA X.K) X.K X.mg w t pa) : Sim (repW X.K) X.K X.mg w (tMake C (SpG X.K X.mg F) dvs (fun _ _ _ => False) t) (pMake C F dds pa) := by
  intro H0 Hb0 as Hb H M σ s r S Q g
  refine Good.bind sa r S g fun vs ws as1 Hb1 H1 M1 r1 f1 S1 w1 g1 => ?_
  intro x dx hx hdx ne
  have r2 := r1.newAny (p := dx) (o := .own x) hdx
  have hx2 : upd H1 dx (.own x) x = none := by rw [upd_ne (Ne.symm ne)]; exact hx
  have r3 := r2.newAny (p := x) (o := .ins C dx []) hx2
  have fu : Fut as1 Hb1 (as1 ++ [x]) Hb1 := ⟨Same.refl _, [x], rfl⟩
  have r4 := r3.newMut (p := x) (m := .ins C []) (by rw [upd_same]; simp) (r1.hbn hx) (r1.h0n hx) (fun hm => r1.al x hm hx) ⟨dx, [], upd_same, .nil⟩
  have hix : (as1 ++ [x])[M1.length]? = some x := by rw [← r1.len]; simp
  refine ⟨H0, Hb0, as1 ++ [x], Hb1, M1 ++ [.ins C []], .r M1.length :: (ws ++ dds.map .d), r4, .cons ⟨x, hix, rfl⟩ (Paired.app (WRs.mono fu w1) (wrs_of (dz_nil hd hz))), ?_⟩
  cases q : F (.r M1.length :: (ws ++ dds.map .d)) (M1 ++ [.ins C []]) with
  | stuck => rw [q] at g1; exact g1
  | exc a m => rw [q] at g1; exact g1.elim
  | ok y m =>
    rw [q] at g1
    cases y with
    | r _ => exact g1.elim
    | k _ => exact g1.elim
    | d z =>
      cases z with
      | none => exact fun v as' Hb' H' r' f' wr => ⟨wr_non_of wr, g1 (.ref x) as' Hb' H' r' (fu.trans f') ⟨x, f'.idx hix, rfl⟩⟩
      | _ => exact g1.elim
theorem je_make (hM : Mk X.K C f) (hF : IsFnAt X.prog X.w X.K X.mg X.base k f ps dds F) (hr : Room (k + 1) X.A) (hm : X.mg x = some (.ref C)) (ha : JA X w (e :: es) pa) (hg : Gl X x := by rfl) (hdb : (x == ("__debug__" : Str)) = false := by decide)
    (he : starEach (e :: es) X.env = (false, eval e X.env) :: starEach es X.env := by rfl) (hpl : (backTo pos (starEach es X.env)).any (·.1) = false := by rfl) : JE X w (.Call (.Name x p) (e :: es) [] pos) (pMake C F dds pa) := by
  obtain ⟨fd, dvs, ds, h3, hb, hv, hd, hz⟩ := hF.ex
  obtain ⟨t, ea, sa⟩ := ha
  exact ⟨_, pe_make hM h3 hr hg hm hb hv passE0 ea hdb he hpl, sim_make hd hz sa⟩
theorem je_make0 (hM : Mk X.K C f) (hF : IsFnAt X.prog X.w X.K X.mg X.base k f ps dds F) (hr : Room (k + 1) X.A) (hm : X.mg x = some (.ref C)) (hg : Gl X x := by rfl) (hdb : (x == ("__debug__" : Str)) = false := by decide) : JE X w (.Call (.Name x p) [] [] pos) (pMake C F dds pNil) := by
  obtain ⟨fd, dvs, ds, h3, hb, hv, hd, hz⟩ := hF.ex
  exact ⟨_, pe_make0 hM h3 hr hg hm hb hv passE0 hdb, sim_make hd hz fun H0 Hb0 as Hb H M σ s r S Q g => g.ok r .nil⟩
end

/-! ### errors -/
/-- an own class of errors whose maker takes one text -/
structure ExcCl (K : PySem.W.Frag) (mg : Str → Option Value) (x : Str) : Prop where
  ex : ∃ (C : Addr) (bmB : List Value) (B newId initId : String), ExcBaseFacts B newId initId bmB ∧ PySem.W.excIn K C bmB newId = true ∧ mg x = some (.ref C) ∧ PySem.W.keepIn K (.ref C) = true ∧ PySem.W.subIn K (.ref C) (.type "BaseException") = some true ∧ PySem.W.typeIn K (.ref C) = some (.type "type")
def pRaise (x : Str) : PSx := fun s M => .exc ⟨x, none⟩ s M
section
variable {X : Cx} {w : WX}
theorem js_raise {x m : Str} {j : Nat} {p p2 pos pos2 : Pos} (hc : X.calm = true) (tk : L2N.Takes X w) (E : ExcCl X.K X.mg x) (hg : Gl X x := by rfl) (hdb : (x == ("__debug__" : Str)) = false := by decide) : JS X w (.Raise (some (.Call (.Name x p) [.Constant (.str m) j p2] [] pos)) none pos2) (pRaise x) := by
  obtain ⟨C, bmB, B, newId, initId, F, q, gC, kC, h1, h2⟩ := E.ex
  exact ⟨_, L2N.ps_raise hc tk (L2N.pmk_own F q gC kC (raises_own h1 h2) hg hdb), fun H0 Hb0 as Hb H M σ s r S D g => g σ as Hb H (.ref C) none r Fut.refl S ⟨gC, rfl⟩⟩

/-! ### try: .. except C as n: .. -/
def clearO (i : Nat) : O → O
  | .nx s m => .nx (s.set i none) m
  | .bk s m => .bk (s.set i none) m
  | .ct s m => .ct (s.set i none) m
  | o => o
def pTry (cat : Str → Option Bool) (i : Nat) (b : PSx) (su : Exn → Addr → PSx) : PSx := fun s M => match b s M with
  | .exc e s' M' => (match cat e.c with
    | some true => (match clearO i (su e 0 (s'.set i (some (.k (.ref 0)))) M') with
      | .exc _ _ _ => .stuck
      | o => o)
    | some false => .exc e s' M'
    | none => .stuck)
  | o => o
def canonS (K : PySem.W.Frag) (mg : Str → Option Value) (w : WX) (p : PSx) : TS := fun D σ H =>
  ∃ (H0 Hb0 : Hp) (as : List Addr) (Hb : Hp) (M : Ms) (s : Sl), Rel K H0 Hb0 as Hb H M ∧ Slots K as Hb σ s ∧ GoodS K mg w H0 Hb0 as Hb D (p s M)
theorem JSs.canon {b : List Stmt} {p : PSx} (h : JSs X w b p) : PSs X b (canonS X.K X.mg w p) := by
  obtain ⟨t, e1, s1⟩ := h
  exact ⟨fun pins s σ H D I ⟨H0, Hb0, as, Hb, M, sl, r, S, g⟩ => e1.run pins s σ H D I (s1 H0 Hb0 as Hb H M σ sl r S D g)⟩
theorem js_try_as {x n : Str} {c : Value} {i : Nat} {body suite : List Stmt} {b₀ : Stmt} {np pos pos' : Pos} {cat : Str → Option Bool} {pb : PSx} {su : Exn → Addr → PSx} (hs : X.stack = X.env :: X.outer) (hf : X.env.frame = some X.env.locals) (hN : X.N.Nodup) (hc : Names X x c) (tk : L2N.Takes X w)
    (hcat : ∀ y b, cat y = some b → ∃ cv, X.mg y = some cv ∧ PySem.W.exmOne X.K cv c = some b)
    (hb : ∀ (W : WX) (pn : List (Addr × Obj)) (xe : Value → Shared → Prop), L2N.Takes (X.tr pn xe) W → PassesOwn (model X.prog X.w) X.A X.env xe → JSs (X.tr pn xe) W body pb)
    (hsu : ∀ (e : Exn) (a : Addr) (oe : Obj) (cls : Value) (d : Option Addr) (pn : List (Addr × Obj)), cat e.c = some true → X.mg e.c = some cls → (e.arg = none → d = none) → L2N.Zn cls d oe → (∃ vs, oe.data = .fields vs) → JSs (X.suite a ((a, oe) :: pn)) wNone (b₀ :: suite) (su e a))
    (hin : ∀ (e : Exn) (a : Addr) (s : Sl) (M : Ms), clearO i (su e a (s.set i (some (.k (.ref a)))) M) = clearO i (su e 0 (s.set i (some (.k (.ref 0)))) M) := by intros; rfl)
    (hi : X.N[i]? = some n := by rfl) (hln : X.env.kindOf n = some .local := by rfl) :
    JS X w (.Try body [.ExceptHandler (some (.Name x np)) (some n) (b₀ :: suite) pos'] [] [] pos) (pTry cat i pb su) := by
  let ts : Addr → Value → Option Addr → TS := fun a cls d D σ H => ∃ e : Exn, cat e.c = some true ∧ X.mg e.c = some cls ∧ (e.arg = none → d = none) ∧ canonS X.K X.mg wNone (su e a) D σ H
  refine ⟨_, L2N.ps_try_as (tb := fun W => canonS X.K X.mg W pb) (ts := ts) hs hf hN hi hln hc tk (fun W pn xe tkW po => (hb W pn xe tkW po).canon) (fun a oe cls d pn hz hfl => ?_), ?_⟩
  · exact ⟨fun pins s σ H D I ⟨e, h1, h2, h3, h4⟩ => ((hsu e a oe cls d pn h1 h2 h3 hz hfl).canon).run pins s σ H D I h4⟩
  intro H0 Hb0 as Hb H M σ s r S D g
  refine ⟨H0, Hb0, as, Hb, M, s, r, S, ?_⟩
  unfold pTry at g
  cases q : pb s M with
  | nx s' M' => rw [q] at g; exact g
  | rt y M' => rw [q] at g; exact g
  | bk s' M' => rw [q] at g; exact g
  | ct s' M' => rw [q] at g; exact g
  | stuck => rw [q] at g; exact g
  | exc e s' M' =>
    rw [q] at g
    intro σ' as' Hb' H' cls d r' f' S' er
    dsimp only at g
    have er' := er
    obtain ⟨gc, ga⟩ := er'
    cases hcat' : cat e.c with
    | none => rw [hcat'] at g; exact g.elim
    | some b =>
      obtain ⟨cv, h1, h2⟩ := hcat _ _ hcat'
      rw [gc] at h1
      cases h1
      refine ⟨b, h2, fun hb1 a ha => ?_, fun hb1 => ?_⟩
      · subst hb1
        rw [hcat'] at g
        dsimp only at g
        refine ⟨e, hcat', gc, fun h => ?_, H0, Hb0, as', Hb', M', s'.set i (some (.k (.ref a))), r', S'.set (w := .k (.ref a)) rfl i, ?_⟩
        · rw [h] at ga; exact ga
        rw [← hin e a s' M'] at g
        cases q2 : su e a (s'.set i (some (.k (.ref a)))) M' with
        | nx s2 M2 => rw [q2] at g; exact fun σ2 as2 Hb2 H2 r2 f2 S2 => g (σ2.set i none) as2 Hb2 H2 r2 (f'.trans f2) (S2.unset none i)
        | rt y M2 => rw [q2] at g; exact fun v as2 Hb2 H2 r2 f2 w2 => g v as2 Hb2 H2 r2 (f'.trans f2) w2
        | bk s2 M2 => rw [q2] at g; exact fun σ2 as2 Hb2 H2 r2 f2 S2 => g (σ2.set i none) as2 Hb2 H2 r2 (f'.trans f2) (S2.unset none i)
        | ct s2 M2 => rw [q2] at g; exact fun σ2 as2 Hb2 H2 r2 f2 S2 => g (σ2.set i none) as2 Hb2 H2 r2 (f'.trans f2) (S2.unset none i)
        | stuck => rw [q2] at g; exact g
        | exc _ _ _ => rw [q2] at g; exact g.elim
      · subst hb1
        rw [hcat'] at g
        exact g σ' as' Hb' H' cls d r' f' S' er
end
end Z

set_option linter.all false
set_option autoImplicit false
set_option maxRecDepth 100000
set_option maxHeartbeats 4000000
namespace Z
open PySem PySem.Spec PyProof.Rows L2 L2H HotX

/-! ### a comprehension where an error is handled -/
/-- the block's context: the handled error p stands by -/
abbrev blkH (X : Cx) (p : Addr × Obj) (s : Shared) (H : Hp) (scope : Scope) (cenv : Env) (fp : List Addr) : Cx := (X.blk s H scope cenv fp).tr [p] (fun _ _ => False)
section
variable {X : Cx} {p : Addr × Obj}
theorem lc_coreH {pins : List (Addr × Obj)} {s : Shared} {σ : L2.St} {H : Hp} {Q : VK} {elt tg iter : Expr} {ifs : List Expr} {scope : Scope} {own : List (Str × Nat)} {pos pos' : Pos} {wi : TI} {g : TG} {tt : TT} {te : TE} {use : Option (Value → Sem Unit)} {Qf : Value → Shared → Prop}
    (hot : Hot1 X.A p) (hpn : p ∈ X.pn) (hN : X.N.Nodup) (I : Inv X pins σ H s) (hi : PIH X tg iter wi) (ok : BlkOk X.N X.env.scope scope own)
    (hg : ∀ (s : Shared) (H : Hp) (C : Addr) (cl : List (Str × Addr)) (fp : List Addr), PG (blkH X p s H scope (compEnvC scope cl C X.env) fp) tg g) (ht : ∀ (s : Shared) (H : Hp) (C : Addr) (cl : List (Str × Addr)) (fp : List Addr), PTs (blkH X p s H scope (compEnvC scope cl C X.env) fp) ifs tt)
    (he : ∀ (s : Shared) (H : Hp) (C : Addr) (cl : List (Str × Addr)) (fp : List Addr), PE (blkH X p s H scope (compEnvC scope cl C X.env) fp) elt te) (hs : ∀ x, foldedSetIterable iter X.env x = pure x)
    (h : tLc wi g tt te (own.map (·.2)) σ H Q)
    (hRR : ∀ D C s' m H', Inv X pins σ H' s' → Q (.ref D) H' → s'.heap.Ns C m → FpOk X pins H' C → compPost (model X.prog X.w) X.A X.xe use Qf (.ref D) C (.ok .next) s') :
    wpAny (model X.prog X.w) X.A (comprehension (.ListComp elt [⟨tg, iter, ifs, 0⟩] scope pos) scope X.env pos' (newList []) false (eval iter X.env) use) Qf X.xe s := by
  have hfree : ∀ y ∈ scope.names, y.2 = .free → ∃ c, X.env.cells.lookup y.1 = some c := fun y hy e => by
    rcases ok.free y hy e with k | k
    · exact I.ok.has _ (.inl k)
    · exact I.ok.has _ (.inr k)
  refine wpAny_comprehension_free (use := use) rfl hs (closure_ok hfree) ok.kind (fun y hy e => by rw [ok.uniq y hy, e])
    (thn (hi.run pins s σ H _ I h) fun xv s1 hx => thn hx fun itv s2 h2 => ?_)
  obtain ⟨it, fp, tn, J, H2, e, I2, T, st2, f2, q⟩ := h2
  subst e
  refine wpAny_newObj_type (newEnv_comp ?_) (by show 0 ≤ sizeLine; decide)
  generalize hD : s2.heap.objs.size = D
  have hDn : H2 D = none := I2.hok.fresh (Nat.le_of_eq hD)
  obtain ⟨W, ⟨m0, w0⟩, turn⟩ := q D hDn
  generalize hs3 : ({ s2 with heap := s2.heap.push { cls := .type "list", data := .seq ([] : List Value).toArray } } : Shared) = s3
  have I3 : Inv X pins σ (upd H2 D (.lst [])) s3 := by
    rw [← hs3]
    refine I2.laid (t' := s2.toks) (fun b o e => Heap.get?_push_of_some _ e) (Nat.le_of_eq hD) ⟨Nat.zero_le _, [], 0, .nil, ?_⟩
    rw [← hD]
    exact Heap.get?_push_size _ rfl
  have h3 : s3.heap = s2.heap.push { cls := .type "list", data := .seq ([] : List Value).toArray } := by rw [← hs3]
  have sz : ∀ b ∈ fp, b < s2.heap.objs.size := fun b hb => by
    obtain ⟨o, e, _⟩ := T.obj _ _ st2 b hb
    exact Heap.lt_size e
  have f3 : ∀ b ∈ fp, FpOk X pins (upd H2 D (.lst [])) b ∧ b < s3.heap.objs.size := fun b hb => by
    have hlt := sz b hb
    refine ⟨⟨?_, (f2 b hb).2⟩, by rw [h3, Heap.size_push]; exact Nat.lt_succ_of_lt hlt⟩
    rw [upd_ne (by rw [← hD]; exact Nat.ne_of_lt hlt)]
    exact (f2 b hb).1
  have st3 : tn 0 s3.heap := T.keep _ _ _ st2 fun b _ o e => by rw [h3]; exact Heap.get?_push_of_some _ e
  have I4 := block_start I3 ok hN f3
  have P3 := I3.pin p (List.mem_append_left _ hpn)
  have pg := hg s3 (upd H2 D (.lst [])) s3.heap.objs.size (cellsFrom (s3.heap.objs.size + 1) scope.names (cloFrom X.env.cells scope.names [])) fp
  have pt := ht s3 (upd H2 D (.lst [])) s3.heap.objs.size (cellsFrom (s3.heap.objs.size + 1) scope.names (cloFrom X.env.cells scope.names [])) fp
  have pe := he s3 (upd H2 D (.lst [])) s3.heap.objs.size (cellsFrom (s3.heap.objs.size + 1) scope.names (cloFrom X.env.cells scope.names [])) fp
  show codeAny _ _ (.compStart (.ListComp elt [⟨tg, iter, ifs, 0⟩] scope pos) 0 (.ref it) (.ref D) (compEnvC scope (cellsFrom (s3.heap.objs.size + 1) scope.names (cloFrom X.env.cells scope.names [])) s3.heap.objs.size X.env)) (compPost (model X.prog X.w) X.A X.xe use Qf (.ref D) s3.heap.objs.size) { s3 with heap := pushCells (s3.heap.push { cls := .type "dict", data := .dict #[] }) scope.names }
  have nfp : ∀ b ∈ fp, (upd H2 D (.lst [])) b = none := fun b hb => (f3 b hb).1.1
  generalize hce : compEnvC scope (cellsFrom (s3.heap.objs.size + 1) scope.names (cloFrom X.env.cells scope.names [])) s3.heap.objs.size X.env = ce at I4 pg pt pe ⊢
  have cL : ce.locals = s3.heap.objs.size := by subst hce; rfl
  generalize hH3 : upd H2 D (.lst []) = H3 at I3 I4 pg pt pe w0 nfp f3 P3
  generalize hs4 : ({ s3 with heap := pushCells (s3.heap.push { cls := .type "dict", data := .dict #[] }) scope.names } : Shared) = s4 at I4 ⊢
  have kp4 : ∀ b o, s3.heap.get? b = some o → s4.heap.get? b = some o := fun b o e => by rw [← hs4]; exact pushCells_keeps _ _ _ _ (Heap.get?_push_of_some _ e)
  have st4 : tn 0 s4.heap := T.keep _ _ _ st3 fun b _ o e => kp4 b o e
  -- the handled error stands by
  have Ip : Inv (X.blk s3 H3 scope ce fp) [p] (wipe σ (own.map (·.2))) H3 s4 := ⟨I4.ok, I4.os, I4.bare, I4.base, I4.loc, I4.cell, I4.free, I4.freeC, fun q hq => by
    have e : q = p := by simpa using (show q ∈ ([] : List (Addr × Obj)) ++ [p] from hq)
    subst e
    refine ⟨kp4 _ _ P3.1, P3.2.1, ?_, fun hm => (List.mem_cons.mp (I3.stkSub q.1 hm)).elim P3.2.2.1 P3.2.2.2.1, P3.2.2.2.2⟩
    show q.1 ≠ ce.locals
    rw [cL]
    exact Nat.ne_of_lt (Heap.lt_size P3.1), I4.hok, I4.len⟩
  have I5 : Inv (blkH X p s3 H3 scope ce fp) [] (wipe σ (own.map (·.2))) H3 s4 := Ip.toTry _
  have hc : HotC (blkH X p s3 H3 scope ce fp) := ⟨p, hot, List.mem_cons_self⟩
  have stat : ∀ {σ' : L2.St} {H' : Hp} {s' : Shared}, Inv (blkH X p s3 H3 scope ce fp) [] σ' H' s' → (∀ b ∈ fp, H' b = none) → ∀ b ∈ fp, FpOk (blkH X p s3 H3 scope ce fp) [] H' b := fun {σ' H' s'} I' hn b hb =>
    ⟨hn b hb, (I'.ok.exf b hb).1, I'.ok.exfs b hb, .inl hb, fun x c e => (I'.ok.exf b hb).2 x c e, fun r hr => by
      have e : r = p := by simpa using (show r ∈ [p] ++ ([] : List (Addr × Obj)) from hr)
      subst e
      exact (f3 b hb).1.2.2.2.2.2 r (List.mem_append_left _ hpn)⟩
  have loop : codeAny (model X.prog X.w) X.A (.compLoop (.ListComp elt [⟨tg, iter, ifs, 0⟩] scope pos) 0 (.ref it) (.ref D) ce) (compPost (model X.prog X.w) X.A X.xe use Qf (.ref D) s3.heap.objs.size) s4 := by
    refine compLoop_any (fun n s' => ∃ i H', Inv (blkH X p s3 H3 scope ce fp) [] (wipe σ (own.map (·.2))) H' s' ∧ tn i s'.heap ∧ (∀ b ∈ fp, H' b = none) ∧ W i n H') ?_ m0 ⟨0, H3, I5, st4, nfp, w0⟩
    rintro n s5 ⟨i, H5, I5, st5, n5, w5⟩
    rcases turn i n H5 w5 with ⟨stop, qq⟩ | ⟨go, Nx, hNx, step⟩
    · have td := T.done (blkH X p s3 H3 scope ce fp) rfl rfl rfl hc i [] s5 _ H5 (fun _ _ => False) I5 (stat I5 n5) st5 stop
      refine thnF td fun r s6 ⟨hr, I6⟩ => ?_
      subst hr
      have I7 : Inv X pins σ H5 s6 := I3.call' (ch := fp) I6.os I6.base I6.hok I6.bare fun b hb => ⟨(f3 b hb).1.2.2.2.1, (f3 b hb).1.2.1, (f3 b hb).1.2.2.2.2.1, (f3 b hb).1.2.2.2.2.2⟩
      have nC : H5 s3.heap.objs.size = none := by
        have z : H5 ce.locals = none := I6.free
        rw [cL] at z
        exact z
      obtain ⟨m, hn, _⟩ := I6.loc
      have hn : s6.heap.Ns ce.locals m := hn
      rw [cL] at hn
      exact hRR D s3.heap.objs.size s6 m H5 I7 qq hn (I3.fpOk (Nat.le_refl _) nC)
    · have ti := T.item (blkH X p s3 H3 scope ce fp) rfl rfl rfl hc i [] s5 _ H5 (fun _ _ => False) I5 (stat I5 n5) st5 go
      refine thnF ti fun r s6 ⟨u, hr, h6⟩ => ?_
      subst hr
      refine thnF h6 fun _ s7 ⟨x, H7, I7, r7, y7, st7, n7⟩ => ?_
      have I7' := I7.pinned (stat I7 n7) (T.obj _ _ st7)
      refine thnF (pg.run _ s7 _ H7 x u _ I7' r7 (step x H7 y7)) fun _ s8 ⟨σ8, H8, I8, hw8, q8⟩ => ?_
      refine thnF (pt.run _ s8 σ8 H8 _ I8 q8) fun b s9 ⟨H9, I9, q9⟩ => ?_
      have fin : ∀ {s' : Shared} {H' : Hp}, Inv (blkH X p s3 H3 scope ce fp) ([] ++ pinsAt fp s7.heap) σ8 H' s' → Nx H' → ∃ m, m < n ∧ ∃ i H', Inv (blkH X p s3 H3 scope ce fp) [] (wipe σ (own.map (·.2))) H' s' ∧ tn i s'.heap ∧ (∀ b ∈ fp, H' b = none) ∧ W i m H' := fun {s' H'} I' nx => by
        obtain ⟨m', hm, w'⟩ := hNx H' nx
        have pin' : ∀ b ∈ fp, ∀ o, s7.heap.get? b = some o → s'.heap.get? b = some o ∧ H' b = none := fun b hb o e =>
          let z := I'.pin (b, o) (List.mem_append_right _ (List.mem_append_right _ (mem_pinsAt hb e)))
          ⟨z.1, z.2.1⟩
        have hl : (wipe σ (own.map (·.2))).length = σ8.length := by rw [← hw8, wipe_length]
        refine ⟨m', hm, i + 1, H', (I'.unpinned (pins := [])).weak hl (fun j v e => ?_), T.keep _ _ _ st7 fun b hb o e => (pin' b hb o e).1, fun b hb => ?_, w'⟩
        · rw [← hw8] at e
          exact (wipe_some e).1
        · obtain ⟨o, e, _⟩ := T.obj _ _ st7 b hb
          exact (pin' b hb o e).2
      cases b with
      | false =>
        simp only [Bool.false_eq_true, if_false] at q9 ⊢
        exact fin I9 q9
      | true =>
        simp only [if_true] at q9 ⊢
        refine thnF (pe.run _ s9 σ8 H9 _ I9 q9) fun z s10 ⟨yv, H10, I10, r10, acc, hD10, hz10, nx⟩ => ?_
        exact app_ok (X := blkH X p s3 H3 scope ce fp) I10 hD10 hz10 r10 fun s11 I11 => fin I11 nx
  exact codeAny_compStart_list loop (T.self X.A 0 _ _ _ st4 loop)

theorem pe_lcH {elt tg iter : Expr} {ifs : List Expr} {scope : Scope} {own : List (Str × Nat)} {pos : Pos} {wi : TI} {g : TG} {tt : TT} {te : TE} (hot : Hot1 X.A p) (hpn : p ∈ X.pn) (hN : X.N.Nodup) (hi : PIH X tg iter wi) (ok : BlkOk X.N X.env.scope scope own)
    (hg : ∀ (s : Shared) (H : Hp) (C : Addr) (cl : List (Str × Addr)) (fp : List Addr), PG (blkH X p s H scope (compEnvC scope cl C X.env) fp) tg g) (ht : ∀ (s : Shared) (H : Hp) (C : Addr) (cl : List (Str × Addr)) (fp : List Addr), PTs (blkH X p s H scope (compEnvC scope cl C X.env) fp) ifs tt)
    (he : ∀ (s : Shared) (H : Hp) (C : Addr) (cl : List (Str × Addr)) (fp : List Addr), PE (blkH X p s H scope (compEnvC scope cl C X.env) fp) elt te) (hs : ∀ x, foldedSetIterable iter X.env x = pure x := by intro _; rfl) :
    PE X (.ListComp elt [⟨tg, iter, ifs, 0⟩] scope pos) (tLc wi g tt te (own.map (·.2))) := by
  refine ⟨fun pins s σ H Q I h => ?_⟩
  rw [eval_ListComp]
  refine lc_coreH hot hpn hN I hi ok hg ht he hs h fun D C s' m H' I' q hn f => ⟨m, hn, fun h'' sb => ?_⟩
  obtain ⟨f0, f1, f2, f3, f4, f5⟩ := f
  exact ⟨.ref D, H', I'.turned (t' := s'.toks) (fun b o hb e => (sb.2 b hb).trans e) f0 f1 f3 f4 f5, rfl, q⟩
theorem ps_setLcH {i : Nat} {y : Str} {py : Pos} {elt tg iter : Expr} {ifs : List Expr} {scope : Scope} {own : List (Str × Nat)} {pos spos : Pos} {wi : TI} {g : TG} {tt : TT} {te : TE} (hot : Hot1 X.A p) (hpn : p ∈ X.pn) (hN : X.N.Nodup) (hy : X.N[i]? = some y) (hyl : X.env.scope.names.lookup y = some .local)
    (hsw : swapsWith (.ListComp elt [⟨tg, iter, ifs, 0⟩] scope pos) (some (.Name y py)) spos.line X.env = pure true) (hi : PIH X tg iter wi) (ok : BlkOk X.N X.env.scope scope own)
    (hg : ∀ (s : Shared) (H : Hp) (C : Addr) (cl : List (Str × Addr)) (fp : List Addr), PG (blkH X p s H scope (compEnvC scope cl C X.env) fp) tg g) (ht : ∀ (s : Shared) (H : Hp) (C : Addr) (cl : List (Str × Addr)) (fp : List Addr), PTs (blkH X p s H scope (compEnvC scope cl C X.env) fp) ifs tt)
    (he : ∀ (s : Shared) (H : Hp) (C : Addr) (cl : List (Str × Addr)) (fp : List Addr), PE (blkH X p s H scope (compEnvC scope cl C X.env) fp) elt te) (hs : ∀ x, foldedSetIterable iter X.env x = pure x := by intro _; rfl) :
    PS X (.Assign [.Name y py] (.ListComp elt [⟨tg, iter, ifs, 0⟩] scope pos) spos) (tAsg (tLc wi g tt te (own.map (·.2))) (gName i)) := by
  refine ⟨fun pins s σ H D I h => ?_⟩
  rw [exec_Assign_Name_used _ _ _ _ hsw]
  refine wpAny_bind (wpAny_standAt (wpAny_bind ?_))
  show wpAny _ X.A (do let _ ← comprehension (.ListComp elt [⟨tg, iter, ifs, 0⟩] scope pos) scope X.env (firstIterPos [⟨tg, iter, ifs, 0⟩] pos) (newList []) false (eval iter X.env) (some (assign (.Name y py) X.env))) _ _ s
  have h : tLc wi g tt te (own.map (·.2)) σ H (fun x H1 => gName i x σ H1 D.nx) := h
  refine wpAny_bind (thn (lc_coreH (Qf := fun _ s' => SP X pins D .next s') hot hpn hN I hi ok hg ht he hs h fun L C s' m H' I' q hn f => ?_) fun _ s' hq => wpAny_pure (wpAny_pure hq))
  show wpAny _ _ (assign (.Name y py) X.env (.ref L)) _ _ _
  refine wpAny_assign_Name (store_ok2 (v := V.ref L) I' hN hy (.inl hyl) rfl (fun s2 I2 ⟨a, sb, ha⟩ => ?_) (.inr hyl))
  obtain ⟨f0, f1, f2, f3, f4, f5⟩ := f
  have haC : C ≠ a := by
    rcases ha with z | z
    · rw [z]; exact f1
    · exact fun e => f4 y a z e.symm
  refine ⟨m, hn.sameBut sb haC, fun h3 sb3 => ?_⟩
  exact ⟨_, H', I2.turned (t' := s2.toks) (fun b o hb e => (sb3.2 b hb).trans e) f0 f1 f3 f4 f5, q⟩
end
end Z

set_option linter.all false
set_option autoImplicit false
set_option maxRecDepth 100000
set_option maxHeartbeats 4000000
namespace Z
open PySem PySem.Spec PyProof.Rows L2 L2H HotX

/-! ### where an error is handled: range, a comprehension -/
def JIH (X : Cx) (w : WX) (tg iter : Expr) (p : PAx) : Prop := ∃ wi, PIH X tg iter wi ∧ Sim (repI X.K) X.K X.mg w wi p
section
variable {X : Cx} {w : WX} {p : Addr × Obj}
theorem ji_rng1H {tg l : Expr} {ps pos : Pos} {pl : PEx} (hm : X.mg "range" = none) (h : JE X w l pl) (hg : Gl X "range" := by rfl) (hs : starEach (l :: []) X.env = (false, eval l X.env) :: starEach [] X.env := by rfl) (hs2 : starEach [l] X.env = [(false, eval l X.env)] := by rfl) : JIH X w tg (.Call (.Name "range" ps) [l] [] pos) (pRng1 pl) := by
  obtain ⟨t, e1, s1⟩ := h
  refine ⟨_, pi_range1H hg hm (pa_cons e1 pa_nil hs) hs2, fun H0 Hb0 as Hb H M σ s r S Q g => ?_⟩
  refine Good.bind s1 r S g fun x x' as1 Hb1 H1 M1 r1 f1 S1 w1 g1 => ?_
  cases x' with
  | r i => exact (show False from g1).elim
  | k u => exact (show False from g1).elim
  | d z =>
    cases z with
    | int j =>
      obtain rfl := wr_int_of w1
      by_cases hc : -(2 ^ 62) ≤ j ∧ j < 2 ^ 62
      · simp only [hc, and_self, if_true] at g1
        exact ⟨j, rfl, hc.1, hc.2, Good.ok g1 r1 (itr_ok X.K 0 j.toNat as1 Hb1)⟩
      · simp only [hc, if_false] at g1
        exact g1.elim
    | _ => exact (show False from g1).elim
theorem jl_lcH {elt tg iter : Expr} {ifs : List Expr} {scope : Scope} {own : List (Str × Nat)} {pos : Pos} {it : PAx} {pg : PGx} {tt : PTx} {te : PEx} {is : List Nat} (hot : Hot1 X.A p) (hpn : p ∈ X.pn) (hN : X.N.Nodup) (hi : JIH X w tg iter it) (ok : BlkOk X.N X.env.scope scope own)
    (hg : ∀ (s : Shared) (H : Hp) (C : Addr) (cl : List (Str × Addr)) (fp : List Addr), JG (blkH X p s H scope (compEnvC scope cl C X.env) fp) tg pg is) (ht : ∀ (s : Shared) (H : Hp) (C : Addr) (cl : List (Str × Addr)) (fp : List Addr), JTs (blkH X p s H scope (compEnvC scope cl C X.env) fp) wNone ifs tt)
    (he : ∀ (s : Shared) (H : Hp) (C : Addr) (cl : List (Str × Addr)) (fp : List Addr), JE (blkH X p s H scope (compEnvC scope cl C X.env) fp) wNone elt te) (hv : ∀ i ∈ is, i ∈ own.map (·.2) := by decide) (hs : ∀ x, foldedSetIterable iter X.env x = pure x := by intro _; rfl) :
    JL X w (.ListComp elt [⟨tg, iter, ifs, 0⟩] scope pos) (pLc it pg tt te (own.map (·.2))) := by
  obtain ⟨wi, ei, si⟩ := hi
  exact ⟨_, pe_lcH hot hpn hN ei ok (fun s H C cl fp => (hg s H C cl fp).canon) (fun s H C cl fp => (ht s H C cl fp).canon) (fun s H C cl fp => (he s H C cl fp).canon) hs, sim_lc hv si⟩
/-- name = [..] on one line: data, or a thing that changes -/
theorem js_setLcH {i : Nat} {y : Str} {py : Pos} {elt tg iter : Expr} {ifs : List Expr} {scope : Scope} {own : List (Str × Nat)} {pos spos : Pos} {it : PAx} {pg : PGx} {tt : PTx} {te : PEx} {is : List Nat} (hot : Hot1 X.A p) (hpn : p ∈ X.pn) (hN : X.N.Nodup) (hi : JIH X w tg iter it) (ok : BlkOk X.N X.env.scope scope own)
    (hg : ∀ (s : Shared) (H : Hp) (C : Addr) (cl : List (Str × Addr)) (fp : List Addr), JG (blkH X p s H scope (compEnvC scope cl C X.env) fp) tg pg is) (ht : ∀ (s : Shared) (H : Hp) (C : Addr) (cl : List (Str × Addr)) (fp : List Addr), JTs (blkH X p s H scope (compEnvC scope cl C X.env) fp) wNone ifs tt)
    (he : ∀ (s : Shared) (H : Hp) (C : Addr) (cl : List (Str × Addr)) (fp : List Addr), JE (blkH X p s H scope (compEnvC scope cl C X.env) fp) wNone elt te) (hv : ∀ i ∈ is, i ∈ own.map (·.2) := by decide)
    (hy : X.N[i]? = some y := by rfl) (hyl : X.env.scope.names.lookup y = some .local := by rfl) (hsw : swapsWith (.ListComp elt [⟨tg, iter, ifs, 0⟩] scope pos) (some (.Name y py)) spos.line X.env = pure true := by exact sw_true rfl rfl rfl (by decide +kernel)) (hs : ∀ x, foldedSetIterable iter X.env x = pure x := by intro _; rfl) :
    JS X w (.Assign [.Name y py] (.ListComp elt [⟨tg, iter, ifs, 0⟩] scope pos) spos) (pSet i (pDat (pLc it pg tt te (own.map (·.2))))) := by
  obtain ⟨wi, ei, si⟩ := hi
  refine ⟨_, ps_setLcH (g := canonG X.K pg is) (tt := canon repB X.K X.mg wNone tt) (te := canon (repW X.K) X.K X.mg wNone te) hot hpn hN hy hyl hsw ei ok (fun s H C cl fp => (hg s H C cl fp).canon) (fun s H C cl fp => (ht s H C cl fp).canon) (fun s H C cl fp => (he s H C cl fp).canon) hs, fun H0 Hb0 as Hb H M σ s r S D g => ?_⟩
  have sl := sim_lc (X := X) (w := w) (pg := pg) (tt := tt) (te := te) hv si
  have g' : GoodS X.K X.mg w H0 Hb0 as Hb D ((pLc it pg tt te (own.map (·.2)) s M).to s fun ws M1 => match allD ws with
      | some ds => .nx (s.set i (some (.d (.list ds)))) M1
      | none => .stuck) := by
    unfold pSet pDat at g
    cases e : pLc it pg tt te (own.map (·.2)) s M with
    | stuck => rw [e] at g; exact g
    | exc a m => rw [e] at g; exact g
    | ok a m =>
      rw [e] at g
      simp only [R.bind, R.to] at g ⊢
      cases hd : allD a with
      | none => rw [hd] at g; exact g
      | some ds => rw [hd] at g; exact g
  refine GoodS.bind sl r S g' fun v ws as1 Hb1 H1 M1 r1 f1 S1 w1 g1 => ?_
  obtain ⟨q, vs, rfl, hq, z, wr, nq, hbn, h0n⟩ := w1
  cases hd : allD ws with
  | none => rw [hd] at g1; exact g1.elim
  | some ds =>
    rw [hd] at g1
    have dz := allD_ok wr hd
    have hl : ws.length = ds.length := (Paired.len wr).symm.trans (Paired.len dz)
    have fu : Fut as1 Hb1 as1 (upd Hb1 q (.lst vs)) := fut_new hbn
    refine GoodS.nx (GoodS.mono fu g1) (r1.freshData hq hbn h0n nq) ((S1.mono fu).set (w := .d (.list ds)) ?_ i)
    exact dz_lst upd_same (dzAll_mono (same_new hbn) dz) (hl ▸ z)
end

/-! ### a def that is called there; Z: what is known of the error -/
structure FnHC (P : Program) (w : World) (K : PySem.W.Frag) (mg : Str → Option Value) (base : Heap) (k : Nat) (f : Addr) (fd : FuncData) (ps : List Str) (Zp : Obj → Prop) (sp : Addr → Sp) : Prop where
  len : ∀ a vs H Q E, sp a vs H Q E → vs.length = ps.length
  run : ∀ (A : Around) (outer : List Env) (s : Shared) (H : Hp) (args : Args) (us : List Value) (vs : List V) (Q : VK) (E : XK) (p : Addr × Obj), RoomH k A → Hot1 A p → Zp p.2 → PinOk outer H s p → Env0 P w K mg base A outer s H → BindsTo s fd args (ps.zip us) → Vals vs us → sp p.1 vs H Q E →
    codeAny (model P w) A (.call (.ref f) args) (CR (L2N.CX P w) outer P w H s Q E) s
theorem fn_ofHC {P : Program} {w : World} {K : PySem.W.Frag} {mg : Str → Option Value} {base : Heap} {k : Nat} {f : Addr} {name qual : Str} {params : Arguments} {body : List Stmt} {scope : Scope} {dV kV doc pm cdv ct oc : Value} {an od : Option Addr}
    {osl : Array (Option Value)} {N ps : List Str} {Zp : Obj → Prop} {sp : Addr → Sp} (lk : K.lookup f = some ⟨oc, od, .func (PySem.W.fnOf name qual params body scope dV kV doc pm an cdv ct), osl⟩) (hcd : PySem.W.codeIn K cdv qual = true) (S : FnScope N ps scope)
    (len : ∀ a vs H Q E, sp a vs H Q E → vs.length = ps.length)
    (hbody : ∀ (A : Around) (outer : List Env) (s : Shared) (H : Hp) (vs : List V) (Q : VK) (E : XK) (p : Addr × Obj), Hot1 A p → Zp p.2 → RoomH k (A.deeper (envOfC qual scope s.heap.objs.size f cdv)) → sp p.1 vs H Q E →
      ∃ t, PSs (cxH (L2N.CX P w) P w K mg base N qual scope f cdv A outer s H E p) body t ∧ t { nx := fun _ H' => Q .non H', rt := Q } (L2.start N vs) H) :
    FnHC P w K mg base (k + 1) f (PySem.W.fnOf name qual params body scope dV kV doc pm an cdv ct) ps Zp sp := by
  refine ⟨len, fun A outer s H args us vs Q E p hr hot hZ hpin e0 hb r hsp => ?_⟩
  have hl := len _ _ _ _ _ hsp
  have KX : K.In s.heap := e0.mod.kin.keeps fun b o e => (e0.bs b o e).1
  have lim : s.heap.NoLimit := e0.mod.nolimit.keeps fun b o e => (e0.bs b o e).1
  have hkind : ∀ y ∈ ps.zip us, scope.names.lookup y.1 = some .local ∨ (scope.names.lookup y.1 = some .cell ∧ ((cellsFrom (s.heap.objs.size + 1) scope.names []).lookup y.1).isSome = true) := fun ⟨n, v⟩ hy => by
    rcases S.par n (List.of_mem_zip hy).1 with q | q
    · exact .inl q
    · exact .inr ⟨q, PySem.W.cellsFrom_some _ _ _ (.inl q)⟩
  refine codeAny_call_function hr.depth (KX _ _ lk) rfl S.co S.gen rfl (PySem.W.codeRec_of KX hcd) (hb _ _ _ _ ?_)
  refine wpAny_newFunctionEnv_cells S.kind hkind fun env he s1 x => ?_
  subst he
  refine ⟨lim.keeps x.toInCall.keep, codeAny_func ?_⟩
  obtain ⟨t, ht, hq⟩ := hbody A outer s H vs Q E p hot hZ (hr.deeper _) hsp
  have I : Inv (cxH (L2N.CX P w) P w K mg base N qual scope f cdv A outer s H E p) [] (L2.start N vs) H s1 := inv_startH S hpin e0 hl r x
  refine wpAny_mono (ht.run [] s1 (L2.start N vs) H _ I hq) (fun fl s' hs => ?_) fun e s' hs => hs
  have fin : ∀ {σ' : L2.St} {H' : Hp} {v : V} {u : Value}, Inv (cxH (L2N.CX P w) P w K mg base N qual scope f cdv A outer s H E p) [] σ' H' s' → RelV v u → Q v H' → CE outer P w H s Q u s' :=
    fun {σ' H' v u} J rv q => ⟨v, H', J.os, J.bare, J.base, J.hok, rv, q⟩
  cases fl with
  | ret u =>
    obtain ⟨v, σ', H', J, rv, q⟩ := hs
    exact fin J rv q
  | next =>
    obtain ⟨σ', H', J, q⟩ := hs
    exact fin (v := V.non) (u := Value.none) J rfl q
  | brk =>
    obtain ⟨_, _, _, q⟩ := hs
    exact False.elim q
  | cont =>
    obtain ⟨_, _, _, q⟩ := hs
    exact False.elim q
/-- a def of the text, called there -/
theorem fn_GH {P : Program} {w : World} {K : PySem.W.Frag} {mg : Str → Option Value} {base : Heap} {x qual : Str} {st : Stmt} {f : Addr} {fd : FuncData} {N ps : List Str} {k : Nat} {Zp : Obj → Prop} {b : Addr → PSx} (F : Fun K x qual st f fd) (S : FnScope N ps (defScope st))
    (hb : ∀ (cdv : Value) (A : Around) (outer : List Env) (s : Shared) (H : Hp) (E : XK) (p : Addr × Obj), Hot1 A p → Zp p.2 → RoomH k (A.deeper (envOfC qual (defScope st) s.heap.objs.size f cdv)) → JSs (cxH (L2N.CX P w) P w K mg base N qual (defScope st) f cdv A outer s H E p) (fun c d _ H' => E c d H') (defBody st) (b p.1)) :
    FnHC P w K mg base (k + 1) f fd ps Zp (fun a => SpG K mg (runG N.length ps.length (b a))) := by
  obtain ⟨oc, od, kV, doc, pm, an, cdv, ct, osl, rfl, lk, hcd⟩ := F.ex
  exact fn_ofHC lk hcd S (fun a vs H Q E h => h.len) fun A outer s H vs Q E p hot hZ hr hsp => body_G rfl rfl hsp (hb cdv A outer s H E p hot hZ hr)
structure IsFnH (P : Program) (w : World) (K : PySem.W.Frag) (mg : Str → Option Value) (base : Heap) (k : Nat) (x : Str) (ps : List Str) (Zp : Obj → Prop) (F : Addr → PF) : Prop where
  ex : ∃ f fd, mg x = some (.ref f) ∧ PySem.W.keepIn K (.ref f) = true ∧ FnHC P w K mg base k f fd ps Zp (fun a => SpG K mg (F a)) ∧ Binds K fd ps []
section
variable {X : Cx} {w : WX} {p : Addr × Obj} {k : Nat} {x : Str} {ps : List Str} {e : Expr} {es : List Expr} {pa : PAx} {q pos : Pos} {Zp : Obj → Prop} {F : Addr → PF}
theorem je_callHC (hF : IsFnH X.prog X.w X.K X.mg X.base k x ps Zp F) (hr : RoomH k X.A) (hot : Hot1 X.A p) (hpn : p ∈ X.pn) (hz : Zp p.2) (hx : ∀ σ, PassesAt (L2N.CX X.prog X.w) X σ (WE w σ)) (ha : JA X w (e :: es) pa) (hg : Gl X x := by rfl) (hdb : (x == ("__debug__" : Str)) = false := by decide)
    (he : starEach (e :: es) X.env = (false, eval e X.env) :: starEach es X.env := by rfl) (hpl : (backTo pos (starEach es X.env)).any (·.1) = false := by rfl) : JE X w (.Call (.Name x q) (e :: es) [] pos) (pCallG (F p.1) [] pa) := by
  obtain ⟨f, fd, hm, hk, hf, hb⟩ := hF.ex
  obtain ⟨t, ea, sa⟩ := ha
  refine ⟨tCallS (SpG X.K X.mg (F p.1)) (WE w) t, ⟨fun pins s σ H Q I h => ?_⟩, fun H0 Hb0 as Hb H M σ s r S Q g => ?_⟩
  · refine wpAny_Call_Name_kw (ld_glob I hg hm ?_ hdb)
    refine PySem.W.callWith_K (h₀ := X.base) I.ok.mod.kin hk (thn (ea.run pos pins s σ H _ I h) fun us s1 ⟨vs, H1, I1, r, q⟩ => ⟨I1.kIn, ?_⟩) he hpl
    have hl : us.length = ps.length := by rw [← r.length]; exact hf.len _ _ _ _ _ q
    have b := hb s1 us I1.kIn (by rw [List.append_nil]; exact hl)
    rw [List.append_nil] at b
    have P1 := I1.pin p (List.mem_append_left _ hpn)
    have hpin : PinOk X.stack H1 s1 p := ⟨P1.1, P1.2.1, fun hm => (List.mem_cons.mp (I1.stkSub p.1 hm)).elim P1.2.2.1 P1.2.2.2.1, P1.2.2.2.2⟩
    refine wpAny_call (codeAny_mono (hf.run X.A X.stack s1 H1 ⟨us, []⟩ us vs Q (WE w σ) p hr hot hz hpin I1.env0 b r q) fun r s' hq => ?_)
    cases r with
    | error e => exact hx σ pins H1 s1 e s' I1 hq
    | ok fl =>
      cases fl with
      | ret u => exact I1.after hq
      | next => exact False.elim hq
      | brk => exact False.elim hq
      | cont => exact False.elim hq
  · refine Good.bind sa r S g fun vs ws as1 Hb1 H1 M1 r1 f1 S1 w1 g1 => ?_
    simp only [List.map_nil, List.append_nil] at g1
    refine ⟨H0, Hb0, as1, Hb1, M1, ws, r1, w1, ?_⟩
    cases q : F p.1 ws M1 with
    | ok a m => rw [q] at g1; exact g1
    | exc a m => rw [q] at g1; exact g1
    | stuck => rw [q] at g1; exact g1

/-! ### isinstance of the error -/
theorem call_isEp {D : Addr} (C : ExcC X.K D) (hz : Zc (.ref D) none p.2) (hf : ∃ vs, p.2.data = .fields vs) (hp : p ∈ X.pn) : CallR X (.builtin "isinstance") (rIsE X.K D p.1) := by
  intro pins s σ H xs us Q I r h
  obtain ⟨c, cv, b, rfl, hcv, e, q⟩ := h
  obtain ⟨a, oe⟩ := p
  cases r with
  | cons rx rr =>
    cases rr with
    | cons rt rr =>
      cases rr
      cases rx
      have ec := hcv _ rt
      subst ec
      obtain ⟨hget, _⟩ := I.pin (a, oe) (List.mem_append.mpr (.inl hp))
      obtain ⟨vs, hv⟩ := hf
      have J : PySem.W.InstAt s.heap a oe D none := by
        obtain ⟨oc, od, oda, osl⟩ := oe
        obtain ⟨h1, h2⟩ := hz
        dsimp only at h1 h2 hv
        subst h1 h2 hv
        exact ⟨hget, rfl, rfl, trivial⟩
      exact PySem.W.kia_one (PySem.W.handS_kitx_exc C.hg C.hk C.hs C.hd C.ha C.hn C.ht C.hm) I.kIn J e (fun z => nomatch z) fun tk => ⟨.bl b, H, I.kept (t' := tk) fun _ _ z => z, rfl, q⟩
def gIsE (a : Addr) (c : V) (b : Bool) : PF := fun ws M => match ws with
  | [.k u, .k v] => if u = .ref a ∧ v = c then .ok (.d (.bool b)) M else .stuck
  | _ => .stuck
theorem s_isE {K : PySem.W.Frag} {mg : Str → Option Value} {D a : Addr} {c : V} {cv : Value} {b : Bool} (hcv : ∀ u, RelV c u → u = cv) (hk : PySem.W.kitOne K (.ref D) cv = some b) : SimC K mg (rIsE K D a) (gIsE a c b) := by
  intro w H0 Hb0 as Hb H M σ ws vs r wr Q gd
  match ws, gd with
  | [], gd => exact gd.elim
  | [.k u, .k v], gd =>
    obtain ⟨v1, v2, rfl, w1, w2⟩ := two_args_of wr
    have e1 : v1 = u := w1
    have e2 : v2 = v := w2
    subst e1 e2
    have gd' : Good (repW K) K mg w H0 Hb0 as Hb σ Q (if v1 = .ref a ∧ v2 = c then .ok (.d (.bool b)) M else .stuck) := gd
    by_cases hc : v1 = .ref a ∧ v2 = c
    · rw [if_pos hc] at gd'
      obtain ⟨rfl, rfl⟩ := hc
      exact ⟨_, cv, b, rfl, hcv, hk, Good.ok gd' r (wr_bl b)⟩
    · rw [if_neg hc] at gd'
      exact gd'.elim
end
end Z

set_option linter.all false
set_option autoImplicit false
set_option maxRecDepth 100000
set_option maxHeartbeats 4000000
namespace Z
open PySem PySem.Spec PyProof.Rows L2 RT

/-! ### list(reversed(x)), x a list -/
section
variable {prog : Program} {w : World} {A : Around} {E : Value → Shared → Prop} {s : Shared}
theorem extend_rev {it l S : Addr} {items : Array Value} {res : Value} {c₀ : Nat} {R : Result → Shared → Prop} (hh : A.handled = none) (hit : s.heap.IsRevIter it l ((items.size : Int) - 1)) (hl : s.heap.IsList l items) (hne : l ≠ it) (hn : items.size ≤ sizeLine) (hSi : S ≠ it) (hSl : S ≠ l)
    (hS : s.heap.get? S = some { cls := .type "list", data := .seq #[] c₀ })
    (hR : ∀ h' tk acc' c', (∀ b o, b ≠ S → b ≠ it → s.heap.get? b = some o → h'.get? b = some o) → h'.get? S = some { cls := .type "list", dict := none, data := .seq acc' c', slots := #[] } →
      ItemsOf (fun i v => items[items.size - 1 - i]? = some v) acc' items.size → R (.ok (.ret res)) { s with heap := h', toks := tk }) :
    wpAny (model prog w) A.in1 (Builtin.List.listExtendWith (.ref S) (.ref it) res)
      (fun fin s' => match fin with | .done f => R (.ok f) s' | .again c' => c'.quiet = true ∧ codeAny (model prog w) A c' R s') (fun e s' => R (.error e) s') s := by
  have W := (Walks.listRev (prog := prog) (w := w) (A := A.in1) hh it l hne items).toS
  have hSf : S ∉ [it, l] := by simp only [List.mem_cons, List.not_mem_nil, or_false, not_or]; exact ⟨hSi, hSl⟩
  have hT : s.TypeIs (.ref it) "list_reverseiterator" := hit.typeIs
  have h1 : Builtin.List.listSameRef (.ref S) (.ref it) = false := by simp [Builtin.List.listSameRef, hSi]
  unfold Builtin.List.listExtendWith
  refine wpAny_bind (wpAny_typeOf hT ?_)
  rw [if_neg (by rw [h1]; decide)]
  refine wpAny_bind (wpAny_pyIter_revIter hit ?_)
  refine wpAny_bind (wpAny_holding ?_)
  unfold Builtin.List.listLengthHint
  refine wpAny_bind (wpAny_specialOf hT nolen_lri ?_)
  show wpAny _ A.in1 (specialOf (Value.ref it) (Str.ofString "__length_hint__") >>= _) _ _ _
  refine wpAny_bind (wpAny_specialOf hT hint_lri ?_)
  generalize hid : ("list_reverseiterator.__length_hint__" : String) = id0
  wp_delta
  rw [show splitId id0 = some ("list_reverseiterator", "__length_hint__") from by subst hid; decide +kernel]
  subst hid
  refine wpAny_bind (wpAny_isInstance (b := true) hT (by rw [isSubtype_type]; kernel_rfl) ?_)
  refine wpAny_pure ?_
  rw [if_neg (by decide)]
  have e0 : ((items.size : Nat) : Int) - 1 - ((0 : Nat) : Int) = (items.size : Int) - 1 := by omega
  refine wpAny_pure ⟨plainId_quiet F.plain_extend_loop _, codeAny_extend_loopS W hn _ hSf _ items.size 0 _ _ _ rfl (Nat.zero_le _) ⟨Nat.zero_le _, by rw [e0]; exact hit, hl⟩ hS (ItemsOf.nil _) fun s' acc' c' hm hS' hacc => ?_⟩
  rw [Moved.eq_with hm]
  refine hR s'.heap s'.toks acc' c' (fun b ob hb hb2 e => hm.heap b ob (fun hmem => ?_) e) hS' hacc
  rcases List.mem_cons.mp hmem with e' | hmem
  · exact hb e'
  · exact hb2 (List.mem_singleton.mp hmem)
theorem list_init_rev {it l S : Addr} {items : Array Value} {R : Result → Shared → Prop} (hh : A.handled = none) (hit : s.heap.IsRevIter it l ((items.size : Int) - 1)) (hl : s.heap.IsList l items) (hne : l ≠ it) (hn : items.size ≤ sizeLine) (hSi : S ≠ it) (hSl : S ≠ l)
    (hS : s.heap.get? S = some { cls := .type "list", data := .seq #[] })
    (hR : ∀ h' tk acc' c', (∀ b o, b ≠ S → b ≠ it → s.heap.get? b = some o → h'.get? b = some o) → h'.get? S = some { cls := .type "list", dict := none, data := .seq acc' c', slots := #[] } →
      ItemsOf (fun i v => items[items.size - 1 - i]? = some v) acc' items.size → R (.ok (.ret .none)) { s with heap := h', toks := tk }) :
    wpAny (model prog w) A.in1 (Builtin.«list.__init__» ⟨[.ref S, .ref it], []⟩)
      (fun fin s' => match fin with | .done f => R (.ok f) s' | .again c' => c'.quiet = true ∧ codeAny (model prog w) A c' R s') (fun e s' => R (.error e) s') s := by
  show wpAny _ A.in1 (do let old ← Builtin.List.listItems (.ref S); Builtin.List.listUpdate (.ref S) (fun _ => #[]); letGo old.toList.reverse; Builtin.List.listExtendWith (.ref S) (.ref it) .none) _ _ s
  refine wpAny_bind ?_
  unfold Builtin.List.listItems
  refine wpAny_bind (wpAny_seqItems hS rfl (wpAny_pure ?_))
  show wpAny _ A.in1 (updateSeq S (fun _ => #[]) >>= fun _ => letGo (#[] : Array Value).toList.reverse >>= fun _ => Builtin.List.listExtendWith (.ref S) (.ref it) .none) _ _ s
  refine wpAny_bind (wpAny_updateSeq hS rfl ?_)
  have hS₂ := Heap.get?_update_self (Obj.mapSeq (fun _ => (#[] : Array Value))) hS rfl
  have oth : ∀ b o, b ≠ S → s.heap.get? b = some o → (s.heap.update S (Obj.mapSeq (fun _ => (#[] : Array Value)))).get? b = some o :=
    fun b o hb e => (Heap.get?_update_other _ _ (Ne.symm hb)).trans e
  refine wpAny_bind (wpAny_letGo ?_)
  obtain ⟨oi, ho1, ho2⟩ := id hit
  obtain ⟨ol, ho3, ho4⟩ := id hl
  refine extend_rev (s := { s with heap := s.heap.update S (Obj.mapSeq (fun _ => (#[] : Array Value))) }) hh ⟨oi, oth _ _ hSi.symm ho1, ho2⟩ ⟨ol, oth _ _ hSl.symm ho3, ho4⟩ hne hn hSi hSl hS₂ fun h' tk acc' c' hk hS' hacc => ?_
  exact hR h' tk acc' c' (fun b o hb hb2 e => hk b o hb hb2 (oth b o hb e)) hS' hacc
theorem call_list_rev {it l : Addr} {items : Array Value} {Q : Value → Shared → Prop} (hh : A.handled = none) (hit : s.heap.IsRevIter it l ((items.size : Int) - 1)) (hl : s.heap.IsList l items) (hne : l ≠ it) (hn : items.size ≤ sizeLine)
    (hQ : ∀ h' tk acc' c', (∀ b o, b ≠ it → s.heap.get? b = some o → h'.get? b = some o) →
      h'.get? s.heap.objs.size = some { cls := .type "list", dict := none, data := .seq acc' c', slots := #[] } → ItemsOf (fun i v => items[items.size - 1 - i]? = some v) acc' items.size → Q (.ref s.heap.objs.size) { s with heap := h', toks := tk }) :
    wpAny (model prog w) A (call (.type "list") [.ref it]) Q E s := by
  obtain ⟨oi, hoi, hoi2⟩ := id hit
  obtain ⟨ol, hol, hol2⟩ := id hl
  refine callType_codes (Q₁ := fun obj s₁ => obj = .ref s.heap.objs.size ∧ s₁ = { s with heap := s.heap.push { cls := .type "list", data := .seq #[] } }) F.called_list (F.typeCall_list_1 _) F.entry_list_init
    (code_list_new _ ⟨rfl, rfl⟩) fun obj s₁ h₁ => ?_
  obtain ⟨rfl, rfl⟩ := h₁
  have hS : (s.heap.push { cls := .type "list", data := .seq #[] }).get? s.heap.objs.size = some { cls := .type "list", data := .seq #[] } := Heap.get?_push_size _ rfl
  refine ⟨⟨_, hS, rfl⟩, F.args_list_init_2 _ _, list_init_rev (A := A.in1) (s := { s with heap := s.heap.push { cls := .type "list", data := .seq #[] } }) hh ⟨oi, Heap.get?_push_of_some _ hoi, hoi2⟩ ⟨ol, Heap.get?_push_of_some _ hol, hol2⟩ hne hn (Nat.ne_of_gt (Heap.lt_size hoi)) (Nat.ne_of_gt (Heap.lt_size hol)) hS fun h' tk acc' c' hk hS' hacc => ?_⟩
  exact ⟨rfl, hQ h' tk acc' c' (fun b o hb e => hk b o (Nat.ne_of_lt (Heap.lt_size e)) hb (Heap.get?_push_of_some _ e)) hS' hacc⟩
end

def tListRev (K : PySem.W.Frag) (te : TE) : TE := fun σ H Q => te σ H fun v H1 => ∃ (a : Addr) (xs : List V), v = .ref a ∧ SqL K H1 a xs ∧ ∀ q, H1 q = none → Q (.ref q) (upd H1 q (.lst xs.reverse))
section
variable {X : Cx} {w : WX}
theorem pe_listRev {e : Expr} {te : TE} {p p2 pos pos2 : Pos} (hc : X.calm = true) (hg : Gl X "list") (hm : X.mg "list" = none) (hg2 : Gl X "reversed") (hm2 : X.mg "reversed" = none) (he : PE X e te)
    (hs : starEach [e] X.env = (false, eval e X.env) :: starEach [] X.env := by rfl)
    (hs2 : starEach [.Call (.Name "reversed" p2) [e] [] pos2] X.env = (false, eval (.Call (.Name "reversed" p2) [e] [] pos2) X.env) :: starEach [] X.env := by rfl) :
    PE X (.Call (.Name "list" p) [.Call (.Name "reversed" p2) [e] [] pos2] [] pos) (tListRev X.K te) := by
  refine ⟨fun pins s σ H Q I h => ?_⟩
  refine Call_ (ld_blt I hg hm boot_list (PyProof.Rows.callWith_type1 (args_cons (Call_ (ld_blt I hg2 hm2 PyProof.Rows.boot_reversed (PyProof.Rows.callWith_type1 (args_cons (thn (he.run pins s σ H _ I h) fun u s1 ⟨v, H1, I1, r1, q1⟩ => args_nil ?_) hs) hs rfl))) hs2) hs2 rfl))
  obtain ⟨a, xs, ev, hq, q⟩ := q1
  subst ev
  obtain rfl : u = Value.ref a := r1
  obtain ⟨its, rv, p', hz⟩ := I1.list hq
  refine call_reversed_list p'.isList (args_nil ?_)
  have hl := p'.isList
  obtain ⟨ol, hol, _⟩ := id hl
  have hne : a ≠ s1.heap.objs.size := Nat.ne_of_lt (Heap.lt_size hol)
  have hn : its.toArray.size ≤ sizeLine := by rw [List.size_toArray, ← rv.length]; exact hz
  refine call_list_rev (s := { s1 with heap := s1.heap.push (revObj a ((its.toArray.size : Int) - 1)) }) (I1.ok.hd hc) ⟨_, Heap.get?_push_size _ rfl, rfl, rfl⟩ (hl.push _) hne hn fun h' tk acc c' hk hS hi => ?_
  have hsz : (s1.heap.push (revObj a ((its.toArray.size : Int) - 1))).objs.size = s1.heap.objs.size + 1 := Heap.size_push _ _
  have le : s1.heap.objs.size ≤ (s1.heap.push (revObj a ((its.toArray.size : Int) - 1))).objs.size := by rw [hsz]; exact Nat.le_succ _
  refine ⟨.ref _, upd H1 (s1.heap.push (revObj a ((its.toArray.size : Int) - 1))).objs.size (.lst xs.reverse), I1.laid (t' := tk) (fun c o e => hk c o (Nat.ne_of_lt (Heap.lt_size e)) (Heap.get?_push_of_some _ e)) le (show ObjOk X.prog X.w _ _ _ (.lst xs.reverse) from ⟨by rw [List.length_reverse]; exact hz, acc.toList, c', vals_rev rv hi, ?_⟩), rfl, q _ (I1.hok.fresh le)⟩
  rw [Array.toArray_toList]
  exact hS
def pListRev (p : PEx) : PAx := fun s M => (p s M).bind fun x M1 => match itemsL M1 x with
  | some ws => .ok ws.reverse M1
  | none => .stuck
theorem Paired.rev {α β : Type} {F : α → β → Prop} : ∀ {l : List α} {m : List β}, Paired F l m → Paired F l.reverse m.reverse
  | _, _, .nil => .nil
  | _, _, .cons h t => by
    rw [List.reverse_cons, List.reverse_cons]
    exact Paired.app (Paired.rev t) (.cons h .nil)
theorem jl_listRev {e : Expr} {pe : PEx} {p p2 pos pos2 : Pos} (hc : X.calm = true) (hm : X.mg "list" = none) (hm2 : X.mg "reversed" = none) (h : JE X w e pe) (hg : Gl X "list" := by rfl) (hg2 : Gl X "reversed" := by rfl)
    (hs : starEach [e] X.env = (false, eval e X.env) :: starEach [] X.env := by rfl)
    (hs2 : starEach [.Call (.Name "reversed" p2) [e] [] pos2] X.env = (false, eval (.Call (.Name "reversed" p2) [e] [] pos2) X.env) :: starEach [] X.env := by rfl) : JL X w (.Call (.Name "list" p) [.Call (.Name "reversed" p2) [e] [] pos2] [] pos) (pListRev pe) := by
  obtain ⟨t, e1, s1⟩ := h
  refine ⟨_, pe_listRev hc hg hm hg2 hm2 e1 hs hs2, fun H0 Hb0 as Hb H M σ s r S Q g => ?_⟩
  refine Good.bind s1 r S g fun v x as1 Hb1 H1 M1 r1 f1 S1 w1 g1 => ?_
  cases hi : itemsL M1 x with
  | none => rw [hi] at g1; exact g1.elim
  | some ws =>
    rw [hi] at g1
    obtain ⟨a, vs, rfl, hH, wr, z⟩ := itemsL_ok r1 w1 hi
    refine ⟨a, vs, rfl, SqL.of hH, fun q hq => ?_⟩
    exact Good.ok g1 (r1.newAny hq) ⟨q, vs.reverse, rfl, upd_same, by rw [List.length_reverse]; exact z, Paired.rev wr, fun hm => r1.al q hm hq, r1.hbn hq, r1.h0n hq⟩
end

/-! ### max of data -/
def rMaxT (K : PySem.W.Frag) : List V → Hp → VK → Prop := fun vs H Q => ∃ (a : Addr) (xs : List V) (d : PyData) (ds : List PyData), vs = [.ref a] ∧ SqL K H a xs ∧ DtAll K H xs (d :: ds) ∧ (allAlike (d :: ds) && ((d :: ds).all fun x => !isNonD x) && decide (PyData.depthAll (d :: ds) ≤ 60)) = true ∧
  ∀ y : V, (∀ Hb : Hp, DzAll K Hb xs (d :: ds) → Dz K Hb y (PySem.W.maxD d ds)) → Q y H
theorem reads_all {X : Cx} {pins : List (Addr × Obj)} {σ : L2.St} {H : Hp} {s : Shared} (I : Inv X pins σ H s) : ∀ {xs : List V} {ds : List PyData} {its : List Value}, Vals xs its → DtAll X.K H xs ds → ∃ as, PySem.ReadsAll s.heap its ds as
  | _, [], _, .nil, _ => ⟨_, .nil⟩
  | _, _ :: _, _, .nil, h => by cases h
  | _, [], _, .cons _ _, h => by cases h
  | _, d :: ds, _, .cons r t, h => by
    cases h with
    | cons h1 h2 =>
      obtain ⟨a1, r1⟩ := Dp.reads I d _ _ (Dt.dp d _ h1) r
      obtain ⟨a2, r2⟩ := reads_all I t h2
      exact ⟨_, .cons r1 r2⟩
theorem vals_get {xs : List V} {its : List Value} (r : Vals xs its) : ∀ {i : Nat} {v : Value}, its[i]? = some v → ∃ y, xs[i]? = some y ∧ RelV y v := by
  induction r with
  | nil => intro i v h; simp at h
  | cons h t ih =>
    intro i v e
    cases i with
    | zero => simp at e; subst e; exact ⟨_, rfl, h⟩
    | succ j => simpa using ih (by simpa using e)
theorem dt_get {K : PySem.W.Frag} {H : Hp} {xs : List V} {ds : List PyData} (h : DtAll K H xs ds) {i : Nat} {y : V} (e : xs[i]? = some y) : ∃ d, ds[i]? = some d ∧ Dt K H y d := by
  induction xs generalizing ds i with
  | nil => simp at e
  | cons x xs ih =>
    cases h with
    | cons h1 h2 =>
      cases i with
      | zero => simp at e; subst e; exact ⟨_, rfl, h1⟩
      | succ j => simpa using ih h2 (by simpa using e)
theorem Paired.get2 {α β : Type} {F : α → β → Prop} : ∀ {l : List α} {m : List β} {i : Nat} {a : α} {b : β}, Paired F l m → l[i]? = some a → m[i]? = some b → F a b
  | _, _, _, _, _, .nil, h, _ => by simp at h
  | _, _, 0, _, _, .cons h t, e, e' => by simp at e e'; subst e e'; exact h
  | _, _, i + 1, _, _, .cons h t, e, e' => Paired.get2 (i := i) t (by simpa using e) (by simpa using e')
theorem cr_maxT {X : Cx} (hc : X.calm = true) (hu : X.A.units + 64 < cLine) : CallR X (.builtin "max") (rMaxT X.K) := by
  intro pins s σ H vs us Q I r h
  obtain ⟨a, xs, d, ds, rfl, hs, hd, hk, q⟩ := h
  obtain ⟨its, rv, hl, hz⟩ := I.list hs
  rw [Vals.ref1 r]
  simp only [Bool.and_eq_true, decide_eq_true_eq] at hk
  obtain ⟨⟨h1, h2⟩, h3⟩ := hk
  have al : ∀ x ∈ d :: ds, ∀ y ∈ d :: ds, PySem.W.alike x y = true := fun x hx y hy => by
    unfold allAlike at h1
    rw [List.all_eq_true] at h1
    have z := h1 x hx
    rw [List.all_eq_true] at z
    exact z y hy
  have ha : PySem.W.AlikeAll (d :: ds) := ⟨al, fun x hx e => by
    rw [List.all_eq_true] at h2
    have z := h2 x hx
    subst e
    simp [isNonD] at z⟩
  obtain ⟨as, ra⟩ := reads_all I rv hd
  refine PySem.W.max_list_data (I.ok.hd hc) hl.isList (by simpa using ra) ha (by omega) fun i v h' tk bs hv hr hk' => ?_
  have hv' : its[i]? = some v := by simpa using hv
  obtain ⟨y, hy, ry⟩ := vals_get rv hv'
  obtain ⟨e, he, hde⟩ := dt_get hd hy
  obtain ⟨a1, r1⟩ := Dp.reads I e _ _ (Dt.dp e _ hde) ry
  have hm : PySem.W.maxD d ds ∈ d :: ds := by
    have : ∀ (l : List PyData) (x : PyData), l.foldl (fun a y => if PySem.W.dataLt a y then y else a) x ∈ x :: l := by
      intro l
      induction l with
      | nil => intro x; simp
      | cons z l ih =>
        intro x
        rw [List.foldl_cons]
        have := ih (if PySem.W.dataLt x z then z else x)
        rcases List.mem_cons.mp this with h | h
        · rw [h]; split <;> simp
        · simp [h]
    exact this ds d
  have eq : e = PySem.W.maxD d ds := PySem.W.alike_unique e _ v a1 bs (al e (List.mem_of_getElem? he) _ hm) (PySem.W.reads_keeps hk' r1) hr
  subst eq
  exact ⟨y, H, I.kept (t' := tk) hk', ry, q y fun Hb dz => Paired.get2 dz hy he⟩
def gMaxT : List W → Ms → R W := fun ws M => match ws with
  | [.d (.list (d :: ds))] => if (allAlike (d :: ds) && ((d :: ds).all fun x => !isNonD x) && decide (PyData.depthAll (d :: ds) ≤ 60)) = true then .ok (.d (PySem.W.maxD d ds)) M else .stuck
  | _ => .stuck
theorem s_maxT {K : PySem.W.Frag} {mg : Str → Option Value} : SimC K mg (rMaxT K) gMaxT := by
  intro w H0 Hb0 as Hb H M σ ws vs r wr Q gd
  match ws, gd with
  | [], gd => exact gd.elim
  | [.d (.list (d :: ds))], gd =>
    obtain ⟨v, rfl, wx⟩ := one_arg_of wr
    have gd' : Good (repW K) K mg w H0 Hb0 as Hb σ Q (if (allAlike (d :: ds) && ((d :: ds).all fun x => !isNonD x) && decide (PyData.depthAll (d :: ds) ≤ 60)) = true then .ok (.d (PySem.W.maxD d ds)) M else .stuck) := gd
    split at gd'
    · rename_i hc
      obtain ⟨h1, h2⟩ := wx
      cases h1 with
      | lst hs ha => exact ⟨_, _, d, ds, rfl, SqL.of (r.sub _ _ hs), (DtAll.mono r.sub _ _ ha), hc, fun y hy => Good.ok gd' r (hy Hb (dzAll_of ha h2.2))⟩
    · exact gd'.elim
end Z

set_option linter.all false
set_option autoImplicit false
set_option maxRecDepth 100000
set_option maxHeartbeats 4000000
namespace Z
open PySem PySem.Spec PyProof.Rows L2 L2H

/-! ### a weaker reading -/
theorem Good.le {β α : Type} {rep : Rep β α} {K : PySem.W.Frag} {mg : Str → Option Value} {w : WX} {H0 Hb0 Hb : Hp} {as : List Addr} {σ : L2.St} {Q : β → Hp → Prop} {r r' : R α} (h : r ≠ .stuck → r' = r) (g : Good rep K mg w H0 Hb0 as Hb σ Q r) : Good rep K mg w H0 Hb0 as Hb σ Q r' := by
  cases r with
  | stuck => exact g.elim
  | ok a m => rw [h (by simp)]; exact g
  | exc a m => rw [h (by simp)]; exact g
section
variable {X : Cx} {w : WX}
theorem JE.le {e : Expr} {p q : PEx} (j : JE X w e p) (h : ∀ s M, q s M ≠ .stuck → p s M = q s M) : JE X w e q := by
  obtain ⟨t, e1, s1⟩ := j
  exact ⟨t, e1, fun H0 Hb0 as Hb H M σ s r S Q g => s1 H0 Hb0 as Hb H M σ s r S Q (Good.le (h s M) g)⟩
end
theorem SpG.le {K : PySem.W.Frag} {mg : Str → Option Value} {F G : PF} (h : ∀ ws M, G ws M ≠ .stuck → F ws M = G ws M) {vs : List V} {H : Hp} {Q : VK} {E : XK} (s : SpG K mg G vs H Q E) : SpG K mg F vs H Q E := by
  obtain ⟨H0, Hb0, as, Hb, M, ws, r, wr, g⟩ := s
  exact ⟨H0, Hb0, as, Hb, M, ws, r, wr, Good.le (h ws M) g⟩
section
variable {P : Program} {w : World} {K : PySem.W.Frag} {mg : Str → Option Value} {base : Heap} {k : Nat} {x : Str} {f : Addr} {ps : List Str} {dds : List PyData} {F G : PF}
theorem IsFn.le (i : IsFn P w K mg base k x ps dds F) (h : ∀ ws M, G ws M ≠ .stuck → F ws M = G ws M) : IsFn P w K mg base k x ps dds G := by
  obtain ⟨f, fd, dvs, ds, h1, h2, h3, h4⟩ := i.ex
  exact ⟨f, fd, dvs, ds, h1, h2, h3.imp fun vs H Q E s => SpG.le h s, h4⟩
theorem IsFnAt.le (i : IsFnAt P w K mg base k f ps dds F) (h : ∀ ws M, G ws M ≠ .stuck → F ws M = G ws M) : IsFnAt P w K mg base k f ps dds G := by
  obtain ⟨fd, dvs, ds, h3, h4⟩ := i.ex
  exact ⟨fd, dvs, ds, h3.imp fun vs H Q E s => SpG.le h s, h4⟩
/-- a def that changes nothing, by a plain function of its data -/
structure IsPure (P : Program) (w : World) (K : PySem.W.Frag) (mg : Str → Option Value) (base : Heap) (k : Nat) (x : Str) (ps : List Str) (dds : List PyData) (p : List PyData → PR) : Prop where
  ex : ∃ F, IsFn P w K mg base k x ps dds F ∧ ∀ ds, p ds ≠ .stuck → F.pure ds = p ds
theorem IsFn.pure (i : IsFn P w K mg base k x ps dds F) {p : List PyData → PR} (h : ∀ ds, p ds ≠ .stuck → F.pure ds = p ds) : IsPure P w K mg base k x ps dds p := ⟨F, i, h⟩
end
def pCallQ (p : List PyData → PR) (dds : List PyData) (a : PAx) : PEx := fun s M => (a s M).bind fun ws M1 => match allD ws with
  | some ds => (p (ds ++ dds)).to M1
  | none => match viewAll M1 ws with
    | some ds => (match p (ds ++ dds) with
      | .ok d => if scalar d then .ok (.d d) M1 else .stuck
      | .exc e => .exc e M1
      | .stuck => .stuck)
    | none => .stuck
section
variable {X : Cx} {w : WX} {k : Nat} {x : Str} {ps : List Str} {dds : List PyData} {f : List PyData → PR} {e : Expr} {es : List Expr} {pa : PAx} {p pos : Pos}
theorem je_callQ (hF : IsPure X.prog X.w X.K X.mg X.base k x ps dds f) (hr : Room k X.A) (hx : ∀ σ, PassesAt (L2N.CX X.prog X.w) X σ (WE w σ)) (ha : JA X w (e :: es) pa) (hg : Gl X x := by rfl) (hdb : (x == ("__debug__" : Str)) = false := by decide)
    (he : starEach (e :: es) X.env = (false, eval e X.env) :: starEach es X.env := by rfl) (hpl : (backTo pos (starEach es X.env)).any (·.1) = false := by rfl) : JE X w (.Call (.Name x p) (e :: es) [] pos) (pCallQ f dds pa) := by
  obtain ⟨F, i, h⟩ := hF.ex
  refine (je_callP i hr hx ha hg hdb he hpl).le fun s M ne => ?_
  unfold pCallQ at ne ⊢
  unfold pCallP
  cases q : pa s M with
  | stuck => rfl
  | exc a m => rfl
  | ok ws m =>
    rw [q] at ne
    simp only [R.bind] at ne ⊢
    cases h1 : allD ws with
    | some ds =>
      rw [h1] at ne
      have n : f (ds ++ dds) ≠ .stuck := fun z => ne (by simp [z, PR.to])
      simp [h _ n]
    | none =>
      rw [h1] at ne
      cases h2 : viewAll m ws with
      | none => rfl
      | some ds =>
        rw [h2] at ne
        have n : f (ds ++ dds) ≠ .stuck := fun z => ne (by simp [z])
        first
        | (simp [h _ n]; done)
        | (simp [h _ n]; rfl)
theorem je_gintE {i : Int} {pos : Pos} (hm : ∃ t, X.mg x = some (.int i t)) (hg : Gl X x := by rfl) (hd : (x == ("__debug__" : Str)) = false := by decide) : JE X w (.Name x pos) (pC (.int i)) := by
  obtain ⟨t, h⟩ := hm
  exact je_gint h hg hd
theorem je_gstrE {y : Str} {pos : Pos} (hm : ∃ t, X.mg x = some (.str y t)) (h : y.length ≤ sizeLine := by decide) (hg : Gl X x := by rfl) (hd : (x == ("__debug__" : Str)) = false := by decide) : JE X w (.Name x pos) (pC (.str y)) := by
  obtain ⟨t, h'⟩ := hm
  exact je_gstr h' h hg hd
end
theorem hu64 {k : Nat} {A : Around} (hr : Room k A) : A.units + 64 < cLine := by have := hr.un; omega
theorem hu65 {k : Nat} {A : Around} (hr : Room k A) : A.units + 65 < cLine := by have := hr.un; omega
theorem hu64H {k : Nat} {A : Around} (hr : RoomH k A) : A.units + 64 < cLine := by have := hr.un; omega

/-! ### where the text's defs lie -/
structure DefAt (K : PySem.W.Frag) (mg : Str → Option Value) (x : Str) (st : Stmt) (ps : List Str) : Prop where
  ex : ∃ f fd, mg x = some (.ref f) ∧ PySem.W.keepIn K (.ref f) = true ∧ Fun K x x st f fd ∧ Binds K fd ps []
/-- .. with defaults, all parameters given -/
structure DefAtD (K : PySem.W.Frag) (mg : Str → Option Value) (x : Str) (st : Stmt) (ps : List Str) : Prop where
  ex : ∃ f fd dvs kws, mg x = some (.ref f) ∧ PySem.W.keepIn K (.ref f) = true ∧ FunD K x x (defArgs st) (defBody st) (defScope st) dvs kws f fd ∧ Binds K fd ps []
structure MethAt (K : PySem.W.Frag) (C : Addr) (m q : Str) (st : Stmt) (ps : List Str) : Prop where
  ex : ∃ f fd, Meth K C m f ∧ Fun K m q st f fd ∧ Binds K fd ps []
structure MakeAt (K : PySem.W.Frag) (C : Addr) (q : Str) (st : Stmt) (ps : List Str) : Prop where
  ex : ∃ f fd, Mk K C f ∧ Fun K "__init__" q st f fd ∧ Binds K fd ps []
structure IsMeth (P : Program) (w : World) (K : PySem.W.Frag) (mg : Str → Option Value) (base : Heap) (k : Nat) (C : Addr) (m : Str) (ps : List Str) (F : PF) : Prop where
  ex : ∃ f, Meth K C m f ∧ IsFnAt P w K mg base k f ps [] F
structure IsMake (P : Program) (w : World) (K : PySem.W.Frag) (mg : Str → Option Value) (base : Heap) (k : Nat) (C : Addr) (ps : List Str) (F : PF) : Prop where
  ex : ∃ f, Mk K C f ∧ IsFnAt P w K mg base k f ps [] F
section
variable {P : Program} {w : World} {K : PySem.W.Frag} {mg : Str → Option Value} {base : Heap} {k : Nat} {x q : Str} {C : Addr} {st : Stmt} {N ps : List Str} {b : PSx} {F G : PF}
theorem IsMeth.le (i : IsMeth P w K mg base k C x ps F) (h : ∀ ws M, G ws M ≠ .stuck → F ws M = G ws M) : IsMeth P w K mg base k C x ps G := let ⟨f, h1, h2⟩ := i.ex; ⟨f, h1, h2.le h⟩
theorem IsMake.le (i : IsMake P w K mg base k C ps F) (h : ∀ ws M, G ws M ≠ .stuck → F ws M = G ws M) : IsMake P w K mg base k C ps G := let ⟨f, h1, h2⟩ := i.ex; ⟨f, h1, h2.le h⟩
/-- what a body's proof gets -/
structure BodyX (X : Cx) (w : WX) (k : Nat) : Prop where
  hr : Room k X.A
  hp : PassesOwn (model X.prog X.w) X.A X.env X.xe
  tk : L2N.Takes X w
  hx : ∀ σ, PassesAt (L2N.CX X.prog X.w) X σ (WE w σ)
theorem bodyX {qual : Str} {scope : Scope} {f : Addr} {cdv : Value} {A : Around} {outer : List Env} {s : Shared} {H : Hp} {E : XK} (hr : Room k (A.deeper (envOfC qual scope s.heap.objs.size f cdv))) : BodyX (cxOf (L2N.CX P w) P w K mg base N qual scope f cdv A outer s H E) (fun c d _ H' => E c d H') k :=
  have tk : L2N.Takes (cxOf (L2N.CX P w) P w K mg base N qual scope f cdv A outer s H E) (fun c d _ H' => E c d H') := L2N.takes_of rfl rfl rfl rfl
  ⟨hr, passes_of rfl, tk, fun σ => L2N.passAt tk σ⟩
theorem DefAt.fn (d : DefAt K mg x st ps) (S : FnScope N ps (defScope st))
    (hb : ∀ (f : Addr) (cdv : Value) (A : Around) (outer : List Env) (s : Shared) (H : Hp) (E : XK), BodyX (cxOf (L2N.CX P w) P w K mg base N x (defScope st) f cdv A outer s H E) (fun c d _ H' => E c d H') k → JSs (cxOf (L2N.CX P w) P w K mg base N x (defScope st) f cdv A outer s H E) (fun c d _ H' => E c d H') (defBody st) b) :
    IsFn P w K mg base (k + 1) x ps [] (runG N.length ps.length b) := by
  obtain ⟨f, fd, h1, h2, F, hB⟩ := d.ex
  exact ⟨f, fd, [], [], h1, h2, fn_G F S fun cdv A outer s H E hr => hb f cdv A outer s H E (bodyX hr), hB, .nil, .nil, trivial⟩
theorem DefAtD.fn (d : DefAtD K mg x st ps) (S : FnScope N ps (defScope st))
    (hb : ∀ (f : Addr) (cdv : Value) (A : Around) (outer : List Env) (s : Shared) (H : Hp) (E : XK), BodyX (cxOf (L2N.CX P w) P w K mg base N x (defScope st) f cdv A outer s H E) (fun c d _ H' => E c d H') k → JSs (cxOf (L2N.CX P w) P w K mg base N x (defScope st) f cdv A outer s H E) (fun c d _ H' => E c d H') (defBody st) b) :
    IsFn P w K mg base (k + 1) x ps [] (runG N.length ps.length b) := by
  obtain ⟨f, fd, dvs, kws, h1, h2, F, hB⟩ := d.ex
  exact ⟨f, fd, [], [], h1, h2, fn_GD F S fun cdv A outer s H E hr => hb f cdv A outer s H E (bodyX hr), hB, .nil, .nil, trivial⟩
theorem MethAt.fn (d : MethAt K C x q st ps) (S : FnScope N ps (defScope st))
    (hb : ∀ (f : Addr) (cdv : Value) (A : Around) (outer : List Env) (s : Shared) (H : Hp) (E : XK), BodyX (cxOf (L2N.CX P w) P w K mg base N q (defScope st) f cdv A outer s H E) (fun c d _ H' => E c d H') k → JSs (cxOf (L2N.CX P w) P w K mg base N q (defScope st) f cdv A outer s H E) (fun c d _ H' => E c d H') (defBody st) b) :
    IsMeth P w K mg base (k + 1) C x ps (runG N.length ps.length b) := by
  obtain ⟨f, fd, h1, F, hB⟩ := d.ex
  exact ⟨f, h1, fd, [], [], fn_G F S fun cdv A outer s H E hr => hb f cdv A outer s H E (bodyX hr), hB, .nil, .nil, trivial⟩
theorem MakeAt.fn (d : MakeAt K C q st ps) (S : FnScope N ps (defScope st))
    (hb : ∀ (f : Addr) (cdv : Value) (A : Around) (outer : List Env) (s : Shared) (H : Hp) (E : XK), BodyX (cxOf (L2N.CX P w) P w K mg base N q (defScope st) f cdv A outer s H E) (fun c d _ H' => E c d H') k → JSs (cxOf (L2N.CX P w) P w K mg base N q (defScope st) f cdv A outer s H E) (fun c d _ H' => E c d H') (defBody st) b) :
    IsMake P w K mg base (k + 1) C ps (runG N.length ps.length b) := by
  obtain ⟨f, fd, h1, F, hB⟩ := d.ex
  exact ⟨f, h1, fd, [], [], fn_G F S fun cdv A outer s H E hr => hb f cdv A outer s H E (bodyX hr), hB, .nil, .nil, trivial⟩
end
section
variable {X : Cx} {w : WX} {k : Nat} {C : Addr} {m x : Str} {ps : List Str} {F : PF} {o e : Expr} {es : List Expr} {po : PEx} {pa : PAx} {p pos apos : Pos}
theorem je_methB {pl : Sem Bool} (c : Cls X.K C) (i : IsMeth X.prog X.w X.K X.mg X.base k C m ps F) (hr : Room k X.A) (hx : ∀ σ, PassesAt (L2N.CX X.prog X.w) X σ (WE w σ)) (ho : JE X w o po) (ha : JA X w (e :: es) pa)
    (hst : starEach (e :: es) X.env = (false, eval e X.env) :: starEach es X.env := by rfl) (hpl : (backTo pos (starEach es X.env)).any (·.1) = false := by rfl)
    (ht : eval (.Call (.Attribute o m apos) (e :: es) [] pos) X.env = (do
      let ov ← eval o X.env
      standAt apos.atName
      let (f, first) ← holding [ov] (getMethod ov m pl)
      callWith pos f first (backTo pos (starEach (e :: es) X.env)) (backToKw pos (keywordEach [] X.env))) := by rfl) :
    JE X w (.Call (.Attribute o m apos) (e :: es) [] pos) (pMeth C m F [] po pa) := by
  obtain ⟨f, h1, h2⟩ := i.ex
  exact je_meth c h1 h2 hr hx ho ha hst hpl ht
theorem je_methB0 {pl : Sem Bool} (c : Cls X.K C) (i : IsMeth X.prog X.w X.K X.mg X.base k C m ps F) (hr : Room k X.A) (hx : ∀ σ, PassesAt (L2N.CX X.prog X.w) X σ (WE w σ)) (ho : JE X w o po)
    (ht : eval (.Call (.Attribute o m apos) [] [] pos) X.env = (do
      let ov ← eval o X.env
      standAt apos.atName
      let (f, first) ← holding [ov] (getMethod ov m pl)
      callWith pos f first (backTo pos (starEach [] X.env)) (backToKw pos (keywordEach [] X.env))) := by rfl) :
    JE X w (.Call (.Attribute o m apos) [] [] pos) (pMeth C m F [] po pNil) := by
  obtain ⟨f, h1, h2⟩ := i.ex
  exact je_meth0 c h1 h2 hr hx ho ht
theorem je_makeB (i : IsMake X.prog X.w X.K X.mg X.base k C ps F) (hr : Room (k + 1) X.A) (hm : X.mg x = some (.ref C)) (ha : JA X w (e :: es) pa) (hg : Gl X x := by rfl) (hdb : (x == ("__debug__" : Str)) = false := by decide)
    (he : starEach (e :: es) X.env = (false, eval e X.env) :: starEach es X.env := by rfl) (hpl : (backTo pos (starEach es X.env)).any (·.1) = false := by rfl) : JE X w (.Call (.Name x p) (e :: es) [] pos) (pMake C F [] pa) := by
  obtain ⟨f, h1, h2⟩ := i.ex
  exact je_make h1 h2 hr hm ha hg hdb he hpl
theorem je_makeB0 (i : IsMake X.prog X.w X.K X.mg X.base k C ps F) (hr : Room (k + 1) X.A) (hm : X.mg x = some (.ref C)) (hg : Gl X x := by rfl) (hdb : (x == ("__debug__" : Str)) = false := by decide) : JE X w (.Call (.Name x p) [] [] pos) (pMake C F [] pNil) := by
  obtain ⟨f, h1, h2⟩ := i.ex
  exact je_make0 h1 h2 hr hm hg hdb
end
end Z

set_option linter.all false
set_option autoImplicit false
set_option maxRecDepth 100000
set_option maxHeartbeats 4000000
namespace Z
open PySem PySem.Spec PyProof.Rows L2 L2H

/-! ### except C as n: return f(n) -/
/-- an error of the class named c, without fields -/
def ZpC (mg : Str → Option Value) (c : Str) : Obj → Prop := fun o => ∃ cls, mg c = some cls ∧ L2N.Zn cls none o ∧ ∃ vs, o.data = .fields vs
def gHot (s : Str) (a : Addr) : PF := fun ws M => match ws with
  | [.k u] => if u = .ref a then .ok (.d (.str s)) M else .stuck
  | _ => .stuck
def suHot (code : Str → Str) (i : Nat) : Exn → Addr → PSx := fun e a => match e.arg with
  | none => pRet (pCallG (gHot (code e.c) a) [] (pCons (pVar i) pNil))
  | some _ => fun _ _ => .stuck
theorem suHot_in (code : Str → Str) (i : Nat) (e : Exn) (a : Addr) (s : Sl) (M : Ms) : clearO i (suHot code i e a (s.set i (some (.k (.ref a)))) M) = clearO i (suHot code i e 0 (s.set i (some (.k (.ref 0)))) M) := by
  unfold suHot
  cases e.arg with
  | some _ => rfl
  | none =>
    unfold pRet pCallG pCons pVar pNil gHot
    by_cases h : i < s.length
    · simp [List.getElem?_set_self h, R.bind, R.to, clearO]
    · have h1 : (s.set i (some (W.k (.ref a))))[i]? = none := List.getElem?_eq_none (by simpa using h)
      have h2 : (s.set i (some (W.k (.ref 0))))[i]? = none := List.getElem?_eq_none (by simpa using h)
      simp [h1, h2, R.bind, R.to, clearO]
theorem jss_none {X : Cx} {w : WX} {b : List Stmt} : JSs X w b (fun _ _ => .stuck) := ⟨fun _ _ _ => False, ⟨fun _ _ _ _ _ _ h => h.elim⟩, fun _ _ _ _ _ _ _ _ _ _ _ g => g⟩
theorem IsFnH.le {P : Program} {w : World} {K : PySem.W.Frag} {mg : Str → Option Value} {base : Heap} {k : Nat} {x : Str} {ps : List Str} {Zp : Obj → Prop} {F G : Addr → PF} (i : IsFnH P w K mg base k x ps Zp F) (h : ∀ a ws M, G a ws M ≠ .stuck → F a ws M = G a ws M) : IsFnH P w K mg base k x ps Zp G := by
  obtain ⟨f, fd, h1, h2, h3, h4⟩ := i.ex
  exact ⟨f, fd, h1, h2, ⟨fun a vs H Q E s => h3.len a vs H Q E (SpG.le (h a) s), fun A outer s H args us vs Q E p r1 r2 r3 r4 r5 r6 r7 r8 => h3.run A outer s H args us vs Q E p r1 r2 r3 r4 r5 r6 r7 (SpG.le (h p.1) r8)⟩, h4⟩
section
variable {X : Cx} {w : WX}
theorem js_try_hot {j k i : Nat} {x n xr : Str} {ps : List Str} {c : Value} {body : List Stmt} {np p1 p2 p3 p4 pos pos' : Pos} {cat : Str → Option Bool} {code : Str → Str} {pb : PSx} (hN : X.N.Nodup) (tk : L2N.Takes X w) (hr : Room k X.A) (hjk : j ≤ k) (hc : Names X x c)
    (hcat : ∀ y b, cat y = some b → ∃ cv, X.mg y = some cv ∧ PySem.W.exmOne X.K cv c = some b)
    (hF : ∀ y, cat y = some true → IsFnH X.prog X.w X.K X.mg X.base j xr ps (ZpC X.mg y) (gHot (code y)))
    (hb : ∀ (W : WX) (pn : List (Addr × Obj)) (xe : Value → Shared → Prop), L2N.Takes (X.tr pn xe) W → PassesOwn (model X.prog X.w) X.A X.env xe → JSs (X.tr pn xe) W body pb)
    (hs : X.stack = X.env :: X.outer := by rfl) (hf : X.env.frame = some X.env.locals := by rfl) (hi : X.N[i]? = some n := by rfl) (hln : X.env.kindOf n = some .local := by rfl)
    (hg : Gl X xr := by rfl) (hdb : (xr == ("__debug__" : Str)) = false := by decide) (hv : Vis X.env.scope n := by first | exact Or.inl rfl | exact Or.inr (Or.inl rfl) | exact Or.inr (Or.inr rfl)) (hd : (n == ("__debug__" : Str)) = false := by decide)
    (hcd : (n == ("__classdict__" : Str)) = false := by decide) :
    JS X w (.Try body [.ExceptHandler (some (.Name x np)) (some n) [.Return (some (.Call (.Name xr p1) [.Name n p2] [] p3)) p4] pos'] [] [] pos) (pTry cat i pb (suHot code i)) := by
  refine js_try_as hs hf hN hc tk hcat hb (fun e a oe cls d pn h1 h2 h3 hz hfl => ?_) (suHot_in code i) hi hln
  unfold suHot
  cases ha : e.arg with
  | some _ => exact jss_none
  | none =>
    have hd0 : d = none := h3 ha
    subst hd0
    obtain ⟨vs, hvs⟩ := hfl
    have hot : Hot1 (X.suite a ((a, oe) :: pn)).A (a, oe) := ⟨rfl, vs, hvs, hz.2.2 vs hvs⟩
    have hrr : RoomH j (X.suite a ((a, oe) :: pn)).A := (roomH_of hr).mono hjk |> fun r => ⟨r.dp, r.un⟩
    exact jss_one (js_ret (je_callHC (X := X.suite a ((a, oe) :: pn)) (p := (a, oe)) (hF e.c h1) hrr hot List.mem_cons_self ⟨cls, h2, hz, vs, hvs⟩ (fun _ => pass0) (ja_cons (je_var i hi hv hd hcd) ja_nil) hg hdb))
end

/-! ### isinstance of own classes, from what they are under -/
theorem kit_ref {K : PySem.W.Frag} {t : Value} {C : Addr} {b : Bool} (hd : PySem.W.hasDictIn K C = true) (ht : PySem.W.typeIn K (.ref C) = some (.type "type")) (hs : PySem.W.subIn K t (.ref C) = some b) (hn : PySem.W.subIn K (.ref C) (.ref C) = some true) : PySem.W.kitOne K t (.ref C) = some b := by
  unfold PySem.W.kitOne
  by_cases e : (t == .ref C) = true
  · rw [if_pos e]
    have e' : t = .ref C := beq_iff_eq.mp e
    subst e'
    rw [hn] at hs
    exact hs
  · rw [if_neg e]
    obtain ⟨cd, hc, _⟩ := PySem.W.any_some hd
    show (if ((PySem.W.clsIn K C).isSome && PySem.W.typeIn K (.ref C) == some (.type "type")) = true then PySem.W.subIn K t (.ref C) else none) = some b
    rw [if_pos (by rw [hc, ht]; rfl)]
    exact hs
theorem kit_bas {K : PySem.W.Frag} {C : Addr} {T : String} {b : Bool} (hm : PySem.W.kitMeta T = true) (hs : PySem.W.subIn K (.ref C) (.type T) = some b) : PySem.W.kitOne K (.ref C) (.type T) = some b := by
  unfold PySem.W.kitOne
  rw [if_neg (by simp)]
  show (if PySem.W.kitMeta T = true then PySem.W.subIn K (.ref C) (.type T) else none) = some b
  rw [if_pos hm]
  exact hs
end Z

set_option linter.all false
set_option autoImplicit false
set_option maxRecDepth 100000
set_option maxHeartbeats 4000000
namespace Z
open PySem PySem.Spec PyProof.Rows L2 L2H
theorem spG_stuck {K : PySem.W.Frag} {mg : Str → Option Value} {vs : List V} {H : Hp} {Q : VK} {E : XK} : ¬ SpG K mg (fun _ _ => .stuck) vs H Q E := fun ⟨_, _, _, _, _, _, _, _, g⟩ => g
/-! ### plain computing -/
theorem runG_pos {n k : Nat} {b : PSx} {ws : List W} {M : Ms} (h : ws.length = k) : runG n k b ws M = (b (startS n ws) M).toR := by
  unfold runG
  rw [if_pos h]
/-- a comprehension whose test and item change nothing -/
theorem lcL_pure {g : PGx} {tt : PTx} {te : PEx} {s : Sl} {M : Ms} (t : W → Bool) (f : W → W) : ∀ {ws acc : List W}, (∀ x ∈ ws, ∃ s', g x s M = some s' ∧ tt s' M = .ok (t x) M ∧ (t x = true → te s' M = .ok (f x) M)) → lcL g tt te s ws acc M = .ok (acc ++ (ws.filter t).map f) M
  | [], acc, _ => by simp [lcL]
  | x :: ws, acc, h => by
    obtain ⟨s', h1, h2, h3⟩ := h x List.mem_cons_self
    have ih := fun acc => lcL_pure (acc := acc) t f fun y hy => h y (List.mem_cons_of_mem _ hy)
    unfold lcL
    rw [h1]
    simp only [h2, R.bindN]
    cases q : t x with
    | true =>
      simp only [if_true, h3 q]
      rw [ih, List.filter_cons_of_pos q]
      simp
    | false =>
      simp only [Bool.false_eq_true, if_false]
      rw [ih, List.filter_cons_of_neg (by simp [q])]
theorem allD_nil : allD [] = some [] := rfl
theorem eqv_int (a b : Int) : PyData.eqv (.int a) (.int b) = (a == b) := by
  first
  | rfl
  | simp [PyData.eqv]
theorem shaped_int (a : Int) : SeqAt.shaped (.int a) = true := by
  first
  | rfl
  | simp [SeqAt.shaped]
theorem mul_ok {i j : Int} {M : Ms} (h : (-18446744073709551616 < i ∧ i < 18446744073709551616) ∨ (-18446744073709551616 < j ∧ j < 18446744073709551616)) : gMulI (.d (.int i)) (.d (.int j)) M = .ok (.d (.int (i * j))) M := by
  unfold gMulI gInt
  simp only
  rw [if_pos (by simpa using h)]
theorem div_ok {i j : Int} {M : Ms} (h : j ≠ 0) (h2 : j.natAbs < 1073741824) : gDivI (.d (.int i)) (.d (.int j)) M = .ok (.d (.int (i.fdiv j))) M := by
  unfold gDivI gInt
  simp only
  rw [if_pos ⟨h, h2⟩]
theorem mod_ok {i j : Int} {M : Ms} (h : j ≠ 0) : gModI (.d (.int i)) (.d (.int j)) M = .ok (.d (.int (i.fmod j))) M := by
  unfold gModI gInt
  simp only
  rw [if_pos h]
theorem pow10_ok {j : Nat} {M : Ms} (h : j ≤ 1000000) : gPowI (.d (.int 10)) (.d (.int j)) M = .ok (.d (.int (10 ^ j))) M := by
  unfold gPowI gInt
  simp only
  rw [if_pos ⟨by omega, by omega, by decide⟩]
  simp
theorem allD_ints (ns : List Int) : allD (List.map (W.d ∘ PyData.int) ns) = some (ns.map .int) := by
  rw [← List.map_map]
  exact allD_map _
end Z

set_option linter.all false
set_option autoImplicit false
set_option maxRecDepth 100000
set_option maxHeartbeats 4000000
namespace Z
open PySem PySem.Spec PyProof.Rows L2 L2H
def wi (n : Int) : W := .d (.int n)
theorem allD_wi : ∀ l : List Int, allD (l.map wi) = some (l.map .int)
  | [] => rfl
  | n :: l => by
    show (allD (l.map wi)).map (PyData.int n :: ·) = _
    rw [allD_wi l]
    rfl
theorem atI_nat {α : Type} {xs : List α} {i : Nat} : atI xs (i : Int) = xs[i]? := by
  unfold atI ixN
  rw [if_pos (by omega)]
  by_cases h : i < xs.length
  · rw [if_pos (by omega)]
    simp
  · rw [if_neg (by omega), List.getElem?_eq_none (by omega)]
    rfl
theorem ixN_nat {n i : Nat} (h : i < n) : ixN n (i : Int) = some i := by
  unfold ixN
  rw [if_pos (by omega), if_pos (by omega)]
  simp
def incrAt (l : List Int) (d : PyData) : List Int := match d with
  | .tuple [_, .int i] => l.set i.toNat (l.getD i.toNat 0 + 1)
  | _ => l
theorem incrAt_len (l : List Int) (d : PyData) : (incrAt l d).length = l.length := by
  unfold incrAt
  split
  · exact List.length_set
  · rfl
def incB (f a : Nat) : PSx := pSub (pOp gAddI (pOp gIx (pVar f) (pVar a)) (pC (.int 1))) (pVar f) (pVar a)
def incG (r a : Nat) : PGx := qTup 2 (qCons (qName r) (qCons (qName a) qNil))
theorem incB_ok {f a m i : Nat} {s : Sl} {M : Ms} {l : List Int} (hf : s[f]? = some (some (.r m))) (ha : s[a]? = some (some (wi i))) (hM : M[m]? = some (.lst (l.map wi))) (hi : i < l.length) :
    incB f a s M = .nx s (M.set m (.lst ((l.set i (l.getD i 0 + 1)).map wi))) := by
  have h1 : pVar f s M = .ok (.r m) M := by unfold pVar; rw [hf]
  have h2 : pVar a s M = .ok (wi i) M := by unfold pVar; rw [ha]
  have hl : (l.map wi)[i]? = some (wi l[i]) := by rw [List.getElem?_map, List.getElem?_eq_getElem hi]; rfl
  have hg : gIx (.r m) (wi i) M = .ok (wi l[i]) M := by
    unfold gIx wi itemsL
    simp only [hM]
    rw [atI_nat, show (l.map wi)[i]? = some (wi l[i]) from hl]
    rfl
  have hix : ixN (l.map wi).length (i : Int) = some i := ixN_nat (by rw [List.length_map]; exact hi)
  have hd : l.getD i 0 = l[i] := by rw [List.getD_eq_getElem?_getD, List.getElem?_eq_getElem hi]; rfl
  have hadd : gAddI (wi l[i]) (.d (.int 1)) M = .ok (wi (l[i] + 1)) M := rfl
  unfold incB pSub pOp pC
  simp only [h1, h2, R.bind, R.to, hg, hadd]
  show (match M[m]? with | some (.lst ws) => (match ixN ws.length (i : Int) with | some k => O.nx s (M.set m (.lst (ws.set k (wi (l[i] + 1))))) | none => .stuck) | _ => .stuck) = _
  rw [hM]
  show (match ixN (l.map wi).length (i : Int) with | some k => O.nx s (M.set m (.lst ((l.map wi).set k (wi (l[i] + 1))))) | none => .stuck) = _
  rw [hix, hd, List.map_set]
theorem incr_loop {f r a m : Nat} (h1 : f ≠ r) (h2 : f ≠ a) (h3 : r ≠ a) : ∀ (xs : List PyData) (s : Sl) (M : Ms) (l : List Int), s[f]? = some (some (.r m)) → r < s.length → a < s.length → M[m]? = some (.lst (l.map wi)) →
    (∀ d ∈ xs, ∃ (z : Int) (i : Nat), d = .tuple [.int z, .int i] ∧ i < l.length) → ∃ s', forL (incG r a) (incB f a) (xs.map .d) s M = .nx s' (M.set m (.lst ((xs.foldl incrAt l).map wi))) ∧ s'.length = s.length ∧ ∀ j, j ≠ r → j ≠ a → s'[j]? = s[j]?
  | [], s, M, l, _, _, _, hM, _ => ⟨s, by rw [List.map_nil, forL, List.foldl_nil, set_same hM], rfl, fun _ _ _ => rfl⟩
  | d :: xs, s, M, l, hf, hr, ha, hM, hd => by
    obtain ⟨z, i, rfl, hi⟩ := hd d List.mem_cons_self
    have hg : incG r a (.d (.tuple [.int z, .int i])) s M = some ((s.set r (some (wi z))).set a (some (wi i))) := by
      simp [incG, qTup, itemsT, qCons, qName, qNil, wi]
    have hs1 : ((s.set r (some (wi z))).set a (some (wi i)))[f]? = some (some (.r m)) := by
      rw [List.getElem?_set_ne (Ne.symm h2), List.getElem?_set_ne (Ne.symm h1)]; exact hf
    have hs2 : ((s.set r (some (wi z))).set a (some (wi i)))[a]? = some (some (wi i)) := List.getElem?_set_self (by simpa using ha)
    have hb := incB_ok hs1 hs2 hM hi
    have hM' : (M.set m (.lst ((l.set i (l.getD i 0 + 1)).map wi)))[m]? = some (.lst ((l.set i (l.getD i 0 + 1)).map wi)) := List.getElem?_set_self (List.getElem?_eq_some_iff.mp hM).1
    obtain ⟨s', q1, q2, q3⟩ := incr_loop h1 h2 h3 xs _ _ (l.set i (l.getD i 0 + 1)) hs1 (by simpa using hr) (by simpa using ha) hM' fun d' hd' => by
      obtain ⟨z', i', e, hi'⟩ := hd d' (List.mem_cons_of_mem _ hd')
      exact ⟨z', i', e, by rw [List.length_set]; exact hi'⟩
    refine ⟨s', ?_, by rw [q2]; simp, fun j j1 j2 => ?_⟩
    · rw [List.map_cons, forL, hg]
      simp only [hb]
      rw [q1, List.set_set]
      rfl
    · rw [q3 j j1 j2, List.getElem?_set_ne (Ne.symm j2), List.getElem?_set_ne (Ne.symm j1)]

/-! ### shares -/
def floorsL (n : Int) (ns : List Int) : List Int := ns.map fun w => (n * w).fdiv ns.sum
def restD (n : Int) (ns : List Int) (i : Nat) : PyData := .tuple [.int (-((n * ns.getD i 0).fmod ns.sum)), .int i]
def restsL (n : Int) (ns : List Int) : List PyData := (List.range ns.length).map (restD n ns)
def sharesL (n : Int) (ns : List Int) : List Int := (cutW (sortD (restsL n ns)) none (some (n - (floorsL n ns).sum))).foldl incrAt (floorsL n ns)
theorem foldl_len (xs : List PyData) (l : List Int) : (xs.foldl incrAt l).length = l.length := by
  induction xs generalizing l with
  | nil => rfl
  | cons x xs ih => rw [List.foldl_cons, ih, incrAt_len]
theorem sharesL_len (n : Int) (ns : List Int) : (sharesL n ns).length = ns.length := by
  unfold sharesL
  rw [foldl_len, floorsL, List.length_map]
theorem alike2 (a b c d : Int) : PySem.W.alike (.tuple [.int a, .int b]) (.tuple [.int c, .int d]) = true := by
  first
  | rfl
  | simp [PySem.W.alike, PySem.W.alikeAll]
theorem sortable_rests (n : Int) (ns : List Int) : sortable (restsL n ns) = true := by
  unfold sortable allAlike restsL
  simp only [Bool.and_eq_true, Bool.or_eq_true, List.all_eq_true]
  refine ⟨⟨fun d hd e he => ?_, .inl fun d hd => ?_⟩, fun d hd => ?_⟩
  · obtain ⟨i, _, rfl⟩ := List.mem_map.mp hd
    obtain ⟨j, _, rfl⟩ := List.mem_map.mp he
    exact alike2 ..
  · obtain ⟨i, _, rfl⟩ := List.mem_map.mp hd
    rfl
  · obtain ⟨i, _, rfl⟩ := List.mem_map.mp hd
    simp [restD, PyData.depth, PyData.depthAll]
theorem cutW_mem {α : Type} {xs : List α} {lo hi : Option Int} {x : α} (h : x ∈ cutW xs lo hi) : x ∈ xs := List.mem_of_mem_drop (List.mem_of_mem_take h)
theorem sortD_mem {xs : List PyData} {x : PyData} (h : x ∈ sortD xs) : x ∈ xs := (List.mergeSort_perm _ _).mem_iff.mp h
theorem rests_at {n : Int} {ns : List Int} {hi : Option Int} : ∀ d ∈ cutW (sortD (restsL n ns)) none hi, ∃ (z : Int) (i : Nat), d = .tuple [.int z, .int i] ∧ i < (floorsL n ns).length := fun d hd => by
  obtain ⟨i, hi, rfl⟩ := List.mem_map.mp (sortD_mem (cutW_mem hd))
  exact ⟨_, i, rfl, by rw [floorsL, List.length_map]; exact List.mem_range.mp hi⟩
theorem gIx_ints {ns : List Int} {i : Nat} {M : Ms} (h : i < ns.length) : gIx (.d (.list (ns.map .int))) (.d (.int i)) M = .ok (wi (ns.getD i 0)) M := by
  unfold gIx itemsL
  simp only
  rw [atI_nat, List.getElem?_map, List.getElem?_map, List.getElem?_eq_getElem h, List.getD_eq_getElem?_getD, List.getElem?_eq_getElem h]
  rfl

/-- a comprehension without test -/
theorem lcL_all {g : PGx} {te : PEx} {s : Sl} {M : Ms} (f : W → W) {ws acc : List W} (h : ∀ x ∈ ws, ∃ s', g x s M = some s' ∧ te s' M = .ok (f x) M) : lcL g pYes te s ws acc M = .ok (acc ++ ws.map f) M := by
  have z := lcL_pure (g := g) (tt := pYes) (te := te) (s := s) (M := M) (acc := acc) (fun _ => true) f (ws := ws) fun x hx => let ⟨s', h1, h2⟩ := h x hx; ⟨s', h1, rfl, fun _ => h2⟩
  rw [z]
  have e : ws.filter (fun _ => true) = ws := List.filter_eq_self.mpr fun _ _ => rfl
  rw [e]
theorem rng1_okI {p : PEx} {s : Sl} {M : Ms} {j : Int} (h : p s M = .ok (.d (.int j)) M) (hc : -(2 ^ 62) ≤ j ∧ j < 2 ^ 62) : pRng1 p s M = .ok (rngW 0 j.toNat) M := by
  show (p s M).bind _ = _
  rw [h]
  exact if_pos hc
theorem small62 {j : Int} (h1 : 0 ≤ j) (h2 : j ≤ 1000000) : -(2 ^ 62) ≤ j ∧ j < 2 ^ 62 := by
  have e : (2 : Int) ^ 62 = 4611686018427387904 := by simp
  rw [e]
  omega
theorem rng1_ok {p : PEx} {s : Sl} {M : Ms} {n : Nat} (h : p s M = .ok (.d (.int n)) M) (hn : n ≤ 1000000) : pRng1 p s M = .ok (rngW 0 n) M := by
  have z := rng1_okI h (small62 (by omega) (by omega))
  rw [Int.toNat_natCast] at z
  exact z
theorem len_list {i : Nat} {s : Sl} {M : Ms} {ds : List PyData} (h : s[i]? = some (some (.d (.list ds)))) : pCall gLen (pCons (pVar i) pNil) s M = .ok (.d (.int ds.length)) M := by
  unfold pCall pCons pVar pNil
  simp only [h, R.bind, gLen, lenW, itemsL, List.length_map]

/-! ### step by step -/
section
variable {s s' : Sl} {M M' : Ms} {p q : PSx} {pe : PEx} {pl : PAx} {c : PTx} {x : W} {ws : List W} {i : Nat} {e : Exn}
theorem seq_nx (h : p s M = .nx s' M') : pSeq p q s M = q s' M' := by unfold pSeq; rw [h]
theorem seq_rt (h : p s M = .rt x M') : pSeq p q s M = .rt x M' := by unfold pSeq; rw [h]
theorem seq_exc (h : p s M = .exc e s' M') : pSeq p q s M = .exc e s' M' := by unfold pSeq; rw [h]
theorem set_ok (h : pe s M = .ok x M') : pSet i pe s M = .nx (s.set i (some x)) M' := by unfold pSet; rw [h]; rfl
theorem drop_ok (h : pe s M = .ok x M') : pDrop pe s M = .nx s M' := by unfold pDrop; rw [h]; rfl
theorem ret_ok (h : pe s M = .ok x M') : pRet pe s M = .rt x M' := by unfold pRet; rw [h]; rfl
theorem if_tt (h : c s M = .ok true M') : pIf c p q s M = p s M' := by unfold pIf; rw [h]; rfl
theorem if_ff (h : c s M = .ok false M') : pIf c p q s M = q s M' := by unfold pIf; rw [h]; rfl
theorem for_ok {g : PGx} (h : pl s M = .ok ws M') : pFor pl g p s M = forL g p ws s M' := by unfold pFor; rw [h]; rfl
theorem dat_ok {ds : List PyData} (h : pl s M = .ok ws M') (h2 : allD ws = some ds) : pDat pl s M = .ok (.d (.list ds)) M' := by unfold pDat; rw [h]; simp only [R.bind, h2]
theorem mut_ok (h : pl s M = .ok ws M') : pMut pl s M = .ok (.r M'.length) (M' ++ [.lst ws]) := by unfold pMut; rw [h]; rfl
theorem var_ok (h : s[i]? = some (some x)) : pVar i s M = .ok x M := by unfold pVar; rw [h]
end
theorem cutW_map {α β : Type} (f : α → β) (xs : List α) (lo hi : Option Int) : cutW (xs.map f) lo hi = (cutW xs lo hi).map f := by
  unfold cutW
  rw [List.length_map, List.map_take, List.map_drop]

/-! ### what a judge sees -/
def offL (n : Int) (ns ms : List Int) : List Int := (List.range ns.length).map fun i => ms.getD i 0 * ns.sum - n * ns.getD i 0
def maxL (l : List Int) : Int := match l with
  | [] => 0
  | x :: xs => xs.foldl max x
def minL (l : List Int) : Int := match l with
  | [] => 0
  | x :: xs => xs.foldl min x
def goodB (n : Int) (ns ms : List Int) : Bool := decide (ms.length = ns.length) && (decide (ms.sum = n) && (decide (maxL (offL n ns ms) < ns.sum) && (decide (-ns.sum < minL (offL n ns ms)) && decide (maxL (offL n ns ms) - minL (offL n ns ms) ≤ ns.sum))))
theorem maxL_mem {l : List Int} (h : l ≠ []) : maxL l ∈ l ∧ ∀ y ∈ l, y ≤ maxL l := by
  cases l with
  | nil => exact absurd rfl h
  | cons x xs => exact foldl_max_mem xs x
theorem minL_mem {l : List Int} (h : l ≠ []) : minL l ∈ l ∧ ∀ y ∈ l, minL l ≤ y := by
  cases l with
  | nil => exact absurd rfl h
  | cons x xs => exact foldl_min_mem xs x
theorem offL_ne {n : Int} {ns ms : List Int} (h : 1 ≤ ns.length) : offL n ns ms ≠ [] := by
  intro z
  have := congrArg List.length z
  rw [offL, List.length_map, List.length_range, List.length_nil] at this
  omega
theorem getD_mem {l : List Int} {i : Nat} (h : i < l.length) : l.getD i 0 ∈ l := by
  rw [List.getD_eq_getElem?_getD, List.getElem?_eq_getElem h]
  exact List.getElem_mem h
theorem le_sum {ns : List Int} (h : ∀ n ∈ ns, 0 ≤ n) : 0 ≤ ns.sum ∧ ∀ w ∈ ns, w ≤ ns.sum := by
  induction ns with
  | nil => simp
  | cons a l ih =>
    obtain ⟨i1, i2⟩ := ih fun n hn => h n (List.mem_cons_of_mem _ hn)
    have ha := h a List.mem_cons_self
    rw [List.sum_cons]
    refine ⟨by omega, fun w hw => ?_⟩
    rcases List.mem_cons.mp hw with e | hw
    · omega
    · have := i2 w hw
      omega
/-- nobody gets less than nothing, or more than all -/
theorem off_amount {n w m e : Int} (hn : 0 ≤ n) (hw : 0 ≤ w) (hwe : w ≤ e) (he : 0 < e) (h1 : m * e - n * w < e) (h2 : -e < m * e - n * w) : 0 ≤ m ∧ m ≤ n := by
  have a1 : 0 ≤ n * w := Int.mul_nonneg hn hw
  have a2 : n * w ≤ n * e := Int.mul_le_mul_of_nonneg_left hwe hn
  constructor
  · rcases Int.lt_or_le m 0 with h | h
    · have : m * e ≤ (-1) * e := Int.mul_le_mul_of_nonneg_right (by omega) (Int.le_of_lt he)
      omega
    · exact h
  · rcases Int.lt_or_le n m with h | h
    · have : (n + 1) * e ≤ m * e := Int.mul_le_mul_of_nonneg_right (by omega) (Int.le_of_lt he)
      rw [Int.add_mul] at this
      omega
    · exact h
theorem mem_getD {l : List Int} {m : Int} (h : m ∈ l) : ∃ i, i < l.length ∧ l.getD i 0 = m := by
  obtain ⟨i, hi, e⟩ := List.getElem_of_mem h
  exact ⟨i, hi, by rw [List.getD_eq_getElem?_getD, List.getElem?_eq_getElem hi]; exact e⟩
theorem good_amounts {n : Int} {ns ms : List Int} (hn : 0 ≤ n) (h1 : 1 ≤ ns.length) (hw : ∀ w ∈ ns, 0 ≤ w) (hz : ns.sum ≠ 0) (g : goodB n ns ms = true) : ∀ m ∈ ms, 0 ≤ m ∧ m ≤ n := by
  unfold goodB at g
  simp only [Bool.and_eq_true, decide_eq_true_eq] at g
  obtain ⟨gl, gs, g1, g2, g3⟩ := g
  obtain ⟨z0, zl⟩ := le_sum hw
  have mx := (maxL_mem (offL_ne (n := n) (ms := ms) h1)).2
  have mn := (minL_mem (offL_ne (n := n) (ms := ms) h1)).2
  intro m hm
  obtain ⟨i, hi, rfl⟩ := mem_getD hm
  have hi' : i < ns.length := by omega
  have ho : ms.getD i 0 * ns.sum - n * ns.getD i 0 ∈ offL n ns ms := List.mem_map.mpr ⟨i, List.mem_range.mpr hi', rfl⟩
  have b1 := mx _ ho
  have b2 := mn _ ho
  exact off_amount hn (hw _ (getD_mem hi')) (zl _ (getD_mem hi')) (by omega) (by omega) (by omega)
theorem intsOf_wi (l : List Int) : intsOf (l.map PyData.int) = some l := intsOf_map l
theorem nil_ok {s : Sl} {M : Ms} : pNil s M = .ok [] M := rfl
theorem cons_ok {a : PEx} {r : PAx} {s : Sl} {M M1 M2 : Ms} {x : W} {xs : List W} (ha : a s M = .ok x M1) (hr : r s M1 = .ok xs M2) : pCons a r s M = .ok (x :: xs) M2 := by
  unfold pCons
  rw [ha]
  simp only [R.bind]
  rw [hr]
theorem op_ok {g : W → W → Ms → R W} {a b : PEx} {s : Sl} {M M' M'' : Ms} {x y : W} (ha : a s M = .ok x M') (hb : b s M' = .ok y M'') : pOp g a b s M = g x y M'' := by
  unfold pOp
  rw [ha]
  simp only [R.bind]
  rw [hb]
theorem call1 {g : List W → Ms → R W} {p : PEx} {s : Sl} {M M' : Ms} {x : W} (h : p s M = .ok x M') : pCall g (pCons p pNil) s M = g [x] M' := by
  unfold pCall
  rw [cons_ok h nil_ok]
  rfl
theorem callL1 {g : List W → Ms → R (List W)} {p : PEx} {s : Sl} {M M' : Ms} {x : W} (h : p s M = .ok x M') : pCallL g (pCons p pNil) s M = g [x] M' := by
  unfold pCallL
  rw [cons_ok h nil_ok]
  rfl
end Z

set_option linter.all false
set_option autoImplicit false
set_option maxRecDepth 100000
set_option maxHeartbeats 4000000
/-! Z20: texts: split, join, startswith, str(n), int(text); append; x in a tuple; bool(list). -/
namespace Z
open PySem PySem.Spec PyProof.Rows L2 L2H
/-! ### split -/
theorem sub_short (x : Str) (i j : Nat) : (Builtin.Str.strSub x i j).length ≤ x.length := by
  rw [TL.len_tl (Builtin.Str.strSub x i j), TL.len_tl x, TL.tl_strSub, List.length_take, List.length_drop]
  omega
theorem parts_short (x : Str) (n : Nat) : ∀ (cuts : List Nat) (a : Nat), ∀ z ∈ StrLaws.partsFrom x n a cuts, z.length ≤ x.length
  | [], a, z, h => by
    rcases List.mem_singleton.mp (show z ∈ [Builtin.Str.strSub x a x.length] from h) with rfl
    exact sub_short x _ _
  | c :: r, a, z, h => by
    rcases List.mem_cons.mp (show z ∈ Builtin.Str.strSub x a c :: StrLaws.partsFrom x n (c + n) r from h) with rfl | h
    · exact sub_short x _ _
    · exact parts_short x n r _ z h
theorem split_short (x y : Str) : ∀ z ∈ Txt.split x y, z.length ≤ x.length := by
  intro z h
  unfold Txt.split at h
  split at h
  · rcases List.mem_singleton.mp h with rfl; exact Nat.le_refl _
  · split at h
    · rcases List.mem_singleton.mp h with rfl; exact Nat.le_refl _
    · rw [StrLaws.partsBetween_eq] at h
      exact parts_short x _ _ _ z h
def strsW (ys : List Str) : List W := ys.map fun y => .d (.str y)
theorem wrs_strs {K : PySem.W.Frag} {as : List Addr} {Hb : Hp} : ∀ {ys : List Str}, (∀ z ∈ ys, z.length ≤ sizeLine) → WRs K as Hb (ys.map V.str) (strsW ys)
  | [], _ => .nil
  | y :: ys, h => .cons (wr_str (h y List.mem_cons_self)) (wrs_strs fun z hz => h z (List.mem_cons_of_mem _ hz))
def pSplit (o e : PEx) : PAx := fun s M => (o s M).bind fun x M1 => match x with
  | .d (.str a) => (e s M1).bind fun y M2 => (match y with
    | .d (.str b) => if b.length ≠ 0 ∧ a.length + 2 ≤ sizeLine then .ok (strsW (Txt.split a b)) M2 else .stuck
    | _ => .stuck)
  | _ => .stuck
section
variable {X : Cx} {w : WX} {o e : Expr} {po pe : PEx} {apos pos : Pos}
theorem jl_split (ho : JE X w o po) (he : JE X w e pe) (hs : starEach [e] X.env = [(false, eval e X.env)] := by rfl) (hbase : attributeBase o "split" X.env (eval o X.env) = eval o X.env := by rfl) (hline : (apos.endLine == pos.line) = true := by rfl) :
    JL X w (.Call (.Attribute o "split" apos) [e] [] pos) (pSplit po pe) := by
  obtain ⟨t, e1, s1⟩ := ho
  obtain ⟨u, e2, s2⟩ := he
  refine ⟨_, pe_split e1 e2 hs hbase hline, fun H0 Hb0 as Hb H M σ s r S Q g => ?_⟩
  refine Good.bind s1 r S g fun v x as1 Hb1 H1 M1 r1 f1 S1 w1 g1 => ?_
  cases x with
  | d x =>
    cases x with
    | str a =>
      obtain ⟨rfl, la⟩ := wr_str_of w1
      refine ⟨⟨a, rfl⟩, ?_⟩
      refine Good.bind s2 r1 S1 g1 fun v x as2 Hb2 H2 M2 r2 f2 S2 w2 g2 => ?_
      cases x with
      | d x =>
        cases x with
        | str b =>
          obtain ⟨rfl, lb⟩ := wr_str_of w2
          by_cases hc : b.length ≠ 0 ∧ a.length + 2 ≤ sizeLine
          · simp only [hc, if_true] at g2
            refine ⟨a, b, rfl, rfl, by simpa using hc.1, hc.2, fun p hp => ?_⟩
            have hl : (Txt.split a b).length ≤ sizeLine := Nat.le_trans (PyProof.Rows.split_le a b) hc.2
            have g3 : Good (repL X.K) X.K X.mg w H0 Hb0 as2 Hb2 σ Q (.ok (strsW (Txt.split a b)) M2) := by simpa [hc] using g2
            exact Good.ok g3 (r2.newAny hp) ⟨p, _, rfl, upd_same, by simpa [strsW] using hl, wrs_strs fun z hz => Nat.le_trans (split_short a b z hz) la, fun hm => r2.al p hm hp, r2.hbn hp, r2.h0n hp⟩
          · simp only [hc, if_false] at g2
            exact (show False from g2).elim
        | _ => exact (show False from g2).elim
      | r i => exact (show False from g2).elim
      | k u => exact (show False from g2).elim
    | _ => exact (show False from g1).elim
  | r i => exact (show False from g1).elim
  | k u => exact (show False from g1).elim
end
/-! ### a text's method of one text -/
def pM1 (f : Str → Str → Option PyData) (o e : PEx) : PEx := fun s M => (o s M).bind fun x M1 => match x with
  | .d (.str a) => (e s M1).bind fun y M2 => (match y with
    | .d (.str b) => (match f a b with
      | some d => .ok (.d d) M2
      | none => .stuck)
    | _ => .stuck)
  | _ => .stuck
section
variable {X : Cx} {w : WX} {o e : Expr} {po pe : PEx} {apos pos : Pos}
theorem sim_m1 {r : V → List V → Hp → VK → Prop} {f : Str → Str → Option PyData} {t u : TE} (s1 : Sim (repW X.K) X.K X.mg w t po) (s2 : Sim (repW X.K) X.K X.mg w u pe)
    (h : ∀ a b d, f a b = some d → a.length ≤ sizeLine → b.length ≤ sizeLine → ∀ (H : Hp) (Q : VK), (∀ v, Dt X.K (fun _ => none) v d → Q v H) → r (.str a) [.str b] H Q) (hf : ∀ a b d, f a b = some d → fits d) :
    Sim (repW X.K) X.K X.mg w (tM1 r t u) (pM1 f po pe) := by
  intro H0 Hb0 as Hb H M σ s r S Q g
  refine Good.bind s1 r S g fun v x as1 Hb1 H1 M1 r1 f1 S1 w1 g1 => ?_
  cases x with
  | d x =>
    cases x with
    | str a =>
      obtain ⟨rfl, la⟩ := wr_str_of w1
      refine ⟨⟨a, rfl⟩, ?_⟩
      refine Good.bind s2 r1 S1 g1 fun v x as2 Hb2 H2 M2 r2 f2 S2 w2 g2 => ?_
      cases x with
      | d x =>
        cases x with
        | str b =>
          obtain ⟨rfl, lb⟩ := wr_str_of w2
          cases hc : f a b with
          | none => simp only [hc] at g2; exact (show False from g2).elim
          | some d =>
            simp only [hc] at g2
            refine h a b d hc la lb H2 Q fun v hv => ?_
            exact Good.ok g2 r2 (⟨Dt.mono (fun _ _ z => by cases z) d v hv, hf a b d hc⟩ : Dz X.K Hb2 v d)
        | _ => exact (show False from g2).elim
      | r i => exact (show False from g2).elim
      | k u => exact (show False from g2).elim
    | _ => exact (show False from g1).elim
  | r i => exact (show False from g1).elim
  | k u => exact (show False from g1).elim
def fStarts (a b : Str) : Option PyData := some (.bool (Txt.startswith a b))
theorem je_startswith (ho : JE X w o po) (he : JE X w e pe) (hs : starEach [e] X.env = [(false, eval e X.env)] := by rfl) (hbase : attributeBase o "startswith" X.env (eval o X.env) = eval o X.env := by rfl) (hline : (apos.endLine == pos.line) = true := by rfl) :
    JE X w (.Call (.Attribute o "startswith" apos) [e] [] pos) (pM1 fStarts po pe) := by
  obtain ⟨t, e1, s1⟩ := ho
  obtain ⟨u, e2, s2⟩ := he
  refine ⟨_, pe_m1 F.slot_str_startswith F.type_str_startswith mt_startswith e1 e2 hs hbase hline, sim_m1 s1 s2 (fun a b d h _ _ H Q q => ?_) fun a b d h => ?_⟩
  · cases h; exact ⟨a, b, rfl, rfl, q _ (.bl _)⟩
  · cases h; trivial
end
/-! ### join -/
def strsOf : List PyData → Option (List Str)
  | [] => some []
  | .str x :: ds => (strsOf ds).map (x :: ·)
  | _ :: _ => none
theorem strsOf_map : ∀ ys : List Str, strsOf (ys.map .str) = some ys
  | [] => rfl
  | y :: ys => by simp [strsOf, strsOf_map ys]
theorem strs_vs {K : PySem.W.Frag} {H : Hp} : ∀ {ds : List PyData} {vs : List V} {ys : List Str}, DtAll K H vs ds → strsOf ds = some ys → vs = ys.map V.str
  | [], _, _, h, e => by cases h; simp [strsOf] at e; subst e; rfl
  | d :: ds, _, ys, h, e => by
    cases d with
    | str x =>
      cases h with
      | cons h1 h2 =>
        simp only [strsOf, Option.map_eq_some_iff] at e
        obtain ⟨r, e1, rfl⟩ := e
        cases h1
        rw [strs_vs h2 e1]
        rfl
    | _ => simp [strsOf] at e
def joinLen (a : Str) (ys : List Str) : Nat := (ys.map (·.length)).sum + ys.length * a.length
def pJoin (o e : PEx) : PEx := fun s M => (o s M).bind fun x M1 => match x with
  | .d (.str a) => (e s M1).bind fun y M2 => (match view M2 y with
    | some (.list ds) => (match strsOf ds with
      | some ys => if joinLen a ys ≤ 16777216 then .ok (.d (.str (Txt.join a ys))) M2 else .stuck
      | none => .stuck)
    | _ => .stuck)
  | _ => .stuck
section
variable {X : Cx} {w : WX} {o e : Expr} {po pe : PEx} {apos pos : Pos}
theorem je_join (ho : JE X w o po) (he : JE X w e pe) (hs : starEach [e] X.env = [(false, eval e X.env)] := by rfl) (hbase : attributeBase o "join" X.env (eval o X.env) = eval o X.env := by rfl) (hline : (apos.endLine == pos.line) = true := by rfl) :
    JE X w (.Call (.Attribute o "join" apos) [e] [] pos) (pJoin po pe) := by
  obtain ⟨t, e1, s1⟩ := ho
  obtain ⟨u, e2, s2⟩ := he
  refine ⟨_, pe_join e1 e2 hs hbase hline, fun H0 Hb0 as Hb H M σ s r S Q g => ?_⟩
  refine Good.bind s1 r S g fun v x as1 Hb1 H1 M1 r1 f1 S1 w1 g1 => ?_
  cases x with
  | d x =>
    cases x with
    | str a =>
      obtain ⟨rfl, la⟩ := wr_str_of w1
      refine ⟨⟨a, rfl⟩, ?_⟩
      refine Good.bind s2 r1 S1 g1 fun v x as2 Hb2 H2 M2 r2 f2 S2 w2 g2 => ?_
      cases hv : view M2 x with
      | none => simp only [hv] at g2; exact (show False from g2).elim
      | some d =>
        cases d with
        | list ds =>
          simp only [hv] at g2
          cases hd : strsOf ds with
          | none => simp only [hd] at g2; exact (show False from g2).elim
          | some ys =>
            simp only [hd] at g2
            by_cases hc : joinLen a ys ≤ 16777216
            · rw [if_pos hc] at g2
              obtain ⟨p, vs, rfl, h1, dz, z⟩ := viewL_ok r2 w2 hv
              have ev := strs_vs (of_dzAll dz).1 hd
              subst ev
              refine ⟨a, p, ys, rfl, rfl, .inl (SqL.of h1), hc, ?_⟩
              refine Good.ok g2 r2 (wr_str ?_)
              have hj := StrLaws.join_length_le a ys
              rw [show Txt.join a ys = Str.join a ys from StrLaws.glued_eq_join a ys]
              have e : (16777216 : Nat) ≤ sizeLine := by decide
              unfold joinLen at hc
              omega
            · rw [if_neg hc] at g2
              exact (show False from g2).elim
        | _ => simp only [hv] at g2; exact (show False from g2).elim
    | _ => exact (show False from g1).elim
  | r i => exact (show False from g1).elim
  | k u => exact (show False from g1).elim
end
/-! ### str(n), int(text), bool(list) -/
def gStrI : List W → Ms → R W := fun ws M => match ws with
  | [x] => (match x with
    | .d (.int i) => if i.natAbs.log2 < 1920 ∧ (toString i : Str).length ≤ sizeLine then .ok (.d (.str (toString i))) M else .stuck
    | _ => .stuck)
  | _ => .stuck
def gIntS : List W → Ms → R W := fun ws M => match ws with
  | [x] => (match x with
    | .d (.str a) => (match PySem.intText? a with
      | some n => if a.length ≤ 640 then .ok (.d (.int n)) M else .stuck
      | none => .stuck)
    | _ => .stuck)
  | _ => .stuck
def gBoolL : List W → Ms → R W := fun ws M => match ws with
  | [x] => (match itemsL M x with
    | some us => .ok (.d (.bool (!us.isEmpty))) M
    | none => .stuck)
  | _ => .stuck
section
variable {K : PySem.W.Frag} {mg : Str → Option Value}
theorem s_strI : SimC K mg (fun xs H Q => ∃ i, xs = [.int i] ∧ i.natAbs.log2 < 1920 ∧ Q (.str (toString i)) H) gStrI := by
  intro w H0 Hb0 as Hb H M σ ws vs r wr Q gd
  match ws, gd with
  | [], gd => exact gd.elim
  | _ :: _ :: _, gd => exact gd.elim
  | [x], gd =>
    obtain ⟨v, rfl, wx⟩ := one_arg_of wr
    cases x with
    | d x =>
      cases x with
      | int i =>
        obtain rfl := wr_int_of wx
        unfold gStrI at gd
        by_cases hc : i.natAbs.log2 < 1920 ∧ (toString i : Str).length ≤ sizeLine
        · simp only [hc, and_self, if_true] at gd
          exact ⟨i, rfl, hc.1, Good.ok gd r (wr_str hc.2)⟩
        · simp only [hc, if_false] at gd
          exact (show False from gd).elim
      | _ => exact gd.elim
    | r i => exact gd.elim
    | k u => exact gd.elim
theorem s_intS : SimC K mg (fun xs H Q => ∃ a n, xs = [.str a] ∧ PySem.intText? a = some n ∧ a.length ≤ 640 ∧ Q (.int n) H) gIntS := by
  intro w H0 Hb0 as Hb H M σ ws vs r wr Q gd
  match ws, gd with
  | [], gd => exact gd.elim
  | _ :: _ :: _, gd => exact gd.elim
  | [x], gd =>
    obtain ⟨v, rfl, wx⟩ := one_arg_of wr
    cases x with
    | d x =>
      cases x with
      | str a =>
        obtain ⟨rfl, la⟩ := wr_str_of wx
        unfold gIntS at gd
        cases hi : PySem.intText? a with
        | none => simp only [hi] at gd; exact (show False from gd).elim
        | some n =>
          simp only [hi] at gd
          by_cases hc : a.length ≤ 640
          · rw [if_pos hc] at gd
            exact ⟨a, n, rfl, hi, hc, Good.ok gd r (wr_int n)⟩
          · rw [if_neg hc] at gd
            exact (show False from gd).elim
      | _ => exact gd.elim
    | r i => exact gd.elim
    | k u => exact gd.elim
theorem s_boolL : SimC K mg (fun xs H Q => ∃ (a : Addr) (zs : List V), xs = [.ref a] ∧ SqL K H a zs ∧ Q (.bl (!zs.isEmpty)) H) gBoolL := by
  intro w H0 Hb0 as Hb H M σ ws vs r wr Q gd
  match ws, gd with
  | [], gd => exact gd.elim
  | _ :: _ :: _, gd => exact gd.elim
  | [x], gd =>
    obtain ⟨v, rfl, wx⟩ := one_arg_of wr
    unfold gBoolL at gd
    cases e1 : itemsL M x with
    | none => simp only [e1] at gd; exact (show False from gd).elim
    | some us =>
      simp only [e1] at gd
      obtain ⟨a, xs, rfl, h1, r1, z1⟩ := itemsL_ok r wx e1
      exact ⟨a, xs, rfl, SqL.of h1, Good.ok gd r (by rw [emp_of r1]; exact wr_bl _)⟩
end
/-! ### append -/
def pApp (o e : PEx) : PSx := fun s M => (o s M).to s fun x M1 => match x with
  | .r i => (match M1[i]? with
    | some (.lst _) => (e s M1).to s fun y M2 => (match M2[i]? with
      | some (.lst ws) => if ws.length < sizeLine then .nx s (M2.set i (.lst (ws ++ [y]))) else .stuck
      | _ => .stuck)
    | _ => .stuck)
  | _ => .stuck
section
variable {X : Cx} {w : WX} {o e : Expr} {po pe : PEx} {apos cpos pos : Pos}
theorem js_app (ho : JE X w o po) (he : JE X w e pe) (hbase : attributeBase o "append" X.env (eval o X.env) = eval o X.env := by rfl)
    (hfew : ((backTo cpos (starEach [e] X.env)).all (fun x => !x.1) && (backToKw cpos (keywordEach [] X.env)).all (fun x => x.1.isSome)
      && decide (([e] : List Expr).length + ([] : List Keyword).length + (if ([] : List Keyword).isEmpty then 0 else 1) < 30)) = true := by rfl)
    (hline : (apos.endLine == cpos.line) = true := by rfl) (hs : starEach [e] X.env = (false, eval e X.env) :: starEach [] X.env := by rfl) (hplain : (backTo cpos (starEach [] X.env)).any (·.1) = false := by rfl)
    (hsw : swapsWith (.Call (.Attribute o "append" apos) [e] [] cpos) none pos.line X.env = pure false := by rfl) :
    JS X w (.Expr (.Call (.Attribute o "append" apos) [e] [] cpos) pos) (pApp po pe) := by
  obtain ⟨t, e1, s1⟩ := ho
  obtain ⟨u, e2, s2⟩ := he
  refine ⟨_, ps_expr (pe_bm PySem.F.plainAttrs_list PySem.F.slot_list_append PySem.F.type_list_append mt_append e1 (pa_cons e2 pa_nil hs) hbase hfew hline hs hplain) hsw, fun H0 Hb0 as Hb H M σ s r S D g => ?_⟩
  refine GoodS.bind s1 r S g fun v x as1 Hb1 H1 M1 r1 f1 S1 w1 g1 => ?_
  cases x with
  | d x => exact (show False from g1).elim
  | k u => exact (show False from g1).elim
  | r i =>
    obtain ⟨a, ha, rfl⟩ := w1
    cases hm : M1[i]? with
    | none => simp only [hm] at g1; exact (show False from g1).elim
    | some m =>
      cases m with
      | ins C fs => simp only [hm] at g1; exact (show False from g1).elim
      | dic _ _ => simp only [hm] at g1; exact (show False from g1).elim
      | dlk _ _ => simp only [hm] at g1; exact (show False from g1).elim
      | gone => simp only [hm] at g1; exact (show False from g1).elim
      | lst ws0 =>
        simp only [hm] at g1
        obtain ⟨z0, vs0, hH, _⟩ := r1.at' i a _ ha hm
        refine ⟨.inl ⟨rfl, _, SqL.of hH⟩, ?_⟩
        refine GoodS.bind s2 r1 S1 g1 fun v x as2 Hb2 H2 M2 r2 f2 S2 w2 g2 => ?_
        have ha2 := f2.idx ha
        cases hm2 : M2[i]? with
        | none => simp only [hm2] at g2; exact (show False from g2).elim
        | some m =>
          cases m with
          | ins C fs => simp only [hm2] at g2; exact (show False from g2).elim
          | dic _ _ => simp only [hm2] at g2; exact (show False from g2).elim
          | dlk _ _ => simp only [hm2] at g2; exact (show False from g2).elim
          | gone => simp only [hm2] at g2; exact (show False from g2).elim
          | lst ws =>
            simp only [hm2] at g2
            obtain ⟨z, vs, hH2, hp⟩ := r2.at' i a _ ha2 hm2
            by_cases hc : ws.length < sizeLine
            · rw [if_pos hc] at g2
              have hl : vs.length = ws.length := Paired.len hp
              refine ⟨a, vs, v, rfl, rfl, hH2, by rw [hl]; exact hc, ?_⟩
              exact GoodS.nx g2 (r2.setMut ha2 hm2 rfl ⟨by rw [List.length_append]; exact hc, vs ++ [v], upd_same, Paired.app hp (.cons w2 .nil)⟩) S2
            · rw [if_neg hc] at g2
              exact (show False from g2).elim
end
/-! ### x in a tuple of flat things -/
def flatD : PyData → Bool
  | .none => true | .bool _ => true | .int _ => true | .str _ => true | _ => false
def eqF : PyData → PyData → Bool
  | .none, .none => true
  | .bool a, .bool b => a == b
  | .bool a, .int b => (if a then 1 else 0) == b
  | .int a, .bool b => a == (if b then 1 else 0)
  | .int a, .int b => a == b
  | .str a, .str b => a == b
  | _, _ => false
theorem eqF_ok {K : PySem.W.Frag} {H : Hp} {v u : V} {d e : PyData} (h1 : Dt K H v d) (h2 : Dt K H u e) (f1 : flatD d = true) (f2 : flatD e = true) : eqV v u = eqF d e ∧ flatV v = true := by
  cases h1 <;> first
    | (cases f1; done)
    | (cases h2 <;> first | (cases f2; done) | exact ⟨rfl, rfl⟩)
def gInT (neg : Bool) : W → W → Ms → R W := fun x y M => match x, y with
  | .d d, .d (.tuple ds) => if flatD d = true ∧ ds.all flatD = true then .ok (.d (.bool (xor neg (ds.any fun z => eqF z d)))) M else .stuck
  | _, _ => .stuck
theorem inV_ok {K : PySem.W.Frag} {H : Hp} {v : V} {d : PyData} (h : Dt K H v d) (f : flatD d = true) : ∀ {vs : List V} {ds : List PyData}, DtAll K H vs ds → ds.all flatD = true → inV v vs = (ds.any fun z => eqF z d) ∧ vs.all flatV = true
  | _, [], hd, _ => by cases hd; exact ⟨rfl, rfl⟩
  | _, e :: ds, hd, hf => by
    cases hd with
    | @cons u us _ _ h1 h2 =>
      simp only [List.all_cons, Bool.and_eq_true] at hf
      obtain ⟨i1, i2⟩ := inV_ok h f h2 hf.2
      obtain ⟨j1, j2⟩ := eqF_ok h1 h hf.1 f
      refine ⟨?_, by simp [j2, i2]⟩
      unfold inV at i1 ⊢
      rw [List.any_cons, List.any_cons, i1, j1]
theorem sim_inT {K : PySem.W.Frag} {mg : Str → Option Value} (neg : Bool) : Sim2 K mg (rIn K neg) (gInT neg) := by
  intro w H0 Hb0 as Hb H M σ x y xv yv R1 wx wy Q gd
  cases x with
  | r i => exact (show False from gd).elim
  | k u => exact (show False from gd).elim
  | d d =>
    cases y with
    | r i => exact (show False from gd).elim
    | k u => exact (show False from gd).elim
    | d e =>
      cases e with
      | tuple ds =>
        unfold gInT at gd
        by_cases hc : flatD d = true ∧ ds.all flatD = true
        · simp only [hc, and_self, if_true] at gd
          obtain ⟨ht, hfit⟩ := wy
          cases ht with
          | tup hs ha =>
            obtain ⟨i1, i2⟩ := inV_ok wx.1 hc.1 ha hc.2
            obtain ⟨_, j2⟩ := eqF_ok wx.1 wx.1 hc.1 hc.1
            refine ⟨_, _, rfl, .inr (same_t R1.sub hs), j2, i2, ?_⟩
            refine Good.ok gd R1 ?_
            rw [i1, show (if neg = true then !(ds.any fun z => eqF z d) else ds.any fun z => eqF z d) = xor neg (ds.any fun z => eqF z d) by cases neg <;> simp]
            exact wr_bl _
        · simp only [hc, if_false] at gd
          exact (show False from gd).elim
      | _ => exact (show False from gd).elim
end Z

set_option linter.all false
set_option autoImplicit false
set_option maxRecDepth 100000
set_option maxHeartbeats 4000000
/-! Z21: dicts: keys that are numbers or texts. -/
namespace Z
open PySem PySem.Spec PyProof.Rows L2 L2H
/-! ### keys -/
def eqK : PyData → PyData → Bool
  | .int a, .int b => decide (a = b)
  | .str a, .str b => decide (a = b)
  | _, _ => false
theorem eqK_key (k l : Key) : eqK (keyD k) (keyD l) = decide (k = l) := by
  cases k <;> cases l <;> simp [eqK, keyD]
def isKey : PyData → Bool
  | .int _ => true | .str _ => true | _ => false
theorem isKey_ok {d : PyData} (h : isKey d = true) : ∃ k, d = keyD k := by
  cases d with
  | int i => exact ⟨.inl i, rfl⟩
  | str s => exact ⟨.inr s, rfl⟩
  | _ => cases h
theorem wr_key {K : PySem.W.Frag} {as : List Addr} {Hb : Hp} {v : V} {k : Key} (h : WR K as Hb v (.d (keyD k))) : v = kV k ∧ fits (keyD k) := by
  cases k with
  | inl i => exact ⟨wr_int_of h, trivial⟩
  | inr s => obtain ⟨e, l⟩ := wr_str_of h; exact ⟨e, l⟩
theorem wr_of_key {K : PySem.W.Frag} {as : List Addr} {Hb : Hp} {k : Key} (h : fits (keyD k)) : WR K as Hb (kV k) (.d (keyD k)) := by
  cases k with
  | inl i => exact wr_int i
  | inr s => exact wr_str h
def valP (kvs : List (PyData × W)) (d : PyData) : Option W := (kvs.find? fun p => eqK p.1 d).map (·.2)
def putP (kvs : List (PyData × W)) (d : PyData) (x : W) : List (PyData × W) :=
  if (kvs.any fun p => eqK p.1 d) = true then kvs.map (fun p => if eqK p.1 d = true then (p.1, x) else p) else kvs ++ [(d, x)]
abbrev PairK (K : PySem.W.Frag) (as : List Addr) (Hb : Hp) : List (Key × V) → List (PyData × W) → Prop := Paired fun (p : Key × V) (q : PyData × W) => q.1 = keyD p.1 ∧ fits q.1 ∧ WR K as Hb p.2 q.2
section
variable {K : PySem.W.Frag} {as : List Addr} {Hb : Hp}
theorem valP_ok {kv : List (Key × V)} {kvs : List (PyData × W)} (k : Key) (h : PairK K as Hb kv kvs) : (∀ x, valP kvs (keyD k) = some x → ∃ v, valV kv k = some v ∧ WR K as Hb v x) ∧ (valP kvs (keyD k) = none → valV kv k = none) := by
  induction h with
  | nil => exact ⟨fun x e => by simp [valP] at e, fun _ => rfl⟩
  | @cons p q l m h1 h2 ih =>
    obtain ⟨p1, p2⟩ := p
    obtain ⟨q1, q2⟩ := q
    obtain ⟨e1, _, w1⟩ := h1
    dsimp only at e1 w1
    subst e1
    by_cases c : p1 = k
    · subst c
      have e : valP ((keyD p1, q2) :: m) (keyD p1) = some q2 := by simp [valP, List.find?_cons, eqK_key]
      refine ⟨fun x hx => ?_, fun hx => ?_⟩
      · rw [e] at hx; cases hx
        exact ⟨p2, valV_pos rfl, w1⟩
      · rw [e] at hx; cases hx
    · have e : valP ((keyD p1, q2) :: m) (keyD k) = valP m (keyD k) := by simp [valP, List.find?_cons, eqK_key, c]
      rw [e, valV_neg (p := (p1, p2)) c]
      exact ih
theorem anyP_ok {kv : List (Key × V)} {kvs : List (PyData × W)} (k : Key) (h : PairK K as Hb kv kvs) : (kvs.any fun p => eqK p.1 (keyD k)) = (kv.any fun p => decide (p.1 = k)) := by
  induction h with
  | nil => rfl
  | @cons p q l m h1 h2 ih =>
    obtain ⟨e1, _, w1⟩ := h1
    rw [List.any_cons, List.any_cons, ih, e1, eqK_key]
theorem putMap_ok {kv : List (Key × V)} {kvs : List (PyData × W)} {k : Key} {v : V} {x : W} (hx : WR K as Hb v x) (h : PairK K as Hb kv kvs) : PairK K as Hb (kv.map fun p => if p.1 = k then (p.1, v) else p) (kvs.map fun p => if eqK p.1 (keyD k) = true then (p.1, x) else p) := by
  induction h with
  | nil => exact .nil
  | @cons p q l m h1 h2 ih =>
    obtain ⟨e1, f1, w1⟩ := h1
    rw [List.map_cons, List.map_cons]
    refine .cons ?_ ih
    rw [e1, eqK_key]
    by_cases c : p.1 = k
    · rw [if_pos c, if_pos (by simpa using c)]; exact ⟨rfl, by rw [← e1]; exact f1, hx⟩
    · rw [if_neg c, if_neg (by simpa using c)]; exact ⟨e1, f1, w1⟩
theorem putP_ok {kv : List (Key × V)} {kvs : List (PyData × W)} {k : Key} {v : V} {x : W} (hf : fits (keyD k)) (hx : WR K as Hb v x) (h : PairK K as Hb kv kvs) : PairK K as Hb (putK kv k v) (putP kvs (keyD k) x) := by
  unfold putK putP
  rw [anyP_ok k h]
  split
  · exact putMap_ok hx h
  · exact Paired.app h (.cons ⟨rfl, hf, hx⟩ .nil)
theorem putP_len (kvs : List (PyData × W)) (d : PyData) (x : W) : (putP kvs d x).length ≤ kvs.length + 1 := by
  unfold putP
  split
  · rw [List.length_map]; omega
  · rw [List.length_append]; simp
end
/-- the dict that a name holds -/
def dicOf (M : Ms) : W → Option (Nat × List (PyData × W))
  | .r i => match M[i]? with
    | some (.dic false kvs) => some (i, kvs)
    | some (.dlk false kvs) => some (i, kvs)
    | _ => none
  | _ => none
/-- .. that may be changed -/
def dicM (M : Ms) : W → Option (Nat × List (PyData × W))
  | .r i => match M[i]? with
    | some (.dic false kvs) => some (i, kvs)
    | _ => none
  | _ => none
section
variable {K : PySem.W.Frag} {H0 Hb0 Hb H : Hp} {as : List Addr} {M : Ms} {x : W} {v : V}
theorem dicOf_ok (r : Rel K H0 Hb0 as Hb H M) (h : WR K as Hb v x) {i : Nat} {kvs : List (PyData × W)} (e : dicOf M x = some (i, kvs)) : ∃ a kv, v = .ref a ∧ Rd H a (.dK kv) ∧ PairK K as Hb kv kvs ∧ kvs.length ≤ sizeLine := by
  cases x with
  | d y => simp [dicOf] at e
  | k u => simp [dicOf] at e
  | r j =>
    obtain ⟨a, h1, rfl⟩ := h
    unfold dicOf at e
    cases hm : M[j]? with
    | none => simp [hm] at e
    | some o =>
      cases o with
      | lst _ => simp [hm] at e
      | ins _ _ => simp [hm] at e
      | gone => simp [hm] at e
      | dic t kvs' =>
        cases t with
        | true => simp [hm] at e
        | false =>
          simp only [hm, Option.some.injEq, Prod.mk.injEq] at e
          obtain ⟨rfl, rfl⟩ := e
          obtain ⟨z, u, h2, kv, rfl, h3⟩ := r.at' j a _ h1 hm
          exact ⟨a, kv, rfl, .inl h2, h3, z⟩
      | dlk t kvs' =>
        cases t with
        | true => simp [hm] at e
        | false =>
          simp only [hm, Option.some.injEq, Prod.mk.injEq] at e
          obtain ⟨rfl, rfl⟩ := e
          obtain ⟨z, od, u, _, h2, kv, rfl, h3⟩ := r.at' j a _ h1 hm
          exact ⟨a, kv, rfl, .inr ⟨od, h2⟩, h3, z⟩
theorem dicM_ok (r : Rel K H0 Hb0 as Hb H M) (h : WR K as Hb v x) {i : Nat} {kvs : List (PyData × W)} (e : dicM M x = some (i, kvs)) : ∃ a kv, x = .r i ∧ as[i]? = some a ∧ v = .ref a ∧ H a = some (.dK kv) ∧ PairK K as Hb kv kvs ∧ kvs.length ≤ sizeLine ∧ M[i]? = some (.dic false kvs) := by
  cases x with
  | d y => simp [dicM] at e
  | k u => simp [dicM] at e
  | r j =>
    obtain ⟨a, h1, rfl⟩ := h
    unfold dicM at e
    cases hm : M[j]? with
    | none => simp [hm] at e
    | some o =>
      cases o with
      | lst _ => simp [hm] at e
      | ins _ _ => simp [hm] at e
      | gone => simp [hm] at e
      | dlk _ _ => simp [hm] at e
      | dic t kvs' =>
        cases t with
        | true => simp [hm] at e
        | false =>
          simp only [hm, Option.some.injEq, Prod.mk.injEq] at e
          obtain ⟨rfl, rfl⟩ := e
          obtain ⟨z, u, h2, kv, rfl, h3⟩ := r.at' j a _ h1 hm
          exact ⟨a, kv, rfl, h1, rfl, h2, h3, z, hm⟩
theorem dget_rd {H : Hp} {a : Addr} {kv : List (Key × V)} {k : Key} (h : Rd H a (.dK kv)) : DGet H a (kV k) (valV kv k) := .inl ⟨kv, k, h, rfl, rfl⟩
end
/-! ### {}, in, [], len, put -/
def pNewD : PEx := fun _ M => .ok (.r M.length) (M ++ [.dic false []])
def pDin (neg : Bool) (pk pd : PEx) : PEx := fun s M => (pk s M).bind fun y M1 => (pd s M1).bind fun x M2 => match y, dicOf M2 x with
  | .d d, some (_, kvs) => if isKey d = true then .ok (.d (.bool (xor neg (valP kvs d).isSome))) M2 else .stuck
  | _, _ => .stuck
def pGetD (pd pk : PEx) : PEx := fun s M => (pd s M).bind fun x M1 => (pk s M1).bind fun y M2 => match y, dicOf M2 x with
  | .d d, some (_, kvs) => if isKey d = true then (match valP kvs d with
    | some z => .ok z M2
    | none => .stuck) else .stuck
  | _, _ => .stuck
def pPutD (pv pd pk : PEx) : PSx := fun s M => (pv s M).to s fun z M1 => (pd s M1).to s fun x M2 => (pk s M2).to s fun y M3 => match y, dicM M3 x with
  | .d d, some (i, kvs) => if isKey d = true ∧ kvs.length < sizeLine then .nx s (M3.set i (.dic false (putP kvs d z))) else .stuck
  | _, _ => .stuck
def gLenD : List W → Ms → R W := fun ws M => match ws with
  | [x] => (match dicM M x with
    | some (_, kvs) => .ok (.d (.int kvs.length)) M
    | none => .stuck)
  | _ => .stuck
section
variable {X : Cx} {w : WX} {o e value : Expr} {pd pk pv : PEx} {pos pos' : Pos}
theorem je_newD : JE X w (.Dict [] [] pos) pNewD := by
  refine ⟨_, pe_dnewK, fun H0 Hb0 as Hb H M σ s r S Q g p hp => ?_⟩
  have r1 := r.newAny (o := .dK []) hp
  have hm : p ∉ as := fun hm => r.al p hm hp
  have r2 := r1.newMut (p := p) (m := .dic false []) (by rw [upd_same]; simp) (r.hbn hp) (r.h0n hp) hm ⟨Nat.zero_le _, _, upd_same, [], rfl, .nil⟩
  exact Good.ok (Good.mono ⟨Same.refl _, [p], rfl⟩ g) r2 ⟨p, by rw [← r.len]; simp, rfl⟩
theorem sim_din {ty td : TE} (neg : Bool) (s1 : Sim (repW X.K) X.K X.mg w ty pk) (s2 : Sim (repW X.K) X.K X.mg w td pd) :
    Sim (repW X.K) X.K X.mg w (fun σ H Q => ty σ H fun y H1 => td σ H1 fun x H2 => ∃ a o, x = .ref a ∧ DGet H2 a y o ∧ Q (.bl (xor neg o.isSome)) H2) (pDin neg pk pd) := by
  intro H0 Hb0 as Hb H M σ s r S Q g
  refine Good.bind s1 r S g fun v y as1 Hb1 H1 M1 r1 f1 S1 w1 g1 => ?_
  refine Good.bind s2 r1 S1 g1 fun u x as2 Hb2 H2 M2 r2 f2 S2 w2 g2 => ?_
  cases y with
  | r i => exact (show False from g2).elim
  | k i => exact (show False from g2).elim
  | d d =>
    cases hd : dicOf M2 x with
    | none => simp only [hd] at g2; exact (show False from g2).elim
    | some p =>
      obtain ⟨i, kvs⟩ := p
      simp only [hd] at g2
      by_cases hk : isKey d = true
      · rw [if_pos hk] at g2
        obtain ⟨k, rfl⟩ := isKey_ok hk
        obtain ⟨a, kv, rfl, hr, hp, hz⟩ := dicOf_ok r2 w2 hd
        obtain ⟨rfl, _⟩ := wr_key w1
        refine ⟨a, valV kv k, rfl, dget_rd hr, ?_⟩
        have e : (valV kv k).isSome = (valP kvs (keyD k)).isSome := by
          obtain ⟨h1, h2⟩ := valP_ok k hp
          cases q : valP kvs (keyD k) with
          | none => rw [h2 q]; rfl
          | some z => obtain ⟨v, e, _⟩ := h1 z q; rw [e]; rfl
        rw [e]
        exact Good.ok g2 r2 (wr_bl _)
      · rw [if_neg hk] at g2
        exact (show False from g2).elim
theorem je_din (hu : X.A.units + 1 < cLine) (hk : JE X w e pk) (hd : JE X w o pd) (hm : behindInMarks .In o = false := by rfl) : JE X w (.Compare e [.In] [o] pos) (pDin false pk pd) := by
  obtain ⟨t, e1, s1⟩ := hk
  obtain ⟨u, e2, s2⟩ := hd
  refine ⟨_, pe_cmp (pc_din hu e1 e2) hm, fun H0 Hb0 as Hb H M σ s r S Q g => ?_⟩
  have z := sim_din false s1 s2 H0 Hb0 as Hb H M σ s r S Q g
  simpa [tTest, tB, tDIn] using z
theorem je_dnin (hu : X.A.units + 1 < cLine) (hk : JE X w e pk) (hd : JE X w o pd) (hm : behindInMarks .NotIn o = false := by rfl) : JE X w (.Compare e [.NotIn] [o] pos) (pDin true pk pd) := by
  obtain ⟨t, e1, s1⟩ := hk
  obtain ⟨u, e2, s2⟩ := hd
  refine ⟨_, pe_cmp (pc_dnotin hu e1 e2) hm, fun H0 Hb0 as Hb H M σ s r S Q g => ?_⟩
  have z := sim_din true s1 s2 H0 Hb0 as Hb H M σ s r S Q g
  simpa [tTest, tB, tDNotIn] using z
theorem jt_din (hu : X.A.units + 1 < cLine) (hk : JE X w e pk) (hd : JE X w o pd) (hm : behindInMarks .In o = false := by rfl) : JT X w (.Compare e [.In] [o] pos) (pB (pDin false pk pd)) := by
  obtain ⟨t, e1, s1⟩ := hk
  obtain ⟨u, e2, s2⟩ := hd
  refine ⟨_, pt_cmp (pc_din hu e1 e2) hm, fun H0 Hb0 as Hb H M σ s r S Q g => ?_⟩
  have z := sim_test (sim_din false s1 s2) H0 Hb0 as Hb H M σ s r S Q g
  simpa [tTest, tB, tDIn] using z
theorem jt_dnin (hu : X.A.units + 1 < cLine) (hk : JE X w e pk) (hd : JE X w o pd) (hm : behindInMarks .NotIn o = false := by rfl) : JT X w (.Compare e [.NotIn] [o] pos) (pB (pDin true pk pd)) := by
  obtain ⟨t, e1, s1⟩ := hk
  obtain ⟨u, e2, s2⟩ := hd
  refine ⟨_, pt_cmp (pc_dnotin hu e1 e2) hm, fun H0 Hb0 as Hb H M σ s r S Q g => ?_⟩
  have z := sim_test (sim_din true s1 s2) H0 Hb0 as Hb H M σ s r S Q g
  simpa [tTest, tB, tDNotIn] using z
theorem je_getD (hu : X.A.units + 1 < cLine) (hd : JE X w o pd) (hk : JE X w e pk) (hs : NoSl e := by intro _ _; rfl) : JE X w (.Subscript o e pos) (pGetD pd pk) := by
  obtain ⟨t, e1, s1⟩ := hd
  obtain ⟨u, e2, s2⟩ := hk
  refine ⟨_, pe_dget hu e1 e2 hs, fun H0 Hb0 as Hb H M σ s r S Q g => ?_⟩
  refine Good.bind s1 r S g fun v x as1 Hb1 H1 M1 r1 f1 S1 w1 g1 => ?_
  refine Good.bind s2 r1 S1 g1 fun u y as2 Hb2 H2 M2 r2 f2 S2 w2 g2 => ?_
  cases y with
  | r i => exact (show False from g2).elim
  | k i => exact (show False from g2).elim
  | d d =>
    cases hd : dicOf M2 x with
    | none => simp only [hd] at g2; exact (show False from g2).elim
    | some p =>
      obtain ⟨i, kvs⟩ := p
      simp only [hd] at g2
      by_cases hk : isKey d = true
      · rw [if_pos hk] at g2
        obtain ⟨k, rfl⟩ := isKey_ok hk
        obtain ⟨a, kv, rfl, hr, hp, hz⟩ := dicOf_ok r2 (w1.mono f2) hd
        obtain ⟨rfl, _⟩ := wr_key w2
        cases q : valP kvs (keyD k) with
        | none => simp only [q] at g2; exact (show False from g2).elim
        | some z =>
          simp only [q] at g2
          obtain ⟨v, e, wv⟩ := (valP_ok k hp).1 z q
          exact ⟨a, v, rfl, e ▸ dget_rd hr, Good.ok g2 r2 wv⟩
      · rw [if_neg hk] at g2
        exact (show False from g2).elim
theorem js_putD (hu : X.A.units + 1 < cLine) (hv : JE X w value pv) (hd : JE X w o pd) (hk : JE X w e pk) (hs : swapsWith value (some (.Subscript o e pos')) pos.line X.env = pure false := by rfl) :
    JS X w (.Assign [.Subscript o e pos'] value pos) (pPutD pv pd pk) := by
  obtain ⟨t0, e0, s0⟩ := hv
  obtain ⟨t, e1, s1⟩ := hd
  obtain ⟨u, e2, s2⟩ := hk
  refine ⟨_, ps_dput hu e1 e2 e0 hs, fun H0 Hb0 as Hb H M σ s r S D g => ?_⟩
  refine GoodS.bind s0 r S g fun vv z as0 Hbb H0' M0 r0 f0 S0 w0 g0 => ?_
  refine GoodS.bind s1 r0 S0 g0 fun v x as1 Hb1 H1 M1 r1 f1 S1 w1 g1 => ?_
  refine GoodS.bind s2 r1 S1 g1 fun u y as2 Hb2 H2 M2 r2 f2 S2 w2 g2 => ?_
  cases y with
  | r i => exact (show False from g2).elim
  | k i => exact (show False from g2).elim
  | d d =>
    cases hd : dicM M2 x with
    | none => simp only [hd] at g2; exact (show False from g2).elim
    | some p =>
      obtain ⟨i, kvs⟩ := p
      simp only [hd] at g2
      by_cases hk : isKey d = true ∧ kvs.length < sizeLine
      · rw [if_pos hk] at g2
        obtain ⟨k, rfl⟩ := isKey_ok hk.1
        obtain ⟨a, kv, rfl, ha, rfl, hr, hp, hz, hm⟩ := dicM_ok r2 (w1.mono f2) hd
        obtain ⟨rfl, hf⟩ := wr_key w2
        have hl : kv.length = kvs.length := Paired.len hp
        have wz := w0.mono (f1.trans f2)
        refine ⟨a, _, rfl, DPut.k hr (by rw [hl]; exact hk.2), ?_⟩
        exact GoodS.nx g2 (r2.setMut ha hm rfl ⟨Nat.le_trans (putP_len ..) hk.2, _, upd_same, _, rfl, putP_ok hf wz hp⟩) S2
      · rw [if_neg hk] at g2
        exact (show False from g2).elim
end
theorem s_lenD {K : PySem.W.Frag} {mg : Str → Option Value} : SimC K mg (fun xs H Q => ∃ a kvs, xs = [V.ref a] ∧ H a = some (.dK kvs) ∧ Q (.int kvs.length) H) gLenD := by
  intro w H0 Hb0 as Hb H M σ ws vs r wr Q gd
  match ws, gd with
  | [], gd => exact gd.elim
  | _ :: _ :: _, gd => exact gd.elim
  | [x], gd =>
    obtain ⟨v, rfl, wx⟩ := one_arg_of wr
    unfold gLenD at gd
    cases e1 : dicM M x with
    | none => simp only [e1] at gd; exact (show False from gd).elim
    | some p =>
      obtain ⟨i, kvs⟩ := p
      simp only [e1] at gd
      obtain ⟨a, kv, rfl, ha, rfl, hH, hp, hz, hm⟩ := dicM_ok r wx e1
      have hl : kv.length = kvs.length := Paired.len hp
      exact ⟨a, kv, rfl, hH, by rw [hl]; exact Good.ok gd r (wr_int _)⟩
/-! ### locked -/
def drp (Hb : Hp) (d : Addr) : Hp := fun a => if a = d then none else Hb a
theorem drp_ne {Hb : Hp} {d a : Addr} (h : a ≠ d) : drp Hb d a = Hb a := if_neg h
theorem drp_same {Hb : Hp} {d : Addr} : drp Hb d d = none := if_pos rfl
def IsDic (u : HO) : Prop := (∃ kv, u = .dK kv) ∨ ∃ kv, u = .dT kv
mutual
theorem Dt.drp {K : PySem.W.Frag} {Hb : Hp} {d : Addr} {od : Obj} {u : HO} (hd : Hb d = some (.frz od u)) (hu : IsDic u) : ∀ (x : PyData) (v : V), Dt K Hb v x → Dt K (Z.drp Hb d) v x
  | .none, _, h => by cases h; exact .non
  | .bool b, _, h => by cases h; exact .bl b
  | .int i, _, h => by cases h; exact .int i
  | .str x, _, h => by cases h; exact .str x
  | .list ds, _, h => by
    cases h with
    | @lst a xs _ hs ha =>
      have ne : a ≠ d := fun z => by subst z; rw [hd] at hs; cases hs
      exact .lst (by rw [drp_ne ne]; exact hs) (DtAll.drp hd hu ds _ ha)
  | .tuple ds, _, h => by
    cases h with
    | @tup a xs _ hs ha =>
      refine .tup ?_ (DtAll.drp hd hu ds _ ha)
      rcases hs with (hs | ⟨o, hs⟩) | hs
      · have ne : a ≠ d := fun z => by subst z; rw [hd] at hs; cases hs
        exact .inl (.inl (by rw [drp_ne ne]; exact hs))
      · have ne : a ≠ d := fun z => by
          subst z; rw [hd] at hs
          rcases hu with ⟨kv, rfl⟩ | ⟨kv, rfl⟩ <;> cases hs
        exact .inl (.inr ⟨o, by rw [drp_ne ne]; exact hs⟩)
      · exact .inr hs
  | .dict _, _, h => by cases h
theorem DtAll.drp {K : PySem.W.Frag} {Hb : Hp} {d : Addr} {od : Obj} {u : HO} (hd : Hb d = some (.frz od u)) (hu : IsDic u) : ∀ (ds : List PyData) (vs : List V), DtAll K Hb vs ds → DtAll K (Z.drp Hb d) vs ds
  | [], _, h => by cases h; exact .nil
  | x :: ds, _, h => by
    cases h with
    | cons h1 h2 => exact .cons (Dt.drp hd hu x _ h1) (DtAll.drp hd hu ds _ h2)
end
section
variable {K : PySem.W.Frag} {H0 Hb0 Hb H : Hp} {as : List Addr} {M : Ms} {d : Addr} {od : Obj} {u : HO}
theorem WR.drp {v : V} {x : W} (hd : Hb d = some (.frz od u)) (hu : IsDic u) (h : WR K as Hb v x) : WR K as (Z.drp Hb d) v x := by
  cases x with
  | d x => exact ⟨Dt.drp hd hu x v h.1, h.2⟩
  | r i => exact h
  | k u => exact h
theorem DicR.drp {t : Bool} {u' : HO} {kvs : List (PyData × W)} (hd : Hb d = some (.frz od u)) (hu : IsDic u) (h : DicR K as Hb t u' kvs) : DicR K as (Z.drp Hb d) t u' kvs := by
  cases t with
  | false => obtain ⟨kv, e, p⟩ := h; exact ⟨kv, e, Paired.imp (fun _ _ z => ⟨z.1, z.2.1, z.2.2.drp hd hu⟩) p⟩
  | true => obtain ⟨kv, e, p⟩ := h; exact ⟨kv, e, Paired.imp (fun _ _ z => ⟨z.1, z.2.1, z.2.2.drp hd hu⟩) p⟩
theorem DicR.dic {t : Bool} {kvs : List (PyData × W)} (h : DicR K as Hb t u kvs) : IsDic u := by
  cases t with
  | false => obtain ⟨kv, e, p⟩ := h; exact .inl ⟨kv, e⟩
  | true => obtain ⟨kv, e, p⟩ := h; exact .inr ⟨kv, e⟩
theorem Rel.lock (r : Rel K H0 Hb0 as Hb H M) {i : Nat} {t : Bool} {kvs : List (PyData × W)} (hi : as[i]? = some d) (hm : M[i]? = some (.dic t kvs)) (hH : H d = some u) :
    Rel K H0 Hb0 as (upd Hb d (.frz od u)) (upd H d (.frz od u)) (M.set i (.dlk t kvs)) := by
  have hb := r.off i d _ hi hm rfl
  have h0 := r.off0 d (List.mem_of_getElem? hi)
  have hil : i < M.length := (List.getElem?_eq_some_iff.mp hm).1
  have fu : Fut as Hb as (upd Hb d (.frz od u)) := ⟨same_new hb, [], by simp⟩
  refine ⟨fun b v e => ?_, fun b v e => ?_, by simp [r.len], r.nd, fun b hb' => ?_, fun j b v h1 h2 h3 => ?_, r.off0, r.b0.trans (same_new hb), fun j b v h1 h2 => ?_, fun a h1 h2 => ?_⟩
  · by_cases z : b = d
    · subst z; rw [upd_same] at e ⊢; exact e
    · rw [upd_ne z] at e ⊢; exact r.sub b v e
  · have z : b ≠ d := fun z => by subst z; rw [h0] at e; cases e
    rw [upd_ne z]; exact r.top b v e
  · by_cases z : b = d
    · subst z; rw [upd_same]; simp
    · rw [upd_ne z]; exact r.al b hb'
  · by_cases z : j = i
    · subst z
      rw [List.getElem?_set_self hil] at h2
      cases h2
      cases h3
    · rw [List.getElem?_set_ne (Ne.symm z)] at h2
      have zb : b ≠ d := fun e => z (nodup_idx r.nd (e ▸ h1) hi)
      rw [upd_ne zb]
      exact r.off j b v h1 h2 h3
  · by_cases z : j = i
    · subst z
      rw [hi] at h1; cases h1
      rw [List.getElem?_set_self hil] at h2
      cases h2
      obtain ⟨zz, u', hu', hp⟩ := r.at' j _ _ hi hm
      rw [hH] at hu'
      cases hu'
      exact ⟨zz, od, u, upd_same, upd_same, hp.mono fu⟩
    · rw [List.getElem?_set_ne (Ne.symm z)] at h2
      have zb : b ≠ d := fun e => z (nodup_idx r.nd (e ▸ h1) hi)
      exact (r.at' j b v h1 h2).fut fu (upd_ne zb)
  · by_cases z : a = d
    · subst z; exact h0
    · rw [upd_ne z] at h1; exact r.hb0 a h1 h2
theorem Rel.unlock (r : Rel K H0 Hb0 as Hb H M) {i : Nat} {t : Bool} {kvs : List (PyData × W)} (hi : as[i]? = some d) (hm : M[i]? = some (.dlk t kvs)) (hd : Hb d = some (.frz od u)) (hb0 : Hb0 d = none) :
    Rel K H0 Hb0 as (Z.drp Hb d) (upd H d u) (M.set i (.dic t kvs)) := by
  have h0 := r.off0 d (List.mem_of_getElem? hi)
  have hil : i < M.length := (List.getElem?_eq_some_iff.mp hm).1
  obtain ⟨zz, od', u', hb', hH', hp⟩ := r.at' i _ _ hi hm
  rw [hd] at hb'
  cases hb'
  have hu := hp.dic
  refine ⟨fun b v e => ?_, fun b v e => ?_, by simp [r.len], r.nd, fun b hb' => ?_, fun j b v h1 h2 h3 => ?_, r.off0, fun b v e => ?_, fun j b v h1 h2 => ?_, fun a h1 h2 => ?_⟩
  · have z : b ≠ d := fun z => by subst z; rw [drp_same] at e; cases e
    rw [drp_ne z] at e; rw [upd_ne z]; exact r.sub b v e
  · have z : b ≠ d := fun z => by subst z; rw [h0] at e; cases e
    rw [upd_ne z]; exact r.top b v e
  · by_cases z : b = d
    · subst z; rw [upd_same]; simp
    · rw [upd_ne z]; exact r.al b hb'
  · by_cases z : b = d
    · subst z; exact drp_same
    · rw [drp_ne z]
      have zj : j ≠ i := fun e => z (by subst e; rw [hi] at h1; cases h1; rfl)
      rw [List.getElem?_set_ne (Ne.symm zj)] at h2
      exact r.off j b v h1 h2 h3
  · have z : b ≠ d := fun z => by subst z; rw [hb0] at e; cases e
    rw [drp_ne z]
    exact r.b0 b v e
  · by_cases z : j = i
    · subst z
      rw [hi] at h1; cases h1
      rw [List.getElem?_set_self hil] at h2
      cases h2
      exact ⟨zz, u, upd_same, hp.drp hd hu⟩
    · rw [List.getElem?_set_ne (Ne.symm z)] at h2
      have zb : b ≠ d := fun e => z (nodup_idx r.nd (e ▸ h1) hi)
      have m := r.at' j b v h1 h2
      cases v with
      | lst xs => obtain ⟨z1, vs, e1, e2⟩ := m; exact ⟨z1, vs, by rw [upd_ne zb]; exact e1, Paired.imp (fun _ _ z => WR.drp hd hu z) e2⟩
      | ins C fs => obtain ⟨dx, fv, e1, e2⟩ := m; exact ⟨dx, fv, by rw [upd_ne zb]; exact e1, Paired.imp (fun _ _ z => ⟨z.1, WR.drp hd hu z.2⟩) e2⟩
      | dic t' kvs' => obtain ⟨z1, u1, e1, e2⟩ := m; exact ⟨z1, u1, by rw [upd_ne zb]; exact e1, e2.drp hd hu⟩
      | dlk t' kvs' => obtain ⟨z1, od1, u1, e0, e1, e2⟩ := m; exact ⟨z1, od1, u1, by rw [drp_ne zb]; exact e0, by rw [upd_ne zb]; exact e1, e2.drp hd hu⟩
      | gone => trivial
  · by_cases z : a = d
    · subst z; rw [drp_same] at h1; exact absurd rfl h1
    · rw [drp_ne z] at h1; exact r.hb0 a h1 h2
theorem fut_unlock {as' : List Addr} {Hb' : Hp} (hb : Hb d = none) (f : Fut as (upd Hb d (.frz od u)) as' Hb') : Fut as Hb as' (Z.drp Hb' d) := by
  refine ⟨fun b v e => ?_, f.pre⟩
  have z : b ≠ d := fun z => by subst z; rw [hb] at e; cases e
  rw [drp_ne z]
  exact f.ex b v (by rw [upd_ne z]; exact e)
end
/-- .. while the dict of a number is locked -/
def lockM (pick : Sl → Ms → Option Nat) (s : Sl) (M : Ms) : Option (Nat × Ms) := match pick s M with
  | some i => (match M[i]? with
    | some (.dic t kvs) => some (i, M.set i (.dlk t kvs))
    | _ => none)
  | none => none
def unlM (i : Nat) (M : Ms) : Option Ms := match M[i]? with
  | some (.dlk t kvs) => some (M.set i (.dic t kvs))
  | _ => none
def pLock {α : Type} (pick : Sl → Ms → Option Nat) (q : Sl → Ms → R α) : Sl → Ms → R α := fun s M => match lockM pick s M with
  | some (i, M1) => (match q s M1 with
    | .ok a M2 => (match unlM i M2 with
      | some M3 => .ok a M3
      | none => .stuck)
    | _ => .stuck)
  | none => .stuck
/-- where the dict of an expression is -/
def pickP (p : PEx) : Sl → Ms → Option Nat := fun s M => match p s M with
  | .ok (.r i) _ => some i
  | _ => none
section
variable {X : Cx} {w : WX} {e : Expr}
theorem lockM_ok {pick : Sl → Ms → Option Nat} {s : Sl} {M M1 : Ms} {i : Nat} (h : lockM pick s M = some (i, M1)) : ∃ t kvs, M[i]? = some (.dic t kvs) ∧ M1 = M.set i (.dlk t kvs) := by
  unfold lockM at h
  cases h1 : pick s M with
  | none => simp [h1] at h
  | some j =>
    simp only [h1] at h
    cases h2 : M[j]? with
    | none => simp [h2] at h
    | some o =>
      cases o with
      | dic t kvs =>
        simp only [h2, Option.some.injEq, Prod.mk.injEq] at h
        obtain ⟨rfl, rfl⟩ := h
        exact ⟨t, kvs, h2, rfl⟩
      | _ => simp [h2] at h
theorem unlM_ok {M M1 : Ms} {i : Nat} (h : unlM i M = some M1) : ∃ t kvs, M[i]? = some (.dlk t kvs) ∧ M1 = M.set i (.dic t kvs) := by
  unfold unlM at h
  cases h2 : M[i]? with
  | none => simp [h2] at h
  | some o =>
    cases o with
    | dlk t kvs => simp only [h2, Option.some.injEq] at h; exact ⟨t, kvs, rfl, h.symm⟩
    | _ => simp [h2] at h
theorem jl_lock {q : PAx} (pick : Sl → Ms → Option Nat) (h : JL X w e q) : JL X w e (pLock pick q) := by
  obtain ⟨t, e1, s1⟩ := h
  refine ⟨_, pe_lock e1, fun H0 Hb0 as Hb H M σ s r S Q g => ?_⟩
  unfold pLock at g
  cases hl : lockM pick s M with
  | none => simp only [hl] at g; exact (show False from g).elim
  | some p =>
    obtain ⟨i, M1⟩ := p
    simp only [hl] at g
    obtain ⟨tt, kvs, hm, rfl⟩ := lockM_ok hl
    obtain ⟨d, hi⟩ := r.idx hm
    obtain ⟨z, u, hH, hp⟩ := r.at' i d _ hi hm
    have hb := r.off i d _ hi hm rfl
    have hb0 : Hb0 d = none := r.b0.free hb
    refine ⟨d, u, hH, by rcases hp.dic with ⟨kv, rfl⟩ | ⟨kv, rfl⟩ <;> trivial, fun od => ?_⟩
    have r1 := r.lock (od := od) hi hm hH
    have f1 : Fut as Hb as (upd Hb d (.frz od u)) := ⟨same_new hb, [], by simp⟩
    refine s1 H0 Hb0 as _ _ _ σ s r1 (S.mono f1) _ ?_
    cases hq : q s (M.set i (.dlk tt kvs)) with
    | exc ex m => rw [hq] at g; exact (show False from g).elim
    | stuck => rw [hq] at g; exact (show False from g).elim
    | ok ws M2 =>
      rw [hq] at g
      simp only at g
      cases hun : unlM i M2 with
      | none => simp only [hun] at g; exact (show False from g).elim
      | some M3 =>
        simp only [hun] at g
        obtain ⟨t2, kvs2, hm2, rfl⟩ := unlM_ok hun
        intro v as' Hb' H' r' f' rp
        have hd : Hb' d = some (.frz od u) := f'.ex d _ upd_same
        have hi' := f'.idx hi
        have hu := hp.dic
        refine ⟨r'.sub d _ hd, ?_⟩
        have r2 := r'.unlock hi' hm2 hd hb0
        obtain ⟨p, vs, rfl, hpH, hz, wr, nq, hbn, h0n⟩ := rp
        have npd : p ≠ d := fun e => nq (e ▸ List.mem_of_getElem? hi')
        exact Good.ok (Good.mono (fut_unlock hb f') g) r2 ⟨p, vs, rfl, by rw [upd_ne npd]; exact hpH, hz, Paired.imp (fun _ _ z => WR.drp hd hu z) wr, nq, by rw [drp_ne npd]; exact hbn, h0n⟩
/-- the keys of a locked dict -/
def pKeys (p : PEx) : PAx := fun s M => (p s M).bind fun x M1 => match x with
  | .r i => (match M1[i]? with
    | some (.dlk false kvs) => .ok (kvs.map fun q => .d q.1) M1
    | _ => .stuck)
  | _ => .stuck
theorem ji_keys {tg l : Expr} {p : PEx} (h : JE X w l p) : JI X w tg l (pKeys p) := by
  obtain ⟨t, e1, s1⟩ := h
  refine ⟨_, pi_keys e1, fun H0 Hb0 as Hb H M σ s r S Q g => ?_⟩
  refine Good.bind s1 r S g fun v x as1 Hb1 H1 M1 r1 f1 S1 w1 g1 => ?_
  cases x with
  | d y => exact (show False from g1).elim
  | k y => exact (show False from g1).elim
  | r i =>
    obtain ⟨d, hi, rfl⟩ := w1
    cases hm : M1[i]? with
    | none => simp only [hm] at g1; exact (show False from g1).elim
    | some o =>
      cases o with
      | lst _ => simp only [hm] at g1; exact (show False from g1).elim
      | ins _ _ => simp only [hm] at g1; exact (show False from g1).elim
      | dic _ _ => simp only [hm] at g1; exact (show False from g1).elim
      | gone => simp only [hm] at g1; exact (show False from g1).elim
      | dlk tt kvs =>
        cases tt with
        | true => simp only [hm] at g1; exact (show False from g1).elim
        | false =>
          simp only [hm] at g1
          obtain ⟨z, od, u, hb, hH, kv, rfl, hp⟩ := r1.at' i d _ hi hm
          refine ⟨d, od, rfl, .inl ⟨kv, hH, ?_⟩⟩
          refine Good.ok g1 r1 ?_
          intro H0' Hb0' as' Hb' H' M' r' f' j
          have hd : H' d = some (.frz od (.dK kv)) := r'.sub d _ (f'.ex d _ hb)
          have hl : kv.length = kvs.length := Paired.len hp
          refine ⟨fun x hx => ?_, fun hx => ⟨hd, by rw [hl]; simpa using hx⟩⟩
          rw [List.getElem?_map, Option.map_eq_some_iff] at hx
          obtain ⟨q, hq, rfl⟩ := hx
          obtain ⟨pv, hpv, e1, e2, e3⟩ := Paired.at hp hq
          have hj : j < kv.length := (List.getElem?_eq_some_iff.mp hpv).1
          refine ⟨⟨hd, hj⟩, fun v H2 hy => ?_⟩
          obtain ⟨rfl, k, u, hk, rfl⟩ := hy
          rw [hpv] at hk
          cases hk
          exact ⟨Hb', r', Fut.refl, by rw [show q.1 = keyD k from e1] at e2 ⊢; exact wr_of_key e2⟩
end
end Z

set_option linter.all false
set_option autoImplicit false
set_option maxRecDepth 100000
set_option maxHeartbeats 4000000
/-! Z22: sorted(d), dict comprehensions, list(range(a, b, c)). -/
namespace Z
open PySem PySem.Spec PyProof.Rows L2 L2H
/-! ### sorted texts -/
theorem perm_uniq {α : Type} {le : α → α → Prop} : ∀ {l m : List α}, l.Perm m → l.Pairwise le → m.Pairwise le → (∀ a ∈ l, ∀ b ∈ l, le a b → le b a → a = b) → l = m
  | [], m, p, _, _, _ => p.nil_eq
  | a :: l, [], p, _, _, _ => absurd p.length_eq (by simp)
  | a :: l, b :: m, p, h1, h2, ha => by
    have hb : b ∈ a :: l := p.mem_iff.mpr List.mem_cons_self
    have ham : a ∈ b :: m := p.mem_iff.mp List.mem_cons_self
    have e : a = b := by
      rcases List.mem_cons.mp hb with e | hb'
      · exact e.symm
      · rcases List.mem_cons.mp ham with e | ham'
        · exact e
        · exact ha a List.mem_cons_self b hb (List.rel_of_pairwise_cons h1 hb') (List.rel_of_pairwise_cons h2 ham')
    subst e
    rw [perm_uniq p.cons_inv (List.Pairwise.of_cons h1) (List.Pairwise.of_cons h2) fun x hx y hy => ha x (List.mem_cons_of_mem _ hx) y (List.mem_cons_of_mem _ hy)]
def leS (a b : Str) : Prop := a.cps.toList ≤ b.cps.toList
theorem leS_anti {a b : Str} (h1 : leS a b) (h2 : leS b a) : a = b := by
  have e := List.le_antisymm h1 h2
  cases a; cases b
  simp only [Str.mk.injEq]
  exact Array.toList_inj.mp e
def sortS (ks : List Str) : List Str := ks.mergeSort (PySem.W.dataLe false PyData.str)
theorem sortS_map (ks : List Str) : sortD (ks.map .str) = (sortS ks).map .str := (PySem.W.sort_maps PyData.str fun _ _ _ _ => rfl).symm
theorem sortS_perm (ks : List Str) : (sortS ks).Perm ks := List.mergeSort_perm _ _
theorem sortS_pw (ks : List Str) : (sortS ks).Pairwise leS := by
  have h := PySem.W.sort_pairwise (le := PySem.W.dataLe false PyData.str) (PySem.W.sortLe_total _ _ _) ks
  refine List.Pairwise.imp ?_ h
  intro a b hab
  have e := PySem.W.dataLe_str (fun x : Str => x)
  have hab' : PySem.W.dataLe false (fun b : Str => PyData.str b) a b = true := hab
  rw [e] at hab'
  show a.cps.toList ≤ b.cps.toList
  exact of_decide_eq_true hab'
theorem sortS_uniq {ks ys : List Str} (p : ys.Perm ks) (h : ys.Pairwise leS) : ys = sortS ks :=
  perm_uniq (p.trans (sortS_perm ks).symm) h (sortS_pw ks) fun _ _ _ _ => leS_anti
theorem rising_pw : ∀ {r : List Str} {x : Str}, risingS x r = true → (x :: r).Pairwise leS
  | [], x, _ => List.pairwise_singleton _ _
  | y :: r, x, h => by
    unfold risingS at h
    simp only [Bool.and_eq_true, Bool.not_eq_true', ltCps_eq, decide_eq_false_iff_not] at h
    have ih := rising_pw h.2
    have hxy : leS x y := List.not_lt.mp h.1
    refine List.pairwise_cons.mpr ⟨fun z hz => ?_, ih⟩
    rcases List.mem_cons.mp hz with rfl | hz
    · exact hxy
    · exact List.le_trans hxy (List.rel_of_pairwise_cons ih hz)
theorem sortedS_pw {l : List Str} (h : sortedS l = true) : l.Pairwise leS := by
  cases l with
  | nil => exact List.Pairwise.nil
  | cons x r => exact rising_pw h
/-! ### sorted(d) -/
def keysS : List (PyData × W) → Option (List Str)
  | [] => some []
  | p :: r => match p.1 with
    | .str s => (keysS r).map (s :: ·)
    | _ => none
theorem keysS_ok {K : PySem.W.Frag} {as : List Addr} {Hb : Hp} {kv : List (Key × V)} {kvs : List (PyData × W)} (h : PairK K as Hb kv kvs) : ∀ {ks : List Str}, keysS kvs = some ks → kv.map (·.1) = ks.map Sum.inr ∧ ∀ k ∈ ks, k.length ≤ sizeLine := by
  induction h with
  | nil => intro ks e; simp [keysS] at e; subst e; exact ⟨rfl, fun _ h => by cases h⟩
  | @cons p q l m h1 h2 ih =>
    intro ks e
    obtain ⟨e1, f1, _⟩ := h1
    unfold keysS at e
    obtain ⟨q1, q2⟩ := q
    dsimp only at e1 e f1
    obtain ⟨p1, p2⟩ := p
    cases p1 with
    | inl i => simp only [keyD] at e1; subst e1; simp at e
    | inr s =>
      simp only [keyD] at e1
      subst e1
      simp only [Option.map_eq_some_iff] at e
      obtain ⟨r, e2, rfl⟩ := e
      obtain ⟨i1, i2⟩ := ih e2
      refine ⟨by simp [i1], fun k hk => ?_⟩
      rcases List.mem_cons.mp hk with rfl | hk
      · exact f1
      · exact i2 k hk
def gSortedK : List W → Ms → R (List W) := fun ws M => match ws with
  | [x] => (match dicOf M x with
    | some (_, kvs) => (match keysS kvs with
      | some ks => if ks.length < 64 then .ok (strsW (sortS ks)) M else .stuck
      | none => .stuck)
    | none => .stuck)
  | _ => .stuck
theorem s_sortedK {K : PySem.W.Frag} {mg : Str → Option Value} : SimCL K mg (fun xs H Q => ∃ (a : Addr) (kvs : List (Key × V)) (ks : List Str), xs = [.ref a] ∧ Rd H a (.dK kvs) ∧ kvs.map (·.1) = ks.map Sum.inr ∧ ks.length < 64 ∧ ∀ ys p, ys.Perm ks → sortedS ys = true → H p = none → Q (.ref p) (upd H p (.lst (ys.map V.str)))) gSortedK := by
  intro w H0 Hb0 as Hb H M σ ws vs r wr Q gd
  match ws, gd with
  | [], gd => exact gd.elim
  | _ :: _ :: _, gd => exact gd.elim
  | [x], gd =>
    obtain ⟨v, rfl, wx⟩ := one_arg_of wr
    unfold gSortedK at gd
    cases e1 : dicOf M x with
    | none => simp only [e1] at gd; exact (show False from gd).elim
    | some p =>
      obtain ⟨i, kvs⟩ := p
      simp only [e1] at gd
      cases e2 : keysS kvs with
      | none => simp only [e2] at gd; exact (show False from gd).elim
      | some ks =>
        simp only [e2] at gd
        by_cases hc : ks.length < 64
        · rw [if_pos hc] at gd
          obtain ⟨a, kv, rfl, hr, hp, hz⟩ := dicOf_ok r wx e1
          obtain ⟨k1, k2⟩ := keysS_ok hp e2
          refine ⟨a, kv, ks, rfl, hr, k1, hc, fun ys p hpm hs hpn => ?_⟩
          have e := sortS_uniq hpm (sortedS_pw hs)
          subst e
          have hl : (sortS ks).length = ks.length := (sortS_perm ks).length_eq
          have e64 : (64 : Nat) ≤ sizeLine := by decide
          exact Good.ok gd (r.newAny hpn) ⟨p, _, rfl, upd_same, by unfold strsW; rw [List.length_map, hl]; omega, wrs_strs fun z hz => k2 z ((sortS_perm ks).mem_iff.mp hz), fun hm => r.al p hm hpn, r.hbn hpn, r.h0n hpn⟩
        · rw [if_neg hc] at gd
          exact (show False from gd).elim
/-! ### a value that is made while a dict is locked -/
section
variable {X : Cx} {w : WX} {e : Expr}
theorem je_lock {q : PEx} (pick : Sl → Ms → Option Nat) (h : JE X w e q) : JE X w e (pLock pick q) := by
  obtain ⟨t, e1, s1⟩ := h
  refine ⟨_, pe_lock e1, fun H0 Hb0 as Hb H M σ s r S Q g => ?_⟩
  unfold pLock at g
  cases hl : lockM pick s M with
  | none => simp only [hl] at g; exact (show False from g).elim
  | some p =>
    obtain ⟨i, M1⟩ := p
    simp only [hl] at g
    obtain ⟨tt, kvs, hm, rfl⟩ := lockM_ok hl
    obtain ⟨d, hi⟩ := r.idx hm
    obtain ⟨z, u, hH, hp⟩ := r.at' i d _ hi hm
    have hb := r.off i d _ hi hm rfl
    have hb0 : Hb0 d = none := r.b0.free hb
    refine ⟨d, u, hH, by rcases hp.dic with ⟨kv, rfl⟩ | ⟨kv, rfl⟩ <;> trivial, fun od => ?_⟩
    have r1 := r.lock (od := od) hi hm hH
    have f1 : Fut as Hb as (upd Hb d (.frz od u)) := ⟨same_new hb, [], by simp⟩
    refine s1 H0 Hb0 as _ _ _ σ s r1 (S.mono f1) _ ?_
    cases hq : q s (M.set i (.dlk tt kvs)) with
    | exc ex m => rw [hq] at g; exact (show False from g).elim
    | stuck => rw [hq] at g; exact (show False from g).elim
    | ok x M2 =>
      rw [hq] at g
      simp only at g
      cases hun : unlM i M2 with
      | none => simp only [hun] at g; exact (show False from g).elim
      | some M3 =>
        simp only [hun] at g
        obtain ⟨t2, kvs2, hm2, rfl⟩ := unlM_ok hun
        intro v as' Hb' H' r' f' rp
        have hd : Hb' d = some (.frz od u) := f'.ex d _ upd_same
        have hi' := f'.idx hi
        refine ⟨r'.sub d _ hd, ?_⟩
        exact Good.ok (Good.mono (fut_unlock hb f') g) (r'.unlock hi' hm2 hd hb0) (WR.drp hd hp.dic rp)
end
/-! ### dict comprehensions -/
def dcL (g : PGx) (tt : PTx) (tk tv : PEx) (s : Sl) : List W → List (PyData × W) → Ms → R (List (PyData × W))
  | [], acc, M => .ok acc M
  | x :: ws, acc, M => match g x s M with
    | none => .stuck
    | some s1 => (tt s1 M).bindN fun b M1 => if b = true then (tk s1 M1).bindN fun y M2 => (tv s1 M2).bindN fun z M3 => match y with
      | .d d => if isKey d = true then dcL g tt tk tv s ws (putP acc d z) M3 else .stuck
      | _ => .stuck
      else dcL g tt tk tv s ws acc M1
def pDc (it : PAx) (g : PGx) (tt : PTx) (tk tv : PEx) (vs : List Nat) : PEx := fun s M => (it s M).bind fun ws M1 => if ws.length ≤ 1000000 then (dcL g tt tk tv (wipeS s vs) ws [] M1).bindN fun kvs M2 => .ok (.r M2.length) (M2 ++ [.dic false kvs]) else .stuck
theorem wipe_wipe {vs is : List Nat} (hv : ∀ i ∈ is, i ∈ vs) {σ σ3 : L2.St} (hw3 : ∀ us : List Nat, (∀ i ∈ is, i ∈ us) → wipe σ3 us = wipe (wipe σ vs) us) : wipe σ3 vs = wipe σ vs := by
  have z := hw3 vs hv
  rw [z]
  have ww : ∀ us : List Nat, (∀ u ∈ us, u ∈ vs) → ∀ τ : L2.St, wipe (wipe τ vs) us = wipe τ vs := by
    intro us
    induction us with
    | nil => intro _ τ; rfl
    | cons u us ih =>
      intro hu τ
      have hm := hu u List.mem_cons_self
      have e1 := ih (fun x hx => hu x (List.mem_cons_of_mem _ hx)) τ
      show (wipe (wipe τ vs) us).set u none = wipe τ vs
      rw [e1]
      have sn : ∀ (l : List Nat), u ∈ l → (wipe τ l).set u none = wipe τ l := by
        intro l
        induction l with
        | nil => intro h; cases h
        | cons y l ihl =>
          intro h
          show ((wipe τ l).set y none).set u none = (wipe τ l).set y none
          by_cases e : y = u
          · subst e; rw [List.set_set]
          · rw [List.set_comm _ _ e]
            rcases List.mem_cons.mp h with z | z
            · exact absurd z.symm e
            · rw [ihl z]
      exact sn vs hm
  exact ww vs (fun _ h => h) σ
section
variable {X : Cx} {w : WX}
theorem sim_dc {wi : TI} {it : PAx} {pg : PGx} {tt : PTx} {tk tv : PEx} {is vs : List Nat} (hv : ∀ i ∈ is, i ∈ vs) (si : Sim (repI X.K) X.K X.mg w wi it) :
    Sim (repW X.K) X.K X.mg w (tDc wi (canonG X.K pg is) (canon repB X.K X.mg wNone tt) (canon (repW X.K) X.K X.mg wNone tk) (canon (repW X.K) X.K X.mg wNone tv) vs) (pDc it pg tt tk tv vs) := by
  intro H0 Hb0 as Hb H M σ s r S Q g
  refine Good.bind si r S g fun J ws as1 Hb1 H1 M1 r1 f1 S1 io g1 => ?_
  intro D hD
  by_cases hz : ws.length ≤ 1000000
  · rw [if_pos hz] at g1
    have Sw := slots_wipe S1 vs
    refine ⟨fun i m H' => m = ws.length - i ∧ i ≤ ws.length ∧ ∃ as' Hb' M' acc av, Rel X.K (upd H0 D (.dK av)) Hb0 as' Hb' H' M' ∧ Fut as1 Hb1 as' Hb' ∧ PairK X.K as' Hb' av acc ∧ acc.length ≤ i ∧
        Good (repW X.K) X.K X.mg w H0 Hb0 as' Hb' σ Q ((dcL pg tt tk tv (wipeS s vs) (ws.drop i) acc M').bindN fun kvs M2 => .ok (.r M2.length) (M2 ++ [.dic false kvs])),
      ⟨ws.length, by simp, Nat.zero_le _, as1, Hb1, M1, [], [], ?_, Fut.refl, .nil, Nat.zero_le _, by simpa using g1⟩, ?_⟩
    · exact (r1.newAny hD).guard upd_same (r1.hbn hD) fun hm => r1.al D hm hD
    rintro i m H' ⟨rfl, hi, as', Hb', M', acc, av, r', f', wa, hal, g'⟩
    have h0D : H0 D = none := r1.h0n hD
    have hb0D : Hb0 D = none := r1.b0.free (r1.hbn hD)
    obtain ⟨ru, hHD, hbD, nD⟩ := r'.unguard h0D hb0D
    obtain ⟨io1, io2⟩ := io _ Hb0 as' Hb' H' M' r' f' i
    by_cases hlt : i < ws.length
    · have hx : ws[i]? = some ws[i] := List.getElem?_eq_getElem hlt
      obtain ⟨go, yl⟩ := io1 _ hx
      rw [List.drop_eq_getElem_cons hlt] at g'
      refine .inr ⟨go, fun H2 => ∃ as2 Hb2 M2 acc2 av2, Rel X.K (upd H0 D (.dK av2)) Hb0 as2 Hb2 H2 M2 ∧ Fut as1 Hb1 as2 Hb2 ∧ PairK X.K as2 Hb2 av2 acc2 ∧ acc2.length ≤ i + 1 ∧
        Good (repW X.K) X.K X.mg w H0 Hb0 as2 Hb2 σ Q ((dcL pg tt tk tv (wipeS s vs) (ws.drop (i + 1)) acc2 M2).bindN fun kvs M2 => .ok (.r M2.length) (M2 ++ [.dic false kvs])), fun H2 z => ⟨ws.length - (i + 1), by omega, rfl, hlt, z⟩, fun v H2 hy => ?_⟩
      obtain ⟨Hb2, r2, f2, w2⟩ := yl v H2 hy
      have S2 := Sw.mono (f'.trans f2)
      cases hg : pg ws[i] (wipeS s vs) M' with
      | none => rw [dcL, hg] at g'; exact g'.elim
      | some s1 =>
        rw [dcL, hg] at g'
        simp only at g'
        refine ⟨_, Hb0, as', Hb2, M', wipeS s vs, s1, ws[i], r2, S2, w2, hg, fun σ3 S3 hw3 => ?_⟩
        refine ⟨wipe_wipe hv hw3, ?_⟩
        refine ⟨_, Hb0, as', Hb2, M', s1, r2, S3, ?_⟩
        cases ht : tt s1 M' with
        | exc e m => rw [ht] at g'; exact g'.elim
        | stuck => rw [ht] at g'; exact g'.elim
        | ok b Mt =>
          rw [ht] at g'
          simp only [R.bindN] at g'
          intro b' as3 Hb3 H3 r3 f3 eb
          obtain rfl : b' = b := eb
          cases b' with
          | false =>
            simp only [Bool.false_eq_true, if_false] at g' ⊢
            refine ⟨as3, Hb3, Mt, acc, av, r3, (f'.trans f2).trans f3, Paired.imp (fun _ _ z => ⟨z.1, z.2.1, z.2.2.mono (f2.trans f3)⟩) wa, Nat.le_succ_of_le hal, ?_⟩
            exact Good.mono (f2.trans f3) g'
          | true =>
            simp only [if_true] at g' ⊢
            refine ⟨_, Hb0, as3, Hb3, Mt, s1, r3, S3.mono f3, ?_⟩
            cases hte : tk s1 Mt with
            | exc e m => rw [hte] at g'; exact g'.elim
            | stuck => rw [hte] at g'; exact g'.elim
            | ok y My =>
              rw [hte] at g'
              simp only at g'
              intro yv as4 Hb4 H4 r4 f4 wy
              refine ⟨_, Hb0, as4, Hb4, My, s1, r4, (S3.mono f3).mono f4, ?_⟩
              cases htv : tv s1 My with
              | exc e m => rw [htv] at g'; exact g'.elim
              | stuck => rw [htv] at g'; exact g'.elim
              | ok z Mz =>
                rw [htv] at g'
                simp only at g'
                intro zv as5 Hb5 H5 r5 f5 wz
                cases y with
                | r i => exact (show False from g').elim
                | k i => exact (show False from g').elim
                | d d =>
                  simp only at g'
                  by_cases hk : isKey d = true
                  · rw [if_pos hk] at g'
                    obtain ⟨k, rfl⟩ := isKey_ok hk
                    obtain ⟨rfl, hf⟩ := wr_key wy
                    obtain ⟨ru5, hHD5, hbD5, nD5⟩ := r5.unguard h0D hb0D
                    have ff := (((f2.trans f3).trans f4).trans f5)
                    have wa5 : PairK X.K as5 Hb5 av acc := Paired.imp (fun _ _ z => ⟨z.1, z.2.1, z.2.2.mono ff⟩) wa
                    have hl : av.length = acc.length := Paired.len wa
                    have e6 : (1000000 : Nat) < sizeLine := by decide
                    refine ⟨av, k, rfl, hHD5, by omega, as5, Hb5, Mz, putP acc (keyD k) z, putK av k zv, ?_, f'.trans ff, putP_ok hf wz wa5, Nat.le_trans (putP_len ..) (Nat.succ_le_succ hal), Good.mono ff g'⟩
                    exact (ru5.other (o := .dK (putK av k zv)) hbD5 h0D nD5).guard upd_same hbD5 nD5
                  · rw [if_neg hk] at g'
                    exact (show False from g').elim
    · have e : i = ws.length := by omega
      subst e
      have hn : ws[ws.length]? = none := List.getElem?_eq_none_iff.mpr (Nat.le_refl _)
      rw [List.drop_length, dcL] at g'
      simp only [R.bindN] at g'
      have e6 : (1000000 : Nat) ≤ sizeLine := by decide
      have r9 := ru.newMut (p := D) (m := .dic false acc) (by rw [hHD]; simp) hbD h0D nD ⟨by omega, _, hHD, av, rfl, Paired.imp (fun _ _ z => ⟨z.1, z.2.1, z.2.2.mono ⟨Same.refl _, [D], rfl⟩⟩) wa⟩
      exact .inl ⟨io2 hn, Good.ok (Good.mono ⟨Same.refl _, [D], rfl⟩ g') r9 ⟨D, by rw [← ru.len]; simp, rfl⟩⟩
  · rw [if_neg hz] at g1
    exact (show False from g1).elim
theorem je_dc {kx vx tg iter : Expr} {ifs : List Expr} {scope : Scope} {own : List (Str × Nat)} {pos : Pos} {it : PAx} {pg : PGx} {tt : PTx} {tk tv : PEx} {is : List Nat} (hc : X.calm = true) (hN : X.N.Nodup) (hi : JI X w tg iter it) (ok : BlkOk X.N X.env.scope scope own)
    (hg : ∀ (s : Shared) (H : Hp) (C : Addr) (cl : List (Str × Addr)) (fp : List Addr), JG (X.blk s H scope (compEnvC scope cl C X.env) fp) tg pg is) (ht : ∀ (s : Shared) (H : Hp) (C : Addr) (cl : List (Str × Addr)) (fp : List Addr), JTs (X.blk s H scope (compEnvC scope cl C X.env) fp) wNone ifs tt)
    (hk : ∀ (s : Shared) (H : Hp) (C : Addr) (cl : List (Str × Addr)) (fp : List Addr), JE (X.blk s H scope (compEnvC scope cl C X.env) fp) wNone kx tk)
    (he : ∀ (s : Shared) (H : Hp) (C : Addr) (cl : List (Str × Addr)) (fp : List Addr), JE (X.blk s H scope (compEnvC scope cl C X.env) fp) wNone vx tv) (hv : ∀ i ∈ is, i ∈ own.map (·.2) := by decide) (hs : ∀ x, foldedSetIterable iter X.env x = pure x := by intro _; rfl) :
    JE X w (.DictComp kx vx [⟨tg, iter, ifs, 0⟩] scope pos) (pDc it pg tt tk tv (own.map (·.2))) := by
  obtain ⟨wi, ei, si⟩ := hi
  exact ⟨_, pe_dc hc hN ei ok (fun s H C cl fp => (hg s H C cl fp).canon) (fun s H C cl fp => (ht s H C cl fp).canon) (fun s H C cl fp => (hk s H C cl fp).canon) (fun s H C cl fp => (he s H C cl fp).canon) hs, sim_dc hv si⟩
end
/-! ### list(range(a, b, c)) -/
def tRg3 (ta : TA) : TE := fun σ H Q => ta σ H fun vs H1 => ∃ (i j c : Int) (n : Nat), vs = [.int i, .int j, .int c] ∧ RgC i j c n ∧ n ≤ 2 ^ 24 ∧ ∀ q, H1 q = none → Q (.ref q) (upd H1 q (.lst ((List.range n).map fun k => V.int (i + (k : Nat) * c))))
section
variable {X : Cx} {w : WX}
theorem pe_listRg3 {a b c : Expr} {ta : TA} {p p2 pos pos2 : Pos} (hc : X.calm = true) (hg : Gl X "list") (hm : X.mg "list" = none) (hg2 : Gl X "range") (hm2 : X.mg "range" = none) (ha : PA X [a, b, c] ta)
    (na : starEach [.Call (.Name "range" p2) [a, b, c] [] pos2] X.env = (false, eval (.Call (.Name "range" p2) [a, b, c] [] pos2) X.env) :: starEach [] X.env := by rfl)
    (hs : starEach [a, b, c] X.env = (false, eval a X.env) :: starEach [b, c] X.env := by rfl) (hpl : (backTo pos2 (starEach [b, c] X.env)).any (·.1) = false := by rfl) :
    PE X (.Call (.Name "list" p) [.Call (.Name "range" p2) [a, b, c] [] pos2] [] pos) (tRg3 ta) := by
  refine ⟨fun pins s σ H Q I h => ?_⟩
  refine Call_ (ld_blt I hg hm boot_list (PyProof.Rows.callWith_type1 (args_cons ?_ na) na))
  refine Call_ (ld_blt I hg2 hm2 boot_range (PyProof.Rows.callWith_type1 (thn (ha.run pos2 pins s σ H _ I h) fun us s1 ⟨vs, H1, I1, r1, q1⟩ => ?_) hs hpl))
  obtain ⟨i, j, k, n, e, ⟨c0, c1, c2, c3⟩, hn, q⟩ := q1
  subst e
  cases r1 with
  | cons r rr =>
    cases rr with
    | cons r' rr =>
      cases rr with
      | cons r'' rr =>
        cases rr
        obtain ⟨t, rfl⟩ := r
        obtain ⟨t', rfl⟩ := r'
        obtain ⟨t'', rfl⟩ := r''
        refine call_range_3 c0 ?_ (.inl (PyProof.noPylong_small c1))
        refine args_nil ?_
        have I2 : Inv X pins σ H1 { s1 with heap := s1.heap.push { cls := .type "range", data := .fields #[.int i t, .int j t', .int k t''] } } := I1.kept (t' := s1.toks) fun b o e => Heap.get?_push_of_some _ e
        refine call_list_range (n := n) (I2.ok.hd hc) (IsRange.new ..) c2 c3 hn fun h' tk acc c' hk e' hi => ?_
        refine ⟨.ref _, _, I2.laid (o := .lst ((List.range n).map fun m => V.int (i + (m : Nat) * k))) hk (Nat.le_refl _) (show ObjOk X.prog X.w _ _ _ (.lst _) from ⟨?_, acc.toList, c', ?_, ?_⟩), rfl, q _ (I2.hok.fresh (Nat.le_refl _))⟩
        · rw [List.length_map, List.length_range, sizeLine_eq]; omega
        · have e : acc.toList.length = n := by rw [Array.length_toList]; exact hi.1
          rw [← e]
          refine vals_of_get acc.toList _ fun j u hj => ?_
          obtain ⟨t, rfl⟩ := hi.2 j u (by rw [← hj, Array.getElem?_toList])
          exact ⟨t, rfl⟩
        · rw [Array.toArray_toList]; exact e'
def pListRg3 (pa : PAx) : PAx := fun s M => (pa s M).bind fun ws M1 => match allD ws with
  | some [.int i, .int j, .int c] => if c ≠ 0 ∧ c.natAbs < 1073741824 ∧ Builtin.Range.small i j c = true ∧ 0 ≤ Builtin.Range.rangeSize i j c ∧ Builtin.Range.rangeSize i j c ≤ 1000000 then
      .ok ((List.range (Builtin.Range.rangeSize i j c).toNat).map fun k => .d (.int (i + (k : Nat) * c))) M1 else .stuck
  | _ => .stuck
theorem jl_listRg3 {a b c : Expr} {pa : PAx} {p p2 pos pos2 : Pos} (hc : X.calm = true) (hm : X.mg "list" = none) (hm2 : X.mg "range" = none) (ha : JA X w [a, b, c] pa) (hg : Gl X "list" := by rfl) (hg2 : Gl X "range" := by rfl)
    (na : starEach [.Call (.Name "range" p2) [a, b, c] [] pos2] X.env = (false, eval (.Call (.Name "range" p2) [a, b, c] [] pos2) X.env) :: starEach [] X.env := by rfl)
    (hs : starEach [a, b, c] X.env = (false, eval a X.env) :: starEach [b, c] X.env := by rfl) (hpl : (backTo pos2 (starEach [b, c] X.env)).any (·.1) = false := by rfl) :
    JL X w (.Call (.Name "list" p) [.Call (.Name "range" p2) [a, b, c] [] pos2] [] pos) (pListRg3 pa) := by
  obtain ⟨t, e1, s1⟩ := ha
  refine ⟨_, pe_listRg3 hc hg hm hg2 hm2 e1 na hs hpl, fun H0 Hb0 as Hb H M σ s r S Q g => ?_⟩
  refine Good.bind s1 r S g fun vs ws as1 Hb1 H1 M1 r1 f1 S1 w1 g1 => ?_
  cases hd : allD ws with
  | none => simp only [hd] at g1; exact (show False from g1).elim
  | some ds =>
    simp only [hd] at g1
    match ds, hd, g1 with
    | [.int i, .int j, .int c], hd, g1 =>
      simp only at g1
      by_cases hcond : c ≠ 0 ∧ c.natAbs < 1073741824 ∧ Builtin.Range.small i j c = true ∧ 0 ≤ Builtin.Range.rangeSize i j c ∧ Builtin.Range.rangeSize i j c ≤ 1000000
      · rw [if_pos hcond] at g1
        obtain ⟨c1, c2, c3, c4, c5⟩ := hcond
        have ev := ints_vs (ns := [i, j, c]) (of_dzAll (allD_ok w1 hd)).1 rfl
        subst ev
        have hn : (Builtin.Range.rangeSize i j c).toNat ≤ 1000000 := by omega
        refine ⟨i, j, c, (Builtin.Range.rangeSize i j c).toNat, rfl, ⟨c1, c2, c3, by omega⟩, by omega, fun q hq => ?_⟩
        have e6 : (1000000 : Nat) ≤ sizeLine := by decide
        refine Good.ok g1 (r1.newAny hq) ⟨q, _, rfl, upd_same, by rw [List.length_map, List.length_range]; omega, ?_, fun hm => r1.al q hm hq, r1.hbn hq, r1.h0n hq⟩
        generalize (Builtin.Range.rangeSize i j c).toNat = n
        have : ∀ l : List Nat, WRs X.K as1 Hb1 (l.map fun k => V.int (i + (k : Nat) * c)) (l.map fun k => W.d (.int (i + (k : Nat) * c))) := by
          intro l
          induction l with
          | nil => exact .nil
          | cons a l ih => exact .cons (wr_int _) ih
        exact this _
      · rw [if_neg hcond] at g1
        exact (show False from g1).elim
end
end Z

set_option linter.all false
set_option autoImplicit false
set_option maxRecDepth 100000
set_option maxHeartbeats 4000000
/-! Z23: sets of texts made by a comprehension: sorted({..}), len({..}). -/
namespace Z
open PySem PySem.Spec PyProof.Rows L2 L2H
def addU (l : List Str) (k : Str) : List Str := if k ∈ l then l else l ++ [k]
/-- the set of texts at a: its members as they were met, once each -/
def SetTx (P : Program) (w : World) (h : Heap) (a : Addr) (l : List Str) : Prop :=
  ∃ D : PySem.Froz.SD, h.get? a = some (PySem.Froz.sObj "set" D) ∧ PySem.Froz.TxOk P w D l ∧ l.Nodup ∧ l.length < 1000 ∧ Ris D.2.2.place.toList ∧ (w.params.followText "set-order" = true ∨ D.2.2.led = true)
theorem TxOk_perm {P : Program} {w : World} {D : PySem.Froz.SD} {l m : List Str} (p : l.Perm m) (F : PySem.Froz.TxOk P w D l) : PySem.Froz.TxOk P w D m :=
  ⟨F.el, fun k => p.mem_iff.symm.trans (F.mem k), F.sz.trans p.length_eq, F.fit⟩
theorem addTx_more (h : Int) (v : Value) (D : PySem.Froz.SD) (r : Ris D.2.2.place.toList) : Ris (PySem.Froz.addTx h v D).2.2.place.toList ∧ (PySem.Froz.addTx h v D).2.2.led = D.2.2.led := by
  have r1 := layNew_ris D.2.2 D.1 h v r
  have l1 := layNew_led D.2.2 D.1 h v
  unfold PySem.Froz.addTx
  generalize layNew D.2.2 D.1 h v = Zn at r1 l1 ⊢
  have r2 : Ris (if Zn.2.1.plain = true then { Zn.2.1 with plain := false } else Zn.2.1).place.toList := by split <;> exact r1
  have l2 : (if Zn.2.1.plain = true then { Zn.2.1 with plain := false } else Zn.2.1).led = D.2.2.led := by split <;> exact l1
  generalize (if Zn.2.1.plain = true then { Zn.2.1 with plain := false } else Zn.2.1) = t2 at r2 l2 ⊢
  unfold PySem.Froz.tailTx
  split
  · exact ⟨relayAll_ris _ _ _, (relayAll_led _ _ _).trans l2⟩
  · exact ⟨r2, l2⟩
section
variable {P : Program} {w : World} {A : Around} {E : Value → Shared → Prop} {s : Shared} {a : Addr} {l : List Str}
theorem SetTx.keep {h h' : Heap} (R : SetTx P w h a l) (k : ∀ o, h.get? a = some o → h'.get? a = some o) : SetTx P w h' a l := by
  obtain ⟨D, ho, r⟩ := R
  exact ⟨D, k _ ho, r⟩
theorem upd_but (h : Heap) (b : Addr) (f : Obj → Obj) : Heap.SameBut b h (h.update b f) := Heap.SameBut.update h b f
/-- it is there already -/
theorem add_there {D : PySem.Froz.SD} {k : Str} {tk : Tok} {Q : Bool → Shared → Prop} (ho : s.heap.get? a = some (PySem.Froz.sObj "set" D)) (F : PySem.Froz.TxOk P w D l) (hk : k ∈ l) (hb : l.length < scanBound) (h : Q false s) :
    wpAny (model P w) A (setAddHashed a (.str k tk) (hashStr w k)) Q E s := by
  obtain ⟨es, ep, t⟩ := D
  have hd : (PySem.Froz.sObj "set" (es, ep, t)).data = .set es ep t := rfl
  have hsz : es.size < scanBound := by
    have z : es.size = l.length := F.sz
    omega
  have key : (strKind P w).is k (.str k tk) = true := PySem.Froz.is_str k tk
  obtain ⟨e0, he0, hp0⟩ := (F.mem k).mp hk
  unfold setAddHashed setAddHashedIn
  refine wpAny_holding (wpAny_bind (wpAny_setState_of ho hd F.fit ?_))
  have hby : byScan (.str k tk) es = true := byScan_of rfl hsz F.el
  simp only [hby, if_true]
  unfold setAddByScan
  refine wpAny_bind (wpAny_bind (wpAny_rule (wpAny_bind (wpAny_setScan_of key ho hd F.fit F.el ?_))))
  cases hf : List.findIdx? (fun e => (strKind P w).is k e.2) es.toList with
  | none =>
    have z := List.findIdx?_eq_none_iff.mp hf e0 he0
    rw [hp0] at z
    cases z
  | some j => exact wpAny_pure (wpAny_pure h)
theorem setTx_add_hashed {k : Str} {tk : Tok} {Q : Bool → Shared → Prop} (R : SetTx P w s.heap a l) (room : l.length + 1 < 1000)
    (hQ : ∀ b h', Heap.SameBut a s.heap h' → SetTx P w h' a (addU l k) → Q b { s with heap := h' }) : wpAny (model P w) A (setAddHashed a (.str k tk) (hashStr w k)) Q E s := by
  obtain ⟨D, ho, F, nd, hl, hr, hled⟩ := R
  have e4 : scanBound = 4096 := rfl
  by_cases hk : k ∈ l
  · refine add_there ho F hk (by omega) ?_
    have q := hQ false s.heap (Heap.SameBut.refl a s.heap) (by unfold addU; rw [if_pos hk]; exact ⟨D, ho, F, nd, hl, hr, hled⟩)
    exact q
  · refine PySem.Froz.add_x ho F hk (by omega) (hQ true _ (upd_but _ _ _) ?_)
    obtain ⟨m1, m2⟩ := addTx_more (hashStr w k) (.str k tk) D hr
    unfold addU
    rw [if_neg hk]
    refine ⟨_, PySem.Froz.get_upd _ ho rfl, TxOk_perm (List.perm_append_singleton _ _).symm (PySem.Froz.add_ok tk F), ?_, by simpa using room, m1, hled.imp id fun z => by rw [m2]; exact z⟩
    rw [List.nodup_append]
    exact ⟨nd, by simp, fun x hx y hy => by
      have e : y = k := by simpa using hy
      subst e
      exact fun z => hk (z ▸ hx)⟩
theorem SetTx.isSet (R : SetTx P w s.heap a l) : s.TypeIs (.ref a) "set" := by
  obtain ⟨D, ho, _⟩ := R
  exact ⟨_, ho, rfl⟩
theorem setTx_add {k : Str} {tk : Tok} {Q : Value → Shared → Prop} (R : SetTx P w s.heap a l) (room : l.length + 1 < 1000)
    (hQ : ∀ h' m, Heap.SameBut a s.heap h' → SetTx P w h' a (addU l k) → Q .none { s with heap := h', toks := m }) : wpAny (model P w) A (call (.builtin "set.add") [.ref a, .str k tk]) Q E s := by
  refine wpAny_call_entry F.slot_set_add R.isSet F.entry_set_add ?_ (F.args_set_add_2 _ _)
  unfold Builtin.«set.add» Builtin.Frozenset.oneOther Builtin.Frozenset.addrOf setAdd
  simp only [List.isEmpty_nil, bind_assoc]
  iterate 2 (refine wpAny_bind (wpAny_pure ?_); try dsimp only)
  refine wpAny_bind (wpAny_holding (wpAny_bind ((strKind P w).pyHash (PySem.Froz.is_str k tk) ?_)))
  refine setTx_add_hashed (s := { s with toks := s.toks + 1 }) R room fun b h' sb r => ?_
  show wpAny _ _ (ret Value.none) _ _ _
  exact wpAny_pure ⟨_, rfl, hQ h' _ sb r⟩
theorem setTx_fresh {h : Heap} : SetTx P w (h.push { cls := .type "set", dict := none, data := .set #[] 0 (.fresh 0 0 (!w.params.followText "set-order")) }) h.objs.size [] :=
  ⟨(#[], 0, .fresh 0 0 (!w.params.followText "set-order")), Heap.get?_push_size _ rfl, PySem.Froz.TxOk.nil (by rfl), List.nodup_nil, by decide, List.Pairwise.nil, by
    show _ ∨ (!w.params.followText "set-order") = true
    cases w.params.followText "set-order"
    · exact .inr rfl
    · exact .inl rfl⟩
end
/-- .. as a tracked thing -/
def SetXO (P : Program) (w : World) (a : Addr) (l : List Str) : HO := .ext fun h => SetTx P w h a l
theorem setXO_new {w : World} {P : Program} {H : Hp} {h : Heap} {a : Addr} {l : List Str} (R : SetTx P w h a l) : ObjOk P w H h a (SetXO P w a l) := by
  have R' := R
  obtain ⟨D, ho, _⟩ := R'
  exact ⟨R, ⟨_, ho⟩, fun h1 h2 p k => p.keep k⟩
section
variable {X : Cx}
theorem setXO_get {pins : List (Addr × Obj)} {σ : L2.St} {H : Hp} {s : Shared} {a : Addr} {l : List Str} (I : Inv X pins σ H s) (ha : H a = some (SetXO X.prog X.w a l)) : SetTx X.prog X.w s.heap a l := (I.hok a _ ha).1
theorem addX_ok {pins : List (Addr × Obj)} {σ : L2.St} {H : Hp} {s : Shared} {E : Value → Shared → Prop} {D : Addr} {l : List Str} {y : Str} {tk : Tok} {Q : Value → Shared → Prop} (I : Inv X pins σ H s) (hD : H D = some (SetXO X.prog X.w D l)) (room : l.length + 1 < 1000)
    (h : ∀ s', Inv X pins σ (upd H D (SetXO X.prog X.w D (addU l y))) s' → Q .none s') : wpAny (model X.prog X.w) X.A (call (.builtin "set.add") [.ref D, .str y tk]) Q E s := by
  refine setTx_add (setXO_get I hD) room fun h' m sb new => ?_
  have he : ∃ u, h'.get? D = some u := by
    obtain ⟨D', ho, _⟩ := new
    exact ⟨_, ho⟩
  exact h _ (I.write (e := D) (t' := m) (by rw [hD]; trivial) (.inl rfl) (fun b u hb hu => (sb.2 b hb).trans hu) he (setXO_new new))
/-! ### the comprehension -/
def tScX (P : Program) (w : World) (wi : TI) (g : TG) (tt : TT) (te : TE) (vs : List Nat) : TE := fun σ H Q => wi σ H fun J H1 => ∀ D, H1 D = none → ∃ W : Nat → Nat → Hp → Prop, (∃ m, W 0 m (upd H1 D (SetXO P w D []))) ∧ ∀ i m H, W i m H →
  (J.stop i H ∧ Q (.ref D) H) ∨ (J.go i H ∧ ∃ Nx : Hp → Prop, (∀ H', Nx H' → ∃ m', m' < m ∧ W (i + 1) m' H') ∧ ∀ x H', J.yld i H x H' → g x (wipe σ vs) H' fun σ2 H2 => wipe σ2 vs = wipe σ vs ∧ tt σ2 H2 fun b H3 =>
    if b = true then te σ2 H3 fun y H4 => ∃ (c : Str) (l : List Str), y = .str c ∧ H4 D = some (SetXO P w D l) ∧ l.length + 1 < 1000 ∧ Nx (upd H4 D (SetXO P w D (addU l c))) else Nx H3)
theorem pe_scX {elt tg iter : Expr} {ifs : List Expr} {scope : Scope} {own : List (Str × Nat)} {pos : Pos} {wi : TI} {g : TG} {tt : TT} {te : TE} (hc : X.calm = true) (hN : X.N.Nodup) (hi : PI X tg iter wi) (ok : BlkOk X.N X.env.scope scope own)
    (hg : ∀ (s : Shared) (H : Hp) (C : Addr) (cl : List (Str × Addr)) (fp : List Addr), PG (X.blk s H scope (compEnvC scope cl C X.env) fp) tg g) (ht : ∀ (s : Shared) (H : Hp) (C : Addr) (cl : List (Str × Addr)) (fp : List Addr), PTs (X.blk s H scope (compEnvC scope cl C X.env) fp) ifs tt)
    (he : ∀ (s : Shared) (H : Hp) (C : Addr) (cl : List (Str × Addr)) (fp : List Addr), PE (X.blk s H scope (compEnvC scope cl C X.env) fp) elt te) (hs : ∀ x, foldedSetIterable iter X.env x = pure x := by intro _; rfl) :
    PE X (.SetComp elt [⟨tg, iter, ifs, 0⟩] scope pos) (tScX X.prog X.w wi g tt te (own.map (·.2))) := by
  refine ⟨fun pins s σ H Q I h => ?_⟩
  have hRR : ∀ D C s' m H', Inv X pins σ H' s' → Q (.ref D) H' → s'.heap.Ns C m → FpOk X pins H' C → compPost (model X.prog X.w) X.A X.xe none (EP X pins σ Q) (.ref D) C (.ok .next) s' := fun D C s' m H' I' q hn f => ⟨m, hn, fun h'' sb => by
    obtain ⟨f0, f1, f2, f3, f4, f5⟩ := f
    exact ⟨.ref D, H', I'.turned (t' := s'.toks) (fun b o hb e => (sb.2 b hb).trans e) f0 f1 f3 f4 f5, rfl, q⟩⟩
  rw [PpSet.eval_SetComp]
  have hfree : ∀ y ∈ scope.names, y.2 = .free → ∃ c, X.env.cells.lookup y.1 = some c := fun y hy e => (ok.free y hy e).elim (fun z => I.ok.has _ (.inl z)) fun z => I.ok.has _ (.inr z)
  refine wpAny_comprehension_free (use := none) rfl hs (closure_ok hfree) ok.kind (fun y hy e => by rw [ok.uniq y hy, e]) (thn (hi.run pins s σ H _ I h) fun xv s1 hx => thn hx fun itv s2 h2 => ?_)
  obtain ⟨it, fp, tn, J, H2, e, I2, T, st2, f2, q⟩ := h2
  subst e
  refine PpSet.newSet_ok (newEnv_comp ?_)
  obtain ⟨D, hD⟩ : ∃ D, D = s2.heap.objs.size := ⟨_, rfl⟩
  rw [← hD]
  have hDn : H2 D = none := I2.hok.fresh (Nat.le_of_eq hD.symm)
  obtain ⟨W, ⟨m0, w0⟩, turn⟩ := q D hDn
  obtain ⟨ob, hob⟩ : ∃ ob : Obj, ob = { cls := .type "set", dict := none, data := .set #[] 0 (.fresh 0 0 (!X.w.params.followText "set-order")) } := ⟨_, rfl⟩
  rw [← hob]
  obtain ⟨s3, hs3⟩ : ∃ s3 : Shared, s3 = { s2 with heap := s2.heap.push ob } := ⟨_, rfl⟩
  have new : SetTx X.prog X.w (s2.heap.push ob) D [] := by rw [hob, hD]; exact setTx_fresh
  have I3 : Inv X pins σ (upd H2 D (SetXO X.prog X.w D [])) s3 := by
    rw [hs3]
    exact I2.laid (t' := s2.toks) (fun b o e => Heap.get?_push_of_some _ e) (Nat.le_of_eq hD.symm) (setXO_new new)
  have h3 : s3.heap = s2.heap.push ob := by rw [hs3]
  have f3 : ∀ b ∈ fp, FpOk X pins (upd H2 D (SetXO X.prog X.w D [])) b ∧ b < s3.heap.objs.size := fun b hb => by
    obtain ⟨o, e, _⟩ := T.obj _ _ st2 b hb
    have hlt : b < s2.heap.objs.size := Heap.lt_size e
    exact ⟨⟨by rw [upd_ne (by rw [hD]; exact Nat.ne_of_lt hlt)]; exact (f2 b hb).1, (f2 b hb).2⟩, by rw [h3, Heap.size_push]; exact Nat.lt_succ_of_lt hlt⟩
  have st3 : tn 0 s3.heap := T.keep _ _ _ st2 fun b _ o e => by rw [h3]; exact Heap.get?_push_of_some _ e
  have I4 := block_start I3 ok hN f3
  obtain ⟨C, hC⟩ : ∃ C, C = s3.heap.objs.size := ⟨_, rfl⟩
  obtain ⟨cl, hcl⟩ : ∃ cl, cl = cellsFrom (C + 1) scope.names (cloFrom X.env.cells scope.names []) := ⟨_, rfl⟩
  obtain ⟨H3, hH3⟩ : ∃ H3, H3 = upd H2 D (SetXO X.prog X.w D []) := ⟨_, rfl⟩
  have pg := hg s3 H3 C cl fp
  have pt := ht s3 H3 C cl fp
  have pe := he s3 H3 C cl fp
  have I4' : Inv (X.blk s3 H3 scope (compEnvC scope cl C X.env) fp) [] (wipe σ (own.map (·.2))) H3 { s3 with heap := pushCells (s3.heap.push { cls := .type "dict", data := .dict #[] }) scope.names } := by
    rw [hcl, hC, hH3]; exact I4
  have goal : codeAny (model X.prog X.w) X.A (.compStart (.SetComp elt [⟨tg, iter, ifs, 0⟩] scope pos) 0 (.ref it) (.ref D) (compEnvC scope cl C X.env)) (compPost (model X.prog X.w) X.A X.xe none (EP X pins σ Q) (.ref D) C)
      { s3 with heap := pushCells (s3.heap.push { cls := .type "dict", data := .dict #[] }) scope.names } := by
    rw [← hH3] at I3 f3 w0
    have nfp : ∀ b ∈ fp, H3 b = none := fun b hb => (f3 b hb).1.1
    obtain ⟨ce, hce⟩ : ∃ ce, ce = compEnvC scope cl C X.env := ⟨_, rfl⟩
    rw [← hce] at pg pt pe I4' ⊢
    have cL : ce.locals = C := by rw [hce]; rfl
    obtain ⟨s4, hs4⟩ : ∃ s4 : Shared, s4 = { s3 with heap := pushCells (s3.heap.push { cls := .type "dict", data := .dict #[] }) scope.names } := ⟨_, rfl⟩
    rw [← hs4] at I4' ⊢
    have st4 : tn 0 s4.heap := T.keep _ _ _ st3 fun b _ o e => by rw [hs4]; exact pushCells_keeps _ _ _ _ (Heap.get?_push_of_some _ e)
    have stat : ∀ {σ' : L2.St} {H' : Hp} {s' : Shared}, Inv (X.blk s3 H3 scope ce fp) [] σ' H' s' → (∀ b ∈ fp, H' b = none) → ∀ b ∈ fp, FpOk (X.blk s3 H3 scope ce fp) [] H' b := fun {σ' H' s'} I' hn b hb =>
      ⟨hn b hb, (I'.ok.exf b hb).1, I'.ok.exfs b hb, .inl hb, fun x c e => (I'.ok.exf b hb).2 x c e, fun p hp => absurd (show p ∈ ([] : List (Addr × Obj)) ++ [] from hp) (by simp)⟩
    refine PpSet.codeAny_compStart_set ?_ (T.self X.A 0 _ _ _ st4 ?_)
    all_goals
      refine PpSet.compLoopS_any (fun n s' => ∃ i H', Inv (X.blk s3 H3 scope ce fp) [] (wipe σ (own.map (·.2))) H' s' ∧ tn i s'.heap ∧ (∀ b ∈ fp, H' b = none) ∧ W i n H') ?_ m0 ⟨0, H3, I4', st4, nfp, w0⟩
      rintro n s5 ⟨i, H5, I5, st5, n5, w5⟩
      rcases turn i n H5 w5 with ⟨stop, qq⟩ | ⟨go, Nx, hNx, step⟩
      · refine thnF (T.done (X.blk s3 H3 scope ce fp) rfl rfl rfl hc i [] s5 _ H5 (fun _ _ => False) I5 (stat I5 n5) st5 stop) fun r s6 ⟨hr, I6⟩ => ?_
        subst hr
        have I7 : Inv X pins σ H5 s6 := I3.call' (ch := fp) I6.os I6.base I6.hok I6.bare fun b hb => ⟨(f3 b hb).1.2.2.2.1, (f3 b hb).1.2.1, (f3 b hb).1.2.2.2.2.1, (f3 b hb).1.2.2.2.2.2⟩
        have nC : H5 C = none := by rw [← cL]; exact I6.free
        obtain ⟨m, hn, _⟩ := I6.loc
        exact hRR D C s6 m H5 I7 qq (cL ▸ (show s6.heap.Ns ce.locals m from hn)) (I3.fpOk (Nat.le_of_eq hC.symm) nC)
      · refine thnF (T.item (X.blk s3 H3 scope ce fp) rfl rfl rfl hc i [] s5 _ H5 (fun _ _ => False) I5 (stat I5 n5) st5 go) fun r s6 ⟨u, hr, h6⟩ => ?_
        subst hr
        refine thnF h6 fun _ s7 ⟨x, H7, I7, r7, y7, st7, n7⟩ => ?_
        refine thnF (pg.run _ s7 _ H7 x u _ (I7.pinned (stat I7 n7) (T.obj _ _ st7)) r7 (step x H7 y7)) fun _ s8 ⟨σ8, H8, I8, hw8, q8⟩ => ?_
        refine thnF (pt.run _ s8 σ8 H8 _ I8 q8) fun b s9 ⟨H9, I9, q9⟩ => ?_
        have fin : ∀ {s' : Shared} {H' : Hp}, Inv (X.blk s3 H3 scope ce fp) ([] ++ pinsAt fp s7.heap) σ8 H' s' → Nx H' → ∃ m, m < n ∧ ∃ i H', Inv (X.blk s3 H3 scope ce fp) [] (wipe σ (own.map (·.2))) H' s' ∧ tn i s'.heap ∧ (∀ b ∈ fp, H' b = none) ∧ W i m H' := fun {s' H'} I' nx => by
          obtain ⟨m', hm, w'⟩ := hNx H' nx
          have pin' : ∀ b ∈ fp, ∀ o, s7.heap.get? b = some o → s'.heap.get? b = some o ∧ H' b = none := fun b hb o e =>
            let z := I'.pin (b, o) (List.mem_append_right _ (List.mem_append_right _ (mem_pinsAt hb e)))
            ⟨z.1, z.2.1⟩
          refine ⟨m', hm, i + 1, H', (I'.unpinned (pins := [])).weak (by rw [← hw8, wipe_length]) (fun j v e => ?_), T.keep _ _ _ st7 fun b hb o e => (pin' b hb o e).1, fun b hb => ?_, w'⟩
          · rw [← hw8] at e
            exact (wipe_some e).1
          · obtain ⟨o, e, _⟩ := T.obj _ _ st7 b hb
            exact (pin' b hb o e).2
        cases b with
        | false =>
          simp only [Bool.false_eq_true, if_false] at q9 ⊢
          exact fin I9 q9
        | true =>
          simp only [if_true] at q9 ⊢
          refine thnF (pe.run _ s9 σ8 H9 _ I9 q9) fun z s10 ⟨yv, H10, I10, r10, cb, l0, ey, hD10, hz10, nx⟩ => ?_
          subst ey
          obtain ⟨tk, rfl⟩ := (show ∃ t, z = Value.str cb t from r10)
          exact addX_ok (X := X.blk s3 H3 scope ce fp) I10 hD10 hz10 fun s11 I11 => fin I11 nx
  rw [hcl, hC] at goal
  rw [hs3] at goal
  exact goal
/-! ### sorted, len of it -/
theorem perm_of_sub {α : Type} [DecidableEq α] : ∀ {l m : List α}, l.Nodup → (∀ x ∈ l, x ∈ m) → m.length = l.length → m.Perm l
  | [], m, _, _, h => by
    have : m = [] := List.length_eq_zero_iff.mp h
    rw [this]
  | x :: l, m, nd, h, hl => by
    have hx : x ∈ m := h x List.mem_cons_self
    obtain ⟨nx, nd'⟩ := List.nodup_cons.mp nd
    have p : m.Perm (x :: m.erase x) := List.perm_cons_erase hx
    have hlen := p.length_eq
    have ih := perm_of_sub (m := m.erase x) nd' (fun y hy => by
      have ne : y ≠ x := fun z => nx (z ▸ hy)
      exact (List.mem_erase_of_ne ne).mpr (h y (List.mem_cons_of_mem _ hy))) (by simp only [List.length_cons] at hlen hl ⊢; omega)
    exact p.trans (ih.cons x)
def keyT : Value → Str
  | .str k _ => k
  | _ => Str.empty
theorem each_strs : ∀ {vs : List Value}, (∀ v ∈ vs, ∃ k t, v = Value.str k t) → PySem.W.EachIs (fun (v : Value) (k : Str) => ∃ t, v = .str k t) vs (vs.map keyT)
  | [], _ => .nil
  | v :: vs, h => by
    obtain ⟨k, t, e⟩ := h v List.mem_cons_self
    subst e
    exact .cons ⟨t, rfl⟩ (each_strs fun u hu => h u (List.mem_cons_of_mem _ hu))
theorem each_vals_str : ∀ {out : List Value} {bs : List Str}, PySem.W.EachIs (fun (v : Value) (k : Str) => ∃ t, v = .str k t) out bs → Vals (bs.map V.str) out
  | _, _, .nil => .nil
  | _, _, .cons h t => .cons h (each_vals_str t)
def rSortedX (P : Program) (w : World) : List V → Hp → VK → Prop := fun vs H Q => ∃ (a : Addr) (l : List Str), vs = [.ref a] ∧ H a = some (SetXO P w a l) ∧ l.length < 1000 ∧ ∀ p, H p = none → Q (.ref p) (upd H p (.lst ((sortS l).map V.str)))
theorem cr_sortedX (hc : X.calm = true) (hu : X.A.units + 64 < cLine) : CallR X (.builtin "sorted") (rSortedX X.prog X.w) := by
  intro pins s σ H vs us Q I r h
  obtain ⟨a, l, rfl, ha, _, q⟩ := h
  obtain ⟨⟨es, ep, t⟩, ho, F, nd, hl, hr, hled⟩ := setXO_get I ha
  rw [Vals.ref1 r]
  have hsz : es.size = l.length := F.sz
  have hb : es.size < scanBound := by
    have e4 : scanBound = 4096 := rfl
    omega
  refine Calls.call_function_entry kind_sorted plain_sorted entry_sorted (args_sorted1 _) ?_
  unfold Builtin.«sorted»
  refine wpAny_bind (m := checkCount "sorted" 1 1 _) (wpAny_pure (wpAny_bind ?_))
  refine collect_set (A := X.A.in1) (I.ok.hd hc) ⟨_, ho, rfl, rfl⟩ F.fit hb hr hled fun s1 its k1 hz g1 o1 pm => ?_
  have allS : ∀ v ∈ its, ∃ k t, v = Value.str k t := fun v hv => by
    obtain ⟨e, he, rfl⟩ := List.mem_map.mp (pm.mem_iff.mp hv)
    obtain ⟨⟨k, hk, _⟩, _⟩ := F.el e he
    obtain ⟨t, e2⟩ := Value.isStrOf_shape (show Value.isStrOf k e.2 = true from hk)
    exact ⟨k, t, e2⟩
  have pl : (its.map keyT).Perm l := by
    refine perm_of_sub nd (fun k hk => ?_) ?_
    · obtain ⟨e, he, hke⟩ := (F.mem k).mp hk
      obtain ⟨t, e2⟩ := Value.isStrOf_shape (show Value.isStrOf k e.2 = true from hke)
      exact List.mem_map.mpr ⟨e.2, pm.mem_iff.mpr (List.mem_map.mpr ⟨e, he, rfl⟩), by rw [e2]; rfl⟩
    · rw [List.length_map, pm.length_eq, List.length_map, Array.length_toList]
      exact hsz
  have hlen : its.length = l.length := by rw [← pl.length_eq, List.length_map]
  have e6 : (1000 : Nat) ≤ sizeLine := by decide
  refine wpAny_bind (wpAny_newList ?_ (by rw [hlen]; omega))
  have hoL : (s1.heap.push (seqObj "list" its.toArray 0)).get? s1.heap.objs.size = some (seqObj "list" its.toArray 0) := Heap.get?_push_size _ rfl
  have each := each_strs allS
  have er : ∀ (h : Heap), PySem.W.EachIs (fun (v : Value) (k : Str) => ∃ as, PySem.Reads h v (PyData.str k) as ∧ s1.heap.objs.size ∉ as) its (its.map keyT) := fun h => each.mono fun v k ⟨t, e⟩ => ⟨[], by rw [e]; exact .str _ _, by simp⟩
  refine wpAny_bind (wpAny_holding (PySem.W.list_sort_data (enc := PyData.str) hoL each (er _) (fun d hd d' hd' => ?_) (.inr fun d hd => ?_) (by rw [List.length_map, hlen]; omega) (fun k _ => ?_) fun out hol he => ?_))
  · obtain ⟨k, _, rfl⟩ := List.mem_map.mp hd
    obtain ⟨k', _, rfl⟩ := List.mem_map.mp hd'
    simp [PySem.W.alike]
  · obtain ⟨k, _, rfl⟩ := List.mem_map.mp hd
    exact ⟨fun z => (by cases z), fun xs z => (by cases z)⟩
  · have e1 : X.A.in1.units ≤ X.A.units + 1 := by first | exact Nat.le_refl _ | simp [Around.in1]
    simp only [PyData.depth]
    omega
  · obtain ⟨c, hcc⟩ := sortedHeap_at (vs := its) (out := out.toArray) hoL
    have hv := each_vals_str he
    have hs : (its.map keyT).mergeSort (PySem.W.dataLe false PyData.str) = sortS l := sortS_uniq ((List.mergeSort_perm _ _).trans pl) (sortS_pw _)
    rw [hs] at hv
    refine wpAny_pure ⟨_, rfl, ?_⟩
    have keepAll : ∀ b o, s.heap.get? b = some o → (sortedHeap (s1.heap.push (seqObj "list" its.toArray 0)) s1.heap.objs.size its out.toArray).get? b = some o := fun b o e => by
      have q1 := k1 b o e
      have hlt := Heap.lt_size q1
      rw [sortedHeap_old (Nat.ne_of_lt hlt) (by rw [size_push']; exact Nat.lt_succ_of_lt hlt)]
      exact Heap.get?_push_of_some _ q1
    have hn : H s1.heap.objs.size = none := I.hok.fresh hz
    have hsl : ((sortS l).map V.str).length ≤ sizeLine := by rw [List.length_map, (sortS_perm l).length_eq]; omega
    have hcc' : (sortedHeap (s1.heap.push (seqObj "list" its.toArray 0)) s1.heap.objs.size its out.toArray).get? s1.heap.objs.size = some (seqObj "list" out.toArray c) := hcc
    obtain ⟨h2, eh2⟩ : ∃ h2, h2 = sortedHeap (s1.heap.push (seqObj "list" its.toArray 0)) s1.heap.objs.size its out.toArray := ⟨_, rfl⟩
    rw [← eh2] at keepAll hcc'
    show EP X pins σ Q (.ref s1.heap.objs.size) { s1 with heap := sortedHeap (s1.heap.push (seqObj "list" its.toArray 0)) s1.heap.objs.size its out.toArray }
    rw [← eh2]
    have J : Inv X pins σ (upd H s1.heap.objs.size (.lst ((sortS l).map V.str))) { s with heap := h2, gens := s1.gens, drawn := s1.drawn, toks := s1.toks } :=
      I.call (ch := []) (Un.laid keepAll hz hn) (I.hok.laid keepAll hz ⟨hsl, out, c, hv, hcc'⟩) (by rw [g1]; exact I.bare) (fun _ z => nomatch z)
    have e : ({ s1 with heap := h2 } : Shared) = { s with heap := h2, gens := s1.gens, drawn := s1.drawn, toks := s1.toks } := by
      cases s1
      cases s
      cases o1
      rfl
    rw [e]
    exact ⟨.ref _, _, J, rfl, q _ hn⟩
def rLenX (P : Program) (w : World) : List V → Hp → VK → Prop := fun vs H Q => ∃ (a : Addr) (l : List Str), vs = [.ref a] ∧ H a = some (SetXO P w a l) ∧ Q (.int l.length) H
theorem cr_lenX : CallR X (.builtin "len") (rLenX X.prog X.w) := by
  intro pins s σ H vs us Q I r h
  obtain ⟨a, l, rfl, ha, q⟩ := h
  obtain ⟨⟨es, ep, t⟩, ho, F, nd, hl, hr, hled⟩ := setXO_get I ha
  rw [Vals.ref1 r]
  have hsz : es.size = l.length := F.sz
  exact call_len_set ho ⟨rfl, rfl, rfl⟩ rfl F.fit (by rw [hsz]; omega) ⟨.int l.length, H, (I.tok _), ⟨_, by rw [hsz]⟩, q⟩
end
end Z

set_option linter.all false
set_option autoImplicit false
set_option maxRecDepth 100000
set_option maxHeartbeats 4000000
/-! Z24: plain readings of sorted({..}), len({..}); a comprehension over what changes not meanwhile; never reached. -/
namespace Z
open PySem PySem.Spec PyProof.Rows L2 L2H
def scL (g : PGx) (tt : PTx) (te : PEx) (s : Sl) : List W → List Str → Ms → R (List Str)
  | [], acc, M => .ok acc M
  | x :: ws, acc, M => match g x s M with
    | none => .stuck
    | some s1 => (tt s1 M).bindN fun b M1 => if b = true then (te s1 M1).bindN fun y M2 => match y with
      | .d (.str c) => scL g tt te s ws (addU acc c) M2
      | _ => .stuck
      else scL g tt te s ws acc M1
def pScX {α : Type} (f : List Str → Ms → R α) (it : PAx) (g : PGx) (tt : PTx) (te : PEx) (vs : List Nat) : Sl → Ms → R α := fun s M => (it s M).bind fun ws M1 => if ws.length < 999 then (scL g tt te (wipeS s vs) ws [] M1).bindN f else .stuck
def pSortSc := pScX (α := List W) fun l M => .ok (strsW (sortS l)) M
def pLenSc := pScX (α := W) fun l M => .ok (.d (.int l.length)) M
theorem addU_len (l : List Str) (k : Str) : (addU l k).length ≤ l.length + 1 := by
  unfold addU
  split
  · omega
  · simp
section
variable {X : Cx} {w : WX}
theorem sim_scX {β α : Type} {rep : Rep β α} {f : List Str → Ms → R α} {wi : TI} {it : PAx} {pg : PGx} {tt : PTx} {te : PEx} {is vs : List Nat} {r : List V → Hp → (β → Hp → Prop) → Prop} (hv : ∀ i ∈ is, i ∈ vs) (si : Sim (repI X.K) X.K X.mg w wi it)
    (hf : ∀ (H0 Hb0 : Hp) (as : List Addr) (Hb H : Hp) (M : Ms) (σ : L2.St) (l : List Str) (D : Addr) (Q : β → Hp → Prop), Rel X.K H0 Hb0 as Hb H M → H D = some (SetXO X.prog X.w D l) → l.length < 1000 → (∀ k ∈ l, k.length ≤ sizeLine) → Good rep X.K X.mg w H0 Hb0 as Hb σ Q (f l M) → r [.ref D] H Q) :
    Sim rep X.K X.mg w (fun σ H Q => tScX X.prog X.w wi (canonG X.K pg is) (canon repB X.K X.mg wNone tt) (canon (repW X.K) X.K X.mg wNone te) vs σ H fun v H1 => r [v] H1 Q) (pScX f it pg tt te vs) := by
  intro H0 Hb0 as Hb H M σ s r0 S Q g
  refine Good.bind si r0 S g fun J ws as1 Hb1 H1 M1 r1 f1 S1 io g1 => ?_
  intro D hD
  by_cases hz : ws.length < 999
  · rw [if_pos hz] at g1
    have Sw := slots_wipe S1 vs
    refine ⟨fun i m H' => m = ws.length - i ∧ i ≤ ws.length ∧ ∃ as' Hb' M' acc, Rel X.K (upd H0 D (SetXO X.prog X.w D acc)) Hb0 as' Hb' H' M' ∧ Fut as1 Hb1 as' Hb' ∧ acc.length ≤ i ∧ (∀ k ∈ acc, k.length ≤ sizeLine) ∧
        Good rep X.K X.mg w H0 Hb0 as' Hb' σ Q ((scL pg tt te (wipeS s vs) (ws.drop i) acc M').bindN f),
      ⟨ws.length, by simp, Nat.zero_le _, as1, Hb1, M1, [], ?_, Fut.refl, Nat.zero_le _, fun _ h => (by cases h), by simpa using g1⟩, ?_⟩
    · exact (r1.newAny hD).guard upd_same (r1.hbn hD) fun hm => r1.al D hm hD
    rintro i m H' ⟨rfl, hi, as', Hb', M', acc, r', f', hal, hsh, g'⟩
    have h0D : H0 D = none := r1.h0n hD
    have hb0D : Hb0 D = none := r1.b0.free (r1.hbn hD)
    obtain ⟨ru, hHD, hbD, nD⟩ := r'.unguard h0D hb0D
    obtain ⟨io1, io2⟩ := io _ Hb0 as' Hb' H' M' r' f' i
    by_cases hlt : i < ws.length
    · have hx : ws[i]? = some ws[i] := List.getElem?_eq_getElem hlt
      obtain ⟨go, yl⟩ := io1 _ hx
      rw [List.drop_eq_getElem_cons hlt] at g'
      refine .inr ⟨go, fun H2 => ∃ as2 Hb2 M2 acc2, Rel X.K (upd H0 D (SetXO X.prog X.w D acc2)) Hb0 as2 Hb2 H2 M2 ∧ Fut as1 Hb1 as2 Hb2 ∧ acc2.length ≤ i + 1 ∧ (∀ k ∈ acc2, k.length ≤ sizeLine) ∧
        Good rep X.K X.mg w H0 Hb0 as2 Hb2 σ Q ((scL pg tt te (wipeS s vs) (ws.drop (i + 1)) acc2 M2).bindN f), fun H2 z => ⟨ws.length - (i + 1), by omega, rfl, hlt, z⟩, fun v H2 hy => ?_⟩
      obtain ⟨Hb2, r2, f2, w2⟩ := yl v H2 hy
      have S2 := Sw.mono (f'.trans f2)
      cases hg : pg ws[i] (wipeS s vs) M' with
      | none => rw [scL, hg] at g'; exact g'.elim
      | some s1 =>
        rw [scL, hg] at g'
        simp only at g'
        refine ⟨_, Hb0, as', Hb2, M', wipeS s vs, s1, ws[i], r2, S2, w2, hg, fun σ3 S3 hw3 => ⟨wipe_wipe hv hw3, ?_⟩⟩
        refine ⟨_, Hb0, as', Hb2, M', s1, r2, S3, ?_⟩
        cases ht : tt s1 M' with
        | exc e m => rw [ht] at g'; exact g'.elim
        | stuck => rw [ht] at g'; exact g'.elim
        | ok b Mt =>
          rw [ht] at g'
          simp only [R.bindN] at g'
          intro b' as3 Hb3 H3 r3 f3 eb
          obtain rfl : b' = b := eb
          cases b' with
          | false =>
            simp only [Bool.false_eq_true, if_false] at g' ⊢
            exact ⟨as3, Hb3, Mt, acc, r3, (f'.trans f2).trans f3, Nat.le_succ_of_le hal, hsh, Good.mono (f2.trans f3) g'⟩
          | true =>
            simp only [if_true] at g' ⊢
            refine ⟨_, Hb0, as3, Hb3, Mt, s1, r3, S3.mono f3, ?_⟩
            cases hte : te s1 Mt with
            | exc e m => rw [hte] at g'; exact g'.elim
            | stuck => rw [hte] at g'; exact g'.elim
            | ok y My =>
              rw [hte] at g'
              simp only at g'
              intro yv as4 Hb4 H4 r4 f4 wy
              cases y with
              | r i => exact (show False from g').elim
              | k i => exact (show False from g').elim
              | d d =>
                cases d with
                | str c =>
                  simp only at g'
                  obtain ⟨rfl, lc⟩ := wr_str_of wy
                  obtain ⟨ru4, hHD4, hbD4, nD4⟩ := r4.unguard h0D hb0D
                  have ff := ((f2.trans f3).trans f4)
                  refine ⟨c, acc, rfl, hHD4, by omega, as4, Hb4, My, addU acc c, ?_, f'.trans ff, Nat.le_trans (addU_len _ _) (Nat.succ_le_succ hal), fun k hk => ?_, Good.mono ff g'⟩
                  · exact (ru4.other (o := SetXO X.prog X.w D (addU acc c)) hbD4 h0D nD4).guard upd_same hbD4 nD4
                  · unfold addU at hk
                    split at hk
                    · exact hsh k hk
                    · rcases List.mem_append.mp hk with hk | hk
                      · exact hsh k hk
                      · have e : k = c := by simpa using hk
                        rw [e]; exact lc
                | _ => exact (show False from g').elim
    · have e : i = ws.length := by omega
      subst e
      have hn : ws[ws.length]? = none := List.getElem?_eq_none_iff.mpr (Nat.le_refl _)
      rw [List.drop_length, scL] at g'
      simp only [R.bindN] at g'
      exact .inl ⟨io2 hn, hf H0 Hb0 as' Hb' H' M' σ acc D Q ru hHD (by omega) hsh g'⟩
  · rw [if_neg hz] at g1
    exact (show False from g1).elim
variable {elt tg iter : Expr} {ifs : List Expr} {scope : Scope} {own : List (Str × Nat)} {x : Str} {pos spos p : Pos} {it : PAx} {pg : PGx} {tt : PTx} {te : PEx} {is : List Nat}
theorem jl_sortSc (hc : X.calm = true) (hN : X.N.Nodup) (hu : X.A.units + 64 < cLine) (hm : X.mg "sorted" = none) (hi : JI X w tg iter it) (ok : BlkOk X.N X.env.scope scope own)
    (hg : ∀ (s : Shared) (H : Hp) (C : Addr) (cl : List (Str × Addr)) (fp : List Addr), JG (X.blk s H scope (compEnvC scope cl C X.env) fp) tg pg is) (ht : ∀ (s : Shared) (H : Hp) (C : Addr) (cl : List (Str × Addr)) (fp : List Addr), JTs (X.blk s H scope (compEnvC scope cl C X.env) fp) wNone ifs tt)
    (he : ∀ (s : Shared) (H : Hp) (C : Addr) (cl : List (Str × Addr)) (fp : List Addr), JE (X.blk s H scope (compEnvC scope cl C X.env) fp) wNone elt te) (hv : ∀ i ∈ is, i ∈ own.map (·.2) := by decide) (hgl : Gl X "sorted" := by rfl) (hs : ∀ x, foldedSetIterable iter X.env x = pure x := by intro _; rfl)
    (hst : starEach [.SetComp elt [⟨tg, iter, ifs, 0⟩] scope spos] X.env = (false, eval (.SetComp elt [⟨tg, iter, ifs, 0⟩] scope spos) X.env) :: starEach [] X.env := by rfl) :
    JL X w (.Call (.Name "sorted" p) [.SetComp elt [⟨tg, iter, ifs, 0⟩] scope spos] [] pos) (pSortSc it pg tt te (own.map (·.2))) := by
  obtain ⟨wi, ei, si⟩ := hi
  refine ⟨_, pe_callB (cr_sortedX hc hu) hgl hm (by decide +kernel) (pa_cons (pe_scX (g := canonG X.K pg is) (tt := canon repB X.K X.mg wNone tt) (te := canon (repW X.K) X.K X.mg wNone te) hc hN ei ok (fun s H C cl fp => (hg s H C cl fp).canon) (fun s H C cl fp => (ht s H C cl fp).canon) (fun s H C cl fp => (he s H C cl fp).canon) hs) pa_nil hst), ?_⟩
  refine sim_scX (r := rSortedX X.prog X.w) hv si fun H0 Hb0 as Hb H M σ l D Q r hD hl hsh g => ?_
  refine ⟨D, l, rfl, hD, hl, fun p hp => ?_⟩
  have e6 : (1000 : Nat) ≤ sizeLine := by decide
  exact Good.ok g (r.newAny hp) ⟨p, _, rfl, upd_same, by unfold strsW; rw [List.length_map, (sortS_perm l).length_eq]; omega, wrs_strs fun z hz => hsh z ((sortS_perm l).mem_iff.mp hz), fun hm => r.al p hm hp, r.hbn hp, r.h0n hp⟩
theorem je_lenSc (hc : X.calm = true) (hN : X.N.Nodup) (hm : X.mg "len" = none) (hi : JI X w tg iter it) (ok : BlkOk X.N X.env.scope scope own)
    (hg : ∀ (s : Shared) (H : Hp) (C : Addr) (cl : List (Str × Addr)) (fp : List Addr), JG (X.blk s H scope (compEnvC scope cl C X.env) fp) tg pg is) (ht : ∀ (s : Shared) (H : Hp) (C : Addr) (cl : List (Str × Addr)) (fp : List Addr), JTs (X.blk s H scope (compEnvC scope cl C X.env) fp) wNone ifs tt)
    (he : ∀ (s : Shared) (H : Hp) (C : Addr) (cl : List (Str × Addr)) (fp : List Addr), JE (X.blk s H scope (compEnvC scope cl C X.env) fp) wNone elt te) (hv : ∀ i ∈ is, i ∈ own.map (·.2) := by decide) (hgl : Gl X "len" := by rfl) (hs : ∀ x, foldedSetIterable iter X.env x = pure x := by intro _; rfl)
    (hst : starEach [.SetComp elt [⟨tg, iter, ifs, 0⟩] scope spos] X.env = (false, eval (.SetComp elt [⟨tg, iter, ifs, 0⟩] scope spos) X.env) :: starEach [] X.env := by rfl) :
    JE X w (.Call (.Name "len" p) [.SetComp elt [⟨tg, iter, ifs, 0⟩] scope spos] [] pos) (pLenSc it pg tt te (own.map (·.2))) := by
  obtain ⟨wi, ei, si⟩ := hi
  refine ⟨_, pe_callB cr_lenX hgl hm (by decide +kernel) (pa_cons (pe_scX (g := canonG X.K pg is) (tt := canon repB X.K X.mg wNone tt) (te := canon (repW X.K) X.K X.mg wNone te) hc hN ei ok (fun s H C cl fp => (hg s H C cl fp).canon) (fun s H C cl fp => (ht s H C cl fp).canon) (fun s H C cl fp => (he s H C cl fp).canon) hs) pa_nil hst), ?_⟩
  refine sim_scX (r := rLenX X.prog X.w) hv si fun H0 Hb0 as Hb H M σ l D Q r hD hl hsh g => ?_
  exact ⟨D, l, rfl, hD, Good.ok g r (wr_int _)⟩
/-- a statement that is never reached -/
def pNever : PSx := fun _ _ => .stuck
theorem js_never (st : Stmt) : JS X w st pNever := ⟨fun _ _ _ => False, ⟨fun _ _ _ _ _ _ h => h.elim⟩, fun _ _ _ _ _ _ _ _ _ _ _ g => g⟩
end
end Z

set_option linter.all false
set_option autoImplicit false
set_option maxRecDepth 100000
set_option maxHeartbeats 4000000
/-! Z25: small helps. -/
namespace Z
open PySem PySem.Spec PyProof.Rows L2 L2H
theorem hu1 {k : Nat} {A : Around} (hr : Room k A) : A.units + 1 < cLine := by have := hr.un; omega
theorem pB_ok {p : PEx} {s : Sl} {M M' : Ms} {b : Bool} (h : p s M = .ok (.d (.bool b)) M') : pB p s M = .ok b M' := by
  unfold pB
  rw [h]
  rfl
theorem pDat_eq {p : PAx} {s : Sl} {M M' : Ms} {ws : List W} {ds : List PyData} (h : p s M = .ok ws M') (h2 : ws = ds.map W.d) : pDat p s M = .ok (.d (.list ds)) M' := dat_ok h (by rw [h2]; exact allD_map _)
section
variable {s : Sl} {M M' M1 : Ms} {c a b : PTx} {p q : PEx} {k : Bool} {x : W}
theorem ife_tt (h : c s M = .ok true M') : pIfE c p q s M = p s M' := by unfold pIfE; rw [h]; rfl
theorem ife_ff (h : c s M = .ok false M') : pIfE c p q s M = q s M' := by unfold pIfE; rw [h]; rfl
theorem or_tt (h : a s M = .ok true M') : pOrT a b s M = .ok true M' := by unfold pOrT; rw [h]; rfl
theorem or_ff (h : a s M = .ok false M') : pOrT a b s M = b s M' := by unfold pOrT; rw [h]; rfl
theorem and_tt (h : a s M = .ok true M') : pAndT a b s M = b s M' := by unfold pAndT; rw [h]; rfl
theorem and_ff (h : a s M = .ok false M') : pAndT a b s M = .ok false M' := by unfold pAndT; rw [h]; rfl
theorem not_ok (h : a s M = .ok k M') : pNotT a s M = .ok (!k) M' := by unfold pNotT; rw [h]; rfl
theorem tru_ok (h : p s M = .ok x M') (h2 : truth M' x = some k) : pTru p s M = .ok k M' := by unfold pTru; rw [h]; simp only [R.bind, h2]
theorem andV_tt (h : p s M = .ok x M') (h2 : truth M' x = some true) : pAndV p q s M = q s M' := by unfold pAndV; rw [h]; simp only [R.bind, h2]
theorem andV_ff (h : p s M = .ok x M') (h2 : truth M' x = some false) : pAndV p q s M = .ok x M' := by unfold pAndV; rw [h]; simp only [R.bind, h2]
theorem notV_ok (h : p s M = .ok x M') (h2 : truth M' x = some k) : pNotV p s M = .ok (.d (.bool (!k))) M' := by unfold pNotV; rw [h]; simp only [R.bind, h2]
end
theorem call_data {q : List PyData → PR} {pa : PAx} {s : Sl} {M M' : Ms} {ds : List PyData} (h : pa s M = .ok (ds.map W.d) M') : pCallQ q [] pa s M = (q ds).to M' := by
  unfold pCallQ
  rw [h]
  simp only [R.bind, allD_map, List.append_nil]
theorem callG_ok {F : PF} {pa : PAx} {s : Sl} {M M' : Ms} {ws : List W} (h : pa s M = .ok ws M') : pCallG F [] pa s M = F ws M' := by
  unfold pCallG
  rw [h]
  simp only [R.bind, List.map_nil, List.append_nil]
theorem perm_of_sub_len {α : Type} [DecidableEq α] : ∀ {l m : List α}, l.Nodup → (∀ x ∈ l, x ∈ m) → l.length ≤ m.length
  | [], _, _, _ => Nat.zero_le _
  | x :: l, m, nd, h => by
    have hx : x ∈ m := h x List.mem_cons_self
    obtain ⟨nx, nd'⟩ := List.nodup_cons.mp nd
    have hlen := (List.perm_cons_erase hx).length_eq
    have ih := perm_of_sub_len (m := m.erase x) nd' fun y hy => by
      have ne : y ≠ x := fun z => nx (z ▸ hy)
      exact (List.mem_erase_of_ne ne).mpr (h y (List.mem_cons_of_mem _ hy))
    simp only [List.length_cons] at hlen ⊢
    omega
theorem allD_strs (ys : List Str) : allD (strsW ys) = some (ys.map .str) := by
  induction ys with
  | nil => rfl
  | cons y ys ih =>
    show (allD (strsW ys)).map (PyData.str y :: ·) = _
    rw [ih]
    rfl
end Z

set_option linter.all false
set_option autoImplicit false
set_option maxRecDepth 100000
set_option maxHeartbeats 4000000
/-! Z26: steps: loops that keep what is known, methods, fields, slots. -/
namespace Z
open PySem PySem.Spec PyProof.Rows L2 L2H
theorem forL_keep {g : PGx} {b : PSx} {I : Nat → Sl → Ms → Prop} : ∀ (ws : List W) (k : Nat) (s : Sl) (M : Ms), I k s M → (∀ x ∈ ws, ∀ k s M, I k s M → ∃ s1 s2 M2, g x s M = some s1 ∧ b s1 M = .nx s2 M2 ∧ I (k + 1) s2 M2) → ∃ s' M', forL g b ws s M = .nx s' M' ∧ I (k + ws.length) s' M'
  | [], k, s, M, h, _ => ⟨s, M, rfl, h⟩
  | x :: ws, k, s, M, h, st => by
    obtain ⟨s1, s2, M2, h1, h2, h3⟩ := st x List.mem_cons_self k s M h
    obtain ⟨s', M', q1, q2⟩ := forL_keep ws (k + 1) s2 M2 h3 fun y hy => st y (List.mem_cons_of_mem _ hy)
    refine ⟨s', M', ?_, by rw [List.length_cons]; rwa [Nat.add_assoc, Nat.add_comm 1] at q2⟩
    rw [forL, h1]
    simp only [h2]
    exact q1
/-- .. with the item's place -/
theorem forL_at {g : PGx} {b : PSx} {I : Nat → Sl → Ms → Prop} (all : List W) : ∀ (ws : List W) (k : Nat) (s : Sl) (M : Ms), all.drop k = ws → I k s M → (∀ (x : W) (k : Nat) (s : Sl) (M : Ms), all[k]? = some x → I k s M → ∃ s1 s2 M2, g x s M = some s1 ∧ b s1 M = .nx s2 M2 ∧ I (k + 1) s2 M2) → ∃ s' M', forL g b ws s M = .nx s' M' ∧ I (k + ws.length) s' M'
  | [], k, s, M, _, h, _ => ⟨s, M, rfl, h⟩
  | x :: ws, k, s, M, e, h, st => by
    have hx : all[k]? = some x := by
      have z : (all.drop k)[0]? = some x := by rw [e]; rfl
      rw [List.getElem?_drop] at z
      exact z
    have e' : all.drop (k + 1) = ws := by
      have z : (all.drop k).drop 1 = ws := by rw [e]; rfl
      rw [List.drop_drop] at z
      exact z
    obtain ⟨s1, s2, M2, h1, h2, h3⟩ := st x k s M hx h
    obtain ⟨s', M', q1, q2⟩ := forL_at all ws (k + 1) s2 M2 e' h3 st
    refine ⟨s', M', ?_, by rw [List.length_cons]; rwa [Nat.add_assoc, Nat.add_comm 1] at q2⟩
    rw [forL, h1]
    simp only [h2]
    exact q1
theorem forL_all {g : PGx} {b : PSx} {I : Nat → Sl → Ms → Prop} {ws : List W} {s : Sl} {M : Ms} (h : I 0 s M) (st : ∀ (x : W) (k : Nat) (s : Sl) (M : Ms), ws[k]? = some x → I k s M → ∃ s1 s2 M2, g x s M = some s1 ∧ b s1 M = .nx s2 M2 ∧ I (k + 1) s2 M2) : ∃ s' M', forL g b ws s M = .nx s' M' ∧ I ws.length s' M' := by
  obtain ⟨s', M', e, i⟩ := forL_at (g := g) (b := b) (I := I) ws ws 0 s M rfl h st
  exact ⟨s', M', e, by rwa [Nat.zero_add] at i⟩
theorem has_set {s : Sl} {i k : Nat} {x : Option (Option W)} {y : Option W} (h : s[i]? = x) (ne : k ≠ i) : (s.set k y)[i]? = x := by rw [List.getElem?_set_ne ne]; exact h
theorem set_at {s : Sl} {k n : Nat} {x : W} (hl : s.length = n) (hk : k < n) : (s.set k (some x))[k]? = some (some x) := List.getElem?_set_self (by omega)
theorem meth_ok {C : Addr} {m : Str} {F : PF} {o : PEx} {pa : PAx} {s : Sl} {M M1 M2 M3 : Ms} {x y : W} {ws : List W} (ho : o s M = .ok x M1) (hn : noAtt C m M1 x = true) (ha : pa s M1 = .ok ws M2) (hF : F (x :: ws) M2 = .ok y M3) : pMeth C m F [] o pa s M = .ok y M3 := by
  unfold pMeth
  rw [ho]
  simp only [R.bind, hn, if_true]
  rw [ha]
  simp only [List.map_nil, List.append_nil, hF]
theorem noAtt_of {C : Addr} {M : Ms} {i : Nat} {fs : List (Str × W)} {m : Str} (h : M[i]? = some (.ins C fs)) (hm : fs.lookup m = none) : noAtt C m M (.r i) = true := by
  unfold noAtt insOf
  simp [h, hm]
theorem fld_of {C : Addr} {M : Ms} {i j : Nat} {s : Sl} {f : Str} {fs : List (Str × W)} {x : W} (hs : s[j]? = some (some (.r i))) (h : M[i]? = some (.ins C fs)) (hf : fs.lookup f = some x) : pFld C f (pVar j) s M = .ok x M := by
  unfold pFld
  rw [var_ok hs]
  simp [R.bind, insOf, h, hf]
theorem rng1_okM {p : PEx} {s : Sl} {M M' : Ms} {j : Int} (h : p s M = .ok (.d (.int j)) M') (hc : -(2 ^ 62) ≤ j ∧ j < 2 ^ 62) : pRng1 p s M = .ok (rngW 0 j.toNat) M' := by
  show (p s M).bind _ = _
  rw [h]
  exact if_pos hc
theorem small62' {j : Int} (h1 : -1000000 ≤ j) (h2 : j ≤ 1000000) : -(2 ^ 62) ≤ j ∧ j < 2 ^ 62 := by
  have e : (2 : Int) ^ 62 = 4611686018427387904 := by simp
  rw [e]
  omega
theorem rng2_okM {p q : PEx} {s : Sl} {M M' M'' : Ms} {i j : Int} (h : p s M = .ok (.d (.int i)) M') (h' : q s M' = .ok (.d (.int j)) M'') (hi : -(2 ^ 62) ≤ i ∧ i < 2 ^ 62) (hj : -(2 ^ 62) ≤ j ∧ j < 2 ^ 62) : pRng2 p q s M = .ok (rngW i (j - i).toNat) M'' := by
  show (p s M).bind _ = _
  rw [h]
  show (q s M').bind _ = _
  rw [h']
  exact if_pos ⟨hi.1, hi.2, hj.1, hj.2⟩
theorem tup_ok {pa : PAx} {s : Sl} {M M' : Ms} {ds : List PyData} (h : pa s M = .ok (ds.map W.d) M') (hl : ds.length ≤ 1000) : pTup pa s M = .ok (.d (.tuple ds)) M' := by
  unfold pTup
  rw [h]
  simp only [R.bind, allD_map]
  rw [if_pos (Nat.le_trans hl (by decide))]
theorem lst_ok {pa : PAx} {s : Sl} {M M' : Ms} {ws : List W} (h : pa s M = .ok ws M') (hz : ws.length ≤ 1000) : pLst pa s M = .ok ws M' := by
  unfold pLst
  rw [h]
  simp only [R.bind]
  rw [if_pos (Nat.le_trans hz (by decide))]
theorem add_ok {a b : PEx} {s : Sl} {M M' M'' : Ms} {i j : Int} (ha : a s M = .ok (.d (.int i)) M') (hb : b s M' = .ok (.d (.int j)) M'') : pOp gAddI a b s M = .ok (.d (.int (i + j))) M'' := by
  rw [op_ok ha hb]
  rfl
theorem sub_ok {a b : PEx} {s : Sl} {M M' M'' : Ms} {i j : Int} (ha : a s M = .ok (.d (.int i)) M') (hb : b s M' = .ok (.d (.int j)) M'') : pOp gSubI a b s M = .ok (.d (.int (i - j))) M'' := by
  rw [op_ok ha hb]
  rfl
theorem ixT_ok {a : PEx} {s : Sl} {M M' : Ms} {ds : List PyData} {z : Int} {i : Nat} {d : PyData} (ha : a s M = .ok (.d (.tuple ds)) M') (hi : ds[i]? = some d) (hz : z = (i : Int) := by rfl) : pOp gIx a (pC (.int z)) s M = .ok (.d d) M' := by
  subst hz
  rw [op_ok (y := .d (.int i)) (M'' := M') ha rfl]
  unfold gIx itemsL itemsT
  simp only
  rw [atI_nat, List.getElem?_map, hi]
  rfl
/-! ### locks, cuts -/
theorem lock_ok {α : Type} {pick : Sl → Ms → Option Nat} {q : Sl → Ms → R α} {s : Sl} {M : Ms} {i : Nat} {t : Bool} {kvs : List (PyData × W)} {a : α} (hp : pick s M = some i) (hm : M[i]? = some (.dic t kvs)) (hq : q s (M.set i (.dlk t kvs)) = .ok a (M.set i (.dlk t kvs))) : pLock pick q s M = .ok a M := by
  have hi : i < M.length := (List.getElem?_eq_some_iff.mp hm).1
  unfold pLock lockM
  simp only [hp, hm, hq]
  have e : unlM i (M.set i (.dlk t kvs)) = some M := by
    unfold unlM
    rw [List.getElem?_set_self hi]
    simp only [List.set_set]
    rw [set_same hm]
  rw [e]
theorem lock_new {α : Type} {pick : Sl → Ms → Option Nat} {q : Sl → Ms → R α} {s : Sl} {M : Ms} {i : Nat} {t : Bool} {kvs : List (PyData × W)} {a : α} {x : MO} (hp : pick s M = some i) (hm : M[i]? = some (.dic t kvs)) (hq : q s (M.set i (.dlk t kvs)) = .ok a (M.set i (.dlk t kvs) ++ [x])) : pLock pick q s M = .ok a (M ++ [x]) := by
  have hi : i < M.length := (List.getElem?_eq_some_iff.mp hm).1
  unfold pLock lockM
  simp only [hp, hm, hq]
  have e : unlM i (M.set i (.dlk t kvs) ++ [x]) = some (M ++ [x]) := by
    unfold unlM
    rw [List.getElem?_append_left (by rw [List.length_set]; exact hi), List.getElem?_set_self hi]
    simp only
    rw [List.set_append_left _ _ (by rw [List.length_set]; exact hi), List.set_set, set_same hm]
  rw [e]
theorem cutW_take {α : Type} (xs : List α) (k : Nat) : cutW xs none (some (k : Int)) = xs.take k := by
  unfold cutW
  show (xs.drop 0).take ((if (k : Int) < 0 then ((k : Int) + (xs.length : Int)).toNat else min (k : Int).toNat xs.length) - 0) = _
  rw [if_neg (by omega), List.drop_zero, Nat.sub_zero, Int.toNat_natCast]
  by_cases h : k ≤ xs.length
  · rw [Nat.min_eq_left h]
  · rw [Nat.min_eq_right (by omega), List.take_of_length_le (Nat.le_refl _), List.take_of_length_le (by omega)]
theorem getD_ok {pd pk : PEx} {s : Sl} {M M1 M2 : Ms} {x : W} {d : PyData} {i : Nat} {kvs : List (PyData × W)} {z : W} (h1 : pd s M = .ok x M1) (h2 : pk s M1 = .ok (.d d) M2) (h3 : dicOf M2 x = some (i, kvs)) (h4 : isKey d = true) (h5 : valP kvs d = some z) : pGetD pd pk s M = .ok z M2 := by
  unfold pGetD
  rw [h1]
  simp only [R.bind]
  rw [h2]
  simp only [h3, h4, if_true, h5]
theorem din_ok {neg : Bool} {pd pk : PEx} {s : Sl} {M M1 M2 : Ms} {x : W} {d : PyData} {i : Nat} {kvs : List (PyData × W)} (h1 : pk s M = .ok (.d d) M1) (h2 : pd s M1 = .ok x M2) (h3 : dicOf M2 x = some (i, kvs)) (h4 : isKey d = true) : pDin neg pk pd s M = .ok (.d (.bool (xor neg (valP kvs d).isSome))) M2 := by
  unfold pDin
  rw [h1]
  simp only [R.bind]
  rw [h2]
  simp only [h3, h4, if_true]
theorem putD_ok {pv pd pk : PEx} {s : Sl} {M M1 M2 M3 : Ms} {x z : W} {d : PyData} {i : Nat} {kvs : List (PyData × W)} (h0 : pv s M = .ok z M1) (h1 : pd s M1 = .ok x M2) (h2 : pk s M2 = .ok (.d d) M3) (h3 : dicM M3 x = some (i, kvs)) (h4 : isKey d = true) (h5 : kvs.length ≤ 1000000) : pPutD pv pd pk s M = .nx s (M3.set i (.dic false (putP kvs d z))) := by
  unfold pPutD
  rw [h0]
  simp only [R.to]
  rw [h1]
  simp only
  rw [h2]
  have e6 : kvs.length < sizeLine := Nat.lt_of_le_of_lt h5 (by decide)
  simp only [h3]
  rw [if_pos ⟨h4, e6⟩]
theorem dicOf_dic {M : Ms} {i : Nat} {kvs : List (PyData × W)} (h : M[i]? = some (.dic false kvs)) : dicOf M (.r i) = some (i, kvs) := by unfold dicOf; simp only [h]
theorem dicOf_dlk {M : Ms} {i : Nat} {kvs : List (PyData × W)} (h : M[i]? = some (.dlk false kvs)) : dicOf M (.r i) = some (i, kvs) := by unfold dicOf; simp only [h]
theorem dicM_dic {M : Ms} {i : Nat} {kvs : List (PyData × W)} (h : M[i]? = some (.dic false kvs)) : dicM M (.r i) = some (i, kvs) := by unfold dicM; simp only [h]
theorem app_ok {o e : PEx} {s : Sl} {M M1 M2 : Ms} {i : Nat} {ws0 ws : List W} {y : W} (h1 : o s M = .ok (.r i) M1) (h2 : M1[i]? = some (.lst ws0)) (h3 : e s M1 = .ok y M2) (h4 : M2[i]? = some (.lst ws)) (h5 : ws.length ≤ 1000000) : pApp o e s M = .nx s (M2.set i (.lst (ws ++ [y]))) := by
  unfold pApp
  rw [h1]
  simp only [R.to, h2]
  rw [h3]
  simp only [h4]
  rw [if_pos (Nat.lt_of_le_of_lt h5 (by decide))]
end Z

set_option linter.all false
set_option autoImplicit false
set_option maxRecDepth 100000
set_option maxHeartbeats 4000000
/-! Z27: an own exception whose __init__ says super().__init__(x); self.f = y. -/
namespace Z
open PySem PySem.Spec PyProof.Rows L2 L2H
open PySem.W (kxs_mw)
/-- what the written part says of such a class and its __init__ -/
structure SupC (K : PySem.W.Frag) (P : Program) (C f cc cda : Addr) : Prop where
  oex : OexC K C
  lk : ∃ oc od fd osl ar, K.lookup f = some ⟨oc, od, .func fd, osl⟩ ∧ (fd.params.posonlyargs ++ fd.params.args).head? = some ar ∧ ar.arg = "self"
  code : ∃ ccl cdd vs ccs file tf, K.lookup cda = some ⟨ccl, cdd, .fields vs, ccs⟩ ∧ vs[2]? = some (.str file tf) ∧ ((P.main.file : Str) == file) = true
  top : (P.main.scope.names.lookup ("super" : Str)).isSome = false
  cell : ∃ cl cld csl, K.lookup cc = some ⟨cl, cld, .cell (some (.ref C)), csl⟩
  cls : ∃ cd, PySem.W.clsIn K C = some cd ∧ PySem.W.alongIn K "__init__" ((cd.mro.dropWhile (· != .ref C)).drop 1) = some (some (.builtin "ValueError.__init__"))
  self : PySem.W.mroIn K C (.ref C) = some true
  opq : PySem.W.nsIn K PySem.cStatics "thirdparty.any" = some none
  sub : PySem.W.subIn K (.ref C) (.type "ValueError") = some true
theorem clsIn_obj {K : PySem.W.Frag} {C : Addr} {cd : ClassData} {h : Heap} (X : K.In h) (hD : PySem.W.clsIn K C = some cd) : ∃ oD, h.get? C = some oD ∧ oD.data = .cls cd := by
  unfold PySem.W.clsIn at hD
  split at hD
  · rename_i c d cd' sl ho
    cases hD
    exact ⟨_, X _ _ ho, rfl⟩
  · cases hD
section
variable {X : Cx} {pins : List (Addr × Obj)} {σ : L2.St} {H : Hp} {s : Shared} {E : Value → Shared → Prop} {a u C : Addr}
theorem mw_call {us : List Value} {Q : Value → Shared → Prop} (T : OexC X.K C) (I : Inv X pins σ H s) (e : H a = some (exo a C none)) (hu : s.heap.get? u = some (kxs_mw "ValueError.__init__" a)) (hl : us.length ≤ sizeLine) (h : ∀ s', Inv X pins σ H s' → Q .none s') :
    wpAny (model X.prog X.w) X.A (call (.ref u) us) Q E s := by
  obtain ⟨nm, q, N, bs, bm, sn, sub, ab, col, dd, k0, k1, k2, k3, k5, hC0, hbm⟩ := T.cls
  have hC := I.kIn _ _ hC0
  obtain ⟨t1, ho⟩ := exo_at I.hok e
  obtain ⟨hp, g, d, t, os⟩ := s
  refine wpAny_call (codeAny_of_tree ?_)
  show wpAny _ X.A.in1 (callAny (.ref u) ⟨us, []⟩) _ _ _
  simp only [callAny]
  refine wpAny_bind (wpAny_load hu ?_)
  simp only [kxs_mw, show (Value.type "method-wrapper" == Value.type "method" || Value.type "method-wrapper" == Value.type "builtin_function_or_method" || Value.type "method-wrapper" == Value.type "method-wrapper") = true by decide, if_true]
  refine PySem.W.KFB.if_so (by decide) ?_
  refine wpAny_bind (PySem.W.check_bound_init F.excBase_ValueError.toExcCallFacts hC ho rfl ?_)
  refine wpAny_bind (wpAny_pure (wpAny_pure ?_))
  refine ⟨PySem.plainId_quiet F.excBase_ValueError.init.plain _, codeAny_builtin F.excBase_ValueError.initEntry ?_⟩
  refine PySem.W.exc_init_tree (cls := .ref C) (t0 := t1) (dv := none) (c2 := .none) (c3 := .none) (b4 := .bool false) ho hl fun h' k hx _ => ?_
  have J := I.write (t' := t) (x := a) (e := a) (o := exo a C none) (by rw [e]; exact True.intro) (.inl rfl) k ⟨_, hx⟩ (exo_ok hx)
  have eu : upd H a (exo a C none) = H := by
    funext b
    by_cases hb : b = a
    · rw [hb, upd_same, e]
    · rw [upd_ne hb]
  rw [eu] at J
  exact h _ J

theorem sup_stmt {pl : Sem Bool} {scope : Scope} {qual : Str} {L f cc cda : Addr} {body : List Stmt} {e : Expr} {es : List Expr} {p0 p1 p2 pos pos' : Pos} {ta : TA} {Q : Hp → Prop} (T : SupC X.K X.prog C f cc cda) (I : Inv X pins σ H s)
    (hev : X.env = PySem.W.envX qual scope L f (.ref cda) [("__class__", cc)]) (hks : scope.names.lookup ("super" : Str) = some .globalImplicit) (hkc : scope.names.lookup ("__class__" : Str) = some .free) (hka : scope.names.lookup ("self" : Str) = some .local)
    (hm : X.mg "super" = none) (h0 : X.N[0]? = some ("self" : Str)) (hs : σ[0]? = some (some (.ref a))) (hea : H a = some (exo a C none)) (hta : PA X (e :: es) ta) (ht : ta σ H fun vs H1 => vs.length ≤ 1000 ∧ H1 a = some (exo a C none) ∧ Q H1)
    (hc : eval (.Call (.Attribute (.Call (.Name "super" p0) [] [] p1) "__init__" p2) (e :: es) [] pos) X.env = (do
      let ov ← attributeBase (.Call (.Name "super" p0) [] [] p1) "__init__" X.env (eval (.Call (.Name "super" p0) [] [] p1) X.env)
      standAt p2.atName
      let (f, first) ← holding [ov] (getMethod ov "__init__" pl)
      callWith pos f first (backTo pos (starEach (e :: es) X.env)) []))
    (hint : interactive X.env = false) (hsw : swapsWith (.Call (.Attribute (.Call (.Name "super" p0) [] [] p1) "__init__" p2) (e :: es) [] pos) none pos'.line X.env = pure false := by rfl)
    (he : starEach (e :: es) X.env = (false, eval e X.env) :: starEach es X.env := by rfl) (hpl : (backTo pos (starEach es X.env)).any (·.1) = false := by rfl) :
    PySem.wpAt (model X.prog X.w) X.A (.func body X.env) (exec (.Expr (.Call (.Attribute (.Call (.Name "super" p0) [] [] p1) "__init__" p2) (e :: es) [] pos) pos') X.env) (fun fl s' => fl = .next ∧ ∃ H1, Inv X pins σ H1 s' ∧ Q H1) X.xe s := by
  have hkind : X.env.scope.kind = .function := I.ok.kind
  have k1 : X.env.kindOf "super" = some .globalImplicit := by rw [hev]; exact hks
  have k2 : X.env.kindOf "__class__" = some .free := by rw [hev]; exact hkc
  have k3 : X.env.kindOf "self" = some .local := by rw [hev]; exact hka
  have KX := I.kIn
  obtain ⟨oc, od, fd, osl, ar, lk, har, hself⟩ := T.lk
  obtain ⟨ccl, cdd, vs, ccs, file, tf, lc, hvs, hfile⟩ := T.code
  obtain ⟨cl, cld, csl, lcell⟩ := T.cell
  obtain ⟨cd, hcd, halong⟩ := T.cls
  obtain ⟨oD, hD1, hD2⟩ := clsIn_obj KX hcd
  obtain ⟨t1, ho⟩ := exo_at I.hok hea
  obtain ⟨m, hns, hl⟩ := I.loc
  obtain ⟨u, ru, lku⟩ := hl 0 "self" (.ref a) h0 hs (.inl k3)
  obtain rfl : u = Value.ref a := ru
  have hmx : m "self" = some (.ref a) := by
    rcases lku with ⟨_, z⟩ | ⟨z, _⟩
    · exact z
    · rw [k3] at z
      rcases z with z | z <;> cases z
  obtain ⟨mb, hb1, hb2⟩ := I.mod.blt
  refine ks_wpAt_Expr_any (ks_wpAt_MethodCall ?_ hc) hint hsw
  refine ks_wpAt_super_base k1 k2 (by decide) (by rw [hev]) (KX _ _ lk) rfl har (by rw [hev]) (KX _ _ lc) rfl hvs hfile T.top ?_
  refine PySem.W.ks_loadName_global hkind k1 (Calls.loadGlobal_builtin (by rw [I.ok.glob]; exact I.mod.glob.keeps I.bk) hm (by rw [I.ok.blt]; exact hb1.keeps I.bk) ((hb2 _ (by decide)).trans (show bootBuiltins "super" = some (.type "super") by decide +kernel)) ⟨rfl, ?_⟩)
  refine wpAny_loadName_free hkind k2 (c := cc) (by rw [hev]; rfl) ⟨_, KX _ _ lcell, rfl⟩ ?_
  rw [hself]
  refine wpAny_loadName_local hkind k3 hns hmx ?_
  obtain ⟨hh, g, d, t, os⟩ := s
  refine PySem.ks_wpAny_isType_cls hD1 hD2 ⟨rfl, ?_⟩
  refine PySem.ks_wpAny_call_super hD1 hD2 ho rfl (fun c z => by cases z) (PySem.W.looks_mroIn KX T.self) fun h1 e1 kp1 => ?_
  have I1 : Inv X pins σ H ⟨h1, g, d, t, os⟩ := I.kept (t' := t) kp1
  have K1 := I1.kIn
  have ho1 := kp1 _ _ ho
  refine PySem.W.kxs_getMethod PySem.W.kxs_ValueError e1 (PySem.W.looks_opaque K1 T.opq) (l₀ := cd.mro) ?_ rfl K1 halong ?_ ?_ (by decide) ?_
  · exact fun A Q E s k q => wpAny_bind ((PySem.W.looks_clsIn K1 hcd) A _ E s k (wpAny_pure q))
  · exact (show PySem.W.Looks _ _ (typeOf (.ref a)) (.ref C) from fun A Q E s k q => wpAny_typeOf_ref (k _ _ ho1) q).andThen (PySem.W.looks_subIn K1 T.sub)
  · intro z
    subst z
    rw [hD1] at ho
    cases ho
    cases hD2
  have kp2 : ∀ b o, h1.get? b = some o → (h1.push (kxs_mw "ValueError.__init__" a)).get? b = some o := fun b o z => Heap.get?_push_of_some _ z
  have I2 : Inv X pins σ H ⟨h1.push (kxs_mw "ValueError.__init__" a), g, d, t + 1, os⟩ := I1.kept (t' := t + 1) kp2
  have hu : (h1.push (kxs_mw "ValueError.__init__" a)).get? h1.objs.size = some (kxs_mw "ValueError.__init__" a) := Heap.get?_push_at rfl rfl
  have fp := I1.fpOk (b := h1.objs.size) (H' := H) (Nat.le_refl _) (I1.hok.fresh (Nat.le_refl _))
  have I3 : Inv X ((h1.objs.size, kxs_mw "ValueError.__init__" a) :: pins) σ H ⟨h1.push (kxs_mw "ValueError.__init__" a), g, d, t + 1, os⟩ := I2.pins_of fun p hp => by
    rcases List.mem_cons.mp hp with rfl | hp
    · exact ⟨hu, fp.1, fp.2.1, fp.2.2.1, fun v z => by cases z⟩
    · exact I2.pin p (List.mem_append_right _ hp)
  show wpAny _ _ (callWith pos (.ref h1.objs.size) [] (backTo pos (starEach (e :: es) X.env)) []) _ _ _
  rw [he]
  refine PySem.W.kxs_callWith (i := "ValueError.__init__") (x := a) (by show (false || (backTo pos (starEach es X.env)).any (·.1)) = false; rw [hpl]; rfl) ?_
  refine Calls.evalArgs_plain ?_
  have hr := hta.run pos _ _ σ H _ I3 ht
  rw [he] at hr
  refine thn hr fun us s1 ⟨vs', H1, I4, r1, hz, ea1, q1⟩ => ?_
  have P1 := I4.pin (h1.objs.size, kxs_mw "ValueError.__init__" a) (List.mem_append_right _ List.mem_cons_self)
  refine ⟨P1.1, ?_⟩
  refine mw_call T.oex I4 ea1 P1.1 (by show us.length ≤ sizeLine; rw [← Paired.length r1, sizeLine_eq]; omega) fun s2 J => ?_
  exact ⟨rfl, H1, J.pins_of fun p hp => J.pin p (List.mem_append_right _ (List.mem_cons_of_mem _ hp)), q1⟩
end
end Z

set_option linter.all false
set_option autoImplicit false
set_option maxRecDepth 100000
set_option maxHeartbeats 4000000
/-! Z28: such a class's __init__ as a whole, plain and while an error is handled. -/
namespace Z
open PySem PySem.Spec PyProof.Rows L2 L2H
/-- what it promises: self has then one field -/
def spSup (C : Addr) (text fld : Str) : Sp := fun vs H Q _ => ∃ (a : Addr) (n : Int), vs = [.ref a, .int n] ∧ n.natAbs.log2 < 1920 ∧ text.length + (toString n : Str).length ≤ sizeLine ∧ H a = some (exo a C none) ∧ ∀ d, H d = none → d ≠ a → Q .non (upd (upd H d (exd d [(fld, .int n)])) a (exo a C (some d)))
/-- the body of such a def: super().__init__(text + str(line)); self.fld = line -/
def supBody (text p fld : Str) (p0 p1 p2 p3 p4 p5 p6 p7 p8 p9 q0 q1 q2 q3 : Pos) (j : Nat) : List Stmt :=
  [.Expr (.Call (.Attribute (.Call (.Name "super" p0) [] [] p1) "__init__" p2) [.BinOp (.Constant (.str text) j p3) .Add (.Call (.Name "str" p4) [.Name p p5] [] p6) p7] [] p8) p9, .Assign [.Attribute (.Name "self" q0) fld q1] (.Name p q2) q3]
section
variable {X : Cx} {s : Shared} {H : Hp} {a C : Addr} {scope : Scope} {qual : Str} {L f cc cda : Addr} {text p fld : Str} {p0 p1 p2 p3 p4 p5 p6 p7 p8 p9 q0 q1 q2 q3 : Pos} {j : Nat} {n : Int}
theorem sup_body (T : SupC X.K X.prog C f cc cda) (I : Inv X [] [some (.ref a), some (.int n), none] H s) (hev : X.env = PySem.W.envX qual scope L f (.ref cda) [("__class__", cc)]) (hN : X.N = [("self" : Str), p, ("__class__" : Str)])
    (hks : scope.names.lookup ("super" : Str) = some .globalImplicit) (hkc : scope.names.lookup ("__class__" : Str) = some .free) (hka : scope.names.lookup ("self" : Str) = some .local) (hkp : scope.names.lookup p = some .local) (hkt : scope.names.lookup ("str" : Str) = some .globalImplicit)
    (hm : X.mg "super" = none) (hm2 : X.mg "str" = none) (hea : H a = some (exo a C none)) (hl : n.natAbs.log2 < 1920) (hz : text.length + (toString n : Str).length ≤ sizeLine) (hno : PySem.W.findIn X.K (.ref C) fld = some none) (hd1 : (p == ("__debug__" : Str)) = false) (hd2 : (p == ("__classdict__" : Str)) = false) (hint : interactive X.env = false) {pl : Sem Bool}
    (hc : eval (.Call (.Attribute (.Call (.Name "super" p0) [] [] p1) "__init__" p2) [.BinOp (.Constant (.str text) j p3) .Add (.Call (.Name "str" p4) [.Name p p5] [] p6) p7] [] p8) X.env = (do
      let ov ← attributeBase (.Call (.Name "super" p0) [] [] p1) "__init__" X.env (eval (.Call (.Name "super" p0) [] [] p1) X.env)
      standAt p2.atName
      let (f, first) ← holding [ov] (getMethod ov "__init__" pl)
      callWith p8 f first (backTo p8 (starEach [.BinOp (.Constant (.str text) j p3) .Add (.Call (.Name "str" p4) [.Name p p5] [] p6) p7] X.env)) []))
    {Q : Hp → Prop} (q : ∀ d, H d = none → d ≠ a → Q (upd (upd H d (exd d [(fld, .int n)])) a (exo a C (some d)))) :
    PySem.wpAt (model X.prog X.w) X.A (.func (supBody text p fld p0 p1 p2 p3 p4 p5 p6 p7 p8 p9 q0 q1 q2 q3 j) X.env) (execs (supBody text p fld p0 p1 p2 p3 p4 p5 p6 p7 p8 p9 q0 q1 q2 q3 j) X.env) (fun fl s' => fl = .next ∧ ∃ σ' H', Inv X [] σ' H' s' ∧ Q H') X.xe s := by
  have k3 : X.env.kindOf "self" = some .local := by rw [hev]; exact hka
  have vs : Vis X.env.scope ("self" : Str) := .inl (by rw [hev]; exact hka)
  have vp : Vis X.env.scope p := .inl (by rw [hev]; exact hkp)
  have gs : Gl X "str" := by show X.env.kindOf _ = _; rw [hev]; exact hkt
  have n0 : X.N[0]? = some ("self" : Str) := by rw [hN]; rfl
  have n1 : X.N[1]? = some p := by rw [hN]; rfl
  have ta : PA X [.BinOp (.Constant (.str text) j p3) .Add (.Call (.Name "str" p4) [.Name p p5] [] p6) p7] _ :=
    pa_cons (pe_op op_add_str pe_str (pe_callTy call_str_int gs hm2 (by decide +kernel) (pa_cons (pe_var (pos := p5) n1 vp hd1 hd2) pa_nil))) pa_nil
  refine ks_wpAt_execs_cons (ks_wpAt_mono (sup_stmt (Q := fun H1 => H1 = H) T I hev hks hkc hka hm n0 rfl hea ta ?_ hc hint) (fun fl s' h => ?_) fun _ _ h => h)
  · exact ⟨.int n, rfl, n, rfl, hl, text, _, rfl, rfl, hz, by show (1 : Nat) ≤ 1000; decide, hea, rfl⟩
  · obtain ⟨rfl, H1, J, rfl⟩ := h
    have st : PSs X [.Assign [.Attribute (.Name "self" q0) fld q1] (.Name p q2) q3] _ := pss_one (ps_ost (pe_var (pos := q0) n0 vs) (pe_var (pos := q2) n1 vp hd1 hd2))
    refine wpAt_of_wpAny (wpAny_mono (st.run [] s' _ H1 { nx := fun _ H' => Q H', rt := fun _ _ => False } J ?_) (fun fl2 s2 hs => ?_) fun _ _ z => z)
    · exact ⟨.int n, rfl, .ref a, rfl, a, C, rfl, T.oex, hno, .inl ⟨hea, fun d h1 h2 => q d h1 h2⟩⟩
    · cases fl2 with
      | ret u =>
        obtain ⟨v, σ', H', J, rv, z⟩ := hs
        exact z.elim
      | next =>
        obtain ⟨σ', H', J, z⟩ := hs
        exact ⟨rfl, σ', H', J, z⟩
      | brk =>
        obtain ⟨_, _, _, z⟩ := hs
        exact z.elim
      | cont =>
        obtain ⟨_, _, _, z⟩ := hs
        exact z.elim
end

open NdefX (NScope NF ncx envF CellsAt startF inv_startN)
/-- how the call is read -/
def supEval (text p : Str) (p0 p1 p2 p3 p4 p5 p6 p7 p8 : Pos) (j : Nat) (env : Env) : Prop := ∃ pl : Sem Bool,
  eval (.Call (.Attribute (.Call (.Name "super" p0) [] [] p1) "__init__" p2) [.BinOp (.Constant (.str text) j p3) .Add (.Call (.Name "str" p4) [.Name p p5] [] p6) p7] [] p8) env = (do
      let ov ← attributeBase (.Call (.Name "super" p0) [] [] p1) "__init__" env (eval (.Call (.Name "super" p0) [] [] p1) env)
      standAt p2.atName
      let (f, first) ← holding [ov] (getMethod ov "__init__" pl)
      callWith p8 f first (backTo p8 (starEach [.BinOp (.Constant (.str text) j p3) .Add (.Call (.Name "str" p4) [.Name p p5] [] p6) p7] env)) [])
structure SupS (p : Str) (scope : Scope) : Prop where
  S : NScope [("self" : Str), p, ("__class__" : Str)] [("self" : Str), p] [("__class__" : Str)] scope
  hks : scope.names.lookup ("super" : Str) = some .globalImplicit
  hkt : scope.names.lookup ("str" : Str) = some .globalImplicit
  hd1 : (p == ("__debug__" : Str)) = false
  hd2 : (p == ("__classdict__" : Str)) = false
section
variable {P : Program} {w : World} {K : PySem.W.Frag} {mg : Str → Option Value} {base : Heap} {CX : CXT} {k : Nat} {f C cc cda : Addr} {name qual : Str} {params : Arguments} {scope : Scope} {dV kV doc pm ct oc : Value} {an od : Option Addr} {osl : Array (Option Value)}
  {text p fld : Str} {p0 p1 p2 p3 p4 p5 p6 p7 p8 p9 q0 q1 q2 q3 : Pos} {j : Nat}
theorem cells_K {s : Shared} {H : Hp} {A : Around} {outer : List Env} (T : SupC K P C f cc cda) (e0 : Env0 P w K mg base A outer s H) : CellsAt [(("__class__" : Str), cc)] [("__class__" : Str)] [none] s.heap H := by
  obtain ⟨cl, cld, csl, lcell⟩ := T.cell
  obtain ⟨b1, b2⟩ := e0.bs cc _ (e0.mod.kin _ _ lcell)
  have one : ∀ {y : Str} {c : Addr}, [(("__class__" : Str), cc)].lookup y = some c → y = "__class__" ∧ c = cc := fun {y c} h => by
    simp only [List.lookup] at h
    split at h
    · rename_i e
      cases h
      exact ⟨eq_of_beq e, rfl⟩
    · cases h
  refine ⟨rfl, fun y c h => ?_, fun x y c h1 h2 => (one h1).1.trans (one h2).1.symm, fun i y h => ?_⟩
  · obtain ⟨_, rfl⟩ := one h
    exact ⟨b2, _, _, b1, rfl⟩
  · cases i with
    | zero =>
      cases h
      refine ⟨cc, by simp [List.lookup], fun v hv => by cases hv⟩
    | succ i => cases h
theorem sup_fn (lk : K.lookup f = some ⟨oc, od, .func (PySem.W.fnX name qual params (supBody text p fld p0 p1 p2 p3 p4 p5 p6 p7 p8 p9 q0 q1 q2 q3 j) scope [("__class__", cc)] dV kV doc pm an (.ref cda) ct), osl⟩) (hcd : PySem.W.codeIn K (.ref cda) qual = true) (T : SupC K P C f cc cda)
    (S : SupS p scope) (hm : mg "super" = none) (hm2 : mg "str" = none) (hno : PySem.W.findIn K (.ref C) fld = some none) (hev : ∀ L : Addr, supEval text p p0 p1 p2 p3 p4 p5 p6 p7 p8 j (PySem.W.envX qual scope L f (.ref cda) [("__class__", cc)])) :
    FnOk P w K mg base CX (k + 1) f (PySem.W.fnX name qual params (supBody text p fld p0 p1 p2 p3 p4 p5 p6 p7 p8 p9 q0 q1 q2 q3 j) scope [("__class__", cc)] dV kV doc pm an (.ref cda) ct) [("self" : Str), p] (spSup C text fld) := by
  refine ⟨fun vs H Q E ⟨a, n, e, _⟩ => by rw [e]; rfl, fun A outer s H args us vs Q E hr e0 hb r hsp => ?_⟩
  obtain ⟨a, n, ev, hl, hz, hea, q⟩ := hsp
  subst ev
  have KX : K.In s.heap := e0.mod.kin.keeps fun b o e => (e0.bs b o e).1
  have lim : s.heap.NoLimit := e0.mod.nolimit.keeps fun b o e => (e0.bs b o e).1
  obtain ⟨F, hF⟩ : ∃ F : NF, F = ⟨name, qual, params, supBody text p fld p0 p1 p2 p3 p4 p5 p6 p7 p8 p9 q0 q1 q2 q3 j, scope, [("__class__", cc)], cda⟩ := ⟨_, rfl⟩
  have SN : NScope [("self" : Str), p, ("__class__" : Str)] [("self" : Str), p] [("__class__" : Str)] F.scope := by rw [hF]; exact S.S
  have C0 : CellsAt F.cl [("__class__" : Str)] [none] s.heap H := by rw [hF]; exact cells_K T e0
  refine codeAny_call_function hr.depth (KX _ _ lk) rfl S.S.co S.S.gen rfl (PySem.W.codeRec_of KX hcd) (hb _ _ _ _ ?_)
  refine wpAny_newFunctionEnv S.S.nocell (fun ⟨n, _⟩ hy => S.S.par n (List.of_mem_zip hy).1) (fun h₁ hns hsb => ⟨lim.fresh _ hsb, ?_⟩) S.S.kind
  have kp : ∀ b o, s.heap.get? b = some o → h₁.get? b = some o := fun b o e => hsb.extBut b o (Nat.ne_of_lt (Heap.lt_size e)) (Heap.get?_push_of_some _ e)
  have I : Inv (ncx CX P w K mg base [("self" : Str), p, ("__class__" : Str)] F f A outer s H E) [] (startF [("self" : Str), p, ("__class__" : Str)] [.ref a, .int n] [none]) H { s with heap := h₁, toks := s.toks + ([("self" : Str), p].zip us).length } := inv_startN SN hr.hd e0 rfl r C0 hns kp
  obtain ⟨pl, hc⟩ := hev s.heap.objs.size
  have eenv : envF F f s.heap.objs.size = PySem.W.envX qual scope s.heap.objs.size f (.ref cda) [("__class__", cc)] := by rw [hF]
  have hX : (ncx CX P w K mg base [("self" : Str), p, ("__class__" : Str)] F f A outer s H E).env = PySem.W.envX qual scope s.heap.objs.size f (.ref cda) [("__class__", cc)] := eenv
  have hnc : NdefX.NScope [("self" : Str), p, ("__class__" : Str)] [("self" : Str), p] [("__class__" : Str)] scope := S.S
  have bd := sup_body (X := ncx CX P w K mg base [("self" : Str), p, ("__class__" : Str)] F f A outer s H E) (text := text) (p := p) (fld := fld) (p0 := p0) (p1 := p1) (p2 := p2) (p3 := p3) (p4 := p4) (p5 := p5) (p6 := p6) (p7 := p7) (p8 := p8) (p9 := p9) (q0 := q0) (q1 := q1) (q2 := q2) (q3 := q3) (j := j)
    T I hX rfl S.hks (hnc.frk _ List.mem_cons_self) (hnc.par _ List.mem_cons_self) (hnc.par _ (List.mem_cons_of_mem _ List.mem_cons_self)) S.hkt hm hm2 hea hl hz hno S.hd1 S.hd2 (by rw [hX]; show interactive { scope := scope, locals := _, globals := _, cells := _, qual := _, func := _, code := _, frame := _, builtins := _ } = false; simp [interactive, S.S.kind]) (by rw [hX]; exact hc) (Q := fun H' => Q .non H') q
  subst hF
  refine ks_codeAny_funcAt ?_
  refine ks_wpAt_mono (show PySem.wpAt _ _ _ _ _ _ _ from bd) (fun fl s' hs => ?_) fun e s' hs => ?_
  · obtain ⟨rfl, σ', H', J, z⟩ := hs
    exact ⟨.non, H', J.os, J.bare, J.base, J.hok, rfl, z⟩
  · exact hs
theorem sup_fnH (lk : K.lookup f = some ⟨oc, od, .func (PySem.W.fnX name qual params (supBody text p fld p0 p1 p2 p3 p4 p5 p6 p7 p8 p9 q0 q1 q2 q3 j) scope [("__class__", cc)] dV kV doc pm an (.ref cda) ct), osl⟩) (hcd : PySem.W.codeIn K (.ref cda) qual = true) (T : SupC K P C f cc cda)
    (S : SupS p scope) (hm : mg "super" = none) (hm2 : mg "str" = none) (hno : PySem.W.findIn K (.ref C) fld = some none) (hev : ∀ L : Addr, supEval text p p0 p1 p2 p3 p4 p5 p6 p7 p8 j (PySem.W.envX qual scope L f (.ref cda) [("__class__", cc)])) :
    FnH P w K mg base CX (k + 1) f (PySem.W.fnX name qual params (supBody text p fld p0 p1 p2 p3 p4 p5 p6 p7 p8 p9 q0 q1 q2 q3 j) scope [("__class__", cc)] dV kV doc pm an (.ref cda) ct) [("self" : Str), p] (spSup C text fld) := by
  refine ⟨fun vs H Q E ⟨a, n, e, _⟩ => by rw [e]; rfl, fun A outer s H args us vs Q E pp hr hot hpin e0 hb r hsp => ?_⟩
  obtain ⟨a, n, ev, hl, hz, hea, q⟩ := hsp
  subst ev
  have KX : K.In s.heap := e0.mod.kin.keeps fun b o e => (e0.bs b o e).1
  have lim : s.heap.NoLimit := e0.mod.nolimit.keeps fun b o e => (e0.bs b o e).1
  obtain ⟨F, hF⟩ : ∃ F : NF, F = ⟨name, qual, params, supBody text p fld p0 p1 p2 p3 p4 p5 p6 p7 p8 p9 q0 q1 q2 q3 j, scope, [("__class__", cc)], cda⟩ := ⟨_, rfl⟩
  have SN : NScope [("self" : Str), p, ("__class__" : Str)] [("self" : Str), p] [("__class__" : Str)] F.scope := by rw [hF]; exact S.S
  have C0 : CellsAt F.cl [("__class__" : Str)] [none] s.heap H := by rw [hF]; exact cells_K T e0
  refine codeAny_call_function hr.depth (KX _ _ lk) rfl S.S.co S.S.gen rfl (PySem.W.codeRec_of KX hcd) (hb _ _ _ _ ?_)
  refine wpAny_newFunctionEnv S.S.nocell (fun ⟨n, _⟩ hy => S.S.par n (List.of_mem_zip hy).1) (fun h₁ hns hsb => ⟨lim.fresh _ hsb, ?_⟩) S.S.kind
  have kp : ∀ b o, s.heap.get? b = some o → h₁.get? b = some o := fun b o e => hsb.extBut b o (Nat.ne_of_lt (Heap.lt_size e)) (Heap.get?_push_of_some _ e)
  have e1 : Env0 P w K mg base ({ A with handled := none } : Around) outer s H := ⟨e0.frames, e0.mod, e0.bs, e0.bsz, e0.funs, e0.frf, e0.hok, e0.bare⟩
  have I0 : Inv (ncx CX P w K mg base [("self" : Str), p, ("__class__" : Str)] F f ({ A with handled := none } : Around) outer s H E) [] (startF [("self" : Str), p, ("__class__" : Str)] [.ref a, .int n] [none]) H { s with heap := h₁, toks := s.toks + ([("self" : Str), p].zip us).length } := inv_startN SN rfl e1 rfl r C0 hns kp
  have I : Inv { ncx CX P w K mg base [("self" : Str), p, ("__class__" : Str)] F f A outer s H E with calm := false, pn := [pp] } [] (startF [("self" : Str), p, ("__class__" : Str)] [.ref a, .int n] [none]) H { s with heap := h₁, toks := s.toks + ([("self" : Str), p].zip us).length } :=
    ⟨⟨I0.ok.mod, I0.ok.kind, I0.ok.glob, I0.ok.blt, I0.ok.above, I0.ok.inj, I0.ok.has, I0.ok.cab, (fun z => Bool.noConfusion (show false = true from z)), Around.frames_deeper e0.frames, I0.ok.stk, I0.ok.exf, I0.ok.bs, I0.ok.bsz, I0.ok.noex, I0.ok.exfs, I0.ok.funs, I0.ok.frf⟩,
      I0.os, I0.bare, I0.base, I0.loc, I0.cell, I0.free, I0.freeC, fun q hq => (by
        have eq : q = pp := by simpa using (show q ∈ [pp] ++ ([] : List (Addr × Obj)) from hq)
        rw [eq]
        exact ⟨kp pp.1 pp.2 hpin.get, hpin.free, Nat.ne_of_lt (Heap.lt_size hpin.get), hpin.nofs, hpin.nocell⟩), I0.hok, I0.len⟩
  obtain ⟨pl, hc⟩ := hev s.heap.objs.size
  have eenv : envF F f s.heap.objs.size = PySem.W.envX qual scope s.heap.objs.size f (.ref cda) [("__class__", cc)] := by rw [hF]
  have hX : ({ ncx CX P w K mg base [("self" : Str), p, ("__class__" : Str)] F f A outer s H E with calm := false, pn := [pp] } : Cx).env = PySem.W.envX qual scope s.heap.objs.size f (.ref cda) [("__class__", cc)] := eenv
  have hnc : NdefX.NScope [("self" : Str), p, ("__class__" : Str)] [("self" : Str), p] [("__class__" : Str)] scope := S.S
  have bd := sup_body (X := { ncx CX P w K mg base [("self" : Str), p, ("__class__" : Str)] F f A outer s H E with calm := false, pn := [pp] }) (text := text) (p := p) (fld := fld) (p0 := p0) (p1 := p1) (p2 := p2) (p3 := p3) (p4 := p4) (p5 := p5) (p6 := p6) (p7 := p7) (p8 := p8) (p9 := p9) (q0 := q0) (q1 := q1) (q2 := q2) (q3 := q3) (j := j)
    T I hX rfl S.hks (hnc.frk _ List.mem_cons_self) (hnc.par _ List.mem_cons_self) (hnc.par _ (List.mem_cons_of_mem _ List.mem_cons_self)) S.hkt hm hm2 hea hl hz hno S.hd1 S.hd2 (by rw [hX]; show interactive { scope := scope, locals := _, globals := _, cells := _, qual := _, func := _, code := _, frame := _, builtins := _ } = false; simp [interactive, S.S.kind]) (by rw [hX]; exact hc) (Q := fun H' => Q .non H') q
  subst hF
  refine ks_codeAny_funcAt ?_
  refine ks_wpAt_mono (show PySem.wpAt _ _ _ _ _ _ _ from bd) (fun fl s' hs => ?_) fun e s' hs => ?_
  · obtain ⟨rfl, σ', H', J, z⟩ := hs
    exact ⟨.non, H', J.os, J.bare, J.base, J.hok, rfl, z⟩
  · exact hs
end
end Z

set_option linter.all false
set_option autoImplicit false
set_option maxRecDepth 100000
set_option maxHeartbeats 4000000
/-! Z29: defs whose errors may have a context; raising errors with one field. -/
namespace Z
open PySem PySem.Spec PyProof.Rows L2 L2H
theorem sky_zc {B : Heap} {l : List Env} {a : Addr} {cls : Value} {d : Option Addr} {L : Addr} {h : Heap} (x : Sky B l a (L2N.Zn cls d) L h) : Sky B l a (Zc cls d) L h := by
  rcases x with ⟨h1, h2, h3, oe, vs, h4, h5, h6⟩ | ⟨k1, k2, k3, oe, vs, T, oT, ts, he, hz, hr⟩ | ⟨k1, k2, k3, oe, vs, T, oT, ts, he, hz, hr⟩
  · exact .inl ⟨h1, h2, h3, oe, vs, h4, h5.zc, h6⟩
  · exact .inr (.inl ⟨k1, k2, k3, oe, vs, T, oT, ts, he, hz.zc, hr⟩)
  · exact .inr (.inr ⟨k1, k2, k3, oe, vs, T, oT, ts, he, hz.zc, hr⟩)
theorem takesN {X : Cx} {w : WX} (tk : L2.Takes X w) : L2N.Takes X w := fun u s' ⟨a, B, sI, pins, σ, H, cls, d, e, I, nb, up, sky, r⟩ => tk u s' ⟨a, B, sI, pins, σ, H, cls, d, e, I, nb, up, sky_zc sky, r⟩
/-- what the proof of such a def's body gets -/
structure BodyW (X : Cx) (w : WX) (k : Nat) : Prop extends BodyX X w k where
  tk2 : L2.Takes X w
  hx2 : ∀ σ, PassesAt (L2.CX X.prog X.w) X σ (WE w σ)
section
variable {P : Program} {w : World} {K : PySem.W.Frag} {mg : Str → Option Value} {base : Heap} {N : List Str}
theorem bodyW {k : Nat} {qual : Str} {scope : Scope} {f : Addr} {cdv : Value} {A : Around} {outer : List Env} {s : Shared} {H : Hp} {E : XK} (hr : Room k (A.deeper (envOfC qual scope s.heap.objs.size f cdv))) : BodyW (cxOf (L2.CX P w) P w K mg base N qual scope f cdv A outer s H E) (fun c d _ H' => E c d H') k :=
  have tk : L2.Takes (cxOf (L2.CX P w) P w K mg base N qual scope f cdv A outer s H E) (fun c d _ H' => E c d H') := L2.takes_of rfl rfl rfl rfl
  { hr := hr, hp := passes_of rfl, tk := takesN tk, hx := fun σ => L2N.passAt (takesN tk) σ, tk2 := tk, hx2 := fun σ => L2.passAt tk σ }
/-- a name that holds such a def -/
structure IsFnW (P : Program) (w : World) (K : PySem.W.Frag) (mg : Str → Option Value) (base : Heap) (k : Nat) (x : Str) (ps : List Str) (F : PF) : Prop where
  ex : ∃ f fd, mg x = some (.ref f) ∧ PySem.W.keepIn K (.ref f) = true ∧ FnOk P w K mg base (L2.CX P w) k f fd ps (SpG K mg F) ∧ Binds K fd ps []
theorem IsFnW.le {k : Nat} {x : Str} {ps : List Str} {F G : PF} (i : IsFnW P w K mg base k x ps F) (h : ∀ ws M, G ws M ≠ .stuck → F ws M = G ws M) : IsFnW P w K mg base k x ps G := by
  obtain ⟨f, fd, h1, h2, h3, h4⟩ := i.ex
  exact ⟨f, fd, h1, h2, h3.imp fun vs H Q E q => SpG.le h q, h4⟩
theorem IsFnW.mono {j k : Nat} {x : Str} {ps : List Str} {F : PF} (h : IsFnW P w K mg base j x ps F) (l : j ≤ k) : IsFnW P w K mg base k x ps F := by
  obtain ⟨f, fd, h1, h2, h3, h4⟩ := h.ex
  exact ⟨f, fd, h1, h2, h3.mono l, h4⟩
theorem DefAt.fnW {k : Nat} {x : Str} {st : Stmt} {ps : List Str} {b : PSx} (d : DefAt K mg x st ps) (S : FnScope N ps (defScope st))
    (hb : ∀ (f : Addr) (cdv : Value) (A : Around) (outer : List Env) (s : Shared) (H : Hp) (E : XK), BodyW (cxOf (L2.CX P w) P w K mg base N x (defScope st) f cdv A outer s H E) (fun c d _ H' => E c d H') k → JSs (cxOf (L2.CX P w) P w K mg base N x (defScope st) f cdv A outer s H E) (fun c d _ H' => E c d H') (defBody st) b) :
    IsFnW P w K mg base (k + 1) x ps (runG N.length ps.length b) := by
  obtain ⟨f, fd, h1, h2, F, hB⟩ := d.ex
  refine ⟨f, fd, h1, h2, ?_, hB⟩
  obtain ⟨oc, od, kV, doc, pm, an, cdv, ct, osl, rfl, lk, hcd⟩ := F.ex
  exact fn_of lk hcd S (fun vs H Q E h => h.len) fun A outer s H vs Q E hr hsp => body_G rfl rfl hsp (hb f cdv A outer s H E (bodyW hr))
end
section
variable {X : Cx} {w : WX} {k : Nat} {x : Str} {ps : List Str} {F : PF} {e : Expr} {es : List Expr} {pa : PAx} {p pos : Pos}
theorem je_callW (hF : IsFnW X.prog X.w X.K X.mg X.base k x ps F) (hr : Room k X.A) (hx : ∀ σ, PassesAt (L2.CX X.prog X.w) X σ (WE w σ)) (ha : JA X w (e :: es) pa) (hg : Gl X x := by rfl) (hdb : (x == ("__debug__" : Str)) = false := by decide)
    (he : starEach (e :: es) X.env = (false, eval e X.env) :: starEach es X.env := by rfl) (hpl : (backTo pos (starEach es X.env)).any (·.1) = false := by rfl) : JE X w (.Call (.Name x p) (e :: es) [] pos) (pCallG F [] pa) := by
  obtain ⟨f, fd, hm, hk, hf, hb⟩ := hF.ex
  obtain ⟨t, ea, sa⟩ := ha
  refine ⟨_, pe_callSD hf hr hg hm hk hb .nil hx ea hdb he hpl, fun H0 Hb0 as Hb H M σ s r S Q g => ?_⟩
  refine Good.bind sa r S g fun vs ws as1 Hb1 H1 M1 r1 f1 S1 w1 g1 => ?_
  refine ⟨H0, Hb0, as1, Hb1, M1, ws ++ ([] : List PyData).map .d, r1, Paired.app w1 .nil, ?_⟩
  cases q : F (ws ++ ([] : List PyData).map .d) M1 with
  | ok a m => rw [q] at g1; exact g1
  | exc a m => rw [q] at g1; exact g1
  | stuck => rw [q] at g1; exact g1
/-- a call that lets no error out -/
def pCallN (F : PF) (a : PAx) : PEx := fun s M => (a s M).bind fun ws M1 => match F ws M1 with
  | .ok y M2 => .ok y M2
  | _ => .stuck
theorem pass02 {X : Cx} {σ : L2.St} : PassesAt (L2.CX X.prog X.w) X σ (fun _ _ _ => False) := fun _ _ _ _ _ _ h => by
  obtain ⟨_, _, _, _, _, _, _, _, _, _, _, _, z⟩ := h
  exact z.elim
theorem je_callWN (hF : IsFnW X.prog X.w X.K X.mg X.base k x ps F) (hr : Room k X.A) (ha : JA X w (e :: es) pa) (hg : Gl X x := by rfl) (hdb : (x == ("__debug__" : Str)) = false := by decide)
    (he : starEach (e :: es) X.env = (false, eval e X.env) :: starEach es X.env := by rfl) (hpl : (backTo pos (starEach es X.env)).any (·.1) = false := by rfl) : JE X w (.Call (.Name x p) (e :: es) [] pos) (pCallN F pa) := by
  obtain ⟨f, fd, hm, hk, hf, hb⟩ := hF.ex
  obtain ⟨t, ea, sa⟩ := ha
  refine ⟨_, pe_callSD (E := fun _ _ _ _ => False) hf hr hg hm hk hb .nil (fun σ => pass02) ea hdb he hpl, fun H0 Hb0 as Hb H M σ s r S Q g => ?_⟩
  refine Good.bind sa r S g fun vs ws as1 Hb1 H1 M1 r1 f1 S1 w1 g1 => ?_
  refine ⟨H0, Hb0, as1, Hb1, M1, ws, r1, by rw [List.append_nil]; exact w1, ?_⟩
  cases q : F ws M1 with
  | ok a m => rw [q] at g1; exact g1
  | exc a m => rw [q] at g1; exact g1.elim
  | stuck => rw [q] at g1; exact g1
end
end Z

set_option linter.all false
set_option autoImplicit false
set_option maxRecDepth 100000
set_option maxHeartbeats 4000000
/-! Z30: raise C(n), C with super().__init__(text + str(n)); self.f = n; plain, and from None in a suite. -/
namespace Z
open PySem PySem.Spec PyProof.Rows L2 L2H
/-- such a class of errors -/
structure IExc (P : Program) (w : World) (K : PySem.W.Frag) (mg : Str → Option Value) (base : Heap) (x text fld : Str) : Prop where
  ex : ∃ (C fI : Addr) (fd : FuncData) (p : Str), mg x = some (.ref C) ∧ OexC K C ∧ PySem.W.findIn K (.ref C) "__init__" = some (some (.ref fI)) ∧ PySem.W.typeIn K (.ref fI) = some (.type "function") ∧
    FnOk P w K mg base (L2.CX P w) 1 fI fd [("self" : Str), p] (spSup C text fld) ∧ FnH P w K mg base (L2.CX P w) 1 fI fd [("self" : Str), p] (spSup C text fld) ∧ Binds K fd [("self" : Str), p] []
def pRaiseI (x text fld : Str) (pe : PEx) : PSx := fun s M => (pe s M).to s fun y M1 => match y with
  | .d (.int n) => if n.natAbs.log2 < 1920 ∧ text.length + (toString n : Str).length ≤ sizeLine then .exc ⟨x, some (fld, .int n)⟩ s M1 else .stuck
  | _ => .stuck
section
variable {X : Cx} {w : WX} {x text fld : Str} {e : Expr} {pe : PEx} {p pos pos2 cpos : Pos} {j k : Nat}
theorem sim_raiseI {C : Addr} {t : TE} (gC : X.mg x = some (.ref C)) (sa : Sim (repW X.K) X.K X.mg w t pe) : SimS X.K X.mg w (fun _ σ H => tMkO C (spSup C text fld) [] (tCons t tNil) σ H fun cls d H' => w cls d σ H') (pRaiseI x text fld pe) := by
  intro H0 Hb0 as Hb H M σ s r S D g
  refine GoodS.bind sa r S g fun v y as1 Hb1 H1 M1 r1 f1 S1 w1 g1 => ?_
  cases y with
  | r i => exact (show False from g1).elim
  | k u => exact (show False from g1).elim
  | d z =>
    cases z with
    | int n =>
      obtain rfl := wr_int_of w1
      by_cases hc : n.natAbs.log2 < 1920 ∧ text.length + (toString n : Str).length ≤ sizeLine
      · simp only [hc, and_self, if_true] at g1
        refine ⟨by show (1 : Nat) ≤ 1000; decide, fun a ha => ⟨a, n, rfl, hc.1, hc.2, upd_same, fun d hd hda => ⟨rfl, d, [(fld, .int n)], upd_same, by rw [upd_ne hda, upd_same], by rwa [upd_ne hda] at hd, ?_⟩⟩⟩
        have hd1 : H1 d = none := by rwa [upd_ne hda] at hd
        have eq : upd (del (upd (upd (upd H1 a (exo a C none)) d (exd d [(fld, .int n)])) a (exo a C (some d))) a) d (.xd [(fld, .int n)]) = upd H1 d (.xd [(fld, .int n)]) := by
          funext b
          by_cases h1 : b = d
          · rw [h1, upd_same, upd_same]
          · rw [upd_ne h1, upd_ne h1]
            by_cases h2 : b = a
            · rw [h2, del_same, ha]
            · rw [del_ne h2, upd_ne h2, upd_ne h1, upd_ne h2]
        rw [eq]
        exact g1 σ as1 Hb1 _ (.ref C) (some d) (r1.newAny hd1) Fut.refl S1 ⟨gC, d, .int n, rfl, upd_same, .int n⟩
      · simp only [hc, if_false] at g1
        exact (show False from g1).elim
    | _ => exact (show False from g1).elim
theorem passF {CX : CXT} {X : Cx} (h : ∀ (H : Hp) (s : Shared) (e : Value) (s' : Shared), ¬ CX X.stack H s (fun _ _ _ => False) e s') : Passes CX X (fun _ _ _ => False) := fun _ _ H s e s' _ c => (h H s e s' c).elim
theorem no2 {P : Program} {w : World} {l : List Env} {H : Hp} {s : Shared} {e : Value} {s' : Shared} : ¬ L2.CX P w l H s (fun _ _ _ => False) e s' := fun h => by
  obtain ⟨_, _, _, _, _, _, _, _, _, _, _, _, z⟩ := h
  exact z
theorem js_raiseI (E : IExc X.prog X.w X.K X.mg X.base x text fld) (hr : Room (k + 2) X.A) (hc : X.calm = true) (tk : L2.Takes X w) (ha : JE X w e pe) (hg : Gl X x := by rfl) (hdb : (x == ("__debug__" : Str)) = false := by decide)
    (he : starEach [e] X.env = (false, eval e X.env) :: starEach [] X.env := by rfl) (hpl : (backTo pos (starEach [] X.env)).any (·.1) = false := by rfl) : JS X w (.Raise (some (.Call (.Name x p) [e] [] pos)) none pos2) (pRaiseI x text fld pe) := by
  obtain ⟨C, fI, fd, q, gC, T, iC, tI, F1, F2, hb⟩ := E.ex
  obtain ⟨t, ea, sa⟩ := ha
  exact ⟨_, L2.ps_raise hc tk (pmk_oex T iC tI F1 (hr.mono (by omega)) hb .nil (passF fun _ _ _ _ => no2) hg gC (pa_cons ea pa_nil he) hdb he hpl), sim_raiseI gC sa⟩
theorem js_raiseIH (E : IExc X.prog X.w X.K X.mg X.base x text fld) (hr : RoomH (k + 2) X.A) (hc : HotC X) (tk : L2.Takes X w) (ha : JE X w e pe) (hg : Gl X x := by rfl) (hdb : (x == ("__debug__" : Str)) = false := by decide)
    (he : starEach [e] X.env = (false, eval e X.env) :: starEach [] X.env := by rfl) (hpl : (backTo pos (starEach [] X.env)).any (·.1) = false := by rfl) : JS X w (.Raise (some (.Call (.Name x p) [e] [] pos)) (some (.Constant .none j cpos)) pos2) (pRaiseI x text fld pe) := by
  obtain ⟨C, fI, fd, q, gC, T, iC, tI, F1, F2, hb⟩ := E.ex
  obtain ⟨t, ea, sa⟩ := ha
  exact ⟨_, ps_raiseHN hc tk (pmk5_oexH T iC tI F2 (hr.mono (by omega)) hc hb (passF fun _ _ _ _ => no2) hg gC (pa_cons ea pa_nil he) hdb he hpl), sim_raiseI gC sa⟩
end
end Z

set_option linter.all false
set_option autoImplicit false
set_option maxRecDepth 100000
set_option maxHeartbeats 4000000
/-! Z31: a suite that raises; a suite that tells an error's field. -/
namespace Z
open PySem PySem.Spec PyProof.Rows L2 L2H
/-- try: .. except C: suite, the suite may raise -/
def pTryX (cat : Str → Option Bool) (b su : PSx) : PSx := fun s M => match b s M with
  | .exc e s' M' => (match cat e.c with
    | some true => su s' M'
    | some false => .exc e s' M'
    | none => .stuck)
  | o => o
section
variable {X : Cx} {w : WX}
theorem js_try_x {x : Str} {c : Value} {body suite : List Stmt} {b₀ : Stmt} {np pos pos' : Pos} {cat : Str → Option Bool} {pb su : PSx} (hs : X.stack = X.env :: X.outer) (hf : X.env.frame = some X.env.locals) (hc : Names X x c)
    (hpa : ∀ hd : Option Value, PassesOwnAt (model X.prog X.w) (X.A.mark hd) X.A X.env X.xe) (tk : L2.Takes X w)
    (hcat : ∀ y b, cat y = some b → ∃ cv, X.mg y = some cv ∧ PySem.W.exmOne X.K cv c = some b)
    (hb : ∀ (W : WX) (pn : List (Addr × Obj)) (xe : Value → Shared → Prop), L2N.Takes (X.tr pn xe) W → PassesOwn (model X.prog X.w) X.A X.env xe → JSs (X.tr pn xe) W body pb)
    (hsu : ∀ (a : Addr) (oe : Obj) (pn : List (Addr × Obj)), L2.Takes (suiteX X a ((a, oe) :: pn)) w → HotC (suiteX X a ((a, oe) :: pn)) → JSs (suiteX X a ((a, oe) :: pn)) w (b₀ :: suite) su) :
    JS X w (.Try body [.ExceptHandler (some (.Name x np)) none (b₀ :: suite) pos'] [] [] pos) (pTryX cat pb su) := by
  let ts : Addr → Value → Option Addr → TS := fun a cls d D σ H => canonS X.K X.mg w su D σ H
  refine ⟨_, ps_try_onlyX (tb := fun W => canonS X.K X.mg W pb) (ts := ts) hs hf hc hpa tk (fun W pn xe tkW _ po => (hb W pn xe tkW po).canon) (fun a oe cls d pn hz hfl tkS hot => (hsu a oe pn tkS hot).canon), ?_⟩
  intro H0 Hb0 as Hb H M σ s r S D g
  refine ⟨H0, Hb0, as, Hb, M, s, r, S, ?_⟩
  unfold pTryX at g
  cases q : pb s M with
  | nx s' M' => rw [q] at g; exact g
  | rt y M' => rw [q] at g; exact g
  | bk s' M' => rw [q] at g; exact g
  | ct s' M' => rw [q] at g; exact g
  | stuck => rw [q] at g; exact g
  | exc e s' M' =>
    rw [q] at g
    intro σ' as' Hb' H' cls d r' f' S' er
    dsimp only at g
    have er' := er
    obtain ⟨gc, ga⟩ := er'
    cases hcat' : cat e.c with
    | none => rw [hcat'] at g; exact g.elim
    | some b =>
      obtain ⟨cv, h1, h2⟩ := hcat _ _ hcat'
      rw [gc] at h1
      cases h1
      refine ⟨b, h2, fun hb1 a ha => ?_, fun hb1 => ?_⟩
      · subst hb1
        rw [hcat'] at g
        exact ⟨H0, Hb0, as', Hb', M', s', r', S', GoodS.mono f' g⟩
      · subst hb1
        rw [hcat'] at g
        exact g σ' as' Hb' H' cls d r' f' S' er

/-! ### return e.f if isinstance(e, C) and isinstance(e, ValueError) else text -/
def rIsED (K : PySem.W.Frag) (D a dd : Addr) : List V → Hp → VK → Prop := fun xs H Q => ∃ (c : V) (cv : Value) (b : Bool) (fs : List (Str × V)), xs = [.ref a, c] ∧ (∀ u, RelV c u → u = cv) ∧ PySem.W.kitOne K (.ref D) cv = some b ∧ H dd = some (.xd fs) ∧ Q (.bl b) H
theorem call_isED {p : Addr × Obj} {D dd : Addr} (C : ExcC X.K D) (hz : Zc (.ref D) (some dd) p.2) (hf : ∃ vs, p.2.data = .fields vs) (hp : p ∈ X.pn) : CallR X (.builtin "isinstance") (rIsED X.K D p.1 dd) := by
  intro pins s σ H xs us Q I r h
  obtain ⟨c, cv, b, fs, rfl, hcv, e, hH, q⟩ := h
  obtain ⟨a, oe⟩ := p
  cases r with
  | cons rx rr =>
    cases rr with
    | cons rt rr =>
      cases rr
      cases rx
      have ec := hcv _ rt
      subst ec
      obtain ⟨hget, _⟩ := I.pin (a, oe) (List.mem_append.mpr (.inl hp))
      obtain ⟨vs, hv⟩ := hf
      have hx : ObjOk X.prog X.w H s.heap dd (.xd fs) := I.hok dd _ hH
      obtain ⟨mA, hns, hr⟩ := hx
      obtain ⟨od, ho, hl⟩ := lookIn_ns hns
      have J : PySem.W.InstAt s.heap a oe D (some od) := ⟨hget, hz.1, by unfold PySem.W.notCls; rw [hv] <;> rfl, by rw [hz.2]; exact ho⟩
      have hcl : (PySem.W.clsIn X.K D).isSome = true := by obtain ⟨cd, hc, _⟩ := PySem.W.any_some C.hd; rw [hc]; rfl
      exact PySem.W.kia_one (PySem.W.kitx_exc hcl C.hg C.hk C.hs C.ha C.hn C.ht C.hm) I.kIn J e (fun z => nomatch z) fun tk => ⟨.bl b, H, I.kept (t' := tk) fun _ _ z => z, rfl, q⟩
def pTryTell (x fld : Str) (cat : Str → Option Bool) (b : PSx) : PSx := fun s M => match b s M with
  | .exc e _ M' => (match e.arg with
    | some (f, .int n) => if e.c = x ∧ f = fld ∧ cat e.c = some true then .rt (.d (.int n)) M' else .stuck
    | _ => .stuck)
  | o => o
theorem js_try_tell {x xb n fld tx : Str} {c : Value} {C : Addr} {i j : Nat} {body : List Stmt} {np n1 n2 n3 n4 n5 n6 n7 n8 n9 n10 n11 n12 n13 n14 pos pos' : Pos} {cat : Str → Option Bool} {pb : PSx} (hN : X.N.Nodup) (hc : Names X xb c) (tk : L2.Takes X w)
    (hcat : ∀ y b, cat y = some b → ∃ cv, X.mg y = some cv ∧ PySem.W.exmOne X.K cv c = some b)
    (gC : X.mg x = some (.ref C)) (EC : ExcC X.K C) (hno : PySem.W.findIn X.K (.ref C) fld = some none) (k1 : PySem.W.kitOne X.K (.ref C) (.ref C) = some true) (k2 : PySem.W.kitOne X.K (.ref C) (.type "ValueError") = some true) (hI : X.mg "isinstance" = none) (hV : X.mg "ValueError" = none)
    (hb : ∀ (W : WX) (pn : List (Addr × Obj)) (xe : Value → Shared → Prop), L2.Takes (X.tr pn xe) W → PassesOwn (model X.prog X.w) X.A X.env xe → JSs (X.tr pn xe) W body pb)
    (hat : attributeBase (.Name n n9) fld X.env (eval (.Name n n9) X.env) = eval (.Name n n9) X.env)
    (ht : ∀ e : Expr, (∃ y p q r, e = .Call y p q r) → ∀ whole, isTrue e X.env whole = (do let v ← whole; standAt e.pos; holding [v] (truthy v)))
    (hs : X.stack = X.env :: X.outer := by rfl) (hf : X.env.frame = some X.env.locals := by rfl) (hi : X.N[i]? = some n := by rfl) (hln : X.env.kindOf n = some .local := by rfl)
    (hgi : Gl X "isinstance" := by rfl) (hgV : Gl X "ValueError" := by rfl) (hgx : Gl X x := by rfl) (hdx : (x == ("__debug__" : Str)) = false := by decide) (hv : Vis X.env.scope n := by first | exact Or.inl rfl | exact Or.inr (Or.inl rfl) | exact Or.inr (Or.inr rfl)) (hd : (n == ("__debug__" : Str)) = false := by decide)
    (hcd : (n == ("__classdict__" : Str)) = false := by decide)
    (he1 : starEach [.Name n n1, .Name x n2] X.env = (false, eval (.Name n n1) X.env) :: starEach [.Name x n2] X.env := by rfl) (he2 : starEach [.Name x n2] X.env = (false, eval (.Name x n2) X.env) :: starEach [] X.env := by rfl)
    (he3 : starEach [.Name n n5, .Name "ValueError" n6] X.env = (false, eval (.Name n n5) X.env) :: starEach [.Name "ValueError" n6] X.env := by rfl) (he4 : starEach [.Name "ValueError" n6] X.env = (false, eval (.Name "ValueError" n6) X.env) :: starEach [] X.env := by rfl)
    (hp1 : (backTo n4 (starEach [.Name x n2] X.env)).any (·.1) = false := by rfl) (hp2 : (backTo n8 (starEach [.Name "ValueError" n6] X.env)).any (·.1) = false := by rfl) :
    JS X w (.Try body [.ExceptHandler (some (.Name xb np)) (some n) [.Return (some (.IfExp (.BoolOp .And [.Call (.Name "isinstance" n3) [.Name n n1, .Name x n2] [] n4, .Call (.Name "isinstance" n7) [.Name n n5, .Name "ValueError" n6] [] n8] n11) (.Attribute (.Name n n9) fld n10) (.Constant (.str tx) j n12) n13)) n14] pos'] [] [] pos) (pTryTell x fld cat pb) := by
  let ts : Addr → Value → Option Addr → TS := fun a cls d D σ H => (i < σ.length → σ[i]? = some (some (.ref a))) ∧ ∃ (dd : Addr) (m : Int), d = some dd ∧ cls = .ref C ∧ H dd = some (.xd [(fld, .int m)]) ∧ D.rt (.int m) H
  refine ⟨_, L2.ps_try_as (tb := fun W => canonS X.K X.mg W pb) (ts := ts) hs hf hN hi hln hc tk (fun W pn xe tkW po => (hb W pn xe tkW po).canon) (fun a oe cls d pn hz hfl => ?_), ?_⟩
  · refine ⟨fun pins s σ H D I ⟨hσ, dd, m, ed, ec, hH, q⟩ => ?_⟩
    subst ed ec
    have hσ := hσ (by
      have e1 := I.len
      have e2 := (List.getElem?_eq_some_iff.mp hi).1
      rw [show σ.length = X.N.length from e1]
      exact e2)
    have XF : XfC X.K C := ⟨EC.hg, EC.hk, EC.hs, EC.hd⟩
    have v : ∀ pos : Pos, PE (X.suite a ((a, oe) :: pn)) (.Name n pos) (tVar i) := fun pos => pe_var hi hv hd hcd
    have cr : CallR (X.suite a ((a, oe) :: pn)) (.builtin "isinstance") (rIsED X.K C a dd) := call_isED (X := X.suite a ((a, oe) :: pn)) (p := (a, oe)) EC hz hfl List.mem_cons_self
    have P : PSs (X.suite a ((a, oe) :: pn)) [.Return (some (.IfExp (.BoolOp .And [.Call (.Name "isinstance" n3) [.Name n n1, .Name x n2] [] n4, .Call (.Name "isinstance" n7) [.Name n n5, .Name "ValueError" n6] [] n8] n11) (.Attribute (.Name n n9) fld n10) (.Constant (.str tx) j n12) n13)) n14] _ := pss_one (ps_ret (pos := n14) (pe_ifExp (pos := n13) ((pw_and (pos := n11) (pt_truth (pe_callB (p := n3) (pos := n4) cr hgi hI (by decide +kernel) (pa_cons (v n1) (pa_cons (pe_glob (pos := n2) (v := .ref C) hgx gC rfl hdx) pa_nil he2) he1) (by decide) (by decide) he1 hp1) (ht _ ⟨_, _, _, _, rfl⟩)) (pw_and1 (pt_truth (pe_callB (p := n7) (pos := n8) cr hgi hI (by decide +kernel) (pa_cons (v n5) (pa_cons (pe_bltn (pos := n6) (v := .ty "ValueError") hgV hV (by decide +kernel) rfl) pa_nil he4) he3) (by decide) (by decide) he3 hp2) (ht _ ⟨_, _, _, _, rfl⟩)))).pt) (pe_xf XF hno hz hfl (v n9) hat) (pe_str (x := tx) (pos := n12))))
    refine P.run pins s σ H D I ?_
    exact ⟨.ref a, hσ, .ref C, .ref C, true, [(fld, .int m)], rfl, fun u h => h, k1, hH, true, rfl, .ref a, hσ, .ty "ValueError", .type "ValueError", true, [(fld, .int m)], rfl, fun u h => h, k2, hH, true, rfl, .ref a, hσ, rfl, rfl, dd, [(fld, .int m)], .int m, rfl, hH, by simp [List.lookup], q⟩
  intro H0 Hb0 as Hb H M σ s r S D g
  refine ⟨H0, Hb0, as, Hb, M, s, r, S, ?_⟩
  unfold pTryTell at g
  cases q : pb s M with
  | nx s' M' => rw [q] at g; exact g
  | rt y M' => rw [q] at g; exact g
  | bk s' M' => rw [q] at g; exact g
  | ct s' M' => rw [q] at g; exact g
  | stuck => rw [q] at g; exact g
  | exc e s' M' =>
    rw [q] at g
    intro σ' as' Hb' H' cls d r' f' S' er
    dsimp only at g
    obtain ⟨gc, ga⟩ := er
    obtain ⟨ec, ea⟩ := e
    cases ea with
    | none => exact (show False from g).elim
    | some fx =>
      obtain ⟨f, y⟩ := fx
      cases y with
      | int m =>
        by_cases hq : ec = x ∧ f = fld ∧ cat ec = some true
        · simp only [hq, and_self, if_true] at g
          obtain ⟨rfl, rfl, h3⟩ := hq
          obtain ⟨cv, h1, h2⟩ := hcat _ _ h3
          rw [gC] at h1 gc
          cases h1
          cases gc
          obtain ⟨dd, v, rfl, hH, hv⟩ := ga
          cases hv
          refine ⟨true, h2, fun _ a ha => ?_, fun hb1 => by cases hb1⟩
          refine ⟨?_, dd, m, rfl, rfl, hH, ?_⟩
          · intro hl
            exact List.getElem?_set_self (by rwa [List.length_set] at hl)
          · simp only [h3, if_true] at g
            exact g (.int m) as' Hb' H' r' f' (wr_int m)
        · simp only [hq, if_false] at g
          exact (show False from g).elim
      | _ => exact (show False from g).elim
end
end Z

set_option linter.all false
set_option autoImplicit false
set_option maxRecDepth 100000
set_option maxHeartbeats 4000000
/-! Z32: a list that changed is data from now on; str.index, ord; except C as e: return isinstance(e, D) and isinstance(e, T). -/
namespace Z
open PySem PySem.Spec PyProof.Rows L2 L2H
theorem Rel.toData {K : PySem.W.Frag} {H0 Hb0 : Hp} {as : List Addr} {Hb H : Hp} {M : Ms} (r : Rel K H0 Hb0 as Hb H M) {i : Nat} {a : Addr} {o : MO} {u : HO} (hi : as[i]? = some a) (ho : M[i]? = some o) (hl : o.live = true) (hH : H a = some u) : Rel K H0 Hb0 as (upd Hb a u) H (M.set i .gone) := by
  have hb := r.off i a o hi ho hl
  have h0 := r.off0 a (List.mem_of_getElem? hi)
  have hil : i < M.length := (List.getElem?_eq_some_iff.mp ho).1
  have fu : Fut as Hb as (upd Hb a u) := fut_new hb
  refine ⟨fun b v e => ?_, r.top, by simp [r.len], r.nd, r.al, fun j b v h1 h2 h3 => ?_, r.off0, r.b0.trans (same_new hb), fun j b v h1 h2 => ?_, fun b h1 h2 => ?_⟩
  · by_cases z : b = a
    · subst z; rw [upd_same] at e; cases e; exact hH
    · rw [upd_ne z] at e; exact r.sub b v e
  · by_cases z : j = i
    · subst z
      rw [List.getElem?_set_self hil] at h2
      cases h2
      cases h3
    · rw [List.getElem?_set_ne (Ne.symm z)] at h2
      have zb : b ≠ a := fun e => z (nodup_idx r.nd (e ▸ h1) hi)
      rw [upd_ne zb]
      exact r.off j b v h1 h2 h3
  · by_cases z : j = i
    · subst z
      rw [List.getElem?_set_self hil] at h2
      cases h2
      exact True.intro
    · rw [List.getElem?_set_ne (Ne.symm z)] at h2
      exact (r.at' j b v h1 h2).fut fu rfl
  · by_cases z : b = a
    · subst z; exact h0
    · rw [upd_ne z] at h1; exact r.hb0 b h1 h2
/-- data, or a list that is data from now on -/
def pFrz (p : PEx) : PEx := fun s M => (p s M).bind fun x M1 => match x with
  | .d d => .ok (.d d) M1
  | .r i => (match M1[i]? with
    | some (.lst ws) => (match allD ws with
      | some ds => .ok (.d (.list ds)) (M1.set i .gone)
      | none => .stuck)
    | _ => .stuck)
  | .k _ => .stuck
section
variable {X : Cx} {w : WX} {e o : Expr} {p po pe : PEx} {apos pos : Pos}
theorem je_frz (h : JE X w e p) : JE X w e (pFrz p) := by
  obtain ⟨t, e1, s1⟩ := h
  refine ⟨t, e1, fun H0 Hb0 as Hb H M σ s r S Q g => ?_⟩
  refine Good.bind s1 r S g fun v x as1 Hb1 H1 M1 r1 f1 S1 w1 g1 => ?_
  cases x with
  | d y => exact Good.ok g1 r1 w1
  | k y => exact (show False from g1).elim
  | r i =>
    obtain ⟨a, hi, rfl⟩ := w1
    cases hm : M1[i]? with
    | none => simp only [hm] at g1; exact (show False from g1).elim
    | some o =>
      cases o with
      | lst ws =>
        simp only [hm] at g1
        cases hd : allD ws with
        | none => simp only [hd] at g1; exact (show False from g1).elim
        | some ds =>
          simp only [hd] at g1
          obtain ⟨z, vs, hH, wr⟩ := r1.at' i a _ hi hm
          have dz := allD_ok wr hd
          have hl : ws.length = ds.length := (Paired.len wr).symm.trans (Paired.len dz)
          have hb := r1.off i a _ hi hm rfl
          have fu : Fut as1 Hb1 as1 (upd Hb1 a (.lst vs)) := fut_new hb
          exact Good.ok (Good.mono fu g1) (r1.toData hi hm rfl hH) (show Dz X.K (upd Hb1 a (.lst vs)) (.ref a) (.list ds) from dz_lst upd_same (dzAll_mono (same_new hb) dz) (hl ▸ z))
      | _ => simp only [hm] at g1; exact (show False from g1).elim
def fIndex (a b : Str) : Option PyData := match Builtin.Str.occurrences a b 0 a.length 1 with
  | i :: _ => some (.int (i : Nat))
  | [] => none
theorem je_index (ho : JE X w o po) (he : JE X w e pe) (hs : starEach [e] X.env = [(false, eval e X.env)] := by rfl) (hbase : attributeBase o "index" X.env (eval o X.env) = eval o X.env := by rfl) (hline : (apos.endLine == pos.line) = true := by rfl) :
    JE X w (.Call (.Attribute o "index" apos) [e] [] pos) (pM1 fIndex po pe) := by
  obtain ⟨t, e1, s1⟩ := ho
  obtain ⟨u, e2, s2⟩ := he
  refine ⟨_, pe_m1 F.slot_str_index F.type_str_index mt_sindex e1 e2 hs hbase hline, sim_m1 s1 s2 (fun a b d h _ _ H Q q => ?_) fun a b d h => ?_⟩
  · unfold fIndex at h
    split at h
    · rename_i i rest ho
      cases h
      exact ⟨a, b, i, rest, rfl, rfl, ho, q _ (.int _)⟩
    · cases h
  · unfold fIndex at h
    split at h
    · cases h; trivial
    · cases h
end
def gOrd : List W → Ms → R W := fun ws M => match ws with
  | [x] => (match x with
    | .d (.str z) => if z.length = 1 then .ok (.d (.int (z.cps.getD 0 0 : Nat))) M else .stuck
    | _ => .stuck)
  | _ => .stuck
theorem s_ord {K : PySem.W.Frag} {mg : Str → Option Value} : SimC K mg (fun xs H Q => ∃ x, xs = [.str x] ∧ x.length = 1 ∧ Q (.int (x.cps.getD 0 0 : Nat)) H) gOrd := by
  intro w H0 Hb0 as Hb H M σ ws vs r wr Q gd
  match ws, gd with
  | [], gd => exact gd.elim
  | _ :: _ :: _, gd => exact gd.elim
  | [x], gd =>
    obtain ⟨v, rfl, wx⟩ := one_arg_of wr
    cases x with
    | d x =>
      cases x with
      | str z =>
        obtain ⟨rfl, _⟩ := wr_str_of wx
        unfold gOrd at gd
        by_cases hc : z.length = 1
        · simp only [hc, if_true] at gd
          exact ⟨z, rfl, hc, Good.ok gd r (wr_int _)⟩
        · simp only [hc, if_false] at gd
          exact (show False from gd).elim
      | _ => exact gd.elim
    | r i => exact gd.elim
    | k u => exact gd.elim
/-! ### except C as e: return isinstance(e, D) and isinstance(e, T) -/
def pTryIs (x : Str) (cat : Str → Option Bool) (b : PSx) : PSx := fun s M => match b s M with
  | .exc e _ M' => (match e.arg with
    | none => if e.c = x ∧ cat e.c = some true then .rt (.d (.bool true)) M' else .stuck
    | _ => .stuck)
  | o => o
section
variable {X : Cx} {w : WX}
theorem js_try_is {x xb n : Str} {c : Value} {C : Addr} {i : Nat} {body : List Stmt} {np n1 n2 n3 n4 n5 n6 n7 n8 n11 n14 pos pos' : Pos} {cat : Str → Option Bool} {pb : PSx} (hN : X.N.Nodup) (hc : Names X xb c) (tk : L2N.Takes X w)
    (hcat : ∀ y b, cat y = some b → ∃ cv, X.mg y = some cv ∧ PySem.W.exmOne X.K cv c = some b)
    (gC : X.mg x = some (.ref C)) (EC : ExcC X.K C) (k1 : PySem.W.kitOne X.K (.ref C) (.ref C) = some true) (k2 : PySem.W.kitOne X.K (.ref C) (.type "ValueError") = some true) (hI : X.mg "isinstance" = none) (hV : X.mg "ValueError" = none)
    (hb : ∀ (W : WX) (pn : List (Addr × Obj)) (xe : Value → Shared → Prop), L2N.Takes (X.tr pn xe) W → PassesOwn (model X.prog X.w) X.A X.env xe → JSs (X.tr pn xe) W body pb)
    (ht : ∀ e : Expr, (∃ y p q r, e = .Call y p q r) → ∀ whole, isTrue e X.env whole = (do let v ← whole; standAt e.pos; holding [v] (truthy v)))
    (hs : X.stack = X.env :: X.outer := by rfl) (hf : X.env.frame = some X.env.locals := by rfl) (hi : X.N[i]? = some n := by rfl) (hln : X.env.kindOf n = some .local := by rfl)
    (hgi : Gl X "isinstance" := by rfl) (hgV : Gl X "ValueError" := by rfl) (hgx : Gl X x := by rfl) (hdx : (x == ("__debug__" : Str)) = false := by decide) (hv : Vis X.env.scope n := by first | exact Or.inl rfl | exact Or.inr (Or.inl rfl) | exact Or.inr (Or.inr rfl)) (hd : (n == ("__debug__" : Str)) = false := by decide)
    (hcd : (n == ("__classdict__" : Str)) = false := by decide)
    (he1 : starEach [.Name n n1, .Name x n2] X.env = (false, eval (.Name n n1) X.env) :: starEach [.Name x n2] X.env := by rfl) (he2 : starEach [.Name x n2] X.env = (false, eval (.Name x n2) X.env) :: starEach [] X.env := by rfl)
    (he3 : starEach [.Name n n5, .Name "ValueError" n6] X.env = (false, eval (.Name n n5) X.env) :: starEach [.Name "ValueError" n6] X.env := by rfl) (he4 : starEach [.Name "ValueError" n6] X.env = (false, eval (.Name "ValueError" n6) X.env) :: starEach [] X.env := by rfl)
    (hp1 : (backTo n4 (starEach [.Name x n2] X.env)).any (·.1) = false := by rfl) (hp2 : (backTo n8 (starEach [.Name "ValueError" n6] X.env)).any (·.1) = false := by rfl) :
    JS X w (.Try body [.ExceptHandler (some (.Name xb np)) (some n) [.Return (some (.BoolOp .And [.Call (.Name "isinstance" n3) [.Name n n1, .Name x n2] [] n4, .Call (.Name "isinstance" n7) [.Name n n5, .Name "ValueError" n6] [] n8] n11)) n14] pos'] [] [] pos) (pTryIs x cat pb) := by
  let ts : Addr → Value → Option Addr → TS := fun a cls d D σ H => (i < σ.length → σ[i]? = some (some (.ref a))) ∧ d = none ∧ cls = .ref C ∧ D.rt (.bl true) H
  refine ⟨_, L2N.ps_try_as (tb := fun W => canonS X.K X.mg W pb) (ts := ts) hs hf hN hi hln hc tk (fun W pn xe tkW po => (hb W pn xe tkW po).canon) (fun a oe cls d pn hz hfl => ?_), ?_⟩
  · refine ⟨fun pins s σ H D I ⟨hσ, ed, ec, q⟩ => ?_⟩
    subst ed ec
    have hσ := hσ (by
      have e1 := I.len
      have e2 := (List.getElem?_eq_some_iff.mp hi).1
      rw [show σ.length = X.N.length from e1]
      exact e2)
    have v : ∀ pos : Pos, PE (X.suite a ((a, oe) :: pn)) (.Name n pos) (tVar i) := fun pos => pe_var hi hv hd hcd
    have cr : CallR (X.suite a ((a, oe) :: pn)) (.builtin "isinstance") (rIsE X.K C a) := call_isEp (X := X.suite a ((a, oe) :: pn)) (p := (a, oe)) EC hz.zc hfl List.mem_cons_self
    have P : PSs (X.suite a ((a, oe) :: pn)) [.Return (some (.BoolOp .And [.Call (.Name "isinstance" n3) [.Name n n1, .Name x n2] [] n4, .Call (.Name "isinstance" n7) [.Name n n5, .Name "ValueError" n6] [] n8] n11)) n14] _ :=
      pss_one (ps_ret (pos := n14) (pe_and (pos := n11) (pe_callB (p := n3) (pos := n4) cr hgi hI (by decide +kernel) (pa_cons (v n1) (pa_cons (pe_glob (pos := n2) (v := .ref C) hgx gC rfl hdx) pa_nil he2) he1) (by decide) (by decide) he1 hp1) (pe_one (pe_callB (p := n7) (pos := n8) cr hgi hI (by decide +kernel) (pa_cons (v n5) (pa_cons (pe_bltn (pos := n6) (v := .ty "ValueError") hgV hV (by decide +kernel) rfl) pa_nil he4) he3) (by decide) (by decide) he3 hp2))))
    refine P.run pins s σ H D I ?_
    exact ⟨.ref a, hσ, .ref C, .ref C, true, rfl, fun u h => h, k1, true, rfl, .ref a, hσ, .ty "ValueError", .type "ValueError", true, rfl, fun u h => h, k2, q⟩
  intro H0 Hb0 as Hb H M σ s r S D g
  refine ⟨H0, Hb0, as, Hb, M, s, r, S, ?_⟩
  unfold pTryIs at g
  cases q : pb s M with
  | nx s' M' => rw [q] at g; exact g
  | rt y M' => rw [q] at g; exact g
  | bk s' M' => rw [q] at g; exact g
  | ct s' M' => rw [q] at g; exact g
  | stuck => rw [q] at g; exact g
  | exc e s' M' =>
    rw [q] at g
    intro σ' as' Hb' H' cls d r' f' S' er
    dsimp only at g
    obtain ⟨gc, ga⟩ := er
    obtain ⟨ec, ea⟩ := e
    cases ea with
    | some fx => exact (show False from g).elim
    | none =>
      by_cases hq : ec = x ∧ cat ec = some true
      · simp only [hq, and_self, if_true] at g
        obtain ⟨rfl, h3⟩ := hq
        obtain ⟨cv, h1, h2⟩ := hcat _ _ h3
        rw [gC] at h1 gc
        cases h1
        cases gc
        refine ⟨true, h2, fun _ a ha => ?_, fun hb1 => by cases hb1⟩
        refine ⟨fun hl => List.getElem?_set_self (by rwa [List.length_set] at hl), ga, rfl, ?_⟩
        simp only [h3, if_true] at g
        exact g (.bl true) as' Hb' H' r' f' (wr_bl true)
      · simp only [hq, if_false] at g
        exact (show False from g).elim
end
end Z

set_option linter.all false
set_option autoImplicit false
set_option maxRecDepth 100000
set_option maxHeartbeats 4000000
/-! Z33: a def whose defaults fill up. -/
namespace Z
open PySem PySem.Spec PyProof.Rows L2 L2H
structure DefAtDD (K : PySem.W.Frag) (mg : Str → Option Value) (x : Str) (st : Stmt) (ps : List Str) (dds : List PyData) : Prop where
  ex : ∃ f fd dvs kws dv2 ds, mg x = some (.ref f) ∧ PySem.W.keepIn K (.ref f) = true ∧ FunD K x x (defArgs st) (defBody st) (defScope st) dvs kws f fd ∧ Vals dv2 ds ∧ Binds K fd ps ds ∧ DtAll K (fun _ => none) dv2 dds ∧ fitsAll dds
theorem DefAtDD.fn {P : Program} {w : World} {K : PySem.W.Frag} {mg : Str → Option Value} {base : Heap} {k : Nat} {x : Str} {st : Stmt} {N ps : List Str} {b : PSx} {dds : List PyData} (d : DefAtDD K mg x st ps dds) (S : FnScope N ps (defScope st))
    (hb : ∀ (f : Addr) (cdv : Value) (A : Around) (outer : List Env) (s : Shared) (H : Hp) (E : XK), BodyX (cxOf (L2N.CX P w) P w K mg base N x (defScope st) f cdv A outer s H E) (fun c d _ H' => E c d H') k → JSs (cxOf (L2N.CX P w) P w K mg base N x (defScope st) f cdv A outer s H E) (fun c d _ H' => E c d H') (defBody st) b) :
    IsFn P w K mg base (k + 1) x ps dds (runG N.length ps.length b) := by
  obtain ⟨f, fd, dvs, kws, dv2, ds, h1, h2, F, hv, hB, hd, hz⟩ := d.ex
  exact ⟨f, fd, dv2, ds, h1, h2, fn_GD F S fun cdv A outer s H E hr => hb f cdv A outer s H E (bodyX hr), hB, hv, hd, hz⟩
end Z

set_option linter.all false
set_option autoImplicit false
set_option maxRecDepth 100000
set_option maxHeartbeats 4000000
/-! Z34: defs of Z29's kind by a plain function of data. -/
namespace Z
open PySem PySem.Spec PyProof.Rows L2 L2H
structure IsPureW (P : Program) (w : World) (K : PySem.W.Frag) (mg : Str → Option Value) (base : Heap) (k : Nat) (x : Str) (ps : List Str) (p : List PyData → PR) : Prop where
  ex : ∃ F, IsFnW P w K mg base k x ps F ∧ ∀ ds, p ds ≠ .stuck → F.pure ds = p ds
theorem IsFnW.pure {P : Program} {w : World} {K : PySem.W.Frag} {mg : Str → Option Value} {base : Heap} {k : Nat} {x : Str} {ps : List Str} {F : PF} (i : IsFnW P w K mg base k x ps F) {p : List PyData → PR} (h : ∀ ds, p ds ≠ .stuck → F.pure ds = p ds) : IsPureW P w K mg base k x ps p := ⟨F, i, h⟩
def pCallQW (p : List PyData → PR) (a : PAx) : PEx := fun s M => (a s M).bind fun ws M1 => match allD ws with
  | some ds => (p ds).to M1
  | none => .stuck
def pCallQN (p : List PyData → PR) (a : PAx) : PEx := fun s M => (a s M).bind fun ws M1 => match allD ws with
  | some ds => (match p ds with
    | .ok d => .ok (.d d) M1
    | _ => .stuck)
  | none => .stuck
section
variable {X : Cx} {w : WX} {k : Nat} {x : Str} {ps : List Str} {f : List PyData → PR} {e : Expr} {es : List Expr} {pa : PAx} {p pos : Pos}
theorem je_callQW (hF : IsPureW X.prog X.w X.K X.mg X.base k x ps f) (hr : Room k X.A) (hx : ∀ σ, PassesAt (L2.CX X.prog X.w) X σ (WE w σ)) (ha : JA X w (e :: es) pa) (hg : Gl X x := by rfl) (hdb : (x == ("__debug__" : Str)) = false := by decide)
    (he : starEach (e :: es) X.env = (false, eval e X.env) :: starEach es X.env := by rfl) (hpl : (backTo pos (starEach es X.env)).any (·.1) = false := by rfl) : JE X w (.Call (.Name x p) (e :: es) [] pos) (pCallQW f pa) := by
  obtain ⟨F, hF, hp⟩ := hF.ex
  obtain ⟨fa, fd, hm, hk, hf, hb⟩ := hF.ex
  obtain ⟨t, ea, sa⟩ := ha
  refine ⟨_, pe_callSD hf hr hg hm hk hb .nil hx ea hdb he hpl, fun H0 Hb0 as Hb H M σ s r S Q g => ?_⟩
  refine Good.bind sa r S g fun vs ws as1 Hb1 H1 M1 r1 f1 S1 w1 g1 => ?_
  cases hall : allD ws with
  | none => rw [hall] at g1; exact g1.elim
  | some ds =>
    rw [hall] at g1
    have dz := allD_ok w1 hall
    have ne : f ds ≠ .stuck := fun z => by simp only [z, PR.to] at g1; exact (show False from g1)
    have hpd := hp ds ne
    refine ⟨H1, Hb1, [], Hb1, [], ds.map .d, rel_self r1.sub, by rw [List.append_nil]; exact wrs_of dz, ?_⟩
    refine freeze_ok (wE := w) (σ := σ) r1 r1.sub (fun d q v H' Hb' e1 e2 e3 fr z => ?_) (fun e q H' cls d e1 er => ?_) (fun q => ?_)
    · have g2 : Good (repW X.K) X.K X.mg w H0 Hb0 as1 Hb1 σ Q (.ok (.d d) M1) := by
        have : (f ds).to M1 = .ok (.d d) M1 := by rw [← hpd]; unfold PF.pure; rw [q]; rfl
        rw [← this]; exact g1
      exact g2 v as1 Hb' H' (r1.grow e1 e2 e3 fr) ⟨e2, [], by simp⟩ z
    · have g2 : Good (repW X.K) X.K X.mg w H0 Hb0 as1 Hb1 σ Q (.exc e M1) := by
        have : (f ds).to M1 = .exc e M1 := by rw [← hpd]; unfold PF.pure; rw [q]; rfl
        rw [← this]; exact g1
      exact g2 as1 Hb1 H' cls d (r1.grow e1 (Same.refl _) (r1.sub.trans e1) (fun a h1 h2 => absurd h2 h1)) Fut.refl er
    · exact ne (by rw [← hpd]; unfold PF.pure; rw [q])
theorem je_callQN (hF : IsPureW X.prog X.w X.K X.mg X.base k x ps f) (hr : Room k X.A) (ha : JA X w (e :: es) pa) (hg : Gl X x := by rfl) (hdb : (x == ("__debug__" : Str)) = false := by decide)
    (he : starEach (e :: es) X.env = (false, eval e X.env) :: starEach es X.env := by rfl) (hpl : (backTo pos (starEach es X.env)).any (·.1) = false := by rfl) : JE X w (.Call (.Name x p) (e :: es) [] pos) (pCallQN f pa) := by
  obtain ⟨F, hF, hp⟩ := hF.ex
  obtain ⟨fa, fd, hm, hk, hf, hb⟩ := hF.ex
  obtain ⟨t, ea, sa⟩ := ha
  refine ⟨_, pe_callSD (E := fun _ _ _ _ => False) hf hr hg hm hk hb .nil (fun σ => pass02) ea hdb he hpl, fun H0 Hb0 as Hb H M σ s r S Q g => ?_⟩
  refine Good.bind sa r S g fun vs ws as1 Hb1 H1 M1 r1 f1 S1 w1 g1 => ?_
  cases hall : allD ws with
  | none => rw [hall] at g1; exact g1.elim
  | some ds =>
    rw [hall] at g1
    have dz := allD_ok w1 hall
    obtain ⟨dd, hdd⟩ : ∃ dd, f ds = .ok dd := by
      cases q : f ds with
      | ok d => exact ⟨d, rfl⟩
      | exc e => simp only [q] at g1; exact (show False from g1).elim
      | stuck => simp only [q] at g1; exact (show False from g1).elim
    have hpd := hp ds (by rw [hdd]; simp)
    rw [hdd] at hpd
    simp only [hdd] at g1
    refine ⟨H1, Hb1, [], Hb1, [], ds.map .d, rel_self r1.sub, by rw [List.append_nil]; exact wrs_of dz, ?_⟩
    refine freeze_ok (wE := fun _ _ _ _ => False) (σ := σ) r1 r1.sub (fun d q v H' Hb' e1 e2 e3 fr z => ?_) (fun e q H' cls d e1 er => ?_) (fun q => ?_)
    · have ed : d = dd := by
        unfold PF.pure at hpd
        rw [q] at hpd
        cases hpd
        rfl
      subst ed
      exact g1 v as1 Hb' H' (r1.grow e1 e2 e3 fr) ⟨e2, [], by simp⟩ z
    · unfold PF.pure at hpd
      rw [q] at hpd
      cases hpd
    · unfold PF.pure at hpd
      rw [q] at hpd
      cases hpd
end
end Z

set_option linter.all false
set_option autoImplicit false
set_option maxRecDepth 100000
set_option maxHeartbeats 4000000
/-! Z35: such a class of errors from what is written. -/
namespace Z
open PySem PySem.Spec PyProof.Rows L2 L2H
/-- the __init__ of the text has that form -/
structure SupT (st : Stmt) (text p fld : Str) : Prop where
  S : SupS p (defScope st)
  har : ∃ ar, ((defArgs st).posonlyargs ++ (defArgs st).args).head? = some ar ∧ ar.arg = "self"
  body : ∃ (p0 p1 p2 p3 p4 p5 p6 p7 p8 p9 q0 q1 q2 q3 : Pos) (j : Nat), defBody st = supBody text p fld p0 p1 p2 p3 p4 p5 p6 p7 p8 p9 q0 q1 q2 q3 j ∧
    ∀ (qual : Str) (L f cda cc : Addr), supEval text p p0 p1 p2 p3 p4 p5 p6 p7 p8 j (PySem.W.envX qual (defScope st) L f (.ref cda) [("__class__", cc)])
  bind : ∀ (qual : Str) (cc cda : Addr) (kV doc pm ct : Value) (an : Option Addr) (us : List Value), us.length = 2 → bindArgs (PySem.W.fnX "__init__" qual (defArgs st) (defBody st) (defScope st) [("__class__", cc)] .none kV doc pm an (.ref cda) ct) ⟨us, []⟩ = pure ([("self" : Str), p].zip us)
theorem iexc_mk {K : PySem.W.Frag} {mg : Str → Option Value} {C f cc cda : Addr} {x text p fld qual file : Str} {st : Stmt} {kV doc pm ct oc ccl cl : Value} {an od cdd cld : Option Addr} {osl ccs csl : Array (Option Value)} {vs : Array Value} {tf : Tok} {cd : ClassData} {P0 : Program}
    (T : SupT st text p fld) (gC : mg x = some (.ref C)) (O : OexC K C) (iC : PySem.W.findIn K (.ref C) "__init__" = some (some (.ref f))) (tI : PySem.W.typeIn K (.ref f) = some (.type "function"))
    (lk : K.lookup f = some ⟨oc, od, .func (PySem.W.fnX "__init__" qual (defArgs st) (defBody st) (defScope st) [("__class__", cc)] .none kV doc pm an (.ref cda) ct), osl⟩) (hcd : PySem.W.codeIn K (.ref cda) qual = true)
    (lc : K.lookup cda = some ⟨ccl, cdd, .fields vs, ccs⟩) (hvs : vs[2]? = some (.str file tf)) (hfile : ((P0.main.file : Str) == file) = true) (htop : (P0.main.scope.names.lookup ("super" : Str)).isSome = false)
    (lcell : K.lookup cc = some ⟨cl, cld, .cell (some (.ref C)), csl⟩) (hcls : PySem.W.clsIn K C = some cd) (hal : PySem.W.ks_superIn K C C "__init__" = some (some (.builtin "ValueError.__init__")))
    (hself : PySem.W.mroIn K C (.ref C) = some true) (hopq : PySem.W.nsIn K PySem.cStatics "thirdparty.any" = some none) (hsub : PySem.W.subIn K (.ref C) (.type "ValueError") = some true) (hno : PySem.W.findIn K (.ref C) fld = some none)
    (hm : mg "super" = none) (hm2 : mg "str" = none) {P : Program} {w : World} {base : Heap} (hP : P.main = P0.main) : IExc P w K mg base x text fld := by
  obtain ⟨ar, har, hsl⟩ := T.har
  obtain ⟨p0, p1, p2, p3, p4, p5, p6, p7, p8, p9, q0, q1, q2, q3, j, hb, hev⟩ := T.body
  have lk' := lk
  rw [hb] at lk'
  have SC : SupC K P C f cc cda := ⟨O, ⟨_, _, _, _, ar, lk, har, hsl⟩, ⟨_, _, vs, _, file, tf, lc, hvs, by rw [hP]; exact hfile⟩, by rw [hP]; exact htop, ⟨_, _, _, lcell⟩, ⟨cd, hcls, by unfold PySem.W.ks_superIn at hal; rw [hcls] at hal; exact hal⟩, hself, hopq, hsub⟩
  have B : Binds K (PySem.W.fnX "__init__" qual (defArgs st) (defBody st) (defScope st) [("__class__", cc)] .none kV doc pm an (.ref cda) ct) [("self" : Str), p] [] := .all fun us hl => T.bind qual cc cda kV doc pm ct an us hl
  rw [hb] at B
  exact ⟨C, f, _, p, gC, O, iC, tI, sup_fn lk' hcd SC T.S hm hm2 hno fun L => hev qual L f cda cc, sup_fnH lk' hcd SC T.S hm hm2 hno fun L => hev qual L f cda cc, B⟩
end Z

set_option linter.all false
set_option autoImplicit false
set_option maxRecDepth 100000
set_option maxHeartbeats 4000000
/-! Z36: steps on numbers and texts. -/
namespace Z
open PySem PySem.Spec PyProof.Rows L2 L2H
section
variable {a b : PEx} {s : Sl} {M M' M'' : Ms} {i j : Int} {x y : Str}
theorem mulE (ha : a s M = .ok (.d (.int i)) M') (hb : b s M' = .ok (.d (.int j)) M'') (h : (-18446744073709551616 < i ∧ i < 18446744073709551616) ∨ (-18446744073709551616 < j ∧ j < 18446744073709551616)) : pOp gMulI a b s M = .ok (.d (.int (i * j))) M'' := by
  rw [op_ok ha hb, mul_ok h]
theorem modE (ha : a s M = .ok (.d (.int i)) M') (hb : b s M' = .ok (.d (.int j)) M'') (h : j ≠ 0) : pOp gModI a b s M = .ok (.d (.int (i.fmod j))) M'' := by
  rw [op_ok ha hb, mod_ok h]
theorem divE (ha : a s M = .ok (.d (.int i)) M') (hb : b s M' = .ok (.d (.int j)) M'') (h : j ≠ 0) (h2 : j.natAbs < 1073741824) : pOp gDivI a b s M = .ok (.d (.int (i.fdiv j))) M'' := by
  rw [op_ok ha hb, div_ok h h2]
theorem catE (ha : a s M = .ok (.d (.str x)) M') (hb : b s M' = .ok (.d (.str y)) M'') (h : x.length + y.length ≤ 10000000) : pOp gAddS a b s M = .ok (.d (.str (x ++ y))) M'' := by
  rw [op_ok ha hb]
  unfold gAddS gStr
  simp only
  rw [if_pos (Nat.le_trans h (by decide))]
theorem len_str {k : Nat} (h : s[k]? = some (some (.d (.str x)))) : pCall gLen (pCons (pVar k) pNil) s M = .ok (.d (.int x.length)) M := by
  rw [call1 (var_ok h)]
  rfl
theorem lenE_str (h : a s M = .ok (.d (.str x)) M') : pCall gLen (pCons a pNil) s M = .ok (.d (.int x.length)) M' := by
  rw [call1 h]
  rfl
theorem lenE_list {ds : List PyData} (h : a s M = .ok (.d (.list ds)) M') : pCall gLen (pCons a pNil) s M = .ok (.d (.int ds.length)) M' := by
  rw [call1 h]
  simp [gLen, lenW, itemsL]
theorem ixL_ok {ds : List PyData} {n : Nat} {d : PyData} (ha : a s M = .ok (.d (.list ds)) M') (hb : b s M' = .ok (.d (.int n)) M'') (h : ds[n]? = some d) : pOp gIx a b s M = .ok (.d d) M'' := by
  rw [op_ok ha hb]
  unfold gIx itemsL
  simp only
  rw [atI_nat, List.getElem?_map, h]
  rfl
theorem eqE {d e : PyData} (ha : a s M = .ok (.d d) M') (hb : b s M' = .ok (.d e) M'') (h1 : SeqAt.shaped d = true) (h2 : SeqAt.shaped e = true) : pOp gEqD a b s M = .ok (.d (.bool (PyData.eqv d e))) M'' := by
  rw [op_ok ha hb]
  unfold gEqD view
  simp only [h1, h2, and_self, if_true]
theorem neE {d e : PyData} (ha : a s M = .ok (.d d) M') (hb : b s M' = .ok (.d e) M'') (h1 : SeqAt.shaped d = true) (h2 : SeqAt.shaped e = true) : pOp gNeD a b s M = .ok (.d (.bool (!PyData.eqv d e))) M'' := by
  rw [op_ok ha hb]
  unfold gNeD view
  simp only [h1, h2, and_self, if_true]
end
/-! ### signs of a text among others -/
def inC (S : Str) (c : Nat) : Bool := decide (c ∈ S.cps.toList)
def allIn (S w : Str) : Bool := w.cps.toList.all (inC S)
theorem ninC {S : Str} {c : Nat} {M : Ms} : gNinS (.d (.str ⟨#[c]⟩)) (.d (.str S)) M = .ok (.d (.bool (!inC S c))) M := by
  show R.ok (W.d (.bool (!(!(Builtin.Str.occurrences S ⟨#[c]⟩ 0 S.length 1).isEmpty)))) M = _
  rw [PySem.StrLaws.found_one]
  rfl
def ninW (S : Str) (x : W) : Bool := match x with
  | .d (.str z) => !(!(Builtin.Str.occurrences S z 0 S.length 1).isEmpty)
  | _ => false
theorem lc_signs {S w : Str} {s : Sl} {M : Ms} {i j : Nat} (h : s[i]? = some (some (.d (.str w)))) (hj : j < s.length) (hw : w.length ≤ 1000000) :
    pLc (pItS (pVar i)) (qName j) (pB (pOp gNinS (pVar j) (pC (.str S)))) (pVar j) [j] s M = .ok ((w.cps.toList.filter fun c => !inC S c).map fun c => W.d (.str ⟨#[c]⟩)) M := by
  unfold pLc pItS
  rw [var_ok h]
  simp only [R.bind]
  rw [if_pos (by rw [List.length_map]; exact Nat.le_trans (show w.cps.toList.length ≤ 1000000 by simpa [Str.length] using hw) (by decide))]
  rw [lcL_pure (ninW S) id]
  · rw [List.nil_append, List.map_id, List.filter_map]
    congr 2
    refine List.filter_congr fun c _ => ?_
    show (!(!(Builtin.Str.occurrences S ⟨#[c]⟩ 0 S.length 1).isEmpty)) = _
    rw [PySem.StrLaws.found_one]
    rfl
  · intro x hx
    obtain ⟨c, _, rfl⟩ := List.mem_map.mp hx
    have v : ((wipeS s [j]).set j (some (W.d (.str ⟨#[c]⟩))))[j]? = some (some (.d (.str ⟨#[c]⟩))) := List.getElem?_set_self (by simpa [wipeS] using hj)
    refine ⟨_, rfl, ?_, fun _ => var_ok v⟩
    refine pB_ok ?_
    rw [op_ok (var_ok v) (y := .d (.str S)) (M'' := M) rfl]
    rfl
theorem allD_signs (l : List Nat) : allD (l.map fun c => W.d (.str ⟨#[c]⟩)) = some (l.map fun c => .str ⟨#[c]⟩) := by
  rw [show l.map (fun c => W.d (.str ⟨#[c]⟩)) = (l.map fun c => PyData.str ⟨#[c]⟩).map W.d by rw [List.map_map]; rfl]
  exact allD_map _
theorem bad_signs {S w : Str} {s : Sl} {M : Ms} {i j : Nat} (h : s[i]? = some (some (.d (.str w)))) (hj : j < s.length) (hw : w.length ≤ 1000000) :
    pTru (pDat (pLc (pItS (pVar i)) (qName j) (pB (pOp gNinS (pVar j) (pC (.str S)))) (pVar j) [j])) s M = .ok (!allIn S w) M := by
  refine tru_ok (dat_ok (lc_signs h hj hw) (allD_signs _)) ?_
  simp only [truth, Option.some.injEq]
  unfold allIn
  rw [List.isEmpty_map]
  generalize w.cps.toList = l
  induction l with
  | nil => rfl
  | cons c l ih =>
    rw [List.all_cons]
    cases h : inC S c with
    | true =>
      rw [List.filter_cons_of_neg (by simp [h]), ih, Bool.true_and]
    | false =>
      rw [List.filter_cons_of_pos (by simp [h])]
      rfl
end Z

set_option linter.all false
set_option autoImplicit false
set_option maxRecDepth 100000
set_option maxHeartbeats 4000000
/-! Z37: slices, loops that run while a test holds. -/
namespace Z
open PySem PySem.Spec PyProof.Rows L2 L2H
section
variable {a b : PEx} {s : Sl} {M M' M'' : Ms}
theorem cut_to {α : Type} (xs : List α) (n : Nat) : cutW xs none (some (n : Int)) = xs.take n := by
  unfold cutW
  rw [HT.sIx_none, HT.sIx_nat]
  show (xs.drop 0).take (min n xs.length - 0) = _
  rw [List.drop_zero, Nat.sub_zero]
  by_cases h : n ≤ xs.length
  · rw [Nat.min_eq_left h]
  · rw [Nat.min_eq_right (by omega), List.take_of_length_le (by omega), List.take_of_length_le (by omega)]
theorem cut_from {α : Type} (xs : List α) (n : Nat) : cutW xs (some (n : Int)) none = xs.drop n := by
  unfold cutW
  rw [HT.sIx_none, HT.sIx_nat]
  by_cases h : n ≤ xs.length
  · rw [Nat.min_eq_left h, List.take_of_length_le (by rw [List.length_drop]; omega)]
  · rw [List.drop_eq_nil_of_le (show xs.length ≤ n by omega), List.drop_eq_nil_of_le (by rw [Nat.min_eq_right (by omega)]; omega), List.take_nil]
theorem cut_last {α : Type} (xs : List α) : cutW xs none (some (-1)) = xs.dropLast := by
  unfold cutW
  rw [HT.sIx_none]
  show (xs.drop 0).take ((-1 + (xs.length : Int)).toNat - 0) = _
  rw [List.drop_zero, List.dropLast_eq_take, Nat.sub_zero]
  congr 1
  omega
theorem so_nat {n : Nat} (h : a s M = .ok (.d (.int n)) M') : pSo a s M = .ok (some (n : Int)) M' := by unfold pSo; rw [h]; rfl
theorem slL_to {ds : List PyData} {n : Nat} (ha : a s M = .ok (.d (.list ds)) M') (hb : b s M' = .ok (.d (.int n)) M'') : pDat (pSlL a pNo (pSo b)) s M = .ok (.d (.list (ds.take n))) M'' := by
  refine dat_ok (ws := (ds.take n).map .d) ?_ (allD_map _)
  unfold pSlL
  rw [ha]
  simp only [R.bind, pNo, so_nat hb, itemsL]
  rw [cut_to, List.map_take]
theorem slL_from {ds : List PyData} {n : Nat} (ha : a s M = .ok (.d (.list ds)) M') (hb : b s M' = .ok (.d (.int n)) M'') : pDat (pSlL a (pSo b) pNo) s M = .ok (.d (.list (ds.drop n))) M'' := by
  refine dat_ok (ws := (ds.drop n).map .d) ?_ (allD_map _)
  unfold pSlL
  rw [ha]
  simp only [R.bind, pNo, so_nat hb, itemsL]
  rw [cut_from, List.map_drop]
theorem slL_last {ds : List PyData} (ha : a s M = .ok (.d (.list ds)) M') : pDat (pSlL a pNo (pSo (pNeg (pC (.int 1))))) s M = .ok (.d (.list ds.dropLast)) M' := by
  refine dat_ok (ws := ds.dropLast.map .d) ?_ (allD_map _)
  unfold pSlL
  rw [ha]
  have e : pSo (pNeg (pC (.int 1))) s M' = .ok (some (-1)) M' := rfl
  simp only [R.bind, pNo, e, itemsL]
  rw [cut_last, List.map_dropLast]
theorem while_stop {c : PTx} {p : PSx} {n : Nat} (h : c s M = .ok false M') : whileL c p (n + 1) s M = .nx s M' := by
  rw [whileL, h]
  rfl
theorem while_go {c : PTx} {p : PSx} {n : Nat} {s' : Sl} (h : c s M = .ok true M') (h2 : p s M' = .nx s' M'') : whileL c p (n + 1) s M = whileL c p n s' M'' := by
  rw [whileL, h]
  show (match p s M' with | .nx s2 M2 => whileL c p n s2 M2 | .ct s2 M2 => whileL c p n s2 M2 | .bk s2 M2 => O.nx s2 M2 | .rt x M2 => .rt x M2 | .exc e s2 M2 => .exc e s2 M2 | .stuck => .stuck) = _
  rw [h2]
end
end Z

set_option linter.all false
set_option autoImplicit false
set_option maxRecDepth 100000
set_option maxHeartbeats 4000000
/-! Z38: texts. -/
namespace Z
open PySem PySem.Spec PyProof.Rows L2 L2H
theorem cutS_to (m : Str) (n : Nat) : TL.tl (cutS m none (some (n : Int))) = (TL.tl m).take n := by
  show ((TL.tl m).drop (HT.sIx m.length 0 none)).take (HT.sIx m.length m.length (some (n : Int)) - HT.sIx m.length 0 none) = _
  rw [HT.sIx_none, HT.sIx_nat, List.drop_zero, Nat.sub_zero, TL.len_tl]
  by_cases h : n ≤ (TL.tl m).length
  · rw [Nat.min_eq_left h]
  · rw [Nat.min_eq_right (by omega), List.take_of_length_le (by omega), List.take_of_length_le (by omega)]
theorem starts_iff (m p : Str) : Txt.startswith m p = true ↔ (TL.tl m).take p.length = TL.tl p := by
  unfold Txt.startswith
  rw [PySem.StrLaws.subAt_eq, List.drop_zero, Bool.and_eq_true, beq_iff_eq, decide_eq_true_eq]
  constructor
  · exact fun h => h.2
  · intro h
    refine ⟨?_, h⟩
    have e := congrArg List.length h
    rw [List.length_take, ← TL.len_tl, ← TL.len_tl] at e
    omega
theorem starts_cut (m p : Str) : Txt.startswith m p = (cutS m none (some (p.length : Int)) == p) := by
  rw [Bool.eq_iff_iff, starts_iff, beq_iff_eq]
  constructor
  · intro h
    refine TL.ext_tl ?_
    rw [cutS_to]
    exact h
  · intro h
    rw [← cutS_to, h]
section
variable {a b : PEx} {s : Sl} {M M' M'' : Ms} {x y : Str}
theorem cutE_to {n : Nat} (ha : a s M = .ok (.d (.str x)) M') (hb : b s M' = .ok (.d (.int n)) M'') (hx : x.length ≤ 1000000) : pSlS a pNo (pSo b) s M = .ok (.d (.str (cutS x none (some (n : Int))))) M'' := by
  unfold pSlS
  rw [ha]
  simp only [R.bind, pNo, so_nat hb]
  rw [if_pos (Nat.le_trans (cutS_length _ _ _) (Nat.le_trans hx (by decide)))]
theorem strOk_cut {z : Str} {lo hi : Option Int} (h : PyData.strOk z = true) : PyData.strOk (cutS z lo hi) = true := by
  unfold PyData.strOk at *
  rw [← Array.all_toList, List.all_eq_true] at *
  intro c hc
  exact h c (List.mem_of_mem_drop (List.mem_of_mem_take hc))
variable {e : Exn} {pa r : PAx} {p : PEx} {u : W} {i : Nat}
theorem cons_exc1 (h : a s M = .exc e M') : pCons a r s M = .exc e M' := by unfold pCons; rw [h]; rfl
theorem cons_exc2 (h : a s M = .ok u M') (h2 : r s M' = .exc e M'') : pCons a r s M = .exc e M'' := by unfold pCons; rw [h]; simp only [R.bind, h2]
theorem callQ_exc {q : List PyData → PR} {dd : List PyData} (h : pa s M = .exc e M') : pCallQ q dd pa s M = .exc e M' := by unfold pCallQ; rw [h]; rfl
theorem set_exc (h : p s M = .exc e M') : pSet i p s M = .exc e s M' := by unfold pSet; rw [h]; rfl
theorem ret_exc (h : p s M = .exc e M') : pRet p s M = .exc e s M' := by unfold pRet; rw [h]; rfl
theorem tup_exc (h : pa s M = .exc e M') : pTup pa s M = .exc e M' := by unfold pTup; rw [h]; rfl
theorem drop_exc (h : p s M = .exc e M') : pDrop p s M = .exc e s M' := by unfold pDrop; rw [h]; rfl
end
end Z

set_option linter.all false
set_option autoImplicit false
set_option maxRecDepth 100000
set_option maxHeartbeats 4000000
/-! Z39: data of ints, texts, tuples and lists: == is equality. -/
namespace Z
open PySem PySem.Spec PyProof.Rows L2 L2H
def okD : Nat → PyData → Bool
  | _, .int _ => true
  | _, .str s => PyData.strOk s
  | n + 1, .list ds => ds.all (okD n)
  | n + 1, .tuple ds => ds.all (okD n)
  | _, _ => false
theorem canLay_all : ∀ {ds : List PyData}, (∀ d ∈ ds, d.canLay0 = true) → PyData.canLayAll0 ds = true
  | [], _ => by simp [PyData.canLayAll0]
  | d :: ds, h => by
    rw [PyData.canLayAll0, h d List.mem_cons_self, canLay_all fun x hx => h x (List.mem_cons_of_mem _ hx)]
    rfl
theorem depth_all {n : Nat} : ∀ {ds : List PyData}, (∀ d ∈ ds, d.depth ≤ n) → PyData.depthAll ds ≤ n
  | [], _ => by simp [PyData.depthAll]
  | d :: ds, h => by
    rw [PyData.depthAll]
    exact Nat.max_le.mpr ⟨h d List.mem_cons_self, depth_all fun x hx => h x (List.mem_cons_of_mem _ hx)⟩
theorem okD_shape : ∀ (n : Nat) (d : PyData), okD n d = true → d.canLay0 = true ∧ d.depth ≤ n
  | n, .int _, _ => ⟨by simp [PyData.canLay0], by simp [PyData.depth]⟩
  | n, .str s, h => ⟨by cases n <;> simpa [PyData.canLay0, okD] using h, by simp [PyData.depth]⟩
  | 0, .list ds, h => by simp [okD] at h
  | 0, .tuple ds, h => by simp [okD] at h
  | n + 1, .list ds, h => by
    have h' : ∀ d ∈ ds, okD n d = true := by simpa [okD] using h
    refine ⟨?_, ?_⟩
    · rw [PyData.canLay0]
      exact canLay_all fun d hd => (okD_shape n d (h' d hd)).1
    · rw [PyData.depth]
      exact Nat.succ_le_succ (depth_all fun d hd => (okD_shape n d (h' d hd)).2)
  | n + 1, .tuple ds, h => by
    have h' : ∀ d ∈ ds, okD n d = true := by simpa [okD] using h
    refine ⟨?_, ?_⟩
    · rw [PyData.canLay0]
      exact canLay_all fun d hd => (okD_shape n d (h' d hd)).1
    · rw [PyData.depth]
      exact Nat.succ_le_succ (depth_all fun d hd => (okD_shape n d (h' d hd)).2)
  | 0, .none, h => by simp [okD] at h
  | n + 1, .none, h => by simp [okD] at h
  | 0, .bool _, h => by simp [okD] at h
  | n + 1, .bool _, h => by simp [okD] at h
  | 0, .dict _, h => by simp [okD] at h
  | n + 1, .dict _, h => by simp [okD] at h
theorem okD_shaped {n : Nat} {d : PyData} (h : okD n d = true) (hn : n ≤ 64) : SeqAt.shaped d = true := by
  obtain ⟨a, b⟩ := okD_shape n d h
  unfold SeqAt.shaped
  rw [a, Bool.true_and]
  exact decide_eq_true (Nat.le_trans b hn)
theorem eqvAll_iff {n : Nat} (ih : ∀ d e, okD n d = true → okD n e = true → (PyData.eqv d e = true ↔ d = e)) : ∀ (xs ys : List PyData), (∀ d ∈ xs, okD n d = true) → (∀ d ∈ ys, okD n d = true) → (PyData.eqvAll xs ys = true ↔ xs = ys)
  | [], [], _, _ => by simp [PyData.eqvAll]
  | [], _ :: _, _, _ => by simp [PyData.eqvAll]
  | _ :: _, [], _, _ => by simp [PyData.eqvAll]
  | x :: xs, y :: ys, hx, hy => by
    rw [PyData.eqvAll, Bool.and_eq_true, ih x y (hx x List.mem_cons_self) (hy y List.mem_cons_self), eqvAll_iff ih xs ys (fun d hd => hx d (List.mem_cons_of_mem _ hd)) (fun d hd => hy d (List.mem_cons_of_mem _ hd))]
    simp
theorem okD_eqv : ∀ (n : Nat) (d e : PyData), okD n d = true → okD n e = true → (PyData.eqv d e = true ↔ d = e) := by
  intro n
  induction n with
  | zero =>
    intro d e hd he
    cases d <;> cases e <;> simp [okD] at hd he <;> simp [PyData.eqv]
  | succ n ih =>
    intro d e hd he
    cases d <;> cases e <;> simp only [okD] at hd he <;> (try cases hd) <;> (try cases he) <;> simp only [PyData.eqv, List.all_eq_true] at * <;> first
      | (rw [eqvAll_iff ih _ _ hd he]; simp; done)
      | simp
theorem okD_int (n : Nat) (i : Int) : okD n (.int i) = true := by cases n <;> rfl
theorem okD_str {n : Nat} {x : Str} (h : PyData.strOk x = true) : okD n (.str x) = true := by cases n <;> exact h
theorem eqv_strs {x y : Str} (h1 : PyData.strOk x = true) (h2 : PyData.strOk y = true) : PyData.eqv (.str x) (.str y) = decide (x = y) := by
  rw [Bool.eq_iff_iff, okD_eqv 0 _ _ (okD_str h1) (okD_str h2), decide_eq_true_eq, PyData.str.injEq]
theorem okD_strs {n : Nat} {ms : List Str} (h : ∀ z ∈ ms, PyData.strOk z = true) : okD (n + 1) (.list (ms.map .str)) = true := by
  simp only [okD, List.all_eq_true]
  intro d hd
  obtain ⟨z, hz, rfl⟩ := List.mem_map.mp hd
  exact okD_str (h z hz)
theorem okD_strsT {n : Nat} {ms : List Str} (h : ∀ z ∈ ms, PyData.strOk z = true) : okD (n + 1) (.tuple (ms.map .str)) = true := okD_strs (n := n) h
section
variable {a b : PEx} {s : Sl} {M M' M'' : Ms}
theorem eqO {n : Nat} {d e : PyData} (ha : a s M = .ok (.d d) M') (hb : b s M' = .ok (.d e) M'') (h1 : okD n d = true) (h2 : okD n e = true) (hn : n ≤ 64) : pB (pOp gEqD a b) s M = .ok (PyData.eqv d e) M'' := by
  refine pB_ok ?_
  rw [eqE ha hb (okD_shaped h1 hn) (okD_shaped h2 hn)]
theorem neO {n : Nat} {d e : PyData} (ha : a s M = .ok (.d d) M') (hb : b s M' = .ok (.d e) M'') (h1 : okD n d = true) (h2 : okD n e = true) (hn : n ≤ 64) : pB (pOp gNeD a b) s M = .ok (!PyData.eqv d e) M'' := by
  refine pB_ok ?_
  rw [neE ha hb (okD_shaped h1 hn) (okD_shaped h2 hn)]
theorem eqS {x y : Str} (ha : a s M = .ok (.d (.str x)) M') (hb : b s M' = .ok (.d (.str y)) M'') (h1 : PyData.strOk x = true) (h2 : PyData.strOk y = true) : pB (pOp gEqD a b) s M = .ok (decide (x = y)) M'' := by
  rw [eqO (n := 0) ha hb (okD_str h1) (okD_str h2) (by decide), eqv_strs h1 h2]
theorem neS {x y : Str} (ha : a s M = .ok (.d (.str x)) M') (hb : b s M' = .ok (.d (.str y)) M'') (h1 : PyData.strOk x = true) (h2 : PyData.strOk y = true) : pB (pOp gNeD a b) s M = .ok (!decide (x = y)) M'' := by
  rw [neO (n := 0) ha hb (okD_str h1) (okD_str h2) (by decide), eqv_strs h1 h2]
theorem any_eq {x : Str} {ms : List Str} (hx : PyData.strOk x = true) (hm : ∀ z ∈ ms, PyData.strOk z = true) : ((ms.map PyData.str).any fun z => PyData.eqv z (.str x)) = decide (x ∈ ms) := by
  rw [Bool.eq_iff_iff, List.any_map, List.any_eq_true, decide_eq_true_eq]
  constructor
  · rintro ⟨z, hz, e⟩
    have e' := (okD_eqv 0 (.str z) (.str x) (okD_str (hm z hz)) (okD_str hx)).mp e
    cases e'
    exact hz
  · intro h
    exact ⟨x, h, (okD_eqv 0 (.str x) (.str x) (okD_str hx) (okD_str hx)).mpr rfl⟩
theorem inS {neg : Bool} {x : Str} {ms : List Str} (ha : a s M = .ok (.d (.str x)) M') (hb : b s M' = .ok (.d (.list (ms.map .str))) M'') (hx : PyData.strOk x = true) (hm : ∀ z ∈ ms, PyData.strOk z = true) : pB (pOp (gInD neg) a b) s M = .ok (xor neg (decide (x ∈ ms))) M'' := by
  refine pB_ok ?_
  rw [op_ok ha hb]
  unfold gInD view
  simp only
  rw [if_pos ⟨okD_shaped (n := 0) (okD_str hx) (by decide), okD_shaped (n := 1) (okD_strs hm) (by decide)⟩, any_eq hx hm]
theorem anyF_eq {x : Str} {ms : List Str} : ((ms.map PyData.str).any fun z => eqF z (.str x)) = decide (x ∈ ms) := by
  rw [Bool.eq_iff_iff, List.any_map, List.any_eq_true, decide_eq_true_eq]
  constructor
  · rintro ⟨z, hz, e⟩
    have e' : (z == x) = true := e
    rw [beq_iff_eq] at e'
    exact e' ▸ hz
  · intro h
    exact ⟨x, h, show (x == x) = true from beq_self_eq_true x⟩
theorem inT {neg : Bool} {x : Str} {ms : List Str} (ha : a s M = .ok (.d (.str x)) M') (hb : b s M' = .ok (.d (.tuple (ms.map .str))) M'') : pB (pOp (gInT neg) a b) s M = .ok (xor neg (decide (x ∈ ms))) M'' := by
  refine pB_ok ?_
  rw [op_ok ha hb]
  unfold gInT
  simp only
  rw [if_pos ⟨rfl, by rw [List.all_map]; simp [flatD, Function.comp_def]⟩, anyF_eq]
end
end Z

set_option linter.all false
set_option autoImplicit false
set_option maxRecDepth 100000
set_option maxHeartbeats 4000000
/-! Z40: sorted lists of distinct texts. -/
namespace Z
open PySem PySem.Spec PyProof.Rows L2 L2H
def ltS (a b : Str) : Prop := a.cps.toList < b.cps.toList
theorem ltS_irrefl (a : Str) : ¬ ltS a a := List.lt_irrefl _
theorem ltS_of {a b : Str} (h : leS a b) (hn : a ≠ b) : ltS a b := by
  rcases List.le_iff_lt_or_eq.mp h with h | h
  · exact h
  · refine absurd ?_ hn
    cases a; cases b
    simp only [Str.mk.injEq]
    exact Array.toList_inj.mp h
/-- the texts of l, once each, as they were met -/
def setS (l : List Str) : List Str := l.foldl addU []
theorem addU_mem {l : List Str} {k x : Str} : x ∈ addU l k ↔ x ∈ l ∨ x = k := by
  unfold addU
  split
  · rename_i h
    exact ⟨.inl, fun h' => h'.elim id fun e => e ▸ h⟩
  · simp
theorem addU_nodup {l : List Str} {k : Str} (h : l.Nodup) : (addU l k).Nodup := by
  unfold addU
  split
  · exact h
  · rename_i hk
    exact List.nodup_append.mpr ⟨h, by simp, fun a ha b hb => by simp at hb; subst hb; exact fun e => hk (e ▸ ha)⟩
theorem foldU_mem {x : Str} : ∀ (l acc : List Str), x ∈ l.foldl addU acc ↔ x ∈ acc ∨ x ∈ l
  | [], acc => by simp
  | k :: l, acc => by
    rw [List.foldl_cons, foldU_mem l, addU_mem, List.mem_cons, or_assoc]
theorem foldU_nodup : ∀ (l acc : List Str), acc.Nodup → (l.foldl addU acc).Nodup
  | [], _, h => h
  | _ :: l, _, h => foldU_nodup l _ (addU_nodup h)
theorem foldU_len : ∀ (l acc : List Str), (l.foldl addU acc).length ≤ acc.length + l.length
  | [], acc => by simp
  | k :: l, acc => by
    have a := foldU_len l (addU acc k)
    have b := addU_len acc k
    rw [List.foldl_cons, List.length_cons]
    omega
def ssS (l : List Str) : List Str := sortS (setS l)
theorem ssS_mem {l : List Str} {x : Str} : x ∈ ssS l ↔ x ∈ l := by
  unfold ssS
  rw [(sortS_perm _).mem_iff, setS, foldU_mem]
  simp
theorem ssS_nodup (l : List Str) : (ssS l).Nodup := (sortS_perm _).nodup_iff.mpr (foldU_nodup l [] .nil)
theorem pw_lt : ∀ {l : List Str}, l.Pairwise leS → l.Nodup → l.Pairwise ltS
  | [], _, _ => .nil
  | a :: l, h, n => .cons (fun b hb => ltS_of (List.rel_of_pairwise_cons h hb) fun e => (List.nodup_cons.mp n).1 (e ▸ hb)) (pw_lt h.of_cons (List.nodup_cons.mp n).2)
theorem ssS_up (l : List Str) : (ssS l).Pairwise ltS := pw_lt (sortS_pw _) (ssS_nodup l)
theorem up_nodup {l : List Str} (h : l.Pairwise ltS) : l.Nodup := by
  refine List.Pairwise.imp ?_ h
  intro a b hab e
  rw [e] at hab
  exact ltS_irrefl _ hab
theorem up_le {l : List Str} (h : l.Pairwise ltS) : l.Pairwise leS := h.imp fun hab => List.le_of_lt hab
theorem up_uniq {l m : List Str} (hl : l.Pairwise ltS) (hm : m.Pairwise ltS) (h : ∀ x, x ∈ l ↔ x ∈ m) : l = m :=
  perm_uniq ((List.perm_ext_iff_of_nodup (up_nodup hl) (up_nodup hm)).mpr h) (up_le hl) (up_le hm) fun _ _ _ _ => leS_anti
theorem ssS_self {l : List Str} (h : l.Pairwise ltS) : ssS l = l := up_uniq (ssS_up l) h fun _ => ssS_mem
theorem ssS_self_iff (l : List Str) : ssS l = l ↔ l.Pairwise ltS := ⟨fun h => h ▸ ssS_up l, ssS_self⟩
theorem ssS_congr {l m : List Str} (h : ∀ x, x ∈ l ↔ x ∈ m) : ssS l = ssS m := up_uniq (ssS_up l) (ssS_up m) fun x => by rw [ssS_mem, ssS_mem, h]
theorem scL_strs {k : Nat} {s : Sl} {M : Ms} : ∀ (l acc : List Str), k < s.length → scL (qName k) pYes (pVar k) s (strsW l) acc M = .ok (l.foldl addU acc) M
  | [], acc, _ => rfl
  | x :: l, acc, h => by
    show scL _ _ _ _ (W.d (.str x) :: strsW l) acc M = _
    rw [scL]
    have e1 : qName k (W.d (.str x)) s M = some (s.set k (some (W.d (.str x)))) := rfl
    have e2 : pVar k (s.set k (some (W.d (.str x)))) M = .ok (.d (.str x)) M := var_ok (List.getElem?_set_self h)
    rw [e1]
    simp only [pYes, R.bindN, if_true, e2]
    exact scL_strs l (addU acc x) h
theorem sortSc_ok {p : PEx} {k : Nat} {s : Sl} {M M' : Ms} {ms : List Str} (h : p s M = .ok (.d (.list (ms.map .str))) M') (hk : k < s.length) (hm : ms.length < 999) : pDat (pSortSc (pItL p) (qName k) pYes (pVar k) [k]) s M = .ok (.d (.list ((ssS ms).map .str))) M' := by
  refine dat_ok (ws := strsW (ssS ms)) ?_ (allD_strs _)
  unfold pSortSc pScX pItL
  rw [h]
  simp only [R.bind, itemsL]
  rw [if_pos (by simpa using hm)]
  have e : List.map W.d (List.map PyData.str ms) = strsW ms := by rw [List.map_map]; rfl
  rw [e, scL_strs ms [] (by simpa [wipeS] using hk)]
  rfl
end Z

set_option linter.all false
set_option autoImplicit false
set_option maxRecDepth 100000
set_option maxHeartbeats 4000000
/-! Z41: figures, signs, chains of comparisons. -/
namespace Z
open PySem PySem.Spec PyProof.Rows L2 L2H
section
variable {a b c : PEx} {s : Sl} {M M' M'' : Ms} {i j k : Int}
theorem chain_ok (ha : a s M = .ok (.d (.int i)) M) (hb : b s M = .ok (.d (.int j)) M) (hc : c s M = .ok (.d (.int k)) M) : pChain gLeI gLeI a b c s M = .ok (.d (.bool (decide (i ≤ j) && decide (j ≤ k)))) M := by
  unfold pChain
  rw [ha]
  simp only [R.bind, hb]
  by_cases h : i ≤ j
  · rw [show gLeI (.d (.int i)) (.d (.int j)) M = .ok (.d (.bool true)) M from by show R.ok (W.d (.bool (decide (i ≤ j)))) M = _; rw [decide_eq_true h]]
    simp only [hc]
    show R.ok (W.d (.bool (decide (j ≤ k)))) M = _
    rw [decide_eq_true h, Bool.true_and]
  · rw [show gLeI (.d (.int i)) (.d (.int j)) M = .ok (.d (.bool false)) M from by show R.ok (W.d (.bool (decide (i ≤ j)))) M = _; rw [decide_eq_false h]]
    simp only
    rw [decide_eq_false h, Bool.false_and]
theorem noBad_ok {S w : Str} {i j : Nat} (h : s[i]? = some (some (.d (.str w)))) (hj : j < s.length) (hw : w.length ≤ 1000000) :
    pOp gEqD (pCall gLen (pCons (pDat (pLc (pItS (pVar i)) (qName j) (pB (pOp gNinS (pVar j) (pC (.str S)))) (pVar j) [j])) (pNil))) (pC (.int 0)) s M = .ok (.d (.bool (allIn S w))) M := by
  rw [eqE (lenE_list (dat_ok (lc_signs h hj hw) (allD_signs _))) (M'' := M) (e := .int 0) rfl (shaped_int _) (shaped_int _), eqv_int]
  congr 3
  unfold allIn
  rw [List.length_map]
  generalize w.cps.toList = l
  rw [Bool.eq_iff_iff, beq_iff_eq, List.all_eq_true]
  constructor
  · intro h c hc
    have h0 : (l.filter fun c => !inC S c) = [] := List.eq_nil_of_length_eq_zero (by omega)
    have := List.filter_eq_nil_iff.mp h0 c hc
    simpa using this
  · intro h
    rw [List.filter_eq_nil_iff.mpr (fun c hc => by rw [h c hc]; simp)]
    rfl
theorem digits_lt : ∀ (l : List Nat) (a : Nat), NumText.AllDigits l → l.foldl (fun acc c => acc * 10 + (c - 48)) a < (a + 1) * 10 ^ l.length
  | [], a, _ => by simp
  | c :: l, a, h => by
    have hc := h c List.mem_cons_self
    have ih := digits_lt l (a * 10 + (c - 48)) fun d hd => h d (List.mem_cons_of_mem _ hd)
    rw [List.foldl_cons, List.length_cons, Nat.pow_succ, Nat.mul_comm (10 ^ l.length), ← Nat.mul_assoc]
    refine Nat.lt_of_lt_of_le ih (Nat.mul_le_mul_right _ ?_)
    omega
theorem digitsVal_lt {l : List Nat} (h : NumText.AllDigits l) : NumText.digitsVal l < 10 ^ l.length := by
  have := digits_lt l 0 h
  simpa [NumText.digitsVal] using this
def figS : Str := "0123456789"
theorem fig_iff {z : Str} : allIn figS z = true ↔ NumText.AllDigits z.cps.toList := by
  unfold allIn NumText.AllDigits
  rw [List.all_eq_true]
  have e : figS.cps.toList = [48, 49, 50, 51, 52, 53, 54, 55, 56, 57] := by decide
  refine forall_congr' fun c => forall_congr' fun _ => ?_
  unfold inC
  rw [e, decide_eq_true_eq]
  simp only [List.mem_cons, List.not_mem_nil, or_false]
  omega
end
end Z

set_option linter.all false
set_option autoImplicit false
set_option maxRecDepth 100000
set_option maxHeartbeats 4000000
/-! Z42: numerals and joined texts. -/
namespace Z
open PySem PySem.Spec PyProof.Rows L2 L2H
/-- the numeral of n -/
def numT (n : Nat) : Str := (toString ((n : Nat) : Int) : Str)
theorem tl_numT (n : Nat) : TL.tl (numT n) = TL.numL n := TL.tl_num n
theorem numT_len {n k : Nat} (hk : 0 < k) (h : n < 10 ^ k) : (numT n).length ≤ k := by
  rw [TL.len_tl, tl_numT]
  exact TL.numL_len hk h
theorem numT_fig (n : Nat) : allIn figS (numT n) = true := fig_iff.mpr (by
  rw [show (numT n).cps.toList = TL.numL n from tl_numT n]
  exact TL.numL_digits n)
theorem numT_ne (n : Nat) : 1 ≤ (numT n).length := by
  rw [TL.len_tl, tl_numT]
  exact List.length_pos_iff.mpr (TL.numL_ne n)
theorem numT_inj {m n : Nat} (h : numT m = numT n) : m = n := TL.numL_inj (by rw [← tl_numT, ← tl_numT, h])
theorem fig_lt : ∀ c ∈ figS.cps.toList, c < 0x110000 := by decide
theorem strOk_in {z S : Str} (hS : ∀ c ∈ S.cps.toList, c < 0x110000) (h : allIn S z = true) : PyData.strOk z = true := by
  unfold PyData.strOk
  rw [← Array.all_toList, List.all_eq_true]
  intro c hc
  unfold allIn at h
  rw [List.all_eq_true] at h
  exact decide_eq_true (hS c (of_decide_eq_true (h c hc)))
theorem numT_ok (n : Nat) : PyData.strOk (numT n) = true := strOk_in fig_lt (numT_fig n)
theorem log2_small {n : Nat} (h : n < 100000000) : ((n : Nat) : Int).natAbs.log2 < 1920 := by
  show n.log2 < 1920
  by_cases h0 : n = 0
  · subst h0; decide
  · refine (Nat.log2_lt h0).mpr (Nat.lt_of_lt_of_le h ?_)
    exact Nat.le_trans (show 100000000 ≤ 2 ^ 27 by decide) (Nat.pow_le_pow_right (by decide) (by decide))
section
variable {a b : PEx} {s : Sl} {M M' M'' : Ms} {x y : Str}
theorem strI_ok {n : Nat} (h : a s M = .ok (.d (.int n)) M') (hn : n < 100000000) : pCall gStrI (pCons a pNil) s M = .ok (.d (.str (numT n))) M' := by
  rw [call1 h]
  unfold gStrI
  simp only
  rw [if_pos ⟨log2_small hn, Nat.le_trans (numT_len (k := 8) (by decide) hn) (by decide)⟩]
  rfl
theorem raiseI_ok {c text fld : Str} {n : Nat} (h : a s M = .ok (.d (.int n)) M') (hn : n < 100000000) (ht : text.length ≤ 1000) : pRaiseI c text fld a s M = .exc ⟨c, some (fld, .int n)⟩ s M' := by
  unfold pRaiseI
  rw [h]
  simp only [R.to]
  rw [if_pos ⟨log2_small hn, by
    have := numT_len (n := n) (k := 8) (by decide) hn
    have e : (toString ((n : Nat) : Int) : Str).length = (numT n).length := rfl
    rw [e]
    have : sizeLine = 16777216 := by decide
    omega⟩]
theorem join_ok {ys : List Str} (ha : a s M = .ok (.d (.str x)) M') (hb : b s M' = .ok (.d (.list (ys.map .str))) M'') (hl : joinLen x ys ≤ 16777216) : pJoin a b s M = .ok (.d (.str (Txt.join x ys))) M'' := by
  unfold pJoin
  rw [ha]
  simp only [R.bind, hb, view, strsOf_map]
  rw [if_pos hl]
theorem catD_ok {d1 d2 : List PyData} (ha : a s M = .ok (.d (.list d1)) M') (hb : b s M' = .ok (.d (.list d2)) M'') (hl : d1.length + d2.length ≤ 1000000) : pDat (pCat a b) s M = .ok (.d (.list (d1 ++ d2))) M'' := by
  refine dat_ok (ws := (d1 ++ d2).map .d) ?_ (allD_map _)
  unfold pCat
  rw [ha]
  simp only [R.bind, hb, catW, itemsL]
  first
  | (rw [if_pos (by rw [List.length_map, List.length_map]; exact Nat.le_trans hl (by decide)), List.map_append]; done)
  | (rw [List.map_append])
theorem at_last {α : Type} {xs : List α} : atI xs (-1) = xs.getLast? := by
  unfold atI ixN
  cases xs with
  | nil => rfl
  | cons y ys =>
    rw [List.getLast?_eq_getElem?]
    simp only [List.length_cons, Nat.add_sub_cancel]
    rw [if_neg (by decide), if_pos (by omega)]
    show (y :: ys)[(-1 + ((ys.length + 1 : Nat) : Int)).toNat]? = _
    congr 1
    omega
theorem ix_last {ds : List PyData} {d : PyData} (ha : a s M = .ok (.d (.list ds)) M') (h : ds.getLast? = some d) : pOp gIx a (pNeg (pC (.int 1))) s M = .ok (.d d) M' := by
  rw [op_ok ha (y := .d (.int (-1))) (M'' := M') rfl]
  unfold gIx itemsL
  simp only
  rw [at_last, List.getLast?_map, h]
  rfl
end
end Z

set_option linter.all false
set_option autoImplicit false
set_option maxRecDepth 100000
set_option maxHeartbeats 4000000
/-! Z43: a comprehension over a list that may change (and does not while it is walked). -/
namespace Z
open PySem PySem.Spec PyProof.Rows L2 L2H
def ItOkM (K : PySem.W.Frag) (J : It) (q : Nat × List W) (as : List Addr) (Hb : Hp) : Prop :=
  ∀ (H0 Hb0 : Hp) (as' : List Addr) (Hb' H' : Hp) (M' : Ms), Rel K H0 Hb0 as' Hb' H' M' → Fut as Hb as' Hb' → M'[q.1]? = some (.lst q.2) → ∀ i,
    (∀ x, q.2[i]? = some x → J.go i H' ∧ ∀ v H2, J.yld i H' v H2 → ∃ Hb2, Rel K H0 Hb0 as' Hb2 H2 M' ∧ Fut as' Hb' as' Hb2 ∧ WR K as' Hb2 v x) ∧ (q.2[i]? = none → J.stop i H')
def repIM (K : PySem.W.Frag) : Rep It (Nat × List W) := fun _ as Hb _ J q => ItOkM K J q as Hb
def JIM (X : Cx) (w : WX) (tg iter : Expr) (p : Sl → Ms → R (Nat × List W)) : Prop := ∃ wi, PI X tg iter wi ∧ Sim (repIM X.K) X.K X.mg w wi p
def pLive (p : PEx) : Sl → Ms → R (Nat × List W) := fun s M => (p s M).bind fun x M1 => match x with
  | .r i => (match M1[i]? with
    | some (.lst ws) => .ok (i, ws) M1
    | _ => .stuck)
  | _ => .stuck
theorem jim_list {X : Cx} {w : WX} {tg l : Expr} {p : PEx} (h : JE X w l p) : JIM X w tg l (pLive p) := by
  obtain ⟨t, e1, s1⟩ := h
  refine ⟨_, pi_list e1, fun H0 Hb0 as Hb H M σ s r S Q g => ?_⟩
  refine Good.bind s1 r S g fun x x' as1 Hb1 H1 M1 r1 f1 S1 w1 g1 => ?_
  cases x' with
  | d z => exact (show False from g1).elim
  | k u => exact (show False from g1).elim
  | r i =>
    obtain ⟨a, ha, rfl⟩ := w1
    simp only at g1
    cases hm : M1[i]? with
    | none => rw [hm] at g1; exact (show False from g1).elim
    | some o =>
      rw [hm] at g1
      cases o with
      | lst ws =>
        obtain ⟨_, vs, hH, _⟩ := r1.at' i a _ ha hm
        refine ⟨a, rfl, ⟨vs, SqL.of hH⟩, Good.ok g1 r1 fun H0' Hb0' as' Hb' H' M' r' f' hM' k => ?_⟩
        obtain ⟨_, vs', hH', pw⟩ := r'.at' i a _ (f'.idx ha) hM'
        refine ⟨fun x hx => ?_, fun hx => ?_⟩
        · obtain ⟨v, hv, wv⟩ := Paired.at pw hx
          refine ⟨⟨vs', v, SqL.of hH', hv⟩, fun v2 H2 hy => ?_⟩
          obtain ⟨rfl, hy⟩ := hy
          have e : v2 = v := by
            have z := hy vs' (SqL.of hH')
            rw [hv] at z; exact (Option.some.inj z).symm
          subst e
          exact ⟨Hb', r', Fut.refl, wv⟩
        · refine ⟨vs', SqL.of hH', ?_⟩
          rw [List.getElem?_eq_none_iff] at hx
          rw [Paired.len pw]; exact hx
      | _ => exact (show False from g1).elim
open Classical in
noncomputable def lcM (i : Nat) (ws0 : List W) (g : PGx) (tt : PTx) (te : PEx) (s : Sl) : List W → List W → Ms → R (List W)
  | [], acc, M => if M[i]? = some (.lst ws0) then .ok acc M else .stuck
  | x :: ws, acc, M => if M[i]? = some (.lst ws0) then (match g x s M with
    | none => .stuck
    | some s1 => (tt s1 M).bindN fun b M1 => if b = true then (te s1 M1).bindN fun y M2 => lcM i ws0 g tt te s ws (acc ++ [y]) M2 else lcM i ws0 g tt te s ws acc M1) else .stuck
noncomputable def pLcM (it : Sl → Ms → R (Nat × List W)) (g : PGx) (tt : PTx) (te : PEx) (vs : List Nat) : PAx := fun s M => (it s M).bind fun q M1 => if q.2.length ≤ sizeLine then lcM q.1 q.2 g tt te (wipeS s vs) q.2 [] M1 else .stuck
section
variable {X : Cx} {w : WX}
theorem lcM_live {i : Nat} {ws0 : List W} {g : PGx} {tt : PTx} {te : PEx} {s : Sl} {ws acc : List W} {M : Ms} {K : PySem.W.Frag} {mg : Str → Option Value} {H0 Hb0 Hb : Hp} {as : List Addr} {σ : L2.St} {Q : V → Hp → Prop} (h : Good (repL K) K mg w H0 Hb0 as Hb σ Q (lcM i ws0 g tt te s ws acc M)) : M[i]? = some (.lst ws0) := by
  by_cases hc : M[i]? = some (.lst ws0)
  · exact hc
  · cases ws with
    | nil => rw [lcM, if_neg hc] at h; exact (show False from h).elim
    | cons x ws => rw [lcM, if_neg hc] at h; exact (show False from h).elim
theorem sim_lcM {wi : TI} {it : Sl → Ms → R (Nat × List W)} {pg : PGx} {tt : PTx} {te : PEx} {is vs : List Nat} (hv : ∀ i ∈ is, i ∈ vs) (si : Sim (repIM X.K) X.K X.mg w wi it) :
    Sim (repL X.K) X.K X.mg w (tLc wi (canonG X.K pg is) (canon repB X.K X.mg wNone tt) (canon (repW X.K) X.K X.mg wNone te) vs) (pLcM it pg tt te vs) := by
  intro H0 Hb0 as Hb H M σ s r S Q g
  refine Good.bind si r S g fun J q0 as1 Hb1 H1 M1 r1 f1 S1 io g1 => ?_
  obtain ⟨i0, ws⟩ := q0
  simp only at g1
  intro D hD
  by_cases hz : ws.length ≤ sizeLine
  · simp only [hz, if_true] at g1
    have Sw := slots_wipe S1 vs
    refine ⟨fun i m H' => m = ws.length - i ∧ i ≤ ws.length ∧ ∃ as' Hb' M' acc av, Rel X.K (upd H0 D (.lst av)) Hb0 as' Hb' H' M' ∧ Fut as1 Hb1 as' Hb' ∧ WRs X.K as' Hb' av acc ∧ acc.length ≤ i ∧ Good (repL X.K) X.K X.mg w H0 Hb0 as' Hb' σ Q (lcM i0 ws pg tt te (wipeS s vs) (ws.drop i) acc M'),
      ⟨ws.length, by simp, Nat.zero_le _, as1, Hb1, M1, [], [], ?_, Fut.refl, .nil, Nat.zero_le _, by simpa using g1⟩, ?_⟩
    · exact (r1.newAny hD).guard upd_same (r1.hbn hD) fun hm => r1.al D hm hD
    rintro i m H' ⟨rfl, hi, as', Hb', M', acc, av, r', f', wa, hal, g'⟩
    have h0D : H0 D = none := r1.h0n hD
    have hb0D : Hb0 D = none := r1.b0.free (r1.hbn hD)
    obtain ⟨ru, hHD, hbD, nD⟩ := r'.unguard h0D hb0D
    have hC : M'[i0]? = some (.lst ws) := lcM_live g'
    obtain ⟨io1, io2⟩ := io _ Hb0 as' Hb' H' M' r' f' hC i
    by_cases hlt : i < ws.length
    · have hx : ws[i]? = some ws[i] := List.getElem?_eq_getElem hlt
      obtain ⟨go, yl⟩ := io1 _ hx
      rw [List.drop_eq_getElem_cons hlt] at g'
      refine .inr ⟨go, fun H2 => ∃ as2 Hb2 M2 acc2 av2, Rel X.K (upd H0 D (.lst av2)) Hb0 as2 Hb2 H2 M2 ∧ Fut as1 Hb1 as2 Hb2 ∧ WRs X.K as2 Hb2 av2 acc2 ∧ acc2.length ≤ i + 1 ∧ Good (repL X.K) X.K X.mg w H0 Hb0 as2 Hb2 σ Q (lcM i0 ws pg tt te (wipeS s vs) (ws.drop (i + 1)) acc2 M2), fun H2 z => ⟨ws.length - (i + 1), by omega, rfl, hlt, z⟩, fun v H2 hy => ?_⟩
      obtain ⟨Hb2, r2, f2, w2⟩ := yl v H2 hy
      have S2 := Sw.mono (f'.trans f2)
      cases hg : pg ws[i] (wipeS s vs) M' with
      | none => rw [lcM, if_pos hC, hg] at g'; exact g'.elim
      | some s1 =>
        rw [lcM, if_pos hC, hg] at g'
        simp only at g'
        refine ⟨_, Hb0, as', Hb2, M', wipeS s vs, s1, ws[i], r2, S2, w2, hg, fun σ3 S3 hw3 => ?_⟩
        refine ⟨by
          have z := hw3 vs hv
          rw [z]
          have ww : ∀ us : List Nat, (∀ u ∈ us, u ∈ vs) → ∀ τ : L2.St, wipe (wipe τ vs) us = wipe τ vs := by
            intro us
            induction us with
            | nil => intro _ τ; rfl
            | cons u us ih =>
              intro hu τ
              have hm := hu u List.mem_cons_self
              have e1 := ih (fun x hx => hu x (List.mem_cons_of_mem _ hx)) τ
              show (wipe (wipe τ vs) us).set u none = wipe τ vs
              rw [e1]
              have sn : ∀ (l : List Nat), u ∈ l → (wipe τ l).set u none = wipe τ l := by
                intro l
                induction l with
                | nil => intro h; cases h
                | cons y l ihl =>
                  intro h
                  show ((wipe τ l).set y none).set u none = (wipe τ l).set y none
                  by_cases e : y = u
                  · subst e; rw [List.set_set]
                  · rw [List.set_comm _ _ e]
                    rcases List.mem_cons.mp h with z | z
                    · exact absurd z.symm e
                    · rw [ihl z]
              exact sn vs hm
          exact ww vs (fun _ h => h) σ, ?_⟩
        refine ⟨_, Hb0, as', Hb2, M', s1, r2, S3, ?_⟩
        cases ht : tt s1 M' with
        | exc e m => rw [ht] at g'; exact g'.elim
        | stuck => rw [ht] at g'; exact g'.elim
        | ok b Mt =>
          rw [ht] at g'
          have g3 : Good (repL X.K) X.K X.mg w H0 Hb0 as' Hb' σ Q (if b = true then (te s1 Mt).bindN fun y M2 => lcM i0 ws pg tt te (wipeS s vs) (ws.drop (i + 1)) (acc ++ [y]) M2 else lcM i0 ws pg tt te (wipeS s vs) (ws.drop (i + 1)) acc Mt) := g'
          intro b' as3 Hb3 H3 r3 f3 eb
          obtain rfl : b' = b := eb
          cases b' with
          | false =>
            rw [if_neg Bool.false_ne_true] at g3 ⊢
            exact ⟨as3, Hb3, Mt, acc, av, r3, (f'.trans f2).trans f3, WRs.mono (f2.trans f3) wa, Nat.le_succ_of_le hal, Good.mono (f2.trans f3) g3⟩
          | true =>
            rw [if_pos rfl] at g3 ⊢
            refine ⟨_, Hb0, as3, Hb3, Mt, s1, r3, S3.mono f3, ?_⟩
            cases hte : te s1 Mt with
            | exc e m => rw [hte] at g3; exact g3.elim
            | stuck => rw [hte] at g3; exact g3.elim
            | ok y My =>
              rw [hte] at g3
              have g4 : Good (repL X.K) X.K X.mg w H0 Hb0 as' Hb' σ Q (lcM i0 ws pg tt te (wipeS s vs) (ws.drop (i + 1)) (acc ++ [y]) My) := g3
              intro yv as4 Hb4 H4 r4 f4 wy
              obtain ⟨ru4, hHD4, hbD4, nD4⟩ := r4.unguard h0D hb0D
              have wa4 := WRs.mono ((f2.trans f3).trans f4) wa
              have hl : av.length = acc.length := Paired.len wa
              refine ⟨av, hHD4, by omega, as4, Hb4, My, acc ++ [y], av ++ [yv], ?_, ((f'.trans f2).trans f3).trans f4, Paired.app wa4 (.cons wy .nil), by rw [List.length_append]; simp; omega, Good.mono ((f2.trans f3).trans f4) g4⟩
              have e5 := (ru4.other (o := .lst (av ++ [yv])) hbD4 h0D nD4).guard upd_same hbD4 nD4
              exact e5
    · have e : i = ws.length := by omega
      subst e
      have hn : ws[ws.length]? = none := List.getElem?_eq_none_iff.mpr (Nat.le_refl _)
      rw [List.drop_length, lcM, if_pos hC] at g'
      exact .inl ⟨io2 hn, Good.ok g' ru ⟨D, av, rfl, hHD, Nat.le_trans hal hz, wa, nD, hbD, h0D⟩⟩
  · simp only [hz, if_false] at g1
    exact g1.elim
theorem jl_lcM {elt tg iter : Expr} {ifs : List Expr} {scope : Scope} {own : List (Str × Nat)} {pos : Pos} {it : Sl → Ms → R (Nat × List W)} {pg : PGx} {tt : PTx} {te : PEx} {is : List Nat} (hc : X.calm = true) (hN : X.N.Nodup) (hi : JIM X w tg iter it) (ok : BlkOk X.N X.env.scope scope own)
    (hg : ∀ (s : Shared) (H : Hp) (C : Addr) (cl : List (Str × Addr)) (fp : List Addr), JG (X.blk s H scope (compEnvC scope cl C X.env) fp) tg pg is) (ht : ∀ (s : Shared) (H : Hp) (C : Addr) (cl : List (Str × Addr)) (fp : List Addr), JTs (X.blk s H scope (compEnvC scope cl C X.env) fp) wNone ifs tt)
    (he : ∀ (s : Shared) (H : Hp) (C : Addr) (cl : List (Str × Addr)) (fp : List Addr), JE (X.blk s H scope (compEnvC scope cl C X.env) fp) wNone elt te) (hv : ∀ i ∈ is, i ∈ own.map (·.2) := by decide) (hs : ∀ x, foldedSetIterable iter X.env x = pure x := by intro _; rfl) :
    JL X w (.ListComp elt [⟨tg, iter, ifs, 0⟩] scope pos) (pLcM it pg tt te (own.map (·.2))) := by
  obtain ⟨wi, ei, si⟩ := hi
  exact ⟨_, pe_lc hc hN ei ok (fun s H C cl fp => (hg s H C cl fp).canon) (fun s H C cl fp => (ht s H C cl fp).canon) (fun s H C cl fp => (he s H C cl fp).canon) hs, sim_lcM hv si⟩
end
end Z

set_option linter.all false
set_option autoImplicit false
set_option maxRecDepth 100000
set_option maxHeartbeats 4000000
/-! Z44: an exception that leaves a comprehension. -/
namespace Z
open PySem PySem.Spec PyProof.Rows L2 L2H
theorem noteFrame_env {v : Value} {e1 e2 : Env} (h : e1.frame = e2.frame) : noteFrame v e1 = noteFrame v e2 := by
  unfold noteFrame PySem.frameOf
  rw [h]
theorem funFrames_but {C : Addr} {B B2 h h2 : Heap} : ∀ {l : List Env}, (∀ L ∈ frs l, L ≠ C) → (∀ b, b ≠ C → B2.get? b = B.get? b) → (∀ b, b ≠ C → h2.get? b = h.get? b) → h.FunFrames B l → h2.FunFrames B2 l
  | [], _, _, _, _ => trivial
  | env :: l, hn, hB, hh, x => by
    obtain ⟨hk, ⟨L, o, hf, hb, ho, hd⟩, hr⟩ := x
    have hL : L ≠ C := hn L (List.mem_filterMap.mpr ⟨env, List.mem_cons_self, hf⟩)
    exact ⟨hk, ⟨L, o, hf, by rw [hB L hL]; exact hb, by rw [hh L hL]; exact ho, hd⟩, funFrames_but (fun b hb => by
      obtain ⟨e, he, q⟩ := List.mem_filterMap.mp hb
      exact hn b (List.mem_filterMap.mpr ⟨e, List.mem_cons_of_mem _ he, q⟩)) hB hh hr⟩
section
variable {X : Cx} {w : WX}
theorem comp_exc {pins pins' : List (Addr × Obj)} {σ σ' : L2.St} {H5 H3 : Hp} {sB s3 s10 : Shared} {scope : Scope} {ce : Env} {fp : List Addr} {e : Value} {C : Addr} {what : String} {E1 : Value → Shared → Prop} (hs : X.stack = X.env :: X.outer) (hf : X.env.frame = some X.env.locals) (tk : L2N.Takes X w) (hw : ∀ cls d σ σ' H, w cls d σ H → w cls d σ' H)
    (I : Inv (X.blk s3 H3 scope ce fp) pins' σ' H5 sB) (c : L2N.CX X.prog X.w X.stack H5 sB (WE w σ') e s10) (back : ∀ {H' : Hp} {s' : Shared}, Inv (X.blk s3 H3 scope ce fp) pins' σ' H' s' → Inv X pins σ H' s') (hce : ce.frame = X.env.frame) (hC : ce.locals = C) (fpC : ∀ H' : Hp, H' C = none → FpOk X pins H' C) (nf : C ∉ frs X.stack) :
    wpAny (model X.prog X.w) X.A (noteFrame e ce) (fun _ s' => ∃ m, s'.heap.Ns C m ∧ ∀ h', Heap.SameBut C s'.heap h' → wpAny (model X.prog X.w) X.A (PySem.passOn what e ce : Sem Value) (fun _ _ => False) X.xe { s' with heap := h' }) E1 s10 := by
  obtain ⟨a, B, H', cls, d, rfl, fl, hok, ub, na, os, ag, hE⟩ := c
  obtain ⟨G, g1, g2⟩ := restrict s10.heap fun b => (B.get? b).isSome || decide (b ∈ frs X.stack)
  have st : B.StaysIn s10.heap := fl.1
  have gB : ∀ b o, B.get? b = some o → G.get? b = some o := fun b o e => by
    rw [g1 b (by simp [e])]
    exact st b o e
  have gF : ∀ b, b ∈ frs X.stack → G.get? b = s10.heap.get? b := fun b hb => g1 b (by simp [hb])
  have og : ∀ b o, G.get? b = some o → s10.heap.get? b = some o ∧ ((B.get? b).isSome = true ∨ b ∈ frs X.stack) := fun b o e => by
    cases q : ((B.get? b).isSome || decide (b ∈ frs X.stack)) with
    | false => rw [g2 b q] at e; cases e
    | true =>
      rw [g1 b q] at e
      exact ⟨e, by simpa [Bool.or_eq_true] using q⟩
  have IB : Inv (X.blk s3 H3 scope ce fp) pins' σ' H' { sB with heap := G, gens := s10.gens, drawn := s10.drawn, toks := s10.toks } := by
    refine I.call (ch := []) ⟨fun b o e n hb _ => gB b o (ub.keep b o e n hb), fun b o e n hb _ => ?_, fun b o e n _ => ub.free b o e n, fun b o e _ => ?_, ub.tups, ub.frzs, ub.tbls⟩ (hok.kept gB) ag (fun _ z => nomatch z)
    · obtain ⟨sl, q⟩ := ub.slot b o e hb
      exact ⟨sl, by rw [gF b hb]; exact q⟩
    · by_cases hb : b ∈ frs X.stack
      · obtain ⟨sl, q⟩ := ub.slot b o e hb
        exact ⟨_, by rw [gF b hb]; exact q⟩
      · obtain ⟨o', q⟩ := ub.there b o e hb
        exact ⟨o', gB b o' q⟩
  have nb : ∀ b o, G.get? b = some o → b ∉ frs X.stack → B.get? b = some o := fun b o e hb => by
    obtain ⟨e', h⟩ := og b o e
    rcases h with h | h
    · obtain ⟨o', q⟩ := Option.isSome_iff_exists.mp h
      have z := st b o' q
      rw [e'] at z; cases z
      exact q
    · exact absurd h hb
  have up : G.UpToSlots s10.heap := Heap.UpToSlots.of_keeps fun b o e => (og b o e).1
  have IX := back IB
  obtain ⟨m, hn, _⟩ := IB.loc
  have hn : G.Ns ce.locals m := hn
  rw [hC] at hn
  have nC : H' C = none := by
    have z : H' ce.locals = none := IB.free
    rw [hC] at z
    exact z
  have hn2 : G.Ns C m := hn
  obtain ⟨oC, es, ep, hoC, hdC, _⟩ := hn
  have hBC : B.get? C = some oC := nb C oC hoC nf
  have hfr : X.A.frames = some (X.env :: X.outer) := by rw [IX.ok.frames, hs]
  rw [noteFrame_env hce]
  rw [hs] at fl
  refine PXN.looks_onZ L2N.Zn.steady hfr hf fl fun h1 hh up1 => ?_
  have h1C : h1.get? C = some oC := hh.1 C oC hBC
  refine ⟨m, Heap.Ns.at hn2 fun o e => hh.1 C o (nb C o e nf), fun h2 sb => ?_⟩
  obtain ⟨B2, b1, b2⟩ := restrict B fun b => decide (b ≠ C)
  obtain ⟨G2, c1, c2⟩ := restrict G fun b => decide (b ≠ C)
  have b1' : ∀ b, b ≠ C → B2.get? b = B.get? b := fun b hb => b1 b (by simp [hb])
  have b2' : B2.get? C = none := b2 C (by simp)
  have c1' : ∀ b, b ≠ C → G2.get? b = G.get? b := fun b hb => c1 b (by simp [hb])
  have c2' : G2.get? C = none := c2 C (by simp)
  obtain ⟨f0, f1, f2, f3, f4, f5⟩ := fpC H' nC
  have I2 : Inv X pins σ H' { sB with heap := G2, gens := s10.gens, drawn := s10.drawn, toks := s10.toks } := IX.turned (t' := s10.toks) (fun b o hb e => (c1' b hb).trans e) f0 f1 f3 f4 f5
  have ne_of : ∀ {b o vs}, h1.get? b = some o → o.data = .fields vs → b ≠ C := fun {b o vs} q hd z => by
    rw [z, h1C] at q
    cases q
    rw [hdC] at hd
    cases hd
  have held : HandSPX.HeldZ B2 (X.env :: X.outer) a (L2N.Zn cls d) X.env.locals h2 := by
    obtain ⟨k1, k2, k3, oe, vs, T, oT, ts, he, hz, hd, hv1, hnT, hTe, hT, hdT, hv3⟩ := hh
    have na' : a ≠ C := ne_of he hd
    have nT : T ≠ C := ne_of hT hdT
    refine ⟨fun b o hb => ?_, by rw [b1' a na']; exact k2, funFrames_but (fun L hL => fun z => nf (by rw [hs]; exact z ▸ hL)) b1' (fun b hb => sb.2 b hb) k3, oe, vs, T, oT, ts, (sb.2 a na').trans he, hz, hd, hv1, by rw [b1' T nT]; exact hnT, hTe, (sb.2 T nT).trans hT, hdT, hv3⟩
    by_cases hbC : b = C
    · rw [hbC, b2'] at hb; cases hb
    · rw [b1' b hbC] at hb
      exact (sb.2 b hbC).trans (k1 b o hb)
  have tr := held.2.2.2
  obtain ⟨oe, vs, T, oT, ts, he, hz, hd, hv1, _, _, _, _, _⟩ := tr
  unfold PySem.passOn
  refine wpAny_bind (wpAny_field he hd hv1 ?_)
  rw [if_neg (by simp)]
  refine wpAny_bind ?_
  rw [hce, hf]
  refine HandSPX.setFlight_onZ held fun h3 hh3 up3 => ?_
  refine wpAny_throw (tk _ _ ⟨a, B2, _, pins, σ, H', cls, d, rfl, I2, fun b o hb hnf => ?_, fun b o hb hnf => ?_, .inr (.inr (by rw [hs]; exact hh3)), na, os, ag, hw _ _ _ _ _ hE⟩)
  · have hbC : b ≠ C := fun z => by
      rw [z] at hb
      rw [show ({ sB with heap := G2, gens := s10.gens, drawn := s10.drawn, toks := s10.toks } : Shared).heap.get? C = none from c2'] at hb
      cases hb
    rw [b1' b hbC]
    exact nb b o ((c1' b hbC) ▸ hb) hnf
  · have hbC : b ≠ C := fun z => by
      rw [z] at hb
      rw [show ({ sB with heap := G2, gens := s10.gens, drawn := s10.drawn, toks := s10.toks } : Shared).heap.get? C = none from c2'] at hb
      cases hb
    obtain ⟨sl, e1⟩ := up b o ((c1' b hbC) ▸ hb) hnf
    obtain ⟨sl2, e2⟩ := up1 b _ e1 hnf
    have e3 := (sb.2 b hbC).trans e2
    obtain ⟨sl3, e4⟩ := up3 b _ e3 hnf
    exact ⟨sl3, e4⟩
end
end Z

set_option linter.all false
set_option autoImplicit false
set_option maxRecDepth 100000
set_option maxHeartbeats 4000000
/-! Z45: a comprehension whose element may raise. -/
namespace Z
open PySem PySem.Spec PyProof.Rows L2 L2H
section
variable {M : Model} {A : Around} {E : Value → Shared → Prop} {s : Shared} {env : Env}
def compPostE (M : Model) (A : Around) (E : Value → Shared → Prop) (use : Option (Value → Sem Unit)) (Q : Value → Shared → Prop) (acc : Value) (cenv : Env) (r : Result) (s' : Shared) : Prop :=
  match r, use with
  | .ok _, none => ∃ m, s'.heap.Ns cenv.locals m ∧ ∀ h', Heap.SameBut cenv.locals s'.heap h' → Q acc { s' with heap := h' }
  | .ok _, some u => wpAny M A (u acc) (fun _ s'' => ∃ m, s''.heap.Ns cenv.locals m ∧ ∀ h', Heap.SameBut cenv.locals s''.heap h' → Q .none { s'' with heap := h' }) E s'
  | .error x, _ => ∃ m, s'.heap.Ns cenv.locals m ∧ ∀ h', Heap.SameBut cenv.locals s'.heap h' → wpAny M A (PySem.passOn "comprehension.variables-let-go" x cenv : Sem Value) (fun _ _ => False) E { s' with heap := h' }
theorem comprehension_freeE {e : Expr} {scope : Scope} {pos : Pos} {newAcc first : Sem Value} {g : Comprehension} {gs : List Comprehension} {cl : List (Str × Addr)} {use : Option (Value → Sem Unit)}
    {Q : Value → Shared → Prop}
    (hcl : clausesOf e = g :: gs) (hs : ∀ x, foldedSetIterable g.iter env x = pure x) (hclos : closureFor scope env = pure cl)
    (hkind : scope.kind = .function) (hnames : ∀ x ∈ scope.names, x.2 = .local → scope.names.lookup x.1 = some .local)
    (h : wpAny M A first (fun x s₁ => wpAny M A (pyIter x) (fun it s₂ => wpAny M A newAcc (fun acc s₃ =>
      wpAny M A (newFunctionEnv scope env.globals cl [] env.qual none .none (some env)) (fun cenv s₄ =>
        codeAny M A (.compStart e 0 it acc { cenv with scope := relabel scope env }) (compPostE M A E use Q acc { cenv with scope := relabel scope env }) s₄) E s₃) E s₂) E s₁) E s) :
    wpAny M A (comprehension e scope env pos newAcc false first use) Q E s := by
  unfold comprehension
  rw [hclos, hcl]
  refine wpAny_bind (wpAny_mono h (fun x s₁ h₁ => wpAny_bind (wpAny_standAt (wpAny_bind (wpAny_of_eq (hs x) (wpAny_bind (wpAny_holding (wpAny_mono h₁ (fun it s₂ h₂ =>
    wpAny_standIf (wpAny_bind (wpAny_mono h₂ (fun acc s₃ h₃ => wpAny_bind (wpAny_pure (wpAny_bind (wpAny_mono h₃ (fun cenv s₄ h₄ => ?_) fun _ _ h' => h')))) fun _ _ h' => h')))
      fun _ _ h' => h'))))))) fun _ _ h' => h')
  dsimp only
  have hv : ∀ x ∈ (scope.names.filter fun x => (x.2 == .local || x.2 == .cell) && x.1 != (".0" : Str)).reverse, x.2 = .local →
      Env.kindOf { cenv with scope := relabel scope env } x.1 = some .local := fun x hx hl => lookup_relabel_local (hnames x (List.mem_filter.mp (List.mem_reverse.mp hx)).1 hl)
  have hv' : ∀ x ∈ (scope.names.filter fun x => (x.2 == .local || x.2 == .cell) && x.1 != (".0" : Str)).reverse.drop 1 ++ (scope.names.filter fun x => (x.2 == .local || x.2 == .cell) && x.1 != (".0" : Str)).reverse.take 1,
      x.2 = .local → Env.kindOf { cenv with scope := relabel scope env } x.1 = some .local := fun x hx hl => by
    rcases List.mem_append.mp hx with h1 | h1
    · exact hv x (List.mem_of_mem_drop h1) hl
    · exact hv x (List.mem_of_mem_take h1) hl
  refine wpAny_holding (wpAny_bind (wpAny_attempt (wpAny_holding (wpAny_run (codeAny_mono h₄ fun r s' hr => ?_)))))
  cases r with
  | ok f =>
    cases use with
    | none =>
      obtain ⟨m, hn, hr⟩ := hr
      exact wpAny_bind (wpAny_holding (wpAny_comp_letGo (cenv := { cenv with scope := relabel scope env }) hkind _ s' m hv hn fun h' m' _ hs' => wpAny_pure (hr h' hs')))
    | some u =>
      refine wpAny_bind (wpAny_rule (wpAny_bind (wpAny_holding (wpAny_mono hr (fun _ s'' hr' => ?_) fun _ _ h' => h'))))
      obtain ⟨m, hn, hr'⟩ := hr'
      exact wpAny_bind (wpAny_comp_letGo (cenv := { cenv with scope := relabel scope env }) hkind _ s'' m hv' hn fun h' m' _ hs' => wpAny_pure (hr' h' hs'))
  | error x =>
    have hr' : ∃ m, s'.heap.Ns cenv.locals m ∧ ∀ h', Heap.SameBut cenv.locals s'.heap h' → wpAny M A (PySem.passOn "comprehension.variables-let-go" x { cenv with scope := relabel scope env } : Sem Value) (fun _ _ => False) E { s' with heap := h' } := by cases use <;> exact hr
    obtain ⟨m, hn, hr⟩ := hr'
    exact wpAny_bind (wpAny_holding (wpAny_comp_letGo (cenv := { cenv with scope := relabel scope env }) hkind _ s' m hv hn fun h' m' _ hs' => wpAny_mono (hr h' hs') (fun _ _ f => f.elim) fun _ _ y => y))
end
/-- the block's context: what a call lets out is kept -/
abbrev blkE (X : Cx) (w : WX) (s : Shared) (H : Hp) (scope : Scope) (cenv : Env) (fp : List Addr) : Cx := { X.blk s H scope cenv fp with xe := fun e s' => ∃ pins σ' H' sB, Inv (X.blk s H scope cenv fp) pins σ' H' sB ∧ L2N.CX X.prog X.w X.stack H' sB (WE w σ') e s' }
section
variable {X : Cx} {w : WX} {s0 : Shared} {H0 : Hp} {scope : Scope} {ce : Env} {fp : List Addr} {pins : List (Addr × Obj)} {σ : L2.St} {H : Hp} {s : Shared}
theorem inv_of (I : Inv (blkE X w s0 H0 scope ce fp) pins σ H s) : Inv (X.blk s0 H0 scope ce fp) pins σ H s := by
  obtain ⟨⟨a1, a2, a3, a4, a5, a6, a7, a8, a9, a10, a11, a12, a13, a14, a15, a16, a17, a18⟩, b1, b2, b3, b4, b5, b6, b7, b8, b9, b10⟩ := I
  exact ⟨⟨a1, a2, a3, a4, a5, a6, a7, a8, a9, a10, a11, a12, a13, a14, a15, a16, a17, a18⟩, b1, b2, b3, b4, b5, b6, b7, b8, b9, b10⟩
theorem inv_to (I : Inv (X.blk s0 H0 scope ce fp) pins σ H s) : Inv (blkE X w s0 H0 scope ce fp) pins σ H s := by
  obtain ⟨⟨a1, a2, a3, a4, a5, a6, a7, a8, a9, a10, a11, a12, a13, a14, a15, a16, a17, a18⟩, b1, b2, b3, b4, b5, b6, b7, b8, b9, b10⟩ := I
  exact ⟨⟨a1, a2, a3, a4, a5, a6, a7, a8, a9, a10, a11, a12, a13, a14, a15, a16, a17, a18⟩, b1, b2, b3, b4, b5, b6, b7, b8, b9, b10⟩
theorem passB (σ : L2.St) : PassesAt (L2N.CX X.prog X.w) (blkE X w s0 H0 scope ce fp) σ (WE w σ) := fun pins H s e s' I c => ⟨pins, σ, H, s, inv_of I, c⟩
end
section
variable {X : Cx} {w : WX}
theorem lc_coreX {pins : List (Addr × Obj)} {s : Shared} {σ : L2.St} {H : Hp} {Q : VK} {elt tg iter : Expr} {ifs : List Expr} {scope : Scope} {own : List (Str × Nat)} {pos pos' : Pos} {wi : TI} {g : TG} {tt : TT} {te : TE} {use : Option (Value → Sem Unit)} {Qf : Value → Shared → Prop}
    (hs' : X.stack = X.env :: X.outer) (hf' : X.env.frame = some X.env.locals) (tk : L2N.Takes X w) (hw : ∀ cls d σ σ' H, w cls d σ H → w cls d σ' H) (hc : X.calm = true) (hN : X.N.Nodup) (I : Inv X pins σ H s) (hi : PI X tg iter wi) (ok : BlkOk X.N X.env.scope scope own)
    (hg : ∀ (s : Shared) (H : Hp) (C : Addr) (cl : List (Str × Addr)) (fp : List Addr), PG (X.blk s H scope (compEnvC scope cl C X.env) fp) tg g) (ht : ∀ (s : Shared) (H : Hp) (C : Addr) (cl : List (Str × Addr)) (fp : List Addr), PTs (X.blk s H scope (compEnvC scope cl C X.env) fp) ifs tt)
    (he : ∀ (s : Shared) (H : Hp) (C : Addr) (cl : List (Str × Addr)) (fp : List Addr), PE (blkE X w s H scope (compEnvC scope cl C X.env) fp) elt te) (hs : ∀ x, foldedSetIterable iter X.env x = pure x)
    (h : tLc wi g tt te (own.map (·.2)) σ H Q)
    (hRR : ∀ (D : Addr) (C : Addr) (s' : Shared) m (H' : Hp), Inv X pins σ H' s' → Q (.ref D) H' → s'.heap.Ns C m → FpOk X pins H' C → ∀ ce : Env, ce.locals = C → compPostE (model X.prog X.w) X.A X.xe use Qf (.ref D) ce (.ok .next) s') :
    wpAny (model X.prog X.w) X.A (comprehension (.ListComp elt [⟨tg, iter, ifs, 0⟩] scope pos) scope X.env pos' (newList []) false (eval iter X.env) use) Qf X.xe s := by
  have hfree : ∀ y ∈ scope.names, y.2 = .free → ∃ c, X.env.cells.lookup y.1 = some c := fun y hy e => by
    rcases ok.free y hy e with k | k
    · exact I.ok.has _ (.inl k)
    · exact I.ok.has _ (.inr k)
  refine comprehension_freeE (use := use) rfl hs (closure_ok hfree) ok.kind (fun y hy e => by rw [ok.uniq y hy, e])
    (thn (hi.run pins s σ H _ I h) fun xv s1 hx => thn hx fun itv s2 h2 => ?_)
  obtain ⟨it, fp, tn, J, H2, e, I2, T, st2, f2, q⟩ := h2
  subst e
  refine wpAny_newObj_type (newEnv_comp ?_) (by show 0 ≤ sizeLine; decide)
  generalize hD : s2.heap.objs.size = D
  have hDn : H2 D = none := I2.hok.fresh (Nat.le_of_eq hD)
  obtain ⟨W, ⟨m0, w0⟩, turn⟩ := q D hDn
  -- the new list
  generalize hs3 : ({ s2 with heap := s2.heap.push { cls := .type "list", data := .seq ([] : List Value).toArray } } : Shared) = s3
  have I3 : Inv X pins σ (upd H2 D (.lst [])) s3 := by
    rw [← hs3]
    refine I2.laid (t' := s2.toks) (fun b o e => Heap.get?_push_of_some _ e) (Nat.le_of_eq hD) ⟨Nat.zero_le _, [], 0, .nil, ?_⟩
    rw [← hD]
    exact Heap.get?_push_size _ rfl
  have h3 : s3.heap = s2.heap.push { cls := .type "list", data := .seq ([] : List Value).toArray } := by rw [← hs3]
  have sz : ∀ b ∈ fp, b < s2.heap.objs.size := fun b hb => by
    obtain ⟨o, e, _⟩ := T.obj _ _ st2 b hb
    exact Heap.lt_size e
  have f3 : ∀ b ∈ fp, FpOk X pins (upd H2 D (.lst [])) b ∧ b < s3.heap.objs.size := fun b hb => by
    have hlt := sz b hb
    refine ⟨⟨?_, (f2 b hb).2⟩, by rw [h3, Heap.size_push]; exact Nat.lt_succ_of_lt hlt⟩
    rw [upd_ne (by rw [← hD]; exact Nat.ne_of_lt hlt)]
    exact (f2 b hb).1
  have st3 : tn 0 s3.heap := T.keep _ _ _ st2 fun b _ o e => by rw [h3]; exact Heap.get?_push_of_some _ e
  have I4 := block_start I3 ok hN f3
  have pg := hg s3 (upd H2 D (.lst [])) s3.heap.objs.size (cellsFrom (s3.heap.objs.size + 1) scope.names (cloFrom X.env.cells scope.names [])) fp
  have pt := ht s3 (upd H2 D (.lst [])) s3.heap.objs.size (cellsFrom (s3.heap.objs.size + 1) scope.names (cloFrom X.env.cells scope.names [])) fp
  have pe := he s3 (upd H2 D (.lst [])) s3.heap.objs.size (cellsFrom (s3.heap.objs.size + 1) scope.names (cloFrom X.env.cells scope.names [])) fp
  show codeAny _ _ (.compStart (.ListComp elt [⟨tg, iter, ifs, 0⟩] scope pos) 0 (.ref it) (.ref D) (compEnvC scope (cellsFrom (s3.heap.objs.size + 1) scope.names (cloFrom X.env.cells scope.names [])) s3.heap.objs.size X.env)) (compPostE (model X.prog X.w) X.A X.xe use Qf (.ref D) (compEnvC scope (cellsFrom (s3.heap.objs.size + 1) scope.names (cloFrom X.env.cells scope.names [])) s3.heap.objs.size X.env)) { s3 with heap := pushCells (s3.heap.push { cls := .type "dict", data := .dict #[] }) scope.names }
  have nfp : ∀ b ∈ fp, (upd H2 D (.lst [])) b = none := fun b hb => (f3 b hb).1.1
  generalize hce : compEnvC scope (cellsFrom (s3.heap.objs.size + 1) scope.names (cloFrom X.env.cells scope.names [])) s3.heap.objs.size X.env = ce at I4 pg pt pe ⊢
  have cL : ce.locals = s3.heap.objs.size := by subst hce; rfl
  have cF : ce.frame = X.env.frame := by subst hce; rfl
  generalize hH3 : upd H2 D (.lst []) = H3 at I3 I4 pg pt pe w0 nfp f3
  generalize hs4 : ({ s3 with heap := pushCells (s3.heap.push { cls := .type "dict", data := .dict #[] }) scope.names } : Shared) = s4 at I4 ⊢
  have st4 : tn 0 s4.heap := T.keep _ _ _ st3 fun b _ o e => by rw [← hs4]; exact pushCells_keeps _ _ _ _ (Heap.get?_push_of_some _ e)
  have stat : ∀ {σ' : L2.St} {H' : Hp} {s' : Shared}, Inv (X.blk s3 H3 scope ce fp) [] σ' H' s' → (∀ b ∈ fp, H' b = none) → ∀ b ∈ fp, FpOk (X.blk s3 H3 scope ce fp) [] H' b := fun {σ' H' s'} I' hn b hb =>
    ⟨hn b hb, (I'.ok.exf b hb).1, I'.ok.exfs b hb, .inl hb, fun x c e => (I'.ok.exf b hb).2 x c e, fun p hp => absurd (show p ∈ ([] : List (Addr × Obj)) ++ [] from hp) (by simp)⟩
  have loop : codeAny (model X.prog X.w) X.A (.compLoop (.ListComp elt [⟨tg, iter, ifs, 0⟩] scope pos) 0 (.ref it) (.ref D) ce) (compPostE (model X.prog X.w) X.A X.xe use Qf (.ref D) ce) s4 := by
    refine compLoop_any (fun n s' => ∃ i H', Inv (X.blk s3 H3 scope ce fp) [] (wipe σ (own.map (·.2))) H' s' ∧ tn i s'.heap ∧ (∀ b ∈ fp, H' b = none) ∧ W i n H') ?_ m0 ⟨0, H3, I4, st4, nfp, w0⟩
    rintro n s5 ⟨i, H5, I5, st5, n5, w5⟩
    rcases turn i n H5 w5 with ⟨stop, qq⟩ | ⟨go, Nx, hNx, step⟩
    · have td := T.done (X.blk s3 H3 scope ce fp) rfl rfl rfl hc i [] s5 _ H5 (fun _ _ => False) I5 (stat I5 n5) st5 stop
      refine thnF td fun r s6 ⟨hr, I6⟩ => ?_
      subst hr
      -- back in the def's context
      have I7 : Inv X pins σ H5 s6 := I3.call' (ch := fp) I6.os I6.base I6.hok I6.bare fun b hb => ⟨(f3 b hb).1.2.2.2.1, (f3 b hb).1.2.1, (f3 b hb).1.2.2.2.2.1, (f3 b hb).1.2.2.2.2.2⟩
      have nC : H5 s3.heap.objs.size = none := by
        have z : H5 ce.locals = none := I6.free
        rw [cL] at z
        exact z
      obtain ⟨m, hn, _⟩ := I6.loc
      have hn : s6.heap.Ns ce.locals m := hn
      rw [cL] at hn
      exact hRR D s3.heap.objs.size s6 m H5 I7 qq hn (I3.fpOk (Nat.le_refl _) nC) ce cL
    · have ti := T.item (X.blk s3 H3 scope ce fp) rfl rfl rfl hc i [] s5 _ H5 (fun _ _ => False) I5 (stat I5 n5) st5 go
      refine thnF ti fun r s6 ⟨u, hr, h6⟩ => ?_
      subst hr
      refine thnF h6 fun _ s7 ⟨x, H7, I7, r7, y7, st7, n7⟩ => ?_
      have I7' := I7.pinned (stat I7 n7) (T.obj _ _ st7)
      refine thnF (pg.run _ s7 _ H7 x u _ I7' r7 (step x H7 y7)) fun _ s8 ⟨σ8, H8, I8, hw8, q8⟩ => ?_
      refine thnF (pt.run _ s8 σ8 H8 _ I8 q8) fun b s9 ⟨H9, I9, q9⟩ => ?_
      -- the turn's end
      have fin : ∀ {s' : Shared} {H' : Hp}, Inv (X.blk s3 H3 scope ce fp) ([] ++ pinsAt fp s7.heap) σ8 H' s' → Nx H' → ∃ m, m < n ∧ ∃ i H', Inv (X.blk s3 H3 scope ce fp) [] (wipe σ (own.map (·.2))) H' s' ∧ tn i s'.heap ∧ (∀ b ∈ fp, H' b = none) ∧ W i m H' := fun {s' H'} I' nx => by
        obtain ⟨m', hm, w'⟩ := hNx H' nx
        have pin' : ∀ b ∈ fp, ∀ o, s7.heap.get? b = some o → s'.heap.get? b = some o ∧ H' b = none := fun b hb o e =>
          let z := I'.pin (b, o) (List.mem_append_right _ (List.mem_append_right _ (mem_pinsAt hb e)))
          ⟨z.1, z.2.1⟩
        have hl : (wipe σ (own.map (·.2))).length = σ8.length := by rw [← hw8, wipe_length]
        refine ⟨m', hm, i + 1, H', (I'.unpinned (pins := [])).weak hl (fun j v e => ?_), T.keep _ _ _ st7 fun b hb o e => (pin' b hb o e).1, fun b hb => ?_, w'⟩
        · rw [← hw8] at e
          exact (wipe_some e).1
        · obtain ⟨o, e, _⟩ := T.obj _ _ st7 b hb
          exact (pin' b hb o e).2
      cases b with
      | false =>
        simp only [Bool.false_eq_true, if_false] at q9 ⊢
        exact fin I9 q9
      | true =>
        simp only [if_true] at q9 ⊢
        refine wpAny_mono (pe.run _ s9 σ8 H9 _ (inv_to I9) q9) (fun z s10 ⟨yv, H10, I10, r10, acc, hD10, hz10, nx⟩ => ?_) fun e s10 hx => ?_
        · exact L2.app_ok (X := X.blk s3 H3 scope ce fp) (inv_of I10) hD10 hz10 r10 fun s11 I11 => fin I11 nx
        · obtain ⟨pins', σ', H', sB, IB, cx⟩ := hx
          have z := comp_exc (E1 := fun _ _ => False) (what := "comprehension.variables-let-go") hs' hf' tk hw IB cx (back := fun {H' s'} I6 => I3.call' (ch := fp) I6.os I6.base I6.hok I6.bare fun b hb => ⟨(f3 b hb).1.2.2.2.1, (f3 b hb).1.2.1, (f3 b hb).1.2.2.2.2.1, (f3 b hb).1.2.2.2.2.2⟩) cF cL (fun H' h => I3.fpOk (Nat.le_refl _) h) (fun hm => ?_)
          · refine wpAny_mono z (fun _ s' hq => ?_) fun _ _ f => f.elim
            obtain ⟨m, hn, hq⟩ := hq
            rw [← cL] at hn hq
            have hz : ∃ m, s'.heap.Ns ce.locals m ∧ ∀ h', Heap.SameBut ce.locals s'.heap h' → wpAny (model X.prog X.w) X.A (PySem.passOn "comprehension.variables-let-go" e ce : Sem Value) (fun _ _ => False) X.xe { s' with heap := h' } := ⟨m, hn, hq⟩
            cases use <;> exact hz
          · have nfl : s3.heap.objs.size ∉ X.fs := (I3.fpOk (Nat.le_refl _) (H' := fun _ => none) rfl).2.2.1
            rcases List.mem_cons.mp (I3.stkSub _ hm) with q | q
            · exact (I3.fpOk (Nat.le_refl _) (H' := fun _ => none) rfl).2.1 q
            · exact nfl q
  exact codeAny_compStart_list loop (T.self X.A 0 _ _ _ st4 loop)
theorem pe_lcX {elt tg iter : Expr} {ifs : List Expr} {scope : Scope} {own : List (Str × Nat)} {pos : Pos} {wi : TI} {g : TG} {tt : TT} {te : TE} (hs' : X.stack = X.env :: X.outer) (hf' : X.env.frame = some X.env.locals) (tk : L2N.Takes X w) (hw : ∀ cls d σ σ' H, w cls d σ H → w cls d σ' H) (hc : X.calm = true) (hN : X.N.Nodup) (hi : PI X tg iter wi) (ok : BlkOk X.N X.env.scope scope own)
    (hg : ∀ (s : Shared) (H : Hp) (C : Addr) (cl : List (Str × Addr)) (fp : List Addr), PG (X.blk s H scope (compEnvC scope cl C X.env) fp) tg g) (ht : ∀ (s : Shared) (H : Hp) (C : Addr) (cl : List (Str × Addr)) (fp : List Addr), PTs (X.blk s H scope (compEnvC scope cl C X.env) fp) ifs tt)
    (he : ∀ (s : Shared) (H : Hp) (C : Addr) (cl : List (Str × Addr)) (fp : List Addr), PE (blkE X w s H scope (compEnvC scope cl C X.env) fp) elt te) (hs : ∀ x, foldedSetIterable iter X.env x = pure x := by intro _; rfl) :
    PE X (.ListComp elt [⟨tg, iter, ifs, 0⟩] scope pos) (tLc wi g tt te (own.map (·.2))) := by
  refine ⟨fun pins s σ H Q I h => ?_⟩
  rw [eval_ListComp]
  refine lc_coreX hs' hf' tk hw hc hN I hi ok hg ht he hs h fun D C s' m H' I' q hn f ce ec => ?_
  subst ec
  refine ⟨m, hn, fun h'' sb => ?_⟩
  obtain ⟨f0, f1, f2, f3, f4, f5⟩ := f
  exact ⟨.ref D, H', I'.turned (t' := s'.toks) (fun b o hb e => (sb.2 b hb).trans e) f0 f1 f3 f4 f5, rfl, q⟩
theorem ps_setLcX {i : Nat} {y : Str} {py : Pos} {elt tg iter : Expr} {ifs : List Expr} {scope : Scope} {own : List (Str × Nat)} {pos spos : Pos} {wi : TI} {g : TG} {tt : TT} {te : TE} (hs' : X.stack = X.env :: X.outer) (hf' : X.env.frame = some X.env.locals) (tk : L2N.Takes X w) (hw : ∀ cls d σ σ' H, w cls d σ H → w cls d σ' H) (hc : X.calm = true) (hN : X.N.Nodup) (hy : X.N[i]? = some y) (hyl : X.env.scope.names.lookup y = some .local)
    (hsw : swapsWith (.ListComp elt [⟨tg, iter, ifs, 0⟩] scope pos) (some (.Name y py)) spos.line X.env = pure true) (hi : PI X tg iter wi) (ok : BlkOk X.N X.env.scope scope own)
    (hg : ∀ (s : Shared) (H : Hp) (C : Addr) (cl : List (Str × Addr)) (fp : List Addr), PG (X.blk s H scope (compEnvC scope cl C X.env) fp) tg g) (ht : ∀ (s : Shared) (H : Hp) (C : Addr) (cl : List (Str × Addr)) (fp : List Addr), PTs (X.blk s H scope (compEnvC scope cl C X.env) fp) ifs tt)
    (he : ∀ (s : Shared) (H : Hp) (C : Addr) (cl : List (Str × Addr)) (fp : List Addr), PE (blkE X w s H scope (compEnvC scope cl C X.env) fp) elt te) (hs : ∀ x, foldedSetIterable iter X.env x = pure x := by intro _; rfl) :
    PS X (.Assign [.Name y py] (.ListComp elt [⟨tg, iter, ifs, 0⟩] scope pos) spos) (tAsg (tLc wi g tt te (own.map (·.2))) (gName i)) := by
  refine ⟨fun pins s σ H D I h => ?_⟩
  rw [exec_Assign_Name_used _ _ _ _ hsw]
  refine wpAny_bind (wpAny_standAt (wpAny_bind ?_))
  show wpAny _ X.A (do let _ ← comprehension (.ListComp elt [⟨tg, iter, ifs, 0⟩] scope pos) scope X.env (firstIterPos [⟨tg, iter, ifs, 0⟩] pos) (newList []) false (eval iter X.env) (some (assign (.Name y py) X.env))) _ _ s
  have h : tLc wi g tt te (own.map (·.2)) σ H (fun x H1 => gName i x σ H1 D.nx) := h
  refine wpAny_bind (thn (lc_coreX (Qf := fun _ s' => SP X pins D .next s') hs' hf' tk hw hc hN I hi ok hg ht he hs h fun L C s' m H' I' q hn f ce ec => ?_) fun _ s' hq => wpAny_pure (wpAny_pure hq))
  subst ec
  show wpAny _ _ (assign (.Name y py) X.env (.ref L)) _ _ _
  refine wpAny_assign_Name (store_ok2 (v := V.ref L) I' hN hy (.inl hyl) rfl (fun s2 I2 ⟨a, sb, ha⟩ => ?_) (.inr hyl))
  obtain ⟨f0, f1, f2, f3, f4, f5⟩ := f
  have haC : ce.locals ≠ a := by
    rcases ha with z | z
    · rw [z]; exact f1
    · exact fun e => f4 y a z e.symm
  refine ⟨m, hn.sameBut sb haC, fun h3 sb3 => ?_⟩
  exact ⟨_, H', I2.turned (t' := s2.toks) (fun b o hb e => (sb3.2 b hb).trans e) f0 f1 f3 f4 f5, q⟩
def lcX (g : PGx) (tt : PTx) (te : PEx) (s : Sl) : List W → List W → Ms → R (List W)
  | [], acc, M => .ok acc M
  | x :: ws, acc, M => match g x s M with
    | none => .stuck
    | some s1 => (tt s1 M).bindN fun b M1 => if b = true then (te s1 M1).bind fun y M2 => lcX g tt te s ws (acc ++ [y]) M2 else lcX g tt te s ws acc M1
def pLcX (it : PAx) (g : PGx) (tt : PTx) (te : PEx) (vs : List Nat) : PAx := fun s M => (it s M).bind fun ws M1 => if ws.length ≤ sizeLine then lcX g tt te (wipeS s vs) ws [] M1 else .stuck
theorem sim_lcX (hw : ∀ cls d σ σ' H, w cls d σ H → w cls d σ' H) {wi : TI} {it : PAx} {pg : PGx} {tt : PTx} {te : PEx} {is vs : List Nat} (hv : ∀ i ∈ is, i ∈ vs) (si : Sim (repI X.K) X.K X.mg w wi it) :
    Sim (repL X.K) X.K X.mg w (tLc wi (canonG X.K pg is) (canon repB X.K X.mg wNone tt) (canon (repW X.K) X.K X.mg w te) vs) (pLcX it pg tt te vs) := by
  intro H0 Hb0 as Hb H M σ s r S Q g
  refine Good.bind si r S g fun J ws as1 Hb1 H1 M1 r1 f1 S1 io g1 => ?_
  intro D hD
  by_cases hz : ws.length ≤ sizeLine
  · simp only [hz, if_true] at g1
    have Sw := slots_wipe S1 vs
    refine ⟨fun i m H' => m = ws.length - i ∧ i ≤ ws.length ∧ ∃ as' Hb' M' acc av, Rel X.K (upd H0 D (.lst av)) Hb0 as' Hb' H' M' ∧ Fut as1 Hb1 as' Hb' ∧ WRs X.K as' Hb' av acc ∧ acc.length ≤ i ∧ Good (repL X.K) X.K X.mg w H0 Hb0 as' Hb' σ Q (lcX pg tt te (wipeS s vs) (ws.drop i) acc M'),
      ⟨ws.length, by simp, Nat.zero_le _, as1, Hb1, M1, [], [], ?_, Fut.refl, .nil, Nat.zero_le _, by simpa using g1⟩, ?_⟩
    · exact (r1.newAny hD).guard upd_same (r1.hbn hD) fun hm => r1.al D hm hD
    rintro i m H' ⟨rfl, hi, as', Hb', M', acc, av, r', f', wa, hal, g'⟩
    have h0D : H0 D = none := r1.h0n hD
    have hb0D : Hb0 D = none := r1.b0.free (r1.hbn hD)
    obtain ⟨ru, hHD, hbD, nD⟩ := r'.unguard h0D hb0D
    obtain ⟨io1, io2⟩ := io _ Hb0 as' Hb' H' M' r' f' i
    by_cases hlt : i < ws.length
    · have hx : ws[i]? = some ws[i] := List.getElem?_eq_getElem hlt
      obtain ⟨go, yl⟩ := io1 _ hx
      rw [List.drop_eq_getElem_cons hlt] at g'
      refine .inr ⟨go, fun H2 => ∃ as2 Hb2 M2 acc2 av2, Rel X.K (upd H0 D (.lst av2)) Hb0 as2 Hb2 H2 M2 ∧ Fut as1 Hb1 as2 Hb2 ∧ WRs X.K as2 Hb2 av2 acc2 ∧ acc2.length ≤ i + 1 ∧ Good (repL X.K) X.K X.mg w H0 Hb0 as2 Hb2 σ Q (lcX pg tt te (wipeS s vs) (ws.drop (i + 1)) acc2 M2), fun H2 z => ⟨ws.length - (i + 1), by omega, rfl, hlt, z⟩, fun v H2 hy => ?_⟩
      obtain ⟨Hb2, r2, f2, w2⟩ := yl v H2 hy
      have S2 := Sw.mono (f'.trans f2)
      cases hg : pg ws[i] (wipeS s vs) M' with
      | none => rw [lcX, hg] at g'; exact g'.elim
      | some s1 =>
        rw [lcX, hg] at g'
        simp only at g'
        refine ⟨_, Hb0, as', Hb2, M', wipeS s vs, s1, ws[i], r2, S2, w2, hg, fun σ3 S3 hw3 => ?_⟩
        refine ⟨by
          have z := hw3 vs hv
          rw [z]
          have ww : ∀ us : List Nat, (∀ u ∈ us, u ∈ vs) → ∀ τ : L2.St, wipe (wipe τ vs) us = wipe τ vs := by
            intro us
            induction us with
            | nil => intro _ τ; rfl
            | cons u us ih =>
              intro hu τ
              have hm := hu u List.mem_cons_self
              have e1 := ih (fun x hx => hu x (List.mem_cons_of_mem _ hx)) τ
              show (wipe (wipe τ vs) us).set u none = wipe τ vs
              rw [e1]
              have sn : ∀ (l : List Nat), u ∈ l → (wipe τ l).set u none = wipe τ l := by
                intro l
                induction l with
                | nil => intro h; cases h
                | cons y l ihl =>
                  intro h
                  show ((wipe τ l).set y none).set u none = (wipe τ l).set y none
                  by_cases e : y = u
                  · subst e; rw [List.set_set]
                  · rw [List.set_comm _ _ e]
                    rcases List.mem_cons.mp h with z | z
                    · exact absurd z.symm e
                    · rw [ihl z]
              exact sn vs hm
          exact ww vs (fun _ h => h) σ, ?_⟩
        refine ⟨_, Hb0, as', Hb2, M', s1, r2, S3, ?_⟩
        cases ht : tt s1 M' with
        | exc e m => rw [ht] at g'; exact g'.elim
        | stuck => rw [ht] at g'; exact g'.elim
        | ok b Mt =>
          rw [ht] at g'
          have g3 : Good (repL X.K) X.K X.mg w H0 Hb0 as' Hb' σ Q (if b = true then (te s1 Mt).bind fun y M2 => lcX pg tt te (wipeS s vs) (ws.drop (i + 1)) (acc ++ [y]) M2 else lcX pg tt te (wipeS s vs) (ws.drop (i + 1)) acc Mt) := g'
          intro b' as3 Hb3 H3 r3 f3 eb
          obtain rfl : b' = b := eb
          cases b' with
          | false =>
            rw [if_neg Bool.false_ne_true] at g3 ⊢
            exact ⟨as3, Hb3, Mt, acc, av, r3, (f'.trans f2).trans f3, WRs.mono (f2.trans f3) wa, Nat.le_succ_of_le hal, Good.mono (f2.trans f3) g3⟩
          | true =>
            rw [if_pos rfl] at g3 ⊢
            refine ⟨_, Hb0, as3, Hb3, Mt, s1, r3, S3.mono f3, ?_⟩
            cases hte : te s1 Mt with
            | exc e m =>
              rw [hte] at g3
              have g4 : Good (repL X.K) X.K X.mg w H0 Hb0 as' Hb' σ Q (.exc e m) := g3
              intro as4 Hb4 H4 cls d r4 f4 er
              obtain ⟨ru4, _, _, _⟩ := r4.unguard h0D hb0D
              exact hw _ _ _ _ _ (g4 as4 Hb4 H4 cls d ru4 ((f2.trans f3).trans f4) er)
            | stuck => rw [hte] at g3; exact g3.elim
            | ok y My =>
              rw [hte] at g3
              have g4 : Good (repL X.K) X.K X.mg w H0 Hb0 as' Hb' σ Q (lcX pg tt te (wipeS s vs) (ws.drop (i + 1)) (acc ++ [y]) My) := g3
              intro yv as4 Hb4 H4 r4 f4 wy
              obtain ⟨ru4, hHD4, hbD4, nD4⟩ := r4.unguard h0D hb0D
              have wa4 := WRs.mono ((f2.trans f3).trans f4) wa
              have hl : av.length = acc.length := Paired.len wa
              refine ⟨av, hHD4, by omega, as4, Hb4, My, acc ++ [y], av ++ [yv], ?_, ((f'.trans f2).trans f3).trans f4, Paired.app wa4 (.cons wy .nil), by rw [List.length_append]; simp; omega, Good.mono ((f2.trans f3).trans f4) g4⟩
              have e5 := (ru4.other (o := .lst (av ++ [yv])) hbD4 h0D nD4).guard upd_same hbD4 nD4
              exact e5
    · have e : i = ws.length := by omega
      subst e
      have hn : ws[ws.length]? = none := List.getElem?_eq_none_iff.mpr (Nat.le_refl _)
      rw [List.drop_length, lcX] at g'
      exact .inl ⟨io2 hn, Good.ok g' ru ⟨D, av, rfl, hHD, Nat.le_trans hal hz, wa, nD, hbD, h0D⟩⟩
  · simp only [hz, if_false] at g1
    exact g1.elim
theorem jl_lcX {elt tg iter : Expr} {ifs : List Expr} {scope : Scope} {own : List (Str × Nat)} {pos : Pos} {it : PAx} {pg : PGx} {tt : PTx} {te : PEx} {is : List Nat} (hs' : X.stack = X.env :: X.outer) (hf' : X.env.frame = some X.env.locals) (tk : L2N.Takes X w) (hw : ∀ cls d σ σ' H, w cls d σ H → w cls d σ' H) (hc : X.calm = true) (hN : X.N.Nodup) (hi : JI X w tg iter it) (ok : BlkOk X.N X.env.scope scope own)
    (hg : ∀ (s : Shared) (H : Hp) (C : Addr) (cl : List (Str × Addr)) (fp : List Addr), JG (X.blk s H scope (compEnvC scope cl C X.env) fp) tg pg is) (ht : ∀ (s : Shared) (H : Hp) (C : Addr) (cl : List (Str × Addr)) (fp : List Addr), JTs (X.blk s H scope (compEnvC scope cl C X.env) fp) wNone ifs tt)
    (he : ∀ (s : Shared) (H : Hp) (C : Addr) (cl : List (Str × Addr)) (fp : List Addr), JE (blkE X w s H scope (compEnvC scope cl C X.env) fp) w elt te) (hv : ∀ i ∈ is, i ∈ own.map (·.2) := by decide) (hs : ∀ x, foldedSetIterable iter X.env x = pure x := by intro _; rfl) :
    JL X w (.ListComp elt [⟨tg, iter, ifs, 0⟩] scope pos) (pLcX it pg tt te (own.map (·.2))) := by
  obtain ⟨wi, ei, si⟩ := hi
  exact ⟨_, pe_lcX hs' hf' tk hw hc hN ei ok (fun s H C cl fp => (hg s H C cl fp).canon) (fun s H C cl fp => (ht s H C cl fp).canon) (fun s H C cl fp => (he s H C cl fp).canon) hs, sim_lcX hw hv si⟩
theorem js_setLcX {i : Nat} {y : Str} {py : Pos} {elt tg iter : Expr} {ifs : List Expr} {scope : Scope} {own : List (Str × Nat)} {pos spos : Pos} {it : PAx} {pg : PGx} {tt : PTx} {te : PEx} {is : List Nat} (hs' : X.stack = X.env :: X.outer) (hf' : X.env.frame = some X.env.locals) (tk : L2N.Takes X w) (hw : ∀ cls d σ σ' H, w cls d σ H → w cls d σ' H) (hc : X.calm = true) (hN : X.N.Nodup) (hi : JI X w tg iter it) (ok : BlkOk X.N X.env.scope scope own)
    (hg : ∀ (s : Shared) (H : Hp) (C : Addr) (cl : List (Str × Addr)) (fp : List Addr), JG (X.blk s H scope (compEnvC scope cl C X.env) fp) tg pg is) (ht : ∀ (s : Shared) (H : Hp) (C : Addr) (cl : List (Str × Addr)) (fp : List Addr), JTs (X.blk s H scope (compEnvC scope cl C X.env) fp) wNone ifs tt)
    (he : ∀ (s : Shared) (H : Hp) (C : Addr) (cl : List (Str × Addr)) (fp : List Addr), JE (blkE X w s H scope (compEnvC scope cl C X.env) fp) w elt te) (hv : ∀ i ∈ is, i ∈ own.map (·.2) := by decide)
    (hy : X.N[i]? = some y := by rfl) (hyl : X.env.scope.names.lookup y = some .local := by rfl) (hsw : swapsWith (.ListComp elt [⟨tg, iter, ifs, 0⟩] scope pos) (some (.Name y py)) spos.line X.env = pure true := by exact sw_true rfl rfl rfl (by decide +kernel)) (hs : ∀ x, foldedSetIterable iter X.env x = pure x := by intro _; rfl) :
    JS X w (.Assign [.Name y py] (.ListComp elt [⟨tg, iter, ifs, 0⟩] scope pos) spos) (pSet i (pDat (pLcX it pg tt te (own.map (·.2))))) := by
  obtain ⟨wi, ei, si⟩ := hi
  refine ⟨_, ps_setLcX (g := canonG X.K pg is) (tt := canon repB X.K X.mg wNone tt) (te := canon (repW X.K) X.K X.mg w te) hs' hf' tk hw hc hN hy hyl hsw ei ok (fun s H C cl fp => (hg s H C cl fp).canon) (fun s H C cl fp => (ht s H C cl fp).canon) (fun s H C cl fp => (he s H C cl fp).canon) hs, fun H0 Hb0 as Hb H M σ s r S D g => ?_⟩
  have sl := sim_lcX (X := X) (w := w) (pg := pg) (tt := tt) (te := te) hw hv si
  have g' : GoodS X.K X.mg w H0 Hb0 as Hb D ((pLcX it pg tt te (own.map (·.2)) s M).to s fun ws M1 => match allD ws with
      | some ds => .nx (s.set i (some (.d (.list ds)))) M1
      | none => .stuck) := by
    unfold pSet pDat at g
    cases e : pLcX it pg tt te (own.map (·.2)) s M with
    | stuck => rw [e] at g; exact g
    | exc a m => rw [e] at g; exact g
    | ok a m =>
      rw [e] at g
      simp only [R.bind, R.to] at g ⊢
      cases hd : allD a with
      | none => rw [hd] at g; exact g
      | some ds => rw [hd] at g; exact g
  refine GoodS.bind sl r S g' fun v ws as1 Hb1 H1 M1 r1 f1 S1 w1 g1 => ?_
  obtain ⟨q, vs, rfl, hq, z, wr, nq, hbn, h0n⟩ := w1
  cases hd : allD ws with
  | none => rw [hd] at g1; exact g1.elim
  | some ds =>
    rw [hd] at g1
    have dz := allD_ok wr hd
    have hl : ws.length = ds.length := (Paired.len wr).symm.trans (Paired.len dz)
    have fu : Fut as1 Hb1 as1 (upd Hb1 q (.lst vs)) := fut_new hbn
    refine GoodS.nx (GoodS.mono fu g1) (r1.freshData hq hbn h0n nq) ((S1.mono fu).set (w := .d (.list ds)) ?_ i)
    exact dz_lst upd_same (dzAll_mono (same_new hbn) dz) (hl ▸ z)
end
end Z

set_option linter.all false
set_option autoImplicit false
set_option maxRecDepth 100000
set_option maxHeartbeats 4000000
/-! Z46: dicts and tuples that are written in the program's top. -/
namespace Z
open PySem PySem.Spec PyProof.Rows L2 L2H
/-- a written dict: its keys are texts, its values data -/
structure KDic (w : World) (K : PySem.W.Frag) (mg : Str → Option Value) (x : Str) (kvs : List (Str × PyData)) : Prop where
  ex : ∃ (d : Addr) (es : Array DictEntry) (n : Nat), mg x = some (.ref d) ∧ K.lookup d = some ⟨.type "dict", none, .dict es n, #[]⟩ ∧ PySem.W.KeysLit w.params es.toList ∧ (d == sysModules) = false ∧
    Paired (fun (e : DictEntry) (p : Str × PyData) => ((∃ t, e.key = .str p.1 t) ∧ p.1.length ≤ sizeLine) ∧ ∃ v, RelV v e.val ∧ Dt K (fun _ => none) v p.2 ∧ fits p.2) es.toList kvs
/-- the keys of a written dict -/
def Itkk (ks : List Str) : It := ⟨fun i _ => i < ks.length, fun i H x H' => H' = H ∧ ∃ k, ks[i]? = some k ∧ x = .str k, fun i _ => ks.length ≤ i⟩
theorem turn_kkeys {P : Program} {w : World} {K : PySem.W.Frag} {tg : Expr} {d : Addr} {es : Array DictEntry} {ep : Nat} {kvs : List (Str × PyData)} {F : DictEntry → Str × PyData → Prop} (it : Addr) (hl : K.lookup d = some ⟨.type "dict", none, .dict es ep, #[]⟩) (hd : (d == sysModules) = false)
    (hp : Paired F es.toList kvs) (hF : ∀ e p, F e p → ∃ t, e.key = .str p.1 t) : Turn P w K tg (Itkk (kvs.map (·.1))) [it] it (fun i h => h.IsKeyIter it d i es.size ep) where
  mem := by simp
  obj := fun i h st b hb => by
    have e : b = it := by simpa using hb
    subst e
    obtain ⟨oi, e, c, dd⟩ := st
    exact ⟨oi, e, fun v z => by rw [dd] at z; cases z⟩
  keep := fun i h h' st k => st.at fun oi e => k it (by simp) oi e
  item := by
    intro X hP hw hK hc i pins s σ H E I hf st hg
    subst hP hw hK
    obtain ⟨f0, f1, f2, f3, f4, f5⟩ := hf it (by simp)
    have hi : i < kvs.length := by simpa [Itkk] using hg
    have hlen : es.size = kvs.length := by rw [← Array.length_toList]; exact Paired.len hp
    have hr : s.heap.DictRaw d es ep := ⟨_, I.kIn _ _ hl, ⟨rfl, rfl, rfl⟩, rfl⟩
    refine wpAny_pyNext_keys_item_raw st hr (by omega) fun h' st' sb => ?_
    have I1 : Inv X pins σ H { s with heap := h' } := I.turned (t' := s.toks) (fun b ob hb e => (sb.2 b hb).trans e) f0 f1 f3 f4 f5
    obtain ⟨e, he, hFe⟩ := Paired.at hp (i := i) (b := kvs[i]) (List.getElem?_eq_getElem hi)
    obtain ⟨t, ht⟩ := hF _ _ hFe
    have ee : es[i] = e := by
      rw [Array.getElem?_toList] at he
      obtain ⟨_, z⟩ := Array.getElem?_eq_some_iff.mp he
      exact z
    obtain ⟨oi, e2, c, dd⟩ := id st'
    exact ⟨es[i].key, rfl, go_of (s := { s with heap := h' }) e2 c dd (by decide) ⟨.str kvs[i].1, H, I1, by rw [ee, ht]; exact ⟨t, rfl⟩, ⟨rfl, _, by rw [List.getElem?_map, List.getElem?_eq_getElem hi]; rfl, rfl⟩, st', fun b hb => (hf b hb).1⟩⟩
  done := by
    intro X hP hw hK hc i pins s σ H E I hf st hg
    subst hP hw hK
    obtain ⟨f0, f1, f2, f3, f4, f5⟩ := hf it (by simp)
    have hlen : es.size = kvs.length := by rw [← Array.length_toList]; exact Paired.len hp
    have hge : es.size ≤ i := by
      have : (kvs.map (·.1)).length ≤ i := hg
      rw [List.length_map] at this
      omega
    exact next_key_end (I.ok.hd hc) st (I.kIn _ _ hl) rfl rfl hge fun h' eb => ⟨rfl, I.turned (t' := s.toks) (fun b ob hb e => eb b ob hb e) f0 f1 f3 f4 f5⟩
  self := fun A i s Q E st h => wpAny_pyIter_keyiter st h
section
variable {X : Cx} {w : WX} {x : Str} {kvs : List (Str × PyData)}
theorem pi_kkeys {tg : Expr} {pos : Pos} (h : KDic X.w X.K X.mg x kvs) (hg : Gl X x) (hd : (x == ("__debug__" : Str)) = false) : PI X tg (.Name x pos) (fun _ H R => R (Itkk (kvs.map (·.1))) H) := by
  obtain ⟨d, es, n, hm, hl, hk, hs, hp⟩ := h.ex
  have pn : PE X (.Name x pos) (tC (.ref d)) := pe_glob hg hm rfl hd
  refine ⟨fun pins s σ H R I h => ?_⟩
  refine thn (pn.run pins s σ H (fun v H' => v = .ref d ∧ H' = H) I ⟨rfl, rfl⟩) fun u s1 ⟨v, H1, I1, rx, ev, eH⟩ => ?_
  subst ev
  subst eH
  obtain rfl : u = Value.ref d := rx
  refine iter_keys hs (I1.kIn _ _ hl) ⟨rfl, rfl, rfl⟩ rfl (pi_one (tk := s1.toks) I1 _ (turn_kkeys _ hl hs hp fun e p z => z.1.1) ⟨_, Heap.get?_push_size _ rfl, rfl, ?_⟩ h)
  rfl
def pKKeys (kvs : List (Str × PyData)) : PAx := fun _ M => .ok (kvs.map fun p => .d (.str p.1)) M
theorem ji_kdic {tg : Expr} {pos : Pos} (h : KDic X.w X.K X.mg x kvs) (hg : Gl X x := by rfl) (hd : (x == ("__debug__" : Str)) = false := by decide) : JI X w tg (.Name x pos) (pKKeys kvs) := by
  refine ⟨_, pi_kkeys h hg hd, fun H0 Hb0 as Hb H M σ s r S Q g => ?_⟩
  obtain ⟨d, es, n, hm, hl, hk, hs, hp⟩ := h.ex
  refine Good.ok g r fun H0' Hb0' as' Hb' H' M' r' f' i => ⟨fun z hz => ?_, fun hz => ?_⟩
  · obtain ⟨p, hpi, rfl⟩ := map_at hz
    have hi := (List.getElem?_eq_some_iff.mp hpi).1
    refine ⟨by show i < (kvs.map (·.1)).length; rw [List.length_map]; exact hi, fun v H2 hy => ?_⟩
    obtain ⟨rfl, k, hk', rfl⟩ := hy
    have ek : k = p.1 := by
      rw [List.getElem?_map, hpi] at hk'
      exact (Option.some.inj hk').symm
    subst ek
    obtain ⟨e, he, hFe⟩ := Paired.at hp hpi
    exact ⟨Hb', r', Fut.refl, wr_str hFe.1.2⟩
  · show (kvs.map (·.1)).length ≤ i
    rw [List.getElem?_eq_none_iff, List.length_map] at hz
    rw [List.length_map]
    exact hz
theorem same_none {Hb : Hp} : Same (fun _ => none) Hb := fun _ _ e => by cases e
/-- a written tuple -/
theorem je_gtupE {d : PyData} {pos : Pos} (hm : ∃ a, X.mg x = some (.ref a) ∧ Dt X.K (fun _ => none) (.ref a) d ∧ fits d) (hg : Gl X x := by rfl) (hd : (x == ("__debug__" : Str)) = false := by decide) : JE X w (.Name x pos) (pC d) := by
  obtain ⟨a, h1, h2, h3⟩ := hm
  exact ⟨_, pe_glob (v := .ref a) hg h1 rfl hd, fun H0 Hb0 as Hb H M σ s r S Q g => g.ok r ⟨Dt.mono same_none d _ h2, h3⟩⟩
def pKGet (kvs : List (Str × PyData)) (pk : PEx) : PEx := fun s M => (pk s M).bind fun y M1 => match y with
  | .d (.str z) => (match kvs.find? fun p => decide (p.1 = z) with
    | some p => .ok (.d p.2) M1
    | none => .stuck)
  | _ => .stuck
theorem nsIn_lit {K : PySem.W.Frag} {d : Addr} {n : Nat} {z : Str} {F : DictEntry → Str × PyData → Prop} (hF : ∀ e p, F e p → ∃ t, e.key = .str p.1 t) : ∀ {es : List DictEntry} {kvs : List (Str × PyData)} {p : Str × PyData}, Paired F es kvs → (kvs.find? fun p => decide (p.1 = z)) = some p →
    ∃ e, es.find? (·.key.isStr z) = some e ∧ F e p := by
  intro es kvs p hp
  induction hp with
  | nil => intro h; cases h
  | @cons e q es kvs h t ih =>
    intro hf
    obtain ⟨tk, hk⟩ := hF e q h
    rw [List.find?_cons] at hf ⊢
    have es' : e.key.isStr z = decide (q.1 = z) := by
      rw [hk]
      show (q.1 == z) = decide (q.1 = z)
      by_cases hq : q.1 = z
      · simp [hq]
      · rw [decide_eq_false hq]
        exact beq_eq_false_iff_ne.mpr hq
    rw [es']
    cases hq : decide (q.1 = z) with
    | true =>
      rw [hq] at hf
      cases hf
      exact ⟨e, rfl, h⟩
    | false =>
      rw [hq] at hf
      exact ih hf
theorem je_kget {e : Expr} {p pos : Pos} {pk : PEx} (h : KDic X.w X.K X.mg x kvs) (hk : JE X w e pk) (hs : PlainIx e := by intro _ _; rfl) (hg : Gl X x := by rfl) (hd : (x == ("__debug__" : Str)) = false := by decide) : JE X w (.Subscript (.Name x p) e pos) (pKGet kvs pk) := by
  obtain ⟨d, es, n, hm, hl, hkl, hsm, hp⟩ := h.ex
  obtain ⟨t, ek, sk⟩ := hk
  refine ⟨_, pe_ix ix_kdict (pe_glob (v := .ref d) hg hm rfl hd) ek hs, fun H0 Hb0 as Hb H M σ s r S Q g => ?_⟩
  refine Good.bind sk r S g fun y y' as1 Hb1 H1 M1 r1 f1 S1 w1 g1 => ?_
  cases y' with
  | r i => exact (show False from g1).elim
  | k u => exact (show False from g1).elim
  | d q =>
    cases q with
    | str z =>
      obtain ⟨rfl, zl⟩ := wr_str_of w1
      simp only at g1
      cases hf : kvs.find? fun p => decide (p.1 = z) with
      | none => rw [hf] at g1; exact (show False from g1).elim
      | some p =>
        rw [hf] at g1
        obtain ⟨en, he, hF⟩ := nsIn_lit (K := X.K) (d := d) (n := n) (fun e p z => z.1.1) hp hf
        obtain ⟨v, rv, dv, fv⟩ := hF.2
        refine ⟨d, z, v, rfl, rfl, ⟨es, n, en.val, hl, hkl, ?_, rv⟩, Good.ok g1 r1 ⟨Dt.mono same_none _ _ dv, fv⟩⟩
        unfold PySem.W.nsIn
        rw [hl]
        dsimp only
        rw [he]
    | _ => exact (show False from g1).elim
end
end Z

set_option linter.all false
set_option autoImplicit false
set_option maxRecDepth 100000
set_option maxHeartbeats 4000000
/-! Z47: raise C("..") from None in a suite; except C as e: return isinstance(..) over any error. -/
namespace Z
open PySem PySem.Spec PyProof.Rows L2 L2H
section
variable {X : Cx} {C : Addr} {bmB : List Value} {B newId initId : String}
theorem pmk5_own {x m : Str} {j : Nat} {p p2 pos : Pos} (F : ExcBaseFacts B newId initId bmB) (q : PySem.W.excIn X.K C bmB newId = true) (gC : X.mg x = some (.ref C)) (kC : PySem.W.keepIn X.K (.ref C) = true) (r : Raises X (.ref C)) (hg : Gl X x)
    (hdb : (x == ("__debug__" : Str)) = false := by decide) : PMk5 X (.Call (.Name x p) [.Constant (.str m) j p2] [] pos) (fun _ H Q => Q (.ref C) none H) := by
  intro pins s σ H Q I h
  refine wpAny_Call_Name_kw (ld_glob I hg gC ?_ hdb)
  have ha : PA X [.Constant (.str m) j p2] (tCons (tC (.str m)) tNil) := pa_cons pe_str pa_nil
  refine PySem.W.callWith_K (h₀ := X.base) I.ok.mod.kin kC (thn (ha.run pos pins s σ H (fun vs H1 => vs = [V.str m] ∧ H = H1) I ⟨rfl, rfl⟩) fun us s1 hh => ?_)
  obtain ⟨vs, H1, I1, r1, ev, eH⟩ := hh
  subst ev
  rw [← eH] at I1
  refine ⟨I1.kIn, ?_⟩
  cases r1 with
  | cons ru rn =>
    rename_i u us'
    cases rn
    show wpAny _ _ (call (.ref C) [u]) _ _ _
    obtain ⟨bm, N, nm, qn, bs, hdct, sn, sub, ab, col, dd, k0, k1, k2, k3, k5, mN, hC, hN, hni, T⟩ := exc_obj I1.kIn q
    refine wpAny_call_exc_subT F T hC hN hni (fun h' e hm => ?_) (by show 1 ≤ sizeLine; rw [sizeLine_eq]; omega)
    exact mk_of5 I1 hm r h (I1.hok.gone hm.new)
end
section
variable {X : Cx} {w : WX}
theorem js_raiseXH {x m : Str} {j i : Nat} {p p2 pos pos2 cpos : Pos} (hc : HotC X) (tk : L2.Takes X w) (E : ExcCl X.K X.mg x) (hg : Gl X x := by rfl) (hdb : (x == ("__debug__" : Str)) = false := by decide) : JS X w (.Raise (some (.Call (.Name x p) [.Constant (.str m) j p2] [] pos)) (some (.Constant .none i cpos)) pos2) (pRaise x) := by
  obtain ⟨C, bmB, B, newId, initId, F, q, gC, kC, h1, h2⟩ := E.ex
  exact ⟨_, ps_raiseHN hc tk (pmk5_own F q gC kC (raises_own h1 h2) hg hdb), fun H0 Hb0 as Hb H M σ s r S D g => g σ as Hb H (.ref C) none r Fut.refl S ⟨gC, rfl⟩⟩
theorem js_try_isW {x xb n : Str} {c : Value} {C : Addr} {i : Nat} {body : List Stmt} {np n1 n2 n3 n4 n5 n6 n7 n8 n11 n14 pos pos' : Pos} {cat : Str → Option Bool} {pb : PSx} (hN : X.N.Nodup) (hc : Names X xb c) (tk : L2.Takes X w)
    (hcat : ∀ y b, cat y = some b → ∃ cv, X.mg y = some cv ∧ PySem.W.exmOne X.K cv c = some b)
    (gC : X.mg x = some (.ref C)) (EC : ExcC X.K C) (k1 : PySem.W.kitOne X.K (.ref C) (.ref C) = some true) (k2 : PySem.W.kitOne X.K (.ref C) (.type "ValueError") = some true) (hI : X.mg "isinstance" = none) (hV : X.mg "ValueError" = none)
    (hb : ∀ (W : WX) (pn : List (Addr × Obj)) (xe : Value → Shared → Prop), L2.Takes (X.tr pn xe) W → PassesOwn (model X.prog X.w) X.A X.env xe → JSs (X.tr pn xe) W body pb)
    (ht : ∀ e : Expr, (∃ y p q r, e = .Call y p q r) → ∀ whole, isTrue e X.env whole = (do let v ← whole; standAt e.pos; holding [v] (truthy v)))
    (hs : X.stack = X.env :: X.outer := by rfl) (hf : X.env.frame = some X.env.locals := by rfl) (hi : X.N[i]? = some n := by rfl) (hln : X.env.kindOf n = some .local := by rfl)
    (hgi : Gl X "isinstance" := by rfl) (hgV : Gl X "ValueError" := by rfl) (hgx : Gl X x := by rfl) (hdx : (x == ("__debug__" : Str)) = false := by decide) (hv : Vis X.env.scope n := by first | exact Or.inl rfl | exact Or.inr (Or.inl rfl) | exact Or.inr (Or.inr rfl)) (hd : (n == ("__debug__" : Str)) = false := by decide)
    (hcd : (n == ("__classdict__" : Str)) = false := by decide)
    (he1 : starEach [.Name n n1, .Name x n2] X.env = (false, eval (.Name n n1) X.env) :: starEach [.Name x n2] X.env := by rfl) (he2 : starEach [.Name x n2] X.env = (false, eval (.Name x n2) X.env) :: starEach [] X.env := by rfl)
    (he3 : starEach [.Name n n5, .Name "ValueError" n6] X.env = (false, eval (.Name n n5) X.env) :: starEach [.Name "ValueError" n6] X.env := by rfl) (he4 : starEach [.Name "ValueError" n6] X.env = (false, eval (.Name "ValueError" n6) X.env) :: starEach [] X.env := by rfl)
    (hp1 : (backTo n4 (starEach [.Name x n2] X.env)).any (·.1) = false := by rfl) (hp2 : (backTo n8 (starEach [.Name "ValueError" n6] X.env)).any (·.1) = false := by rfl) :
    JS X w (.Try body [.ExceptHandler (some (.Name xb np)) (some n) [.Return (some (.BoolOp .And [.Call (.Name "isinstance" n3) [.Name n n1, .Name x n2] [] n4, .Call (.Name "isinstance" n7) [.Name n n5, .Name "ValueError" n6] [] n8] n11)) n14] pos'] [] [] pos) (pTryIs x cat pb) := by
  let ts : Addr → Value → Option Addr → TS := fun a cls d D σ H => (i < σ.length → σ[i]? = some (some (.ref a))) ∧ d = none ∧ cls = .ref C ∧ D.rt (.bl true) H
  refine ⟨_, L2.ps_try_as (tb := fun W => canonS X.K X.mg W pb) (ts := ts) hs hf hN hi hln hc tk (fun W pn xe tkW po => (hb W pn xe tkW po).canon) (fun a oe cls d pn hz hfl => ?_), ?_⟩
  · refine ⟨fun pins s σ H D I ⟨hσ, ed, ec, q⟩ => ?_⟩
    subst ed ec
    have hσ := hσ (by
      have e1 := I.len
      have e2 := (List.getElem?_eq_some_iff.mp hi).1
      rw [show σ.length = X.N.length from e1]
      exact e2)
    have v : ∀ pos : Pos, PE (X.suite a ((a, oe) :: pn)) (.Name n pos) (tVar i) := fun pos => pe_var hi hv hd hcd
    have cr : CallR (X.suite a ((a, oe) :: pn)) (.builtin "isinstance") (rIsE X.K C a) := call_isEp (X := X.suite a ((a, oe) :: pn)) (p := (a, oe)) EC hz hfl List.mem_cons_self
    have P : PSs (X.suite a ((a, oe) :: pn)) [.Return (some (.BoolOp .And [.Call (.Name "isinstance" n3) [.Name n n1, .Name x n2] [] n4, .Call (.Name "isinstance" n7) [.Name n n5, .Name "ValueError" n6] [] n8] n11)) n14] _ :=
      pss_one (ps_ret (pos := n14) (pe_and (pos := n11) (pe_callB (p := n3) (pos := n4) cr hgi hI (by decide +kernel) (pa_cons (v n1) (pa_cons (pe_glob (pos := n2) (v := .ref C) hgx gC rfl hdx) pa_nil he2) he1) (by decide) (by decide) he1 hp1) (pe_one (pe_callB (p := n7) (pos := n8) cr hgi hI (by decide +kernel) (pa_cons (v n5) (pa_cons (pe_bltn (pos := n6) (v := .ty "ValueError") hgV hV (by decide +kernel) rfl) pa_nil he4) he3) (by decide) (by decide) he3 hp2))))
    refine P.run pins s σ H D I ?_
    exact ⟨.ref a, hσ, .ref C, .ref C, true, rfl, fun u h => h, k1, true, rfl, .ref a, hσ, .ty "ValueError", .type "ValueError", true, rfl, fun u h => h, k2, q⟩
  intro H0 Hb0 as Hb H M σ s r S D g
  refine ⟨H0, Hb0, as, Hb, M, s, r, S, ?_⟩
  unfold pTryIs at g
  cases q : pb s M with
  | nx s' M' => rw [q] at g; exact g
  | rt y M' => rw [q] at g; exact g
  | bk s' M' => rw [q] at g; exact g
  | ct s' M' => rw [q] at g; exact g
  | stuck => rw [q] at g; exact g
  | exc e s' M' =>
    rw [q] at g
    intro σ' as' Hb' H' cls d r' f' S' er
    dsimp only at g
    obtain ⟨gc, ga⟩ := er
    obtain ⟨ec, ea⟩ := e
    cases ea with
    | some fx => exact (show False from g).elim
    | none =>
      by_cases hq : ec = x ∧ cat ec = some true
      · simp only [hq, and_self, if_true] at g
        obtain ⟨rfl, h3⟩ := hq
        obtain ⟨cv, h1, h2⟩ := hcat _ _ h3
        rw [gC] at h1 gc
        cases h1
        cases gc
        refine ⟨true, h2, fun _ a ha => ?_, fun hb1 => by cases hb1⟩
        refine ⟨fun hl => List.getElem?_set_self (by rwa [List.length_set] at hl), ga, rfl, ?_⟩
        simp only [h3, if_true] at g
        exact g (.bl true) as' Hb' H' r' f' (wr_bl true)
      · simp only [hq, if_false] at g
        exact (show False from g).elim
end
end Z

set_option linter.all false
set_option autoImplicit false
set_option maxRecDepth 100000
set_option maxHeartbeats 4000000
/-! Z48: a comprehension inside a comprehension. -/
namespace Z
open PySem PySem.Spec PyProof.Rows L2 L2H
theorem blkIn {X : Cx} {s : Shared} {H : Hp} {sc scope S0 : Scope} {cl : List (Str × Addr)} {C : Addr} {fp : List Addr} {N : List Str} {own : List (Str × Nat)} (h : blkC N (relS sc S0) scope own = true) (hN : X.N = N := by rfl) (hS : X.env.scope = S0 := by rfl) : BlkOk (X.blk s H sc (compEnvC sc cl C X.env) fp).N (X.blk s H sc (compEnvC sc cl C X.env) fp).env.scope scope own := by
  subst hN hS
  exact blkOk_by (sc := relS sc X.env.scope) h
section
variable {X : Cx} {w : WX} {k : Nat} {x : Str} {ps : List Str} {dds : List PyData} {F : PF} {p pos : Pos}
theorem je_callG0 (hF : IsFn X.prog X.w X.K X.mg X.base k x ps dds F) (hr : Room k X.A) (hx : ∀ σ, PassesAt (L2N.CX X.prog X.w) X σ (WE w σ)) (hg : Gl X x := by rfl) (hdb : (x == ("__debug__" : Str)) = false := by decide) : JE X w (.Call (.Name x p) [] [] pos) (pCallG F dds pNil) := by
  obtain ⟨f, fd, dvs, ds, hm, hk, hf, hb, hv, hd, hz⟩ := hF.ex
  have e : PE X (.Call (.Name x p) [] [] pos) (tCallSD (SpG X.K X.mg F) dvs (WE w) tNil) := ⟨fun pins s σ H Q I h => by
    refine wpAny_Call_Name_kw (ld_glob I hg hm ?_ hdb)
    exact PySem.W.callWith_K0 I.kIn hk (run_fnSD (us := []) (vs := []) hf hr hb hv (hx σ) I .nil h)⟩
  refine ⟨_, e, fun H0 Hb0 as Hb H M σ s r S Q g => ?_⟩
  refine ⟨H0, Hb0, as, Hb, M, dds.map .d, r, wrs_of (dz_nil hd hz), ?_⟩
  have g1 : Good (repW X.K) X.K X.mg w H0 Hb0 as Hb σ Q (F (dds.map .d) M) := g
  cases q : F (dds.map .d) M with
  | ok a m => rw [q] at g1; exact g1
  | exc a m => rw [q] at g1; exact g1
  | stuck => rw [q] at g1; exact g1
end
/-- a tuple of the program's top is data -/
theorem dt_lit {K : PySem.W.Frag} {a : Addr} {od : Option Addr} {its : Array Value} {n : Nat} {sl : Array (Option Value)} {xs : List V} {ds : List PyData} (hl : K.lookup a = some ⟨.type "tuple", od, .seq its n, sl⟩) (hs : its.size ≤ sizeLine) (hv : Vals xs its.toList) (hd : DtAll K (fun _ => none) xs ds) : Dt K (fun _ => none) (.ref a) (.tuple ds) :=
  .tup (.inr ⟨_, _, _, hl, rfl, rfl, hs, hv⟩) hd
theorem fits_str {x : Str} (h : x.length ≤ sizeLine) : fits (.str x) := h
theorem rv_ref {a : Addr} : RelV (.ref a) (Value.ref a) := rfl
theorem rv_str {x : Str} {t : Tok} : RelV (.str x) (Value.str x t) := ⟨t, rfl⟩
end Z

set_option linter.all false
set_option autoImplicit false
set_option maxRecDepth 100000
set_option maxHeartbeats 4000000
/-! Z49: plain lemmas: splits, comparings, numerals of any sign, things laid behind others. -/
namespace Z
open PySem PySem.Spec PyProof.Rows L2 L2H
section
variable {a b p : PEx} {s : Sl} {M M' M'' : Ms} {x y z : Str}
theorem split_ok (h : p s M = .ok (.d (.str z)) M') (hz : z.length ≤ 1000000) (hy : y.length ≠ 0) : pDat (pSplit p (pC (.str y))) s M = .ok (.d (.list ((Txt.split z y).map .str))) M' := by
  refine dat_ok (ws := strsW (Txt.split z y)) ?_ (allD_strs _)
  unfold pSplit
  rw [h]
  have e1 : z.length + 2 ≤ sizeLine := Nat.le_trans (Nat.add_le_add_right hz 2) (by decide)
  simp [R.bind, pC, hy, e1]
theorem neI_ok {i j : Int} (ha : a s M = .ok (.d (.int i)) M') (hb : b s M' = .ok (.d (.int j)) M'') : pB (pOp gNeD a b) s M = .ok (!decide (i = j)) M'' := by
  refine pB_ok ?_
  rw [neE ha hb (by simp [shaped_int]) (by simp [shaped_int]), eqv_int]
  by_cases h : i = j <;> simp [h]
theorem eqI_ok {i j : Int} (ha : a s M = .ok (.d (.int i)) M') (hb : b s M' = .ok (.d (.int j)) M'') : pB (pOp gEqD a b) s M = .ok (decide (i = j)) M'' := by
  refine pB_ok ?_
  rw [eqE ha hb (by simp [shaped_int]) (by simp [shaped_int]), eqv_int]
  by_cases h : i = j <;> simp [h]
theorem gtI_ok {i j : Int} (ha : a s M = .ok (.d (.int i)) M') (hb : b s M' = .ok (.d (.int j)) M'') : pB (pOp gGtI a b) s M = .ok (decide (j < i)) M'' := by
  refine pB_ok ?_
  rw [op_ok ha hb]
  rfl
theorem eqSV (ha : a s M = .ok (.d (.str x)) M') (hb : b s M' = .ok (.d (.str y)) M'') (h1 : PyData.strOk x = true) (h2 : PyData.strOk y = true) : pOp gEqD a b s M = .ok (.d (.bool (decide (x = y)))) M'' := by
  rw [eqE ha hb (okD_shaped (n := 1) (okD_str h1) (by decide)) (okD_shaped (n := 1) (okD_str h2) (by decide)), eqv_strs h1 h2]
theorem asg_ok {pe : PEx} {g : PGx} {s s' : Sl} {M M' : Ms} {x : W} (h : pe s M = .ok x M') (hg : g x s M' = some s') : pAsg pe g s M = .nx s' M' := by
  unfold pAsg
  rw [h]
  simp only [R.to, hg]
theorem sorV_tt {q : PEx} {x : W} (h : p s M = .ok x M') (h2 : truth M' x = some true) : pOrV p q s M = .ok x M' := by unfold pOrV; rw [h]; simp only [R.bind, h2]
theorem sorV_ff {q : PEx} {x : W} (h : p s M = .ok x M') (h2 : truth M' x = some false) : pOrV p q s M = q s M' := by unfold pOrV; rw [h]; simp only [R.bind, h2]
end
/-- the order of texts -/
def ltB (a b : Str) : Bool := decide (a.cps.toList < b.cps.toList)
/-! ### numerals -/
def intT (n : Int) : Str := (toString n : Str)
theorem intT_nat (n : Nat) : intT (n : Int) = numT n := rfl
theorem tl_neg (m : Nat) : TL.tl (intT (Int.negSucc m)) = 45 :: TL.numL (m + 1) := by
  show TL.tl (Str.ofString (toString (Int.negSucc m))) = _
  rw [TL.tl_ofString]
  show (("-" : String) ++ Nat.repr (m + 1)).toList.map Char.toNat = _
  rw [String.toList_append, List.map_append, Nat.toList_repr]
  rfl
/-- the signs of a number's text -/
def tlZ : Int → List Nat
  | .ofNat n => TL.numL n
  | .negSucc m => 45 :: TL.numL (m + 1)
theorem tl_intT (n : Int) : TL.tl (intT n) = tlZ n := by
  cases n with
  | ofNat n => exact tl_numT n
  | negSucc m => exact tl_neg m
theorem intT_iff {n : Int} {z : Str} : intT n = z ↔ tlZ n = z.cps.toList := ⟨fun h => by rw [← tl_intT, h], fun h => TL.ext_tl ((tl_intT n).trans h)⟩
theorem intT_len {n : Int} {k : Nat} (hk : 0 < k) (h : n.natAbs < 10 ^ k) : (intT n).length ≤ k + 1 := by
  cases n with
  | ofNat n => exact Nat.le_trans (numT_len hk h) (Nat.le_succ k)
  | negSucc m =>
    rw [TL.len_tl, tl_neg, List.length_cons]
    exact Nat.succ_le_succ (TL.numL_len hk h)
theorem intT_signs (n : Int) : ∀ c ∈ TL.tl (intT n), c = 45 ∨ (48 ≤ c ∧ c ≤ 57) := by
  cases n with
  | ofNat n =>
    intro c hc
    exact .inr (TL.numL_digits n c (by rw [← tl_numT]; exact hc))
  | negSucc m =>
    intro c hc
    rw [tl_neg] at hc
    rcases List.mem_cons.mp hc with rfl | hc
    · exact .inl rfl
    · exact .inr (TL.numL_digits _ c hc)
theorem strOk_small {z : Str} (h : ∀ c ∈ TL.tl z, c < 0x110000) : PyData.strOk z = true := by
  unfold PyData.strOk
  rw [← Array.all_toList, List.all_eq_true]
  exact fun c hc => decide_eq_true (h c hc)
theorem intT_ok (n : Int) : PyData.strOk (intT n) = true := strOk_small fun c hc => by
  rcases intT_signs n c hc with rfl | h
  · decide
  · omega
theorem log2_big {n : Nat} (h : n < 10 ^ 20) : n.log2 < 1920 := by
  by_cases h0 : n = 0
  · subst h0; decide
  · refine (Nat.log2_lt h0).mpr (Nat.lt_of_lt_of_le h ?_)
    exact Nat.le_trans (show 10 ^ 20 ≤ 2 ^ 70 by decide) (Nat.pow_le_pow_right (by decide) (by decide))
theorem strZ_ok {a : PEx} {s : Sl} {M M' : Ms} {n : Int} (h : a s M = .ok (.d (.int n)) M') (hn : n.natAbs < 10 ^ 20) : pCall gStrI (pCons a pNil) s M = .ok (.d (.str (intT n))) M' := by
  rw [call1 h]
  unfold gStrI
  simp only
  rw [if_pos ⟨log2_big hn, Nat.le_trans (intT_len (k := 20) (by decide) hn) (by decide)⟩]
  rfl
/-! ### parts hold no other signs -/
theorem sub_mem (x : Str) (i j : Nat) : ∀ c ∈ TL.tl (Builtin.Str.strSub x i j), c ∈ TL.tl x := fun c hc => by
  rw [TL.tl_strSub] at hc
  exact List.mem_of_mem_drop (List.mem_of_mem_take hc)
theorem parts_mem (x : Str) (n : Nat) : ∀ (cuts : List Nat) (a : Nat), ∀ z ∈ StrLaws.partsFrom x n a cuts, ∀ c ∈ TL.tl z, c ∈ TL.tl x
  | [], a, z, h => by
    rcases List.mem_singleton.mp (show z ∈ [Builtin.Str.strSub x a x.length] from h) with rfl
    exact sub_mem x _ _
  | c :: r, a, z, h => by
    rcases List.mem_cons.mp (show z ∈ Builtin.Str.strSub x a c :: StrLaws.partsFrom x n (c + n) r from h) with rfl | h
    · exact sub_mem x _ _
    · exact parts_mem x n r _ z h
theorem split_mem (x y : Str) : ∀ z ∈ Txt.split x y, ∀ c ∈ TL.tl z, c ∈ TL.tl x := by
  intro z h
  unfold Txt.split at h
  split at h
  · rcases List.mem_singleton.mp h with rfl; exact fun _ h => h
  · split at h
    · rcases List.mem_singleton.mp h with rfl; exact fun _ h => h
    · rw [StrLaws.partsBetween_eq] at h
      exact parts_mem x _ _ _ z h
theorem strOk_at {z : Str} (h : PyData.strOk z = true) : ∀ c ∈ TL.tl z, c < 0x110000 := by
  unfold PyData.strOk at h
  rw [← Array.all_toList, List.all_eq_true] at h
  exact fun c hc => of_decide_eq_true (h c hc)
theorem split_ok2 {x y z : Str} (h : z ∈ Txt.split x y) (hk : PyData.strOk x = true) : PyData.strOk z = true := strOk_small fun c hc => strOk_at hk c (split_mem x y z h c hc)
theorem orT_bb {a b : PTx} {s : Sl} {M : Ms} {x y : Bool} (h1 : a s M = .ok x M) (h2 : b s M = .ok y M) : pOrT a b s M = .ok (x || y) M := by
  cases x with
  | true => rw [or_tt h1]; rfl
  | false => rw [or_ff h1, h2]; rfl
theorem andT_bb {a b : PTx} {s : Sl} {M : Ms} {x y : Bool} (h1 : a s M = .ok x M) (h2 : b s M = .ok y M) : pAndT a b s M = .ok (x && y) M := by
  cases x with
  | true => rw [and_tt h1, h2]; rfl
  | false => rw [and_ff h1]; rfl
/-! ### things laid behind others -/
theorem gA {M L : Ms} {c : Nat} : (M ++ L)[M.length + c]? = L[c]? := by rw [List.getElem?_append_right (Nat.le_add_right _ _), Nat.add_sub_cancel_left]
theorem gA0 {M L : Ms} : (M ++ L)[M.length]? = L[0]? := gA (c := 0)
theorem sA {M L : Ms} {c : Nat} {x : MO} : (M ++ L).set (M.length + c) x = M ++ L.set c x := by rw [List.set_append_right _ _ (Nat.le_add_right _ _), Nat.add_sub_cancel_left]
theorem sA0 {M L : Ms} {x : MO} : (M ++ L).set M.length x = M ++ L.set 0 x := sA (c := 0)
end Z

set_option linter.all false
set_option autoImplicit false
set_option maxRecDepth 100000
set_option maxHeartbeats 4000000
namespace Z
open PySem PySem.Spec PyProof.Rows L2 L2H
noncomputable section
def catK (y : Str) : Option Bool := if y = "InvalidName" ∨ y = "DuplicateName" ∨ y = "UnknownName" ∨ y = "TooMany" ∨ y = "InvalidPaper" then some true else none
def bad77 : Exn := ⟨"InvalidPaper", none⟩
def K_COLUMNS : List (Str × PyData) := [("entries", .tuple [.tuple [.str "desk", .str "text"], .tuple [.str "number", .str "number"], .tuple [.str "day", .str "number"], .tuple [.str "kind", .str "text"], .tuple [.str "state", .str "text"]]), ("posts", .tuple [.tuple [.str "desk", .str "text"], .tuple [.str "number", .str "number"], .tuple [.str "day", .str "number"], .tuple [.str "account", .str "text"], .tuple [.str "amount", .str "number"], .tuple [.str "state", .str "text"]]), ("accounts", .tuple [.tuple [.str "account", .str "text"], .tuple [.str "home", .str "text"], .tuple [.str "unit", .str "text"], .tuple [.str "floor", .str "number"], .tuple [.str "balance", .str "number"], .tuple [.str "state", .str "text"]]), ("rights", .tuple [.tuple [.str "account", .str "text"], .tuple [.str "desk", .str "text"], .tuple [.str "amount", .str "number"]])]
abbrev N__law_same : List Str := ["actual", "due", "k"]
def lp0__law_same (rec : List PyData → PR) : PSx :=
  pIf (pNotT (pTru (pCallQ rec [] (pCons (pOp gIx (pVar 0) (pVar 2)) (pCons (pOp gIx (pVar 1) (pVar 2)) (pNil)))))) (pRet (pC (.bool false))) (pNext)
def b__law_same (rec : List PyData → PR) : PSx :=
  pSeq (pIf (pB (pOp (gIsN false) (pVar 1) (pC .none))) (pRet (pOp (gIsN false) (pVar 0) (pC .none))) (pNext))
  (pSeq (pIf (pTru (pIsi2 (pVar 1) "tuple" "list")) (pSeq (pIf (pOrT (pB (pOp gNeD (pCall gIsi (pCons (pVar 1) (pCons (pK (.ty "tuple")) pNil))) (pCall gIsi (pCons (pVar 0) (pCons (pK (.ty "tuple")) pNil))))) (pB (pOp gNeD (pCall gIsi (pCons (pVar 1) (pCons (pK (.ty "list")) pNil))) (pCall gIsi (pCons (pVar 0) (pCons (pK (.ty "list")) pNil)))))) (pRet (pC (.bool false))) (pNext))
  (pSeq (pIf (pB (pOp gNeD (pCall gLen (pCons (pVar 0) (pNil))) (pCall gLen (pCons (pVar 1) (pNil))))) (pRet (pC (.bool false))) (pNext))
  (pSeq (pFor (pRng1 (pCall gLen (pCons (pVar 1) (pNil)))) (qName 2) ((lp0__law_same rec)))
  (pRet (pC (.bool true)))))) (pNext))
  (pSeq (pIf (pTru (pCall gIsi (pCons (pVar 1) (pCons (pK (.ty "bool")) pNil)))) (pRet (pAndV (pCall gIsi (pCons (pVar 0) (pCons (pK (.ty "bool")) pNil))) (pOp gEqD (pVar 0) (pVar 1)))) (pNext))
  (pSeq (pIf (pTru (pCall gIsi (pCons (pVar 1) (pCons (pK (.ty "int")) pNil)))) (pRet (pAndV (pCall gIsi (pCons (pVar 0) (pCons (pK (.ty "int")) pNil))) (pAndV (pNotV (pCall gIsi (pCons (pVar 0) (pCons (pK (.ty "bool")) pNil)))) (pOp gEqD (pVar 0) (pVar 1))))) (pNext))
  (pRet (pAndV (pCall gIsi (pCons (pVar 0) (pCons (pK (.ty "str")) pNil))) (pOp gEqD (pVar 0) (pVar 1)))))))
def f0__law_same (rec : List PyData → PR) : PF := runG N__law_same.length (["actual", "due"] : List Str).length (b__law_same rec)
theorem run__law_same (rec : List PyData → PR) {ws : List W} {M : Ms} (h : ws.length = 2) : f0__law_same rec ws M = (b__law_same rec (startS 3 ws) M).toR := runG_pos h
mutual
/-- data whose sameness the law asks, so deep -/
def sameOk : Nat → PyData → Bool
  | _, .none => true
  | _, .bool _ => true
  | _, .int _ => true
  | _, .str s => PyData.strOk s
  | 0, .list _ => false
  | 0, .tuple _ => false
  | n + 1, .list ds => decide (ds.length ≤ 1000000) && sameAll n ds
  | n + 1, .tuple ds => decide (ds.length ≤ 1000000) && sameAll n ds
  | _, .dict _ => false
def sameAll : Nat → List PyData → Bool
  | _, [] => true
  | n, d :: ds => sameOk n d && sameAll n ds
end
theorem sameAll_at : ∀ {n : Nat} {ds : List PyData}, sameAll n ds = true → ∀ (i : Nat) (h : i < ds.length), sameOk n ds[i] = true
  | _, [], _, _, h => by simp at h
  | n, d :: ds, s, i, h => by
    unfold sameAll at s
    simp only [Bool.and_eq_true] at s
    cases i with
    | zero => exact s.1
    | succ j => simpa using sameAll_at s.2 j (by simpa using h)
open Classical in
/-- the same data: yes -/
def qs (n : Nat) : List PyData → PR := fun ds => match ds with
  | [a, d] => if a = d ∧ sameOk n d = true then .ok (.bool true) else .stuck
  | _ => .stuck
def recOf : Nat → List PyData → PR
  | 0 => fun _ => .stuck
  | n + 1 => qs n
def q__law_same : List PyData → PR := qs 5
open Classical in
theorem qs_ok {n : Nat} {d : PyData} (h : sameOk n d = true) : qs n [d, d] = .ok (.bool true) := by
  show (if d = d ∧ sameOk n d = true then PR.ok (.bool true) else .stuck) = _
  rw [if_pos ⟨rfl, h⟩]
theorem same_loop {A : PyData} {xs : List PyData} {n : Nat} (hix : ∀ (i : Nat) (h : i < xs.length), gIx (.d A) (.d (.int i)) [] = .ok (.d xs[i]) []) (hs : sameAll n xs = true) : ∀ (l : List Nat) (s : Option W), (∀ i ∈ l, i < xs.length) →
    ∃ s', forL (qName 2) (lp0__law_same (qs n)) (l.map fun i : Nat => W.d (.int (0 + (i : Int)))) [some (.d A), some (.d A), s] [] = .nx [some (.d A), some (.d A), s'] []
  | [], s, _ => ⟨s, rfl⟩
  | i :: l, s, hl => by
    have hi := hl i List.mem_cons_self
    obtain ⟨s', ih⟩ := same_loop hix hs l (some (.d (.int (0 + (i : Int))))) fun j hj => hl j (List.mem_cons_of_mem _ hj)
    refine ⟨s', ?_⟩
    rw [List.map_cons, forL]
    have hg : qName 2 (.d (.int (0 + (i : Int)))) [some (.d A), some (.d A), s] [] = some [some (.d A), some (.d A), some (.d (.int (0 + (i : Int))))] := rfl
    rw [hg]
    have hx := hix i hi
    have hq := qs_ok (sameAll_at hs i hi)
    have hb : lp0__law_same (qs n) [some (.d A), some (.d A), some (.d (.int (0 + (i : Int))))] [] = .nx [some (.d A), some (.d A), some (.d (.int (0 + (i : Int))))] [] := by
      rw [Int.zero_add]
      unfold lp0__law_same
      rw [if_ff (M' := []) (by
        unfold pNotT pTru pCallQ pCons pNil pOp pVar
        simp only [List.getElem?_cons_zero, List.getElem?_cons_succ, R.bind, hx, allD, Option.map, List.append_nil, hq, PR.to, truth]
        rfl)]
      rfl
    simp only [hb]
    exact ih
theorem eqv_bool (a b : Bool) : PyData.eqv (.bool a) (.bool b) = (a == b) := by
  first
  | rfl
  | simp [PyData.eqv]
theorem shaped_bool (a : Bool) : SeqAt.shaped (.bool a) = true := by
  first
  | rfl
  | simp [SeqAt.shaped]
theorem eqv_str (a b : Str) : PyData.eqv (.str a) (.str b) = (a == b) := by
  first
  | rfl
  | simp [PyData.eqv]
theorem shaped_str {a : Str} (h : PyData.strOk a = true) : SeqAt.shaped (.str a) = true := by
  simp [SeqAt.shaped, PyData.canLay0, PyData.depth, h]
theorem pure__law_same : ∀ (n : Nat) (ds : List PyData), qs n ds ≠ .stuck → (f0__law_same (recOf n)).pure ds = qs n ds := by
  intro n ds h
  match ds, h with
  | [a, d], h =>
    have hc : a = d ∧ sameOk n d = true := by
      unfold qs at h
      simp only at h
      split at h
      · assumption
      · exact absurd rfl h
    obtain ⟨rfl, hs⟩ := hc
    rw [qs_ok hs]
    unfold PF.pure
    rw [run__law_same _ rfl]
    have e1 : (PyData.int 0 : PyData) = .int 0 := rfl
    cases a with
    | none => simp [b__law_same, pSeq, pNext, pIf, pSet, pDrop, pRet, pRetN, pAsg, pVar, pC, pK, pCons, pNil, pTup, pLst, pDat, pMut, pOp, pB, pChain, pAndT, pOrT, pNotT, pAndV, pOrV, pNotV, pTru, pIfE, pNeg, pCall, pCallL, pCallQ, pCallG, pRaise, R.bind, R.to, R.bindN, O.toR, PR.to, truth, allD, view, viewAll, itemsL, itemsT, lenW, tagD, tagW, isTy, tyOk, scalar, R.freeze, pFor, pItL, pItT, pItS, pRng1, pRng2, qName, qNil, qCons, qTup, pSub, pNo, pSo, pYes, pBrk, pCnt, startS, clearO, gInt, gAddI, gSubI, gLtI, gLeI, gGtI, gGeI, gEqD, gNeD, gIsN, gIsB, gStr, gIsi, gLen, gAbs, gInt1, gMin2, gMax2, gSum, gMaxI, gMinI, gList, gSorted, gIx, gInD, isNonD, viewI, catW, pCat, gMaxT, pFld, pSetF, pMeth, pMake, insOf, putW, noAtt, pTry, pListRev, pSlL, pSlT, pIsi2, allD_nil, eqv_int, shaped_int, allD_ints, allD_map, intsOf_map]
    | bool b => cases b <;> simp [b__law_same, eqv_bool, shaped_bool, pSeq, pNext, pIf, pSet, pDrop, pRet, pRetN, pAsg, pVar, pC, pK, pCons, pNil, pTup, pLst, pDat, pMut, pOp, pB, pChain, pAndT, pOrT, pNotT, pAndV, pOrV, pNotV, pTru, pIfE, pNeg, pCall, pCallL, pCallQ, pCallG, pRaise, R.bind, R.to, R.bindN, O.toR, PR.to, truth, allD, view, viewAll, itemsL, itemsT, lenW, tagD, tagW, isTy, tyOk, scalar, R.freeze, pFor, pItL, pItT, pItS, pRng1, pRng2, qName, qNil, qCons, qTup, pSub, pNo, pSo, pYes, pBrk, pCnt, startS, clearO, gInt, gAddI, gSubI, gLtI, gLeI, gGtI, gGeI, gEqD, gNeD, gIsN, gIsB, gStr, gIsi, gLen, gAbs, gInt1, gMin2, gMax2, gSum, gMaxI, gMinI, gList, gSorted, gIx, gInD, isNonD, viewI, catW, pCat, gMaxT, pFld, pSetF, pMeth, pMake, insOf, putW, noAtt, pTry, pListRev, pSlL, pSlT, pIsi2, allD_nil, eqv_int, shaped_int, allD_ints, allD_map, intsOf_map]
    | int i => simp [b__law_same, eqv_bool, shaped_bool, pSeq, pNext, pIf, pSet, pDrop, pRet, pRetN, pAsg, pVar, pC, pK, pCons, pNil, pTup, pLst, pDat, pMut, pOp, pB, pChain, pAndT, pOrT, pNotT, pAndV, pOrV, pNotV, pTru, pIfE, pNeg, pCall, pCallL, pCallQ, pCallG, pRaise, R.bind, R.to, R.bindN, O.toR, PR.to, truth, allD, view, viewAll, itemsL, itemsT, lenW, tagD, tagW, isTy, tyOk, scalar, R.freeze, pFor, pItL, pItT, pItS, pRng1, pRng2, qName, qNil, qCons, qTup, pSub, pNo, pSo, pYes, pBrk, pCnt, startS, clearO, gInt, gAddI, gSubI, gLtI, gLeI, gGtI, gGeI, gEqD, gNeD, gIsN, gIsB, gStr, gIsi, gLen, gAbs, gInt1, gMin2, gMax2, gSum, gMaxI, gMinI, gList, gSorted, gIx, gInD, isNonD, viewI, catW, pCat, gMaxT, pFld, pSetF, pMeth, pMake, insOf, putW, noAtt, pTry, pListRev, pSlL, pSlT, pIsi2, allD_nil, eqv_int, shaped_int, allD_ints, allD_map, intsOf_map]
    | str s =>
      have hst : PyData.strOk s = true := by cases n <;> simpa [sameOk] using hs
      simp [b__law_same, eqv_str, shaped_str hst, pSeq, pNext, pIf, pSet, pDrop, pRet, pRetN, pAsg, pVar, pC, pK, pCons, pNil, pTup, pLst, pDat, pMut, pOp, pB, pChain, pAndT, pOrT, pNotT, pAndV, pOrV, pNotV, pTru, pIfE, pNeg, pCall, pCallL, pCallQ, pCallG, pRaise, R.bind, R.to, R.bindN, O.toR, PR.to, truth, allD, view, viewAll, itemsL, itemsT, lenW, tagD, tagW, isTy, tyOk, scalar, R.freeze, pFor, pItL, pItT, pItS, pRng1, pRng2, qName, qNil, qCons, qTup, pSub, pNo, pSo, pYes, pBrk, pCnt, startS, clearO, gInt, gAddI, gSubI, gLtI, gLeI, gGtI, gGeI, gEqD, gNeD, gIsN, gIsB, gStr, gIsi, gLen, gAbs, gInt1, gMin2, gMax2, gSum, gMaxI, gMinI, gList, gSorted, gIx, gInD, isNonD, viewI, catW, pCat, gMaxT, pFld, pSetF, pMeth, pMake, insOf, putW, noAtt, pTry, pListRev, pSlL, pSlT, pIsi2, allD_nil, eqv_int, shaped_int, allD_ints, allD_map, intsOf_map]
    | dict kvs => cases n <;> simp [sameOk] at hs
    | list xs =>
      cases n with
      | zero => simp [sameOk] at hs
      | succ n =>
        simp only [sameOk, Bool.and_eq_true, decide_eq_true_eq] at hs
        obtain ⟨hl, hs⟩ := hs
        obtain ⟨s', q1⟩ := same_loop (A := .list xs) (xs := xs) (n := n) (fun i hi => by
          unfold gIx itemsL
          simp only
          rw [atI_nat, List.getElem?_map, List.getElem?_eq_getElem hi]
          rfl) hs (List.range xs.length) none (fun i hi => List.mem_range.mp hi)
        have it : pRng1 (pCall gLen (pCons (pVar 1) pNil)) [some (.d (.list xs)), some (.d (.list xs)), none] [] = .ok (rngW 0 xs.length) [] := rng1_ok (len_list rfl) hl
        unfold b__law_same
        rw [show recOf (n + 1) = qs n from rfl]
        show (O.toR (pSeq _ _ [some (.d (.list xs)), some (.d (.list xs)), none] [])).freeze = _
        rw [seq_nx (s' := [some (.d (.list xs)), some (.d (.list xs)), none]) (M' := []) (by simp [pSeq, pNext, pIf, pSet, pDrop, pRet, pRetN, pAsg, pVar, pC, pK, pCons, pNil, pTup, pLst, pDat, pMut, pOp, pB, pChain, pAndT, pOrT, pNotT, pAndV, pOrV, pNotV, pTru, pIfE, pNeg, pCall, pCallL, pCallQ, pCallG, pRaise, R.bind, R.to, R.bindN, O.toR, PR.to, truth, allD, view, viewAll, itemsL, itemsT, lenW, tagD, tagW, isTy, tyOk, scalar, R.freeze, pFor, pItL, pItT, pItS, pRng1, pRng2, qName, qNil, qCons, qTup, pSub, pNo, pSo, pYes, pBrk, pCnt, startS, clearO, gInt, gAddI, gSubI, gLtI, gLeI, gGtI, gGeI, gEqD, gNeD, gIsN, gIsB, gStr, gIsi, gLen, gAbs, gInt1, gMin2, gMax2, gSum, gMaxI, gMinI, gList, gSorted, gIx, gInD, isNonD, viewI, catW, pCat, gMaxT, pFld, pSetF, pMeth, pMake, insOf, putW, noAtt, pTry, pListRev, pSlL, pSlT, pIsi2, allD_nil, eqv_int, shaped_int, allD_ints, allD_map, intsOf_map])]
        rw [seq_rt (x := .d (.bool true)) (M' := []) (by
          rw [if_tt (M' := []) (by simp [pSeq, pNext, pIf, pSet, pDrop, pRet, pRetN, pAsg, pVar, pC, pK, pCons, pNil, pTup, pLst, pDat, pMut, pOp, pB, pChain, pAndT, pOrT, pNotT, pAndV, pOrV, pNotV, pTru, pIfE, pNeg, pCall, pCallL, pCallQ, pCallG, pRaise, R.bind, R.to, R.bindN, O.toR, PR.to, truth, allD, view, viewAll, itemsL, itemsT, lenW, tagD, tagW, isTy, tyOk, scalar, R.freeze, pFor, pItL, pItT, pItS, pRng1, pRng2, qName, qNil, qCons, qTup, pSub, pNo, pSo, pYes, pBrk, pCnt, startS, clearO, gInt, gAddI, gSubI, gLtI, gLeI, gGtI, gGeI, gEqD, gNeD, gIsN, gIsB, gStr, gIsi, gLen, gAbs, gInt1, gMin2, gMax2, gSum, gMaxI, gMinI, gList, gSorted, gIx, gInD, isNonD, viewI, catW, pCat, gMaxT, pFld, pSetF, pMeth, pMake, insOf, putW, noAtt, pTry, pListRev, pSlL, pSlT, pIsi2, allD_nil, eqv_int, shaped_int, allD_ints, allD_map, intsOf_map])]
          rw [seq_nx (s' := [some (.d (.list xs)), some (.d (.list xs)), none]) (M' := []) (by simp [eqv_bool, shaped_bool, pSeq, pNext, pIf, pSet, pDrop, pRet, pRetN, pAsg, pVar, pC, pK, pCons, pNil, pTup, pLst, pDat, pMut, pOp, pB, pChain, pAndT, pOrT, pNotT, pAndV, pOrV, pNotV, pTru, pIfE, pNeg, pCall, pCallL, pCallQ, pCallG, pRaise, R.bind, R.to, R.bindN, O.toR, PR.to, truth, allD, view, viewAll, itemsL, itemsT, lenW, tagD, tagW, isTy, tyOk, scalar, R.freeze, pFor, pItL, pItT, pItS, pRng1, pRng2, qName, qNil, qCons, qTup, pSub, pNo, pSo, pYes, pBrk, pCnt, startS, clearO, gInt, gAddI, gSubI, gLtI, gLeI, gGtI, gGeI, gEqD, gNeD, gIsN, gIsB, gStr, gIsi, gLen, gAbs, gInt1, gMin2, gMax2, gSum, gMaxI, gMinI, gList, gSorted, gIx, gInD, isNonD, viewI, catW, pCat, gMaxT, pFld, pSetF, pMeth, pMake, insOf, putW, noAtt, pTry, pListRev, pSlL, pSlT, pIsi2, allD_nil, eqv_int, shaped_int, allD_ints, allD_map, intsOf_map])]
          rw [seq_nx (s' := [some (.d (.list xs)), some (.d (.list xs)), none]) (M' := []) (by simp [eqv_bool, shaped_bool, pSeq, pNext, pIf, pSet, pDrop, pRet, pRetN, pAsg, pVar, pC, pK, pCons, pNil, pTup, pLst, pDat, pMut, pOp, pB, pChain, pAndT, pOrT, pNotT, pAndV, pOrV, pNotV, pTru, pIfE, pNeg, pCall, pCallL, pCallQ, pCallG, pRaise, R.bind, R.to, R.bindN, O.toR, PR.to, truth, allD, view, viewAll, itemsL, itemsT, lenW, tagD, tagW, isTy, tyOk, scalar, R.freeze, pFor, pItL, pItT, pItS, pRng1, pRng2, qName, qNil, qCons, qTup, pSub, pNo, pSo, pYes, pBrk, pCnt, startS, clearO, gInt, gAddI, gSubI, gLtI, gLeI, gGtI, gGeI, gEqD, gNeD, gIsN, gIsB, gStr, gIsi, gLen, gAbs, gInt1, gMin2, gMax2, gSum, gMaxI, gMinI, gList, gSorted, gIx, gInD, isNonD, viewI, catW, pCat, gMaxT, pFld, pSetF, pMeth, pMake, insOf, putW, noAtt, pTry, pListRev, pSlL, pSlT, pIsi2, allD_nil, eqv_int, shaped_int, allD_ints, allD_map, intsOf_map])]
          rw [seq_nx ((for_ok it).trans q1)]
          rfl)]
        rfl
    | tuple xs =>
      cases n with
      | zero => simp [sameOk] at hs
      | succ n =>
        simp only [sameOk, Bool.and_eq_true, decide_eq_true_eq] at hs
        obtain ⟨hl, hs⟩ := hs
        obtain ⟨s', q1⟩ := same_loop (A := .tuple xs) (xs := xs) (n := n) (fun i hi => by
          unfold gIx itemsL itemsT
          simp only
          rw [atI_nat, List.getElem?_map, List.getElem?_eq_getElem hi]
          rfl) hs (List.range xs.length) none (fun i hi => List.mem_range.mp hi)
        have it : pRng1 (pCall gLen (pCons (pVar 1) pNil)) [some (.d (.tuple xs)), some (.d (.tuple xs)), none] [] = .ok (rngW 0 xs.length) [] := rng1_ok (by
          unfold pCall pCons pVar pNil
          simp only [List.getElem?_cons_succ, List.getElem?_cons_zero, R.bind, gLen, lenW, itemsL, itemsT, List.length_map]) hl
        unfold b__law_same
        rw [show recOf (n + 1) = qs n from rfl]
        show (O.toR (pSeq _ _ [some (.d (.tuple xs)), some (.d (.tuple xs)), none] [])).freeze = _
        rw [seq_nx (s' := [some (.d (.tuple xs)), some (.d (.tuple xs)), none]) (M' := []) (by simp [pSeq, pNext, pIf, pSet, pDrop, pRet, pRetN, pAsg, pVar, pC, pK, pCons, pNil, pTup, pLst, pDat, pMut, pOp, pB, pChain, pAndT, pOrT, pNotT, pAndV, pOrV, pNotV, pTru, pIfE, pNeg, pCall, pCallL, pCallQ, pCallG, pRaise, R.bind, R.to, R.bindN, O.toR, PR.to, truth, allD, view, viewAll, itemsL, itemsT, lenW, tagD, tagW, isTy, tyOk, scalar, R.freeze, pFor, pItL, pItT, pItS, pRng1, pRng2, qName, qNil, qCons, qTup, pSub, pNo, pSo, pYes, pBrk, pCnt, startS, clearO, gInt, gAddI, gSubI, gLtI, gLeI, gGtI, gGeI, gEqD, gNeD, gIsN, gIsB, gStr, gIsi, gLen, gAbs, gInt1, gMin2, gMax2, gSum, gMaxI, gMinI, gList, gSorted, gIx, gInD, isNonD, viewI, catW, pCat, gMaxT, pFld, pSetF, pMeth, pMake, insOf, putW, noAtt, pTry, pListRev, pSlL, pSlT, pIsi2, allD_nil, eqv_int, shaped_int, allD_ints, allD_map, intsOf_map])]
        rw [seq_rt (x := .d (.bool true)) (M' := []) (by
          rw [if_tt (M' := []) (by simp [pSeq, pNext, pIf, pSet, pDrop, pRet, pRetN, pAsg, pVar, pC, pK, pCons, pNil, pTup, pLst, pDat, pMut, pOp, pB, pChain, pAndT, pOrT, pNotT, pAndV, pOrV, pNotV, pTru, pIfE, pNeg, pCall, pCallL, pCallQ, pCallG, pRaise, R.bind, R.to, R.bindN, O.toR, PR.to, truth, allD, view, viewAll, itemsL, itemsT, lenW, tagD, tagW, isTy, tyOk, scalar, R.freeze, pFor, pItL, pItT, pItS, pRng1, pRng2, qName, qNil, qCons, qTup, pSub, pNo, pSo, pYes, pBrk, pCnt, startS, clearO, gInt, gAddI, gSubI, gLtI, gLeI, gGtI, gGeI, gEqD, gNeD, gIsN, gIsB, gStr, gIsi, gLen, gAbs, gInt1, gMin2, gMax2, gSum, gMaxI, gMinI, gList, gSorted, gIx, gInD, isNonD, viewI, catW, pCat, gMaxT, pFld, pSetF, pMeth, pMake, insOf, putW, noAtt, pTry, pListRev, pSlL, pSlT, pIsi2, allD_nil, eqv_int, shaped_int, allD_ints, allD_map, intsOf_map])]
          rw [seq_nx (s' := [some (.d (.tuple xs)), some (.d (.tuple xs)), none]) (M' := []) (by simp [eqv_bool, shaped_bool, pSeq, pNext, pIf, pSet, pDrop, pRet, pRetN, pAsg, pVar, pC, pK, pCons, pNil, pTup, pLst, pDat, pMut, pOp, pB, pChain, pAndT, pOrT, pNotT, pAndV, pOrV, pNotV, pTru, pIfE, pNeg, pCall, pCallL, pCallQ, pCallG, pRaise, R.bind, R.to, R.bindN, O.toR, PR.to, truth, allD, view, viewAll, itemsL, itemsT, lenW, tagD, tagW, isTy, tyOk, scalar, R.freeze, pFor, pItL, pItT, pItS, pRng1, pRng2, qName, qNil, qCons, qTup, pSub, pNo, pSo, pYes, pBrk, pCnt, startS, clearO, gInt, gAddI, gSubI, gLtI, gLeI, gGtI, gGeI, gEqD, gNeD, gIsN, gIsB, gStr, gIsi, gLen, gAbs, gInt1, gMin2, gMax2, gSum, gMaxI, gMinI, gList, gSorted, gIx, gInD, isNonD, viewI, catW, pCat, gMaxT, pFld, pSetF, pMeth, pMake, insOf, putW, noAtt, pTry, pListRev, pSlL, pSlT, pIsi2, allD_nil, eqv_int, shaped_int, allD_ints, allD_map, intsOf_map])]
          rw [seq_nx (s' := [some (.d (.tuple xs)), some (.d (.tuple xs)), none]) (M' := []) (by simp [eqv_bool, shaped_bool, pSeq, pNext, pIf, pSet, pDrop, pRet, pRetN, pAsg, pVar, pC, pK, pCons, pNil, pTup, pLst, pDat, pMut, pOp, pB, pChain, pAndT, pOrT, pNotT, pAndV, pOrV, pNotV, pTru, pIfE, pNeg, pCall, pCallL, pCallQ, pCallG, pRaise, R.bind, R.to, R.bindN, O.toR, PR.to, truth, allD, view, viewAll, itemsL, itemsT, lenW, tagD, tagW, isTy, tyOk, scalar, R.freeze, pFor, pItL, pItT, pItS, pRng1, pRng2, qName, qNil, qCons, qTup, pSub, pNo, pSo, pYes, pBrk, pCnt, startS, clearO, gInt, gAddI, gSubI, gLtI, gLeI, gGtI, gGeI, gEqD, gNeD, gIsN, gIsB, gStr, gIsi, gLen, gAbs, gInt1, gMin2, gMax2, gSum, gMaxI, gMinI, gList, gSorted, gIx, gInD, isNonD, viewI, catW, pCat, gMaxT, pFld, pSetF, pMeth, pMake, insOf, putW, noAtt, pTry, pListRev, pSlL, pSlT, pIsi2, allD_nil, eqv_int, shaped_int, allD_ints, allD_map, intsOf_map])]
          rw [seq_nx ((for_ok it).trans q1)]
          rfl)]
        rfl
  | [], h => exact absurd rfl h
  | [_], h => exact absurd rfl h
  | _ :: _ :: _ :: _, h => exact absurd rfl h
abbrev N_is_name : List Str := ["word", "sign"]
def lp0_is_name : PSx :=
  pIf (pB (pOp gNinS (pVar 1) (pC (.str "abcdefghijklmnopqrstuvwxyz")))) (pRet (pC (.bool false))) (pNext)
def b_is_name : PSx :=
  pSeq (pIf (pOrT (pNotT (pTru (pCall gIsi (pCons (pVar 0) (pCons (pK (.ty "str")) pNil))))) (pNotT (pB (pChain (gLeI) (gLeI) (pC (.int 1)) (pCall gLen (pCons (pVar 0) (pNil))) (pC (.int 12)))))) (pRet (pC (.bool false))) (pNext))
  (pSeq (pFor (pItS (pVar 0)) (qName 1) (lp0_is_name))
  (pRet (pC (.bool true))))
def f0_is_name : PF := runG N_is_name.length (["word"] : List Str).length (b_is_name)
theorem run_is_name {ws : List W} {M : Ms} (h : ws.length = 1) : f0_is_name ws M = (b_is_name (startS 2 ws) M).toR := runG_pos h
def letterB (c : Nat) : Bool := !(!(!(Builtin.Str.occurrences ("abcdefghijklmnopqrstuvwxyz" : Str) ⟨#[c]⟩ 0 ("abcdefghijklmnopqrstuvwxyz" : Str).length 1).isEmpty))
def isNameD (d : PyData) : Bool := match d with
  | .str s => decide (1 ≤ s.length) && (decide (s.length ≤ 12) && s.cps.toList.all letterB)
  | _ => false
def q_is_name : List PyData → PR := fun ds => match ds with
  | [.str s] => .ok (.bool (isNameD (.str s)))
  | _ => .stuck
theorem lp0_name : ∀ (cs : List Nat) (s : Option W) (z : W) (M : Ms), ∃ s', forL (qName 1) lp0_is_name (cs.map fun c => .d (.str ⟨#[c]⟩)) [some z, s] M = if cs.all letterB = true then .nx [some z, s'] M else .rt (.d (.bool false)) M
  | [], s, z, M => ⟨s, by simp [forL]⟩
  | c :: cs, s, z, M => by
    obtain ⟨s', ih⟩ := lp0_name cs (some (.d (.str ⟨#[c]⟩))) z M
    refine ⟨s', ?_⟩
    rw [List.map_cons, forL]
    have hg : qName 1 (.d (.str ⟨#[c]⟩)) [some z, s] M = some [some z, some (.d (.str ⟨#[c]⟩))] := rfl
    rw [hg]
    cases hc : letterB c with
    | true =>
      have hb : lp0_is_name [some z, some (.d (.str ⟨#[c]⟩))] M = .nx [some z, some (.d (.str ⟨#[c]⟩))] M := by
        have hc' : (!(!(Builtin.Str.occurrences ("abcdefghijklmnopqrstuvwxyz" : Str) ⟨#[c]⟩ 0 ("abcdefghijklmnopqrstuvwxyz" : Str).length 1).isEmpty)) = false := by
          unfold letterB at hc
          simpa using hc
        unfold lp0_is_name
        rw [if_ff (M' := M) (by
          show R.ok (!(!(Builtin.Str.occurrences ("abcdefghijklmnopqrstuvwxyz" : Str) ⟨#[c]⟩ 0 ("abcdefghijklmnopqrstuvwxyz" : Str).length 1).isEmpty)) M = R.ok false M
          rw [hc'])]
        rfl
      simp only [hb]
      rw [ih]
      simp [hc]
    | false =>
      have hb : lp0_is_name [some z, some (.d (.str ⟨#[c]⟩))] M = .rt (.d (.bool false)) M := by
        have hc' : (!(!(Builtin.Str.occurrences ("abcdefghijklmnopqrstuvwxyz" : Str) ⟨#[c]⟩ 0 ("abcdefghijklmnopqrstuvwxyz" : Str).length 1).isEmpty)) = true := by
          unfold letterB at hc
          simpa using hc
        unfold lp0_is_name
        rw [if_tt (M' := M) (by
          show R.ok (!(!(Builtin.Str.occurrences ("abcdefghijklmnopqrstuvwxyz" : Str) ⟨#[c]⟩ 0 ("abcdefghijklmnopqrstuvwxyz" : Str).length 1).isEmpty)) M = R.ok true M
          rw [hc'])]
        rfl
      simp only [hb]
      simp [hc]
theorem pure_is_name : ∀ ds, q_is_name ds ≠ .stuck → f0_is_name.pure ds = q_is_name ds := by
  intro ds h
  match ds, h with
  | [.str s], _ =>
    unfold PF.pure
    rw [run_is_name rfl]
    obtain ⟨s', hl⟩ := lp0_name s.cps.toList none (.d (.str s)) []
    have it : pItS (pVar 0) [some (.d (.str s)), none] [] = .ok (s.cps.toList.map fun c => .d (.str ⟨#[c]⟩)) [] := rfl
    by_cases h1 : (1 : Int) ≤ s.length
    · by_cases h2 : (s.length : Int) ≤ 12
      · have n1 : 1 ≤ s.length := by omega
        have n2 : s.length ≤ 12 := by omega
        unfold b_is_name
        rw [seq_nx (s' := [some (.d (.str s)), none]) (M' := []) (by simp [h1, h2, pSeq, pNext, pIf, pSet, pDrop, pRet, pRetN, pAsg, pVar, pC, pK, pCons, pNil, pTup, pLst, pDat, pMut, pOp, pB, pChain, pAndT, pOrT, pNotT, pAndV, pOrV, pNotV, pTru, pIfE, pNeg, pCall, pCallL, pCallQ, pCallG, pRaise, R.bind, R.to, R.bindN, O.toR, PR.to, truth, allD, view, viewAll, itemsL, itemsT, lenW, tagD, tagW, isTy, tyOk, scalar, R.freeze, pFor, pItL, pItT, pItS, pRng1, pRng2, qName, qNil, qCons, qTup, pSub, pNo, pSo, pYes, pBrk, pCnt, startS, clearO, gInt, gAddI, gSubI, gLtI, gLeI, gGtI, gGeI, gEqD, gNeD, gIsN, gIsB, gStr, gIsi, gLen, gAbs, gInt1, gMin2, gMax2, gSum, gMaxI, gMinI, gList, gSorted, gIx, gInD, isNonD, viewI, catW, pCat, gMaxT, pFld, pSetF, pMeth, pMake, insOf, putW, noAtt, pTry, pListRev, pSlL, pSlT, pIsi2, allD_nil, eqv_int, shaped_int, allD_ints, allD_map, intsOf_map])]
        cases hc : s.cps.toList.all letterB with
        | true =>
          rw [hc] at hl
          rw [seq_nx ((for_ok it).trans hl)]
          rw [ret_ok rfl]
          simp [q_is_name, isNameD, n1, n2, hc, pSeq, pNext, pIf, pSet, pDrop, pRet, pRetN, pAsg, pVar, pC, pK, pCons, pNil, pTup, pLst, pDat, pMut, pOp, pB, pChain, pAndT, pOrT, pNotT, pAndV, pOrV, pNotV, pTru, pIfE, pNeg, pCall, pCallL, pCallQ, pCallG, pRaise, R.bind, R.to, R.bindN, O.toR, PR.to, truth, allD, view, viewAll, itemsL, itemsT, lenW, tagD, tagW, isTy, tyOk, scalar, R.freeze, pFor, pItL, pItT, pItS, pRng1, pRng2, qName, qNil, qCons, qTup, pSub, pNo, pSo, pYes, pBrk, pCnt, startS, clearO, gInt, gAddI, gSubI, gLtI, gLeI, gGtI, gGeI, gEqD, gNeD, gIsN, gIsB, gStr, gIsi, gLen, gAbs, gInt1, gMin2, gMax2, gSum, gMaxI, gMinI, gList, gSorted, gIx, gInD, isNonD, viewI, catW, pCat, gMaxT, pFld, pSetF, pMeth, pMake, insOf, putW, noAtt, pTry, pListRev, pSlL, pSlT, pIsi2, allD_nil, eqv_int, shaped_int, allD_ints, allD_map, intsOf_map]
        | false =>
          rw [hc] at hl
          rw [seq_rt ((for_ok it).trans hl)]
          simp [q_is_name, isNameD, n1, n2, hc, pSeq, pNext, pIf, pSet, pDrop, pRet, pRetN, pAsg, pVar, pC, pK, pCons, pNil, pTup, pLst, pDat, pMut, pOp, pB, pChain, pAndT, pOrT, pNotT, pAndV, pOrV, pNotV, pTru, pIfE, pNeg, pCall, pCallL, pCallQ, pCallG, pRaise, R.bind, R.to, R.bindN, O.toR, PR.to, truth, allD, view, viewAll, itemsL, itemsT, lenW, tagD, tagW, isTy, tyOk, scalar, R.freeze, pFor, pItL, pItT, pItS, pRng1, pRng2, qName, qNil, qCons, qTup, pSub, pNo, pSo, pYes, pBrk, pCnt, startS, clearO, gInt, gAddI, gSubI, gLtI, gLeI, gGtI, gGeI, gEqD, gNeD, gIsN, gIsB, gStr, gIsi, gLen, gAbs, gInt1, gMin2, gMax2, gSum, gMaxI, gMinI, gList, gSorted, gIx, gInD, isNonD, viewI, catW, pCat, gMaxT, pFld, pSetF, pMeth, pMake, insOf, putW, noAtt, pTry, pListRev, pSlL, pSlT, pIsi2, allD_nil, eqv_int, shaped_int, allD_ints, allD_map, intsOf_map]
      · have n2 : ¬ s.length ≤ 12 := by omega
        unfold b_is_name
        rw [seq_rt (x := .d (.bool false)) (M' := []) (by simp [h1, h2, pSeq, pNext, pIf, pSet, pDrop, pRet, pRetN, pAsg, pVar, pC, pK, pCons, pNil, pTup, pLst, pDat, pMut, pOp, pB, pChain, pAndT, pOrT, pNotT, pAndV, pOrV, pNotV, pTru, pIfE, pNeg, pCall, pCallL, pCallQ, pCallG, pRaise, R.bind, R.to, R.bindN, O.toR, PR.to, truth, allD, view, viewAll, itemsL, itemsT, lenW, tagD, tagW, isTy, tyOk, scalar, R.freeze, pFor, pItL, pItT, pItS, pRng1, pRng2, qName, qNil, qCons, qTup, pSub, pNo, pSo, pYes, pBrk, pCnt, startS, clearO, gInt, gAddI, gSubI, gLtI, gLeI, gGtI, gGeI, gEqD, gNeD, gIsN, gIsB, gStr, gIsi, gLen, gAbs, gInt1, gMin2, gMax2, gSum, gMaxI, gMinI, gList, gSorted, gIx, gInD, isNonD, viewI, catW, pCat, gMaxT, pFld, pSetF, pMeth, pMake, insOf, putW, noAtt, pTry, pListRev, pSlL, pSlT, pIsi2, allD_nil, eqv_int, shaped_int, allD_ints, allD_map, intsOf_map])]
        simp [q_is_name, isNameD, n2, pSeq, pNext, pIf, pSet, pDrop, pRet, pRetN, pAsg, pVar, pC, pK, pCons, pNil, pTup, pLst, pDat, pMut, pOp, pB, pChain, pAndT, pOrT, pNotT, pAndV, pOrV, pNotV, pTru, pIfE, pNeg, pCall, pCallL, pCallQ, pCallG, pRaise, R.bind, R.to, R.bindN, O.toR, PR.to, truth, allD, view, viewAll, itemsL, itemsT, lenW, tagD, tagW, isTy, tyOk, scalar, R.freeze, pFor, pItL, pItT, pItS, pRng1, pRng2, qName, qNil, qCons, qTup, pSub, pNo, pSo, pYes, pBrk, pCnt, startS, clearO, gInt, gAddI, gSubI, gLtI, gLeI, gGtI, gGeI, gEqD, gNeD, gIsN, gIsB, gStr, gIsi, gLen, gAbs, gInt1, gMin2, gMax2, gSum, gMaxI, gMinI, gList, gSorted, gIx, gInD, isNonD, viewI, catW, pCat, gMaxT, pFld, pSetF, pMeth, pMake, insOf, putW, noAtt, pTry, pListRev, pSlL, pSlT, pIsi2, allD_nil, eqv_int, shaped_int, allD_ints, allD_map, intsOf_map]
    · have n1 : ¬ 1 ≤ s.length := by omega
      unfold b_is_name
      rw [seq_rt (x := .d (.bool false)) (M' := []) (by simp [h1, pSeq, pNext, pIf, pSet, pDrop, pRet, pRetN, pAsg, pVar, pC, pK, pCons, pNil, pTup, pLst, pDat, pMut, pOp, pB, pChain, pAndT, pOrT, pNotT, pAndV, pOrV, pNotV, pTru, pIfE, pNeg, pCall, pCallL, pCallQ, pCallG, pRaise, R.bind, R.to, R.bindN, O.toR, PR.to, truth, allD, view, viewAll, itemsL, itemsT, lenW, tagD, tagW, isTy, tyOk, scalar, R.freeze, pFor, pItL, pItT, pItS, pRng1, pRng2, qName, qNil, qCons, qTup, pSub, pNo, pSo, pYes, pBrk, pCnt, startS, clearO, gInt, gAddI, gSubI, gLtI, gLeI, gGtI, gGeI, gEqD, gNeD, gIsN, gIsB, gStr, gIsi, gLen, gAbs, gInt1, gMin2, gMax2, gSum, gMaxI, gMinI, gList, gSorted, gIx, gInD, isNonD, viewI, catW, pCat, gMaxT, pFld, pSetF, pMeth, pMake, insOf, putW, noAtt, pTry, pListRev, pSlL, pSlT, pIsi2, allD_nil, eqv_int, shaped_int, allD_ints, allD_map, intsOf_map])]
      simp [q_is_name, isNameD, n1, pSeq, pNext, pIf, pSet, pDrop, pRet, pRetN, pAsg, pVar, pC, pK, pCons, pNil, pTup, pLst, pDat, pMut, pOp, pB, pChain, pAndT, pOrT, pNotT, pAndV, pOrV, pNotV, pTru, pIfE, pNeg, pCall, pCallL, pCallQ, pCallG, pRaise, R.bind, R.to, R.bindN, O.toR, PR.to, truth, allD, view, viewAll, itemsL, itemsT, lenW, tagD, tagW, isTy, tyOk, scalar, R.freeze, pFor, pItL, pItT, pItS, pRng1, pRng2, qName, qNil, qCons, qTup, pSub, pNo, pSo, pYes, pBrk, pCnt, startS, clearO, gInt, gAddI, gSubI, gLtI, gLeI, gGtI, gGeI, gEqD, gNeD, gIsN, gIsB, gStr, gIsi, gLen, gAbs, gInt1, gMin2, gMax2, gSum, gMaxI, gMinI, gList, gSorted, gIx, gInD, isNonD, viewI, catW, pCat, gMaxT, pFld, pSetF, pMeth, pMake, insOf, putW, noAtt, pTry, pListRev, pSlL, pSlT, pIsi2, allD_nil, eqv_int, shaped_int, allD_ints, allD_map, intsOf_map]
abbrev N_checked_name : List Str := ["word"]
def b_checked_name : PSx :=
  pSeq (pIf (pNotT (pTru (pCallQ q_is_name [] (pCons (pVar 0) (pNil))))) (pRaise "InvalidName") (pNext))
  (pRet (pVar 0))
def f0_checked_name : PF := runG N_checked_name.length (["word"] : List Str).length (b_checked_name)
theorem run_checked_name {ws : List W} {M : Ms} (h : ws.length = 1) : f0_checked_name ws M = (b_checked_name (startS 1 ws) M).toR := runG_pos h
def q_checked_name : List PyData → PR := fun ds => match ds with
  | [.str z] => if isNameD (.str z) = true then .ok (.str z) else .exc ⟨"InvalidName", none⟩
  | _ => .stuck
theorem pure_checked_name : ∀ ds, q_checked_name ds ≠ .stuck → f0_checked_name.pure ds = q_checked_name ds := by
  intro ds h
  match ds, h with
  | [.str z], h =>
    unfold PF.pure
    cases h1 : isNameD (.str z) <;> simp [b_checked_name, q_checked_name, q_is_name, h1, f0_checked_name, runG, pSeq, pNext, pIf, pSet, pDrop, pRet, pRetN, pAsg, pVar, pC, pK, pCons, pNil, pTup, pLst, pDat, pMut, pOp, pB, pChain, pAndT, pOrT, pNotT, pAndV, pOrV, pNotV, pTru, pIfE, pNeg, pCall, pCallL, pCallQ, pCallG, pRaise, R.bind, R.to, R.bindN, O.toR, PR.to, truth, allD, view, viewAll, itemsL, itemsT, lenW, tagD, tagW, isTy, tyOk, scalar, R.freeze, pFor, pItL, pItT, pItS, pRng1, pRng2, qName, qNil, qCons, qTup, pSub, pNo, pSo, pYes, pBrk, pCnt, startS, clearO, gInt, gAddI, gSubI, gLtI, gLeI, gGtI, gGeI, gEqD, gNeD, gIsN, gIsB, gStr, gIsi, gLen, gAbs, gInt1, gMin2, gMax2, gSum, gMaxI, gMinI, gList, gSorted, gIx, gInD, isNonD, viewI, catW, pCat, gMaxT, pFld, pSetF, pMeth, pMake, insOf, putW, noAtt, pTry, pListRev, pSlL, pSlT, pIsi2, allD_nil, eqv_int, shaped_int, allD_ints, allD_map, intsOf_map]
abbrev N_home_of : List Str := ["account"]
def b_home_of : PSx :=
  pRet (pOp gIx (pDat (pSplit (pVar 0) (pC (.str ".")))) (pC (.int 0)))
def f0_home_of : PF := runG N_home_of.length (["account"] : List Str).length (b_home_of)
theorem run_home_of {ws : List W} {M : Ms} (h : ws.length = 1) : f0_home_of ws M = (b_home_of (startS 1 ws) M).toR := runG_pos h
def homeS (z : Str) : Str := (Txt.split z ".").headD z
def q_home_of : List PyData → PR := fun ds => match ds with
  | [.str z] => if z.length ≤ 1000000 ∧ Txt.split z "." ≠ [] then .ok (.str (homeS z)) else .stuck
  | _ => .stuck
theorem pure_home_of : ∀ ds, q_home_of ds ≠ .stuck → f0_home_of.pure ds = q_home_of ds := by
  intro ds h
  match ds, h with
  | [.str z], h =>
    by_cases hc : z.length ≤ 1000000 ∧ Txt.split z "." ≠ []
    · have q : q_home_of [.str z] = .ok (.str (homeS z)) := by simp only [q_home_of]; rw [if_pos hc]
      rw [q]
      obtain ⟨h1, h2⟩ := hc
      unfold PF.pure
      show (O.toR (b_home_of [some (.d (.str z))] [])).freeze = _
      unfold b_home_of
      obtain ⟨x, l, e⟩ := List.exists_cons_of_ne_nil h2
      rw [ret_ok (ixL_ok (n := 0) (d := .str x) (split_ok (z := z) rfl h1 (by decide)) rfl (by rw [e]; rfl))]
      unfold homeS
      rw [e]
      rfl
    · exact absurd (by simp only [q_home_of]; rw [if_neg hc]) h
abbrev N_book_line : List Str := ["row", "account", "unit", "floor", "balance", "word", "rights", "told", "desk", "number"]
def lc0_book_line : PAx :=
  pLc (pItT (pVar 6)) (qTup 2 (qCons (qName 8) (qCons (qName 9) (qNil)))) (pYes) (pOp gAddS (pOp gAddS (pVar 8) (pC (.str ":"))) (pCall gStrI (pCons (pVar 9) (pNil)))) [8, 9]
def b_book_line : PSx :=
  pSeq (pAsg (pVar 0) (qTup 6 (qCons (qName 1) (qCons (qName 2) (qCons (qName 3) (qCons (qName 4) (qCons (qName 5) (qCons (qName 6) (qNil)))))))))
  (pSeq (pSet 7 (pIfE (pTru (pVar 6)) (pJoin (pC (.str ",")) (pDat (lc0_book_line))) (pC (.str "-"))))
  (pRet (pJoin (pC (.str " ")) (pDat (pLst (pCons (pVar 1) (pCons (pVar 2) (pCons (pCall gStrI (pCons (pVar 3) (pNil))) (pCons (pCall gStrI (pCons (pVar 4) (pNil))) (pCons (pVar 5) (pCons (pVar 7) (pNil))))))))))))
def f0_book_line : PF := runG N_book_line.length (["row"] : List Str).length (b_book_line)
theorem run_book_line {ws : List W} {M : Ms} (h : ws.length = 1) : f0_book_line ws M = (b_book_line (startS 10 ws) M).toR := runG_pos h
abbrev f_book_line : PF := f0_book_line
abbrev N_is_value : List Str := ["value", "kind", "sign"]
def lc0_is_value : PAx :=
  pLc (pItS (pVar 0)) (qName 2) (pOrT (pB (pOp gInS (pVar 2) (pC (.str "'?")))) (pNotT (pB (pChain (gLeS) (gLeS) (pC (.str " ")) (pVar 2) (pC (.str "~")))))) (pVar 2) [2]
def b_is_value : PSx :=
  pSeq (pIf (pB (pOp gEqD (pVar 1) (pC (.str "number")))) (pRet (pAndV (pCall gIsi (pCons (pVar 0) (pCons (pK (.ty "int")) pNil))) (pAndV (pNotV (pCall gIsi (pCons (pVar 0) (pCons (pK (.ty "bool")) pNil)))) (pChain (gLeI) (gLeI) (pNeg (pC (.int 1000000000000000000))) (pVar 0) (pC (.int 1000000000000000000)))))) (pNext))
  (pSeq (pIf (pOrT (pNotT (pTru (pCall gIsi (pCons (pVar 0) (pCons (pK (.ty "str")) pNil))))) (pB (pOp gGtI (pCall gLen (pCons (pVar 0) (pNil))) (pC (.int 60))))) (pRet (pC (.bool false))) (pNext))
  (pRet (pNotV (pDat (lc0_is_value)))))
def f0_is_value : PF := runG N_is_value.length (["value", "kind"] : List Str).length (b_is_value)
theorem run_is_value {ws : List W} {M : Ms} (h : ws.length = 2) : f0_is_value ws M = (b_is_value (startS 3 ws) M).toR := runG_pos h
def okSign (c : Nat) : Bool := !inC "'?" c && (decide (32 ≤ c) && decide (c ≤ 126))
def okText (z : Str) : Bool := decide (z.length ≤ 60) && z.cps.toList.all okSign
def okInt (n : Int) : Bool := decide (-1000000000000000000 ≤ n) && decide (n ≤ 1000000000000000000)
def q_is_value : List PyData → PR := fun ds => match ds with
  | [.int n, .str k] => if k = "number" then .ok (.bool (okInt n)) else .stuck
  | [.str z, .str k] => if k = "text" ∧ z.length ≤ 1000000 then .ok (.bool (okText z)) else .stuck
  | _ => .stuck
def badW (x : W) : Bool := match x with
  | .d (.str z) => match z.cps.toList with
    | [c] => !okSign c
    | _ => false
  | _ => false
theorem inCs {S : Str} {c : Nat} {M : Ms} : gInS (.d (.str ⟨#[c]⟩)) (.d (.str S)) M = .ok (.d (.bool (inC S c))) M := by
  show R.ok (W.d (.bool (!(Builtin.Str.occurrences S ⟨#[c]⟩ 0 S.length 1).isEmpty))) M = _
  rw [PySem.StrLaws.found_one]
  rfl
theorem lex1 (a b : Nat) : decide ([a] < [b]) = decide (a < b) := by
  rw [decide_eq_decide]
  constructor
  · intro h
    rcases List.cons_lt_cons_iff.mp h with h | ⟨_, h⟩
    · exact h
    · exact absurd h (List.lt_irrefl _)
  · exact fun h => List.cons_lt_cons_iff.mpr (.inl h)
theorem chainC {s : Sl} {M : Ms} {c : Nat} (h : s[2]? = some (some (.d (.str ⟨#[c]⟩)))) : pChain gLeS gLeS (pC (.str " ")) (pVar 2) (pC (.str "~")) s M = .ok (.d (.bool (decide (32 ≤ c) && decide (c ≤ 126)))) M := by
  unfold pChain
  rw [show pC (.str " ") s M = .ok (.d (.str " ")) M from rfl]
  simp only [R.bind]
  rw [var_ok h]
  simp only
  rw [show gLeS (.d (.str " ")) (.d (.str ⟨#[c]⟩)) M = .ok (.d (.bool (decide (32 ≤ c)))) M from by
    show R.ok (W.d (.bool (!decide ([c] < [32])))) M = _
    rw [lex1, ← decide_not]
    congr 3
    exact decide_eq_decide.mpr Nat.not_lt]
  by_cases h1 : 32 ≤ c
  · rw [decide_eq_true h1]
    simp only
    rw [show pC (.str "~") s M = .ok (.d (.str "~")) M from rfl]
    simp only
    show R.ok (W.d (.bool (!decide ([126] < [c])))) M = _
    rw [lex1, ← decide_not, Bool.true_and]
    congr 3
    exact decide_eq_decide.mpr Nat.not_lt
  · rw [decide_eq_false h1]
    simp only
    rfl
theorem lc_value {z : Str} {k : Option W} {s2 : Option W} (hz : z.length ≤ 1000000) : lc0_is_value [some (.d (.str z)), k, s2] [] = .ok ((z.cps.toList.filter fun c => !okSign c).map fun c => W.d (.str ⟨#[c]⟩)) [] := by
  unfold lc0_is_value pLc pItS
  rw [var_ok (x := .d (.str z)) rfl]
  simp only [R.bind]
  rw [if_pos (by rw [List.length_map]; exact Nat.le_trans (show z.cps.toList.length ≤ 1000000 by simpa [Str.length] using hz) (by decide))]
  rw [lcL_pure badW id]
  · rw [List.nil_append, List.map_id, List.filter_map]
    rfl
  · intro x hx
    obtain ⟨c, _, rfl⟩ := List.mem_map.mp hx
    have v : [some (W.d (.str z)), k, some (W.d (.str ⟨#[c]⟩))][2]? = some (some (.d (.str ⟨#[c]⟩))) := rfl
    refine ⟨[some (.d (.str z)), k, some (.d (.str ⟨#[c]⟩))], rfl, ?_, fun _ => var_ok v⟩
    have t1 : pB (pOp gInS (pVar 2) (pC (.str "'?"))) [some (W.d (.str z)), k, some (W.d (.str ⟨#[c]⟩))] [] = .ok (inC "'?" c) [] := pB_ok (by rw [op_ok (var_ok v) (y := .d (.str "'?")) (M'' := []) rfl]; exact inCs)
    have t2 := not_ok (pB_ok (chainC (M := []) v))
    rw [orT_bb t1 t2]
    show R.ok _ _ = R.ok (!okSign c) []
    unfold okSign
    cases inC (Str.ofString "'?") c <;> cases decide (32 ≤ c) <;> cases decide (c ≤ 126) <;> rfl
theorem noBad_val {z : Str} {k : Option W} {s2 : Option W} (hz : z.length ≤ 1000000) : pNotV (pDat lc0_is_value) [some (.d (.str z)), k, s2] [] = .ok (.d (.bool (z.cps.toList.all okSign))) [] := by
  rw [notV_ok (k := !(z.cps.toList.all okSign)) (dat_ok (lc_value hz) (allD_signs _)) (by
    simp only [truth, Option.some.injEq]
    rw [List.isEmpty_map]
    generalize z.cps.toList = l
    induction l with
    | nil => rfl
    | cons c l ih =>
      rw [List.all_cons]
      cases h : okSign c with
      | true => rw [List.filter_cons_of_neg (by simp [h]), ih, Bool.true_and]
      | false => rw [List.filter_cons_of_pos (by simp [h])]; rfl), Bool.not_not]
theorem pure_is_value : ∀ ds, q_is_value ds ≠ .stuck → f0_is_value.pure ds = q_is_value ds := by
  intro ds h
  match ds, h with
  | [.int n, .str k], h =>
    by_cases hk : k = "number"
    · subst hk
      have q : q_is_value [.int n, .str "number"] = .ok (.bool (okInt n)) := by simp [q_is_value]
      rw [q]
      unfold PF.pure
      show (O.toR (b_is_value [some (.d (.int n)), some (.d (.str "number")), none] [])).freeze = _
      unfold b_is_value
      have t1 := eqS (s := [some (W.d (.int n)), some (.d (.str "number")), none]) (M := []) (a := pVar 1) (b := pC (.str "number")) (x := "number") (y := "number") rfl rfl (by decide +kernel) (by decide +kernel)
      rw [seq_rt (x := .d (.bool (okInt n))) (M' := []) (by
        rw [if_tt (M' := []) t1]
        refine ret_ok ?_
        rw [andV_tt (x := .d (.bool true)) (M' := []) rfl rfl, andV_tt (x := .d (.bool true)) (M' := []) rfl rfl]
        exact chain_ok (i := -1000000000000000000) (j := n) (k := 1000000000000000000) rfl rfl rfl)]
      rfl
    · exact absurd (by simp [q_is_value, hk]) h
  | [.str z, .str k], h =>
    by_cases hc : k = "text" ∧ z.length ≤ 1000000
    · obtain ⟨rfl, hz⟩ := hc
      have q : q_is_value [.str z, .str "text"] = .ok (.bool (okText z)) := by simp [q_is_value, hz]
      rw [q]
      unfold PF.pure
      show (O.toR (b_is_value [some (.d (.str z)), some (.d (.str "text")), none] [])).freeze = _
      unfold b_is_value
      have t1 := eqS (s := [some (W.d (.str z)), some (.d (.str "text")), none]) (M := []) (a := pVar 1) (b := pC (.str "number")) (x := "text") (y := "number") rfl rfl (by decide +kernel) (by decide +kernel)
      rw [decide_eq_false (by decide)] at t1
      rw [seq_nx (s' := [some (.d (.str z)), some (.d (.str "text")), none]) (M' := []) (by rw [if_ff (M' := []) t1]; rfl)]
      have t2 : pNotT (pTru (pCall gIsi (pCons (pVar 0) (pCons (pK (.ty "str")) pNil)))) [some (W.d (.str z)), some (.d (.str "text")), none] [] = .ok false [] := rfl
      have t3 := gtI_ok (s := [some (W.d (.str z)), some (.d (.str "text")), none]) (M := []) (a := pCall gLen (pCons (pVar 0) (pNil))) (b := pC (.int 60)) (j := 60) (M'' := []) (len_str (x := z) rfl) rfl
      unfold okText
      by_cases hl : z.length ≤ 60
      · rw [decide_eq_true hl, Bool.true_and]
        rw [decide_eq_false (show ¬ (60 : Int) < z.length by omega)] at t3
        rw [seq_nx (s' := [some (.d (.str z)), some (.d (.str "text")), none]) (M' := []) (by rw [if_ff (M' := []) (by rw [or_ff t2]; exact t3)]; rfl)]
        rw [ret_ok (noBad_val hz)]
        rfl
      · rw [decide_eq_false hl, Bool.false_and]
        rw [decide_eq_true (show (60 : Int) < z.length by omega)] at t3
        rw [seq_rt (x := .d (.bool false)) (M' := []) (by rw [if_tt (M' := []) (by rw [or_ff t2]; exact t3)]; rfl)]
        rfl
    · exact absurd (by simp only [q_is_value]; rw [if_neg hc]) h
abbrev N_worked : List Str := ["sign", "one", "other", "found"]
def b_worked : PSx :=
  pSeq (pIf (pB (pOp gEqD (pVar 0) (pC (.str "=")))) (pRet (pOp gEqD (pVar 1) (pVar 2))) (pNext))
  (pSeq (pIf (pB (pOp gEqD (pVar 0) (pC (.str "<>")))) (pRet (pOp gNeD (pVar 1) (pVar 2))) (pNext))
  (pSeq (pIf (pB (pOp (gInT false) (pVar 0) (pTup (pCons (pC (.str "<")) (pCons (pC (.str "<=")) (pNil)))))) (pRet (pOrV (pOp gLtS (pVar 1) (pVar 2)) (pAndV (pOp gEqD (pVar 0) (pC (.str "<="))) (pOp gEqD (pVar 1) (pVar 2))))) (pNext))
  (pSeq (pIf (pB (pOp (gInT false) (pVar 0) (pTup (pCons (pC (.str ">")) (pCons (pC (.str ">=")) (pNil)))))) (pRet (pOrV (pOp gGtS (pVar 1) (pVar 2)) (pAndV (pOp gEqD (pVar 0) (pC (.str ">="))) (pOp gEqD (pVar 1) (pVar 2))))) (pNext))
  (pSeq (pNever)
  (pSeq (pNever)
  (pNever))))))
def f0_worked : PF := runG N_worked.length (["sign", "one", "other"] : List Str).length (b_worked)
theorem run_worked {ws : List W} {M : Ms} (h : ws.length = 3) : f0_worked ws M = (b_worked (startS 4 ws) M).toR := runG_pos h
abbrev f_worked : PF := f0_worked
abbrev N_Table_init : List Str := ["self", "columns", "name", "kind", "row"]
def lc0_Table_init (C_Table : Addr) : PAx :=
  pLcM (pLive (pFld C_Table "_columns" (pVar 0))) (qName 4) (pB (pOp gEqD (pOp gIx (pVar 4) (pC (.int 0))) (pVar 2))) (pVar 4) [4]
def lp1_Table_init (C_Table : Addr) : PSx :=
  pSeq (pDrop (pCallQ q_checked_name [] (pCons (pVar 2) (pNil))))
  (pSeq (pIf (pTru (pDat ((lc0_Table_init C_Table)))) (pNever) (pNext))
  (pSeq (pIf (pB (pOp (gInT true) (pVar 3) (pC (.tuple [.str "number", .str "text"])))) (pRaise "InvalidPaper") (pNext))
  (pApp (pFld C_Table "_columns" (pVar 0)) (pTup (pCons (pVar 2) (pCons (pVar 3) (pNil)))))))
def b_Table_init (C_Table : Addr) : PSx :=
  pSeq (pIf (pNotT (pTru (pVar 1))) (pRaise "InvalidPaper") (pNext))
  (pSeq (pIf (pB (pOp gGtI (pCall gLen (pCons (pVar 1) (pNil))) (pC (.int 12)))) (pRaise "TooMany") (pNext))
  (pSeq (pSetF C_Table "_columns" (pMut (pLst (pNil))) (pVar 0))
  (pSeq (pFor (pItT (pVar 1)) (qTup 2 (qCons (qName 2) (qCons (qName 3) (qNil)))) ((lp1_Table_init C_Table)))
  (pSetF C_Table "_rows" (pMut (pLst (pNil))) (pVar 0)))))
def f0_Table_init (C_Table : Addr) : PF := runG N_Table_init.length (["self", "columns"] : List Str).length (b_Table_init C_Table)
theorem run_Table_init (C_Table : Addr) {ws : List W} {M : Ms} (h : ws.length = 2) : f0_Table_init C_Table ws M = (b_Table_init C_Table (startS 5 ws) M).toR := runG_pos h
def colD (c : Str × Str) : PyData := .tuple [.str c.1, .str c.2]
def colsW (cs : List (Str × Str)) : List W := cs.map fun c => .d (colD c)
theorem lcM_none {i : Nat} {ws0 : List W} {g : PGx} {tt : PTx} {te : PEx} {s : Sl} {M : Ms} (hM : M[i]? = some (.lst ws0)) : ∀ (ws acc : List W), (∀ x ∈ ws, ∃ s', g x s M = some s' ∧ tt s' M = .ok false M) → lcM i ws0 g tt te s ws acc M = .ok acc M
  | [], acc, _ => by rw [lcM, if_pos hM]
  | x :: ws, acc, h => by
    obtain ⟨s', h1, h2⟩ := h x List.mem_cons_self
    rw [lcM, if_pos hM, h1]
    simp only [h2, R.bindN, Bool.false_eq_true, if_false]
    exact lcM_none hM ws acc fun y hy => h y (List.mem_cons_of_mem _ hy)
theorem lc_init {C : Addr} {M : Ms} {acc : List (Str × Str)} {n : Str} {x1 x3 s4 : Option W} (hne : ∀ c ∈ acc, c.1 ≠ n ∧ PyData.strOk c.1 = true) (hn : PyData.strOk n = true) (hl : acc.length ≤ 1000) :
    lc0_Table_init C [some (.r M.length), x1, some (.d (.str n)), x3, s4] (M ++ [.ins C [("_columns", .r (M.length + 1))], .lst (colsW acc)]) = .ok [] (M ++ [.ins C [("_columns", .r (M.length + 1))], .lst (colsW acc)]) := by
  unfold lc0_Table_init pLcM pLive
  have m1 : (M ++ [.ins C [("_columns", .r (M.length + 1))], .lst (colsW acc)])[M.length + 1]? = some (.lst (colsW acc)) := gA (c := 1)
  rw [fld_of (i := M.length) (fs := [("_columns", .r (M.length + 1))]) (x := .r (M.length + 1)) rfl gA0 rfl]
  simp only [R.bind, m1]
  rw [if_pos (by unfold colsW; rw [List.length_map]; exact Nat.le_trans hl (by decide))]
  refine lcM_none m1 _ _ fun x hx => ?_
  unfold colsW at hx
  obtain ⟨c, hc, rfl⟩ := List.mem_map.mp hx
  obtain ⟨h1, h2⟩ := hne c hc
  refine ⟨[some (.r M.length), x1, some (.d (.str n)), x3, some (.d (colD c))], rfl, ?_⟩
  have e := eqS (s := [some (W.r M.length), x1, some (.d (.str n)), x3, some (.d (colD c))]) (M := M ++ [.ins C [("_columns", .r (M.length + 1))], .lst (colsW acc)]) (a := pOp gIx (pVar 4) (pC (.int 0))) (b := pVar 2) (x := c.1) (y := n) (ixT_ok (i := 0) (ds := [.str c.1, .str c.2]) rfl rfl) rfl h2 hn
  rw [decide_eq_false h1] at e
  exact e
def colOk (c : Str × Str) : Prop := isNameD (.str c.1) = true ∧ PyData.strOk c.1 = true ∧ (c.2 = "number" ∨ c.2 = "text")
theorem lp_init {C : Addr} {M : Ms} {acc : List (Str × Str)} {c : Str × Str} {x1 s4 : Option W} (hc : colOk c) (hne : ∀ e ∈ acc, e.1 ≠ c.1 ∧ PyData.strOk e.1 = true) (hl : acc.length ≤ 1000) :
    lp1_Table_init C [some (.r M.length), x1, some (.d (.str c.1)), some (.d (.str c.2)), s4] (M ++ [.ins C [("_columns", .r (M.length + 1))], .lst (colsW acc)]) = .nx [some (.r M.length), x1, some (.d (.str c.1)), some (.d (.str c.2)), s4] (M ++ [.ins C [("_columns", .r (M.length + 1))], .lst (colsW (acc ++ [c]))]) := by
  obtain ⟨h1, h2, h3⟩ := hc
  unfold lp1_Table_init
  generalize hMM : M ++ [.ins C [("_columns", .r (M.length + 1))], .lst (colsW acc)] = MM
  have q1 : q_checked_name [.str c.1] = .ok (.str c.1) := by simp only [q_checked_name]; rw [if_pos h1]
  have a1 : pDrop (pCallQ q_checked_name [] (pCons (pVar 2) (pNil))) [some (W.r M.length), x1, some (.d (.str c.1)), some (.d (.str c.2)), s4] MM = .nx [some (.r M.length), x1, some (.d (.str c.1)), some (.d (.str c.2)), s4] MM := drop_ok (x := .d (.str c.1)) (by
    rw [call_data (ds := [.str c.1]) (cons_ok (M1 := MM) rfl nil_ok), q1]
    rfl)
  have a2 : pTru (pDat (lc0_Table_init C)) [some (W.r M.length), x1, some (.d (.str c.1)), some (.d (.str c.2)), s4] MM = .ok false MM := by
    subst hMM
    exact tru_ok (dat_ok (lc_init hne h2 hl) rfl) rfl
  have a3 : pB (pOp (gInT true) (pVar 3) (pC (.tuple [.str "number", .str "text"]))) [some (W.r M.length), x1, some (.d (.str c.1)), some (.d (.str c.2)), s4] MM = .ok (xor true (decide (c.2 ∈ (["number", "text"] : List Str)))) MM := inT (ms := ["number", "text"]) (M' := MM) rfl rfl
  rw [decide_eq_true (show c.2 ∈ (["number", "text"] : List Str) by simpa using h3)] at a3
  rw [seq_nx a1, seq_nx (s' := [some (.r M.length), x1, some (.d (.str c.1)), some (.d (.str c.2)), s4]) (M' := MM) (by rw [if_ff a2]; rfl), seq_nx (s' := [some (.r M.length), x1, some (.d (.str c.1)), some (.d (.str c.2)), s4]) (M' := MM) (by rw [if_ff (M' := MM) a3]; rfl)]
  subst hMM
  have h3 : pTup (pCons (pVar 2) (pCons (pVar 3) (pNil))) [some (W.r M.length), x1, some (.d (.str c.1)), some (.d (.str c.2)), s4] (M ++ [.ins C [("_columns", .r (M.length + 1))], .lst (colsW acc)]) = .ok (.d (colD c)) (M ++ [.ins C [("_columns", .r (M.length + 1))], .lst (colsW acc)]) := tup_ok (ds := [.str c.1, .str c.2]) (cons_ok (M1 := M ++ [.ins C [("_columns", .r (M.length + 1))], .lst (colsW acc)]) rfl (cons_ok (M1 := M ++ [.ins C [("_columns", .r (M.length + 1))], .lst (colsW acc)]) rfl nil_ok)) (by show 2 ≤ 1000; decide)
  refine (app_ok (i := M.length + 1) (ws0 := colsW acc) (ws := colsW acc) (y := .d (colD c)) (M1 := M ++ [.ins C [("_columns", .r (M.length + 1))], .lst (colsW acc)]) (M2 := M ++ [.ins C [("_columns", .r (M.length + 1))], .lst (colsW acc)]) (fld_of (j := 0) (f := "_columns") (x := .r (M.length + 1)) (i := M.length) (fs := [("_columns", .r (M.length + 1))]) rfl gA0 rfl) (gA (c := 1)) h3 (gA (c := 1)) (by unfold colsW; rw [List.length_map]; exact Nat.le_trans hl (by decide))).trans ?_
  rw [sA (c := 1)]
  unfold colsW
  rw [List.map_append]
  rfl
theorem fl_init {C : Addr} {M : Ms} {x1 : Option W} : ∀ (rest acc : List (Str × Str)) (s2 s3 s4 : Option W), (∀ c ∈ rest, colOk c) → (∀ c ∈ acc, PyData.strOk c.1 = true) → ((acc ++ rest).map (·.1)).Nodup → acc.length + rest.length ≤ 1000 →
    ∃ s2' s3', forL (qTup 2 (qCons (qName 2) (qCons (qName 3) (qNil)))) (lp1_Table_init C) (colsW rest) [some (.r M.length), x1, s2, s3, s4] (M ++ [.ins C [("_columns", .r (M.length + 1))], .lst (colsW acc)]) = .nx [some (.r M.length), x1, s2', s3', s4] (M ++ [.ins C [("_columns", .r (M.length + 1))], .lst (colsW (acc ++ rest))])
  | [], acc, s2, s3, s4, _, _, _, _ => ⟨s2, s3, by rw [List.append_nil]; rfl⟩
  | c :: rest, acc, s2, s3, s4, hr, ha, hn, hl => by
    rw [List.length_cons] at hl
    have hne : ∀ e ∈ acc, e.1 ≠ c.1 ∧ PyData.strOk e.1 = true := fun e he => ⟨fun h => by
      rw [List.map_append] at hn
      exact (List.nodup_append.mp hn).2.2 e.1 (List.mem_map_of_mem he) c.1 (by simp) h, ha e he⟩
    have hg : qTup 2 (qCons (qName 2) (qCons (qName 3) (qNil))) (W.d (colD c)) [some (.r M.length), x1, s2, s3, s4] (M ++ [.ins C [("_columns", .r (M.length + 1))], .lst (colsW acc)]) = some [some (.r M.length), x1, some (.d (.str c.1)), some (.d (.str c.2)), s4] := rfl
    rw [show colsW (c :: rest) = W.d (colD c) :: colsW rest from rfl, forL, hg]
    simp only [lp_init (hr c List.mem_cons_self) hne (by omega)]
    obtain ⟨a, b, e⟩ := fl_init rest (acc ++ [c]) (some (.d (.str c.1))) (some (.d (.str c.2))) s4 (fun e he => hr e (List.mem_cons_of_mem _ he)) (fun e he => by
      rcases List.mem_append.mp he with h | h
      · exact ha e h
      · rw [List.mem_singleton] at h; subst h; exact (hr e List.mem_cons_self).2.1) (by rw [List.append_assoc]; exact hn) (by rw [List.length_append, List.length_singleton]; omega)
    refine ⟨a, b, ?_⟩
    rw [e, List.append_assoc]
    rfl
/-- a table: the thing, its columns, its rows -/
def TB (C : Addr) (k : Nat) (cs : List (Str × Str)) (rows : List W) : Ms := [.ins C [("_columns", .r (k + 1)), ("_rows", .r (k + 2))], .lst (colsW cs), .lst rows]
def colsOk (cs : List (Str × Str)) : Prop := (∀ c ∈ cs, colOk c) ∧ (cs.map (·.1)).Nodup ∧ 1 ≤ cs.length ∧ cs.length ≤ 12
theorem init_ok {C : Addr} {M : Ms} {cs : List (Str × Str)} (h : colsOk cs) : f0_Table_init C [.r M.length, .d (.tuple (cs.map colD))] (M ++ [.ins C []]) = .ok (.d .none) (M ++ TB C M.length cs []) := by
  obtain ⟨h1, h2, h3, h4⟩ := h
  rw [run_Table_init C rfl]
  show O.toR (b_Table_init C [some (.r M.length), some (.d (.tuple (cs.map colD))), none, none, none] (M ++ [.ins C []])) = _
  unfold b_Table_init
  have hne : (cs.map colD).isEmpty = false := by cases cs with
    | nil => simp at h3
    | cons a b => rfl
  have t1 : pNotT (pTru (pVar 1)) [some (W.r M.length), some (.d (.tuple (cs.map colD))), none, none, none] (M ++ [.ins C []]) = .ok false (M ++ [.ins C []]) := not_ok (k := true) (tru_ok (x := .d (.tuple (cs.map colD))) rfl (by simp only [truth, hne]; rfl))
  have t2 := gtI_ok (s := [some (W.r M.length), some (.d (.tuple (cs.map colD))), none, none, none]) (M := M ++ [.ins C []]) (a := pCall gLen (pCons (pVar 1) (pNil))) (b := pC (.int 12)) (i := ((cs.map colD).length : Int)) (j := 12) (M' := M ++ [.ins C []]) (M'' := M ++ [.ins C []]) (by
    rw [call1 (x := .d (.tuple (cs.map colD))) (M' := M ++ [.ins C []]) rfl]
    simp [gLen, lenW, itemsL, itemsT]) rfl
  rw [decide_eq_false (by rw [List.length_map]; omega)] at t2
  rw [seq_nx (s' := [some (.r M.length), some (.d (.tuple (cs.map colD))), none, none, none]) (M' := M ++ [.ins C []]) (by rw [if_ff t1]; rfl), seq_nx (s' := [some (.r M.length), some (.d (.tuple (cs.map colD))), none, none, none]) (M' := M ++ [.ins C []]) (by rw [if_ff t2]; rfl)]
  have f1 : pSetF C "_columns" (pMut (pLst (pNil))) (pVar 0) [some (W.r M.length), some (.d (.tuple (cs.map colD))), none, none, none] (M ++ [.ins C []]) = .nx [some (W.r M.length), some (.d (.tuple (cs.map colD))), none, none, none] (M ++ [.ins C [("_columns", .r (M.length + 1))], .lst (colsW [])]) := by
    unfold pSetF
    rw [mut_ok (ws := []) (M' := M ++ [.ins C []]) rfl]
    simp only [R.to]
    rw [var_ok (x := .r M.length) rfl]
    have m0 : (M ++ [.ins C []] ++ [.lst []])[M.length]? = some (.ins C []) := by rw [List.append_assoc]; exact gA0
    simp only [R.to, insOf, m0, if_true]
    rw [if_pos (by decide)]
    rw [List.append_assoc, sA0]
    simp [putW, colsW]
  rw [seq_nx f1]
  obtain ⟨s2, s3, e⟩ := fl_init (C := C) (M := M) (x1 := some (.d (.tuple (cs.map colD)))) cs [] none none none h1 (fun c hc => by cases hc) (by simpa using h2) (by simp; omega)
  have it : pItT (pVar 1) [some (W.r M.length), some (.d (.tuple (cs.map colD))), none, none, none] (M ++ [.ins C [("_columns", .r (M.length + 1))], .lst (colsW [])]) = .ok (colsW cs) (M ++ [.ins C [("_columns", .r (M.length + 1))], .lst (colsW [])]) := by
    unfold pItT
    rw [var_ok (x := .d (.tuple (cs.map colD))) rfl]
    simp only [R.bind, colsW, List.map_map]
    rfl
  rw [seq_nx ((for_ok it).trans e), List.nil_append]
  have f2 : pSetF C "_rows" (pMut (pLst (pNil))) (pVar 0) [some (W.r M.length), some (.d (.tuple (cs.map colD))), s2, s3, none] (M ++ [.ins C [("_columns", .r (M.length + 1))], .lst (colsW cs)]) = .nx [some (W.r M.length), some (.d (.tuple (cs.map colD))), s2, s3, none] (M ++ TB C M.length cs []) := by
    unfold pSetF
    rw [mut_ok (ws := []) (M' := M ++ [.ins C [("_columns", .r (M.length + 1))], .lst (colsW cs)]) rfl]
    simp only [R.to]
    rw [var_ok (x := .r M.length) rfl]
    have m0 : (M ++ [.ins C [("_columns", .r (M.length + 1))], .lst (colsW cs)] ++ [.lst []])[M.length]? = some (.ins C [("_columns", .r (M.length + 1))]) := by rw [List.append_assoc]; exact gA0
    simp only [R.to, insOf, m0, if_true]
    rw [if_pos (by show 1 < 1000; decide)]
    rw [List.append_assoc, sA0]
    have hd : ¬ Str.ofString "_columns" = Str.ofString "_rows" := by decide
    simp [putW, TB, hd]
  rw [f2]
  rfl
theorem make_tab {C : Addr} {M M0 : Ms} {s : Sl} {pa : PAx} {cs : List (Str × Str)} (h : colsOk cs) (ha : pa s M0 = .ok [.d (.tuple (cs.map colD))] M) : pMake C (f0_Table_init C) [] pa s M0 = .ok (.r M.length) (M ++ TB C M.length cs []) := by
  unfold pMake
  rw [ha]
  simp only [R.bind, List.map_nil, List.append_nil, init_ok h]
abbrev f_Table_init (C_Table : Addr) : PF := f0_Table_init C_Table
abbrev N_Table_add : List Str := ["self", "row", "at"]
def lp0_Table_add (C_Table : Addr) : PSx :=
  pIf (pNotT (pTru (pCallQ q_is_value [] (pCons (pOp gIx (pVar 1) (pVar 2)) (pCons (pOp gIx (pOp gIx (pFld C_Table "_columns" (pVar 0)) (pVar 2)) (pC (.int 1))) (pNil)))))) (pRaise "InvalidPaper") (pNext)
def b_Table_add (C_Table : Addr) : PSx :=
  pSeq (pIf (pOrT (pNotT (pTru (pCall gIsi (pCons (pVar 1) (pCons (pK (.ty "tuple")) pNil))))) (pB (pOp gNeD (pCall gLen (pCons (pVar 1) (pNil))) (pCall gLen (pCons (pFld C_Table "_columns" (pVar 0)) (pNil)))))) (pRaise "InvalidPaper") (pNext))
  (pSeq (pFor (pRng1 (pCall gLen (pCons (pVar 1) (pNil)))) (qName 2) ((lp0_Table_add C_Table)))
  (pApp (pFld C_Table "_rows" (pVar 0)) (pVar 1)))
def f0_Table_add (C_Table : Addr) : PF := runG N_Table_add.length (["self", "row"] : List Str).length (b_Table_add C_Table)
theorem run_Table_add (C_Table : Addr) {ws : List W} {M : Ms} (h : ws.length = 2) : f0_Table_add C_Table ws M = (b_Table_add C_Table (startS 3 ws) M).toR := runG_pos h
theorem add_step {C : Addr} {M : Ms} {k q r : Nat} {cs : List (Str × Str)} {ds : List PyData} {i : Nat} {b : Bool} {d : PyData} {c : Str × Str} {s2 : Option W} (hk : M[k]? = some (.ins C [("_columns", .r q), ("_rows", .r r)])) (hq : M[q]? = some (.lst (colsW cs)))
    (hd : ds[i]? = some d) (hc : cs[i]? = some c) (hv : q_is_value [d, .str c.2] = .ok (.bool b)) : lp0_Table_add C [some (.r k), some (.d (.tuple ds)), some (.d (.int (0 + (i : Nat))))] M = if b = true then .nx [some (.r k), some (.d (.tuple ds)), some (.d (.int (0 + (i : Nat))))] M else .exc bad77 [some (.r k), some (.d (.tuple ds)), some (.d (.int (0 + (i : Nat))))] M := by
  rw [Int.zero_add]
  have i1 : pOp gIx (pVar 1) (pVar 2) [some (W.r k), some (.d (.tuple ds)), some (.d (.int (i : Nat)))] M = .ok (.d d) M := by
    rw [op_ok (x := .d (.tuple ds)) (M' := M) (y := .d (.int (i : Nat))) (M'' := M) rfl rfl]
    unfold gIx itemsL itemsT
    simp only
    rw [atI_nat, List.getElem?_map, hd]
    rfl
  have i2 : pOp gIx (pFld C "_columns" (pVar 0)) (pVar 2) [some (W.r k), some (.d (.tuple ds)), some (.d (.int (i : Nat)))] M = .ok (.d (colD c)) M := by
    rw [op_ok (x := .r q) (M' := M) (y := .d (.int (i : Nat))) (M'' := M) (fld_of (i := k) (fs := [("_columns", .r q), ("_rows", .r r)]) rfl hk rfl) rfl]
    unfold gIx itemsL
    simp only [hq]
    unfold colsW
    rw [atI_nat, List.getElem?_map, hc]
    rfl
  have i3 : pOp gIx (pOp gIx (pFld C "_columns" (pVar 0)) (pVar 2)) (pC (.int 1)) [some (W.r k), some (.d (.tuple ds)), some (.d (.int (i : Nat)))] M = .ok (.d (.str c.2)) M := ixT_ok (i := 1) (ds := [.str c.1, .str c.2]) i2 rfl
  have cl : pNotT (pTru (pCallQ q_is_value [] (pCons (pOp gIx (pVar 1) (pVar 2)) (pCons (pOp gIx (pOp gIx (pFld C "_columns" (pVar 0)) (pVar 2)) (pC (.int 1))) (pNil))))) [some (W.r k), some (.d (.tuple ds)), some (.d (.int (i : Nat)))] M = .ok (!b) M := by
    refine not_ok (tru_ok (x := .d (.bool b)) ?_ rfl)
    rw [call_data (ds := [d, .str c.2]) (cons_ok i1 (cons_ok i3 nil_ok)), hv]
    rfl
  unfold lp0_Table_add
  cases b with
  | true => rw [if_ff cl]; rfl
  | false => rw [if_tt cl]; rfl
theorem add_loop {C : Addr} {M : Ms} {k q r : Nat} {cs : List (Str × Str)} {ds : List PyData} {b : Nat → Bool} (hk : M[k]? = some (.ins C [("_columns", .r q), ("_rows", .r r)])) (hq : M[q]? = some (.lst (colsW cs)))
    (hv : ∀ i, i < ds.length → ∃ d c, ds[i]? = some d ∧ cs[i]? = some c ∧ q_is_value [d, .str c.2] = .ok (.bool (b i))) : ∀ (l : List Nat) (s2 : Option W), (∀ i ∈ l, i < ds.length) →
    ∃ s2', forL (qName 2) (lp0_Table_add C) (l.map fun i : Nat => W.d (.int (0 + (i : Int)))) [some (.r k), some (.d (.tuple ds)), s2] M = if l.all b = true then .nx [some (.r k), some (.d (.tuple ds)), s2'] M else .exc bad77 [some (.r k), some (.d (.tuple ds)), s2'] M
  | [], s2, _ => ⟨s2, rfl⟩
  | i :: l, s2, hl => by
    obtain ⟨d, c, h1, h2, h3⟩ := hv i (hl i List.mem_cons_self)
    have st := add_step (s2 := s2) hk hq h1 h2 h3
    have hg : qName 2 (W.d (.int (0 + (i : Int)))) [some (.r k), some (.d (.tuple ds)), s2] M = some [some (.r k), some (.d (.tuple ds)), some (.d (.int (0 + (i : Int))))] := rfl
    rw [List.map_cons, forL, hg, List.all_cons]
    simp only [st]
    cases hb : b i with
    | true =>
      obtain ⟨s2', e⟩ := add_loop hk hq hv l (some (.d (.int (0 + (i : Int))))) fun j hj => hl j (List.mem_cons_of_mem _ hj)
      exact ⟨s2', by simp only [if_true, Bool.true_and]; exact e⟩
    | false => exact ⟨some (.d (.int (0 + (i : Int)))), by simp only [Bool.false_eq_true, if_false, Bool.false_and]⟩
theorem add_row {C : Addr} {M : Ms} {k q r : Nat} {cs : List (Str × Str)} {ds : List PyData} {b : Nat → Bool} {rows : List W} (hk : M[k]? = some (.ins C [("_columns", .r q), ("_rows", .r r)])) (hq : M[q]? = some (.lst (colsW cs))) (hr : M[r]? = some (.lst rows)) (hl : ds.length = cs.length) (hs : ds.length ≤ 1000) (hrl : rows.length ≤ 1000)
    (hv : ∀ i, i < ds.length → ∃ d c, ds[i]? = some d ∧ cs[i]? = some c ∧ q_is_value [d, .str c.2] = .ok (.bool (b i))) :
    f0_Table_add C [.r k, .d (.tuple ds)] M = if (List.range ds.length).all b = true then .ok (.d .none) (M.set r (.lst (rows ++ [.d (.tuple ds)]))) else .exc bad77 M := by
  rw [run_Table_add C rfl]
  show O.toR (b_Table_add C [some (.r k), some (.d (.tuple ds)), none] M) = _
  unfold b_Table_add
  have ln : pCall gLen (pCons (pVar 1) pNil) [some (W.r k), some (.d (.tuple ds)), none] M = .ok (.d (.int ds.length)) M := by
    rw [call1 (x := .d (.tuple ds)) (M' := M) rfl]
    simp [gLen, lenW, itemsL, itemsT]
  have t1 : pNotT (pTru (pCall gIsi (pCons (pVar 1) (pCons (pK (.ty "tuple")) pNil)))) [some (W.r k), some (.d (.tuple ds)), none] M = .ok false M := rfl
  have t2 := neI_ok (s := [some (W.r k), some (.d (.tuple ds)), none]) (M := M) (a := pCall gLen (pCons (pVar 1) pNil)) (b := pCall gLen (pCons (pFld C "_columns" (pVar 0)) (pNil))) (M' := M) (M'' := M) (j := (cs.length : Nat)) ln (by
    rw [call1 (x := .r q) (M' := M) (fld_of (i := k) (fs := [("_columns", .r q), ("_rows", .r r)]) rfl hk rfl)]
    simp [gLen, lenW, itemsL, hq, colsW])
  rw [decide_eq_true (by rw [hl])] at t2
  rw [seq_nx (s' := [some (.r k), some (.d (.tuple ds)), none]) (M' := M) (by rw [if_ff (M' := M) (by rw [or_ff t1]; exact t2)]; rfl)]
  have it := rng1_ok (p := pCall gLen (pCons (pVar 1) pNil)) ln (Nat.le_trans hs (by decide))
  obtain ⟨s2', e⟩ := add_loop hk hq hv (List.range ds.length) none fun i hi => List.mem_range.mp hi
  have e' := (for_ok (p := lp0_Table_add C) (g := qName 2) it).trans e
  cases hb : (List.range ds.length).all b with
  | true =>
    rw [hb, if_pos rfl] at e'
    rw [seq_nx e', if_pos rfl]
    rw [app_ok (i := r) (ws0 := rows) (ws := rows) (y := .d (.tuple ds)) (M1 := M) (M2 := M) (fld_of (i := k) (fs := [("_columns", .r q), ("_rows", .r r)]) rfl hk rfl) hr rfl hr (Nat.le_trans hrl (by decide))]
    rfl
  | false =>
    rw [hb, if_neg (by decide)] at e'
    rw [seq_exc e', if_neg (by decide)]
    rfl
abbrev f_Table_add (C_Table : Addr) : PF := f0_Table_add C_Table
abbrev N_Table_rows : List Str := ["self"]
def b_Table_rows (C_Table : Addr) : PSx :=
  pRet (pDat (pCallL gList (pCons (pFld C_Table "_rows" (pVar 0)) (pNil))))
def f0_Table_rows (C_Table : Addr) : PF := runG N_Table_rows.length (["self"] : List Str).length (b_Table_rows C_Table)
theorem run_Table_rows (C_Table : Addr) {ws : List W} {M : Ms} (h : ws.length = 1) : f0_Table_rows C_Table ws M = (b_Table_rows C_Table (startS 1 ws) M).toR := runG_pos h
theorem rows_ok {C : Addr} {M : Ms} {k q r : Nat} {rows : List W} (hk : M[k]? = some (.ins C [("_columns", .r q), ("_rows", .r r)])) (hr : M[r]? = some (.lst rows)) {ds : List PyData} (hd : rows = ds.map .d) : f0_Table_rows C [.r k] M = .ok (.d (.list ds)) M := by
  rw [run_Table_rows C rfl]
  show O.toR (b_Table_rows C [some (.r k)] M) = _
  unfold b_Table_rows
  rw [ret_ok (dat_ok (ws := rows) (ds := ds) (M' := M) (by
    rw [callL1 (fld_of (i := k) (fs := [("_columns", .r q), ("_rows", .r r)]) rfl hk rfl)]
    simp [gList, itemsL, hr]) (by rw [hd]; exact allD_map _))]
  rfl
abbrev f_Table_rows (C_Table : Addr) : PF := f0_Table_rows C_Table
abbrev N_Table_count : List Str := ["self"]
def b_Table_count (C_Table : Addr) : PSx :=
  pRet (pCall gLen (pCons (pFld C_Table "_rows" (pVar 0)) (pNil)))
def f0_Table_count (C_Table : Addr) : PF := runG N_Table_count.length (["self"] : List Str).length (b_Table_count C_Table)
theorem run_Table_count (C_Table : Addr) {ws : List W} {M : Ms} (h : ws.length = 1) : f0_Table_count C_Table ws M = (b_Table_count C_Table (startS 1 ws) M).toR := runG_pos h
theorem count_ok {C : Addr} {M : Ms} {k q r : Nat} {rows : List W} (hk : M[k]? = some (.ins C [("_columns", .r q), ("_rows", .r r)])) (hr : M[r]? = some (.lst rows)) : f0_Table_count C [.r k] M = .ok (.d (.int rows.length)) M := by
  rw [run_Table_count C rfl]
  show O.toR (b_Table_count C [some (.r k)] M) = _
  unfold b_Table_count
  rw [ret_ok (x := .d (.int rows.length)) (M' := M) (by
    rw [call1 (fld_of (i := k) (fs := [("_columns", .r q), ("_rows", .r r)]) rfl hk rfl)]
    simp [gLen, lenW, itemsL, hr])]
  rfl
abbrev f_Table_count (C_Table : Addr) : PF := f0_Table_count C_Table
abbrev N_table_of : List Str := ["columns", "rows", "found", "row"]
def lp0_table_of (C_Table : Addr) : PSx :=
  pDrop (pMeth C_Table "add" ((f_Table_add C_Table)) [] (pVar 2) (pCons (pVar 3) (pNil)))
def b_table_of (C_Table : Addr) : PSx :=
  pSeq (pSet 2 (pMake C_Table ((f_Table_init C_Table)) [] (pCons (pVar 0) (pNil))))
  (pSeq (pFor (pItL (pVar 1)) (qName 3) ((lp0_table_of C_Table)))
  (pRet (pVar 2)))
def f0_table_of (C_Table : Addr) : PF := runG N_table_of.length (["columns", "rows"] : List Str).length (b_table_of C_Table)
theorem run_table_of (C_Table : Addr) {ws : List W} {M : Ms} (h : ws.length = 2) : f0_table_of C_Table ws M = (b_table_of C_Table (startS 4 ws) M).toR := runG_pos h
theorem table_ok {C : Addr} {M : Ms} {cs : List (Str × Str)} (h : colsOk cs) : f0_table_of C [.d (.tuple (cs.map colD)), .d (.list [])] M = .ok (.r M.length) (M ++ TB C M.length cs []) := by
  rw [run_table_of C rfl]
  show O.toR (b_table_of C [some (.d (.tuple (cs.map colD))), some (.d (.list [])), none, none] M) = _
  unfold b_table_of
  rw [seq_nx (set_ok (make_tab (C := C) (M := M) (M0 := M) h (cons_ok (x := .d (.tuple (cs.map colD))) (M1 := M) rfl nil_ok)))]
  rfl
abbrev f_table_of (C_Table : Addr) : PF := f0_table_of C_Table
abbrev N_empty_tables : List Str := ["name"]
def b_empty_tables (C_Table : Addr) : PSx :=
  pRet (pDc (pKKeys K_COLUMNS) (qName 0) (pYes) (pVar 0) (pCallG (f_table_of C_Table) [] (pCons (pKGet K_COLUMNS (pVar 0)) (pCons (pDat (pLst (pNil))) (pNil)))) [0])
def f0_empty_tables (C_Table : Addr) : PF := runG N_empty_tables.length ([] : List Str).length (b_empty_tables C_Table)
theorem run_empty_tables (C_Table : Addr) {ws : List W} {M : Ms} (h : ws.length = 0) : f0_empty_tables C_Table ws M = (b_empty_tables C_Table (startS 1 ws) M).toR := runG_pos h
def colsE : List (Str × Str) := [("desk", "text"), ("number", "number"), ("day", "number"), ("kind", "text"), ("state", "text")]
def colsP : List (Str × Str) := [("desk", "text"), ("number", "number"), ("day", "number"), ("account", "text"), ("amount", "number"), ("state", "text")]
def colsA : List (Str × Str) := [("account", "text"), ("home", "text"), ("unit", "text"), ("floor", "number"), ("balance", "number"), ("state", "text")]
def colsR : List (Str × Str) := [("account", "text"), ("desk", "text"), ("amount", "number")]
theorem colsOk_of {cs : List (Str × Str)} (h : (cs.all fun c => isNameD (.str c.1) && (PyData.strOk c.1 && (decide (c.2 = "number") || decide (c.2 = "text")))) = true) (h2 : (cs.map (·.1)).Nodup) (h3 : 1 ≤ cs.length ∧ cs.length ≤ 12) : colsOk cs := by
  refine ⟨fun c hc => ?_, h2, h3.1, h3.2⟩
  have := List.all_eq_true.mp h c hc
  simpa [colOk] using this
theorem okE : colsOk colsE := colsOk_of (by decide +kernel) (by decide +kernel) (by decide +kernel)
theorem okP : colsOk colsP := colsOk_of (by decide +kernel) (by decide +kernel) (by decide +kernel)
theorem okA : colsOk colsA := colsOk_of (by decide +kernel) (by decide +kernel) (by decide +kernel)
theorem okR : colsOk colsR := colsOk_of (by decide +kernel) (by decide +kernel) (by decide +kernel)
def dicT (k : Nat) : List (PyData × W) := [(.str "entries", .r k), (.str "posts", .r (k + 3)), (.str "accounts", .r (k + 6)), (.str "rights", .r (k + 9))]
/-- the four tables and the dict that holds them -/
def ALL (C : Addr) (k : Nat) (accs rts : List W) : Ms := [.ins C [("_columns", .r (k + 1)), ("_rows", .r (k + 2))], .lst (colsW colsE), .lst [], .ins C [("_columns", .r (k + 4)), ("_rows", .r (k + 5))], .lst (colsW colsP), .lst [],
  .ins C [("_columns", .r (k + 7)), ("_rows", .r (k + 8))], .lst (colsW colsA), .lst accs, .ins C [("_columns", .r (k + 10)), ("_rows", .r (k + 11))], .lst (colsW colsR), .lst rts, .dic false (dicT k)]
theorem dcL_step {g : PGx} {tk tv : PEx} {s s1 : Sl} {x z : W} {ws : List W} {acc : List (PyData × W)} {M M1 : Ms} {d : PyData} (h1 : g x s M = some s1) (h2 : tk s1 M = .ok (.d d) M) (h3 : tv s1 M = .ok z M1) (h4 : isKey d = true) : dcL g pYes tk tv s (x :: ws) acc M = dcL g pYes tk tv s ws (putP acc d z) M1 := by
  rw [dcL, h1]
  simp only [pYes, R.bindN, if_true, h2, h3, h4]
theorem et_step {C : Addr} {M : Ms} {n : Str} {cs : List (Str × Str)} (h : colsOk cs) (hf : (K_COLUMNS.find? fun p => decide (p.1 = n)) = some (n, .tuple (cs.map colD))) :
    pCallG (f0_table_of C) [] (pCons (pKGet K_COLUMNS (pVar 0)) (pCons (pDat (pLst (pNil))) (pNil))) [some (.d (.str n))] M = .ok (.r M.length) (M ++ TB C M.length cs []) := by
  have e1 : pKGet K_COLUMNS (pVar 0) [some (W.d (.str n))] M = .ok (.d (.tuple (cs.map colD))) M := by
    unfold pKGet
    rw [var_ok (x := .d (.str n)) rfl]
    simp only [R.bind, hf]
  rw [callG_ok (cons_ok e1 (cons_ok (x := .d (.list [])) (M1 := M) rfl nil_ok))]
  exact table_ok h
theorem empty_ok {C : Addr} {M : Ms} : f0_empty_tables C [] M = .ok (.r (M.length + 12)) (M ++ ALL C M.length [] []) := by
  rw [run_empty_tables C rfl]
  show O.toR (b_empty_tables C [none] M) = _
  unfold b_empty_tables
  have dc : pDc (pKKeys K_COLUMNS) (qName 0) pYes (pVar 0) (pCallG (f0_table_of C) [] (pCons (pKGet K_COLUMNS (pVar 0)) (pCons (pDat (pLst (pNil))) (pNil)))) [0] [none] M = .ok (.r (M.length + 12)) (M ++ ALL C M.length [] []) := by
    unfold pDc
    rw [show pKKeys K_COLUMNS [none] M = .ok [.d (.str "entries"), .d (.str "posts"), .d (.str "accounts"), .d (.str "rights")] M from rfl]
    simp only [R.bind]
    rw [if_pos (by show 4 ≤ 1000000; decide), show wipeS [none] [0] = ([none] : Sl) from rfl]
    rw [dcL_step (s1 := [some (.d (.str "entries"))]) (d := .str "entries") rfl rfl (et_step (M := M) okE (by rfl)) rfl]
    rw [dcL_step (s1 := [some (.d (.str "posts"))]) (d := .str "posts") rfl rfl (et_step okP (by rfl)) rfl]
    rw [dcL_step (s1 := [some (.d (.str "accounts"))]) (d := .str "accounts") rfl rfl (et_step okA (by rfl)) rfl]
    rw [dcL_step (s1 := [some (.d (.str "rights"))]) (d := .str "rights") rfl rfl (et_step okR (by rfl)) rfl]
    rw [dcL]
    simp only [R.bindN]
    have pp : putP (putP (putP (putP [] (.str "entries") (W.r M.length)) (.str "posts") (W.r (M.length + 3))) (.str "accounts") (W.r (M.length + 6))) (.str "rights") (W.r (M.length + 9)) = dicT M.length := by rfl
    simp only [List.length_append, show ∀ k cs rows, (TB C k cs rows).length = 3 from fun _ _ _ => rfl, Nat.add_assoc, pp, List.append_assoc]
    rfl
  rw [ret_ok dc]
  rfl
abbrev f_empty_tables (C_Table : Addr) : PF := f0_empty_tables C_Table
abbrev N_is_asked : List Str := ["account", "rows", "sign", "text"]
def lc0_is_asked : PAx :=
  pLc (pItL (pVar 1)) (qTup 2 (qCons (qName 2) (qCons (qName 3) (qNil)))) (pNotT (pTru (pCallG f_worked [] (pCons (pVar 2) (pCons (pVar 0) (pCons (pVar 3) (pNil))))))) (pC (.int 1)) [2, 3]
def b_is_asked : PSx :=
  pRet (pNotV (pDat (lc0_is_asked)))
def f0_is_asked : PF := runG N_is_asked.length (["account", "rows"] : List Str).length (b_is_asked)
theorem run_is_asked {ws : List W} {M : Ms} (h : ws.length = 2) : f0_is_asked ws M = (b_is_asked (startS 4 ws) M).toR := runG_pos h
abbrev f_is_asked : PF := f0_is_asked
abbrev N_is_below : List Str := ["name", "rows", "lows", "sign", "text"]
def lc0_is_below : PAx :=
  pLc (pItL (pVar 2)) (qTup 2 (qCons (qName 3) (qCons (qName 4) (qNil)))) (pOrT (pB (pOp gLtS (pVar 0) (pVar 4))) (pAndT (pB (pOp gEqD (pVar 3) (pC (.str ">")))) (pB (pOp gEqD (pVar 0) (pVar 4))))) (pC (.int 1)) [3, 4]
def lc1_is_below : PAx :=
  pLc (pItL (pVar 1)) (qTup 2 (qCons (qName 3) (qCons (qName 4) (qNil)))) (pB (pOp (gInT false) (pVar 3) (pTup (pCons (pC (.str ">")) (pCons (pC (.str ">=")) (pCons (pC (.str "=")) (pNil))))))) (pTup (pCons (pVar 3) (pCons (pVar 4) (pNil)))) [3, 4]
def b_is_below : PSx :=
  pSeq (pSet 2 (pDat (lc1_is_below)))
  (pRet (pCall gBoolL (pCons (pDat (lc0_is_below)) (pNil))))
def f0_is_below : PF := runG N_is_below.length (["name", "rows"] : List Str).length (b_is_below)
theorem run_is_below {ws : List W} {M : Ms} (h : ws.length = 2) : f0_is_below ws M = (b_is_below (startS 5 ws) M).toR := runG_pos h
abbrev f_is_below : PF := f0_is_below
abbrev N_is_above : List Str := ["name", "rows", "highs", "sign", "text"]
def lc0_is_above : PAx :=
  pLc (pItL (pVar 2)) (qTup 2 (qCons (qName 3) (qCons (qName 4) (qNil)))) (pOrT (pB (pOp gGtS (pVar 0) (pVar 4))) (pAndT (pB (pOp gEqD (pVar 3) (pC (.str "<")))) (pB (pOp gEqD (pVar 0) (pVar 4))))) (pC (.int 1)) [3, 4]
def lc1_is_above : PAx :=
  pLc (pItL (pVar 1)) (qTup 2 (qCons (qName 3) (qCons (qName 4) (qNil)))) (pB (pOp (gInT false) (pVar 3) (pTup (pCons (pC (.str "<")) (pCons (pC (.str "<=")) (pCons (pC (.str "=")) (pNil))))))) (pTup (pCons (pVar 3) (pCons (pVar 4) (pNil)))) [3, 4]
def b_is_above : PSx :=
  pSeq (pSet 2 (pDat (lc1_is_above)))
  (pRet (pCall gBoolL (pCons (pDat (lc0_is_above)) (pNil))))
def f0_is_above : PF := runG N_is_above.length (["name", "rows"] : List Str).length (b_is_above)
theorem run_is_above {ws : List W} {M : Ms} (h : ws.length = 2) : f0_is_above ws M = (b_is_above (startS 5 ws) M).toR := runG_pos h
abbrev f_is_above : PF := f0_is_above
abbrev N_span : List Str := ["names", "rows", "low", "name"]
def lc0_span : PAx :=
  pLc (pItL (pVar 0)) (qName 3) (pTru (pCallG f_is_below [] (pCons (pVar 3) (pCons (pVar 1) (pNil))))) (pVar 3) [3]
def b_span : PSx :=
  pSeq (pSet 2 (pCall gLen (pCons (pDat (lc0_span)) (pNil))))
  (pRet (pTup (pCons (pVar 2) (pCons (pVar 2) (pNil)))))
def f0_span : PF := runG N_span.length (["names", "rows"] : List Str).length (b_span)
theorem run_span {ws : List W} {M : Ms} (h : ws.length = 2) : f0_span ws M = (b_span (startS 4 ws) M).toR := runG_pos h
abbrev f_span : PF := f0_span
abbrev N_int_of : List Str := ["word", "figures", "sign"]
def lc0_int_of : PAx :=
  pLc (pItS (pVar 1)) (qName 2) (pB (pOp gNinS (pVar 2) (pC (.str "0123456789")))) (pVar 2) [2]
def b_int_of : PSx :=
  pSeq (pSet 1 (pIfE (pTru (pM1 fStarts (pVar 0) (pC (.str "-")))) (pSlS (pVar 0) (pSo (pC (.int 1))) (pNo)) (pVar 0)))
  (pSeq (pIf (pOrT (pNotT (pB (pChain (gLeI) (gLeI) (pC (.int 1)) (pCall gLen (pCons (pVar 1) (pNil))) (pC (.int 18))))) (pTru (pDat (lc0_int_of)))) (pRaise "InvalidPaper") (pNext))
  (pSeq (pIf (pB (pOp gNeD (pCall gStrI (pCons (pCall gIntS (pCons (pVar 0) (pNil))) (pNil))) (pVar 0))) (pRaise "InvalidPaper") (pNext))
  (pRet (pCall gIntS (pCons (pVar 0) (pNil))))))
def f0_int_of : PF := runG N_int_of.length (["word"] : List Str).length (b_int_of)
theorem run_int_of {ws : List W} {M : Ms} (h : ws.length = 1) : f0_int_of ws M = (b_int_of (startS 3 ws) M).toR := runG_pos h
/-- the figures of a number's text, its value, what is read -/
def figOf (z : Str) : Str := if Txt.startswith z "-" = true then cutS z (some 1) none else z
def valOf (z : Str) : Int := if Txt.startswith z "-" = true then -((NumText.digitsVal (figOf z).cps.toList : Nat) : Int) else ((NumText.digitsVal z.cps.toList : Nat) : Int)
def figB (z : Str) : Bool := decide (1 ≤ z.length) && (decide (z.length ≤ 18) && allIn figS z)
def intO (z : Str) : Option Int := if figB (figOf z) = true ∧ tlZ (valOf z) = z.cps.toList then some (valOf z) else none
def q_int_of : List PyData → PR := fun ds => match ds with
  | [.str z] => if z.length ≤ 1000000 ∧ PyData.strOk z = true then (match intO z with | some n => .ok (.int n) | none => .exc bad77) else .stuck
  | _ => .stuck
theorem cutS_from (m : Str) (n : Nat) : TL.tl (cutS m (some (n : Int)) none) = (TL.tl m).drop n := by
  show ((TL.tl m).drop (HT.sIx m.length 0 (some (n : Int)))).take (HT.sIx m.length m.length none - HT.sIx m.length 0 (some (n : Int))) = _
  rw [HT.sIx_none, HT.sIx_nat, TL.len_tl]
  by_cases h : n ≤ (TL.tl m).length
  · rw [Nat.min_eq_left h, List.take_of_length_le (by rw [List.length_drop]; omega)]
  · rw [List.drop_eq_nil_of_le (show (TL.tl m).length ≤ n by omega), List.drop_eq_nil_of_le (by rw [Nat.min_eq_right (by omega)]; omega), List.take_nil]
theorem cutE_from {a b : PEx} {s : Sl} {M M' M'' : Ms} {x : Str} {n : Nat} (ha : a s M = .ok (.d (.str x)) M') (hb : b s M' = .ok (.d (.int n)) M'') (hx : x.length ≤ 1000000) : pSlS a (pSo b) pNo s M = .ok (.d (.str (cutS x (some (n : Int)) none))) M'' := by
  unfold pSlS
  rw [ha]
  simp only [R.bind, pNo, so_nat hb]
  rw [if_pos (Nat.le_trans (cutS_length _ _ _) (Nat.le_trans hx (by decide)))]
theorem neg_head {z : Str} (h : Txt.startswith z "-" = true) : z.cps.toList = 45 :: (figOf z).cps.toList := by
  have e : TL.tl (figOf z) = (TL.tl z).drop 1 := by
    unfold figOf
    rw [if_pos h]
    exact cutS_from z 1
  have e2 : (TL.tl z).take 1 = [45] := (starts_iff z "-").mp h
  have e3 := List.take_append_drop 1 (TL.tl z)
  rw [e2, ← e] at e3
  exact e3.symm
theorem fig_text {z : Str} (h : figB (figOf z) = true) : PySem.intText? z = some (valOf z) ∧ z.length ≤ 19 ∧ (valOf z).natAbs < 10 ^ 18 := by
  unfold figB at h
  simp only [Bool.and_eq_true, decide_eq_true_eq] at h
  obtain ⟨h1, h2, h3⟩ := h
  have d := fig_iff.mp h3
  have dl := digitsVal_lt d
  have el : (figOf z).length = (figOf z).cps.toList.length := TL.len_tl _
  have pw : 10 ^ (figOf z).cps.toList.length ≤ 10 ^ 18 := Nat.pow_le_pow_right (by decide) (by omega)
  have hne : (figOf z).cps.toList ≠ [] := by
    intro e
    rw [e] at el
    simp at el
    omega
  cases hs : Txt.startswith z "-" with
  | true =>
    have hh := neg_head hs
    have hz : z.length ≤ 19 := by
      rw [TL.len_tl, show TL.tl z = _ from hh, List.length_cons]
      omega
    have v : valOf z = -((NumText.digitsVal (figOf z).cps.toList : Nat) : Int) := by unfold valOf; rw [if_pos hs]
    refine ⟨?_, hz, ?_⟩
    · rw [v]
      exact intText_neg hh d hne (by omega)
    · rw [v, Int.natAbs_neg, Int.natAbs_natCast]
      omega
  | false =>
    have e : figOf z = z := by unfold figOf; rw [if_neg (by simp [hs])]
    have v : valOf z = ((NumText.digitsVal z.cps.toList : Nat) : Int) := by unfold valOf; rw [if_neg (by simp [hs])]
    rw [e] at d hne h2 dl pw
    refine ⟨?_, by omega, ?_⟩
    · rw [v]
      exact intText_digits d hne (by omega)
    · rw [v, Int.natAbs_natCast]
      omega
theorem pure_int_of : ∀ ds, q_int_of ds ≠ .stuck → f0_int_of.pure ds = q_int_of ds := by
  intro ds h
  match ds, h with
  | [.str z], h =>
    by_cases hc : z.length ≤ 1000000 ∧ PyData.strOk z = true
    · have q : q_int_of [.str z] = (match intO z with | some n => .ok (.int n) | none => .exc bad77) := by simp only [q_int_of]; rw [if_pos hc]
      rw [q]
      obtain ⟨hz, hk⟩ := hc
      unfold PF.pure
      show (O.toR (b_int_of [some (.d (.str z)), none, none] [])).freeze = _
      unfold b_int_of
      have t0 : pTru (pM1 fStarts (pVar 0) (pC (.str "-"))) [some (W.d (.str z)), none, none] [] = .ok (Txt.startswith z "-") [] := rfl
      have st : pSet 1 (pIfE (pTru (pM1 fStarts (pVar 0) (pC (.str "-")))) (pSlS (pVar 0) (pSo (pC (.int 1))) (pNo)) (pVar 0)) [some (W.d (.str z)), none, none] [] = .nx [some (.d (.str z)), some (.d (.str (figOf z))), none] [] := by
        rw [set_ok (x := .d (.str (figOf z))) (M' := [])]
        · rfl
        · unfold figOf
          cases hs : Txt.startswith z "-" with
          | true =>
            rw [hs] at t0
            rw [ife_tt t0, if_pos rfl]
            exact cutE_from (n := 1) (M' := []) rfl rfl hz
          | false =>
            rw [hs] at t0
            rw [ife_ff t0, if_neg (by decide)]
            rfl
      rw [seq_nx st]
      have hfl : (figOf z).length ≤ 1000000 := by
        unfold figOf
        split
        · exact Nat.le_trans (cutS_length _ _ _) hz
        · exact hz
      have c1 := not_ok (pB_ok (chain_ok (i := 1) (k := 18) (s := [some (W.d (.str z)), some (.d (.str (figOf z))), none]) (M := []) (a := pC (.int 1)) (c := pC (.int 18)) rfl (len_str (k := 1) (x := figOf z) rfl) rfl))
      have c2 : pTru (pDat lc0_int_of) [some (W.d (.str z)), some (.d (.str (figOf z))), none] [] = .ok (!allIn figS (figOf z)) [] := bad_signs (S := figS) (i := 1) (j := 2) rfl (by show 2 < 3; decide) hfl
      have c3 := orT_bb c1 c2
      have ec : (!(decide ((1 : Int) ≤ (figOf z).length) && decide (((figOf z).length : Int) ≤ 18)) || !allIn figS (figOf z)) = !figB (figOf z) := by
        unfold figB
        have a1 : decide ((1 : Int) ≤ (figOf z).length) = decide (1 ≤ (figOf z).length) := decide_eq_decide.mpr (by omega)
        have a2 : decide (((figOf z).length : Int) ≤ 18) = decide ((figOf z).length ≤ 18) := decide_eq_decide.mpr (by omega)
        rw [a1, a2]
        cases decide (1 ≤ (figOf z).length) <;> cases decide ((figOf z).length ≤ 18) <;> cases allIn figS (figOf z) <;> rfl
      rw [ec] at c3
      unfold intO
      cases hb : figB (figOf z) with
      | false =>
        rw [hb] at c3
        rw [seq_exc (e := bad77) (s' := [some (.d (.str z)), some (.d (.str (figOf z))), none]) (M' := []) (by rw [if_tt (M' := []) c3]; rfl)]
        rw [if_neg (by simp)]
        rfl
      | true =>
        rw [hb] at c3
        obtain ⟨i1, i2, i3⟩ := fig_text hb
        rw [seq_nx (s' := [some (.d (.str z)), some (.d (.str (figOf z))), none]) (M' := []) (by rw [if_ff (M' := []) c3]; rfl)]
        have gi : pCall gIntS (pCons (pVar 0) pNil) [some (W.d (.str z)), some (.d (.str (figOf z))), none] [] = .ok (.d (.int (valOf z))) [] := by
          rw [call1 (x := .d (.str z)) (M' := []) rfl]
          simp only [gIntS, i1]
          rw [if_pos (by omega)]
        have n1 := neS (M'' := []) (b := pVar 0) (y := z) (strZ_ok gi (Nat.lt_of_lt_of_le i3 (by decide))) rfl (intT_ok _) hk
        by_cases he : intT (valOf z) = z
        · rw [decide_eq_true he] at n1
          rw [seq_nx (s' := [some (.d (.str z)), some (.d (.str (figOf z))), none]) (M' := []) (by rw [if_ff (M' := []) n1]; rfl)]
          rw [ret_ok gi, if_pos ⟨rfl, intT_iff.mp he⟩]
          rfl
        · rw [decide_eq_false he] at n1
          rw [seq_exc (e := bad77) (s' := [some (.d (.str z)), some (.d (.str (figOf z))), none]) (M' := []) (by rw [if_tt (M' := []) n1]; rfl)]
          rw [if_neg (fun h => he (intT_iff.mpr h.2))]
          rfl
    · exact absurd (by simp only [q_int_of]; rw [if_neg hc]) h
abbrev N_read_book_line : List Str := ["line", "parts", "rights", "word", "row"]
def lp0_read_book_line : PSx :=
  pSeq (pSet 4 (pDat (pSplit (pVar 3) (pC (.str ":")))))
  (pSeq (pIf (pB (pOp gNeD (pCall gLen (pCons (pVar 4) (pNil))) (pC (.int 2)))) (pRaise "InvalidPaper") (pNext))
  (pApp (pVar 2) (pTup (pCons (pOp gIx (pVar 4) (pC (.int 0))) (pCons (pCallQ q_int_of [] (pCons (pOp gIx (pVar 4) (pC (.int 1))) (pNil))) (pNil))))))
def b_read_book_line : PSx :=
  pSeq (pSet 1 (pDat (pSplit (pVar 0) (pC (.str " ")))))
  (pSeq (pIf (pOrT (pB (pOp gNeD (pCall gLen (pCons (pVar 1) (pNil))) (pC (.int 6)))) (pB (pOp (gInT true) (pOp gIx (pVar 1) (pC (.int 4))) (pTup (pCons (pC (.str "open")) (pCons (pC (.str "shut")) (pNil))))))) (pRaise "InvalidPaper") (pNext))
  (pSeq (pSet 2 (pMut (pLst (pNil))))
  (pSeq (pFor (pItL (pIfE (pB (pOp gNeD (pOp gIx (pVar 1) (pC (.int 5))) (pC (.str "-")))) (pDat (pSplit (pOp gIx (pVar 1) (pC (.int 5))) (pC (.str ",")))) (pDat (pLst (pNil))))) (qName 3) (lp0_read_book_line))
  (pRet (pTup (pCons (pOp gIx (pVar 1) (pC (.int 0))) (pCons (pOp gIx (pVar 1) (pC (.int 1))) (pCons (pCallQ q_int_of [] (pCons (pOp gIx (pVar 1) (pC (.int 2))) (pNil))) (pCons (pCallQ q_int_of [] (pCons (pOp gIx (pVar 1) (pC (.int 3))) (pNil))) (pCons (pOp gIx (pVar 1) (pC (.int 4))) (pCons (pCall gTuple (pCons (pVar 2) (pNil))) (pNil))))))))))))
def f0_read_book_line : PF := runG N_read_book_line.length (["line"] : List Str).length (b_read_book_line)
theorem run_read_book_line {ws : List W} {M : Ms} (h : ws.length = 1) : f0_read_book_line ws M = (b_read_book_line (startS 5 ws) M).toR := runG_pos h
def partO (w : Str) : Option PyData := match Txt.split w ":" with
  | [a, b] => (match intO b with
    | some n => some (.tuple [.str a, .int n])
    | none => none)
  | _ => none
def rightsO : List Str → Option (List PyData)
  | [] => some []
  | w :: ws => match partO w with
    | none => none
    | some d => match rightsO ws with
      | none => none
      | some ds => some (d :: ds)
def wordsR (r : Str) : List Str := if r = "-" then [] else Txt.split r ","
def lineO (z : Str) : Option PyData := match Txt.split z " " with
  | [a, u, f, b, w, r] => if w = "open" ∨ w = "shut" then (match rightsO (wordsR r) with
    | none => none
    | some rs => match intO f with
      | none => none
      | some fi => match intO b with
        | none => none
        | some bi => some (.tuple [.str a, .str u, .int fi, .int bi, .str w, .tuple rs])) else none
  | _ => none
def okLine (z : Str) : Bool := decide (z.length ≤ 1000) && (PyData.strOk z && (Txt.split z " ").all fun p => decide ((Txt.split p ",").length ≤ 1000))
def q_read_book_line : List PyData → PR := fun ds => match ds with
  | [.str z] => if okLine z = true then (match lineO z with | some d => .ok d | none => .exc bad77) else .stuck
  | _ => .stuck
theorem int_call {s : Sl} {M M' : Ms} {p : PEx} {z : Str} {n : Int} (h : p s M = .ok (.d (.str z)) M') (hz : z.length ≤ 1000) (hk : PyData.strOk z = true) (hi : intO z = some n) : pCallQ q_int_of [] (pCons p pNil) s M = .ok (.d (.int n)) M' := by
  rw [call_data (ds := [.str z]) (cons_ok h nil_ok)]
  have e : q_int_of [.str z] = .ok (.int n) := by simp only [q_int_of]; rw [if_pos ⟨Nat.le_trans hz (by decide), hk⟩, hi]
  rw [e]
  rfl
theorem int_exc {s : Sl} {M M' : Ms} {p : PEx} {z : Str} (h : p s M = .ok (.d (.str z)) M') (hz : z.length ≤ 1000) (hk : PyData.strOk z = true) (hi : intO z = none) : pCallQ q_int_of [] (pCons p pNil) s M = .exc bad77 M' := by
  rw [call_data (ds := [.str z]) (cons_ok h nil_ok)]
  have e : q_int_of [.str z] = .exc bad77 := by simp only [q_int_of]; rw [if_pos ⟨Nat.le_trans hz (by decide), hk⟩, hi]
  rw [e]
  rfl
theorem ix_str {s : Sl} {M : Ms} {k n : Nat} {i : Int} {ms : List Str} {x : Str} (h : s[k]? = some (some (.d (.list (ms.map .str))))) (hx : ms[n]? = some x) (hi : i = (n : Int) := by rfl) : pOp gIx (pVar k) (pC (.int i)) s M = .ok (.d (.str x)) M := by
  subst hi
  exact ixL_ok (n := n) (var_ok h) rfl (by rw [List.getElem?_map, hx]; rfl)
theorem lp_part {z ps : W} {w : Str} {acc : List PyData} {s4 : Option W} (hl : w.length ≤ 1000) (hk : PyData.strOk w = true) (ha : acc.length ≤ 1000) :
    (partO w = none → ∃ s' M', lp0_read_book_line [some z, some ps, some (.r 0), some (.d (.str w)), s4] [.lst (acc.map .d)] = .exc bad77 s' M') ∧
    (∀ d, partO w = some d → ∃ s4', lp0_read_book_line [some z, some ps, some (.r 0), some (.d (.str w)), s4] [.lst (acc.map .d)] = .nx [some z, some ps, some (.r 0), some (.d (.str w)), s4'] [.lst ((acc ++ [d]).map .d)]) := by
  have st : pSet 4 (pDat (pSplit (pVar 3) (pC (.str ":")))) [some z, some ps, some (.r 0), some (.d (.str w)), s4] [.lst (acc.map .d)] = .nx [some z, some ps, some (.r 0), some (.d (.str w)), some (.d (.list ((Txt.split w ":").map .str)))] [.lst (acc.map .d)] := set_ok (split_ok (z := w) rfl (Nat.le_trans hl (by decide)) (by decide))
  have tl := neI_ok (s := [some z, some ps, some (.r 0), some (.d (.str w)), some (.d (.list ((Txt.split w ":").map .str)))]) (M := [.lst (acc.map .d)]) (a := pCall gLen (pCons (pVar 4) (pNil))) (b := pC (.int 2)) (j := 2) (M'' := [.lst (acc.map .d)]) (len_list (ds := (Txt.split w ":").map .str) rfl) rfl
  rw [List.length_map] at tl
  have sp := split_short w ":"
  have sk : ∀ x ∈ Txt.split w ":", PyData.strOk x = true := fun x hx => split_ok2 hx hk
  unfold lp0_read_book_line partO
  rw [seq_nx st]
  generalize Txt.split w ":" = ms at tl sp sk st ⊢
  have bad : ms.length ≠ 2 → ∃ s' M', pSeq (pIf (pB (pOp gNeD (pCall gLen (pCons (pVar 4) (pNil))) (pC (.int 2)))) (pRaise "InvalidPaper") (pNext))
      (pApp (pVar 2) (pTup (pCons (pOp gIx (pVar 4) (pC (.int 0))) (pCons (pCallQ q_int_of [] (pCons (pOp gIx (pVar 4) (pC (.int 1))) (pNil))) (pNil))))) [some z, some ps, some (.r 0), some (.d (.str w)), some (.d (.list (ms.map .str)))] [.lst (acc.map .d)] = .exc bad77 s' M' := by
    intro hm
    rw [decide_eq_false (by omega)] at tl
    refine ⟨_, _, seq_exc (s' := [some z, some ps, some (.r 0), some (.d (.str w)), some (.d (.list (ms.map .str)))]) (M' := [.lst (acc.map .d)]) (e := bad77) ?_⟩
    rw [if_tt (M' := [.lst (acc.map .d)]) tl]
    rfl
  match ms, tl, sp, sk, bad with
  | [], tl, sp, sk, bad => exact ⟨fun _ => bad (by simp), fun d h => by cases h⟩
  | [_], tl, sp, sk, bad => exact ⟨fun _ => bad (by simp), fun d h => by cases h⟩
  | _ :: _ :: _ :: _, tl, sp, sk, bad => exact ⟨fun _ => bad (by simp), fun d h => by cases h⟩
  | [a, b], tl, sp, sk, bad =>
    have go : pIf (pB (pOp gNeD (pCall gLen (pCons (pVar 4) (pNil))) (pC (.int 2)))) (pRaise "InvalidPaper") (pNext) [some z, some ps, some (.r 0), some (.d (.str w)), some (.d (.list ([a, b].map .str)))] [.lst (acc.map .d)] = .nx [some z, some ps, some (.r 0), some (.d (.str w)), some (.d (.list ([a, b].map .str)))] [.lst (acc.map .d)] := by
      rw [if_ff (M' := [.lst (acc.map .d)]) tl]
      rfl
    rw [seq_nx go]
    have i0 := ix_str (s := [some z, some ps, some (.r 0), some (.d (.str w)), some (.d (.list ([a, b].map .str)))]) (M := [.lst (acc.map .d)]) (k := 4) (n := 0) (i := 0) (ms := [a, b]) (x := a) rfl rfl
    have i1 := ix_str (s := [some z, some ps, some (.r 0), some (.d (.str w)), some (.d (.list ([a, b].map .str)))]) (M := [.lst (acc.map .d)]) (k := 4) (n := 1) (i := 1) (ms := [a, b]) (x := b) rfl rfl
    have lb : b.length ≤ 1000 := Nat.le_trans (sp b (by simp)) hl
    have kb : PyData.strOk b = true := sk b (by simp)
    cases hi : intO b with
    | none =>
      refine ⟨fun _ => ⟨[some z, some ps, some (.r 0), some (.d (.str w)), some (.d (.list ([a, b].map .str)))], [.lst (acc.map .d)], ?_⟩, fun d h => by simp [hi] at h⟩
      unfold pApp
      rw [var_ok (x := .r 0) rfl]
      simp only [R.to, List.getElem?_cons_zero]
      rw [tup_exc (cons_exc2 i0 (cons_exc1 (int_exc i1 lb kb hi)))]
    | some n =>
      refine ⟨fun h => by simp [hi] at h, fun d h => ⟨some (.d (.list ([a, b].map .str))), ?_⟩⟩
      · simp only [hi, Option.some.injEq] at h
        subst h
        refine (app_ok (i := 0) (ws := acc.map .d) (ws0 := acc.map .d) (M1 := [.lst (acc.map .d)]) (M2 := [.lst (acc.map .d)]) (y := .d (.tuple [.str a, .int n])) rfl rfl (tup_ok (ds := [.str a, .int n]) (cons_ok i0 (cons_ok (int_call i1 lb kb hi) nil_ok)) (by show 2 ≤ 1000; decide)) rfl (by rw [List.length_map]; omega)).trans ?_
        rw [List.map_append]
        rfl
theorem lp_parts {z ps : W} : ∀ (ws : List Str) (acc : List PyData) (s3 s4 : Option W), (∀ w ∈ ws, w.length ≤ 1000 ∧ PyData.strOk w = true) → acc.length + ws.length ≤ 1000 →
    (rightsO ws = none → ∃ s' M', forL (qName 3) lp0_read_book_line (ws.map fun w => W.d (.str w)) [some z, some ps, some (.r 0), s3, s4] [.lst (acc.map .d)] = .exc bad77 s' M') ∧
    (∀ ds, rightsO ws = some ds → ∃ s3' s4', forL (qName 3) lp0_read_book_line (ws.map fun w => W.d (.str w)) [some z, some ps, some (.r 0), s3, s4] [.lst (acc.map .d)] = .nx [some z, some ps, some (.r 0), s3', s4'] [.lst ((acc ++ ds).map .d)])
  | [], acc, s3, s4, _, _ => ⟨fun h => by simp [rightsO] at h, fun ds h => by
    simp only [rightsO, Option.some.injEq] at h
    subst h
    exact ⟨s3, s4, by rw [List.append_nil]; rfl⟩⟩
  | w :: ws, acc, s3, s4, hw, hl => by
    rw [List.length_cons] at hl
    obtain ⟨h1, h2⟩ := hw w List.mem_cons_self
    obtain ⟨p1, p2⟩ := lp_part (z := z) (ps := ps) (s4 := s4) (acc := acc) h1 h2 (by omega)
    have hg : qName 3 (W.d (.str w)) [some z, some ps, some (.r 0), s3, s4] [.lst (acc.map .d)] = some [some z, some ps, some (.r 0), some (.d (.str w)), s4] := rfl
    rw [List.map_cons, forL, hg]
    cases hp : partO w with
    | none =>
      obtain ⟨s', M', e⟩ := p1 hp
      refine ⟨fun _ => ⟨s', M', by simp only [e]⟩, fun ds h => by simp [rightsO, hp] at h⟩
    | some d =>
      obtain ⟨s4', e⟩ := p2 d hp
      simp only [e]
      obtain ⟨r1, r2⟩ := lp_parts (z := z) (ps := ps) ws (acc ++ [d]) (some (.d (.str w))) s4' (fun x hx => hw x (List.mem_cons_of_mem _ hx)) (by rw [List.length_append, List.length_singleton]; omega)
      cases hr : rightsO ws with
      | none => exact ⟨fun _ => r1 hr, fun ds h => by simp [rightsO, hp, hr] at h⟩
      | some rs =>
        refine ⟨fun h => by simp [rightsO, hp, hr] at h, fun ds h => ?_⟩
        simp only [rightsO, hp, hr, Option.some.injEq] at h
        subst h
        obtain ⟨a, b, e⟩ := r2 rs hr
        exact ⟨a, b, by rw [e, List.append_assoc]; rfl⟩
theorem pure_read_book_line : ∀ ds, q_read_book_line ds ≠ .stuck → f0_read_book_line.pure ds = q_read_book_line ds := by
  intro ds h
  match ds, h with
  | [.str z], h =>
    by_cases hc : okLine z = true
    · have q : q_read_book_line [.str z] = (match lineO z with | some d => .ok d | none => .exc bad77) := by simp only [q_read_book_line]; rw [if_pos hc]
      rw [q]
      unfold okLine at hc
      simp only [Bool.and_eq_true, decide_eq_true_eq, List.all_eq_true] at hc
      obtain ⟨hz, hk, hn⟩ := hc
      unfold PF.pure
      show (O.toR (b_read_book_line [some (.d (.str z)), none, none, none, none] [])).freeze = _
      unfold b_read_book_line lineO
      have st : pSet 1 (pDat (pSplit (pVar 0) (pC (.str " ")))) [some (W.d (.str z)), none, none, none, none] [] = .nx [some (.d (.str z)), some (.d (.list ((Txt.split z " ").map .str))), none, none, none] [] := set_ok (split_ok (z := z) rfl (Nat.le_trans hz (by decide)) (by decide))
      rw [seq_nx st]
      have tl := neI_ok (s := [some (W.d (.str z)), some (.d (.list ((Txt.split z " ").map .str))), none, none, none]) (M := []) (a := pCall gLen (pCons (pVar 1) (pNil))) (b := pC (.int 6)) (j := 6) (M'' := []) (len_list (ds := (Txt.split z " ").map .str) rfl) rfl
      rw [List.length_map] at tl
      have sp : ∀ x ∈ Txt.split z " ", x.length ≤ 1000 ∧ PyData.strOk x = true := fun x hx => ⟨Nat.le_trans (split_short z " " x hx) hz, split_ok2 hx hk⟩
      clear st
      generalize Txt.split z " " = ms at tl sp hn ⊢
      have bad : ∀ (q : PSx), ms.length ≠ 6 → (O.toR (pSeq (pIf (pOrT (pB (pOp gNeD (pCall gLen (pCons (pVar 1) (pNil))) (pC (.int 6)))) (pB (pOp (gInT true) (pOp gIx (pVar 1) (pC (.int 4))) (pTup (pCons (pC (.str "open")) (pCons (pC (.str "shut")) (pNil))))))) (pRaise "InvalidPaper") (pNext)) q [some (.d (.str z)), some (.d (.list (ms.map .str))), none, none, none] [])).freeze = .exc bad77 := by
        intro q hm
        rw [decide_eq_false (by omega)] at tl
        rw [seq_exc (s' := [some (.d (.str z)), some (.d (.list (ms.map .str))), none, none, none]) (M' := []) (e := bad77) (by rw [if_tt (M' := []) (or_tt tl)]; rfl)]
        rfl
      match ms, tl, sp, hn, bad with
      | [], tl, sp, hn, bad => exact bad _ (by simp)
      | [_], tl, sp, hn, bad => exact bad _ (by simp)
      | [_, _], tl, sp, hn, bad => exact bad _ (by simp)
      | [_, _, _], tl, sp, hn, bad => exact bad _ (by simp)
      | [_, _, _, _], tl, sp, hn, bad => exact bad _ (by simp)
      | [_, _, _, _, _], tl, sp, hn, bad => exact bad _ (by simp)
      | _ :: _ :: _ :: _ :: _ :: _ :: _ :: _, tl, sp, hn, bad => exact bad _ (by simp)
      | [a, u, f, b, w, r], tl, sp, hn, bad =>
        clear bad
        have in4 : pB (pOp (gInT true) (pOp gIx (pVar 1) (pC (.int 4))) (pTup (pCons (pC (.str "open")) (pCons (pC (.str "shut")) (pNil))))) [some (W.d (.str z)), some (.d (.list ([a, u, f, b, w, r].map .str))), none, none, none] [] = .ok (xor true (decide (w ∈ (["open", "shut"] : List Str)))) [] := inT (ms := ["open", "shut"]) (ix_str (n := 4) (ms := [a, u, f, b, w, r]) rfl rfl) rfl
        have e4 : decide (w ∈ (["open", "shut"] : List Str)) = decide (w = "open" ∨ w = "shut") := decide_eq_decide.mpr (by simp)
        rw [e4] at in4
        by_cases hw : w = "open" ∨ w = "shut"
        · rw [decide_eq_true hw] at in4
          rw [seq_nx (s' := [some (.d (.str z)), some (.d (.list ([a, u, f, b, w, r].map .str))), none, none, none]) (M' := []) (by rw [if_ff (M' := []) (by rw [or_ff tl]; exact in4)]; rfl)]
          rw [seq_nx (s' := [some (.d (.str z)), some (.d (.list ([a, u, f, b, w, r].map .str))), some (.r 0), none, none]) (M' := [.lst []]) (show pSet 2 (pMut (pLst (pNil))) _ _ = _ from rfl)]
          simp only [if_pos hw]
          have ne5 := neS (s := [some (W.d (.str z)), some (.d (.list ([a, u, f, b, w, r].map .str))), some (.r 0), none, none]) (M := [.lst []]) (a := pOp gIx (pVar 1) (pC (.int 5))) (b := pC (.str "-")) (x := r) (y := "-") (M' := [.lst []]) (M'' := [.lst []]) (ix_str (n := 5) (ms := [a, u, f, b, w, r]) rfl rfl) rfl (sp r (by simp)).2 (by decide +kernel)
          have it : pItL (pIfE (pB (pOp gNeD (pOp gIx (pVar 1) (pC (.int 5))) (pC (.str "-")))) (pDat (pSplit (pOp gIx (pVar 1) (pC (.int 5))) (pC (.str ",")))) (pDat (pLst (pNil)))) [some (W.d (.str z)), some (.d (.list ([a, u, f, b, w, r].map .str))), some (.r 0), none, none] [.lst []] = .ok ((wordsR r).map fun w => W.d (.str w)) [.lst []] := by
            unfold pItL wordsR
            by_cases hr : r = "-"
            · rw [decide_eq_true hr] at ne5
              rw [ife_ff ne5, if_pos hr]
              rfl
            · rw [decide_eq_false hr] at ne5
              rw [ife_tt ne5, if_neg hr, split_ok (z := r) (ix_str (n := 5) (ms := [a, u, f, b, w, r]) rfl rfl) (Nat.le_trans (sp r (by simp)).1 (by decide)) (by decide)]
              simp only [R.bind, List.map_map]
              rfl
          have wk : ∀ x ∈ wordsR r, x.length ≤ 1000 ∧ PyData.strOk x = true := by
            intro x hx
            unfold wordsR at hx
            split at hx
            · cases hx
            · exact ⟨Nat.le_trans (split_short r "," x hx) (sp r (by simp)).1, split_ok2 hx (sp r (by simp)).2⟩
          have wl : (wordsR r).length ≤ 1000 := by
            unfold wordsR
            split
            · exact Nat.zero_le _
            · exact hn r (by simp)
          obtain ⟨r1, r2⟩ := lp_parts (z := .d (.str z)) (ps := .d (.list ([a, u, f, b, w, r].map .str))) (wordsR r) [] none none wk (by simpa using wl)
          cases hr : rightsO (wordsR r) with
          | none =>
            obtain ⟨s', M', e⟩ := r1 hr
            rw [seq_exc ((for_ok it).trans e)]
            rfl
          | some rs =>
            obtain ⟨s3, s4, e⟩ := r2 rs hr
            rw [seq_nx ((for_ok it).trans e), List.nil_append]
            have i0 := ix_str (s := [some (W.d (.str z)), some (.d (.list ([a, u, f, b, w, r].map .str))), some (.r 0), s3, s4]) (M := [.lst (rs.map .d)]) (k := 1) (n := 0) (i := 0) (ms := [a, u, f, b, w, r]) (x := a) rfl rfl
            have i1 := ix_str (s := [some (W.d (.str z)), some (.d (.list ([a, u, f, b, w, r].map .str))), some (.r 0), s3, s4]) (M := [.lst (rs.map .d)]) (k := 1) (n := 1) (i := 1) (ms := [a, u, f, b, w, r]) (x := u) rfl rfl
            have i2 := ix_str (s := [some (W.d (.str z)), some (.d (.list ([a, u, f, b, w, r].map .str))), some (.r 0), s3, s4]) (M := [.lst (rs.map .d)]) (k := 1) (n := 2) (i := 2) (ms := [a, u, f, b, w, r]) (x := f) rfl rfl
            have i3 := ix_str (s := [some (W.d (.str z)), some (.d (.list ([a, u, f, b, w, r].map .str))), some (.r 0), s3, s4]) (M := [.lst (rs.map .d)]) (k := 1) (n := 3) (i := 3) (ms := [a, u, f, b, w, r]) (x := b) rfl rfl
            have i4 := ix_str (s := [some (W.d (.str z)), some (.d (.list ([a, u, f, b, w, r].map .str))), some (.r 0), s3, s4]) (M := [.lst (rs.map .d)]) (k := 1) (n := 4) (i := 4) (ms := [a, u, f, b, w, r]) (x := w) rfl rfl
            cases hf : intO f with
            | none =>
              rw [ret_exc (tup_exc (cons_exc2 i0 (cons_exc2 i1 (cons_exc1 (int_exc i2 (sp f (by simp)).1 (sp f (by simp)).2 hf)))))]
              rfl
            | some fi =>
              have j2 := int_call i2 (sp f (by simp)).1 (sp f (by simp)).2 hf
              cases hb : intO b with
              | none =>
                rw [ret_exc (tup_exc (cons_exc2 i0 (cons_exc2 i1 (cons_exc2 j2 (cons_exc1 (int_exc i3 (sp b (by simp)).1 (sp b (by simp)).2 hb))))))]
                rfl
              | some bi =>
                have j3 := int_call i3 (sp b (by simp)).1 (sp b (by simp)).2 hb
                have tp : pCall gTuple (pCons (pVar 2) (pNil)) [some (W.d (.str z)), some (.d (.list ([a, u, f, b, w, r].map .str))), some (.r 0), s3, s4] [.lst (rs.map .d)] = .ok (.d (.tuple rs)) [.lst (rs.map .d)] := by
                  rw [call1 (x := .r 0) (M' := [.lst (rs.map .d)]) rfl]
                  simp [gTuple, view, allD_map]
                rw [ret_ok (tup_ok (ds := [.str a, .str u, .int fi, .int bi, .str w, .tuple rs]) (cons_ok i0 (cons_ok i1 (cons_ok j2 (cons_ok j3 (cons_ok i4 (cons_ok tp nil_ok)))))) (by show 6 ≤ 1000; decide))]
                rfl
        · rw [decide_eq_false hw] at in4
          simp only [if_neg hw]
          rw [seq_exc (s' := [some (.d (.str z)), some (.d (.list ([a, u, f, b, w, r].map .str))), none, none, none]) (M' := []) (e := bad77) (by rw [if_tt (M' := []) (by rw [or_ff tl]; exact in4)]; rfl)]
          rfl
    · exact absurd (by simp only [q_read_book_line]; rw [if_neg hc]) h
abbrev N_tables_by_lines : List Str := ["lines", "rows", "found", "account", "unit", "floor", "balance", "word", "rights", "desk", "number", "line"]
def lp0_tables_by_lines (C_Table : Addr) : PSx :=
  pDrop (pMeth C_Table "add" ((f_Table_add C_Table)) [] (pGetD (pVar 2) (pC (.str "rights"))) (pCons (pTup (pCons (pVar 3) (pCons (pVar 9) (pCons (pVar 10) (pNil))))) (pNil)))
def lp1_tables_by_lines (C_Table : Addr) : PSx :=
  pTryX catK (pSeq (pDrop (pMeth C_Table "add" ((f_Table_add C_Table)) [] (pGetD (pVar 2) (pC (.str "accounts"))) (pCons (pTup (pCons (pVar 3) (pCons (pCallQ q_home_of [] (pCons (pVar 3) (pNil))) (pCons (pVar 4) (pCons (pVar 5) (pCons (pVar 6) (pCons (pVar 7) (pNil)))))))) (pNil))))
  (pFor (pItT (pVar 8)) (qTup 2 (qCons (qName 9) (qCons (qName 10) (qNil)))) ((lp0_tables_by_lines C_Table)))) (pRaise "InvalidPaper")
def lc2_tables_by_lines (C_Table : Addr) : PAx :=
  pLcX (pItL (pVar 0)) (qName 11) (pYes) (pCallQ q_read_book_line [] (pCons (pVar 11) (pNil))) [11]
def b_tables_by_lines (C_Table : Addr) : PSx :=
  pSeq (pSet 1 (pDat ((lc2_tables_by_lines C_Table))))
  (pSeq (pSet 2 (pCallG (f_empty_tables C_Table) [] pNil))
  (pSeq (pFor (pItL (pVar 1)) (qTup 6 (qCons (qName 3) (qCons (qName 4) (qCons (qName 5) (qCons (qName 6) (qCons (qName 7) (qCons (qName 8) (qNil)))))))) ((lp1_tables_by_lines C_Table)))
  (pRet (pVar 2))))
def f0_tables_by_lines (C_Table : Addr) : PF := runG N_tables_by_lines.length (["lines"] : List Str).length (b_tables_by_lines C_Table)
theorem run_tables_by_lines (C_Table : Addr) {ws : List W} {M : Ms} (h : ws.length = 1) : f0_tables_by_lines C_Table ws M = (b_tables_by_lines C_Table (startS 12 ws) M).toR := runG_pos h
theorem split_ne (x y : Str) : Txt.split x y ≠ [] := by
  unfold Txt.split
  split
  · simp
  · split
    · simp
    · rw [StrLaws.partsBetween_eq]
      generalize Builtin.Str.occurrences _ _ _ _ _ = cuts
      cases cuts <;> simp [StrLaws.partsFrom]
theorem homeS_mem (a : Str) : homeS a ∈ Txt.split a "." := by
  obtain ⟨x, l, e⟩ := List.exists_cons_of_ne_nil (split_ne a ".")
  unfold homeS
  rw [e]
  exact List.mem_cons_self
theorem qv_text {z : Str} (h : z.length ≤ 1000) : q_is_value [.str z, .str "text"] = .ok (.bool (okText z)) := by
  have h2 : z.length ≤ 1000000 := Nat.le_trans h (by decide)
  simp [q_is_value, h2]
theorem qv_int {n : Int} : q_is_value [.int n, .str "number"] = .ok (.bool (okInt n)) := by simp [q_is_value]
def rD (r : Str × Int) : PyData := .tuple [.str r.1, .int r.2]
def rowD (a u : Str) (f b : Int) (w : Str) (R : List (Str × Int)) : PyData := .tuple [.str a, .str u, .int f, .int b, .str w, .tuple (R.map rD)]
def accD (a u : Str) (f b : Int) (w : Str) : PyData := .tuple [.str a, .str (homeS a), .str u, .int f, .int b, .str w]
def rightD (a : Str) (r : Str × Int) : PyData := .tuple [.str a, .str r.1, .int r.2]
def accB (a u : Str) (f b : Int) (w : Str) : Bool := okText a && (okText (homeS a) && (okText u && (okInt f && (okInt b && okText w))))
def rightB (a : Str) (r : Str × Int) : Bool := okText a && (okText r.1 && okInt r.2)
theorem meth_exc {C : Addr} {m : Str} {F : PF} {o : PEx} {pa : PAx} {s : Sl} {M M1 M2 M3 : Ms} {x : W} {e : Exn} {ws : List W} (ho : o s M = .ok x M1) (hn : noAtt C m M1 x = true) (ha : pa s M1 = .ok ws M2) (hF : F (x :: ws) M2 = .exc e M3) : pMeth C m F [] o pa s M = .exc e M3 := by
  unfold pMeth
  rw [ho]
  simp only [R.bind, hn, if_true, ha, List.map_nil, List.append_nil, hF]
section
variable {C : Addr} {M : Ms} {accs rts : List W}
theorem m12 : (M ++ ALL C M.length accs rts)[M.length + 12]? = some (.dic false (dicT M.length)) := gA (c := 12)
theorem m6 : (M ++ ALL C M.length accs rts)[M.length + 6]? = some (.ins C [("_columns", .r (M.length + 7)), ("_rows", .r (M.length + 8))]) := gA (c := 6)
theorem m7 : (M ++ ALL C M.length accs rts)[M.length + 7]? = some (.lst (colsW colsA)) := gA (c := 7)
theorem m8 : (M ++ ALL C M.length accs rts)[M.length + 8]? = some (.lst accs) := gA (c := 8)
theorem m9 : (M ++ ALL C M.length accs rts)[M.length + 9]? = some (.ins C [("_columns", .r (M.length + 10)), ("_rows", .r (M.length + 11))]) := gA (c := 9)
theorem m10 : (M ++ ALL C M.length accs rts)[M.length + 10]? = some (.lst (colsW colsR)) := gA (c := 10)
theorem m11 : (M ++ ALL C M.length accs rts)[M.length + 11]? = some (.lst rts) := gA (c := 11)
theorem add_acc {a u w : Str} {f b : Int} (ha : a.length ≤ 1000) (hu : u.length ≤ 1000) (hw : w.length ≤ 1000) (hl : accs.length ≤ 1000) :
    f0_Table_add C [.r (M.length + 6), .d (accD a u f b w)] (M ++ ALL C M.length accs rts) = if accB a u f b w = true then .ok (.d .none) (M ++ ALL C M.length (accs ++ [.d (accD a u f b w)]) rts) else .exc bad77 (M ++ ALL C M.length accs rts) := by
  have hh : (homeS a).length ≤ 1000 := Nat.le_trans (split_short a "." _ (homeS_mem a)) ha
  have z := add_row (C := C) (M := M ++ ALL C M.length accs rts) (ds := [.str a, .str (homeS a), .str u, .int f, .int b, .str w]) (b := fun i => [okText a, okText (homeS a), okText u, okInt f, okInt b, okText w].getD i true) m6 m7 m8 rfl (by show 6 ≤ 1000; decide) hl (fun i hi => match i, hi with
    | 0, _ => ⟨_, _, rfl, rfl, qv_text ha⟩
    | 1, _ => ⟨_, _, rfl, rfl, qv_text hh⟩
    | 2, _ => ⟨_, _, rfl, rfl, qv_text hu⟩
    | 3, _ => ⟨_, _, rfl, rfl, qv_int⟩
    | 4, _ => ⟨_, _, rfl, rfl, qv_int⟩
    | 5, _ => ⟨_, _, rfl, rfl, qv_text hw⟩
    | n + 6, h => absurd h (by simp))
  have e : (List.range 6).all (fun i => [okText a, okText (homeS a), okText u, okInt f, okInt b, okText w].getD i true) = accB a u f b w := by
    show (okText a && (okText (homeS a) && (okText u && (okInt f && (okInt b && (okText w && true)))))) = _
    rw [Bool.and_true]
    rfl
  rw [show ([PyData.str a, .str (homeS a), .str u, .int f, .int b, .str w] : List PyData).length = 6 from rfl, e, sA (c := 8)] at z
  exact z
theorem add_right {a : Str} {r : Str × Int} (ha : a.length ≤ 1000) (hr : r.1.length ≤ 1000) (hl : rts.length ≤ 1000) :
    f0_Table_add C [.r (M.length + 9), .d (rightD a r)] (M ++ ALL C M.length accs rts) = if rightB a r = true then .ok (.d .none) (M ++ ALL C M.length accs (rts ++ [.d (rightD a r)])) else .exc bad77 (M ++ ALL C M.length accs rts) := by
  have z := add_row (C := C) (M := M ++ ALL C M.length accs rts) (ds := [.str a, .str r.1, .int r.2]) (b := fun i => [okText a, okText r.1, okInt r.2].getD i true) m9 m10 m11 rfl (by show 3 ≤ 1000; decide) hl (fun i hi => match i, hi with
    | 0, _ => ⟨_, _, rfl, rfl, qv_text ha⟩
    | 1, _ => ⟨_, _, rfl, rfl, qv_text hr⟩
    | 2, _ => ⟨_, _, rfl, rfl, qv_int⟩
    | n + 3, h => absurd h (by simp))
  have e : (List.range 3).all (fun i => [okText a, okText r.1, okInt r.2].getD i true) = rightB a r := by
    show (okText a && (okText r.1 && (okInt r.2 && true))) = _
    rw [Bool.and_true]
    rfl
  rw [show ([PyData.str a, .str r.1, .int r.2] : List PyData).length = 3 from rfl, e, sA (c := 11)] at z
  exact z
theorem get_tab {s : Sl} {n : Str} {j : Nat} (hs : s[2]? = some (some (.r (M.length + 12)))) (hv : valP (dicT M.length) (.str n) = some (.r j)) : pGetD (pVar 2) (pC (.str n)) s (M ++ ALL C M.length accs rts) = .ok (.r j) (M ++ ALL C M.length accs rts) :=
  getD_ok (var_ok hs) (M2 := M ++ ALL C M.length accs rts) rfl (dicOf_dic m12) rfl hv
end
theorem rights_loop {C : Addr} {M : Ms} {accs : List W} {a : Str} {s0 s1 s4 s5 s6 s7 s8 s11 : Option W} (ha : a.length ≤ 1000) : ∀ (R : List (Str × Int)) (rts : List W) (s9 s10 : Option W), (∀ r ∈ R, r.1.length ≤ 1000) → rts.length + R.length ≤ 1000 →
    (R.all (rightB a) = true → ∃ s9' s10', forL (qTup 2 (qCons (qName 9) (qCons (qName 10) (qNil)))) (lp0_tables_by_lines C) (R.map fun r => W.d (rD r)) [s0, s1, some (.r (M.length + 12)), some (.d (.str a)), s4, s5, s6, s7, s8, s9, s10, s11] (M ++ ALL C M.length accs rts) = .nx [s0, s1, some (.r (M.length + 12)), some (.d (.str a)), s4, s5, s6, s7, s8, s9', s10', s11] (M ++ ALL C M.length accs (rts ++ R.map fun r => W.d (rightD a r)))) ∧
    (R.all (rightB a) = false → ∃ s' M', forL (qTup 2 (qCons (qName 9) (qCons (qName 10) (qNil)))) (lp0_tables_by_lines C) (R.map fun r => W.d (rD r)) [s0, s1, some (.r (M.length + 12)), some (.d (.str a)), s4, s5, s6, s7, s8, s9, s10, s11] (M ++ ALL C M.length accs rts) = .exc bad77 s' M')
  | [], rts, s9, s10, _, _ => ⟨fun _ => ⟨s9, s10, by rw [List.map_nil, List.map_nil, List.append_nil]; rfl⟩, fun h => by simp at h⟩
  | r :: R, rts, s9, s10, hr, hl => by
    rw [List.length_cons] at hl
    have hg : qTup 2 (qCons (qName 9) (qCons (qName 10) (qNil))) (W.d (rD r)) [s0, s1, some (.r (M.length + 12)), some (.d (.str a)), s4, s5, s6, s7, s8, s9, s10, s11] (M ++ ALL C M.length accs rts) = some [s0, s1, some (.r (M.length + 12)), some (.d (.str a)), s4, s5, s6, s7, s8, some (.d (.str r.1)), some (.d (.int r.2)), s11] := rfl
    rw [List.map_cons, forL, hg, List.all_cons]
    have ho := get_tab (C := C) (M := M) (accs := accs) (rts := rts) (n := "rights") (j := M.length + 9) (s := [s0, s1, some (.r (M.length + 12)), some (.d (.str a)), s4, s5, s6, s7, s8, some (.d (.str r.1)), some (.d (.int r.2)), s11]) rfl rfl
    have hpa : pCons (pTup (pCons (pVar 3) (pCons (pVar 9) (pCons (pVar 10) (pNil))))) (pNil) [s0, s1, some (.r (M.length + 12)), some (.d (.str a)), s4, s5, s6, s7, s8, some (.d (.str r.1)), some (.d (.int r.2)), s11] (M ++ ALL C M.length accs rts) = .ok [.d (rightD a r)] (M ++ ALL C M.length accs rts) := by
      refine cons_ok (M1 := M ++ ALL C M.length accs rts) (tup_ok (ds := [.str a, .str r.1, .int r.2]) ?_ (by show 3 ≤ 1000; decide)) nil_ok
      rfl
    have ad := add_right (C := C) (M := M) (accs := accs) (rts := rts) (r := r) ha (hr r List.mem_cons_self) (by omega)
    have hn : noAtt C "add" (M ++ ALL C M.length accs rts) (.r (M.length + 9)) = true := noAtt_of m9 rfl
    cases hb : rightB a r with
    | true =>
      rw [hb, if_pos rfl] at ad
      have st : lp0_tables_by_lines C [s0, s1, some (.r (M.length + 12)), some (.d (.str a)), s4, s5, s6, s7, s8, some (.d (.str r.1)), some (.d (.int r.2)), s11] (M ++ ALL C M.length accs rts) = .nx [s0, s1, some (.r (M.length + 12)), some (.d (.str a)), s4, s5, s6, s7, s8, some (.d (.str r.1)), some (.d (.int r.2)), s11] (M ++ ALL C M.length accs (rts ++ [.d (rightD a r)])) := drop_ok (meth_ok ho hn hpa ad)
      simp only [st, Bool.true_and]
      obtain ⟨i1, i2⟩ := rights_loop (C := C) (M := M) (accs := accs) (s0 := s0) (s1 := s1) (s4 := s4) (s5 := s5) (s6 := s6) (s7 := s7) (s8 := s8) (s11 := s11) ha R (rts ++ [.d (rightD a r)]) (some (.d (.str r.1))) (some (.d (.int r.2))) (fun x hx => hr x (List.mem_cons_of_mem _ hx)) (by rw [List.length_append, List.length_singleton]; omega)
      refine ⟨fun h => ?_, i2⟩
      obtain ⟨p, q, e⟩ := i1 h
      refine ⟨p, q, ?_⟩
      rw [e, List.append_assoc]
      rfl
    | false =>
      rw [hb, if_neg (by decide)] at ad
      have st : lp0_tables_by_lines C [s0, s1, some (.r (M.length + 12)), some (.d (.str a)), s4, s5, s6, s7, s8, some (.d (.str r.1)), some (.d (.int r.2)), s11] (M ++ ALL C M.length accs rts) = .exc bad77 [s0, s1, some (.r (M.length + 12)), some (.d (.str a)), s4, s5, s6, s7, s8, some (.d (.str r.1)), some (.d (.int r.2)), s11] (M ++ ALL C M.length accs rts) := drop_exc (meth_exc ho hn hpa ad)
      simp only [st, Bool.false_and]
      exact ⟨fun h => by simp at h, fun _ => ⟨_, _, rfl⟩⟩
theorem seq_exc2 {p q : PSx} {s s1 s2 : Sl} {M M1 M2 : Ms} {e : Exn} (h : p s M = .nx s1 M1) (h2 : q s1 M1 = .exc e s2 M2) : pSeq p q s M = .exc e s2 M2 := by rw [seq_nx h]; exact h2
theorem tryX_nx {cat : Str → Option Bool} {b su : PSx} {s s' : Sl} {M M' : Ms} (h : b s M = .nx s' M') : pTryX cat b su s M = .nx s' M' := by unfold pTryX; rw [h]
theorem tryX_bad {b : PSx} {s s' : Sl} {M M' : Ms} (h : b s M = .exc bad77 s' M') : pTryX catK b (pRaise "InvalidPaper") s M = .exc bad77 s' M' := by
  unfold pTryX
  rw [h]
  have : catK bad77.c = some true := by decide
  simp only [this]
  rfl
theorem row_turn {C : Addr} {M : Ms} {a u w : Str} {f b : Int} {R : List (Str × Int)} {s0 s1 s9 s10 s11 : Option W} (ha : a.length ≤ 1000) (hu : u.length ≤ 1000) (hw : w.length ≤ 1000) (hR : R.length ≤ 100) (hr : ∀ r ∈ R, r.1.length ≤ 1000) :
    (accB a u f b w = true → R.all (rightB a) = true → ∃ s9' s10', lp1_tables_by_lines C [s0, s1, some (.r (M.length + 12)), some (.d (.str a)), some (.d (.str u)), some (.d (.int f)), some (.d (.int b)), some (.d (.str w)), some (.d (.tuple (R.map rD))), s9, s10, s11] (M ++ ALL C M.length [] []) = .nx [s0, s1, some (.r (M.length + 12)), some (.d (.str a)), some (.d (.str u)), some (.d (.int f)), some (.d (.int b)), some (.d (.str w)), some (.d (.tuple (R.map rD))), s9', s10', s11] (M ++ ALL C M.length [.d (accD a u f b w)] (R.map fun r => W.d (rightD a r)))) ∧
    ((accB a u f b w && R.all (rightB a)) = false → ∃ s' M', lp1_tables_by_lines C [s0, s1, some (.r (M.length + 12)), some (.d (.str a)), some (.d (.str u)), some (.d (.int f)), some (.d (.int b)), some (.d (.str w)), some (.d (.tuple (R.map rD))), s9, s10, s11] (M ++ ALL C M.length [] []) = .exc bad77 s' M') := by
  have ho := get_tab (C := C) (M := M) (accs := []) (rts := []) (n := "accounts") (j := M.length + 6) (s := [s0, s1, some (.r (M.length + 12)), some (.d (.str a)), some (.d (.str u)), some (.d (.int f)), some (.d (.int b)), some (.d (.str w)), some (.d (.tuple (R.map rD))), s9, s10, s11]) rfl rfl
  have hh : pCallQ q_home_of [] (pCons (pVar 3) (pNil)) [s0, s1, some (.r (M.length + 12)), some (.d (.str a)), some (.d (.str u)), some (.d (.int f)), some (.d (.int b)), some (.d (.str w)), some (.d (.tuple (R.map rD))), s9, s10, s11] (M ++ ALL C M.length [] []) = .ok (.d (.str (homeS a))) (M ++ ALL C M.length [] []) := by
    rw [call_data (ds := [.str a]) (cons_ok (M1 := M ++ ALL C M.length [] []) rfl nil_ok)]
    have : q_home_of [.str a] = .ok (.str (homeS a)) := by simp only [q_home_of]; rw [if_pos ⟨Nat.le_trans ha (by decide), split_ne a "."⟩]
    rw [this]
    rfl
  have hpa : pCons (pTup (pCons (pVar 3) (pCons (pCallQ q_home_of [] (pCons (pVar 3) (pNil))) (pCons (pVar 4) (pCons (pVar 5) (pCons (pVar 6) (pCons (pVar 7) (pNil)))))))) (pNil) [s0, s1, some (.r (M.length + 12)), some (.d (.str a)), some (.d (.str u)), some (.d (.int f)), some (.d (.int b)), some (.d (.str w)), some (.d (.tuple (R.map rD))), s9, s10, s11] (M ++ ALL C M.length [] []) = .ok [.d (accD a u f b w)] (M ++ ALL C M.length [] []) := by
    refine cons_ok (M1 := M ++ ALL C M.length [] []) (tup_ok (ds := [.str a, .str (homeS a), .str u, .int f, .int b, .str w]) (cons_ok (x := .d (.str a)) (M1 := M ++ ALL C M.length [] []) rfl (cons_ok hh ?_)) (by show 6 ≤ 1000; decide)) nil_ok
    rfl
  have ad := add_acc (C := C) (M := M) (accs := []) (rts := []) (f := f) (b := b) ha hu hw (by simp)
  have hn : noAtt C "add" (M ++ ALL C M.length [] []) (.r (M.length + 6)) = true := noAtt_of m6 rfl
  unfold lp1_tables_by_lines
  cases hb : accB a u f b w with
  | true =>
    rw [hb, if_pos rfl] at ad
    have st := drop_ok (meth_ok ho hn hpa ad)
    obtain ⟨i1, i2⟩ := rights_loop (C := C) (M := M) (accs := [] ++ [.d (accD a u f b w)]) (s0 := s0) (s1 := s1) (s4 := some (.d (.str u))) (s5 := some (.d (.int f))) (s6 := some (.d (.int b))) (s7 := some (.d (.str w))) (s8 := some (.d (.tuple (R.map rD)))) (s11 := s11) ha R [] s9 s10 hr (by simp; omega)
    have it : pItT (pVar 8) [s0, s1, some (.r (M.length + 12)), some (.d (.str a)), some (.d (.str u)), some (.d (.int f)), some (.d (.int b)), some (.d (.str w)), some (.d (.tuple (R.map rD))), s9, s10, s11] (M ++ ALL C M.length ([] ++ [.d (accD a u f b w)]) []) = .ok (R.map fun r => W.d (rD r)) (M ++ ALL C M.length ([] ++ [.d (accD a u f b w)]) []) := by
      unfold pItT
      rw [var_ok (x := .d (.tuple (R.map rD))) rfl]
      simp only [Z.R.bind, List.map_map]
      rfl
    refine ⟨fun _ h => ?_, fun h => ?_⟩
    · obtain ⟨p, q, e⟩ := i1 h
      refine ⟨p, q, tryX_nx ?_⟩
      rw [seq_nx st, for_ok it, e]
      rfl
    · obtain ⟨s', M', e⟩ := i2 (by simpa using h)
      exact ⟨s', M', tryX_bad (seq_exc2 st ((for_ok it).trans e))⟩
  | false =>
    rw [hb, if_neg (by decide)] at ad
    exact ⟨fun h => by simp at h, fun _ => ⟨_, _, tryX_bad (seq_exc (drop_exc (meth_exc ho hn hpa ad)))⟩⟩
theorem lines_read {C : Addr} {M : Ms} {z : Str} {d : PyData} (hz : okLine z = true) (hl : lineO z = some d) : pSet 1 (pDat (lc2_tables_by_lines C)) [some (W.d (.list [.str z])), none, none, none, none, none, none, none, none, none, none, none] M = .nx [some (.d (.list [.str z])), some (.d (.list [d])), none, none, none, none, none, none, none, none, none, none] M := by
  refine set_ok (dat_ok (ws := [.d d]) (ds := [d]) (M' := M) ?_ rfl)
  unfold lc2_tables_by_lines pLcX pItL
  rw [var_ok (x := .d (.list [.str z])) rfl]
  simp only [R.bind]
  rw [if_pos (by show 1 ≤ sizeLine; decide)]
  have c1 : pCallQ q_read_book_line [] (pCons (pVar 11) (pNil)) [some (W.d (.list [.str z])), none, none, none, none, none, none, none, none, none, none, some (.d (.str z))] M = .ok (.d d) M := by
    rw [call_data (ds := [.str z]) (cons_ok (M1 := M) rfl nil_ok)]
    have : q_read_book_line [.str z] = .ok d := by simp only [q_read_book_line]; rw [if_pos hz, hl]
    rw [this]
    rfl
  show lcX (qName 11) pYes _ _ [.d (.str z)] [] M = _
  rw [lcX, show qName 11 (W.d (.str z)) (wipeS [some (W.d (.list [.str z])), none, none, none, none, none, none, none, none, none, none, none] [11]) M = some [some (W.d (.list [.str z])), none, none, none, none, none, none, none, none, none, none, some (.d (.str z))] from rfl]
  simp only [pYes, R.bindN, if_true, c1, R.bind]
  rfl
theorem lines_bad {C : Addr} {M : Ms} {z : Str} (hz : okLine z = true) (hl : lineO z = none) : pSet 1 (pDat (lc2_tables_by_lines C)) [some (W.d (.list [.str z])), none, none, none, none, none, none, none, none, none, none, none] M = .exc bad77 [some (W.d (.list [.str z])), none, none, none, none, none, none, none, none, none, none, none] M := by
  refine set_exc ?_
  have c1 : pCallQ q_read_book_line [] (pCons (pVar 11) (pNil)) [some (W.d (.list [.str z])), none, none, none, none, none, none, none, none, none, none, some (.d (.str z))] M = .exc bad77 M := by
    rw [call_data (ds := [.str z]) (cons_ok (M1 := M) rfl nil_ok)]
    have : q_read_book_line [.str z] = .exc bad77 := by simp only [q_read_book_line]; rw [if_pos hz, hl]
    rw [this]
    rfl
  have lc : lc2_tables_by_lines C [some (W.d (.list [.str z])), none, none, none, none, none, none, none, none, none, none, none] M = .exc bad77 M := by
    unfold lc2_tables_by_lines pLcX pItL
    rw [var_ok (x := .d (.list [.str z])) rfl]
    simp only [R.bind]
    rw [if_pos (by show 1 ≤ sizeLine; decide)]
    show lcX (qName 11) pYes _ _ [.d (.str z)] [] M = _
    rw [lcX, show qName 11 (W.d (.str z)) (wipeS [some (W.d (.list [.str z])), none, none, none, none, none, none, none, none, none, none, none] [11]) M = some [some (W.d (.list [.str z])), none, none, none, none, none, none, none, none, none, none, some (.d (.str z))] from rfl]
    simp only [pYes, R.bindN, if_true, c1, R.bind]
  unfold pDat
  rw [lc]
  rfl
/-- a line's tables -/
theorem tabs_ok {C : Addr} {M : Ms} {z a u w : Str} {f b : Int} {R : List (Str × Int)} (hz : okLine z = true) (hl : lineO z = some (rowD a u f b w R)) (ha : a.length ≤ 1000) (hu : u.length ≤ 1000) (hw : w.length ≤ 1000) (hR : R.length ≤ 100) (hr : ∀ r ∈ R, r.1.length ≤ 1000) :
    (accB a u f b w = true → R.all (rightB a) = true → f0_tables_by_lines C [.d (.list [.str z])] M = .ok (.r (M.length + 12)) (M ++ ALL C M.length [.d (accD a u f b w)] (R.map fun r => W.d (rightD a r)))) ∧
    ((accB a u f b w && R.all (rightB a)) = false → ∃ M', f0_tables_by_lines C [.d (.list [.str z])] M = .exc bad77 M') := by
  rw [run_tables_by_lines C rfl]
  show (_ → _ → O.toR (b_tables_by_lines C [some (.d (.list [.str z])), none, none, none, none, none, none, none, none, none, none, none] M) = _) ∧ (_ → ∃ M', O.toR (b_tables_by_lines C [some (.d (.list [.str z])), none, none, none, none, none, none, none, none, none, none, none] M) = _)
  unfold b_tables_by_lines
  rw [seq_nx (lines_read hz hl)]
  have e1 : pCallG (f0_empty_tables C) [] (pNil) [some (W.d (.list [.str z])), some (.d (.list [rowD a u f b w R])), none, none, none, none, none, none, none, none, none, none] M = .ok (.r (M.length + 12)) (M ++ ALL C M.length [] []) := by rw [callG_ok nil_ok]; exact empty_ok
  rw [seq_nx (s' := [some (W.d (.list [.str z])), some (.d (.list [rowD a u f b w R])), some (.r (M.length + 12)), none, none, none, none, none, none, none, none, none]) (M' := M ++ ALL C M.length [] []) (set_ok e1)]
  obtain ⟨t1, t2⟩ := row_turn (C := C) (M := M) (f := f) (b := b) (s0 := some (W.d (.list [.str z]))) (s1 := some (.d (.list [rowD a u f b w R]))) (s9 := none) (s10 := none) (s11 := none) ha hu hw hR hr
  have it : pItL (pVar 1) [some (W.d (.list [.str z])), some (.d (.list [rowD a u f b w R])), some (.r (M.length + 12)), none, none, none, none, none, none, none, none, none] (M ++ ALL C M.length [] []) = .ok [.d (rowD a u f b w R)] (M ++ ALL C M.length [] []) := rfl
  have hg : qTup 6 (qCons (qName 3) (qCons (qName 4) (qCons (qName 5) (qCons (qName 6) (qCons (qName 7) (qCons (qName 8) (qNil))))))) (W.d (rowD a u f b w R)) [some (W.d (.list [.str z])), some (.d (.list [rowD a u f b w R])), some (.r (M.length + 12)), none, none, none, none, none, none, none, none, none] (M ++ ALL C M.length [] []) = some [some (W.d (.list [.str z])), some (.d (.list [rowD a u f b w R])), some (.r (M.length + 12)), some (.d (.str a)), some (.d (.str u)), some (.d (.int f)), some (.d (.int b)), some (.d (.str w)), some (.d (.tuple (R.map rD))), none, none, none] := rfl
  refine ⟨fun h1 h2 => ?_, fun h => ?_⟩
  · obtain ⟨p, q, e⟩ := t1 h1 h2
    rw [seq_nx (p := pFor (pItL (pVar 1)) (qTup 6 (qCons (qName 3) (qCons (qName 4) (qCons (qName 5) (qCons (qName 6) (qCons (qName 7) (qCons (qName 8) (qNil)))))))) (lp1_tables_by_lines C)) ((for_ok it).trans (by rw [forL, hg]; simp only [e]; rfl))]
    rfl
  · obtain ⟨s', M', e⟩ := t2 h
    refine ⟨M', ?_⟩
    rw [seq_exc (p := pFor (pItL (pVar 1)) (qTup 6 (qCons (qName 3) (qCons (qName 4) (qCons (qName 5) (qCons (qName 6) (qCons (qName 7) (qCons (qName 8) (qNil)))))))) (lp1_tables_by_lines C)) ((for_ok it).trans (by rw [forL, hg]; simp only [e]; rfl))]
    rfl
theorem tabs_bad {C : Addr} {M : Ms} {z : Str} (hz : okLine z = true) (hl : lineO z = none) : f0_tables_by_lines C [.d (.list [.str z])] M = .exc bad77 M := by
  rw [run_tables_by_lines C rfl]
  show O.toR (b_tables_by_lines C [some (.d (.list [.str z])), none, none, none, none, none, none, none, none, none, none, none] M) = _
  unfold b_tables_by_lines
  rw [seq_exc (lines_bad hz hl)]
  rfl
theorem tabs_nil {C : Addr} {M : Ms} : f0_tables_by_lines C [.d (.list [])] M = .ok (.r (M.length + 12)) (M ++ ALL C M.length [] []) := by
  rw [run_tables_by_lines C rfl]
  show O.toR (b_tables_by_lines C [some (.d (.list [])), none, none, none, none, none, none, none, none, none, none, none] M) = _
  unfold b_tables_by_lines
  have e0 : pSet 1 (pDat (lc2_tables_by_lines C)) [some (W.d (.list [])), none, none, none, none, none, none, none, none, none, none, none] M = .nx [some (.d (.list [])), some (.d (.list [])), none, none, none, none, none, none, none, none, none, none] M := rfl
  have e1 : pCallG (f0_empty_tables C) [] (pNil) [some (W.d (.list [])), some (.d (.list [])), none, none, none, none, none, none, none, none, none, none] M = .ok (.r (M.length + 12)) (M ++ ALL C M.length [] []) := by rw [callG_ok nil_ok]; exact empty_ok
  rw [seq_nx e0, seq_nx (set_ok e1)]
  rfl
abbrev f_tables_by_lines (C_Table : Addr) : PF := f0_tables_by_lines C_Table
abbrev N__law_draw : List Str := ["pool", "many", "found", "cell", "mixed"]
def b__law_draw : PSx :=
  pSeq (pIf (pB (pOp gGtI (pOp gIx (pVar 0) (pC (.int 2))) (pC (.int 0)))) (pSeq (pSet 2 (pOp gModI (pCall gInt1 (pCons (pOp gIx (pVar 0) (pC (.int 2))) (pNil))) (pVar 1)))
  (pSeq (pSub (pOp gDivI (pOp gIx (pVar 0) (pC (.int 2))) (pVar 1)) (pVar 0) (pC (.int 2)))
  (pRet (pVar 2)))) (pNext))
  (pSeq (pIf (pAndT (pB (pOp gEqD (pOp gModI (pCall gInt1 (pCons (pOp gIx (pVar 0) (pC (.int 4))) (pNil))) (pC (.int 8))) (pC (.int 0)))) (pB (pOp gLtI (pOp gIx (pVar 0) (pC (.int 1))) (pCall gLen (pCons (pOp gIx (pVar 0) (pC (.int 0))) (pNil)))))) (pSeq (pSet 3 (pCall gAbs (pCons (pOp gIx (pOp gIx (pVar 0) (pC (.int 0))) (pOp gIx (pVar 0) (pC (.int 1)))) (pNil))))
  (pSeq (pSub (pOp gAddI (pOp gIx (pVar 0) (pC (.int 1))) (pC (.int 1))) (pVar 0) (pC (.int 1)))
  (pSeq (pIf (pB (pOp gGeI (pVar 3) (pOp gPowI (pC (.int 10)) (pC (.int 18))))) (pSeq (pSub (pOp gDivI (pVar 3) (pVar 1)) (pVar 0) (pC (.int 2)))
  (pRet (pOp gModI (pCall gInt1 (pCons (pVar 3) (pNil))) (pVar 1)))) (pNext))
  (pSub (pVar 3) (pVar 0) (pC (.int 3)))))) (pNext))
  (pSeq (pSub (pOp gAddI (pOp gIx (pVar 0) (pC (.int 4))) (pC (.int 1))) (pVar 0) (pC (.int 4)))
  (pSeq (pSet 4 (pOp gModI (pCall gInt1 (pCons (pOp gAddI (pOp gAddI (pOp gMulI (pOp gIx (pVar 0) (pC (.int 3))) (pC (.int 48271))) (pOp gMulI (pOp gIx (pVar 0) (pC (.int 4))) (pC (.int 69621)))) (pC (.int 7919))) (pNil))) (pC (.int 2147483647))))
  (pSeq (pSet 4 (pOp gModI (pCall gInt1 (pCons (pOp gAddI (pOp gMulI (pVar 4) (pVar 4)) (pOp gMulI (pOp gIx (pVar 0) (pC (.int 4))) (pC (.int 40692)))) (pNil))) (pC (.int 2147483399))))
  (pRet (pOp gModI (pCall gInt1 (pCons (pVar 4) (pNil))) (pVar 1)))))))
def f0__law_draw : PF := runG N__law_draw.length (["pool", "many"] : List Str).length (b__law_draw)
theorem run__law_draw {ws : List W} {M : Ms} (h : ws.length = 2) : f0__law_draw ws M = (b__law_draw (startS 5 ws) M).toR := runG_pos h
def absI (n : Int) : Int := if n < 0 then -n else n
def poolM (ns : List Int) (p1 p2 p3 p4 : Int) : MO := .lst [.d (.list (ns.map .int)), .d (.int p1), .d (.int p2), .d (.int p3), .d (.int p4)]
def PoolOk (M : Ms) : Prop := ∃ (ns : List Int) (p1 p2 p3 p4 : Int), M[0]? = some (poolM ns p1 p2 p3 p4) ∧ 0 ≤ p1
theorem draw_tail {M : Ms} {ns : List Int} {p1 p2 p3 p4 many : Int} {a b : Option W} (hM : M[0]? = some (poolM ns p1 p2 p3 p4)) (h0 : 0 < many) :
    ∃ v, (pSeq (pSub (pOp gAddI (pOp gIx (pVar 0) (pC (.int 4))) (pC (.int 1))) (pVar 0) (pC (.int 4)))
  (pSeq (pSet 4 (pOp gModI (pCall gInt1 (pCons (pOp gAddI (pOp gAddI (pOp gMulI (pOp gIx (pVar 0) (pC (.int 3))) (pC (.int 48271))) (pOp gMulI (pOp gIx (pVar 0) (pC (.int 4))) (pC (.int 69621)))) (pC (.int 7919))) (pNil))) (pC (.int 2147483647))))
  (pSeq (pSet 4 (pOp gModI (pCall gInt1 (pCons (pOp gAddI (pOp gMulI (pVar 4) (pVar 4)) (pOp gMulI (pOp gIx (pVar 0) (pC (.int 4))) (pC (.int 40692)))) (pNil))) (pC (.int 2147483399))))
  (pRet (pOp gModI (pCall gInt1 (pCons (pVar 4) (pNil))) (pVar 1)))))) [some (.r 0), some (.d (.int many)), a, b, none] M = .rt (.d (.int v)) (M.set 0 (poolM ns p1 p2 p3 (p4 + 1))) ∧ 0 ≤ v ∧ v < many := by
  have hlen : 0 < M.length := (List.getElem?_eq_some_iff.mp hM).1
  have gs : ∀ x, (M.set 0 x)[0]? = some x := fun x => List.getElem?_set_self hlen
  have m0 : 0 ≤ (p3 * 48271 + (p4 + 1) * 69621 + 7919).fmod 2147483647 := Int.fmod_nonneg_of_pos _ (by decide)
  have m1 : (p3 * 48271 + (p4 + 1) * 69621 + 7919).fmod 2147483647 < 2147483647 := Int.fmod_lt_of_pos _ (by decide)
  refine ⟨(((p3 * 48271 + (p4 + 1) * 69621 + 7919).fmod 2147483647 * (p3 * 48271 + (p4 + 1) * 69621 + 7919).fmod 2147483647 + (p4 + 1) * 40692).fmod 2147483399).fmod many, ?_, Int.fmod_nonneg_of_pos _ h0, Int.fmod_lt_of_pos _ h0⟩
  have q1 : ∀ {M' : Ms}, gMulI (.d (.int p3)) (.d (.int 48271)) M' = .ok (.d (.int (p3 * 48271))) M' := mul_ok (.inr (by decide))
  have q2 : ∀ {M' : Ms}, gMulI (.d (.int (p4 + 1))) (.d (.int 69621)) M' = .ok (.d (.int ((p4 + 1) * 69621))) M' := mul_ok (.inr (by decide))
  have q3 : ∀ {M' : Ms}, gModI (.d (.int (p3 * 48271 + (p4 + 1) * 69621 + 7919))) (.d (.int 2147483647)) M' = .ok (.d (.int ((p3 * 48271 + (p4 + 1) * 69621 + 7919).fmod 2147483647))) M' := mod_ok (by decide)
  generalize (p3 * 48271 + (p4 + 1) * 69621 + 7919).fmod 2147483647 = mx at *
  have q4 : ∀ {M' : Ms}, gMulI (.d (.int mx)) (.d (.int mx)) M' = .ok (.d (.int (mx * mx))) M' := mul_ok (.inr (by omega))
  have q5 : ∀ {M' : Ms}, gMulI (.d (.int (p4 + 1))) (.d (.int 40692)) M' = .ok (.d (.int ((p4 + 1) * 40692))) M' := mul_ok (.inr (by decide))
  have q6 : ∀ {M' : Ms}, gModI (.d (.int (mx * mx + (p4 + 1) * 40692))) (.d (.int 2147483399)) M' = .ok (.d (.int ((mx * mx + (p4 + 1) * 40692).fmod 2147483399))) M' := mod_ok (by decide)
  generalize (mx * mx + (p4 + 1) * 40692).fmod 2147483399 = my at *
  have q7 : ∀ {M' : Ms}, gModI (.d (.int my)) (.d (.int many)) M' = .ok (.d (.int (my.fmod many))) M' := mod_ok (by omega)
  unfold poolM at hM ⊢
  simp [hM, gs, q1, q2, q3, q4, q5, q6, q7, atI, ixN, pSeq, pNext, pIf, pSet, pDrop, pRet, pRetN, pAsg, pVar, pC, pK, pCons, pNil, pTup, pLst, pDat, pMut, pOp, pB, pChain, pAndT, pOrT, pNotT, pAndV, pOrV, pNotV, pTru, pIfE, pNeg, pCall, pCallL, pCallQ, pCallG, pRaise, R.bind, R.to, R.bindN, O.toR, PR.to, truth, allD, view, viewAll, itemsL, itemsT, lenW, tagD, tagW, isTy, tyOk, scalar, R.freeze, pFor, pItL, pItT, pItS, pRng1, pRng2, qName, qNil, qCons, qTup, pSub, pNo, pSo, pYes, pBrk, pCnt, startS, clearO, gInt, gAddI, gSubI, gLtI, gLeI, gGtI, gGeI, gEqD, gNeD, gIsN, gIsB, gStr, gIsi, gLen, gAbs, gInt1, gMin2, gMax2, gSum, gMaxI, gMinI, gList, gSorted, gIx, gInD, isNonD, viewI, catW, pCat, gMaxT, pFld, pSetF, pMeth, pMake, insOf, putW, noAtt, pTry, pListRev, pSlL, pSlT, pIsi2, allD_nil, eqv_int, shaped_int, allD_ints, allD_map, intsOf_map]
theorem draw_ok {M : Ms} (h : PoolOk M) {many : Int} (h0 : 0 < many) (h1 : many ≤ 1000000000) : ∃ v M', f0__law_draw [.r 0, .d (.int many)] M = .ok (.d (.int v)) M' ∧ 0 ≤ v ∧ v < many ∧ PoolOk M' ∧ M'.length = M.length ∧ ∀ i, i ≠ 0 → M'[i]? = M[i]? := by
  obtain ⟨ns, p1, p2, p3, p4, hM, hp⟩ := h
  have hlen : 0 < M.length := (List.getElem?_eq_some_iff.mp hM).1
  have gs : ∀ x, (M.set 0 x)[0]? = some x := fun x => List.getElem?_set_self hlen
  have other : ∀ x, ∀ i, i ≠ 0 → (M.set 0 x)[i]? = M[i]? := fun x i hi => List.getElem?_set_ne (Ne.symm hi)
  have hmz : many ≠ 0 := by omega
  rw [run__law_draw rfl]
  show ∃ v M', O.toR (b__law_draw [some (.r 0), some (.d (.int many)), none, none, none] M) = _ ∧ _
  by_cases c1 : 0 < p2
  · have d1 : ∀ {M' : Ms}, gModI (.d (.int p2)) (.d (.int many)) M' = .ok (.d (.int (p2.fmod many))) M' := mod_ok hmz
    have d2 : ∀ {M' : Ms}, gDivI (.d (.int p2)) (.d (.int many)) M' = .ok (.d (.int (p2.fdiv many))) M' := div_ok hmz (by omega)
    refine ⟨p2.fmod many, M.set 0 (poolM ns p1 (p2.fdiv many) p3 p4), ?_, Int.fmod_nonneg_of_pos _ h0, Int.fmod_lt_of_pos _ h0, ⟨ns, p1, _, p3, p4, gs _, hp⟩, by simp, other _⟩
    unfold poolM at hM ⊢
    unfold b__law_draw
    rw [seq_rt (x := .d (.int (p2.fmod many))) (M' := M.set 0 (.lst [.d (.list (ns.map .int)), .d (.int p1), .d (.int (p2.fdiv many)), .d (.int p3), .d (.int p4)])) (by simp [hM, gs, d1, d2, c1, atI, ixN, pSeq, pNext, pIf, pSet, pDrop, pRet, pRetN, pAsg, pVar, pC, pK, pCons, pNil, pTup, pLst, pDat, pMut, pOp, pB, pChain, pAndT, pOrT, pNotT, pAndV, pOrV, pNotV, pTru, pIfE, pNeg, pCall, pCallL, pCallQ, pCallG, pRaise, R.bind, R.to, R.bindN, O.toR, PR.to, truth, allD, view, viewAll, itemsL, itemsT, lenW, tagD, tagW, isTy, tyOk, scalar, R.freeze, pFor, pItL, pItT, pItS, pRng1, pRng2, qName, qNil, qCons, qTup, pSub, pNo, pSo, pYes, pBrk, pCnt, startS, clearO, gInt, gAddI, gSubI, gLtI, gLeI, gGtI, gGeI, gEqD, gNeD, gIsN, gIsB, gStr, gIsi, gLen, gAbs, gInt1, gMin2, gMax2, gSum, gMaxI, gMinI, gList, gSorted, gIx, gInD, isNonD, viewI, catW, pCat, gMaxT, pFld, pSetF, pMeth, pMake, insOf, putW, noAtt, pTry, pListRev, pSlL, pSlT, pIsi2, allD_nil, eqv_int, shaped_int, allD_ints, allD_map, intsOf_map])]
    rfl
  · have e8 : ∀ {M' : Ms}, gModI (.d (.int p4)) (.d (.int 8)) M' = .ok (.d (.int (p4.fmod 8))) M' := mod_ok (by decide)
    unfold b__law_draw
    rw [seq_nx (s' := [some (.r 0), some (.d (.int many)), none, none, none]) (M' := M) (by
      unfold poolM at hM
      simp [hM, c1, atI, ixN, pSeq, pNext, pIf, pSet, pDrop, pRet, pRetN, pAsg, pVar, pC, pK, pCons, pNil, pTup, pLst, pDat, pMut, pOp, pB, pChain, pAndT, pOrT, pNotT, pAndV, pOrV, pNotV, pTru, pIfE, pNeg, pCall, pCallL, pCallQ, pCallG, pRaise, R.bind, R.to, R.bindN, O.toR, PR.to, truth, allD, view, viewAll, itemsL, itemsT, lenW, tagD, tagW, isTy, tyOk, scalar, R.freeze, pFor, pItL, pItT, pItS, pRng1, pRng2, qName, qNil, qCons, qTup, pSub, pNo, pSo, pYes, pBrk, pCnt, startS, clearO, gInt, gAddI, gSubI, gLtI, gLeI, gGtI, gGeI, gEqD, gNeD, gIsN, gIsB, gStr, gIsi, gLen, gAbs, gInt1, gMin2, gMax2, gSum, gMaxI, gMinI, gList, gSorted, gIx, gInD, isNonD, viewI, catW, pCat, gMaxT, pFld, pSetF, pMeth, pMake, insOf, putW, noAtt, pTry, pListRev, pSlL, pSlT, pIsi2, allD_nil, eqv_int, shaped_int, allD_ints, allD_map, intsOf_map])]
    by_cases c2 : p4.fmod 8 = 0 ∧ p1 < ns.length
    · obtain ⟨c2, c3⟩ := c2
      have hk : p1.toNat < ns.length := by omega
      have hpe : ((p1.toNat : Nat) : Int) = p1 := by omega
      have g1 : ∀ {M' : Ms}, gIx (.d (.list (ns.map .int))) (.d (.int p1)) M' = .ok (wi (ns.getD p1.toNat 0)) M' := by
        intro M'
        have z := gIx_ints (ns := ns) (M := M') hk
        rw [hpe] at z
        exact z
      have ea : (if ns.getD p1.toNat 0 < 0 then -(ns.getD p1.toNat 0) else ns.getD p1.toNat 0) = absI (ns.getD p1.toNat 0) := rfl
      generalize hcell : absI (ns.getD p1.toNat 0) = cell at *
      have d1 : ∀ {M' : Ms}, gModI (.d (.int cell)) (.d (.int many)) M' = .ok (.d (.int (cell.fmod many))) M' := mod_ok hmz
      have d2 : ∀ {M' : Ms}, gDivI (.d (.int cell)) (.d (.int many)) M' = .ok (.d (.int (cell.fdiv many))) M' := div_ok hmz (by omega)
      have d3 : ∀ {M' : Ms}, gPowI (.d (.int 10)) (.d (.int 18)) M' = .ok (.d (.int 1000000000000000000)) M' := by
        intro M'
        have z := pow10_ok (j := 18) (M := M') (by decide)
        simpa using z
      have hcond : ∀ {M' : Ms} , M'[0]? = some (poolM ns p1 p2 p3 p4) → pAndT (pB (pOp gEqD (pOp gModI (pCall gInt1 (pCons (pOp gIx (pVar 0) (pC (.int 4))) (pNil))) (pC (.int 8))) (pC (.int 0)))) (pB (pOp gLtI (pOp gIx (pVar 0) (pC (.int 1))) (pCall gLen (pCons (pOp gIx (pVar 0) (pC (.int 0))) (pNil))))) [some (.r 0), some (.d (.int many)), none, none, none] M' = .ok true M' := by
        intro M' h
        unfold poolM at h
        simp [h, e8, c2, c3, atI, ixN, pSeq, pNext, pIf, pSet, pDrop, pRet, pRetN, pAsg, pVar, pC, pK, pCons, pNil, pTup, pLst, pDat, pMut, pOp, pB, pChain, pAndT, pOrT, pNotT, pAndV, pOrV, pNotV, pTru, pIfE, pNeg, pCall, pCallL, pCallQ, pCallG, pRaise, R.bind, R.to, R.bindN, O.toR, PR.to, truth, allD, view, viewAll, itemsL, itemsT, lenW, tagD, tagW, isTy, tyOk, scalar, R.freeze, pFor, pItL, pItT, pItS, pRng1, pRng2, qName, qNil, qCons, qTup, pSub, pNo, pSo, pYes, pBrk, pCnt, startS, clearO, gInt, gAddI, gSubI, gLtI, gLeI, gGtI, gGeI, gEqD, gNeD, gIsN, gIsB, gStr, gIsi, gLen, gAbs, gInt1, gMin2, gMax2, gSum, gMaxI, gMinI, gList, gSorted, gIx, gInD, isNonD, viewI, catW, pCat, gMaxT, pFld, pSetF, pMeth, pMake, insOf, putW, noAtt, pTry, pListRev, pSlL, pSlT, pIsi2, allD_nil, eqv_int, shaped_int, allD_ints, allD_map, intsOf_map]
      have hcell1 : pSet 3 (pCall gAbs (pCons (pOp gIx (pOp gIx (pVar 0) (pC (.int 0))) (pOp gIx (pVar 0) (pC (.int 1)))) (pNil))) [some (.r 0), some (.d (.int many)), none, none, none] M = .nx [some (.r 0), some (.d (.int many)), none, some (.d (.int cell)), none] M := by
        rw [set_ok (x := .d (.int cell)) (M' := M)]
        · rfl
        · have i0 : pOp gIx (pVar 0) (pC (.int 0)) [some (.r 0), some (.d (.int many)), none, none, none] M = .ok (.d (.list (ns.map .int))) M := by
            unfold poolM at hM
            simp [hM, atI, ixN, pSeq, pNext, pIf, pSet, pDrop, pRet, pRetN, pAsg, pVar, pC, pK, pCons, pNil, pTup, pLst, pDat, pMut, pOp, pB, pChain, pAndT, pOrT, pNotT, pAndV, pOrV, pNotV, pTru, pIfE, pNeg, pCall, pCallL, pCallQ, pCallG, pRaise, R.bind, R.to, R.bindN, O.toR, PR.to, truth, allD, view, viewAll, itemsL, itemsT, lenW, tagD, tagW, isTy, tyOk, scalar, R.freeze, pFor, pItL, pItT, pItS, pRng1, pRng2, qName, qNil, qCons, qTup, pSub, pNo, pSo, pYes, pBrk, pCnt, startS, clearO, gInt, gAddI, gSubI, gLtI, gLeI, gGtI, gGeI, gEqD, gNeD, gIsN, gIsB, gStr, gIsi, gLen, gAbs, gInt1, gMin2, gMax2, gSum, gMaxI, gMinI, gList, gSorted, gIx, gInD, isNonD, viewI, catW, pCat, gMaxT, pFld, pSetF, pMeth, pMake, insOf, putW, noAtt, pTry, pListRev, pSlL, pSlT, pIsi2, allD_nil, eqv_int, shaped_int, allD_ints, allD_map, intsOf_map]
          have i1 : pOp gIx (pVar 0) (pC (.int 1)) [some (.r 0), some (.d (.int many)), none, none, none] M = .ok (.d (.int p1)) M := by
            unfold poolM at hM
            simp [hM, atI, ixN, pSeq, pNext, pIf, pSet, pDrop, pRet, pRetN, pAsg, pVar, pC, pK, pCons, pNil, pTup, pLst, pDat, pMut, pOp, pB, pChain, pAndT, pOrT, pNotT, pAndV, pOrV, pNotV, pTru, pIfE, pNeg, pCall, pCallL, pCallQ, pCallG, pRaise, R.bind, R.to, R.bindN, O.toR, PR.to, truth, allD, view, viewAll, itemsL, itemsT, lenW, tagD, tagW, isTy, tyOk, scalar, R.freeze, pFor, pItL, pItT, pItS, pRng1, pRng2, qName, qNil, qCons, qTup, pSub, pNo, pSo, pYes, pBrk, pCnt, startS, clearO, gInt, gAddI, gSubI, gLtI, gLeI, gGtI, gGeI, gEqD, gNeD, gIsN, gIsB, gStr, gIsi, gLen, gAbs, gInt1, gMin2, gMax2, gSum, gMaxI, gMinI, gList, gSorted, gIx, gInD, isNonD, viewI, catW, pCat, gMaxT, pFld, pSetF, pMeth, pMake, insOf, putW, noAtt, pTry, pListRev, pSlL, pSlT, pIsi2, allD_nil, eqv_int, shaped_int, allD_ints, allD_map, intsOf_map]
          have i2 : pOp gIx (pOp gIx (pVar 0) (pC (.int 0))) (pOp gIx (pVar 0) (pC (.int 1))) [some (.r 0), some (.d (.int many)), none, none, none] M = .ok (wi (ns.getD p1.toNat 0)) M := by
            show ((pOp gIx (pVar 0) (pC (.int 0))) _ M).bind _ = _
            rw [i0]
            show ((pOp gIx (pVar 0) (pC (.int 1))) _ M).bind _ = _
            rw [i1]
            exact g1
          unfold pCall pCons pNil
          rw [i2]
          simp only [R.bind, wi, gAbs, ea]
      have hsub1 : pSub (pOp gAddI (pOp gIx (pVar 0) (pC (.int 1))) (pC (.int 1))) (pVar 0) (pC (.int 1)) [some (.r 0), some (.d (.int many)), none, some (.d (.int cell)), none] M = .nx [some (.r 0), some (.d (.int many)), none, some (.d (.int cell)), none] (M.set 0 (poolM ns (p1 + 1) p2 p3 p4)) := by
        unfold poolM at hM ⊢
        simp [hM, atI, ixN, pSeq, pNext, pIf, pSet, pDrop, pRet, pRetN, pAsg, pVar, pC, pK, pCons, pNil, pTup, pLst, pDat, pMut, pOp, pB, pChain, pAndT, pOrT, pNotT, pAndV, pOrV, pNotV, pTru, pIfE, pNeg, pCall, pCallL, pCallQ, pCallG, pRaise, R.bind, R.to, R.bindN, O.toR, PR.to, truth, allD, view, viewAll, itemsL, itemsT, lenW, tagD, tagW, isTy, tyOk, scalar, R.freeze, pFor, pItL, pItT, pItS, pRng1, pRng2, qName, qNil, qCons, qTup, pSub, pNo, pSo, pYes, pBrk, pCnt, startS, clearO, gInt, gAddI, gSubI, gLtI, gLeI, gGtI, gGeI, gEqD, gNeD, gIsN, gIsB, gStr, gIsi, gLen, gAbs, gInt1, gMin2, gMax2, gSum, gMaxI, gMinI, gList, gSorted, gIx, gInD, isNonD, viewI, catW, pCat, gMaxT, pFld, pSetF, pMeth, pMake, insOf, putW, noAtt, pTry, pListRev, pSlL, pSlT, pIsi2, allD_nil, eqv_int, shaped_int, allD_ints, allD_map, intsOf_map]
      by_cases c4 : 1000000000000000000 ≤ cell
      · refine ⟨cell.fmod many, M.set 0 (poolM ns (p1 + 1) (cell.fdiv many) p3 p4), ?_, Int.fmod_nonneg_of_pos _ h0, Int.fmod_lt_of_pos _ h0, ⟨ns, p1 + 1, _, p3, p4, gs _, by omega⟩, by simp, other _⟩
        rw [seq_rt (x := .d (.int (cell.fmod many))) (M' := M.set 0 (poolM ns (p1 + 1) (cell.fdiv many) p3 p4)) (by
          rw [if_tt (hcond hM), seq_nx hcell1, seq_nx hsub1]
          unfold poolM
          simp [gs, d1, d2, d3, c4, atI, ixN, pSeq, pNext, pIf, pSet, pDrop, pRet, pRetN, pAsg, pVar, pC, pK, pCons, pNil, pTup, pLst, pDat, pMut, pOp, pB, pChain, pAndT, pOrT, pNotT, pAndV, pOrV, pNotV, pTru, pIfE, pNeg, pCall, pCallL, pCallQ, pCallG, pRaise, R.bind, R.to, R.bindN, O.toR, PR.to, truth, allD, view, viewAll, itemsL, itemsT, lenW, tagD, tagW, isTy, tyOk, scalar, R.freeze, pFor, pItL, pItT, pItS, pRng1, pRng2, qName, qNil, qCons, qTup, pSub, pNo, pSo, pYes, pBrk, pCnt, startS, clearO, gInt, gAddI, gSubI, gLtI, gLeI, gGtI, gGeI, gEqD, gNeD, gIsN, gIsB, gStr, gIsi, gLen, gAbs, gInt1, gMin2, gMax2, gSum, gMaxI, gMinI, gList, gSorted, gIx, gInD, isNonD, viewI, catW, pCat, gMaxT, pFld, pSetF, pMeth, pMake, insOf, putW, noAtt, pTry, pListRev, pSlL, pSlT, pIsi2, allD_nil, eqv_int, shaped_int, allD_ints, allD_map, intsOf_map])]
        rfl
      · obtain ⟨v, t1, t2, t3⟩ := draw_tail (M := M.set 0 (poolM ns (p1 + 1) p2 cell p4)) (a := none) (b := some (.d (.int cell))) (gs _) h0
        rw [List.set_set] at t1
        refine ⟨v, M.set 0 (poolM ns (p1 + 1) p2 cell (p4 + 1)), ?_, t2, t3, ⟨ns, p1 + 1, _, _, _, gs _, by omega⟩, by simp, other _⟩
        rw [seq_nx (s' := [some (.r 0), some (.d (.int many)), none, some (.d (.int cell)), none]) (M' := M.set 0 (poolM ns (p1 + 1) p2 cell p4)) (by
          rw [if_tt (hcond hM), seq_nx hcell1, seq_nx hsub1]
          unfold poolM
          simp [gs, d3, c4, atI, ixN, pSeq, pNext, pIf, pSet, pDrop, pRet, pRetN, pAsg, pVar, pC, pK, pCons, pNil, pTup, pLst, pDat, pMut, pOp, pB, pChain, pAndT, pOrT, pNotT, pAndV, pOrV, pNotV, pTru, pIfE, pNeg, pCall, pCallL, pCallQ, pCallG, pRaise, R.bind, R.to, R.bindN, O.toR, PR.to, truth, allD, view, viewAll, itemsL, itemsT, lenW, tagD, tagW, isTy, tyOk, scalar, R.freeze, pFor, pItL, pItT, pItS, pRng1, pRng2, qName, qNil, qCons, qTup, pSub, pNo, pSo, pYes, pBrk, pCnt, startS, clearO, gInt, gAddI, gSubI, gLtI, gLeI, gGtI, gGeI, gEqD, gNeD, gIsN, gIsB, gStr, gIsi, gLen, gAbs, gInt1, gMin2, gMax2, gSum, gMaxI, gMinI, gList, gSorted, gIx, gInD, isNonD, viewI, catW, pCat, gMaxT, pFld, pSetF, pMeth, pMake, insOf, putW, noAtt, pTry, pListRev, pSlL, pSlT, pIsi2, allD_nil, eqv_int, shaped_int, allD_ints, allD_map, intsOf_map])]
        rw [t1]
        rfl
    · obtain ⟨v, t1, t2, t3⟩ := draw_tail (M := M) (a := none) (b := none) hM h0
      refine ⟨v, M.set 0 (poolM ns p1 p2 p3 (p4 + 1)), ?_, t2, t3, ⟨ns, p1, _, _, _, gs _, hp⟩, by simp, other _⟩
      rw [seq_nx (s' := [some (.r 0), some (.d (.int many)), none, none, none]) (M' := M) (by
        rw [if_ff (M' := M) (by
          unfold poolM at hM
          by_cases c3 : p4.fmod 8 = 0
          · have c5 : ¬ p1 < ns.length := fun z => c2 ⟨c3, z⟩
            simp [hM, e8, c3, c5, atI, ixN, pSeq, pNext, pIf, pSet, pDrop, pRet, pRetN, pAsg, pVar, pC, pK, pCons, pNil, pTup, pLst, pDat, pMut, pOp, pB, pChain, pAndT, pOrT, pNotT, pAndV, pOrV, pNotV, pTru, pIfE, pNeg, pCall, pCallL, pCallQ, pCallG, pRaise, R.bind, R.to, R.bindN, O.toR, PR.to, truth, allD, view, viewAll, itemsL, itemsT, lenW, tagD, tagW, isTy, tyOk, scalar, R.freeze, pFor, pItL, pItT, pItS, pRng1, pRng2, qName, qNil, qCons, qTup, pSub, pNo, pSo, pYes, pBrk, pCnt, startS, clearO, gInt, gAddI, gSubI, gLtI, gLeI, gGtI, gGeI, gEqD, gNeD, gIsN, gIsB, gStr, gIsi, gLen, gAbs, gInt1, gMin2, gMax2, gSum, gMaxI, gMinI, gList, gSorted, gIx, gInD, isNonD, viewI, catW, pCat, gMaxT, pFld, pSetF, pMeth, pMake, insOf, putW, noAtt, pTry, pListRev, pSlL, pSlT, pIsi2, allD_nil, eqv_int, shaped_int, allD_ints, allD_map, intsOf_map]
          · have c3' : (p4.fmod 8 == 0) = false := by simpa using c3
            simp [hM, e8, c3', atI, ixN, pSeq, pNext, pIf, pSet, pDrop, pRet, pRetN, pAsg, pVar, pC, pK, pCons, pNil, pTup, pLst, pDat, pMut, pOp, pB, pChain, pAndT, pOrT, pNotT, pAndV, pOrV, pNotV, pTru, pIfE, pNeg, pCall, pCallL, pCallQ, pCallG, pRaise, R.bind, R.to, R.bindN, O.toR, PR.to, truth, allD, view, viewAll, itemsL, itemsT, lenW, tagD, tagW, isTy, tyOk, scalar, R.freeze, pFor, pItL, pItT, pItS, pRng1, pRng2, qName, qNil, qCons, qTup, pSub, pNo, pSo, pYes, pBrk, pCnt, startS, clearO, gInt, gAddI, gSubI, gLtI, gLeI, gGtI, gGeI, gEqD, gNeD, gIsN, gIsB, gStr, gIsi, gLen, gAbs, gInt1, gMin2, gMax2, gSum, gMaxI, gMinI, gList, gSorted, gIx, gInD, isNonD, viewI, catW, pCat, gMaxT, pFld, pSetF, pMeth, pMake, insOf, putW, noAtt, pTry, pListRev, pSlL, pSlT, pIsi2, allD_nil, eqv_int, shaped_int, allD_ints, allD_map, intsOf_map])]
        rfl)]
      rw [t1]
      rfl
abbrev f__law_draw : PF := f0__law_draw
abbrev N__law_pick : List Str := ["pool", "rows"]
def b__law_pick : PSx :=
  pRet (pOp gIx (pVar 1) (pCallG f__law_draw [] (pCons (pVar 0) (pCons (pCall gLen (pCons (pVar 1) (pNil))) (pNil)))))
def f0__law_pick : PF := runG N__law_pick.length (["pool", "rows"] : List Str).length (b__law_pick)
theorem run__law_pick {ws : List W} {M : Ms} (h : ws.length = 2) : f0__law_pick ws M = (b__law_pick (startS 2 ws) M).toR := runG_pos h
/-- the pool has changed, nothing else -/
def Only0 (M M' : Ms) : Prop := PoolOk M' ∧ M'.length = M.length ∧ ∀ i, i ≠ 0 → M'[i]? = M[i]?
theorem draw_ok' {M : Ms} (h : PoolOk M) {many : Int} (h0 : 0 < many) (h1 : many ≤ 1000000000) : ∃ v M', f0__law_draw [.r 0, .d (.int many)] M = .ok (.d (.int v)) M' ∧ 0 ≤ v ∧ v < many ∧ Only0 M M' := by
  obtain ⟨v, M', a, b, c, d, e, f⟩ := draw_ok h h0 h1
  exact ⟨v, M', a, b, c, d, e, f⟩
theorem Only0.trans {M M1 M2 : Ms} (a : Only0 M M1) (b : Only0 M1 M2) : Only0 M M2 := ⟨b.1, b.2.1.trans a.2.1, fun i hi => (b.2.2 i hi).trans (a.2.2 i hi)⟩
theorem drawE {s : Sl} {M : Ms} {j : Nat} {pe : PEx} {many : Int} (h : PoolOk M) (hs : s[j]? = some (some (.r 0))) (hp : pe s M = .ok (.d (.int many)) M) (h0 : 0 < many) (h1 : many ≤ 1000000000) : ∃ v M', pCallG f0__law_draw [] (pCons (pVar j) (pCons pe pNil)) s M = .ok (.d (.int v)) M' ∧ 0 ≤ v ∧ v < many ∧ Only0 M M' := by
  obtain ⟨v, M', a, b⟩ := draw_ok' h h0 h1
  refine ⟨v, M', ?_, b⟩
  unfold pCallG
  rw [cons_ok (var_ok hs) (cons_ok hp nil_ok)]
  simp only [R.bind, List.map_nil, List.append_nil]
  exact a
theorem pick_data {M : Ms} {ds : List PyData} (h : PoolOk M) (h1 : 1 ≤ ds.length) (h2 : ds.length ≤ 1000000) : ∃ d M', d ∈ ds ∧ f0__law_pick [.r 0, .d (.list ds)] M = .ok (.d d) M' ∧ Only0 M M' := by
  rw [run__law_pick rfl]
  unfold b__law_pick
  show ∃ d M', _ ∧ O.toR (pRet _ [some (.r 0), some (.d (.list ds))] M) = _ ∧ _
  obtain ⟨v, M', e, v0, v1, o⟩ := drawE (s := [some (.r 0), some (.d (.list ds))]) (j := 0) (pe := pCall gLen (pCons (pVar 1) pNil)) h rfl (len_list rfl) (by omega) (by omega)
  obtain ⟨k, rfl⟩ := Int.eq_ofNat_of_zero_le v0
  have hv : k < ds.length := by omega
  refine ⟨ds[k], M', List.getElem_mem hv, ?_, o⟩
  rw [ret_ok (x := .d ds[k]) (M' := M') (by
    rw [op_ok (var_ok rfl) e]
    unfold gIx itemsL
    simp only
    rw [atI_nat, List.getElem?_map, List.getElem?_eq_getElem hv]
    rfl)]
  rfl
theorem pick_mut {M : Ms} {j : Nat} {ws : List W} (h : PoolOk M) (hj : j ≠ 0) (hM : M[j]? = some (.lst ws)) (h1 : 1 ≤ ws.length) (h2 : ws.length ≤ 1000000) : ∃ w M', w ∈ ws ∧ f0__law_pick [.r 0, .r j] M = .ok w M' ∧ Only0 M M' := by
  rw [run__law_pick rfl]
  unfold b__law_pick
  show ∃ d M', _ ∧ O.toR (pRet _ [some (.r 0), some (.r j)] M) = _ ∧ _
  obtain ⟨v, M', e, v0, v1, o⟩ := drawE (s := [some (.r 0), some (.r j)]) (j := 0) (pe := pCall gLen (pCons (pVar 1) pNil)) (many := ws.length) h rfl (by
    rw [call1 (var_ok rfl)]
    simp [gLen, lenW, itemsL, hM]) (by omega) (by omega)
  obtain ⟨k, rfl⟩ := Int.eq_ofNat_of_zero_le v0
  have hv : k < ws.length := by omega
  have hM' : M'[j]? = some (.lst ws) := (o.2.2 j hj).trans hM
  refine ⟨ws[k], M', List.getElem_mem hv, ?_, o⟩
  rw [ret_ok (x := ws[k]) (M' := M') (by
    rw [op_ok (var_ok rfl) e]
    unfold gIx itemsL
    simp only [hM']
    rw [atI_nat, List.getElem?_eq_getElem hv])]
  rfl
theorem pickE {s : Sl} {M : Ms} {j : Nat} {pe : PEx} {ds : List PyData} (h : PoolOk M) (hs : s[j]? = some (some (.r 0))) (hp : pe s M = .ok (.d (.list ds)) M) (h1 : 1 ≤ ds.length) (h2 : ds.length ≤ 1000000) : ∃ d M', d ∈ ds ∧ pCallG f0__law_pick [] (pCons (pVar j) (pCons pe pNil)) s M = .ok (.d d) M' ∧ Only0 M M' := by
  obtain ⟨d, M', a, b, c⟩ := pick_data h h1 h2
  refine ⟨d, M', a, ?_, c⟩
  unfold pCallG
  rw [cons_ok (var_ok hs) (cons_ok hp nil_ok)]
  simp only [R.bind, List.map_nil, List.append_nil]
  exact b
abbrev f__law_pick : PF := f0__law_pick
abbrev N__law_so : List Str := ["name", "sign", "text"]
def b__law_so : PSx :=
  pSeq (pIf (pB (pOp gEqD (pVar 1) (pC (.str "=")))) (pRet (pOp gEqD (pVar 0) (pVar 2))) (pNext))
  (pSeq (pIf (pB (pOp (gInT false) (pVar 1) (pTup (pCons (pC (.str "<")) (pCons (pC (.str "<=")) (pNil)))))) (pRet (pOrV (pOp gLtS (pVar 0) (pVar 2)) (pAndV (pOp gEqD (pVar 1) (pC (.str "<="))) (pOp gEqD (pVar 0) (pVar 2))))) (pNext))
  (pRet (pOrV (pOp gGtS (pVar 0) (pVar 2)) (pAndV (pOp gEqD (pVar 1) (pC (.str ">="))) (pOp gEqD (pVar 0) (pVar 2))))))
def f0__law_so : PF := runG N__law_so.length (["name", "sign", "text"] : List Str).length (b__law_so)
theorem run__law_so {ws : List W} {M : Ms} (h : ws.length = 3) : f0__law_so ws M = (b__law_so (startS 3 ws) M).toR := runG_pos h
abbrev f__law_so : PF := f0__law_so
abbrev N__law_refused : List Str := ["choice", "one", "problem"]
def b__law_refused (C_Table : Addr) : PSx :=
  pSeq (pTryIs "InvalidPaper" catK (pIf (pB (pOp gEqD (pVar 0) (pC (.int 0)))) (pDrop (pCallQ q_read_book_line [] (pCons (pVar 1) (pNil)))) (pIf (pB (pOp gEqD (pVar 0) (pC (.int 1)))) (pDrop (pCallQ q_int_of [] (pCons (pVar 1) (pNil)))) (pDrop (pCallG (f_tables_by_lines C_Table) [] (pCons (pDat (pLst (pCons (pVar 1) (pNil)))) (pNil)))))))
  (pRet (pC (.bool false)))
def f0__law_refused (C_Table : Addr) : PF := runG N__law_refused.length (["choice", "one"] : List Str).length (b__law_refused C_Table)
theorem run__law_refused (C_Table : Addr) {ws : List W} {M : Ms} (h : ws.length = 2) : f0__law_refused C_Table ws M = (b__law_refused C_Table (startS 3 ws) M).toR := runG_pos h
/-- a line whose tables are refused -/
def tabBad (z : Str) : Prop := okLine z = true ∧ (lineO z = none ∨ ∃ a u f b w R, lineO z = some (rowD a u f b w R) ∧ (a.length ≤ 1000 ∧ u.length ≤ 1000 ∧ w.length ≤ 1000 ∧ R.length ≤ 100 ∧ ∀ r ∈ R, r.1.length ≤ 1000) ∧ (accB a u f b w && R.all (rightB a)) = false)
def refB (c : Int) (z : Str) : Prop := (c = 0 ∧ okLine z = true ∧ lineO z = none) ∨ (c = 1 ∧ (z.length ≤ 1000000 ∧ PyData.strOk z = true) ∧ intO z = none) ∨ (c = 2 ∧ tabBad z)
open Classical in
def q__law_refused : List PyData → PR := fun ds => match ds with
  | [.int c, .str z] => if refB c z then .ok (.bool true) else .stuck
  | _ => .stuck
theorem tryIs_bad {b q : PSx} {s s' : Sl} {M M' : Ms} (h : b s M = .exc bad77 s' M') : pSeq (pTryIs "InvalidPaper" catK b) q s M = .rt (.d (.bool true)) M' := by
  refine seq_rt ?_
  unfold pTryIs
  rw [h]
  have : (bad77.c = "InvalidPaper" ∧ catK bad77.c = some true) := ⟨rfl, by decide⟩
  show (if bad77.c = "InvalidPaper" ∧ catK bad77.c = some true then _ else _) = _
  rw [if_pos this]
theorem drop_exc' {p : PEx} {s : Sl} {M M' : Ms} {e : Exn} (h : p s M = .exc e M') : pDrop p s M = .exc e s M' := drop_exc h
theorem pure__law_refused (C : Addr) : ∀ ds, q__law_refused ds ≠ .stuck → (f0__law_refused C).pure ds = q__law_refused ds := by
  intro ds h
  match ds, h with
  | [.int c, .str z], h =>
    by_cases hc : refB c z
    · have q : q__law_refused [.int c, .str z] = .ok (.bool true) := by simp only [q__law_refused]; rw [if_pos hc]
      rw [q]
      unfold PF.pure
      show (O.toR (b__law_refused C [some (.d (.int c)), some (.d (.str z)), none] [])).freeze = _
      unfold b__law_refused
      have t0 := eqI_ok (s := [some (W.d (.int c)), some (.d (.str z)), none]) (M := []) (a := pVar 0) (b := pC (.int 0)) (i := c) (j := 0) (M' := []) (M'' := []) rfl rfl
      have t1 := eqI_ok (s := [some (W.d (.int c)), some (.d (.str z)), none]) (M := []) (a := pVar 0) (b := pC (.int 1)) (i := c) (j := 1) (M' := []) (M'' := []) rfl rfl
      rcases hc with ⟨rfl, h1, h2⟩ | ⟨rfl, h1, h2⟩ | ⟨rfl, h1, h2⟩
      · rw [tryIs_bad (M' := []) (s' := [some (.d (.int 0)), some (.d (.str z)), none]) (by
          rw [if_tt (M' := []) t0]
          refine drop_exc ?_
          rw [call_data (ds := [.str z]) (cons_ok (M1 := []) rfl nil_ok)]
          have : q_read_book_line [.str z] = .exc bad77 := by simp only [q_read_book_line]; rw [if_pos h1, h2]
          rw [this]
          rfl)]
        rfl
      · rw [tryIs_bad (M' := []) (s' := [some (.d (.int 1)), some (.d (.str z)), none]) (by
          rw [if_ff (M' := []) t0, if_tt (M' := []) t1]
          refine drop_exc ?_
          rw [call_data (ds := [.str z]) (cons_ok (M1 := []) rfl nil_ok)]
          have : q_int_of [.str z] = .exc bad77 := by simp only [q_int_of]; rw [if_pos h1, h2]
          rw [this]
          rfl)]
        rfl
      · have ex : ∃ M', f0_tables_by_lines C [.d (.list [.str z])] [] = .exc bad77 M' := by
          rcases h2 with h2 | ⟨a, u, f, b, w, R, h2, ⟨l1, l2, l3, l4, l5⟩, h3⟩
          · exact ⟨_, tabs_bad h1 h2⟩
          · exact (tabs_ok h1 h2 l1 l2 l3 l4 l5).2 h3
        obtain ⟨M', e⟩ := ex
        rw [tryIs_bad (M' := M') (s' := [some (.d (.int 2)), some (.d (.str z)), none]) (by
          rw [if_ff (M' := []) t0, if_ff (M' := []) t1]
          refine drop_exc ?_
          rw [callG_ok (ws := [.d (.list [.str z])]) (M' := []) (cons_ok (M1 := []) (dat_ok (lst_ok (cons_ok (M1 := []) rfl nil_ok) (by show 1 ≤ 1000; decide)) rfl) nil_ok)]
          exact e)]
        rfl
    · exact absurd (by simp only [q__law_refused]; rw [if_neg hc]) h
theorem Only0.refl {M : Ms} (h : PoolOk M) : Only0 M M := ⟨h, rfl, fun _ _ => rfl⟩
theorem same_true {p q : PEx} {s : Sl} {M M1 M2 : Ms} {d : PyData} (h1 : p s M = .ok (.d d) M1) (h2 : q s M1 = .ok (.d d) M2) (hd : sameOk 5 d = true) : pNotT (pTru (pCallQ q__law_same [] (pCons p (pCons q pNil)))) s M = .ok false M2 := by
  have z : q__law_same [d, d] = .ok (.bool true) := qs_ok hd
  refine not_ok (k := true) (tru_ok (x := .d (.bool true)) ?_ rfl)
  rw [call_data (ds := [d, d]) (cons_ok h1 (cons_ok h2 nil_ok)), z]
  rfl
theorem drawJ {s : Sl} {M : Ms} {j : Nat} {m : Int} (h : PoolOk M) (hs : s[j]? = some (some (.r 0))) (h0 : 0 < m) (h1 : m ≤ 1000000000) : ∃ v M', pCallG f__law_draw [] (pCons (pVar j) (pCons (pC (.int m)) pNil)) s M = .ok (.d (.int v)) M' ∧ 0 ≤ v ∧ v < m ∧ Only0 M M' := drawE h hs rfl h0 h1
theorem pickJ {s : Sl} {M M1 : Ms} {j : Nat} {pe : PEx} {ds : List PyData} (h : PoolOk M1) (hs : s[j]? = some (some (.r 0))) (hp : pe s M = .ok (.d (.list ds)) M1) (h1 : 1 ≤ ds.length) (h2 : ds.length ≤ 1000000) : ∃ d M', d ∈ ds ∧ pCallG f__law_pick [] (pCons (pVar j) (pCons pe pNil)) s M = .ok (.d d) M' ∧ Only0 M1 M' := by
  obtain ⟨d, M', a, b, c⟩ := pick_data h h1 h2
  refine ⟨d, M', a, ?_, c⟩
  rw [callG_ok (cons_ok (var_ok hs) (cons_ok hp nil_ok))]
  exact b
theorem sameAll_of {n : Nat} : ∀ {ds : List PyData}, (∀ d ∈ ds, sameOk n d = true) → sameAll n ds = true
  | [], _ => by simp [sameAll]
  | d :: ds, h => by
    rw [sameAll, h d List.mem_cons_self, sameAll_of fun x hx => h x (List.mem_cons_of_mem _ hx)]
    rfl
theorem pool_set {M : Ms} {j : Nat} {x : MO} (h : PoolOk M) (hj : j ≠ 0) : PoolOk (M.set j x) := by
  obtain ⟨ns, p1, p2, p3, p4, w1, w2⟩ := h
  exact ⟨ns, p1, p2, p3, p4, by rw [List.getElem?_set_ne hj]; exact w1, w2⟩
theorem pool_app {M : Ms} {x : Ms} (h : PoolOk M) : PoolOk (M ++ x) := by
  obtain ⟨ns, p1, p2, p3, p4, w1, w2⟩ := h
  exact ⟨ns, p1, p2, p3, p4, by rw [List.getElem?_append_left (List.getElem?_eq_some_iff.mp w1).1]; exact w1, w2⟩
abbrev N__law_run : List Str := ["script", "pool", "words", "every", "k", "names", "rows", "asked", "word", "before", "behind", "low", "rights", "row", "line", "told", "tables", "number", "wrong", "j", "one", "name", "right", "desk"]
def lc0__law_run (C_Table : Addr) : PAx :=
  pLc (pRng1 (pC (.int 61))) (qName 4) (pYes) (pC (.str "x")) [4]
def lp1__law_run (C_Table : Addr) : PSx :=
  pIf (pOrT (pNotT (pTru (pCallQN q__law_refused (pCons (pC (.int 0)) (pCons (pVar 18) (pNil)))))) (pNotT (pTru (pCallQN q__law_refused (pCons (pC (.int 2)) (pCons (pVar 18) (pNil))))))) (pRet (pC (.bool false))) (pNext)
def lp2__law_run (C_Table : Addr) : PSx :=
  pIf (pNotT (pTru (pCallQN q__law_refused (pCons (pC (.int 1)) (pCons (pVar 18) (pNil)))))) (pRet (pC (.bool false))) (pNext)
def lc3__law_run (C_Table : Addr) : PAx :=
  pLc (pItL (pVar 12)) (qTup 2 (qCons (qName 23) (qCons (qName 17) (qNil)))) (pYes) (pTup (pCons (pOp gIx (pVar 13) (pC (.int 0))) (pCons (pVar 23) (pCons (pVar 17) (pNil))))) [23, 17]
def lc4__law_run (C_Table : Addr) : PAx :=
  pLc (pItL (pVar 12)) (qTup 2 (qCons (qName 23) (qCons (qName 17) (qNil)))) (pYes) (pOp gAddS (pOp gAddS (pVar 23) (pC (.str ":"))) (pCall gStrI (pCons (pVar 17) (pNil)))) [23, 17]
def lc5__law_run (C_Table : Addr) : PAx :=
  pLc (pItL (pDat (pSlL (pDat (pLst (pCons (pTup (pCons (pC (.str "x")) (pCons (pOp gSubI (pCallG f__law_draw [] (pCons (pVar 1) (pCons (pC (.int 50)) (pNil)))) (pC (.int 9))) (pNil)))) (pCons (pTup (pCons (pC (.str "yy")) (pCons (pC (.int 7)) (pNil)))) (pNil))))) (pNo) (pSo (pCallG f__law_draw [] (pCons (pVar 1) (pCons (pC (.int 3)) (pNil)))))))) (qName 22) (pB (pOp gNeD (pOp gIx (pVar 22) (pC (.int 1))) (pC (.int 0)))) (pVar 22) [22]
def lc6__law_run (C_Table : Addr) : PAx :=
  pLc (pItL (pVar 6)) (qName 13) (pAndT (pB (pOp (gInT false) (pOp gIx (pVar 13) (pC (.int 0))) (pTup (pCons (pC (.str ">")) (pCons (pC (.str ">=")) (pCons (pC (.str "=")) (pNil))))))) (pOrT (pB (pOp gLtS (pVar 21) (pOp gIx (pVar 13) (pC (.int 1))))) (pAndT (pB (pOp gEqD (pVar 21) (pOp gIx (pVar 13) (pC (.int 1))))) (pB (pOp gEqD (pOp gIx (pVar 13) (pC (.int 0))) (pC (.str ">"))))))) (pVar 13) [13]
def lc7__law_run (C_Table : Addr) : PAx :=
  pLc (pItL (pVar 5)) (qName 21) (pB (pOp gGtI (pCall gLen (pCons (pDat ((lc6__law_run C_Table))) (pNil))) (pC (.int 0)))) (pVar 21) [21]
def lc8__law_run (C_Table : Addr) : PAx :=
  pLc (pItL (pVar 7)) (qName 20) (pB (pOp gGeS (pVar 20) (pVar 8))) (pVar 20) [20]
def lc9__law_run (C_Table : Addr) : PAx :=
  pLc (pItL (pVar 7)) (qName 20) (pB (pOp gLeS (pVar 20) (pVar 8))) (pVar 20) [20]
def lc10__law_run (C_Table : Addr) : PAx :=
  pLc (pItL (pVar 6)) (qName 13) (pAndT (pB (pOp (gInT false) (pOp gIx (pVar 13) (pC (.int 0))) (pTup (pCons (pC (.str "<")) (pCons (pC (.str "<=")) (pCons (pC (.str "=")) (pNil))))))) (pOrT (pB (pOp gGtS (pVar 8) (pOp gIx (pVar 13) (pC (.int 1))))) (pAndT (pB (pOp gEqD (pVar 8) (pOp gIx (pVar 13) (pC (.int 1))))) (pB (pOp gEqD (pOp gIx (pVar 13) (pC (.int 0))) (pC (.str "<"))))))) (pVar 13) [13]
def lc11__law_run (C_Table : Addr) : PAx :=
  pLc (pItL (pVar 6)) (qName 13) (pAndT (pB (pOp (gInT false) (pOp gIx (pVar 13) (pC (.int 0))) (pTup (pCons (pC (.str ">")) (pCons (pC (.str ">=")) (pCons (pC (.str "=")) (pNil))))))) (pOrT (pB (pOp gLtS (pVar 8) (pOp gIx (pVar 13) (pC (.int 1))))) (pAndT (pB (pOp gEqD (pVar 8) (pOp gIx (pVar 13) (pC (.int 1))))) (pB (pOp gEqD (pOp gIx (pVar 13) (pC (.int 0))) (pC (.str ">"))))))) (pVar 13) [13]
def lp12__law_run (C_Table : Addr) : PSx :=
  pSeq (pIf (pNotT (pTru (pCallQ q__law_same [] (pCons (pCallG f_is_asked [] (pCons (pVar 8) (pCons (pVar 6) (pNil)))) (pCons (pOp (gInD false) (pVar 8) (pVar 7)) (pNil)))))) (pRet (pC (.bool false))) (pNext))
  (pSeq (pSet 9 (pDat ((lc11__law_run C_Table))))
  (pSeq (pSet 10 (pDat ((lc10__law_run C_Table))))
  (pSeq (pIf (pOrT (pNotT (pTru (pCallQ q__law_same [] (pCons (pCallG f_is_below [] (pCons (pVar 8) (pCons (pVar 6) (pNil)))) (pCons (pOp gGtI (pCall gLen (pCons (pVar 9) (pNil))) (pC (.int 0))) (pNil)))))) (pNotT (pTru (pCallQ q__law_same [] (pCons (pCallG f_is_above [] (pCons (pVar 8) (pCons (pVar 6) (pNil)))) (pCons (pOp gGtI (pCall gLen (pCons (pVar 10) (pNil))) (pC (.int 0))) (pNil))))))) (pRet (pC (.bool false))) (pNext))
  (pIf (pOrT (pAndT (pB (pOp gGtI (pCall gLen (pCons (pVar 9) (pNil))) (pC (.int 0)))) (pB (pOp gGtI (pCall gLen (pCons (pDat ((lc9__law_run C_Table))) (pNil))) (pC (.int 0))))) (pAndT (pB (pOp gGtI (pCall gLen (pCons (pVar 10) (pNil))) (pC (.int 0)))) (pB (pOp gGtI (pCall gLen (pCons (pDat ((lc8__law_run C_Table))) (pNil))) (pC (.int 0)))))) (pRet (pC (.bool false))) (pNext)))))
def lc13__law_run (C_Table : Addr) : PAx :=
  pLc (pItL (pVar 6)) (qName 13) (pNotT (pTru (pCallG f__law_so [] (pCons (pVar 8) (pCons (pOp gIx (pVar 13) (pC (.int 0))) (pCons (pOp gIx (pVar 13) (pC (.int 1))) (pNil))))))) (pVar 13) [13]
def lc14__law_run (C_Table : Addr) : PAx :=
  pLc (pItL (pVar 3)) (qName 8) (pB (pOp gEqD (pCall gLen (pCons (pDat ((lc13__law_run C_Table))) (pNil))) (pC (.int 0)))) (pVar 8) [8]
def lc15__law_run (C_Table : Addr) : PAx :=
  pLc (pRng1 (pOp gAddI (pC (.int 1)) (pCallG f__law_draw [] (pCons (pVar 1) (pCons (pC (.int 3)) (pNil)))))) (qName 19) (pYes) (pTup (pCons (pCallG f__law_pick [] (pCons (pVar 1) (pCons (pDat (pLst (pCons (pC (.str "=")) (pCons (pC (.str "<")) (pCons (pC (.str "<=")) (pCons (pC (.str ">")) (pCons (pC (.str ">=")) (pNil)))))))) (pNil)))) (pCons (pCallG f__law_pick [] (pCons (pVar 1) (pCons (pDat (pCat (pVar 2) (pDat (pLst (pCons (pC (.str "b")) (pCons (pC (.str "zz")) (pCons (pC (.str "")) (pNil)))))))) (pNil)))) (pNil)))) [19]
def lc16__law_run (C_Table : Addr) : PAx :=
  pLc (pItL (pVar 2)) (qName 8) (pB (pOp gEqD (pCallG f__law_draw [] (pCons (pVar 1) (pCons (pC (.int 2)) (pNil)))) (pC (.int 0)))) (pVar 8) [8]
def lp17__law_run (C_Table : Addr) : PSx :=
  pSeq (pSet 5 (pDat ((lc16__law_run C_Table))))
  (pSeq (pSet 6 (pDat ((lc15__law_run C_Table))))
  (pSeq (pSet 7 (pDat ((lc14__law_run C_Table))))
  (pSeq (pFor (pItL (pVar 3)) (qName 8) ((lp12__law_run C_Table)))
  (pSeq (pSet 11 (pCall gLen (pCons (pDat ((lc7__law_run C_Table))) (pNil))))
  (pIf (pNotT (pTru (pCallQ q__law_same [] (pCons (pCallG f_span [] (pCons (pVar 5) (pCons (pVar 6) (pNil)))) (pCons (pTup (pCons (pVar 11) (pCons (pVar 11) (pNil)))) (pNil)))))) (pRet (pC (.bool false))) (pNext))))))
def lc18__law_run (C_Table : Addr) : PAx :=
  pLc (pItL (pVar 2)) (qName 8) (pYes) (pOp gAddS (pVar 8) (pC (.str "a"))) [8]
def b__law_run (C_Table : Addr) : PSx :=
  pSeq (pSet 2 (pDat (pLst (pCons (pC (.str "a.a")) (pCons (pC (.str "a.b")) (pCons (pC (.str "a.c")) (pCons (pC (.str "b.a")) (pCons (pC (.str "b.b")) (pCons (pC (.str "c.a")) (pCons (pC (.str "c.c")) (pCons (pC (.str "d.d")) (pNil))))))))))))
  (pSeq (pSet 3 (pDat (pCallL gSorted (pCons (pDat (pCat (pDat (pCat (pVar 2) (pDat ((lc18__law_run C_Table))))) (pDat (pLst (pCons (pC (.str "")) (pCons (pC (.str "a")) (pCons (pC (.str "zz")) (pNil)))))))) (pNil)))))
  (pSeq (pFor (pRng1 (pC (.int 5))) (qName 4) ((lp17__law_run C_Table)))
  (pSeq (pSet 12 (pDat ((lc5__law_run C_Table))))
  (pSeq (pSet 13 (pTup (pCons (pCallG f__law_pick [] (pCons (pVar 1) (pCons (pVar 2) (pNil)))) (pCons (pCallG f__law_pick [] (pCons (pVar 1) (pCons (pDat (pLst (pCons (pC (.str "u")) (pCons (pC (.str "kg")) (pNil))))) (pNil)))) (pCons (pOp gSubI (pC (.int 0)) (pCallG f__law_draw [] (pCons (pVar 1) (pCons (pC (.int 90)) (pNil))))) (pCons (pOp gSubI (pCallG f__law_draw [] (pCons (pVar 1) (pCons (pC (.int 200)) (pNil)))) (pC (.int 90))) (pCons (pCallG f__law_pick [] (pCons (pVar 1) (pCons (pDat (pLst (pCons (pC (.str "open")) (pCons (pC (.str "shut")) (pNil))))) (pNil)))) (pCons (pCall gTuple (pCons (pVar 12) (pNil))) (pNil)))))))))
  (pSeq (pSet 14 (pCallG f_book_line [] (pCons (pVar 13) (pNil))))
  (pSeq (pSet 15 (pIfE (pB (pOp gGtI (pCall gLen (pCons (pVar 12) (pNil))) (pC (.int 0)))) (pJoin (pC (.str ",")) (pDat ((lc4__law_run C_Table)))) (pC (.str "-"))))
  (pSeq (pIf (pOrT (pB (pOp gNeD (pVar 14) (pJoin (pC (.str " ")) (pDat (pLst (pCons (pOp gIx (pVar 13) (pC (.int 0))) (pCons (pOp gIx (pVar 13) (pC (.int 1))) (pCons (pCall gStrI (pCons (pOp gIx (pVar 13) (pC (.int 2))) (pNil))) (pCons (pCall gStrI (pCons (pOp gIx (pVar 13) (pC (.int 3))) (pNil))) (pCons (pOp gIx (pVar 13) (pC (.int 4))) (pCons (pVar 15) (pNil)))))))))))) (pNotT (pTru (pCallQ q__law_same [] (pCons (pCallQ q_read_book_line [] (pCons (pVar 14) (pNil))) (pCons (pVar 13) (pNil))))))) (pRet (pC (.bool false))) (pNext))
  (pSeq (pSet 16 (pCallN (f_tables_by_lines C_Table) (pCons (pDat (pLst (pCons (pVar 14) (pNil)))) (pNil))))
  (pSeq (pIf (pNotT (pTru (pCallQ q__law_same [] (pCons (pMeth C_Table "rows" ((f_Table_rows C_Table)) [] (pGetD (pVar 16) (pC (.str "accounts"))) pNil) (pCons (pDat (pLst (pCons (pTup (pCons (pOp gIx (pVar 13) (pC (.int 0))) (pCons (pOp gIx (pDat (pSplit (pOp gIx (pVar 13) (pC (.int 0))) (pC (.str ".")))) (pC (.int 0))) (pCons (pOp gIx (pVar 13) (pC (.int 1))) (pCons (pOp gIx (pVar 13) (pC (.int 2))) (pCons (pOp gIx (pVar 13) (pC (.int 3))) (pCons (pOp gIx (pVar 13) (pC (.int 4))) (pNil)))))))) (pNil)))) (pNil)))))) (pRet (pC (.bool false))) (pNext))
  (pSeq (pIf (pNotT (pTru (pCallQ q__law_same [] (pCons (pMeth C_Table "rows" ((f_Table_rows C_Table)) [] (pGetD (pVar 16) (pC (.str "rights"))) pNil) (pCons (pDat ((lc3__law_run C_Table))) (pNil)))))) (pRet (pC (.bool false))) (pNext))
  (pSeq (pIf (pOrT (pB (pOp gNeD (pMeth C_Table "count" ((f_Table_count C_Table)) [] (pGetD (pVar 16) (pC (.str "posts"))) pNil) (pC (.int 0)))) (pOrT (pB (pOp gNeD (pMeth C_Table "count" ((f_Table_count C_Table)) [] (pGetD (pVar 16) (pC (.str "entries"))) pNil) (pC (.int 0)))) (pB (pOp gNeD (pMeth C_Table "count" ((f_Table_count C_Table)) [] (pGetD (pCallN (f_tables_by_lines C_Table) (pCons (pDat (pLst (pNil))) (pNil))) (pC (.str "accounts"))) pNil) (pC (.int 0)))))) (pRet (pC (.bool false))) (pNext))
  (pSeq (pSet 17 (pCallG f__law_pick [] (pCons (pVar 1) (pCons (pDat (pLst (pCons (pC (.int 0)) (pCons (pC (.int 5)) (pCons (pNeg (pC (.int 5))) (pCons (pOp gPowI (pC (.int 10)) (pC (.int 17))) (pCons (pOp gSubI (pC (.int 0)) (pOp gPowI (pC (.int 10)) (pC (.int 17)))) (pCons (pOp gSubI (pCallG f__law_draw [] (pCons (pVar 1) (pCons (pC (.int 1000)) (pNil)))) (pC (.int 500))) (pNil))))))))) (pNil)))))
  (pSeq (pIf (pNotT (pTru (pCallQ q__law_same [] (pCons (pCallQ q_int_of [] (pCons (pCall gStrI (pCons (pVar 17) (pNil))) (pNil))) (pCons (pVar 17) (pNil)))))) (pRet (pC (.bool false))) (pNext))
  (pSeq (pFor (pItL (pDat (pLst (pCons (pC (.str "")) (pCons (pC (.str "-")) (pCons (pC (.str "-0")) (pCons (pC (.str "05")) (pCons (pC (.str "+5")) (pCons (pC (.str "5 ")) (pCons (pC (.str "1.0")) (pCons (pC (.str "a")) (pCons (pC (.str "1234567890123456789")) (pCons (pC (.str "--5")) (pNil)))))))))))))) (qName 18) ((lp2__law_run C_Table)))
  (pSeq (pFor (pItL (pDat (pLst (pCons (pC (.str "")) (pCons (pC (.str "a.b u 0 0 open")) (pCons (pC (.str "a.b u 0 0 open - x")) (pCons (pC (.str "a.b u 0 0 ajar -")) (pCons (pC (.str "a.b u x 0 open -")) (pCons (pC (.str "a.b u 0 05 open -")) (pCons (pC (.str "a.b u 0 0 open x")) (pCons (pC (.str "a.b u 0 0 open x:1:2")) (pCons (pC (.str "a.b u 0 0 open x:")) (pNil))))))))))))) (qName 18) ((lp1__law_run C_Table)))
  (pRet (pAndV (pCallQN q__law_refused (pCons (pC (.int 2)) (pCons (pOp gAddS (pOp gAddS (pC (.str "a.b u 0 0 open ")) (pJoin (pC (.str "")) (pDat ((lc0__law_run C_Table))))) (pC (.str ":1"))) (pNil)))) (pCallQN q__law_refused (pCons (pC (.int 2)) (pCons (pC (.str "a'b u 0 0 open -")) (pNil)))))))))))))))))))))
def f0__law_run (C_Table : Addr) : PF := runG N__law_run.length (["script"] : List Str).length (b__law_run C_Table)
theorem run__law_run (C_Table : Addr) {ws : List W} {M : Ms} (h : ws.length = 1) : f0__law_run C_Table ws M = (b__law_run C_Table (startS 24 ws) M).toR := runG_pos h
end
end Z

set_option linter.all false
set_option autoImplicit false
set_option maxRecDepth 100000
set_option maxHeartbeats 4000000
/-! L77a: what a condition says of a name; the functions that ask it. -/
namespace Z
open PySem PySem.Spec PyProof.Rows L2 L2H
theorem lcL_gen {α : Type} {g : PGx} {tt : PTx} {te : PEx} {s : Sl} {M : Ms} (e : α → W) (t : α → Bool) (f : α → PyData) : ∀ (xs : List α) (acc : List W), (∀ x ∈ xs, ∃ s', g (e x) s M = some s' ∧ tt s' M = .ok (t x) M ∧ (t x = true → te s' M = .ok (.d (f x)) M)) → lcL g tt te s (xs.map e) acc M = .ok (acc ++ ((xs.filter t).map fun x => W.d (f x))) M
  | [], acc, _ => by simp [lcL]
  | x :: xs, acc, h => by
    obtain ⟨s', h1, h2, h3⟩ := h x List.mem_cons_self
    have ih := fun acc => lcL_gen (g := g) (tt := tt) (te := te) (s := s) (M := M) e t f xs acc fun y hy => h y (List.mem_cons_of_mem _ hy)
    rw [List.map_cons, lcL, h1]
    simp only [h2, R.bindN]
    cases q : t x with
    | true =>
      simp only [if_true, h3 q]
      rw [ih, List.filter_cons_of_pos q]
      simp
    | false =>
      simp only [Bool.false_eq_true, if_false]
      rw [ih, List.filter_cons_of_neg (by simp [q])]
theorem lc_gen {α : Type} {it : PAx} {g : PGx} {tt : PTx} {te : PEx} {vs : List Nat} {s : Sl} {M : Ms} (e : α → W) (t : α → Bool) (f : α → PyData) (xs : List α) (hit : it s M = .ok (xs.map e) M) (hl : xs.length ≤ 1000) (h : ∀ x ∈ xs, ∃ s', g (e x) (wipeS s vs) M = some s' ∧ tt s' M = .ok (t x) M ∧ (t x = true → te s' M = .ok (.d (f x)) M)) :
    pDat (pLc it g tt te vs) s M = .ok (.d (.list ((xs.filter t).map f))) M := by
  refine dat_ok (ws := (xs.filter t).map fun x => W.d (f x)) ?_ (by rw [show ((xs.filter t).map fun x => W.d (f x)) = ((xs.filter t).map f).map W.d by rw [List.map_map]; rfl]; exact allD_map _)
  unfold pLc
  rw [hit]
  simp only [R.bind]
  rw [if_pos (by rw [List.length_map]; exact Nat.le_trans hl (by decide)), lcL_gen e t f xs [] h, List.nil_append]
theorem filter_emp {α : Type} (t : α → Bool) (f : α → PyData) : ∀ xs : List α, ((xs.filter t).map f).isEmpty = xs.all fun x => !t x
  | [] => rfl
  | x :: xs => by
    have ih := filter_emp t f xs
    rw [List.all_cons]
    cases q : t x with
    | true => rw [List.filter_cons_of_pos q]; rfl
    | false => rw [List.filter_cons_of_neg (by simp [q]), ih]; rfl
theorem filter_len {α : Type} (t : α → Bool) (f : α → PyData) (xs : List α) : decide ((0 : Int) < ((xs.filter t).map f).length) = xs.any t := by
  rw [List.length_map]
  rw [Bool.eq_iff_iff, decide_eq_true_eq, List.any_eq_true]
  constructor
  · intro h
    obtain ⟨x, hx⟩ := List.exists_mem_of_length_pos (l := xs.filter t) (by omega)
    exact ⟨x, (List.mem_filter.mp hx).1, (List.mem_filter.mp hx).2⟩
  · rintro ⟨x, hx, ht⟩
    have := List.length_pos_of_mem (List.mem_filter.mpr ⟨hx, ht⟩)
    omega
theorem filter_zero {α : Type} (t : α → Bool) (f : α → PyData) (xs : List α) : decide ((((xs.filter t).map f).length : Int) = 0) = xs.all fun x => !t x := by
  rw [Bool.eq_iff_iff, decide_eq_true_eq, List.all_eq_true]
  constructor
  · intro h x hx
    cases q : t x with
    | false => rfl
    | true =>
      have := List.length_pos_of_mem (List.mem_filter.mpr ⟨hx, q⟩)
      rw [List.length_map] at h
      omega
  · intro h
    rw [List.filter_eq_nil_iff.mpr (fun x hx => by simpa using h x hx)]
    rfl
/-! ### conditions -/
def signsL : List Str := ["=", "<", "<=", ">", ">="]
def wk (sg a t : Str) : Bool := if sg = "=" then decide (a = t) else if sg ∈ (["<", "<="] : List Str) then ltB a t || (decide (sg = "<=") && decide (a = t)) else ltB t a || (decide (sg = ">=") && decide (a = t))
def askB (rows : List (Str × Str)) (a : Str) : Bool := rows.all fun r => wk r.1 a r.2
def belB (rows : List (Str × Str)) (a : Str) : Bool := rows.any fun r => decide (r.1 ∈ ([">", ">=", "="] : List Str)) && (ltB a r.2 || (decide (r.1 = ">") && decide (a = r.2)))
def aboB (rows : List (Str × Str)) (a : Str) : Bool := rows.any fun r => decide (r.1 ∈ (["<", "<=", "="] : List Str)) && (ltB r.2 a || (decide (r.1 = "<") && decide (a = r.2)))
def RowsOk (rows : List (Str × Str)) : Prop := rows.length ≤ 100 ∧ ∀ r ∈ rows, r.1 ∈ signsL ∧ PyData.strOk r.1 = true ∧ PyData.strOk r.2 = true
theorem kq : PyData.strOk "=" = true := by decide +kernel
theorem k1 : PyData.strOk "<" = true := by decide +kernel
theorem k2 : PyData.strOk "<=" = true := by decide +kernel
theorem k3 : PyData.strOk ">" = true := by decide +kernel
theorem k4 : PyData.strOk ">=" = true := by decide +kernel
theorem k5 : PyData.strOk "<>" = true := by decide +kernel
theorem ltS_ok {a b : PEx} {s : Sl} {M M' M'' : Ms} {x y : Str} (ha : a s M = .ok (.d (.str x)) M') (hb : b s M' = .ok (.d (.str y)) M'') : pOp gLtS a b s M = .ok (.d (.bool (ltB x y))) M'' := by
  rw [op_ok ha hb]
  rfl
theorem gtS_ok {a b : PEx} {s : Sl} {M M' M'' : Ms} {x y : Str} (ha : a s M = .ok (.d (.str x)) M') (hb : b s M' = .ok (.d (.str y)) M'') : pOp gGtS a b s M = .ok (.d (.bool (ltB y x))) M'' := by
  rw [op_ok ha hb]
  rfl
theorem leS_ok {a b : PEx} {s : Sl} {M M' M'' : Ms} {x y : Str} (ha : a s M = .ok (.d (.str x)) M') (hb : b s M' = .ok (.d (.str y)) M'') : pOp gLeS a b s M = .ok (.d (.bool (!ltB y x))) M'' := by
  rw [op_ok ha hb]
  rfl
theorem geS_ok {a b : PEx} {s : Sl} {M M' M'' : Ms} {x y : Str} (ha : a s M = .ok (.d (.str x)) M') (hb : b s M' = .ok (.d (.str y)) M'') : pOp gGeS a b s M = .ok (.d (.bool (!ltB x y))) M'' := by
  rw [op_ok ha hb]
  rfl
theorem orAnd_ok {p q r : PEx} {s : Sl} {M : Ms} {x y z : Bool} (h1 : p s M = .ok (.d (.bool x)) M) (h2 : q s M = .ok (.d (.bool y)) M) (h3 : r s M = .ok (.d (.bool z)) M) : pOrV p (pAndV q r) s M = .ok (.d (.bool (x || (y && z)))) M := by
  cases x with
  | true => rw [sorV_tt h1 rfl]; rfl
  | false =>
    rw [sorV_ff h1 rfl]
    cases y with
    | true => rw [andV_tt h2 rfl, h3]; rfl
    | false => rw [andV_ff h2 rfl]; rfl
theorem worked_ok {sg a t : Str} {M : Ms} (hs : sg ∈ signsL) (h0 : PyData.strOk sg = true) (h1 : PyData.strOk a = true) (h2 : PyData.strOk t = true) : f0_worked [.d (.str sg), .d (.str a), .d (.str t)] M = .ok (.d (.bool (wk sg a t))) M := by
  rw [run_worked rfl]
  show O.toR (b_worked [some (.d (.str sg)), some (.d (.str a)), some (.d (.str t)), none] M) = _
  unfold b_worked wk
  generalize hS : ([some (W.d (.str sg)), some (.d (.str a)), some (.d (.str t)), none] : Sl) = S
  have v0 : pVar 0 S M = .ok (.d (.str sg)) M := by subst hS; rfl
  have v1 : pVar 1 S M = .ok (.d (.str a)) M := by subst hS; rfl
  have v2 : pVar 2 S M = .ok (.d (.str t)) M := by subst hS; rfl
  have e12 := eqSV v1 v2 h1 h2
  have c1 := eqS (b := pC (.str "=")) v0 rfl h0 kq
  by_cases q1 : sg = "="
  · rw [decide_eq_true q1] at c1
    rw [if_pos q1, seq_rt (by rw [if_tt c1]; exact ret_ok e12)]
    rfl
  · rw [decide_eq_false q1] at c1
    rw [if_neg q1, seq_nx (s' := S) (M' := M) (by rw [if_ff c1]; rfl)]
    have c2 := eqS (b := pC (.str "<>")) v0 rfl h0 k5
    have q2 : sg ≠ "<>" := by
      intro e
      rw [e] at hs
      exact absurd hs (by decide)
    rw [decide_eq_false q2] at c2
    rw [seq_nx (s' := S) (M' := M) (by rw [if_ff c2]; rfl)]
    have c3 := inT (neg := false) (ms := ["<", "<="]) (b := pTup (pCons (pC (.str "<")) (pCons (pC (.str "<=")) (pNil)))) v0 rfl
    rw [Bool.false_xor] at c3
    by_cases q3 : sg ∈ (["<", "<="] : List Str)
    · rw [decide_eq_true q3] at c3
      rw [if_pos q3, seq_rt (by rw [if_tt c3]; exact ret_ok (orAnd_ok (ltS_ok v1 v2) (eqSV (b := pC (.str "<=")) v0 rfl h0 k2) e12))]
      rfl
    · rw [decide_eq_false q3] at c3
      rw [if_neg q3, seq_nx (s' := S) (M' := M) (by rw [if_ff c3]; rfl)]
      have c4 := inT (neg := false) (ms := [">", ">="]) (b := pTup (pCons (pC (.str ">")) (pCons (pC (.str ">=")) (pNil)))) v0 rfl
      rw [Bool.false_xor] at c4
      have q4 : sg ∈ ([">", ">="] : List Str) := by
        simp only [signsL, List.mem_cons, List.not_mem_nil, or_false] at hs q3 ⊢
        rcases hs with h | h | h | h | h
        · exact absurd h q1
        · exact absurd (.inl h) q3
        · exact absurd (.inr h) q3
        · exact .inl h
        · exact .inr h
      rw [decide_eq_true q4] at c4
      rw [seq_rt (by rw [if_tt c4]; exact ret_ok (orAnd_ok (gtS_ok v1 v2) (eqSV (b := pC (.str ">=")) v0 rfl h0 k4) e12))]
      rfl
theorem so_ok {sg a t : Str} {M : Ms} (h0 : PyData.strOk sg = true) (h1 : PyData.strOk a = true) (h2 : PyData.strOk t = true) : f0__law_so [.d (.str a), .d (.str sg), .d (.str t)] M = .ok (.d (.bool (wk sg a t))) M := by
  rw [run__law_so rfl]
  show O.toR (b__law_so [some (.d (.str a)), some (.d (.str sg)), some (.d (.str t))] M) = _
  unfold b__law_so wk
  generalize hS : ([some (W.d (.str a)), some (.d (.str sg)), some (.d (.str t))] : Sl) = S
  have v0 : pVar 1 S M = .ok (.d (.str sg)) M := by subst hS; rfl
  have v1 : pVar 0 S M = .ok (.d (.str a)) M := by subst hS; rfl
  have v2 : pVar 2 S M = .ok (.d (.str t)) M := by subst hS; rfl
  have e12 := eqSV v1 v2 h1 h2
  have c1 := eqS (b := pC (.str "=")) v0 rfl h0 kq
  by_cases q1 : sg = "="
  · rw [decide_eq_true q1] at c1
    rw [if_pos q1, seq_rt (by rw [if_tt c1]; exact ret_ok e12)]
    rfl
  · rw [decide_eq_false q1] at c1
    rw [if_neg q1, seq_nx (s' := S) (M' := M) (by rw [if_ff c1]; rfl)]
    have c3 := inT (neg := false) (ms := ["<", "<="]) (b := pTup (pCons (pC (.str "<")) (pCons (pC (.str "<=")) (pNil)))) v0 rfl
    rw [Bool.false_xor] at c3
    by_cases q3 : sg ∈ (["<", "<="] : List Str)
    · rw [decide_eq_true q3] at c3
      rw [if_pos q3, seq_rt (by rw [if_tt c3]; exact ret_ok (orAnd_ok (ltS_ok v1 v2) (eqSV (b := pC (.str "<=")) v0 rfl h0 k2) e12))]
      rfl
    · rw [decide_eq_false q3] at c3
      rw [if_neg q3, seq_nx (s' := S) (M' := M) (by rw [if_ff c3]; rfl)]
      rw [ret_ok (orAnd_ok (gtS_ok v1 v2) (eqSV (b := pC (.str ">=")) v0 rfl h0 k4) e12)]
      rfl
/-! ### over rows -/
theorem rowsIt {k : Nat} {rows : List (Str × Str)} {s : Sl} {M : Ms} (h : s[k]? = some (some (.d (.list (rows.map colD))))) : pItL (pVar k) s M = .ok (rows.map fun r => W.d (colD r)) M := by
  unfold pItL
  rw [var_ok h]
  simp only [R.bind, List.map_map]
  rfl
theorem asked_ok {a : Str} {rows : List (Str × Str)} {M : Ms} (hr : RowsOk rows) (ha : PyData.strOk a = true) : f0_is_asked [.d (.str a), .d (.list (rows.map colD))] M = .ok (.d (.bool (askB rows a))) M := by
  rw [run_is_asked rfl]
  show O.toR (b_is_asked [some (.d (.str a)), some (.d (.list (rows.map colD))), none, none] M) = _
  unfold b_is_asked lc0_is_asked
  have lc := lc_gen (it := pItL (pVar 1)) (g := qTup 2 (qCons (qName 2) (qCons (qName 3) (qNil)))) (tt := pNotT (pTru (pCallG f_worked [] (pCons (pVar 2) (pCons (pVar 0) (pCons (pVar 3) (pNil))))))) (te := pC (.int 1)) (vs := [2, 3]) (s := [some (.d (.str a)), some (.d (.list (rows.map colD))), none, none]) (M := M) (fun r => W.d (colD r)) (fun r => !wk r.1 a r.2) (fun _ => .int 1) rows (rowsIt rfl) (Nat.le_trans hr.1 (by decide)) fun r hx => by
    obtain ⟨h1, h2, h3⟩ := hr.2 r hx
    refine ⟨[some (.d (.str a)), some (.d (.list (rows.map colD))), some (.d (.str r.1)), some (.d (.str r.2))], rfl, ?_, fun _ => rfl⟩
    refine not_ok (tru_ok (x := .d (.bool (wk r.1 a r.2))) ?_ rfl)
    rw [callG_ok (ws := [.d (.str r.1), .d (.str a), .d (.str r.2)]) (M' := M) rfl]
    exact worked_ok h1 h2 ha h3
  rw [ret_ok (notV_ok lc (k := !(((rows.filter fun r => !wk r.1 a r.2).map fun _ => PyData.int 1).isEmpty)) rfl), filter_emp]
  simp only [Bool.not_not]
  rfl
theorem lows_ok {k i j : Nat} {ms : List Str} {s : Sl} {M : Ms} {rows : List (Str × Str)} (pt : PAx) (hr : RowsOk rows) (h : s[k]? = some (some (.d (.list (rows.map colD))))) (hi : i < s.length) (hj : j < s.length) (hij : i ≠ j) (hp : ∀ s', pTup pt s' M = .ok (.d (.tuple (ms.map .str))) M) :
    pDat (pLc (pItL (pVar k)) (qTup 2 (qCons (qName i) (qCons (qName j) (qNil)))) (pB (pOp (gInT false) (pVar i) (pTup pt))) (pTup (pCons (pVar i) (pCons (pVar j) (pNil)))) [i, j]) s M = .ok (.d (.list ((rows.filter fun r => decide (r.1 ∈ ms)).map colD))) M := by
  refine lc_gen (fun r => W.d (colD r)) (fun r => decide (r.1 ∈ ms)) colD rows (rowsIt h) (Nat.le_trans hr.1 (by decide)) fun r hx => ?_
  have hl : (wipeS s [i, j]).length = s.length := by simp [wipeS]
  have vi : (((wipeS s [i, j]).set i (some (W.d (.str r.1)))).set j (some (W.d (.str r.2))))[i]? = some (some (.d (.str r.1))) := by rw [List.getElem?_set_ne (Ne.symm hij)]; exact List.getElem?_set_self (by omega)
  have vj : (((wipeS s [i, j]).set i (some (W.d (.str r.1)))).set j (some (W.d (.str r.2))))[j]? = some (some (.d (.str r.2))) := List.getElem?_set_self (by rw [List.length_set]; omega)
  refine ⟨((wipeS s [i, j]).set i (some (W.d (.str r.1)))).set j (some (W.d (.str r.2))), rfl, ?_, fun _ => tup_ok (ds := [.str r.1, .str r.2]) (cons_ok (var_ok vi) (cons_ok (var_ok vj) nil_ok)) (by show 2 ≤ 1000; decide)⟩
  have z := inT (neg := false) (ms := ms) (var_ok (M := M) vi) (hp _)
  rw [Bool.false_xor] at z
  exact z
theorem boolL_ok {p : PEx} {s : Sl} {M M' : Ms} {ds : List PyData} (h : p s M = .ok (.d (.list ds)) M') : pCall gBoolL (pCons p pNil) s M = .ok (.d (.bool (!ds.isEmpty))) M' := by
  rw [call1 h]
  simp [gBoolL, itemsL, List.isEmpty_map]
theorem filter_all {α : Type} (p t : α → Bool) : ∀ xs : List α, (!(xs.filter p).all fun x => !t x) = xs.any fun x => p x && t x
  | [] => rfl
  | x :: xs => by
    have ih := filter_all p t xs
    rw [List.any_cons]
    cases q : p x with
    | true => rw [List.filter_cons_of_pos q, List.all_cons, Bool.not_and, ih, Bool.not_not, Bool.true_and]
    | false => rw [List.filter_cons_of_neg (by simp [q]), ih, Bool.false_and, Bool.false_or]
theorem rowsOk_filter {rows : List (Str × Str)} {p : Str × Str → Bool} (h : RowsOk rows) : RowsOk (rows.filter p) := ⟨Nat.le_trans (List.length_filter_le _ _) h.1, fun r hr => h.2 r (List.mem_filter.mp hr).1⟩
theorem below_ok {a : Str} {rows : List (Str × Str)} {M : Ms} (hr : RowsOk rows) (ha : PyData.strOk a = true) : f0_is_below [.d (.str a), .d (.list (rows.map colD))] M = .ok (.d (.bool (belB rows a))) M := by
  rw [run_is_below rfl]
  show O.toR (b_is_below [some (.d (.str a)), some (.d (.list (rows.map colD))), none, none, none] M) = _
  unfold b_is_below lc0_is_below lc1_is_below
  rw [seq_nx (set_ok (lows_ok (k := 1) (i := 3) (j := 4) (ms := [">", ">=", "="]) (s := [some (.d (.str a)), some (.d (.list (rows.map colD))), none, none, none]) (M := M) _ hr rfl (by show 3 < 5; decide) (by show 4 < 5; decide) (by decide) fun _ => rfl))]
  have hr2 := rowsOk_filter (p := fun r => decide (r.1 ∈ ([">", ">=", "="] : List Str))) hr
  generalize hL : rows.filter (fun r => decide (r.1 ∈ ([">", ">=", "="] : List Str))) = L at hr2
  have lc := lc_gen (it := pItL (pVar 2)) (g := qTup 2 (qCons (qName 3) (qCons (qName 4) (qNil)))) (tt := pOrT (pB (pOp gLtS (pVar 0) (pVar 4))) (pAndT (pB (pOp gEqD (pVar 3) (pC (.str ">")))) (pB (pOp gEqD (pVar 0) (pVar 4))))) (te := pC (.int 1)) (vs := [3, 4]) (s := [some (.d (.str a)), some (.d (.list (rows.map colD))), some (.d (.list (L.map colD))), none, none]) (M := M) (fun r => W.d (colD r)) (fun r => ltB a r.2 || (decide (r.1 = ">") && decide (a = r.2))) (fun _ => .int 1) L (rowsIt rfl) (Nat.le_trans hr2.1 (by decide)) fun r hx => by
    obtain ⟨h1, h2, h3⟩ := hr2.2 r hx
    refine ⟨[some (.d (.str a)), some (.d (.list (rows.map colD))), some (.d (.list (L.map colD))), some (.d (.str r.1)), some (.d (.str r.2))], rfl, ?_, fun _ => rfl⟩
    exact orT_bb (pB_ok (ltS_ok (M' := M) (x := a) (y := r.2) rfl rfl)) (andT_bb (eqS (M' := M) (x := r.1) (y := ">") rfl rfl h2 k3) (eqS (M' := M) (x := a) (y := r.2) rfl rfl ha h3))
  show O.toR (pRet _ [some (.d (.str a)), some (.d (.list (rows.map colD))), some (.d (.list (L.map colD))), none, none] M) = _
  rw [ret_ok (boolL_ok lc), filter_emp]
  subst hL
  rw [filter_all]
  rfl
theorem above_ok {a : Str} {rows : List (Str × Str)} {M : Ms} (hr : RowsOk rows) (ha : PyData.strOk a = true) : f0_is_above [.d (.str a), .d (.list (rows.map colD))] M = .ok (.d (.bool (aboB rows a))) M := by
  rw [run_is_above rfl]
  show O.toR (b_is_above [some (.d (.str a)), some (.d (.list (rows.map colD))), none, none, none] M) = _
  unfold b_is_above lc0_is_above lc1_is_above
  rw [seq_nx (set_ok (lows_ok (k := 1) (i := 3) (j := 4) (ms := ["<", "<=", "="]) (s := [some (.d (.str a)), some (.d (.list (rows.map colD))), none, none, none]) (M := M) _ hr rfl (by show 3 < 5; decide) (by show 4 < 5; decide) (by decide) fun _ => rfl))]
  have hr2 := rowsOk_filter (p := fun r => decide (r.1 ∈ (["<", "<=", "="] : List Str))) hr
  generalize hL : rows.filter (fun r => decide (r.1 ∈ (["<", "<=", "="] : List Str))) = L at hr2
  have lc := lc_gen (it := pItL (pVar 2)) (g := qTup 2 (qCons (qName 3) (qCons (qName 4) (qNil)))) (tt := pOrT (pB (pOp gGtS (pVar 0) (pVar 4))) (pAndT (pB (pOp gEqD (pVar 3) (pC (.str "<")))) (pB (pOp gEqD (pVar 0) (pVar 4))))) (te := pC (.int 1)) (vs := [3, 4]) (s := [some (.d (.str a)), some (.d (.list (rows.map colD))), some (.d (.list (L.map colD))), none, none]) (M := M) (fun r => W.d (colD r)) (fun r => ltB r.2 a || (decide (r.1 = "<") && decide (a = r.2))) (fun _ => .int 1) L (rowsIt rfl) (Nat.le_trans hr2.1 (by decide)) fun r hx => by
    obtain ⟨h1, h2, h3⟩ := hr2.2 r hx
    refine ⟨[some (.d (.str a)), some (.d (.list (rows.map colD))), some (.d (.list (L.map colD))), some (.d (.str r.1)), some (.d (.str r.2))], rfl, ?_, fun _ => rfl⟩
    exact orT_bb (pB_ok (gtS_ok (M' := M) (x := a) (y := r.2) rfl rfl)) (andT_bb (eqS (M' := M) (x := r.1) (y := "<") rfl rfl h2 k1) (eqS (M' := M) (x := a) (y := r.2) rfl rfl ha h3))
  show O.toR (pRet _ [some (.d (.str a)), some (.d (.list (rows.map colD))), some (.d (.list (L.map colD))), none, none] M) = _
  rw [ret_ok (boolL_ok lc), filter_emp]
  subst hL
  rw [filter_all]
  rfl
theorem span_ok {names : List Str} {rows : List (Str × Str)} {M : Ms} (hr : RowsOk rows) (hn : names.length ≤ 100 ∧ ∀ z ∈ names, PyData.strOk z = true) : f0_span [.d (.list (names.map .str)), .d (.list (rows.map colD))] M = .ok (.d (.tuple [.int (names.filter (belB rows)).length, .int (names.filter (belB rows)).length])) M := by
  rw [run_span rfl]
  show O.toR (b_span [some (.d (.list (names.map .str))), some (.d (.list (rows.map colD))), none, none] M) = _
  unfold b_span lc0_span
  have lc := lc_gen (it := pItL (pVar 0)) (g := qName 3) (tt := pTru (pCallG f_is_below [] (pCons (pVar 3) (pCons (pVar 1) (pNil))))) (te := pVar 3) (vs := [3]) (s := [some (.d (.list (names.map .str))), some (.d (.list (rows.map colD))), none, none]) (M := M) (fun z => W.d (.str z)) (belB rows) PyData.str names (by
      unfold pItL
      rw [var_ok (x := .d (.list (names.map .str))) rfl]
      simp only [R.bind, List.map_map]
      rfl) (Nat.le_trans hn.1 (by decide)) fun z hz => by
    refine ⟨[some (.d (.list (names.map .str))), some (.d (.list (rows.map colD))), none, some (.d (.str z))], rfl, ?_, fun _ => rfl⟩
    refine tru_ok (x := .d (.bool (belB rows z))) ?_ rfl
    rw [callG_ok (ws := [.d (.str z), .d (.list (rows.map colD))]) (M' := M) rfl]
    exact below_ok hr (hn.2 z hz)
  have ll := lenE_list lc
  rw [List.length_map] at ll
  rw [seq_nx (set_ok ll)]
  rfl
end Z

set_option linter.all false
set_option autoImplicit false
set_option maxRecDepth 100000
set_option maxHeartbeats 4000000
/-! L77b: one round: every name is asked, and what the span tells agrees. -/
namespace Z
open PySem PySem.Spec PyProof.Rows L2 L2H
theorem lcL_pool {g : PGx} {te : PEx} {s : Sl} (Q : W → Prop) : ∀ (xs acc : List W) (M : Ms), PoolOk M → (∀ x ∈ xs, ∃ s', (∀ M', g x s M' = some s') ∧ ∀ M1, PoolOk M1 → ∃ y M2, te s' M1 = .ok y M2 ∧ Q y ∧ Only0 M1 M2) → ∃ (ws : List W) (M' : Ms), lcL g pYes te s xs acc M = .ok (acc ++ ws) M' ∧ (∀ w ∈ ws, Q w) ∧ ws.length = xs.length ∧ Only0 M M'
  | [], acc, M, h, _ => ⟨[], M, by simp [lcL], fun _ h => (by cases h), rfl, Only0.refl h⟩
  | x :: xs, acc, M, h, hs => by
    obtain ⟨s', hg, hte⟩ := hs x List.mem_cons_self
    obtain ⟨y, M1, e1, q1, o1⟩ := hte M h
    obtain ⟨ws, M', e2, q2, l2, o2⟩ := lcL_pool (g := g) (te := te) (s := s) Q xs (acc ++ [y]) M1 o1.1 (fun z hz => hs z (List.mem_cons_of_mem _ hz))
    refine ⟨y :: ws, M', ?_, ?_, by rw [List.length_cons, List.length_cons, l2], o1.trans o2⟩
    · rw [lcL, hg]
      simp only [pYes, R.bindN, if_true, e1]
      rw [e2, List.append_assoc]
      rfl
    · intro w hw
      rcases List.mem_cons.mp hw with rfl | hw
      · exact q1
      · exact q2 w hw
theorem lcL_pick {α : Type} {g : PGx} {tt : PTx} {te : PEx} {s : Sl} (e : α → W) (f : α → PyData) : ∀ (xs : List α) (acc : List W) (M : Ms), PoolOk M → (∀ x ∈ xs, ∃ s', (∀ M', g (e x) s M' = some s') ∧ ∀ M1, PoolOk M1 → ∃ b M2, tt s' M1 = .ok b M2 ∧ Only0 M1 M2 ∧ te s' M2 = .ok (.d (f x)) M2) →
    ∃ (ys : List α) (M' : Ms), lcL g tt te s (xs.map e) acc M = .ok (acc ++ ys.map fun y => W.d (f y)) M' ∧ (∀ y ∈ ys, y ∈ xs) ∧ ys.length ≤ xs.length ∧ Only0 M M'
  | [], acc, M, h, _ => ⟨[], M, by simp [lcL], fun _ h => (by cases h), Nat.le_refl _, Only0.refl h⟩
  | x :: xs, acc, M, h, hs => by
    obtain ⟨s', hg, hte⟩ := hs x List.mem_cons_self
    obtain ⟨b, M1, e1, o1, e2⟩ := hte M h
    rw [List.map_cons, lcL, hg]
    simp only [e1, R.bindN]
    cases b with
    | true =>
      obtain ⟨ys, M', e3, q2, l2, o2⟩ := lcL_pick (g := g) (tt := tt) (te := te) (s := s) e f xs (acc ++ [.d (f x)]) M1 o1.1 (fun z hz => hs z (List.mem_cons_of_mem _ hz))
      refine ⟨x :: ys, M', ?_, ?_, by rw [List.length_cons, List.length_cons]; omega, o1.trans o2⟩
      · simp only [if_true, e2]
        rw [e3, List.append_assoc]
        rfl
      · intro y hy
        rcases List.mem_cons.mp hy with rfl | hy
        · exact List.mem_cons_self
        · exact List.mem_cons_of_mem _ (q2 y hy)
    | false =>
      obtain ⟨ys, M', e3, q2, l2, o2⟩ := lcL_pick (g := g) (tt := tt) (te := te) (s := s) e f xs acc M1 o1.1 (fun z hz => hs z (List.mem_cons_of_mem _ hz))
      refine ⟨ys, M', ?_, fun y hy => List.mem_cons_of_mem _ (q2 y hy), by rw [List.length_cons]; omega, o1.trans o2⟩
      simp only [Bool.false_eq_true, if_false]
      exact e3
theorem pB_inv {p : PEx} {s : Sl} {M M' : Ms} {b : Bool} (h : pB p s M = .ok b M') : p s M = .ok (.d (.bool b)) M' := by
  unfold pB at h
  cases q : p s M with
  | exc e m => rw [q] at h; cases h
  | stuck => rw [q] at h; cases h
  | ok x m =>
    rw [q] at h
    cases x with
    | r i => cases h
    | k u => cases h
    | d d =>
      cases d with
      | bool c => simp only [R.bind] at h; cases h; rfl
      | _ => cases h
theorem rows_of {P : Str × Str → Prop} {ws : List W} : (∀ w ∈ ws, ∃ r, w = .d (colD r) ∧ P r) → ∃ rows : List (Str × Str), ws = rows.map (fun r => W.d (colD r)) ∧ (∀ r ∈ rows, P r) ∧ rows.length = ws.length := by
  induction ws with
  | nil => exact fun _ => ⟨[], rfl, by simp, rfl⟩
  | cons w ws ih =>
    intro h
    obtain ⟨z, e, hz⟩ := h w List.mem_cons_self
    obtain ⟨zs, e2, h2, l2⟩ := ih fun x hx => h x (List.mem_cons_of_mem _ hx)
    refine ⟨z :: zs, by rw [e, e2]; rfl, ?_, by rw [List.length_cons, List.length_cons, l2]⟩
    intro y hy
    rcases List.mem_cons.mp hy with rfl | hy
    · exact hz
    · exact h2 y hy
/-! ### the order -/
theorem ltB_trans {a b c : Str} (h1 : ltB a b = true) (h2 : ltB b c = true) : ltB a c = true := decide_eq_true (List.lt_trans (of_decide_eq_true h1) (of_decide_eq_true h2))
theorem no_below {rows : List (Str × Str)} {a o : Str} (hr : ∀ r ∈ rows, r.1 ∈ signsL) (hb : belB rows a = true) (ho : askB rows o = true) : ltB a o = true := by
  obtain ⟨r, hm, h⟩ := List.any_eq_true.mp hb
  have hw := List.all_eq_true.mp ho r hm
  simp only [Bool.and_eq_true, Bool.or_eq_true, decide_eq_true_eq] at h
  obtain ⟨h1, h2⟩ := h
  unfold wk at hw
  simp only [List.mem_cons, List.not_mem_nil, or_false] at h1
  rcases h1 with e | e | e
  · rw [e, if_neg (by decide), if_neg (by decide)] at hw
    have nd : ¬ Str.ofString ">" = Str.ofString ">=" := by decide
    have hw' : ltB r.2 o = true := by simpa [nd] using hw
    rcases h2 with h2 | ⟨_, h2⟩
    · exact ltB_trans h2 hw'
    · rw [h2]; exact hw'
  · rw [e, if_neg (by decide), if_neg (by decide)] at hw
    have h2' : ltB a r.2 = true := by
      rcases h2 with h2 | ⟨h3, _⟩
      · exact h2
      · rw [e] at h3; exact absurd h3 (by decide)
    simp only [decide_true, Bool.true_and, Bool.or_eq_true, decide_eq_true_eq] at hw
    rcases hw with hw | hw
    · exact ltB_trans h2' hw
    · rw [hw]; exact h2'
  · rw [e, if_pos rfl] at hw
    have h2' : ltB a r.2 = true := by
      rcases h2 with h2 | ⟨h3, _⟩
      · exact h2
      · rw [e] at h3; exact absurd h3 (by decide)
    rw [of_decide_eq_true hw]
    exact h2'
theorem no_above {rows : List (Str × Str)} {a o : Str} (hr : ∀ r ∈ rows, r.1 ∈ signsL) (hb : aboB rows a = true) (ho : askB rows o = true) : ltB o a = true := by
  obtain ⟨r, hm, h⟩ := List.any_eq_true.mp hb
  have hw := List.all_eq_true.mp ho r hm
  simp only [Bool.and_eq_true, Bool.or_eq_true, decide_eq_true_eq] at h
  obtain ⟨h1, h2⟩ := h
  unfold wk at hw
  simp only [List.mem_cons, List.not_mem_nil, or_false] at h1
  rcases h1 with e | e | e
  · rw [e, if_neg (by decide), if_pos (by decide)] at hw
    have nd : ¬ Str.ofString "<" = Str.ofString "<=" := by decide
    have hw' : ltB o r.2 = true := by simpa [nd] using hw
    rcases h2 with h2 | ⟨_, h2⟩
    · exact ltB_trans hw' h2
    · rw [h2]; exact hw'
  · rw [e, if_neg (by decide), if_pos (by decide)] at hw
    have h2' : ltB r.2 a = true := by
      rcases h2 with h2 | ⟨h3, _⟩
      · exact h2
      · rw [e] at h3; exact absurd h3 (by decide)
    simp only [decide_true, Bool.true_and, Bool.or_eq_true, decide_eq_true_eq] at hw
    rcases hw with hw | hw
    · exact ltB_trans hw h2'
    · rw [hw]; exact h2'
  · rw [e, if_pos rfl] at hw
    have h2' : ltB r.2 a = true := by
      rcases h2 with h2 | ⟨h3, _⟩
      · exact h2
      · rw [e] at h3; exact absurd h3 (by decide)
    rw [of_decide_eq_true hw]
    exact h2'
/-! ### the names -/
def wordsL : List Str := ["a.a", "a.b", "a.c", "b.a", "b.b", "c.a", "c.c", "d.d"]
def extraL : List Str := ["b", "zz", ""]
def edgeL : List Str := ["", "a", "zz"]
def textsL : List Str := wordsL ++ extraL
def wordsA : List Str := wordsL.map fun z => z ++ ("a" : Str)
def everyL : List Str := sortS (wordsL ++ wordsA ++ edgeL)
def sideP (ms : List Str) (o : Str) (cmp : Str → Str → Bool) (a : Str) (r : Str × Str) : Bool := decide (r.1 ∈ ms) && (cmp a r.2 || (decide (a = r.2) && decide (r.1 = o)))
def gtB (a b : Str) : Bool := ltB b a
theorem words_ok : ∀ z ∈ wordsL, PyData.strOk z = true := by decide +kernel
theorem texts_ok : ∀ z ∈ textsL, PyData.strOk z = true := by decide +kernel
theorem signs_ok : ∀ z ∈ signsL, PyData.strOk z = true := by decide +kernel
theorem every_mem {z : Str} (h : z ∈ everyL) : z ∈ wordsL ++ wordsA ++ edgeL := (sortS_perm _).mem_iff.mp h
theorem every_ok0 : ∀ z ∈ wordsL ++ wordsA ++ edgeL, PyData.strOk z = true := by decide +kernel
theorem every_ok : ∀ z ∈ everyL, PyData.strOk z = true := fun z h => every_ok0 z (every_mem h)
theorem every_len : everyL.length = 19 := by
  unfold everyL
  rw [(sortS_perm _).length_eq]
  rfl
/-- what one round's names are asked in -/
structure At (names : List Str) (rows : List (Str × Str)) (s : Sl) : Prop where
  len : s.length = 24
  s1 : s[1]? = some (some (.r 0))
  s2 : s[2]? = some (some (.d (.list (wordsL.map .str))))
  s3 : s[3]? = some (some (.d (.list (everyL.map .str))))
  s5 : s[5]? = some (some (.d (.list (names.map .str))))
  s6 : s[6]? = some (some (.d (.list (rows.map colD))))
  s7 : s[7]? = some (some (.d (.list ((everyL.filter (askB rows)).map .str))))
theorem At.set {names : List Str} {rows : List (Str × Str)} {s : Sl} {i : Nat} {x : Option W} (h : At names rows s) (hi : 8 ≤ i) : At names rows (s.set i x) := by
  obtain ⟨a, b, c, d, e, f, g⟩ := h
  exact ⟨by rw [List.length_set]; exact a, by rw [List.getElem?_set_ne (by omega)]; exact b, by rw [List.getElem?_set_ne (by omega)]; exact c, by rw [List.getElem?_set_ne (by omega)]; exact d, by rw [List.getElem?_set_ne (by omega)]; exact e, by rw [List.getElem?_set_ne (by omega)]; exact f, by rw [List.getElem?_set_ne (by omega)]; exact g⟩
theorem set_get {s : Sl} {i : Nat} {x : W} (h : i < s.length) : (s.set i (some x))[i]? = some (some x) := List.getElem?_set_self h
theorem same_bool {p q : PEx} {s : Sl} {M : Ms} {b : Bool} (h1 : p s M = .ok (.d (.bool b)) M) (h2 : q s M = .ok (.d (.bool b)) M) : pNotT (pTru (pCallQ q__law_same [] (pCons p (pCons q pNil)))) s M = .ok false M := same_true h1 h2 rfl
/-- rows whose first is among some, and what is asked of the second -/
theorem lc_side {s : Sl} {M : Ms} {rows : List (Str × Str)} {a : Str} {k : Nat} {ms : List Str} {o : Str} {cmp : Str → Str → Bool} {pt : PAx} {pc : PEx} (hl : s.length = 24) (hk : k < 24) (hk13 : k ≠ 13) (hk6 : s[6]? = some (some (.d (.list (rows.map colD))))) (ha : s[k]? = some (some (.d (.str a)))) (hr : RowsOk rows) (hak : PyData.strOk a = true) (hok : PyData.strOk o = true)
    (hp : ∀ s', pTup pt s' M = .ok (.d (.tuple (ms.map .str))) M) (hc : ∀ s' (t : Str), s'[k]? = some (some (.d (.str a))) → (∃ sg, s'[13]? = some (some (.d (colD (sg, t))))) → pc s' M = .ok (.d (.bool (cmp a t))) M) :
    pDat (pLc (pItL (pVar 6)) (qName 13) (pAndT (pB (pOp (gInT false) (pOp gIx (pVar 13) (pC (.int 0))) (pTup pt))) (pOrT (pB pc) (pAndT (pB (pOp gEqD (pVar k) (pOp gIx (pVar 13) (pC (.int 1))))) (pB (pOp gEqD (pOp gIx (pVar 13) (pC (.int 0))) (pC (.str o))))))) (pVar 13) [13]) s M =
      .ok (.d (.list ((rows.filter (sideP ms o cmp a)).map colD))) M := by
  refine lc_gen (fun r => W.d (colD r)) _ colD rows (rowsIt hk6) (Nat.le_trans hr.1 (by decide)) fun r hx => ?_
  obtain ⟨h1, h2, h3⟩ := hr.2 r hx
  have v13 : ((wipeS s [13]).set 13 (some (W.d (colD r))))[13]? = some (some (.d (colD r))) := set_get (by simp [wipeS, hl])
  have vk : ((wipeS s [13]).set 13 (some (W.d (colD r))))[k]? = some (some (.d (.str a))) := by
    rw [List.getElem?_set_ne (Ne.symm hk13)]
    show (s.set 13 none)[k]? = _
    rw [List.getElem?_set_ne (Ne.symm hk13)]
    exact ha
  refine ⟨(wipeS s [13]).set 13 (some (W.d (colD r))), rfl, ?_, fun _ => var_ok v13⟩
  have i0 : pOp gIx (pVar 13) (pC (.int 0)) ((wipeS s [13]).set 13 (some (W.d (colD r)))) M = .ok (.d (.str r.1)) M := ixT_ok (i := 0) (ds := [.str r.1, .str r.2]) (var_ok v13) rfl
  have i1 : pOp gIx (pVar 13) (pC (.int 1)) ((wipeS s [13]).set 13 (some (W.d (colD r)))) M = .ok (.d (.str r.2)) M := ixT_ok (i := 1) (ds := [.str r.1, .str r.2]) (var_ok v13) rfl
  have z := inT (neg := false) (ms := ms) i0 (hp _)
  rw [Bool.false_xor] at z
  exact andT_bb z (orT_bb (pB_ok (hc _ r.2 vk ⟨r.1, v13⟩)) (andT_bb (eqS (var_ok vk) i1 hak h3) (eqS i0 rfl h2 hok)))
theorem len_gt {s : Sl} {M : Ms} {k : Nat} {α : Type} {t : α → Bool} {f : α → PyData} {xs : List α} (h : s[k]? = some (some (.d (.list ((xs.filter t).map f))))) : pOp gGtI (pCall gLen (pCons (pVar k) pNil)) (pC (.int 0)) s M = .ok (.d (.bool (xs.any t))) M := by
  rw [← filter_len t f]
  exact pB_inv (gtI_ok (len_list h) rfl)
theorem any_comm (rows : List (Str × Str)) (a o : Str) (ms : List Str) (cmp : Str → Str → Bool) : (rows.any (sideP ms o cmp a)) = rows.any fun r => decide (r.1 ∈ ms) && (cmp a r.2 || (decide (r.1 = o) && decide (a = r.2))) := by
  congr 1
  funext r
  unfold sideP
  rw [Bool.and_comm (decide (a = r.2))]
theorem word_turn {C : Addr} {names : List Str} {rows : List (Str × Str)} {s : Sl} {M : Ms} {z : Str} (hA : At names rows s) (h8 : s[8]? = some (some (.d (.str z)))) (hz : z ∈ everyL) (hr : RowsOk rows) : ∃ s', lp12__law_run C s M = .nx s' M ∧ At names rows s' := by
  have hk := every_ok z hz
  unfold lp12__law_run
  -- asked
  have a1 : pCallG f_is_asked [] (pCons (pVar 8) (pCons (pVar 6) (pNil))) s M = .ok (.d (.bool (askB rows z))) M := by
    rw [callG_ok (cons_ok (var_ok h8) (cons_ok (var_ok hA.s6) nil_ok))]
    exact asked_ok hr hk
  have a2 : pOp (gInD false) (pVar 8) (pVar 7) s M = .ok (.d (.bool (askB rows z))) M := by
    have q := inS (neg := false) (M := M) (var_ok h8) (var_ok hA.s7) hk (fun x hx => every_ok x (List.mem_filter.mp hx).1)
    rw [Bool.false_xor] at q
    have e : decide (z ∈ everyL.filter (askB rows)) = askB rows z := by
      rw [Bool.eq_iff_iff, decide_eq_true_eq, List.mem_filter]
      exact ⟨fun h => h.2, fun h => ⟨hz, h⟩⟩
    rw [e] at q
    exact pB_inv q
  rw [seq_nx (s' := s) (M' := M) (by rw [if_ff (same_bool a1 a2)]; rfl)]
  -- before, behind
  have b1 : pDat (lc11__law_run C) s M = .ok (.d (.list ((rows.filter (sideP [">", ">=", "="] ">" ltB z)).map colD))) M := by
    refine lc_side (k := 8) (cmp := ltB) hA.len (by decide) (by decide) hA.s6 h8 hr hk k3 (fun _ => rfl) fun s' t h1 h2 => ?_
    obtain ⟨sg, h2⟩ := h2
    exact ltS_ok (var_ok h1) (ixT_ok (i := 1) (ds := [.str sg, .str t]) (var_ok h2) rfl)
  rw [seq_nx (set_ok b1)]
  have hA1 := hA.set (i := 9) (x := some (.d (.list ((rows.filter (sideP [">", ">=", "="] ">" ltB z)).map colD)))) (by decide)
  have h81 : (s.set 9 (some (.d (.list ((rows.filter (sideP [">", ">=", "="] ">" ltB z)).map colD)))))[8]? = some (some (.d (.str z))) := by rw [List.getElem?_set_ne (by decide)]; exact h8
  have h91 : (s.set 9 (some (W.d (.list ((rows.filter (sideP [">", ">=", "="] ">" ltB z)).map colD)))))[9]? = some (some (W.d (.list ((rows.filter (sideP [">", ">=", "="] ">" ltB z)).map colD)))) := set_get (by rw [hA.len]; decide)
  generalize s.set 9 (some (W.d (.list ((rows.filter (sideP [">", ">=", "="] ">" ltB z)).map colD)))) = s1 at hA1 h81 h91
  have b2 : pDat (lc10__law_run C) s1 M = .ok (.d (.list ((rows.filter (sideP ["<", "<=", "="] "<" gtB z)).map colD))) M := by
    refine lc_side (k := 8) (cmp := gtB) hA1.len (by decide) (by decide) hA1.s6 h81 hr hk k1 (fun _ => rfl) fun s' t h1 h2 => ?_
    obtain ⟨sg, h2⟩ := h2
    exact gtS_ok (var_ok h1) (ixT_ok (i := 1) (ds := [.str sg, .str t]) (var_ok h2) rfl)
  rw [seq_nx (set_ok b2)]
  have hA2 := hA1.set (i := 10) (x := some (.d (.list ((rows.filter (sideP ["<", "<=", "="] "<" gtB z)).map colD)))) (by decide)
  have h82 : (s1.set 10 (some (.d (.list ((rows.filter (sideP ["<", "<=", "="] "<" gtB z)).map colD)))))[8]? = some (some (.d (.str z))) := by rw [List.getElem?_set_ne (by decide)]; exact h81
  have h92 : (s1.set 10 (some (.d (.list ((rows.filter (sideP ["<", "<=", "="] "<" gtB z)).map colD)))))[9]? = some (some (W.d (.list ((rows.filter (sideP [">", ">=", "="] ">" ltB z)).map colD)))) := by rw [List.getElem?_set_ne (by decide)]; exact h91
  have h102 : (s1.set 10 (some (W.d (.list ((rows.filter (sideP ["<", "<=", "="] "<" gtB z)).map colD)))))[10]? = some (some (W.d (.list ((rows.filter (sideP ["<", "<=", "="] "<" gtB z)).map colD)))) := set_get (by rw [hA1.len]; decide)
  generalize s1.set 10 (some (W.d (.list ((rows.filter (sideP ["<", "<=", "="] "<" gtB z)).map colD)))) = s2 at hA2 h82 h92 h102
  have g1 := len_gt (M := M) h92
  have g2 := len_gt (M := M) h102
  rw [any_comm rows z ">" [">", ">=", "="] ltB] at g1
  rw [any_comm rows z "<" ["<", "<=", "="] gtB] at g2
  have d1 : pCallG f_is_below [] (pCons (pVar 8) (pCons (pVar 6) (pNil))) s2 M = .ok (.d (.bool (belB rows z))) M := by
    rw [callG_ok (cons_ok (var_ok h82) (cons_ok (var_ok hA2.s6) nil_ok))]
    exact below_ok hr hk
  have d2 : pCallG f_is_above [] (pCons (pVar 8) (pCons (pVar 6) (pNil))) s2 M = .ok (.d (.bool (aboB rows z))) M := by
    rw [callG_ok (cons_ok (var_ok h82) (cons_ok (var_ok hA2.s6) nil_ok))]
    exact above_ok hr hk
  rw [seq_nx (s' := s2) (M' := M) (by rw [if_ff (M' := M) (by rw [or_ff (same_bool d1 g1)]; exact same_bool d2 g2)]; rfl)]
  -- nobody asked stands there
  have l1 : pDat (lc9__law_run C) s2 M = .ok (.d (.list (((everyL.filter (askB rows)).filter fun o => !ltB z o).map .str))) M := by
    refine lc_gen (fun o => W.d (.str o)) _ PyData.str (everyL.filter (askB rows)) ?_ ?_ fun o ho => ?_
    · unfold pItL
      rw [var_ok hA2.s7]
      simp only [R.bind, List.map_map]
      rfl
    · exact Nat.le_trans (List.length_filter_le _ _) (by rw [every_len]; decide)
    · have v20 : ((wipeS s2 [20]).set 20 (some (W.d (.str o))))[20]? = some (some (.d (.str o))) := set_get (by simp [wipeS, hA2.len])
      have v8 : ((wipeS s2 [20]).set 20 (some (W.d (.str o))))[8]? = some (some (.d (.str z))) := by
        rw [List.getElem?_set_ne (by decide)]
        show (s2.set 20 none)[8]? = _
        rw [List.getElem?_set_ne (by decide)]
        exact h82
      exact ⟨_, rfl, pB_ok (leS_ok (var_ok v20) (var_ok v8)), fun _ => var_ok v20⟩
  have l2 : pDat (lc8__law_run C) s2 M = .ok (.d (.list (((everyL.filter (askB rows)).filter fun o => !ltB o z).map .str))) M := by
    refine lc_gen (fun o => W.d (.str o)) _ PyData.str (everyL.filter (askB rows)) ?_ ?_ fun o ho => ?_
    · unfold pItL
      rw [var_ok hA2.s7]
      simp only [R.bind, List.map_map]
      rfl
    · exact Nat.le_trans (List.length_filter_le _ _) (by rw [every_len]; decide)
    · have v20 : ((wipeS s2 [20]).set 20 (some (W.d (.str o))))[20]? = some (some (.d (.str o))) := set_get (by simp [wipeS, hA2.len])
      have v8 : ((wipeS s2 [20]).set 20 (some (W.d (.str o))))[8]? = some (some (.d (.str z))) := by
        rw [List.getElem?_set_ne (by decide)]
        show (s2.set 20 none)[8]? = _
        rw [List.getElem?_set_ne (by decide)]
        exact h82
      exact ⟨_, rfl, pB_ok (geS_ok (var_ok v20) (var_ok v8)), fun _ => var_ok v20⟩
  have w1 := gtI_ok (b := pC (.int 0)) (j := 0) (M'' := M) (lenE_list l1) rfl
  have w2 := gtI_ok (b := pC (.int 0)) (j := 0) (M'' := M) (lenE_list l2) rfl
  rw [filter_len] at w1 w2
  have n1 : (belB rows z && (everyL.filter (askB rows)).any fun o => !ltB z o) = false := by
    cases hb : belB rows z with
    | false => rfl
    | true =>
      rw [Bool.true_and, List.any_eq_false]
      intro o ho
      rw [no_below (fun r hx => (hr.2 r hx).1) hb (List.mem_filter.mp ho).2]
      decide
  have n2 : (aboB rows z && (everyL.filter (askB rows)).any fun o => !ltB o z) = false := by
    cases hb : aboB rows z with
    | false => rfl
    | true =>
      rw [Bool.true_and, List.any_eq_false]
      intro o ho
      rw [no_above (fun r hx => (hr.2 r hx).1) hb (List.mem_filter.mp ho).2]
      decide
  refine ⟨s2, ?_, hA2⟩
  have f1 := andT_bb (pB_ok g1) w1
  have f2 := andT_bb (pB_ok g2) w2
  have f3 := orT_bb f1 f2
  rw [if_ff (M' := M) (by
    refine f3.trans ?_
    congr 1
    exact Bool.or_eq_false_iff.mpr ⟨n1, n2⟩)]
  rfl
theorem words_loop {C : Addr} {names : List Str} {rows : List (Str × Str)} {M : Ms} (hr : RowsOk rows) : ∀ (zs : List Str) (s : Sl), At names rows s → (∀ z ∈ zs, z ∈ everyL) → ∃ s', forL (qName 8) (lp12__law_run C) (zs.map fun z => W.d (.str z)) s M = .nx s' M ∧ At names rows s'
  | [], s, hA, _ => ⟨s, rfl, hA⟩
  | z :: zs, s, hA, hz => by
    have hg : qName 8 (W.d (.str z)) s M = some (s.set 8 (some (.d (.str z)))) := rfl
    obtain ⟨s1, e1, hA1⟩ := word_turn (C := C) (M := M) (hA.set (i := 8) (x := some (.d (.str z))) (by decide)) (set_get (by rw [hA.len]; decide)) (hz z List.mem_cons_self) hr
    obtain ⟨s2, e2, hA2⟩ := words_loop (C := C) (M := M) hr zs s1 hA1 fun x hx => hz x (List.mem_cons_of_mem _ hx)
    refine ⟨s2, ?_, hA2⟩
    rw [List.map_cons, forL, hg]
    simp only [e1]
    exact e2
end Z

set_option linter.all false
set_option autoImplicit false
set_option maxRecDepth 100000
set_option maxHeartbeats 4000000
/-! L77c: the rounds. -/
namespace Z
open PySem PySem.Spec PyProof.Rows L2 L2H
structure Bs (s : Sl) : Prop where
  len : s.length = 24
  s1 : s[1]? = some (some (.r 0))
  s2 : s[2]? = some (some (.d (.list (wordsL.map .str))))
  s3 : s[3]? = some (some (.d (.list (everyL.map .str))))
theorem Bs.set {s : Sl} {i : Nat} {x : Option W} (h : Bs s) (hi : 4 ≤ i) : Bs (s.set i x) := by
  obtain ⟨a, b, c, d⟩ := h
  exact ⟨by rw [List.length_set]; exact a, by rw [List.getElem?_set_ne (by omega)]; exact b, by rw [List.getElem?_set_ne (by omega)]; exact c, by rw [List.getElem?_set_ne (by omega)]; exact d⟩
theorem At.bs {names : List Str} {rows : List (Str × Str)} {s : Sl} (h : At names rows s) : Bs s := ⟨h.len, h.s1, h.s2, h.s3⟩
theorem strsIt {k : Nat} {zs : List Str} {s : Sl} {M : Ms} (h : s[k]? = some (some (.d (.list (zs.map .str))))) : pItL (pVar k) s M = .ok (zs.map fun z => W.d (.str z)) M := by
  unfold pItL
  rw [var_ok h]
  simp only [R.bind, List.map_map]
  rfl
theorem names_ok {C : Addr} {s : Sl} {M : Ms} (hB : Bs s) (hM : PoolOk M) : ∃ (names : List Str) (M' : Ms), pDat (lc16__law_run C) s M = .ok (.d (.list (names.map .str))) M' ∧ (names.length ≤ 100 ∧ ∀ z ∈ names, PyData.strOk z = true) ∧ Only0 M M' := by
  have hw1 : (wipeS s [8])[1]? = some (some (.r 0)) := by
    show (s.set 8 none)[1]? = _
    rw [List.getElem?_set_ne (by decide)]
    exact hB.s1
  obtain ⟨ys, M', e, q, l, o⟩ := lcL_pick (g := qName 8) (tt := pB (pOp gEqD (pCallG f__law_draw [] (pCons (pVar 1) (pCons (pC (.int 2)) (pNil)))) (pC (.int 0)))) (te := pVar 8) (s := wipeS s [8]) (fun z => W.d (.str z)) PyData.str wordsL [] M hM fun z hz => by
    refine ⟨(wipeS s [8]).set 8 (some (W.d (.str z))), fun _ => rfl, fun M1 h1 => ?_⟩
    obtain ⟨v, M2, ev, _, _, o⟩ := drawJ (s := (wipeS s [8]).set 8 (some (W.d (.str z)))) (j := 1) (m := 2) h1 (by rw [List.getElem?_set_ne (by decide)]; exact hw1) (by decide) (by decide)
    exact ⟨_, M2, eqI_ok ev rfl, o, var_ok (set_get (by simp [wipeS, hB.len]))⟩
  refine ⟨ys, M', ?_, ⟨Nat.le_trans l (by decide), fun z hz => words_ok z (q z hz)⟩, o⟩
  refine dat_ok (ws := ys.map fun y => W.d (.str y)) ?_ (allD_strs ys)
  unfold lc16__law_run pLc
  rw [strsIt hB.s2]
  simp only [R.bind]
  rw [if_pos (by rw [List.length_map]; show 8 ≤ sizeLine; decide), e, List.nil_append]
theorem rowsR_ok {C : Addr} {s : Sl} {M : Ms} (hB : Bs s) (hM : PoolOk M) : ∃ (rows : List (Str × Str)) (M' : Ms), pDat (lc15__law_run C) s M = .ok (.d (.list (rows.map colD))) M' ∧ RowsOk rows ∧ Only0 M M' := by
  obtain ⟨v, M1, ev, v0, v1, o1⟩ := drawJ (s := s) (j := 1) (m := 3) hM hB.s1 (by decide) (by decide)
  have rg : pRng1 (pOp gAddI (pC (.int 1)) (pCallG f__law_draw [] (pCons (pVar 1) (pCons (pC (.int 3)) (pNil))))) s M = .ok (rngW 0 (1 + v).toNat) M1 := rng1_okM (add_ok (M' := M) rfl ev) (small62' (by omega) (by omega))
  have hw1 : (wipeS s [19])[1]? = some (some (.r 0)) := by
    show (s.set 19 none)[1]? = _
    rw [List.getElem?_set_ne (by decide)]
    exact hB.s1
  have hw2 : (wipeS s [19])[2]? = some (some (.d (.list (wordsL.map .str)))) := by
    show (s.set 19 none)[2]? = _
    rw [List.getElem?_set_ne (by decide)]
    exact hB.s2
  obtain ⟨ws, M2, e, q, l, o2⟩ := lcL_pool (g := qName 19) (te := pTup (pCons (pCallG f__law_pick [] (pCons (pVar 1) (pCons (pDat (pLst (pCons (pC (.str "=")) (pCons (pC (.str "<")) (pCons (pC (.str "<=")) (pCons (pC (.str ">")) (pCons (pC (.str ">=")) (pNil)))))))) (pNil)))) (pCons (pCallG f__law_pick [] (pCons (pVar 1) (pCons (pDat (pCat (pVar 2) (pDat (pLst (pCons (pC (.str "b")) (pCons (pC (.str "zz")) (pCons (pC (.str "")) (pNil)))))))) (pNil)))) (pNil)))) (s := wipeS s [19]) (fun w => ∃ r, w = .d (colD r) ∧ (r.1 ∈ signsL ∧ PyData.strOk r.1 = true ∧ PyData.strOk r.2 = true)) (rngW 0 (1 + v).toNat) [] M1 o1.1 fun x hx => by
    refine ⟨(wipeS s [19]).set 19 (some x), fun _ => rfl, fun M3 h3 => ?_⟩
    have a1 : ((wipeS s [19]).set 19 (some x))[1]? = some (some (.r 0)) := by rw [List.getElem?_set_ne (by decide)]; exact hw1
    have a2 : ((wipeS s [19]).set 19 (some x))[2]? = some (some (.d (.list (wordsL.map .str)))) := by rw [List.getElem?_set_ne (by decide)]; exact hw2
    obtain ⟨d1, M4, m1, e1, o3⟩ := pickJ (s := (wipeS s [19]).set 19 (some x)) (M := M3) (j := 1) (ds := signsL.map .str) (pe := pDat (pLst (pCons (pC (.str "=")) (pCons (pC (.str "<")) (pCons (pC (.str "<=")) (pCons (pC (.str ">")) (pCons (pC (.str ">=")) (pNil)))))))) h3 a1 rfl (by show 1 ≤ 5; decide) (by show 5 ≤ 1000000; decide)
    have ct : pDat (pCat (pVar 2) (pDat (pLst (pCons (pC (.str "b")) (pCons (pC (.str "zz")) (pCons (pC (.str "")) (pNil))))))) ((wipeS s [19]).set 19 (some x)) M4 = .ok (.d (.list (wordsL.map PyData.str ++ extraL.map .str))) M4 := catD_ok (var_ok a2) rfl (by show 11 ≤ 1000000; decide)
    rw [← List.map_append] at ct
    obtain ⟨d2, M5, m2, e2, o4⟩ := pickJ (s := (wipeS s [19]).set 19 (some x)) (j := 1) o3.1 a1 ct (by show 1 ≤ 11; decide) (by show 11 ≤ 1000000; decide)
    obtain ⟨z1, hz1, rfl⟩ := List.mem_map.mp m1
    obtain ⟨z2, hz2, rfl⟩ := List.mem_map.mp m2
    exact ⟨.d (colD (z1, z2)), M5, tup_ok (ds := [.str z1, .str z2]) (cons_ok e1 (cons_ok e2 nil_ok)) (by show 2 ≤ 1000; decide), ⟨(z1, z2), rfl, hz1, signs_ok z1 hz1, texts_ok z2 hz2⟩, o3.trans o4⟩
  obtain ⟨rows, ew, hq, hl⟩ := rows_of q
  have hlen : rows.length ≤ 3 := by
    rw [hl, l, rngW, List.length_map, List.length_range]
    omega
  refine ⟨rows, M2, ?_, ⟨by omega, hq⟩, o1.trans o2⟩
  refine dat_ok (ws := ws) ?_ (by rw [ew, show (rows.map fun r => W.d (colD r)) = (rows.map colD).map W.d by rw [List.map_map]; rfl]; exact allD_map _)
  unfold lc15__law_run pLc
  rw [rg]
  simp only [R.bind]
  rw [if_pos (by rw [rngW, List.length_map, List.length_range]; exact Nat.le_trans (show (1 + v).toNat ≤ 10 by omega) (by decide)), e, List.nil_append]
theorem askedR_ok {C : Addr} {s : Sl} {M : Ms} {rows : List (Str × Str)} (hB : Bs s) (h6 : s[6]? = some (some (.d (.list (rows.map colD))))) (hr : RowsOk rows) : pDat (lc14__law_run C) s M = .ok (.d (.list ((everyL.filter (askB rows)).map .str))) M := by
  refine lc_gen (fun z => W.d (.str z)) (askB rows) PyData.str everyL (strsIt hB.s3) (by rw [every_len]; decide) fun z hz => ?_
  have hk := every_ok z hz
  have v8 : ((wipeS s [8]).set 8 (some (W.d (.str z))))[8]? = some (some (.d (.str z))) := set_get (by simp [wipeS, hB.len])
  have v6 : ((wipeS s [8]).set 8 (some (W.d (.str z))))[6]? = some (some (.d (.list (rows.map colD)))) := by
    rw [List.getElem?_set_ne (by decide)]
    show (s.set 8 none)[6]? = _
    rw [List.getElem?_set_ne (by decide)]
    exact h6
  refine ⟨(wipeS s [8]).set 8 (some (W.d (.str z))), rfl, ?_, fun _ => var_ok v8⟩
  have hl2 : ((wipeS s [8]).set 8 (some (W.d (.str z)))).length = 24 := by simp [wipeS, hB.len]
  generalize (wipeS s [8]).set 8 (some (W.d (.str z))) = S at v8 v6 hl2
  have lc : pDat (lc13__law_run C) S M = .ok (.d (.list ((rows.filter fun r => !wk r.1 z r.2).map colD))) M := by
    refine lc_gen (fun r => W.d (colD r)) _ colD rows (rowsIt v6) (Nat.le_trans hr.1 (by decide)) fun r hx => ?_
    obtain ⟨h1, h2, h3⟩ := hr.2 r hx
    have v13 : ((wipeS S [13]).set 13 (some (W.d (colD r))))[13]? = some (some (.d (colD r))) := set_get (by simp [wipeS, hl2])
    have w8 : ((wipeS S [13]).set 13 (some (W.d (colD r))))[8]? = some (some (.d (.str z))) := by
      rw [List.getElem?_set_ne (by decide)]
      show (S.set 13 none)[8]? = _
      rw [List.getElem?_set_ne (by decide)]
      exact v8
    refine ⟨_, rfl, ?_, fun _ => var_ok v13⟩
    refine not_ok (tru_ok (x := .d (.bool (wk r.1 z r.2))) ?_ rfl)
    rw [callG_ok (ws := [.d (.str z), .d (.str r.1), .d (.str r.2)]) (M' := M) (cons_ok (var_ok w8) (cons_ok (ixT_ok (i := 0) (ds := [.str r.1, .str r.2]) (var_ok v13) rfl) (cons_ok (ixT_ok (i := 1) (ds := [.str r.1, .str r.2]) (var_ok v13) rfl) nil_ok)))]
    exact so_ok h2 hk h3
  have z0 := eqI_ok (b := pC (.int 0)) (j := 0) (M'' := M) (lenE_list lc) rfl
  rw [filter_zero] at z0
  refine z0.trans ?_
  congr 1
  unfold askB
  congr 1
  funext r
  exact Bool.not_not _
theorem low_ok {C : Addr} {s : Sl} {M : Ms} {names : List Str} {rows : List (Str × Str)} (hA : At names rows s) (hr : RowsOk rows) (hn : names.length ≤ 100 ∧ ∀ z ∈ names, PyData.strOk z = true) : pDat (lc7__law_run C) s M = .ok (.d (.list ((names.filter (belB rows)).map .str))) M := by
  refine lc_gen (fun z => W.d (.str z)) (belB rows) PyData.str names (strsIt hA.s5) (Nat.le_trans hn.1 (by decide)) fun z hz => ?_
  have hk := hn.2 z hz
  have v21 : ((wipeS s [21]).set 21 (some (W.d (.str z))))[21]? = some (some (.d (.str z))) := set_get (by simp [wipeS, hA.len])
  have v6 : ((wipeS s [21]).set 21 (some (W.d (.str z))))[6]? = some (some (.d (.list (rows.map colD)))) := by
    rw [List.getElem?_set_ne (by decide)]
    show (s.set 21 none)[6]? = _
    rw [List.getElem?_set_ne (by decide)]
    exact hA.s6
  have hl2 : ((wipeS s [21]).set 21 (some (W.d (.str z)))).length = 24 := by simp [wipeS, hA.len]
  refine ⟨(wipeS s [21]).set 21 (some (W.d (.str z))), rfl, ?_, fun _ => var_ok v21⟩
  generalize (wipeS s [21]).set 21 (some (W.d (.str z))) = S at v21 v6 hl2
  have lc : pDat (lc6__law_run C) S M = .ok (.d (.list ((rows.filter (sideP [">", ">=", "="] ">" ltB z)).map colD))) M := by
    refine lc_side (k := 21) (cmp := ltB) hl2 (by decide) (by decide) v6 v21 hr hk k3 (fun _ => rfl) fun s' t h1 h2 => ?_
    obtain ⟨sg, h2⟩ := h2
    exact ltS_ok (var_ok h1) (ixT_ok (i := 1) (ds := [.str sg, .str t]) (var_ok h2) rfl)
  have z0 := gtI_ok (b := pC (.int 0)) (j := 0) (M'' := M) (lenE_list lc) rfl
  rw [filter_len, any_comm rows z ">" [">", ">=", "="] ltB] at z0
  exact z0
theorem round_ok {C : Addr} {s : Sl} {M : Ms} (hB : Bs s) (hM : PoolOk M) : ∃ s' M', lp17__law_run C s M = .nx s' M' ∧ Bs s' ∧ Only0 M M' := by
  unfold lp17__law_run
  obtain ⟨names, M1, e1, hn, o1⟩ := names_ok (C := C) hB hM
  rw [seq_nx (set_ok e1)]
  have B1 := hB.set (i := 5) (x := some (.d (.list (names.map .str)))) (by decide)
  obtain ⟨rows, M2, e2, hr, o2⟩ := rowsR_ok (C := C) B1 o1.1
  rw [seq_nx (set_ok e2)]
  have B2 := B1.set (i := 6) (x := some (.d (.list (rows.map colD)))) (by decide)
  have g6 : ((s.set 5 (some (W.d (.list (names.map .str))))).set 6 (some (.d (.list (rows.map colD)))))[6]? = some (some (.d (.list (rows.map colD)))) := set_get (by rw [B1.len]; decide)
  have g5 : ((s.set 5 (some (W.d (.list (names.map .str))))).set 6 (some (.d (.list (rows.map colD)))))[5]? = some (some (.d (.list (names.map .str)))) := by rw [List.getElem?_set_ne (by decide)]; exact set_get (by rw [hB.len]; decide)
  generalize (s.set 5 (some (W.d (.list (names.map .str))))).set 6 (some (.d (.list (rows.map colD)))) = s2 at B2 g6 g5
  rw [seq_nx (set_ok (askedR_ok (C := C) (M := M2) B2 g6 hr))]
  have B3 := B2.set (i := 7) (x := some (.d (.list ((everyL.filter (askB rows)).map .str)))) (by decide)
  have hA : At names rows (s2.set 7 (some (.d (.list ((everyL.filter (askB rows)).map .str))))) := ⟨B3.len, B3.s1, B3.s2, B3.s3, by rw [List.getElem?_set_ne (by decide)]; exact g5, by rw [List.getElem?_set_ne (by decide)]; exact g6, set_get (by rw [B2.len]; decide)⟩
  obtain ⟨s4, e4, hA4⟩ := words_loop (C := C) (M := M2) hr everyL _ hA fun _ h => h
  rw [seq_nx ((for_ok (strsIt hA.s3)).trans e4)]
  have ll := lenE_list (low_ok (C := C) (M := M2) hA4 hr hn)
  rw [List.length_map] at ll
  rw [seq_nx (set_ok ll)]
  have hA5 := hA4.set (i := 11) (x := some (.d (.int ((names.filter (belB rows)).length : Nat)))) (by decide)
  have g11 : (s4.set 11 (some (W.d (.int ((names.filter (belB rows)).length : Nat)))))[11]? = some (some (.d (.int ((names.filter (belB rows)).length : Nat)))) := set_get (by rw [hA4.len]; decide)
  generalize s4.set 11 (some (W.d (.int ((names.filter (belB rows)).length : Nat)))) = s5 at hA5 g11
  have sp : pCallG f_span [] (pCons (pVar 5) (pCons (pVar 6) (pNil))) s5 M2 = .ok (.d (.tuple [.int (names.filter (belB rows)).length, .int (names.filter (belB rows)).length])) M2 := by
    rw [callG_ok (cons_ok (var_ok hA5.s5) (cons_ok (var_ok hA5.s6) nil_ok))]
    exact span_ok hr hn
  have tp : pTup (pCons (pVar 11) (pCons (pVar 11) (pNil))) s5 M2 = .ok (.d (.tuple [.int (names.filter (belB rows)).length, .int (names.filter (belB rows)).length])) M2 := tup_ok (ds := [.int _, .int _]) (cons_ok (var_ok g11) (cons_ok (var_ok g11) nil_ok)) (by show 2 ≤ 1000; decide)
  refine ⟨s5, M2, ?_, hA5.bs, o1.trans o2⟩
  rw [if_ff (same_true sp tp (by simp [sameOk, sameAll]))]
  rfl
theorem rounds_ok {C : Addr} : ∀ (ws : List W) (s : Sl) (M : Ms), Bs s → PoolOk M → ∃ s' M', forL (qName 4) (lp17__law_run C) ws s M = .nx s' M' ∧ Bs s' ∧ Only0 M M'
  | [], s, M, hB, hM => ⟨s, M, rfl, hB, Only0.refl hM⟩
  | x :: ws, s, M, hB, hM => by
    obtain ⟨s1, M1, e1, B1, o1⟩ := round_ok (C := C) (hB.set (i := 4) (x := some x) (by decide)) hM
    obtain ⟨s2, M2, e2, B2, o2⟩ := rounds_ok (C := C) ws s1 M1 B1 o1.1
    refine ⟨s2, M2, ?_, B2, o1.trans o2⟩
    rw [forL, show qName 4 x s M = some (s.set 4 (some x)) from rfl]
    simp only [e1]
    exact e2
end Z

set_option linter.all false
set_option autoImplicit false
set_option maxRecDepth 100000
set_option maxHeartbeats 4000000
/-! L77d: a book's line, told and read. -/
namespace Z
open PySem PySem.Spec PyProof.Rows L2 L2H
open TL (joinL tl)
/-! ### numbers back -/
theorem int_back {n : Int} (h : n.natAbs < 10 ^ 18) : intO (intT n) = some n := by
  cases n with
  | ofNat n =>
    have hs : Txt.startswith (intT (Int.ofNat n)) "-" = false := by
      cases q : Txt.startswith (intT (Int.ofNat n)) "-" with
      | false => rfl
      | true =>
        have e := (starts_iff _ _).mp q
        rw [tl_intT] at e
        have hm : 45 ∈ TL.numL n := by
          have : 45 ∈ (tlZ (Int.ofNat n)).take (("-" : Str).length) := by rw [e]; decide
          exact List.mem_of_mem_take this
        have := TL.numL_digits n 45 hm
        omega
    have e1 : figOf (intT (Int.ofNat n)) = intT (Int.ofNat n) := by unfold figOf; rw [if_neg (by rw [hs]; decide)]
    have e2 : valOf (intT (Int.ofNat n)) = Int.ofNat n := by
      unfold valOf
      rw [if_neg (by rw [hs]; decide), show (intT (Int.ofNat n)).cps.toList = TL.numL n from tl_numT n, TL.numL_val]
      rfl
    unfold intO
    rw [e1, e2, if_pos]
    refine ⟨?_, (tl_intT _).symm⟩
    unfold figB
    rw [Bool.and_eq_true, Bool.and_eq_true, decide_eq_true_eq, decide_eq_true_eq]
    exact ⟨numT_ne n, numT_len (by decide) h, numT_fig n⟩
  | negSucc m =>
    have hs : Txt.startswith (intT (Int.negSucc m)) "-" = true := by
      rw [starts_iff, tl_intT]
      rfl
    have e1 : figOf (intT (Int.negSucc m)) = numT (m + 1) := by
      unfold figOf
      rw [if_pos hs]
      refine TL.ext_tl ?_
      refine (cutS_from (intT (Int.negSucc m)) 1).trans ?_
      rw [tl_intT, tl_numT]
      rfl
    have e2 : valOf (intT (Int.negSucc m)) = Int.negSucc m := by
      unfold valOf
      rw [if_pos hs, e1, show (numT (m + 1)).cps.toList = TL.numL (m + 1) from tl_numT _, TL.numL_val]
      rfl
    unfold intO
    rw [e1, e2, if_pos]
    refine ⟨?_, (tl_intT _).symm⟩
    unfold figB
    rw [Bool.and_eq_true, Bool.and_eq_true, decide_eq_true_eq, decide_eq_true_eq]
    exact ⟨numT_ne _, numT_len (by decide) h, numT_fig _⟩
/-! ### joins -/
theorem joinL_mem {S : List Nat} : ∀ {ps : List (List Nat)} {c : Nat}, c ∈ joinL S ps → c ∈ S ∨ ∃ p ∈ ps, c ∈ p
  | [], _, h => by cases h
  | [p], c, h => .inr ⟨p, List.mem_cons_self, h⟩
  | p :: q :: r, c, h => by
    rcases List.mem_append.mp (show c ∈ p ++ (S ++ joinL S (q :: r)) from h) with h | h
    · exact .inr ⟨p, List.mem_cons_self, h⟩
    · rcases List.mem_append.mp h with h | h
      · exact .inl h
      · rcases joinL_mem h with h | ⟨z, hz, h⟩
        · exact .inl h
        · exact .inr ⟨z, List.mem_cons_of_mem _ hz, h⟩
theorem joinL_len {S : List Nat} : ∀ ps : List (List Nat), (joinL S ps).length ≤ (ps.map fun p => p.length + S.length).sum
  | [] => by simp [joinL]
  | [p] => by simp [joinL]
  | p :: q :: r => by
    have ih := joinL_len (S := S) (q :: r)
    show (p ++ (S ++ joinL S (q :: r))).length ≤ _
    rw [List.map_cons, List.sum_cons, List.length_append, List.length_append]
    omega
theorem joinL_head {S : List Nat} {p : List Nat} {ps : List (List Nat)} : p.length ≤ (joinL S (p :: ps)).length := by
  cases ps with
  | nil => exact Nat.le_refl _
  | cons q r =>
    show _ ≤ (p ++ (S ++ joinL S (q :: r))).length
    rw [List.length_append]
    omega
theorem tl_joinT (y : Str) (ps : List Str) : tl (Txt.join y ps) = joinL (tl y) (ps.map tl) := by rw [TL.join_eq, TL.tl_join]
theorem split_free {y : Str} {s : Nat} {S : List Nat} (ey : tl y = s :: S) (hk : y.cps.all (· < 256) = true) {p : Str} (h : s ∉ tl p) : Txt.split p y = [p] := by
  have z := TL.split_join ey hk (parts := [p]) (by simp) (fun q hq => by rw [List.mem_singleton] at hq; subst hq; exact h)
  rwa [show Txt.join y [p] = p by rw [TL.join_eq]; rfl] at z
theorem intT_free {n : Int} {c : Nat} (h : c ≠ 45 ∧ (c < 48 ∨ 57 < c)) : c ∉ tl (intT n) := fun hm => by
  rcases intT_signs n c hm with e | e <;> omega
/-! ### a row -/
def unitsL : List Str := ["u", "kg"]
def statesL : List Str := ["open", "shut"]
def namesR : List Str := ["x", "yy"]
structure RowIs (a u : Str) (f b : Int) (w : Str) (R : List (Str × Int)) : Prop where
  ha : a ∈ wordsL
  hu : u ∈ unitsL
  hf : -89 ≤ f ∧ f ≤ 0
  hb : -90 ≤ b ∧ b ≤ 109
  hw : w ∈ statesL
  hl : R.length ≤ 2
  hr : ∀ r ∈ R, r.1 ∈ namesR ∧ -9 ≤ r.2 ∧ r.2 ≤ 40
def partT (r : Str × Int) : Str := r.1 ++ (":" : Str) ++ intT r.2
def toldS (R : List (Str × Int)) : Str := if R.isEmpty = true then "-" else Txt.join "," (R.map partT)
def partsS (a u : Str) (f b : Int) (w : Str) (R : List (Str × Int)) : List Str := [a, u, intT f, intT b, w, toldS R]
def lineS (a u : Str) (f b : Int) (w : Str) (R : List (Str × Int)) : Str := Txt.join " " (partsS a u f b w R)
theorem wl_free : ∀ z ∈ wordsL, 32 ∉ tl z ∧ 44 ∉ tl z ∧ z.length ≤ 3 ∧ (∀ c ∈ tl z, c < 128) := by decide +kernel
theorem ul_free : ∀ z ∈ unitsL, 32 ∉ tl z ∧ 44 ∉ tl z ∧ z.length ≤ 3 ∧ (∀ c ∈ tl z, c < 128) := by decide +kernel
theorem sl_free : ∀ z ∈ statesL, 32 ∉ tl z ∧ 44 ∉ tl z ∧ z.length ≤ 4 ∧ (∀ c ∈ tl z, c < 128) := by decide +kernel
theorem nl_free : ∀ z ∈ namesR, 32 ∉ tl z ∧ 44 ∉ tl z ∧ 58 ∉ tl z ∧ z.length ≤ 2 ∧ 1 ≤ z.length ∧ (∀ c ∈ tl z, c < 128) := by decide +kernel
theorem small_abs {n : Int} (h : -1000 ≤ n ∧ n ≤ 1000) : n.natAbs < 10 ^ 18 := by omega
theorem intT_small {n : Int} (h : -1000 ≤ n ∧ n ≤ 1000) : (intT n).length ≤ 5 := intT_len (k := 4) (by decide) (by omega)
theorem tl_part (r : Str × Int) : tl (partT r) = tl r.1 ++ (58 :: tl (intT r.2)) := by
  unfold partT
  rw [TL.tl_append, TL.tl_append, List.append_assoc]
  rfl
theorem part_free {r : Str × Int} (h : r.1 ∈ namesR ∧ -9 ≤ r.2 ∧ r.2 ≤ 40) : 32 ∉ tl (partT r) ∧ 44 ∉ tl (partT r) ∧ (partT r).length ≤ 8 ∧ 3 ≤ (partT r).length ∧ (∀ c ∈ tl (partT r), c < 128) := by
  obtain ⟨h1, h2, h3⟩ := h
  obtain ⟨a1, a2, a3, a4, a5, a6⟩ := nl_free _ h1
  have il := intT_small (n := r.2) (by omega)
  have ln : (partT r).length = r.1.length + (1 + (intT r.2).length) := by
    rw [TL.len_tl, tl_part, List.length_append, List.length_cons, ← TL.len_tl, ← TL.len_tl]
    omega
  have ine : 1 ≤ (intT r.2).length := by
    rw [TL.len_tl, tl_intT]
    cases r.2 with
    | ofNat n => exact List.length_pos_iff.mpr (TL.numL_ne n)
    | negSucc m => show 1 ≤ (45 :: TL.numL (m + 1)).length; simp
  refine ⟨fun hm => ?_, fun hm => ?_, by omega, by omega, fun c hm => ?_⟩
  all_goals rw [tl_part] at hm; rcases List.mem_append.mp hm with hm | hm
  · exact a1 hm
  · rcases List.mem_cons.mp hm with e | hm
    · exact absurd e (by decide)
    · exact intT_free (by omega) hm
  · exact a2 hm
  · rcases List.mem_cons.mp hm with e | hm
    · exact absurd e (by decide)
    · exact intT_free (by omega) hm
  · exact a6 c hm
  · rcases List.mem_cons.mp hm with e | hm
    · omega
    · rcases intT_signs _ c hm with e | e <;> omega
theorem part_read {r : Str × Int} (h : r.1 ∈ namesR ∧ -9 ≤ r.2 ∧ r.2 ≤ 40) : partO (partT r) = some (rD r) := by
  have e : partT r = Txt.join ":" [r.1, intT r.2] := by rw [TL.join_eq]; rfl
  have sp : Txt.split (partT r) ":" = [r.1, intT r.2] := by
    rw [e]
    refine TL.split_join (s := 58) (S := []) rfl (by decide +kernel) (by simp) fun p hp => ?_
    rcases List.mem_cons.mp hp with rfl | hp
    · exact (nl_free _ h.1).2.2.1
    · rw [List.mem_singleton] at hp
      subst hp
      exact intT_free (by omega)
  unfold partO
  rw [sp]
  simp only [int_back (small_abs (n := r.2) (by omega))]
  rfl
theorem rights_read : ∀ {R : List (Str × Int)}, (∀ r ∈ R, r.1 ∈ namesR ∧ -9 ≤ r.2 ∧ r.2 ≤ 40) → rightsO (R.map partT) = some (R.map rD)
  | [], _ => rfl
  | r :: R, h => by
    rw [List.map_cons, rightsO]
    simp only [part_read (h r List.mem_cons_self), rights_read fun x hx => h x (List.mem_cons_of_mem _ hx)]
    rfl
theorem told_ne {R : List (Str × Int)} (hne : R ≠ []) (h : ∀ r ∈ R, r.1 ∈ namesR ∧ -9 ≤ r.2 ∧ r.2 ≤ 40) : Txt.join "," (R.map partT) ≠ "-" := by
  intro e
  obtain ⟨r, R', rfl⟩ := List.exists_cons_of_ne_nil hne
  have l := congrArg (fun z : Str => z.length) e
  have l : (Txt.join "," ((r :: R').map partT)).length = (("-" : Str)).length := l
  rw [TL.len_tl, tl_joinT, List.map_cons, List.map_cons] at l
  have g := joinL_head (S := tl ",") (p := tl (partT r)) (ps := (R'.map partT).map tl)
  rw [← TL.len_tl] at g
  have := (part_free (h r List.mem_cons_self)).2.2.2.1
  have e1 : (("-" : Str)).length = 1 := rfl
  omega
theorem told_words {R : List (Str × Int)} (h : ∀ r ∈ R, r.1 ∈ namesR ∧ -9 ≤ r.2 ∧ r.2 ≤ 40) : wordsR (toldS R) = R.map partT := by
  cases R with
  | nil => rfl
  | cons r R =>
    unfold toldS
    rw [if_neg (by simp)]
    unfold wordsR
    rw [if_neg (told_ne (by simp) h)]
    refine TL.split_join (s := 44) (S := []) rfl (by decide +kernel) (by simp) fun p hp => ?_
    obtain ⟨x, hx, rfl⟩ := List.mem_map.mp hp
    exact (part_free (h x hx)).2.1
theorem told_facts {R : List (Str × Int)} (hl : R.length ≤ 2) (h : ∀ r ∈ R, r.1 ∈ namesR ∧ -9 ≤ r.2 ∧ r.2 ≤ 40) : 32 ∉ tl (toldS R) ∧ (Txt.split (toldS R) ",").length ≤ 1000 ∧ (toldS R).length ≤ 30 ∧ (∀ c ∈ tl (toldS R), c < 128) := by
  cases R with
  | nil => decide +kernel
  | cons r R =>
    have ed : toldS (r :: R) = Txt.join "," ((r :: R).map partT) := by unfold toldS; rw [if_neg (by simp)]
    have ew := told_words h
    unfold wordsR at ew
    rw [if_neg (by rw [ed]; exact told_ne (by simp) h)] at ew
    have mm : ∀ c ∈ tl (toldS (r :: R)), c = 44 ∨ ∃ x ∈ (r :: R), c ∈ tl (partT x) := by
      intro c hc
      rw [ed, tl_joinT] at hc
      rcases joinL_mem hc with e | ⟨p, hp, hm⟩
      · exact .inl (by simpa using (show c ∈ [44] from e))
      · obtain ⟨z, hz, rfl⟩ := List.mem_map.mp hp
        obtain ⟨x, hx, rfl⟩ := List.mem_map.mp hz
        exact .inr ⟨x, hx, hm⟩
    refine ⟨fun hm => ?_, ?_, ?_, fun c hc => ?_⟩
    · rcases mm 32 hm with e | ⟨x, hx, e⟩
      · exact absurd e (by decide)
      · exact (part_free (h x hx)).1 e
    · rw [ew, List.length_map]
      omega
    · rw [ed, TL.len_tl, tl_joinT]
      refine Nat.le_trans (joinL_len _) ?_
      have b : ∀ x ∈ (r :: R), (tl (partT x)).length ≤ 8 := fun x hx => by rw [← TL.len_tl]; exact (part_free (h x hx)).2.2.1
      rw [List.map_map, List.map_map]
      have hb : ∀ (L : List (Str × Int)), (∀ x ∈ L, (tl (partT x)).length ≤ 8) → (L.map (((fun p => p.length + (tl ",").length) ∘ tl) ∘ partT)).sum ≤ 9 * L.length := by
        intro L
        induction L with
        | nil => intro _; simp
        | cons x L ih =>
          intro hx
          have := ih fun y hy => hx y (List.mem_cons_of_mem _ hy)
          have h0 := hx x List.mem_cons_self
          rw [List.map_cons, List.sum_cons, List.length_cons]
          have e1 : (tl ",").length = 1 := rfl
          show (tl (partT x)).length + (tl ",").length + _ ≤ _
          omega
      have := hb (r :: R) b
      omega
    · rcases mm c hc with e | ⟨x, hx, e⟩
      · omega
      · exact (part_free (h x hx)).2.2.2.2 c e
section
variable {a u w : Str} {f b : Int} {R : List (Str × Int)}
theorem parts_facts (h : RowIs a u f b w R) : ∀ p ∈ partsS a u f b w R, 32 ∉ tl p ∧ (Txt.split p ",").length ≤ 1000 ∧ p.length ≤ 30 ∧ (∀ c ∈ tl p, c < 128) := by
  obtain ⟨ha, hu, hf, hb, hw, hl, hr⟩ := h
  have one : ∀ {p : Str}, 44 ∉ tl p → (Txt.split p ",").length ≤ 1000 := fun hp => by
    rw [split_free (y := ",") (s := 44) (S := []) rfl (by decide +kernel) hp]
    show 1 ≤ 1000
    decide
  have num : ∀ {n : Int}, -1000 ≤ n ∧ n ≤ 1000 → 32 ∉ tl (intT n) ∧ (Txt.split (intT n) ",").length ≤ 1000 ∧ (intT n).length ≤ 30 ∧ (∀ c ∈ tl (intT n), c < 128) := fun {n} hn => by
    refine ⟨intT_free (by omega), one (intT_free (by omega)), Nat.le_trans (intT_small hn) (by decide), fun c hc => ?_⟩
    rcases intT_signs _ c hc with e | e <;> omega
  intro p hp
  unfold partsS at hp
  simp only [List.mem_cons, List.not_mem_nil, or_false] at hp
  rcases hp with rfl | rfl | rfl | rfl | rfl | rfl
  · obtain ⟨a1, a2, a3, a4⟩ := wl_free _ ha
    exact ⟨a1, one a2, by omega, a4⟩
  · obtain ⟨a1, a2, a3, a4⟩ := ul_free _ hu
    exact ⟨a1, one a2, by omega, a4⟩
  · exact num (by omega)
  · exact num (by omega)
  · obtain ⟨a1, a2, a3, a4⟩ := sl_free _ hw
    exact ⟨a1, one a2, by omega, a4⟩
  · exact told_facts hl hr
theorem line_split (h : RowIs a u f b w R) : Txt.split (lineS a u f b w R) " " = partsS a u f b w R :=
  TL.split_join (s := 32) (S := []) rfl (by decide +kernel) (by simp [partsS]) fun p hp => (parts_facts h p hp).1
theorem line_read (h : RowIs a u f b w R) : lineO (lineS a u f b w R) = some (rowD a u f b w R) := by
  unfold lineO
  rw [line_split h]
  unfold partsS
  have hw : w = "open" ∨ w = "shut" := by have := h.hw; simpa [statesL] using this
  simp only [if_pos hw, told_words h.hr, rights_read h.hr, int_back (small_abs (n := f) (by have := h.hf; omega)), int_back (small_abs (n := b) (by have := h.hb; omega))]
  rfl
theorem line_len (h : RowIs a u f b w R) : (lineS a u f b w R).length ≤ 186 := by
  unfold lineS
  rw [TL.len_tl, tl_joinT]
  refine Nat.le_trans (joinL_len _) ?_
  have g := fun p hp => (parts_facts h p hp).2.2.1
  have e1 : (tl " ").length = 1 := rfl
  have l0 := g a (by simp [partsS])
  have l1 := g u (by simp [partsS])
  have l2 := g (intT f) (by simp [partsS])
  have l3 := g (intT b) (by simp [partsS])
  have l4 := g w (by simp [partsS])
  have l5 := g (toldS R) (by simp [partsS])
  simp only [partsS, List.map_cons, List.map_nil, List.sum_cons, List.sum_nil, ← TL.len_tl]
  have e2 : ((" " : Str)).length = 1 := rfl
  omega
theorem line_ok (h : RowIs a u f b w R) : PyData.strOk (lineS a u f b w R) = true := strOk_small fun c hc => by
  unfold lineS at hc
  rw [tl_joinT] at hc
  rcases joinL_mem hc with e | ⟨p, hp, hm⟩
  · have : c = 32 := by simpa using (show c ∈ [32] from e)
    omega
  · obtain ⟨z, hz, rfl⟩ := List.mem_map.mp hp
    have := (parts_facts h z hz).2.2.2 c hm
    omega
theorem line_okLine (h : RowIs a u f b w R) : okLine (lineS a u f b w R) = true := by
  unfold okLine
  rw [Bool.and_eq_true, Bool.and_eq_true, decide_eq_true_eq, List.all_eq_true]
  refine ⟨Nat.le_trans (line_len h) (by decide), line_ok h, fun p hp => ?_⟩
  rw [line_split h] at hp
  exact decide_eq_true (parts_facts h p hp).2.1
end
end Z

set_option linter.all false
set_option autoImplicit false
set_option maxRecDepth 100000
set_option maxHeartbeats 4000000
/-! L77e: a row is drawn, told, read; its tables. -/
namespace Z
open PySem PySem.Spec PyProof.Rows L2 L2H
theorem lc_genM {α : Type} {it : PAx} {g : PGx} {tt : PTx} {te : PEx} {vs : List Nat} {s : Sl} {M M' : Ms} (e : α → W) (t : α → Bool) (f : α → PyData) (xs : List α) (hit : it s M = .ok (xs.map e) M') (hl : xs.length ≤ 1000) (h : ∀ x ∈ xs, ∃ s', g (e x) (wipeS s vs) M' = some s' ∧ tt s' M' = .ok (t x) M' ∧ (t x = true → te s' M' = .ok (.d (f x)) M')) :
    pDat (pLc it g tt te vs) s M = .ok (.d (.list ((xs.filter t).map f))) M' := by
  refine dat_ok (ws := (xs.filter t).map fun x => W.d (f x)) ?_ (by rw [show ((xs.filter t).map fun x => W.d (f x)) = ((xs.filter t).map f).map W.d by rw [List.map_map]; rfl]; exact allD_map _)
  unfold pLc
  rw [hit]
  simp only [R.bind]
  rw [if_pos (by rw [List.length_map]; exact Nat.le_trans hl (by decide)), lcL_gen e t f xs [] h, List.nil_append]
theorem lc_map {α : Type} {it : PAx} {g : PGx} {te : PEx} {vs : List Nat} {s : Sl} {M : Ms} (e : α → W) (f : α → PyData) (xs : List α) (hit : it s M = .ok (xs.map e) M) (hl : xs.length ≤ 1000) (h : ∀ x ∈ xs, ∃ s', g (e x) (wipeS s vs) M = some s' ∧ te s' M = .ok (.d (f x)) M) :
    pDat (pLc it g pYes te vs) s M = .ok (.d (.list (xs.map f))) M := by
  have z := lc_gen (tt := pYes) e (fun _ => true) f xs hit hl fun x hx => by
    obtain ⟨s', h1, h2⟩ := h x hx
    exact ⟨s', h1, rfl, fun _ => h2⟩
  rwa [List.filter_eq_self.mpr (fun _ _ => rfl)] at z
theorem elt_part {s : Sl} {M : Ms} {i j : Nat} {r : Str × Int} (h1 : s[i]? = some (some (.d (.str r.1)))) (h2 : s[j]? = some (some (.d (.int r.2)))) (h : r.1 ∈ namesR ∧ -9 ≤ r.2 ∧ r.2 ≤ 40) : pOp gAddS (pOp gAddS (pVar i) (pC (.str ":"))) (pCall gStrI (pCons (pVar j) (pNil))) s M = .ok (.d (.str (partT r))) M := by
  have l1 := (nl_free _ h.1).2.2.2.1
  have l2 := intT_small (n := r.2) (by omega)
  have e1 : ((":" : Str)).length = 1 := rfl
  have c1 : pOp gAddS (pVar i) (pC (.str ":")) s M = .ok (.d (.str (r.1 ++ (":" : Str)))) M := catE (var_ok h1) (M'' := M) rfl (by omega)
  refine catE c1 (strZ_ok (var_ok h2) (by omega)) ?_
  have e2 : (r.1 ++ (":" : Str)).length = r.1.length + 1 := by rw [TL.len_tl, TL.tl_append, List.length_append, ← TL.len_tl]; rfl
  omega
theorem told_len {R : List (Str × Int)} (hl : R.length ≤ 2) (h : ∀ r ∈ R, r.1 ∈ namesR ∧ -9 ≤ r.2 ∧ r.2 ≤ 40) : joinLen "," (R.map partT) ≤ 16777216 := by
  unfold joinLen
  have e1 : (("," : Str)).length = 1 := rfl
  rw [e1, List.length_map, List.map_map]
  have hb : ∀ (L : List (Str × Int)), (∀ x ∈ L, (partT x).length ≤ 8) → (L.map ((fun z : Str => z.length) ∘ partT)).sum ≤ 8 * L.length := by
    intro L
    induction L with
    | nil => intro _; simp
    | cons x L ih =>
      intro hx
      have := ih fun y hy => hx y (List.mem_cons_of_mem _ hy)
      have h0 := hx x List.mem_cons_self
      rw [List.map_cons, List.sum_cons, List.length_cons]
      show (partT x).length + _ ≤ _
      omega
  have := hb R fun x hx => (part_free (h x hx)).2.2.1
  omega
theorem line_jlen {a u w : Str} {f b : Int} {R : List (Str × Int)} (h : RowIs a u f b w R) : joinLen " " (partsS a u f b w R) ≤ 16777216 := by
  have g := fun p hp => (parts_facts h p hp).2.2.1
  have e1 : ((" " : Str)).length = 1 := rfl
  have l0 := g a (by simp [partsS])
  have l1 := g u (by simp [partsS])
  have l2 := g (intT f) (by simp [partsS])
  have l3 := g (intT b) (by simp [partsS])
  have l4 := g w (by simp [partsS])
  have l5 := g (toldS R) (by simp [partsS])
  unfold joinLen
  simp only [partsS, List.map_cons, List.map_nil, List.sum_cons, List.sum_nil, List.length_cons, List.length_nil]
  omega
theorem rdsIt {k : Nat} {R : List (Str × Int)} {s : Sl} {M : Ms} (h : s[k]? = some (some (.d (.list (R.map rD))))) : pItL (pVar k) s M = .ok (R.map fun r => W.d (rD r)) M := by
  unfold pItL
  rw [var_ok h]
  simp only [Z.R.bind, List.map_map]
  rfl
theorem rdsItT {k : Nat} {R : List (Str × Int)} {s : Sl} {M : Ms} (h : s[k]? = some (some (.d (.tuple (R.map rD))))) : pItT (pVar k) s M = .ok (R.map fun r => W.d (rD r)) M := by
  unfold pItT
  rw [var_ok h]
  simp only [Z.R.bind, List.map_map]
  rfl
theorem book_ok {a u w : Str} {f b : Int} {R : List (Str × Int)} {M : Ms} (h : RowIs a u f b w R) : f0_book_line [.d (rowD a u f b w R)] M = .ok (.d (.str (lineS a u f b w R))) M := by
  rw [run_book_line rfl]
  show O.toR (b_book_line [some (.d (rowD a u f b w R)), none, none, none, none, none, none, none, none, none] M) = _
  unfold b_book_line lc0_book_line
  rw [seq_nx (asg_ok (x := .d (rowD a u f b w R)) (s' := [some (.d (rowD a u f b w R)), some (.d (.str a)), some (.d (.str u)), some (.d (.int f)), some (.d (.int b)), some (.d (.str w)), some (.d (.tuple (R.map rD))), none, none, none]) (M' := M) rfl rfl)]
  have hl := h.hl
  have lc := lc_map (it := pItT (pVar 6)) (g := qTup 2 (qCons (qName 8) (qCons (qName 9) (qNil)))) (te := pOp gAddS (pOp gAddS (pVar 8) (pC (.str ":"))) (pCall gStrI (pCons (pVar 9) (pNil)))) (vs := [8, 9]) (s := [some (.d (rowD a u f b w R)), some (.d (.str a)), some (.d (.str u)), some (.d (.int f)), some (.d (.int b)), some (.d (.str w)), some (.d (.tuple (R.map rD))), none, none, none]) (M := M) (fun r => W.d (rD r)) (fun r => .str (partT r)) R (rdsItT rfl) (by omega) fun r hr => ⟨[some (.d (rowD a u f b w R)), some (.d (.str a)), some (.d (.str u)), some (.d (.int f)), some (.d (.int b)), some (.d (.str w)), some (.d (.tuple (R.map rD))), none, some (.d (.str r.1)), some (.d (.int r.2))], rfl, elt_part rfl rfl (h.hr r hr)⟩
  have t1 : pTru (pVar 6) [some (.d (rowD a u f b w R)), some (.d (.str a)), some (.d (.str u)), some (.d (.int f)), some (.d (.int b)), some (.d (.str w)), some (.d (.tuple (R.map rD))), none, none, none] M = .ok (!R.isEmpty) M := tru_ok (x := .d (.tuple (R.map rD))) rfl (by simp only [truth, List.isEmpty_map])
  have st : pSet 7 (pIfE (pTru (pVar 6)) (pJoin (pC (.str ",")) (pDat (pLc (pItT (pVar 6)) (qTup 2 (qCons (qName 8) (qCons (qName 9) (qNil)))) (pYes) (pOp gAddS (pOp gAddS (pVar 8) (pC (.str ":"))) (pCall gStrI (pCons (pVar 9) (pNil)))) [8, 9]))) (pC (.str "-"))) [some (.d (rowD a u f b w R)), some (.d (.str a)), some (.d (.str u)), some (.d (.int f)), some (.d (.int b)), some (.d (.str w)), some (.d (.tuple (R.map rD))), none, none, none] M = .nx [some (.d (rowD a u f b w R)), some (.d (.str a)), some (.d (.str u)), some (.d (.int f)), some (.d (.int b)), some (.d (.str w)), some (.d (.tuple (R.map rD))), some (.d (.str (toldS R))), none, none] M := by
    refine set_ok ?_
    unfold toldS
    cases he : R.isEmpty with
    | true =>
      rw [he] at t1
      rw [ife_ff t1, if_pos rfl]
      rfl
    | false =>
      rw [he] at t1
      rw [ife_tt t1, if_neg (by decide)]
      rw [show (R.map fun r => PyData.str (partT r)) = (R.map partT).map .str by rw [List.map_map]; rfl] at lc
      exact join_ok (M' := M) rfl lc (told_len h.hl h.hr)
  rw [seq_nx st]
  have jn : pJoin (pC (.str " ")) (pDat (pLst (pCons (pVar 1) (pCons (pVar 2) (pCons (pCall gStrI (pCons (pVar 3) (pNil))) (pCons (pCall gStrI (pCons (pVar 4) (pNil))) (pCons (pVar 5) (pCons (pVar 7) (pNil))))))))) [some (.d (rowD a u f b w R)), some (.d (.str a)), some (.d (.str u)), some (.d (.int f)), some (.d (.int b)), some (.d (.str w)), some (.d (.tuple (R.map rD))), some (.d (.str (toldS R))), none, none] M = .ok (.d (.str (lineS a u f b w R))) M := by
    refine join_ok (ys := partsS a u f b w R) (M' := M) rfl (dat_ok (ws := (partsS a u f b w R).map fun z => W.d (.str z)) (lst_ok ?_ (by show 6 ≤ 1000; decide)) (allD_strs (partsS a u f b w R))) (line_jlen h)
    exact cons_ok (x := .d (.str a)) (M1 := M) rfl (cons_ok (x := .d (.str u)) (M1 := M) rfl (cons_ok (strZ_ok (n := f) (M' := M) rfl (by have := h.hf; omega)) (cons_ok (strZ_ok (n := b) (M' := M) rfl (by have := h.hb; omega)) (cons_ok (x := .d (.str w)) (M1 := M) rfl (cons_ok (x := .d (.str (toldS R))) (M1 := M) rfl nil_ok)))))
  rw [ret_ok jn]
  rfl
/-! ### drawing a row -/
theorem rights_draw {C : Addr} {s : Sl} {M : Ms} (hB : Bs s) (hM : PoolOk M) : ∃ (R : List (Str × Int)) (M' : Ms), pDat (lc5__law_run C) s M = .ok (.d (.list (R.map rD))) M' ∧ R.length ≤ 2 ∧ (∀ r ∈ R, r.1 ∈ namesR ∧ -9 ≤ r.2 ∧ r.2 ≤ 40) ∧ Only0 M M' := by
  obtain ⟨v, M1, e1, v0, v1, o1⟩ := drawJ (s := s) (j := 1) (m := 50) hM hB.s1 (by decide) (by decide)
  obtain ⟨k, M2, e2, k0, k1, o2⟩ := drawJ (s := s) (j := 1) (m := 3) o1.1 hB.s1 (by decide) (by decide)
  obtain ⟨n, rfl⟩ := Int.eq_ofNat_of_zero_le k0
  have ls : pDat (pLst (pCons (pTup (pCons (pC (.str "x")) (pCons (pOp gSubI (pCallG f__law_draw [] (pCons (pVar 1) (pCons (pC (.int 50)) (pNil)))) (pC (.int 9))) (pNil)))) (pCons (pTup (pCons (pC (.str "yy")) (pCons (pC (.int 7)) (pNil)))) (pNil)))) s M = .ok (.d (.list ([(("x" : Str), v - 9), (("yy" : Str), (7 : Int))].map rD))) M1 := by
    refine dat_ok (ws := [.d (rD ("x", v - 9)), .d (rD ("yy", 7))]) (lst_ok (cons_ok (M1 := M1) (tup_ok (ds := [.str "x", .int (v - 9)]) (cons_ok (M1 := M) rfl (cons_ok (sub_ok (M'' := M1) e1 rfl) nil_ok)) (by show 2 ≤ 1000; decide)) (cons_ok (M1 := M1) (tup_ok (ds := [.str "yy", .int 7]) rfl (by show 2 ≤ 1000; decide)) nil_ok)) (by show 2 ≤ 1000; decide)) rfl
  have sl := slL_to ls e2
  rw [← List.map_take] at sl
  have hL : ∀ r ∈ [(("x" : Str), v - 9), (("yy" : Str), (7 : Int))].take n, r.1 ∈ namesR ∧ -9 ≤ r.2 ∧ r.2 ≤ 40 := fun r hr => by
    have := List.mem_of_mem_take hr
    simp only [List.mem_cons, List.not_mem_nil, or_false] at this
    rcases this with rfl | rfl
    · exact ⟨by show ("x" : Str) ∈ namesR; decide, by show -9 ≤ v - 9; omega, by show v - 9 ≤ 40; omega⟩
    · exact ⟨by show ("yy" : Str) ∈ namesR; decide, by decide, by decide⟩
  have hLl : ([(("x" : Str), v - 9), (("yy" : Str), (7 : Int))].take n).length ≤ 2 := by rw [List.length_take]; exact Nat.min_le_right _ _
  generalize [(("x" : Str), v - 9), (("yy" : Str), (7 : Int))].take n = L at sl hL hLl
  have lc := lc_genM (it := pItL (pDat (pSlL (pDat (pLst (pCons (pTup (pCons (pC (.str "x")) (pCons (pOp gSubI (pCallG f__law_draw [] (pCons (pVar 1) (pCons (pC (.int 50)) (pNil)))) (pC (.int 9))) (pNil)))) (pCons (pTup (pCons (pC (.str "yy")) (pCons (pC (.int 7)) (pNil)))) (pNil))))) (pNo) (pSo (pCallG f__law_draw [] (pCons (pVar 1) (pCons (pC (.int 3)) (pNil)))))))) (g := qName 22) (tt := pB (pOp gNeD (pOp gIx (pVar 22) (pC (.int 1))) (pC (.int 0)))) (te := pVar 22) (vs := [22]) (s := s) (M := M) (M' := M2) (fun r => W.d (rD r)) (fun r => !decide (r.2 = 0)) rD L (by
      unfold pItL
      rw [sl]
      simp only [R.bind, List.map_map]
      rfl) (by omega) fun r hr => by
    have v22 : ((wipeS s [22]).set 22 (some (W.d (rD r))))[22]? = some (some (.d (rD r))) := set_get (by simp [wipeS, hB.len])
    exact ⟨_, rfl, neI_ok (ixT_ok (i := 1) (ds := [.str r.1, .int r.2]) (var_ok v22) rfl) rfl, fun _ => var_ok v22⟩
  exact ⟨L.filter fun r => !decide (r.2 = 0), M2, lc, Nat.le_trans (List.length_filter_le _ _) hLl, fun r hr => hL r (List.mem_filter.mp hr).1, o1.trans o2⟩
theorem row_draw {s : Sl} {M : Ms} {R : List (Str × Int)} (hB : Bs s) (hM : PoolOk M) (h12 : s[12]? = some (some (.d (.list (R.map rD))))) (hl : R.length ≤ 2) (hr : ∀ r ∈ R, r.1 ∈ namesR ∧ -9 ≤ r.2 ∧ r.2 ≤ 40) :
    ∃ a u f b w M', pTup (pCons (pCallG f__law_pick [] (pCons (pVar 1) (pCons (pVar 2) (pNil)))) (pCons (pCallG f__law_pick [] (pCons (pVar 1) (pCons (pDat (pLst (pCons (pC (.str "u")) (pCons (pC (.str "kg")) (pNil))))) (pNil)))) (pCons (pOp gSubI (pC (.int 0)) (pCallG f__law_draw [] (pCons (pVar 1) (pCons (pC (.int 90)) (pNil))))) (pCons (pOp gSubI (pCallG f__law_draw [] (pCons (pVar 1) (pCons (pC (.int 200)) (pNil)))) (pC (.int 90))) (pCons (pCallG f__law_pick [] (pCons (pVar 1) (pCons (pDat (pLst (pCons (pC (.str "open")) (pCons (pC (.str "shut")) (pNil))))) (pNil)))) (pCons (pCall gTuple (pCons (pVar 12) (pNil))) (pNil))))))) s M = .ok (.d (rowD a u f b w R)) M' ∧ RowIs a u f b w R ∧ Only0 M M' := by
  obtain ⟨d1, M1, m1, e1, o1⟩ := pickJ (s := s) (j := 1) (ds := wordsL.map .str) (pe := pVar 2) (M1 := M) hM hB.s1 (var_ok hB.s2) (by show 1 ≤ 8; decide) (by show 8 ≤ 1000000; decide)
  obtain ⟨d2, M2, m2, e2, o2⟩ := pickJ (s := s) (j := 1) (ds := unitsL.map .str) (pe := pDat (pLst (pCons (pC (.str "u")) (pCons (pC (.str "kg")) (pNil))))) (M1 := M1) o1.1 hB.s1 rfl (by show 1 ≤ 2; decide) (by show 2 ≤ 1000000; decide)
  obtain ⟨v3, M3, e3, a3, b3, o3⟩ := drawJ (s := s) (j := 1) (m := 90) o2.1 hB.s1 (by decide) (by decide)
  obtain ⟨v4, M4, e4, a4, b4, o4⟩ := drawJ (s := s) (j := 1) (m := 200) o3.1 hB.s1 (by decide) (by decide)
  obtain ⟨d5, M5, m5, e5, o5⟩ := pickJ (s := s) (j := 1) (ds := statesL.map .str) (pe := pDat (pLst (pCons (pC (.str "open")) (pCons (pC (.str "shut")) (pNil))))) (M1 := M4) o4.1 hB.s1 rfl (by show 1 ≤ 2; decide) (by show 2 ≤ 1000000; decide)
  obtain ⟨a, ha, rfl⟩ := List.mem_map.mp m1
  obtain ⟨u, hu, rfl⟩ := List.mem_map.mp m2
  obtain ⟨w, hw, rfl⟩ := List.mem_map.mp m5
  have tp : pCall gTuple (pCons (pVar 12) (pNil)) s M5 = .ok (.d (.tuple (R.map rD))) M5 := by
    rw [call1 (var_ok h12)]
    simp [gTuple, view]
  refine ⟨a, u, 0 - v3, v4 - 90, w, M5, tup_ok (ds := [.str a, .str u, .int (0 - v3), .int (v4 - 90), .str w, .tuple (R.map rD)]) (cons_ok e1 (cons_ok e2 (cons_ok (sub_ok (M' := M2) rfl e3) (cons_ok (sub_ok (M'' := M4) e4 rfl) (cons_ok e5 (cons_ok tp nil_ok)))))) (by show 6 ≤ 1000; decide), ⟨ha, hu, by omega, by omega, hw, hl, hr⟩, ((o1.trans o2).trans (o3.trans o4)).trans o5⟩
/-! ### its tables -/
theorem acc_words : ∀ a ∈ wordsL, okText a = true ∧ okText (homeS a) = true ∧ (Txt.split a ".")[0]? = some (homeS a) ∧ PyData.strOk (homeS a) = true := by decide +kernel
theorem units_ok : ∀ z ∈ unitsL, okText z = true ∧ PyData.strOk z = true := by decide +kernel
theorem states_ok : ∀ z ∈ statesL, okText z = true ∧ PyData.strOk z = true := by decide +kernel
theorem namesR_ok : ∀ z ∈ namesR, okText z = true ∧ PyData.strOk z = true := by decide +kernel
theorem okInt_small {n : Int} (h : -1000 ≤ n ∧ n ≤ 1000) : okInt n = true := by
  unfold okInt
  rw [Bool.and_eq_true, decide_eq_true_eq, decide_eq_true_eq]
  omega
section
variable {a u w : Str} {f b : Int} {R : List (Str × Int)}
theorem row_acc (h : RowIs a u f b w R) : accB a u f b w = true := by
  obtain ⟨ha, hu, hf, hb, hw, _, _⟩ := h
  obtain ⟨a1, a2, _, _⟩ := acc_words a ha
  unfold accB
  rw [a1, a2, (units_ok u hu).1, (states_ok w hw).1, okInt_small (n := f) (by omega), okInt_small (n := b) (by omega)]
  rfl
theorem row_rights (h : RowIs a u f b w R) : R.all (rightB a) = true := by
  rw [List.all_eq_true]
  intro r hr
  obtain ⟨h1, h2, h3⟩ := h.hr r hr
  unfold rightB
  rw [(acc_words a h.ha).1, (namesR_ok _ h1).1, okInt_small (n := r.2) (by omega)]
  rfl
theorem row_tabs {C : Addr} {M : Ms} (h : RowIs a u f b w R) : f0_tables_by_lines C [.d (.list [.str (lineS a u f b w R)])] M = .ok (.r (M.length + 12)) (M ++ ALL C M.length [.d (accD a u f b w)] (R.map fun r => W.d (rightD a r))) :=
  (tabs_ok (line_okLine h) (line_read h) (Nat.le_trans (wl_free a h.ha).2.2.1 (by decide)) (Nat.le_trans (ul_free u h.hu).2.2.1 (by decide)) (Nat.le_trans (sl_free w h.hw).2.2.1 (by decide)) (Nat.le_trans h.hl (by decide)) fun r hr => Nat.le_trans (nl_free _ (h.hr r hr).1).2.2.2.1 (by decide)).1 (row_acc h) (row_rights h)
theorem row_same (h : RowIs a u f b w R) : sameOk 5 (rowD a u f b w R) = true := by
  have k1 := words_ok a h.ha
  have k2 := (units_ok u h.hu).2
  have k3 := (states_ok w h.hw).2
  have hl := h.hl
  have k4 : sameAll 3 (R.map rD) = true := sameAll_of fun d hd => by
    obtain ⟨r, hr, rfl⟩ := List.mem_map.mp hd
    have := (namesR_ok _ (h.hr r hr).1).2
    simp [rD, sameOk, sameAll, this]
  have k5 : R.length ≤ 1000000 := by omega
  simp [rowD, sameOk, sameAll, k1, k2, k3, k4, k5]
theorem acc_same (h : RowIs a u f b w R) : sameOk 5 (.list [accD a u f b w]) = true := by
  have k1 := words_ok a h.ha
  have k2 := (units_ok u h.hu).2
  have k3 := (states_ok w h.hw).2
  have k4 := (acc_words a h.ha).2.2.2
  simp [accD, sameOk, sameAll, k1, k2, k3, k4]
theorem rights_same (h : RowIs a u f b w R) : sameOk 5 (.list (R.map (rightD a))) = true := by
  have k1 := words_ok a h.ha
  have hl := h.hl
  have k4 : sameAll 4 (R.map (rightD a)) = true := sameAll_of fun d hd => by
    obtain ⟨r, hr, rfl⟩ := List.mem_map.mp hd
    have := (namesR_ok _ (h.hr r hr).1).2
    simp [rightD, sameOk, sameAll, this, k1]
  have k5 : R.length ≤ 1000000 := by omega
  simp [sameOk, k4, k5]
end
end Z

set_option linter.all false
set_option autoImplicit false
set_option maxRecDepth 100000
set_option maxHeartbeats 4000000
/-! L77f: what is refused; the whole run. -/
namespace Z
open PySem PySem.Spec PyProof.Rows L2 L2H
/-! ### what is refused -/
def wrong1L : List Str := ["", "-", "-0", "05", "+5", "5 ", "1.0", "a", "1234567890123456789", "--5"]
def wrong2L : List Str := ["", "a.b u 0 0 open", "a.b u 0 0 open - x", "a.b u 0 0 ajar -", "a.b u x 0 open -", "a.b u 0 05 open -", "a.b u 0 0 open x", "a.b u 0 0 open x:1:2", "a.b u 0 0 open x:"]
theorem wrong1_bad : ∀ z ∈ wrong1L, (z.length ≤ 1000000 ∧ PyData.strOk z = true) ∧ (intO z).isNone = true := by decide +kernel
theorem wrong2_bad : ∀ z ∈ wrong2L, okLine z = true ∧ (lineO z).isNone = true := by decide +kernel
def x61 : Str := Txt.join "" (List.replicate 61 "x")
def big61 : Str := "a.b u 0 0 open " ++ x61 ++ (":1" : Str)
def tick : Str := "a'b u 0 0 open -"
theorem big_line : okLine big61 = true := by decide +kernel
theorem big_read : lineO big61 = some (rowD "a.b" "u" 0 0 "open" [(x61, 1)]) := by first | decide +kernel | kernel_rfl
theorem tick_line : okLine tick = true := by decide +kernel
theorem tick_read : lineO tick = some (rowD "a'b" "u" 0 0 "open" []) := by first | decide +kernel | kernel_rfl
theorem tick_acc : accB "a'b" "u" 0 0 "open" = false := by decide +kernel
theorem big_right : rightB "a.b" (x61, 1) = false := by decide +kernel
theorem x61_len : x61.length = 61 := by decide +kernel
theorem big_bad : refB 2 big61 := .inr (.inr ⟨rfl, big_line, .inr ⟨"a.b", "u", 0, 0, "open", [(x61, 1)], big_read, ⟨by decide, by decide, by decide, by decide, fun r hr => by
  rw [List.mem_singleton] at hr
  subst hr
  show x61.length ≤ 1000
  rw [x61_len]
  decide⟩, by rw [List.all_cons, big_right, Bool.false_and, Bool.and_false]⟩⟩)
theorem tick_bad : refB 2 tick := .inr (.inr ⟨rfl, tick_line, .inr ⟨"a'b", "u", 0, 0, "open", [], tick_read, ⟨by decide, by decide, by decide, by decide, fun r hr => by cases hr⟩, by rw [tick_acc, Bool.false_and]⟩⟩)
theorem none_of {α : Type} {o : Option α} (h : o.isNone = true) : o = none := by cases o with | none => rfl | some _ => cases h
theorem w1_bad {z : Str} (h : z ∈ wrong1L) : refB 1 z := .inr (.inl ⟨rfl, (wrong1_bad z h).1, none_of (wrong1_bad z h).2⟩)
theorem w2_bad0 {z : Str} (h : z ∈ wrong2L) : refB 0 z := .inl ⟨rfl, (wrong2_bad z h).1, none_of (wrong2_bad z h).2⟩
theorem w2_bad2 {z : Str} (h : z ∈ wrong2L) : refB 2 z := .inr (.inr ⟨rfl, (wrong2_bad z h).1, .inl (none_of (wrong2_bad z h).2)⟩)
theorem ref_ok {c : Int} {z : Str} {p : PEx} {s : Sl} {M : Ms} (h : p s M = .ok (.d (.str z)) M) (hb : refB c z) : pCallQN q__law_refused (pCons (pC (.int c)) (pCons p (pNil))) s M = .ok (.d (.bool true)) M := by
  unfold pCallQN
  rw [cons_ok (x := .d (.int c)) (M1 := M) rfl (cons_ok h nil_ok)]
  have q : q__law_refused [.int c, .str z] = .ok (.bool true) := by simp only [q__law_refused]; rw [if_pos hb]
  simp only [R.bind, show allD [W.d (.int c), .d (.str z)] = some [.int c, .str z] from rfl, q]
theorem wrongs1 {C : Addr} {M : Ms} : ∀ (zs : List Str) (s : Sl), s.length = 24 → (∀ z ∈ zs, z ∈ wrong1L) → ∃ s', forL (qName 18) (lp2__law_run C) (zs.map fun z => W.d (.str z)) s M = .nx s' M ∧ s'.length = 24
  | [], s, hl, _ => ⟨s, rfl, hl⟩
  | z :: zs, s, hl, hz => by
    obtain ⟨s', e, hl'⟩ := wrongs1 (C := C) (M := M) zs (s.set 18 (some (.d (.str z)))) (by rw [List.length_set]; exact hl) fun x hx => hz x (List.mem_cons_of_mem _ hx)
    refine ⟨s', ?_, hl'⟩
    rw [List.map_cons, forL, show qName 18 (W.d (.str z)) s M = some (s.set 18 (some (.d (.str z)))) from rfl]
    have v : pVar 18 (s.set 18 (some (.d (.str z)))) M = .ok (.d (.str z)) M := var_ok (set_get (by omega))
    have st : lp2__law_run C (s.set 18 (some (.d (.str z)))) M = .nx (s.set 18 (some (.d (.str z)))) M := by
      unfold lp2__law_run
      rw [if_ff (not_ok (tru_ok (ref_ok v (w1_bad (hz z List.mem_cons_self))) rfl))]
      rfl
    simp only [st]
    exact e
theorem wrongs2 {C : Addr} {M : Ms} : ∀ (zs : List Str) (s : Sl), s.length = 24 → (∀ z ∈ zs, z ∈ wrong2L) → ∃ s', forL (qName 18) (lp1__law_run C) (zs.map fun z => W.d (.str z)) s M = .nx s' M ∧ s'.length = 24
  | [], s, hl, _ => ⟨s, rfl, hl⟩
  | z :: zs, s, hl, hz => by
    obtain ⟨s', e, hl'⟩ := wrongs2 (C := C) (M := M) zs (s.set 18 (some (.d (.str z)))) (by rw [List.length_set]; exact hl) fun x hx => hz x (List.mem_cons_of_mem _ hx)
    refine ⟨s', ?_, hl'⟩
    rw [List.map_cons, forL, show qName 18 (W.d (.str z)) s M = some (s.set 18 (some (.d (.str z)))) from rfl]
    have v : pVar 18 (s.set 18 (some (.d (.str z)))) M = .ok (.d (.str z)) M := var_ok (set_get (by omega))
    have st : lp1__law_run C (s.set 18 (some (.d (.str z)))) M = .nx (s.set 18 (some (.d (.str z)))) M := by
      unfold lp1__law_run
      rw [if_ff (M' := M) (by rw [or_ff (not_ok (tru_ok (ref_ok v (w2_bad0 (hz z List.mem_cons_self))) rfl))]; exact not_ok (tru_ok (ref_ok v (w2_bad2 (hz z List.mem_cons_self))) rfl))]
      rfl
    simp only [st]
    exact e
theorem last_ok {C : Addr} {s : Sl} {M : Ms} : pAndV (pCallQN q__law_refused (pCons (pC (.int 2)) (pCons (pOp gAddS (pOp gAddS (pC (.str "a.b u 0 0 open ")) (pJoin (pC (.str "")) (pDat (lc0__law_run C)))) (pC (.str ":1"))) (pNil)))) (pCallQN q__law_refused (pCons (pC (.int 2)) (pCons (pC (.str "a'b u 0 0 open -")) (pNil)))) s M = .ok (.d (.bool true)) M := by
  have lc : pDat (lc0__law_run C) s M = .ok (.d (.list ((List.range 61).map fun _ => .str "x"))) M := by
    refine lc_map (fun i : Nat => W.d (.int (0 + (i : Nat)))) (fun _ => .str "x") (List.range 61) (rng1_ok (n := 61) rfl (by decide)) (by rw [List.length_range]; decide) fun i _ => ⟨_, rfl, rfl⟩
  rw [show ((List.range 61).map fun _ => PyData.str "x") = (List.replicate 61 ("x" : Str)).map .str from rfl] at lc
  have jn : pJoin (pC (.str "")) (pDat (lc0__law_run C)) s M = .ok (.d (.str x61)) M := join_ok (M' := M) rfl lc (by decide +kernel)
  have c1 : pOp gAddS (pC (.str "a.b u 0 0 open ")) (pJoin (pC (.str "")) (pDat (lc0__law_run C))) s M = .ok (.d (.str ("a.b u 0 0 open " ++ x61))) M := catE (M' := M) rfl jn (by rw [x61_len]; decide)
  have c2 : pOp gAddS (pOp gAddS (pC (.str "a.b u 0 0 open ")) (pJoin (pC (.str "")) (pDat (lc0__law_run C)))) (pC (.str ":1")) s M = .ok (.d (.str big61)) M := catE c1 (M'' := M) rfl (by decide +kernel)
  rw [andV_tt (ref_ok c2 big_bad) rfl]
  exact ref_ok (z := tick) rfl tick_bad
/-! ### the run -/
def law0 : Sl := none :: some (.r 0) :: List.replicate (N__law_run.length - 2) none
theorem sortable_strs (zs : List Str) : sortable (zs.map .str) = true := by
  unfold sortable allAlike
  simp only [Bool.and_eq_true, Bool.or_eq_true, List.all_eq_true]
  refine ⟨⟨fun d hd e he => ?_, .inr fun d hd => ?_⟩, fun d hd => ?_⟩
  · obtain ⟨i, _, rfl⟩ := List.mem_map.mp hd
    obtain ⟨j, _, rfl⟩ := List.mem_map.mp he
    first
    | rfl
    | simp [PySem.W.alike]
  · obtain ⟨i, _, rfl⟩ := List.mem_map.mp hd
    rfl
  · obtain ⟨i, _, rfl⟩ := List.mem_map.mp hd
    rfl
theorem every_eval {C : Addr} {s : Sl} {M : Ms} (hl : s.length = 24) (h2 : s[2]? = some (some (.d (.list (wordsL.map .str))))) : pDat (pCallL gSorted (pCons (pDat (pCat (pDat (pCat (pVar 2) (pDat ((lc18__law_run C))))) (pDat (pLst (pCons (pC (.str "")) (pCons (pC (.str "a")) (pCons (pC (.str "zz")) (pNil)))))))) (pNil))) s M = .ok (.d (.list (everyL.map .str))) M := by
  have lc : pDat (lc18__law_run C) s M = .ok (.d (.list (wordsA.map .str))) M := by
    have z := lc_map (it := pItL (pVar 2)) (g := qName 8) (te := pOp gAddS (pVar 8) (pC (.str "a"))) (vs := [8]) (s := s) (M := M) (fun z => W.d (.str z)) (fun z => .str (z ++ ("a" : Str))) wordsL (strsIt h2) (by show 8 ≤ 1000; decide) fun z hz => ⟨_, rfl, catE (M' := M) (M'' := M) (var_ok (set_get (by simp [wipeS, hl]))) rfl (by have := (wl_free z hz).2.2.1; have e1 : ((("a" : Str)).length) = 1 := rfl; omega)⟩
    rw [show (wordsL.map fun z => PyData.str (z ++ ("a" : Str))) = wordsA.map .str by unfold wordsA; rw [List.map_map]; rfl] at z
    exact z
  have c1 : pDat (pCat (pVar 2) (pDat (lc18__law_run C))) s M = .ok (.d (.list (wordsL.map PyData.str ++ wordsA.map .str))) M := catD_ok (var_ok h2) lc (by show 16 ≤ 1000000; decide)
  have c2 : pDat (pCat (pDat (pCat (pVar 2) (pDat (lc18__law_run C)))) (pDat (pLst (pCons (pC (.str "")) (pCons (pC (.str "a")) (pCons (pC (.str "zz")) (pNil))))))) s M = .ok (.d (.list ((wordsL.map PyData.str ++ wordsA.map .str) ++ edgeL.map .str))) M := catD_ok c1 rfl (by show 19 ≤ 1000000; decide)
  rw [← List.map_append, ← List.map_append] at c2
  refine dat_ok (ws := (everyL.map PyData.str).map W.d) ?_ (allD_map _)
  unfold pCallL
  rw [cons_ok c2 nil_ok]
  show (match some (PyData.list ((wordsL ++ wordsA ++ edgeL).map .str)) with | some (.list ds) => if sortable ds = true then R.ok ((sortD ds).map W.d) M else .stuck | _ => .stuck) = _
  dsimp only
  rw [if_pos (sortable_strs _), sortS_map]
  rfl
theorem num_draw {s : Sl} {M : Ms} (h1 : s[1]? = some (some (.r 0))) (hM : PoolOk M) : ∃ (n : Int) (M' : Ms), pCallG f__law_pick [] (pCons (pVar 1) (pCons (pDat (pLst (pCons (pC (.int 0)) (pCons (pC (.int 5)) (pCons (pNeg (pC (.int 5))) (pCons (pOp gPowI (pC (.int 10)) (pC (.int 17))) (pCons (pOp gSubI (pC (.int 0)) (pOp gPowI (pC (.int 10)) (pC (.int 17)))) (pCons (pOp gSubI (pCallG f__law_draw [] (pCons (pVar 1) (pCons (pC (.int 1000)) (pNil)))) (pC (.int 500))) (pNil))))))))) (pNil))) s M = .ok (.d (.int n)) M' ∧ n.natAbs < 10 ^ 18 := by
  obtain ⟨v, M1, e1, v0, v1, o1⟩ := drawJ (s := s) (j := 1) (m := 1000) hM h1 (by decide) (by decide)
  have pw : pOp gPowI (pC (.int 10)) (pC (.int 17)) s M = .ok (.d (.int (10 ^ 17))) M := by
    rw [op_ok (x := .d (.int 10)) (y := .d (.int 17)) (M' := M) (M'' := M) rfl rfl]
    exact pow10_ok (j := 17) (by decide)
  have ls : pDat (pLst (pCons (pC (.int 0)) (pCons (pC (.int 5)) (pCons (pNeg (pC (.int 5))) (pCons (pOp gPowI (pC (.int 10)) (pC (.int 17))) (pCons (pOp gSubI (pC (.int 0)) (pOp gPowI (pC (.int 10)) (pC (.int 17)))) (pCons (pOp gSubI (pCallG f__law_draw [] (pCons (pVar 1) (pCons (pC (.int 1000)) (pNil)))) (pC (.int 500))) (pNil)))))))) s M = .ok (.d (.list ([0, 5, -5, 10 ^ 17, 0 - 10 ^ 17, v - 500].map .int))) M1 := by
    refine dat_ok (ws := [.d (.int 0), .d (.int 5), .d (.int (-5)), .d (.int (10 ^ 17)), .d (.int (0 - 10 ^ 17)), .d (.int (v - 500))]) (lst_ok (cons_ok (M1 := M) rfl (cons_ok (M1 := M) rfl (cons_ok (M1 := M) rfl (cons_ok pw (cons_ok (sub_ok (M' := M) rfl pw) (cons_ok (sub_ok (M'' := M1) e1 rfl) nil_ok)))))) (by show 6 ≤ 1000; decide)) rfl
  obtain ⟨d, M2, m, e2, _⟩ := pickJ (s := s) (j := 1) (M := M) o1.1 h1 ls (by show 1 ≤ 6; decide) (by show 6 ≤ 1000000; decide)
  obtain ⟨n, hn, rfl⟩ := List.mem_map.mp m
  refine ⟨n, M2, e2, ?_⟩
  simp only [List.mem_cons, List.not_mem_nil, or_false] at hn
  rcases hn with rfl | rfl | rfl | rfl | rfl | rfl
  · decide
  · decide
  · decide
  · decide
  · decide
  · omega
end Z

set_option linter.all false
set_option autoImplicit false
set_option maxRecDepth 100000
set_option maxHeartbeats 4000000
/-! L77g: the law is true. -/
namespace Z
open PySem PySem.Spec PyProof.Rows L2 L2H
structure Rw (a u : Str) (f b : Int) (w : Str) (R : List (Str × Int)) (s : Sl) : Prop where
  bs : Bs s
  s12 : s[12]? = some (some (.d (.list (R.map rD))))
  s13 : s[13]? = some (some (.d (rowD a u f b w R)))
  is : RowIs a u f b w R
theorem Rw.set {a u w : Str} {f b : Int} {R : List (Str × Int)} {s : Sl} {i : Nat} {x : Option W} (h : Rw a u f b w R s) (hi : 14 ≤ i) : Rw a u f b w R (s.set i x) :=
  ⟨h.bs.set (by omega), by rw [List.getElem?_set_ne (by omega)]; exact h.s12, by rw [List.getElem?_set_ne (by omega)]; exact h.s13, h.is⟩
section
variable {C : Addr} {a u w : Str} {f b : Int} {R : List (Str × Int)} {s : Sl} {M : Ms}
theorem fld_str {i : Nat} {k : Int} {z : Str} (hR : Rw a u f b w R s) (hk : ([PyData.str a, .str u, .int f, .int b, .str w, .tuple (R.map rD)])[i]? = some (.str z)) (he : k = (i : Int) := by rfl) : pOp gIx (pVar 13) (pC (.int k)) s M = .ok (.d (.str z)) M := ixT_ok (i := i) (ds := [.str a, .str u, .int f, .int b, .str w, .tuple (R.map rD)]) (var_ok hR.s13) hk he
theorem fld_int {i : Nat} {k z : Int} (hR : Rw a u f b w R s) (hk : ([PyData.str a, .str u, .int f, .int b, .str w, .tuple (R.map rD)])[i]? = some (.int z)) (he : k = (i : Int) := by rfl) : pOp gIx (pVar 13) (pC (.int k)) s M = .ok (.d (.int z)) M := ixT_ok (i := i) (ds := [.str a, .str u, .int f, .int b, .str w, .tuple (R.map rD)]) (var_ok hR.s13) hk he
theorem told_law (hR : Rw a u f b w R s) : pIfE (pB (pOp gGtI (pCall gLen (pCons (pVar 12) (pNil))) (pC (.int 0)))) (pJoin (pC (.str ",")) (pDat ((lc4__law_run C)))) (pC (.str "-")) s M = .ok (.d (.str (toldS R))) M := by
  have hl := hR.is.hl
  have lc : pDat (lc4__law_run C) s M = .ok (.d (.list ((R.map partT).map .str))) M := by
    have z := lc_map (it := pItL (pVar 12)) (g := qTup 2 (qCons (qName 23) (qCons (qName 17) (qNil)))) (te := pOp gAddS (pOp gAddS (pVar 23) (pC (.str ":"))) (pCall gStrI (pCons (pVar 17) (pNil)))) (vs := [23, 17]) (s := s) (M := M) (fun r => W.d (rD r)) (fun r => .str (partT r)) R (rdsIt hR.s12) (by omega) fun r hr => by
      have hl2 : (wipeS s [23, 17]).length = 24 := by simp [wipeS, hR.bs.len]
      refine ⟨((wipeS s [23, 17]).set 23 (some (.d (.str r.1)))).set 17 (some (.d (.int r.2))), rfl, elt_part ?_ ?_ (hR.is.hr r hr)⟩
      · rw [List.getElem?_set_ne (by decide)]
        exact set_get (by omega)
      · exact set_get (by rw [List.length_set]; omega)
    rw [show (R.map fun r => PyData.str (partT r)) = (R.map partT).map .str by rw [List.map_map]; rfl] at z
    exact z
  have t1 := gtI_ok (s := s) (M := M) (a := pCall gLen (pCons (pVar 12) (pNil))) (b := pC (.int 0)) (j := 0) (M'' := M) (len_list hR.s12) rfl
  rw [List.length_map] at t1
  unfold toldS
  cases R with
  | nil =>
    rw [ife_ff t1]
    rfl
  | cons r R =>
    rw [decide_eq_true (by rw [List.length_cons]; omega)] at t1
    rw [ife_tt t1, if_neg (by simp)]
    exact join_ok (M' := M) rfl lc (told_len hR.is.hl hR.is.hr)
theorem read_law (hR : Rw a u f b w R s) (h14 : s[14]? = some (some (.d (.str (lineS a u f b w R))))) (h15 : s[15]? = some (some (.d (.str (toldS R))))) :
    pOrT (pB (pOp gNeD (pVar 14) (pJoin (pC (.str " ")) (pDat (pLst (pCons (pOp gIx (pVar 13) (pC (.int 0))) (pCons (pOp gIx (pVar 13) (pC (.int 1))) (pCons (pCall gStrI (pCons (pOp gIx (pVar 13) (pC (.int 2))) (pNil))) (pCons (pCall gStrI (pCons (pOp gIx (pVar 13) (pC (.int 3))) (pNil))) (pCons (pOp gIx (pVar 13) (pC (.int 4))) (pCons (pVar 15) (pNil)))))))))))) (pNotT (pTru (pCallQ q__law_same [] (pCons (pCallQ q_read_book_line [] (pCons (pVar 14) (pNil))) (pCons (pVar 13) (pNil)))))) s M = .ok false M := by
  have jn : pJoin (pC (.str " ")) (pDat (pLst (pCons (pOp gIx (pVar 13) (pC (.int 0))) (pCons (pOp gIx (pVar 13) (pC (.int 1))) (pCons (pCall gStrI (pCons (pOp gIx (pVar 13) (pC (.int 2))) (pNil))) (pCons (pCall gStrI (pCons (pOp gIx (pVar 13) (pC (.int 3))) (pNil))) (pCons (pOp gIx (pVar 13) (pC (.int 4))) (pCons (pVar 15) (pNil))))))))) s M = .ok (.d (.str (lineS a u f b w R))) M := by
    refine join_ok (ys := partsS a u f b w R) (M' := M) rfl (dat_ok (ws := (partsS a u f b w R).map fun z => W.d (.str z)) (lst_ok ?_ (by show 6 ≤ 1000; decide)) (allD_strs (partsS a u f b w R))) (line_jlen hR.is)
    exact cons_ok (fld_str (i := 0) (z := a) hR rfl) (cons_ok (fld_str (i := 1) (z := u) hR rfl) (cons_ok (strZ_ok (fld_int (i := 2) (z := f) hR rfl) (by have := hR.is.hf; omega)) (cons_ok (strZ_ok (fld_int (i := 3) (z := b) hR rfl) (by have := hR.is.hb; omega)) (cons_ok (fld_str (i := 4) (z := w) hR rfl) (cons_ok (var_ok h15) nil_ok)))))
  have n1 := neS (var_ok h14) jn (line_ok hR.is) (line_ok hR.is)
  rw [decide_eq_true rfl] at n1
  rw [or_ff n1]
  refine same_true (d := rowD a u f b w R) (M1 := M) ?_ (var_ok hR.s13) (row_same hR.is)
  rw [call_data (ds := [.str (lineS a u f b w R)]) (cons_ok (var_ok h14) nil_ok)]
  have q : q_read_book_line [.str (lineS a u f b w R)] = .ok (rowD a u f b w R) := by simp only [q_read_book_line]; rw [if_pos (line_okLine hR.is), line_read hR.is]
  rw [q]
  rfl
theorem callN_ok {F : PF} {pa : PAx} {s : Sl} {M M' M'' : Ms} {ws : List W} {x : W} (h : pa s M = .ok ws M') (h2 : F ws M' = .ok x M'') : pCallN F pa s M = .ok x M'' := by
  unfold pCallN
  rw [h]
  simp only [R.bind, h2]
theorem one_line {z : Str} (h14 : s[14]? = some (some (.d (.str z)))) : pCons (pDat (pLst (pCons (pVar 14) (pNil)))) (pNil) s M = .ok [.d (.list [.str z])] M := cons_ok (dat_ok (ws := [.d (.str z)]) (lst_ok (cons_ok (var_ok h14) nil_ok) (by show 1 ≤ 1000; decide)) rfl) nil_ok
variable {N : Ms} {accs rts : List W}
theorem acc_law (hR : Rw a u f b w R s) (h16 : s[16]? = some (some (.r (N.length + 12)))) (hM : M = N ++ ALL C N.length [.d (accD a u f b w)] rts) :
    pNotT (pTru (pCallQ q__law_same [] (pCons (pMeth C "rows" ((f_Table_rows C)) [] (pGetD (pVar 16) (pC (.str "accounts"))) pNil) (pCons (pDat (pLst (pCons (pTup (pCons (pOp gIx (pVar 13) (pC (.int 0))) (pCons (pOp gIx (pDat (pSplit (pOp gIx (pVar 13) (pC (.int 0))) (pC (.str ".")))) (pC (.int 0))) (pCons (pOp gIx (pVar 13) (pC (.int 1))) (pCons (pOp gIx (pVar 13) (pC (.int 2))) (pCons (pOp gIx (pVar 13) (pC (.int 3))) (pCons (pOp gIx (pVar 13) (pC (.int 4))) (pNil)))))))) (pNil)))) (pNil))))) s M = .ok false M := by
  have hm : (wl_free a hR.is.ha).2.2.1 = (wl_free a hR.is.ha).2.2.1 := rfl
  have al := (wl_free a hR.is.ha).2.2.1
  have sp : pOp gIx (pDat (pSplit (pOp gIx (pVar 13) (pC (.int 0))) (pC (.str ".")))) (pC (.int 0)) s M = .ok (.d (.str (homeS a))) M := ixL_ok (n := 0) (split_ok (z := a) (fld_str (i := 0) (z := a) hR rfl) (by omega) (by decide)) rfl (by rw [List.getElem?_map, (acc_words a hR.is.ha).2.2.1]; rfl)
  have rh : pDat (pLst (pCons (pTup (pCons (pOp gIx (pVar 13) (pC (.int 0))) (pCons (pOp gIx (pDat (pSplit (pOp gIx (pVar 13) (pC (.int 0))) (pC (.str ".")))) (pC (.int 0))) (pCons (pOp gIx (pVar 13) (pC (.int 1))) (pCons (pOp gIx (pVar 13) (pC (.int 2))) (pCons (pOp gIx (pVar 13) (pC (.int 3))) (pCons (pOp gIx (pVar 13) (pC (.int 4))) (pNil)))))))) (pNil))) s M = .ok (.d (.list [accD a u f b w])) M :=
    dat_ok (ws := [.d (accD a u f b w)]) (lst_ok (cons_ok (tup_ok (ds := [.str a, .str (homeS a), .str u, .int f, .int b, .str w]) (cons_ok (fld_str (i := 0) (z := a) hR rfl) (cons_ok sp (cons_ok (fld_str (i := 1) (z := u) hR rfl) (cons_ok (fld_int (i := 2) (z := f) hR rfl) (cons_ok (fld_int (i := 3) (z := b) hR rfl) (cons_ok (fld_str (i := 4) (z := w) hR rfl) nil_ok)))))) (by show 6 ≤ 1000; decide)) nil_ok) (by show 1 ≤ 1000; decide)) rfl
  have lh : pMeth C "rows" ((f_Table_rows C)) [] (pGetD (pVar 16) (pC (.str "accounts"))) pNil s M = .ok (.d (.list [accD a u f b w])) M := by
    subst hM
    exact meth_ok (x := .r (N.length + 6)) (getD_ok (var_ok h16) (M2 := N ++ ALL C N.length [.d (accD a u f b w)] rts) rfl (dicOf_dic m12) rfl rfl) (noAtt_of m6 rfl) nil_ok (rows_ok m6 m8 rfl)
  exact same_true lh rh (acc_same hR.is)
theorem rights_law (hR : Rw a u f b w R s) (h16 : s[16]? = some (some (.r (N.length + 12)))) (hM : M = N ++ ALL C N.length accs (R.map fun r => W.d (rightD a r))) :
    pNotT (pTru (pCallQ q__law_same [] (pCons (pMeth C "rows" ((f_Table_rows C)) [] (pGetD (pVar 16) (pC (.str "rights"))) pNil) (pCons (pDat ((lc3__law_run C))) (pNil))))) s M = .ok false M := by
  have hl := hR.is.hl
  have rh : pDat (lc3__law_run C) s M = .ok (.d (.list (R.map (rightD a)))) M := by
    refine lc_map (fun r => W.d (rD r)) (rightD a) R (rdsIt hR.s12) (by omega) fun r hr => ?_
    have hl2 : (wipeS s [23, 17]).length = 24 := by simp [wipeS, hR.bs.len]
    have v23 : (((wipeS s [23, 17]).set 23 (some (W.d (.str r.1)))).set 17 (some (.d (.int r.2))))[23]? = some (some (.d (.str r.1))) := by
      rw [List.getElem?_set_ne (by decide)]
      exact set_get (by omega)
    have v17 : (((wipeS s [23, 17]).set 23 (some (W.d (.str r.1)))).set 17 (some (.d (.int r.2))))[17]? = some (some (.d (.int r.2))) := set_get (by rw [List.length_set]; omega)
    have v13 : (((wipeS s [23, 17]).set 23 (some (W.d (.str r.1)))).set 17 (some (.d (.int r.2))))[13]? = some (some (.d (rowD a u f b w R))) := by
      rw [List.getElem?_set_ne (by decide), List.getElem?_set_ne (by decide)]
      show ((s.set 17 none).set 23 none)[13]? = _
      rw [List.getElem?_set_ne (by decide), List.getElem?_set_ne (by decide)]
      exact hR.s13
    exact ⟨_, rfl, tup_ok (ds := [.str a, .str r.1, .int r.2]) (cons_ok (ixT_ok (i := 0) (ds := [.str a, .str u, .int f, .int b, .str w, .tuple (R.map rD)]) (var_ok v13) rfl) (cons_ok (var_ok v23) (cons_ok (var_ok v17) nil_ok))) (by show 3 ≤ 1000; decide)⟩
  have lh : pMeth C "rows" ((f_Table_rows C)) [] (pGetD (pVar 16) (pC (.str "rights"))) pNil s M = .ok (.d (.list (R.map (rightD a)))) M := by
    subst hM
    exact meth_ok (x := .r (N.length + 9)) (getD_ok (var_ok h16) (M2 := N ++ ALL C N.length accs (R.map fun r => W.d (rightD a r))) rfl (dicOf_dic m12) rfl rfl) (noAtt_of m9 rfl) nil_ok (rows_ok m9 m11 (by rw [List.map_map]; rfl))
  exact same_true lh rh (rights_same hR.is)
theorem m0 : (N ++ ALL C N.length accs rts)[N.length]? = some (.ins C [("_columns", .r (N.length + 1)), ("_rows", .r (N.length + 2))]) := gA0
theorem m2 : (N ++ ALL C N.length accs rts)[N.length + 2]? = some (.lst []) := gA (c := 2)
theorem m3 : (N ++ ALL C N.length accs rts)[N.length + 3]? = some (.ins C [("_columns", .r (N.length + 4)), ("_rows", .r (N.length + 5))]) := gA (c := 3)
theorem m5 : (N ++ ALL C N.length accs rts)[N.length + 5]? = some (.lst []) := gA (c := 5)
theorem counts_law (h16 : s[16]? = some (some (.r (N.length + 12)))) (hM : M = N ++ ALL C N.length accs rts) :
    pOrT (pB (pOp gNeD (pMeth C "count" ((f_Table_count C)) [] (pGetD (pVar 16) (pC (.str "posts"))) pNil) (pC (.int 0)))) (pOrT (pB (pOp gNeD (pMeth C "count" ((f_Table_count C)) [] (pGetD (pVar 16) (pC (.str "entries"))) pNil) (pC (.int 0)))) (pB (pOp gNeD (pMeth C "count" ((f_Table_count C)) [] (pGetD (pCallN (f_tables_by_lines C) (pCons (pDat (pLst (pNil))) (pNil))) (pC (.str "accounts"))) pNil) (pC (.int 0))))) s M = .ok false (M ++ ALL C M.length [] []) := by
  have c1 : pMeth C "count" ((f_Table_count C)) [] (pGetD (pVar 16) (pC (.str "posts"))) pNil s M = .ok (.d (.int ((0 : Nat) : Int))) M := by
    subst hM
    exact meth_ok (x := .r (N.length + 3)) (getD_ok (var_ok h16) (M2 := N ++ ALL C N.length accs rts) rfl (dicOf_dic m12) rfl rfl) (noAtt_of m3 rfl) nil_ok (count_ok m3 m5)
  have c2 : pMeth C "count" ((f_Table_count C)) [] (pGetD (pVar 16) (pC (.str "entries"))) pNil s M = .ok (.d (.int ((0 : Nat) : Int))) M := by
    subst hM
    exact meth_ok (x := .r N.length) (getD_ok (var_ok h16) (M2 := N ++ ALL C N.length accs rts) rfl (dicOf_dic m12) rfl rfl) (noAtt_of m0 rfl) nil_ok (count_ok m0 m2)
  have c3 : pMeth C "count" ((f_Table_count C)) [] (pGetD (pCallN (f_tables_by_lines C) (pCons (pDat (pLst (pNil))) (pNil))) (pC (.str "accounts"))) pNil s M = .ok (.d (.int ((0 : Nat) : Int))) (M ++ ALL C M.length [] []) := by
    have e1 : pCallN (f_tables_by_lines C) (pCons (pDat (pLst (pNil))) (pNil)) s M = .ok (.r (M.length + 12)) (M ++ ALL C M.length [] []) := callN_ok (ws := [.d (.list [])]) (M' := M) rfl tabs_nil
    exact meth_ok (x := .r (M.length + 6)) (getD_ok e1 (M2 := M ++ ALL C M.length [] []) rfl (dicOf_dic m12) rfl rfl) (noAtt_of m6 rfl) nil_ok (count_ok m6 m8)
  have n1 := neI_ok (b := pC (.int 0)) (j := 0) (M'' := M) c1 rfl
  have n2 := neI_ok (b := pC (.int 0)) (j := 0) (M'' := M) c2 rfl
  have n3 := neI_ok (b := pC (.int 0)) (j := 0) (M'' := M ++ ALL C M.length [] []) c3 rfl
  rw [or_ff n1, or_ff n2]
  exact n3
end
theorem law_true : ∀ (C : Addr) (ns : List Int), ns.length ≤ 63 → ∃ m, b__law_run C law0 [poolM ns 0 0 0 0] = .rt (.d (.bool true)) m := by
  intro C ns _
  have hM : PoolOk [poolM ns 0 0 0 0] := ⟨ns, 0, 0, 0, 0, rfl, by decide⟩
  generalize [poolM ns 0 0 0 0] = M at hM
  unfold b__law_run
  -- the names
  have e1 : pSet 2 (pDat (pLst (pCons (pC (.str "a.a")) (pCons (pC (.str "a.b")) (pCons (pC (.str "a.c")) (pCons (pC (.str "b.a")) (pCons (pC (.str "b.b")) (pCons (pC (.str "c.a")) (pCons (pC (.str "c.c")) (pCons (pC (.str "d.d")) (pNil))))))))))) law0 M = .nx (law0.set 2 (some (.d (.list (wordsL.map .str))))) M := set_ok rfl
  rw [seq_nx e1]
  have l1 : (law0.set 2 (some (W.d (.list (wordsL.map .str))))).length = 24 := rfl
  have g2 : (law0.set 2 (some (W.d (.list (wordsL.map .str)))))[2]? = some (some (.d (.list (wordsL.map .str)))) := rfl
  have g1 : (law0.set 2 (some (W.d (.list (wordsL.map .str)))))[1]? = some (some (.r 0)) := rfl
  generalize law0.set 2 (some (W.d (.list (wordsL.map .str)))) = s1 at l1 g2 g1
  rw [seq_nx (set_ok (every_eval (C := C) (M := M) l1 g2))]
  have B : Bs (s1.set 3 (some (.d (.list (everyL.map .str))))) := ⟨by rw [List.length_set]; exact l1, by rw [List.getElem?_set_ne (by decide)]; exact g1, by rw [List.getElem?_set_ne (by decide)]; exact g2, set_get (by omega)⟩
  generalize s1.set 3 (some (W.d (.list (everyL.map .str)))) = s2 at B
  -- the rounds
  obtain ⟨s3, M1, e3, B3, o1⟩ := rounds_ok (C := C) (rngW 0 5) s2 M B hM
  rw [seq_nx ((for_ok (rng1_ok (n := 5) rfl (by decide))).trans e3)]
  -- the row
  obtain ⟨R, M2, e4, hl, hr, o2⟩ := rights_draw (C := C) B3 o1.1
  rw [seq_nx (set_ok e4)]
  have B4 := B3.set (i := 12) (x := some (.d (.list (R.map rD)))) (by decide)
  have g12 : (s3.set 12 (some (W.d (.list (R.map rD)))))[12]? = some (some (.d (.list (R.map rD)))) := set_get (by rw [B3.len]; decide)
  generalize s3.set 12 (some (W.d (.list (R.map rD)))) = s4 at B4 g12
  obtain ⟨a, u, f, b, w, M3, e5, hI, o3⟩ := row_draw B4 o2.1 g12 hl hr
  rw [seq_nx (set_ok e5)]
  have W0 : Rw a u f b w R (s4.set 13 (some (.d (rowD a u f b w R)))) := ⟨B4.set (by decide), by rw [List.getElem?_set_ne (by decide)]; exact g12, set_get (by rw [B4.len]; decide), hI⟩
  generalize s4.set 13 (some (W.d (rowD a u f b w R))) = s5 at W0
  -- its line
  have e6 : pCallG f_book_line [] (pCons (pVar 13) (pNil)) s5 M3 = .ok (.d (.str (lineS a u f b w R))) M3 := by
    rw [callG_ok (cons_ok (var_ok W0.s13) nil_ok)]
    exact book_ok hI
  rw [seq_nx (set_ok e6)]
  have W1 := W0.set (i := 14) (x := some (.d (.str (lineS a u f b w R)))) (by decide)
  have g14 : (s5.set 14 (some (W.d (.str (lineS a u f b w R)))))[14]? = some (some (.d (.str (lineS a u f b w R)))) := set_get (by rw [W0.bs.len]; decide)
  generalize s5.set 14 (some (W.d (.str (lineS a u f b w R)))) = s6 at W1 g14
  rw [seq_nx (set_ok (told_law (C := C) (M := M3) W1))]
  have W2 := W1.set (i := 15) (x := some (.d (.str (toldS R)))) (by decide)
  have g15 : (s6.set 15 (some (W.d (.str (toldS R)))))[15]? = some (some (.d (.str (toldS R)))) := set_get (by rw [W1.bs.len]; decide)
  have g14' : (s6.set 15 (some (W.d (.str (toldS R)))))[14]? = some (some (.d (.str (lineS a u f b w R)))) := by rw [List.getElem?_set_ne (by decide)]; exact g14
  generalize s6.set 15 (some (W.d (.str (toldS R)))) = s7 at W2 g15 g14'
  rw [seq_nx (s' := s7) (M' := M3) (by rw [if_ff (read_law (M := M3) W2 g14' g15)]; rfl)]
  -- its tables
  have e7 : pCallN (f_tables_by_lines C) (pCons (pDat (pLst (pCons (pVar 14) (pNil)))) (pNil)) s7 M3 = .ok (.r (M3.length + 12)) (M3 ++ ALL C M3.length [.d (accD a u f b w)] (R.map fun r => W.d (rightD a r))) := callN_ok (one_line g14') (row_tabs hI)
  rw [seq_nx (set_ok e7)]
  have W3 := W2.set (i := 16) (x := some (.r (M3.length + 12))) (by decide)
  have g16 : (s7.set 16 (some (W.r (M3.length + 12))))[16]? = some (some (.r (M3.length + 12))) := set_get (by rw [W2.bs.len]; decide)
  generalize s7.set 16 (some (W.r (M3.length + 12))) = s8 at W3 g16
  have hP : PoolOk (M3 ++ ALL C M3.length [.d (accD a u f b w)] (R.map fun r => W.d (rightD a r))) := pool_app o3.1
  generalize hM4 : M3 ++ ALL C M3.length [.d (accD a u f b w)] (R.map fun r => W.d (rightD a r)) = M4 at hP
  rw [seq_nx (s' := s8) (M' := M4) (by rw [if_ff (acc_law (C := C) W3 g16 hM4.symm)]; rfl)]
  rw [seq_nx (s' := s8) (M' := M4) (by rw [if_ff (rights_law (C := C) W3 g16 hM4.symm)]; rfl)]
  rw [seq_nx (s' := s8) (M' := M4 ++ ALL C M4.length [] []) (by rw [if_ff (counts_law (C := C) g16 hM4.symm)]; rfl)]
  -- numbers
  obtain ⟨n, M5, e8, hn⟩ := num_draw (s := s8) (M := M4 ++ ALL C M4.length [] []) W3.bs.s1 (pool_app hP)
  rw [seq_nx (set_ok e8)]
  have l9 : (s8.set 17 (some (W.d (.int n)))).length = 24 := by rw [List.length_set]; exact W3.bs.len
  have g17 : (s8.set 17 (some (W.d (.int n))))[17]? = some (some (.d (.int n))) := set_get (by rw [W3.bs.len]; decide)
  generalize s8.set 17 (some (W.d (.int n))) = s9 at l9 g17
  have e9 : pNotT (pTru (pCallQ q__law_same [] (pCons (pCallQ q_int_of [] (pCons (pCall gStrI (pCons (pVar 17) (pNil))) (pNil))) (pCons (pVar 17) (pNil))))) s9 M5 = .ok false M5 := by
    refine same_true (d := .int n) (M1 := M5) ?_ (var_ok g17) rfl
    rw [call_data (ds := [.str (intT n)]) (cons_ok (strZ_ok (var_ok g17) (Nat.lt_of_lt_of_le hn (by decide))) nil_ok)]
    have q : q_int_of [.str (intT n)] = .ok (.int n) := by
      simp only [q_int_of]
      rw [if_pos ⟨Nat.le_trans (intT_len (k := 18) (by decide) hn) (by decide), intT_ok n⟩, int_back hn]
    rw [q]
    rfl
  rw [seq_nx (s' := s9) (M' := M5) (by rw [if_ff e9]; rfl)]
  -- what is refused
  obtain ⟨s10, e10, l10⟩ := wrongs1 (C := C) (M := M5) wrong1L s9 l9 fun _ h => h
  have i10 : pItL (pDat (pLst (pCons (pC (.str "")) (pCons (pC (.str "-")) (pCons (pC (.str "-0")) (pCons (pC (.str "05")) (pCons (pC (.str "+5")) (pCons (pC (.str "5 ")) (pCons (pC (.str "1.0")) (pCons (pC (.str "a")) (pCons (pC (.str "1234567890123456789")) (pCons (pC (.str "--5")) (pNil))))))))))))) s9 M5 = .ok (wrong1L.map fun z => W.d (.str z)) M5 := rfl
  rw [seq_nx ((for_ok i10).trans e10)]
  obtain ⟨s11, e11, l11⟩ := wrongs2 (C := C) (M := M5) wrong2L s10 l10 fun _ h => h
  have i11 : pItL (pDat (pLst (pCons (pC (.str "")) (pCons (pC (.str "a.b u 0 0 open")) (pCons (pC (.str "a.b u 0 0 open - x")) (pCons (pC (.str "a.b u 0 0 ajar -")) (pCons (pC (.str "a.b u x 0 open -")) (pCons (pC (.str "a.b u 0 05 open -")) (pCons (pC (.str "a.b u 0 0 open x")) (pCons (pC (.str "a.b u 0 0 open x:1:2")) (pCons (pC (.str "a.b u 0 0 open x:")) (pNil)))))))))))) s10 M5 = .ok (wrong2L.map fun z => W.d (.str z)) M5 := rfl
  rw [seq_nx ((for_ok i11).trans e11)]
  exact ⟨M5, ret_ok last_ok⟩
end Z

set_option linter.all false
set_option autoImplicit false
set_option maxRecDepth 100000
set_option maxHeartbeats 4000000
namespace Z
open PySem PySem.Spec PyProof.Rows L2 L2H
def top (i : Nat) : Stmt := PySem.Challenge.pw_desksagree_k77_ranges_of_accounts.main.body.getD i (.Pass ⟨0, 0, 0, 0⟩)
def mainM := PySem.Challenge.pw_desksagree_k77_ranges_of_accounts.main
structure Txt (w : World) (K : PySem.W.Frag) (mg : Str → Option Value) (C_Table : Addr) (C_DeskError : Addr) (C_InvalidName : Addr) (C_DuplicateName : Addr) (C_UnknownName : Addr) (C_TooMany : Addr) (C_InvalidPaper : Addr) : Prop where
  n_ValueError : mg "ValueError" = none
  n_abs : mg "abs" = none
  n_bool : mg "bool" = none
  c_GREAT : ∃ t, mg "GREAT" = some (.int 1000000000000000000 t)
  c_LETTERS : ∃ t, mg "LETTERS" = some (.str "abcdefghijklmnopqrstuvwxyz" t)
  c_LONGEST : ∃ t, mg "LONGEST" = some (.int 12 t)
  c_MOST : ∃ t, mg "MOST" = some (.int 12 t)
  k_COLUMNS : KDic w K mg "COLUMNS" K_COLUMNS
  na_Table__columns : NoAttr K C_Table "_columns"
  na_Table__rows : NoAttr K C_Table "_rows"
  n_int : mg "int" = none
  n_isinstance : mg "isinstance" = none
  cl_Table : Cls K C_Table
  g_Table : mg "Table" = some (.ref C_Table)
  n_len : mg "len" = none
  n_list : mg "list" = none
  n_range : mg "range" = none
  n_sorted : mg "sorted" = none
  n_str : mg "str" = none
  t_KINDS : ∃ a, mg "KINDS" = some (.ref a) ∧ Dt K (fun _ => none) (.ref a) (.tuple [.str "number", .str "text"]) ∧ fits (.tuple [.str "number", .str "text"])
  n_tuple : mg "tuple" = none
  x_InvalidName : ExcCl K mg "InvalidName"
  x_InvalidPaper : ExcCl K mg "InvalidPaper"
  x_TooMany : ExcCl K mg "TooMany"
  d__law_same : DefAt K mg "_law_same" (top 36) ["actual", "due"]
  d_is_name : DefAt K mg "is_name" (top 11) ["word"]
  d_checked_name : DefAt K mg "checked_name" (top 12) ["word"]
  d_home_of : DefAt K mg "home_of" (top 14) ["account"]
  d_book_line : DefAt K mg "book_line" (top 16) ["row"]
  d_is_value : DefAt K mg "is_value" (top 22) ["value", "kind"]
  d_worked : DefAt K mg "worked" (top 24) ["sign", "one", "other"]
  d_Table_init : MakeAt K C_Table "Table.__init__" (inClass (top 21) 0) ["self", "columns"]
  d_Table_add : MethAt K C_Table "add" "Table.add" (inClass (top 21) 4) ["self", "row"]
  d_Table_rows : MethAt K C_Table "rows" "Table.rows" (inClass (top 21) 5) ["self"]
  d_Table_count : MethAt K C_Table "count" "Table.count" (inClass (top 21) 6) ["self"]
  d_table_of : DefAt K mg "table_of" (top 23) ["columns", "rows"]
  d_empty_tables : DefAt K mg "empty_tables" (top 27) []
  d_is_asked : DefAt K mg "is_asked" (top 28) ["account", "rows"]
  d_is_below : DefAt K mg "is_below" (top 33) ["name", "rows"]
  d_is_above : DefAt K mg "is_above" (top 34) ["name", "rows"]
  d_span : DefAt K mg "span" (top 29) ["names", "rows"]
  d_int_of : DefAt K mg "int_of" (top 31) ["word"]
  d_read_book_line : DefAt K mg "read_book_line" (top 30) ["line"]
  d_tables_by_lines : DefAt K mg "tables_by_lines" (top 32) ["lines"]
  d__law_pool : DefAt K mg "_law_pool" (top 37) ["script"]
  d__law_draw : DefAt K mg "_law_draw" (top 38) ["pool", "many"]
  d__law_pick : DefAt K mg "_law_pick" (top 39) ["pool", "rows"]
  d__law_so : DefAt K mg "_law_so" (top 40) ["name", "sign", "text"]
  d__law_refused : DefAt K mg "_law_refused" (top 41) ["choice", "one"]
  d__law_run : DefAt K mg "_law_run" (top 42) ["script"]
  d_law : DefAt K mg "law" (top 43) ["script"]
  cat : ∀ y b, catK y = some b → ∃ cv, mg y = some cv ∧ PySem.W.exmOne K cv (.ref C_DeskError) = some b
  g_DeskError : mg "DeskError" = some (.ref C_DeskError)
  g_InvalidPaper : mg "InvalidPaper" = some (.ref C_InvalidPaper)
  e_InvalidPaper : ExcC K C_InvalidPaper
  kk_InvalidPaper : PySem.W.kitOne K (.ref C_InvalidPaper) (.ref C_InvalidPaper) = some true
  kv_InvalidPaper : PySem.W.kitOne K (.ref C_InvalidPaper) (.type "ValueError") = some true
section
variable {P : Program} {w : World} {K : PySem.W.Frag} {mg : Str → Option Value} {base : Heap} {C_Table C_DeskError C_InvalidName C_DuplicateName C_UnknownName C_TooMany C_InvalidPaper : Addr}
abbrev s__law_same : Stmt := top 36
theorem sc__law_same : FnScope N__law_same ["actual", "due"] (defScope s__law_same) := ⟨rfl, rfl, rfl, by decide +kernel, rfl, by decide +kernel, by decide +kernel⟩
theorem ok0__law_same {k : Nat} (T : Txt w K mg C_Table C_DeskError C_InvalidName C_DuplicateName C_UnknownName C_TooMany C_InvalidPaper) {rec : List PyData → PR} (ih : IsPure P w K mg base k "_law_same" ["actual", "due"] [] rec) : IsFn P w K mg base (k + 1) "_law_same" ["actual", "due"] [] (f0__law_same rec) := T.d__law_same.fn (k := k) (b := b__law_same rec) sc__law_same fun f cdv A outer s H E b =>
    jss_cons (js_if (jt_cmp op_isN s_isN (je_var 1) (je_non)) (jss_one (js_ret (je_cmp op_isN s_isN (je_var 0) (je_non)))) (jss_nil))
    (jss_cons (js_if (jt_tru (je_isi2 T.n_isinstance T.n_tuple T.n_list (je_var 1))) (jss_cons (js_if (jt_w (jw_or (jt_cmp (op_neD (hu64 b.hr)) s_neD (je_callB call_isi s_isi T.n_isinstance (by decide +kernel) (ja_cons (je_var 1) (ja_cons (je_bty T.n_tuple) ja_nil))) (je_callB call_isi s_isi T.n_isinstance (by decide +kernel) (ja_cons (je_var 0) (ja_cons (je_bty T.n_tuple) ja_nil)))) (jw_or1 (jt_cmp (op_neD (hu64 b.hr)) s_neD (je_callB call_isi s_isi T.n_isinstance (by decide +kernel) (ja_cons (je_var 1) (ja_cons (je_bty T.n_list) ja_nil))) (je_callB call_isi s_isi T.n_isinstance (by decide +kernel) (ja_cons (je_var 0) (ja_cons (je_bty T.n_list) ja_nil))))))) (jss_one (js_ret (je_bl))) (jss_nil))
    (jss_cons (js_if (jt_cmp (op_neD (hu64 b.hr)) s_neD (je_callB call_len s_len T.n_len (by decide +kernel) (ja_cons (je_var 0) (ja_nil))) (je_callB call_len s_len T.n_len (by decide +kernel) (ja_cons (je_var 1) (ja_nil)))) (jss_one (js_ret (je_bl))) (jss_nil))
    (jss_cons (js_for b.hp rfl (ji_rng1 T.n_range (je_callB call_len s_len T.n_len (by decide +kernel) (ja_cons (je_var 1) (ja_nil)))) (jg_name sc__law_same.nd) (jss_one (js_if (jt_not (jt_tru (je_callQ ih b.hr b.hx (ja_cons (je_ix (je_var 0) (je_var 2)) (ja_cons (je_ix (je_var 1) (je_var 2)) (ja_nil)))))) (jss_one (js_ret (je_bl))) (jss_nil))))
    (jss_one (js_ret (je_bl)))))) (jss_nil))
    (jss_cons (js_if (jt_tru (je_callB call_isi s_isi T.n_isinstance (by decide +kernel) (ja_cons (je_var 1) (ja_cons (je_bty T.n_bool) ja_nil)))) (jss_one (js_ret (je_and (je_callB call_isi s_isi T.n_isinstance (by decide +kernel) (ja_cons (je_var 0) (ja_cons (je_bty T.n_bool) ja_nil))) (je_and1 (je_cmp (op_eqD (hu64 b.hr)) s_eqD (je_var 0) (je_var 1)))))) (jss_nil))
    (jss_cons (js_if (jt_tru (je_callB call_isi s_isi T.n_isinstance (by decide +kernel) (ja_cons (je_var 1) (ja_cons (je_bty T.n_int) ja_nil)))) (jss_one (js_ret (je_and (je_callB call_isi s_isi T.n_isinstance (by decide +kernel) (ja_cons (je_var 0) (ja_cons (je_bty T.n_int) ja_nil))) (je_and (je_not (je_callB call_isi s_isi T.n_isinstance (by decide +kernel) (ja_cons (je_var 0) (ja_cons (je_bty T.n_bool) ja_nil)))) (je_and1 (je_cmp (op_eqD (hu64 b.hr)) s_eqD (je_var 0) (je_var 1))))))) (jss_nil))
    (jss_one (js_ret (je_and (je_callB call_isi s_isi T.n_isinstance (by decide +kernel) (ja_cons (je_var 0) (ja_cons (je_bty T.n_str) ja_nil))) (je_and1 (je_cmp (op_eqD (hu64 b.hr)) s_eqD (je_var 0) (je_var 1)))))))))
theorem ok__law_same_n (T : Txt w K mg C_Table C_DeskError C_InvalidName C_DuplicateName C_UnknownName C_TooMany C_InvalidPaper) : ∀ n, IsPure P w K mg base (n + 1) "_law_same" ["actual", "due"] [] (qs n)
  | 0 => (ok0__law_same (k := 0) T (rec := fun _ => .stuck) (let ⟨f, fd, h1, h2, F, hB⟩ := T.d__law_same.ex; ⟨fun _ _ => .stuck, ⟨f, fd, [], [], h1, h2, ⟨fun _ _ _ _ h => absurd h spG_stuck, fun _ _ _ _ _ _ _ _ _ _ _ _ _ h => absurd h spG_stuck⟩, hB, .nil, .nil, trivial⟩, fun _ h => absurd rfl h⟩)).pure (pure__law_same 0)
  | n + 1 => (ok0__law_same (k := n + 1) T (ok__law_same_n T n)).pure (pure__law_same (n + 1))
theorem ok__law_same (T : Txt w K mg C_Table C_DeskError C_InvalidName C_DuplicateName C_UnknownName C_TooMany C_InvalidPaper) : IsPure P w K mg base 6 "_law_same" ["actual", "due"] [] q__law_same := ok__law_same_n T 5
abbrev s_is_name : Stmt := top 11
theorem sc_is_name : FnScope N_is_name ["word"] (defScope s_is_name) := ⟨rfl, rfl, rfl, by decide +kernel, rfl, by decide +kernel, by decide +kernel⟩
theorem ok0_is_name (T : Txt w K mg C_Table C_DeskError C_InvalidName C_DuplicateName C_UnknownName C_TooMany C_InvalidPaper) : IsFn P w K mg base 1 "is_name" ["word"] [] (f0_is_name) := T.d_is_name.fn (k := 0) (b := b_is_name) sc_is_name fun f cdv A outer s H E b =>
    jss_cons (js_if (jt_w (jw_or (jt_not (jt_tru (je_callB call_isi s_isi T.n_isinstance (by decide +kernel) (ja_cons (je_var 0) (ja_cons (je_bty T.n_str) ja_nil))))) (jw_or1 (jt_not (jt_chain op_le s_leI op_le s_leI (je_int) (je_callB call_len s_len T.n_len (by decide +kernel) (ja_cons (je_var 0) (ja_nil))) (je_gintE T.c_LONGEST)))))) (jss_one (js_ret (je_bl))) (jss_nil))
    (jss_cons (js_for b.hp rfl (ji_str (je_var 0)) (jg_name sc_is_name.nd) (jss_one (js_if (jt_cmp op_notin_str s_ninS (je_var 1) (je_gstrE T.c_LETTERS)) (jss_one (js_ret (je_bl))) (jss_nil))))
    (jss_one (js_ret (je_bl))))
theorem ok_is_name (T : Txt w K mg C_Table C_DeskError C_InvalidName C_DuplicateName C_UnknownName C_TooMany C_InvalidPaper) : IsPure P w K mg base 1 "is_name" ["word"] [] q_is_name := (ok0_is_name T).pure (pure_is_name)
abbrev s_checked_name : Stmt := top 12
theorem sc_checked_name : FnScope N_checked_name ["word"] (defScope s_checked_name) := ⟨rfl, rfl, rfl, by decide +kernel, rfl, by decide +kernel, by decide +kernel⟩
theorem ok0_checked_name (T : Txt w K mg C_Table C_DeskError C_InvalidName C_DuplicateName C_UnknownName C_TooMany C_InvalidPaper) : IsFn P w K mg base 2 "checked_name" ["word"] [] (f0_checked_name) := T.d_checked_name.fn (k := 1) (b := b_checked_name) sc_checked_name fun f cdv A outer s H E b =>
    jss_cons (js_if (jt_not (jt_tru (je_callQ (ok_is_name T) (b.hr.mono (by decide)) b.hx (ja_cons (je_var 0) (ja_nil))))) (jss_one (js_raise rfl b.tk T.x_InvalidName)) (jss_nil))
    (jss_one (js_ret (je_var 0)))
theorem ok_checked_name (T : Txt w K mg C_Table C_DeskError C_InvalidName C_DuplicateName C_UnknownName C_TooMany C_InvalidPaper) : IsPure P w K mg base 2 "checked_name" ["word"] [] q_checked_name := (ok0_checked_name T).pure (pure_checked_name)
abbrev s_home_of : Stmt := top 14
theorem sc_home_of : FnScope N_home_of ["account"] (defScope s_home_of) := ⟨rfl, rfl, rfl, by decide +kernel, rfl, by decide +kernel, by decide +kernel⟩
theorem ok0_home_of (T : Txt w K mg C_Table C_DeskError C_InvalidName C_DuplicateName C_UnknownName C_TooMany C_InvalidPaper) : IsFn P w K mg base 1 "home_of" ["account"] [] (f0_home_of) := T.d_home_of.fn (k := 0) (b := b_home_of) sc_home_of fun f cdv A outer s H E b =>
    jss_one (js_ret (je_ix (je_dat (jl_split (je_var 0) (je_str))) (je_int)))
theorem ok_home_of (T : Txt w K mg C_Table C_DeskError C_InvalidName C_DuplicateName C_UnknownName C_TooMany C_InvalidPaper) : IsPure P w K mg base 1 "home_of" ["account"] [] q_home_of := (ok0_home_of T).pure (pure_home_of)
abbrev s_book_line : Stmt := top 16
theorem sc_book_line : FnScope N_book_line ["row"] (defScope s_book_line) := ⟨rfl, rfl, rfl, by decide +kernel, rfl, by decide +kernel, by decide +kernel⟩
theorem ok0_book_line (T : Txt w K mg C_Table C_DeskError C_InvalidName C_DuplicateName C_UnknownName C_TooMany C_InvalidPaper) : IsFn P w K mg base 1 "book_line" ["row"] [] (f0_book_line) := T.d_book_line.fn (k := 0) (b := b_book_line) sc_book_line fun f cdv A outer s H E b =>
    jss_cons (js_asg (je_var 0) (jg_tup rfl (jgs_cons (jg_name sc_book_line.nd) (jgs_cons (jg_name sc_book_line.nd) (jgs_cons (jg_name sc_book_line.nd) (jgs_cons (jg_name sc_book_line.nd) (jgs_cons (jg_name sc_book_line.nd) (jgs_cons (jg_name sc_book_line.nd) (jgs_nil)))))))))
    (jss_cons (js_set (i := 7) sc_book_line.nd (je_if (jt_tru (je_var 6)) (je_join (je_str) (je_dat (jl_lc (own := [("desk", 8), ("number", 9)]) rfl sc_book_line.nd (ji_tup (je_var 6)) (blkOk_by (N := N_book_line) (sc := (defScope s_book_line)) (by decide +kernel)) (fun _ _ _ _ _ => jg_tup rfl (jgs_cons (jg_name sc_book_line.nd) (jgs_cons (jg_name sc_book_line.nd) (jgs_nil)))) (fun _ _ _ _ _ => jts_nil) (fun _ _ _ _ _ => je_op op_add_str s_addS (je_op op_add_str s_addS (je_var 8) (je_str)) (je_callTy call_str_int s_strI T.n_str (by decide +kernel) (ja_cons (je_var 9) (ja_nil))))))) (je_str)))
    (jss_one (js_ret (je_join (je_str) (je_dat (jl_lst (ja_cons (je_var 1) (ja_cons (je_var 2) (ja_cons (je_callTy call_str_int s_strI T.n_str (by decide +kernel) (ja_cons (je_var 3) (ja_nil))) (ja_cons (je_callTy call_str_int s_strI T.n_str (by decide +kernel) (ja_cons (je_var 4) (ja_nil))) (ja_cons (je_var 5) (ja_cons (je_var 7) (ja_nil)))))))))))))
theorem ok_book_line (T : Txt w K mg C_Table C_DeskError C_InvalidName C_DuplicateName C_UnknownName C_TooMany C_InvalidPaper) : IsFn P w K mg base 1 "book_line" ["row"] [] (f_book_line) := ok0_book_line T
abbrev s_is_value : Stmt := top 22
theorem sc_is_value : FnScope N_is_value ["value", "kind"] (defScope s_is_value) := ⟨rfl, rfl, rfl, by decide +kernel, rfl, by decide +kernel, by decide +kernel⟩
theorem ok0_is_value (T : Txt w K mg C_Table C_DeskError C_InvalidName C_DuplicateName C_UnknownName C_TooMany C_InvalidPaper) : IsFn P w K mg base 1 "is_value" ["value", "kind"] [] (f0_is_value) := T.d_is_value.fn (k := 0) (b := b_is_value) sc_is_value fun f cdv A outer s H E b =>
    jss_cons (js_if (jt_cmp (op_eqD (hu64 b.hr)) s_eqD (je_var 1) (je_str)) (jss_one (js_ret (je_and (je_callB call_isi s_isi T.n_isinstance (by decide +kernel) (ja_cons (je_var 0) (ja_cons (je_bty T.n_int) ja_nil))) (je_and (je_not (je_callB call_isi s_isi T.n_isinstance (by decide +kernel) (ja_cons (je_var 0) (ja_cons (je_bty T.n_bool) ja_nil)))) (je_and1 (je_chain op_le s_leI op_le s_leI (je_neg (je_gintE T.c_GREAT)) (je_var 0) (je_gintE T.c_GREAT))))))) (jss_nil))
    (jss_cons (js_if (jt_w (jw_or (jt_not (jt_tru (je_callB call_isi s_isi T.n_isinstance (by decide +kernel) (ja_cons (je_var 0) (ja_cons (je_bty T.n_str) ja_nil))))) (jw_or1 (jt_cmp op_gt s_gtI (je_callB call_len s_len T.n_len (by decide +kernel) (ja_cons (je_var 0) (ja_nil))) (je_int))))) (jss_one (js_ret (je_bl))) (jss_nil))
    (jss_one (js_ret (je_not (je_dat (jl_lc (own := [("sign", 2)]) rfl sc_is_value.nd (ji_str (je_var 0)) (blkOk_by (N := N_is_value) (sc := (defScope s_is_value)) (by decide +kernel)) (fun _ _ _ _ _ => jg_name sc_is_value.nd) (fun _ _ _ _ _ => jts_one (jt_w (jw_or (jt_cmp op_in_str s_inS (je_var 2) (je_str)) (jw_or1 (jt_not (jt_chain op_le_str s_leS op_le_str s_leS (je_str) (je_var 2) (je_str))))))) (fun _ _ _ _ _ => je_var 2)))))))
theorem ok_is_value (T : Txt w K mg C_Table C_DeskError C_InvalidName C_DuplicateName C_UnknownName C_TooMany C_InvalidPaper) : IsPure P w K mg base 1 "is_value" ["value", "kind"] [] q_is_value := (ok0_is_value T).pure (pure_is_value)
abbrev s_worked : Stmt := top 24
theorem sc_worked : FnScope N_worked ["sign", "one", "other"] (defScope s_worked) := ⟨rfl, rfl, rfl, by decide +kernel, rfl, by decide +kernel, by decide +kernel⟩
theorem ok0_worked (T : Txt w K mg C_Table C_DeskError C_InvalidName C_DuplicateName C_UnknownName C_TooMany C_InvalidPaper) : IsFn P w K mg base 1 "worked" ["sign", "one", "other"] [] (f0_worked) := T.d_worked.fn (k := 0) (b := b_worked) sc_worked fun f cdv A outer s H E b =>
    jss_cons (js_if (jt_cmp (op_eqD (hu64 b.hr)) s_eqD (je_var 0) (je_str)) (jss_one (js_ret (je_cmp (op_eqD (hu64 b.hr)) s_eqD (je_var 1) (je_var 2)))) (jss_nil))
    (jss_cons (js_if (jt_cmp (op_eqD (hu64 b.hr)) s_eqD (je_var 0) (je_str)) (jss_one (js_ret (je_cmp (op_neD (hu64 b.hr)) s_neD (je_var 1) (je_var 2)))) (jss_nil))
    (jss_cons (js_if (jt_cmp op_in_seq (sim_inT false) (je_var 0) (je_tup (ja_cons (je_str) (ja_cons (je_str) (ja_nil))))) (jss_one (js_ret (je_orv (je_cmp op_lt_str s_ltS (je_var 1) (je_var 2)) (je_or1 (je_and (je_cmp (op_eqD (hu64 b.hr)) s_eqD (je_var 0) (je_str)) (je_and1 (je_cmp (op_eqD (hu64 b.hr)) s_eqD (je_var 1) (je_var 2)))))))) (jss_nil))
    (jss_cons (js_if (jt_cmp op_in_seq (sim_inT false) (je_var 0) (je_tup (ja_cons (je_str) (ja_cons (je_str) (ja_nil))))) (jss_one (js_ret (je_orv (je_cmp op_gt_str s_gtS (je_var 1) (je_var 2)) (je_or1 (je_and (je_cmp (op_eqD (hu64 b.hr)) s_eqD (je_var 0) (je_str)) (je_and1 (je_cmp (op_eqD (hu64 b.hr)) s_eqD (je_var 1) (je_var 2)))))))) (jss_nil))
    (jss_cons (js_never _)
    (jss_cons (js_never _)
    (jss_one (js_never _)))))))
theorem ok_worked (T : Txt w K mg C_Table C_DeskError C_InvalidName C_DuplicateName C_UnknownName C_TooMany C_InvalidPaper) : IsFn P w K mg base 1 "worked" ["sign", "one", "other"] [] (f_worked) := ok0_worked T
abbrev s_Table_init : Stmt := inClass (top 21) 0
theorem sc_Table_init : FnScope N_Table_init ["self", "columns"] (defScope s_Table_init) := ⟨rfl, rfl, rfl, by decide +kernel, rfl, by decide +kernel, by decide +kernel⟩
theorem ok0_Table_init (T : Txt w K mg C_Table C_DeskError C_InvalidName C_DuplicateName C_UnknownName C_TooMany C_InvalidPaper) : IsMake P w K mg base 3 C_Table ["self", "columns"] (f0_Table_init C_Table) := T.d_Table_init.fn (k := 2) (b := b_Table_init C_Table) sc_Table_init fun f cdv A outer s H E b =>
    jss_cons (js_if (jt_not (jt_tru (je_var 1))) (jss_one (js_raise rfl b.tk T.x_InvalidPaper)) (jss_nil))
    (jss_cons (js_if (jt_cmp op_gt s_gtI (je_callB call_len s_len T.n_len (by decide +kernel) (ja_cons (je_var 1) (ja_nil))) (je_gintE T.c_MOST)) (jss_one (js_raise rfl b.tk T.x_TooMany)) (jss_nil))
    (jss_cons (js_fld T.cl_Table T.na_Table__columns (je_var 0) (je_mut (jl_lst (ja_nil))))
    (jss_cons (js_for b.hp rfl (ji_tup (je_var 1)) (jg_tup rfl (jgs_cons (jg_name sc_Table_init.nd) (jgs_cons (jg_name sc_Table_init.nd) (jgs_nil)))) (jss_cons (js_expr (je_callQ (ok_checked_name T) (b.hr.mono (by decide)) b.hx (ja_cons (je_var 2) (ja_nil))))
    (jss_cons (js_if (jt_tru (je_dat (jl_lcM (own := [("row", 4)]) rfl sc_Table_init.nd (jim_list (je_fld T.cl_Table T.na_Table__columns (je_var 0))) (blkOk_by (N := N_Table_init) (sc := (defScope s_Table_init)) (by decide +kernel)) (fun _ _ _ _ _ => jg_name sc_Table_init.nd) (fun _ _ _ _ _ => jts_one (jt_cmp (op_eqD (hu64 b.hr)) s_eqD (je_ix (je_var 4) (je_int)) (je_var 2))) (fun _ _ _ _ _ => je_var 4)))) (jss_one (js_never _)) (jss_nil))
    (jss_cons (js_if (jt_cmp op_notIn_seq (sim_inT true) (je_var 3) (je_gtupE T.t_KINDS)) (jss_one (js_raise rfl b.tk T.x_InvalidPaper)) (jss_nil))
    (jss_one (js_app (je_fld T.cl_Table T.na_Table__columns (je_var 0)) (je_tup (ja_cons (je_var 2) (ja_cons (je_var 3) (ja_nil))))))))))
    (jss_one (js_fld T.cl_Table T.na_Table__rows (je_var 0) (je_mut (jl_lst (ja_nil))))))))
theorem ok_Table_init (T : Txt w K mg C_Table C_DeskError C_InvalidName C_DuplicateName C_UnknownName C_TooMany C_InvalidPaper) : IsMake P w K mg base 3 C_Table ["self", "columns"] (f_Table_init C_Table) := ok0_Table_init T
abbrev s_Table_add : Stmt := inClass (top 21) 4
theorem sc_Table_add : FnScope N_Table_add ["self", "row"] (defScope s_Table_add) := ⟨rfl, rfl, rfl, by decide +kernel, rfl, by decide +kernel, by decide +kernel⟩
theorem ok0_Table_add (T : Txt w K mg C_Table C_DeskError C_InvalidName C_DuplicateName C_UnknownName C_TooMany C_InvalidPaper) : IsMeth P w K mg base 2 C_Table "add" ["self", "row"] (f0_Table_add C_Table) := T.d_Table_add.fn (k := 1) (b := b_Table_add C_Table) sc_Table_add fun f cdv A outer s H E b =>
    jss_cons (js_if (jt_w (jw_or (jt_not (jt_tru (je_callB call_isi s_isi T.n_isinstance (by decide +kernel) (ja_cons (je_var 1) (ja_cons (je_bty T.n_tuple) ja_nil))))) (jw_or1 (jt_cmp (op_neD (hu64 b.hr)) s_neD (je_callB call_len s_len T.n_len (by decide +kernel) (ja_cons (je_var 1) (ja_nil))) (je_callB call_len s_len T.n_len (by decide +kernel) (ja_cons (je_fld T.cl_Table T.na_Table__columns (je_var 0)) (ja_nil))))))) (jss_one (js_raise rfl b.tk T.x_InvalidPaper)) (jss_nil))
    (jss_cons (js_for b.hp rfl (ji_rng1 T.n_range (je_callB call_len s_len T.n_len (by decide +kernel) (ja_cons (je_var 1) (ja_nil)))) (jg_name sc_Table_add.nd) (jss_one (js_if (jt_not (jt_tru (je_callQ (ok_is_value T) (b.hr.mono (by decide)) b.hx (ja_cons (je_ix (je_var 1) (je_var 2)) (ja_cons (je_ix (je_ix (je_fld T.cl_Table T.na_Table__columns (je_var 0)) (je_var 2)) (je_int)) (ja_nil)))))) (jss_one (js_raise rfl b.tk T.x_InvalidPaper)) (jss_nil))))
    (jss_one (js_app (je_fld T.cl_Table T.na_Table__rows (je_var 0)) (je_var 1))))
theorem ok_Table_add (T : Txt w K mg C_Table C_DeskError C_InvalidName C_DuplicateName C_UnknownName C_TooMany C_InvalidPaper) : IsMeth P w K mg base 2 C_Table "add" ["self", "row"] (f_Table_add C_Table) := ok0_Table_add T
abbrev s_Table_rows : Stmt := inClass (top 21) 5
theorem sc_Table_rows : FnScope N_Table_rows ["self"] (defScope s_Table_rows) := ⟨rfl, rfl, rfl, by decide +kernel, rfl, by decide +kernel, by decide +kernel⟩
theorem ok0_Table_rows (T : Txt w K mg C_Table C_DeskError C_InvalidName C_DuplicateName C_UnknownName C_TooMany C_InvalidPaper) : IsMeth P w K mg base 1 C_Table "rows" ["self"] (f0_Table_rows C_Table) := T.d_Table_rows.fn (k := 0) (b := b_Table_rows C_Table) sc_Table_rows fun f cdv A outer s H E b =>
    jss_one (js_ret (je_dat (jl_callTy call_list_of s_list T.n_list (by decide +kernel) (ja_cons (je_fld T.cl_Table T.na_Table__rows (je_var 0)) (ja_nil)))))
theorem ok_Table_rows (T : Txt w K mg C_Table C_DeskError C_InvalidName C_DuplicateName C_UnknownName C_TooMany C_InvalidPaper) : IsMeth P w K mg base 1 C_Table "rows" ["self"] (f_Table_rows C_Table) := ok0_Table_rows T
abbrev s_Table_count : Stmt := inClass (top 21) 6
theorem sc_Table_count : FnScope N_Table_count ["self"] (defScope s_Table_count) := ⟨rfl, rfl, rfl, by decide +kernel, rfl, by decide +kernel, by decide +kernel⟩
theorem ok0_Table_count (T : Txt w K mg C_Table C_DeskError C_InvalidName C_DuplicateName C_UnknownName C_TooMany C_InvalidPaper) : IsMeth P w K mg base 1 C_Table "count" ["self"] (f0_Table_count C_Table) := T.d_Table_count.fn (k := 0) (b := b_Table_count C_Table) sc_Table_count fun f cdv A outer s H E b =>
    jss_one (js_ret (je_callB call_len s_len T.n_len (by decide +kernel) (ja_cons (je_fld T.cl_Table T.na_Table__rows (je_var 0)) (ja_nil))))
theorem ok_Table_count (T : Txt w K mg C_Table C_DeskError C_InvalidName C_DuplicateName C_UnknownName C_TooMany C_InvalidPaper) : IsMeth P w K mg base 1 C_Table "count" ["self"] (f_Table_count C_Table) := ok0_Table_count T
abbrev s_table_of : Stmt := top 23
theorem sc_table_of : FnScope N_table_of ["columns", "rows"] (defScope s_table_of) := ⟨rfl, rfl, rfl, by decide +kernel, rfl, by decide +kernel, by decide +kernel⟩
theorem ok0_table_of (T : Txt w K mg C_Table C_DeskError C_InvalidName C_DuplicateName C_UnknownName C_TooMany C_InvalidPaper) : IsFn P w K mg base 5 "table_of" ["columns", "rows"] [] (f0_table_of C_Table) := T.d_table_of.fn (k := 4) (b := b_table_of C_Table) sc_table_of fun f cdv A outer s H E b =>
    jss_cons (js_set (i := 2) sc_table_of.nd (je_makeB (ok_Table_init T) (b.hr.mono (by decide)) T.g_Table (ja_cons (je_var 0) (ja_nil))))
    (jss_cons (js_for b.hp rfl (ji_list (je_var 1)) (jg_name sc_table_of.nd) (jss_one (js_expr (je_methB T.cl_Table (ok_Table_add T) (b.hr.mono (by decide)) b.hx (je_var 2) (ja_cons (je_var 3) (ja_nil))))))
    (jss_one (js_ret (je_var 2))))
theorem ok_table_of (T : Txt w K mg C_Table C_DeskError C_InvalidName C_DuplicateName C_UnknownName C_TooMany C_InvalidPaper) : IsFn P w K mg base 5 "table_of" ["columns", "rows"] [] (f_table_of C_Table) := ok0_table_of T
abbrev s_empty_tables : Stmt := top 27
theorem sc_empty_tables : FnScope N_empty_tables [] (defScope s_empty_tables) := ⟨rfl, rfl, rfl, by decide +kernel, rfl, by decide +kernel, by decide +kernel⟩
theorem ok0_empty_tables (T : Txt w K mg C_Table C_DeskError C_InvalidName C_DuplicateName C_UnknownName C_TooMany C_InvalidPaper) : IsFn P w K mg base 6 "empty_tables" [] [] (f0_empty_tables C_Table) := T.d_empty_tables.fn (k := 5) (b := b_empty_tables C_Table) sc_empty_tables fun f cdv A outer s H E b =>
    jss_one (js_ret (je_dc (own := [("name", 0)]) rfl sc_empty_tables.nd (ji_kdic T.k_COLUMNS) (blkOk_by (N := N_empty_tables) (sc := (defScope s_empty_tables)) (by decide +kernel)) (fun _ _ _ _ _ => jg_name sc_empty_tables.nd) (fun _ _ _ _ _ => jts_nil) (fun _ _ _ _ _ => je_var 0) (fun _ _ _ _ _ => je_callG (ok_table_of T) (b.hr.mono (by decide)) (fun _ => pass0) (ja_cons (je_kget T.k_COLUMNS (je_var 0)) (ja_cons (je_dat (jl_lst (ja_nil))) (ja_nil))))))
theorem ok_empty_tables (T : Txt w K mg C_Table C_DeskError C_InvalidName C_DuplicateName C_UnknownName C_TooMany C_InvalidPaper) : IsFn P w K mg base 6 "empty_tables" [] [] (f_empty_tables C_Table) := ok0_empty_tables T
abbrev s_is_asked : Stmt := top 28
theorem sc_is_asked : FnScope N_is_asked ["account", "rows"] (defScope s_is_asked) := ⟨rfl, rfl, rfl, by decide +kernel, rfl, by decide +kernel, by decide +kernel⟩
theorem ok0_is_asked (T : Txt w K mg C_Table C_DeskError C_InvalidName C_DuplicateName C_UnknownName C_TooMany C_InvalidPaper) : IsFn P w K mg base 2 "is_asked" ["account", "rows"] [] (f0_is_asked) := T.d_is_asked.fn (k := 1) (b := b_is_asked) sc_is_asked fun f cdv A outer s H E b =>
    jss_one (js_ret (je_not (je_dat (jl_lc (own := [("sign", 2), ("text", 3)]) rfl sc_is_asked.nd (ji_list (je_var 1)) (blkOk_by (N := N_is_asked) (sc := (defScope s_is_asked)) (by decide +kernel)) (fun _ _ _ _ _ => jg_tup rfl (jgs_cons (jg_name sc_is_asked.nd) (jgs_cons (jg_name sc_is_asked.nd) (jgs_nil)))) (fun _ _ _ _ _ => jts_one (jt_not (jt_tru (je_callG (ok_worked T) (b.hr.mono (by decide)) (fun _ => pass0) (ja_cons (je_var 2) (ja_cons (je_var 0) (ja_cons (je_var 3) (ja_nil)))))))) (fun _ _ _ _ _ => je_int)))))
theorem ok_is_asked (T : Txt w K mg C_Table C_DeskError C_InvalidName C_DuplicateName C_UnknownName C_TooMany C_InvalidPaper) : IsFn P w K mg base 2 "is_asked" ["account", "rows"] [] (f_is_asked) := ok0_is_asked T
abbrev s_is_below : Stmt := top 33
theorem sc_is_below : FnScope N_is_below ["name", "rows"] (defScope s_is_below) := ⟨rfl, rfl, rfl, by decide +kernel, rfl, by decide +kernel, by decide +kernel⟩
theorem ok0_is_below (T : Txt w K mg C_Table C_DeskError C_InvalidName C_DuplicateName C_UnknownName C_TooMany C_InvalidPaper) : IsFn P w K mg base 1 "is_below" ["name", "rows"] [] (f0_is_below) := T.d_is_below.fn (k := 0) (b := b_is_below) sc_is_below fun f cdv A outer s H E b =>
    jss_cons (js_setLc (i := 2) (own := [("sign", 3), ("text", 4)]) rfl sc_is_below.nd (ji_list (je_var 1)) (blkOk_by (N := N_is_below) (sc := (defScope s_is_below)) (by decide +kernel)) (fun _ _ _ _ _ => jg_tup rfl (jgs_cons (jg_name sc_is_below.nd) (jgs_cons (jg_name sc_is_below.nd) (jgs_nil)))) (fun _ _ _ _ _ => jts_one (jt_cmp op_in_seq (sim_inT false) (je_var 3) (je_tup (ja_cons (je_str) (ja_cons (je_str) (ja_cons (je_str) (ja_nil))))))) (fun _ _ _ _ _ => je_tup (ja_cons (je_var 3) (ja_cons (je_var 4) (ja_nil)))))
    (jss_one (js_ret (je_callTy call_boolL s_boolL T.n_bool (by decide +kernel) (ja_cons (je_dat (jl_lc (own := [("sign", 3), ("text", 4)]) rfl sc_is_below.nd (ji_list (je_var 2)) (blkOk_by (N := N_is_below) (sc := (defScope s_is_below)) (by decide +kernel)) (fun _ _ _ _ _ => jg_tup rfl (jgs_cons (jg_name sc_is_below.nd) (jgs_cons (jg_name sc_is_below.nd) (jgs_nil)))) (fun _ _ _ _ _ => jts_one (jt_w (jw_or (jt_cmp op_lt_str s_ltS (je_var 0) (je_var 4)) (jw_or1 (jt_w (jw_and (jt_cmp (op_eqD (hu64 b.hr)) s_eqD (je_var 3) (je_str)) (jw_and1 (jt_cmp (op_eqD (hu64 b.hr)) s_eqD (je_var 0) (je_var 4))))))))) (fun _ _ _ _ _ => je_int))) (ja_nil)))))
theorem ok_is_below (T : Txt w K mg C_Table C_DeskError C_InvalidName C_DuplicateName C_UnknownName C_TooMany C_InvalidPaper) : IsFn P w K mg base 1 "is_below" ["name", "rows"] [] (f_is_below) := ok0_is_below T
abbrev s_is_above : Stmt := top 34
theorem sc_is_above : FnScope N_is_above ["name", "rows"] (defScope s_is_above) := ⟨rfl, rfl, rfl, by decide +kernel, rfl, by decide +kernel, by decide +kernel⟩
theorem ok0_is_above (T : Txt w K mg C_Table C_DeskError C_InvalidName C_DuplicateName C_UnknownName C_TooMany C_InvalidPaper) : IsFn P w K mg base 1 "is_above" ["name", "rows"] [] (f0_is_above) := T.d_is_above.fn (k := 0) (b := b_is_above) sc_is_above fun f cdv A outer s H E b =>
    jss_cons (js_setLc (i := 2) (own := [("sign", 3), ("text", 4)]) rfl sc_is_above.nd (ji_list (je_var 1)) (blkOk_by (N := N_is_above) (sc := (defScope s_is_above)) (by decide +kernel)) (fun _ _ _ _ _ => jg_tup rfl (jgs_cons (jg_name sc_is_above.nd) (jgs_cons (jg_name sc_is_above.nd) (jgs_nil)))) (fun _ _ _ _ _ => jts_one (jt_cmp op_in_seq (sim_inT false) (je_var 3) (je_tup (ja_cons (je_str) (ja_cons (je_str) (ja_cons (je_str) (ja_nil))))))) (fun _ _ _ _ _ => je_tup (ja_cons (je_var 3) (ja_cons (je_var 4) (ja_nil)))))
    (jss_one (js_ret (je_callTy call_boolL s_boolL T.n_bool (by decide +kernel) (ja_cons (je_dat (jl_lc (own := [("sign", 3), ("text", 4)]) rfl sc_is_above.nd (ji_list (je_var 2)) (blkOk_by (N := N_is_above) (sc := (defScope s_is_above)) (by decide +kernel)) (fun _ _ _ _ _ => jg_tup rfl (jgs_cons (jg_name sc_is_above.nd) (jgs_cons (jg_name sc_is_above.nd) (jgs_nil)))) (fun _ _ _ _ _ => jts_one (jt_w (jw_or (jt_cmp op_gt_str s_gtS (je_var 0) (je_var 4)) (jw_or1 (jt_w (jw_and (jt_cmp (op_eqD (hu64 b.hr)) s_eqD (je_var 3) (je_str)) (jw_and1 (jt_cmp (op_eqD (hu64 b.hr)) s_eqD (je_var 0) (je_var 4))))))))) (fun _ _ _ _ _ => je_int))) (ja_nil)))))
theorem ok_is_above (T : Txt w K mg C_Table C_DeskError C_InvalidName C_DuplicateName C_UnknownName C_TooMany C_InvalidPaper) : IsFn P w K mg base 1 "is_above" ["name", "rows"] [] (f_is_above) := ok0_is_above T
abbrev s_span : Stmt := top 29
theorem sc_span : FnScope N_span ["names", "rows"] (defScope s_span) := ⟨rfl, rfl, rfl, by decide +kernel, rfl, by decide +kernel, by decide +kernel⟩
theorem ok0_span (T : Txt w K mg C_Table C_DeskError C_InvalidName C_DuplicateName C_UnknownName C_TooMany C_InvalidPaper) : IsFn P w K mg base 3 "span" ["names", "rows"] [] (f0_span) := T.d_span.fn (k := 2) (b := b_span) sc_span fun f cdv A outer s H E b =>
    jss_cons (js_set (i := 2) sc_span.nd (je_callB call_len s_len T.n_len (by decide +kernel) (ja_cons (je_dat (jl_lc (own := [("name", 3)]) rfl sc_span.nd (ji_list (je_var 0)) (blkOk_by (N := N_span) (sc := (defScope s_span)) (by decide +kernel)) (fun _ _ _ _ _ => jg_name sc_span.nd) (fun _ _ _ _ _ => jts_one (jt_tru (je_callG (ok_is_below T) (b.hr.mono (by decide)) (fun _ => pass0) (ja_cons (je_var 3) (ja_cons (je_var 1) (ja_nil)))))) (fun _ _ _ _ _ => je_var 3))) (ja_nil))))
    (jss_one (js_ret (je_tup (ja_cons (je_var 2) (ja_cons (je_var 2) (ja_nil))))))
theorem ok_span (T : Txt w K mg C_Table C_DeskError C_InvalidName C_DuplicateName C_UnknownName C_TooMany C_InvalidPaper) : IsFn P w K mg base 3 "span" ["names", "rows"] [] (f_span) := ok0_span T
abbrev s_int_of : Stmt := top 31
theorem sc_int_of : FnScope N_int_of ["word"] (defScope s_int_of) := ⟨rfl, rfl, rfl, by decide +kernel, rfl, by decide +kernel, by decide +kernel⟩
theorem ok0_int_of (T : Txt w K mg C_Table C_DeskError C_InvalidName C_DuplicateName C_UnknownName C_TooMany C_InvalidPaper) : IsFn P w K mg base 1 "int_of" ["word"] [] (f0_int_of) := T.d_int_of.fn (k := 0) (b := b_int_of) sc_int_of fun f cdv A outer s H E b =>
    jss_cons (js_set (i := 1) sc_int_of.nd (je_if (jt_tru (je_startswith (je_var 0) (je_str))) (je_sliceS (je_var 0) (jo_some (je_int)) (jo_none)) (je_var 0)))
    (jss_cons (js_if (jt_w (jw_or (jt_not (jt_chain op_le s_leI op_le s_leI (je_int) (je_callB call_len s_len T.n_len (by decide +kernel) (ja_cons (je_var 1) (ja_nil))) (je_int))) (jw_or1 (jt_tru (je_dat (jl_lc (own := [("sign", 2)]) rfl sc_int_of.nd (ji_str (je_var 1)) (blkOk_by (N := N_int_of) (sc := (defScope s_int_of)) (by decide +kernel)) (fun _ _ _ _ _ => jg_name sc_int_of.nd) (fun _ _ _ _ _ => jts_one (jt_cmp op_notin_str s_ninS (je_var 2) (je_str))) (fun _ _ _ _ _ => je_var 2))))))) (jss_one (js_raise rfl b.tk T.x_InvalidPaper)) (jss_nil))
    (jss_cons (js_if (jt_cmp (op_neD (hu64 b.hr)) s_neD (je_callTy call_str_int s_strI T.n_str (by decide +kernel) (ja_cons (je_callTy call_int_str s_intS T.n_int (by decide +kernel) (ja_cons (je_var 0) (ja_nil))) (ja_nil))) (je_var 0)) (jss_one (js_raise rfl b.tk T.x_InvalidPaper)) (jss_nil))
    (jss_one (js_ret (je_callTy call_int_str s_intS T.n_int (by decide +kernel) (ja_cons (je_var 0) (ja_nil)))))))
theorem ok_int_of (T : Txt w K mg C_Table C_DeskError C_InvalidName C_DuplicateName C_UnknownName C_TooMany C_InvalidPaper) : IsPure P w K mg base 1 "int_of" ["word"] [] q_int_of := (ok0_int_of T).pure (pure_int_of)
abbrev s_read_book_line : Stmt := top 30
theorem sc_read_book_line : FnScope N_read_book_line ["line"] (defScope s_read_book_line) := ⟨rfl, rfl, rfl, by decide +kernel, rfl, by decide +kernel, by decide +kernel⟩
theorem ok0_read_book_line (T : Txt w K mg C_Table C_DeskError C_InvalidName C_DuplicateName C_UnknownName C_TooMany C_InvalidPaper) : IsFn P w K mg base 2 "read_book_line" ["line"] [] (f0_read_book_line) := T.d_read_book_line.fn (k := 1) (b := b_read_book_line) sc_read_book_line fun f cdv A outer s H E b =>
    jss_cons (js_set (i := 1) sc_read_book_line.nd (je_dat (jl_split (je_var 0) (je_str))))
    (jss_cons (js_if (jt_w (jw_or (jt_cmp (op_neD (hu64 b.hr)) s_neD (je_callB call_len s_len T.n_len (by decide +kernel) (ja_cons (je_var 1) (ja_nil))) (je_int)) (jw_or1 (jt_cmp op_notIn_seq (sim_inT true) (je_ix (je_var 1) (je_int)) (je_tup (ja_cons (je_str) (ja_cons (je_str) (ja_nil)))))))) (jss_one (js_raise rfl b.tk T.x_InvalidPaper)) (jss_nil))
    (jss_cons (js_set (i := 2) sc_read_book_line.nd (je_mut (jl_lst (ja_nil))))
    (jss_cons (js_for b.hp rfl (ji_list (je_if (jt_cmp (op_neD (hu64 b.hr)) s_neD (je_ix (je_var 1) (je_int)) (je_str)) (je_dat (jl_split (je_ix (je_var 1) (je_int)) (je_str))) (je_dat (jl_lst (ja_nil))))) (jg_name sc_read_book_line.nd) (jss_cons (js_set (i := 4) sc_read_book_line.nd (je_dat (jl_split (je_var 3) (je_str))))
    (jss_cons (js_if (jt_cmp (op_neD (hu64 b.hr)) s_neD (je_callB call_len s_len T.n_len (by decide +kernel) (ja_cons (je_var 4) (ja_nil))) (je_int)) (jss_one (js_raise rfl b.tk T.x_InvalidPaper)) (jss_nil))
    (jss_one (js_app (je_var 2) (je_tup (ja_cons (je_ix (je_var 4) (je_int)) (ja_cons (je_callQ (ok_int_of T) (b.hr.mono (by decide)) b.hx (ja_cons (je_ix (je_var 4) (je_int)) (ja_nil))) (ja_nil)))))))))
    (jss_one (js_ret (je_tup (ja_cons (je_ix (je_var 1) (je_int)) (ja_cons (je_ix (je_var 1) (je_int)) (ja_cons (je_callQ (ok_int_of T) (b.hr.mono (by decide)) b.hx (ja_cons (je_ix (je_var 1) (je_int)) (ja_nil))) (ja_cons (je_callQ (ok_int_of T) (b.hr.mono (by decide)) b.hx (ja_cons (je_ix (je_var 1) (je_int)) (ja_nil))) (ja_cons (je_ix (je_var 1) (je_int)) (ja_cons (je_callTy call_tuple_of s_tuple T.n_tuple (by decide +kernel) (ja_cons (je_var 2) (ja_nil))) (ja_nil)))))))))))))
theorem ok_read_book_line (T : Txt w K mg C_Table C_DeskError C_InvalidName C_DuplicateName C_UnknownName C_TooMany C_InvalidPaper) : IsPure P w K mg base 2 "read_book_line" ["line"] [] q_read_book_line := (ok0_read_book_line T).pure (pure_read_book_line)
abbrev s_tables_by_lines : Stmt := top 32
theorem sc_tables_by_lines : FnScope N_tables_by_lines ["lines"] (defScope s_tables_by_lines) := ⟨rfl, rfl, rfl, by decide +kernel, rfl, by decide +kernel, by decide +kernel⟩
theorem ok0_tables_by_lines (T : Txt w K mg C_Table C_DeskError C_InvalidName C_DuplicateName C_UnknownName C_TooMany C_InvalidPaper) (pm : P.main = mainM) : IsFnW P w K mg base 7 "tables_by_lines" ["lines"] (f0_tables_by_lines C_Table) := T.d_tables_by_lines.fnW (k := 6) (b := b_tables_by_lines C_Table) sc_tables_by_lines fun f cdv A outer s H E b =>
    jss_cons (js_setLcX (i := 1) rfl rfl b.tk (fun _ _ _ _ _ h => h) (own := [("line", 11)]) rfl sc_tables_by_lines.nd (ji_list (je_var 0)) (blkOk_by (N := N_tables_by_lines) (sc := (defScope s_tables_by_lines)) (by decide +kernel)) (fun _ _ _ _ _ => jg_name sc_tables_by_lines.nd) (fun _ _ _ _ _ => jts_nil) (fun _ _ _ _ _ => je_callQ (ok_read_book_line T) (b.hr.mono (by decide)) (fun σ => passB σ) (ja_cons (je_var 11) (ja_nil))))
    (jss_cons (js_set (i := 2) sc_tables_by_lines.nd (je_callG0 (ok_empty_tables T) (b.hr.mono (by decide)) b.hx))
    (jss_cons (js_for b.hp rfl (ji_list (je_var 1)) (jg_tup rfl (jgs_cons (jg_name sc_tables_by_lines.nd) (jgs_cons (jg_name sc_tables_by_lines.nd) (jgs_cons (jg_name sc_tables_by_lines.nd) (jgs_cons (jg_name sc_tables_by_lines.nd) (jgs_cons (jg_name sc_tables_by_lines.nd) (jgs_cons (jg_name sc_tables_by_lines.nd) (jgs_nil)))))))) (jss_one (js_try_x rfl rfl ⟨rfl, by decide, Or.inl T.g_DeskError⟩ (fun _ => PassesOwnAt.leaving) b.tk2 T.cat (fun W pn xe tkW po => jss_cons (js_expr (je_methB T.cl_Table (ok_Table_add T) (b.hr.mono (by decide)) (fun σ => L2N.passAt tkW σ) (je_getD (hu1 b.hr) (je_var 2) (je_str)) (ja_cons (je_tup (ja_cons (je_var 3) (ja_cons (je_callQ (ok_home_of T) (b.hr.mono (by decide)) (fun σ => L2N.passAt tkW σ) (ja_cons (je_var 3) (ja_nil))) (ja_cons (je_var 4) (ja_cons (je_var 5) (ja_cons (je_var 6) (ja_cons (je_var 7) (ja_nil)))))))) (ja_nil))))
    (jss_one (js_for po rfl (ji_tup (je_var 8)) (jg_tup rfl (jgs_cons (jg_name sc_tables_by_lines.nd) (jgs_cons (jg_name sc_tables_by_lines.nd) (jgs_nil)))) (jss_one (js_expr (je_methB T.cl_Table (ok_Table_add T) (b.hr.mono (by decide)) (fun σ => L2N.passAt tkW σ) (je_getD (hu1 b.hr) (je_var 2) (je_str)) (ja_cons (je_tup (ja_cons (je_var 3) (ja_cons (je_var 9) (ja_cons (je_var 10) (ja_nil))))) (ja_nil)))))))) (fun a oe pn tkS hot => jss_one (js_raiseXH hot tkS T.x_InvalidPaper)))))
    (jss_one (js_ret (je_var 2)))))
theorem ok_tables_by_lines (T : Txt w K mg C_Table C_DeskError C_InvalidName C_DuplicateName C_UnknownName C_TooMany C_InvalidPaper) (pm : P.main = mainM) : IsFnW P w K mg base 7 "tables_by_lines" ["lines"] (f_tables_by_lines C_Table) := ok0_tables_by_lines T pm
abbrev s__law_draw : Stmt := top 38
theorem sc__law_draw : FnScope N__law_draw ["pool", "many"] (defScope s__law_draw) := ⟨rfl, rfl, rfl, by decide +kernel, rfl, by decide +kernel, by decide +kernel⟩
theorem ok0__law_draw (T : Txt w K mg C_Table C_DeskError C_InvalidName C_DuplicateName C_UnknownName C_TooMany C_InvalidPaper) : IsFn P w K mg base 1 "_law_draw" ["pool", "many"] [] (f0__law_draw) := T.d__law_draw.fn (k := 0) (b := b__law_draw) sc__law_draw fun f cdv A outer s H E b =>
    jss_cons (js_if (jt_cmp op_gt s_gtI (je_ix (je_var 0) (je_int)) (je_int)) (jss_cons (js_set (i := 2) sc__law_draw.nd (je_op op_modN s_modI (je_callTy call_int1 s_int1 T.n_int (by decide +kernel) (ja_cons (je_ix (je_var 0) (je_int)) (ja_nil))) (je_var 1)))
    (jss_cons (js_sub (je_op op_fdivN s_divI (je_ix (je_var 0) (je_int)) (je_var 1)) (je_var 0) (je_int))
    (jss_one (js_ret (je_var 2))))) (jss_nil))
    (jss_cons (js_if (jt_w (jw_and (jt_cmp (op_eqD (hu64 b.hr)) s_eqD (je_op op_modN s_modI (je_callTy call_int1 s_int1 T.n_int (by decide +kernel) (ja_cons (je_ix (je_var 0) (je_int)) (ja_nil))) (je_int)) (je_int)) (jw_and1 (jt_cmp op_lt s_ltI (je_ix (je_var 0) (je_int)) (je_callB call_len s_len T.n_len (by decide +kernel) (ja_cons (je_ix (je_var 0) (je_int)) (ja_nil))))))) (jss_cons (js_set (i := 3) sc__law_draw.nd (je_callB call_abs s_abs T.n_abs (by decide +kernel) (ja_cons (je_ix (je_ix (je_var 0) (je_int)) (je_ix (je_var 0) (je_int))) (ja_nil))))
    (jss_cons (js_sub (je_op op_add s_addI (je_ix (je_var 0) (je_int)) (je_int)) (je_var 0) (je_int))
    (jss_cons (js_if (jt_cmp op_ge s_geI (je_var 3) (je_op op_pow s_powI (je_int) (je_int))) (jss_cons (js_sub (je_op op_fdivN s_divI (je_var 3) (je_var 1)) (je_var 0) (je_int))
    (jss_one (js_ret (je_op op_modN s_modI (je_callTy call_int1 s_int1 T.n_int (by decide +kernel) (ja_cons (je_var 3) (ja_nil))) (je_var 1))))) (jss_nil))
    (jss_one (js_sub (je_var 3) (je_var 0) (je_int)))))) (jss_nil))
    (jss_cons (js_sub (je_op op_add s_addI (je_ix (je_var 0) (je_int)) (je_int)) (je_var 0) (je_int))
    (jss_cons (js_set (i := 4) sc__law_draw.nd (je_op op_modN s_modI (je_callTy call_int1 s_int1 T.n_int (by decide +kernel) (ja_cons (je_op op_add s_addI (je_op op_add s_addI (je_op op_mul s_mulI (je_ix (je_var 0) (je_int)) (je_int)) (je_op op_mul s_mulI (je_ix (je_var 0) (je_int)) (je_int))) (je_int)) (ja_nil))) (je_int)))
    (jss_cons (js_set (i := 4) sc__law_draw.nd (je_op op_modN s_modI (je_callTy call_int1 s_int1 T.n_int (by decide +kernel) (ja_cons (je_op op_add s_addI (je_op op_mul s_mulI (je_var 4) (je_var 4)) (je_op op_mul s_mulI (je_ix (je_var 0) (je_int)) (je_int))) (ja_nil))) (je_int)))
    (jss_one (js_ret (je_op op_modN s_modI (je_callTy call_int1 s_int1 T.n_int (by decide +kernel) (ja_cons (je_var 4) (ja_nil))) (je_var 1))))))))
theorem ok__law_draw (T : Txt w K mg C_Table C_DeskError C_InvalidName C_DuplicateName C_UnknownName C_TooMany C_InvalidPaper) : IsFn P w K mg base 1 "_law_draw" ["pool", "many"] [] (f__law_draw) := ok0__law_draw T
abbrev s__law_pick : Stmt := top 39
theorem sc__law_pick : FnScope N__law_pick ["pool", "rows"] (defScope s__law_pick) := ⟨rfl, rfl, rfl, by decide +kernel, rfl, by decide +kernel, by decide +kernel⟩
theorem ok0__law_pick (T : Txt w K mg C_Table C_DeskError C_InvalidName C_DuplicateName C_UnknownName C_TooMany C_InvalidPaper) : IsFn P w K mg base 2 "_law_pick" ["pool", "rows"] [] (f0__law_pick) := T.d__law_pick.fn (k := 1) (b := b__law_pick) sc__law_pick fun f cdv A outer s H E b =>
    jss_one (js_ret (je_ix (je_var 1) (je_callG (ok__law_draw T) (b.hr.mono (by decide)) b.hx (ja_cons (je_var 0) (ja_cons (je_callB call_len s_len T.n_len (by decide +kernel) (ja_cons (je_var 1) (ja_nil))) (ja_nil))))))
theorem ok__law_pick (T : Txt w K mg C_Table C_DeskError C_InvalidName C_DuplicateName C_UnknownName C_TooMany C_InvalidPaper) : IsFn P w K mg base 2 "_law_pick" ["pool", "rows"] [] (f__law_pick) := ok0__law_pick T
abbrev s__law_so : Stmt := top 40
theorem sc__law_so : FnScope N__law_so ["name", "sign", "text"] (defScope s__law_so) := ⟨rfl, rfl, rfl, by decide +kernel, rfl, by decide +kernel, by decide +kernel⟩
theorem ok0__law_so (T : Txt w K mg C_Table C_DeskError C_InvalidName C_DuplicateName C_UnknownName C_TooMany C_InvalidPaper) : IsFn P w K mg base 1 "_law_so" ["name", "sign", "text"] [] (f0__law_so) := T.d__law_so.fn (k := 0) (b := b__law_so) sc__law_so fun f cdv A outer s H E b =>
    jss_cons (js_if (jt_cmp (op_eqD (hu64 b.hr)) s_eqD (je_var 1) (je_str)) (jss_one (js_ret (je_cmp (op_eqD (hu64 b.hr)) s_eqD (je_var 0) (je_var 2)))) (jss_nil))
    (jss_cons (js_if (jt_cmp op_in_seq (sim_inT false) (je_var 1) (je_tup (ja_cons (je_str) (ja_cons (je_str) (ja_nil))))) (jss_one (js_ret (je_orv (je_cmp op_lt_str s_ltS (je_var 0) (je_var 2)) (je_or1 (je_and (je_cmp (op_eqD (hu64 b.hr)) s_eqD (je_var 1) (je_str)) (je_and1 (je_cmp (op_eqD (hu64 b.hr)) s_eqD (je_var 0) (je_var 2)))))))) (jss_nil))
    (jss_one (js_ret (je_orv (je_cmp op_gt_str s_gtS (je_var 0) (je_var 2)) (je_or1 (je_and (je_cmp (op_eqD (hu64 b.hr)) s_eqD (je_var 1) (je_str)) (je_and1 (je_cmp (op_eqD (hu64 b.hr)) s_eqD (je_var 0) (je_var 2)))))))))
theorem ok__law_so (T : Txt w K mg C_Table C_DeskError C_InvalidName C_DuplicateName C_UnknownName C_TooMany C_InvalidPaper) : IsFn P w K mg base 1 "_law_so" ["name", "sign", "text"] [] (f__law_so) := ok0__law_so T
abbrev s__law_refused : Stmt := top 41
theorem sc__law_refused : FnScope N__law_refused ["choice", "one"] (defScope s__law_refused) := ⟨rfl, rfl, rfl, by decide +kernel, rfl, by decide +kernel, by decide +kernel⟩
theorem ok0__law_refused (T : Txt w K mg C_Table C_DeskError C_InvalidName C_DuplicateName C_UnknownName C_TooMany C_InvalidPaper) (pm : P.main = mainM) : IsFnW P w K mg base 8 "_law_refused" ["choice", "one"] (f0__law_refused C_Table) := T.d__law_refused.fnW (k := 7) (b := b__law_refused C_Table) sc__law_refused fun f cdv A outer s H E b =>
    jss_cons (js_try_isW (i := 2) sc__law_refused.nd ⟨rfl, by decide, Or.inl T.g_DeskError⟩ b.tk2 T.cat T.g_InvalidPaper T.e_InvalidPaper T.kk_InvalidPaper T.kv_InvalidPaper T.n_isinstance T.n_ValueError (fun W pn xe tkW po => jss_one (js_if (jt_cmp (op_eqD (hu64 b.hr)) s_eqD (je_var 0) (je_int)) (jss_one (js_expr (je_callQ (ok_read_book_line T) (b.hr.mono (by decide)) (fun σ => L2N.passAt (takesN tkW) σ) (ja_cons (je_var 1) (ja_nil))))) (jss_one (js_if (jt_cmp (op_eqD (hu64 b.hr)) s_eqD (je_var 0) (je_int)) (jss_one (js_expr (je_callQ (ok_int_of T) (b.hr.mono (by decide)) (fun σ => L2N.passAt (takesN tkW) σ) (ja_cons (je_var 1) (ja_nil))))) (jss_one (js_expr (je_callW (ok_tables_by_lines T pm) (b.hr.mono (by decide)) (fun σ => L2.passAt tkW σ) (ja_cons (je_dat (jl_lst (ja_cons (je_var 1) (ja_nil)))) (ja_nil))))))))) (by rintro e ⟨_, _, _, _, rfl⟩ _; rfl))
    (jss_one (js_ret (je_bl)))
theorem ok__law_refused (T : Txt w K mg C_Table C_DeskError C_InvalidName C_DuplicateName C_UnknownName C_TooMany C_InvalidPaper) (pm : P.main = mainM) : IsPureW P w K mg base 8 "_law_refused" ["choice", "one"] q__law_refused := (ok0__law_refused T pm).pure (pure__law_refused C_Table)
abbrev s__law_run : Stmt := top 42
theorem sc__law_run : FnScope N__law_run ["script"] (defScope s__law_run) := ⟨rfl, rfl, rfl, by decide +kernel, rfl, by decide +kernel, by decide +kernel⟩
theorem jlaw (T : Txt w K mg C_Table C_DeskError C_InvalidName C_DuplicateName C_UnknownName C_TooMany C_InvalidPaper) (pm : P.main = mainM) {f : Addr} {cdv : Value} {A : Around} {outer : List Env} {s : Shared} {H : Hp} {E : XK} (b : BodyX (cxOf (L2N.CX P w) P w K mg base N__law_run "_law_run" (defScope s__law_run) f cdv A outer s H E) (fun c d _ H' => E c d H') 8) : JSs (cxOf (L2N.CX P w) P w K mg base N__law_run "_law_run" (defScope s__law_run) f cdv A outer s H E) (fun c d _ H' => E c d H') ((defBody s__law_run).tail) (b__law_run C_Table) :=
    jss_cons (js_set (i := 2) sc__law_run.nd (je_dat (jl_lst (ja_cons (je_str) (ja_cons (je_str) (ja_cons (je_str) (ja_cons (je_str) (ja_cons (je_str) (ja_cons (je_str) (ja_cons (je_str) (ja_cons (je_str) (ja_nil))))))))))))
    (jss_cons (js_set (i := 3) sc__law_run.nd (je_dat (jl_callB (cr_sortD (hu64 b.hr)) s_sorted T.n_sorted (by decide +kernel) (ja_cons (je_dat (jl_cat (je_dat (jl_cat (je_var 2) (je_dat (jl_lc (own := [("word", 8)]) rfl sc__law_run.nd (ji_list (je_var 2)) (blkOk_by (N := N__law_run) (sc := (defScope s__law_run)) (by decide +kernel)) (fun _ _ _ _ _ => jg_name sc__law_run.nd) (fun _ _ _ _ _ => jts_nil) (fun _ _ _ _ _ => je_op op_add_str s_addS (je_var 8) (je_str)))))) (je_dat (jl_lst (ja_cons (je_str) (ja_cons (je_str) (ja_cons (je_str) (ja_nil)))))))) (ja_nil)))))
    (jss_cons (js_for b.hp rfl (ji_rng1 T.n_range (je_int)) (jg_name sc__law_run.nd) (jss_cons (js_setLc (i := 5) (own := [("word", 8)]) rfl sc__law_run.nd (ji_list (je_var 2)) (blkOk_by (N := N__law_run) (sc := (defScope s__law_run)) (by decide +kernel)) (fun _ _ _ _ _ => jg_name sc__law_run.nd) (fun _ _ _ _ _ => jts_one (jt_cmp (op_eqD (hu64 b.hr)) s_eqD (je_callG (ok__law_draw T) (b.hr.mono (by decide)) (fun _ => pass0) (ja_cons (je_var 1) (ja_cons (je_int) (ja_nil)))) (je_int))) (fun _ _ _ _ _ => je_var 8))
    (jss_cons (js_set (i := 6) sc__law_run.nd (je_dat (jl_lc (own := [("j", 19)]) rfl sc__law_run.nd (ji_rng1 T.n_range (je_op op_add s_addI (je_int) (je_callG (ok__law_draw T) (b.hr.mono (by decide)) b.hx (ja_cons (je_var 1) (ja_cons (je_int) (ja_nil)))))) (blkOk_by (N := N__law_run) (sc := (defScope s__law_run)) (by decide +kernel)) (fun _ _ _ _ _ => jg_name sc__law_run.nd) (fun _ _ _ _ _ => jts_nil) (fun _ _ _ _ _ => je_tup (ja_cons (je_callG (ok__law_pick T) (b.hr.mono (by decide)) (fun _ => pass0) (ja_cons (je_var 1) (ja_cons (je_dat (jl_lst (ja_cons (je_str) (ja_cons (je_str) (ja_cons (je_str) (ja_cons (je_str) (ja_cons (je_str) (ja_nil)))))))) (ja_nil)))) (ja_cons (je_callG (ok__law_pick T) (b.hr.mono (by decide)) (fun _ => pass0) (ja_cons (je_var 1) (ja_cons (je_dat (jl_cat (je_var 2) (je_dat (jl_lst (ja_cons (je_str) (ja_cons (je_str) (ja_cons (je_str) (ja_nil)))))))) (ja_nil)))) (ja_nil)))))))
    (jss_cons (js_setLc (i := 7) (own := [("word", 8)]) rfl sc__law_run.nd (ji_list (je_var 3)) (blkOk_by (N := N__law_run) (sc := (defScope s__law_run)) (by decide +kernel)) (fun _ _ _ _ _ => jg_name sc__law_run.nd) (fun _ _ _ _ _ => jts_one (jt_cmp (op_eqD (hu64 b.hr)) s_eqD (je_callB call_len s_len T.n_len (by decide +kernel) (ja_cons (je_dat (jl_lc (own := [("row", 13)]) rfl sc__law_run.nd (ji_list (je_var 6)) (blkIn (N := N__law_run) (S0 := (defScope s__law_run)) (by decide +kernel)) (fun _ _ _ _ _ => jg_name sc__law_run.nd) (fun _ _ _ _ _ => jts_one (jt_not (jt_tru (je_callG (ok__law_so T) (b.hr.mono (by decide)) (fun _ => pass0) (ja_cons (je_var 8) (ja_cons (je_ix (je_var 13) (je_int)) (ja_cons (je_ix (je_var 13) (je_int)) (ja_nil)))))))) (fun _ _ _ _ _ => je_var 13))) (ja_nil))) (je_int))) (fun _ _ _ _ _ => je_var 8))
    (jss_cons (js_for b.hp rfl (ji_list (je_var 3)) (jg_name sc__law_run.nd) (jss_cons (js_if (jt_not (jt_tru (je_callQ (ok__law_same T) (b.hr.mono (by decide)) b.hx (ja_cons (je_callG (ok_is_asked T) (b.hr.mono (by decide)) b.hx (ja_cons (je_var 8) (ja_cons (je_var 6) (ja_nil)))) (ja_cons (je_cmp (op_inD (hu65 b.hr)) s_inD (je_var 8) (je_var 7)) (ja_nil)))))) (jss_one (js_ret (je_bl))) (jss_nil))
    (jss_cons (js_setLc (i := 9) (own := [("row", 13)]) rfl sc__law_run.nd (ji_list (je_var 6)) (blkOk_by (N := N__law_run) (sc := (defScope s__law_run)) (by decide +kernel)) (fun _ _ _ _ _ => jg_name sc__law_run.nd) (fun _ _ _ _ _ => jts_one (jt_w (jw_and (jt_cmp op_in_seq (sim_inT false) (je_ix (je_var 13) (je_int)) (je_tup (ja_cons (je_str) (ja_cons (je_str) (ja_cons (je_str) (ja_nil)))))) (jw_and1 (jt_w (jw_or (jt_cmp op_lt_str s_ltS (je_var 8) (je_ix (je_var 13) (je_int))) (jw_or1 (jt_w (jw_and (jt_cmp (op_eqD (hu64 b.hr)) s_eqD (je_var 8) (je_ix (je_var 13) (je_int))) (jw_and1 (jt_cmp (op_eqD (hu64 b.hr)) s_eqD (je_ix (je_var 13) (je_int)) (je_str)))))))))))) (fun _ _ _ _ _ => je_var 13))
    (jss_cons (js_setLc (i := 10) (own := [("row", 13)]) rfl sc__law_run.nd (ji_list (je_var 6)) (blkOk_by (N := N__law_run) (sc := (defScope s__law_run)) (by decide +kernel)) (fun _ _ _ _ _ => jg_name sc__law_run.nd) (fun _ _ _ _ _ => jts_one (jt_w (jw_and (jt_cmp op_in_seq (sim_inT false) (je_ix (je_var 13) (je_int)) (je_tup (ja_cons (je_str) (ja_cons (je_str) (ja_cons (je_str) (ja_nil)))))) (jw_and1 (jt_w (jw_or (jt_cmp op_gt_str s_gtS (je_var 8) (je_ix (je_var 13) (je_int))) (jw_or1 (jt_w (jw_and (jt_cmp (op_eqD (hu64 b.hr)) s_eqD (je_var 8) (je_ix (je_var 13) (je_int))) (jw_and1 (jt_cmp (op_eqD (hu64 b.hr)) s_eqD (je_ix (je_var 13) (je_int)) (je_str)))))))))))) (fun _ _ _ _ _ => je_var 13))
    (jss_cons (js_if (jt_w (jw_or (jt_not (jt_tru (je_callQ (ok__law_same T) (b.hr.mono (by decide)) b.hx (ja_cons (je_callG (ok_is_below T) (b.hr.mono (by decide)) b.hx (ja_cons (je_var 8) (ja_cons (je_var 6) (ja_nil)))) (ja_cons (je_cmp op_gt s_gtI (je_callB call_len s_len T.n_len (by decide +kernel) (ja_cons (je_var 9) (ja_nil))) (je_int)) (ja_nil)))))) (jw_or1 (jt_not (jt_tru (je_callQ (ok__law_same T) (b.hr.mono (by decide)) b.hx (ja_cons (je_callG (ok_is_above T) (b.hr.mono (by decide)) b.hx (ja_cons (je_var 8) (ja_cons (je_var 6) (ja_nil)))) (ja_cons (je_cmp op_gt s_gtI (je_callB call_len s_len T.n_len (by decide +kernel) (ja_cons (je_var 10) (ja_nil))) (je_int)) (ja_nil))))))))) (jss_one (js_ret (je_bl))) (jss_nil))
    (jss_one (js_if (jt_w (jw_or (jt_w (jw_and (jt_cmp op_gt s_gtI (je_callB call_len s_len T.n_len (by decide +kernel) (ja_cons (je_var 9) (ja_nil))) (je_int)) (jw_and1 (jt_cmp op_gt s_gtI (je_callB call_len s_len T.n_len (by decide +kernel) (ja_cons (je_dat (jl_lc (own := [("one", 20)]) rfl sc__law_run.nd (ji_list (je_var 7)) (blkOk_by (N := N__law_run) (sc := (defScope s__law_run)) (by decide +kernel)) (fun _ _ _ _ _ => jg_name sc__law_run.nd) (fun _ _ _ _ _ => jts_one (jt_cmp op_le_str s_leS (je_var 20) (je_var 8))) (fun _ _ _ _ _ => je_var 20))) (ja_nil))) (je_int))))) (jw_or1 (jt_w (jw_and (jt_cmp op_gt s_gtI (je_callB call_len s_len T.n_len (by decide +kernel) (ja_cons (je_var 10) (ja_nil))) (je_int)) (jw_and1 (jt_cmp op_gt s_gtI (je_callB call_len s_len T.n_len (by decide +kernel) (ja_cons (je_dat (jl_lc (own := [("one", 20)]) rfl sc__law_run.nd (ji_list (je_var 7)) (blkOk_by (N := N__law_run) (sc := (defScope s__law_run)) (by decide +kernel)) (fun _ _ _ _ _ => jg_name sc__law_run.nd) (fun _ _ _ _ _ => jts_one (jt_cmp op_ge_str s_geS (je_var 20) (je_var 8))) (fun _ _ _ _ _ => je_var 20))) (ja_nil))) (je_int)))))))) (jss_one (js_ret (je_bl))) (jss_nil))))))))
    (jss_cons (js_set (i := 11) sc__law_run.nd (je_callB call_len s_len T.n_len (by decide +kernel) (ja_cons (je_dat (jl_lc (own := [("name", 21)]) rfl sc__law_run.nd (ji_list (je_var 5)) (blkOk_by (N := N__law_run) (sc := (defScope s__law_run)) (by decide +kernel)) (fun _ _ _ _ _ => jg_name sc__law_run.nd) (fun _ _ _ _ _ => jts_one (jt_cmp op_gt s_gtI (je_callB call_len s_len T.n_len (by decide +kernel) (ja_cons (je_dat (jl_lc (own := [("row", 13)]) rfl sc__law_run.nd (ji_list (je_var 6)) (blkIn (N := N__law_run) (S0 := (defScope s__law_run)) (by decide +kernel)) (fun _ _ _ _ _ => jg_name sc__law_run.nd) (fun _ _ _ _ _ => jts_one (jt_w (jw_and (jt_cmp op_in_seq (sim_inT false) (je_ix (je_var 13) (je_int)) (je_tup (ja_cons (je_str) (ja_cons (je_str) (ja_cons (je_str) (ja_nil)))))) (jw_and1 (jt_w (jw_or (jt_cmp op_lt_str s_ltS (je_var 21) (je_ix (je_var 13) (je_int))) (jw_or1 (jt_w (jw_and (jt_cmp (op_eqD (hu64 b.hr)) s_eqD (je_var 21) (je_ix (je_var 13) (je_int))) (jw_and1 (jt_cmp (op_eqD (hu64 b.hr)) s_eqD (je_ix (je_var 13) (je_int)) (je_str)))))))))))) (fun _ _ _ _ _ => je_var 13))) (ja_nil))) (je_int))) (fun _ _ _ _ _ => je_var 21))) (ja_nil))))
    (jss_one (js_if (jt_not (jt_tru (je_callQ (ok__law_same T) (b.hr.mono (by decide)) b.hx (ja_cons (je_callG (ok_span T) (b.hr.mono (by decide)) b.hx (ja_cons (je_var 5) (ja_cons (je_var 6) (ja_nil)))) (ja_cons (je_tup (ja_cons (je_var 11) (ja_cons (je_var 11) (ja_nil)))) (ja_nil)))))) (jss_one (js_ret (je_bl))) (jss_nil)))))))))
    (jss_cons (js_setLc (i := 12) (own := [("right", 22)]) rfl sc__law_run.nd (ji_list (je_dat (jl_slice (je_dat (jl_lst (ja_cons (je_tup (ja_cons (je_str) (ja_cons (je_op op_sub s_subI (je_callG (ok__law_draw T) (b.hr.mono (by decide)) b.hx (ja_cons (je_var 1) (ja_cons (je_int) (ja_nil)))) (je_int)) (ja_nil)))) (ja_cons (je_tup (ja_cons (je_str) (ja_cons (je_int) (ja_nil)))) (ja_nil))))) (jo_none) (jo_some (je_callG (ok__law_draw T) (b.hr.mono (by decide)) b.hx (ja_cons (je_var 1) (ja_cons (je_int) (ja_nil)))))))) (blkOk_by (N := N__law_run) (sc := (defScope s__law_run)) (by decide +kernel)) (fun _ _ _ _ _ => jg_name sc__law_run.nd) (fun _ _ _ _ _ => jts_one (jt_cmp (op_neD (hu64 b.hr)) s_neD (je_ix (je_var 22) (je_int)) (je_int))) (fun _ _ _ _ _ => je_var 22))
    (jss_cons (js_set (i := 13) sc__law_run.nd (je_tup (ja_cons (je_callG (ok__law_pick T) (b.hr.mono (by decide)) b.hx (ja_cons (je_var 1) (ja_cons (je_var 2) (ja_nil)))) (ja_cons (je_callG (ok__law_pick T) (b.hr.mono (by decide)) b.hx (ja_cons (je_var 1) (ja_cons (je_dat (jl_lst (ja_cons (je_str) (ja_cons (je_str) (ja_nil))))) (ja_nil)))) (ja_cons (je_op op_sub s_subI (je_int) (je_callG (ok__law_draw T) (b.hr.mono (by decide)) b.hx (ja_cons (je_var 1) (ja_cons (je_int) (ja_nil))))) (ja_cons (je_op op_sub s_subI (je_callG (ok__law_draw T) (b.hr.mono (by decide)) b.hx (ja_cons (je_var 1) (ja_cons (je_int) (ja_nil)))) (je_int)) (ja_cons (je_callG (ok__law_pick T) (b.hr.mono (by decide)) b.hx (ja_cons (je_var 1) (ja_cons (je_dat (jl_lst (ja_cons (je_str) (ja_cons (je_str) (ja_nil))))) (ja_nil)))) (ja_cons (je_callTy call_tuple_of s_tuple T.n_tuple (by decide +kernel) (ja_cons (je_var 12) (ja_nil))) (ja_nil)))))))))
    (jss_cons (js_set (i := 14) sc__law_run.nd (je_callG (ok_book_line T) (b.hr.mono (by decide)) b.hx (ja_cons (je_var 13) (ja_nil))))
    (jss_cons (js_set (i := 15) sc__law_run.nd (je_if (jt_cmp op_gt s_gtI (je_callB call_len s_len T.n_len (by decide +kernel) (ja_cons (je_var 12) (ja_nil))) (je_int)) (je_join (je_str) (je_dat (jl_lc (own := [("desk", 23), ("number", 17)]) rfl sc__law_run.nd (ji_list (je_var 12)) (blkOk_by (N := N__law_run) (sc := (defScope s__law_run)) (by decide +kernel)) (fun _ _ _ _ _ => jg_tup rfl (jgs_cons (jg_name sc__law_run.nd) (jgs_cons (jg_name sc__law_run.nd) (jgs_nil)))) (fun _ _ _ _ _ => jts_nil) (fun _ _ _ _ _ => je_op op_add_str s_addS (je_op op_add_str s_addS (je_var 23) (je_str)) (je_callTy call_str_int s_strI T.n_str (by decide +kernel) (ja_cons (je_var 17) (ja_nil))))))) (je_str)))
    (jss_cons (js_if (jt_w (jw_or (jt_cmp (op_neD (hu64 b.hr)) s_neD (je_var 14) (je_join (je_str) (je_dat (jl_lst (ja_cons (je_ix (je_var 13) (je_int)) (ja_cons (je_ix (je_var 13) (je_int)) (ja_cons (je_callTy call_str_int s_strI T.n_str (by decide +kernel) (ja_cons (je_ix (je_var 13) (je_int)) (ja_nil))) (ja_cons (je_callTy call_str_int s_strI T.n_str (by decide +kernel) (ja_cons (je_ix (je_var 13) (je_int)) (ja_nil))) (ja_cons (je_ix (je_var 13) (je_int)) (ja_cons (je_var 15) (ja_nil))))))))))) (jw_or1 (jt_not (jt_tru (je_callQ (ok__law_same T) (b.hr.mono (by decide)) b.hx (ja_cons (je_callQ (ok_read_book_line T) (b.hr.mono (by decide)) b.hx (ja_cons (je_var 14) (ja_nil))) (ja_cons (je_var 13) (ja_nil))))))))) (jss_one (js_ret (je_bl))) (jss_nil))
    (jss_cons (js_set (i := 16) sc__law_run.nd (je_callWN (ok_tables_by_lines T pm) (b.hr.mono (by decide)) (ja_cons (je_dat (jl_lst (ja_cons (je_var 14) (ja_nil)))) (ja_nil))))
    (jss_cons (js_if (jt_not (jt_tru (je_callQ (ok__law_same T) (b.hr.mono (by decide)) b.hx (ja_cons (je_methB0 T.cl_Table (ok_Table_rows T) (b.hr.mono (by decide)) b.hx (je_getD (hu1 b.hr) (je_var 16) (je_str))) (ja_cons (je_dat (jl_lst (ja_cons (je_tup (ja_cons (je_ix (je_var 13) (je_int)) (ja_cons (je_ix (je_dat (jl_split (je_ix (je_var 13) (je_int)) (je_str))) (je_int)) (ja_cons (je_ix (je_var 13) (je_int)) (ja_cons (je_ix (je_var 13) (je_int)) (ja_cons (je_ix (je_var 13) (je_int)) (ja_cons (je_ix (je_var 13) (je_int)) (ja_nil)))))))) (ja_nil)))) (ja_nil)))))) (jss_one (js_ret (je_bl))) (jss_nil))
    (jss_cons (js_if (jt_not (jt_tru (je_callQ (ok__law_same T) (b.hr.mono (by decide)) b.hx (ja_cons (je_methB0 T.cl_Table (ok_Table_rows T) (b.hr.mono (by decide)) b.hx (je_getD (hu1 b.hr) (je_var 16) (je_str))) (ja_cons (je_dat (jl_lc (own := [("desk", 23), ("number", 17)]) rfl sc__law_run.nd (ji_list (je_var 12)) (blkOk_by (N := N__law_run) (sc := (defScope s__law_run)) (by decide +kernel)) (fun _ _ _ _ _ => jg_tup rfl (jgs_cons (jg_name sc__law_run.nd) (jgs_cons (jg_name sc__law_run.nd) (jgs_nil)))) (fun _ _ _ _ _ => jts_nil) (fun _ _ _ _ _ => je_tup (ja_cons (je_ix (je_var 13) (je_int)) (ja_cons (je_var 23) (ja_cons (je_var 17) (ja_nil))))))) (ja_nil)))))) (jss_one (js_ret (je_bl))) (jss_nil))
    (jss_cons (js_if (jt_w (jw_or (jt_cmp (op_neD (hu64 b.hr)) s_neD (je_methB0 T.cl_Table (ok_Table_count T) (b.hr.mono (by decide)) b.hx (je_getD (hu1 b.hr) (je_var 16) (je_str))) (je_int)) (jw_or (jt_cmp (op_neD (hu64 b.hr)) s_neD (je_methB0 T.cl_Table (ok_Table_count T) (b.hr.mono (by decide)) b.hx (je_getD (hu1 b.hr) (je_var 16) (je_str))) (je_int)) (jw_or1 (jt_cmp (op_neD (hu64 b.hr)) s_neD (je_methB0 T.cl_Table (ok_Table_count T) (b.hr.mono (by decide)) b.hx (je_getD (hu1 b.hr) (je_callWN (ok_tables_by_lines T pm) (b.hr.mono (by decide)) (ja_cons (je_dat (jl_lst (ja_nil))) (ja_nil))) (je_str))) (je_int)))))) (jss_one (js_ret (je_bl))) (jss_nil))
    (jss_cons (js_set (i := 17) sc__law_run.nd (je_callG (ok__law_pick T) (b.hr.mono (by decide)) b.hx (ja_cons (je_var 1) (ja_cons (je_dat (jl_lst (ja_cons (je_int) (ja_cons (je_int) (ja_cons (je_neg (je_int)) (ja_cons (je_op op_pow s_powI (je_int) (je_int)) (ja_cons (je_op op_sub s_subI (je_int) (je_op op_pow s_powI (je_int) (je_int))) (ja_cons (je_op op_sub s_subI (je_callG (ok__law_draw T) (b.hr.mono (by decide)) b.hx (ja_cons (je_var 1) (ja_cons (je_int) (ja_nil)))) (je_int)) (ja_nil))))))))) (ja_nil)))))
    (jss_cons (js_if (jt_not (jt_tru (je_callQ (ok__law_same T) (b.hr.mono (by decide)) b.hx (ja_cons (je_callQ (ok_int_of T) (b.hr.mono (by decide)) b.hx (ja_cons (je_callTy call_str_int s_strI T.n_str (by decide +kernel) (ja_cons (je_var 17) (ja_nil))) (ja_nil))) (ja_cons (je_var 17) (ja_nil)))))) (jss_one (js_ret (je_bl))) (jss_nil))
    (jss_cons (js_for b.hp rfl (ji_list (je_dat (jl_lst (ja_cons (je_str) (ja_cons (je_str) (ja_cons (je_str) (ja_cons (je_str) (ja_cons (je_str) (ja_cons (je_str) (ja_cons (je_str) (ja_cons (je_str) (ja_cons (je_str) (ja_cons (je_str) (ja_nil)))))))))))))) (jg_name sc__law_run.nd) (jss_one (js_if (jt_not (jt_tru (je_callQN (ok__law_refused T pm) (b.hr.mono (by decide)) (ja_cons (je_int) (ja_cons (je_var 18) (ja_nil)))))) (jss_one (js_ret (je_bl))) (jss_nil))))
    (jss_cons (js_for b.hp rfl (ji_list (je_dat (jl_lst (ja_cons (je_str) (ja_cons (je_str) (ja_cons (je_str) (ja_cons (je_str) (ja_cons (je_str) (ja_cons (je_str) (ja_cons (je_str) (ja_cons (je_str) (ja_cons (je_str) (ja_nil))))))))))))) (jg_name sc__law_run.nd) (jss_one (js_if (jt_w (jw_or (jt_not (jt_tru (je_callQN (ok__law_refused T pm) (b.hr.mono (by decide)) (ja_cons (je_int) (ja_cons (je_var 18) (ja_nil)))))) (jw_or1 (jt_not (jt_tru (je_callQN (ok__law_refused T pm) (b.hr.mono (by decide)) (ja_cons (je_int) (ja_cons (je_var 18) (ja_nil))))))))) (jss_one (js_ret (je_bl))) (jss_nil))))
    (jss_one (js_ret (je_and (je_callQN (ok__law_refused T pm) (b.hr.mono (by decide)) (ja_cons (je_int) (ja_cons (je_op op_add_str s_addS (je_op op_add_str s_addS (je_str) (je_join (je_str) (je_dat (jl_lc (own := [("k", 4)]) rfl sc__law_run.nd (ji_rng1 T.n_range (je_int)) (blkOk_by (N := N__law_run) (sc := (defScope s__law_run)) (by decide +kernel)) (fun _ _ _ _ _ => jg_name sc__law_run.nd) (fun _ _ _ _ _ => jts_nil) (fun _ _ _ _ _ => je_str))))) (je_str)) (ja_nil)))) (je_and1 (je_callQN (ok__law_refused T pm) (b.hr.mono (by decide)) (ja_cons (je_int) (ja_cons (je_str) (ja_nil)))))))))))))))))))))))
abbrev s_law : Stmt := top 43
theorem sc_law : FnScope ["script"] ["script"] (defScope s_law) := ⟨rfl, rfl, rfl, by decide +kernel, rfl, by decide +kernel, by decide +kernel⟩
end
end Z

set_option linter.all false
set_option autoImplicit false
set_option maxRecDepth 100000
set_option maxHeartbeats 4000000
namespace Z
open PySem PySem.Spec PyProof.Rows L2 L2H
abbrev mainP : Program := PySem.Challenge.pw_desksagree_k77_ranges_of_accounts

section
variable {P : Program} {w : World} {K : PySem.W.Frag} {mg : Str → Option Value} {base : Heap} {C_Table C_DeskError C_InvalidName C_DuplicateName C_UnknownName C_TooMany C_InvalidPaper : Addr}
def spPool (K : PySem.W.Frag) : Sp := fun vs H Q _ => ∃ (a : Addr) (ns : List Int), vs = [.ref a] ∧ SqL K H a (ns.map V.int) ∧ ∀ qq p, H qq = none → (upd H qq (.lst (ns.map V.int))) p = none → Q (.ref p) (upd (upd H qq (.lst (ns.map V.int))) p (.lst [.ref qq, .int 0, .int 0, .int 0, .int 0]))
abbrev s__law_pool : Stmt := top 37
theorem sc__law_pool : FnScope ["script"] ["script"] (defScope s__law_pool) := ⟨rfl, rfl, rfl, by decide +kernel, rfl, by decide +kernel, by decide +kernel⟩
theorem ok_pool (T : Txt w K mg C_Table C_DeskError C_InvalidName C_DuplicateName C_UnknownName C_TooMany C_InvalidPaper) : ∃ f fd, mg "_law_pool" = some (.ref f) ∧ PySem.W.keepIn K (.ref f) = true ∧ FnOk P w K mg base (L2N.CX P w) 1 f fd ["script"] (spPool K) ∧ Binds K fd ["script"] [] := by
  obtain ⟨f, fd, h1, h2, F, hB⟩ := T.d__law_pool.ex
  refine ⟨f, fd, h1, h2, ?_, hB⟩
  obtain ⟨oc, od, kV, doc, pm, an, cdv, ct, osl, rfl, lk, hcd⟩ := F.ex
  refine fn_of lk hcd sc__law_pool (fun vs H Q E ⟨a, ns, e, _⟩ => by rw [e]; rfl) fun A outer s H vs Q E hr ⟨a, ns, ev, hS, hq⟩ => ?_
  subst ev
  refine ⟨_, pss_one (ps_ret (pe_lst (pa_cons (pe_callTy call_list_of (by rfl) T.n_list (by decide +kernel) (pa_cons (pv 0) pa_nil)) (pa_cons pe_int (pa_cons pe_int (pa_cons pe_int (pa_cons pe_int pa_nil))))))), ?_⟩
  refine ⟨_, rfl, a, _, rfl, .inl hS, fun qq hqq => ⟨by show 5 ≤ sizeLine; decide, fun p hp => hq qq p hqq hp⟩⟩
def spLaw (K : PySem.W.Frag) : Sp := fun vs H Q _ => ∃ (a : Addr) (ns : List Int), vs = [.ref a] ∧ SqL K H a (ns.map V.int) ∧ ns.length ≤ 63 ∧ ∀ H', Q (.bl true) H'
theorem dtInts {H : Hp} : ∀ ns : List Int, DtAll K H (ns.map V.int) (ns.map .int)
  | [] => .nil
  | n :: ns => .cons (.int n) (dtInts ns)
theorem fitsInts : ∀ ns : List Int, fitsAll (ns.map .int)
  | [] => trivial
  | n :: ns => ⟨trivial, fitsInts ns⟩
theorem ok_lawM (T : Txt w K mg C_Table C_DeskError C_InvalidName C_DuplicateName C_UnknownName C_TooMany C_InvalidPaper) {f : Addr} {fd : FuncData} (F : Fun K "_law_run" "_law_run" s__law_run f fd) (law_true : ∀ ns : List Int, ns.length ≤ 63 → ∃ m, b__law_run C_Table law0 [poolM ns 0 0 0 0] = .rt (.d (.bool true)) m) (pmP : P.main = mainM) : FnOk P w K mg base (L2N.CX P w) 9 f fd ["script"] (spLaw K) := by
  obtain ⟨oc, od, kV, doc, pm, an, cdv, ct, osl, rfl, lk, hcd⟩ := F.ex
  refine fn_of lk hcd sc__law_run (fun vs H Q E ⟨a, ns, e, _⟩ => by rw [e]; rfl) fun A outer s H vs Q E hr ⟨a, ns, ev, hS, hl, hq⟩ => ?_
  subst ev
  have b := bodyX (P := P) (w := w) (K := K) (mg := mg) (base := base) (N := N__law_run) (E := E) (H := H) (outer := outer) hr
  obtain ⟨t, pt, sm⟩ := jlaw T pmP b
  obtain ⟨fp, fdp, g1, g2, Fp, Bp⟩ := ok_pool (P := P) (w := w) (base := base) T
  refine ⟨_, pss_cons (ps_set (i := 1) sc__law_run.nd rfl (by first | exact Or.inl rfl | exact Or.inr rfl) (pe_call Fp (b.hr.mono (by decide)) rfl g1 g2 Bp .nil passE0 (pa_cons (pv 0) pa_nil))) pt, ?_⟩
  refine ⟨_, rfl, a, ns, rfl, hS, fun qq p hqq hp => ?_⟩
  have hqn : (fun _ : Addr => (none : Option HO)) qq = none := rfl
  have r0 : Rel K H (fun _ => none) [] (fun _ => none) H [] := rel_self fun _ _ z => by cases z
  have r1 := r0.newData (o := .lst (ns.map V.int)) hqq
  have r2 := r1.newAny (o := .lst [.ref qq, .int 0, .int 0, .int 0, .int 0]) hp
  have z1 : ns.length ≤ sizeLine := Nat.le_trans hl (by decide)
  have zl : WR K ([] ++ [p]) (upd (fun _ => none) qq (.lst (ns.map V.int))) (.ref qq) (.d (.list (ns.map .int))) := ⟨.lst upd_same (dtInts ns), by rw [List.length_map]; exact z1, fitsInts ns⟩
  have r3 := r2.newMut (p := p) (m := poolM ns 0 0 0 0) (by rw [upd_same]; simp) (r1.hbn hp) (r1.h0n hp) (by simp) ⟨by show 5 ≤ sizeLine; decide, _, upd_same, .cons zl (.cons (wr_int 0) (.cons (wr_int 0) (.cons (wr_int 0) (.cons (wr_int 0) .nil))))⟩
  obtain ⟨m, hm⟩ := law_true ns hl
  refine sm H (fun _ => none) ([] ++ [p]) _ _ [poolM ns 0 0 0 0] _ law0 r3 ?_ _ ?_
  · exact .cons (fun _ e => by cases e) (.cons (fun _ e => by cases e; exact ⟨_, rfl, p, rfl, rfl⟩) (slots_none _))
  · rw [hm]
    exact fun v as' Hb' H' r' f' w' => by rw [wr_bl_of w']; exact hq H'
theorem ok_law2 (T : Txt w K mg C_Table C_DeskError C_InvalidName C_DuplicateName C_UnknownName C_TooMany C_InvalidPaper) {f : Addr} {fd : FuncData} (F : Fun K "law" "law" s_law f fd) (h : ∃ f fd, mg "_law_run" = some (.ref f) ∧ PySem.W.keepIn K (.ref f) = true ∧ FnOk P w K mg base (L2N.CX P w) 9 f fd ["script"] (spLaw K) ∧ Binds K fd ["script"] []) : FnOk P w K mg base (L2N.CX P w) 10 f fd ["script"] (spLaw K) := by
  obtain ⟨oc, od, kV, doc, pm, an, cdv, ct, osl, rfl, lk, hcd⟩ := F.ex
  refine fn_of lk hcd sc_law (fun vs H Q E ⟨a, ns, e, _⟩ => by rw [e]; rfl) fun A outer s H vs Q E hr ⟨a, ns, ev, hS, hl, hq⟩ => ?_
  subst ev
  have b := bodyX (P := P) (w := w) (K := K) (mg := mg) (base := base) (N := ["script"]) (E := E) (H := H) (outer := outer) hr
  obtain ⟨fp, fdp, g1, g2, Fp, Bp⟩ := h
  refine ⟨_, pss_one (ps_try_thru0 (pss_one (ps_ret (pe_call Fp (b.hr.mono (by decide)) rfl g1 g2 Bp .nil passE0 (pa_cons (pv 0) pa_nil))))), ?_⟩
  exact ⟨_, rfl, a, ns, rfl, hS, hl, fun H' => hq H'⟩
theorem all_mk {h : Heap} {fa : Addr} (X : K.In h) (G : h.Ns mainGlobals mg) (hfa : mg "law" = some (.ref fa)) (law_true : ∀ C_Table : Addr, ∀ (ns : List Int), ns.length ≤ 63 → ∃ m, b__law_run C_Table law0 [poolM ns 0 0 0 0] = .rt (.d (.bool true)) m) (pmP : P.main = mainM)
    {t_GREAT : Tok} {t_LETTERS : Tok} {t_LONGEST : Tok} {t_MOST : Tok} {ga_COLUMNS : Addr} {qa0_COLUMNS : Addr} {qo0_COLUMNS : Option Addr} {qn0_COLUMNS : Nat} {qs0_COLUMNS : Array (Option Value)} {qa1_COLUMNS : Addr} {qo1_COLUMNS : Option Addr} {qn1_COLUMNS : Nat} {qs1_COLUMNS : Array (Option Value)} {qk2_COLUMNS : Tok} {qk3_COLUMNS : Tok} {qa4_COLUMNS : Addr} {qo4_COLUMNS : Option Addr} {qn4_COLUMNS : Nat} {qs4_COLUMNS : Array (Option Value)} {qk5_COLUMNS : Tok} {qk6_COLUMNS : Tok} {qa7_COLUMNS : Addr} {qo7_COLUMNS : Option Addr} {qn7_COLUMNS : Nat} {qs7_COLUMNS : Array (Option Value)} {qk8_COLUMNS : Tok} {qk9_COLUMNS : Tok} {qa10_COLUMNS : Addr} {qo10_COLUMNS : Option Addr} {qn10_COLUMNS : Nat} {qs10_COLUMNS : Array (Option Value)} {qk11_COLUMNS : Tok} {qk12_COLUMNS : Tok} {qa13_COLUMNS : Addr} {qo13_COLUMNS : Option Addr} {qn13_COLUMNS : Nat} {qs13_COLUMNS : Array (Option Value)} {qk14_COLUMNS : Tok} {qk15_COLUMNS : Tok} {qk16_COLUMNS : Tok} {qa17_COLUMNS : Addr} {qo17_COLUMNS : Option Addr} {qn17_COLUMNS : Nat} {qs17_COLUMNS : Array (Option Value)} {qa18_COLUMNS : Addr} {qo18_COLUMNS : Option Addr} {qn18_COLUMNS : Nat} {qs18_COLUMNS : Array (Option Value)} {qk19_COLUMNS : Tok} {qk20_COLUMNS : Tok} {qa21_COLUMNS : Addr} {qo21_COLUMNS : Option Addr} {qn21_COLUMNS : Nat} {qs21_COLUMNS : Array (Option Value)} {qk22_COLUMNS : Tok} {qk23_COLUMNS : Tok} {qa24_COLUMNS : Addr} {qo24_COLUMNS : Option Addr} {qn24_COLUMNS : Nat} {qs24_COLUMNS : Array (Option Value)} {qk25_COLUMNS : Tok} {qk26_COLUMNS : Tok} {qa27_COLUMNS : Addr} {qo27_COLUMNS : Option Addr} {qn27_COLUMNS : Nat} {qs27_COLUMNS : Array (Option Value)} {qk28_COLUMNS : Tok} {qk29_COLUMNS : Tok} {qa30_COLUMNS : Addr} {qo30_COLUMNS : Option Addr} {qn30_COLUMNS : Nat} {qs30_COLUMNS : Array (Option Value)} {qk31_COLUMNS : Tok} {qk32_COLUMNS : Tok} {qa33_COLUMNS : Addr} {qo33_COLUMNS : Option Addr} {qn33_COLUMNS : Nat} {qs33_COLUMNS : Array (Option Value)} {qk34_COLUMNS : Tok} {qk35_COLUMNS : Tok} {qk36_COLUMNS : Tok} {qa37_COLUMNS : Addr} {qo37_COLUMNS : Option Addr} {qn37_COLUMNS : Nat} {qs37_COLUMNS : Array (Option Value)} {qa38_COLUMNS : Addr} {qo38_COLUMNS : Option Addr} {qn38_COLUMNS : Nat} {qs38_COLUMNS : Array (Option Value)} {qk39_COLUMNS : Tok} {qk40_COLUMNS : Tok} {qa41_COLUMNS : Addr} {qo41_COLUMNS : Option Addr} {qn41_COLUMNS : Nat} {qs41_COLUMNS : Array (Option Value)} {qk42_COLUMNS : Tok} {qk43_COLUMNS : Tok} {qa44_COLUMNS : Addr} {qo44_COLUMNS : Option Addr} {qn44_COLUMNS : Nat} {qs44_COLUMNS : Array (Option Value)} {qk45_COLUMNS : Tok} {qk46_COLUMNS : Tok} {qa47_COLUMNS : Addr} {qo47_COLUMNS : Option Addr} {qn47_COLUMNS : Nat} {qs47_COLUMNS : Array (Option Value)} {qk48_COLUMNS : Tok} {qk49_COLUMNS : Tok} {qa50_COLUMNS : Addr} {qo50_COLUMNS : Option Addr} {qn50_COLUMNS : Nat} {qs50_COLUMNS : Array (Option Value)} {qk51_COLUMNS : Tok} {qk52_COLUMNS : Tok} {qa53_COLUMNS : Addr} {qo53_COLUMNS : Option Addr} {qn53_COLUMNS : Nat} {qs53_COLUMNS : Array (Option Value)} {qk54_COLUMNS : Tok} {qk55_COLUMNS : Tok} {qk56_COLUMNS : Tok} {qa57_COLUMNS : Addr} {qo57_COLUMNS : Option Addr} {qn57_COLUMNS : Nat} {qs57_COLUMNS : Array (Option Value)} {qa58_COLUMNS : Addr} {qo58_COLUMNS : Option Addr} {qn58_COLUMNS : Nat} {qs58_COLUMNS : Array (Option Value)} {qk59_COLUMNS : Tok} {qk60_COLUMNS : Tok} {qa61_COLUMNS : Addr} {qo61_COLUMNS : Option Addr} {qn61_COLUMNS : Nat} {qs61_COLUMNS : Array (Option Value)} {qk62_COLUMNS : Tok} {qk63_COLUMNS : Tok} {qa64_COLUMNS : Addr} {qo64_COLUMNS : Option Addr} {qn64_COLUMNS : Nat} {qs64_COLUMNS : Array (Option Value)} {qk65_COLUMNS : Tok} {qk66_COLUMNS : Tok} {qk67_COLUMNS : Tok} {qn_COLUMNS : Nat} {ga_KINDS : Addr} {qo0_KINDS : Option Addr} {qn0_KINDS : Nat} {qs0_KINDS : Array (Option Value)} {qk1_KINDS : Tok} {qk2_KINDS : Tok} {oc__law_same : Value} {kV__law_same : Value} {dc__law_same : Value} {pm__law_same : Value} {cd__law_same : Value} {ct__law_same : Value} {od__law_same : Option Addr} {an__law_same : Option Addr} {sl__law_same : Array (Option Value)} {f__law_same : Addr} {oc_is_name : Value} {kV_is_name : Value} {dc_is_name : Value} {pm_is_name : Value} {cd_is_name : Value} {ct_is_name : Value} {od_is_name : Option Addr} {an_is_name : Option Addr} {sl_is_name : Array (Option Value)} {f_is_name : Addr} {oc_checked_name : Value} {kV_checked_name : Value} {dc_checked_name : Value} {pm_checked_name : Value} {cd_checked_name : Value} {ct_checked_name : Value} {od_checked_name : Option Addr} {an_checked_name : Option Addr} {sl_checked_name : Array (Option Value)} {f_checked_name : Addr} {oc_home_of : Value} {kV_home_of : Value} {dc_home_of : Value} {pm_home_of : Value} {cd_home_of : Value} {ct_home_of : Value} {od_home_of : Option Addr} {an_home_of : Option Addr} {sl_home_of : Array (Option Value)} {f_home_of : Addr} {oc_book_line : Value} {kV_book_line : Value} {dc_book_line : Value} {pm_book_line : Value} {cd_book_line : Value} {ct_book_line : Value} {od_book_line : Option Addr} {an_book_line : Option Addr} {sl_book_line : Array (Option Value)} {f_book_line : Addr} {oc_is_value : Value} {kV_is_value : Value} {dc_is_value : Value} {pm_is_value : Value} {cd_is_value : Value} {ct_is_value : Value} {od_is_value : Option Addr} {an_is_value : Option Addr} {sl_is_value : Array (Option Value)} {f_is_value : Addr} {oc_worked : Value} {kV_worked : Value} {dc_worked : Value} {pm_worked : Value} {cd_worked : Value} {ct_worked : Value} {od_worked : Option Addr} {an_worked : Option Addr} {sl_worked : Array (Option Value)} {f_worked : Addr} {oc_Table_init : Value} {kV_Table_init : Value} {dc_Table_init : Value} {pm_Table_init : Value} {cd_Table_init : Value} {ct_Table_init : Value} {od_Table_init : Option Addr} {an_Table_init : Option Addr} {sl_Table_init : Array (Option Value)} {f_Table_init : Addr} {oc_Table_add : Value} {kV_Table_add : Value} {dc_Table_add : Value} {pm_Table_add : Value} {cd_Table_add : Value} {ct_Table_add : Value} {od_Table_add : Option Addr} {an_Table_add : Option Addr} {sl_Table_add : Array (Option Value)} {f_Table_add : Addr} {oc_Table_rows : Value} {kV_Table_rows : Value} {dc_Table_rows : Value} {pm_Table_rows : Value} {cd_Table_rows : Value} {ct_Table_rows : Value} {od_Table_rows : Option Addr} {an_Table_rows : Option Addr} {sl_Table_rows : Array (Option Value)} {f_Table_rows : Addr} {oc_Table_count : Value} {kV_Table_count : Value} {dc_Table_count : Value} {pm_Table_count : Value} {cd_Table_count : Value} {ct_Table_count : Value} {od_Table_count : Option Addr} {an_Table_count : Option Addr} {sl_Table_count : Array (Option Value)} {f_Table_count : Addr} {oc_table_of : Value} {kV_table_of : Value} {dc_table_of : Value} {pm_table_of : Value} {cd_table_of : Value} {ct_table_of : Value} {od_table_of : Option Addr} {an_table_of : Option Addr} {sl_table_of : Array (Option Value)} {f_table_of : Addr} {oc_empty_tables : Value} {kV_empty_tables : Value} {dc_empty_tables : Value} {pm_empty_tables : Value} {cd_empty_tables : Value} {ct_empty_tables : Value} {od_empty_tables : Option Addr} {an_empty_tables : Option Addr} {sl_empty_tables : Array (Option Value)} {f_empty_tables : Addr} {oc_is_asked : Value} {kV_is_asked : Value} {dc_is_asked : Value} {pm_is_asked : Value} {cd_is_asked : Value} {ct_is_asked : Value} {od_is_asked : Option Addr} {an_is_asked : Option Addr} {sl_is_asked : Array (Option Value)} {f_is_asked : Addr} {oc_is_below : Value} {kV_is_below : Value} {dc_is_below : Value} {pm_is_below : Value} {cd_is_below : Value} {ct_is_below : Value} {od_is_below : Option Addr} {an_is_below : Option Addr} {sl_is_below : Array (Option Value)} {f_is_below : Addr} {oc_is_above : Value} {kV_is_above : Value} {dc_is_above : Value} {pm_is_above : Value} {cd_is_above : Value} {ct_is_above : Value} {od_is_above : Option Addr} {an_is_above : Option Addr} {sl_is_above : Array (Option Value)} {f_is_above : Addr} {oc_span : Value} {kV_span : Value} {dc_span : Value} {pm_span : Value} {cd_span : Value} {ct_span : Value} {od_span : Option Addr} {an_span : Option Addr} {sl_span : Array (Option Value)} {f_span : Addr} {oc_int_of : Value} {kV_int_of : Value} {dc_int_of : Value} {pm_int_of : Value} {cd_int_of : Value} {ct_int_of : Value} {od_int_of : Option Addr} {an_int_of : Option Addr} {sl_int_of : Array (Option Value)} {f_int_of : Addr} {oc_read_book_line : Value} {kV_read_book_line : Value} {dc_read_book_line : Value} {pm_read_book_line : Value} {cd_read_book_line : Value} {ct_read_book_line : Value} {od_read_book_line : Option Addr} {an_read_book_line : Option Addr} {sl_read_book_line : Array (Option Value)} {f_read_book_line : Addr} {oc_tables_by_lines : Value} {kV_tables_by_lines : Value} {dc_tables_by_lines : Value} {pm_tables_by_lines : Value} {cd_tables_by_lines : Value} {ct_tables_by_lines : Value} {od_tables_by_lines : Option Addr} {an_tables_by_lines : Option Addr} {sl_tables_by_lines : Array (Option Value)} {f_tables_by_lines : Addr} {oc__law_pool : Value} {kV__law_pool : Value} {dc__law_pool : Value} {pm__law_pool : Value} {cd__law_pool : Value} {ct__law_pool : Value} {od__law_pool : Option Addr} {an__law_pool : Option Addr} {sl__law_pool : Array (Option Value)} {f__law_pool : Addr} {oc__law_draw : Value} {kV__law_draw : Value} {dc__law_draw : Value} {pm__law_draw : Value} {cd__law_draw : Value} {ct__law_draw : Value} {od__law_draw : Option Addr} {an__law_draw : Option Addr} {sl__law_draw : Array (Option Value)} {f__law_draw : Addr} {oc__law_pick : Value} {kV__law_pick : Value} {dc__law_pick : Value} {pm__law_pick : Value} {cd__law_pick : Value} {ct__law_pick : Value} {od__law_pick : Option Addr} {an__law_pick : Option Addr} {sl__law_pick : Array (Option Value)} {f__law_pick : Addr} {oc__law_so : Value} {kV__law_so : Value} {dc__law_so : Value} {pm__law_so : Value} {cd__law_so : Value} {ct__law_so : Value} {od__law_so : Option Addr} {an__law_so : Option Addr} {sl__law_so : Array (Option Value)} {f__law_so : Addr} {oc__law_refused : Value} {kV__law_refused : Value} {dc__law_refused : Value} {pm__law_refused : Value} {cd__law_refused : Value} {ct__law_refused : Value} {od__law_refused : Option Addr} {an__law_refused : Option Addr} {sl__law_refused : Array (Option Value)} {f__law_refused : Addr} {oc__law_run : Value} {kV__law_run : Value} {dc__law_run : Value} {pm__law_run : Value} {cd__law_run : Value} {ct__law_run : Value} {od__law_run : Option Addr} {an__law_run : Option Addr} {sl__law_run : Array (Option Value)} {f__law_run : Addr} {oc_law : Value} {kV_law : Value} {dc_law : Value} {pm_law : Value} {cd_law : Value} {ct_law : Value} {od_law : Option Addr} {an_law : Option Addr} {sl_law : Array (Option Value)} {f_law : Addr}
    (a_Table : PySem.W.nsIn K mainGlobals "Table" = some (some (.ref C_Table))) (a_DeskError : PySem.W.nsIn K mainGlobals "DeskError" = some (some (.ref C_DeskError))) (a_InvalidName : PySem.W.nsIn K mainGlobals "InvalidName" = some (some (.ref C_InvalidName))) (a_DuplicateName : PySem.W.nsIn K mainGlobals "DuplicateName" = some (some (.ref C_DuplicateName))) (a_UnknownName : PySem.W.nsIn K mainGlobals "UnknownName" = some (some (.ref C_UnknownName))) (a_TooMany : PySem.W.nsIn K mainGlobals "TooMany" = some (some (.ref C_TooMany))) (a_InvalidPaper : PySem.W.nsIn K mainGlobals "InvalidPaper" = some (some (.ref C_InvalidPaper))) (z_ValueError : PySem.W.nsIn K mainGlobals "ValueError" = some none) (z_abs : PySem.W.nsIn K mainGlobals "abs" = some none) (z_bool : PySem.W.nsIn K mainGlobals "bool" = some none) (c_GREAT : PySem.W.nsIn K mainGlobals "GREAT" = some (some (.int 1000000000000000000 t_GREAT))) (c_LETTERS : PySem.W.nsIn K mainGlobals "LETTERS" = some (some (.str "abcdefghijklmnopqrstuvwxyz" t_LETTERS))) (c_LONGEST : PySem.W.nsIn K mainGlobals "LONGEST" = some (some (.int 12 t_LONGEST))) (c_MOST : PySem.W.nsIn K mainGlobals "MOST" = some (some (.int 12 t_MOST))) (q0_COLUMNS : PySem.W.nsIn K mainGlobals "COLUMNS" = some (some (.ref ga_COLUMNS))) (qd_COLUMNS : K.lookup ga_COLUMNS = some ⟨.type "dict", none, .dict #[⟨PySem.PyData.keyHash w.params "entries", .str "entries" qk16_COLUMNS, .ref qa0_COLUMNS⟩, ⟨PySem.PyData.keyHash w.params "posts", .str "posts" qk36_COLUMNS, .ref qa17_COLUMNS⟩, ⟨PySem.PyData.keyHash w.params "accounts", .str "accounts" qk56_COLUMNS, .ref qa37_COLUMNS⟩, ⟨PySem.PyData.keyHash w.params "rights", .str "rights" qk67_COLUMNS, .ref qa57_COLUMNS⟩] qn_COLUMNS, #[]⟩) (qm_COLUMNS : (ga_COLUMNS == sysModules) = false) (qt0_COLUMNS : K.lookup qa0_COLUMNS = some ⟨.type "tuple", qo0_COLUMNS, .seq #[.ref qa1_COLUMNS, .ref qa4_COLUMNS, .ref qa7_COLUMNS, .ref qa10_COLUMNS, .ref qa13_COLUMNS] qn0_COLUMNS, qs0_COLUMNS⟩) (qt1_COLUMNS : K.lookup qa1_COLUMNS = some ⟨.type "tuple", qo1_COLUMNS, .seq #[.str "desk" qk2_COLUMNS, .str "text" qk3_COLUMNS] qn1_COLUMNS, qs1_COLUMNS⟩) (qt4_COLUMNS : K.lookup qa4_COLUMNS = some ⟨.type "tuple", qo4_COLUMNS, .seq #[.str "number" qk5_COLUMNS, .str "number" qk6_COLUMNS] qn4_COLUMNS, qs4_COLUMNS⟩) (qt7_COLUMNS : K.lookup qa7_COLUMNS = some ⟨.type "tuple", qo7_COLUMNS, .seq #[.str "day" qk8_COLUMNS, .str "number" qk9_COLUMNS] qn7_COLUMNS, qs7_COLUMNS⟩) (qt10_COLUMNS : K.lookup qa10_COLUMNS = some ⟨.type "tuple", qo10_COLUMNS, .seq #[.str "kind" qk11_COLUMNS, .str "text" qk12_COLUMNS] qn10_COLUMNS, qs10_COLUMNS⟩) (qt13_COLUMNS : K.lookup qa13_COLUMNS = some ⟨.type "tuple", qo13_COLUMNS, .seq #[.str "state" qk14_COLUMNS, .str "text" qk15_COLUMNS] qn13_COLUMNS, qs13_COLUMNS⟩) (qt17_COLUMNS : K.lookup qa17_COLUMNS = some ⟨.type "tuple", qo17_COLUMNS, .seq #[.ref qa18_COLUMNS, .ref qa21_COLUMNS, .ref qa24_COLUMNS, .ref qa27_COLUMNS, .ref qa30_COLUMNS, .ref qa33_COLUMNS] qn17_COLUMNS, qs17_COLUMNS⟩) (qt18_COLUMNS : K.lookup qa18_COLUMNS = some ⟨.type "tuple", qo18_COLUMNS, .seq #[.str "desk" qk19_COLUMNS, .str "text" qk20_COLUMNS] qn18_COLUMNS, qs18_COLUMNS⟩) (qt21_COLUMNS : K.lookup qa21_COLUMNS = some ⟨.type "tuple", qo21_COLUMNS, .seq #[.str "number" qk22_COLUMNS, .str "number" qk23_COLUMNS] qn21_COLUMNS, qs21_COLUMNS⟩) (qt24_COLUMNS : K.lookup qa24_COLUMNS = some ⟨.type "tuple", qo24_COLUMNS, .seq #[.str "day" qk25_COLUMNS, .str "number" qk26_COLUMNS] qn24_COLUMNS, qs24_COLUMNS⟩) (qt27_COLUMNS : K.lookup qa27_COLUMNS = some ⟨.type "tuple", qo27_COLUMNS, .seq #[.str "account" qk28_COLUMNS, .str "text" qk29_COLUMNS] qn27_COLUMNS, qs27_COLUMNS⟩) (qt30_COLUMNS : K.lookup qa30_COLUMNS = some ⟨.type "tuple", qo30_COLUMNS, .seq #[.str "amount" qk31_COLUMNS, .str "number" qk32_COLUMNS] qn30_COLUMNS, qs30_COLUMNS⟩) (qt33_COLUMNS : K.lookup qa33_COLUMNS = some ⟨.type "tuple", qo33_COLUMNS, .seq #[.str "state" qk34_COLUMNS, .str "text" qk35_COLUMNS] qn33_COLUMNS, qs33_COLUMNS⟩) (qt37_COLUMNS : K.lookup qa37_COLUMNS = some ⟨.type "tuple", qo37_COLUMNS, .seq #[.ref qa38_COLUMNS, .ref qa41_COLUMNS, .ref qa44_COLUMNS, .ref qa47_COLUMNS, .ref qa50_COLUMNS, .ref qa53_COLUMNS] qn37_COLUMNS, qs37_COLUMNS⟩) (qt38_COLUMNS : K.lookup qa38_COLUMNS = some ⟨.type "tuple", qo38_COLUMNS, .seq #[.str "account" qk39_COLUMNS, .str "text" qk40_COLUMNS] qn38_COLUMNS, qs38_COLUMNS⟩) (qt41_COLUMNS : K.lookup qa41_COLUMNS = some ⟨.type "tuple", qo41_COLUMNS, .seq #[.str "home" qk42_COLUMNS, .str "text" qk43_COLUMNS] qn41_COLUMNS, qs41_COLUMNS⟩) (qt44_COLUMNS : K.lookup qa44_COLUMNS = some ⟨.type "tuple", qo44_COLUMNS, .seq #[.str "unit" qk45_COLUMNS, .str "text" qk46_COLUMNS] qn44_COLUMNS, qs44_COLUMNS⟩) (qt47_COLUMNS : K.lookup qa47_COLUMNS = some ⟨.type "tuple", qo47_COLUMNS, .seq #[.str "floor" qk48_COLUMNS, .str "number" qk49_COLUMNS] qn47_COLUMNS, qs47_COLUMNS⟩) (qt50_COLUMNS : K.lookup qa50_COLUMNS = some ⟨.type "tuple", qo50_COLUMNS, .seq #[.str "balance" qk51_COLUMNS, .str "number" qk52_COLUMNS] qn50_COLUMNS, qs50_COLUMNS⟩) (qt53_COLUMNS : K.lookup qa53_COLUMNS = some ⟨.type "tuple", qo53_COLUMNS, .seq #[.str "state" qk54_COLUMNS, .str "text" qk55_COLUMNS] qn53_COLUMNS, qs53_COLUMNS⟩) (qt57_COLUMNS : K.lookup qa57_COLUMNS = some ⟨.type "tuple", qo57_COLUMNS, .seq #[.ref qa58_COLUMNS, .ref qa61_COLUMNS, .ref qa64_COLUMNS] qn57_COLUMNS, qs57_COLUMNS⟩) (qt58_COLUMNS : K.lookup qa58_COLUMNS = some ⟨.type "tuple", qo58_COLUMNS, .seq #[.str "account" qk59_COLUMNS, .str "text" qk60_COLUMNS] qn58_COLUMNS, qs58_COLUMNS⟩) (qt61_COLUMNS : K.lookup qa61_COLUMNS = some ⟨.type "tuple", qo61_COLUMNS, .seq #[.str "desk" qk62_COLUMNS, .str "text" qk63_COLUMNS] qn61_COLUMNS, qs61_COLUMNS⟩) (qt64_COLUMNS : K.lookup qa64_COLUMNS = some ⟨.type "tuple", qo64_COLUMNS, .seq #[.str "amount" qk65_COLUMNS, .str "number" qk66_COLUMNS] qn64_COLUMNS, qs64_COLUMNS⟩) (f_Table__columns : PySem.W.findIn K (.ref C_Table) "_columns" = some none) (f_Table__rows : PySem.W.findIn K (.ref C_Table) "_rows" = some none) (z_int : PySem.W.nsIn K mainGlobals "int" = some none) (z_isinstance : PySem.W.nsIn K mainGlobals "isinstance" = some none) (l1_Table : PySem.W.plainGet K C_Table Str.empty = true) (l2_Table : PySem.W.hasDictIn K C_Table = true) (l3_Table : PySem.W.plainOver K C_Table = true) (l4_Table : PySem.W.findIn K (.ref C_Table) "__setattr__" = some (some (.builtin "object.__setattr__"))) (z_len : PySem.W.nsIn K mainGlobals "len" = some none) (z_list : PySem.W.nsIn K mainGlobals "list" = some none) (z_range : PySem.W.nsIn K mainGlobals "range" = some none) (z_sorted : PySem.W.nsIn K mainGlobals "sorted" = some none) (z_str : PySem.W.nsIn K mainGlobals "str" = some none) (q0_KINDS : PySem.W.nsIn K mainGlobals "KINDS" = some (some (.ref ga_KINDS))) (qt0_KINDS : K.lookup ga_KINDS = some ⟨.type "tuple", qo0_KINDS, .seq #[.str "number" qk1_KINDS, .str "text" qk2_KINDS] qn0_KINDS, qs0_KINDS⟩) (z_tuple : PySem.W.nsIn K mainGlobals "tuple" = some none) (x1_InvalidName : PySem.W.excIn K C_InvalidName [.type "ValueError", .type "Exception", .type "BaseException", .type "object"] "ValueError.__new__" = true) (x2_InvalidName : PySem.W.keepIn K (.ref C_InvalidName) = true) (x3_InvalidName : PySem.W.subIn K (.ref C_InvalidName) (.type "BaseException") = some true) (x4_InvalidName : PySem.W.typeIn K (.ref C_InvalidName) = some (.type "type")) (x1_InvalidPaper : PySem.W.excIn K C_InvalidPaper [.type "ValueError", .type "Exception", .type "BaseException", .type "object"] "ValueError.__new__" = true) (x2_InvalidPaper : PySem.W.keepIn K (.ref C_InvalidPaper) = true) (x3_InvalidPaper : PySem.W.subIn K (.ref C_InvalidPaper) (.type "BaseException") = some true) (x4_InvalidPaper : PySem.W.typeIn K (.ref C_InvalidPaper) = some (.type "type")) (x1_TooMany : PySem.W.excIn K C_TooMany [.type "ValueError", .type "Exception", .type "BaseException", .type "object"] "ValueError.__new__" = true) (x2_TooMany : PySem.W.keepIn K (.ref C_TooMany) = true) (x3_TooMany : PySem.W.subIn K (.ref C_TooMany) (.type "BaseException") = some true) (x4_TooMany : PySem.W.typeIn K (.ref C_TooMany) = some (.type "type")) (m1__law_same : PySem.W.nsIn K mainGlobals "_law_same" = some (some (.ref f__law_same))) (m3__law_same : K.lookup f__law_same = some ⟨oc__law_same, od__law_same, .func (PySem.W.fnOf "_law_same" "_law_same" (defArgs (top 36)) (defBody (top 36)) (defScope (top 36)) .none kV__law_same dc__law_same pm__law_same an__law_same cd__law_same ct__law_same), sl__law_same⟩) (m4__law_same : PySem.W.codeIn K cd__law_same "_law_same" = true) (m5__law_same : PySem.W.keepIn K (.ref f__law_same) = true) (m1_is_name : PySem.W.nsIn K mainGlobals "is_name" = some (some (.ref f_is_name))) (m3_is_name : K.lookup f_is_name = some ⟨oc_is_name, od_is_name, .func (PySem.W.fnOf "is_name" "is_name" (defArgs (top 11)) (defBody (top 11)) (defScope (top 11)) .none kV_is_name dc_is_name pm_is_name an_is_name cd_is_name ct_is_name), sl_is_name⟩) (m4_is_name : PySem.W.codeIn K cd_is_name "is_name" = true) (m5_is_name : PySem.W.keepIn K (.ref f_is_name) = true) (m1_checked_name : PySem.W.nsIn K mainGlobals "checked_name" = some (some (.ref f_checked_name))) (m3_checked_name : K.lookup f_checked_name = some ⟨oc_checked_name, od_checked_name, .func (PySem.W.fnOf "checked_name" "checked_name" (defArgs (top 12)) (defBody (top 12)) (defScope (top 12)) .none kV_checked_name dc_checked_name pm_checked_name an_checked_name cd_checked_name ct_checked_name), sl_checked_name⟩) (m4_checked_name : PySem.W.codeIn K cd_checked_name "checked_name" = true) (m5_checked_name : PySem.W.keepIn K (.ref f_checked_name) = true) (m1_home_of : PySem.W.nsIn K mainGlobals "home_of" = some (some (.ref f_home_of))) (m3_home_of : K.lookup f_home_of = some ⟨oc_home_of, od_home_of, .func (PySem.W.fnOf "home_of" "home_of" (defArgs (top 14)) (defBody (top 14)) (defScope (top 14)) .none kV_home_of dc_home_of pm_home_of an_home_of cd_home_of ct_home_of), sl_home_of⟩) (m4_home_of : PySem.W.codeIn K cd_home_of "home_of" = true) (m5_home_of : PySem.W.keepIn K (.ref f_home_of) = true) (m1_book_line : PySem.W.nsIn K mainGlobals "book_line" = some (some (.ref f_book_line))) (m3_book_line : K.lookup f_book_line = some ⟨oc_book_line, od_book_line, .func (PySem.W.fnOf "book_line" "book_line" (defArgs (top 16)) (defBody (top 16)) (defScope (top 16)) .none kV_book_line dc_book_line pm_book_line an_book_line cd_book_line ct_book_line), sl_book_line⟩) (m4_book_line : PySem.W.codeIn K cd_book_line "book_line" = true) (m5_book_line : PySem.W.keepIn K (.ref f_book_line) = true) (m1_is_value : PySem.W.nsIn K mainGlobals "is_value" = some (some (.ref f_is_value))) (m3_is_value : K.lookup f_is_value = some ⟨oc_is_value, od_is_value, .func (PySem.W.fnOf "is_value" "is_value" (defArgs (top 22)) (defBody (top 22)) (defScope (top 22)) .none kV_is_value dc_is_value pm_is_value an_is_value cd_is_value ct_is_value), sl_is_value⟩) (m4_is_value : PySem.W.codeIn K cd_is_value "is_value" = true) (m5_is_value : PySem.W.keepIn K (.ref f_is_value) = true) (m1_worked : PySem.W.nsIn K mainGlobals "worked" = some (some (.ref f_worked))) (m3_worked : K.lookup f_worked = some ⟨oc_worked, od_worked, .func (PySem.W.fnOf "worked" "worked" (defArgs (top 24)) (defBody (top 24)) (defScope (top 24)) .none kV_worked dc_worked pm_worked an_worked cd_worked ct_worked), sl_worked⟩) (m4_worked : PySem.W.codeIn K cd_worked "worked" = true) (m5_worked : PySem.W.keepIn K (.ref f_worked) = true) (m1_Table_init : PySem.W.findIn K (.ref C_Table) "__init__" = some (some (.ref f_Table_init))) (m2_Table_init : PySem.W.isFn K (.ref f_Table_init) = true) (m3_Table_init : K.lookup f_Table_init = some ⟨oc_Table_init, od_Table_init, .func (PySem.W.fnOf "__init__" "Table.__init__" (defArgs (inClass (top 21) 0)) (defBody (inClass (top 21) 0)) (defScope (inClass (top 21) 0)) .none kV_Table_init dc_Table_init pm_Table_init an_Table_init cd_Table_init ct_Table_init), sl_Table_init⟩) (m4_Table_init : PySem.W.codeIn K cd_Table_init "Table.__init__" = true) (m5_Table_init : PySem.W.keepIn K (.ref f_Table_init) = true) (m8_Table_init : PySem.W.makesIn K C_Table = true) (m9_Table_init : PySem.W.keepIn K (.ref C_Table) = true) (m1_Table_add : PySem.W.findIn K (.ref C_Table) "add" = some (some (.ref f_Table_add))) (m2_Table_add : PySem.W.isFn K (.ref f_Table_add) = true) (m3_Table_add : K.lookup f_Table_add = some ⟨oc_Table_add, od_Table_add, .func (PySem.W.fnOf "add" "Table.add" (defArgs (inClass (top 21) 4)) (defBody (inClass (top 21) 4)) (defScope (inClass (top 21) 4)) .none kV_Table_add dc_Table_add pm_Table_add an_Table_add cd_Table_add ct_Table_add), sl_Table_add⟩) (m4_Table_add : PySem.W.codeIn K cd_Table_add "Table.add" = true) (m5_Table_add : PySem.W.keepIn K (.ref f_Table_add) = true) (m1_Table_rows : PySem.W.findIn K (.ref C_Table) "rows" = some (some (.ref f_Table_rows))) (m2_Table_rows : PySem.W.isFn K (.ref f_Table_rows) = true) (m3_Table_rows : K.lookup f_Table_rows = some ⟨oc_Table_rows, od_Table_rows, .func (PySem.W.fnOf "rows" "Table.rows" (defArgs (inClass (top 21) 5)) (defBody (inClass (top 21) 5)) (defScope (inClass (top 21) 5)) .none kV_Table_rows dc_Table_rows pm_Table_rows an_Table_rows cd_Table_rows ct_Table_rows), sl_Table_rows⟩) (m4_Table_rows : PySem.W.codeIn K cd_Table_rows "Table.rows" = true) (m5_Table_rows : PySem.W.keepIn K (.ref f_Table_rows) = true) (m1_Table_count : PySem.W.findIn K (.ref C_Table) "count" = some (some (.ref f_Table_count))) (m2_Table_count : PySem.W.isFn K (.ref f_Table_count) = true) (m3_Table_count : K.lookup f_Table_count = some ⟨oc_Table_count, od_Table_count, .func (PySem.W.fnOf "count" "Table.count" (defArgs (inClass (top 21) 6)) (defBody (inClass (top 21) 6)) (defScope (inClass (top 21) 6)) .none kV_Table_count dc_Table_count pm_Table_count an_Table_count cd_Table_count ct_Table_count), sl_Table_count⟩) (m4_Table_count : PySem.W.codeIn K cd_Table_count "Table.count" = true) (m5_Table_count : PySem.W.keepIn K (.ref f_Table_count) = true) (m1_table_of : PySem.W.nsIn K mainGlobals "table_of" = some (some (.ref f_table_of))) (m3_table_of : K.lookup f_table_of = some ⟨oc_table_of, od_table_of, .func (PySem.W.fnOf "table_of" "table_of" (defArgs (top 23)) (defBody (top 23)) (defScope (top 23)) .none kV_table_of dc_table_of pm_table_of an_table_of cd_table_of ct_table_of), sl_table_of⟩) (m4_table_of : PySem.W.codeIn K cd_table_of "table_of" = true) (m5_table_of : PySem.W.keepIn K (.ref f_table_of) = true) (m1_empty_tables : PySem.W.nsIn K mainGlobals "empty_tables" = some (some (.ref f_empty_tables))) (m3_empty_tables : K.lookup f_empty_tables = some ⟨oc_empty_tables, od_empty_tables, .func (PySem.W.fnOf "empty_tables" "empty_tables" (defArgs (top 27)) (defBody (top 27)) (defScope (top 27)) .none kV_empty_tables dc_empty_tables pm_empty_tables an_empty_tables cd_empty_tables ct_empty_tables), sl_empty_tables⟩) (m4_empty_tables : PySem.W.codeIn K cd_empty_tables "empty_tables" = true) (m5_empty_tables : PySem.W.keepIn K (.ref f_empty_tables) = true) (m1_is_asked : PySem.W.nsIn K mainGlobals "is_asked" = some (some (.ref f_is_asked))) (m3_is_asked : K.lookup f_is_asked = some ⟨oc_is_asked, od_is_asked, .func (PySem.W.fnOf "is_asked" "is_asked" (defArgs (top 28)) (defBody (top 28)) (defScope (top 28)) .none kV_is_asked dc_is_asked pm_is_asked an_is_asked cd_is_asked ct_is_asked), sl_is_asked⟩) (m4_is_asked : PySem.W.codeIn K cd_is_asked "is_asked" = true) (m5_is_asked : PySem.W.keepIn K (.ref f_is_asked) = true) (m1_is_below : PySem.W.nsIn K mainGlobals "is_below" = some (some (.ref f_is_below))) (m3_is_below : K.lookup f_is_below = some ⟨oc_is_below, od_is_below, .func (PySem.W.fnOf "is_below" "is_below" (defArgs (top 33)) (defBody (top 33)) (defScope (top 33)) .none kV_is_below dc_is_below pm_is_below an_is_below cd_is_below ct_is_below), sl_is_below⟩) (m4_is_below : PySem.W.codeIn K cd_is_below "is_below" = true) (m5_is_below : PySem.W.keepIn K (.ref f_is_below) = true) (m1_is_above : PySem.W.nsIn K mainGlobals "is_above" = some (some (.ref f_is_above))) (m3_is_above : K.lookup f_is_above = some ⟨oc_is_above, od_is_above, .func (PySem.W.fnOf "is_above" "is_above" (defArgs (top 34)) (defBody (top 34)) (defScope (top 34)) .none kV_is_above dc_is_above pm_is_above an_is_above cd_is_above ct_is_above), sl_is_above⟩) (m4_is_above : PySem.W.codeIn K cd_is_above "is_above" = true) (m5_is_above : PySem.W.keepIn K (.ref f_is_above) = true) (m1_span : PySem.W.nsIn K mainGlobals "span" = some (some (.ref f_span))) (m3_span : K.lookup f_span = some ⟨oc_span, od_span, .func (PySem.W.fnOf "span" "span" (defArgs (top 29)) (defBody (top 29)) (defScope (top 29)) .none kV_span dc_span pm_span an_span cd_span ct_span), sl_span⟩) (m4_span : PySem.W.codeIn K cd_span "span" = true) (m5_span : PySem.W.keepIn K (.ref f_span) = true) (m1_int_of : PySem.W.nsIn K mainGlobals "int_of" = some (some (.ref f_int_of))) (m3_int_of : K.lookup f_int_of = some ⟨oc_int_of, od_int_of, .func (PySem.W.fnOf "int_of" "int_of" (defArgs (top 31)) (defBody (top 31)) (defScope (top 31)) .none kV_int_of dc_int_of pm_int_of an_int_of cd_int_of ct_int_of), sl_int_of⟩) (m4_int_of : PySem.W.codeIn K cd_int_of "int_of" = true) (m5_int_of : PySem.W.keepIn K (.ref f_int_of) = true) (m1_read_book_line : PySem.W.nsIn K mainGlobals "read_book_line" = some (some (.ref f_read_book_line))) (m3_read_book_line : K.lookup f_read_book_line = some ⟨oc_read_book_line, od_read_book_line, .func (PySem.W.fnOf "read_book_line" "read_book_line" (defArgs (top 30)) (defBody (top 30)) (defScope (top 30)) .none kV_read_book_line dc_read_book_line pm_read_book_line an_read_book_line cd_read_book_line ct_read_book_line), sl_read_book_line⟩) (m4_read_book_line : PySem.W.codeIn K cd_read_book_line "read_book_line" = true) (m5_read_book_line : PySem.W.keepIn K (.ref f_read_book_line) = true) (m1_tables_by_lines : PySem.W.nsIn K mainGlobals "tables_by_lines" = some (some (.ref f_tables_by_lines))) (m3_tables_by_lines : K.lookup f_tables_by_lines = some ⟨oc_tables_by_lines, od_tables_by_lines, .func (PySem.W.fnOf "tables_by_lines" "tables_by_lines" (defArgs (top 32)) (defBody (top 32)) (defScope (top 32)) .none kV_tables_by_lines dc_tables_by_lines pm_tables_by_lines an_tables_by_lines cd_tables_by_lines ct_tables_by_lines), sl_tables_by_lines⟩) (m4_tables_by_lines : PySem.W.codeIn K cd_tables_by_lines "tables_by_lines" = true) (m5_tables_by_lines : PySem.W.keepIn K (.ref f_tables_by_lines) = true) (m1__law_pool : PySem.W.nsIn K mainGlobals "_law_pool" = some (some (.ref f__law_pool))) (m3__law_pool : K.lookup f__law_pool = some ⟨oc__law_pool, od__law_pool, .func (PySem.W.fnOf "_law_pool" "_law_pool" (defArgs (top 37)) (defBody (top 37)) (defScope (top 37)) .none kV__law_pool dc__law_pool pm__law_pool an__law_pool cd__law_pool ct__law_pool), sl__law_pool⟩) (m4__law_pool : PySem.W.codeIn K cd__law_pool "_law_pool" = true) (m5__law_pool : PySem.W.keepIn K (.ref f__law_pool) = true) (m1__law_draw : PySem.W.nsIn K mainGlobals "_law_draw" = some (some (.ref f__law_draw))) (m3__law_draw : K.lookup f__law_draw = some ⟨oc__law_draw, od__law_draw, .func (PySem.W.fnOf "_law_draw" "_law_draw" (defArgs (top 38)) (defBody (top 38)) (defScope (top 38)) .none kV__law_draw dc__law_draw pm__law_draw an__law_draw cd__law_draw ct__law_draw), sl__law_draw⟩) (m4__law_draw : PySem.W.codeIn K cd__law_draw "_law_draw" = true) (m5__law_draw : PySem.W.keepIn K (.ref f__law_draw) = true) (m1__law_pick : PySem.W.nsIn K mainGlobals "_law_pick" = some (some (.ref f__law_pick))) (m3__law_pick : K.lookup f__law_pick = some ⟨oc__law_pick, od__law_pick, .func (PySem.W.fnOf "_law_pick" "_law_pick" (defArgs (top 39)) (defBody (top 39)) (defScope (top 39)) .none kV__law_pick dc__law_pick pm__law_pick an__law_pick cd__law_pick ct__law_pick), sl__law_pick⟩) (m4__law_pick : PySem.W.codeIn K cd__law_pick "_law_pick" = true) (m5__law_pick : PySem.W.keepIn K (.ref f__law_pick) = true) (m1__law_so : PySem.W.nsIn K mainGlobals "_law_so" = some (some (.ref f__law_so))) (m3__law_so : K.lookup f__law_so = some ⟨oc__law_so, od__law_so, .func (PySem.W.fnOf "_law_so" "_law_so" (defArgs (top 40)) (defBody (top 40)) (defScope (top 40)) .none kV__law_so dc__law_so pm__law_so an__law_so cd__law_so ct__law_so), sl__law_so⟩) (m4__law_so : PySem.W.codeIn K cd__law_so "_law_so" = true) (m5__law_so : PySem.W.keepIn K (.ref f__law_so) = true) (m1__law_refused : PySem.W.nsIn K mainGlobals "_law_refused" = some (some (.ref f__law_refused))) (m3__law_refused : K.lookup f__law_refused = some ⟨oc__law_refused, od__law_refused, .func (PySem.W.fnOf "_law_refused" "_law_refused" (defArgs (top 41)) (defBody (top 41)) (defScope (top 41)) .none kV__law_refused dc__law_refused pm__law_refused an__law_refused cd__law_refused ct__law_refused), sl__law_refused⟩) (m4__law_refused : PySem.W.codeIn K cd__law_refused "_law_refused" = true) (m5__law_refused : PySem.W.keepIn K (.ref f__law_refused) = true) (m1__law_run : PySem.W.nsIn K mainGlobals "_law_run" = some (some (.ref f__law_run))) (m3__law_run : K.lookup f__law_run = some ⟨oc__law_run, od__law_run, .func (PySem.W.fnOf "_law_run" "_law_run" (defArgs (top 42)) (defBody (top 42)) (defScope (top 42)) .none kV__law_run dc__law_run pm__law_run an__law_run cd__law_run ct__law_run), sl__law_run⟩) (m4__law_run : PySem.W.codeIn K cd__law_run "_law_run" = true) (m5__law_run : PySem.W.keepIn K (.ref f__law_run) = true) (m1_law : PySem.W.nsIn K mainGlobals "law" = some (some (.ref f_law))) (m3_law : K.lookup f_law = some ⟨oc_law, od_law, .func (PySem.W.fnOf "law" "law" (defArgs (top 43)) (defBody (top 43)) (defScope (top 43)) .none kV_law dc_law pm_law an_law cd_law ct_law), sl_law⟩) (m4_law : PySem.W.codeIn K cd_law "law" = true) (m5_law : PySem.W.keepIn K (.ref f_law) = true) (b1 : PySem.W.subIn K (.ref C_DeskError) (.type "BaseException") = some true) (b2 : PySem.W.hasDictIn K C_DeskError = true) (b3 : PySem.W.typeIn K (.ref C_DeskError) = some (.type "type")) (b4_InvalidName : PySem.W.subIn K (.ref C_InvalidName) (.ref C_DeskError) = some true) (b4_DuplicateName : PySem.W.subIn K (.ref C_DuplicateName) (.ref C_DeskError) = some true) (b4_UnknownName : PySem.W.subIn K (.ref C_UnknownName) (.ref C_DeskError) = some true) (b4_TooMany : PySem.W.subIn K (.ref C_TooMany) (.ref C_DeskError) = some true) (b4_InvalidPaper : PySem.W.subIn K (.ref C_InvalidPaper) (.ref C_DeskError) = some true) (e1_InvalidName : PySem.W.findIn K (.ref C_InvalidName) "__getattribute__" = some (some (.builtin "BaseException.__getattribute__"))) (e2_InvalidName : PySem.W.findIn K (.ref C_InvalidName) "__getattr__" = some none) (e4_InvalidName : PySem.W.hasDictIn K C_InvalidName = true) (e5_InvalidName : PySem.W.findIn K (.ref C_InvalidName) "__class__" = some (some (.builtin "object.__class__"))) (e8_InvalidName : PySem.W.mroIn K C_InvalidName (.type "object") = some true) (e1_DuplicateName : PySem.W.findIn K (.ref C_DuplicateName) "__getattribute__" = some (some (.builtin "BaseException.__getattribute__"))) (e2_DuplicateName : PySem.W.findIn K (.ref C_DuplicateName) "__getattr__" = some none) (e4_DuplicateName : PySem.W.hasDictIn K C_DuplicateName = true) (e5_DuplicateName : PySem.W.findIn K (.ref C_DuplicateName) "__class__" = some (some (.builtin "object.__class__"))) (e8_DuplicateName : PySem.W.mroIn K C_DuplicateName (.type "object") = some true) (e1_UnknownName : PySem.W.findIn K (.ref C_UnknownName) "__getattribute__" = some (some (.builtin "BaseException.__getattribute__"))) (e2_UnknownName : PySem.W.findIn K (.ref C_UnknownName) "__getattr__" = some none) (e4_UnknownName : PySem.W.hasDictIn K C_UnknownName = true) (e5_UnknownName : PySem.W.findIn K (.ref C_UnknownName) "__class__" = some (some (.builtin "object.__class__"))) (e8_UnknownName : PySem.W.mroIn K C_UnknownName (.type "object") = some true) (e1_TooMany : PySem.W.findIn K (.ref C_TooMany) "__getattribute__" = some (some (.builtin "BaseException.__getattribute__"))) (e2_TooMany : PySem.W.findIn K (.ref C_TooMany) "__getattr__" = some none) (e4_TooMany : PySem.W.hasDictIn K C_TooMany = true) (e5_TooMany : PySem.W.findIn K (.ref C_TooMany) "__class__" = some (some (.builtin "object.__class__"))) (e8_TooMany : PySem.W.mroIn K C_TooMany (.type "object") = some true) (e1_InvalidPaper : PySem.W.findIn K (.ref C_InvalidPaper) "__getattribute__" = some (some (.builtin "BaseException.__getattribute__"))) (e2_InvalidPaper : PySem.W.findIn K (.ref C_InvalidPaper) "__getattr__" = some none) (e4_InvalidPaper : PySem.W.hasDictIn K C_InvalidPaper = true) (e5_InvalidPaper : PySem.W.findIn K (.ref C_InvalidPaper) "__class__" = some (some (.builtin "object.__class__"))) (e8_InvalidPaper : PySem.W.mroIn K C_InvalidPaper (.type "object") = some true) (e6 : PySem.W.specialIn K (.builtin "object.__class__") "__get__" = some (some (.builtin "getset_descriptor.__get__"))) (e7 : PySem.W.takesIn K (.builtin "object.__class__") = some true) (s_PP : PySem.W.subIn K (.ref C_InvalidPaper) (.ref C_InvalidPaper) = some true) (s_PV : PySem.W.subIn K (.ref C_InvalidPaper) (.type "ValueError") = some true) :
    ∃ fd : FuncData, (∀ (s : Shared) (u : Value), BindsTo s fd ⟨[u], []⟩ [("script", u)]) ∧ ∀ base : Heap, K.In base → base.Ns mainGlobals mg → FnOk P w K mg base (L2N.CX P w) 10 fa fd ["script"] (spLaw K) := by
  have F__law_same := fun_mk (st := (top 36)) m3__law_same m4__law_same m5__law_same
  have B__law_same := F__law_same.binds (ps := ["actual", "due"]) fun _ _ _ _ _ _ us hl => match us, hl with | [_, _], _ => rfl
  have F_is_name := fun_mk (st := (top 11)) m3_is_name m4_is_name m5_is_name
  have B_is_name := F_is_name.binds (ps := ["word"]) fun _ _ _ _ _ _ us hl => match us, hl with | [_], _ => rfl
  have F_checked_name := fun_mk (st := (top 12)) m3_checked_name m4_checked_name m5_checked_name
  have B_checked_name := F_checked_name.binds (ps := ["word"]) fun _ _ _ _ _ _ us hl => match us, hl with | [_], _ => rfl
  have F_home_of := fun_mk (st := (top 14)) m3_home_of m4_home_of m5_home_of
  have B_home_of := F_home_of.binds (ps := ["account"]) fun _ _ _ _ _ _ us hl => match us, hl with | [_], _ => rfl
  have F_book_line := fun_mk (st := (top 16)) m3_book_line m4_book_line m5_book_line
  have B_book_line := F_book_line.binds (ps := ["row"]) fun _ _ _ _ _ _ us hl => match us, hl with | [_], _ => rfl
  have F_is_value := fun_mk (st := (top 22)) m3_is_value m4_is_value m5_is_value
  have B_is_value := F_is_value.binds (ps := ["value", "kind"]) fun _ _ _ _ _ _ us hl => match us, hl with | [_, _], _ => rfl
  have F_worked := fun_mk (st := (top 24)) m3_worked m4_worked m5_worked
  have B_worked := F_worked.binds (ps := ["sign", "one", "other"]) fun _ _ _ _ _ _ us hl => match us, hl with | [_, _, _], _ => rfl
  have F_Table_init := fun_mk (st := (inClass (top 21) 0)) m3_Table_init m4_Table_init m5_Table_init
  have B_Table_init := F_Table_init.binds (ps := ["self", "columns"]) fun _ _ _ _ _ _ us hl => match us, hl with | [_, _], _ => rfl
  have F_Table_add := fun_mk (st := (inClass (top 21) 4)) m3_Table_add m4_Table_add m5_Table_add
  have B_Table_add := F_Table_add.binds (ps := ["self", "row"]) fun _ _ _ _ _ _ us hl => match us, hl with | [_, _], _ => rfl
  have F_Table_rows := fun_mk (st := (inClass (top 21) 5)) m3_Table_rows m4_Table_rows m5_Table_rows
  have B_Table_rows := F_Table_rows.binds (ps := ["self"]) fun _ _ _ _ _ _ us hl => match us, hl with | [_], _ => rfl
  have F_Table_count := fun_mk (st := (inClass (top 21) 6)) m3_Table_count m4_Table_count m5_Table_count
  have B_Table_count := F_Table_count.binds (ps := ["self"]) fun _ _ _ _ _ _ us hl => match us, hl with | [_], _ => rfl
  have F_table_of := fun_mk (st := (top 23)) m3_table_of m4_table_of m5_table_of
  have B_table_of := F_table_of.binds (ps := ["columns", "rows"]) fun _ _ _ _ _ _ us hl => match us, hl with | [_, _], _ => rfl
  have F_empty_tables := fun_mk (st := (top 27)) m3_empty_tables m4_empty_tables m5_empty_tables
  have B_empty_tables := F_empty_tables.binds (ps := []) fun _ _ _ _ _ _ us hl => match us, hl with | [], _ => rfl
  have F_is_asked := fun_mk (st := (top 28)) m3_is_asked m4_is_asked m5_is_asked
  have B_is_asked := F_is_asked.binds (ps := ["account", "rows"]) fun _ _ _ _ _ _ us hl => match us, hl with | [_, _], _ => rfl
  have F_is_below := fun_mk (st := (top 33)) m3_is_below m4_is_below m5_is_below
  have B_is_below := F_is_below.binds (ps := ["name", "rows"]) fun _ _ _ _ _ _ us hl => match us, hl with | [_, _], _ => rfl
  have F_is_above := fun_mk (st := (top 34)) m3_is_above m4_is_above m5_is_above
  have B_is_above := F_is_above.binds (ps := ["name", "rows"]) fun _ _ _ _ _ _ us hl => match us, hl with | [_, _], _ => rfl
  have F_span := fun_mk (st := (top 29)) m3_span m4_span m5_span
  have B_span := F_span.binds (ps := ["names", "rows"]) fun _ _ _ _ _ _ us hl => match us, hl with | [_, _], _ => rfl
  have F_int_of := fun_mk (st := (top 31)) m3_int_of m4_int_of m5_int_of
  have B_int_of := F_int_of.binds (ps := ["word"]) fun _ _ _ _ _ _ us hl => match us, hl with | [_], _ => rfl
  have F_read_book_line := fun_mk (st := (top 30)) m3_read_book_line m4_read_book_line m5_read_book_line
  have B_read_book_line := F_read_book_line.binds (ps := ["line"]) fun _ _ _ _ _ _ us hl => match us, hl with | [_], _ => rfl
  have F_tables_by_lines := fun_mk (st := (top 32)) m3_tables_by_lines m4_tables_by_lines m5_tables_by_lines
  have B_tables_by_lines := F_tables_by_lines.binds (ps := ["lines"]) fun _ _ _ _ _ _ us hl => match us, hl with | [_], _ => rfl
  have F__law_pool := fun_mk (st := (top 37)) m3__law_pool m4__law_pool m5__law_pool
  have B__law_pool := F__law_pool.binds (ps := ["script"]) fun _ _ _ _ _ _ us hl => match us, hl with | [_], _ => rfl
  have F__law_draw := fun_mk (st := (top 38)) m3__law_draw m4__law_draw m5__law_draw
  have B__law_draw := F__law_draw.binds (ps := ["pool", "many"]) fun _ _ _ _ _ _ us hl => match us, hl with | [_, _], _ => rfl
  have F__law_pick := fun_mk (st := (top 39)) m3__law_pick m4__law_pick m5__law_pick
  have B__law_pick := F__law_pick.binds (ps := ["pool", "rows"]) fun _ _ _ _ _ _ us hl => match us, hl with | [_, _], _ => rfl
  have F__law_so := fun_mk (st := (top 40)) m3__law_so m4__law_so m5__law_so
  have B__law_so := F__law_so.binds (ps := ["name", "sign", "text"]) fun _ _ _ _ _ _ us hl => match us, hl with | [_, _, _], _ => rfl
  have F__law_refused := fun_mk (st := (top 41)) m3__law_refused m4__law_refused m5__law_refused
  have B__law_refused := F__law_refused.binds (ps := ["choice", "one"]) fun _ _ _ _ _ _ us hl => match us, hl with | [_, _], _ => rfl
  have F__law_run := fun_mk (st := (top 42)) m3__law_run m4__law_run m5__law_run
  have B__law_run := F__law_run.binds (ps := ["script"]) fun _ _ _ _ _ _ us hl => match us, hl with | [_], _ => rfl
  have F_law := fun_mk (st := (top 43)) m3_law m4_law m5_law
  have B_law := F_law.binds (ps := ["script"]) fun _ _ _ _ _ _ us hl => match us, hl with | [_], _ => rfl
  have T : Txt w K mg C_Table C_DeskError C_InvalidName C_DuplicateName C_UnknownName C_TooMany C_InvalidPaper := {
    n_ValueError := PySem.W.mg_none_of X G z_ValueError
    n_abs := PySem.W.mg_none_of X G z_abs
    n_bool := PySem.W.mg_none_of X G z_bool
    c_GREAT := ⟨_, PySem.W.mg_of X G c_GREAT⟩
    c_LETTERS := ⟨_, PySem.W.mg_of X G c_LETTERS⟩
    c_LONGEST := ⟨_, PySem.W.mg_of X G c_LONGEST⟩
    c_MOST := ⟨_, PySem.W.mg_of X G c_MOST⟩
    k_COLUMNS := ⟨⟨_, _, _, PySem.W.mg_of X G q0_COLUMNS, qd_COLUMNS, ⟨⟨_, qk16_COLUMNS, rfl, rfl⟩, ⟨⟨_, qk36_COLUMNS, rfl, rfl⟩, ⟨⟨_, qk56_COLUMNS, rfl, rfl⟩, ⟨⟨_, qk67_COLUMNS, rfl, rfl⟩, trivial⟩⟩⟩⟩, qm_COLUMNS, (.cons ⟨⟨⟨qk16_COLUMNS, rfl⟩, (by decide +kernel)⟩, _, rv_ref, (dt_lit qt0_COLUMNS (by show 5 ≤ sizeLine; decide) (.cons rv_ref (.cons rv_ref (.cons rv_ref (.cons rv_ref (.cons rv_ref .nil))))) (.cons (dt_lit qt1_COLUMNS (by show 2 ≤ sizeLine; decide) (.cons rv_str (.cons rv_str .nil)) (.cons (.str _) (.cons (.str _) .nil))) (.cons (dt_lit qt4_COLUMNS (by show 2 ≤ sizeLine; decide) (.cons rv_str (.cons rv_str .nil)) (.cons (.str _) (.cons (.str _) .nil))) (.cons (dt_lit qt7_COLUMNS (by show 2 ≤ sizeLine; decide) (.cons rv_str (.cons rv_str .nil)) (.cons (.str _) (.cons (.str _) .nil))) (.cons (dt_lit qt10_COLUMNS (by show 2 ≤ sizeLine; decide) (.cons rv_str (.cons rv_str .nil)) (.cons (.str _) (.cons (.str _) .nil))) (.cons (dt_lit qt13_COLUMNS (by show 2 ≤ sizeLine; decide) (.cons rv_str (.cons rv_str .nil)) (.cons (.str _) (.cons (.str _) .nil))) .nil)))))), ⟨(by show 5 ≤ sizeLine; decide), ⟨⟨(by show 2 ≤ sizeLine; decide), ⟨(fits_str (by decide +kernel)), ⟨(fits_str (by decide +kernel)), trivial⟩⟩⟩, ⟨⟨(by show 2 ≤ sizeLine; decide), ⟨(fits_str (by decide +kernel)), ⟨(fits_str (by decide +kernel)), trivial⟩⟩⟩, ⟨⟨(by show 2 ≤ sizeLine; decide), ⟨(fits_str (by decide +kernel)), ⟨(fits_str (by decide +kernel)), trivial⟩⟩⟩, ⟨⟨(by show 2 ≤ sizeLine; decide), ⟨(fits_str (by decide +kernel)), ⟨(fits_str (by decide +kernel)), trivial⟩⟩⟩, ⟨⟨(by show 2 ≤ sizeLine; decide), ⟨(fits_str (by decide +kernel)), ⟨(fits_str (by decide +kernel)), trivial⟩⟩⟩, trivial⟩⟩⟩⟩⟩⟩⟩ (.cons ⟨⟨⟨qk36_COLUMNS, rfl⟩, (by decide +kernel)⟩, _, rv_ref, (dt_lit qt17_COLUMNS (by show 6 ≤ sizeLine; decide) (.cons rv_ref (.cons rv_ref (.cons rv_ref (.cons rv_ref (.cons rv_ref (.cons rv_ref .nil)))))) (.cons (dt_lit qt18_COLUMNS (by show 2 ≤ sizeLine; decide) (.cons rv_str (.cons rv_str .nil)) (.cons (.str _) (.cons (.str _) .nil))) (.cons (dt_lit qt21_COLUMNS (by show 2 ≤ sizeLine; decide) (.cons rv_str (.cons rv_str .nil)) (.cons (.str _) (.cons (.str _) .nil))) (.cons (dt_lit qt24_COLUMNS (by show 2 ≤ sizeLine; decide) (.cons rv_str (.cons rv_str .nil)) (.cons (.str _) (.cons (.str _) .nil))) (.cons (dt_lit qt27_COLUMNS (by show 2 ≤ sizeLine; decide) (.cons rv_str (.cons rv_str .nil)) (.cons (.str _) (.cons (.str _) .nil))) (.cons (dt_lit qt30_COLUMNS (by show 2 ≤ sizeLine; decide) (.cons rv_str (.cons rv_str .nil)) (.cons (.str _) (.cons (.str _) .nil))) (.cons (dt_lit qt33_COLUMNS (by show 2 ≤ sizeLine; decide) (.cons rv_str (.cons rv_str .nil)) (.cons (.str _) (.cons (.str _) .nil))) .nil))))))), ⟨(by show 6 ≤ sizeLine; decide), ⟨⟨(by show 2 ≤ sizeLine; decide), ⟨(fits_str (by decide +kernel)), ⟨(fits_str (by decide +kernel)), trivial⟩⟩⟩, ⟨⟨(by show 2 ≤ sizeLine; decide), ⟨(fits_str (by decide +kernel)), ⟨(fits_str (by decide +kernel)), trivial⟩⟩⟩, ⟨⟨(by show 2 ≤ sizeLine; decide), ⟨(fits_str (by decide +kernel)), ⟨(fits_str (by decide +kernel)), trivial⟩⟩⟩, ⟨⟨(by show 2 ≤ sizeLine; decide), ⟨(fits_str (by decide +kernel)), ⟨(fits_str (by decide +kernel)), trivial⟩⟩⟩, ⟨⟨(by show 2 ≤ sizeLine; decide), ⟨(fits_str (by decide +kernel)), ⟨(fits_str (by decide +kernel)), trivial⟩⟩⟩, ⟨⟨(by show 2 ≤ sizeLine; decide), ⟨(fits_str (by decide +kernel)), ⟨(fits_str (by decide +kernel)), trivial⟩⟩⟩, trivial⟩⟩⟩⟩⟩⟩⟩⟩ (.cons ⟨⟨⟨qk56_COLUMNS, rfl⟩, (by decide +kernel)⟩, _, rv_ref, (dt_lit qt37_COLUMNS (by show 6 ≤ sizeLine; decide) (.cons rv_ref (.cons rv_ref (.cons rv_ref (.cons rv_ref (.cons rv_ref (.cons rv_ref .nil)))))) (.cons (dt_lit qt38_COLUMNS (by show 2 ≤ sizeLine; decide) (.cons rv_str (.cons rv_str .nil)) (.cons (.str _) (.cons (.str _) .nil))) (.cons (dt_lit qt41_COLUMNS (by show 2 ≤ sizeLine; decide) (.cons rv_str (.cons rv_str .nil)) (.cons (.str _) (.cons (.str _) .nil))) (.cons (dt_lit qt44_COLUMNS (by show 2 ≤ sizeLine; decide) (.cons rv_str (.cons rv_str .nil)) (.cons (.str _) (.cons (.str _) .nil))) (.cons (dt_lit qt47_COLUMNS (by show 2 ≤ sizeLine; decide) (.cons rv_str (.cons rv_str .nil)) (.cons (.str _) (.cons (.str _) .nil))) (.cons (dt_lit qt50_COLUMNS (by show 2 ≤ sizeLine; decide) (.cons rv_str (.cons rv_str .nil)) (.cons (.str _) (.cons (.str _) .nil))) (.cons (dt_lit qt53_COLUMNS (by show 2 ≤ sizeLine; decide) (.cons rv_str (.cons rv_str .nil)) (.cons (.str _) (.cons (.str _) .nil))) .nil))))))), ⟨(by show 6 ≤ sizeLine; decide), ⟨⟨(by show 2 ≤ sizeLine; decide), ⟨(fits_str (by decide +kernel)), ⟨(fits_str (by decide +kernel)), trivial⟩⟩⟩, ⟨⟨(by show 2 ≤ sizeLine; decide), ⟨(fits_str (by decide +kernel)), ⟨(fits_str (by decide +kernel)), trivial⟩⟩⟩, ⟨⟨(by show 2 ≤ sizeLine; decide), ⟨(fits_str (by decide +kernel)), ⟨(fits_str (by decide +kernel)), trivial⟩⟩⟩, ⟨⟨(by show 2 ≤ sizeLine; decide), ⟨(fits_str (by decide +kernel)), ⟨(fits_str (by decide +kernel)), trivial⟩⟩⟩, ⟨⟨(by show 2 ≤ sizeLine; decide), ⟨(fits_str (by decide +kernel)), ⟨(fits_str (by decide +kernel)), trivial⟩⟩⟩, ⟨⟨(by show 2 ≤ sizeLine; decide), ⟨(fits_str (by decide +kernel)), ⟨(fits_str (by decide +kernel)), trivial⟩⟩⟩, trivial⟩⟩⟩⟩⟩⟩⟩⟩ (.cons ⟨⟨⟨qk67_COLUMNS, rfl⟩, (by decide +kernel)⟩, _, rv_ref, (dt_lit qt57_COLUMNS (by show 3 ≤ sizeLine; decide) (.cons rv_ref (.cons rv_ref (.cons rv_ref .nil))) (.cons (dt_lit qt58_COLUMNS (by show 2 ≤ sizeLine; decide) (.cons rv_str (.cons rv_str .nil)) (.cons (.str _) (.cons (.str _) .nil))) (.cons (dt_lit qt61_COLUMNS (by show 2 ≤ sizeLine; decide) (.cons rv_str (.cons rv_str .nil)) (.cons (.str _) (.cons (.str _) .nil))) (.cons (dt_lit qt64_COLUMNS (by show 2 ≤ sizeLine; decide) (.cons rv_str (.cons rv_str .nil)) (.cons (.str _) (.cons (.str _) .nil))) .nil)))), ⟨(by show 3 ≤ sizeLine; decide), ⟨⟨(by show 2 ≤ sizeLine; decide), ⟨(fits_str (by decide +kernel)), ⟨(fits_str (by decide +kernel)), trivial⟩⟩⟩, ⟨⟨(by show 2 ≤ sizeLine; decide), ⟨(fits_str (by decide +kernel)), ⟨(fits_str (by decide +kernel)), trivial⟩⟩⟩, ⟨⟨(by show 2 ≤ sizeLine; decide), ⟨(fits_str (by decide +kernel)), ⟨(fits_str (by decide +kernel)), trivial⟩⟩⟩, trivial⟩⟩⟩⟩⟩ .nil))))⟩⟩
    na_Table__columns := f_Table__columns
    na_Table__rows := f_Table__rows
    n_int := PySem.W.mg_none_of X G z_int
    n_isinstance := PySem.W.mg_none_of X G z_isinstance
    cl_Table := ⟨l1_Table, l2_Table, l3_Table, l4_Table⟩
    g_Table := PySem.W.mg_of X G a_Table
    n_len := PySem.W.mg_none_of X G z_len
    n_list := PySem.W.mg_none_of X G z_list
    n_range := PySem.W.mg_none_of X G z_range
    n_sorted := PySem.W.mg_none_of X G z_sorted
    n_str := PySem.W.mg_none_of X G z_str
    t_KINDS := ⟨_, PySem.W.mg_of X G q0_KINDS, (dt_lit qt0_KINDS (by show 2 ≤ sizeLine; decide) (.cons rv_str (.cons rv_str .nil)) (.cons (.str _) (.cons (.str _) .nil))), ⟨(by show 2 ≤ sizeLine; decide), ⟨(fits_str (by decide +kernel)), ⟨(fits_str (by decide +kernel)), trivial⟩⟩⟩⟩
    n_tuple := PySem.W.mg_none_of X G z_tuple
    x_InvalidName := ⟨_, _, _, _, _, PySem.F.excBase_ValueError, x1_InvalidName, PySem.W.mg_of X G a_InvalidName, x2_InvalidName, x3_InvalidName, x4_InvalidName⟩
    x_InvalidPaper := ⟨_, _, _, _, _, PySem.F.excBase_ValueError, x1_InvalidPaper, PySem.W.mg_of X G a_InvalidPaper, x2_InvalidPaper, x3_InvalidPaper, x4_InvalidPaper⟩
    x_TooMany := ⟨_, _, _, _, _, PySem.F.excBase_ValueError, x1_TooMany, PySem.W.mg_of X G a_TooMany, x2_TooMany, x3_TooMany, x4_TooMany⟩
    d__law_same := ⟨_, _, PySem.W.mg_of X G m1__law_same, m5__law_same, F__law_same, B__law_same⟩
    d_is_name := ⟨_, _, PySem.W.mg_of X G m1_is_name, m5_is_name, F_is_name, B_is_name⟩
    d_checked_name := ⟨_, _, PySem.W.mg_of X G m1_checked_name, m5_checked_name, F_checked_name, B_checked_name⟩
    d_home_of := ⟨_, _, PySem.W.mg_of X G m1_home_of, m5_home_of, F_home_of, B_home_of⟩
    d_book_line := ⟨_, _, PySem.W.mg_of X G m1_book_line, m5_book_line, F_book_line, B_book_line⟩
    d_is_value := ⟨_, _, PySem.W.mg_of X G m1_is_value, m5_is_value, F_is_value, B_is_value⟩
    d_worked := ⟨_, _, PySem.W.mg_of X G m1_worked, m5_worked, F_worked, B_worked⟩
    d_Table_init := ⟨_, _, ⟨m8_Table_init, m1_Table_init, m2_Table_init, m9_Table_init⟩, F_Table_init, B_Table_init⟩
    d_Table_add := ⟨_, _, ⟨m1_Table_add, m2_Table_add, m5_Table_add⟩, F_Table_add, B_Table_add⟩
    d_Table_rows := ⟨_, _, ⟨m1_Table_rows, m2_Table_rows, m5_Table_rows⟩, F_Table_rows, B_Table_rows⟩
    d_Table_count := ⟨_, _, ⟨m1_Table_count, m2_Table_count, m5_Table_count⟩, F_Table_count, B_Table_count⟩
    d_table_of := ⟨_, _, PySem.W.mg_of X G m1_table_of, m5_table_of, F_table_of, B_table_of⟩
    d_empty_tables := ⟨_, _, PySem.W.mg_of X G m1_empty_tables, m5_empty_tables, F_empty_tables, B_empty_tables⟩
    d_is_asked := ⟨_, _, PySem.W.mg_of X G m1_is_asked, m5_is_asked, F_is_asked, B_is_asked⟩
    d_is_below := ⟨_, _, PySem.W.mg_of X G m1_is_below, m5_is_below, F_is_below, B_is_below⟩
    d_is_above := ⟨_, _, PySem.W.mg_of X G m1_is_above, m5_is_above, F_is_above, B_is_above⟩
    d_span := ⟨_, _, PySem.W.mg_of X G m1_span, m5_span, F_span, B_span⟩
    d_int_of := ⟨_, _, PySem.W.mg_of X G m1_int_of, m5_int_of, F_int_of, B_int_of⟩
    d_read_book_line := ⟨_, _, PySem.W.mg_of X G m1_read_book_line, m5_read_book_line, F_read_book_line, B_read_book_line⟩
    d_tables_by_lines := ⟨_, _, PySem.W.mg_of X G m1_tables_by_lines, m5_tables_by_lines, F_tables_by_lines, B_tables_by_lines⟩
    d__law_pool := ⟨_, _, PySem.W.mg_of X G m1__law_pool, m5__law_pool, F__law_pool, B__law_pool⟩
    d__law_draw := ⟨_, _, PySem.W.mg_of X G m1__law_draw, m5__law_draw, F__law_draw, B__law_draw⟩
    d__law_pick := ⟨_, _, PySem.W.mg_of X G m1__law_pick, m5__law_pick, F__law_pick, B__law_pick⟩
    d__law_so := ⟨_, _, PySem.W.mg_of X G m1__law_so, m5__law_so, F__law_so, B__law_so⟩
    d__law_refused := ⟨_, _, PySem.W.mg_of X G m1__law_refused, m5__law_refused, F__law_refused, B__law_refused⟩
    d__law_run := ⟨_, _, PySem.W.mg_of X G m1__law_run, m5__law_run, F__law_run, B__law_run⟩
    d_law := ⟨_, _, PySem.W.mg_of X G m1_law, m5_law, F_law, B_law⟩
    g_DeskError := PySem.W.mg_of X G a_DeskError
    g_InvalidPaper := PySem.W.mg_of X G a_InvalidPaper
    e_InvalidPaper := ⟨e1_InvalidPaper, e2_InvalidPaper, x3_InvalidPaper, e4_InvalidPaper, e5_InvalidPaper, e6, e7, e8_InvalidPaper⟩
    kk_InvalidPaper := kit_ref e4_InvalidPaper x4_InvalidPaper s_PP s_PP
    kv_InvalidPaper := kit_bas (by decide +kernel) s_PV
    cat := fun y b hy => by
      unfold catK at hy
      by_cases h0 : y = "InvalidName"
      · subst h0
        simp at hy
        subst hy
        exact ⟨_, PySem.W.mg_of X G a_InvalidName, PySem.W.exm_ref b1 b2 b3 b4_InvalidName⟩
      by_cases h1 : y = "DuplicateName"
      · subst h1
        simp at hy
        subst hy
        exact ⟨_, PySem.W.mg_of X G a_DuplicateName, PySem.W.exm_ref b1 b2 b3 b4_DuplicateName⟩
      by_cases h2 : y = "UnknownName"
      · subst h2
        simp at hy
        subst hy
        exact ⟨_, PySem.W.mg_of X G a_UnknownName, PySem.W.exm_ref b1 b2 b3 b4_UnknownName⟩
      by_cases h3 : y = "TooMany"
      · subst h3
        simp at hy
        subst hy
        exact ⟨_, PySem.W.mg_of X G a_TooMany, PySem.W.exm_ref b1 b2 b3 b4_TooMany⟩
      by_cases h4 : y = "InvalidPaper"
      · subst h4
        simp at hy
        subst hy
        exact ⟨_, PySem.W.mg_of X G a_InvalidPaper, PySem.W.exm_ref b1 b2 b3 b4_InvalidPaper⟩
      simp [h0, h1, h2, h3, h4] at hy }
  have e := hfa.symm.trans (PySem.W.mg_of X G m1_law)
  cases e
  refine ⟨PySem.W.fnOf "law" "law" (defArgs (top 43)) (defBody (top 43)) (defScope (top 43)) .none kV_law dc_law pm_law an_law cd_law ct_law, fun s v => .of_eq rfl, fun base _ _ => ?_⟩
  exact ok_law2 T F_law (⟨_, _, PySem.W.mg_of X G m1__law_run, m5__law_run, ok_lawM T F__law_run (law_true _) pmP, B__law_run⟩)
end

theorem walk {l : PySem.W.OpenLaw} {qq : Program} {loose : List Str} {XP : (Str → Option Value) → Heap → Prop} {YP : World → Heap → Prop} {d : DefRec} {K : Params → PySem.W.Frag} (hn : l.most = some 63) (hdf : d.params.defaults = [])
    (hY : ∀ (w : World) (h : Heap), YP w h → (K w.params).In h)
    (F : ∀ (w : World) (mg : Str → Option Value) (fa : Addr) (h : Heap), (K w.params).In h → h.Ns mainGlobals mg → mg d.name = some (.ref fa) →
      ∃ fd : FuncData, (∀ (s : Shared) (u : Value), BindsTo s fd ⟨[u], []⟩ [("script", u)]) ∧ ∀ base : Heap, (K w.params).In base → base.Ns mainGlobals mg → FnOk l.prog w (K w.params) mg base (L2N.CX l.prog w) 10 fa fd ["script"] (spLaw (K w.params))) :
    PySem.W.WalkO qq loose XP YP l.row.toRowW d [] (fun f vs => PySem.call f vs) :=
  L2.walk_of (n := 63) (k := 10) (x := "script") (CX := fun w => L2N.CX l.prog w) (sp := fun w => spLaw (K w.params)) hn (by decide) hdf ⟨rfl, by decide, by decide⟩ hY F (fun _ _ a ns hl _ hS => ⟨a, ns, rfl, hS, hl, fun _ => rfl⟩) fun w H s e s' h => by
    obtain ⟨_, _, _, _, _, _, _, _, _, _, _, _, z⟩ := h
    exact z
end Z
open PySem PySem.W PyProof.Rows
set_option maxRecDepth 100000 in
set_option maxHeartbeats 0 in
theorem PySem.Challenge.cw_desksagree_k77_ranges_of_accounts_holds : PySem.Challenge.rw_desksagree_k77_ranges_of_accounts.Holds := by
  w_on; o_law; k_head; (case hw => w_witness2)
  k_fill
  refine Z.walk (l := PySem.Challenge.rw_desksagree_k77_ranges_of_accounts) rfl rfl (fun w h Y => PySem.W.kIn_of Y) ?F
  case F =>
    intro w mg fa h KX G hmg
    refine' Z.all_mk KX G hmg Z.law_true rfl ?a_Table ?a_DeskError ?a_InvalidName ?a_DuplicateName ?a_UnknownName ?a_TooMany ?a_InvalidPaper ?z_ValueError ?z_abs ?z_bool ?c_GREAT ?c_LETTERS ?c_LONGEST ?c_MOST ?q0_COLUMNS ?qd_COLUMNS ?qm_COLUMNS ?qt0_COLUMNS ?qt1_COLUMNS ?qt4_COLUMNS ?qt7_COLUMNS ?qt10_COLUMNS ?qt13_COLUMNS ?qt17_COLUMNS ?qt18_COLUMNS ?qt21_COLUMNS ?qt24_COLUMNS ?qt27_COLUMNS ?qt30_COLUMNS ?qt33_COLUMNS ?qt37_COLUMNS ?qt38_COLUMNS ?qt41_COLUMNS ?qt44_COLUMNS ?qt47_COLUMNS ?qt50_COLUMNS ?qt53_COLUMNS ?qt57_COLUMNS ?qt58_COLUMNS ?qt61_COLUMNS ?qt64_COLUMNS ?f_Table__columns ?f_Table__rows ?z_int ?z_isinstance ?l1_Table ?l2_Table ?l3_Table ?l4_Table ?z_len ?z_list ?z_range ?z_sorted ?z_str ?q0_KINDS ?qt0_KINDS ?z_tuple ?x1_InvalidName ?x2_InvalidName ?x3_InvalidName ?x4_InvalidName ?x1_InvalidPaper ?x2_InvalidPaper ?x3_InvalidPaper ?x4_InvalidPaper ?x1_TooMany ?x2_TooMany ?x3_TooMany ?x4_TooMany ?m1__law_same ?m3__law_same ?m4__law_same ?m5__law_same ?m1_is_name ?m3_is_name ?m4_is_name ?m5_is_name ?m1_checked_name ?m3_checked_name ?m4_checked_name ?m5_checked_name ?m1_home_of ?m3_home_of ?m4_home_of ?m5_home_of ?m1_book_line ?m3_book_line ?m4_book_line ?m5_book_line ?m1_is_value ?m3_is_value ?m4_is_value ?m5_is_value ?m1_worked ?m3_worked ?m4_worked ?m5_worked ?m1_Table_init ?m2_Table_init ?m3_Table_init ?m4_Table_init ?m5_Table_init ?m8_Table_init ?m9_Table_init ?m1_Table_add ?m2_Table_add ?m3_Table_add ?m4_Table_add ?m5_Table_add ?m1_Table_rows ?m2_Table_rows ?m3_Table_rows ?m4_Table_rows ?m5_Table_rows ?m1_Table_count ?m2_Table_count ?m3_Table_count ?m4_Table_count ?m5_Table_count ?m1_table_of ?m3_table_of ?m4_table_of ?m5_table_of ?m1_empty_tables ?m3_empty_tables ?m4_empty_tables ?m5_empty_tables ?m1_is_asked ?m3_is_asked ?m4_is_asked ?m5_is_asked ?m1_is_below ?m3_is_below ?m4_is_below ?m5_is_below ?m1_is_above ?m3_is_above ?m4_is_above ?m5_is_above ?m1_span ?m3_span ?m4_span ?m5_span ?m1_int_of ?m3_int_of ?m4_int_of ?m5_int_of ?m1_read_book_line ?m3_read_book_line ?m4_read_book_line ?m5_read_book_line ?m1_tables_by_lines ?m3_tables_by_lines ?m4_tables_by_lines ?m5_tables_by_lines ?m1__law_pool ?m3__law_pool ?m4__law_pool ?m5__law_pool ?m1__law_draw ?m3__law_draw ?m4__law_draw ?m5__law_draw ?m1__law_pick ?m3__law_pick ?m4__law_pick ?m5__law_pick ?m1__law_so ?m3__law_so ?m4__law_so ?m5__law_so ?m1__law_refused ?m3__law_refused ?m4__law_refused ?m5__law_refused ?m1__law_run ?m3__law_run ?m4__law_run ?m5__law_run ?m1_law ?m3_law ?m4_law ?m5_law ?b1 ?b2 ?b3 ?b4_InvalidName ?b4_DuplicateName ?b4_UnknownName ?b4_TooMany ?b4_InvalidPaper ?e1_InvalidName ?e2_InvalidName ?e4_InvalidName ?e5_InvalidName ?e8_InvalidName ?e1_DuplicateName ?e2_DuplicateName ?e4_DuplicateName ?e5_DuplicateName ?e8_DuplicateName ?e1_UnknownName ?e2_UnknownName ?e4_UnknownName ?e5_UnknownName ?e8_UnknownName ?e1_TooMany ?e2_TooMany ?e4_TooMany ?e5_TooMany ?e8_TooMany ?e1_InvalidPaper ?e2_InvalidPaper ?e4_InvalidPaper ?e5_InvalidPaper ?e8_InvalidPaper ?e6 ?e7 ?s_PP ?s_PV
    (case a_Table => k_is)
    (case a_DeskError => k_is)
    (case a_InvalidName => k_is)
    (case a_DuplicateName => k_is)
    (case a_UnknownName => k_is)
    (case a_TooMany => k_is)
    (case a_InvalidPaper => k_is)
    (case z_ValueError => k_is)
    (case z_abs => k_is)
    (case z_bool => k_is)
    (case c_GREAT => k_is)
    (case c_LETTERS => k_is)
    (case c_LONGEST => k_is)
    (case c_MOST => k_is)
    (case q0_COLUMNS => k_is)
    (case qd_COLUMNS => k_is)
    (case qm_COLUMNS => first | rfl | decide +kernel)
    (case qt0_COLUMNS => k_is)
    (case qt1_COLUMNS => k_is)
    (case qt4_COLUMNS => k_is)
    (case qt7_COLUMNS => k_is)
    (case qt10_COLUMNS => k_is)
    (case qt13_COLUMNS => k_is)
    (case qt17_COLUMNS => k_is)
    (case qt18_COLUMNS => k_is)
    (case qt21_COLUMNS => k_is)
    (case qt24_COLUMNS => k_is)
    (case qt27_COLUMNS => k_is)
    (case qt30_COLUMNS => k_is)
    (case qt33_COLUMNS => k_is)
    (case qt37_COLUMNS => k_is)
    (case qt38_COLUMNS => k_is)
    (case qt41_COLUMNS => k_is)
    (case qt44_COLUMNS => k_is)
    (case qt47_COLUMNS => k_is)
    (case qt50_COLUMNS => k_is)
    (case qt53_COLUMNS => k_is)
    (case qt57_COLUMNS => k_is)
    (case qt58_COLUMNS => k_is)
    (case qt61_COLUMNS => k_is)
    (case qt64_COLUMNS => k_is)
    (case f_Table__columns => k_is)
    (case f_Table__rows => k_is)
    (case z_int => k_is)
    (case z_isinstance => k_is)
    (case l1_Table => k_is)
    (case l2_Table => k_is)
    (case l3_Table => k_is)
    (case l4_Table => k_is)
    (case z_len => k_is)
    (case z_list => k_is)
    (case z_range => k_is)
    (case z_sorted => k_is)
    (case z_str => k_is)
    (case q0_KINDS => k_is)
    (case qt0_KINDS => k_is)
    (case z_tuple => k_is)
    (case x1_InvalidName => k_exc)
    (case x2_InvalidName => k_is)
    (case x3_InvalidName => k_is)
    (case x4_InvalidName => k_is)
    (case x1_InvalidPaper => k_exc)
    (case x2_InvalidPaper => k_is)
    (case x3_InvalidPaper => k_is)
    (case x4_InvalidPaper => k_is)
    (case x1_TooMany => k_exc)
    (case x2_TooMany => k_is)
    (case x3_TooMany => k_is)
    (case x4_TooMany => k_is)
    (case m1__law_same => k_is)
    (case m3__law_same => k_is)
    (case m4__law_same => k_is)
    (case m5__law_same => k_is)
    (case m1_is_name => k_is)
    (case m3_is_name => k_is)
    (case m4_is_name => k_is)
    (case m5_is_name => k_is)
    (case m1_checked_name => k_is)
    (case m3_checked_name => k_is)
    (case m4_checked_name => k_is)
    (case m5_checked_name => k_is)
    (case m1_home_of => k_is)
    (case m3_home_of => k_is)
    (case m4_home_of => k_is)
    (case m5_home_of => k_is)
    (case m1_book_line => k_is)
    (case m3_book_line => k_is)
    (case m4_book_line => k_is)
    (case m5_book_line => k_is)
    (case m1_is_value => k_is)
    (case m3_is_value => k_is)
    (case m4_is_value => k_is)
    (case m5_is_value => k_is)
    (case m1_worked => k_is)
    (case m3_worked => k_is)
    (case m4_worked => k_is)
    (case m5_worked => k_is)
    (case m1_Table_init => k_is)
    (case m2_Table_init => k_is)
    (case m3_Table_init => k_is)
    (case m4_Table_init => k_is)
    (case m5_Table_init => k_is)
    (case m8_Table_init => k_is)
    (case m9_Table_init => k_is)
    (case m1_Table_add => k_is)
    (case m2_Table_add => k_is)
    (case m3_Table_add => k_is)
    (case m4_Table_add => k_is)
    (case m5_Table_add => k_is)
    (case m1_Table_rows => k_is)
    (case m2_Table_rows => k_is)
    (case m3_Table_rows => k_is)
    (case m4_Table_rows => k_is)
    (case m5_Table_rows => k_is)
    (case m1_Table_count => k_is)
    (case m2_Table_count => k_is)
    (case m3_Table_count => k_is)
    (case m4_Table_count => k_is)
    (case m5_Table_count => k_is)
    (case m1_table_of => k_is)
    (case m3_table_of => k_is)
    (case m4_table_of => k_is)
    (case m5_table_of => k_is)
    (case m1_empty_tables => k_is)
    (case m3_empty_tables => k_is)
    (case m4_empty_tables => k_is)
    (case m5_empty_tables => k_is)
    (case m1_is_asked => k_is)
    (case m3_is_asked => k_is)
    (case m4_is_asked => k_is)
    (case m5_is_asked => k_is)
    (case m1_is_below => k_is)
    (case m3_is_below => k_is)
    (case m4_is_below => k_is)
    (case m5_is_below => k_is)
    (case m1_is_above => k_is)
    (case m3_is_above => k_is)
    (case m4_is_above => k_is)
    (case m5_is_above => k_is)
    (case m1_span => k_is)
    (case m3_span => k_is)
    (case m4_span => k_is)
    (case m5_span => k_is)
    (case m1_int_of => k_is)
    (case m3_int_of => k_is)
    (case m4_int_of => k_is)
    (case m5_int_of => k_is)
    (case m1_read_book_line => k_is)
    (case m3_read_book_line => k_is)
    (case m4_read_book_line => k_is)
    (case m5_read_book_line => k_is)
    (case m1_tables_by_lines => k_is)
    (case m3_tables_by_lines => k_is)
    (case m4_tables_by_lines => k_is)
    (case m5_tables_by_lines => k_is)
    (case m1__law_pool => k_is)
    (case m3__law_pool => k_is)
    (case m4__law_pool => k_is)
    (case m5__law_pool => k_is)
    (case m1__law_draw => k_is)
    (case m3__law_draw => k_is)
    (case m4__law_draw => k_is)
    (case m5__law_draw => k_is)
    (case m1__law_pick => k_is)
    (case m3__law_pick => k_is)
    (case m4__law_pick => k_is)
    (case m5__law_pick => k_is)
    (case m1__law_so => k_is)
    (case m3__law_so => k_is)
    (case m4__law_so => k_is)
    (case m5__law_so => k_is)
    (case m1__law_refused => k_is)
    (case m3__law_refused => k_is)
    (case m4__law_refused => k_is)
    (case m5__law_refused => k_is)
    (case m1__law_run => k_is)
    (case m3__law_run => k_is)
    (case m4__law_run => k_is)
    (case m5__law_run => k_is)
    (case m1_law => k_is)
    (case m3_law => k_is)
    (case m4_law => k_is)
    (case m5_law => k_is)
    (case b1 => k_is)
    (case b2 => k_is)
    (case b3 => k_is)
    (case b4_InvalidName => k_is)
    (case b4_DuplicateName => k_is)
    (case b4_UnknownName => k_is)
    (case b4_TooMany => k_is)
    (case b4_InvalidPaper => k_is)
    (case e1_InvalidName => k_is)
    (case e2_InvalidName => k_is)
    (case e4_InvalidName => k_is)
    (case e5_InvalidName => k_is)
    (case e8_InvalidName => k_is)
    (case e1_DuplicateName => k_is)
    (case e2_DuplicateName => k_is)
    (case e4_DuplicateName => k_is)
    (case e5_DuplicateName => k_is)
    (case e8_DuplicateName => k_is)
    (case e1_UnknownName => k_is)
    (case e2_UnknownName => k_is)
    (case e4_UnknownName => k_is)
    (case e5_UnknownName => k_is)
    (case e8_UnknownName => k_is)
    (case e1_TooMany => k_is)
    (case e2_TooMany => k_is)
    (case e4_TooMany => k_is)
    (case e5_TooMany => k_is)
    (case e8_TooMany => k_is)
    (case e1_InvalidPaper => k_is)
    (case e2_InvalidPaper => k_is)
    (case e4_InvalidPaper => k_is)
    (case e5_InvalidPaper => k_is)
    (case e8_InvalidPaper => k_is)
    (case e6 => k_is)
    (case e7 => k_is)
    (case s_PP => k_is)
    (case s_PV => k_is)

