import PyProof.Rows.All
import Wide.All
import OpenK.AllK
import Wide.FinOn
import HandS.ForMost
import HandS.Wide
import HandS.TupAny
import HandS.Deep
import HandS.IsInst
import HandS.Codes
import HandS.Flow
import HandS.StrMore
import HandS.Rev
import HandS.RevRange
import HandS.Replace
import HandS.TupLe
import HandS.RaiseMore
import HandS.Strs
import HandS.HeadHook2
import HandS.HeadEnd
import HandS.Head2
import PySem.Challenge.RW_indoubt_k00_values_in_order
set_option Elab.async false
set_option linter.all false
set_option maxRecDepth 100000
set_option maxHeartbeats 4000000
/-! AiBase: the plain values, the boxes, how they stand in the abstract heap. -/
namespace AI
open PySem L2

abbrev D := PyData

/-- a value of the plain run: data, a box (something that is changed), a tuple that holds boxes, a frozen list, a name of the module's -/
inductive RV where
  | pd (d : D)
  | rf (n : Nat)
  | tp (xs : List RV)
  | fz (xs : List D)
  | gl (x : Str)

/-- what stands in a box -/
inductive Box where
  | lst (xs : List D)
  | gone
abbrev Boxes := List Box

/-- a tuple, its object known (it has no dict of its own) -/
def TupAt (H : Hp) (a : Addr) (vs : List V) : Prop := ∃ o, H a = some (.frz o (.tup vs)) ∧ o.dict = none
/-- a list of the module's own -/
def KL (K : PySem.W.Frag) (a : Addr) (xs : List V) : Prop := ∃ (o : Obj) (its : Array Value) (n : Nat), K.lookup a = some o ∧ o.cls = .type "list" ∧ o.dict = none ∧ o.data = .seq its n ∧ its.size ≤ sizeLine ∧ Vals xs its.toList
section
variable (K : PySem.W.Frag) (mg : Str → Option Value)
mutual
inductive VD (μ : List Addr) (H : Hp) : V → D → Prop
  | non : VD μ H .non .none
  | bl (b : Bool) : VD μ H (.bl b) (.bool b)
  | int (i : Int) : VD μ H (.int i) (.int i)
  | str (x : Str) : VD μ H (.str x) (.str x)
  | lst {a : Addr} {vs : List V} {ds : List D} : H a = some (.lst vs) → a ∉ μ → vs.length ≤ sizeLine → VDs μ H vs ds → VD μ H (.ref a) (.list ds)
  | tup {a : Addr} {vs : List V} {ds : List D} : TupAt H a vs → a ∉ μ → vs.length ≤ sizeLine → VDs μ H vs ds → VD μ H (.ref a) (.tuple ds)
  | tupK {a : Addr} {vs : List V} {ds : List D} : (∃ (o : Obj) (its : Array Value) (n : Nat), K.lookup a = some o ∧ o.cls = .type "tuple" ∧ o.dict = none ∧ o.data = .seq its n ∧ its.size ≤ sizeLine ∧ Vals vs its.toList) → VDs μ H vs ds → VD μ H (.ref a) (.tuple ds)
inductive VDs (μ : List Addr) (H : Hp) : List V → List D → Prop
  | nil : VDs μ H [] []
  | cons {v : V} {vs : List V} {d : D} {ds : List D} : VD μ H v d → VDs μ H vs ds → VDs μ H (v :: vs) (d :: ds)
end

def BoxIs (μ : List Addr) (H : Hp) (a : Addr) : Box → Prop
  | .lst ds => ∃ vs, H a = some (.lst vs) ∧ VDs K μ H vs ds ∧ vs.length ≤ sizeLine
  | .gone => ∃ o, H a = some o

structure RH (μ : List Addr) (h : Boxes) (H : Hp) : Prop where
  len : μ.length = h.length
  nd : μ.Nodup
  box : ∀ (i : Nat) (a : Addr) (b : Box), μ[i]? = some a → h[i]? = some b → BoxIs K μ H a b

mutual
inductive VR (μ : List Addr) (H : Hp) : V → RV → Prop
  | pd {v : V} {d : D} : VD K μ H v d → VR μ H v (.pd d)
  | rf {a : Addr} {n : Nat} : μ[n]? = some a → VR μ H (.ref a) (.rf n)
  | tp {a : Addr} {vs : List V} {rs : List RV} : TupAt H a vs → a ∉ μ → vs.length ≤ sizeLine → VRs μ H vs rs → VR μ H (.ref a) (.tp rs)
  | fz {a : Addr} {vs : List V} {ds : List D} : SqL K H a vs → ((∃ o, H a = some (.frz o (.lst vs))) ∧ a ∉ μ ∨ KL K a vs) → vs.length ≤ sizeLine → VDs K μ H vs ds → VR μ H (.ref a) (.fz ds)
  | gl {x : Str} {f : Addr} : mg x = some (.ref f) → VR μ H (.ref f) (.gl x)
inductive VRs (μ : List Addr) (H : Hp) : List V → List RV → Prop
  | nil : VRs μ H [] []
  | cons {v : V} {vs : List V} {r : RV} {rs : List RV} : VR μ H v r → VRs μ H vs rs → VRs μ H (v :: vs) (r :: rs)
end

/-- from (μ, H) to (μ', H'): all that was tracked and is no box stands as it stood; new boxes are new -/
structure Ext (μ : List Addr) (H : Hp) (μ' : List Addr) (H' : Hp) : Prop where
  keep : ∀ a o, H a = some o → a ∉ μ → H' a = some o
  pre : ∃ t, μ' = μ ++ t
  new : ∀ a, a ∈ μ' → a ∉ μ → H a = none
end

section
variable {K : PySem.W.Frag} {mg : Str → Option Value} {μ μ' μ'' : List Addr} {H H' H'' : Hp} {h h' h'' : Boxes}
theorem Ext.refl : Ext μ H μ H := ⟨fun _ _ e _ => e, ⟨[], by simp⟩, fun _ a b => absurd a b⟩
theorem Ext.away (e : Ext μ H μ' H') {a : Addr} {o : HO} (h : H a = some o) (n : a ∉ μ) : a ∉ μ' := fun z => by
  have := e.new a z n
  rw [h] at this; cases this
theorem Ext.trans (e : Ext μ H μ' H') (f : Ext μ' H' μ'' H'') : Ext μ H μ'' H'' := by
  refine ⟨fun a o q n => f.keep a o (e.keep a o q n) (e.away q n), ?_, fun a q n => ?_⟩
  · obtain ⟨t, rfl⟩ := e.pre
    obtain ⟨u, rfl⟩ := f.pre
    exact ⟨t ++ u, by simp⟩
  · by_cases hm : a ∈ μ'
    · exact e.new a hm n
    · have := f.new a q hm
      cases z : H a with
      | none => rfl
      | some o => rw [e.keep a o z n] at this; cases this
theorem TupAt.ext (e : Ext μ H μ' H') {a : Addr} {vs : List V} (t : TupAt H a vs) (n : a ∉ μ) : TupAt H' a vs ∧ a ∉ μ' := by
  obtain ⟨o, h, d⟩ := t
  exact ⟨⟨o, e.keep _ _ h n, d⟩, e.away h n⟩
theorem TupAt.sq {a : Addr} {vs : List V} (t : TupAt H a vs) : SqT K H a vs := by
  obtain ⟨o, h, _⟩ := t
  exact .inl (.inr ⟨o, h⟩)
theorem Ext.get (e : Ext μ H μ' H') {n : Nat} {a : Addr} (h : μ[n]? = some a) : μ'[n]? = some a := by
  obtain ⟨t, rfl⟩ := e.pre
  have hl : n < μ.length := by
    rcases Nat.lt_or_ge n μ.length with z | z
    · exact z
    · rw [List.getElem?_eq_none z] at h; cases h
  rw [List.getElem?_append_left hl]; exact h
mutual
theorem VD.ext (e : Ext μ H μ' H') : ∀ (d : D) (v : V), VD K μ H v d → VD K μ' H' v d
  | .none, _, h => by cases h; exact .non
  | .bool b, _, h => by cases h; exact .bl b
  | .int i, _, h => by cases h; exact .int i
  | .str x, _, h => by cases h; exact .str x
  | .list ds, _, h => by
    cases h with
    | lst q n z r => exact .lst (e.keep _ _ q n) (e.away q n) z (VDs.ext e ds _ r)
  | .tuple ds, _, h => by
    cases h with
    | tup q n z r => exact .tup (q.ext e n).1 (q.ext e n).2 z (VDs.ext e ds _ r)
    | tupK q r => exact .tupK q (VDs.ext e ds _ r)
  | .dict _, _, h => by cases h
theorem VDs.ext (e : Ext μ H μ' H') : ∀ (ds : List D) (vs : List V), VDs K μ H vs ds → VDs K μ' H' vs ds
  | [], _, h => by cases h; exact .nil
  | d :: ds, _, h => by
    cases h with
    | cons h1 h2 => exact .cons (VD.ext e d _ h1) (VDs.ext e ds _ h2)
end
mutual
theorem VR.ext (e : Ext μ H μ' H') : ∀ (r : RV) (v : V), VR K mg μ H v r → VR K mg μ' H' v r
  | .pd d, _, h => by cases h with | pd q => exact .pd (VD.ext e d _ q)
  | .rf n, _, h => by cases h with | rf q => exact .rf (e.get q)
  | .tp rs, _, h => by cases h with | tp q n z r => exact .tp (q.ext e n).1 (q.ext e n).2 z (VRs.ext e rs _ r)
  | .fz ds, _, h => by
    cases h with
    | fz q f z r =>
      rcases f with ⟨⟨o, f⟩, n⟩ | f
      · have f' := e.keep _ _ f n
        exact .fz (.inl (.inr ⟨o, f'⟩)) (.inl ⟨⟨o, f'⟩, e.away f n⟩) z (VDs.ext e ds _ r)
      · exact .fz (.inr f) (.inr f) z (VDs.ext e ds _ r)
  | .gl x, _, h => by cases h with | gl q => exact .gl q
theorem VRs.ext (e : Ext μ H μ' H') : ∀ (rs : List RV) (vs : List V), VRs K mg μ H vs rs → VRs K mg μ' H' vs rs
  | [], _, h => by cases h; exact .nil
  | r :: rs, _, h => by
    cases h with
    | cons h1 h2 => exact .cons (VR.ext e r _ h1) (VRs.ext e rs _ h2)
end
theorem VDs.length : ∀ {vs : List V} {ds : List D}, VDs K μ H vs ds → vs.length = ds.length
  | _, _, .nil => rfl
  | _, _, .cons _ t => congrArg (· + 1) (VDs.length t)
theorem VRs.length : ∀ {vs : List V} {ds : List RV}, VRs K mg μ H vs ds → vs.length = ds.length
  | _, _, .nil => rfl
  | _, _, .cons _ t => congrArg (· + 1) (VRs.length t)
theorem VDs.get : ∀ {vs : List V} {ds : List D} {i : Nat} {d : D}, VDs K μ H vs ds → ds[i]? = some d → ∃ v, vs[i]? = some v ∧ VD K μ H v d
  | _, _, _, _, .nil, e => by simp at e
  | _, _, 0, _, .cons r _, e => by simp at e; subst e; exact ⟨_, rfl, r⟩
  | _, _, i + 1, x, .cons _ t, e => by
    obtain ⟨u, h1, h2⟩ := VDs.get (i := i) t (by simpa using e)
    exact ⟨u, by simpa using h1, h2⟩
theorem VDs.get' : ∀ {vs : List V} {ds : List D} {i : Nat} {v : V}, VDs K μ H vs ds → vs[i]? = some v → ∃ d, ds[i]? = some d ∧ VD K μ H v d
  | _, _, _, _, .nil, e => by simp at e
  | _, _, 0, _, .cons r _, e => by simp at e; subst e; exact ⟨_, rfl, r⟩
  | _, _, i + 1, x, .cons _ t, e => by
    obtain ⟨u, h1, h2⟩ := VDs.get' (i := i) t (by simpa using e)
    exact ⟨u, by simpa using h1, h2⟩
theorem VDs.append : ∀ {vs ws : List V} {ds es : List D}, VDs K μ H vs ds → VDs K μ H ws es → VDs K μ H (vs ++ ws) (ds ++ es)
  | _, _, _, _, .nil, s => s
  | _, _, _, _, .cons r t, s => .cons r (VDs.append t s)
theorem VDs.take : ∀ {vs : List V} {ds : List D} (n : Nat), VDs K μ H vs ds → VDs K μ H (vs.take n) (ds.take n)
  | _, _, 0, _ => .nil
  | _, _, _ + 1, .nil => .nil
  | _, _, n + 1, .cons r t => .cons r (VDs.take n t)
theorem VDs.drop : ∀ {vs : List V} {ds : List D} (n : Nat), VDs K μ H vs ds → VDs K μ H (vs.drop n) (ds.drop n)
  | _, _, 0, r => r
  | _, _, _ + 1, .nil => .nil
  | _, _, n + 1, .cons _ t => VDs.drop n t
theorem VDs.reverse {vs : List V} {ds : List D} (h : VDs K μ H vs ds) : VDs K μ H vs.reverse ds.reverse := by
  induction h using VDs.rec (motive_1 := fun _ _ _ => True) with
  | non | bl | int | str | lst | tup | tupK => trivial
  | nil => exact .nil
  | cons h1 _ _ ih => rw [List.reverse_cons, List.reverse_cons]; exact ih.append (.cons h1 .nil)
theorem VDs.set {v : V} {d : D} (r : VD K μ H v d) : ∀ {vs : List V} {ds : List D} (i : Nat), VDs K μ H vs ds → VDs K μ H (vs.set i v) (ds.set i d)
  | _, _, _, .nil => .nil
  | _, _, 0, .cons _ t => .cons r t
  | _, _, i + 1, .cons q t => .cons q (VDs.set r i t)
theorem VRs.get : ∀ {vs : List V} {ds : List RV} {i : Nat} {d : RV}, VRs K mg μ H vs ds → ds[i]? = some d → ∃ v, vs[i]? = some v ∧ VR K mg μ H v d
  | _, _, _, _, .nil, e => by simp at e
  | _, _, 0, _, .cons r _, e => by simp at e; subst e; exact ⟨_, rfl, r⟩
  | _, _, i + 1, x, .cons _ t, e => by
    obtain ⟨u, h1, h2⟩ := VRs.get (i := i) t (by simpa using e)
    exact ⟨u, by simpa using h1, h2⟩
theorem VRs.append : ∀ {vs ws : List V} {ds es : List RV}, VRs K mg μ H vs ds → VRs K mg μ H ws es → VRs K mg μ H (vs ++ ws) (ds ++ es)
  | _, _, _, _, .nil, s => s
  | _, _, _, _, .cons r t, s => .cons r (VRs.append t s)

/-- a box as it stands -/
theorem RH.at (R : RH K μ h H) {i : Nat} {b : Box} (e : h[i]? = some b) : ∃ a, μ[i]? = some a ∧ BoxIs K μ H a b := by
  have hl : i < h.length := by
    rcases Nat.lt_or_ge i h.length with z | z
    · exact z
    · rw [List.getElem?_eq_none z] at e; cases e
  have hl' : i < μ.length := by rw [R.len]; exact hl
  exact ⟨μ[i], List.getElem?_eq_getElem hl', R.box i _ b (List.getElem?_eq_getElem hl') e⟩
theorem RH.there (R : RH K μ h H) {a : Addr} (ha : a ∈ μ) : ∃ o, H a = some o := by
  obtain ⟨i, hi, e⟩ := List.mem_iff_getElem.mp ha
  have hi' : i < h.length := by rw [← R.len]; exact hi
  have := R.box i a h[i] (by rw [List.getElem?_eq_getElem hi, e]) (List.getElem?_eq_getElem hi')
  cases q : h[i] with
  | lst ds => rw [q] at this; obtain ⟨vs, e, _⟩ := this; exact ⟨_, e⟩
  | gone => rw [q] at this; exact this
theorem RH.notin (R : RH K μ h H) {a : Addr} (ha : H a = none) : a ∉ μ := fun z => by
  obtain ⟨o, e⟩ := R.there z
  rw [ha] at e; cases e
theorem BoxIs.ext (e : Ext μ H μ' H') {a : Addr} {b : Box} (same : H' a = H a) (x : BoxIs K μ H a b) : BoxIs K μ' H' a b := by
  cases b with
  | lst ds => obtain ⟨vs, q, r, z⟩ := x; exact ⟨vs, by rw [same]; exact q, VDs.ext e _ _ r, z⟩
  | gone => obtain ⟨o, q⟩ := x; exact ⟨o, by rw [same]; exact q⟩
/-- a new object that is no box -/
theorem RH.push {p : Addr} {o : HO} (R : RH K μ h H) (hp : H p = none) : RH K μ h (upd H p o) ∧ Ext μ H μ (upd H p o) := by
  have e : Ext μ H μ (upd H p o) := ⟨fun a u q _ => by rw [upd_ne (ne_of_none q hp)]; exact q, ⟨[], by simp⟩, fun _ a b => absurd a b⟩
  refine ⟨⟨R.len, R.nd, fun i a b h1 h2 => ?_⟩, e⟩
  have hb := R.box i a b h1 h2
  obtain ⟨u, hu⟩ := R.there (List.mem_of_getElem? h1)
  exact hb.ext e (upd_ne (ne_of_none hu hp))
/-- a new box -/
theorem RH.newBox {p : Addr} {vs : List V} {ds : List D} (R : RH K μ h H) (hp : H p = none) (r : VDs K μ H vs ds) (z : vs.length ≤ sizeLine) :
    RH K (μ ++ [p]) (h ++ [.lst ds]) (upd H p (.lst vs)) ∧ Ext μ H (μ ++ [p]) (upd H p (.lst vs)) := by
  have hn : p ∉ μ := R.notin hp
  have e : Ext μ H (μ ++ [p]) (upd H p (.lst vs)) := by
    refine ⟨fun a u q _ => by rw [upd_ne (ne_of_none q hp)]; exact q, ⟨[p], rfl⟩, fun a ha hb => ?_⟩
    rcases List.mem_append.mp ha with q | q
    · exact absurd q hb
    · have : a = p := by simpa using q
      rw [this]; exact hp
  refine ⟨⟨by simp [R.len], ?_, fun i a b h1 h2 => ?_⟩, e⟩
  · rw [List.nodup_append]
    exact ⟨R.nd, by simp, fun x hx y hy => by have : y = p := by simpa using hy
                                              subst this; intro z; subst z; exact hn hx⟩
  · by_cases hi : i < μ.length
    · rw [List.getElem?_append_left hi] at h1
      rw [List.getElem?_append_left (by rw [← R.len]; exact hi)] at h2
      obtain ⟨u, hu⟩ := R.there (List.mem_of_getElem? h1)
      exact (R.box i a b h1 h2).ext e (upd_ne (ne_of_none hu hp))
    · have hi' : i = μ.length := by
        have : i < (μ ++ [p]).length := by
          rcases Nat.lt_or_ge i (μ ++ [p]).length with z | z
          · exact z
          · rw [List.getElem?_eq_none z] at h1; cases h1
        simp at this; omega
      subst hi'
      rw [List.getElem?_append_right (Nat.le_refl _)] at h1
      rw [List.getElem?_append_right (by rw [R.len]; exact Nat.le_refl _)] at h2
      simp at h1
      rw [R.len] at h2
      simp at h2
      subst h1; subst h2
      exact ⟨vs, upd_same, VDs.ext e _ _ r, z⟩
/-- a box is changed -/
theorem RH.write {n : Nat} {a : Addr} {vs : List V} {ds : List D} (R : RH K μ h H) (ha : μ[n]? = some a) (r : VDs K μ H vs ds) (z : vs.length ≤ sizeLine) :
    RH K μ (h.set n (.lst ds)) (upd H a (.lst vs)) ∧ Ext μ H μ (upd H a (.lst vs)) := by
  have hm := List.mem_of_getElem? ha
  have e : Ext μ H μ (upd H a (.lst vs)) := ⟨fun b u q hb => by rw [upd_ne (fun z : b = a => hb (by rw [z]; exact hm))]; exact q, ⟨[], by simp⟩, fun _ a b => absurd a b⟩
  have hn : n < μ.length := by
    rcases Nat.lt_or_ge n μ.length with z | z
    · exact z
    · rw [List.getElem?_eq_none z] at ha; cases ha
  have hn' : n < h.length := by rw [← R.len]; exact hn
  refine ⟨⟨by simp [R.len], R.nd, fun i b c h1 h2 => ?_⟩, e⟩
  by_cases hi : n = i
  · subst hi
    rw [ha] at h1; cases h1
    rw [List.getElem?_set_self hn'] at h2; cases h2
    exact ⟨vs, upd_same, VDs.ext e _ _ r, z⟩
  · rw [List.getElem?_set_ne hi] at h2
    refine (R.box i b c h1 h2).ext e (upd_ne fun q => ?_)
    subst q
    have hi1 : i < μ.length := by
      rcases Nat.lt_or_ge i μ.length with z | z
      · exact z
      · rw [List.getElem?_eq_none z] at h1; cases h1
    rw [List.getElem?_eq_getElem hn] at ha
    rw [List.getElem?_eq_getElem hi1] at h1
    exact hi ((List.getElem_inj R.nd).mp ((Option.some.inj ha).trans (Option.some.inj h1).symm))
/-- a box is given up -/
theorem RH.leave {n : Nat} (R : RH K μ h H) : RH K μ (h.set n .gone) H := by
  refine ⟨by simp [R.len], R.nd, fun i b c h1 h2 => ?_⟩
  by_cases hi : n = i
  · subst hi
    obtain ⟨u, hu⟩ := R.there (List.mem_of_getElem? h1)
    by_cases hn : n < h.length
    · rw [List.getElem?_set_self hn] at h2; cases h2
      exact ⟨u, hu⟩
    · rw [List.getElem?_eq_none (by simpa using Nat.le_of_not_lt hn)] at h2; cases h2
  · rw [List.getElem?_set_ne hi] at h2
    exact R.box i b c h1 h2
/-- the last boxes are forgotten -/
theorem VD.less {k : Nat} : ∀ (d : D) (v : V), VD K μ H v d → VD K (μ.take k) H v d := by
  have aux : ∀ {a : Addr}, a ∉ μ → a ∉ μ.take k := fun h z => h (List.mem_of_mem_take z)
  intro d v h
  induction h using VD.rec (motive_2 := fun vs ds _ => VDs K (μ.take k) H vs ds) with
  | non => exact .non
  | bl b => exact .bl b
  | int i => exact .int i
  | str x => exact .str x
  | lst q n z _ ih => exact .lst q (aux n) z ih
  | tup q n z _ ih => exact .tup q (aux n) z ih
  | tupK q _ ih => exact .tupK q ih
  | nil => exact .nil
  | cons _ _ i1 i2 => exact .cons i1 i2
theorem VDs.less {k : Nat} : ∀ (ds : List D) (vs : List V), VDs K μ H vs ds → VDs K (μ.take k) H vs ds
  | [], _, h => by cases h; exact .nil
  | d :: ds, _, h => by cases h with | cons h1 h2 => exact .cons (VD.less d _ h1) (VDs.less ds _ h2)
theorem RH.less {k : Nat} (R : RH K μ h H) : RH K (μ.take k) (h.take k) H := by
  refine ⟨by simp [R.len], R.nd.sublist (List.take_sublist _ _), fun i a b h1 h2 => ?_⟩
  rw [List.getElem?_take] at h1 h2
  split at h1
  · rename_i hi
    rw [if_pos hi] at h2
    have x := R.box i a b h1 h2
    cases b with
    | lst ds => obtain ⟨vs, q, r, z⟩ := x; exact ⟨vs, q, VDs.less _ _ r, z⟩
    | gone => exact x
  · cases h1
theorem VD.sub (f : ∀ b, b ∈ μ' → b ∈ μ) : ∀ (d : D) (v : V), VD K μ H v d → VD K μ' H v d := by
  intro d v h
  induction h using VD.rec (motive_2 := fun vs ds _ => VDs K μ' H vs ds) with
  | non => exact .non
  | bl b => exact .bl b
  | int i => exact .int i
  | str x => exact .str x
  | lst q n z _ ih => exact .lst q (fun m => n (f _ m)) z ih
  | tup q n z _ ih => exact .tup q (fun m => n (f _ m)) z ih
  | tupK q _ ih => exact .tupK q ih
  | nil => exact .nil
  | cons _ _ i1 i2 => exact .cons i1 i2
theorem VDs.sub (f : ∀ b, b ∈ μ' → b ∈ μ) : ∀ (ds : List D) (vs : List V), VDs K μ H vs ds → VDs K μ' H vs ds
  | [], _, h => by cases h; exact .nil
  | d :: ds, _, h => by cases h with | cons h1 h2 => exact .cons (VD.sub f d _ h1) (VDs.sub f ds _ h2)
theorem BoxIs.sub (f : ∀ b, b ∈ μ' → b ∈ μ) {a : Addr} {b : Box} (x : BoxIs K μ H a b) : BoxIs K μ' H a b := by
  cases b with
  | lst ds => obtain ⟨vs, q, r, z⟩ := x; exact ⟨vs, q, VDs.sub f _ _ r, z⟩
  | gone => exact x
/-- behind a call: the caller's boxes, the rest forgotten -/
theorem Ext.back (e : Ext μ H μ' H') : Ext μ H μ H' := ⟨e.keep, ⟨[], by simp⟩, fun _ a b => absurd a b⟩
theorem Ext.take (e : Ext μ H μ' H') : μ'.take μ.length = μ := by
  obtain ⟨t, rfl⟩ := e.pre
  simp
/-- a box's content as data, the box forgotten -/
theorem VD.ofBox {k n : Nat} {a : Addr} {ds : List D} (R : RH K μ h H) (ha : μ[n]? = some a) (hb : h[n]? = some (.lst ds)) (hk : k ≤ n) : VD K (μ.take k) H (.ref a) (.list ds) := by
  obtain ⟨vs, q, r, z⟩ := R.box n a _ ha hb
  refine .lst q (fun m => ?_) z (VDs.less _ _ r)
  obtain ⟨i, hi, e⟩ := List.mem_iff_getElem.mp m
  have hi' : i < k := by simp at hi; omega
  have hi2 : i < μ.length := by simp at hi; omega
  rw [List.getElem_take] at e
  have hn : n < μ.length := by
    rcases Nat.lt_or_ge n μ.length with z | z
    · exact z
    · rw [List.getElem?_eq_none z] at ha; cases ha
  rw [List.getElem?_eq_getElem hn] at ha
  have : i = n := (List.getElem_inj R.nd).mp (e.trans (Option.some.inj ha).symm)
  omega
end
end AI

set_option Elab.async false
set_option linter.all false
set_option maxRecDepth 100000
set_option maxHeartbeats 4000000
/-! AiEval: the plain run. -/
namespace AI
open PySem L2

/-- a raised exception: its class's name in the module, its field -/
structure Exn where
  cls : Str
  fld : Option (Str × D)

inductive Res (α : Type) where
  | ok (a : α) (h : Boxes)
  | ex (x : Exn) (h : Boxes)
  | no
abbrev M (α : Type) := Boxes → Res α
@[inline] def M.ret {α : Type} (a : α) : M α := fun h => .ok a h
@[inline] def M.bnd {α β : Type} (m : M α) (f : α → M β) : M β := fun h => match m h with
  | .ok a h' => f a h'
  | .ex x h' => .ex x h'
  | .no => .no
instance : Monad M where
  pure := M.ret
  bind := M.bnd
def M.no {α : Type} : M α := fun _ => .no
def M.opt {α : Type} : Option α → M α
  | some a => M.ret a
  | none => M.no
def M.grd (b : Bool) : M Unit := if b then M.ret () else M.no

/-- what a value is as data -/
def dat : RV → M D
  | .pd d => M.ret d
  | .fz ds => M.ret (.list ds)
  | .rf n => fun h => match h[n]? with
    | some (.lst ds) => .ok (.list ds) h
    | _ => .no
  | _ => M.no
/-- a list that is made -/
def newL (bx : Bool) (ds : List D) : M RV := fun h =>
  if ds.length ≤ sizeLine then (if bx then .ok (.rf h.length) (h ++ [.lst ds]) else .ok (.pd (.list ds)) h) else .no
def newT (ds : List D) : M RV := fun h => if ds.length ≤ sizeLine then .ok (.pd (.tuple ds)) h else .no

def allPd : List RV → Option (List D)
  | [] => some []
  | .pd d :: rs => (allPd rs).map (d :: ·)
  | _ => none
def mkTup (rs : List RV) : M RV := fun h => match allPd rs with
  | some ds => if ds.length ≤ sizeLine then .ok (.pd (.tuple ds)) h else .no
  | none => if rs.length ≤ sizeLine then .ok (.tp rs) h else .no

/-! ### truth -/
def truD : D → Option Bool
  | .none => some false
  | .bool b => some b
  | .int i => some (i != 0)
  | .str y => if y.length ≤ sizeLine then some ((y.length : Int) != 0) else none
  | .list ds => some (!ds.isEmpty)
  | .tuple ds => some (!ds.isEmpty)
  | .dict _ => none
def truth (r : RV) : M Bool := M.bnd (dat r) fun d => M.opt (truD d)

/-! ### operators -/
def binD (bx : Bool) (op : Operator) (a b : D) : M RV :=
  match op, a, b with
  | .Add, .int i, .int j => M.ret (.pd (.int (i + j)))
  | .Sub, .int i, .int j => M.ret (.pd (.int (i - j)))
  | .Mult, .int i, .int j => M.bnd (M.grd (decide (i.natAbs.log2 + j.natAbs.log2 < 1000000))) fun _ => M.ret (.pd (.int (i * j)))
  | .FloorDiv, .int i, .int j => M.bnd (M.grd (decide (0 < j ∧ j.natAbs.log2 < 9000))) fun _ => M.ret (.pd (.int (i / j)))
  | .Mod, .int i, .int j => M.bnd (M.grd (decide (0 < j))) fun _ => M.ret (.pd (.int (i % j)))
  | .Pow, .int i, .int j => M.bnd (M.grd (decide (0 ≤ j ∧ j ≤ 1000000 ∧ i.natAbs < 2 ^ 64))) fun _ => M.ret (.pd (.int (i ^ j.toNat)))
  | .Add, .str x, .str y => M.bnd (M.grd (decide (x.length + y.length ≤ sizeLine))) fun _ => M.ret (.pd (.str (x ++ y)))
  | .Add, .tuple xs, .tuple ys => newT (xs ++ ys)
  | .Add, .list xs, .list ys => newL bx (xs ++ ys)
  | _, _, _ => M.no
def isFz : RV → Bool
  | .fz _ => true
  | _ => false
def binS (bx : Bool) (op : Operator) (a b : RV) : M RV := M.bnd (M.grd (!isFz a && !isFz b)) fun _ => M.bnd (dat a) fun x => M.bnd (dat b) fun y => binD bx op x y
def negS : RV → M RV
  | .pd (.int i) => M.ret (.pd (.int (-i)))
  | _ => M.no

def ltS (a b : Str) : Bool := decide (a.cps.toList < b.cps.toList)
def eqD (a b : D) : M Bool := M.bnd (M.grd (decide (min a.depth b.depth ≤ 64))) fun _ => M.ret (PyData.eqv a b)
def inL (x : D) (ys : List D) : M Bool := M.bnd (M.grd (decide (x.depth ≤ 64))) fun _ => M.ret (ys.any fun y => PyData.eqv y x)
def inStr (x y : Str) : Bool := !(Builtin.Str.occurrences y x 0 y.length 1).isEmpty
def inD (x y : D) : M Bool := match y with
  | .list ds => inL x ds
  | .tuple ds => inL x ds
  | .str z => match x with
    | .str u => M.ret (inStr u z)
    | _ => M.no
  | _ => M.no
mutual
/-- x < y, if the two can be compared -/
def ltD : D → D → Option Bool
  | .int i, .int j => some (decide (i < j))
  | .str x, .str y => some (ltS x y)
  | .tuple xs, .tuple ys => ltDs xs ys
  | _, _ => none
def ltDs : List D → List D → Option Bool
  | [], ys => some (!ys.isEmpty)
  | _ :: _, [] => some false
  | x :: xs, y :: ys => if PyData.eqv x y = true then ltDs xs ys else ltD x y
end
mutual
def gtD : D → D → Option Bool
  | .int i, .int j => some (decide (j < i))
  | .str x, .str y => some (ltS y x)
  | .tuple xs, .tuple ys => gtDs xs ys
  | _, _ => none
def gtDs : List D → List D → Option Bool
  | [], _ => some false
  | _ :: _, [] => some true
  | x :: xs, y :: ys => if PyData.eqv x y = true then gtDs xs ys else gtD x y
end
def isNonD : D → Bool
  | .none => true
  | _ => false
def cmpD (op : CmpOp) (a b : D) : M Bool :=
  match op, a, b with
  | .Eq, a, b => eqD a b
  | .NotEq, a, b => M.bnd (eqD a b) fun k => M.ret (!k)
  | .Lt, .int i, .int j => M.ret (decide (i < j))
  | .LtE, .int i, .int j => M.ret (decide (i ≤ j))
  | .Gt, .int i, .int j => M.ret (decide (j < i))
  | .GtE, .int i, .int j => M.ret (decide (j ≤ i))
  | .Lt, .str x, .str y => M.ret (ltS x y)
  | .Gt, .str x, .str y => M.ret (ltS y x)
  | .LtE, .str x, .str y => M.ret (!ltS y x)
  | .GtE, .str x, .str y => M.ret (!ltS x y)
  | .Lt, .tuple xs, .tuple ys => M.bnd (M.grd (decide (min (PyData.tuple xs).depth (PyData.tuple ys).depth ≤ 64))) fun _ => M.opt (ltD (.tuple xs) (.tuple ys))
  | .Gt, .tuple xs, .tuple ys => M.bnd (M.grd (decide (min (PyData.tuple xs).depth (PyData.tuple ys).depth ≤ 64))) fun _ => M.opt (gtD (.tuple xs) (.tuple ys))
  | .In, a, b => inD a b
  | .NotIn, a, b => M.bnd (inD a b) fun k => M.ret (!k)
  | .Is, a, .none => M.ret (isNonD a)
  | .IsNot, a, .none => M.ret (!isNonD a)
  | _, _, _ => M.no
def cmpS (op : CmpOp) (a b : RV) : M Bool := M.bnd (dat a) fun x => M.bnd (dat b) fun y => cmpD op x y

/-! ### subscripts -/
def idxD (o i : D) : M RV := match o, i with
  | .list ds, .int k => M.bnd (M.opt (atI ds k)) fun d => M.ret (.pd d)
  | .tuple ds, .int k => M.bnd (M.opt (atI ds k)) fun d => M.ret (.pd d)
  | .str z, .int k => M.bnd (M.grd (decide (z.length ≤ sizeLine))) fun _ => M.bnd (M.opt (atI z.cps.toList k)) fun c => M.ret (.pd (.str ⟨#[c]⟩))
  | _, _ => M.no
def idxS (o i : RV) : M RV := match o, i with
  | .tp rs, .pd (.int k) => M.opt (atI rs k)
  | o, i => M.bnd (dat o) fun x => M.bnd (dat i) fun y => idxD x y
def partS : RV → M (Option Int)
  | .pd (.int i) => M.ret (some i)
  | _ => M.no
def cutL {α : Type} (xs : List α) (lo hi : Option Int) : List α := (xs.drop (HT.sIx xs.length 0 lo)).take (HT.sIx xs.length xs.length hi - HT.sIx xs.length 0 lo)
def slcS (bx : Bool) (o : RV) (lo hi : Option Int) : M RV := M.bnd (dat o) fun x => match x with
  | .list ds => newL bx (cutL ds lo hi)
  | .tuple ds => newT (cutL ds lo hi)
  | .str z => M.bnd (M.grd (decide (z.length ≤ sizeLine))) fun _ => M.ret (.pd (.str (cutS z lo hi)))
  | _ => M.no

/-! ### built-in functions -/
inductive BI where
  | len | list | tuple | int | str | abs | max | min | all | any | sum
  deriving DecidableEq
def intsOf : List D → Option (List Int)
  | [] => some []
  | .int i :: r => (intsOf r).map (i :: ·)
  | _ => none
def boolsOf : List D → Option (List Bool)
  | [] => some []
  | .bool i :: r => (boolsOf r).map (i :: ·)
  | _ => none
def maxL : List Int → Int
  | [] => 0
  | [i] => i
  | i :: r => if i < maxL r then maxL r else i
def biD (bx : Bool) (b : BI) (as : List D) : M RV :=
  match b, as with
  | .len, [.list ds] => M.ret (.pd (.int ds.length))
  | .len, [.tuple ds] => M.ret (.pd (.int ds.length))
  | .len, [.str z] => M.bnd (M.grd (decide (z.length ≤ sizeLine))) fun _ => M.ret (.pd (.int z.length))
  | .list, [.list ds] => newL bx ds
  | .list, [.tuple ds] => newL bx ds
  | .tuple, [.list ds] => newT ds
  | .tuple, [.tuple ds] => M.ret (.pd (.tuple ds))
  | .int, [.int i] => M.ret (.pd (.int i))
  | .int, [.bool k] => M.ret (.pd (.int (if k then 1 else 0)))
  | .int, [.str a] => M.bnd (M.grd (decide (a.length ≤ 640))) fun _ => M.bnd (M.opt (PySem.intText? a)) fun n => M.ret (.pd (.int n))
  | .str, [.int i] => M.bnd (M.grd (decide (i.natAbs.log2 < 1920))) fun _ => M.ret (.pd (.str (toString i)))
  | .str, [.str a] => M.ret (.pd (.str a))
  | .abs, [.int i] => M.ret (.pd (.int (if i < 0 then -i else i)))
  | .max, [.int i, .int j] => M.ret (.pd (.int (if j > i then j else i)))
  | .min, [.int i, .int j] => M.ret (.pd (.int (if j < i then j else i)))
  | .all, [.list ds] => M.bnd (M.opt (boolsOf ds)) fun ks => M.ret (.pd (.bool (ks.all id)))
  | .any, [.list ds] => M.bnd (M.opt (boolsOf ds)) fun ks => M.ret (.pd (.bool (ks.any id)))
  | .sum, [.list ds] => M.bnd (M.opt (intsOf ds)) fun ks => M.ret (.pd (.int ks.sum))
  | _, _ => M.no
def dats : List RV → M (List D)
  | [] => M.ret []
  | r :: rs => M.bnd (dat r) fun d => M.bnd (dats rs) fun ds => M.ret (d :: ds)
def biS (bx : Bool) (b : BI) (as : List RV) : M RV := M.bnd (dats as) fun ds => biD bx b ds

/-- isinstance against a built-in class -/
inductive TY where | int | str | bool | tuple | list
  deriving DecidableEq
def isiD : D → TY → Bool
  | .int _, .int => true
  | .bool _, .int => true
  | .bool _, .bool => true
  | .str _, .str => true
  | .tuple _, .tuple => true
  | .list _, .list => true
  | _, _ => false
def isiS (a : RV) (t : TY) : M RV := M.bnd (dat a) fun d => M.ret (.pd (.bool (isiD d t)))

/-! ### methods -/
inductive MT where
  | append | extend | pop | popAt | index | join | split
  deriving DecidableEq
def firstAt (ds : List D) (d : D) : Option Nat := ds.findIdx? fun z => PyData.eqv z d
def strsOf : List D → Option (List Str)
  | [] => some []
  | .str i :: r => (strsOf r).map (i :: ·)
  | _ => none
/-- the change of a box -/
def mod (n : Nat) (f : List D → M (D × List D)) : M RV := fun h => match h[n]? with
  | some (.lst ds) => match f ds h with
    | .ok (r, ds') _ => if ds'.length ≤ sizeLine then .ok (.pd r) (h.set n (.lst ds')) else .no
    | _ => .no
  | _ => .no
/-- what a method is asked of -/
inductive RK where | list | tuple | str
  deriving DecidableEq
def rkD : D → Option RK
  | .list _ => some .list
  | .tuple _ => some .tuple
  | .str _ => some .str
  | _ => none
def rkOf (r : RV) : M RK := M.bnd (dat r) fun d => M.opt (rkD d)
def asPd : RV → Option D
  | .pd d => some d
  | _ => none
def methS (bx : Bool) (m : MT) (k : RK) (o : RV) (as : List RV) : M RV :=
  match m, k with
  | .append, .list => match o, as with
    | .rf n, [r] => M.bnd (M.opt (asPd r)) fun d => mod n fun ds => M.ret (.none, ds ++ [d])
    | _, _ => M.no
  | .pop, .list => match o, as with
    | .rf n, [] => mod n fun ds => M.bnd (M.opt (ds[ds.length - 1]?)) fun d => M.ret (d, ds.dropLast)
    | _, _ => M.no
  | .popAt, .list => match o, as with
    | .rf n, [.pd (.int i)] => mod n fun ds => M.bnd (M.grd (decide (-(2 ^ 63) ≤ i ∧ i < 2 ^ 63))) fun _ => M.bnd (M.opt (seqIndex? i ds.length)) fun k => M.bnd (M.opt ds[k]?) fun d => M.ret (d, ds.eraseIdx k)
    | _, _ => M.no
  | .extend, .list => match o, as with
    | .rf n, [r] => if isFz r = true then M.no else M.bnd (dat r) fun d => match d with
      | .list es => mod n fun ds => M.ret (.none, ds ++ es)
      | _ => M.no
    | _, _ => M.no
  | .index, .list => match as with
    | [.pd d] => M.bnd (dat o) fun x => match x with
      | .list ds => M.bnd (M.grd (decide (d.depth ≤ 64))) fun _ => M.bnd (M.opt (firstAt ds d)) fun k => M.ret (.pd (.int k))
      | _ => M.no
    | _ => M.no
  | .index, .tuple => match o, as with
    | .pd (.tuple ds), [.pd d] => M.bnd (M.grd (decide (d.depth ≤ 64))) fun _ => M.bnd (M.opt (firstAt ds d)) fun k => M.ret (.pd (.int k))
    | _, _ => M.no
  | .index, .str => match o, as with
    | .pd (.str z), [.pd (.str u)] => M.bnd (M.opt (Builtin.Str.occurrences z u 0 z.length 1).head?) fun k => M.ret (.pd (.int (k : Nat)))
    | _, _ => M.no
  | .split, .str => match o, as with
    | .pd (.str a), [.pd (.str b)] => M.bnd (M.grd (decide ((b.length == 0) = false ∧ a.length + 2 ≤ sizeLine))) fun _ => newL bx ((Txt.split a b).map PyData.str)
    | _, _ => M.no
  | _, _ => M.no
/-- o[i] = v -/
def setS (o i : RV) (v : RV) : M RV := match o, i, v with
  | .rf n, .pd (.int k), .pd d => mod n fun ds => M.bnd (M.opt (ixN ds.length k)) fun j => M.ret (.none, ds.set j d)
  | _, _, _ => M.no

/-! ### the syntax -/
mutual
inductive E where
  | var (i : Nat)
  | cst (d : D)
  | glob (x : Str)
  | fn (x : Str)
  | tup (es : List E)
  | lst (es : List E)
  | bin (op : Operator) (a b : E)
  | neg (a : E)
  | cmp (op : CmpOp) (a b : E)
  | cmp2 (op op' : CmpOp) (a b c : E)
  | and (a b : E)
  | or (a b : E)
  | not (a : E)
  | idx (a i : E)
  | slc (a : E) (lo hi : Option E)
  | call (f : Str) (es : List E)
  | calv (i : Nat) (es : List E)
  | bi (b : BI) (es : List E)
  | isi (a : E) (t : TY)
  | meth (m : MT) (o : E) (es : List E)
  | lc (elt : E) (g : G) (it : I) (ifs : List C) (own : List Nat)
  | bx (e : E)
inductive C where
  | val (e : E)
  | and (a b : C)
  | or (a b : C)
  | not (a : C)
inductive G where
  | nm (i : Nat)
  | tup (gs : List G)
  | sub (o i : E)
/-- what a loop walks -/
inductive I where
  | val (e : E)
  | rng (es : List E)
  | rev (e : E)
end
inductive S where
  | asg (g : G) (e : E)
  | aug (op : Operator) (i : Nat) (e : E)
  | expr (e : E)
  | ite (c : C) (a b : List S)
  | for_ (g : G) (it : I) (body : List S)
  | while_ (c : C) (body : List S)
  | ret (e : E)
  | retN
  | brk
  | cnt
  | pass

/-! ### the run -/
abbrev Sl := List (Option RV)
/-- behind a call: the boxes that it made are forgotten; the result that is one becomes data (or, if it is wanted so, a box of the caller's) -/
def frzD (n0 : Nat) (h : Boxes) : RV → Option D
  | .pd d => some d
  | .rf k => if n0 ≤ k then (match h[k]? with | some (.lst ds) => some (.list ds) | _ => none) else none
  | _ => none
def frzDs (n0 : Nat) (h : Boxes) : List RV → Option (List D)
  | [] => some []
  | r :: rs => (frzD n0 h r).bind fun d => (frzDs n0 h rs).map (d :: ·)
def settle (n0 : Nat) (bx : Bool) (r : RV) (h : Boxes) : Res RV :=
  match r with
  | .pd d => .ok (.pd d) (h.take n0)
  | .gl x => .ok (.gl x) (h.take n0)
  | .fz _ => .no
  | .rf k => if k < n0 then .ok (.rf k) (h.take n0) else match h[k]? with
    | some (.lst ds) => if bx = true then .ok (.rf n0) (h.take n0 ++ [.lst ds]) else .ok (.pd (.list ds)) (h.take n0)
    | _ => .no
  | .tp rs => match frzDs n0 h rs with
    | some ds => .ok (.pd (.tuple ds)) (h.take n0)
    | none => .no
structure TT where
  raw : Str → List RV → M RV
  cst : Str → Option D
  isFn : Str → Bool
  wf : Nat
def TT.call (T : TT) (bx : Bool) (f : Str) (rs : List RV) : M RV := fun h => match T.raw f rs h with
  | .ok r h' => settle h.length bx r h'
  | .ex x h' => .ex x (h'.take h.length)
  | .no => .no
def getV (σ : Sl) (i : Nat) : M RV := M.opt (σ[i]?).join
def wipeS (σ : Sl) : List Nat → Sl
  | [] => σ
  | v :: vs => (wipeS σ vs).set v none
/-- what is walked: the items as they are at the start, the box that holds them (or none) -/
structure Src where
  items : List D
  box : Option Nat
def srcOf : RV → M Src
  | .pd (.list ds) => M.ret ⟨ds, none⟩
  | .pd (.tuple ds) => M.ret ⟨ds, none⟩
  | .pd (.str z) => M.ret ⟨z.cps.toList.map fun c => .str ⟨#[c]⟩, none⟩
  | .fz ds => M.ret ⟨ds, none⟩
  | .rf n => fun h => match h[n]? with
    | some (.lst ds) => .ok ⟨ds, some n⟩ h
    | _ => .no
  | _ => M.no
def revOf : RV → M Src
  | .pd (.list ds) => M.ret ⟨ds.reverse, none⟩
  | .pd (.tuple ds) => M.ret ⟨ds.reverse, none⟩
  | _ => M.no
/-- the i-th item, as it stands at turn i -/
def srcAt (s : Src) (i : Nat) : M D := match s.box with
  | none => M.opt s.items[i]?
  | some n => fun h => match h[n]? with
    | some (.lst ds) => if ds.length = s.items.length then (match ds[i]? with | some d => .ok d h | none => .no) else .no
    | _ => .no
def srcEnd (s : Src) : M Unit := match s.box with
  | none => M.ret ()
  | some n => fun h => match h[n]? with
    | some (.lst ds) => if ds.length = s.items.length then .ok () h else .no
    | _ => .no
def rngL (lo : Int) (n : Nat) : List D := (List.range n).map fun k : Nat => PyData.int (lo + k)
def rngOf : List RV → M Src
  | [.pd (.int j)] => M.bnd (M.grd (decide (-(2 ^ 62) ≤ j ∧ j < 2 ^ 62))) fun _ => M.ret ⟨rngL 0 j.toNat, none⟩
  | [.pd (.int i), .pd (.int j)] => M.bnd (M.grd (decide (-(2 ^ 62) ≤ i ∧ i < 2 ^ 62 ∧ -(2 ^ 62) ≤ j ∧ j < 2 ^ 62))) fun _ => M.ret ⟨rngL i (j - i).toNat, none⟩
  | _ => M.no
/-- the items of a list or a tuple that is unpacked -/
def itemsOf (n : Nat) : RV → M (List RV)
  | .pd (.tuple ds) => if ds.length = n then M.ret (ds.map .pd) else M.no
  | .tp rs => if rs.length = n then M.ret rs else M.no
  | _ => M.no
/-- a comprehension's loop, into the box n -/
def lcB (n : Nat) (s : Src) (turn : D → M (Option D)) : Nat → Nat → M Unit
  | 0, _ => srcEnd s
  | k + 1, i => M.bnd (srcAt s i) fun d => M.bnd (turn d) fun r => match r with
    | some y => M.bnd (mod n fun ds => M.ret (.none, ds ++ [y])) fun _ => lcB n s turn k (i + 1)
    | none => lcB n s turn k (i + 1)
def lcS (bx : Bool) (s : Src) (turn : D → M (Option D)) : M RV := fun h => match lcB h.length s turn s.items.length 0 (h ++ [.lst []]) with
  | .ok _ h' => settle h.length bx (.rf h.length) h'
  | .ex x h' => .ex x h'
  | .no => .no

mutual
def ev (T : TT) (σ : Sl) (bx : Bool) : E → M RV
  | .var i => getV σ i
  | .cst d => M.ret (.pd d)
  | .glob x => M.bnd (M.opt (T.cst x)) fun d => M.ret (.pd d)
  | .fn x => if T.isFn x = true then M.ret (.gl x) else M.no
  | .tup es => M.bnd (evs T σ es) mkTup
  | .lst es => M.bnd (evs T σ es) fun rs => M.bnd (M.opt (allPd rs)) (newL bx)
  | .bin op a b => M.bnd (ev T σ false a) fun x => M.bnd (ev T σ false b) fun y => binS bx op x y
  | .neg a => M.bnd (ev T σ false a) negS
  | .cmp op a b => M.bnd (ev T σ false a) fun x => M.bnd (ev T σ false b) fun y => M.bnd (cmpS op x y) fun k => M.ret (.pd (.bool k))
  | .cmp2 op op' a b c => M.bnd (ev T σ false a) fun x => M.bnd (ev T σ false b) fun y => M.bnd (cmpS op x y) fun k =>
      if k = true then M.bnd (ev T σ false c) fun z => M.bnd (cmpS op' y z) fun k' => M.ret (.pd (.bool k')) else M.ret (.pd (.bool false))
  | .and a b => M.bnd (ev T σ false a) fun x => match x with
    | .pd (.bool true) => ev T σ false b
    | .pd (.bool false) => M.ret (.pd (.bool false))
    | _ => M.no
  | .or a b => M.bnd (ev T σ false a) fun x => match x with
    | .pd (.bool true) => M.ret (.pd (.bool true))
    | .pd (.bool false) => ev T σ false b
    | _ => M.no
  | .not a => M.bnd (ev T σ false a) fun x => match x with
    | .pd (.bool k) => M.ret (.pd (.bool (!k)))
    | _ => M.no
  | .idx a i => M.bnd (ev T σ false a) fun x => M.bnd (ev T σ false i) fun y => idxS x y
  | .slc a lo hi => M.bnd (ev T σ false a) fun x => M.bnd (evO T σ lo) fun l => M.bnd (evO T σ hi) fun u => slcS bx x l u
  | .call f es => M.bnd (evs T σ es) fun rs => T.call bx f rs
  | .calv i es => M.bnd (getV σ i) fun r => match r with
    | .gl f => M.bnd (evs T σ es) fun rs => T.call bx f rs
    | _ => M.no
  | .bi b es => M.bnd (evs T σ es) fun rs => biS bx b rs
  | .isi a t => M.bnd (ev T σ false a) fun x => isiS x t
  | .meth m o es => M.bnd (ev T σ false o) fun x => M.bnd (rkOf x) fun k => M.bnd (evs T σ es) fun rs => methS bx m k x rs
  | .lc elt g it ifs own => M.bnd (evI T σ it) fun s => lcS bx s fun d => M.bnd (asgG T g (.pd d) (wipeS σ own)) fun σ2 => M.bnd (evTs T σ2 ifs) fun k =>
      if k = true then M.bnd (ev T σ2 false elt) fun r => M.bnd (M.opt (asPd r)) fun y => M.ret (some y)
      else M.ret none
  | .bx e => ev T σ true e
def evs (T : TT) (σ : Sl) : List E → M (List RV)
  | [] => M.ret []
  | e :: es => M.bnd (ev T σ false e) fun x => M.bnd (evs T σ es) fun xs => M.ret (x :: xs)
def evO (T : TT) (σ : Sl) : Option E → M (Option Int)
  | none => M.ret none
  | some e => M.bnd (ev T σ false e) partS
def evC (T : TT) (σ : Sl) : C → M Bool
  | .val e => M.bnd (ev T σ false e) truth
  | .and a b => M.bnd (evC T σ a) fun k => if k = true then evC T σ b else M.ret false
  | .or a b => M.bnd (evC T σ a) fun k => if k = true then M.ret true else evC T σ b
  | .not a => M.bnd (evC T σ a) fun k => M.ret (!k)
def evTs (T : TT) (σ : Sl) : List C → M Bool
  | [] => M.ret true
  | [c] => evC T σ c
  | _ => M.no
def evI (T : TT) (σ : Sl) : I → M Src
  | .val e => M.bnd (ev T σ false e) srcOf
  | .rng es => M.bnd (evs T σ es) rngOf
  | .rev e => M.bnd (ev T σ false e) revOf
def asgG (T : TT) : G → RV → Sl → M Sl
  | .nm i, r, σ => M.ret (σ.set i (some r))
  | .tup gs, r, σ => M.bnd (itemsOf gs.length r) fun rs => asgGs T gs rs σ
  | .sub o i, r, σ => M.bnd (ev T σ false o) fun x => M.bnd (ev T σ false i) fun y => M.bnd (setS x y r) fun _ => M.ret σ
def asgGs (T : TT) : List G → List RV → Sl → M Sl
  | [], [], σ => M.ret σ
  | g :: gs, r :: rs, σ => M.bnd (asgG T g r σ) fun σ' => asgGs T gs rs σ'
  | _, _, _ => M.no
end

def augS : Operator → RV → RV → M RV
  | .Add, .pd (.int a), .pd (.int b) => M.ret (.pd (.int (a + b)))
  | .Sub, .pd (.int a), .pd (.int b) => M.ret (.pd (.int (a - b)))
  | _, _, _ => M.no
/-- how a statement ends -/
inductive Fl where
  | nx (σ : Sl)
  | rt (r : RV)
  | bk (σ : Sl)
  | ct (σ : Sl)
def forL (s : Src) (body : D → Sl → M Fl) : Nat → Nat → Sl → M Fl
  | 0, _, σ => M.bnd (srcEnd s) fun _ => M.ret (.nx σ)
  | k + 1, i, σ => M.bnd (srcAt s i) fun d => M.bnd (body d σ) fun f => match f with
    | .nx σ' => forL s body k (i + 1) σ'
    | .ct σ' => forL s body k (i + 1) σ'
    | .bk σ' => M.ret (.nx σ')
    | .rt r => M.ret (.rt r)
def whlL (test : Sl → M Bool) (body : Sl → M Fl) : Nat → Sl → M Fl
  | 0, _ => M.no
  | k + 1, σ => M.bnd (test σ) fun b => if b = true then M.bnd (body σ) fun f => match f with
      | .nx σ' => whlL test body k σ'
      | .ct σ' => whlL test body k σ'
      | .bk σ' => M.ret (.nx σ')
      | .rt r => M.ret (.rt r)
    else M.ret (.nx σ)
mutual
def ex (T : TT) : S → Sl → M Fl
  | .asg g e, σ => M.bnd (ev T σ false e) fun r => M.bnd (asgG T g r σ) fun σ' => M.ret (.nx σ')
  | .aug op i e, σ => M.bnd (getV σ i) fun x => M.bnd (ev T σ false e) fun y => M.bnd (augS op x y) fun r => M.ret (.nx (σ.set i (some r)))
  | .expr e, σ => M.bnd (ev T σ false e) fun _ => M.ret (.nx σ)
  | .ite c a b, σ => M.bnd (evC T σ c) fun k => if k = true then exs T a σ else exs T b σ
  | .for_ g it body, σ => M.bnd (evI T σ it) fun s => forL s (fun d σ1 => M.bnd (asgG T g (.pd d) σ1) fun σ2 => exs T body σ2) s.items.length 0 σ
  | .while_ c body, σ => whlL (fun σ1 => evC T σ1 c) (fun σ1 => exs T body σ1) T.wf σ
  | .ret e, σ => M.bnd (ev T σ false e) fun r => M.ret (.rt r)
  | .retN, _ => M.ret (.rt (.pd .none))
  | .brk, σ => M.ret (.bk σ)
  | .cnt, σ => M.ret (.ct σ)
  | .pass, σ => M.ret (.nx σ)
def exs (T : TT) : List S → Sl → M Fl
  | [], σ => M.ret (.nx σ)
  | s :: ss, σ => M.bnd (ex T s σ) fun f => match f with
    | .nx σ' => exs T ss σ'
    | f => M.ret f
end

/-! ### calls -/
structure Def where
  pars : Nat
  slots : Nat
  body : List S
def startS (n : Nat) (rs : List RV) : Sl := rs.map some ++ List.replicate (n - rs.length) none
def rawDef (T : TT) (d : Def) (rs : List RV) : M RV := fun h =>
  if rs.length = d.pars then
    match exs T d.body (startS d.slots rs) h with
    | .ok (.rt r) h' => .ok r h'
    | .ok (.nx _) h' => .ok (.pd .none) h'
    | .ok _ _ => .no
    | .ex x h' => .ex x h'
    | .no => .no
  else .no
/-- the module: its defs, its constants -/
structure Mdl where
  defs : Str → Option Def
  cst : Str → Option D
  wf : Nat
def Mdl.tt (P : Mdl) : Nat → TT
  | 0 => ⟨fun _ _ => M.no, P.cst, fun x => (P.defs x).isSome, P.wf⟩
  | n + 1 => ⟨fun f rs => match P.defs f with
      | some d => rawDef (P.tt n) d rs
      | none => M.no, P.cst, fun x => (P.defs x).isSome, P.wf⟩
end AI

set_option Elab.async false
set_option linter.all false
set_option maxRecDepth 100000
set_option maxHeartbeats 4000000
/-! AiEq: == and != of data without dicts, whatever its texts. -/
namespace AI
open PySem L2 SeqAt
mutual
def pln : D → Bool
  | .list xs => plns xs
  | .tuple xs => plns xs
  | .dict _ => false
  | _ => true
def plns : List D → Bool
  | [] => true
  | x :: xs => pln x && plns xs
end
mutual
theorem eqv_same : ∀ d : D, pln d = true → PyData.eqv d d = true
  | .none, _ | .bool _, _ | .int _, _ | .str _, _ => by simp [PyData.eqv]
  | .list xs, h | .tuple xs, h => by rw [PyData.eqv]; exact eqvs_same xs (by simpa [pln] using h)
  | .dict _, h => by simp [pln] at h
theorem eqvs_same : ∀ xs : List D, plns xs = true → PyData.eqvAll xs xs = true
  | [], _ => by simp [PyData.eqvAll]
  | x :: xs, h => by
    simp only [plns, Bool.and_eq_true] at h
    simp [PyData.eqvAll, eqv_same x h.1, eqvs_same xs h.2]
end
mutual
theorem one_of {h : Heap} : ∀ (d e : D) (v : Value) (as bs : List Addr), pln d = true → Reads h v d as → Reads h v e bs → d = e
  | .none, _, _, _, _, _, r, q | .bool _, _, _, _, _, _, r, q | .int _, _, _, _, _, _, r, q | .str _, _, _, _, _, _, r, q => by cases r; cases q; rfl
  | .list xs, e, _, _, _, p, r, q => by
    rcases r with _ | _ | _ | _ | ⟨a1, a2, a3, a4⟩
    rcases q with _ | _ | _ | _ | ⟨b1, b2, b3, b4⟩ | ⟨b1, b2, b3, b4⟩ | ⟨b1, b2, b3, b4, b5⟩
    · obtain rfl := Option.some.inj (a1.symm.trans b1)
      rw [a3] at b3; cases b3
      rw [ones_of xs _ _ _ _ (by simpa [pln] using p) a4 b4]
    · obtain rfl := Option.some.inj (a1.symm.trans b1)
      rw [a2] at b2; simp at b2
    · obtain rfl := Option.some.inj (a1.symm.trans b1)
      rw [a2] at b2; simp at b2
  | .tuple xs, e, _, _, _, p, r, q => by
    rcases r with _ | _ | _ | _ | _ | ⟨a1, a2, a3, a4⟩
    rcases q with _ | _ | _ | _ | ⟨b1, b2, b3, b4⟩ | ⟨b1, b2, b3, b4⟩ | ⟨b1, b2, b3, b4, b5⟩
    · obtain rfl := Option.some.inj (a1.symm.trans b1)
      rw [a2] at b2; simp at b2
    · obtain rfl := Option.some.inj (a1.symm.trans b1)
      rw [a3] at b3; cases b3
      rw [ones_of xs _ _ _ _ (by simpa [pln] using p) a4 b4]
    · obtain rfl := Option.some.inj (a1.symm.trans b1)
      rw [a2] at b2; simp at b2
  | .dict _, _, _, _, _, p, _, _ => by simp [pln] at p
theorem ones_of {h : Heap} : ∀ (xs ys : List D) (vs : List Value) (as bs : List Addr), plns xs = true → ReadsAll h vs xs as → ReadsAll h vs ys bs → xs = ys
  | [], _, _, _, _, _, r, q => by cases r; cases q; rfl
  | x :: xs, _, _, _, _, p, r, q => by
    simp only [plns, Bool.and_eq_true] at p
    rcases r with _ | ⟨r1, r2⟩
    rcases q with _ | ⟨q1, q2⟩
    rw [one_of x _ _ _ _ p.1 r1 q1, ones_of xs _ _ _ _ p.2 r2 q2]
end
theorem rl {h : Heap} {a : Value} {xs : List D} {as : List Addr} (r : Reads h a (.list xs) as) : ∃ l o vs n cs, a = .ref l ∧ h.get? l = some o ∧ o.cls = .type "list" ∧ o.data = .seq vs n ∧ ReadsAll h vs.toList xs cs := by
  cases r with
  | list a1 a2 a3 a4 => exact ⟨_, _, _, _, _, rfl, a1, a2, a3, a4⟩
theorem rt {h : Heap} {a : Value} {xs : List D} {as : List Addr} (r : Reads h a (.tuple xs) as) : ∃ l o vs n cs, a = .ref l ∧ h.get? l = some o ∧ o.cls = .type "tuple" ∧ o.data = .seq vs n ∧ ReadsAll h vs.toList xs cs := by
  cases r with
  | tuple a1 a2 a3 a4 => exact ⟨_, _, _, _, _, rfl, a1, a2, a3, a4⟩
mutual
theorem eqp : ∀ (d e : D) (A : Around) (s : Shared) (a b : Value) (as bs : List Addr), Reads s.heap a d as → Reads s.heap b e bs → pln d = true → pln e = true → A.units + min d.depth e.depth < cLine → EqAt A s a b (PyData.eqv d e)
  | .none, e, A, s, _, _, _, _, r, q, _, p, u => by
    cases r
    cases q with
    | none => refine EqAt.same _
    | bool z => refine EqAt.none_bool z
    | int z zt => refine EqAt.none_int z zt
    | str z zt => refine EqAt.none_str z zt
    | list b1 b2 b3 b4 => refine EqAt.none_list ⟨_, b1, b2, _, b3⟩ (room_here u)
    | tuple b1 b2 b3 b4 => refine EqAt.none_tuple ⟨_, b1, b2, _, b3⟩ (room_here u)
    | dict => simp [pln] at p
  | .bool k, e, A, s, _, _, _, _, r, q, _, p, u => by
    rcases r with _ | _
    cases q with
    | none => refine EqAt.bool_none k
    | bool z => refine EqAt.bool_bool k z
    | int z zt => refine EqAt.bool_int k z zt
    | str z zt => refine EqAt.bool_str k z zt
    | list b1 b2 b3 b4 => refine EqAt.bool_list k ⟨_, b1, b2, _, b3⟩ (room_here u)
    | tuple b1 b2 b3 b4 => refine EqAt.bool_tuple k ⟨_, b1, b2, _, b3⟩ (room_here u)
    | dict => simp [pln] at p
  | .int k, e, A, s, _, _, _, _, r, q, _, p, u => by
    rcases r with _ | _ | ⟨_, kt⟩
    cases q with
    | none => refine EqAt.int_none k kt
    | bool z => refine EqAt.int_bool k kt z
    | int z zt => refine EqAt.int_int k kt z zt
    | str z zt => refine EqAt.int_str k kt z zt
    | list b1 b2 b3 b4 => refine EqAt.int_list k kt ⟨_, b1, b2, _, b3⟩ (room_here u)
    | tuple b1 b2 b3 b4 => refine EqAt.int_tuple k kt ⟨_, b1, b2, _, b3⟩ (room_here u)
    | dict => simp [pln] at p
  | .str k, e, A, s, _, _, _, _, r, q, _, p, u => by
    rcases r with _ | _ | _ | ⟨_, kt⟩
    cases q with
    | none => refine EqAt.str_none k kt
    | bool z => refine EqAt.str_bool k kt z
    | int z zt => refine EqAt.str_int k kt z zt
    | str z zt => refine EqAt.str_str k kt z zt
    | list b1 b2 b3 b4 => refine EqAt.str_list k kt ⟨_, b1, b2, _, b3⟩ (room_here u)
    | tuple b1 b2 b3 b4 => refine EqAt.str_tuple k kt ⟨_, b1, b2, _, b3⟩ (room_here u)
    | dict => simp [pln] at p
  | .list xs, e, A, s, _, _, _, _, r, q, p, p', u => by
    have r0 := r
    obtain ⟨l1, o1, w1, n1', c1, rfl, a1, a2, a3, a4⟩ := rl r
    have hl : s.heap.IsList _ _ := ⟨_, a1, a2, _, a3⟩
    cases q with
    | @list l2 _ ws _ ys _ b1 b2 b3 b4 =>
      have hl' : s.heap.IsList _ _ := ⟨_, b1, b2, _, b3⟩
      have n1 := ReadsAll.length _ _ _ a4
      have n2 := ReadsAll.length _ _ _ b4
      simp only [Array.length_toList] at n1 n2
      show EqAt A s _ _ (PyData.eqvAll xs ys)
      by_cases z : l1 = l2
      · subst z
        have w := one_of (.list xs) (.list ys) _ _ _ p r0 (.list b1 b2 b3 b4)
        injection w with w
        subst w
        rw [eqvs_same xs (by simpa [pln] using p)]
        exact EqAt.same _
      · by_cases y : xs.length = ys.length
        · rw [← eqvAll_same_length y, ← n1]
          exact EqAt.of_refs z (RcAt.lists hl hl' (by omega) (room_here u) fun j j1 j2 => by
            have := eqps xs ys A.in1 s _ _ _ _ a4 b4 (by simpa [pln] using p) (by simpa [pln] using p') (room_in u) j (by simpa using j1) (by simpa using j2)
            simpa using this)
        · rw [eqvAll_other_length y]
          exact EqAt.of_refs z (RcAt.lists_lengths hl hl' (by simp; omega) (room_here u))
    | none => exact EqAt.list_none hl (room_here u)
    | bool _ => exact EqAt.list_bool _ hl (room_here u)
    | int _ _ => exact EqAt.list_int _ _ hl (room_here u)
    | str _ _ => exact EqAt.list_str _ _ hl (room_here u)
    | tuple b1 b2 b3 b4 => exact EqAt.list_tuple hl ⟨_, b1, b2, _, b3⟩ (room_here u)
    | dict => simp [pln] at p'
  | .tuple xs, e, A, s, _, _, _, _, r, q, p, p', u => by
    have r0 := r
    obtain ⟨l1, o1, w1, n1', c1, rfl, a1, a2, a3, a4⟩ := rt r
    have hl : s.heap.IsTuple _ _ := ⟨_, a1, a2, _, a3⟩
    cases q with
    | @tuple l2 _ ws _ ys _ b1 b2 b3 b4 =>
      have hl' : s.heap.IsTuple _ _ := ⟨_, b1, b2, _, b3⟩
      have n1 := ReadsAll.length _ _ _ a4
      have n2 := ReadsAll.length _ _ _ b4
      simp only [Array.length_toList] at n1 n2
      show EqAt A s _ _ (PyData.eqvAll xs ys)
      by_cases z : l1 = l2
      · subst z
        have w := one_of (.tuple xs) (.tuple ys) _ _ _ p r0 (.tuple b1 b2 b3 b4)
        injection w with w
        subst w
        rw [eqvs_same xs (by simpa [pln] using p)]
        exact EqAt.same _
      · rw [← eqvAll_eq xs ys, ← n1, ← n2]
        exact EqAt.of_refs z (RcAt.tuples hl hl' (room_here u) fun j j1 j2 => by
          have := eqps xs ys A.in1 s _ _ _ _ a4 b4 (by simpa [pln] using p) (by simpa [pln] using p') (room_in u) j (by simpa using j1) (by simpa using j2)
          simpa using this)
    | none => exact EqAt.tuple_none hl (room_here u)
    | bool _ => exact EqAt.tuple_bool _ hl (room_here u)
    | int _ _ => exact EqAt.tuple_int _ _ hl (room_here u)
    | str _ _ => exact EqAt.tuple_str _ _ hl (room_here u)
    | list b1 b2 b3 b4 => exact EqAt.tuple_list hl ⟨_, b1, b2, _, b3⟩ (room_here u)
    | dict => simp [pln] at p'
  | .dict _, _, _, _, _, _, _, _, _, _, p, _, _ => by simp [pln] at p
theorem eqps : ∀ (xs ys : List D) (A : Around) (s : Shared) (vs ws : List Value) (as bs : List Addr), ReadsAll s.heap vs xs as → ReadsAll s.heap ws ys bs → plns xs = true → plns ys = true →
    A.units + min (PyData.depthAll xs) (PyData.depthAll ys) < cLine → ∀ j (h1 : j < vs.length) (h2 : j < ws.length), EqAt A s vs[j] ws[j] (pairEq xs ys j)
  | [], _, _, _, _, _, _, _, r, _, _, _, _, j, h1, _ => by cases r; simp at h1
  | _ :: _, [], _, _, _, _, _, _, _, q, _, _, _, j, _, h2 => by cases q; simp at h2
  | x :: xs, y :: ys, A, s, _, _, _, _, r, q, p, p', u, j, h1, h2 => by
    simp only [plns, Bool.and_eq_true] at p p'
    rcases r with _ | ⟨r1, r2⟩
    rcases q with _ | ⟨q1, q2⟩
    rcases j with _ | j
    · exact eqp x y A s _ _ _ _ r1 q1 p.1 p'.1 (room_head u)
    · exact eqps xs ys A s _ _ _ _ r2 q2 p.2 p'.2 (room_tail u) j (Nat.lt_of_succ_lt_succ h1) (Nat.lt_of_succ_lt_succ h2)
end
section
variable {A : Around} {s : Shared} {a b : Value} {as bs : List Addr}
/-- ==, asked itself -/
theorem rcp (d e : D) (r : Reads s.heap a d as) (q : Reads s.heap b e bs) (p : pln d = true) (p' : pln e = true) (u : A.units + min d.depth e.depth < cLine) : RcAt A s a b (PyData.eqv d e) ∧ RcNeAt A s a b (!PyData.eqv d e) := by
  cases r with
  | none =>
    cases q with
    | none => refine ⟨RcAt.none_none, RcNeAt.none_none⟩
    | bool z => refine ⟨RcAt.none_bool z, RcNeAt.none_bool z⟩
    | int z zt => refine ⟨RcAt.none_int z zt, RcNeAt.none_int z zt⟩
    | str z zt => refine ⟨RcAt.none_str z zt, RcNeAt.none_str z zt⟩
    | list b1 b2 b3 b4 => refine ⟨RcAt.none_list ⟨_, b1, b2, _, b3⟩ (room_here u), RcNeAt.none_list ⟨_, b1, b2, _, b3⟩ (room_here u)⟩
    | tuple b1 b2 b3 b4 => refine ⟨RcAt.none_tuple ⟨_, b1, b2, _, b3⟩ (room_here u), RcNeAt.none_tuple ⟨_, b1, b2, _, b3⟩ (room_here u)⟩
    | dict => simp [pln] at p'
  | bool k =>
    cases q with
    | none => refine ⟨RcAt.bool_none k, RcNeAt.bool_none k⟩
    | bool z => refine ⟨RcAt.bool_bool k z, RcNeAt.bool_bool k z⟩
    | int z zt => refine ⟨RcAt.bool_int k z zt, RcNeAt.bool_int k z zt⟩
    | str z zt => refine ⟨RcAt.bool_str k z zt, RcNeAt.bool_str k z zt⟩
    | list b1 b2 b3 b4 => refine ⟨RcAt.bool_list k ⟨_, b1, b2, _, b3⟩ (room_here u), RcNeAt.bool_list k ⟨_, b1, b2, _, b3⟩ (room_here u)⟩
    | tuple b1 b2 b3 b4 => refine ⟨RcAt.bool_tuple k ⟨_, b1, b2, _, b3⟩ (room_here u), RcNeAt.bool_tuple k ⟨_, b1, b2, _, b3⟩ (room_here u)⟩
    | dict => simp [pln] at p'
  | int k kt =>
    cases q with
    | none => refine ⟨RcAt.int_none k kt, RcNeAt.int_none k kt⟩
    | bool z => refine ⟨RcAt.int_bool k kt z, RcNeAt.int_bool k kt z⟩
    | int z zt => refine ⟨RcAt.int_int k kt z zt, RcNeAt.int_int k kt z zt⟩
    | str z zt => refine ⟨RcAt.int_str k kt z zt, RcNeAt.int_str k kt z zt⟩
    | list b1 b2 b3 b4 => refine ⟨RcAt.int_list k kt ⟨_, b1, b2, _, b3⟩ (room_here u), RcNeAt.int_list k kt ⟨_, b1, b2, _, b3⟩ (room_here u)⟩
    | tuple b1 b2 b3 b4 => refine ⟨RcAt.int_tuple k kt ⟨_, b1, b2, _, b3⟩ (room_here u), RcNeAt.int_tuple k kt ⟨_, b1, b2, _, b3⟩ (room_here u)⟩
    | dict => simp [pln] at p'
  | str k kt =>
    cases q with
    | none => refine ⟨RcAt.str_none k kt, RcNeAt.str_none k kt⟩
    | bool z => refine ⟨RcAt.str_bool k kt z, RcNeAt.str_bool k kt z⟩
    | int z zt => refine ⟨RcAt.str_int k kt z zt, RcNeAt.str_int k kt z zt⟩
    | str z zt => refine ⟨RcAt.str_str k kt z zt, RcNeAt.str_str k kt z zt⟩
    | list b1 b2 b3 b4 => refine ⟨RcAt.str_list k kt ⟨_, b1, b2, _, b3⟩ (room_here u), RcNeAt.str_list k kt ⟨_, b1, b2, _, b3⟩ (room_here u)⟩
    | tuple b1 b2 b3 b4 => refine ⟨RcAt.str_tuple k kt ⟨_, b1, b2, _, b3⟩ (room_here u), RcNeAt.str_tuple k kt ⟨_, b1, b2, _, b3⟩ (room_here u)⟩
    | dict => simp [pln] at p'
  | @list l1 _ vs _ xs _ a1 a2 a3 a4 =>
    have hl : s.heap.IsList _ _ := ⟨_, a1, a2, _, a3⟩
    cases q with
    | @list l2 _ ws _ ys _ b1 b2 b3 b4 =>
      have hl' : s.heap.IsList _ _ := ⟨_, b1, b2, _, b3⟩
      have n1 := ReadsAll.length _ _ _ a4
      have n2 := ReadsAll.length _ _ _ b4
      simp only [Array.length_toList] at n1 n2
      show RcAt A s _ _ (PyData.eqvAll xs ys) ∧ RcNeAt A s _ _ (!PyData.eqvAll xs ys)
      by_cases y : xs.length = ys.length
      · rw [← eqvAll_same_length y, ← n1]
        have go : ∀ j (j1 : j < vs.size) (j2 : j < ws.size), EqAt A.in1 s vs[j] ws[j] (pairEq xs ys j) := fun j j1 j2 => by
          have := eqps xs ys A.in1 s _ _ _ _ a4 b4 (by simpa [pln] using p) (by simpa [pln] using p') (room_in u) j (by simpa using j1) (by simpa using j2)
          simpa using this
        exact ⟨RcAt.lists hl hl' (by omega) (room_here u) go, RcNeAt.lists hl hl' (by omega) (room_here u) go⟩
      · rw [eqvAll_other_length y]
        exact ⟨RcAt.lists_lengths hl hl' (by simp; omega) (room_here u), RcNeAt.lists_lengths hl hl' (by simp; omega) (room_here u)⟩
    | none => exact ⟨RcAt.list_none hl (room_here u), RcNeAt.list_none hl (room_here u)⟩
    | bool _ => exact ⟨RcAt.list_bool _ hl (room_here u), RcNeAt.list_bool _ hl (room_here u)⟩
    | int _ _ => exact ⟨RcAt.list_int _ _ hl (room_here u), RcNeAt.list_int _ _ hl (room_here u)⟩
    | str _ _ => exact ⟨RcAt.list_str _ _ hl (room_here u), RcNeAt.list_str _ _ hl (room_here u)⟩
    | tuple b1 b2 b3 b4 => exact ⟨RcAt.list_tuple hl ⟨_, b1, b2, _, b3⟩ (room_here u), RcNeAt.list_tuple hl ⟨_, b1, b2, _, b3⟩ (room_here u)⟩
    | dict => simp [pln] at p'
  | @tuple l1 _ vs _ xs _ a1 a2 a3 a4 =>
    have hl : s.heap.IsTuple _ _ := ⟨_, a1, a2, _, a3⟩
    cases q with
    | @tuple l2 _ ws _ ys _ b1 b2 b3 b4 =>
      have hl' : s.heap.IsTuple _ _ := ⟨_, b1, b2, _, b3⟩
      have n1 := ReadsAll.length _ _ _ a4
      have n2 := ReadsAll.length _ _ _ b4
      simp only [Array.length_toList] at n1 n2
      show RcAt A s _ _ (PyData.eqvAll xs ys) ∧ RcNeAt A s _ _ (!PyData.eqvAll xs ys)
      rw [← eqvAll_eq xs ys, ← n1, ← n2]
      have go : ∀ j (j1 : j < vs.size) (j2 : j < ws.size), EqAt A.in1 s vs[j] ws[j] (pairEq xs ys j) := fun j j1 j2 => by
        have := eqps xs ys A.in1 s _ _ _ _ a4 b4 (by simpa [pln] using p) (by simpa [pln] using p') (room_in u) j (by simpa using j1) (by simpa using j2)
        simpa using this
      exact ⟨RcAt.tuples hl hl' (room_here u) go, RcNeAt.tuples hl hl' (room_here u) go⟩
    | none => exact ⟨RcAt.tuple_none hl (room_here u), RcNeAt.tuple_none hl (room_here u)⟩
    | bool _ => exact ⟨RcAt.tuple_bool _ hl (room_here u), RcNeAt.tuple_bool _ hl (room_here u)⟩
    | int _ _ => exact ⟨RcAt.tuple_int _ _ hl (room_here u), RcNeAt.tuple_int _ _ hl (room_here u)⟩
    | str _ _ => exact ⟨RcAt.tuple_str _ _ hl (room_here u), RcNeAt.tuple_str _ _ hl (room_here u)⟩
    | list b1 b2 b3 b4 => exact ⟨RcAt.tuple_list hl ⟨_, b1, b2, _, b3⟩ (room_here u), RcNeAt.tuple_list hl ⟨_, b1, b2, _, b3⟩ (room_here u)⟩
    | dict => simp [pln] at p'
  | dict => simp [pln] at p
end
end AI

set_option Elab.async false
set_option linter.all false
set_option maxRecDepth 100000
set_option maxHeartbeats 4000000
/-! AiOps: the operations by values. -/
namespace AI
open PySem L2 SeqAt
section
variable {K : PySem.W.Frag} {mg : Str → Option Value} {μ μ' μ'' : List Addr} {H H' H'' : Hp} {h h' h'' : Boxes}

/-- what is wanted behind: wherever the plain run ends, so does the other -/
def Out (K : PySem.W.Frag) (mg : Str → Option Value) (μ : List Addr) (H : Hp) (res : Res RV) (Q : VK) : Prop := match res with
  | .ok r h' => ∀ v μ' H', RH K μ' h' H' → Ext μ H μ' H' → VR K mg μ' H' v r → Q v H'
  | _ => False
/-- the same, without a value -/
def OutA {α : Type} (K : PySem.W.Frag) (μ : List Addr) (H : Hp) (res : Res α) (P : α → List Addr → Boxes → Hp → Prop) : Prop := match res with
  | .ok a h' => ∀ μ' H', RH K μ' h' H' → Ext μ H μ' H' → P a μ' h' H'
  | _ => False

/-- a value as data: it is, or it is a list's place -/
def VW (K : PySem.W.Frag) (μ : List Addr) (H : Hp) (v : V) (d : D) : Prop :=
  VD K μ H v d ∨ ∃ a vs ds, v = .ref a ∧ d = .list ds ∧ SqL K H a vs ∧ vs.length ≤ sizeLine ∧ VDs K μ H vs ds ∧ ((∃ o, H a = some o) ∨ KL K a vs)
theorem VW.int {v : V} {i : Int} (x : VW K μ H v (.int i)) : v = .int i := by
  rcases x with x | ⟨_, _, _, _, e, _⟩
  · cases x; rfl
  · cases e
theorem VW.str {v : V} {i : Str} (x : VW K μ H v (.str i)) : v = .str i := by
  rcases x with x | ⟨_, _, _, _, e, _⟩
  · cases x; rfl
  · cases e
theorem VW.bl {v : V} {i : Bool} (x : VW K μ H v (.bool i)) : v = .bl i := by
  rcases x with x | ⟨_, _, _, _, e, _⟩
  · cases x; rfl
  · cases e
theorem VW.non {v : V} (x : VW K μ H v .none) : v = .non := by
  rcases x with x | ⟨_, _, _, _, e, _⟩
  · cases x; rfl
  · cases e
theorem VW.list {v : V} {ds : List D} (x : VW K μ H v (.list ds)) : ∃ a vs, v = .ref a ∧ SqL K H a vs ∧ VDs K μ H vs ds ∧ vs.length ≤ sizeLine := by
  rcases x with x | ⟨a, vs, ds', rfl, e, q, z, r, _⟩
  · cases x with
    | lst q n z r => exact ⟨_, _, rfl, .of q, r, z⟩
  · cases e; exact ⟨a, vs, rfl, q, r, z⟩
theorem VD.sqT {v : V} {ds : List D} (x : VD K μ H v (.tuple ds)) : ∃ a vs, v = .ref a ∧ SqT K H a vs ∧ VDs K μ H vs ds ∧ vs.length ≤ sizeLine := by
  cases x with
  | tup q n z r => exact ⟨_, _, rfl, q.sq, r, z⟩
  | tupK q r =>
    obtain ⟨o, its, n, q1, q2, q3, q4, hz, rv⟩ := q
    refine ⟨_, _, rfl, .inr ⟨o, its, n, q1, q2, q4, hz, rv⟩, r, ?_⟩
    have := rv.length
    simp at this; omega
theorem VW.tuple {v : V} {ds : List D} (x : VW K μ H v (.tuple ds)) : ∃ a vs, v = .ref a ∧ SqT K H a vs ∧ VDs K μ H vs ds ∧ vs.length ≤ sizeLine := by
  rcases x with x | ⟨_, _, _, _, e, _⟩
  · exact x.sqT
  · cases e
theorem VW.dict {v : V} {kvs : List (D × D)} (x : VW K μ H v (.dict kvs)) : False := by
  rcases x with x | ⟨_, _, _, _, e, _⟩
  · cases x
  · cases e
/-- what dat tells -/
theorem dat_ok {r : RV} {v : V} {d : D} (R : RH K μ h H) (x : VR K mg μ H v r) (e : dat r h = .ok d h') : h' = h ∧ VW K μ H v d := by
  cases r with
  | pd d0 =>
    cases x with
    | pd q => cases e; exact ⟨rfl, .inl q⟩
  | fz ds =>
    cases x with
    | fz q f z r =>
      cases e
      exact ⟨rfl, .inr ⟨_, _, _, rfl, rfl, q, z, r, f.imp (fun f => ⟨_, f.1.choose_spec⟩) id⟩⟩
  | rf n =>
    cases x with
    | rf q =>
      simp only [dat] at e
      cases hb : h[n]? with
      | none => rw [hb] at e; cases e
      | some b =>
        rw [hb] at e
        cases b with
        | gone => cases e
        | lst ds =>
          cases e
          obtain ⟨vs, q1, q2, q3⟩ := R.box n _ _ q hb
          exact ⟨rfl, .inr ⟨_, _, _, rfl, rfl, .of q1, q3, q2, .inl ⟨_, q1⟩⟩⟩
  | tp _ => cases e
  | gl _ => cases e

/-! ### data as the layer's own data -/
mutual
theorem VD.dp : ∀ (d : D) (v : V), VD K μ H v d → Dp K H v d ∧ pln d = true
  | .none, _, x => by cases x; exact ⟨.non, rfl⟩
  | .bool b, _, x => by cases x; exact ⟨.bl b, rfl⟩
  | .int i, _, x => by cases x; exact ⟨.int i, rfl⟩
  | .str y, _, x => by cases x; exact ⟨.str y, rfl⟩
  | .list ds, _, x => by
    cases x with
    | lst q n z r => obtain ⟨a, b⟩ := VDs.dp ds _ r; exact ⟨.lst (.of q) a, by simpa [pln] using b⟩
  | .tuple ds, _, x => by
    obtain ⟨a, vs, rfl, q, r, _⟩ := x.sqT
    obtain ⟨p, b⟩ := VDs.dp ds _ r
    exact ⟨.tup q p, by simpa [pln] using b⟩
  | .dict _, _, x => by cases x
theorem VDs.dp : ∀ (ds : List D) (vs : List V), VDs K μ H vs ds → DpAll K H vs ds ∧ plns ds = true
  | [], _, x => by cases x; exact ⟨.nil, rfl⟩
  | d :: ds, _, x => by
    cases x with
    | cons a b =>
      obtain ⟨p, q⟩ := VD.dp d _ a
      obtain ⟨p', q'⟩ := VDs.dp ds _ b
      exact ⟨.cons p p', by simp [plns, q, q']⟩
end
theorem VW.dp {v : V} {d : D} (x : VW K μ H v d) : Dp K H v d ∧ pln d = true := by
  rcases x with x | ⟨a, vs, ds, rfl, rfl, q, z, r, _⟩
  · exact VD.dp _ _ x
  · obtain ⟨p, b⟩ := VDs.dp ds _ r
    exact ⟨.lst q p, by simpa [pln] using b⟩
end

section
variable {X : Cx}
/-! ### ==, in -/
def rEqP (K : PySem.W.Frag) (neg : Bool) : R2 := fun x y H Q => ∃ d e, Dp K H x d ∧ Dp K H y e ∧ pln d = true ∧ pln e = true ∧ min d.depth e.depth ≤ 64 ∧ Q (.bl (if neg then !PyData.eqv d e else PyData.eqv d e)) H
theorem op_eqP (hu : X.A.units + 65 < cLine) : OpR X (compareOp .Eq) (rEqP X.K false) := by
  intro pins s σ H x y v u Q I rx ry ⟨d, e, hd, he, pd, pe, hm, q⟩
  obtain ⟨as, r1⟩ := Dp.reads I d x v hd rx
  obtain ⟨bs, r2⟩ := Dp.reads I e y u he ry
  exact (rcp d e r1 r2 pd pe (by omega)).1 X.prog X.w X.xe _ ⟨.bl _, H, I, rfl, q⟩
theorem op_neP (hu : X.A.units + 65 < cLine) : OpR X (compareOp .NotEq) (rEqP X.K true) := by
  intro pins s σ H x y v u Q I rx ry ⟨d, e, hd, he, pd, pe, hm, q⟩
  obtain ⟨as, r1⟩ := Dp.reads I d x v hd rx
  obtain ⟨bs, r2⟩ := Dp.reads I e y u he ry
  exact (rcp d e r1 r2 pd pe (by omega)).2 X.prog X.w X.xe _ ⟨.bl _, H, I, rfl, q⟩
noncomputable def isD (s : Shared) (d : D) (u : Value) : Bool := @decide (∃ z as, Reads s.heap u z as ∧ pln z = true ∧ PyData.eqv z d = true) (Classical.propDecidable _)
theorem isD_of {s : Shared} {d z : D} {u : Value} {as : List Addr} (r : Reads s.heap u z as) (p : pln z = true) : isD s d u = PyData.eqv z d := by
  unfold isD
  cases e : PyData.eqv z d with
  | true => exact @decide_eq_true _ (Classical.propDecidable _) ⟨z, as, r, p, e⟩
  | false =>
    refine @decide_eq_false _ (Classical.propDecidable _) fun ⟨z', bs, r', p', e'⟩ => ?_
    rw [one_of z z' u as bs p r r', e'] at e; cases e
theorem any_isD {s : Shared} {d : D} : ∀ {ds : List D} {us : List Value} {as : List Addr}, ReadsAll s.heap us ds as → plns ds = true → us.any (isD s d) = ds.any fun z => PyData.eqv z d
  | [], _, _, r, _ => by cases r; rfl
  | z :: ds, _, _, r, p => by
    simp only [plns, Bool.and_eq_true] at p
    cases r with
    | cons r1 r2 => rw [List.any_cons, List.any_cons, isD_of r1 p.1, any_isD r2 p.2]
theorem eqAt_isD {A : Around} {s : Shared} {d : D} {v : Value} {bs : List Addr} (rv : Reads s.heap v d bs) (pd : pln d = true) (hu : A.units + d.depth < cLine) : ∀ {ds : List D} {us : List Value} {as : List Addr}, ReadsAll s.heap us ds as → plns ds = true → ∀ u ∈ us, EqAt A s u v (isD s d u)
  | [], _, _, r, _ => by cases r; intro u hu; cases hu
  | z :: ds, _, _, r, p => by
    simp only [plns, Bool.and_eq_true] at p
    cases r with
    | cons r1 r2 =>
      intro u hm
      rcases List.mem_cons.mp hm with rfl | hm
      · rw [isD_of r1 p.1]
        exact eqp z d A s _ _ _ _ r1 rv p.1 pd (by have : min z.depth d.depth ≤ d.depth := Nat.min_le_right _ _; omega)
      · exact eqAt_isD rv pd hu r2 p.2 u hm
def rInP (K : PySem.W.Frag) (neg : Bool) : R2 := fun x y H Q => ∃ d ds a vs, Dp K H x d ∧ y = .ref a ∧ (SqL K H a vs ∨ SqT K H a vs) ∧ DpAll K H vs ds ∧ pln d = true ∧ plns ds = true ∧ d.depth ≤ 64 ∧
  Q (.bl (if neg then !(ds.any fun z => PyData.eqv z d) else ds.any fun z => PyData.eqv z d)) H
theorem op_inP (hu : X.A.units + 70 < cLine) : OpR X (compareOp .In) (rInP X.K false) := by
  intro pins s σ H x y v u Q I rx ry ⟨d, ds, a, vs, hd, ey, hq, ha, pd, pe, hm, q⟩
  subst ey
  cases ry
  obtain ⟨bs, rv⟩ := Dp.reads I d x v hd rx
  have un : X.A.in1.units + d.depth < cLine := by show X.A.units + 1 + d.depth < cLine; omega
  rcases hq with hq | hq
  · obtain ⟨its, rr, pl, hz⟩ := I.list hq
    obtain ⟨as, ra⟩ := Dp.readsAll I ds vs its ha rr
    refine in_listAt (isD s d) pl.isList (fun w hw => eqAt_isD rv pd un ra pe w (by simpa using hw)) ⟨.bl _, H, I, rfl, ?_⟩
    rw [show its.toArray.any (isD s d) = its.any (isD s d) by simp, any_isD ra pe]
    exact q
  · obtain ⟨its, rr, pl, hz⟩ := I.tuple hq
    obtain ⟨as, ra⟩ := Dp.readsAll I ds vs its ha rr
    refine in_tupleAt (isD s d) (show s.heap.IsTuple a its.toArray from pl) (fun w hw => eqAt_isD rv pd un ra pe w (by simpa using hw)) ⟨.bl _, H, I, rfl, ?_⟩
    rw [show its.toArray.any (isD s d) = its.any (isD s d) by simp, any_isD ra pe]
    exact q
theorem op_ninP (hu : X.A.units + 70 < cLine) : OpR X (compareOp .NotIn) (rInP X.K true) := by
  intro pins s σ H x y v u Q I rx ry ⟨d, ds, a, vs, hd, ey, hq, ha, pd, pe, hm, q⟩
  subst ey
  cases ry
  obtain ⟨bs, rv⟩ := Dp.reads I d x v hd rx
  have un : X.A.in1.units + d.depth < cLine := by show X.A.units + 1 + d.depth < cLine; omega
  rcases hq with hq | hq
  · obtain ⟨its, rr, pl, hz⟩ := I.list hq
    obtain ⟨as, ra⟩ := Dp.readsAll I ds vs its ha rr
    refine notIn_listAt (isD s d) pl.isList (fun w hw => eqAt_isD rv pd un ra pe w (by simpa using hw)) ⟨.bl _, H, I, rfl, ?_⟩
    rw [show its.toArray.any (isD s d) = its.any (isD s d) by simp, any_isD ra pe]
    exact q
  · obtain ⟨its, rr, pl, hz⟩ := I.tuple hq
    obtain ⟨as, ra⟩ := Dp.readsAll I ds vs its ha rr
    refine notIn_tupleAt (isD s d) (show s.heap.IsTuple a its.toArray from pl) (fun w hw => eqAt_isD rv pd un ra pe w (by simpa using hw)) ⟨.bl _, H, I, rfl, ?_⟩
    rw [show its.toArray.any (isD s d) = its.any (isD s d) by simp, any_isD ra pe]
    exact q
end
end AI

set_option Elab.async false
set_option linter.all false
set_option maxRecDepth 100000
set_option maxHeartbeats 4000000
/-! AiLt: the order of tuples: the first place that differs decides, what stands behind it is not asked. -/
namespace AI
open PySem PySem.Spec PyProof.Rows L2 SeqAt
open PySem.AutoSeq1 (wpAny_loadPart')
open PySem.MeetsSeq PySem.MeetsSeq2 PySem.MeetsSeq3

/-- behind place i, all places ahead of it alike -/
theorem tupltAt (p q : Addr) (xs ys : Array Value) (m m2 : Nat) (d1 d2 : Option Addr) (w1 w2 : Array (Option Value)) (e r : Nat → Bool) : Meets (Builtin.«tuple.__lt__» ⟨[.ref p, .ref q], []⟩) (fun A R s =>
    s.heap.get? p = some { cls := .type "tuple", dict := d1, data := .seq xs m, slots := w1 } ∧ s.heap.get? q = some { cls := .type "tuple", dict := d2, data := .seq ys m2, slots := w2 } ∧
    (∀ j (j1 : j < xs.size) (j2 : j < ys.size), EqAt A.in1 s xs[j] ys[j] (e j)) ∧ (∀ j (j1 : j < xs.size) (j2 : j < ys.size), (∀ i, i < j → e i = true) → e j = false → Ob.RcOp .Lt A.in1 s xs[j] ys[j] (r j)) ∧
    R (.ok (.ret (.bool (Ob.lexAt e r (decide (xs.size < ys.size)) 0 (min xs.size ys.size))))) s) := .of_wp fun prog w A R s z => by
  obtain ⟨hp, gs, ds, ts, os⟩ := s
  obtain ⟨z1, z2, z3, z4, z5⟩ := z
  have sub := AutoSeq1.sub_tuple_tuple
  have len : (xs.toList.zip ys.toList).length = min xs.size ys.size := by simp
  wp_walk using wpAny_loadPart' z1, wpAny_loadPart' z2, wpAny_forIn_list _ (fun rest b s' => b.1 = none ∧ s' = ⟨hp, gs, ds, ts, os⟩ ∧ ∃ i, rest = (xs.toList.zip ys.toList).drop i ∧ (∀ k, k < i → k < min xs.size ys.size → e k = true) ∧ R (.ok (.ret (.bool (Ob.lexAt e r (decide (xs.size < ys.size)) i (min xs.size ys.size - i))))) ⟨hp, gs, ds, ts, os⟩) _
  case turn =>
    rintro ⟨u, v⟩ rest b s' ⟨f1, rfl, i, f2, al, f3⟩
    have lt : i < (xs.toList.zip ys.toList).length := by
      by_cases c : i < (xs.toList.zip ys.toList).length
      · exact c
      · rw [List.drop_of_length_le (Nat.le_of_not_lt c)] at f2
        cases f2
    have lm : i < min xs.size ys.size := by rw [← len]; exact lt
    have l1 : i < xs.size := by omega
    have l2 : i < ys.size := by omega
    rw [List.drop_eq_getElem_cons lt] at f2
    injection f2 with f4 f5
    have e1 : u = xs[i] := by simpa using congrArg Prod.fst f4
    have e2 : v = ys[i] := by simpa using congrArg Prod.snd f4
    subst e1 e2
    have st : min xs.size ys.size - i = (min xs.size ys.size - (i + 1)) + 1 := by omega
    rw [st, Ob.lexAt_succ] at f3
    refine wpAny_bind (z3 i l1 l2 prog w _ _ ?_)
    by_cases c : e i = true
    · rw [if_pos c] at f3
      rw [c]
      wp_walk
      exact ⟨rfl, rfl, i + 1, f5, fun k k1 k2 => (Nat.lt_succ_iff_lt_or_eq.mp k1).elim (fun k3 => al k k3 k2) (fun k3 => k3 ▸ c), f3⟩
    · have c' : e i = false := by simpa using c
      rw [if_neg c] at f3
      rw [c']
      have go := z4 i l1 l2 (fun k k1 => al k k1 (by omega)) c' prog w
      wp_walk using go
      exact ⟨_, rfl, by simpa using f3⟩
  case fin =>
    rintro ⟨b1, b2⟩ s' ⟨f1, rfl, i, f2, al, f3⟩
    simp only at f1
    subst f1
    have ge : min xs.size ys.size ≤ i := by
      by_cases c : i < (xs.toList.zip ys.toList).length
      · rw [List.drop_eq_getElem_cons c] at f2
        cases f2
      · rw [← len]; exact Nat.le_of_not_lt c
    rw [Nat.sub_eq_zero_of_le ge, Ob.lexAt_zero] at f3
    wp_walk
    exact ⟨_, rfl, by simpa [Builtin.Tuple.tupleCompareSizes] using f3⟩
  case h => exact ⟨rfl, rfl, 0, rfl, fun k k1 => absurd k1 (Nat.not_lt_zero k), by simpa using z5⟩
theorem tuplt {A : Around} {s : Shared} {p q : Addr} {xs ys : Array Value} {e r : Nat → Bool} (h1 : s.heap.IsTuple p xs) (h2 : s.heap.IsTuple q ys) (u : A.units < cLine) (he : ∀ j (j1 : j < xs.size) (j2 : j < ys.size), EqAt A.in1 s xs[j] ys[j] (e j))
    (hr : ∀ j (j1 : j < xs.size) (j2 : j < ys.size), (∀ i, i < j → e i = true) → e j = false → Ob.RcOp .Lt A.in1 s xs[j] ys[j] (r j)) : Ob.RcOp .Lt A s (.ref p) (.ref q) (Ob.lexAt e r (decide (xs.size < ys.size)) 0 (min xs.size ys.size)) := fun prog w E Q z => by
  obtain ⟨⟨c1, d1, o1, s1⟩, a1, a2, m1, a3⟩ := id h1
  obtain ⟨⟨c2, d2, o2, s2⟩, b1, b2, m2, b3⟩ := id h2
  simp only at a2 a3 b2 b3
  subst a2 a3 b2 b3
  exact richCompare_meets_room (op := .Lt) ⟨_, a1, rfl⟩ ⟨_, b1, rfl⟩ F.slot_tuple_lt F.entry_tuple_lt (F.args_tuple_lt_2 _ _) (tupltAt p q xs ys m1 m2 d1 d2 s1 s2 e r) ⟨a1, b1, he, hr, ⟨(fun x => nomatch x), z⟩⟩ u


/-- behind place i, all places ahead of it alike -/
theorem tupgtAt (p q : Addr) (xs ys : Array Value) (m m2 : Nat) (d1 d2 : Option Addr) (w1 w2 : Array (Option Value)) (e r : Nat → Bool) : Meets (Builtin.«tuple.__gt__» ⟨[.ref p, .ref q], []⟩) (fun A R s =>
    s.heap.get? p = some { cls := .type "tuple", dict := d1, data := .seq xs m, slots := w1 } ∧ s.heap.get? q = some { cls := .type "tuple", dict := d2, data := .seq ys m2, slots := w2 } ∧
    (∀ j (j1 : j < xs.size) (j2 : j < ys.size), EqAt A.in1 s xs[j] ys[j] (e j)) ∧ (∀ j (j1 : j < xs.size) (j2 : j < ys.size), (∀ i, i < j → e i = true) → e j = false → Ob.RcOp .Gt A.in1 s xs[j] ys[j] (r j)) ∧
    R (.ok (.ret (.bool (Ob.lexAt e r (decide (xs.size > ys.size)) 0 (min xs.size ys.size))))) s) := .of_wp fun prog w A R s z => by
  obtain ⟨hp, gs, ds, ts, os⟩ := s
  obtain ⟨z1, z2, z3, z4, z5⟩ := z
  have sub := AutoSeq1.sub_tuple_tuple
  have len : (xs.toList.zip ys.toList).length = min xs.size ys.size := by simp
  wp_walk using wpAny_loadPart' z1, wpAny_loadPart' z2, wpAny_forIn_list _ (fun rest b s' => b.1 = none ∧ s' = ⟨hp, gs, ds, ts, os⟩ ∧ ∃ i, rest = (xs.toList.zip ys.toList).drop i ∧ (∀ k, k < i → k < min xs.size ys.size → e k = true) ∧ R (.ok (.ret (.bool (Ob.lexAt e r (decide (xs.size > ys.size)) i (min xs.size ys.size - i))))) ⟨hp, gs, ds, ts, os⟩) _
  case turn =>
    rintro ⟨u, v⟩ rest b s' ⟨f1, rfl, i, f2, al, f3⟩
    have lt : i < (xs.toList.zip ys.toList).length := by
      by_cases c : i < (xs.toList.zip ys.toList).length
      · exact c
      · rw [List.drop_of_length_le (Nat.le_of_not_lt c)] at f2
        cases f2
    have lm : i < min xs.size ys.size := by rw [← len]; exact lt
    have l1 : i < xs.size := by omega
    have l2 : i < ys.size := by omega
    rw [List.drop_eq_getElem_cons lt] at f2
    injection f2 with f4 f5
    have e1 : u = xs[i] := by simpa using congrArg Prod.fst f4
    have e2 : v = ys[i] := by simpa using congrArg Prod.snd f4
    subst e1 e2
    have st : min xs.size ys.size - i = (min xs.size ys.size - (i + 1)) + 1 := by omega
    rw [st, Ob.lexAt_succ] at f3
    refine wpAny_bind (z3 i l1 l2 prog w _ _ ?_)
    by_cases c : e i = true
    · rw [if_pos c] at f3
      rw [c]
      wp_walk
      exact ⟨rfl, rfl, i + 1, f5, fun k k1 k2 => (Nat.lt_succ_iff_lt_or_eq.mp k1).elim (fun k3 => al k k3 k2) (fun k3 => k3 ▸ c), f3⟩
    · have c' : e i = false := by simpa using c
      rw [if_neg c] at f3
      rw [c']
      have go := z4 i l1 l2 (fun k k1 => al k k1 (by omega)) c' prog w
      wp_walk using go
      exact ⟨_, rfl, by simpa using f3⟩
  case fin =>
    rintro ⟨b1, b2⟩ s' ⟨f1, rfl, i, f2, al, f3⟩
    simp only at f1
    subst f1
    have ge : min xs.size ys.size ≤ i := by
      by_cases c : i < (xs.toList.zip ys.toList).length
      · rw [List.drop_eq_getElem_cons c] at f2
        cases f2
      · rw [← len]; exact Nat.le_of_not_lt c
    rw [Nat.sub_eq_zero_of_le ge, Ob.lexAt_zero] at f3
    wp_walk
    exact ⟨_, rfl, by simpa [Builtin.Tuple.tupleCompareSizes] using f3⟩
  case h => exact ⟨rfl, rfl, 0, rfl, fun k k1 => absurd k1 (Nat.not_lt_zero k), by simpa using z5⟩
theorem tupgt {A : Around} {s : Shared} {p q : Addr} {xs ys : Array Value} {e r : Nat → Bool} (h1 : s.heap.IsTuple p xs) (h2 : s.heap.IsTuple q ys) (u : A.units < cLine) (he : ∀ j (j1 : j < xs.size) (j2 : j < ys.size), EqAt A.in1 s xs[j] ys[j] (e j))
    (hr : ∀ j (j1 : j < xs.size) (j2 : j < ys.size), (∀ i, i < j → e i = true) → e j = false → Ob.RcOp .Gt A.in1 s xs[j] ys[j] (r j)) : Ob.RcOp .Gt A s (.ref p) (.ref q) (Ob.lexAt e r (decide (xs.size > ys.size)) 0 (min xs.size ys.size)) := fun prog w E Q z => by
  obtain ⟨⟨c1, d1, o1, s1⟩, a1, a2, m1, a3⟩ := id h1
  obtain ⟨⟨c2, d2, o2, s2⟩, b1, b2, m2, b3⟩ := id h2
  simp only at a2 a3 b2 b3
  subst a2 a3 b2 b3
  exact richCompare_meets_room (op := .Gt) ⟨_, a1, rfl⟩ ⟨_, b1, rfl⟩ F.slot_tuple_gt F.entry_tuple_gt (F.args_tuple_gt_2 _ _) (tupgtAt p q xs ys m1 m2 d1 d2 s1 s2 e r) ⟨a1, b1, he, hr, ⟨(fun x => nomatch x), z⟩⟩ u



theorem lexAt_sh {e r : Nat → Bool} {z : Bool} : ∀ (n i : Nat), Ob.lexAt e r z (i + 1) n = Ob.lexAt (fun j => e (j + 1)) (fun j => r (j + 1)) z i n
  | 0, i => rfl
  | n + 1, i => by rw [Ob.lexAt_succ, Ob.lexAt_succ, lexAt_sh n (i + 1)]
theorem lexAt_cong {e e' r r' : Nat → Bool} {z : Bool} : ∀ (n i : Nat), (∀ j, i ≤ j → j < i + n → e j = e' j ∧ r j = r' j) → Ob.lexAt e r z i n = Ob.lexAt e' r' z i n
  | 0, i, _ => rfl
  | n + 1, i, h => by
    obtain ⟨h1, h2⟩ := h i (Nat.le_refl _) (by omega)
    rw [Ob.lexAt_succ, Ob.lexAt_succ, h1, h2, lexAt_cong n (i + 1) fun j a b => h j (by omega) (by omega)]


mutual
theorem ltp : ∀ (d e : D) (k : Bool) (A : Around) (s : Shared) (a b : Value) (as bs : List Addr), ltD d e = some k → Reads s.heap a d as → Reads s.heap b e bs → pln d = true → pln e = true → A.units + min d.depth e.depth < cLine → Ob.RcOp .Lt A s a b k
  | .int i, e, k, A, s, a, b, as, bs, h, r, q, _, _, u => by
    cases e with
    | int j =>
      rcases r with _ | _ | ⟨_, kt⟩
      rcases q with _ | _ | ⟨_, kt2⟩
      cases h
      exact fun _ _ _ _ z => PyProof.Rows.lt_int z
    | _ => cases h
  | .str i, e, k, A, s, a, b, as, bs, h, r, q, _, _, u => by
    cases e with
    | str j =>
      rcases r with _ | _ | _ | ⟨_, kt⟩
      rcases q with _ | _ | _ | ⟨_, kt2⟩
      cases h
      exact fun _ _ _ _ z => PySem.P.lt_str z
    | _ => cases h
  | .tuple xs, e, k, A, s, a, b, as, bs, h, r, q, p, p', u => by
    cases e with
    | tuple ys =>
      obtain ⟨l1, o1, w1, n1, c1, rfl, a1, a2, a3, a4⟩ := rt r
      obtain ⟨l2, o2, w2, n2, c2, rfl, b1, b2, b3, b4⟩ := rt q
      have u' := room_in u
      obtain ⟨f, hf, hk⟩ := ltps xs ys k A.in1 s _ _ _ _ (show ltDs xs ys = some k from h) a4 b4 (by simpa [pln] using p) (by simpa [pln] using p') u'
      have := tuplt (e := pairEq xs ys) (r := f) ⟨_, a1, a2, _, a3⟩ ⟨_, b1, b2, _, b3⟩ (room_here u) (fun j j1 j2 => by
        have := eqps xs ys A.in1 s _ _ _ _ a4 b4 (by simpa [pln] using p) (by simpa [pln] using p') u' j (by simpa using j1) (by simpa using j2)
        simpa using this) (fun j j1 j2 m1 m2 => by
        have := hf j (by simpa using j1) (by simpa using j2) m1 m2
        simpa using this)
      simp only [Array.length_toList] at hk
      rw [hk] at this
      exact this
    | _ => cases h
  | .none, e, _, _, _, _, _, _, _, h, _, _, _, _, _ | .bool _, e, _, _, _, _, _, _, _, h, _, _, _, _, _ | .list _, e, _, _, _, _, _, _, _, h, _, _, _, _, _ | .dict _, e, _, _, _, _, _, _, _, h, _, _, _, _, _ => by cases e <;> cases h
theorem ltps : ∀ (xs ys : List D) (k : Bool) (A : Around) (s : Shared) (vs ws : List Value) (as bs : List Addr), ltDs xs ys = some k → ReadsAll s.heap vs xs as → ReadsAll s.heap ws ys bs → plns xs = true → plns ys = true → A.units + min (PyData.depthAll xs) (PyData.depthAll ys) < cLine →
    ∃ r : Nat → Bool, (∀ j (j1 : j < vs.length) (j2 : j < ws.length), (∀ i, i < j → pairEq xs ys i = true) → pairEq xs ys j = false → Ob.RcOp .Lt A s vs[j] ws[j] (r j)) ∧ Ob.lexAt (pairEq xs ys) r (decide (vs.length < ws.length)) 0 (min vs.length ws.length) = k
  | [], ys, k, A, s, _, ws, _, _, h, r, q, _, _, _ => by
    cases r
    refine ⟨fun _ => false, fun j j1 => by simp at j1, ?_⟩
    cases q with
    | nil => cases h; rfl
    | cons _ _ => cases h; rw [List.length_nil, Nat.zero_min, Ob.lexAt_zero]; simp
  | x :: xs, [], k, A, s, _, _, _, _, h, r, q, _, _, _ => by
    cases q
    refine ⟨fun _ => false, fun j _ j2 => by simp at j2, ?_⟩
    cases r
    cases h
    rw [List.length_nil, Nat.min_zero, Ob.lexAt_zero]; simp
  | x :: xs, y :: ys, k, A, s, _, _, _, _, h, r, q, p, p', u => by
    simp only [plns, Bool.and_eq_true] at p p'
    rcases r with _ | ⟨r1, r2⟩
    rcases q with _ | ⟨q1, q2⟩
    simp only [ltDs] at h
    by_cases c : PyData.eqv x y = true
    · rw [if_pos c] at h
      obtain ⟨f, hf, hk⟩ := ltps xs ys k A s _ _ _ _ h r2 q2 p.2 p'.2 (room_tail u)
      refine ⟨fun j => f (j - 1), fun j j1 j2 m1 m2 => ?_, ?_⟩
      · cases j with
        | zero => exact absurd (show PyData.eqv x y = false from m2) (by rw [c]; simp)
        | succ j => exact hf j (by simpa using j1) (by simpa using j2) (fun i hi => m1 (i + 1) (by omega)) m2
      · rw [List.length_cons, List.length_cons, Nat.succ_min_succ, Ob.lexAt_succ, if_pos (show pairEq (x :: xs) (y :: ys) 0 = true from c), lexAt_sh]
        rw [← hk]
        simp only [gt_iff_lt, Nat.add_lt_add_iff_right]
        exact lexAt_cong _ _ fun j _ _ => ⟨rfl, rfl⟩
    · rw [if_neg c] at h
      have c' : PyData.eqv x y = false := by simpa using c
      refine ⟨fun _ => k, fun j j1 j2 m1 m2 => ?_, ?_⟩
      · cases j with
        | zero => exact ltp x y k A s _ _ _ _ h r1 q1 p.1 p'.1 (room_head u)
        | succ j => exact absurd (show PyData.eqv x y = true from m1 0 (Nat.succ_pos j)) c
      · rw [List.length_cons, List.length_cons, Nat.succ_min_succ, Ob.lexAt_succ, if_neg (show ¬ pairEq (x :: xs) (y :: ys) 0 = true from c)]
end


mutual
theorem gtp : ∀ (d e : D) (k : Bool) (A : Around) (s : Shared) (a b : Value) (as bs : List Addr), gtD d e = some k → Reads s.heap a d as → Reads s.heap b e bs → pln d = true → pln e = true → A.units + min d.depth e.depth < cLine → Ob.RcOp .Gt A s a b k
  | .int i, e, k, A, s, a, b, as, bs, h, r, q, _, _, u => by
    cases e with
    | int j =>
      rcases r with _ | _ | ⟨_, kt⟩
      rcases q with _ | _ | ⟨_, kt2⟩
      cases h
      exact fun _ _ _ _ z => PyProof.Rows.gt_int z
    | _ => cases h
  | .str i, e, k, A, s, a, b, as, bs, h, r, q, _, _, u => by
    cases e with
    | str j =>
      rcases r with _ | _ | _ | ⟨_, kt⟩
      rcases q with _ | _ | _ | ⟨_, kt2⟩
      cases h
      exact fun _ _ _ _ z => PySem.P.gt_str z
    | _ => cases h
  | .tuple xs, e, k, A, s, a, b, as, bs, h, r, q, p, p', u => by
    cases e with
    | tuple ys =>
      obtain ⟨l1, o1, w1, n1, c1, rfl, a1, a2, a3, a4⟩ := rt r
      obtain ⟨l2, o2, w2, n2, c2, rfl, b1, b2, b3, b4⟩ := rt q
      have u' := room_in u
      obtain ⟨f, hf, hk⟩ := gtps xs ys k A.in1 s _ _ _ _ (show gtDs xs ys = some k from h) a4 b4 (by simpa [pln] using p) (by simpa [pln] using p') u'
      have := tupgt (e := pairEq xs ys) (r := f) ⟨_, a1, a2, _, a3⟩ ⟨_, b1, b2, _, b3⟩ (room_here u) (fun j j1 j2 => by
        have := eqps xs ys A.in1 s _ _ _ _ a4 b4 (by simpa [pln] using p) (by simpa [pln] using p') u' j (by simpa using j1) (by simpa using j2)
        simpa using this) (fun j j1 j2 m1 m2 => by
        have := hf j (by simpa using j1) (by simpa using j2) m1 m2
        simpa using this)
      simp only [Array.length_toList] at hk
      rw [hk] at this
      exact this
    | _ => cases h
  | .none, e, _, _, _, _, _, _, _, h, _, _, _, _, _ | .bool _, e, _, _, _, _, _, _, _, h, _, _, _, _, _ | .list _, e, _, _, _, _, _, _, _, h, _, _, _, _, _ | .dict _, e, _, _, _, _, _, _, _, h, _, _, _, _, _ => by cases e <;> cases h
theorem gtps : ∀ (xs ys : List D) (k : Bool) (A : Around) (s : Shared) (vs ws : List Value) (as bs : List Addr), gtDs xs ys = some k → ReadsAll s.heap vs xs as → ReadsAll s.heap ws ys bs → plns xs = true → plns ys = true → A.units + min (PyData.depthAll xs) (PyData.depthAll ys) < cLine →
    ∃ r : Nat → Bool, (∀ j (j1 : j < vs.length) (j2 : j < ws.length), (∀ i, i < j → pairEq xs ys i = true) → pairEq xs ys j = false → Ob.RcOp .Gt A s vs[j] ws[j] (r j)) ∧ Ob.lexAt (pairEq xs ys) r (decide (vs.length > ws.length)) 0 (min vs.length ws.length) = k
  | [], ys, k, A, s, _, ws, _, _, h, r, q, _, _, _ => by
    cases r
    refine ⟨fun _ => false, fun j j1 => by simp at j1, ?_⟩
    cases q with
    | nil => cases h; rfl
    | cons _ _ => cases h; rw [List.length_nil, Nat.zero_min, Ob.lexAt_zero]; simp
  | x :: xs, [], k, A, s, _, _, _, _, h, r, q, _, _, _ => by
    cases q
    refine ⟨fun _ => false, fun j _ j2 => by simp at j2, ?_⟩
    cases r
    cases h
    rw [List.length_nil, Nat.min_zero, Ob.lexAt_zero]; simp
  | x :: xs, y :: ys, k, A, s, _, _, _, _, h, r, q, p, p', u => by
    simp only [plns, Bool.and_eq_true] at p p'
    rcases r with _ | ⟨r1, r2⟩
    rcases q with _ | ⟨q1, q2⟩
    simp only [gtDs] at h
    by_cases c : PyData.eqv x y = true
    · rw [if_pos c] at h
      obtain ⟨f, hf, hk⟩ := gtps xs ys k A s _ _ _ _ h r2 q2 p.2 p'.2 (room_tail u)
      refine ⟨fun j => f (j - 1), fun j j1 j2 m1 m2 => ?_, ?_⟩
      · cases j with
        | zero => exact absurd (show PyData.eqv x y = false from m2) (by rw [c]; simp)
        | succ j => exact hf j (by simpa using j1) (by simpa using j2) (fun i hi => m1 (i + 1) (by omega)) m2
      · rw [List.length_cons, List.length_cons, Nat.succ_min_succ, Ob.lexAt_succ, if_pos (show pairEq (x :: xs) (y :: ys) 0 = true from c), lexAt_sh]
        rw [← hk]
        simp only [gt_iff_lt, Nat.add_lt_add_iff_right]
        exact lexAt_cong _ _ fun j _ _ => ⟨rfl, rfl⟩
    · rw [if_neg c] at h
      have c' : PyData.eqv x y = false := by simpa using c
      refine ⟨fun _ => k, fun j j1 j2 m1 m2 => ?_, ?_⟩
      · cases j with
        | zero => exact gtp x y k A s _ _ _ _ h r1 q1 p.1 p'.1 (room_head u)
        | succ j => exact absurd (show PyData.eqv x y = true from m1 0 (Nat.succ_pos j)) c
      · rw [List.length_cons, List.length_cons, Nat.succ_min_succ, Ob.lexAt_succ, if_neg (show ¬ pairEq (x :: xs) (y :: ys) 0 = true from c)]
end


def rLtT (K : PySem.W.Frag) : R2 := fun x y H Q => ∃ d e k, Dp K H x d ∧ Dp K H y e ∧ pln d = true ∧ pln e = true ∧ min d.depth e.depth ≤ 64 ∧ ltD d e = some k ∧ Q (.bl k) H
theorem op_ltA {X : Cx} (hu : X.A.units + 65 < cLine) : OpR X (compareOp .Lt) (rLtT X.K) := by
  intro pins s σ H x y v u Q I rx ry ⟨d, e, k, hd, he, pd, pe, hm, hk, q⟩
  obtain ⟨as, r1⟩ := Dp.reads I d x v hd rx
  obtain ⟨bs, r2⟩ := Dp.reads I e y u he ry
  exact ltp d e k X.A s v u as bs hk r1 r2 pd pe (by omega) X.prog X.w X.xe _ ⟨.bl _, H, I, rfl, q⟩


def rGtT (K : PySem.W.Frag) : R2 := fun x y H Q => ∃ d e k, Dp K H x d ∧ Dp K H y e ∧ pln d = true ∧ pln e = true ∧ min d.depth e.depth ≤ 64 ∧ gtD d e = some k ∧ Q (.bl k) H
theorem op_gtA {X : Cx} (hu : X.A.units + 65 < cLine) : OpR X (compareOp .Gt) (rGtT X.K) := by
  intro pins s σ H x y v u Q I rx ry ⟨d, e, k, hd, he, pd, pe, hm, hk, q⟩
  obtain ⟨as, r1⟩ := Dp.reads I d x v hd rx
  obtain ⟨bs, r2⟩ := Dp.reads I e y u he ry
  exact gtp d e k X.A s v u as bs hk r1 r2 pd pe (by omega) X.prog X.w X.xe _ ⟨.bl _, H, I, rfl, q⟩

end AI

set_option Elab.async false
set_option linter.all false
set_option maxRecDepth 100000
set_option maxHeartbeats 4000000
/-! AiTup: the rules that make tuples, the new object told. -/
namespace AI
open PySem L2 SeqAt PyProof.Rows
section
variable {X : Cx} {pins : List (Addr × Obj)} {σ : L2.St} {H : Hp} {s : Shared}
theorem newTup {vs : List V} {its : List Value} {n t' : Nat} {Q : VK} (I : Inv X pins σ H s) (r : Vals vs its) (z : vs.length ≤ sizeLine)
    (q : ∀ p o, H p = none → o.dict = none → Q (.ref p) (upd H p (.frz o (.tup vs)))) :
    EP X pins σ Q (.ref s.heap.objs.size) { s with heap := s.heap.push { cls := .type "tuple", data := .seq its.toArray n }, toks := t' } := by
  have hf : H s.heap.objs.size = none := I.hok.fresh (Nat.le_refl _)
  refine ⟨.ref _, _, I.laid (o := .frz { cls := .type "tuple", data := .seq its.toArray n } (.tup vs)) (fun b u e => Heap.get?_push_of_some _ e) (Nat.le_refl _) ?_, rfl, q _ { cls := .type "tuple", data := .seq its.toArray n } hf rfl⟩
  exact ⟨Heap.get?_push_size _ rfl, z, its, r, _, Heap.get?_push_size _ rfl, rfl, _, rfl⟩
variable {es : List Expr} {pos : Pos} {t : TA}
def tTupF (t : TA) : TE := fun σ H Q => t σ H fun xs H1 => xs.length ≤ sizeLine ∧ ∀ p o, H1 p = none → o.dict = none → Q (.ref p) (upd H1 p (.frz o (.tup xs)))
theorem pe_tupF {x1} (h : PA X es t) : PE X (.Tuple es x1 pos) (tTupF t) := by
  refine ⟨fun pins s σ H Q I hq => wpAny_Tuple_spliced (thn (h.run pos pins s σ H _ I hq) fun us s1 ⟨xs, H1, I1, r, z, q⟩ => ?_)⟩
  have hl := r.length
  exact ⟨by omega, newTup (t' := s1.toks) I1 r z q⟩
theorem call_tupleF : CallR X (.type "tuple") (fun xs H Q => ∃ p ys, xs = [.ref p] ∧ ((SqL X.K H p ys ∧ ∀ l o, H l = none → o.dict = none → Q (.ref l) (upd H l (.frz o (.tup ys)))) ∨ (SqT X.K H p ys ∧ Q (.ref p) H))) := by
  intro pins s σ H xs us Q I r ⟨p, ys, exs, h⟩
  subst exs
  rcases h with ⟨hq, q⟩ | ⟨hq, q⟩
  · obtain ⟨u, rfl, rx⟩ := vals1 r
    cases rx
    obtain ⟨its, r', pl, hz⟩ := I.list hq
    have hl := r'.length
    refine call_tuple_list pl.isList (fun h' kp => ?_) (by simp only [List.size_toArray]; omega)
    have I1 : Inv X pins σ H { s with heap := h' } := I.kept (t' := s.toks) kp
    exact newTup (t' := s.toks) I1 r' hz q
  · exact call_tuple_of pins s σ H _ us Q I r ⟨p, ys, rfl, .inr ⟨hq, q⟩⟩
def rCatF (K : PySem.W.Frag) : R2 := fun x y H Q => ∃ a b xs ys, x = .ref a ∧ y = .ref b ∧ SqT K H a xs ∧ SqT K H b ys ∧ xs.length + ys.length ≤ sizeLine ∧
  (xs = [] → Q (.ref b) H) ∧ (xs ≠ [] → ys = [] → Q (.ref a) H) ∧ (xs ≠ [] → ys ≠ [] → ∀ p o, H p = none → o.dict = none → Q (.ref p) (upd H p (.frz o (.tup (xs ++ ys)))))
def rSlF (K : PySem.W.Frag) : V → Option Int → Option Int → Hp → VK → Prop := fun x lo hi H Q => ∃ a xs, x = .ref a ∧ SqT K H a xs ∧
  (HT.sIx xs.length 0 lo = 0 ∧ HT.sIx xs.length xs.length hi = xs.length → Q (.ref a) H) ∧ (¬ (HT.sIx xs.length 0 lo = 0 ∧ HT.sIx xs.length xs.length hi = xs.length) → ∀ p o, H p = none → o.dict = none → Q (.ref p) (upd H p (.frz o (.tup (cutV xs lo hi)))))
theorem op_catF : OpR X (binaryOp .Add) (rCatF X.K) := by
  intro pins s σ H x y v u Q I rx ry ⟨a, b, xs, ys, ex, ey, ha, hb, hz, q0, q1, q2⟩
  by_cases hx : xs = []
  · exact op_catA pins s σ H x y v u Q I rx ry ⟨a, b, xs, ys, ex, ey, ha, hb, hz, q0, q1, fun z => absurd hx z⟩
  · subst ex
    subst ey
    cases rx
    cases ry
    obtain ⟨its, r1, p1, _⟩ := I.tuple ha
    obtain ⟨its2, r2, p2, _⟩ := I.tuple hb
    have l1 := r1.length
    have l2 := r2.length
    refine HT.cat_tup p1 p2 (fun z => hx (r1.nil_iff.mp z)) (fun z => ⟨.ref a, H, I, rfl, q1 hx (r2.nil_iff.mp z)⟩) (fun z => ?_) (by omega)
    exact newTup (t' := s.toks) I (r1.append r2) (by rw [List.length_append]; exact hz) (q2 hx fun w => z (r2.nil_iff.mpr w))
theorem sl_tupF : SlR X (rSlF X.K) := by
  intro pins s σ H x v vl vu lo hi sl Q I rx hs pl pu ⟨a, xs, ex, hx, q1, q2⟩
  by_cases hw : HT.sIx xs.length 0 lo = 0 ∧ HT.sIx xs.length xs.length hi = xs.length
  · exact sl_tupA pins s σ H x v vl vu lo hi sl Q I rx hs pl pu ⟨a, xs, ex, hx, q1, fun z => absurd hw z⟩
  · subst ex
    cases rx
    obtain ⟨its, r, ht, hz⟩ := I.tuple hx
    have l1 := r.length
    have hlen : its.toArray.size = xs.length := by simp [l1]
    refine ⟨"tuple", _, PyProof.Rows.slot_tuple_getitem.lookup, ht.typeIs, ?_⟩
    refine HT.getItem_tuple_cut ht hs pl pu (by rw [hlen]; exact hw) ?_ (by omega)
    rw [hlen]
    exact newTup (t' := s.toks) I ((r.drop (HT.sIx xs.length 0 lo)).take (HT.sIx xs.length xs.length hi - HT.sIx xs.length 0 lo)) (Nat.le_trans (cutV_length xs lo hi) hz) (q2 hw)
end
end AI

set_option Elab.async false
set_option linter.all false
set_option maxRecDepth 100000
set_option maxHeartbeats 4000000
/-! AiSnd: what the plain operations do is what the layer's rules ask. -/
namespace AI
open PySem L2 SeqAt
section
variable {K : PySem.W.Frag} {mg : Str → Option Value} {μ μ' μ'' : List Addr} {H H' H'' : Hp} {h h' h'' : Boxes} {Q : VK} {bx : Bool}

theorem Out.bnd {α : Type} {m : M α} {f : α → M RV} (o : Out K mg μ H (M.bnd m f h) Q) : ∃ a h1, m h = .ok a h1 ∧ Out K mg μ H (f a h1) Q := by
  unfold M.bnd at o
  cases e : m h with
  | ok a h1 => rw [e] at o; exact ⟨a, h1, rfl, o⟩
  | ex x h1 => rw [e] at o; exact o.elim
  | no => rw [e] at o; exact o.elim
theorem bnd_ok {α β : Type} {m : M α} {f : α → M β} {b : β} (e : M.bnd m f h = .ok b h') : ∃ a h1, m h = .ok a h1 ∧ f a h1 = .ok b h' := by
  unfold M.bnd at e
  cases q : m h with
  | ok a h1 => rw [q] at e; exact ⟨a, h1, rfl, e⟩
  | ex x h1 => rw [q] at e; cases e
  | no => rw [q] at e; cases e
theorem opt_ok {α : Type} {o : Option α} {a : α} (e : M.opt o h = .ok a h') : o = some a ∧ h' = h := by
  cases o with
  | none => cases e
  | some x => cases e; exact ⟨rfl, rfl⟩
theorem grd_ok {b : Bool} {u : Unit} (e : M.grd b h = .ok u h') : b = true ∧ h' = h := by
  cases b with
  | false => cases e
  | true => cases e; exact ⟨rfl, rfl⟩
theorem ret_ok {α : Type} {a b : α} (e : M.ret a h = .ok b h') : b = a ∧ h' = h := by
  cases e; exact ⟨rfl, rfl⟩
theorem Out.ret {r : RV} (o : Out K mg μ H (M.ret r h) Q) (R : RH K μ h H) {v : V} (x : VR K mg μ H v r) : Q v H := o v μ H R .refl x
theorem Out.no (o : Out K mg μ H (M.no h) Q) : False := o
theorem Out.imp {res : Res RV} {Q' : VK} (o : Out K mg μ H res Q) (f : ∀ v H', Q v H' → Q' v H') : Out K mg μ H res Q' := by
  cases res with
  | ok r h' => exact fun v μ' H' a b c => f v H' (o v μ' H' a b c)
  | ex _ _ => exact o
  | no => exact o
theorem Out.up {res : Res RV} (e : Ext μ H μ' H') (o : Out K mg μ H res Q) : Out K mg μ' H' res Q := by
  cases res with
  | ok r h' => exact fun v μ2 H2 a b c => o v μ2 H2 a (e.trans b) c
  | ex _ _ => exact o
  | no => exact o
theorem newL_snd {ds : List D} {vs : List V} (R : RH K μ h H) (r : VDs K μ H vs ds) (o : Out K mg μ H (newL bx ds h) Q) : vs.length ≤ sizeLine ∧ ∀ p, H p = none → Q (.ref p) (upd H p (.lst vs)) := by
  unfold newL at o
  have hl := r.length
  by_cases z : ds.length ≤ sizeLine
  · rw [if_pos z] at o
    refine ⟨by omega, fun p hp => ?_⟩
    cases bx with
    | true =>
      obtain ⟨R', e⟩ := R.newBox hp r (by omega)
      refine o _ _ _ R' e (.rf ?_)
      rw [← R.len, List.getElem?_append_right (Nat.le_refl _)]
      simp
    | false =>
      obtain ⟨R', e⟩ := R.push (o := .lst vs) hp
      exact o _ _ _ R' e (.pd (.lst upd_same (R.notin hp) (by omega) (VDs.ext e _ _ r)))
  · rw [if_neg z] at o; exact o.elim
theorem newT_snd {ds : List D} {vs : List V} (R : RH K μ h H) (r : VDs K μ H vs ds) (o : Out K mg μ H (newT ds h) Q) : vs.length ≤ sizeLine ∧ ∀ p o, H p = none → o.dict = none → Q (.ref p) (upd H p (.frz o (.tup vs))) := by
  unfold newT at o
  have hl := r.length
  by_cases z : ds.length ≤ sizeLine
  · rw [if_pos z] at o
    refine ⟨by omega, fun p ob hp hd => ?_⟩
    obtain ⟨R', e⟩ := R.push (o := .frz ob (.tup vs)) hp
    exact o _ _ _ R' e (.pd (.tup ⟨ob, upd_same, hd⟩ (R.notin hp) (by omega) (VDs.ext e _ _ r)))
  · rw [if_neg z] at o; exact o.elim
theorem allPd_snd : ∀ {rs : List RV} {ds : List D} {vs : List V}, allPd rs = some ds → VRs K mg μ H vs rs → VDs K μ H vs ds
  | [], _, _, e, .nil => by cases e; exact .nil
  | .pd d :: rs, ds, _, e, .cons (.pd x) t => by
    simp only [allPd] at e
    cases q : allPd rs with
    | none => rw [q] at e; cases e
    | some es => rw [q] at e; cases e; exact .cons x (allPd_snd q t)
  | .rf _ :: _, _, _, e, _ => by cases e
  | .tp _ :: _, _, _, e, _ => by cases e
  | .fz _ :: _, _, _, e, _ => by cases e
  | .gl _ :: _, _, _, e, _ => by cases e
theorem mkTup_snd {rs : List RV} {vs : List V} (R : RH K μ h H) (r : VRs K mg μ H vs rs) (o : Out K mg μ H (mkTup rs h) Q) : vs.length ≤ sizeLine ∧ ∀ p o, H p = none → o.dict = none → Q (.ref p) (upd H p (.frz o (.tup vs))) := by
  unfold mkTup at o
  cases q : allPd rs with
  | some ds =>
    rw [q] at o
    exact newT_snd R (allPd_snd q r) o
  | none =>
    rw [q] at o
    have hl := r.length
    by_cases z : rs.length ≤ sizeLine
    · simp only [if_pos z] at o
      refine ⟨by omega, fun p ob hp hd => ?_⟩
      obtain ⟨R', e⟩ := R.push (o := .frz ob (.tup vs)) hp
      exact o _ _ _ R' e (.tp ⟨ob, upd_same, hd⟩ (R.notin hp) (by omega) (VRs.ext e _ _ r))
    · simp only [if_neg z] at o; exact o.elim

/-! ### truth -/
theorem truth_snd {r : RV} {v : V} {k : Bool} (R : RH K μ h H) (x : VR K mg μ H v r) (e : truth r h = .ok k h') : h' = h ∧ TruV K v H k := by
  obtain ⟨d, h1, e1, e2⟩ := bnd_ok e
  obtain ⟨rfl, w⟩ := dat_ok R x e1
  obtain ⟨e3, rfl⟩ := opt_ok e2
  refine ⟨rfl, ?_⟩
  cases d with
  | none => cases e3; rw [w.non]; exact rfl
  | bool b => cases e3; rw [w.bl]; exact rfl
  | int i => cases e3; rw [w.int]; exact rfl
  | str y =>
    rw [w.str]
    simp only [truD] at e3
    split at e3
    · rename_i z; cases e3; exact ⟨z, rfl⟩
    · cases e3
  | list ds =>
    obtain ⟨a, vs, rfl, q, r, _⟩ := w.list
    cases e3
    refine .inl ⟨vs, q, ?_⟩
    cases r <;> rfl
  | tuple ds =>
    obtain ⟨a, vs, rfl, q, r, _⟩ := w.tuple
    cases e3
    refine .inr (.inl ⟨vs, q, ?_⟩)
    cases r <;> rfl
  | dict _ => cases e3

/-! ### two-place operators -/
def rAddS : R2 := fun x y H Q => ∃ i j, x = .str i ∧ y = .str j ∧ i.length + j.length ≤ sizeLine ∧ Q (.str (i ++ j)) H
def rBin (K : PySem.W.Frag) : Operator → R2
  | .Add => fun x y H Q => rI0 (fun i j => .int (i + j)) x y H Q ∨ rAddS x y H Q ∨ rCatF K x y H Q ∨ rCat x y H Q
  | .Sub => rI0 fun i j => .int (i - j)
  | .Mult => rI CMulW fun i j => .int (i * j)
  | .FloorDiv => rI CDivW fun i j => .int (i / j)
  | .Mod => rI (fun _ j => 0 < j) fun i j => .int (i % j)
  | .Pow => rI CPow fun i j => .int (i ^ j.toNat)
  | _ => fun _ _ _ _ => False
theorem op_no {X : Cx} {f : Value → Value → Sem Value} : OpR X f fun _ _ _ _ => False := fun _ _ _ _ _ _ _ _ _ _ _ _ z => z.elim
theorem op_bin {X : Cx} : (op : Operator) → OpR X (binaryOp op) (rBin X.K op)
  | .Add => op_add.or (OpR.or (r := rAddS) op_add_str (op_catF.or op_cat))
  | .Sub => op_sub
  | .Mult => op_mulW
  | .FloorDiv => op_fdivW
  | .Mod => op_mod
  | .Pow => op_pow
  | .MatMult | .Div | .LShift | .RShift | .BitOr | .BitXor | .BitAnd => op_no
theorem lstM {r : RV} {v : V} {ds : List D} (R : RH K μ h H) (nf : isFz r = false) (x : VR K mg μ H v r) (e : dat r h = .ok (.list ds) h') : ∃ a vs, v = .ref a ∧ H a = some (.lst vs) ∧ VDs K μ H vs ds ∧ vs.length ≤ sizeLine := by
  cases r with
  | pd d0 =>
    cases x with
    | pd q =>
      cases e
      cases q with
      | lst q n z r => exact ⟨_, _, rfl, q, r, z⟩
  | fz ds => cases nf
  | rf n =>
    cases x with
    | rf q =>
      simp only [dat] at e
      cases hb : h[n]? with
      | none => rw [hb] at e; cases e
      | some b =>
        rw [hb] at e
        cases b with
        | gone => cases e
        | lst ds =>
          cases e
          obtain ⟨vs, q1, q2, q3⟩ := R.box n _ _ q hb
          exact ⟨_, _, rfl, q1, q2, q3⟩
  | tp _ => cases e
  | gl _ => cases e
theorem binS_snd {op : Operator} {a b : RV} {v u : V} (R : RH K μ h H) (x : VR K mg μ H v a) (y : VR K mg μ H u b) (o : Out K mg μ H (binS bx op a b h) Q) : rBin K op v u H Q := by
  obtain ⟨_, h0, e0, o1⟩ := o.bnd
  obtain ⟨g, rfl⟩ := grd_ok e0
  simp only [Bool.and_eq_true, Bool.not_eq_true'] at g
  obtain ⟨d, h1, e1, o2⟩ := o1.bnd
  obtain ⟨rfl, w1⟩ := dat_ok R x e1
  obtain ⟨e, h2, e2, o3⟩ := o2.bnd
  obtain ⟨rfl, w2⟩ := dat_ok R y e2
  clear o o1 o2
  unfold binD at o3
  split at o3
  · rw [w1.int, w2.int]; exact .inl ⟨_, _, rfl, rfl, o3.ret R (.pd (.int _))⟩
  · rw [w1.int, w2.int]; exact ⟨_, _, rfl, rfl, o3.ret R (.pd (.int _))⟩
  · obtain ⟨_, h0, e0, o4⟩ := o3.bnd
    obtain ⟨g, rfl⟩ := grd_ok e0
    have g := of_decide_eq_true g
    rw [w1.int, w2.int]; exact ⟨_, _, rfl, rfl, g, o4.ret R (.pd (.int _))⟩
  · obtain ⟨_, h0, e0, o4⟩ := o3.bnd
    obtain ⟨g, rfl⟩ := grd_ok e0
    have g := of_decide_eq_true g
    rw [w1.int, w2.int]; exact ⟨_, _, rfl, rfl, g, o4.ret R (.pd (.int _))⟩
  · obtain ⟨_, h0, e0, o4⟩ := o3.bnd
    obtain ⟨g, rfl⟩ := grd_ok e0
    have g := of_decide_eq_true g
    rw [w1.int, w2.int]; exact ⟨_, _, rfl, rfl, g, o4.ret R (.pd (.int _))⟩
  · obtain ⟨_, h0, e0, o4⟩ := o3.bnd
    obtain ⟨g, rfl⟩ := grd_ok e0
    have g := of_decide_eq_true g
    rw [w1.int, w2.int]; exact ⟨_, _, rfl, rfl, g, o4.ret R (.pd (.int _))⟩
  · obtain ⟨_, h0, e0, o4⟩ := o3.bnd
    obtain ⟨g, rfl⟩ := grd_ok e0
    have g := of_decide_eq_true g
    rw [w1.str, w2.str]; exact .inr (.inl ⟨_, _, rfl, rfl, g, o4.ret R (.pd (.str _))⟩)
  · rename_i xs ys
    obtain ⟨p, vs, rfl, q1, r1, z1⟩ := w1.tuple
    obtain ⟨p', ws, rfl, q2, r2, z2⟩ := w2.tuple
    obtain ⟨z, q⟩ := newT_snd R (r1.append r2) o3
    have hl := (r1.append r2).length
    rw [List.length_append] at z
    refine .inr (.inr (.inl ⟨p, p', vs, ws, rfl, rfl, q1, q2, z, fun hx => ?_, fun hx hy => ?_, fun _ _ => q⟩))
    · subst hx
      cases r1
      unfold newT at o3
      rw [List.nil_append] at o3 hl
      rw [if_pos (by have := r2.length; omega)] at o3
      rcases w2 with w2 | ⟨_, _, _, _, e, _⟩
      · exact o3 _ _ _ R .refl (.pd w2)
      · cases e
    · subst hy
      cases r2
      unfold newT at o3
      rw [List.append_nil] at o3 hl
      rw [if_pos (by have := r1.length; omega)] at o3
      rcases w1 with w1 | ⟨_, _, _, _, e, _⟩
      · exact o3 _ _ _ R .refl (.pd w1)
      · cases e
  · rename_i xs ys
    obtain ⟨p, vs, rfl, q1, r1, z1⟩ := lstM R g.1 x e1
    obtain ⟨p', ws, rfl, q2, r2, z2⟩ := lstM R g.2 y e2
    obtain ⟨z, q⟩ := newL_snd R (r1.append r2) o3
    rw [List.length_append] at z
    exact .inr (.inr (.inr ⟨p, p', vs, ws, rfl, rfl, q1, q2, z, q⟩))
  · exact o3.no.elim
end
end AI

set_option Elab.async false
set_option linter.all false
set_option maxRecDepth 100000
set_option maxHeartbeats 4000000
/-! AiSnd2: comparisons, subscripts, built-ins, methods. -/
namespace AI
open PySem L2 SeqAt
section
variable {K : PySem.W.Frag} {mg : Str → Option Value} {μ μ' μ'' : List Addr} {H H' H'' : Hp} {h h' h'' : Boxes} {Q : VK} {bx : Bool}
def rTxt (p : Str → Str → Bool) : R2 := fun x y H Q => ∃ i j, x = .str i ∧ y = .str j ∧ Q (.bl (p i j)) H
def rCmp (K : PySem.W.Frag) : CmpOp → R2
  | .Eq => rEqP K false
  | .NotEq => rEqP K true
  | .Lt => fun x y H Q => (rI0 (fun i j => .bl (decide (i < j))) x y H Q ∨ rTxt (fun i j => decide (i.cps.toList < j.cps.toList)) x y H Q) ∨ rLtT K x y H Q
  | .LtE => fun x y H Q => rI0 (fun i j => .bl (decide (i ≤ j))) x y H Q ∨ rTxt (fun i j => !decide (j.cps.toList < i.cps.toList)) x y H Q
  | .Gt => fun x y H Q => (rI0 (fun i j => .bl (decide (j < i))) x y H Q ∨ rTxt (fun i j => decide (j.cps.toList < i.cps.toList)) x y H Q) ∨ rGtT K x y H Q
  | .GtE => fun x y H Q => rI0 (fun i j => .bl (decide (j ≤ i))) x y H Q ∨ rTxt (fun i j => !decide (i.cps.toList < j.cps.toList)) x y H Q
  | .In => fun x y H Q => rInP K false x y H Q ∨ rTxt (fun i j => !(Builtin.Str.occurrences j i 0 j.length 1).isEmpty) x y H Q
  | .NotIn => fun x y H Q => rInP K true x y H Q ∨ rTxt (fun i j => !(!(Builtin.Str.occurrences j i 0 j.length 1).isEmpty)) x y H Q
  | .Is => fun x y H Q => y = .non ∧ Q (.bl (decide (x = .non))) H
  | .IsNot => fun x y H Q => y = .non ∧ Q (.bl (!decide (x = .non))) H
theorem op_cmp {X : Cx} (hu : X.A.units + 70 < cLine) : (op : CmpOp) → OpR X (compareOp op) (rCmp X.K op)
  | .Eq => op_eqP (by omega)
  | .NotEq => op_neP (by omega)
  | .Lt => (op_lt.or (r' := rTxt _) op_lt_str).or (op_ltA (by omega))
  | .LtE => op_le.or (r' := rTxt _) op_le_str
  | .Gt => (op_gt.or (r' := rTxt _) op_gt_str).or (op_gtA (by omega))
  | .GtE => op_ge.or (r' := rTxt _) op_ge_str
  | .In => (op_inP hu).or (r' := rTxt _) op_in_str
  | .NotIn => (op_ninP hu).or (r' := rTxt _) op_notin_str
  | .Is => op_isN
  | .IsNot => op_notN
theorem VW.isN {v : V} {d : D} (x : VW K μ H v d) : (decide (v = .non)) = isNonD d := by
  cases d with
  | none => rw [x.non]; rfl
  | bool _ => rw [x.bl]; rfl
  | int _ => rw [x.int]; rfl
  | str _ => rw [x.str]; rfl
  | list _ => obtain ⟨_, _, rfl, _⟩ := x.list; rfl
  | tuple _ => obtain ⟨_, _, rfl, _⟩ := x.tuple; rfl
  | dict _ => exact x.dict.elim
theorem eqD_snd {neg : Bool} {x y : D} {v u : V} {k : Bool} (w1 : VW K μ H v x) (w2 : VW K μ H u y) (e : eqD x y h = .ok k h') : h' = h ∧ ∀ Q : VK, Q (.bl (if neg then !k else k)) H → rEqP K neg v u H Q := by
  obtain ⟨_, h1, e1, e2⟩ := bnd_ok e
  obtain ⟨g, rfl⟩ := grd_ok e1
  obtain ⟨rfl, rfl⟩ := ret_ok e2
  obtain ⟨a, b⟩ := w1.dp
  obtain ⟨c, d⟩ := w2.dp
  exact ⟨rfl, fun Q q => ⟨x, y, a, c, b, d, of_decide_eq_true g, q⟩⟩
theorem inD_snd {neg : Bool} {x y : D} {v u : V} {k : Bool} (w1 : VW K μ H v x) (w2 : VW K μ H u y) (e : inD x y h = .ok k h') : h' = h ∧ ∀ Q : VK, Q (.bl (if neg then !k else k)) H →
    rInP K neg v u H Q ∨ rTxt (fun i j => if neg then !(!(Builtin.Str.occurrences j i 0 j.length 1).isEmpty) else !(Builtin.Str.occurrences j i 0 j.length 1).isEmpty) v u H Q := by
  obtain ⟨a, b⟩ := w1.dp
  have seq : ∀ {ds : List D} {p : Addr} {vs : List V}, inL x ds h = .ok k h' → u = .ref p → SqL K H p vs ∨ SqT K H p vs → VDs K μ H vs ds → h' = h ∧ ∀ Q : VK, Q (.bl (if neg then !k else k)) H → rInP K neg v u H Q := by
    intro ds p vs e eu hq r
    obtain ⟨_, h1, e1, e2⟩ := bnd_ok e
    obtain ⟨g, rfl⟩ := grd_ok e1
    obtain ⟨rfl, rfl⟩ := ret_ok e2
    obtain ⟨c, d⟩ := VDs.dp _ _ r
    exact ⟨rfl, fun Q q => ⟨x, ds, p, vs, a, eu, hq, c, b, d, of_decide_eq_true g, q⟩⟩
  cases y with
  | list ds =>
    obtain ⟨p, vs, eu, q, r, _⟩ := w2.list
    obtain ⟨e1, e2⟩ := seq e eu (.inl q) r
    exact ⟨e1, fun Q q => .inl (e2 Q q)⟩
  | tuple ds =>
    obtain ⟨p, vs, eu, q, r, _⟩ := w2.tuple
    obtain ⟨e1, e2⟩ := seq e eu (.inr q) r
    exact ⟨e1, fun Q q => .inl (e2 Q q)⟩
  | str z =>
    cases x with
    | str t =>
      cases e
      refine ⟨rfl, fun Q q => .inr ⟨t, z, w1.str, w2.str, ?_⟩⟩
      cases neg <;> exact q
    | none => cases e
    | bool _ => cases e
    | int _ => cases e
    | list _ => cases e
    | tuple _ => cases e
    | dict _ => cases e
  | none => cases e
  | bool _ => cases e
  | int _ => cases e
  | dict _ => cases e
theorem cmpS_snd {op : CmpOp} {a b : RV} {v u : V} {k : Bool} (R : RH K μ h H) (x : VR K mg μ H v a) (y : VR K mg μ H u b) (e : cmpS op a b h = .ok k h') : h' = h ∧ ∀ Q : VK, Q (.bl k) H → rCmp K op v u H Q := by
  obtain ⟨d, h1, e1, e2⟩ := bnd_ok e
  obtain ⟨rfl, w1⟩ := dat_ok R x e1
  obtain ⟨e, h2, e3, e4⟩ := bnd_ok e2
  obtain ⟨rfl, w2⟩ := dat_ok R y e3
  clear e2
  unfold cmpD at e4
  split at e4
  · exact eqD_snd (neg := false) w1 w2 e4
  · obtain ⟨k', h3, e5, e6⟩ := bnd_ok e4
    obtain ⟨rfl, rfl⟩ := ret_ok e6
    exact eqD_snd (neg := true) w1 w2 e5
  · obtain ⟨rfl, rfl⟩ := ret_ok e4; exact ⟨rfl, fun Q q => .inl (.inl ⟨_, _, w1.int, w2.int, q⟩)⟩
  · obtain ⟨rfl, rfl⟩ := ret_ok e4; exact ⟨rfl, fun Q q => .inl ⟨_, _, w1.int, w2.int, q⟩⟩
  · obtain ⟨rfl, rfl⟩ := ret_ok e4; exact ⟨rfl, fun Q q => .inl (.inl ⟨_, _, w1.int, w2.int, q⟩)⟩
  · obtain ⟨rfl, rfl⟩ := ret_ok e4; exact ⟨rfl, fun Q q => .inl ⟨_, _, w1.int, w2.int, q⟩⟩
  · obtain ⟨rfl, rfl⟩ := ret_ok e4; exact ⟨rfl, fun Q q => .inl (.inr ⟨_, _, w1.str, w2.str, q⟩)⟩
  · obtain ⟨rfl, rfl⟩ := ret_ok e4; exact ⟨rfl, fun Q q => .inl (.inr ⟨_, _, w1.str, w2.str, q⟩)⟩
  · obtain ⟨rfl, rfl⟩ := ret_ok e4; exact ⟨rfl, fun Q q => .inr ⟨_, _, w1.str, w2.str, q⟩⟩
  · obtain ⟨rfl, rfl⟩ := ret_ok e4; exact ⟨rfl, fun Q q => .inr ⟨_, _, w1.str, w2.str, q⟩⟩
  · obtain ⟨_, h3, e5, e6⟩ := bnd_ok e4
    obtain ⟨g, rfl⟩ := grd_ok e5
    obtain ⟨f, rfl⟩ := opt_ok e6
    have p1 := w1.dp
    have p2 := w2.dp
    exact ⟨rfl, fun Q q => .inr ⟨_, _, _, p1.1, p2.1, p1.2, p2.2, of_decide_eq_true g, f, q⟩⟩
  · obtain ⟨_, h3, e5, e6⟩ := bnd_ok e4
    obtain ⟨g, rfl⟩ := grd_ok e5
    obtain ⟨f, rfl⟩ := opt_ok e6
    have p1 := w1.dp
    have p2 := w2.dp
    exact ⟨rfl, fun Q q => .inr ⟨_, _, _, p1.1, p2.1, p1.2, p2.2, of_decide_eq_true g, f, q⟩⟩
  · exact inD_snd (neg := false) w1 w2 e4
  · obtain ⟨k', h3, e5, e6⟩ := bnd_ok e4
    obtain ⟨rfl, rfl⟩ := ret_ok e6
    exact inD_snd (neg := true) w1 w2 e5
  · obtain ⟨rfl, rfl⟩ := ret_ok e4
    exact ⟨rfl, fun Q q => ⟨w2.non, by rw [w1.isN]; exact q⟩⟩
  · obtain ⟨rfl, rfl⟩ := ret_ok e4
    exact ⟨rfl, fun Q q => ⟨w2.non, by rw [w1.isN]; exact q⟩⟩
  · cases e4

/-! ### subscripts -/
theorem atI_VDs {vs : List V} {ds : List D} {k : Int} {d : D} (r : VDs K μ H vs ds) (e : atI ds k = some d) : ∃ v, atI vs k = some v ∧ VD K μ H v d := by
  unfold atI at e ⊢
  rw [r.length]
  cases q : ixN ds.length k with
  | none => rw [q] at e; cases e
  | some j => rw [q] at e; exact r.get e
theorem atI_VRs {vs : List V} {ds : List RV} {k : Int} {d : RV} (r : VRs K mg μ H vs ds) (e : atI ds k = some d) : ∃ v, atI vs k = some v ∧ VR K mg μ H v d := by
  unfold atI at e ⊢
  rw [r.length]
  cases q : ixN ds.length k with
  | none => rw [q] at e; cases e
  | some j => rw [q] at e; exact r.get e
theorem idxS_snd {o i : RV} {v u : V} (R : RH K μ h H) (x : VR K mg μ H v o) (y : VR K mg μ H u i) (q : Out K mg μ H (idxS o i h) Q) : rIx K v u H Q := by
  unfold idxS at q
  split at q
  · rename_i rs k
    cases x with
    | tp e n z r =>
      cases y with
      | pd y =>
        cases y
        cases p : atI rs k with
        | none => rw [p] at q; exact q.elim
        | some w =>
          rw [p] at q
          obtain ⟨v', e', x'⟩ := atI_VRs r p
          exact .inr (.inl ⟨_, _, _, _, rfl, rfl, e.sq, e', q.ret R x'⟩)
  · obtain ⟨d, h1, e1, o2⟩ := q.bnd
    obtain ⟨rfl, w1⟩ := dat_ok R x e1
    obtain ⟨e, h2, e2, o3⟩ := o2.bnd
    obtain ⟨rfl, w2⟩ := dat_ok R y e2
    clear o2 q
    unfold idxD at o3
    split at o3
    · obtain ⟨d', h3, e3, o4⟩ := o3.bnd
      obtain ⟨g3, rfl⟩ := opt_ok e3
      obtain ⟨p, vs, rfl, hq, r, _⟩ := w1.list
      obtain ⟨v', e', x'⟩ := atI_VDs r g3
      exact .inl ⟨_, _, _, _, rfl, w2.int, hq, e', o4.ret R (.pd x')⟩
    · obtain ⟨d', h3, e3, o4⟩ := o3.bnd
      obtain ⟨g3, rfl⟩ := opt_ok e3
      obtain ⟨p, vs, rfl, hq, r, _⟩ := w1.tuple
      obtain ⟨v', e', x'⟩ := atI_VDs r g3
      exact .inr (.inl ⟨_, _, _, _, rfl, w2.int, hq, e', o4.ret R (.pd x')⟩)
    · obtain ⟨_, h3, e3, o4⟩ := o3.bnd
      obtain ⟨g, rfl⟩ := grd_ok e3
      obtain ⟨c, h4, e4, o5⟩ := o4.bnd
      obtain ⟨g4, rfl⟩ := opt_ok e4
      exact .inr (.inr ⟨_, _, _, w1.str, w2.int, of_decide_eq_true g, g4, o5.ret R (.pd (.str _))⟩)
    · exact o3.no.elim
def rSlc (K : PySem.W.Frag) : V → Option Int → Option Int → Hp → VK → Prop := fun x lo hi H Q => rSlL K x lo hi H Q ∨ rSlF K x lo hi H Q ∨ rSlS x lo hi H Q
theorem sl_any {X : Cx} : SlR X (rSlc X.K) := sl_list.or (sl_tupF.or sl_str)
theorem cut_snd {vs : List V} {ds : List D} (r : VDs K μ H vs ds) (lo hi : Option Int) : VDs K μ H (cutV vs lo hi) (cutL ds lo hi) := by
  unfold cutV cutL
  rw [r.length]
  exact (r.drop _).take _
theorem slcS_snd {o : RV} {v : V} {lo hi : Option Int} (R : RH K μ h H) (x : VR K mg μ H v o) (q : Out K mg μ H (slcS bx o lo hi h) Q) : rSlc K v lo hi H Q := by
  obtain ⟨d, h1, e1, o2⟩ := q.bnd
  obtain ⟨rfl, w1⟩ := dat_ok R x e1
  clear q
  split at o2
  · obtain ⟨p, vs, rfl, hq, r, _⟩ := w1.list
    exact .inl ⟨p, vs, rfl, hq, (newL_snd R (cut_snd r lo hi) o2).2⟩
  · rename_i ds
    obtain ⟨p, vs, rfl, hq, r, _⟩ := w1.tuple
    obtain ⟨z, q⟩ := newT_snd R (cut_snd r lo hi) o2
    refine .inr (.inl ⟨p, vs, rfl, hq, fun ⟨c1, c2⟩ => ?_, fun _ => q⟩)
    have e : cutL ds lo hi = ds := by
      unfold cutL
      rw [← r.length, c1, c2, r.length]
      simp
    rw [e] at o2
    unfold newT at o2
    have hl := r.length
    have hz : vs.length ≤ sizeLine := by
      have := (cut_snd r lo hi).length
      rw [e] at this
      omega
    rw [if_pos (by omega)] at o2
    rcases w1 with w1 | ⟨_, _, _, _, e, _⟩
    · exact o2 _ _ _ R .refl (.pd w1)
    · cases e
  · obtain ⟨_, h3, e3, o4⟩ := o2.bnd
    obtain ⟨g, rfl⟩ := grd_ok e3
    exact .inr (.inr ⟨_, w1.str, of_decide_eq_true g, o4.ret R (.pd (.str _))⟩)
  · exact o2.no.elim
end
end AI

set_option Elab.async false
set_option linter.all false
set_option maxRecDepth 100000
set_option maxHeartbeats 4000000
/-! AiSnd3: built-ins, isinstance, methods, stores. -/
namespace AI
open PySem L2 SeqAt
section
variable {K : PySem.W.Frag} {mg : Str → Option Value} {μ μ' μ'' : List Addr} {H H' H'' : Hp} {h h' h'' : Boxes} {Q : VK} {bx : Bool}
abbrev R1 := List V → Hp → VK → Prop
/-- a built-in as a value -/
def BI.val : BI → Value
  | .len => .builtin "len" | .abs => .builtin "abs" | .max => .builtin "max" | .min => .builtin "min" | .all => .builtin "all" | .any => .builtin "any" | .sum => .builtin "sum"
  | .list => .type "list" | .tuple => .type "tuple" | .int => .type "int" | .str => .type "str"
def rBi (K : PySem.W.Frag) : BI → R1
  | .len => fun xs H Q => (∃ p ys, xs = [.ref p] ∧ (SqL K H p ys ∨ SqT K H p ys) ∧ Q (.int ys.length) H) ∨ (∃ z, xs = [.str z] ∧ z.length ≤ sizeLine ∧ Q (.int z.length) H)
  | .list => fun xs H Q => ∃ p ys, xs = [.ref p] ∧ (SqL K H p ys ∨ SqT K H p ys) ∧ ∀ l, H l = none → Q (.ref l) (upd H l (.lst ys))
  | .tuple => fun xs H Q => ∃ p ys, xs = [.ref p] ∧ ((SqL K H p ys ∧ ∀ l o, H l = none → o.dict = none → Q (.ref l) (upd H l (.frz o (.tup ys)))) ∨ (SqT K H p ys ∧ Q (.ref p) H))
  | .int => fun xs H Q => ((∃ i, xs = [.int i] ∧ Q (.int i) H) ∨ ∃ k, xs = [.bl k] ∧ Q (.int (if k then 1 else 0)) H) ∨ ∃ a n, xs = [.str a] ∧ PySem.intText? a = some n ∧ a.length ≤ 640 ∧ Q (.int n) H
  | .str => fun xs H Q => (∃ i, xs = [.int i] ∧ i.natAbs.log2 < 1920 ∧ Q (.str (toString i)) H) ∨ ∃ a, xs = [.str a] ∧ Q (.str a) H
  | .abs => fun xs H Q => ∃ i, xs = [.int i] ∧ Q (.int (if i < 0 then -i else i)) H
  | .max => fun xs H Q => ∃ i j, xs = [.int i, .int j] ∧ Q (.int (if j > i then j else i)) H
  | .min => fun xs H Q => ∃ i j, xs = [.int i, .int j] ∧ Q (.int (if j < i then j else i)) H
  | .all => rAll K
  | .any => rAny K
  | .sum => rSum K
theorem cr_bi {X : Cx} (hc : X.calm = true) : (b : BI) → CallR X b.val (rBi X.K b)
  | .len => call_len_seq.or call_len_str
  | .list => call_list_of
  | .tuple => call_tupleF
  | .int => call_int1.or call_int_str
  | .str => call_str_int.or SkE.call_str_str
  | .abs => call_abs
  | .max => call_max2 hc
  | .min => call_min2 hc
  | .all => cr_all hc
  | .any => cr_any hc
  | .sum => cr_sum hc
theorem dats_ok : ∀ {rs : List RV} {vs : List V} {ds : List D} {h h' : Boxes}, RH K μ h H → VRs K mg μ H vs rs → dats rs h = .ok ds h' → h' = h ∧ ∃ ws, ws = vs ∧ ws.length = ds.length ∧ ∀ (i : Nat) (v : V) (d : D), vs[i]? = some v → ds[i]? = some d → VW K μ H v d
  | [], _, _, _, _, R, .nil, e => by cases e; exact ⟨rfl, _, rfl, rfl, fun i v d e => by simp at e⟩
  | r :: rs, _, _, h, h', R, .cons x t, e => by
    obtain ⟨d, h1, e1, e2⟩ := bnd_ok e
    obtain ⟨rfl, w1⟩ := dat_ok R x e1
    obtain ⟨ds, h2, e3, e4⟩ := bnd_ok e2
    obtain ⟨rfl, ws, rfl, l, f⟩ := dats_ok R t e3
    obtain ⟨rfl, rfl⟩ := ret_ok e4
    refine ⟨rfl, _, rfl, by simpa using l, fun i v d e1 e2 => ?_⟩
    cases i with
    | zero => simp at e1 e2; subst e1; subst e2; exact w1
    | succ i => exact f i v d (by simpa using e1) (by simpa using e2)
theorem boolsOf_snd : ∀ {ds : List D} {ks : List Bool} {vs : List V}, boolsOf ds = some ks → VDs K μ H vs ds → vs = ks.map V.bl
  | [], _, _, e, .nil => by cases e; rfl
  | .bool i :: ds, ks, _, e, .cons x t => by
    simp only [boolsOf] at e
    cases q : boolsOf ds with
    | none => rw [q] at e; cases e
    | some es => rw [q] at e; cases e; cases x; rw [boolsOf_snd q t]; rfl
  | .none :: _, _, _, e, _ | .int _ :: _, _, _, e, _ | .str _ :: _, _, _, e, _ | .list _ :: _, _, _, e, _ | .tuple _ :: _, _, _, e, _ | .dict _ :: _, _, _, e, _ => by cases e
theorem intsOf_snd : ∀ {ds : List D} {ks : List Int} {vs : List V}, intsOf ds = some ks → VDs K μ H vs ds → vs = ks.map V.int
  | [], _, _, e, .nil => by cases e; rfl
  | .int i :: ds, ks, _, e, .cons x t => by
    simp only [intsOf] at e
    cases q : intsOf ds with
    | none => rw [q] at e; cases e
    | some es => rw [q] at e; cases e; cases x; rw [intsOf_snd q t]; rfl
  | .none :: _, _, _, e, _ | .bool _ :: _, _, _, e, _ | .str _ :: _, _, _, e, _ | .list _ :: _, _, _, e, _ | .tuple _ :: _, _, _, e, _ | .dict _ :: _, _, _, e, _ => by cases e
theorem one_arg {vs : List V} {d : D} {ws : List V} (e : ws = vs) (l : ws.length = [d].length) (f : ∀ (i : Nat) (v : V) (d' : D), vs[i]? = some v → [d][i]? = some d' → VW K μ H v d') : ∃ v, vs = [v] ∧ VW K μ H v d := by
  subst e
  match ws, l with
  | [v], _ => exact ⟨v, rfl, f 0 v d rfl rfl⟩
theorem two_arg {vs : List V} {d d2 : D} {ws : List V} (e : ws = vs) (l : ws.length = [d, d2].length) (f : ∀ (i : Nat) (v : V) (d' : D), vs[i]? = some v → [d, d2][i]? = some d' → VW K μ H v d') : ∃ v v2, vs = [v, v2] ∧ VW K μ H v d ∧ VW K μ H v2 d2 := by
  subst e
  match ws, l with
  | [v, v2], _ => exact ⟨v, v2, rfl, f 0 v d rfl rfl, f 1 v2 d2 rfl rfl⟩
theorem biS_snd {b : BI} {rs : List RV} {vs : List V} (R : RH K μ h H) (x : VRs K mg μ H vs rs) (q : Out K mg μ H (biS bx b rs h) Q) : rBi K b vs H Q := by
  obtain ⟨ds, h1, e1, o2⟩ := q.bnd
  obtain ⟨rfl, ws, ew, l, f⟩ := dats_ok R x e1
  clear q
  unfold biD at o2
  split at o2
  · obtain ⟨v, rfl, w⟩ := one_arg ew l f
    obtain ⟨p, us, rfl, hq, r, _⟩ := w.list
    refine .inl ⟨p, us, rfl, .inl hq, ?_⟩
    rw [r.length]; exact o2.ret R (.pd (.int _))
  · obtain ⟨v, rfl, w⟩ := one_arg ew l f
    obtain ⟨p, us, rfl, hq, r, _⟩ := w.tuple
    refine .inl ⟨p, us, rfl, .inr hq, ?_⟩
    rw [r.length]; exact o2.ret R (.pd (.int _))
  · obtain ⟨v, rfl, w⟩ := one_arg ew l f
    obtain ⟨_, h0, e0, o3⟩ := o2.bnd
    obtain ⟨g, rfl⟩ := grd_ok e0
    exact .inr ⟨_, by rw [w.str], of_decide_eq_true g, o3.ret R (.pd (.int _))⟩
  · obtain ⟨v, rfl, w⟩ := one_arg ew l f
    obtain ⟨p, us, rfl, hq, r, _⟩ := w.list
    exact ⟨p, us, rfl, .inl hq, (newL_snd R r o2).2⟩
  · obtain ⟨v, rfl, w⟩ := one_arg ew l f
    obtain ⟨p, us, rfl, hq, r, _⟩ := w.tuple
    exact ⟨p, us, rfl, .inr hq, (newL_snd R r o2).2⟩
  · obtain ⟨v, rfl, w⟩ := one_arg ew l f
    obtain ⟨p, us, rfl, hq, r, _⟩ := w.list
    exact ⟨p, us, rfl, .inl ⟨hq, (newT_snd R r o2).2⟩⟩
  · obtain ⟨v, rfl, w⟩ := one_arg ew l f
    obtain ⟨p, us, e, hq, r, _⟩ := w.tuple
    rcases w with w | ⟨_, _, _, _, e, _⟩
    · subst e
      exact ⟨p, us, rfl, .inr ⟨hq, o2.ret R (.pd w)⟩⟩
    · cases e
  · obtain ⟨v, rfl, w⟩ := one_arg ew l f
    exact .inl (.inl ⟨_, by rw [w.int], o2.ret R (.pd (.int _))⟩)
  · obtain ⟨v, rfl, w⟩ := one_arg ew l f
    exact .inl (.inr ⟨_, by rw [w.bl], o2.ret R (.pd (.int _))⟩)
  · obtain ⟨v, rfl, w⟩ := one_arg ew l f
    obtain ⟨_, h0, e0, o3⟩ := o2.bnd
    obtain ⟨g, rfl⟩ := grd_ok e0
    obtain ⟨n, h2, e2, o4⟩ := o3.bnd
    obtain ⟨g2, rfl⟩ := opt_ok e2
    exact .inr ⟨_, _, by rw [w.str], g2, of_decide_eq_true g, o4.ret R (.pd (.int _))⟩
  · obtain ⟨v, rfl, w⟩ := one_arg ew l f
    obtain ⟨_, h0, e0, o3⟩ := o2.bnd
    obtain ⟨g, rfl⟩ := grd_ok e0
    exact .inl ⟨_, by rw [w.int], of_decide_eq_true g, o3.ret R (.pd (.str _))⟩
  · obtain ⟨v, rfl, w⟩ := one_arg ew l f
    exact .inr ⟨_, by rw [w.str], o2.ret R (.pd (.str _))⟩
  · obtain ⟨v, rfl, w⟩ := one_arg ew l f
    exact ⟨_, by rw [w.int], o2.ret R (.pd (.int _))⟩
  · obtain ⟨v, v2, rfl, w, w2⟩ := two_arg ew l f
    exact ⟨_, _, by rw [w.int, w2.int], o2.ret R (.pd (.int _))⟩
  · obtain ⟨v, v2, rfl, w, w2⟩ := two_arg ew l f
    exact ⟨_, _, by rw [w.int, w2.int], o2.ret R (.pd (.int _))⟩
  · obtain ⟨v, rfl, w⟩ := one_arg ew l f
    obtain ⟨p, us, rfl, hq, r, _⟩ := w.list
    obtain ⟨ks, h0, e0, o3⟩ := o2.bnd
    obtain ⟨g, rfl⟩ := opt_ok e0
    have e := boolsOf_snd g r
    subst e
    exact ⟨p, ks, rfl, hq, o3.ret R (.pd (.bl _))⟩
  · obtain ⟨v, rfl, w⟩ := one_arg ew l f
    obtain ⟨p, us, rfl, hq, r, _⟩ := w.list
    obtain ⟨ks, h0, e0, o3⟩ := o2.bnd
    obtain ⟨g, rfl⟩ := opt_ok e0
    have e := boolsOf_snd g r
    subst e
    exact ⟨p, ks, rfl, hq, o3.ret R (.pd (.bl _))⟩
  · obtain ⟨v, rfl, w⟩ := one_arg ew l f
    obtain ⟨p, us, rfl, hq, r, _⟩ := w.list
    obtain ⟨ks, h0, e0, o3⟩ := o2.bnd
    obtain ⟨g, rfl⟩ := opt_ok e0
    have e := intsOf_snd g r
    subst e
    exact ⟨p, ks, rfl, hq, o3.ret R (.pd (.int _))⟩
  · exact o2.no.elim

/-! ### isinstance -/
def TY.nm : TY → String
  | .int => "int" | .str => "str" | .bool => "bool" | .tuple => "tuple" | .list => "list"
theorem isiS_snd {a : RV} {t : TY} {v : V} (R : RH K μ h H) (x : VR K mg μ H v a) (q : Out K mg μ H (isiS a t h) Q) : rIsi K [v, .ty t.nm] H Q := by
  obtain ⟨d, h1, e1, o2⟩ := q.bnd
  obtain ⟨rfl, w⟩ := dat_ok R x e1
  have fin : ∀ {n : String} {b : Bool}, TyX K H v (.type n) → kitB n t.nm = some b → isiD d t = b → rIsi K [v, .ty t.nm] H Q := fun {n b} ty k e =>
    ⟨v, .ty t.nm, .type n, .type t.nm, b, rfl, .ty _, ty, kit_ty k, by have := o2.ret R (.pd (.bl _)); rw [e] at this; exact this⟩
  cases d with
  | none =>
    have := w.non; subst this
    cases t <;> first | exact fin (b := true) (.base .non) (by decide +kernel) rfl | exact fin (b := false) (.base .non) (by decide +kernel) rfl
  | bool b =>
    have := w.bl; subst this
    cases t <;> first | exact fin (b := true) (.base (.bl b)) (by decide +kernel) rfl | exact fin (b := false) (.base (.bl b)) (by decide +kernel) rfl
  | int i =>
    have := w.int; subst this
    cases t <;> first | exact fin (b := true) (.base (.int i)) (by decide +kernel) rfl | exact fin (b := false) (.base (.int i)) (by decide +kernel) rfl
  | str y =>
    have := w.str; subst this
    cases t <;> first | exact fin (b := true) (.base (.str y)) (by decide +kernel) rfl | exact fin (b := false) (.base (.str y)) (by decide +kernel) rfl
  | list ds =>
    obtain ⟨p, vs, rfl, hq, r, _⟩ := w.list
    have ty : TyX K H (.ref p) (.type "list") := by
      rcases hq with (hq | ⟨o, hq⟩) | ⟨o, its, n, hk, hc, _⟩
      · exact .base (.lst hq)
      · exact .base (.frz hq)
      · exact .kList hk hc
    cases t <;> first | exact fin (b := true) ty (by decide +kernel) rfl | exact fin (b := false) ty (by decide +kernel) rfl
  | tuple ds =>
    obtain ⟨p, vs, rfl, hq, r, _⟩ := w.tuple
    have ty : TyX K H (.ref p) (.type "tuple") := by
      rcases hq with (hq | ⟨o, hq⟩) | ⟨o, its, n, hk, hc, _⟩
      · exact .base (.tup hq)
      · exact .fTuple hq
      · exact .kTuple hk hc
    cases t <;> first | exact fin (b := true) ty (by decide +kernel) rfl | exact fin (b := false) ty (by decide +kernel) rfl
  | dict _ => exact w.dict.elim
end
end AI

set_option Elab.async false
set_option linter.all false
set_option maxRecDepth 100000
set_option maxHeartbeats 4000000
/-! AiMt: methods of lists, tuples and texts by what the receiver is; the stores into lists. -/
namespace AI
open PySem L2 SeqAt
def RK.nm : RK → String
  | .list => "list" | .tuple => "tuple" | .str => "str"
def MT.nm : MT → Str
  | .append => "append" | .extend => "extend" | .pop => "pop" | .popAt => "pop" | .index => "index" | .join => "join" | .split => "split"
/-- the receiver -/
def TyK (K : PySem.W.Frag) (k : RK) (x : V) (H : Hp) : Prop := match k with
  | .list => ∃ a vs, x = .ref a ∧ SqL K H a vs
  | .tuple => ∃ a, x = .ref a ∧ ((∃ vs, TupAt H a vs) ∨ ∃ o, K.lookup a = some o ∧ o.cls = .type "tuple" ∧ o.dict = none)
  | .str => ∃ y, x = .str y
section
variable {X : Cx} {pins : List (Addr × Obj)} {σ : L2.St} {H : Hp} {s : Shared}
theorem TyK.is {k : RK} {x : V} {v : Value} (I : Inv X pins σ H s) (r : RelV x v) (ty : TyK X.K k x H) : s.TypeIs v k.nm ∧ ∀ a, v = .ref a → ∃ ob, s.heap.get? a = some ob ∧ ob.dict = none := by
  cases k with
  | list =>
    obtain ⟨a, vs, rfl, q⟩ := ty
    exact tyV_is I r (show tyV X.K "list" (.ref a) H from .inl ⟨rfl, vs, q⟩)
  | str =>
    obtain ⟨y, rfl⟩ := ty
    exact tyV_is I r (show tyV X.K "str" (.str y) H from rfl)
  | tuple =>
    obtain ⟨a, rfl, q | ⟨o, q1, q2, q3⟩⟩ := ty
    · obtain ⟨vs, o, h, d⟩ := q
      cases r
      obtain ⟨e, z, its, r2, ob, e2, c, _⟩ := I.hok a _ h
      rw [e] at e2; cases e2
      exact ⟨⟨o, e, c⟩, fun b eb => by cases eb; exact ⟨o, e, d⟩⟩
    · exact tyV_is I r (show tyV X.K "tuple" (.ref a) H from .inr (.inl ⟨rfl, o, q1, q2, q3⟩))
/-- the place of an equal item -/
def rIndexP (K : PySem.W.Frag) (l : Bool) : V → List V → Hp → VK → Prop := fun x xs H Q => ∃ a y d ds vs j, x = .ref a ∧ xs = [y] ∧ (if l = true then SqL K H a vs else SqT K H a vs) ∧ DpAll K H vs ds ∧ plns ds = true ∧ Dp K H y d ∧ pln d = true ∧
  d.depth ≤ 64 ∧ firstAt ds d = some j ∧ Q (.int (j : Nat)) H
theorem first_of {ds : List D} {d : D} {j : Nat} (e : firstAt ds d = some j) : ∃ z, ds[j]? = some z ∧ PyData.eqv z d = true ∧ ∀ m z', m < j → ds[m]? = some z' → PyData.eqv z' d = false := by
  unfold firstAt at e
  rw [List.findIdx?_eq_some_iff_getElem] at e
  obtain ⟨h, e1, e2⟩ := e
  refine ⟨ds[j], List.getElem?_eq_getElem h, e1, fun m z' hm hz => ?_⟩
  obtain ⟨hm', e'⟩ := List.getElem?_eq_some_iff.mp hz
  have := e2 m hm
  rw [e'] at this
  simpa using this
theorem places {s : Shared} {d : D} {ds : List D} {its : List Value} {as : List Addr} {j : Nat} (ra : ReadsAll s.heap its ds as) (pd : plns ds = true) (e : firstAt ds d = some j) :
    ∃ hj : j < its.toArray.size, isD s d its.toArray[j] = true ∧ ∀ m (hm : m < its.toArray.size), m < j → isD s d its.toArray[m] = false := by
  obtain ⟨z, e1, e2, e3⟩ := first_of e
  have hl := ReadsAll.length _ _ _ ra
  have aux : ∀ (ds : List D) (its : List Value) (as : List Addr) (m : Nat) (z : D) (hm : m < its.length), ReadsAll s.heap its ds as → plns ds = true → ds[m]? = some z → isD s d its[m] = PyData.eqv z d := by
    intro ds
    induction ds with
    | nil => intro its as m z hm r p e; simp at e
    | cons c ds ih =>
      intro its as m z hm r p e
      simp only [plns, Bool.and_eq_true] at p
      cases r with
      | cons r1 r2 =>
        cases m with
        | zero => simp at e; subst e; exact isD_of r1 p.1
        | succ m => exact ih _ _ m z (by simpa using hm) r2 p.2 (by simpa using e)
  have hj : j < its.length := by rw [hl]; exact (List.getElem?_eq_some_iff.mp e1).1
  refine ⟨by simpa using hj, ?_, fun m hm hmj => ?_⟩
  · have := aux ds its as j z hj ra pd e1
    simp only [List.getElem_toArray]
    rw [this]; exact e2
  · have hm' : m < its.length := by simpa using hm
    have hz : ds[m]? = some ds[m] := List.getElem?_eq_getElem (by omega)
    have := aux ds its as m _ hm' ra pd hz
    simp only [List.getElem_toArray]
    rw [this]; exact e3 m _ hmj hz
theorem mt_indexP (hu : X.A.units + 70 < cLine) : MtR X "list.index" (rIndexP X.K true) := by
  intro pins s σ H x xs v us Q I rx rxs ⟨a, y, d, ds, vs, j, ex, exs, hq, ha, pds, hy, pd, hd, hf, q⟩
  subst ex exs
  cases rx
  have hq : SqL X.K H a vs := hq
  obtain ⟨uy, rfl, ry⟩ := vals1 rxs
  obtain ⟨bs, rv⟩ := Dp.reads I d y uy hy ry
  obtain ⟨its, rr, ⟨⟨cls, dd, dt, sl⟩, n, ho, hc, hdn, hdt⟩, hz⟩ := I.list hq
  simp only at hc hdt
  subst hc hdt
  obtain ⟨as, ra⟩ := Dp.readsAll I ds vs its ha rr
  have un : X.A.in1.units + d.depth < cLine := by show X.A.units + 1 + d.depth < cLine; omega
  obtain ⟨hj, p1, p2⟩ := places ra pds hf
  have hl := rr.length
  have hsl := sizeLine_eq
  have hj' : j < its.length := by simpa using hj
  exact call_meets PySem.F.slot_list_index ⟨_, ho, rfl⟩ PySem.F.entry_list_index (PySem.F.args_list_index_2 _ _) (list_indexAt a its.toArray n dd sl uy (isD s d) j hj (by omega) p1 p2)
    ⟨ho, fun w hw => eqAt_isD rv pd un ra pds w (by simpa using hw), ⟨.int (j : Nat), H, I.tok _, ⟨_, rfl⟩, q⟩⟩
theorem mt_indexQ (hu : X.A.units + 70 < cLine) : MtR X "tuple.index" (rIndexP X.K false) := by
  intro pins s σ H x xs v us Q I rx rxs ⟨a, y, d, ds, vs, j, ex, exs, hq, ha, pds, hy, pd, hd, hf, q⟩
  subst ex exs
  cases rx
  have hq : SqT X.K H a vs := hq
  obtain ⟨uy, rfl, ry⟩ := vals1 rxs
  obtain ⟨bs, rv⟩ := Dp.reads I d y uy hy ry
  obtain ⟨its, rr, ⟨⟨cls, dd, dt, sl⟩, ho, hc, n, hdt⟩, hz⟩ := I.tuple hq
  simp only at hc hdt
  subst hc hdt
  obtain ⟨as, ra⟩ := Dp.readsAll I ds vs its ha rr
  have un : X.A.in1.units + d.depth < cLine := by show X.A.units + 1 + d.depth < cLine; omega
  obtain ⟨hj, p1, p2⟩ := places ra pds hf
  exact call_meets PySem.F.slot_tuple_index ⟨_, ho, rfl⟩ PySem.F.entry_tuple_index (PySem.F.args_tuple_index_2 _ _) (TI.tuple_indexAt a its.toArray n dd sl uy (isD s d) j hj p1 p2)
    ⟨ho, fun w hw => eqAt_isD rv pd un ra pds w (by simpa using hw), ⟨.int (j : Nat), H, I.tok _, ⟨_, rfl⟩, q⟩⟩
end
end AI

set_option Elab.async false
set_option linter.all false
set_option maxRecDepth 100000
set_option maxHeartbeats 4000000
/-! AiPE: each form of an expression reads as its plain run. -/
namespace AI
open PySem L2 SeqAt
section
variable {X : Cx} {K : PySem.W.Frag} {mg : Str → Option Value} {T : TT} {bx : Bool}

theorem PEimp {e : Expr} {t t' : TE} (p : PE X e t) (f : ∀ σ H Q, t' σ H Q → t σ H Q) : PE X e t' := ⟨fun pins s σ H Q I h => p.run pins s σ H Q I (f σ H Q h)⟩
theorem PTimp {e : Expr} {t t' : L2.TT} (p : PT X e t) (f : ∀ σ H Q, t' σ H Q → t σ H Q) : PT X e t' := ⟨fun pins s σ H Q I h => p.run pins s σ H Q I (f σ H Q h)⟩
theorem PWimp {e : Expr} {t t' : L2.TT} (p : PW X e t) (f : ∀ σ H Q, t' σ H Q → t σ H Q) : PW X e t' := ⟨fun w pins s σ H Q I h => p.run w pins s σ H Q I (f σ H Q h)⟩
theorem PAimp {es : List Expr} {t t' : TA} (p : PA X es t) (f : ∀ σ H Q, t' σ H Q → t σ H Q) : PA X es t' := ⟨fun pos pins s σ H Q I h => p.run pos pins s σ H Q I (f σ H Q h)⟩
theorem PGimp {e : Expr} {t t' : TG} (p : PG X e t) (f : ∀ v σ H Q, t' v σ H Q → t v σ H Q) : PG X e t' := ⟨fun pins s σ H v u Q I r h => p.run pins s σ H v u Q I r (f v σ H Q h)⟩
theorem PGsimp {es : List Expr} {t t' : TGs} (p : PGs X es t) (f : ∀ v σ H Q, t' v σ H Q → t v σ H Q) : PGs X es t' := ⟨fun pins s σ H v u Q I r h => p.run pins s σ H v u Q I r (f v σ H Q h)⟩
theorem PIimp {tg e : Expr} {t t' : TI} (p : PI X tg e t) (f : ∀ σ H Q, t' σ H Q → t σ H Q) : PI X tg e t' := ⟨fun pins s σ H R I h => p.run pins s σ H R I (f σ H R h)⟩
theorem PSimp {st : Stmt} {t t' : TS} (p : PS X st t) (f : ∀ D σ H, t' D σ H → t D σ H) : PS X st t' := ⟨fun pins s σ H D I h => p.run pins s σ H D I (f D σ H h)⟩
theorem PSsimp {st : List Stmt} {t t' : TS} (p : PSs X st t) (f : ∀ D σ H, t' D σ H → t D σ H) : PSs X st t' := ⟨fun pins s σ H D I h => p.run pins s σ H D I (f D σ H h)⟩

/-- the slots -/
structure SR (K : PySem.W.Frag) (mg : Str → Option Value) (μ : List Addr) (H : Hp) (σ : L2.St) (σ' : Sl) : Prop where
  len : σ.length = σ'.length
  get : ∀ (i : Nat) (r : RV), σ'[i]? = some (some r) → ∃ v, σ[i]? = some (some v) ∧ VR K mg μ H v r
theorem SR.ext {μ μ' : List Addr} {H H' : Hp} {σ : L2.St} {σ' : Sl} (e : Ext μ H μ' H') (s : SR K mg μ H σ σ') : SR K mg μ' H' σ σ' :=
  ⟨s.len, fun i r q => let ⟨v, a, b⟩ := s.get i r q; ⟨v, a, VR.ext e _ _ b⟩⟩
theorem SR.set {μ : List Addr} {H : Hp} {σ : L2.St} {σ' : Sl} (s : SR K mg μ H σ σ') {v : V} {r : RV} (x : VR K mg μ H v r) (i : Nat) : SR K mg μ H (σ.set i (some v)) (σ'.set i (some r)) := by
  refine ⟨by simp [s.len], fun j q e => ?_⟩
  by_cases h : i = j
  · subst h
    by_cases z : i < σ'.length
    · rw [List.getElem?_set_self z] at e
      cases e
      exact ⟨v, List.getElem?_set_self (by rw [s.len]; exact z), x⟩
    · rw [List.getElem?_eq_none (by simpa using Nat.le_of_not_lt z)] at e; cases e
  · rw [List.getElem?_set_ne h] at e ⊢
    exact s.get j q e
theorem SR.wipe {μ : List Addr} {H : Hp} {σ : L2.St} {σ' : Sl} (s : SR K mg μ H σ σ') : ∀ vs : List Nat, SR K mg μ H (L2.wipe σ vs) (wipeS σ' vs)
  | [] => s
  | v :: vs => by
    have ih := SR.wipe s vs
    refine ⟨by simp [L2.wipe, wipeS, ih.len], fun j q e => ?_⟩
    simp only [L2.wipe, wipeS] at e ⊢
    by_cases h : v = j
    · subst h
      by_cases z : v < (wipeS σ' vs).length
      · rw [List.getElem?_set_self z] at e; cases e
      · rw [List.getElem?_eq_none (by simpa using Nat.le_of_not_lt z)] at e; cases e
    · rw [List.getElem?_set_ne h] at e ⊢
      exact ih.get j q e
/-- an expression's reading -/
def rdE (K : PySem.W.Frag) (mg : Str → Option Value) (T : TT) (bx : Bool) (e : E) : TE := fun σ H Q => ∃ σ' μ h, SR K mg μ H σ σ' ∧ RH K μ h H ∧ Out K mg μ H (ev T σ' bx e h) Q
def OutL (K : PySem.W.Frag) (mg : Str → Option Value) (μ : List Addr) (H : Hp) (res : Res (List RV)) (Q : List V → Hp → Prop) : Prop := match res with
  | .ok r h' => ∀ v μ' H', RH K μ' h' H' → Ext μ H μ' H' → VRs K mg μ' H' v r → Q v H'
  | _ => False
def rdA (K : PySem.W.Frag) (mg : Str → Option Value) (T : TT) (es : List E) : TA := fun σ H Q => ∃ σ' μ h, SR K mg μ H σ σ' ∧ RH K μ h H ∧ OutL K mg μ H (evs T σ' es h) Q
def OutB (K : PySem.W.Frag) (μ : List Addr) (H : Hp) (res : Res Bool) (Q : Bool → Hp → Prop) : Prop := match res with
  | .ok r h' => ∀ μ' H', RH K μ' h' H' → Ext μ H μ' H' → Q r H'
  | _ => False
def rdC (K : PySem.W.Frag) (mg : Str → Option Value) (T : TT) (c : C) : L2.TT := fun σ H Q => ∃ σ' μ h, SR K mg μ H σ σ' ∧ RH K μ h H ∧ OutB K μ H (evC T σ' c h) Q
end
end AI

set_option Elab.async false
set_option linter.all false
set_option maxRecDepth 100000
set_option maxHeartbeats 4000000
/-! AiPE2: the forms of expressions. -/
namespace AI
open PySem L2 SeqAt
section
variable {K : PySem.W.Frag} {mg : Str → Option Value} {μ μ' : List Addr} {H H' : Hp} {h h' : Boxes}
theorem Out.of {res : Res RV} {r : RV} {Q : VK} (e : res = .ok r h') (f : ∀ v μ' H', RH K μ' h' H' → Ext μ H μ' H' → VR K mg μ' H' v r → Q v H') : Out K mg μ H res Q := by
  rw [e]; exact f
theorem OutL.of {res : Res (List RV)} {r : List RV} {Q : List V → Hp → Prop} (e : res = .ok r h') (f : ∀ v μ' H', RH K μ' h' H' → Ext μ H μ' H' → VRs K mg μ' H' v r → Q v H') : OutL K mg μ H res Q := by
  rw [e]; exact f
theorem OutB.of {res : Res Bool} {r : Bool} {Q : Bool → Hp → Prop} (e : res = .ok r h') (f : ∀ μ' H', RH K μ' h' H' → Ext μ H μ' H' → Q r H') : OutB K μ H res Q := by
  rw [e]; exact f
theorem Out.inv {res : Res RV} {Q : VK} (o : Out K mg μ H res Q) : ∃ r h', res = .ok r h' := by
  cases res with
  | ok r h' => exact ⟨r, h', rfl⟩
  | ex _ _ => exact o.elim
  | no => exact o.elim
theorem OutL.bnd {α : Type} {m : M α} {f : α → M (List RV)} {Q : List V → Hp → Prop} (o : OutL K mg μ H (M.bnd m f h) Q) : ∃ a h1, m h = .ok a h1 ∧ OutL K mg μ H (f a h1) Q := by
  unfold M.bnd at o
  cases e : m h with
  | ok a h1 => rw [e] at o; exact ⟨a, h1, rfl, o⟩
  | ex x h1 => rw [e] at o; exact o.elim
  | no => rw [e] at o; exact o.elim
theorem OutB.bnd {α : Type} {m : M α} {f : α → M Bool} {Q : Bool → Hp → Prop} (o : OutB K μ H (M.bnd m f h) Q) : ∃ a h1, m h = .ok a h1 ∧ OutB K μ H (f a h1) Q := by
  unfold M.bnd at o
  cases e : m h with
  | ok a h1 => rw [e] at o; exact ⟨a, h1, rfl, o⟩
  | ex x h1 => rw [e] at o; exact o.elim
  | no => rw [e] at o; exact o.elim
theorem OutL.up {res : Res (List RV)} {Q : List V → Hp → Prop} (e : Ext μ H μ' H') (o : OutL K mg μ H res Q) : OutL K mg μ' H' res Q := by
  cases res with
  | ok r h' => exact fun v μ2 H2 a b c => o v μ2 H2 a (e.trans b) c
  | ex _ _ => exact o
  | no => exact o
theorem OutB.up {res : Res Bool} {Q : Bool → Hp → Prop} (e : Ext μ H μ' H') (o : OutB K μ H res Q) : OutB K μ' H' res Q := by
  cases res with
  | ok r h' => exact fun μ2 H2 a b => o μ2 H2 a (e.trans b)
  | ex _ _ => exact o
  | no => exact o
theorem OutL.inv {res : Res (List RV)} {Q : List V → Hp → Prop} (o : OutL K mg μ H res Q) : ∃ r h', res = .ok r h' := by
  cases res with
  | ok r h' => exact ⟨r, h', rfl⟩
  | ex _ _ => exact o.elim
  | no => exact o.elim
theorem OutB.inv {res : Res Bool} {Q : Bool → Hp → Prop} (o : OutB K μ H res Q) : ∃ r h', res = .ok r h' := by
  cases res with
  | ok r h' => exact ⟨r, h', rfl⟩
  | ex _ _ => exact o.elim
  | no => exact o.elim
end

section
variable {X : Cx} {T : TT} {bx : Bool} {a b c : Expr} {x y z : E} {pos : Pos}
abbrev pE (X : Cx) (T : TT) (e : Expr) (ê : E) : Prop := ∀ bx, PE X e (rdE X.K X.mg T bx ê)
abbrev pA (X : Cx) (T : TT) (es : List Expr) (ê : List E) : Prop := PA X es (rdA X.K X.mg T ê)
theorem p_var {i : Nat} {n : Str} (hN : X.N[i]? = some n) (hv : Vis X.env.scope n) (hd : (n == ("__debug__" : Str)) = false) (hcd : (n == ("__classdict__" : Str)) = false) : pE X T (.Name n pos) (.var i) := fun bx =>
  PEimp (pe_var hN hv hd hcd) fun σ H Q ⟨σ', μ, h, S, R, o⟩ => by
    simp only [ev, getV] at o
    cases q : σ'[i]? with
    | none => rw [q] at o; exact o.elim
    | some w =>
      cases w with
      | none => rw [q] at o; exact o.elim
      | some r =>
        rw [q] at o
        obtain ⟨v, e1, x1⟩ := S.get i r q
        exact ⟨v, e1, Out.ret o R x1⟩
theorem p_cst {d : D} {v : V} (hp : PE X a (tC v)) (hd : ∀ μ H, VD X.K μ H v d) : pE X T a (.cst d) := fun bx =>
  PEimp hp fun σ H Q ⟨σ', μ, h, S, R, o⟩ => by
    simp only [ev] at o
    exact Out.ret o R (.pd (hd μ H))
theorem p_glob {n : Str} {d : D} {v : V} (hp : PE X a (tC v)) (ht : T.cst n = some d) (hd : ∀ μ H, VD X.K μ H v d) : pE X T a (.glob n) := fun bx =>
  PEimp hp fun σ H Q ⟨σ', μ, h, S, R, o⟩ => by
    simp only [ev, ht] at o
    exact Out.ret o R (.pd (hd μ H))
theorem p_fn {n : Str} {f : Addr} (hg : Gl X n) (hm : X.mg n = some (.ref f)) (hd : (n == ("__debug__" : Str)) = false) : pE X T (.Name n pos) (.fn n) := fun bx =>
  PEimp (pe_glob hg hm (v := .ref f) rfl hd) fun σ H Q ⟨σ', μ, h, S, R, o⟩ => by
    simp only [ev] at o
    split at o
    · exact Out.ret o R (.gl hm)
    · exact o.elim
theorem p_nil : pA X T [] [] := PAimp pa_nil fun σ H Q ⟨σ', μ, h, S, R, o⟩ => by
  simp only [evs] at o
  exact o _ _ _ R .refl .nil
theorem p_cons {es : List Expr} {xs : List E} (ha : pE X T a x) (hr : pA X T es xs) (hs : starEach (a :: es) X.env = (false, eval a X.env) :: starEach es X.env) : pA X T (a :: es) (x :: xs) :=
  PAimp (pa_cons (ha false) hr hs) fun σ H Q ⟨σ', μ, h, S, R, o⟩ => by
    simp only [evs] at o
    obtain ⟨r, h1, e1, o1⟩ := o.bnd
    refine ⟨σ', μ, h, S, R, Out.of e1 fun v μ1 H1 R1 E1 x1 => ?_⟩
    obtain ⟨r2, h2, e2, o2⟩ := (o1.up E1).bnd
    refine ⟨σ', μ1, h1, S.ext E1, R1, OutL.of e2 fun v2 μ2 H2 R2 E2 x2 => ?_⟩
    exact o2 _ _ _ R2 E2 (.cons (VR.ext E2 _ _ x1) x2)
theorem p_tup {es : List Expr} {xs : List E} {k : Nat} (h : pA X T es xs) : pE X T (.Tuple es k pos) (.tup xs) := fun bx =>
  PEimp (pe_tupF h) fun σ H Q ⟨σ', μ, h, S, R, o⟩ => by
    simp only [ev] at o
    obtain ⟨r, h1, e1, o1⟩ := o.bnd
    refine ⟨σ', μ, h, S, R, OutL.of e1 fun v μ1 H1 R1 E1 x1 => ?_⟩
    exact mkTup_snd R1 x1 (o1.up E1)
theorem p_lst {es : List Expr} {xs : List E} (h : pA X T es xs) : pE X T (.List es pos) (.lst xs) := fun bx =>
  PEimp (pe_lst h) fun σ H Q ⟨σ', μ, h, S, R, o⟩ => by
    simp only [ev] at o
    obtain ⟨r, h1, e1, o1⟩ := o.bnd
    refine ⟨σ', μ, h, S, R, OutL.of e1 fun v μ1 H1 R1 E1 x1 => ?_⟩
    obtain ⟨ds, h2, e2, o2⟩ := (o1.up E1).bnd
    obtain ⟨e3, rfl⟩ := opt_ok e2
    exact newL_snd R1 (allPd_snd e3 x1) o2
theorem p_bin {op : Operator} (ha : pE X T a x) (hb : pE X T b y) : pE X T (.BinOp a op b pos) (.bin op x y) := fun bx =>
  PEimp (pe_op (op_bin op) (ha false) (hb false)) fun σ H Q ⟨σ', μ, h, S, R, o⟩ => by
    simp only [ev] at o
    obtain ⟨r, h1, e1, o1⟩ := o.bnd
    refine ⟨σ', μ, h, S, R, Out.of e1 fun v μ1 H1 R1 E1 x1 => ?_⟩
    obtain ⟨r2, h2, e2, o2⟩ := (o1.up E1).bnd
    refine ⟨σ', μ1, h1, S.ext E1, R1, Out.of e2 fun v2 μ2 H2 R2 E2 x2 => ?_⟩
    exact binS_snd R2 (VR.ext E2 _ _ x1) x2 (o2.up E2)
theorem p_neg (ha : pE X T a x) : pE X T (.UnaryOp .USub a pos) (.neg x) := fun bx =>
  PEimp (pe_un un_neg (ha false)) fun σ H Q ⟨σ', μ, h, S, R, o⟩ => by
    simp only [ev] at o
    obtain ⟨r, h1, e1, o1⟩ := o.bnd
    refine ⟨σ', μ, h, S, R, Out.of e1 fun v μ1 H1 R1 E1 x1 => ?_⟩
    have o2 := o1.up E1
    unfold negS at o2
    split at o2
    · cases x1 with
      | pd x1 => cases x1; exact ⟨_, rfl, o2.ret R1 (.pd (.int _))⟩
    · exact o2.no.elim
theorem p_cmp {op : CmpOp} (hu : X.A.units + 70 < cLine) (ha : pE X T a x) (hb : pE X T b y) (hm : behindInMarks op b = false) : pE X T (.Compare a [op] [b] pos) (.cmp op x y) := fun bx =>
  PEimp (pe_cmpR (op_cmp hu op) (ha false) (hb false) hm) fun σ H Q ⟨σ', μ, h, S, R, o⟩ => by
    simp only [ev] at o
    obtain ⟨r, h1, e1, o1⟩ := o.bnd
    refine ⟨σ', μ, h, S, R, Out.of e1 fun v μ1 H1 R1 E1 x1 => ?_⟩
    obtain ⟨r2, h2, e2, o2⟩ := (o1.up E1).bnd
    refine ⟨σ', μ1, h1, S.ext E1, R1, Out.of e2 fun v2 μ2 H2 R2 E2 x2 => ?_⟩
    obtain ⟨k, h3, e3, o3⟩ := (o2.up E2).bnd
    obtain ⟨rfl, f⟩ := cmpS_snd R2 (VR.ext E2 _ _ x1) x2 e3
    exact f _ (o3.ret R2 (.pd (.bl _)))
theorem p_and {rest : List Expr} (ha : pE X T a x) (hb : pE X T (.BoolOp .And (b :: rest) pos) y) : pE X T (.BoolOp .And (a :: b :: rest) pos) (.and x y) := fun bx =>
  PEimp (pe_and (ha false) (hb false)) fun σ H Q ⟨σ', μ, h, S, R, o⟩ => by
    simp only [ev] at o
    obtain ⟨r, h1, e1, o1⟩ := o.bnd
    refine ⟨σ', μ, h, S, R, Out.of e1 fun v μ1 H1 R1 E1 x1 => ?_⟩
    have o2 := o1.up E1
    split at o2
    · cases x1 with
      | pd x1 => cases x1; exact ⟨true, rfl, by rw [if_pos rfl]; exact ⟨σ', μ1, h1, S.ext E1, R1, o2⟩⟩
    · cases x1 with
      | pd x1 => cases x1; exact ⟨false, rfl, by rw [if_neg Bool.false_ne_true]; exact o2.ret R1 (.pd (.bl _))⟩
    · exact o2.no.elim
theorem p_or {rest : List Expr} (ha : pE X T a x) (hb : pE X T (.BoolOp .Or (b :: rest) pos) y) : pE X T (.BoolOp .Or (a :: b :: rest) pos) (.or x y) := fun bx =>
  PEimp (pe_or (ha false) (hb false)) fun σ H Q ⟨σ', μ, h, S, R, o⟩ => by
    simp only [ev] at o
    obtain ⟨r, h1, e1, o1⟩ := o.bnd
    refine ⟨σ', μ, h, S, R, Out.of e1 fun v μ1 H1 R1 E1 x1 => ?_⟩
    have o2 := o1.up E1
    split at o2
    · cases x1 with
      | pd x1 => cases x1; exact ⟨true, rfl, by rw [if_pos rfl]; exact o2.ret R1 (.pd (.bl _))⟩
    · cases x1 with
      | pd x1 => cases x1; exact ⟨false, rfl, by rw [if_neg Bool.false_ne_true]; exact ⟨σ', μ1, h1, S.ext E1, R1, o2⟩⟩
    · exact o2.no.elim
theorem p_one {op : BoolOp} (ha : pE X T a x) : pE X T (.BoolOp op [a] pos) x := fun bx => pe_one (ha bx)
theorem p_not (ha : pE X T a x) : pE X T (.UnaryOp .Not a pos) (.not x) := fun bx =>
  PEimp (pe_not (ha false)) fun σ H Q ⟨σ', μ, h, S, R, o⟩ => by
    simp only [ev] at o
    obtain ⟨r, h1, e1, o1⟩ := o.bnd
    refine ⟨σ', μ, h, S, R, Out.of e1 fun v μ1 H1 R1 E1 x1 => ?_⟩
    have o2 := o1.up E1
    split at o2
    · cases x1 with
      | pd x1 => cases x1; exact ⟨_, rfl, o2.ret R1 (.pd (.bl _))⟩
    · exact o2.no.elim
theorem p_idx (ha : pE X T a x) (hb : pE X T b y) (hs : PlainIx b) : pE X T (.Subscript a b pos) (.idx x y) := fun bx =>
  PEimp (pe_ix ix_seq (ha false) (hb false) hs) fun σ H Q ⟨σ', μ, h, S, R, o⟩ => by
    simp only [ev] at o
    obtain ⟨r, h1, e1, o1⟩ := o.bnd
    refine ⟨σ', μ, h, S, R, Out.of e1 fun v μ1 H1 R1 E1 x1 => ?_⟩
    obtain ⟨r2, h2, e2, o2⟩ := (o1.up E1).bnd
    refine ⟨σ', μ1, h1, S.ext E1, R1, Out.of e2 fun v2 μ2 H2 R2 E2 x2 => ?_⟩
    exact idxS_snd R2 (VR.ext E2 _ _ x1) x2 (o2.up E2)
/-- a part of a slice -/
def OutO (K : PySem.W.Frag) (μ : List Addr) (H : Hp) (res : Res (Option Int)) (Q : Option Int → Hp → Prop) : Prop := match res with
  | .ok r h' => ∀ μ' H', RH K μ' h' H' → Ext μ H μ' H' → Q r H'
  | _ => False
theorem OutO.of {K : PySem.W.Frag} {μ : List Addr} {H : Hp} {h' : Boxes} {res : Res (Option Int)} {r : Option Int} {Q : Option Int → Hp → Prop} (e : res = .ok r h') (f : ∀ μ' H', RH K μ' h' H' → Ext μ H μ' H' → Q r H') : OutO K μ H res Q := by
  rw [e]; exact f
def rdO (K : PySem.W.Frag) (mg : Str → Option Value) (T : TT) (e : Option E) : TO := fun σ H Q => ∃ σ' μ h, SR K mg μ H σ σ' ∧ RH K μ h H ∧ OutO K μ H (evO T σ' e h) Q
theorem POimp {e : Option Expr} {t t' : TO} (p : PO X e t) (f : ∀ σ H Q, t' σ H Q → t σ H Q) : PO X e t' := ⟨fun pins s σ H Q I h => p.run pins s σ H Q I (f σ H Q h)⟩
theorem p_onone : PO X none (rdO X.K X.mg T none) := POimp po_none fun σ H Q ⟨σ', μ, h, S, R, o⟩ => by
  simp only [evO] at o
  exact o _ _ R .refl
theorem p_osome (ha : pE X T a x) : PO X (some a) (rdO X.K X.mg T (some x)) := POimp (po_some (ha false)) fun σ H Q ⟨σ', μ, h, S, R, o⟩ => by
  simp only [evO] at o
  cases e0 : ev T σ' false x h with
  | ok r h1 =>
    simp only [M.bnd, e0] at o
    refine ⟨σ', μ, h, S, R, Out.of e0 fun v μ1 H1 R1 E1 x1 => ?_⟩
    unfold partS at o
    split at o
    · cases x1 with
      | pd x1 => cases x1; exact ⟨_, rfl, o _ _ R1 E1⟩
    · exact o.elim
  | ex _ _ => simp only [M.bnd, e0] at o; exact o.elim
  | no => simp only [M.bnd, e0] at o; exact o.elim
theorem p_slc {lo hi : Option Expr} {l u : Option E} {p2 : Pos} (ha : pE X T a x) (hl : PO X lo (rdO X.K X.mg T l)) (hu : PO X hi (rdO X.K X.mg T u)) : pE X T (.Subscript a (.Slice lo hi none p2) pos) (.slc x l u) := fun bx =>
  PEimp (pe_slice sl_any (ha false) hl hu) fun σ H Q ⟨σ', μ, h, S, R, o⟩ => by
    simp only [ev] at o
    obtain ⟨r, h1, e1, o1⟩ := o.bnd
    refine ⟨σ', μ, h, S, R, Out.of e1 fun v μ1 H1 R1 E1 x1 => ?_⟩
    obtain ⟨l', h2, e2, o2⟩ := (o1.up E1).bnd
    refine ⟨σ', μ1, h1, S.ext E1, R1, OutO.of e2 fun μ2 H2 R2 E2 => ?_⟩
    obtain ⟨u', h3, e3, o3⟩ := (o2.up E2).bnd
    refine ⟨σ', μ2, h2, (S.ext E1).ext E2, R2, OutO.of e3 fun μ3 H3 R3 E3 => ?_⟩
    exact slcS_snd R3 (VR.ext E3 _ _ (VR.ext E2 _ _ x1)) (o3.up E3)
/-- a built-in function -/
def BI.nm : BI → Str
  | .len => "len" | .abs => "abs" | .max => "max" | .min => "min" | .all => "all" | .any => "any" | .sum => "sum" | .list => "list" | .tuple => "tuple" | .int => "int" | .str => "str"
theorem p_bi {bi : BI} {es : List Expr} {xs : List E} {p : Pos} (hc : X.calm = true) (hg : Gl X bi.nm) (hm : X.mg bi.nm = none) (ha : pA X T (a :: es) xs) (he : starEach (a :: es) X.env = (false, eval a X.env) :: starEach es X.env)
    (hpl : (backTo pos (starEach es X.env)).any (·.1) = false) : pE X T (.Call (.Name bi.nm p) (a :: es) [] pos) (.bi bi xs) := fun bx => by
  have main : PE X (.Call (.Name bi.nm p) (a :: es) [] pos) (tCB (rBi X.K bi) (rdA X.K X.mg T xs)) := by
    cases bi <;> first
      | exact pe_callB (cr_bi hc _) hg hm (by decide +kernel) ha (by decide) (by decide) he hpl
      | exact pe_callTy (cr_bi hc _) hg hm (by decide +kernel) ha (by decide) (by decide) he hpl
  exact PEimp main fun σ H Q ⟨σ', μ, h, S, R, o⟩ => by
    simp only [ev] at o
    obtain ⟨r, h1, e1, o1⟩ := o.bnd
    refine ⟨σ', μ, h, S, R, OutL.of e1 fun v μ1 H1 R1 E1 x1 => ?_⟩
    exact biS_snd R1 x1 (o1.up E1)
theorem p_bx (ha : pE X T a x) : pE X T a (.bx x) := fun bx => PEimp (ha true) fun σ H Q ⟨σ', μ, h, S, R, o⟩ => by
  simp only [ev] at o
  exact ⟨σ', μ, h, S, R, o⟩
end
end AI

set_option Elab.async false
set_option linter.all false
set_option maxRecDepth 100000
set_option maxHeartbeats 4000000
/-! AiPE3: chains, isinstance, methods, calls, tests. -/
namespace AI
open PySem L2 SeqAt
section
variable {X : Cx} {T : TT} {bx : Bool} {a b c : Expr} {x y z : E} {pos : Pos}
theorem p_cmp2 {op op' : CmpOp} (hu : X.A.units + 70 < cLine) (ha : pE X T a x) (hb : pE X T b y) (hc : pE X T c z) (hm : lastMarks [op, op'] [b, c] = false) : pE X T (.Compare a [op, op'] [b, c] pos) (.cmp2 op op' x y z) := fun bx =>
  PEimp (pe_chain (op_cmp hu op) (op_cmp hu op') (ha false) (hb false) (hc false) hm) fun σ H Q ⟨σ', μ, h, S, R, o⟩ => by
    simp only [ev] at o
    obtain ⟨r, h1, e1, o1⟩ := o.bnd
    refine ⟨σ', μ, h, S, R, Out.of e1 fun v μ1 H1 R1 E1 x1 => ?_⟩
    obtain ⟨r2, h2, e2, o2⟩ := (o1.up E1).bnd
    refine ⟨σ', μ1, h1, S.ext E1, R1, Out.of e2 fun v2 μ2 H2 R2 E2 x2 => ?_⟩
    obtain ⟨k, h3, e3, o3⟩ := (o2.up E2).bnd
    obtain ⟨rfl, f⟩ := cmpS_snd R2 (VR.ext E2 _ _ x1) x2 e3
    refine f _ ⟨k, rfl, ?_⟩
    cases k with
    | false =>
      rw [if_neg Bool.false_ne_true] at o3 ⊢
      exact o3.ret R2 (.pd (.bl _))
    | true =>
      rw [if_pos rfl] at o3 ⊢
      obtain ⟨r4, h4, e4, o4⟩ := o3.bnd
      refine ⟨σ', μ2, _, (S.ext E1).ext E2, R2, Out.of e4 fun v4 μ4 H4 R4 E4 x4 => ?_⟩
      obtain ⟨k', h5, e5, o5⟩ := (o4.up E4).bnd
      obtain ⟨rfl, f'⟩ := cmpS_snd R4 (VR.ext E4 _ _ x2) x4 e5
      exact f' _ (o5.ret R4 (.pd (.bl _)))
theorem bootTy : (t : TY) → bootBuiltins (Str.ofString t.nm) = some (.type t.nm)
  | .int | .str | .bool | .tuple | .list => by decide +kernel
theorem p_isi {t : TY} {p p2 : Pos} (hg : Gl X "isinstance") (hm : X.mg "isinstance" = none) (hg2 : Gl X (Str.ofString t.nm)) (hm2 : X.mg (Str.ofString t.nm) = none) (ha : pE X T a x)
    (he : starEach [a, .Name (Str.ofString t.nm) p2] X.env = (false, eval a X.env) :: starEach [.Name (Str.ofString t.nm) p2] X.env) (hpl : (backTo pos (starEach [.Name (Str.ofString t.nm) p2] X.env)).any (·.1) = false) :
    pE X T (.Call (.Name "isinstance" p) [a, .Name (Str.ofString t.nm) p2] [] pos) (.isi x t) := fun bx => by
  have q2 : PE X (.Name (Str.ofString t.nm) p2) (tC (.ty t.nm)) := pe_bltn hg2 hm2 (bootTy t) rfl (by cases t <;> decide) (by cases t <;> decide)
  exact PEimp (pe_callB call_isi hg hm (by decide +kernel) (pa_cons (ha false) (pa_cons q2 pa_nil rfl) he) (by decide) (by decide) he hpl) fun σ H Q ⟨σ', μ, h, S, R, o⟩ => by
    simp only [ev] at o
    obtain ⟨r, h1, e1, o1⟩ := o.bnd
    refine ⟨σ', μ, h, S, R, Out.of e1 fun v μ1 H1 R1 E1 x1 => ?_⟩
    exact isiS_snd R1 x1 (o1.up E1)

/-! ### methods -/
def rMt (K : PySem.W.Frag) : MT → RK → V → List V → Hp → VK → Prop
  | .append, .list => rAppend
  | .extend, .list => rExtend
  | .pop, .list => rPop
  | .popAt, .list => rPopAt
  | .index, .list => rIndexP K true
  | .index, .tuple => rIndexP K false
  | .index, .str => fun x xs H Q => ∃ a b i rest, x = .str a ∧ xs = [.str b] ∧ Builtin.Str.occurrences a b 0 a.length 1 = i :: rest ∧ Q (.int (i : Nat)) H
  | .split, .str => fun x xs H Q => ∃ a b, x = .str a ∧ xs = [.str b] ∧ (b.length == 0) = false ∧ a.length + 2 ≤ sizeLine ∧ rNewStrs (Txt.split a b) H Q
  | _, _ => fun _ _ _ _ => False
/-- the method is there -/
def MtOn (X : Cx) (m : MT) (k : RK) : Prop := ∃ id, PlainAttrs k.nm ∧ Slot k.nm m.nm id ∧ typeOf (.builtin id) = pure (.type "method_descriptor") ∧ MtR X id (rMt X.K m k)
def sup : MT → RK → Bool
  | .append, .list | .extend, .list | .pop, .list | .popAt, .list | .index, .list | .index, .tuple | .index, .str | .split, .str => true
  | _, _ => false
theorem mt_on (hu : X.A.units + 70 < cLine) (m : MT) (k : RK) : MtOn X m k ∨ sup m k = false := by
  cases m <;> cases k <;> first
    | exact .inr rfl
    | exact .inl ⟨_, PySem.F.plainAttrs_list, PySem.F.slot_list_append, PySem.F.type_list_append, mt_append⟩
    | exact .inl ⟨_, PySem.F.plainAttrs_list, PySem.F.slot_list_extend, PySem.F.type_list_extend, mt_extend⟩
    | exact .inl ⟨_, PySem.F.plainAttrs_list, PySem.F.slot_list_pop, PySem.F.type_list_pop, mt_pop⟩
    | exact .inl ⟨_, PySem.F.plainAttrs_list, PySem.F.slot_list_pop, PySem.F.type_list_pop, mt_popAt⟩
    | exact .inl ⟨_, PySem.F.plainAttrs_list, PySem.F.slot_list_index, PySem.F.type_list_index, mt_indexP hu⟩
    | exact .inl ⟨_, PySem.F.plainAttrs_tuple, PySem.F.slot_tuple_index, PySem.F.type_tuple_index, mt_indexQ hu⟩
    | exact .inl ⟨_, PySem.F.plainAttrs_str, PySem.F.slot_str_index, PySem.F.type_str_index, mt_sindex⟩
    | exact .inl ⟨_, PySem.F.plainAttrs_str, PySem.F.slot_str_split, PySem.F.type_str_split, mt_split⟩
theorem no_sup {m : MT} {k : RK} {r : RV} {rs : List RV} {bx : Bool} {h : Boxes} (e : sup m k = false) : methS bx m k r rs h = .no := by
  cases m <;> cases k <;> first | rfl | cases e
theorem rkOf_snd {r : RV} {k : RK} {v : V} {K : PySem.W.Frag} {mg : Str → Option Value} {μ : List Addr} {H : Hp} {h h' : Boxes} (R : RH K μ h H) (x : VR K mg μ H v r) (e : rkOf r h = .ok k h') : h' = h ∧ TyK K k v H := by
  obtain ⟨d, h1, e1, e2⟩ := bnd_ok e
  obtain ⟨rfl, w⟩ := dat_ok R x e1
  obtain ⟨e3, rfl⟩ := opt_ok e2
  refine ⟨rfl, ?_⟩
  cases d with
  | list ds =>
    cases e3
    obtain ⟨a, vs, rfl, q, _⟩ := w.list
    exact ⟨a, vs, rfl, q⟩
  | str y => cases e3; exact ⟨y, w.str⟩
  | tuple ds =>
    cases e3
    rcases w with w | ⟨_, _, _, _, e, _⟩
    · cases w with
      | tup q n z r => exact ⟨_, rfl, .inl ⟨_, q⟩⟩
      | tupK q r => obtain ⟨o, its, n, q1, q2, q3, _⟩ := q; exact ⟨_, rfl, .inr ⟨o, q1, q2, q3⟩⟩
    · cases e
  | none => cases e3
  | bool _ => cases e3
  | int _ => cases e3
  | dict _ => cases e3
section
variable {K : PySem.W.Frag} {mg : Str → Option Value} {μ : List Addr} {H : Hp} {h h' : Boxes} {Q : VK}
/-- what the change of a box tells -/
theorem mod_snd {n : Nat} {f : List D → M (D × List D)} (R : RH K μ h H) {a : Addr} (ha : μ[n]? = some a) (o : Out K mg μ H (mod n f h) Q) : ∃ ds vs d ds' h2, H a = some (.lst vs) ∧ VDs K μ H vs ds ∧ f ds h = .ok (d, ds') h2 ∧ ds'.length ≤ sizeLine ∧
    ∀ v vs', VD K μ H v d → VDs K μ H vs' ds' → Q v (upd H a (.lst vs')) := by
  unfold mod at o
  cases e : h[n]? with
  | none => rw [e] at o; exact o.elim
  | some b =>
    rw [e] at o
    cases b with
    | gone => exact o.elim
    | lst ds =>
      simp only at o
      cases e2 : f ds h with
      | ex _ _ => rw [e2] at o; exact o.elim
      | no => rw [e2] at o; exact o.elim
      | ok r h2 =>
        obtain ⟨d, ds'⟩ := r
        rw [e2] at o
        simp only at o
        by_cases z : ds'.length ≤ sizeLine
        · rw [if_pos z] at o
          obtain ⟨vs, q1, q2, q3⟩ := R.box n a _ ha e
          refine ⟨ds, vs, d, ds', h2, q1, q2, e2, z, fun v vs' hv hvs => ?_⟩
          obtain ⟨R', E⟩ := R.write ha hvs (by rw [hvs.length]; exact z)
          exact o _ _ _ R' E (.pd (VD.ext E _ _ hv))
        · rw [if_neg z] at o; exact o.elim
theorem VDs.dropLast {vs : List V} {ds : List D} (r : VDs K μ H vs ds) : VDs K μ H vs.dropLast ds.dropLast := by
  rw [List.dropLast_eq_take, List.dropLast_eq_take, r.length]
  exact r.take _
theorem VDs.eraseIdx {vs : List V} {ds : List D} (r : VDs K μ H vs ds) (k : Nat) : VDs K μ H (vs.eraseIdx k) (ds.eraseIdx k) := by
  rw [List.eraseIdx_eq_take_drop_succ, List.eraseIdx_eq_take_drop_succ]
  exact (r.take _).append (r.drop _)
theorem asPd_snd {r : RV} {d : D} {v : V} (e : asPd r = some d) (x : VR K mg μ H v r) : VD K μ H v d := by
  cases r with
  | pd d' => cases e; cases x with | pd q => exact q
  | rf _ => cases e
  | tp _ => cases e
  | fz _ => cases e
  | gl _ => cases e
theorem methS_snd {bx : Bool} {m : MT} {k : RK} {r : RV} {rs : List RV} {v : V} {vs : List V} (R : RH K μ h H) (x : VR K mg μ H v r) (xs : VRs K mg μ H vs rs) (o : Out K mg μ H (methS bx m k r rs h) Q) : rMt K m k v vs H Q := by
  unfold methS at o
  split at o
  · -- append
    split at o
    · cases x with
      | rf ha =>
        cases xs with
        | cons x1 xt =>
          cases xt
          obtain ⟨d, h1, e1, o1⟩ := o.bnd
          obtain ⟨ge1, rfl⟩ := opt_ok e1
          obtain ⟨ds, us, d', ds', h2, q1, q2, e2, z, f⟩ := mod_snd R ha o1
          obtain ⟨e2, rfl⟩ := ret_ok e2
          cases e2
          have x2 := asPd_snd ge1 x1
          have hl := q2.length
          simp at z
          exact ⟨_, us, _, rfl, rfl, q1, by omega, f _ _ .non (q2.append (.cons x2 .nil))⟩
    · exact o.no.elim
  · -- pop
    split at o
    · cases x with
      | rf ha =>
        cases xs
        obtain ⟨ds, us, d', ds', h2, q1, q2, e2, z, f⟩ := mod_snd R ha o
        obtain ⟨d, h3, e3, e4⟩ := bnd_ok e2
        obtain ⟨ge3, rfl⟩ := opt_ok e3
        obtain ⟨e4, rfl⟩ := ret_ok e4
        cases e4
        obtain ⟨u, e5, x5⟩ := q2.get ge3
        exact ⟨_, us, u, rfl, rfl, q1, by rw [q2.length]; exact e5, f _ _ x5 q2.dropLast⟩
    · exact o.no.elim
  · -- popAt
    split at o
    · cases x with
      | rf ha =>
        cases xs with
        | cons x1 xt =>
          cases xt
          cases x1 with
          | pd x1 =>
            cases x1
            obtain ⟨ds, us, d', ds', h2, q1, q2, e2, z, f⟩ := mod_snd R ha o
            obtain ⟨_, h3, e3, e4⟩ := bnd_ok e2
            obtain ⟨g, rfl⟩ := grd_ok e3
            obtain ⟨k, h5, e5, e6⟩ := bnd_ok e4
            obtain ⟨ge5, rfl⟩ := opt_ok e5
            obtain ⟨d, h7, e7, e8⟩ := bnd_ok e6
            obtain ⟨ge7, rfl⟩ := opt_ok e7
            obtain ⟨e8, rfl⟩ := ret_ok e8
            cases e8
            have g := of_decide_eq_true g
            obtain ⟨u, e9, x9⟩ := q2.get ge7
            exact ⟨_, us, _, k, u, rfl, rfl, q1, g.1, g.2, by rw [q2.length]; exact ge5, e9, f _ _ x9 (q2.eraseIdx k)⟩
    · exact o.no.elim
  · -- extend
    split at o
    · split at o
      · exact o.elim
      · rename_i nf
        cases x with
        | rf ha =>
          cases xs with
          | cons x1 xt =>
            cases xt
            obtain ⟨d, h1, e1, o1⟩ := o.bnd
            obtain ⟨rfl, w⟩ := dat_ok R x1 e1
            split at o1
            · obtain ⟨p, ws, rfl, q3, r3, _⟩ := lstM R (by simpa using nf) x1 e1
              obtain ⟨ds, us, d', ds', h2, q1, q2, e2, z, f⟩ := mod_snd R ha o1
              obtain ⟨e2, rfl⟩ := ret_ok e2
              cases e2
              have hl := (q2.append r3).length
              rw [List.length_append] at hl
              exact ⟨_, p, us, ws, rfl, rfl, q1, q3, by omega, f _ _ .non (q2.append r3)⟩
            · exact o1.elim
    · exact o.no.elim
  · -- index of a list
    split at o
    · cases xs with
      | cons x1 xt =>
        cases xt
        cases x1 with
        | pd x1 =>
          obtain ⟨d, h1, e1, o1⟩ := o.bnd
          obtain ⟨rfl, w⟩ := dat_ok R x e1
          split at o1
          · obtain ⟨a, us, rfl, q, r, _⟩ := w.list
            obtain ⟨_, h3, e3, o3⟩ := o1.bnd
            obtain ⟨g, rfl⟩ := grd_ok e3
            obtain ⟨j, h4, e4, o4⟩ := o3.bnd
            obtain ⟨ge4, rfl⟩ := opt_ok e4
            obtain ⟨p1, p2⟩ := VDs.dp _ _ r
            obtain ⟨p3, p4⟩ := VD.dp _ _ x1
            exact ⟨a, _, _, _, us, j, rfl, rfl, q, p1, p2, p3, p4, of_decide_eq_true g, ge4, o4.ret R (.pd (.int _))⟩
          · exact o1.elim
    · exact o.no.elim
  · -- index of a tuple
    split at o
    · cases x with
      | pd x =>
        cases xs with
        | cons x1 xt =>
          cases xt
          cases x1 with
          | pd x1 =>
            obtain ⟨a, us, rfl, q, r, _⟩ := x.sqT
            obtain ⟨_, h3, e3, o3⟩ := o.bnd
            obtain ⟨g, rfl⟩ := grd_ok e3
            obtain ⟨j, h4, e4, o4⟩ := o3.bnd
            obtain ⟨ge4, rfl⟩ := opt_ok e4
            obtain ⟨p1, p2⟩ := VDs.dp _ _ r
            obtain ⟨p3, p4⟩ := VD.dp _ _ x1
            exact ⟨a, _, _, _, us, j, rfl, rfl, q, p1, p2, p3, p4, of_decide_eq_true g, ge4, o4.ret R (.pd (.int _))⟩
    · exact o.no.elim
  · -- index of a text
    split at o
    · cases x with
      | pd x =>
        cases x
        cases xs with
        | cons x1 xt =>
          cases xt
          cases x1 with
          | pd x1 =>
            cases x1
            obtain ⟨j, h4, e4, o4⟩ := o.bnd
            obtain ⟨ge4, rfl⟩ := opt_ok e4
            rename_i z u
            cases q : Builtin.Str.occurrences z u 0 z.length 1 with
            | nil => rw [q] at ge4; cases ge4
            | cons i rest =>
              rw [q] at ge4
              cases ge4
              exact ⟨_, _, j, rest, rfl, rfl, q, o4.ret R (.pd (.int _))⟩
    · exact o.no.elim
  · -- split
    split at o
    · cases x with
      | pd x =>
        cases x
        cases xs with
        | cons x1 xt =>
          cases xt
          cases x1 with
          | pd x1 =>
            cases x1
            obtain ⟨_, h3, e3, o3⟩ := o.bnd
            obtain ⟨g, rfl⟩ := grd_ok e3
            have g := of_decide_eq_true g
            have aux : ∀ l : List Str, VDs K μ H (l.map V.str) (l.map PyData.str) := fun l => by
              induction l with
              | nil => exact .nil
              | cons a l ih => exact .cons (.str a) ih
            exact ⟨_, _, rfl, rfl, g.1, g.2, (newL_snd R (aux _) o3).2⟩
    · exact o.no.elim
  · exact o.no.elim
end
end
end AI

set_option Elab.async false
set_option linter.all false
set_option maxRecDepth 100000
set_option maxHeartbeats 4000000
/-! AiPE4: calls of methods and of the module's defs; tests. -/
namespace AI
open PySem L2 SeqAt
section
variable {X : Cx} {T : TT} {bx : Bool} {a b c : Expr} {x y z : E} {pos apos cpos : Pos}
/-! ### methods -/
theorem p_meth {m : MT} {o : Expr} {es : List Expr} {xs : List E} (hu : X.A.units + 70 < cLine) (ho : pE X T o x) (ha : pA X T (a :: es) xs) (hbase : attributeBase o m.nm X.env (eval o X.env) = eval o X.env)
    (hfew : ((backTo cpos (starEach (a :: es) X.env)).all (fun x => !x.1) && (backToKw cpos (keywordEach [] X.env)).all (fun x => x.1.isSome) && decide ((a :: es).length + ([] : List Keyword).length + (if ([] : List Keyword).isEmpty then 0 else 1) < 30)) = true)
    (hline : (apos.endLine == cpos.line) = true) (hs : starEach (a :: es) X.env = (false, eval a X.env) :: starEach es X.env) (hplain : (backTo cpos (starEach es X.env)).any (·.1) = false) :
    pE X T (.Call (.Attribute o m.nm apos) (a :: es) [] cpos) (.meth m x xs) := fun bx => by
  refine ⟨fun pins s σ H Q I ⟨σ', μ, h, S, R, q⟩ => ?_⟩
  simp only [ev] at q
  obtain ⟨r, h1, e1, q1⟩ := q.bnd
  refine wpAny_Call_method_late hbase hfew hline rfl (thn ((ho false).run pins s σ H (fun v H1 => ∃ μ1, RH X.K μ1 h1 H1 ∧ Ext μ H μ1 H1 ∧ VR X.K X.mg μ1 H1 v r) I ⟨σ', μ, h, S, R, Out.of e1 fun v μ1 H1 R1 E1 x1 => ⟨μ1, R1, E1, x1⟩⟩) fun v s1 ⟨w, H1, I1, rw1, μ1, R1, E1, x1⟩ => ?_)
  obtain ⟨k, h2, e2, q2⟩ := (q1.up E1).bnd
  obtain ⟨rfl, ty⟩ := rkOf_snd R1 x1 e2
  obtain ⟨t1, t2⟩ := ty.is I1 rw1
  obtain ⟨rs, h3, e3, q3⟩ := q2.bnd
  have hA := ha.run cpos pins s1 σ H1 (fun vs H2 => rMt X.K m k w vs H2 Q) I1 ⟨σ', μ1, _, S.ext E1, R1, OutL.of e3 fun vs μ2 H2 R2 E2 x2 => methS_snd R2 (VR.ext E2 _ _ x1) x2 (q3.up E2)⟩
  rcases mt_on hu m k with ⟨id, pa, slot, hty, hm⟩ | no
  · refine ⟨k.nm, id, pa, slot, hty, t1, t2, ?_⟩
    rw [hs] at hA ⊢
    refine Calls.callWith_builtin (by show (false || (backTo cpos (starEach es X.env)).any (·.1)) = false; rw [hplain] <;> rfl) (Calls.evalArgs_plain ?_)
    exact thn hA fun us s2 ⟨vs, H2, I2, r2, q2⟩ => hm pins s2 σ H2 w vs v us Q I2 rw1 r2 q2
  · rw [no_sup no] at q3; exact q3.elim
theorem p_meth0 {m : MT} {o : Expr} (hu : X.A.units + 70 < cLine) (ho : pE X T o x) (hbase : attributeBase o m.nm X.env (eval o X.env) = eval o X.env) (hline : (apos.endLine == cpos.line) = true) :
    pE X T (.Call (.Attribute o m.nm apos) [] [] cpos) (.meth m x []) := fun bx => by
  refine ⟨fun pins s σ H Q I ⟨σ', μ, h, S, R, q⟩ => ?_⟩
  simp only [ev] at q
  obtain ⟨r, h1, e1, q1⟩ := q.bnd
  refine wpAny_Call_method0_late hbase hline (thn ((ho false).run pins s σ H (fun v H1 => ∃ μ1, RH X.K μ1 h1 H1 ∧ Ext μ H μ1 H1 ∧ VR X.K X.mg μ1 H1 v r) I ⟨σ', μ, h, S, R, Out.of e1 fun v μ1 H1 R1 E1 x1 => ⟨μ1, R1, E1, x1⟩⟩) fun v s1 ⟨w, H1, I1, rw1, μ1, R1, E1, x1⟩ => ?_)
  obtain ⟨k, h2, e2, q2⟩ := (q1.up E1).bnd
  obtain ⟨rfl, ty⟩ := rkOf_snd R1 x1 e2
  obtain ⟨t1, t2⟩ := ty.is I1 rw1
  obtain ⟨rs, h3, e3, q3⟩ := q2.bnd
  simp only [evs] at e3
  obtain ⟨rfl, rfl⟩ := ret_ok e3
  have q4 := methS_snd R1 x1 .nil q3
  rcases mt_on hu m k with ⟨id, pa, slot, hty, hm⟩ | no
  · exact ⟨k.nm, id, pa, slot, hty, t1, t2, Calls.callWith_builtin rfl (PySem.evalArgs_none (hm pins s1 σ H1 w [] v [] Q I1 rw1 .nil q4))⟩
  · rw [no_sup no] at q3; exact q3.elim

/-! ### calls -/
/-- what a def promises: its plain run -/
def spF (K : PySem.W.Frag) (mg : Str → Option Value) (T : TT) (n : Nat) (f : Str) : Sp := fun vs H Q _ => ∃ μ h rs, RH K μ h H ∧ VRs K mg μ H vs rs ∧ rs.length = n ∧ Out K mg μ H (T.raw f rs h) Q
theorem frzD_snd {K : PySem.W.Frag} {mg : Str → Option Value} {μ : List Addr} {H : Hp} {h : Boxes} {n : Nat} {r : RV} {d : D} {v : V} (R : RH K μ h H) (x : VR K mg μ H v r) (e : frzD n h r = some d) : VD K (μ.take n) H v d := by
  cases r with
  | pd d' => cases e; cases x with | pd q => exact VD.less _ _ q
  | rf k =>
    simp only [frzD] at e
    split at e
    · rename_i hk
      cases q : h[k]? with
      | none => rw [q] at e; cases e
      | some b =>
        rw [q] at e
        cases b with
        | gone => cases e
        | lst ds =>
          cases e
          cases x with
          | rf ha => exact VD.ofBox R ha q hk
    · cases e
  | tp _ => cases e
  | fz _ => cases e
  | gl _ => cases e
theorem frzDs_snd {K : PySem.W.Frag} {mg : Str → Option Value} {μ : List Addr} {H : Hp} {h : Boxes} {n : Nat} (R : RH K μ h H) : ∀ {rs : List RV} {ds : List D} {vs : List V}, VRs K mg μ H vs rs → frzDs n h rs = some ds → VDs K (μ.take n) H vs ds
  | [], _, _, .nil, e => by cases e; exact .nil
  | r :: rs, _, _, .cons x t, e => by
    simp only [frzDs] at e
    cases q : frzD n h r with
    | none => rw [q] at e; cases e
    | some d =>
      rw [q] at e
      cases q2 : frzDs n h rs with
      | none => rw [q2] at e; cases e
      | some ds => rw [q2] at e; cases e; exact .cons (frzD_snd R x q) (frzDs_snd R t q2)
theorem settle_snd {K : PySem.W.Frag} {mg : Str → Option Value} {μ μ' : List Addr} {H H' : Hp} {h h' h2 : Boxes} {r r2 : RV} {v : V} (R : RH K μ h H) (R' : RH K μ' h' H') (E : Ext μ H μ' H') (x : VR K mg μ' H' v r)
    (e : settle h.length bx r h' = .ok r2 h2) : ∃ μ2, RH K μ2 h2 H' ∧ Ext μ H μ2 H' ∧ VR K mg μ2 H' v r2 := by
  have tk : μ'.take h.length = μ := by rw [← R.len]; exact E.take
  have Rt : RH K μ (h'.take h.length) H' := by have := R'.less (k := h.length); rw [tk] at this; exact this
  cases r with
  | pd d =>
    cases e
    cases x with
    | pd q => exact ⟨μ, Rt, E.back, .pd (by have := VD.less (k := h.length) _ _ q; rw [tk] at this; exact this)⟩
  | gl n =>
    cases e
    cases x with
    | gl q => exact ⟨μ, Rt, E.back, .gl q⟩
  | fz ds => cases e
  | tp rs =>
    simp only [settle] at e
    cases q : frzDs h.length h' rs with
    | none => rw [q] at e; cases e
    | some ds =>
      rw [q] at e; cases e
      cases x with
      | tp t n z xs =>
        refine ⟨μ, Rt, E.back, .pd (.tup t (fun m => ?_) z (by have := frzDs_snd R' xs q; rw [tk] at this; exact this))⟩
        exact n (by rw [← tk] at m; exact List.mem_of_mem_take m)
  | rf k =>
    cases x with
    | @rf a _ ha =>
      simp only [settle] at e
      split at e
      · rename_i hk
        cases e
        refine ⟨μ, Rt, E.back, .rf ?_⟩
        rw [← tk, List.getElem?_take, if_pos hk]; exact ha
      · rename_i hk
        cases q : h'[k]? with
        | none => rw [q] at e; cases e
        | some b =>
          rw [q] at e
          cases b with
          | gone => cases e
          | lst ds =>
            simp only at e
            have vd := VD.ofBox R' ha q (Nat.le_of_not_lt hk)
            rw [tk] at vd
            split at e
            · cases e
              cases vd with
              | @lst _ vs _ q1 n1 z1 r1 =>
                have hn : H a = none := E.new a (List.mem_of_getElem? ha) n1
                have E2 : Ext μ H (μ ++ [a]) H' := ⟨E.keep, ⟨[a], rfl⟩, fun b hb nb => by
                  rcases List.mem_append.mp hb with m | m
                  · exact absurd m nb
                  · have : b = a := by simpa using m
                    rw [this]; exact hn⟩
                refine ⟨μ ++ [a], ⟨by simp [Rt.len], ?_, fun i b bb e1 e2 => ?_⟩, E2, .rf ?_⟩
                · rw [List.nodup_append]
                  exact ⟨Rt.nd, by simp, fun x hx y hy z => n1 (by
                    have e : y = a := by simpa using hy
                    rw [← e, ← z]; exact hx)⟩
                · have hsub : ∀ c, c ∈ μ ++ [a] → c ∈ μ' := fun c hc => by
                    rcases List.mem_append.mp hc with m | m
                    · rw [← tk] at m; exact List.mem_of_mem_take m
                    · have : c = a := by simpa using m
                      rw [this]; exact List.mem_of_getElem? ha
                  by_cases hi : i < μ.length
                  · rw [List.getElem?_append_left hi] at e1
                    rw [List.getElem?_append_left (by rw [← Rt.len]; exact hi)] at e2
                    have hi' : i < h.length := by rw [← R.len]; exact hi
                    rw [List.getElem?_take, if_pos hi'] at e2
                    have e1' : μ'[i]? = some b := E.get e1
                    exact (R'.box i b bb e1' e2).sub hsub
                  · have hi' : i = μ.length := by
                      have : i < (μ ++ [a]).length := by
                        rcases Nat.lt_or_ge i (μ ++ [a]).length with z | z
                        · exact z
                        · rw [List.getElem?_eq_none z] at e1; cases e1
                      simp at this; omega
                    subst hi'
                    rw [List.getElem?_append_right (Nat.le_refl _)] at e1
                    rw [List.getElem?_append_right (by rw [Rt.len]; exact Nat.le_refl _), ← Rt.len] at e2
                    simp at e1 e2
                    subst e1; subst e2
                    exact (R'.box k _ _ ha q).sub hsub
                · rw [← R.len, List.getElem?_append_right (Nat.le_refl _)]; simp
            · cases e
              exact ⟨μ, Rt, E.back, .pd vd⟩
theorem call_snd {K : PySem.W.Frag} {mg : Str → Option Value} {μ : List Addr} {H : Hp} {h : Boxes} {f : Str} {n : Nat} {rs : List RV} {vs : List V} {Q : VK} {E : XK} (R : RH K μ h H) (xs : VRs K mg μ H vs rs) (hl : rs.length = n) (o : Out K mg μ H (T.call bx f rs h) Q) : spF K mg T n f vs H Q E := by
  refine ⟨μ, h, rs, R, xs, hl, ?_⟩
  unfold TT.call at o
  cases e : T.raw f rs h with
  | ex _ _ => rw [e] at o; exact o.elim
  | no => rw [e] at o; exact o.elim
  | ok r h1 =>
    rw [e] at o
    intro v μ1 H1 R1 E1 x1
    obtain ⟨r2, h2, e2⟩ := o.inv
    obtain ⟨μ2, R2, E2, x2⟩ := settle_snd R R1 E1 x1 e2
    have o' : Out K mg μ H (.ok r2 h2) Q := by rw [← e2]; exact o
    exact o' v μ2 H1 R2 E2 x2
theorem p_call {f : Str} {fa : Addr} {fd : FuncData} {ps : List Str} {k : Nat} {p : Pos} {es : List Expr} {xs : List E} (F : FnOk X.prog X.w X.K X.mg X.base CX0 k fa fd ps (spF X.K X.mg T ps.length f)) (hr : Room k X.A) (hg : Gl X f) (hm : X.mg f = some (.ref fa))
    (hk : PySem.W.keepIn X.K (.ref fa) = true) (hb : Binds X.K fd ps []) (ha : pA X T (a :: es) xs) (hl : xs.length = ps.length) (hdb : (f == ("__debug__" : Str)) = false) (he : starEach (a :: es) X.env = (false, eval a X.env) :: starEach es X.env)
    (hpl : (backTo pos (starEach es X.env)).any (·.1) = false) : pE X T (.Call (.Name f p) (a :: es) [] pos) (.call f xs) := fun bx =>
  PEimp (pe_call F hr hg hm hk hb .nil pass0 ha hdb he hpl) fun σ H Q ⟨σ', μ, h, S, R, o⟩ => by
    simp only [ev] at o
    obtain ⟨r, h1, e1, o1⟩ := o.bnd
    refine ⟨σ', μ, h, S, R, OutL.of e1 fun v μ1 H1 R1 E1 x1 => ?_⟩
    rw [List.append_nil]
    have len : ∀ (xs : List E) (h h' : Boxes) (r : List RV), evs T σ' xs h = .ok r h' → r.length = xs.length := by
      intro xs
      induction xs with
      | nil => intro h h' r e; simp only [evs] at e; cases e; rfl
      | cons y ys ih =>
        intro h h' r e
        simp only [evs] at e
        obtain ⟨r0, h0, e0, e⟩ := bnd_ok e
        obtain ⟨r1, h2, e2, e⟩ := bnd_ok e
        obtain ⟨rfl, rfl⟩ := ret_ok e
        simp [ih _ _ _ e2]
    exact call_snd R1 x1 (by rw [len _ _ _ _ e1, hl]) (o1.up E1)
theorem p_call0 {f : Str} {fa : Addr} {fd : FuncData} {k : Nat} {p : Pos} (F : FnOk X.prog X.w X.K X.mg X.base CX0 k fa fd [] (spF X.K X.mg T 0 f)) (hr : Room k X.A) (hg : Gl X f) (hm : X.mg f = some (.ref fa))
    (hk : PySem.W.keepIn X.K (.ref fa) = true) (hb : Binds X.K fd [] []) (hdb : (f == ("__debug__" : Str)) = false) : pE X T (.Call (.Name f p) [] [] pos) (.call f []) := fun bx =>
  PEimp (pe_call0 F hr hg hm hk hb .nil pass0 hdb) fun σ H Q ⟨σ', μ, h, S, R, o⟩ => by
    simp only [ev, evs] at o
    obtain ⟨r, h1, e1, o1⟩ := o.bnd
    obtain ⟨rfl, rfl⟩ := ret_ok e1
    exact call_snd (E := E0) R .nil rfl o1

/-! ### tests -/
abbrev pC (X : Cx) (T : TT) (e : Expr) (ĉ : C) : Prop := PT X e (rdC X.K X.mg T ĉ)
abbrev pW (X : Cx) (T : TT) (e : Expr) (ĉ : C) : Prop := PW X e (rdC X.K X.mg T ĉ)
variable {u w : C}
theorem c_val (ha : pE X T a x) (he : ∀ whole, isTrue a X.env whole = (do let v ← whole; standAt a.pos; holding [v] (truthy v))) : pC X T a (.val x) :=
  PTimp (pt_truth (ha false) he) fun σ H Q ⟨σ', μ, h, S, R, o⟩ => by
    simp only [evC] at o
    obtain ⟨r, h1, e1, o1⟩ := o.bnd
    refine ⟨σ', μ, h, S, R, Out.of e1 fun v μ1 H1 R1 E1 x1 => ?_⟩
    obtain ⟨k, h2, e2⟩ := o1.inv
    obtain ⟨rfl, t⟩ := truth_snd R1 x1 e2
    rw [e2] at o1
    exact ⟨k, t, o1 _ _ R1 E1⟩
theorem c_cmp {op : CmpOp} (hu : X.A.units + 70 < cLine) (ha : pE X T a x) (hb : pE X T b y) (hm : behindInMarks op b = false) : pC X T (.Compare a [op] [b] pos) (.val (.cmp op x y)) :=
  PTimp (pt_cmpR (op_cmp hu op) (ha false) (hb false) hm) fun σ H Q ⟨σ', μ, h, S, R, o⟩ => by
    simp only [evC, ev] at o
    obtain ⟨r0, h0, e0, o0⟩ := o.bnd
    obtain ⟨r, h1, e1, g1⟩ := bnd_ok e0
    refine ⟨σ', μ, h, S, R, Out.of e1 fun v μ1 H1 R1 E1 x1 => ?_⟩
    obtain ⟨r2, h2, e2, g2⟩ := bnd_ok g1
    refine ⟨σ', μ1, h1, S.ext E1, R1, Out.of e2 fun v2 μ2 H2 R2 E2 x2 => ?_⟩
    obtain ⟨k, h3, e3, g3⟩ := bnd_ok g2
    obtain ⟨rfl, f⟩ := cmpS_snd R2 (VR.ext E2 _ _ x1) x2 e3
    obtain ⟨rfl, rfl⟩ := ret_ok g3
    exact f _ ⟨k, rfl, o0 _ _ R2 (E1.trans E2)⟩
theorem c_cmp2 {op op' : CmpOp} (hu : X.A.units + 70 < cLine) (ha : pE X T a x) (hb : pE X T b y) (hc : pE X T c z) (hm : lastMarks [op, op'] [b, c] = false) : pC X T (.Compare a [op, op'] [b, c] pos) (.val (.cmp2 op op' x y z)) :=
  PTimp (pt_chain (op_cmp hu op) (op_cmp hu op') (ha false) (hb false) (hc false) hm) fun σ H Q ⟨σ', μ, h, S, R, o⟩ => by
    simp only [evC, ev] at o
    obtain ⟨r0, h0, e0, o0⟩ := o.bnd
    obtain ⟨r, h1, e1, g1⟩ := bnd_ok e0
    refine ⟨σ', μ, h, S, R, Out.of e1 fun v μ1 H1 R1 E1 x1 => ?_⟩
    obtain ⟨r2, h2, e2, g2⟩ := bnd_ok g1
    refine ⟨σ', μ1, h1, S.ext E1, R1, Out.of e2 fun v2 μ2 H2 R2 E2 x2 => ?_⟩
    obtain ⟨k, h3, e3, g3⟩ := bnd_ok g2
    obtain ⟨rfl, f⟩ := cmpS_snd R2 (VR.ext E2 _ _ x1) x2 e3
    refine f _ ⟨k, rfl, ?_⟩
    cases k with
    | false =>
      rw [if_neg Bool.false_ne_true] at g3 ⊢
      obtain ⟨rfl, rfl⟩ := ret_ok g3
      exact ⟨false, rfl, o0 _ _ R2 (E1.trans E2)⟩
    | true =>
      rw [if_pos rfl] at g3 ⊢
      obtain ⟨r4, h4, e4, g4⟩ := bnd_ok g3
      refine ⟨σ', μ2, _, (S.ext E1).ext E2, R2, Out.of e4 fun v4 μ4 H4 R4 E4 x4 => ?_⟩
      obtain ⟨k', h5, e5, g5⟩ := bnd_ok g4
      obtain ⟨rfl, f'⟩ := cmpS_snd R4 (VR.ext E4 _ _ x2) x4 e5
      obtain ⟨rfl, rfl⟩ := ret_ok g5
      exact f' _ ⟨k', rfl, o0 _ _ R4 ((E1.trans E2).trans E4)⟩
theorem c_and1 (ha : pC X T a u) : pW X T (.BoolOp .And [a] pos) u := pw_and1 ha
theorem c_or1 (ha : pC X T a u) : pW X T (.BoolOp .Or [a] pos) u := pw_or1 ha
theorem c_and {rest : List Expr} (ha : pC X T a u) (hb : pW X T (.BoolOp .And (b :: rest) pos) w) : pW X T (.BoolOp .And (a :: b :: rest) pos) (.and u w) :=
  PWimp (pw_and ha hb) fun σ H Q ⟨σ', μ, h, S, R, o⟩ => by
    simp only [evC] at o
    obtain ⟨k, h1, e1, o1⟩ := o.bnd
    refine ⟨σ', μ, h, S, R, OutB.of e1 fun μ1 H1 R1 E1 => ?_⟩
    cases k with
    | true => rw [if_pos rfl] at o1 ⊢; exact ⟨σ', μ1, h1, S.ext E1, R1, o1.up E1⟩
    | false => rw [if_neg Bool.false_ne_true] at o1 ⊢; exact o1 _ _ R1 E1
theorem c_or {rest : List Expr} (ha : pC X T a u) (hb : pW X T (.BoolOp .Or (b :: rest) pos) w) : pW X T (.BoolOp .Or (a :: b :: rest) pos) (.or u w) :=
  PWimp (pw_or ha hb) fun σ H Q ⟨σ', μ, h, S, R, o⟩ => by
    simp only [evC] at o
    obtain ⟨k, h1, e1, o1⟩ := o.bnd
    refine ⟨σ', μ, h, S, R, OutB.of e1 fun μ1 H1 R1 E1 => ?_⟩
    cases k with
    | true => rw [if_pos rfl] at o1 ⊢; exact o1 _ _ R1 E1
    | false => rw [if_neg Bool.false_ne_true] at o1 ⊢; exact ⟨σ', μ1, h1, S.ext E1, R1, o1.up E1⟩
theorem c_not (ha : pC X T a u) : pC X T (.UnaryOp .Not a pos) (.not u) :=
  PTimp (pt_not ha) fun σ H Q ⟨σ', μ, h, S, R, o⟩ => by
    simp only [evC] at o
    obtain ⟨k, h1, e1, o1⟩ := o.bnd
    exact ⟨σ', μ, h, S, R, OutB.of e1 fun μ1 H1 R1 E1 => o1 _ _ R1 E1⟩
end
end AI

set_option Elab.async false
set_option linter.all false
set_option maxRecDepth 100000
set_option maxHeartbeats 4000000
/-! AiPI: what is walked. -/
namespace AI
open PySem L2 SeqAt RT
structure IsW (K : PySem.W.Frag) (s : Src) (μ1 : List Addr) (H1 : Hp) (J : It) : Prop where
  go : ∀ i μ' h' H' d h'', RH K μ' h' H' → Ext μ1 H1 μ' H' → i < s.items.length → srcAt s i h' = .ok d h'' → h'' = h' ∧ J.go i H' ∧ ∀ x H'', J.yld i H' x H'' → H'' = H' ∧ VD K μ' H' x d
  stop : ∀ μ' h' H' u h'', RH K μ' h' H' → Ext μ1 H1 μ' H' → srcEnd s h' = .ok u h'' → h'' = h' ∧ J.stop s.items.length H'
def rdI (K : PySem.W.Frag) (mg : Str → Option Value) (T : TT) (i : I) : TI := fun σ H R => ∃ σ' μ h s h1, SR K mg μ H σ σ' ∧ RH K μ h H ∧ evI T σ' i h = .ok s h1 ∧
  ∀ μ1 H1 J, RH K μ1 h1 H1 → Ext μ H μ1 H1 → IsW K s μ1 H1 J → R J H1
section
variable {K : PySem.W.Frag} {μ : List Addr} {H : Hp} {h : Boxes}
/-- a list that stays -/
theorem w_list {a : Addr} {vs : List V} {ds : List D} (st : ∀ μ' H', Ext μ H μ' H' → SqL K H' a vs ∧ VDs K μ' H' vs ds) : IsW K ⟨ds, none⟩ μ H (Itl K a) where
  go := fun i μ' h' H' d h'' R E hi e => by
    obtain ⟨ge, rfl⟩ := opt_ok (show M.opt ds[i]? h' = .ok d h'' from e)
    obtain ⟨q, r⟩ := st _ _ E
    obtain ⟨v, e1, x1⟩ := r.get ge
    exact ⟨rfl, ⟨vs, v, q, e1⟩, fun x H'' ⟨e2, f⟩ => ⟨e2, by have := f vs q; rw [e1] at this; cases this; exact x1⟩⟩
  stop := fun μ' h' H' u h'' R E e => by
    obtain ⟨q, r⟩ := st _ _ E
    cases e
    exact ⟨rfl, vs, q, Nat.le_of_eq r.length⟩
theorem w_tup {a : Addr} {vs : List V} {ds : List D} (st : ∀ μ' H', Ext μ H μ' H' → SqT K H' a vs ∧ VDs K μ' H' vs ds) : IsW K ⟨ds, none⟩ μ H (Itt K a) where
  go := fun i μ' h' H' d h'' R E hi e => by
    obtain ⟨ge, rfl⟩ := opt_ok (show M.opt ds[i]? h' = .ok d h'' from e)
    obtain ⟨q, r⟩ := st _ _ E
    obtain ⟨v, e1, x1⟩ := r.get ge
    exact ⟨rfl, ⟨vs, v, q, e1⟩, fun x H'' ⟨e2, f⟩ => ⟨e2, by have := f vs q; rw [e1] at this; cases this; exact x1⟩⟩
  stop := fun μ' h' H' u h'' R E e => by
    obtain ⟨q, r⟩ := st _ _ E
    cases e
    exact ⟨rfl, vs, q, Nat.le_of_eq r.length⟩
theorem w_box {a : Addr} {n : Nat} {ds : List D} (ha : μ[n]? = some a) : IsW K ⟨ds, some n⟩ μ H (Itl K a) where
  go := fun i μ' h' H' d h'' R E hi e => by
    simp only [srcAt] at e
    cases q : h'[n]? with
    | none => rw [q] at e; cases e
    | some b =>
      rw [q] at e
      cases b with
      | gone => cases e
      | lst es =>
        simp only at e
        split at e
        · rename_i hl
          cases q2 : es[i]? with
          | none => rw [q2] at e; cases e
          | some d' =>
            rw [q2] at e; cases e
            obtain ⟨vs, q3, r, z⟩ := R.box n a _ (E.get ha) q
            obtain ⟨v, e1, x1⟩ := r.get q2
            exact ⟨rfl, ⟨vs, v, .of q3, e1⟩, fun x H'' ⟨e2, f⟩ => ⟨e2, by have := f vs (.of q3); rw [e1] at this; cases this; exact x1⟩⟩
        · cases e
  stop := fun μ' h' H' u h'' R E e => by
    simp only [srcEnd] at e
    cases q : h'[n]? with
    | none => rw [q] at e; cases e
    | some b =>
      rw [q] at e
      cases b with
      | gone => cases e
      | lst es =>
        simp only at e
        split at e
        · rename_i hl
          cases e
          obtain ⟨vs, q3, r, z⟩ := R.box n a _ (E.get ha) q
          exact ⟨rfl, vs, .of q3, by rw [r.length, hl]; exact Nat.le_refl _⟩
        · cases e
theorem w_rng {lo : Int} {n : Nat} : IsW K ⟨rngL lo n, none⟩ μ H (Itr lo n) where
  go := fun i μ' h' H' d h'' R E hi e => by
    obtain ⟨ge, rfl⟩ := opt_ok (show M.opt (rngL lo n)[i]? h' = .ok d h'' from e)
    have hi' : i < n := by simpa [rngL] using hi
    have ed : d = .int (lo + i) := by
      simp [rngL, hi'] at ge
      exact ge.symm
    exact ⟨rfl, hi', fun x H'' ⟨e2, f⟩ => ⟨e2, by rw [f, ed]; exact .int _⟩⟩
  stop := fun μ' h' H' u h'' R E e => by
    cases e
    exact ⟨rfl, by simp [rngL, Itr]⟩
theorem w_str {z : Str} : IsW K ⟨z.cps.toList.map fun c => .str ⟨#[c]⟩, none⟩ μ H (Its z) where
  go := fun i μ' h' H' d h'' R E hi e => by
    obtain ⟨ge, rfl⟩ := opt_ok (show M.opt (z.cps.toList.map fun c => PyData.str ⟨#[c]⟩)[i]? h' = .ok d h'' from e)
    have hi' : i < z.cps.size := by simpa using hi
    refine ⟨rfl, hi', fun x H'' ⟨e2, c, e3, e4⟩ => ⟨e2, ?_⟩⟩
    rw [e4]
    have : d = .str ⟨#[c]⟩ := by
      simp [hi'] at ge
      have e5 : z.cps[i] = c := by simpa [hi'] using e3
      rw [← ge, e5]
    rw [this]; exact .str _
  stop := fun μ' h' H' u h'' R E e => by
    cases e
    exact ⟨rfl, by simp [Its]⟩
theorem rev_get {α : Type} {xs : List α} {i : Nat} (hi : i < xs.length) : xs.reverse[i]? = xs[xs.length - 1 - i]? := List.getElem?_reverse hi
theorem w_rev {a : Addr} {vs : List V} {ds : List D} (st : ∀ μ' H', Ext μ H μ' H' → SqL K H' a vs ∧ VDs K μ' H' vs ds) (hl : vs.length = ds.length) : IsW K ⟨ds.reverse, none⟩ μ H (Itv K a vs.length) where
  go := fun i μ' h' H' d h'' R E hi e => by
    obtain ⟨ge, rfl⟩ := opt_ok (show M.opt ds.reverse[i]? h' = .ok d h'' from e)
    obtain ⟨q, r⟩ := st _ _ E
    have hi' : i < vs.length := by rw [hl]; simpa using hi
    obtain ⟨v, e1, x1⟩ := r.reverse.get ge
    rw [rev_get hi'] at e1
    exact ⟨rfl, ⟨hi', vs, v, q, e1⟩, fun x H'' ⟨e2, f⟩ => ⟨e2, by have := f vs q; rw [e1] at this; cases this; exact x1⟩⟩
  stop := fun μ' h' H' u h'' R E e => by
    cases e
    exact ⟨rfl, by simp [Itv, hl]⟩
theorem w_revT {a : Addr} {vs : List V} {ds : List D} (st : ∀ μ' H', Ext μ H μ' H' → SqT K H' a vs ∧ VDs K μ' H' vs ds) (hl : vs.length = ds.length) : IsW K ⟨ds.reverse, none⟩ μ H (ItvT K a vs.length) where
  go := fun i μ' h' H' d h'' R E hi e => by
    obtain ⟨ge, rfl⟩ := opt_ok (show M.opt ds.reverse[i]? h' = .ok d h'' from e)
    obtain ⟨q, r⟩ := st _ _ E
    have hi' : i < vs.length := by rw [hl]; simpa using hi
    obtain ⟨v, e1, x1⟩ := r.reverse.get ge
    rw [rev_get hi'] at e1
    exact ⟨rfl, ⟨hi', vs, v, q, e1⟩, fun x H'' ⟨e2, f⟩ => ⟨e2, by have := f vs q; rw [e1] at this; cases this; exact x1⟩⟩
  stop := fun μ' h' H' u h'' R E e => by
    cases e
    exact ⟨rfl, by simp [ItvT, hl]⟩
end
section
variable {X : Cx} {T : TT} {a b c : Expr} {x y z : E} {pos : Pos} {tg : Expr}
/-- a list, a tuple or a text is walked -/
def iAny (K : PySem.W.Frag) (te : TE) : TI := fun σ H R => te σ H fun x H1 => (∃ a, x = .ref a ∧ (∃ xs, SqL K H1 a xs) ∧ R (Itl K a) H1) ∨ (∃ a, x = .ref a ∧ (∃ xs, SqT K H1 a xs) ∧ R (Itt K a) H1) ∨ (∃ z, x = .str z ∧ R (Its z) H1)
theorem pi_any {te : TE} (he : PE X a te) : PI X tg a (iAny X.K te) := by
  refine ⟨fun pins s σ H R I h => thn (he.run pins s σ H _ I h) fun v s1 ⟨w, H1, I1, r1, q1⟩ => ?_⟩
  rcases q1 with ⟨p, ew, ⟨xs, hq⟩, q⟩ | ⟨p, ew, ⟨xs, hq⟩, q⟩ | ⟨t, ew, q⟩
  · subst ew
    cases r1
    obtain ⟨its, rv, pl, hz⟩ := I1.list hq
    exact wpAny_pyIter_list pl.isList (pi_one (tk := s1.toks) I1 _ (turn_list p _) ⟨_, Heap.get?_push_size _ rfl, rfl, rfl⟩ q)
  · subst ew
    cases r1
    obtain ⟨its, rv, pl, hz⟩ := I1.tuple hq
    exact wpAny_pyIter_tuple (show s1.heap.IsTuple p its.toArray from pl) (pi_one (tk := s1.toks) I1 _ (turn_tuple p _) ⟨_, Heap.get?_push_size _ rfl, rfl, rfl⟩ q)
  · subst ew
    obtain ⟨k, rfl⟩ := r1
    rcases ha : t.cps.all (· < 128) with _ | _
    · exact wpAny_pyIter_wide ha (pi_one (tk := s1.toks) I1 _ (turn_str _ t k "str_iterator" (.inr rfl)) ⟨_, Heap.get?_push_size _ rfl, rfl, rfl⟩ q)
    · exact wpAny_pyIter_ascii ha (pi_one (tk := s1.toks) I1 _ (turn_str _ t k "str_ascii_iterator" (.inl rfl)) ⟨_, Heap.get?_push_size _ rfl, rfl, rfl⟩ q)
abbrev pIt (X : Cx) (T : TT) (tg e : Expr) (i : I) : Prop := PI X tg e (rdI X.K X.mg T i)
theorem i_val (ha : pE X T a x) : pIt X T tg a (.val x) := PIimp (pi_any (ha false)) fun σ H R ⟨σ', μ, h, s, h1, S, Rh, e, f⟩ => by
  simp only [evI] at e
  obtain ⟨r, h0, e0, e1⟩ := bnd_ok e
  refine ⟨σ', μ, h, S, Rh, Out.of e0 fun v μ1 H1 R1 E1 x1 => ?_⟩
  unfold srcOf at e1
  split at e1
  · obtain ⟨rfl, rfl⟩ := ret_ok e1
    cases x1 with
    | pd q =>
      cases q with
      | @lst p vs _ q n z r => exact .inl ⟨p, rfl, ⟨vs, .of q⟩, f _ _ _ R1 E1 (w_list fun μ' H' E => ⟨.of (E.keep _ _ q n), VDs.ext E _ _ r⟩)⟩
  · obtain ⟨rfl, rfl⟩ := ret_ok e1
    cases x1 with
    | pd q =>
      cases q with
      | @tup p vs _ q n z r => exact .inr (.inl ⟨p, rfl, ⟨vs, q.sq⟩, f _ _ _ R1 E1 (w_tup fun μ' H' E => ⟨(q.ext E n).1.sq, VDs.ext E _ _ r⟩)⟩)
      | @tupK p vs _ q r =>
        have sq : ∀ H', SqT X.K H' p vs := fun H' => by
          obtain ⟨o, its, n, q1, q2, q3, q4, hz, rv⟩ := q
          exact .inr ⟨o, its, n, q1, q2, q4, hz, rv⟩
        exact .inr (.inl ⟨p, rfl, ⟨vs, sq _⟩, f _ _ _ R1 E1 (w_tup fun μ' H' E => ⟨sq _, VDs.ext E _ _ r⟩)⟩)
  · obtain ⟨rfl, rfl⟩ := ret_ok e1
    cases x1 with
    | pd q => cases q; exact .inr (.inr ⟨_, rfl, f _ _ _ R1 E1 w_str⟩)
  · obtain ⟨rfl, rfl⟩ := ret_ok e1
    cases x1 with
    | @fz p vs _ q o z r =>
      rcases o with ⟨⟨ob, o⟩, n⟩ | o
      · exact .inl ⟨p, rfl, ⟨vs, q⟩, f _ _ _ R1 E1 (w_list fun μ' H' E => ⟨.inl (.inr ⟨ob, E.keep _ _ o n⟩), VDs.ext E _ _ r⟩)⟩
      · exact .inl ⟨p, rfl, ⟨vs, q⟩, f _ _ _ R1 E1 (w_list fun μ' H' E => ⟨.inr o, VDs.ext E _ _ r⟩)⟩
  · rename_i n
    cases x1 with
    | @rf p _ ha =>
      cases q : h0[n]? with
      | none => rw [q] at e1; cases e1
      | some b =>
        rw [q] at e1
        cases b with
        | gone => cases e1
        | lst ds =>
          cases e1
          obtain ⟨vs, q1, r, z⟩ := R1.box n p _ ha q
          exact .inl ⟨p, rfl, ⟨vs, .of q1⟩, f _ _ _ R1 E1 (w_box ha)⟩
  · cases e1
theorem i_rng1 {p : Pos} (hg : Gl X "range") (hm : X.mg "range" = none) (ha : pA X T [a] [x]) (hs : starEach [a] X.env = [(false, eval a X.env)]) : pIt X T tg (.Call (.Name "range" p) [a] [] pos) (.rng [x]) :=
  PIimp (pi_range1 hg hm ha hs) fun σ H R ⟨σ', μ, h, s, h1, S, Rh, e, f⟩ => by
    simp only [evI] at e
    obtain ⟨r, h0, e0, e1⟩ := bnd_ok e
    refine ⟨σ', μ, h, S, Rh, OutL.of e0 fun v μ1 H1 R1 E1 x1 => ?_⟩
    unfold rngOf at e1
    split at e1
    · obtain ⟨_, h2, e2, e3⟩ := bnd_ok e1
      obtain ⟨g, rfl⟩ := grd_ok e2
      obtain ⟨rfl, rfl⟩ := ret_ok e3
      have g := of_decide_eq_true g
      cases x1 with
      | cons x1 xt =>
        cases xt
        cases x1 with
        | pd x1 => cases x1; exact ⟨_, rfl, g.1, g.2, f _ _ _ R1 E1 w_rng⟩
    · exfalso
      simp only [evs] at e0
      obtain ⟨r1, h3, e4, e5⟩ := bnd_ok e0
      obtain ⟨r2, h4, e6, e7⟩ := bnd_ok e5
      obtain ⟨rfl, rfl⟩ := ret_ok e6
      obtain ⟨e8, _⟩ := ret_ok e7
      cases e8
    · cases e1
theorem i_rng2 {p : Pos} (hg : Gl X "range") (hm : X.mg "range" = none) (ha : pA X T [a, b] [x, y]) (hs : starEach [a, b] X.env = [(false, eval a X.env), (false, eval b X.env)]) (hs2 : starEach [b] X.env = [(false, eval b X.env)]) :
    pIt X T tg (.Call (.Name "range" p) [a, b] [] pos) (.rng [x, y]) :=
  PIimp (pi_range2 hg hm ha hs hs2) fun σ H R ⟨σ', μ, h, s, h1, S, Rh, e, f⟩ => by
    simp only [evI] at e
    obtain ⟨r, h0, e0, e1⟩ := bnd_ok e
    refine ⟨σ', μ, h, S, Rh, OutL.of e0 fun v μ1 H1 R1 E1 x1 => ?_⟩
    unfold rngOf at e1
    split at e1
    · exfalso
      simp only [evs] at e0
      obtain ⟨r1, h3, e4, e5⟩ := bnd_ok e0
      obtain ⟨r2, h4, e6, e7⟩ := bnd_ok e5
      obtain ⟨r3, h5, e8, e9⟩ := bnd_ok e6
      obtain ⟨r4, h6, e10, e11⟩ := bnd_ok e9
      obtain ⟨rfl, rfl⟩ := ret_ok e10
      obtain ⟨rfl, rfl⟩ := ret_ok e11
      obtain ⟨e12, _⟩ := ret_ok e7
      cases e12
    · obtain ⟨_, h2, e2, e3⟩ := bnd_ok e1
      obtain ⟨g, rfl⟩ := grd_ok e2
      obtain ⟨rfl, rfl⟩ := ret_ok e3
      have g := of_decide_eq_true g
      cases x1 with
      | cons x1 xt =>
        cases xt with
        | cons x2 xt =>
          cases xt
          cases x1 with
          | pd x1 =>
            cases x1
            cases x2 with
            | pd x2 => cases x2; exact ⟨_, _, rfl, g, f _ _ _ R1 E1 w_rng⟩
    · cases e1
theorem i_rev {p : Pos} (hg : Gl X "reversed") (hm : X.mg "reversed" = none) (ha : pE X T a x) (hs : starEach [a] X.env = (false, eval a X.env) :: starEach [] X.env) : pIt X T tg (.Call (.Name "reversed" p) [a] [] pos) (.rev x) :=
  PIimp (pi_revA hg hm (ha false) hs) fun σ H R ⟨σ', μ, h, s, h1, S, Rh, e, f⟩ => by
    simp only [evI] at e
    obtain ⟨r, h0, e0, e1⟩ := bnd_ok e
    refine ⟨σ', μ, h, S, Rh, Out.of e0 fun v μ1 H1 R1 E1 x1 => ?_⟩
    unfold revOf at e1
    split at e1
    · obtain ⟨rfl, rfl⟩ := ret_ok e1
      cases x1 with
      | pd q =>
        cases q with
        | @lst p vs _ q n z r => exact ⟨p, vs, rfl, .inl ⟨.of q, f _ _ _ R1 E1 (w_rev (fun μ' H' E => ⟨.of (E.keep _ _ q n), VDs.ext E _ _ r⟩) r.length)⟩⟩
    · obtain ⟨rfl, rfl⟩ := ret_ok e1
      cases x1 with
      | pd q =>
        cases q with
        | @tup p vs _ q n z r => exact ⟨p, vs, rfl, .inr ⟨q.sq, f _ _ _ R1 E1 (w_revT (fun μ' H' E => ⟨(q.ext E n).1.sq, VDs.ext E _ _ r⟩) r.length)⟩⟩
        | @tupK p vs _ q r =>
          have sq : ∀ H', SqT X.K H' p vs := fun H' => by
            obtain ⟨o, its, n, q1, q2, q3, q4, hz, rv⟩ := q
            exact .inr ⟨o, its, n, q1, q2, q4, hz, rv⟩
          exact ⟨p, vs, rfl, .inr ⟨sq _, f _ _ _ R1 E1 (w_revT (fun μ' H' E => ⟨sq _, VDs.ext E _ _ r⟩) r.length)⟩⟩
    · cases e1
end
end AI

set_option Elab.async false
set_option linter.all false
set_option maxRecDepth 100000
set_option maxHeartbeats 4000000
/-! AiPG: targets, comprehensions. -/
namespace AI
open PySem L2 SeqAt
/-! the slots that a target stores -/
mutual
def gSl : G → List Nat
  | .nm i => [i]
  | .tup gs => gSls gs
  | .sub _ _ => []
def gSls : List G → List Nat
  | [] => []
  | g :: gs => gSl g ++ gSls gs
end
theorem wipe_get {σ : L2.St} {k : Nat} : ∀ {vs : List Nat}, (L2.wipe σ vs)[k]? = if k ∈ vs ∧ k < σ.length then some none else σ[k]?
  | [] => by simp [L2.wipe]
  | v :: vs => by
    simp only [L2.wipe]
    by_cases h : v = k
    · subst h
      by_cases z : v < σ.length
      · rw [List.getElem?_set_self (by rw [wipe_length]; exact z)]; simp [z]
      · rw [List.getElem?_eq_none (by simp [wipe_length]; omega)]; simp [z]
    · rw [List.getElem?_set_ne h, wipe_get]
      have : (k ∈ v :: vs) ↔ k ∈ vs := by simp [Ne.symm h]
      simp only [this]
theorem wipe_set {σ : L2.St} {i : Nat} {v : Option V} {vs : List Nat} (h : i ∈ vs) : L2.wipe (σ.set i v) vs = L2.wipe σ vs := by
  apply List.ext_getElem?
  intro k
  rw [wipe_get, wipe_get]
  by_cases e : i = k
  · subst e
    by_cases z : i < σ.length
    · simp [h, z]
    · rw [if_neg (by simp [z]), if_neg (by simp [z]), List.getElem?_eq_none (by simp; omega), List.getElem?_eq_none (by omega)]
  · rw [List.getElem?_set_ne e, List.length_set]
def OutG (K : PySem.W.Frag) (mg : Str → Option Value) (μ : List Addr) (H : Hp) (sl : List Nat) (σ : L2.St) (res : Res Sl) (Q : L2.St → Hp → Prop) : Prop := match res with
  | .ok σ' h' => ∀ σ2 μ' H', RH K μ' h' H' → Ext μ H μ' H' → SR K mg μ' H' σ2 σ' → (∀ own : List Nat, (∀ i ∈ sl, i ∈ own) → L2.wipe σ2 own = L2.wipe σ own) → Q σ2 H'
  | _ => False
def rdG (K : PySem.W.Frag) (mg : Str → Option Value) (T : TT) (g : G) : TG := fun v σ H Q => ∃ σ' μ h r, SR K mg μ H σ σ' ∧ RH K μ h H ∧ VR K mg μ H v r ∧ OutG K mg μ H (gSl g) σ (asgG T g r σ' h) Q
def rdGs (K : PySem.W.Frag) (mg : Str → Option Value) (T : TT) (g : List G) : TGs := fun vs σ H Q => ∃ σ' μ h rs, SR K mg μ H σ σ' ∧ RH K μ h H ∧ VRs K mg μ H vs rs ∧ OutG K mg μ H (gSls g) σ (asgGs T g rs σ' h) Q
section
variable {K : PySem.W.Frag} {mg : Str → Option Value} {μ μ' : List Addr} {H H' : Hp} {h h' : Boxes} {sl : List Nat} {σ : L2.St} {Q : L2.St → Hp → Prop}
theorem OutG.bnd {α : Type} {m : M α} {f : α → M Sl} (o : OutG K mg μ H sl σ (M.bnd m f h) Q) : ∃ a h1, m h = .ok a h1 ∧ OutG K mg μ H sl σ (f a h1) Q := by
  unfold M.bnd at o
  cases e : m h with
  | ok a h1 => rw [e] at o; exact ⟨a, h1, rfl, o⟩
  | ex x h1 => rw [e] at o; exact o.elim
  | no => rw [e] at o; exact o.elim
theorem OutG.up {res : Res Sl} (e : Ext μ H μ' H') (o : OutG K mg μ H sl σ res Q) : OutG K mg μ' H' sl σ res Q := by
  cases res with
  | ok r h' => exact fun σ2 μ2 H2 a b c d => o σ2 μ2 H2 a (e.trans b) c d
  | ex _ _ => exact o
  | no => exact o
theorem OutG.of {res : Res Sl} {r : Sl} (e : res = .ok r h') (f : ∀ σ2 μ' H', RH K μ' h' H' → Ext μ H μ' H' → SR K mg μ' H' σ2 r → (∀ own : List Nat, (∀ i ∈ sl, i ∈ own) → L2.wipe σ2 own = L2.wipe σ own) → Q σ2 H') : OutG K mg μ H sl σ res Q := by
  rw [e]; exact f
end
section
variable {X : Cx} {T : TT} {a b c : Expr} {x y z : E} {pos : Pos}
abbrev pG (X : Cx) (T : TT) (e : Expr) (g : G) : Prop := PG X e (rdG X.K X.mg T g)
abbrev pGs (X : Cx) (T : TT) (e : List Expr) (g : List G) : Prop := PGs X e (rdGs X.K X.mg T g)
theorem g_nm {i : Nat} {n : Str} (hN : X.N.Nodup) (hi : X.N[i]? = some n) (hx : Loc X.env.scope n) (hf : X.fn n = true ∨ X.env.scope.names.lookup n = some .local) : pG X T (.Name n pos) (.nm i) :=
  PGimp (pg_name hN hi hx hf) fun v σ H Q ⟨σ', μ, h, r, S, R, xv, o⟩ => by
    simp only [asgG] at o
    exact o _ _ _ R .refl (S.set xv i) fun own ho => wipe_set (ho i (by simp [gSl]))
theorem gs_nil : pGs X T [] [] := PGsimp pgs_nil fun vs σ H Q ⟨σ', μ, h, rs, S, R, xv, o⟩ => by
  cases xv with
  | nil => simp only [asgGs] at o; exact ⟨rfl, o _ _ _ R .refl S fun _ _ => rfl⟩
  | cons _ _ => simp only [asgGs] at o; exact o.elim
theorem gs_cons {g : G} {gs : List G} {es : List Expr} (h1 : pG X T a g) (h2 : pGs X T es gs) (hs : (assignEach (a :: es) X.env).map (·.2) = assign a X.env :: (assignEach es X.env).map (·.2)) : pGs X T (a :: es) (g :: gs) :=
  PGsimp (pgs_cons h1 h2 hs) fun vs σ H Q ⟨σ', μ, h, rs, S, R, xv, o⟩ => by
    cases xv with
    | nil => simp only [asgGs] at o; exact o.elim
    | @cons v vs r rs xv xs =>
      simp only [asgGs] at o
      obtain ⟨s1, h1, e1, o1⟩ := o.bnd
      refine ⟨v, vs, rfl, σ', μ, h, r, S, R, xv, OutG.of e1 fun σ2 μ1 H1 R1 E1 S1 w1 => ?_⟩
      refine ⟨s1, μ1, h1, rs, S1, R1, VRs.ext E1 _ _ xs, ?_⟩
      have o2 := o1.up E1
      cases e2 : asgGs T gs rs s1 h1 with
      | ok s2 h2 =>
        rw [e2] at o2
        intro σ3 μ3 H3 R3 E3 S3 w3
        refine o2 σ3 μ3 H3 R3 E3 S3 fun own ho => ?_
        rw [w3 own fun i hi => ho i (by simp [gSls, hi]), w1 own fun i hi => ho i (by simp [gSls, hi])]
      | ex _ _ => rw [e2] at o2; exact o2.elim
      | no => rw [e2] at o2; exact o2.elim
theorem g_tup {es : List Expr} {gs : List G} {k : Nat} (hc : X.calm = true) (h : pGs X T es gs) (hn : (assignEach es X.env).length = gs.length) (hst : (assignEach es X.env).findIdx? (·.1) = none) : pG X T (.Tuple es k pos) (.tup gs) :=
  PGimp (pg_tup (n := gs.length) hc h hn hst) fun v σ H Q ⟨σ', μ, h, r, S, R, xv, o⟩ => by
    simp only [asgG] at o
    obtain ⟨rs, h1, e1, o1⟩ := o.bnd
    unfold itemsOf at e1
    split at e1
    · rename_i ds
      split at e1
      · rename_i hl
        obtain ⟨rfl, rfl⟩ := ret_ok e1
        cases xv with
        | pd q =>
          obtain ⟨p, vs, rfl, q1, r1, _⟩ := q.sqT
          have aux : ∀ (ds : List D) (vs : List V), VDs X.K μ H vs ds → VRs X.K X.mg μ H vs (ds.map RV.pd) := by
            intro ds
            induction ds with
            | nil => intro vs h; cases h; exact .nil
            | cons d ds ih => intro vs h; cases h with | cons a b => exact .cons (.pd a) (ih _ b)
          exact ⟨p, vs, rfl, q1, by rw [r1.length]; exact hl, σ', μ, _, _, S, R, aux _ _ r1, o1⟩
      · cases e1
    · rename_i rs'
      split at e1
      · rename_i hl
        obtain ⟨rfl, rfl⟩ := ret_ok e1
        cases xv with
        | tp q n z xs => exact ⟨_, _, rfl, q.sq, by rw [xs.length]; exact hl, σ', μ, _, _, S, R, xs, o1⟩
      · cases e1
    · cases e1
theorem g_sub {o i : Expr} {eo ei : E} (ho : pE X T o eo) (hi : pE X T i ei)
    (ha : ∀ v, assign (.Subscript o i pos) X.env v = (do
      let ov ← holding [v] (eval o X.env)
      let iv ← holding [v, ov] (eval i X.env)
      standAt pos
      holding [v, ov, iv] (setItem ov iv v)
      release [v, ov, iv] [])) : pG X T (.Subscript o i pos) (.sub eo ei) :=
  PGimp (pg_sub (ho false) (hi false) set_list ha) fun v σ H Q ⟨σ', μ, h, r, S, R, xv, q⟩ => by
    simp only [asgG] at q
    obtain ⟨r1, h1, e1, q1⟩ := q.bnd
    refine ⟨σ', μ, h, S, R, Out.of e1 fun v1 μ1 H1 R1 E1 x1 => ?_⟩
    obtain ⟨r2, h2, e2, q2⟩ := (q1.up E1).bnd
    refine ⟨σ', μ1, h1, S.ext E1, R1, Out.of e2 fun v2 μ2 H2 R2 E2 x2 => ?_⟩
    obtain ⟨r3, h3, e3, q3⟩ := (q2.up E2).bnd
    have x1' := VR.ext E2 _ _ x1
    have xv' := VR.ext E2 _ _ (VR.ext E1 _ _ xv)
    unfold setS at e3
    split at e3
    · cases x1' with
      | rf ha =>
        cases x2 with
        | pd x2 =>
          cases x2
          cases xv' with
          | pd xv' =>
            have om : Out X.K X.mg μ2 H2 (mod _ _ h2) (fun _ H3 => ∃ μ3, RH X.K μ3 h3 H3 ∧ Ext μ2 H2 μ3 H3) := Out.of e3 fun v3 μ3 H3 R3 E3 x3 => ⟨μ3, R3, E3⟩
            obtain ⟨ds, us, d, ds', h4, g1, g2, g3, z, f⟩ := mod_snd R2 ha om
            obtain ⟨j, h5, e5, e6⟩ := bnd_ok g3
            obtain ⟨ge5, rfl⟩ := opt_ok e5
            obtain ⟨e7, rfl⟩ := ret_ok e6
            cases e7
            obtain ⟨μ3, R3, E3⟩ := f _ _ .non (g2.set xv' j)
            refine ⟨_, us, _, j, rfl, rfl, g1, by rw [g2.length]; exact ge5, ?_⟩
            exact q3 σ μ3 _ R3 E3 (((S.ext E1).ext E2).ext E3) fun _ _ => rfl
    · cases e3
end
end AI

set_option Elab.async false
set_option linter.all false
set_option maxRecDepth 100000
set_option maxHeartbeats 4000000
/-! AiLc: comprehensions. -/
namespace AI
open PySem L2 SeqAt
def rdTs (K : PySem.W.Frag) (mg : Str → Option Value) (T : TT) (cs : List C) : L2.TT := fun σ H Q => ∃ σ' μ h, SR K mg μ H σ σ' ∧ RH K μ h H ∧ OutB K μ H (evTs T σ' cs h) Q
section
variable {K : PySem.W.Frag} {mg : Str → Option Value} {T : TT} {bx : Bool} {elt : E} {g : G} {it : I} {ifs : List C} {own : List Nat} {σ : L2.St} {H : Hp} {Q : VK}
theorem wipe_wipe {σ : L2.St} {vs : List Nat} : L2.wipe (L2.wipe σ vs) vs = L2.wipe σ vs := by
  apply List.ext_getElem?
  intro k
  rw [wipe_get, wipe_length, wipe_get]
  by_cases h : k ∈ vs ∧ k < σ.length
  · rw [if_pos h, if_pos h]
  · rw [if_neg h, if_neg h]
/-- what stands at turn i -/
structure AtTurn (K : PySem.W.Frag) (s : Src) (turn : D → M (Option D)) (n : Nat) (D : Addr) (μ1 : List Addr) (H1 : Hp) (hF : Boxes) (i : Nat) (H' : Hp) : Prop where
  le : i ≤ s.items.length
  ex : ∃ μ' h', RH K μ' h' H' ∧ Ext μ1 H1 μ' H' ∧ μ'[n]? = some D ∧ ∃ u, lcB n s turn (s.items.length - i) i h' = .ok u hF
theorem lc_snd (hg : ∀ i ∈ gSl g, i ∈ own) (hy : ∃ σ' μ h, SR K mg μ H σ σ' ∧ RH K μ h H ∧ Out K mg μ H (ev T σ' bx (.lc elt g it ifs own) h) Q) :
    tLc (rdI K mg T it) (rdG K mg T g) (rdTs K mg T ifs) (rdE K mg T false elt) own σ H Q := by
  obtain ⟨σ', μ, h, S, R, o⟩ := hy
  simp only [ev] at o
  obtain ⟨s, h1, e1, o1⟩ := o.bnd
  refine ⟨σ', μ, h, s, h1, S, R, e1, fun μ1 H1 J R1 E1 W D hD => ?_⟩
  generalize hturn : (fun d => M.bnd (asgG T g (.pd d) (wipeS σ' own)) fun σ2 => M.bnd (evTs T σ2 ifs) fun k =>
      if k = true then M.bnd (ev T σ2 false elt) fun r => M.bnd (M.opt (asPd r)) fun y => M.ret (some y)
      else M.ret none) = turn at o1
  unfold lcS at o1
  cases eF : lcB h1.length s turn s.items.length 0 (h1 ++ [.lst []]) with
  | ex _ _ => rw [eF] at o1; exact o1.elim
  | no => rw [eF] at o1; exact o1.elim
  | ok u hF =>
    rw [eF] at o1
    have o1 : Out K mg μ H (settle h1.length bx (.rf h1.length) hF) Q := o1
    obtain ⟨R2, E2⟩ := R1.newBox hD .nil (Nat.zero_le _)
    refine ⟨fun i m H' => m = s.items.length - i ∧ AtTurn K s turn h1.length D μ1 H1 hF i H', ⟨s.items.length, rfl, Nat.zero_le _, μ1 ++ [D], h1 ++ [.lst []], R2, E2, ?_, u, ?_⟩, ?_⟩
    · rw [← R1.len, List.getElem?_append_right (Nat.le_refl _)]; simp
    · simpa using eF
    rintro i m H' ⟨rfl, hle, μ', h', R', E', hD', u', e'⟩
    by_cases hi : i < s.items.length
    · obtain ⟨k, hk⟩ : ∃ k, s.items.length - i = k + 1 := ⟨s.items.length - i - 1, by omega⟩
      rw [hk] at e'
      simp only [lcB] at e'
      obtain ⟨d, h3, e3, e4⟩ := bnd_ok e'
      obtain ⟨rfl, go, yl⟩ := W.go i μ' h' H' d h3 R' E' hi e3
      obtain ⟨r, h5, e5, e6⟩ := bnd_ok e4
      clear e'
      refine .inr ⟨go, fun H'' => AtTurn K s turn h1.length D μ1 H1 hF (i + 1) H'', fun H'' a => ⟨s.items.length - (i + 1), by omega, rfl, a⟩, fun x H'' hyl => ?_⟩
      obtain ⟨rfl, vd⟩ := yl x H'' hyl
      rw [← hturn] at e5
      obtain ⟨s2, h6, e7, e8⟩ := bnd_ok e5
      have S' := ((S.ext (E1.trans E')).wipe own)
      refine ⟨wipeS σ' own, μ', _, .pd d, S', R', .pd vd, OutG.of e7 fun σ2 μ2 H2 R2 E2 S2 w2 => ⟨(w2 own hg).trans wipe_wipe, ?_⟩⟩
      obtain ⟨b, h7, e9, e10⟩ := bnd_ok e8
      refine ⟨s2, μ2, h6, S2, R2, OutB.of e9 fun μ3 H3 R3 E3 => ?_⟩
      have hkk : s.items.length - (i + 1) = k := by omega
      cases b with
      | false =>
        rw [if_neg Bool.false_ne_true] at e10 ⊢
        obtain ⟨rfl, rfl⟩ := ret_ok e10
        exact ⟨hi, μ3, _, R3, (E'.trans E2).trans E3, E3.get (E2.get hD'), u', by rw [hkk]; exact e6⟩
      | true =>
        rw [if_pos rfl] at e10 ⊢
        obtain ⟨r2, h8, e11, e12⟩ := bnd_ok e10
        obtain ⟨y, h9, e13, e14⟩ := bnd_ok e12
        obtain ⟨ge13, rfl⟩ := opt_ok e13
        obtain ⟨rfl, rfl⟩ := ret_ok e14
        refine ⟨s2, μ3, h7, S2.ext E3, R3, Out.of e11 fun v μ4 H4 R4 E4 x4 => ?_⟩
        have vy := asPd_snd ge13 x4
        obtain ⟨w, h10, e15, e16⟩ := bnd_ok e6
        have hD4 : μ4[h1.length]? = some D := E4.get (E3.get (E2.get hD'))
        have om : Out K mg μ4 H4 (mod h1.length (fun ds => M.ret (.none, ds ++ [y])) _) (fun _ H5 => ∃ μ5, RH K μ5 h10 H5 ∧ Ext μ4 H4 μ5 H5) := Out.of e15 fun v5 μ5 H5 R5 E5 x5 => ⟨μ5, R5, E5⟩
        obtain ⟨ds, us, d', ds', h11, g1, g2, g3, z, f⟩ := mod_snd R4 hD4 om
        obtain ⟨g4, rfl⟩ := ret_ok g3
        cases g4
        have hl := g2.length
        simp at z
        obtain ⟨μ5, R5, E5⟩ := f _ _ .non (g2.append (.cons vy .nil))
        exact ⟨us, g1, by omega, hi, μ5, h10, R5, (((E'.trans E2).trans E3).trans E4).trans E5, E5.get hD4, u', by rw [hkk]; exact e16⟩
    · have hn : i = s.items.length := by omega
      subst hn
      rw [Nat.sub_self] at e'
      simp only [lcB] at e'
      obtain ⟨rfl, st⟩ := W.stop μ' h' H' u' hF R' E' e'
      refine .inl ⟨st, ?_⟩
      obtain ⟨r2, h2, e2⟩ := o1.inv
      obtain ⟨μ2, Rb, Eb, xb⟩ := settle_snd (mg := mg) (v := .ref D) (bx := bx) R1 R' E' (.rf hD') e2
      have o2 := o1.up E1
      rw [e2] at o2
      exact o2 _ _ _ Rb Eb xb
end
section
variable {X : Cx} {T : TT} {a b c : Expr} {x y z : E} {pos : Pos}
theorem ts_nil : PTs X [] (rdTs X.K X.mg T []) := ⟨fun pins s σ H Q I ⟨σ', μ, h, S, R, o⟩ => pts_nil.run pins s σ H Q I (by
  simp only [evTs] at o
  exact o _ _ R .refl)⟩
theorem ts_one {u : C} (h : pC X T a u) : PTs X [a] (rdTs X.K X.mg T [u]) := ⟨fun pins s σ H Q I ⟨σ', μ, h', S, R, o⟩ => (pts_one h).run pins s σ H Q I (by
  simp only [evTs] at o
  exact ⟨σ', μ, h', S, R, o⟩)⟩
theorem p_lc {elt tg iter : Expr} {ifs : List Expr} {scope : Scope} {own : List (Str × Nat)} {eelt : E} {g : G} {it : I} {eifs : List C} (hc : X.calm = true) (hN : X.N.Nodup) (hi : pIt X T tg iter it) (ok : BlkOk X.N X.env.scope scope own)
    (hg : ∀ (s : Shared) (H : Hp) (C : Addr) (cl : List (Str × Addr)) (fp : List Addr), pG (X.blk s H scope (compEnvC scope cl C X.env) fp) T tg g)
    (ht : ∀ (s : Shared) (H : Hp) (C : Addr) (cl : List (Str × Addr)) (fp : List Addr), PTs (X.blk s H scope (compEnvC scope cl C X.env) fp) ifs (rdTs X.K X.mg T eifs))
    (he : ∀ (s : Shared) (H : Hp) (C : Addr) (cl : List (Str × Addr)) (fp : List Addr), pE (X.blk s H scope (compEnvC scope cl C X.env) fp) T elt eelt)
    (hs : ∀ x, foldedSetIterable iter X.env x = pure x) (hsl : ∀ i ∈ gSl g, i ∈ own.map (·.2)) :
    pE X T (.ListComp elt [⟨tg, iter, ifs, 0⟩] scope pos) (.lc eelt g it eifs (own.map (·.2))) := fun bx =>
  PEimp (pe_lc hc hN hi ok hg ht (fun s H C cl fp => he s H C cl fp false) hs) fun σ H Q hy => lc_snd hsl hy
end
end AI

set_option Elab.async false
set_option linter.all false
set_option maxRecDepth 100000
set_option maxHeartbeats 4000000
/-! AiPS: statements. -/
namespace AI
open PySem L2 SeqAt
/-- what is wanted behind a statement -/
def OutS (K : PySem.W.Frag) (mg : Str → Option Value) (μ : List Addr) (H : Hp) (res : Res Fl) (D : Ends) : Prop := match res with
  | .ok (.nx s) h' => ∀ σ' μ' H', RH K μ' h' H' → Ext μ H μ' H' → SR K mg μ' H' σ' s → D.nx σ' H'
  | .ok (.rt r) h' => ∀ v μ' H', RH K μ' h' H' → Ext μ H μ' H' → VR K mg μ' H' v r → D.rt v H'
  | .ok (.bk s) h' => ∀ σ' μ' H', RH K μ' h' H' → Ext μ H μ' H' → SR K mg μ' H' σ' s → D.bk σ' H'
  | .ok (.ct s) h' => ∀ σ' μ' H', RH K μ' h' H' → Ext μ H μ' H' → SR K mg μ' H' σ' s → D.ct σ' H'
  | _ => False
section
variable {K : PySem.W.Frag} {mg : Str → Option Value} {T : TT} {μ μ' : List Addr} {H H' : Hp} {h h' : Boxes} {D : Ends} {σ : L2.St}
theorem OutS.bnd {α : Type} {m : M α} {f : α → M Fl} (o : OutS K mg μ H (M.bnd m f h) D) : ∃ a h1, m h = .ok a h1 ∧ OutS K mg μ H (f a h1) D := by
  unfold M.bnd at o
  cases e : m h with
  | ok a h1 => rw [e] at o; exact ⟨a, h1, rfl, o⟩
  | ex x h1 => rw [e] at o; exact o.elim
  | no => rw [e] at o; exact o.elim
theorem OutS.up {res : Res Fl} (e : Ext μ H μ' H') (o : OutS K mg μ H res D) : OutS K mg μ' H' res D := by
  cases res with
  | ok r h' =>
    cases r with
    | nx s => exact fun σ2 μ2 H2 a b c => o σ2 μ2 H2 a (e.trans b) c
    | rt s => exact fun σ2 μ2 H2 a b c => o σ2 μ2 H2 a (e.trans b) c
    | bk s => exact fun σ2 μ2 H2 a b c => o σ2 μ2 H2 a (e.trans b) c
    | ct s => exact fun σ2 μ2 H2 a b c => o σ2 μ2 H2 a (e.trans b) c
  | ex _ _ => exact o
  | no => exact o
/-- behind a statement: what its way out leads to -/
theorem OutS.seq {res : Res Fl} {D' : Ends} {k : Sl → M Fl} (o : ∀ f h', res = .ok f h' → match f with
    | .nx s => OutS K mg μ H (k s h') D'
    | f => OutS K mg μ H (.ok f h') D') (ok : ∃ f h', res = .ok f h')
    (d : D.rt = D'.rt ∧ D.bk = D'.bk ∧ D.ct = D'.ct) (n : ∀ σ' s μ' h' H', RH K μ' h' H' → Ext μ H μ' H' → SR K mg μ' H' σ' s → OutS K mg μ' H' (k s h') D' → D.nx σ' H') : OutS K mg μ H res D := by
  obtain ⟨f, h', rfl⟩ := ok
  have o := o f h' rfl
  obtain ⟨d1, d2, d3⟩ := d
  cases f with
  | nx s => exact fun σ' μ' H' R E S => n σ' s μ' h' H' R E S (o.up E)
  | rt s => show ∀ v μ' H', _ → _ → _ → D.rt v H'; rw [d1]; exact o
  | bk s => show ∀ v μ' H', _ → _ → _ → D.bk v H'; rw [d2]; exact o
  | ct s => show ∀ v μ' H', _ → _ → _ → D.ct v H'; rw [d3]; exact o
def rdS (K : PySem.W.Frag) (mg : Str → Option Value) (T : TT) (s : S) : TS := fun D σ H => ∃ σ' μ h, SR K mg μ H σ σ' ∧ RH K μ h H ∧ OutS K mg μ H (ex T s σ' h) D
def rdSs (K : PySem.W.Frag) (mg : Str → Option Value) (T : TT) (ss : List S) : TS := fun D σ H => ∃ σ' μ h, SR K mg μ H σ σ' ∧ RH K μ h H ∧ OutS K mg μ H (exs T ss σ' h) D
end
section
variable {X : Cx} {T : TT} {a b c : Expr} {x y z : E} {pos : Pos} {st : Stmt} {sts : List Stmt} {s : S} {ss : List S}
abbrev pS (X : Cx) (T : TT) (st : Stmt) (s : S) : Prop := PS X st (rdS X.K X.mg T s)
abbrev pSs (X : Cx) (T : TT) (st : List Stmt) (s : List S) : Prop := PSs X st (rdSs X.K X.mg T s)
theorem s_nil : pSs X T [] [] := PSsimp pss_nil fun D σ H ⟨σ', μ, h, S, R, o⟩ => by
  simp only [exs] at o
  exact o _ _ _ R .refl S
theorem s_cons (h1 : pS X T st s) (h2 : pSs X T sts ss) : pSs X T (st :: sts) (s :: ss) := PSsimp (pss_cons h1 h2) fun D σ H ⟨σ', μ, h, S, R, o⟩ => by
  simp only [exs] at o
  refine ⟨σ', μ, h, S, R, ?_⟩
  obtain ⟨f, h1, e1, o1⟩ := o.bnd
  refine OutS.seq (k := fun s => exs T ss s) (D' := D) (fun f' h' e => ?_) ⟨f, h1, e1⟩ ⟨rfl, rfl, rfl⟩ fun σ2 s2 μ2 h2 H2 R2 E2 S2 o2 => ⟨s2, μ2, h2, S2, R2, o2⟩
  rw [e1] at e
  cases e
  cases f <;> exact o1
theorem s_asg {tg e : Expr} {ê : E} {g : G} (he : pE X T e ê) (hg : pG X T tg g) (hs : swapsWithSole [tg] e pos.line X.env = pure false) (hw : swappedStores [tg] e X.env = pure none) (h1 : (assignEach [tg] X.env).map (·.2) = [assign tg X.env]) :
    pS X T (.Assign [tg] e pos) (.asg g ê) := PSimp (ps_asg (he false) hg hs hw h1) fun D σ H ⟨σ', μ, h, S, R, o⟩ => by
  simp only [ex] at o
  obtain ⟨r, h1, e1, o1⟩ := o.bnd
  refine ⟨σ', μ, h, S, R, Out.of e1 fun v μ1 H1 R1 E1 x1 => ?_⟩
  obtain ⟨s2, h2, e2, o2⟩ := (o1.up E1).bnd
  exact ⟨σ', μ1, h1, r, S.ext E1, R1, x1, OutG.of e2 fun σ2 μ2 H2 R2 E2 S2 _ => o2 _ _ _ R2 E2 S2⟩
/-- name = [..] with the comprehension's own way of storing -/
theorem s_setLc {i : Nat} {n : Str} {py spos : Pos} {elt tg iter : Expr} {ifs : List Expr} {scope : Scope} {own : List (Str × Nat)} {eelt : E} {g : G} {it : I} {eifs : List C} {bx : Bool} (hc : X.calm = true) (hN : X.N.Nodup) (hy : X.N[i]? = some n)
    (hyl : X.env.scope.names.lookup n = some .local) (hsw : swapsWith (.ListComp elt [⟨tg, iter, ifs, 0⟩] scope pos) (some (.Name n py)) spos.line X.env = pure true) (hi : pIt X T tg iter it) (ok : BlkOk X.N X.env.scope scope own)
    (hg : ∀ (s : Shared) (H : Hp) (C : Addr) (cl : List (Str × Addr)) (fp : List Addr), pG (X.blk s H scope (compEnvC scope cl C X.env) fp) T tg g)
    (ht : ∀ (s : Shared) (H : Hp) (C : Addr) (cl : List (Str × Addr)) (fp : List Addr), PTs (X.blk s H scope (compEnvC scope cl C X.env) fp) ifs (rdTs X.K X.mg T eifs))
    (he : ∀ (s : Shared) (H : Hp) (C : Addr) (cl : List (Str × Addr)) (fp : List Addr), pE (X.blk s H scope (compEnvC scope cl C X.env) fp) T elt eelt)
    (hs : ∀ x, foldedSetIterable iter X.env x = pure x) (hsl : ∀ i ∈ gSl g, i ∈ own.map (·.2)) :
    pS X T (.Assign [.Name n py] (.ListComp elt [⟨tg, iter, ifs, 0⟩] scope pos) spos) (.asg (.nm i) (if bx = true then .bx (.lc eelt g it eifs (own.map (·.2))) else .lc eelt g it eifs (own.map (·.2)))) :=
  PSimp (ps_setLc hc hN hy hyl hsw hi ok hg ht (fun s H C cl fp => he s H C cl fp false) hs) fun D σ H ⟨σ', μ, h, S, R, o⟩ => by
    simp only [ex] at o
    obtain ⟨r, h1, e1, o1⟩ := o.bnd
    have e2 : ev T σ' bx (.lc eelt g it eifs (own.map (·.2))) h = .ok r h1 := by
      cases bx with
      | false => exact e1
      | true =>
        rw [if_pos rfl] at e1
        simp only [ev] at e1 ⊢
        exact e1
    refine lc_snd (bx := bx) hsl ⟨σ', μ, h, S, R, Out.of e2 fun v μ1 H1 R1 E1 x1 => ?_⟩
    have o2 := o1.up E1
    simp only [asgG] at o2
    exact o2 _ _ _ R1 .refl ((S.ext E1).set x1 i)
theorem s_expr {e : Expr} {ê : E} (he : pE X T e ê) (hs : swapsWith e none pos.line X.env = pure false) : pS X T (.Expr e pos) (.expr ê) := PSimp (ps_expr (he false) hs) fun D σ H ⟨σ', μ, h, S, R, o⟩ => by
  simp only [ex] at o
  obtain ⟨r, h1, e1, o1⟩ := o.bnd
  exact ⟨σ', μ, h, S, R, Out.of e1 fun v μ1 H1 R1 E1 x1 => o1 _ _ _ R1 E1 (S.ext E1)⟩
theorem s_doc {t : Str} {j : Nat} {p1 p2 : Pos} : pS X T (.Expr (.Constant (.str t) j p1) p2) .pass := PSimp ps_doc fun D σ H ⟨σ', μ, h, S, R, o⟩ => by
  simp only [ex] at o
  exact o _ _ _ R .refl S
theorem s_ret {e : Expr} {ê : E} (he : pE X T e ê) : pS X T (.Return (some e) pos) (.ret ê) := PSimp (ps_ret (he false)) fun D σ H ⟨σ', μ, h, S, R, o⟩ => by
  simp only [ex] at o
  obtain ⟨r, h1, e1, o1⟩ := o.bnd
  exact ⟨σ', μ, h, S, R, Out.of e1 fun v μ1 H1 R1 E1 x1 => o1 _ _ _ R1 E1 x1⟩
theorem s_retN : pS X T (.Return none pos) .retN := PSimp ps_retN fun D σ H ⟨σ', μ, h, S, R, o⟩ => by
  simp only [ex] at o
  exact o _ _ _ R .refl (.pd .non)
theorem s_pass : pS X T (.Pass pos) .pass := PSimp ps_pass fun D σ H ⟨σ', μ, h, S, R, o⟩ => by
  simp only [ex] at o
  exact o _ _ _ R .refl S
theorem s_brk : pS X T (.Break pos) .brk := PSimp ps_break fun D σ H ⟨σ', μ, h, S, R, o⟩ => by
  simp only [ex] at o
  exact o _ _ _ R .refl S
theorem s_cnt : pS X T (.Continue pos) .cnt := PSimp ps_continue fun D σ H ⟨σ', μ, h, S, R, o⟩ => by
  simp only [ex] at o
  exact o _ _ _ R .refl S
theorem s_ite {c : Expr} {A B : List Stmt} {u : C} {sa sb : List S} (hc : pC X T c u) (ha : pSs X T A sa) (hb : pSs X T B sb) : pS X T (.If c A B pos) (.ite u sa sb) := PSimp (ps_if hc ha hb) fun D σ H ⟨σ', μ, h, S, R, o⟩ => by
  simp only [ex] at o
  obtain ⟨k, h1, e1, o1⟩ := o.bnd
  refine ⟨σ', μ, h, S, R, OutB.of e1 fun μ1 H1 R1 E1 => ?_⟩
  cases k with
  | true => rw [if_pos rfl] at o1 ⊢; exact ⟨σ', μ1, h1, S.ext E1, R1, o1.up E1⟩
  | false => rw [if_neg Bool.false_ne_true] at o1 ⊢; exact ⟨σ', μ1, h1, S.ext E1, R1, o1.up E1⟩
theorem getV_ok {σ : Sl} {i : Nat} {r : RV} {h h' : Boxes} (e : getV σ i h = .ok r h') : σ[i]? = some (some r) ∧ h' = h := by
  unfold getV at e
  obtain ⟨g1, g2⟩ := opt_ok e
  refine ⟨?_, g2⟩
  cases q : σ[i]? with
  | none => rw [q] at g1; cases g1
  | some w =>
    rw [q] at g1
    cases w with
    | none => cases g1
    | some r' => cases g1; rfl
theorem augS_snd {K : PySem.W.Frag} {mg : Str → Option Value} {μ : List Addr} {H : Hp} {op : Operator} {a b r : RV} {v u : V} {h h' : Boxes} (x : VR K mg μ H v a) (y : VR K mg μ H u b) (e : augS op a b h = .ok r h') :
    h' = h ∧ ∃ i j k, v = .int i ∧ u = .int j ∧ r = .pd (.int k) ∧ ((op = .Add ∧ k = i + j) ∨ (op = .Sub ∧ k = i - j)) := by
  unfold augS at e
  split at e
  · obtain ⟨rfl, rfl⟩ := ret_ok e
    cases x with
    | pd x =>
      cases x
      cases y with
      | pd y => cases y; exact ⟨rfl, _, _, _, rfl, rfl, rfl, .inl ⟨rfl, rfl⟩⟩
  · obtain ⟨rfl, rfl⟩ := ret_ok e
    cases x with
    | pd x =>
      cases x
      cases y with
      | pd y => cases y; exact ⟨rfl, _, _, _, rfl, rfl, rfl, .inr ⟨rfl, rfl⟩⟩
  · cases e
theorem s_augG {i : Nat} {n : Str} {op : Operator} {e : Expr} {ê : E} {p' : Pos} {f : Int → Int → Int} (hop : (op = .Add ∧ f = fun i j => i + j) ∨ (op = .Sub ∧ f = fun i j => i - j)) (hip : PIp X op (ipI f)) (hN : X.N.Nodup) (hi : X.N[i]? = some n) (hx : Loc X.env.scope n)
    (hf : X.fn n = true ∨ X.env.scope.names.lookup n = some .local) (he : pE X T e ê) : pS X T (.AugAssign (.Name n p') op e pos) (.aug op i ê) := PSimp (ps_aug hN hi hx (he false) hip hf) fun D σ H ⟨σ', μ, h, S, R, o⟩ => by
  simp only [ex] at o
  obtain ⟨r, h1, e1, o1⟩ := o.bnd
  obtain ⟨g1, rfl⟩ := getV_ok e1
  obtain ⟨v, q1, x1⟩ := S.get i r g1
  obtain ⟨r2, h2, e2, o2⟩ := o1.bnd
  refine ⟨v, q1, σ', μ, _, S, R, Out.of e2 fun v2 μ2 H2 R2 E2 x2 => ?_⟩
  obtain ⟨r3, h3, e3, o3⟩ := (o2.up E2).bnd
  obtain ⟨rfl, a, b, k, rfl, rfl, rfl, c⟩ := augS_snd (VR.ext E2 _ _ x1) x2 e3
  refine ⟨a, b, rfl, rfl, ?_⟩
  have ek : k = f a b := by
    rcases hop with ⟨h1, h2⟩ | ⟨h1, h2⟩ <;> rcases c with ⟨h3, h4⟩ | ⟨h3, h4⟩
    · rw [h2, h4]
    · rw [h1] at h3; cases h3
    · rw [h1] at h3; cases h3
    · rw [h2, h4]
  rw [← ek]
  exact o3 _ _ _ R2 .refl ((S.ext E2).set (.pd (.int _)) i)
theorem s_aug {i : Nat} {n : Str} {op : Operator} {e : Expr} {ê : E} {p' : Pos} (hop : op = .Add ∨ op = .Sub) (hN : X.N.Nodup) (hi : X.N[i]? = some n) (hx : Loc X.env.scope n) (hf : X.fn n = true ∨ X.env.scope.names.lookup n = some .local) (he : pE X T e ê) :
    pS X T (.AugAssign (.Name n p') op e pos) (.aug op i ê) := by
  rcases hop with rfl | rfl
  · exact s_augG (.inl ⟨rfl, rfl⟩) ip_add hN hi hx hf he
  · exact s_augG (.inr ⟨rfl, rfl⟩) ip_sub hN hi hx hf he
/-- a for -/
structure ForAt (K : PySem.W.Frag) (mg : Str → Option Value) (s : Src) (body : D → Sl → M Fl) (μ1 : List Addr) (H1 : Hp) (D : Ends) (i : Nat) (σ : L2.St) (H' : Hp) : Prop where
  le : i ≤ s.items.length
  ex : ∃ μ' h' σ', RH K μ' h' H' ∧ Ext μ1 H1 μ' H' ∧ SR K mg μ' H' σ σ' ∧ OutS K mg μ' H' (forL s body (s.items.length - i) i σ' h') D
theorem s_for {tg iter : Expr} {body : List Stmt} {g : G} {it : I} {sb : List S} (hp : PassesOwn (model X.prog X.w) X.A X.env X.xe) (hc : X.calm = true) (hi : pIt X T tg iter it) (hg : pG X T tg g) (hb : pSs X T body sb)
    (hs : ∀ x, foldedSetIterable iter X.env x = pure x) : pS X T (.For tg iter body [] pos) (.for_ g it sb) := PSimp (ps_for hp hc hi hg hb hs) fun D σ H ⟨σ', μ, h, S, R, o⟩ => by
  simp only [ex] at o
  obtain ⟨s, h1, e1, o1⟩ := o.bnd
  refine ⟨σ', μ, h, s, h1, S, R, e1, fun μ1 H1 J R1 E1 W => ?_⟩
  generalize hbody : (fun d σ1 => M.bnd (asgG T g (.pd d) σ1) fun σ2 => exs T sb σ2) = bd at o1
  refine ⟨fun i m σ H' => m = s.items.length - i ∧ ForAt X.K X.mg s bd μ1 H1 D i σ H', ⟨s.items.length, rfl, Nat.zero_le _, μ1, h1, σ', R1, .refl, S.ext E1, by simpa using o1.up E1⟩, ?_⟩
  rintro i m σ H' ⟨rfl, hle, μ', h', s', R', E', S', o'⟩
  by_cases hlt : i < s.items.length
  · obtain ⟨k, hk⟩ : ∃ k, s.items.length - i = k + 1 := ⟨s.items.length - i - 1, by omega⟩
    rw [hk] at o'
    simp only [forL] at o'
    obtain ⟨d, h3, e3, o3⟩ := o'.bnd
    obtain ⟨rfl, go, yl⟩ := W.go i μ' h' H' d h3 R' E' hlt e3
    clear o'
    refine .inr ⟨go, fun σ H'' => ForAt X.K X.mg s bd μ1 H1 D (i + 1) σ H'', fun σ H'' a => ⟨s.items.length - (i + 1), by omega, rfl, a⟩, fun x H'' hyl => ?_⟩
    obtain ⟨rfl, vd⟩ := yl x H'' hyl
    obtain ⟨f, h4, e4, o4⟩ := o3.bnd
    rw [← hbody] at e4
    obtain ⟨s2, h6, e7, e8⟩ := bnd_ok e4
    refine ⟨s', μ', _, .pd d, S', R', .pd vd, OutG.of e7 fun σ2 μ2 H2 R2 E2 S2 w2 => ?_⟩
    refine ⟨s2, μ2, h6, S2, R2, ?_⟩
    rw [e8]
    have hkk : s.items.length - (i + 1) = k := by omega
    have o5 := o4.up E2
    cases f with
    | nx s5 => exact fun σ5 μ5 H5 R5 E5 S5 => ⟨hlt, μ5, h4, s5, R5, (E'.trans E2).trans E5, S5, by rw [hkk]; exact o5.up E5⟩
    | ct s5 => exact fun σ5 μ5 H5 R5 E5 S5 => ⟨hlt, μ5, h4, s5, R5, (E'.trans E2).trans E5, S5, by rw [hkk]; exact o5.up E5⟩
    | bk s5 => exact fun σ5 μ5 H5 R5 E5 S5 => o5 σ5 μ5 H5 R5 E5 S5
    | rt r5 => exact fun v5 μ5 H5 R5 E5 x5 => o5 v5 μ5 H5 R5 E5 x5
  · have hn : i = s.items.length := by omega
    subst hn
    rw [Nat.sub_self] at o'
    simp only [forL] at o'
    obtain ⟨u, h3, e3, o3⟩ := o'.bnd
    obtain ⟨rfl, st⟩ := W.stop μ' h' H' u h3 R' E' e3
    exact .inl ⟨st, o3 _ _ _ R' .refl S'⟩
/-- a while -/
structure WhlAt (K : PySem.W.Frag) (mg : Str → Option Value) (test : Sl → M Bool) (body : Sl → M Fl) (μ1 : List Addr) (H1 : Hp) (D : Ends) (m : Nat) (σ : L2.St) (H' : Hp) : Prop where
  ex : ∃ μ' h' σ', RH K μ' h' H' ∧ Ext μ1 H1 μ' H' ∧ SR K mg μ' H' σ σ' ∧ OutS K mg μ' H' (whlL test body m σ' h') D
theorem s_while {c : Expr} {body : List Stmt} {u : C} {sb : List S} (hp : PassesOwn (model X.prog X.w) X.A X.env X.xe) (hc : pC X T c u) (hb : pSs X T body sb) : pS X T (.While c body [] pos) (.while_ u sb) := PSimp (ps_while hp hc hb) fun D σ H ⟨σ', μ, h, S, R, o⟩ => by
  simp only [ex] at o
  refine ⟨fun m σ H' => WhlAt X.K X.mg (fun σ1 => evC T σ1 u) (fun σ1 => exs T sb σ1) μ H D m σ H', ⟨T.wf, μ, h, σ', R, .refl, S, o⟩, ?_⟩
  rintro m σ H' ⟨μ', h', s', R', E', S', o'⟩
  cases m with
  | zero => simp only [whlL] at o'; exact o'.elim
  | succ m =>
    simp only [whlL] at o'
    obtain ⟨b, h1, e1, o1⟩ := o'.bnd
    refine ⟨s', μ', h', S', R', OutB.of e1 fun μ1 H1 R1 E1 => ?_⟩
    have o2 := o1.up E1
    cases b with
    | false =>
      rw [if_neg Bool.false_ne_true] at o2 ⊢
      exact o2 _ _ _ R1 .refl (S'.ext E1)
    | true =>
      rw [if_pos rfl] at o2 ⊢
      obtain ⟨f, h4, e4, o4⟩ := o2.bnd
      refine ⟨fun σ H'' => WhlAt X.K X.mg (fun σ1 => evC T σ1 u) (fun σ1 => exs T sb σ1) μ H D m σ H'', fun σ H'' a => ⟨m, Nat.lt_succ_self m, a⟩, s', μ1, h1, S'.ext E1, R1, ?_⟩
      rw [e4]
      cases f with
      | nx s5 => exact fun σ5 μ5 H5 R5 E5 S5 => ⟨μ5, h4, s5, R5, (E'.trans E1).trans E5, S5, o4.up E5⟩
      | ct s5 => exact fun σ5 μ5 H5 R5 E5 S5 => ⟨μ5, h4, s5, R5, (E'.trans E1).trans E5, S5, o4.up E5⟩
      | bk s5 => exact fun σ5 μ5 H5 R5 E5 S5 => o4 σ5 μ5 H5 R5 E5 S5
      | rt r5 => exact fun v5 μ5 H5 R5 E5 x5 => o4 v5 μ5 H5 R5 E5 x5
end
end AI

set_option Elab.async false
set_option linter.all false
set_option maxRecDepth 100000
set_option maxHeartbeats 4000000
/-! AiCmp: from the text's syntax to the plain one; each step is sound. -/
namespace AI
open PySem L2 SeqAt
/-- what the module has: its defs with the number of their parameters, its constants, the built-ins' names that it does not bind -/
structure Sg where
  ar : Str → Option Nat
  cst : Str → Option D
  nob : List Str

def mapO {α β : Type} (f : α → Option β) : List α → Option (List β)
  | [] => some []
  | a :: as => match f a, mapO f as with
    | some b, some bs => some (b :: bs)
    | _, _ => none
def foldB {α β : Type} (mk : β → β → β) (f : α → Option β) : List α → Option β
  | [] => none
  | [a] => f a
  | a :: b :: as => match f a, foldB mk f (b :: as) with
    | some x, some y => some (mk x y)
    | _, _ => none
def nStar : Expr → Bool
  | .Starred _ _ => false
  | _ => true
def nComp : Expr → Bool
  | .ListComp .. | .SetComp .. | .DictComp .. => false
  | _ => true
def nSet : Expr → Bool
  | .Set .. => false
  | _ => true
def nSlice : Expr → Bool
  | .Slice .. => false
  | _ => true
def nTup : Expr → Bool
  | .Tuple .. => false
  | _ => true
/-- a test that asks its value's truth -/
def plainT : Expr → Bool
  | .Name .. | .Constant .. | .Call .. | .Subscript .. | .BinOp .. | .ListComp .. | .Tuple .. | .List .. => true
  | _ => false
/-- a receiver -/
def recv : Expr → Bool
  | .Name .. | .Subscript .. | .Constant .. => true
  | _ => false
def idxOf (N : List Str) (x : Str) : Option Nat := N.findIdx? fun y => decide (y = x)
def biOf (f : Str) : Option BI := [BI.len, .abs, .max, .min, .all, .any, .sum, .list, .tuple, .int, .str].find? fun b => decide (b.nm = f)
def tyOf (f : Str) : Option TY := [TY.int, .str, .bool, .tuple, .list].find? fun b => decide (Str.ofString b.nm = f)
def mtOf (m : Str) (n : Nat) : Option MT :=
  if m = MT.append.nm ∧ n = 1 then some .append else if m = MT.extend.nm ∧ n = 1 then some .extend else if m = MT.pop.nm ∧ n = 0 then some .pop else if m = MT.popAt.nm ∧ n = 1 then some .popAt
  else if m = MT.index.nm ∧ n = 1 then some .index else if m = MT.split.nm ∧ n = 1 then some .split else none
def glob (sc : Scope) (x : Str) : Bool := decide (sc.names.lookup x = some .globalImplicit)
def okNm (x : Str) : Bool := !(x == ("__debug__" : Str)) && !(x == ("__classdict__" : Str))
/-- the own names of a comprehension's block, with their slots -/
def ownOf (N : List Str) (scope : Scope) : List (Str × Nat) := scope.names.filterMap fun y => match y.2 with
  | .local | .cell => (idxOf N y.1).map fun i => (y.1, i)
  | _ => none
def isLoc (sc : Scope) (x : Str) : Bool := decide (sc.names.lookup x = some .local) || decide (sc.names.lookup x = some .cell)
def cConst : Const → Option D
  | .none => some .none
  | .bool b => some (.bool b)
  | .int i => some (.int i)
  | .str s => some (.str s)
  | _ => none
def inNob (P : Sg) (x : Str) : Bool := P.nob.any fun y => decide (y = x)
mutual
def cE (P : Sg) (N : List Str) : Nat → Scope → Expr → Option E
  | 0, _, _ => none
  | n + 1, sc, e => match e with
    | .Name x _ => if okNm x = true then (match sc.names.lookup x with
        | some .globalImplicit => match P.cst x with
          | some _ => some (.glob x)
          | none => match P.ar x with
            | some _ => some (.fn x)
            | none => none
        | some .globalExplicit => none
        | some _ => (idxOf N x).map .var
        | none => none) else none
    | .Constant c _ _ => (cConst c).map .cst
    | .Tuple es _ _ => if es.all nStar = true then (mapO (cE P N n sc) es).map .tup else none
    | .List es _ => if es.all nStar = true then (mapO (cE P N n sc) es).map .lst else none
    | .BinOp a op b _ => match cE P N n sc a, cE P N n sc b with
      | some x, some y => some (.bin op x y)
      | _, _ => none
    | .UnaryOp .USub a _ => (cE P N n sc a).map .neg
    | .UnaryOp .Not a _ => (cE P N n sc a).map .not
    | .Compare a [op] [b] _ => if behindInMarks op b = false then (match cE P N n sc a, cE P N n sc b with
      | some x, some y => some (.cmp op x y)
      | _, _ => none) else none
    | .Compare a [op, op'] [b, c] _ => if lastMarks [op, op'] [b, c] = false then (match cE P N n sc a, cE P N n sc b, cE P N n sc c with
      | some x, some y, some z => some (.cmp2 op op' x y z)
      | _, _, _ => none) else none
    | .BoolOp .And vs _ => foldB .and (cE P N n sc) vs
    | .BoolOp .Or vs _ => foldB .or (cE P N n sc) vs
    | .Subscript a (.Slice lo hi none _) _ => match cE P N n sc a, cO P N n sc lo, cO P N n sc hi with
      | some x, some l, some u => some (.slc x l u)
      | _, _, _ => none
    | .Subscript a i _ => if nSlice i = true then (match cE P N n sc a, cE P N n sc i with
      | some x, some y => some (.idx x y)
      | _, _ => none) else none
    | .Call (.Name f _) args [] _ => if glob sc f = true ∧ args.all nStar = true ∧ okNm f = true then (match P.ar f with
      | some k => if args.length = k then (mapO (cE P N n sc) args).map (.call f) else none
      | none => if inNob P f = true then (if f = ("isinstance" : Str) then (match args with
          | [a, .Name t _] => match tyOf t with
            | some ty => if glob sc t = true ∧ inNob P t = true then (cE P N n sc a).map (.isi · ty) else none
            | none => none
          | _ => none) else match biOf f, args with
          | some b, _ :: _ => (mapO (cE P N n sc) args).map (.bi b)
          | _, _ => none) else none) else none
    | .Call (.Attribute o m apos) args [] cpos => if recv o = true ∧ args.all nStar = true ∧ (apos.endLine == cpos.line) = true ∧ args.length < 20 then (match mtOf m args.length, cE P N n sc o, mapO (cE P N n sc) args with
      | some mt, some x, some xs => some (.meth mt x xs)
      | _, _, _ => none) else none
    | .ListComp elt [⟨tg, iter, ifs, 0⟩] scope _ => if blkC N sc scope (ownOf N scope) = true ∧ nSet iter = true then
        (match cI P N n sc iter, cG P N n (relS scope sc) (isLoc scope) tg, mapO (cC P N n (relS scope sc)) ifs, cE P N n (relS scope sc) elt with
        | some it, some g, some cs, some x => if (gSl g).all (fun i => (ownOf N scope).any fun p => decide (p.2 = i)) = true ∧ cs.length ≤ 1 then some (.lc x g it cs ((ownOf N scope).map (·.2))) else none
        | _, _, _, _ => none) else none
    | _ => none
def cO (P : Sg) (N : List Str) : Nat → Scope → Option Expr → Option (Option E)
  | 0, _, _ => none
  | n + 1, sc, e => match e with
    | none => some none
    | some e => (cE P N n sc e).map some
def cC (P : Sg) (N : List Str) : Nat → Scope → Expr → Option C
  | 0, _, _ => none
  | n + 1, sc, e => match e with
    | .BoolOp .And vs _ => foldB .and (cC P N n sc) vs
    | .BoolOp .Or vs _ => foldB .or (cC P N n sc) vs
    | .UnaryOp .Not a _ => (cC P N n sc a).map .not
    | .Compare a [op] [b] _ => if behindInMarks op b = false then (match cE P N n sc a, cE P N n sc b with
      | some x, some y => some (.val (.cmp op x y))
      | _, _ => none) else none
    | .Compare a [op, op'] [b, c] _ => if lastMarks [op, op'] [b, c] = false then (match cE P N n sc a, cE P N n sc b, cE P N n sc c with
      | some x, some y, some z => some (.val (.cmp2 op op' x y z))
      | _, _, _ => none) else none
    | e => if plainT e = true then (cE P N n sc e).map .val else none
def cG (P : Sg) (N : List Str) : Nat → Scope → (Str → Bool) → Expr → Option G
  | 0, _, _, _ => none
  | n + 1, sc, tl, e => match e with
    | .Name x _ => if tl x = true then (idxOf N x).map .nm else none
    | .Tuple es _ _ => if es.all nStar = true then (mapO (cG P N n sc tl) es).map .tup else none
    | .Subscript o i _ => if nSlice i = true then (match cE P N n sc o, cE P N n sc i with
      | some x, some y => some (.sub x y)
      | _, _ => none) else none
    | _ => none
def cI (P : Sg) (N : List Str) : Nat → Scope → Expr → Option I
  | 0, _, _ => none
  | n + 1, sc, e => match e with
    | .Call (.Name f p) args [] pos => if f = ("range" : Str) then (if glob sc f = true ∧ inNob P f = true then (match args with
        | [a] => if nStar a = true then (cE P N n sc a).map fun x => .rng [x] else none
        | [a, b] => if nStar a = true ∧ nStar b = true then (match cE P N n sc a, cE P N n sc b with
          | some x, some y => some (.rng [x, y])
          | _, _ => none) else none
        | _ => none) else none)
      else if f = ("reversed" : Str) then (if glob sc f = true ∧ inNob P f = true then (match args with
        | [a] => if nStar a = true then (cE P N n sc a).map .rev else none
        | _ => none) else none)
      else (cE P N n sc e).map .val
    | e => (cE P N n sc e).map .val
end
/-- is the comprehension stored in its own way? -/
def swapC (sc : Scope) (x : Str) (py : Pos) (scope : Scope) (lp : Pos) : Bool := decide (sc.names.lookup x = some .local) && py.line == lp.line && !(scope.names.any fun y => y.1 == x && (y.2 == .local || y.2 == .cell))
def bxE (mu : List Str) (x : Str) (e : E) : E := if mu.any (fun y => decide (y = x)) = true then .bx e else e
def cS (P : Sg) (N : List Str) (mu : List Str) (sc : Scope) : Nat → Stmt → Option S
  | 0, _ => none
  | n + 1, st => match st with
    | .Assign [.Name x py] (.ListComp elt gs scope lp) _ => match cE P N (n + 1) sc (.ListComp elt gs scope lp), idxOf N x with
      | some ê, some i => if isLoc sc x = true then some (.asg (.nm i) (bxE mu x ê)) else none
      | _, _ => none
    | .Assign [.Name x py] e _ => if nComp e = true then (match cE P N n sc e, idxOf N x with
      | some ê, some i => if isLoc sc x = true then some (.asg (.nm i) (bxE mu x ê)) else none
      | _, _ => none) else none
    | .Assign [tg] e _ => if nComp e = true ∧ nTup e = true ∧ nStar tg = true then (match cE P N n sc e, cG P N n sc (isLoc sc) tg with
      | some ê, some g => some (.asg g ê)
      | _, _ => none) else none
    | .AugAssign (.Name x _) op e _ => if (op = .Add ∨ op = .Sub) ∧ isLoc sc x = true then (match cE P N n sc e, idxOf N x with
      | some ê, some i => some (.aug op i ê)
      | _, _ => none) else none
    | .Expr (.Constant (.str _) _ _) _ => some .pass
    | .Expr e _ => if nComp e = true then (cE P N n sc e).map .expr else none
    | .If c a b _ => match cC P N n sc c, mapO (cS P N mu sc n) a, mapO (cS P N mu sc n) b with
      | some u, some x, some y => some (.ite u x y)
      | _, _, _ => none
    | .For tg iter body [] _ => if nSet iter = true then (match cG P N n sc (isLoc sc) tg, cI P N n sc iter, mapO (cS P N mu sc n) body with
      | some g, some it, some x => some (.for_ g it x)
      | _, _, _ => none) else none
    | .While c body [] _ => match cC P N n sc c, mapO (cS P N mu sc n) body with
      | some u, some x => some (.while_ u x)
      | _, _ => none
    | .Return (some e) _ => (cE P N n sc e).map fun x => .ret (bxE mu "return" x)
    | .Return none _ => some .retN
    | .Pass _ => some .pass
    | .Break _ => some .brk
    | .Continue _ => some .cnt
    | _ => none
end AI

set_option Elab.async false
set_option linter.all false
set_option maxRecDepth 100000
set_option maxHeartbeats 4000000
/-! AiFn: the translation is sound. -/
namespace AI
open PySem L2 SeqAt
section
variable {env : Env} {a : Expr} {es : List Expr} {pos : Pos}
theorem star_cons (h : nStar a = true) : starEach (a :: es) env = (false, eval a env) :: starEach es env := by
  cases a <;> first | rfl | cases h
theorem asg_cons (h : nStar a = true) : assignEach (a :: es) env = (false, assign a env) :: assignEach es env := by
  cases a <;> first | rfl | cases h
theorem back_any : ∀ {es : List Expr}, es.all nStar = true → (backTo pos (starEach es env)).any (·.1) = false
  | [], _ => rfl
  | a :: es, h => by
    rw [List.all_cons, Bool.and_eq_true] at h
    rw [star_cons h.1]
    show (false || (backTo pos (starEach es env)).any (·.1)) = false
    rw [back_any h.2]; rfl
theorem back_all : ∀ {es : List Expr}, es.all nStar = true → (backTo pos (starEach es env)).all (fun x => !x.1) = true
  | [], _ => rfl
  | a :: es, h => by
    rw [List.all_cons, Bool.and_eq_true] at h
    rw [star_cons h.1]
    show (!false && (backTo pos (starEach es env)).all (fun x => !x.1)) = true
    rw [back_all h.2]; rfl
theorem recv_base {o : Expr} {m : Str} {w : Sem Value} (h : recv o = true) : attributeBase o m env w = w := by
  cases o <;> first | rfl | cases h
theorem fold_none {v : Value} (h : nSet a = true) : foldedSetIterable a env v = pure v := by
  cases a <;> first | rfl | cases h
theorem plain_ix (h : nSlice a = true) : PlainIx a := fun o i => by
  cases a <;> first | rfl | cases h
theorem plain_true {w : Sem Value} (h : plainT a = true) : isTrue a env w = (do let v ← w; standAt a.pos; holding [v] (truthy v)) := by
  cases a <;> first | rfl | cases h
theorem sw_none {t : Option Expr} {l : Nat} (h : nComp a = true) : swapsWith a t l env = pure false := by
  cases a <;> first | rfl | cases h
theorem ss_none {tg : Expr} (h : nTup a = true) : swappedStores [tg] a env = pure none := by
  cases a <;> first | (cases h; done) | (cases tg <;> rfl)
theorem ss_name {x : Str} {p : Pos} : swappedStores [.Name x p] a env = pure none := by
  cases a <;> rfl
theorem asg_one {tg : Expr} (h : nStar tg = true) : (assignEach [tg] env).map (·.2) = [assign tg env] := by
  rw [asg_cons h]; rfl
end
theorem idxOf_ok {N : List Str} {x : Str} {i : Nat} (h : idxOf N x = some i) : N[i]? = some x := by
  unfold idxOf at h
  rw [List.findIdx?_eq_some_iff_getElem] at h
  obtain ⟨hi, e, _⟩ := h
  rw [List.getElem?_eq_getElem hi, of_decide_eq_true e]
theorem mapO_cons {α β : Type} {f : α → Option β} {a : α} {as : List α} {r : List β} (h : mapO f (a :: as) = some r) : ∃ b bs, f a = some b ∧ mapO f as = some bs ∧ r = b :: bs := by
  simp only [mapO] at h
  split at h
  · rename_i b bs e1 e2
    cases h
    exact ⟨b, bs, e1, e2, rfl⟩
  · cases h
theorem mapO_nil {α β : Type} {f : α → Option β} {r : List β} (h : mapO f [] = some r) : r = [] := by
  simp only [mapO] at h; cases h; rfl
theorem mapO_len {α β : Type} {f : α → Option β} : ∀ {as : List α} {r : List β}, mapO f as = some r → r.length = as.length
  | [], _, h => by rw [mapO_nil h]; rfl
  | a :: as, r, h => by
    obtain ⟨b, bs, _, e, rfl⟩ := mapO_cons h
    simp [mapO_len e]
theorem okNm_ok {x : Str} (h : okNm x = true) : (x == ("__debug__" : Str)) = false ∧ (x == ("__classdict__" : Str)) = false := by
  simp only [okNm, Bool.and_eq_true, Bool.not_eq_true'] at h
  exact h
/-- the context is as the translation says -/
structure Good (P : Sg) (T : TT) (N : List Str) (sc : Scope) (tl : Str → Bool) (X : Cx) : Prop where
  hN : X.N = N
  nd : X.N.Nodup
  hsc : X.env.scope = sc
  calm : X.calm = true
  hu : X.A.units + 70 < cLine
  fnok : ∀ f n, P.ar f = some n → ∃ fa fd ps k, X.mg f = some (.ref fa) ∧ ps.length = n ∧ FnOk X.prog X.w X.K X.mg X.base CX0 k fa fd ps (spF X.K X.mg T ps.length f) ∧ Room k X.A ∧ PySem.W.keepIn X.K (.ref fa) = true ∧ Binds X.K fd ps []
  cst : ∀ x d, P.cst x = some d → ∃ u v, X.mg x = some u ∧ RelV v u ∧ (∀ μ H, VD X.K μ H v d) ∧ T.cst x = some d
  nob : ∀ x, inNob P x = true → X.mg x = none
  tgt : ∀ x, tl x = true → Loc X.env.scope x ∧ (X.fn x = true ∨ X.env.scope.names.lookup x = some .local)
theorem look_rel {ns : List (Str × NameKind)} {f : Str → NameKind → NameKind} (hf : ∀ n k, k ≠ .free → f n k = k) {x : Str} {k : NameKind} (hk : k ≠ .free) (h : ns.lookup x = some k) : (ns.map fun (n, k) => (n, f n k)).lookup x = some k := by
  induction ns with
  | nil => cases h
  | cons y ns ih =>
    obtain ⟨n, k'⟩ := y
    simp only [List.map_cons, List.lookup_cons] at h ⊢
    cases e : x == n with
    | true => rw [e] at h; simp only at h ⊢; cases h; rw [hf n k hk]
    | false => rw [e] at h; exact ih h
theorem relS_names {scope sc : Scope} : (relS scope sc).names = scope.names.map fun (n, k) => (n, if (k == .free && sc.kind == .function && sc.names.lookup n == some .cell) = true then NameKind.cell else k) := by
  unfold relS
  simp only
  congr 1
  funext ⟨n, k⟩
  simp only
  split <;> rfl
theorem Good.blk {P : Sg} {T : TT} {N : List Str} {sc : Scope} {tl : Str → Bool} {X : Cx} (G : Good P T N sc tl X) (scope : Scope) (s : Shared) (H : Hp) (C : Addr) (cl : List (Str × Addr)) (fp : List Addr) :
    Good P T N (relS scope sc) (isLoc scope) (X.blk s H scope (compEnvC scope cl C X.env) fp) where
  hN := G.hN
  nd := G.nd
  hsc := by rw [← G.hsc]; rfl
  calm := G.calm
  hu := G.hu
  fnok := G.fnok
  cst := G.cst
  nob := G.nob
  tgt := fun x h => by
    have e : (X.blk s H scope (compEnvC scope cl C X.env) fp).env.scope = relS scope sc := by rw [← G.hsc]; rfl
    rw [e]
    unfold isLoc at h
    rw [Bool.or_eq_true, decide_eq_true_eq, decide_eq_true_eq] at h
    have hf : ∀ (n : Str) (k : NameKind), k ≠ .free → (if (k == .free && sc.kind == .function && sc.names.lookup n == some .cell) = true then NameKind.cell else k) = k := fun n k hk => by
      rw [if_neg]
      simp [hk]
    rcases h with h | h
    · have q : (relS scope sc).names.lookup x = some .local := by
        rw [relS_names]; exact look_rel hf (by decide) h
      exact ⟨.inl q, .inr q⟩
    · have q : (relS scope sc).names.lookup x = some .cell := by
        rw [relS_names]; exact look_rel hf (by decide) h
      refine ⟨.inr q, .inl ?_⟩
      show (scope.names.lookup x == some .cell) = true
      rw [h]; rfl
end AI

set_option Elab.async false
set_option linter.all false
set_option maxRecDepth 100000
set_option maxHeartbeats 4000000
/-! AiFn2: the translation is sound, form by form. -/
namespace AI
open PySem L2 SeqAt
structure SndN (P : Sg) (T : TT) (N : List Str) (n : Nat) : Prop where
  e : ∀ (sc : Scope) (tl : Str → Bool) (X : Cx) (a : Expr) (x : E), Good P T N sc tl X → cE P N n sc a = some x → pE X T a x
  o : ∀ (sc : Scope) (tl : Str → Bool) (X : Cx) (a : Option Expr) (x : Option E), Good P T N sc tl X → cO P N n sc a = some x → PO X a (rdO X.K X.mg T x)
  c : ∀ (sc : Scope) (tl : Str → Bool) (X : Cx) (a : Expr) (x : C), Good P T N sc tl X → cC P N n sc a = some x → pC X T a x
  g : ∀ (sc : Scope) (tl : Str → Bool) (X : Cx) (a : Expr) (x : G), Good P T N sc tl X → cG P N n sc tl a = some x → pG X T a x
  i : ∀ (sc : Scope) (tl : Str → Bool) (X : Cx) (tg a : Expr) (x : I), Good P T N sc tl X → cI P N n sc a = some x → pIt X T tg a x
section
variable {P : Sg} {T : TT} {N : List Str} {n : Nat} {sc : Scope} {tl : Str → Bool} {X : Cx}
theorem map_ok {α β : Type} {f : α → β} {o : Option α} {b : β} (h : o.map f = some b) : ∃ a, o = some a ∧ b = f a := by
  cases o with
  | none => cases h
  | some a => cases h; exact ⟨a, rfl, rfl⟩
theorem snd_args (ih : SndN P T N n) (G : Good P T N sc tl X) : ∀ {es : List Expr} {xs : List E}, es.all nStar = true → mapO (cE P N n sc) es = some xs → pA X T es xs
  | [], _, _, h => by rw [mapO_nil h]; exact p_nil
  | a :: es, _, hs, h => by
    rw [List.all_cons, Bool.and_eq_true] at hs
    obtain ⟨b, bs, e1, e2, rfl⟩ := mapO_cons h
    exact p_cons (ih.e sc tl X a b G e1) (snd_args ih G hs.2 e2) (star_cons hs.1)
theorem snd_foldAnd {pos : Pos} (ih : SndN P T N n) (G : Good P T N sc tl X) : ∀ {es : List Expr} {x : E}, foldB .and (cE P N n sc) es = some x → pE X T (.BoolOp .And es pos) x
  | [], _, h => by cases h
  | [a], _, h => p_one (ih.e sc tl X a _ G h)
  | a :: b :: es, _, h => by
    simp only [foldB] at h
    split at h
    · rename_i x y e1 e2
      cases h
      exact p_and (ih.e sc tl X a _ G e1) (snd_foldAnd ih G e2)
    · cases h
theorem snd_foldOr {pos : Pos} (ih : SndN P T N n) (G : Good P T N sc tl X) : ∀ {es : List Expr} {x : E}, foldB .or (cE P N n sc) es = some x → pE X T (.BoolOp .Or es pos) x
  | [], _, h => by cases h
  | [a], _, h => p_one (ih.e sc tl X a _ G h)
  | a :: b :: es, _, h => by
    simp only [foldB] at h
    split at h
    · rename_i x y e1 e2
      cases h
      exact p_or (ih.e sc tl X a _ G e1) (snd_foldOr ih G e2)
    · cases h
theorem snd_cAnd {pos : Pos} (ih : SndN P T N n) (G : Good P T N sc tl X) : ∀ {es : List Expr} {x : C}, foldB .and (cC P N n sc) es = some x → pW X T (.BoolOp .And es pos) x
  | [], _, h => by cases h
  | [a], _, h => c_and1 (ih.c sc tl X a _ G h)
  | a :: b :: es, _, h => by
    simp only [foldB] at h
    split at h
    · rename_i x y e1 e2
      cases h
      exact c_and (ih.c sc tl X a _ G e1) (snd_cAnd ih G e2)
    · cases h
theorem snd_cOr {pos : Pos} (ih : SndN P T N n) (G : Good P T N sc tl X) : ∀ {es : List Expr} {x : C}, foldB .or (cC P N n sc) es = some x → pW X T (.BoolOp .Or es pos) x
  | [], _, h => by cases h
  | [a], _, h => c_or1 (ih.c sc tl X a _ G h)
  | a :: b :: es, _, h => by
    simp only [foldB] at h
    split at h
    · rename_i x y e1 e2
      cases h
      exact c_or (ih.c sc tl X a _ G e1) (snd_cOr ih G e2)
    · cases h
theorem snd_gs (ih : SndN P T N n) (G : Good P T N sc tl X) : ∀ {es : List Expr} {xs : List AI.G}, es.all nStar = true → mapO (cG P N n sc tl) es = some xs → pGs X T es xs ∧ (assignEach es X.env).length = xs.length ∧ (assignEach es X.env).findIdx? (·.1) = none
  | [], _, _, h => by rw [mapO_nil h]; exact ⟨gs_nil, rfl, rfl⟩
  | a :: es, _, hs, h => by
    rw [List.all_cons, Bool.and_eq_true] at hs
    obtain ⟨b, bs, e1, e2, rfl⟩ := mapO_cons h
    obtain ⟨h1, h2, h3⟩ := snd_gs ih G hs.2 e2
    refine ⟨gs_cons (ih.g sc tl X a b G e1) h1 (by rw [asg_cons hs.1]; rfl), by rw [asg_cons hs.1]; simp [h2], ?_⟩
    rw [asg_cons hs.1, List.findIdx?_cons, h3]
    rfl
theorem glob_ok (G : Good P T N sc tl X) {x : Str} (h : glob sc x = true) : Gl X x := by
  unfold glob at h
  show X.env.scope.names.lookup x = _
  rw [G.hsc]; exact of_decide_eq_true h
theorem idx_ok (G : Good P T N sc tl X) {x : Str} {i : Nat} (h : idxOf N x = some i) : X.N[i]? = some x := by
  rw [G.hN]; exact idxOf_ok h
theorem find_ok {α : Type} {p : α → Bool} {l : List α} {b : α} (h : l.find? p = some b) : p b = true := List.find?_some h
theorem snd_const {c : Const} {d : D} {k : Nat} {pos : Pos} (h : cConst c = some d) : pE X T (.Constant c k pos) (.cst d) := by
  cases c with
  | none => cases h; exact p_cst pe_non fun _ _ => .non
  | bool b => cases h; exact p_cst pe_bl fun _ _ => .bl b
  | int i => cases h; exact p_cst pe_int fun _ _ => .int i
  | str s => cases h; exact p_cst pe_str fun _ _ => .str s
  | float _ => cases h
  | complex _ _ => cases h
  | bytes _ => cases h
  | ellipsis => cases h
theorem ty_ok {f : Str} {b : TY} (h : tyOf f = some b) : Str.ofString b.nm = f := by
  unfold tyOf at h
  have := List.find?_some h
  exact of_decide_eq_true this
theorem bi_ok {f : Str} {b : BI} (h : biOf f = some b) : b.nm = f := by
  unfold biOf at h
  have := List.find?_some h
  exact of_decide_eq_true this
theorem mt_ok {m : Str} {k : Nat} {t : MT} (h : mtOf m k = some t) : m = t.nm := by
  unfold mtOf at h
  repeat' split at h
  all_goals first
    | (cases h; rename_i q; exact q.1)
    | cases h
theorem snd_E (ih : SndN P T N n) (a : Expr) (x : E) (G : Good P T N sc tl X) (h : cE P N (n + 1) sc a = some x) : pE X T a x := by
  simp only [cE] at h
  split at h
  · -- a name
    split at h
    · rename_i nm p ok
      obtain ⟨o1, o2⟩ := okNm_ok ok
      split at h
      · rename_i hl
        have hg : Gl X nm := by show X.env.scope.names.lookup nm = _; rw [G.hsc]; exact hl
        split at h
        · rename_i d hd
          cases h
          obtain ⟨u, v, e1, e2, e3, e4⟩ := G.cst nm d hd
          exact p_glob (pe_glob hg e1 e2 o1) e4 e3
        · split at h
          · rename_i k hk
            cases h
            obtain ⟨fa, fd, ps, j, e1, _⟩ := G.fnok nm k hk
            exact p_fn hg e1 o1
          · cases h
      · cases h
      · rename_i k hne1 hne2 hl
        obtain ⟨i, e1, rfl⟩ := map_ok h
        refine p_var (idx_ok G e1) ?_ o1 o2
        show X.env.scope.names.lookup nm = _ ∨ _
        rw [G.hsc, hl]
        cases k with
        | «local» => exact .inl rfl
        | cell => exact .inr (.inl rfl)
        | free => exact .inr (.inr rfl)
        | globalExplicit => exact absurd rfl hne2
        | globalImplicit => exact absurd rfl hne1
      · cases h
    · cases h
  · -- a constant
    obtain ⟨d, e1, rfl⟩ := map_ok h
    exact snd_const e1
  · split at h
    · rename_i hs
      obtain ⟨xs, e1, rfl⟩ := map_ok h
      exact p_tup (snd_args ih G hs e1)
    · cases h
  · split at h
    · rename_i hs
      obtain ⟨xs, e1, rfl⟩ := map_ok h
      exact p_lst (snd_args ih G hs e1)
    · cases h
  · split at h
    · rename_i x y e1 e2
      cases h
      exact p_bin (ih.e _ _ _ _ _ G e1) (ih.e _ _ _ _ _ G e2)
    · cases h
  · obtain ⟨y, e1, rfl⟩ := map_ok h
    exact p_neg (ih.e _ _ _ _ _ G e1)
  · obtain ⟨y, e1, rfl⟩ := map_ok h
    exact p_not (ih.e _ _ _ _ _ G e1)
  · split at h
    · rename_i hb
      split at h
      · rename_i x y e1 e2
        cases h
        exact p_cmp G.hu (ih.e _ _ _ _ _ G e1) (ih.e _ _ _ _ _ G e2) hb
      · cases h
    · cases h
  · split at h
    · rename_i hb
      split at h
      · rename_i x y z e1 e2 e3
        cases h
        exact p_cmp2 G.hu (ih.e _ _ _ _ _ G e1) (ih.e _ _ _ _ _ G e2) (ih.e _ _ _ _ _ G e3) hb
      · cases h
    · cases h
  · exact snd_foldAnd ih G h
  · exact snd_foldOr ih G h
  · split at h
    · rename_i x l u e1 e2 e3
      cases h
      exact p_slc (ih.e _ _ _ _ _ G e1) (ih.o _ _ _ _ _ G e2) (ih.o _ _ _ _ _ G e3)
    · cases h
  · split at h
    · rename_i hs
      split at h
      · rename_i x y e1 e2
        cases h
        exact p_idx (ih.e _ _ _ _ _ G e1) (ih.e _ _ _ _ _ G e2) (plain_ix hs)
      · cases h
    · cases h
  · -- a call of a name
    rename_i f p args pos
    split at h
    · rename_i hc
      obtain ⟨hg, hs, ok⟩ := hc
      obtain ⟨o1, o2⟩ := okNm_ok ok
      have hg := glob_ok G hg
      split at h
      · rename_i k hk
        split at h
        · rename_i hl
          obtain ⟨xs, e1, rfl⟩ := map_ok h
          obtain ⟨fa, fd, ps, j, m1, m2, F, hr, kp, bn⟩ := G.fnok f k hk
          cases args with
          | nil =>
            rw [mapO_nil e1]
            have e0 : ps = [] := List.eq_nil_of_length_eq_zero (by rw [m2, ← hl]; rfl)
            subst e0
            exact p_call0 F hr hg m1 kp bn o1
          | cons a es =>
            rw [List.all_cons, Bool.and_eq_true] at hs
            exact p_call F hr hg m1 kp bn (snd_args ih G (by rw [List.all_cons, hs.1, hs.2]; rfl) e1) (by rw [mapO_len e1, m2, hl]) o1 (star_cons hs.1) (back_any hs.2)
        · cases h
      · split at h
        · rename_i hn
          have hm := G.nob f hn
          split at h
          · rename_i hf
            subst hf
            split at h
            · rename_i a t p2
              split at h
              · rename_i ty ht
                split at h
                · rename_i ht2
                  obtain ⟨y, e1, rfl⟩ := map_ok h
                  have et : t = Str.ofString ty.nm := (ty_ok ht).symm
                  subst et
                  rw [List.all_cons, Bool.and_eq_true] at hs
                  exact p_isi hg hm (glob_ok G ht2.1) (G.nob _ ht2.2) (ih.e _ _ _ _ _ G e1) (star_cons hs.1) (back_any hs.2)
                · cases h
              · cases h
            · cases h
          · split at h
            · rename_i b a es hb
              obtain ⟨xs, e1, rfl⟩ := map_ok h
              have ef : f = b.nm := (bi_ok hb).symm
              subst ef
              rw [List.all_cons, Bool.and_eq_true] at hs
              exact p_bi G.calm hg hm (snd_args ih G (by rw [List.all_cons, hs.1, hs.2]; rfl) e1) (star_cons hs.1) (back_any hs.2)
            · cases h
        · cases h
    · cases h
  · -- a method
    rename_i o m apos args cpos
    split at h
    · rename_i hc
      obtain ⟨hr, hs, hl, hn⟩ := hc
      split at h
      · rename_i mt x xs e1 e2 e3
        cases h
        obtain rfl := mt_ok e1
        cases args with
        | nil =>
          rw [mapO_nil e3]
          exact p_meth0 G.hu (ih.e _ _ _ _ _ G e2) (recv_base hr) hl
        | cons a es =>
          have hs0 := hs
          rw [List.all_cons, Bool.and_eq_true] at hs
          refine p_meth G.hu (ih.e _ _ _ _ _ G e2) (snd_args ih G hs0 e3) (recv_base hr) ?_ hl (star_cons hs.1) (back_any hs.2)
          rw [back_all hs0, Bool.and_eq_true, Bool.and_eq_true]
          refine ⟨⟨rfl, rfl⟩, decide_eq_true ?_⟩
          simp at hn ⊢
          omega
      · cases h
    · cases h
  · -- a comprehension
    rename_i elt tg iter ifs scope pos
    split at h
    · rename_i hc
      obtain ⟨hb, hset⟩ := hc
      split at h
      · rename_i it g cs y e1 e2 e3 e4
        split at h
        · rename_i hq
          obtain ⟨hq1, hq2⟩ := hq
          cases h
          refine p_lc G.calm G.nd (ih.i _ _ _ _ _ _ G e1) (by rw [G.hN, G.hsc]; exact blkOk_by hb) (fun s H C cl fp => ih.g _ _ _ _ _ (G.blk scope s H C cl fp) e2)
            (fun s H C cl fp => ?_) (fun s H C cl fp => ih.e _ _ _ _ _ (G.blk scope s H C cl fp) e4) (fun _ => fold_none hset) ?_
          · cases ifs with
            | nil => rw [mapO_nil e3]; exact ts_nil
            | cons c1 cr =>
              obtain ⟨u, us, f1, f2, rfl⟩ := mapO_cons e3
              cases cr with
              | nil => rw [mapO_nil f2]; exact ts_one (ih.c _ _ _ _ _ (G.blk scope s H C cl fp) f1)
              | cons c2 cr =>
                obtain ⟨u2, us2, _, _, rfl⟩ := mapO_cons f2
                simp at hq2
          · intro i hi
            rw [List.all_eq_true] at hq1
            have := hq1 i hi
            rw [List.any_eq_true] at this
            obtain ⟨p, hp, e⟩ := this
            rw [← of_decide_eq_true e]
            exact List.mem_map.mpr ⟨p, hp, rfl⟩
        · cases h
      · cases h
    · cases h
  · cases h
theorem snd_O (ih : SndN P T N n) (a : Option Expr) (x : Option E) (G : Good P T N sc tl X) (h : cO P N (n + 1) sc a = some x) : PO X a (rdO X.K X.mg T x) := by
  simp only [cO] at h
  split at h
  · cases h; exact p_onone
  · obtain ⟨y, e1, rfl⟩ := map_ok h
    exact p_osome (ih.e _ _ _ _ _ G e1)
theorem snd_C (ih : SndN P T N n) (a : Expr) (x : C) (G : Good P T N sc tl X) (h : cC P N (n + 1) sc a = some x) : pC X T a x := by
  simp only [cC] at h
  split at h
  · exact (snd_cAnd ih G h).pt
  · exact (snd_cOr ih G h).pt
  · obtain ⟨y, e1, rfl⟩ := map_ok h
    exact c_not (ih.c _ _ _ _ _ G e1)
  · split at h
    · rename_i hb
      split at h
      · rename_i x y e1 e2
        cases h
        exact c_cmp G.hu (ih.e _ _ _ _ _ G e1) (ih.e _ _ _ _ _ G e2) hb
      · cases h
    · cases h
  · split at h
    · rename_i hb
      split at h
      · rename_i x y z e1 e2 e3
        cases h
        exact c_cmp2 G.hu (ih.e _ _ _ _ _ G e1) (ih.e _ _ _ _ _ G e2) (ih.e _ _ _ _ _ G e3) hb
      · cases h
    · cases h
  · split at h
    · rename_i hp
      obtain ⟨y, e1, rfl⟩ := map_ok h
      exact c_val (ih.e _ _ _ _ _ G e1) fun _ => plain_true hp
    · cases h
theorem sub_asg {o i : Expr} {pos : Pos} {env : Env} (h : nSlice i = true) (v : Value) : assign (.Subscript o i pos) env v = (do
      let ov ← holding [v] (eval o env)
      let iv ← holding [v, ov] (eval i env)
      standAt pos
      holding [v, ov, iv] (setItem ov iv v)
      release [v, ov, iv] []) := by
  cases i <;> first | rfl | cases h
theorem snd_G (ih : SndN P T N n) (a : Expr) (x : AI.G) (G : Good P T N sc tl X) (h : cG P N (n + 1) sc tl a = some x) : pG X T a x := by
  simp only [cG] at h
  split at h
  · split at h
    · rename_i ht
      obtain ⟨i, e1, rfl⟩ := map_ok h
      obtain ⟨t1, t2⟩ := G.tgt _ ht
      exact g_nm G.nd (idx_ok G e1) t1 t2
    · cases h
  · split at h
    · rename_i hs
      obtain ⟨xs, e1, rfl⟩ := map_ok h
      obtain ⟨q1, q2, q3⟩ := snd_gs ih G hs e1
      exact g_tup G.calm q1 q2 q3
    · cases h
  · split at h
    · rename_i hs
      split at h
      · rename_i x y e1 e2
        cases h
        exact g_sub (ih.e _ _ _ _ _ G e1) (ih.e _ _ _ _ _ G e2) (sub_asg hs)
      · cases h
    · cases h
  · cases h
theorem snd_I (ih : SndN P T N n) (tg a : Expr) (x : AI.I) (G : Good P T N sc tl X) (h : cI P N (n + 1) sc a = some x) : pIt X T tg a x := by
  simp only [cI] at h
  split at h
  · rename_i f p args pos
    split at h
    · rename_i hf
      subst hf
      split at h
      · rename_i hc
        split at h
        · split at h
          · rename_i hs
            obtain ⟨y, e1, rfl⟩ := map_ok h
            exact i_rng1 (glob_ok G hc.1) (G.nob _ hc.2) (p_cons (ih.e _ _ _ _ _ G e1) p_nil (star_cons hs)) (by rw [star_cons hs]; rfl)
          · cases h
        · split at h
          · rename_i hs
            split at h
            · rename_i x y e1 e2
              cases h
              exact i_rng2 (glob_ok G hc.1) (G.nob _ hc.2) (p_cons (ih.e _ _ _ _ _ G e1) (p_cons (ih.e _ _ _ _ _ G e2) p_nil (star_cons hs.2)) (star_cons hs.1)) (by rw [star_cons hs.1, star_cons hs.2]; rfl) (by rw [star_cons hs.2]; rfl)
            · cases h
          · cases h
        · cases h
      · cases h
    · split at h
      · rename_i hf
        subst hf
        split at h
        · rename_i hc
          split at h
          · split at h
            · rename_i hs
              obtain ⟨y, e1, rfl⟩ := map_ok h
              exact i_rev (glob_ok G hc.1) (G.nob _ hc.2) (ih.e _ _ _ _ _ G e1) (star_cons hs)
            · cases h
          · cases h
        · cases h
      · obtain ⟨y, e1, rfl⟩ := map_ok h
        exact i_val (ih.e _ _ _ _ _ G e1)
  · obtain ⟨y, e1, rfl⟩ := map_ok h
    exact i_val (ih.e _ _ _ _ _ G e1)
theorem snd_all : ∀ n, SndN P T N n
  | 0 => ⟨fun _ _ _ _ _ _ h => by simp [cE] at h, fun _ _ _ _ _ _ h => by simp [cO] at h, fun _ _ _ _ _ _ h => by simp [cC] at h, fun _ _ _ _ _ _ h => by simp [cG] at h, fun _ _ _ _ _ _ _ h => by simp [cI] at h⟩
  | n + 1 => ⟨fun _ _ _ a x G h => snd_E (snd_all n) a x G h, fun _ _ _ a x G h => snd_O (snd_all n) a x G h, fun _ _ _ a x G h => snd_C (snd_all n) a x G h, fun _ _ _ a x G h => snd_G (snd_all n) a x G h, fun _ _ _ tg a x G h => snd_I (snd_all n) tg a x G h⟩
end
end AI

set_option Elab.async false
set_option linter.all false
set_option maxRecDepth 100000
set_option maxHeartbeats 4000000
/-! AiFn3: statements, defs, the module. -/
namespace AI
open PySem L2 SeqAt
section
variable {P : Sg} {T : TT} {N mu : List Str} {n : Nat} {sc : Scope} {X : Cx}
/-- a def's own body -/
structure GoodS (P : Sg) (T : TT) (N : List Str) (sc : Scope) (X : Cx) : Prop extends Good P T N sc (isLoc sc) X where
  kind : sc.kind = .function
  own : PassesOwn (model X.prog X.w) X.A X.env X.xe
theorem sw_cases {elt : Expr} {gs : List Comprehension} {scope : Scope} {lp py : Pos} {x : Str} {l : Nat} (G : GoodS P T N sc X) :
    (swapsWith (.ListComp elt gs scope lp) (some (.Name x py)) l X.env = pure true ∧ X.env.scope.names.lookup x = some .local) ∨ swapsWith (.ListComp elt gs scope lp) (some (.Name x py)) l X.env = pure false := by
  have e : swapsWith (.ListComp elt gs scope lp) (some (.Name x py)) l X.env = pure (X.env.blockKind == .function && X.env.kindOf x == some .local && py.line == lp.line && !(scope.names.any fun (n, k) => n == x && (k == .local || k == .cell))) := rfl
  rw [e]
  cases hb : (X.env.blockKind == .function && X.env.kindOf x == some .local && py.line == lp.line && !(scope.names.any fun (n, k) => n == x && (k == .local || k == .cell))) with
  | false => exact .inr rfl
  | true =>
    refine .inl ⟨rfl, ?_⟩
    simp only [Bool.and_eq_true] at hb
    exact beq_iff_eq.mp hb.1.1.2
theorem asg_name {i : Nat} {x : Str} {py : Pos} {G : Good P T N sc (isLoc sc) X} (hl : isLoc sc x = true) (e1 : idxOf N x = some i) : pG X T (.Name x py) (.nm i) := by
  obtain ⟨t1, t2⟩ := G.tgt x hl
  exact g_nm G.nd (idx_ok G e1) t1 t2
theorem bx_snd {a : Expr} {ê : E} {x : Str} (h : pE X T a ê) : pE X T a (bxE mu x ê) := by
  unfold bxE
  split
  · exact p_bx h
  · exact h
theorem lc_inv {elt : Expr} {gs : List Comprehension} {scope : Scope} {lp : Pos} {ê : E} (h : cE P N (n + 1) sc (.ListComp elt gs scope lp) = some ê) : ∃ tg iter ifs it g cs y, gs = [⟨tg, iter, ifs, 0⟩] ∧ blkC N sc scope (ownOf N scope) = true ∧ nSet iter = true ∧
    cI P N n sc iter = some it ∧ cG P N n (relS scope sc) (isLoc scope) tg = some g ∧ mapO (cC P N n (relS scope sc)) ifs = some cs ∧ cE P N n (relS scope sc) elt = some y ∧ (gSl g).all (fun i => (ownOf N scope).any fun p => decide (p.2 = i)) = true ∧ cs.length ≤ 1 ∧
    ê = .lc y g it cs ((ownOf N scope).map (·.2)) := by
  simp only [cE] at h
  split at h <;> first
    | (rename_i q; cases q; done)
    | skip
  · rename_i elt' tg iter ifs scope' pos q
    cases q
    split at h
    · rename_i hc
      obtain ⟨hb, hset⟩ := hc
      split at h
      · rename_i it g cs y e1 e2 e3 e4
        split at h
        · rename_i hq
          cases h
          exact ⟨tg, iter, ifs, it, g, cs, y, rfl, hb, hset, e1, e2, e3, e4, hq.1, hq.2, rfl⟩
        · cases h
      · cases h
    · cases h
  · cases h
theorem snd_S : ∀ (n : Nat) {X : Cx} (G : GoodS P T N sc X) (st : Stmt) (s : S), cS P N mu sc n st = some s → pS X T st s
  | 0, _, _, _, _, h => by simp [cS] at h
  | n + 1, X, G, st, s, h => by
    have ih := snd_all (P := P) (T := T) (N := N) n
    have blk : ∀ {sts : List Stmt} {ss : List S}, mapO (cS P N mu sc n) sts = some ss → pSs X T sts ss := by
      intro sts
      induction sts with
      | nil => intro ss h; rw [mapO_nil h]; exact s_nil
      | cons a as ihl =>
        intro ss h
        obtain ⟨b, bs, e1, e2, rfl⟩ := mapO_cons h
        exact s_cons (snd_S n G a b e1) (ihl e2)
    simp only [cS] at h
    split at h
    · -- name = [..]
      rename_i x py elt gs scope lp pos
      split at h
      · rename_i ê i e1 e2
        split at h
        · rename_i hl
          cases h
          obtain ⟨t1, t2⟩ := G.tgt x hl
          rcases sw_cases (elt := elt) (gs := gs) (scope := scope) (lp := lp) (py := py) (x := x) (l := pos.line) G with ⟨hw, hy⟩ | hw
          · obtain ⟨tg, iter, ifs, it, g, cs, y, rfl, hb, hset, f1, f2, f3, f4, f5, f6, rfl⟩ := lc_inv e1
            have := s_setLc (T := T) (eifs := cs) (bx := mu.any fun y => decide (y = x)) G.calm G.nd (idx_ok G.toGood e2) hy hw (ih.i _ _ _ _ _ _ G.toGood f1) (by rw [G.hN, G.hsc]; exact blkOk_by hb)
              (fun s H C cl fp => ih.g _ _ _ _ _ (G.blk scope s H C cl fp) f2) (fun s H C cl fp => ?_) (fun s H C cl fp => ih.e _ _ _ _ _ (G.blk scope s H C cl fp) f4) (fun _ => fold_none hset) ?_
            · exact this
            · cases ifs with
              | nil => rw [mapO_nil f3]; exact ts_nil
              | cons c1 cr =>
                obtain ⟨u, us, k1, k2, rfl⟩ := mapO_cons f3
                cases cr with
                | nil => rw [mapO_nil k2]; exact ts_one (ih.c _ _ _ _ _ (G.blk scope s H C cl fp) k1)
                | cons c2 cr =>
                  obtain ⟨u2, us2, _, _, rfl⟩ := mapO_cons k2
                  simp at f6
            · intro i hi
              rw [List.all_eq_true] at f5
              have := f5 i hi
              rw [List.any_eq_true] at this
              obtain ⟨p, hp, e⟩ := this
              rw [← of_decide_eq_true e]
              exact List.mem_map.mpr ⟨p, hp, rfl⟩
          · exact s_asg (bx_snd ((snd_all (n + 1)).e _ _ _ _ _ G.toGood e1)) (asg_name (G := G.toGood) hl e2) hw ss_name rfl
        · cases h
      · cases h
    · split at h
      · rename_i x py e pos hne hc
        split at h
        · rename_i ê i e1 e2
          split at h
          · rename_i hl
            cases h
            exact s_asg (bx_snd (ih.e _ _ _ _ _ G.toGood e1)) (asg_name (G := G.toGood) hl e2) (show swapsWith e (some (.Name x py)) pos.line X.env = pure false from sw_none hc) ss_name rfl
          · cases h
        · cases h
      · cases h
    · split at h
      · rename_i tg e pos hn1 hn2 hc
        obtain ⟨c1, c2, c3⟩ := hc
        split at h
        · rename_i ê g e1 e2
          cases h
          exact s_asg (ih.e _ _ _ _ _ G.toGood e1) (ih.g _ _ _ _ _ G.toGood e2) (show swapsWith e (some tg) pos.line X.env = pure false from sw_none c1) (ss_none c2) (asg_one c3)
        · cases h
      · cases h
    · split at h
      · rename_i x p op e pos hc
        split at h
        · rename_i ê i e1 e2
          cases h
          obtain ⟨t1, t2⟩ := G.tgt x hc.2
          exact s_aug hc.1 G.nd (idx_ok G.toGood e2) t1 t2 (ih.e _ _ _ _ _ G.toGood e1)
        · cases h
      · cases h
    · cases h; exact s_doc
    · split at h
      · rename_i hc
        obtain ⟨y, e1, rfl⟩ := map_ok h
        exact s_expr (ih.e _ _ _ _ _ G.toGood e1) (sw_none hc)
      · cases h
    · split at h
      · rename_i u x y e1 e2 e3
        cases h
        exact s_ite (ih.c _ _ _ _ _ G.toGood e1) (blk e2) (blk e3)
      · cases h
    · split at h
      · rename_i hset
        split at h
        · rename_i g it x e1 e2 e3
          cases h
          exact s_for G.own G.calm (ih.i _ _ _ _ _ _ G.toGood e2) (ih.g _ _ _ _ _ G.toGood e1) (blk e3) fun _ => fold_none hset
        · cases h
      · cases h
    · split at h
      · rename_i u x e1 e2
        cases h
        exact s_while G.own (ih.c _ _ _ _ _ G.toGood e1) (blk e2)
      · cases h
    · obtain ⟨y, e1, rfl⟩ := map_ok h
      exact s_ret (bx_snd (ih.e _ _ _ _ _ G.toGood e1))
    · cases h; exact s_retN
    · cases h; exact s_pass
    · cases h; exact s_brk
    · cases h; exact s_cnt
    · cases h
theorem snd_Ss {n : Nat} (G : GoodS P T N sc X) : ∀ {sts : List Stmt} {ss : List S}, mapO (cS P N mu sc n) sts = some ss → pSs X T sts ss
  | [], _, h => by rw [mapO_nil h]; exact s_nil
  | a :: as, _, h => by
    obtain ⟨b, bs, e1, e2, rfl⟩ := mapO_cons h
    exact s_cons (snd_S n G a b e1) (snd_Ss G e2)
end
end AI

set_option Elab.async false
set_option linter.all false
set_option maxRecDepth 100000
set_option maxHeartbeats 4000000
/-! AiTop: the module's defs, the law. -/
namespace AI
open PySem PySem.Spec PyProof.Rows L2 SeqAt
/-- a def as the text has it, with its translation -/
structure DefI where
  name : Str
  params : Arguments
  body : List Stmt
  scope : Scope
  N : List Str
  ps : List Str
  mu : List Str
  ss : List S
/-- what is known of a def -/
structure DefOk (P : Sg) (M : Mdl) (K : PySem.W.Frag) (mg : Str → Option Value) (d : DefI) (fa : Addr) (fd : FuncData) : Prop where
  sco : FnScope d.N d.ps d.scope
  tr : ∃ k, mapO (cS P d.N d.mu d.scope k) d.body = some d.ss
  def_ : M.defs d.name = some ⟨d.ps.length, d.N.length, d.ss⟩
  fun_ : FunD K d.name d.name d.params d.body d.scope [] [] fa fd
  mgf : mg d.name = some (.ref fa)
  bnd : Binds K fd d.ps []
structure ModF (P : Sg) (M : Mdl) (K : PySem.W.Frag) (mg : Str → Option Value) : Prop where
  fns : ∀ f n, P.ar f = some n → ∃ d fa fd, DefOk P M K mg d fa fd ∧ d.name = f ∧ d.ps.length = n
  cst : ∀ x d, P.cst x = some d → ∃ u v, mg x = some u ∧ RelV v u ∧ (∀ μ H, VD K μ H v d) ∧ M.cst x = some d
  nob : ∀ x, inNob P x = true → mg x = none
theorem tt_cst {M : Mdl} : ∀ n, (M.tt n).cst = M.cst
  | 0 => rfl
  | _ + 1 => rfl
theorem SR.start {K : PySem.W.Frag} {mg : Str → Option Value} {μ : List Addr} {H : Hp} {vs : List V} {rs : List RV} {N : List Str} (xs : VRs K mg μ H vs rs) : SR K mg μ H (L2.start N vs) (startS N.length rs) := by
  have l := xs.length
  refine ⟨by simp [L2.start, startS, l], fun i r e => ?_⟩
  unfold startS at e
  unfold L2.start
  by_cases h : i < rs.length
  · rw [List.getElem?_append_left (by simpa using h), List.getElem?_map] at e
    cases q : rs[i]? with
    | none => rw [q] at e; cases e
    | some r0 =>
      rw [q] at e
      simp at e
      subst e
      obtain ⟨v, e1, e2⟩ := xs.get q
      refine ⟨v, ?_, e2⟩
      rw [List.getElem?_append_left (by simpa [l] using h), List.getElem?_map, e1]; rfl
  · rw [List.getElem?_append_right (by simpa using h), List.getElem?_replicate] at e
    split at e <;> cases e
theorem lift70 (a n : Nat) : a + 70 ≤ a + 16 * n + 200 := by omega
theorem all_ok {P : Sg} {M : Mdl} {prog : Program} {w : World} {K : PySem.W.Frag} {mg : Str → Option Value} {base : Heap} (F : ModF P M K mg) : ∀ (n : Nat) (d : DefI) (fa : Addr) (fd : FuncData), DefOk P M K mg d fa fd →
    FnOk prog w K mg base CX0 n fa fd d.ps (spF K mg (M.tt n) d.ps.length d.name)
  | 0, d, fa, fd, h => by
    have no : ∀ vs H Q E, ¬ spF K mg (M.tt 0) d.ps.length d.name vs H Q E := fun vs H Q E ⟨μ, h, rs, _, _, _, o⟩ => o
    exact ⟨fun vs H Q E h => absurd h (no vs H Q E), fun A outer s H args us vs Q E _ _ _ _ h => absurd h (no vs H Q E)⟩
  | n + 1, d, fa, fd, h => by
    have ih := all_ok (prog := prog) (w := w) (base := base) F n
    refine h.fun_.ok h.sco (fun vs H Q E ⟨μ, b, rs, R, xs, hl, o⟩ => by rw [xs.length, hl]) fun cdv A outer s H vs Q E hr ⟨μ, b, rs, R, xs, hl, o⟩ => ?_
    obtain ⟨k, tr⟩ := h.tr
    have G : GoodS P (M.tt n) d.N d.scope (cxOf CX0 prog w K mg base d.N d.name d.scope fa cdv A outer s H E).nox := {
      hN := rfl
      nd := h.sco.nd
      hsc := rfl
      calm := rfl
      hu := Nat.lt_of_le_of_lt (lift70 _ n) hr.un
      fnok := fun f m e => by
        obtain ⟨d', fa', fd', D, rfl, rfl⟩ := F.fns f m e
        exact ⟨fa', fd', d'.ps, n, D.mgf, rfl, ih d' fa' fd' D, hr, D.fun_.kp, D.bnd⟩
      cst := fun x y e => by
        obtain ⟨u, v, e1, e2, e3, e4⟩ := F.cst x y e
        exact ⟨u, v, e1, e2, e3, by rw [tt_cst]; exact e4⟩
      nob := F.nob
      tgt := fun x e => by
        unfold isLoc at e
        rw [Bool.or_eq_true, decide_eq_true_eq, decide_eq_true_eq] at e
        exact ⟨e, .inl rfl⟩
      kind := h.sco.kind
      own := PassesOwn.never }
    refine ⟨_, PSs.nox (snd_Ss G tr), _, μ, b, SR.start xs, R, ?_⟩
    have o1 : Out K mg μ H (rawDef (M.tt n) ⟨d.ps.length, d.N.length, d.ss⟩ rs b) Q := by
      have e : (M.tt (n + 1)).raw d.name rs b = rawDef (M.tt n) ⟨d.ps.length, d.N.length, d.ss⟩ rs b := by
        show (match M.defs d.name with | some d => rawDef (M.tt n) d rs | none => AI.M.no) b = _
        rw [h.def_]
      rw [← e]; exact o
    unfold rawDef at o1
    simp only [hl, if_true] at o1
    cases q : exs (M.tt n) d.ss (startS d.N.length rs) b with
    | ok f b' =>
      rw [q] at o1
      cases f with
      | nx s => exact fun σ' μ' H' R' E' _ => o1 .non μ' H' R' E' (.pd .non)
      | rt r => exact o1
      | bk _ => exact o1.elim
      | ct _ => exact o1.elim
    | ex _ _ => rw [q] at o1; exact o1.elim
    | no => rw [q] at o1; exact o1.elim

/-! ### the module's own values as data -/
mutual
def vB (K : PySem.W.Frag) : D → Value → Bool
  | .none, .none => true
  | .bool b, .bool c => b == c
  | .int i, .int j _ => decide (i = j)
  | .str x, .str y _ => decide (x = y)
  | .tuple ds, .ref a => match K.lookup a with
    | some ⟨.type c, none, .seq its _, _⟩ => decide (c = "tuple") && (decide (its.size ≤ sizeLine) && vBs K ds its.toList)
    | _ => false
  | _, _ => false
def vBs (K : PySem.W.Frag) : List D → List Value → Bool
  | [], [] => true
  | d :: ds, v :: vs => vB K d v && vBs K ds vs
  | _, _ => false
end
mutual
theorem vB_ok {K : PySem.W.Frag} : ∀ (d : D) (u : Value), vB K d u = true → ∃ v, RelV v u ∧ ∀ μ H, VD K μ H v d
  | .none, u, h => by
    cases u with
    | none => exact ⟨.non, rfl, fun _ _ => .non⟩
    | _ => cases h
  | .bool b, u, h => by
    cases u with
    | bool c =>
      have e : b = c := eq_of_beq (show (b == c) = true from h)
      subst e
      exact ⟨.bl b, rfl, fun _ _ => .bl b⟩
    | _ => cases h
  | .int i, u, h => by
    cases u with
    | int j t =>
      have e : i = j := of_decide_eq_true h
      subst e
      exact ⟨.int i, ⟨t, rfl⟩, fun _ _ => .int i⟩
    | _ => cases h
  | .str i, u, h => by
    cases u with
    | str j t =>
      have e : i = j := of_decide_eq_true h
      subst e
      exact ⟨.str i, ⟨t, rfl⟩, fun _ _ => .str i⟩
    | _ => cases h
  | .tuple ds, u, h => by
    cases u with
    | ref a =>
      simp only [vB] at h
      split at h
      · rename_i c its n osl q
        obtain ⟨h1, h2⟩ := Bool.and_eq_true_iff.mp h
        obtain ⟨h3, h4⟩ := Bool.and_eq_true_iff.mp h2
        obtain ⟨vs, r, f⟩ := vBs_ok ds its.toList h4
        refine ⟨.ref a, rfl, fun μ H => .tupK ⟨_, its, n, q, ?_, rfl, rfl, of_decide_eq_true h3, r⟩ (f μ H)⟩
        rw [of_decide_eq_true h1]
      · cases h
    | _ => cases h
  | .list _, u, h => by cases u <;> cases h
  | .dict _, u, h => by cases u <;> cases h
theorem vBs_ok {K : PySem.W.Frag} : ∀ (ds : List D) (us : List Value), vBs K ds us = true → ∃ vs, Vals vs us ∧ ∀ μ H, VDs K μ H vs ds
  | [], [], _ => ⟨[], .nil, fun _ _ => .nil⟩
  | d :: ds, u :: us, h => by
    simp only [vBs] at h
    obtain ⟨h1, h2⟩ := Bool.and_eq_true_iff.mp h
    obtain ⟨v, r, f⟩ := vB_ok d u h1
    obtain ⟨vs, rs, fs⟩ := vBs_ok ds us h2
    exact ⟨v :: vs, .cons r rs, fun μ H => .cons (f μ H) (fs μ H)⟩
  | [], _ :: _, h => by cases h
  | _ :: _, [], h => by cases h
end
def cB (K : PySem.W.Frag) (c : Str × D) : Bool := match PySem.W.nsIn K mainGlobals c.1 with
  | some (some u) => vB K c.2 u
  | _ => false
theorem cB_ok {K : PySem.W.Frag} {h : Heap} {mg : Str → Option Value} (X : K.In h) (G : h.Ns mainGlobals mg) {x : Str} {d : D} (c : cB K (x, d) = true) : ∃ u v, mg x = some u ∧ RelV v u ∧ ∀ μ H, VD K μ H v d := by
  unfold cB at c
  split at c
  · rename_i u e
    obtain ⟨v, r, f⟩ := vB_ok _ _ c
    exact ⟨u, v, PySem.W.mg_of X G e, r, f⟩
  · cases c
/-! ### the head's facts -/
def DefI.toD (d : DefI) : He.DefD := ⟨(d.name, none), d.name, d.name, d.params, d.body, d.scope, [], []⟩
structure Tab where
  dfs : List DefI
  cs : List (Str × D)
  fr : List Str
  wf : Nat
def Tab.find (t : Tab) (f : Str) : Option DefI := t.dfs.find? fun d => decide (d.name = f)
def Tab.sg (t : Tab) : Sg := ⟨fun f => (t.find f).map fun d => d.ps.length, fun x => t.cs.lookup x, t.fr⟩
def Tab.mdl (t : Tab) : Mdl := ⟨fun f => (t.find f).map fun d => ⟨d.ps.length, d.N.length, d.ss⟩, fun x => t.cs.lookup x, t.wf⟩
def Tab.fa (t : Tab) : List He.Fa := t.dfs.map (fun d => .glo d.name) ++ t.fr.map .free
abbrev hookA (n : Nat) (t : Tab) : PySem.W.Hook where
  α := He.AlD × Bool
  obs := fun s => (He.obsDG n t.fa (t.dfs.map DefI.toD) s.heap.get?, t.cs.all (cB (He.frG s.heap.get? (He.asD s.heap.get? n))))
  val := fun _ => (He.valD (t.dfs.map DefI.toD), true)
  says := fun _ h => ∃ K : PySem.W.Frag, K.In h ∧ He.SaysD t.fa (t.dfs.map DefI.toD) K ∧ t.cs.all (cB K) = true
  of := fun _ _ e => ⟨_, He.frG_in, congrArg (fun z : He.AlD × Bool => z.1) e, congrArg (fun z : He.AlD × Bool => z.2) e⟩
  keeps := fun _ _ _ ⟨K, hK, c⟩ k => ⟨K, PySem.W.Frag.In.keeps hK k, c⟩
def obA (n : Nat) (t : Tab) (s : PySem.W.SharedT) : He.AlD × Bool := (He.obsDG n t.fa (t.dfs.map DefI.toD) (HandSHeadRun.getT s), t.cs.all (cB (He.frG (HandSHeadRun.getT s) (He.asD (HandSHeadRun.getT s) n))))
theorem obA_eq (n : Nat) (t : Tab) (s : PySem.W.SharedT) : obA n t s = (hookA n t).obs s.abs := by
  have e : HandSHeadRun.getT s = s.abs.heap.get? := funext (HandSHeadRun.getT_eq s)
  unfold obA
  rw [e]
/-- what is to be seen of a def in the text -/
structure DefC (t : Tab) (d : DefI) : Prop where
  sco : C8.scC d.N d.ps d.scope = true
  tr : mapO (cS t.sg d.N d.mu d.scope 60) d.body = some d.ss
  bnd : ∀ (kV doc pm : Value) (an : Option Addr) (cdv ct : Value) (us : List Value), us.length = d.ps.length → bindArgs (PySem.W.fnOf d.name d.name d.params d.body d.scope .none kV doc pm an cdv ct) ⟨us, []⟩ = pure (d.ps.zip us)
inductive AllC (t : Tab) : List DefI → Prop
  | nil : AllC t []
  | cons {d : DefI} {ds : List DefI} : DefC t d → AllC t ds → AllC t (d :: ds)
theorem AllC.mem {t : Tab} {ds : List DefI} (A : AllC t ds) {d : DefI} (h : d ∈ ds) : DefC t d := by
  induction A with
  | nil => cases h
  | cons c _ ih => rcases List.mem_cons.mp h with rfl | h
                   · exact c
                   · exact ih h
theorem Tab.find_mem {t : Tab} {f : Str} {d : DefI} (e : t.find f = some d) : d ∈ t.dfs ∧ d.name = f := by
  unfold Tab.find at e
  exact ⟨List.mem_of_find?_eq_some e, by simpa using List.find?_some e⟩
section
variable {t : Tab} {K : PySem.W.Frag} {h : Heap} {mg : Str → Option Value}
theorem says_def (X : K.In h) (G : h.Ns mainGlobals mg) (A : AllC t t.dfs) (c : He.SaysD t.fa (t.dfs.map DefI.toD) K) {f : Str} {d : DefI} (e : t.find f = some d) : ∃ fd, DefOk t.sg t.mdl K mg d (He.ga K d.name) fd := by
  obtain ⟨m, rfl⟩ := t.find_mem e
  obtain ⟨i, hi⟩ := List.getElem?_of_mem m
  obtain ⟨fd, F⟩ := c.def_ i (d := d.toD) (by rw [List.getElem?_map, hi]; rfl)
  have D := A.mem m
  have hl : i < t.dfs.length := (List.getElem?_eq_some_iff.mp hi).1
  have g : mg d.name = some (.ref (He.ga K d.name)) := He.glo_ok X G (c.fact i (f := .glo d.name) (by
    unfold Tab.fa
    rw [List.getElem?_append_left (by simpa using hl), List.getElem?_map, hi]; rfl))
  exact ⟨fd, C8.fnScope_by D.sco, ⟨60, D.tr⟩, by show (t.find d.name).map _ = _; rw [e]; rfl, F, g, FunD.bindsN F D.bnd⟩
theorem says_mod (X : K.In h) (G : h.Ns mainGlobals mg) (A : AllC t t.dfs) (c : He.SaysD t.fa (t.dfs.map DefI.toD) K) (cc : t.cs.all (cB K) = true) : ModF t.sg t.mdl K mg where
  fns := fun f n e => by
    have e' : (t.find f).map (fun d => d.ps.length) = some n := e
    cases q : t.find f with
    | none => rw [q] at e'; cases e'
    | some d =>
      rw [q] at e'
      cases e'
      obtain ⟨fd, D⟩ := says_def X G A c q
      exact ⟨d, _, fd, D, (t.find_mem q).2, rfl⟩
  cst := fun x d e => by
    have e' : t.cs.lookup x = some d := e
    have m := PySem.mem_of_lookup e'
    obtain ⟨u, v, a, b, f⟩ := cB_ok X G (List.all_eq_true.mp cc _ m)
    exact ⟨u, v, a, b, f, e'⟩
  nob := fun x e => by
    have e' : (t.fr.any fun y => decide (y = x)) = true := e
    obtain ⟨y, m, q⟩ := List.any_eq_true.mp e'
    obtain rfl := of_decide_eq_true q
    obtain ⟨i, hi⟩ := List.getElem?_of_mem m
    refine He.free_ok X G (c.fact (t.dfs.length + i) (f := .free y) ?_)
    unfold Tab.fa
    rw [List.getElem?_append_right (by simp)]
    simp [hi]
end
/-- THE END: a law whose plain run is true -/
theorem walk_ai {l : PySem.W.OpenLaw} {q : Program} {loose : List Str} {XP : (Str → Option Value) → Heap → Prop} {d : DefRec} (t : Tab) (k : Nat) (dl : DefI) (x : Str)
    (hn : l.most = some 63) (hdf : d.params.defaults = []) (hr : Room k callerA) (hd : d.name = dl.name) (hf : t.find dl.name = some dl) (hps : dl.ps = [x]) (A : AllC t t.dfs)
    (plain : ∀ ns : List Int, ns.length ≤ 63 → ∃ b, (t.mdl.tt k).raw dl.name [.fz (ns.map PyData.int)] [] = .ok (.pd (.bool true)) b) :
    PySem.W.WalkO q loose XP (hookA 4 t).says l.row.toRowW d [] (fun f vs => PySem.call f vs) := by
  refine L2.walk_ofE (l := l) (n := 63) (k := k) (x := x) (CX := L2.CX0) hn (by decide) hdf hr ?F (fun _ _ _ _ z => z)
  intro w mg fa h Y G hmg
  obtain ⟨K, KX, c, cc⟩ := Y
  rw [hd] at hmg
  obtain ⟨fd, D⟩ := says_def KX G A c hf
  have e := hmg.symm.trans D.mgf
  cases e
  have F := says_mod KX G A c cc
  have b : ∀ (s : Shared) (u : Value), BindsTo s fd ⟨[u], []⟩ [(x, u)] := fun s u => by
    have := FunD.bindsA (ps := dl.ps) D.fun_ (A.mem (t.find_mem hf).1).bnd s [u] (by rw [hps]; rfl)
    rw [hps] at this
    exact this
  refine ⟨K, fd, spF K mg (t.mdl.tt k) dl.ps.length dl.name, KX, b, fun H a ns hl ho hS => ?_, fun base _ _ => ?_⟩
  · obtain ⟨b, e⟩ := plain ns hl
    refine ⟨[], [], [.fz (ns.map PyData.int)], ⟨rfl, .nil, fun i a b e => by simp at e⟩, .cons (.fz hS ?_ ?_ ?_) .nil, by rw [hps]; rfl, ?_⟩
    · rcases hS with (hS | ⟨o, hS⟩) | hS
      · rcases ho a with q | ⟨o, xs, q⟩
        · rw [hS] at q; cases q
        · rw [hS] at q; cases q
      · exact .inl ⟨⟨o, hS⟩, by simp⟩
      · exact .inr hS
    · rw [List.length_map]; exact Nat.le_trans hl (by decide)
    · clear hS b e hl
      induction ns with
      | nil => exact .nil
      | cons i ns ih => exact .cons (.int i) ih
    · rw [e]
      intro v μ' H' _ _ x
      cases x with
      | pd q => cases q; rfl
  · have := all_ok (prog := l.prog) (w := w) (base := base) F k dl _ fd D
    rw [hps] at this ⊢
    exact this
end AI

set_option Elab.async false
set_option linter.all false
set_option maxRecDepth 100000
set_option maxHeartbeats 4000000
/-! AiWp: reasoning about the plain run. -/
namespace AI
open PySem L2
/-- m ends well, behind it Q -/
def wp {α : Type} (m : M α) (Q : α → Boxes → Prop) (h : Boxes) : Prop := ∃ a h', m h = .ok a h' ∧ Q a h'
section
variable {α β : Type} {a : α} {m : M α} {f : α → M β} {Q : α → Boxes → Prop} {Q2 : β → Boxes → Prop} {h h' : Boxes}
theorem wp_of (e : m h = .ok a h') (q : Q a h') : wp m Q h := ⟨a, h', e, q⟩
theorem wp_mono {Q' : α → Boxes → Prop} (w : wp m Q h) (f : ∀ a h', Q a h' → Q' a h') : wp m Q' h := let ⟨a, h', e, q⟩ := w; ⟨a, h', e, f a h' q⟩
theorem wp_ret : wp (M.ret a) Q h = Q a h := propext ⟨fun ⟨_, _, e, q⟩ => (by cases e; exact q), fun q => ⟨_, _, rfl, q⟩⟩
theorem wp_bnd : wp (M.bnd m f) Q2 h = wp m (fun a h' => wp (f a) Q2 h') h := propext ⟨fun ⟨b, h2, e, q⟩ => (by
  unfold M.bnd at e
  cases e1 : m h with
  | ok a h1 => rw [e1] at e; exact ⟨a, h1, e1, b, h2, e, q⟩
  | ex _ _ => rw [e1] at e; cases e
  | no => rw [e1] at e; exact (nomatch e)), fun ⟨a, h1, e1, b, h2, e2, q⟩ => ⟨b, h2, by unfold M.bnd; rw [e1]; exact e2, q⟩⟩
theorem wp_some : wp (M.opt (some a)) Q h = Q a h := wp_ret
theorem wp_opt {o : Option α} : wp (M.opt o) Q h = ∃ a, o = some a ∧ Q a h := by
  cases o with
  | none => exact propext ⟨fun ⟨_, _, e, _⟩ => (by cases e), fun ⟨_, e, _⟩ => by cases e⟩
  | some a => rw [wp_some]; exact propext ⟨fun q => ⟨a, rfl, q⟩, fun ⟨_, e, q⟩ => by cases e; exact q⟩
theorem wp_grd {b : Bool} {Q : Unit → Boxes → Prop} : wp (M.grd b) Q h = (b = true ∧ Q () h) := by
  cases b with
  | false => exact propext ⟨fun ⟨_, _, e, _⟩ => (by cases e), fun ⟨e, _⟩ => by cases e⟩
  | true => exact wp_ret.trans (propext ⟨fun q => ⟨rfl, q⟩, fun q => q.2⟩)
theorem wp_no : wp (M.no : M α) Q h = False := propext ⟨fun ⟨_, _, e, _⟩ => (by cases e), fun z => z.elim⟩
theorem wp_ite {c : Prop} [Decidable c] {m' : M α} : wp (if c then m else m') Q h = if c then wp m Q h else wp m' Q h := by split <;> rfl
theorem wp_dite {c : Bool} {m' : M α} : wp (if c = true then m else m') Q h = ((c = true → wp m Q h) ∧ (c = false → wp m' Q h)) := by cases c <;> simp
theorem wp_raw {r : Res α} : wp (fun _ => r) Q h = ∃ a h', r = .ok a h' ∧ Q a h' := rfl
end
section
variable {Q : D → Boxes → Prop} {R : RV → Boxes → Prop} {h : Boxes}
theorem wp_dat_pd {d : D} : wp (dat (.pd d)) Q h = Q d h := wp_ret
theorem wp_dat_fz {ds : List D} : wp (dat (.fz ds)) Q h = Q (.list ds) h := wp_ret
theorem wp_dat_rf {n : Nat} {ds : List D} (e : h[n]? = some (.lst ds)) : wp (dat (.rf n)) Q h = Q (.list ds) h := by
  refine propext ⟨fun ⟨a, h', e1, q⟩ => ?_, fun q => ⟨_, _, by simp only [dat, e], q⟩⟩
  simp only [dat, e] at e1
  cases e1; exact q
theorem wp_newL {bx : Bool} {ds : List D} (z : ds.length ≤ sizeLine) : wp (newL bx ds) R h = if bx = true then R (.rf h.length) (h ++ [.lst ds]) else R (.pd (.list ds)) h := by
  cases bx with
  | true => exact propext ⟨fun ⟨_, _, e, q⟩ => by simp only [newL, if_pos z] at e; cases e; exact q, fun q => ⟨_, _, by simp only [newL, if_pos z, if_true], q⟩⟩
  | false => exact propext ⟨fun ⟨_, _, e, q⟩ => by simp only [newL, if_pos z] at e; cases e; exact q, fun q => ⟨_, _, by simp only [newL, if_pos z]; rfl, q⟩⟩
theorem wp_newT {ds : List D} (z : ds.length ≤ sizeLine) : wp (newT ds) R h = R (.pd (.tuple ds)) h :=
  propext ⟨fun ⟨_, _, e, q⟩ => by simp only [newT, if_pos z] at e; cases e; exact q, fun q => ⟨_, _, by simp only [newT, if_pos z], q⟩⟩
theorem wp_tupD {rs : List RV} {ds : List D} (e : allPd rs = some ds) (z : ds.length ≤ sizeLine) : wp (mkTup rs) R h = R (.pd (.tuple ds)) h :=
  propext ⟨fun ⟨_, _, e1, q⟩ => by simp only [mkTup, e, if_pos z] at e1; cases e1; exact q, fun q => ⟨_, _, by simp only [mkTup, e, if_pos z], q⟩⟩
theorem wp_set {n : Nat} {ds : List D} {k : Int} {j : Nat} {d : D} (e : h[n]? = some (.lst ds)) (hj : ixN ds.length k = some j) (z : ds.length ≤ sizeLine) : wp (setS (.rf n) (.pd (.int k)) (.pd d)) R h = R (.pd .none) (h.set n (.lst (ds.set j d))) := by
  have : setS (.rf n) (.pd (.int k)) (.pd d) h = .ok (.pd .none) (h.set n (.lst (ds.set j d))) := by
    simp only [setS, mod, e, hj]
    simp [M.bnd, M.opt, M.ret, z]
  exact propext ⟨fun ⟨_, _, e1, q⟩ => by rw [this] at e1; cases e1; exact q, fun q => ⟨_, _, this, q⟩⟩
end
/-! ### calls -/
section
variable {T T' : TT} {f : Str} {d : Def} {rs : List RV} {bx : Bool} {Q : RV → Boxes → Prop} {h : Boxes}
/-- what is wanted of a def's end, by the caller -/
def back (n0 : Nat) (bx : Bool) (Q : RV → Boxes → Prop) (r : RV) (h : Boxes) : Prop := ∃ r' h', settle n0 bx r h = .ok r' h' ∧ Q r' h'
theorem back_pd {n0 : Nat} {d : D} : back n0 bx Q (.pd d) h = Q (.pd d) (h.take n0) := propext ⟨fun ⟨_, _, e, q⟩ => (by cases e; exact q), fun q => ⟨_, _, rfl, q⟩⟩
theorem wp_call (e : T.raw f = rawDef T' d) (w : wp (rawDef T' d rs) (back h.length bx Q) h) : wp (T.call bx f rs) Q h := by
  obtain ⟨r, h1, e1, r2, h2, e2, q⟩ := w
  refine ⟨r2, h2, ?_, q⟩
  unfold TT.call
  rw [e, e1]; exact e2
/-- behind a def's body -/
def endD (Q : RV → Boxes → Prop) : Fl → Boxes → Prop := fun f h => match f with
  | .rt r => Q r h
  | .nx _ => Q (.pd .none) h
  | _ => False
theorem wp_def (l : rs.length = d.pars) (w : wp (exs T' d.body (startS d.slots rs)) (endD Q) h) : wp (rawDef T' d rs) Q h := by
  obtain ⟨f, h1, e, q⟩ := w
  cases f with
  | nx s => exact ⟨_, _, by simp only [rawDef, if_pos l, e], q⟩
  | rt r => exact ⟨_, _, by simp only [rawDef, if_pos l, e], q⟩
  | bk _ => exact q.elim
  | ct _ => exact q.elim
end
/-! ### statements -/
section
variable {T : TT} {s : S} {ss : List S} {σ : Sl} {Q : Fl → Boxes → Prop} {h : Boxes}
/-- behind a statement: on, or out -/
def goS (T : TT) (ss : List S) (Q : Fl → Boxes → Prop) : Fl → Boxes → Prop := fun f h => match f with
  | .nx σ' => wp (exs T ss σ') Q h
  | f => Q f h
theorem wp_exs_nil : wp (exs T [] σ) Q h = Q (.nx σ) h := by simp only [exs]; exact wp_ret
theorem wp_exs : wp (exs T (s :: ss) σ) Q h = wp (ex T s σ) (goS T ss Q) h := by
  simp only [exs]
  rw [wp_bnd]
  congr 1
  funext f h'
  cases f <;> first | rfl | exact wp_ret
theorem goS_nx : goS T ss Q (.nx σ) h = wp (exs T ss σ) Q h := rfl
theorem goS_rt {r : RV} : goS T ss Q (.rt r) h = Q (.rt r) h := rfl
theorem goS_bk : goS T ss Q (.bk σ) h = Q (.bk σ) h := rfl
theorem goS_ct : goS T ss Q (.ct σ) h = Q (.ct σ) h := rfl
theorem endD_rt {Q : RV → Boxes → Prop} {r : RV} : endD Q (.rt r) h = Q r h := rfl
theorem endD_nx {Q : RV → Boxes → Prop} : endD Q (.nx σ) h = Q (.pd .none) h := rfl
end
/-! ### loops -/
section
variable {s : Src} {body : D → Sl → M Fl} {Q : Fl → Boxes → Prop} {h : Boxes} {σ : Sl}
def turnE (I : Sl → Boxes → Prop) (Q : Fl → Boxes → Prop) : Fl → Boxes → Prop := fun f h => match f with
  | .nx σ' => I σ' h
  | .ct σ' => I σ' h
  | .bk σ' => Q (.nx σ') h
  | .rt r => Q (.rt r) h
theorem wp_forN (I : Nat → Sl → Boxes → Prop) (hb : s.box = none) (step : ∀ i (hi : i < s.items.length) σ h, I i σ h → wp (body s.items[i] σ) (turnE (I (i + 1)) Q) h) (fin : ∀ σ h, I s.items.length σ h → Q (.nx σ) h) :
    ∀ (k i : Nat) (σ : Sl) (h : Boxes), i + k = s.items.length → I i σ h → wp (forL s body k i σ) Q h
  | 0, i, σ, h, e, hI => by
    obtain rfl : i = s.items.length := by omega
    simp only [forL, srcEnd, hb]
    rw [wp_bnd, wp_ret, wp_ret]
    exact fin _ _ hI
  | k + 1, i, σ, h, e, hI => by
    have hi : i < s.items.length := by omega
    simp only [forL, srcAt, hb]
    rw [wp_bnd, wp_opt]
    refine ⟨s.items[i], List.getElem?_eq_getElem hi, ?_⟩
    rw [wp_bnd]
    refine wp_mono (step i hi σ h hI) fun f h' q => ?_
    cases f with
    | nx σ' => exact wp_forN I hb step fin k (i + 1) σ' h' (by omega) q
    | ct σ' => exact wp_forN I hb step fin k (i + 1) σ' h' (by omega) q
    | bk σ' => rw [wp_ret]; exact q
    | rt r => rw [wp_ret]; exact q
theorem turnE_nx {I : Sl → Boxes → Prop} : turnE I Q (.nx σ) h = I σ h := rfl
theorem turnE_ct {I : Sl → Boxes → Prop} : turnE I Q (.ct σ) h = I σ h := rfl
theorem turnE_bk {I : Sl → Boxes → Prop} : turnE I Q (.bk σ) h = Q (.nx σ) h := rfl
theorem turnE_rt {I : Sl → Boxes → Prop} {r : RV} : turnE I Q (.rt r) h = Q (.rt r) h := rfl
/-- a loop over items that stand still -/
theorem wp_for {items : List D} (I : Nat → Sl → Boxes → Prop) (h0 : I 0 σ h) (step : ∀ i (hi : i < items.length) σ h, I i σ h → wp (body items[i] σ) (turnE (I (i + 1)) Q) h) (fin : ∀ σ h, I items.length σ h → Q (.nx σ) h) :
    wp (forL ⟨items, none⟩ body items.length 0 σ) Q h := wp_forN (s := ⟨items, none⟩) I rfl step fin items.length 0 σ h (by simp) h0
/-- a loop over a box that stands still -/
theorem wp_forBN {n : Nat} (I : Nat → Sl → Boxes → Prop) (hb : s.box = some n) (still : ∀ i σ h, I i σ h → h[n]? = some (.lst s.items)) (step : ∀ i (hi : i < s.items.length) σ h, I i σ h → wp (body s.items[i] σ) (turnE (I (i + 1)) Q) h) (fin : ∀ σ h, I s.items.length σ h → Q (.nx σ) h) :
    ∀ (k i : Nat) (σ : Sl) (h : Boxes), i + k = s.items.length → I i σ h → wp (forL s body k i σ) Q h
  | 0, i, σ, h, e, hI => by
    obtain rfl : i = s.items.length := by omega
    simp only [forL, srcEnd, hb]
    rw [wp_bnd]
    refine ⟨(), h, ?_, by dsimp only; rw [wp_ret]; exact fin _ _ hI⟩
    simp only [still _ _ _ hI]; rfl
  | k + 1, i, σ, h, e, hI => by
    have hi : i < s.items.length := by omega
    simp only [forL, srcAt, hb]
    rw [wp_bnd]
    refine ⟨s.items[i], h, ?_, ?_⟩
    · simp only [still _ _ _ hI, if_true, List.getElem?_eq_getElem hi]
    dsimp only
    rw [wp_bnd]
    refine wp_mono (step i hi σ h hI) fun f h' q => ?_
    cases f with
    | nx σ' => exact wp_forBN I hb still step fin k (i + 1) σ' h' (by omega) q
    | ct σ' => exact wp_forBN I hb still step fin k (i + 1) σ' h' (by omega) q
    | bk σ' => rw [wp_ret]; exact q
    | rt r => rw [wp_ret]; exact q
theorem wp_forB {n : Nat} {items : List D} (I : Nat → Sl → Boxes → Prop) (h0 : I 0 σ h) (still : ∀ i σ h, I i σ h → h[n]? = some (.lst items)) (step : ∀ i (hi : i < items.length) σ h, I i σ h → wp (body items[i] σ) (turnE (I (i + 1)) Q) h) (fin : ∀ σ h, I items.length σ h → Q (.nx σ) h) :
    wp (forL ⟨items, some n⟩ body items.length 0 σ) Q h := wp_forBN (s := ⟨items, some n⟩) I rfl still step fin items.length 0 σ h (by simp) h0
end
/-! ### comprehensions -/
section
variable {turn : D → M (Option D)} {Q : RV → Boxes → Prop} {h : Boxes}
/-- into a list; I i acc h: behind i items, acc made, the boxes of the outside h -/
theorem wp_lcB {items : List D} {n : Nat} {Q : Boxes → Prop} (I : Nat → List D → Boxes → Prop) (hz : items.length ≤ sizeLine) (len : ∀ i acc h, I i acc h → h.length = n ∧ acc.length ≤ i)
    (step : ∀ i (hi : i < items.length) acc h, I i acc h → wp (turn items[i]) (fun r h' => ∃ h2, h' = h2 ++ [.lst acc] ∧ I (i + 1) (acc ++ r.toList) h2) (h ++ [.lst acc])) (fin : ∀ acc h, I items.length acc h → Q (h ++ [.lst acc])) :
    ∀ (k i : Nat) (acc : List D) (h : Boxes), i + k = items.length → I i acc h → wp (lcB n ⟨items, none⟩ turn k i) (fun _ => Q) (h ++ [.lst acc])
  | 0, i, acc, h, e, hI => by
    obtain rfl : i = items.length := by omega
    simp only [lcB, srcEnd]
    rw [wp_ret]
    exact fin _ _ hI
  | k + 1, i, acc, h, e, hI => by
    have hi : i < items.length := by omega
    simp only [lcB, srcAt]
    rw [wp_bnd, wp_opt]
    refine ⟨items[i], List.getElem?_eq_getElem hi, ?_⟩
    rw [wp_bnd]
    refine wp_mono (step i hi acc h hI) fun r h' ⟨h2, e2, q⟩ => ?_
    subst e2
    obtain ⟨l1, l2⟩ := len _ _ _ q
    cases r with
    | none =>
      rw [Option.toList_none, List.append_nil] at q
      exact wp_lcB I hz len step fin k (i + 1) acc h2 (by omega) q
    | some y =>
      simp only [Option.toList_some] at q l2
      rw [wp_bnd]
      refine ⟨.pd .none, h2 ++ [.lst (acc ++ [y])], ?_, wp_lcB I hz len step fin k (i + 1) (acc ++ [y]) h2 (by omega) q⟩
      have z : (acc ++ [y]).length ≤ sizeLine := by omega
      have g : (h2 ++ [Box.lst acc])[n]? = some (.lst acc) := by rw [← l1, List.getElem?_append_right (Nat.le_refl _)]; simp
      have w : (h2 ++ [Box.lst acc]).set n (.lst (acc ++ [y])) = h2 ++ [.lst (acc ++ [y])] := by rw [← l1, List.set_append_right _ _ (Nat.le_refl _)]; simp
      simp only [mod, g, M.ret, if_pos z, w]
theorem wp_lc {items : List D} {bx : Bool} (I : Nat → List D → Boxes → Prop) (hz : items.length ≤ sizeLine) (len : ∀ i acc h', I i acc h' → h'.length = h.length ∧ acc.length ≤ i) (h0 : I 0 [] h)
    (step : ∀ i (hi : i < items.length) acc h, I i acc h → wp (turn items[i]) (fun r h' => ∃ h2, h' = h2 ++ [.lst acc] ∧ I (i + 1) (acc ++ r.toList) h2) (h ++ [.lst acc]))
    (fin : ∀ acc h, I items.length acc h → if bx = true then Q (.rf h.length) (h ++ [.lst acc]) else Q (.pd (.list acc)) h) : wp (lcS bx ⟨items, none⟩ turn) Q h := by
  obtain ⟨u, h1, e, acc, h2, e2, q⟩ := wp_lcB (n := h.length) (Q := fun h' => ∃ acc h2, h' = h2 ++ [.lst acc] ∧ I items.length acc h2) I hz len step (fun acc h q => ⟨acc, h, rfl, q⟩) items.length 0 [] h (by simp) h0
  subst e2
  obtain ⟨l1, _⟩ := len _ _ _ q
  have g : (h2 ++ [Box.lst acc])[h.length]? = some (.lst acc) := by rw [← l1, List.getElem?_append_right (Nat.le_refl _)]; simp
  have t : (h2 ++ [Box.lst acc]).take h.length = h2 := by rw [← l1]; simp
  cases bx with
  | true =>
    refine ⟨.rf h2.length, h2 ++ [.lst acc], ?_, by simpa using fin _ _ q⟩
    simp only [lcS, e, settle]
    rw [if_neg (Nat.lt_irrefl _), g]
    simp only [if_true]
    rw [t, l1]
  | false =>
    refine ⟨.pd (.list acc), h2, ?_, by simpa using fin _ _ q⟩
    simp only [lcS, e, settle]
    rw [if_neg (Nat.lt_irrefl _), g]
    simp [t]
/-- one whose turns leave all as it is -/
theorem wp_lcP {items : List D} {bx : Bool} (f : D → Option D) (hz : items.length ≤ sizeLine) (step : ∀ d ∈ items, ∀ acc, wp (turn d) (fun r h' => r = f d ∧ h' = h ++ [.lst acc]) (h ++ [.lst acc]))
    (fin : if bx = true then Q (.rf h.length) (h ++ [.lst (items.filterMap f)]) else Q (.pd (.list (items.filterMap f))) h) : wp (lcS bx ⟨items, none⟩ turn) Q h := by
  refine wp_lc (fun i acc h' => h' = h ∧ acc = (items.take i).filterMap f ∧ i ≤ items.length) hz (fun i acc h' ⟨a, b, c⟩ => ⟨by rw [a], ?_⟩) ⟨rfl, rfl, Nat.zero_le _⟩ (fun i hi acc h' ⟨a, b, c⟩ => ?_) fun acc h' ⟨a, b, _⟩ => ?_
  · subst b
    exact Nat.le_trans (List.length_filterMap_le _ _) (by simp; omega)
  · subst a
    refine wp_mono (step _ (List.getElem_mem hi) acc) fun r h2 ⟨e1, e2⟩ => ⟨_, e2, rfl, ?_, hi⟩
    subst e1 b
    rw [List.take_succ_eq_append_getElem hi, List.filterMap_append]
    cases q : f items[i] <;> simp [q]
  · subst a b
    rw [List.take_length]; exact fin
end
end AI

set_option Elab.async false
set_option linter.all false
set_option maxRecDepth 100000
set_option maxHeartbeats 4000000
/-! AiVal: values of the plain run. -/
namespace AI
open PySem L2
theorem atI_pos {α : Type} {xs : List α} {k : Int} (h : 0 ≤ k) : atI xs k = xs[k.toNat]? := by
  unfold atI ixN
  rw [if_pos h]
  split
  · rfl
  · rw [List.getElem?_eq_none (by omega)]; rfl
theorem atI_cast {α : Type} {xs : List α} {k : Nat} : atI xs (k : Int) = xs[k]? := atI_pos (Int.natCast_nonneg k)
theorem ixN_pos {n : Nat} {k : Int} (h : 0 ≤ k) (l : k.toNat < n) : ixN n k = some k.toNat := by
  unfold ixN
  rw [if_pos h, if_pos (by omega)]
theorem join_some {α : Type} {a : α} : (some (some a)).join = some a := rfl
section
variable {Q : Bool → Boxes → Prop} {h : Boxes} {R : RV → Boxes → Prop}
theorem eqv_int {i j : Int} : PyData.eqv (.int i) (.int j) = decide (i = j) := rfl
theorem eqv_str {i j : Str} : PyData.eqv (.str i) (.str j) = decide (i = j) := rfl
theorem eqv_bool {i j : Bool} : PyData.eqv (.bool i) (.bool j) = decide (i = j) := rfl
theorem dep_int {i : Int} : (PyData.int i).depth = 0 := rfl
theorem dep_str {i : Str} : (PyData.str i).depth = 0 := rfl
theorem dep_bool {i : Bool} : (PyData.bool i).depth = 0 := rfl
theorem wp_eq_int {i j : Int} : wp (eqD (.int i) (.int j)) Q h = Q (decide (i = j)) h := by
  unfold eqD
  rw [wp_bnd, wp_grd]
  exact propext ⟨fun q => by have := q.2; rw [wp_ret] at this; exact this, fun q => ⟨rfl, by rw [wp_ret]; exact q⟩⟩
theorem wp_eq_str {i j : Str} : wp (eqD (.str i) (.str j)) Q h = Q (decide (i = j)) h := by
  unfold eqD
  rw [wp_bnd, wp_grd]
  exact propext ⟨fun q => by have := q.2; rw [wp_ret] at this; exact this, fun q => ⟨rfl, by rw [wp_ret]; exact q⟩⟩
theorem wp_eq_bool {i j : Bool} : wp (eqD (.bool i) (.bool j)) Q h = Q (decide (i = j)) h := by
  unfold eqD
  rw [wp_bnd, wp_grd]
  exact propext ⟨fun q => by have := q.2; rw [wp_ret] at this; exact this, fun q => ⟨rfl, by rw [wp_ret]; exact q⟩⟩
end
theorem two64 : (10 : Int) ^ 100 < 2 ^ 400 := by decide
theorem log_le {i : Int} {k : Nat} (h0 : 0 ≤ i) (h : i < 2 ^ k) : i.natAbs.log2 < k + 1 := by
  by_cases z : i.natAbs = 0
  · rw [z]; simp
  · have : i.natAbs < 2 ^ (k + 1) := by
      have e : (i.natAbs : Int) = i := Int.natAbs_of_nonneg h0
      have : (i.natAbs : Int) < ((2 ^ k : Nat) : Int) := by rw [e]; exact_mod_cast h
      have h2 : i.natAbs < 2 ^ k := by exact_mod_cast this
      exact Nat.lt_trans h2 (Nat.pow_lt_pow_right (by omega) (by omega))
    exact (Nat.log2_lt z).mpr this
/-- small numbers may be multiplied -/
theorem mul_ok {i j : Int} (a : 0 ≤ i) (b : i < 2 ^ 400) (c : 0 ≤ j) (d : j < 2 ^ 400) : i.natAbs.log2 + j.natAbs.log2 < 1000000 := by
  have := log_le a b
  have := log_le c d
  omega
theorem ints_get {xs : List Int} {k : Nat} (h : k < xs.length) : (xs.map PyData.int)[k]? = some (.int xs[k]) := by
  rw [List.getElem?_map, List.getElem?_eq_getElem h]; rfl
theorem rg_1 {j : Int} : rngOf [.pd (.int j)] = M.bnd (M.grd (decide (-(2 ^ 62) ≤ j ∧ j < 2 ^ 62))) fun _ => M.ret ⟨rngL 0 j.toNat, none⟩ := rfl
theorem rg_2 {i j : Int} : rngOf [.pd (.int i), .pd (.int j)] = M.bnd (M.grd (decide (-(2 ^ 62) ≤ i ∧ i < 2 ^ 62 ∧ -(2 ^ 62) ≤ j ∧ j < 2 ^ 62))) fun _ => M.ret ⟨rngL i (j - i).toNat, none⟩ := rfl
theorem sl_l {bx : Bool} {ds : List D} {lo hi : Option Int} : slcS bx (.pd (.list ds)) lo hi = newL bx (cutL ds lo hi) := rfl
theorem sl_t {bx : Bool} {ds : List D} {lo hi : Option Int} : slcS bx (.pd (.tuple ds)) lo hi = newT (cutL ds lo hi) := rfl
theorem sl_s {bx : Bool} {z : Str} {lo hi : Option Int} : slcS bx (.pd (.str z)) lo hi = M.bnd (M.grd (decide (z.length ≤ sizeLine))) fun _ => M.ret (.pd (.str (cutS z lo hi))) := rfl
theorem wp_mkT0 {R : RV → Boxes → Prop} {h : Boxes} : wp (mkTup []) R h = R (.pd (.tuple [])) h := wp_tupD rfl (show 0 ≤ sizeLine by decide)
theorem wp_mkT1 {a : D} {R : RV → Boxes → Prop} {h : Boxes} : wp (mkTup [.pd a]) R h = R (.pd (.tuple [a])) h := wp_tupD rfl (show 1 ≤ sizeLine by decide)
theorem wp_mkT2 {a b : D} {R : RV → Boxes → Prop} {h : Boxes} : wp (mkTup [.pd a, .pd b]) R h = R (.pd (.tuple [a, b])) h := wp_tupD rfl (show 2 ≤ sizeLine by decide)
theorem wp_mkT3 {a b c : D} {R : RV → Boxes → Prop} {h : Boxes} : wp (mkTup [.pd a, .pd b, .pd c]) R h = R (.pd (.tuple [a, b, c])) h := wp_tupD rfl (show 3 ≤ sizeLine by decide)
theorem wp_mkT4 {a b c d : D} {R : RV → Boxes → Prop} {h : Boxes} : wp (mkTup [.pd a, .pd b, .pd c, .pd d]) R h = R (.pd (.tuple [a, b, c, d])) h := wp_tupD rfl (show 4 ≤ sizeLine by decide)
theorem wp_mkT5 {a b c d e : D} {R : RV → Boxes → Prop} {h : Boxes} : wp (mkTup [.pd a, .pd b, .pd c, .pd d, .pd e]) R h = R (.pd (.tuple [a, b, c, d, e])) h := wp_tupD rfl (show 5 ≤ sizeLine by decide)
theorem wp_mkT6 {a b c d e f : D} {R : RV → Boxes → Prop} {h : Boxes} : wp (mkTup [.pd a, .pd b, .pd c, .pd d, .pd e, .pd f]) R h = R (.pd (.tuple [a, b, c, d, e, f])) h := wp_tupD rfl (show 6 ≤ sizeLine by decide)
theorem wp_mkT7 {a b c d e f g : D} {R : RV → Boxes → Prop} {h : Boxes} : wp (mkTup [.pd a, .pd b, .pd c, .pd d, .pd e, .pd f, .pd g]) R h = R (.pd (.tuple [a, b, c, d, e, f, g])) h := wp_tupD rfl (show 7 ≤ sizeLine by decide)
theorem wp_mkT8 {a b c d e f g k : D} {R : RV → Boxes → Prop} {h : Boxes} : wp (mkTup [.pd a, .pd b, .pd c, .pd d, .pd e, .pd f, .pd g, .pd k]) R h = R (.pd (.tuple [a, b, c, d, e, f, g, k])) h := wp_tupD rfl (show 8 ≤ sizeLine by decide)
theorem mt_ixS {bx : Bool} {z u : Str} : methS bx .index .str (.pd (.str z)) [.pd (.str u)] = M.bnd (M.opt (Builtin.Str.occurrences z u 0 z.length 1).head?) fun k => M.ret (.pd (.int (k : Nat))) := rfl
theorem wp_at {α : Type} {o : Option α} {a : α} {Q : α → Boxes → Prop} {h : Boxes} (e : o = some a) (q : Q a h) : wp (M.opt o) Q h := by rw [e, wp_some]; exact q
theorem wp_if {α : Type} {c : Prop} [Decidable c] {m m' : M α} {Q : α → Boxes → Prop} {h : Boxes} (a : c → wp m Q h) (b : ¬ c → wp m' Q h) : wp (if c then m else m') Q h := by
  by_cases z : c
  · rw [if_pos z]; exact a z
  · rw [if_neg z]; exact b z
/-! ### the operations, case by case -/
theorem bn_add {bx : Bool} {i j : Int} : binD bx .Add (.int i) (.int j) = M.ret (.pd (.int (i + j))) := rfl
theorem bn_sub {bx : Bool} {i j : Int} : binD bx .Sub (.int i) (.int j) = M.ret (.pd (.int (i - j))) := rfl
theorem bn_mul {bx : Bool} {i j : Int} : binD bx .Mult (.int i) (.int j) = M.bnd (M.grd (decide (i.natAbs.log2 + j.natAbs.log2 < 1000000))) fun _ => M.ret (.pd (.int (i * j))) := rfl
theorem bn_div {bx : Bool} {i j : Int} : binD bx .FloorDiv (.int i) (.int j) = M.bnd (M.grd (decide (0 < j ∧ j.natAbs.log2 < 9000))) fun _ => M.ret (.pd (.int (i / j))) := rfl
theorem bn_mod {bx : Bool} {i j : Int} : binD bx .Mod (.int i) (.int j) = M.bnd (M.grd (decide (0 < j))) fun _ => M.ret (.pd (.int (i % j))) := rfl
theorem bn_pow {bx : Bool} {i j : Int} : binD bx .Pow (.int i) (.int j) = M.bnd (M.grd (decide (0 ≤ j ∧ j ≤ 1000000 ∧ i.natAbs < 2 ^ 64))) fun _ => M.ret (.pd (.int (i ^ j.toNat))) := rfl
theorem bn_addS {bx : Bool} {x y : Str} : binD bx .Add (.str x) (.str y) = M.bnd (M.grd (decide (x.length + y.length ≤ sizeLine))) fun _ => M.ret (.pd (.str (x ++ y))) := rfl
theorem bn_addT {bx : Bool} {ds es : List D} : binD bx .Add (.tuple ds) (.tuple es) = newT (ds ++ es) := rfl
theorem bn_addL {bx : Bool} {ds es : List D} : binD bx .Add (.list ds) (.list es) = newL bx (ds ++ es) := rfl
theorem cp_eq {a b : D} : cmpD .Eq a b = eqD a b := rfl
theorem cp_ne {a b : D} : cmpD .NotEq a b = M.bnd (eqD a b) fun k => M.ret (!k) := rfl
theorem cp_ltI {i j : Int} : cmpD .Lt (.int i) (.int j) = M.ret (decide (i < j)) := rfl
theorem cp_leI {i j : Int} : cmpD .LtE (.int i) (.int j) = M.ret (decide (i ≤ j)) := rfl
theorem cp_gtI {i j : Int} : cmpD .Gt (.int i) (.int j) = M.ret (decide (j < i)) := rfl
theorem cp_geI {i j : Int} : cmpD .GtE (.int i) (.int j) = M.ret (decide (j ≤ i)) := rfl
theorem cp_ltS {x y : Str} : cmpD .Lt (.str x) (.str y) = M.ret (ltS x y) := rfl
theorem cp_leS {x y : Str} : cmpD .LtE (.str x) (.str y) = M.ret (!ltS y x) := rfl
theorem cp_gtS {x y : Str} : cmpD .Gt (.str x) (.str y) = M.ret (ltS y x) := rfl
theorem cp_geS {x y : Str} : cmpD .GtE (.str x) (.str y) = M.ret (!ltS x y) := rfl
theorem cp_ltT {ds es : List D} : cmpD .Lt (.tuple ds) (.tuple es) = M.bnd (M.grd (decide (min (PyData.tuple ds).depth (PyData.tuple es).depth ≤ 64))) fun _ => M.opt (ltD (.tuple ds) (.tuple es)) := rfl
theorem cp_gtT {ds es : List D} : cmpD .Gt (.tuple ds) (.tuple es) = M.bnd (M.grd (decide (min (PyData.tuple ds).depth (PyData.tuple es).depth ≤ 64))) fun _ => M.opt (gtD (.tuple ds) (.tuple es)) := rfl
theorem cp_in {a b : D} : cmpD .In a b = inD a b := rfl
theorem cp_nin {a b : D} : cmpD .NotIn a b = M.bnd (inD a b) fun k => M.ret (!k) := rfl
theorem cp_is {a : D} : cmpD .Is a .none = M.ret (isNonD a) := rfl
theorem cp_isn {a : D} : cmpD .IsNot a .none = M.ret (!isNonD a) := rfl
theorem ix_l {ds : List D} {i : Int} : idxD (.list ds) (.int i) = M.bnd (M.opt (atI ds i)) fun d => M.ret (.pd d) := rfl
theorem ix_t {ds : List D} {i : Int} : idxD (.tuple ds) (.int i) = M.bnd (M.opt (atI ds i)) fun d => M.ret (.pd d) := rfl
theorem ix_s {x : Str} {i : Int} : idxD (.str x) (.int i) = M.bnd (M.grd (decide (x.length ≤ sizeLine))) fun _ => M.bnd (M.opt (atI x.cps.toList i)) fun c => M.ret (.pd (.str ⟨#[c]⟩)) := rfl
theorem ixs_tp {rs : List RV} {i : Int} : idxS (.tp rs) (.pd (.int i)) = M.opt (atI rs i) := rfl
theorem ixs_pd {d : D} {r : RV} : idxS (.pd d) r = M.bnd (dat (.pd d)) fun x => M.bnd (dat r) fun y => idxD x y := rfl
theorem ixs_rf {n : Nat} {r : RV} : idxS (.rf n) r = M.bnd (dat (.rf n)) fun x => M.bnd (dat r) fun y => idxD x y := rfl
theorem ixs_fz {ds : List D} {r : RV} : idxS (.fz ds) r = M.bnd (dat (.fz ds)) fun x => M.bnd (dat r) fun y => idxD x y := rfl
theorem bi_lenL {bx : Bool} {ds : List D} : biD bx .len [.list ds] = M.ret (.pd (.int ds.length)) := rfl
theorem bi_lenT {bx : Bool} {ds : List D} : biD bx .len [.tuple ds] = M.ret (.pd (.int ds.length)) := rfl
theorem bi_lenS {bx : Bool} {x : Str} : biD bx .len [.str x] = M.bnd (M.grd (decide (x.length ≤ sizeLine))) fun _ => M.ret (.pd (.int x.length)) := rfl
theorem bi_listL {bx : Bool} {ds : List D} : biD bx .list [.list ds] = newL bx ds := rfl
theorem bi_listT {bx : Bool} {ds : List D} : biD bx .list [.tuple ds] = newL bx ds := rfl
theorem bi_tupL {bx : Bool} {ds : List D} : biD bx .tuple [.list ds] = newT ds := rfl
theorem bi_tupT {bx : Bool} {ds : List D} : biD bx .tuple [.tuple ds] = M.ret (.pd (.tuple ds)) := rfl
theorem bi_intI {bx : Bool} {i : Int} : biD bx .int [.int i] = M.ret (.pd (.int i)) := rfl
theorem bi_intB {bx : Bool} {k : Bool} : biD bx .int [.bool k] = M.ret (.pd (.int (if k then 1 else 0))) := rfl
theorem bi_strI {bx : Bool} {i : Int} : biD bx .str [.int i] = M.bnd (M.grd (decide (i.natAbs.log2 < 1920))) fun _ => M.ret (.pd (.str (toString i))) := rfl
theorem bi_strS {bx : Bool} {x : Str} : biD bx .str [.str x] = M.ret (.pd (.str x)) := rfl
theorem bi_abs {bx : Bool} {i : Int} : biD bx .abs [.int i] = M.ret (.pd (.int (if i < 0 then -i else i))) := rfl
theorem bi_max {bx : Bool} {i j : Int} : biD bx .max [.int i, .int j] = M.ret (.pd (.int (if j > i then j else i))) := rfl
theorem bi_min {bx : Bool} {i j : Int} : biD bx .min [.int i, .int j] = M.ret (.pd (.int (if j < i then j else i))) := rfl
theorem bi_all {bx : Bool} {ds : List D} : biD bx .all [.list ds] = M.bnd (M.opt (boolsOf ds)) fun ks => M.ret (.pd (.bool (ks.all id))) := rfl
theorem bi_any {bx : Bool} {ds : List D} : biD bx .any [.list ds] = M.bnd (M.opt (boolsOf ds)) fun ks => M.ret (.pd (.bool (ks.any id))) := rfl
theorem bi_sum {bx : Bool} {ds : List D} : biD bx .sum [.list ds] = M.bnd (M.opt (intsOf ds)) fun ks => M.ret (.pd (.int ks.sum)) := rfl
theorem in_l {a : D} {ds : List D} : inD a (.list ds) = inL a ds := rfl
theorem in_t {a : D} {ds : List D} : inD a (.tuple ds) = inL a ds := rfl
theorem in_s {x y : Str} : inD (.str x) (.str y) = M.ret (inStr x y) := rfl
theorem tr_b {k : Bool} : truD (.bool k) = some k := rfl
theorem tr_i {i : Int} : truD (.int i) = some (i != 0) := rfl
theorem tr_n : truD .none = some false := rfl
theorem tr_l {ds : List D} : truD (.list ds) = some (!ds.isEmpty) := rfl
theorem tr_t {ds : List D} : truD (.tuple ds) = some (!ds.isEmpty) := rfl
theorem so_l {ds : List D} : srcOf (.pd (.list ds)) = M.ret ⟨ds, none⟩ := rfl
theorem so_t {ds : List D} : srcOf (.pd (.tuple ds)) = M.ret ⟨ds, none⟩ := rfl
theorem so_s {z : Str} : srcOf (.pd (.str z)) = M.ret ⟨z.cps.toList.map fun c => .str ⟨#[c]⟩, none⟩ := rfl
theorem so_f {ds : List D} : srcOf (.fz ds) = M.ret ⟨ds, none⟩ := rfl
theorem io_t {n : Nat} {ds : List D} : itemsOf n (.pd (.tuple ds)) = if ds.length = n then M.ret (ds.map .pd) else M.no := rfl
theorem ng_i {i : Int} : negS (.pd (.int i)) = M.ret (.pd (.int (-i))) := rfl
theorem pt_i {i : Int} : partS (.pd (.int i)) = M.ret (some i) := rfl
theorem ag_a {i j : Int} : augS .Add (.pd (.int i)) (.pd (.int j)) = M.ret (.pd (.int (i + j))) := rfl
theorem ag_s {i j : Int} : augS .Sub (.pd (.int i)) (.pd (.int j)) = M.ret (.pd (.int (i - j))) := rfl
theorem rv_l {ds : List D} : revOf (.pd (.list ds)) = M.ret ⟨ds.reverse, none⟩ := rfl
theorem rv_t {ds : List D} : revOf (.pd (.tuple ds)) = M.ret ⟨ds.reverse, none⟩ := rfl
theorem ap_d {d : D} : asPd (.pd d) = some d := rfl
theorem rk_l {ds : List D} : rkD (.list ds) = some .list := rfl
theorem rk_t {ds : List D} : rkD (.tuple ds) = some .tuple := rfl
theorem rk_s {x : Str} : rkD (.str x) = some .str := rfl
/-! ### end of the cases -/
/-! ### boxes -/
section
variable {n : Nat} {h : Boxes} {ds : List D} {x y : Box} {R : RV → Boxes → Prop}
theorem box_self (e : h[n]? = some x) : h = h.set n x := by
  obtain ⟨l, e⟩ := List.getElem?_eq_some_iff.mp e
  rw [← e, List.set_getElem_self]
theorem box_lt (e : h[n]? = some x) : n < h.length := (List.getElem?_eq_some_iff.mp e).1
theorem wp_dat_set {Q : D → Boxes → Prop} (l : n < h.length) : wp (dat (.rf n)) Q (h.set n (.lst ds)) = Q (.list ds) (h.set n (.lst ds)) := wp_dat_rf (List.getElem?_set_self l)
theorem wp_set_set {k : Int} {d : D} (l : n < h.length) (h0 : 0 ≤ k) (hk : k.toNat < ds.length) (z : ds.length ≤ 1000) : wp (setS (.rf n) (.pd (.int k)) (.pd d)) R (h.set n (.lst ds)) = R (.pd .none) (h.set n (.lst (ds.set k.toNat d))) := by
  rw [wp_set (List.getElem?_set_self l) (ixN_pos h0 hk) (Nat.le_trans z (by decide)), List.set_set]
end
theorem wp_newL1 {ds : List D} {R : RV → Boxes → Prop} {h : Boxes} (z : ds.length ≤ 1000) : wp (newL false ds) R h = R (.pd (.list ds)) h := by
  rw [wp_newL (Nat.le_trans z (by decide))]; rfl
theorem wp_newL2 {ds : List D} {R : RV → Boxes → Prop} {h : Boxes} (z : ds.length ≤ 1000) : wp (newL true ds) R h = R (.rf h.length) (h ++ [.lst ds]) := by
  rw [wp_newL (Nat.le_trans z (by decide))]; rfl
theorem wp_newT1 {ds : List D} {R : RV → Boxes → Prop} {h : Boxes} (z : ds.length ≤ 1000) : wp (newT ds) R h = R (.pd (.tuple ds)) h := wp_newT (Nat.le_trans z (by decide))
theorem wp_rng {lo : Int} {m : Nat} {body : D → Sl → M Fl} {σ : Sl} {Q : Fl → Boxes → Prop} {h : Boxes} (I : Nat → Sl → Boxes → Prop) (h0 : I 0 σ h) (step : ∀ k, k < m → ∀ σ h, I k σ h → wp (body (.int (lo + k)) σ) (turnE (I (k + 1)) Q) h) (fin : ∀ σ h, I m σ h → Q (.nx σ) h) :
    wp (forL ⟨rngL lo m, none⟩ body (rngL lo m).length 0 σ) Q h := by
  have l : (rngL lo m).length = m := by simp [rngL]
  refine wp_for I h0 (fun i hi σ h hI => ?_) (fun σ h hI => fin σ h (by rw [l] at hI; exact hI))
  have e : (rngL lo m)[i] = .int (lo + i) := by simp [rngL]
  rw [e]
  exact step i (by rw [l] at hi; exact hi) σ h hI
theorem emod_rng (a : Int) {b : Int} (h : 0 < b) : 0 ≤ a % b ∧ a % b < b := ⟨Int.emod_nonneg _ (by omega), Int.emod_lt_of_pos _ h⟩
end AI

set_option Elab.async false
set_option linter.all false
set_option maxRecDepth 100000
set_option maxHeartbeats 4000000
/-! AiTape: the laws' tape of numbers. -/
namespace AI
open PySem L2
def b_tape : List S := [.asg (.nm 1) (.cst (.int 7)), .for_ (.nm 2) (.val (.var 0)) [.asg (.nm 1) (.bin .Mod (.bi .int [(.bin .Add (.bin .Mult (.var 1) (.cst (.int 31))) (.bi .abs [(.bi .int [(.var 2)])]))]) (.cst (.int 2147483647)))], .ret (.bx (.lst [(.bi .list [(.var 0)]), (.cst (.int 0)), (.cst (.int 0)), (.var 1)]))]
def b_draw : List S := [.ite (.val (.cmp .Eq (.idx (.var 0) (.cst (.int 2))) (.cst (.int 0)))) [.asg (.nm 2) (.idx (.var 0) (.cst (.int 1))), .asg (.nm 3) (.cst (.int 0)), .ite (.val (.cmp .Lt (.var 2) (.bi .len [(.idx (.var 0) (.cst (.int 0)))]))) [.asg (.nm 3) (.bi .abs [(.bi .int [(.idx (.idx (.var 0) (.cst (.int 0))) (.var 2))])])] [.asg (.sub (.var 0) (.cst (.int 3))) (.bin .Mod (.bi .int [(.bin .Add (.bin .Add (.bin .Mult (.idx (.var 0) (.cst (.int 3))) (.cst (.int 48271))) (.var 2)) (.cst (.int 1)))]) (.cst (.int 2147483647))), .asg (.nm 3) (.idx (.var 0) (.cst (.int 3)))], .asg (.sub (.var 0) (.cst (.int 1))) (.bin .Add (.var 2) (.cst (.int 1))), .ite (.val (.cmp .Lt (.var 3) (.bin .Pow (.cst (.int 10)) (.cst (.int 18))))) [.asg (.nm 3) (.bin .Mod (.bi .int [(.bin .Add (.bin .Add (.bin .Mult (.var 3) (.cst (.int 48271))) (.bin .Mult (.var 2) (.cst (.int 69621)))) (.cst (.int 5)))]) (.cst (.int 2147483647))), .asg (.nm 3) (.bin .Mod (.bi .int [(.bin .Mult (.var 3) (.cst (.int 69621)))]) (.cst (.int 2147483629))), .ret (.bin .Mod (.bi .int [(.var 3)]) (.bi .max [(.var 1), (.cst (.int 1))]))] [], .asg (.sub (.var 0) (.cst (.int 2))) (.var 3)] [], .asg (.nm 3) (.idx (.var 0) (.cst (.int 2))), .asg (.sub (.var 0) (.cst (.int 2))) (.bin .FloorDiv (.var 3) (.bi .max [(.var 1), (.cst (.int 2))])), .ret (.bin .Mod (.bi .int [(.var 3)]) (.bi .max [(.var 1), (.cst (.int 1))]))]
/-- the tape's box: at most B numbers were drawn -/
structure TapeB (B : Nat) (b : Box) : Prop where
  ex : ∃ (xs : List Int) (a : Nat) (e c : Int), b = .lst [.list (xs.map .int), .int a, .int e, .int c] ∧ a ≤ B ∧ 0 ≤ e ∧ 0 ≤ c ∧ c < 2147483647 ∧ xs.length ≤ 63
theorem TapeB.up {B B' : Nat} {b : Box} (t : TapeB B b) (h : B ≤ B') : TapeB B' b := by
  obtain ⟨xs, a, e, c, e1, e2, e3⟩ := t.ex
  exact ⟨xs, a, e, c, e1, Nat.le_trans e2 h, e3⟩
theorem max_pos (k : Int) : 0 < (if k < 1 then 1 else k) := by split <;> omega
theorem max_two (k : Int) : 0 < (if k < 2 then 2 else k) := by split <;> omega
/-- what is drawn below k -/
def Drawn (k v : Int) : Prop := 0 ≤ v ∧ v < (if k < 1 then 1 else k)
theorem small400 {a B : Nat} (h : a ≤ B) (hB : B ≤ 10 ^ 100) : (a : Int) < 2 ^ 400 := by
  have : a < 2 ^ 400 := Nat.lt_of_le_of_lt (Nat.le_trans h hB) (by decide)
  exact_mod_cast this
theorem draw_raw {T : TT} {B n : Nat} {h : Boxes} {b : Box} {many : Int} (t : TapeB B b) (hb : h[n]? = some b) (hB : B ≤ 10 ^ 100) (hm : many < 2 ^ 1000) {Q : RV → Boxes → Prop} (q : ∀ v b', TapeB (B + 1) b' → Drawn many v → Q (.pd (.int v)) (h.set n b')) : wp (rawDef T ⟨2, 4, b_draw⟩ [.rf n, .pd (.int many)]) Q h := by
  obtain ⟨xs, a, e, c, rfl, ha, he, hc0, hc1, hx⟩ := t.ex
  have l := box_lt hb
  refine wp_def rfl ?_
  rw [box_self hb]
  have pos := max_pos many
  have two := max_two many
  have lg : (if many < 2 then 2 else many).natAbs.log2 < 9000 := by
    have : (if many < 2 then 2 else many) < 2 ^ 1000 := by split <;> first | assumption | decide
    exact Nat.lt_trans (log_le (by omega) this) (by decide)
  simp only [wp_ret, wp_bnd, wp_some, wp_grd, wp_no, wp_dat_pd, wp_dat_fz,  ev, evs, evO, evI, evC, evTs, AI.ex, asgG, asgGs, getV, wp_exs, wp_exs_nil, goS_nx, goS_rt, goS_bk, goS_ct, turnE_nx, turnE_ct, turnE_bk, turnE_rt, endD_rt, endD_nx, back_pd, binS, isFz, cmpS, biS, dats, truth, isiS, allPd, isiD, rkOf, join_some, Option.map, List.map, List.length_cons, List.length_nil, List.getElem?_cons_zero, List.getElem?_cons_succ, List.set_cons_zero, List.set_cons_succ, startS, atI_pos, atI_cast, Int.toNat_natCast, wp_newL1, wp_newL2, wp_newT1, List.length_set, List.set_set, decide_eq_true_eq, decide_eq_false_iff_not, Bool.not_eq_true', true_and, and_true,  ixN_pos, Int.reduceLE, Int.reduceLT, Int.reduceToNat, Int.reduceAdd, Int.reduceSub, Int.reduceMul, Int.reduceMod, Int.reduceNeg, Int.reducePow, Nat.reduceAdd, Nat.reduceLT, Nat.reduceLeDiff, Nat.reduceSub, reduceIte, Int.reduceEq, List.isEmpty_nil, Bool.false_eq_true, decide_true, decide_false, ge_iff_le, gt_iff_lt,  wp_eq_int, wp_eq_str, wp_eq_bool, List.length_map, List.replicate, List.cons_append, List.nil_append, Bool.not_false, Bool.not_true, Bool.and_true, Bool.true_and, Bool.and_self, Bool.and_false, Bool.false_and, Option.bind, bn_add, bn_sub, bn_mul, bn_div, bn_mod, bn_pow, bn_addS, bn_addT, bn_addL, cp_eq, cp_ne, cp_ltI, cp_leI, cp_gtI, cp_geI, cp_ltS, cp_leS, cp_gtS, cp_geS, cp_ltT, cp_gtT, cp_in, cp_nin, cp_is, cp_isn, ix_l, ix_t, ix_s, ixs_tp, ixs_pd, ixs_rf, ixs_fz, bi_lenL, bi_lenT, bi_lenS, bi_listL, bi_listT, bi_tupL, bi_tupT, bi_intI, bi_intB, bi_strI, bi_strS, bi_abs, bi_max, bi_min, bi_all, bi_any, bi_sum, in_l, in_t, in_s, tr_b, tr_i, tr_n, tr_l, tr_t, so_l, so_t, so_s, so_f, io_t, ng_i, pt_i, ag_a, ag_s, rv_l, rv_t, ap_d, rk_l, rk_t, rk_s, rg_1, rg_2, sl_l, sl_t, sl_s, mt_ixS, wp_mkT0, wp_mkT1, wp_mkT2, wp_mkT3, wp_mkT4, wp_mkT5, wp_mkT6, wp_mkT7, wp_mkT8, b_draw, wp_dat_set l]
  refine wp_if (fun c0 => ?_) (fun c0 => ?_)
  · -- a new cell
    subst c0
    simp only [wp_ret, wp_bnd, wp_some, wp_grd, wp_no, wp_dat_pd, wp_dat_fz,  ev, evs, evO, evI, evC, evTs, AI.ex, asgG, asgGs, getV, wp_exs, wp_exs_nil, goS_nx, goS_rt, goS_bk, goS_ct, turnE_nx, turnE_ct, turnE_bk, turnE_rt, endD_rt, endD_nx, back_pd, binS, isFz, cmpS, biS, dats, truth, isiS, allPd, isiD, rkOf, join_some, Option.map, List.map, List.length_cons, List.length_nil, List.getElem?_cons_zero, List.getElem?_cons_succ, List.set_cons_zero, List.set_cons_succ, startS, atI_pos, atI_cast, Int.toNat_natCast, wp_newL1, wp_newL2, wp_newT1, List.length_set, List.set_set, decide_eq_true_eq, decide_eq_false_iff_not, Bool.not_eq_true', true_and, and_true,  ixN_pos, Int.reduceLE, Int.reduceLT, Int.reduceToNat, Int.reduceAdd, Int.reduceSub, Int.reduceMul, Int.reduceMod, Int.reduceNeg, Int.reducePow, Nat.reduceAdd, Nat.reduceLT, Nat.reduceLeDiff, Nat.reduceSub, reduceIte, Int.reduceEq, List.isEmpty_nil, Bool.false_eq_true, decide_true, decide_false, ge_iff_le, gt_iff_lt,  wp_eq_int, wp_eq_str, wp_eq_bool, List.length_map, List.replicate, List.cons_append, List.nil_append, Bool.not_false, Bool.not_true, Bool.and_true, Bool.true_and, Bool.and_self, Bool.and_false, Bool.false_and, Option.bind, bn_add, bn_sub, bn_mul, bn_div, bn_mod, bn_pow, bn_addS, bn_addT, bn_addL, cp_eq, cp_ne, cp_ltI, cp_leI, cp_gtI, cp_geI, cp_ltS, cp_leS, cp_gtS, cp_geS, cp_ltT, cp_gtT, cp_in, cp_nin, cp_is, cp_isn, ix_l, ix_t, ix_s, ixs_tp, ixs_pd, ixs_rf, ixs_fz, bi_lenL, bi_lenT, bi_lenS, bi_listL, bi_listT, bi_tupL, bi_tupT, bi_intI, bi_intB, bi_strI, bi_strS, bi_abs, bi_max, bi_min, bi_all, bi_any, bi_sum, in_l, in_t, in_s, tr_b, tr_i, tr_n, tr_l, tr_t, so_l, so_t, so_s, so_f, io_t, ng_i, pt_i, ag_a, ag_s, rv_l, rv_t, ap_d, rk_l, rk_t, rk_s, rg_1, rg_2, sl_l, sl_t, sl_s, mt_ixS, wp_mkT0, wp_mkT1, wp_mkT2, wp_mkT3, wp_mkT4, wp_mkT5, wp_mkT6, wp_mkT7, wp_mkT8, wp_dat_set l]
    have ha4 := small400 ha hB
    have done : ∀ (v c' e' : Int), 0 ≤ c' → c' < 2147483647 → 0 ≤ e' → Q (.pd (.int (v % if many < 1 then 1 else many))) (h.set n (.lst [.list (xs.map .int), .int ((a : Int) + 1), .int e', .int c'])) := fun v c' e' h1 h2 h3 =>
      q _ _ ⟨xs, a + 1, e', c', rfl, by omega, h3, h1, h2, hx⟩ ⟨(emod_rng v pos).1, (emod_rng v pos).2⟩
    refine wp_if (fun c1 => ?_) (fun c1 => ?_)
    · have hl : a < xs.length := by omega
      simp only [wp_ret, wp_bnd, wp_some, wp_grd, wp_no, wp_dat_pd, wp_dat_fz,  ev, evs, evO, evI, evC, evTs, AI.ex, asgG, asgGs, getV, wp_exs, wp_exs_nil, goS_nx, goS_rt, goS_bk, goS_ct, turnE_nx, turnE_ct, turnE_bk, turnE_rt, endD_rt, endD_nx, back_pd, binS, isFz, cmpS, biS, dats, truth, isiS, allPd, isiD, rkOf, join_some, Option.map, List.map, List.length_cons, List.length_nil, List.getElem?_cons_zero, List.getElem?_cons_succ, List.set_cons_zero, List.set_cons_succ, startS, atI_pos, atI_cast, Int.toNat_natCast, wp_newL1, wp_newL2, wp_newT1, List.length_set, List.set_set, decide_eq_true_eq, decide_eq_false_iff_not, Bool.not_eq_true', true_and, and_true,  ixN_pos, Int.reduceLE, Int.reduceLT, Int.reduceToNat, Int.reduceAdd, Int.reduceSub, Int.reduceMul, Int.reduceMod, Int.reduceNeg, Int.reducePow, Nat.reduceAdd, Nat.reduceLT, Nat.reduceLeDiff, Nat.reduceSub, reduceIte, Int.reduceEq, List.isEmpty_nil, Bool.false_eq_true, decide_true, decide_false, ge_iff_le, gt_iff_lt,  wp_eq_int, wp_eq_str, wp_eq_bool, List.length_map, List.replicate, List.cons_append, List.nil_append, Bool.not_false, Bool.not_true, Bool.and_true, Bool.true_and, Bool.and_self, Bool.and_false, Bool.false_and, Option.bind, bn_add, bn_sub, bn_mul, bn_div, bn_mod, bn_pow, bn_addS, bn_addT, bn_addL, cp_eq, cp_ne, cp_ltI, cp_leI, cp_gtI, cp_geI, cp_ltS, cp_leS, cp_gtS, cp_geS, cp_ltT, cp_gtT, cp_in, cp_nin, cp_is, cp_isn, ix_l, ix_t, ix_s, ixs_tp, ixs_pd, ixs_rf, ixs_fz, bi_lenL, bi_lenT, bi_lenS, bi_listL, bi_listT, bi_tupL, bi_tupT, bi_intI, bi_intB, bi_strI, bi_strS, bi_abs, bi_max, bi_min, bi_all, bi_any, bi_sum, in_l, in_t, in_s, tr_b, tr_i, tr_n, tr_l, tr_t, so_l, so_t, so_s, so_f, io_t, ng_i, pt_i, ag_a, ag_s, rv_l, rv_t, ap_d, rk_l, rk_t, rk_s, rg_1, rg_2, sl_l, sl_t, sl_s, mt_ixS, wp_mkT0, wp_mkT1, wp_mkT2, wp_mkT3, wp_mkT4, wp_mkT5, wp_mkT6, wp_mkT7, wp_mkT8, wp_dat_set l, wp_set_set l, ints_get hl]
      have w0 : 0 ≤ (if xs[a] < 0 then -xs[a] else xs[a]) := by split <;> omega
      generalize (if xs[a] < 0 then -xs[a] else xs[a]) = w at *
      refine ⟨by decide, ?_⟩
      refine wp_if (fun c2 => ?_) (fun c2 => ?_)
      · have w4 : w < 2 ^ 400 := Int.lt_trans c2 (by decide)
        simp only [wp_ret, wp_bnd, wp_some, wp_grd, wp_no, wp_dat_pd, wp_dat_fz,  ev, evs, evO, evI, evC, evTs, AI.ex, asgG, asgGs, getV, wp_exs, wp_exs_nil, goS_nx, goS_rt, goS_bk, goS_ct, turnE_nx, turnE_ct, turnE_bk, turnE_rt, endD_rt, endD_nx, back_pd, binS, isFz, cmpS, biS, dats, truth, isiS, allPd, isiD, rkOf, join_some, Option.map, List.map, List.length_cons, List.length_nil, List.getElem?_cons_zero, List.getElem?_cons_succ, List.set_cons_zero, List.set_cons_succ, startS, atI_pos, atI_cast, Int.toNat_natCast, wp_newL1, wp_newL2, wp_newT1, List.length_set, List.set_set, decide_eq_true_eq, decide_eq_false_iff_not, Bool.not_eq_true', true_and, and_true,  ixN_pos, Int.reduceLE, Int.reduceLT, Int.reduceToNat, Int.reduceAdd, Int.reduceSub, Int.reduceMul, Int.reduceMod, Int.reduceNeg, Int.reducePow, Nat.reduceAdd, Nat.reduceLT, Nat.reduceLeDiff, Nat.reduceSub, reduceIte, Int.reduceEq, List.isEmpty_nil, Bool.false_eq_true, decide_true, decide_false, ge_iff_le, gt_iff_lt,  wp_eq_int, wp_eq_str, wp_eq_bool, List.length_map, List.replicate, List.cons_append, List.nil_append, Bool.not_false, Bool.not_true, Bool.and_true, Bool.true_and, Bool.and_self, Bool.and_false, Bool.false_and, Option.bind, bn_add, bn_sub, bn_mul, bn_div, bn_mod, bn_pow, bn_addS, bn_addT, bn_addL, cp_eq, cp_ne, cp_ltI, cp_leI, cp_gtI, cp_geI, cp_ltS, cp_leS, cp_gtS, cp_geS, cp_ltT, cp_gtT, cp_in, cp_nin, cp_is, cp_isn, ix_l, ix_t, ix_s, ixs_tp, ixs_pd, ixs_rf, ixs_fz, bi_lenL, bi_lenT, bi_lenS, bi_listL, bi_listT, bi_tupL, bi_tupT, bi_intI, bi_intB, bi_strI, bi_strS, bi_abs, bi_max, bi_min, bi_all, bi_any, bi_sum, in_l, in_t, in_s, tr_b, tr_i, tr_n, tr_l, tr_t, so_l, so_t, so_s, so_f, io_t, ng_i, pt_i, ag_a, ag_s, rv_l, rv_t, ap_d, rk_l, rk_t, rk_s, rg_1, rg_2, sl_l, sl_t, sl_s, mt_ixS, wp_mkT0, wp_mkT1, wp_mkT2, wp_mkT3, wp_mkT4, wp_mkT5, wp_mkT6, wp_mkT7, wp_mkT8, wp_dat_set l, wp_set_set l]
        have r1 := emod_rng (w * 48271 + ↑a * 69621 + 5) (show (0 : Int) < 2147483647 by decide)
        exact ⟨mul_ok w0 w4 (by decide) (by decide), mul_ok (by omega) ha4 (by decide) (by decide), mul_ok r1.1 (Int.lt_trans r1.2 (by decide)) (by decide) (by decide), pos, done _ _ _ hc0 hc1 he⟩
      · simp only [wp_ret, wp_bnd, wp_some, wp_grd, wp_no, wp_dat_pd, wp_dat_fz,  ev, evs, evO, evI, evC, evTs, AI.ex, asgG, asgGs, getV, wp_exs, wp_exs_nil, goS_nx, goS_rt, goS_bk, goS_ct, turnE_nx, turnE_ct, turnE_bk, turnE_rt, endD_rt, endD_nx, back_pd, binS, isFz, cmpS, biS, dats, truth, isiS, allPd, isiD, rkOf, join_some, Option.map, List.map, List.length_cons, List.length_nil, List.getElem?_cons_zero, List.getElem?_cons_succ, List.set_cons_zero, List.set_cons_succ, startS, atI_pos, atI_cast, Int.toNat_natCast, wp_newL1, wp_newL2, wp_newT1, List.length_set, List.set_set, decide_eq_true_eq, decide_eq_false_iff_not, Bool.not_eq_true', true_and, and_true,  ixN_pos, Int.reduceLE, Int.reduceLT, Int.reduceToNat, Int.reduceAdd, Int.reduceSub, Int.reduceMul, Int.reduceMod, Int.reduceNeg, Int.reducePow, Nat.reduceAdd, Nat.reduceLT, Nat.reduceLeDiff, Nat.reduceSub, reduceIte, Int.reduceEq, List.isEmpty_nil, Bool.false_eq_true, decide_true, decide_false, ge_iff_le, gt_iff_lt,  wp_eq_int, wp_eq_str, wp_eq_bool, List.length_map, List.replicate, List.cons_append, List.nil_append, Bool.not_false, Bool.not_true, Bool.and_true, Bool.true_and, Bool.and_self, Bool.and_false, Bool.false_and, Option.bind, bn_add, bn_sub, bn_mul, bn_div, bn_mod, bn_pow, bn_addS, bn_addT, bn_addL, cp_eq, cp_ne, cp_ltI, cp_leI, cp_gtI, cp_geI, cp_ltS, cp_leS, cp_gtS, cp_geS, cp_ltT, cp_gtT, cp_in, cp_nin, cp_is, cp_isn, ix_l, ix_t, ix_s, ixs_tp, ixs_pd, ixs_rf, ixs_fz, bi_lenL, bi_lenT, bi_lenS, bi_listL, bi_listT, bi_tupL, bi_tupT, bi_intI, bi_intB, bi_strI, bi_strS, bi_abs, bi_max, bi_min, bi_all, bi_any, bi_sum, in_l, in_t, in_s, tr_b, tr_i, tr_n, tr_l, tr_t, so_l, so_t, so_s, so_f, io_t, ng_i, pt_i, ag_a, ag_s, rv_l, rv_t, ap_d, rk_l, rk_t, rk_s, rg_1, rg_2, sl_l, sl_t, sl_s, mt_ixS, wp_mkT0, wp_mkT1, wp_mkT2, wp_mkT3, wp_mkT4, wp_mkT5, wp_mkT6, wp_mkT7, wp_mkT8, wp_dat_set l, wp_set_set l]
        exact ⟨⟨two, lg⟩, pos, done _ _ _ hc0 hc1 (Int.ediv_nonneg w0 (by omega))⟩
    · simp only [wp_ret, wp_bnd, wp_some, wp_grd, wp_no, wp_dat_pd, wp_dat_fz,  ev, evs, evO, evI, evC, evTs, AI.ex, asgG, asgGs, getV, wp_exs, wp_exs_nil, goS_nx, goS_rt, goS_bk, goS_ct, turnE_nx, turnE_ct, turnE_bk, turnE_rt, endD_rt, endD_nx, back_pd, binS, isFz, cmpS, biS, dats, truth, isiS, allPd, isiD, rkOf, join_some, Option.map, List.map, List.length_cons, List.length_nil, List.getElem?_cons_zero, List.getElem?_cons_succ, List.set_cons_zero, List.set_cons_succ, startS, atI_pos, atI_cast, Int.toNat_natCast, wp_newL1, wp_newL2, wp_newT1, List.length_set, List.set_set, decide_eq_true_eq, decide_eq_false_iff_not, Bool.not_eq_true', true_and, and_true,  ixN_pos, Int.reduceLE, Int.reduceLT, Int.reduceToNat, Int.reduceAdd, Int.reduceSub, Int.reduceMul, Int.reduceMod, Int.reduceNeg, Int.reducePow, Nat.reduceAdd, Nat.reduceLT, Nat.reduceLeDiff, Nat.reduceSub, reduceIte, Int.reduceEq, List.isEmpty_nil, Bool.false_eq_true, decide_true, decide_false, ge_iff_le, gt_iff_lt,  wp_eq_int, wp_eq_str, wp_eq_bool, List.length_map, List.replicate, List.cons_append, List.nil_append, Bool.not_false, Bool.not_true, Bool.and_true, Bool.true_and, Bool.and_self, Bool.and_false, Bool.false_and, Option.bind, bn_add, bn_sub, bn_mul, bn_div, bn_mod, bn_pow, bn_addS, bn_addT, bn_addL, cp_eq, cp_ne, cp_ltI, cp_leI, cp_gtI, cp_geI, cp_ltS, cp_leS, cp_gtS, cp_geS, cp_ltT, cp_gtT, cp_in, cp_nin, cp_is, cp_isn, ix_l, ix_t, ix_s, ixs_tp, ixs_pd, ixs_rf, ixs_fz, bi_lenL, bi_lenT, bi_lenS, bi_listL, bi_listT, bi_tupL, bi_tupT, bi_intI, bi_intB, bi_strI, bi_strS, bi_abs, bi_max, bi_min, bi_all, bi_any, bi_sum, in_l, in_t, in_s, tr_b, tr_i, tr_n, tr_l, tr_t, so_l, so_t, so_s, so_f, io_t, ng_i, pt_i, ag_a, ag_s, rv_l, rv_t, ap_d, rk_l, rk_t, rk_s, rg_1, rg_2, sl_l, sl_t, sl_s, mt_ixS, wp_mkT0, wp_mkT1, wp_mkT2, wp_mkT3, wp_mkT4, wp_mkT5, wp_mkT6, wp_mkT7, wp_mkT8, wp_dat_set l, wp_set_set l]
      have r0 := emod_rng (c * 48271 + ↑a + 1) (show (0 : Int) < 2147483647 by decide)
      refine ⟨mul_ok hc0 (Int.lt_trans hc1 (by decide)) (by decide) (by decide), by decide, ?_⟩
      generalize (c * 48271 + ↑a + 1) % 2147483647 = w at *
      refine wp_if (fun c2 => ?_) (fun c2 => ?_)
      · have w4 : w < 2 ^ 400 := Int.lt_trans c2 (by decide)
        simp only [wp_ret, wp_bnd, wp_some, wp_grd, wp_no, wp_dat_pd, wp_dat_fz,  ev, evs, evO, evI, evC, evTs, AI.ex, asgG, asgGs, getV, wp_exs, wp_exs_nil, goS_nx, goS_rt, goS_bk, goS_ct, turnE_nx, turnE_ct, turnE_bk, turnE_rt, endD_rt, endD_nx, back_pd, binS, isFz, cmpS, biS, dats, truth, isiS, allPd, isiD, rkOf, join_some, Option.map, List.map, List.length_cons, List.length_nil, List.getElem?_cons_zero, List.getElem?_cons_succ, List.set_cons_zero, List.set_cons_succ, startS, atI_pos, atI_cast, Int.toNat_natCast, wp_newL1, wp_newL2, wp_newT1, List.length_set, List.set_set, decide_eq_true_eq, decide_eq_false_iff_not, Bool.not_eq_true', true_and, and_true,  ixN_pos, Int.reduceLE, Int.reduceLT, Int.reduceToNat, Int.reduceAdd, Int.reduceSub, Int.reduceMul, Int.reduceMod, Int.reduceNeg, Int.reducePow, Nat.reduceAdd, Nat.reduceLT, Nat.reduceLeDiff, Nat.reduceSub, reduceIte, Int.reduceEq, List.isEmpty_nil, Bool.false_eq_true, decide_true, decide_false, ge_iff_le, gt_iff_lt,  wp_eq_int, wp_eq_str, wp_eq_bool, List.length_map, List.replicate, List.cons_append, List.nil_append, Bool.not_false, Bool.not_true, Bool.and_true, Bool.true_and, Bool.and_self, Bool.and_false, Bool.false_and, Option.bind, bn_add, bn_sub, bn_mul, bn_div, bn_mod, bn_pow, bn_addS, bn_addT, bn_addL, cp_eq, cp_ne, cp_ltI, cp_leI, cp_gtI, cp_geI, cp_ltS, cp_leS, cp_gtS, cp_geS, cp_ltT, cp_gtT, cp_in, cp_nin, cp_is, cp_isn, ix_l, ix_t, ix_s, ixs_tp, ixs_pd, ixs_rf, ixs_fz, bi_lenL, bi_lenT, bi_lenS, bi_listL, bi_listT, bi_tupL, bi_tupT, bi_intI, bi_intB, bi_strI, bi_strS, bi_abs, bi_max, bi_min, bi_all, bi_any, bi_sum, in_l, in_t, in_s, tr_b, tr_i, tr_n, tr_l, tr_t, so_l, so_t, so_s, so_f, io_t, ng_i, pt_i, ag_a, ag_s, rv_l, rv_t, ap_d, rk_l, rk_t, rk_s, rg_1, rg_2, sl_l, sl_t, sl_s, mt_ixS, wp_mkT0, wp_mkT1, wp_mkT2, wp_mkT3, wp_mkT4, wp_mkT5, wp_mkT6, wp_mkT7, wp_mkT8, wp_dat_set l, wp_set_set l]
        have r1 := emod_rng (w * 48271 + ↑a * 69621 + 5) (show (0 : Int) < 2147483647 by decide)
        exact ⟨mul_ok r0.1 w4 (by decide) (by decide), mul_ok (by omega) ha4 (by decide) (by decide), mul_ok r1.1 (Int.lt_trans r1.2 (by decide)) (by decide) (by decide), pos, done _ _ _ r0.1 r0.2 he⟩
      · simp only [wp_ret, wp_bnd, wp_some, wp_grd, wp_no, wp_dat_pd, wp_dat_fz,  ev, evs, evO, evI, evC, evTs, AI.ex, asgG, asgGs, getV, wp_exs, wp_exs_nil, goS_nx, goS_rt, goS_bk, goS_ct, turnE_nx, turnE_ct, turnE_bk, turnE_rt, endD_rt, endD_nx, back_pd, binS, isFz, cmpS, biS, dats, truth, isiS, allPd, isiD, rkOf, join_some, Option.map, List.map, List.length_cons, List.length_nil, List.getElem?_cons_zero, List.getElem?_cons_succ, List.set_cons_zero, List.set_cons_succ, startS, atI_pos, atI_cast, Int.toNat_natCast, wp_newL1, wp_newL2, wp_newT1, List.length_set, List.set_set, decide_eq_true_eq, decide_eq_false_iff_not, Bool.not_eq_true', true_and, and_true,  ixN_pos, Int.reduceLE, Int.reduceLT, Int.reduceToNat, Int.reduceAdd, Int.reduceSub, Int.reduceMul, Int.reduceMod, Int.reduceNeg, Int.reducePow, Nat.reduceAdd, Nat.reduceLT, Nat.reduceLeDiff, Nat.reduceSub, reduceIte, Int.reduceEq, List.isEmpty_nil, Bool.false_eq_true, decide_true, decide_false, ge_iff_le, gt_iff_lt,  wp_eq_int, wp_eq_str, wp_eq_bool, List.length_map, List.replicate, List.cons_append, List.nil_append, Bool.not_false, Bool.not_true, Bool.and_true, Bool.true_and, Bool.and_self, Bool.and_false, Bool.false_and, Option.bind, bn_add, bn_sub, bn_mul, bn_div, bn_mod, bn_pow, bn_addS, bn_addT, bn_addL, cp_eq, cp_ne, cp_ltI, cp_leI, cp_gtI, cp_geI, cp_ltS, cp_leS, cp_gtS, cp_geS, cp_ltT, cp_gtT, cp_in, cp_nin, cp_is, cp_isn, ix_l, ix_t, ix_s, ixs_tp, ixs_pd, ixs_rf, ixs_fz, bi_lenL, bi_lenT, bi_lenS, bi_listL, bi_listT, bi_tupL, bi_tupT, bi_intI, bi_intB, bi_strI, bi_strS, bi_abs, bi_max, bi_min, bi_all, bi_any, bi_sum, in_l, in_t, in_s, tr_b, tr_i, tr_n, tr_l, tr_t, so_l, so_t, so_s, so_f, io_t, ng_i, pt_i, ag_a, ag_s, rv_l, rv_t, ap_d, rk_l, rk_t, rk_s, rg_1, rg_2, sl_l, sl_t, sl_s, mt_ixS, wp_mkT0, wp_mkT1, wp_mkT2, wp_mkT3, wp_mkT4, wp_mkT5, wp_mkT6, wp_mkT7, wp_mkT8, wp_dat_set l, wp_set_set l]
        exact ⟨⟨two, lg⟩, pos, done _ _ _ r0.1 r0.2 (Int.ediv_nonneg r0.1 (by omega))⟩
  · simp only [wp_ret, wp_bnd, wp_some, wp_grd, wp_no, wp_dat_pd, wp_dat_fz,  ev, evs, evO, evI, evC, evTs, AI.ex, asgG, asgGs, getV, wp_exs, wp_exs_nil, goS_nx, goS_rt, goS_bk, goS_ct, turnE_nx, turnE_ct, turnE_bk, turnE_rt, endD_rt, endD_nx, back_pd, binS, isFz, cmpS, biS, dats, truth, isiS, allPd, isiD, rkOf, join_some, Option.map, List.map, List.length_cons, List.length_nil, List.getElem?_cons_zero, List.getElem?_cons_succ, List.set_cons_zero, List.set_cons_succ, startS, atI_pos, atI_cast, Int.toNat_natCast, wp_newL1, wp_newL2, wp_newT1, List.length_set, List.set_set, decide_eq_true_eq, decide_eq_false_iff_not, Bool.not_eq_true', true_and, and_true,  ixN_pos, Int.reduceLE, Int.reduceLT, Int.reduceToNat, Int.reduceAdd, Int.reduceSub, Int.reduceMul, Int.reduceMod, Int.reduceNeg, Int.reducePow, Nat.reduceAdd, Nat.reduceLT, Nat.reduceLeDiff, Nat.reduceSub, reduceIte, Int.reduceEq, List.isEmpty_nil, Bool.false_eq_true, decide_true, decide_false, ge_iff_le, gt_iff_lt,  wp_eq_int, wp_eq_str, wp_eq_bool, List.length_map, List.replicate, List.cons_append, List.nil_append, Bool.not_false, Bool.not_true, Bool.and_true, Bool.true_and, Bool.and_self, Bool.and_false, Bool.false_and, Option.bind, bn_add, bn_sub, bn_mul, bn_div, bn_mod, bn_pow, bn_addS, bn_addT, bn_addL, cp_eq, cp_ne, cp_ltI, cp_leI, cp_gtI, cp_geI, cp_ltS, cp_leS, cp_gtS, cp_geS, cp_ltT, cp_gtT, cp_in, cp_nin, cp_is, cp_isn, ix_l, ix_t, ix_s, ixs_tp, ixs_pd, ixs_rf, ixs_fz, bi_lenL, bi_lenT, bi_lenS, bi_listL, bi_listT, bi_tupL, bi_tupT, bi_intI, bi_intB, bi_strI, bi_strS, bi_abs, bi_max, bi_min, bi_all, bi_any, bi_sum, in_l, in_t, in_s, tr_b, tr_i, tr_n, tr_l, tr_t, so_l, so_t, so_s, so_f, io_t, ng_i, pt_i, ag_a, ag_s, rv_l, rv_t, ap_d, rk_l, rk_t, rk_s, rg_1, rg_2, sl_l, sl_t, sl_s, mt_ixS, wp_mkT0, wp_mkT1, wp_mkT2, wp_mkT3, wp_mkT4, wp_mkT5, wp_mkT6, wp_mkT7, wp_mkT8, wp_dat_set l, wp_set_set l]
    exact ⟨⟨two, lg⟩, pos, q _ _ ⟨xs, a, _, c, rfl, by omega, Int.ediv_nonneg he (by omega), hc0, hc1, hx⟩ ⟨(emod_rng e pos).1, (emod_rng e pos).2⟩⟩
theorem tape_raw {T : TT} {ns : List Int} {h : Boxes} (hl : ns.length ≤ 63) {Q : RV → Boxes → Prop} (q : ∀ c : Int, 0 ≤ c → c < 2147483647 → Q (.rf h.length) (h ++ [.lst [.list (ns.map .int), .int 0, .int 0, .int c]])) : wp (rawDef T ⟨1, 3, b_tape⟩ [.fz (ns.map .int)]) Q h := by
  refine wp_def rfl ?_
  simp only [wp_ret, wp_bnd, wp_some, wp_grd, wp_no, wp_dat_pd, wp_dat_fz,  ev, evs, evO, evI, evC, evTs, AI.ex, asgG, asgGs, getV, wp_exs, wp_exs_nil, goS_nx, goS_rt, goS_bk, goS_ct, turnE_nx, turnE_ct, turnE_bk, turnE_rt, endD_rt, endD_nx, back_pd, binS, isFz, cmpS, biS, dats, truth, isiS, allPd, isiD, rkOf, join_some, Option.map, List.map, List.length_cons, List.length_nil, List.getElem?_cons_zero, List.getElem?_cons_succ, List.set_cons_zero, List.set_cons_succ, startS, atI_pos, atI_cast, Int.toNat_natCast, wp_newL1, wp_newL2, wp_newT1, List.length_set, List.set_set, decide_eq_true_eq, decide_eq_false_iff_not, Bool.not_eq_true', true_and, and_true,  ixN_pos, Int.reduceLE, Int.reduceLT, Int.reduceToNat, Int.reduceAdd, Int.reduceSub, Int.reduceMul, Int.reduceMod, Int.reduceNeg, Int.reducePow, Nat.reduceAdd, Nat.reduceLT, Nat.reduceLeDiff, Nat.reduceSub, reduceIte, Int.reduceEq, List.isEmpty_nil, Bool.false_eq_true, decide_true, decide_false, ge_iff_le, gt_iff_lt,  wp_eq_int, wp_eq_str, wp_eq_bool, List.length_map, List.replicate, List.cons_append, List.nil_append, Bool.not_false, Bool.not_true, Bool.and_true, Bool.true_and, Bool.and_self, Bool.and_false, Bool.false_and, Option.bind, bn_add, bn_sub, bn_mul, bn_div, bn_mod, bn_pow, bn_addS, bn_addT, bn_addL, cp_eq, cp_ne, cp_ltI, cp_leI, cp_gtI, cp_geI, cp_ltS, cp_leS, cp_gtS, cp_geS, cp_ltT, cp_gtT, cp_in, cp_nin, cp_is, cp_isn, ix_l, ix_t, ix_s, ixs_tp, ixs_pd, ixs_rf, ixs_fz, bi_lenL, bi_lenT, bi_lenS, bi_listL, bi_listT, bi_tupL, bi_tupT, bi_intI, bi_intB, bi_strI, bi_strS, bi_abs, bi_max, bi_min, bi_all, bi_any, bi_sum, in_l, in_t, in_s, tr_b, tr_i, tr_n, tr_l, tr_t, so_l, so_t, so_s, so_f, io_t, ng_i, pt_i, ag_a, ag_s, rv_l, rv_t, ap_d, rk_l, rk_t, rk_s, rg_1, rg_2, sl_l, sl_t, sl_s, mt_ixS, wp_mkT0, wp_mkT1, wp_mkT2, wp_mkT3, wp_mkT4, wp_mkT5, wp_mkT6, wp_mkT7, wp_mkT8, b_tape]
  have step : ∀ (i : Nat) (hi : i < (ns.map PyData.int).length), ∃ x : Int, (ns.map PyData.int)[i] = .int x := fun i hi => by simp
  rw [show ns.length = (ns.map PyData.int).length by simp]
  refine wp_for (fun i σ h' => h' = h ∧ ∃ t y, σ = [some (.fz (ns.map .int)), some (.pd (.int t)), y] ∧ 0 ≤ t ∧ t < 2147483647) ⟨rfl, 7, none, rfl, by decide, by decide⟩ ?_ ?_
  · rintro i hi σ h' ⟨rfl, t, y, rfl, t0, t1⟩
    obtain ⟨x, hx⟩ := step i hi
    rw [hx]
    simp only [wp_ret, wp_bnd, wp_some, wp_grd, wp_no, wp_dat_pd, wp_dat_fz,  ev, evs, evO, evI, evC, evTs, AI.ex, asgG, asgGs, getV, wp_exs, wp_exs_nil, goS_nx, goS_rt, goS_bk, goS_ct, turnE_nx, turnE_ct, turnE_bk, turnE_rt, endD_rt, endD_nx, back_pd, binS, isFz, cmpS, biS, dats, truth, isiS, allPd, isiD, rkOf, join_some, Option.map, List.map, List.length_cons, List.length_nil, List.getElem?_cons_zero, List.getElem?_cons_succ, List.set_cons_zero, List.set_cons_succ, startS, atI_pos, atI_cast, Int.toNat_natCast, wp_newL1, wp_newL2, wp_newT1, List.length_set, List.set_set, decide_eq_true_eq, decide_eq_false_iff_not, Bool.not_eq_true', true_and, and_true,  ixN_pos, Int.reduceLE, Int.reduceLT, Int.reduceToNat, Int.reduceAdd, Int.reduceSub, Int.reduceMul, Int.reduceMod, Int.reduceNeg, Int.reducePow, Nat.reduceAdd, Nat.reduceLT, Nat.reduceLeDiff, Nat.reduceSub, reduceIte, Int.reduceEq, List.isEmpty_nil, Bool.false_eq_true, decide_true, decide_false, ge_iff_le, gt_iff_lt,  wp_eq_int, wp_eq_str, wp_eq_bool, List.length_map, List.replicate, List.cons_append, List.nil_append, Bool.not_false, Bool.not_true, Bool.and_true, Bool.true_and, Bool.and_self, Bool.and_false, Bool.false_and, Option.bind, bn_add, bn_sub, bn_mul, bn_div, bn_mod, bn_pow, bn_addS, bn_addT, bn_addL, cp_eq, cp_ne, cp_ltI, cp_leI, cp_gtI, cp_geI, cp_ltS, cp_leS, cp_gtS, cp_geS, cp_ltT, cp_gtT, cp_in, cp_nin, cp_is, cp_isn, ix_l, ix_t, ix_s, ixs_tp, ixs_pd, ixs_rf, ixs_fz, bi_lenL, bi_lenT, bi_lenS, bi_listL, bi_listT, bi_tupL, bi_tupT, bi_intI, bi_intB, bi_strI, bi_strS, bi_abs, bi_max, bi_min, bi_all, bi_any, bi_sum, in_l, in_t, in_s, tr_b, tr_i, tr_n, tr_l, tr_t, so_l, so_t, so_s, so_f, io_t, ng_i, pt_i, ag_a, ag_s, rv_l, rv_t, ap_d, rk_l, rk_t, rk_s, rg_1, rg_2, sl_l, sl_t, sl_s, mt_ixS, wp_mkT0, wp_mkT1, wp_mkT2, wp_mkT3, wp_mkT4, wp_mkT5, wp_mkT6, wp_mkT7, wp_mkT8]
    have r := emod_rng (t * 31 + if x < 0 then -x else x) (show (0 : Int) < 2147483647 by decide)
    exact ⟨mul_ok t0 (Int.lt_trans t1 (by decide)) (by decide) (by decide), _, _, rfl, r.1, r.2⟩
  · rintro σ h' ⟨rfl, t, y, rfl, t0, t1⟩
    have z : (ns.map PyData.int).length ≤ sizeLine := by rw [List.length_map]; exact Nat.le_trans hl (by decide)
    simp only [wp_ret, wp_bnd, wp_some, wp_grd, wp_no, wp_dat_pd, wp_dat_fz,  ev, evs, evO, evI, evC, evTs, AI.ex, asgG, asgGs, getV, wp_exs, wp_exs_nil, goS_nx, goS_rt, goS_bk, goS_ct, turnE_nx, turnE_ct, turnE_bk, turnE_rt, endD_rt, endD_nx, back_pd, binS, isFz, cmpS, biS, dats, truth, isiS, allPd, isiD, rkOf, join_some, Option.map, List.map, List.length_cons, List.length_nil, List.getElem?_cons_zero, List.getElem?_cons_succ, List.set_cons_zero, List.set_cons_succ, startS, atI_pos, atI_cast, Int.toNat_natCast, wp_newL1, wp_newL2, wp_newT1, List.length_set, List.set_set, decide_eq_true_eq, decide_eq_false_iff_not, Bool.not_eq_true', true_and, and_true,  ixN_pos, Int.reduceLE, Int.reduceLT, Int.reduceToNat, Int.reduceAdd, Int.reduceSub, Int.reduceMul, Int.reduceMod, Int.reduceNeg, Int.reducePow, Nat.reduceAdd, Nat.reduceLT, Nat.reduceLeDiff, Nat.reduceSub, reduceIte, Int.reduceEq, List.isEmpty_nil, Bool.false_eq_true, decide_true, decide_false, ge_iff_le, gt_iff_lt,  wp_eq_int, wp_eq_str, wp_eq_bool, List.length_map, List.replicate, List.cons_append, List.nil_append, Bool.not_false, Bool.not_true, Bool.and_true, Bool.true_and, Bool.and_self, Bool.and_false, Bool.false_and, Option.bind, bn_add, bn_sub, bn_mul, bn_div, bn_mod, bn_pow, bn_addS, bn_addT, bn_addL, cp_eq, cp_ne, cp_ltI, cp_leI, cp_gtI, cp_geI, cp_ltS, cp_leS, cp_gtS, cp_geS, cp_ltT, cp_gtT, cp_in, cp_nin, cp_is, cp_isn, ix_l, ix_t, ix_s, ixs_tp, ixs_pd, ixs_rf, ixs_fz, bi_lenL, bi_lenT, bi_lenS, bi_listL, bi_listT, bi_tupL, bi_tupT, bi_intI, bi_intB, bi_strI, bi_strS, bi_abs, bi_max, bi_min, bi_all, bi_any, bi_sum, in_l, in_t, in_s, tr_b, tr_i, tr_n, tr_l, tr_t, so_l, so_t, so_s, so_f, io_t, ng_i, pt_i, ag_a, ag_s, rv_l, rv_t, ap_d, rk_l, rk_t, rk_s, rg_1, rg_2, sl_l, sl_t, sl_s, mt_ixS, wp_mkT0, wp_mkT1, wp_mkT2, wp_mkT3, wp_mkT4, wp_mkT5, wp_mkT6, wp_mkT7, wp_mkT8, wp_newL z, Bool.false_eq_true]
    exact q t t0 t1
section
variable {T T' : TT} {f : Str} {bx : Bool} {h : Boxes} {Q : RV → Boxes → Prop}
theorem draw_call {B n : Nat} {b : Box} {many : Int} (e : T.raw f = rawDef T' ⟨2, 4, b_draw⟩) (t : TapeB B b) (hb : h[n]? = some b) (hB : B ≤ 10 ^ 100) (hm : many < 2 ^ 1000) (q : ∀ v b', TapeB (B + 1) b' → Drawn many v → Q (.pd (.int v)) (h.set n b')) : wp (T.call bx f [.rf n, .pd (.int many)]) Q h :=
  wp_call e (draw_raw t hb hB hm fun v b' t' hv => by rw [back_pd, List.take_of_length_le (by simp)]; exact q v b' t' hv)
theorem tape_call {ns : List Int} (e : T.raw f = rawDef T' ⟨1, 3, b_tape⟩) (hl : ns.length ≤ 63) (q : ∀ b, TapeB 0 b → Q (.rf h.length) (h ++ [b])) : wp (T.call true f [.fz (ns.map .int)]) Q h :=
  wp_call e (tape_raw hl fun c c0 c1 => by
    refine ⟨.rf h.length, h ++ [.lst [.list (ns.map .int), .int 0, .int 0, .int c]], ?_, q _ ⟨ns, 0, 0, c, rfl, Nat.le_refl _, by decide, c0, c1, hl⟩⟩
    unfold settle
    simp)
end
end AI

set_option Elab.async false
set_option linter.all false
set_option maxRecDepth 100000
set_option maxHeartbeats 4000000
/-! AiStr: texts. -/
namespace AI
open PySem L2
theorem str_len (x y : Str) : (x ++ y).length = x.length + y.length := by
  show (x.cps ++ y.cps).size = _
  rw [Array.size_append]; rfl
theorem str_app (x y : Str) : (x ++ y).cps.toList = x.cps.toList ++ y.cps.toList := by
  show (x.cps ++ y.cps).toList = _
  rw [Array.toList_append]
theorem str_size (x : Str) : x.cps.toList.length = x.length := rfl
theorem str_one (c : Nat) : (⟨#[c]⟩ : Str).length = 1 := rfl
theorem str_one' (c : Nat) : (⟨#[c]⟩ : Str).cps.toList = [c] := rfl
theorem str_ext {x y : Str} (h : x.cps.toList = y.cps.toList) : x = y := by
  cases x; cases y
  simp only at h
  rw [Array.toList_inj.mp h]
theorem cut_len (z : Str) (lo hi : Option Int) : (cutS z lo hi).length ≤ z.length := by
  show (List.toArray _).size ≤ _
  rw [List.size_toArray, List.length_take, List.length_drop]
  have : z.cps.toList.length = z.length := rfl
  omega
theorem cut_mem {z : Str} {lo hi : Option Int} {c : Nat} (h : c ∈ (cutS z lo hi).cps.toList) : c ∈ z.cps.toList := by
  have h' : c ∈ (z.cps.toList.drop (HT.sIx z.length 0 lo)).take (HT.sIx z.length z.length hi - HT.sIx z.length 0 lo) := h
  exact List.mem_of_mem_drop (List.mem_of_mem_take h')
/-- z[: n] -/
theorem cut_to (z : Str) {n : Int} (h : 0 ≤ n) : (cutS z none (some n)).cps.toList = z.cps.toList.take n.toNat := by
  show (z.cps.toList.drop 0).take (HT.sIx z.length z.length (some n) - 0) = _
  unfold HT.sIx
  simp only
  rw [if_neg (by omega), List.drop_zero, Nat.sub_zero]
  by_cases c : n.toNat ≤ z.length
  · rw [Nat.min_eq_left c]
  · rw [Nat.min_eq_right (by omega), List.take_of_length_le (by rw [str_size]; omega), List.take_of_length_le (by rw [str_size]; omega)]
theorem cut_from (z : Str) {n : Int} (h : 0 ≤ n) : (cutS z (some n) none).cps.toList = z.cps.toList.drop n.toNat := by
  show (z.cps.toList.drop (HT.sIx z.length 0 (some n))).take (z.length - HT.sIx z.length 0 (some n)) = _
  unfold HT.sIx
  simp only
  rw [if_neg (by omega)]
  by_cases c : n.toNat ≤ z.length
  · rw [Nat.min_eq_left c, List.take_of_length_le (by rw [List.length_drop, str_size]; omega)]
  · rw [Nat.min_eq_right (by omega), List.drop_of_length_le (by rw [str_size]; omega), List.drop_of_length_le (by rw [str_size]; omega), List.take_nil]
/-! ### the order -/
theorem lex_at {a b : List Nat} : ∀ {i : Nat} (h1 : i < a.length) (h2 : i < b.length), (∀ j (j1 : j < a.length) (j2 : j < b.length), j < i → a[j] = b[j]) → a[i] ≠ b[i] → (a < b ↔ a[i] < b[i]) := by
  induction a generalizing b with
  | nil => intro i h1; simp at h1
  | cons x xs ih =>
    intro i h1 h2 al ne
    cases b with
    | nil => simp at h2
    | cons y ys =>
      cases i with
      | zero =>
        simp only [List.getElem_cons_zero] at ne ⊢
        rw [List.cons_lt_cons_iff]
        constructor
        · rintro (h | ⟨h, _⟩)
          · exact h
          · exact absurd h ne
        · exact fun h => .inl h
      | succ i =>
        have e : x = y := al 0 (by simp) (by simp) (by omega)
        subst e
        simp only [List.getElem_cons_succ] at ne ⊢
        rw [List.cons_lt_cons_iff]
        have := ih (b := ys) (i := i) (by simpa using h1) (by simpa using h2) (fun j j1 j2 hj => al (j + 1) (Nat.succ_lt_succ j1) (Nat.succ_lt_succ j2) (by omega)) ne
        constructor
        · rintro (h | ⟨_, h⟩)
          · exact absurd h (Nat.lt_irrefl _)
          · exact this.mp h
        · exact fun h => .inr ⟨rfl, this.mpr h⟩
theorem lex_end {a b : List Nat} (al : ∀ j (j1 : j < a.length) (j2 : j < b.length), a[j] = b[j]) : (a < b ↔ a.length < b.length) := by
  induction a generalizing b with
  | nil => cases b <;> simp
  | cons x xs ih =>
    cases b with
    | nil => simp
    | cons y ys =>
      have e : x = y := al 0 (by simp) (by simp)
      subst e
      rw [List.cons_lt_cons_iff]
      have := ih (b := ys) fun j j1 j2 => al (j + 1) (Nat.succ_lt_succ j1) (Nat.succ_lt_succ j2)
      simp only [List.length_cons, Nat.add_lt_add_iff_right]
      constructor
      · rintro (h | ⟨_, h⟩)
        · exact absurd h (Nat.lt_irrefl _)
        · exact this.mp h
      · exact fun h => .inr ⟨trivial, this.mpr h⟩
/-! ### the laws' signs -/
def b_signs : List S := [.asg (.nm 0) (.cst (.str " !\"#$&'()*+,-./0123456789:;<=>?@ABCDEFGHIJKLMNOPQRSTUVWXYZ[\\]^_`")), .ret (.bin .Add (.var 0) (.cst (.str "abcdefghijklmnopqrstuvwxyz{|}~")))]
def SG : Str := (" !\"#$&'()*+,-./0123456789:;<=>?@ABCDEFGHIJKLMNOPQRSTUVWXYZ[\\]^_`" : Str) ++ ("abcdefghijklmnopqrstuvwxyz{|}~" : Str)
theorem SG_len : SG.length = 94 := by decide +kernel
theorem SG_pos : ∀ k, k < 94 → (SG.cps.toList[k]?).bind (fun c => (Builtin.Str.occurrences SG ⟨#[c]⟩ 0 94 1).head?) = some k := by decide +kernel
theorem SG_up : ∀ j, j < 94 → ∀ k, k < 94 → (decide (j < k)) = decide (SG.cps.toList.getD j 0 < SG.cps.toList.getD k 0) := by decide +kernel
theorem SG_index {c : Nat} (h : c ∈ SG.cps.toList) : ∃ k, k < 94 ∧ (Builtin.Str.occurrences SG ⟨#[c]⟩ 0 SG.length 1).head? = some k ∧ SG.cps.toList.getD k 0 = c := by
  obtain ⟨k, hk, e⟩ := List.getElem_of_mem h
  have hk' : k < 94 := by rw [← SG_len]; exact hk
  have q := SG_pos k hk'
  rw [List.getElem?_eq_getElem hk, e] at q
  exact ⟨k, hk', by rw [SG_len]; exact q, by rw [List.getD_eq_getElem?_getD, List.getElem?_eq_getElem hk, e]; rfl⟩
theorem str_at {z : Str} {k : Int} (h0 : 0 ≤ k) (h1 : k < z.length) : ∃ c, atI z.cps.toList k = some c ∧ c ∈ z.cps.toList := by
  rw [atI_pos h0]
  have l : k.toNat < z.cps.toList.length := by rw [str_size]; omega
  exact ⟨_, List.getElem?_eq_getElem l, List.getElem_mem l⟩
def TxtOk (m : Nat) (s : Str) : Prop := s.length ≤ m ∧ ∀ c ∈ s.cps.toList, c ∈ SG.cps.toList
theorem TxtOk.nil : TxtOk 0 ("" : Str) := ⟨by decide, fun c h => by
  have e : (("" : Str).cps.toList) = [] := by decide
  rw [e] at h; cases h⟩
theorem TxtOk.up {m m' : Nat} {s : Str} (g : TxtOk m s) (h : m ≤ m') : TxtOk m' s := ⟨Nat.le_trans g.1 h, g.2⟩
theorem TxtOk.add {m m' : Nat} {s s' : Str} (g : TxtOk m s) (g' : TxtOk m' s') : TxtOk (m + m') (s ++ s') := ⟨by rw [str_len]; exact Nat.add_le_add g.1 g'.1, fun c h => by
  rw [str_app] at h
  rcases List.mem_append.mp h with h | h
  · exact g.2 c h
  · exact g'.2 c h⟩
theorem TxtOk.one {c : Nat} (h : c ∈ SG.cps.toList) : TxtOk 1 ⟨#[c]⟩ := ⟨Nat.le_refl _, fun d hd => by
  rw [str_one', List.mem_singleton] at hd
  rw [hd]; exact h⟩
theorem TxtOk.cut {m : Nat} {s : Str} (g : TxtOk m s) (lo hi : Option Int) : TxtOk m (cutS s lo hi) := ⟨Nat.le_trans (cut_len s lo hi) g.1, fun c h => g.2 c (cut_mem h)⟩
section
variable {T T' : TT} {f : Str} {bx : Bool} {h : Boxes} {Q : RV → Boxes → Prop}
theorem signs_call (e : T.raw f = rawDef T' ⟨0, 1, b_signs⟩) (q : Q (.pd (.str SG)) h) : wp (T.call bx f []) Q h :=
  wp_call e (wp_def rfl (by
    simp only [wp_ret, wp_bnd, wp_some, wp_grd, wp_no, wp_dat_pd, wp_dat_fz,  ev, evs, evO, evI, evC, evTs, AI.ex, asgG, asgGs, getV, wp_exs, wp_exs_nil, goS_nx, goS_rt, goS_bk, goS_ct, turnE_nx, turnE_ct, turnE_bk, turnE_rt, endD_rt, endD_nx, back_pd, binS, isFz, cmpS, biS, dats, truth, isiS, allPd, isiD, rkOf, join_some, Option.map, List.map, List.length_cons, List.length_nil, List.getElem?_cons_zero, List.getElem?_cons_succ, List.set_cons_zero, List.set_cons_succ, startS, atI_pos, atI_cast, Int.toNat_natCast, wp_newL1, wp_newL2, wp_newT1, List.length_set, List.set_set, decide_eq_true_eq, decide_eq_false_iff_not, Bool.not_eq_true', true_and, and_true,  ixN_pos, Int.reduceLE, Int.reduceLT, Int.reduceToNat, Int.reduceAdd, Int.reduceSub, Int.reduceMul, Int.reduceMod, Int.reduceNeg, Int.reducePow, Nat.reduceAdd, Nat.reduceLT, Nat.reduceLeDiff, Nat.reduceSub, reduceIte, Int.reduceEq, List.isEmpty_nil, Bool.false_eq_true, decide_true, decide_false, ge_iff_le, gt_iff_lt,  wp_eq_int, wp_eq_str, wp_eq_bool, List.length_map, List.replicate, List.cons_append, List.nil_append, Bool.not_false, Bool.not_true, Bool.and_true, Bool.true_and, Bool.and_self, Bool.and_false, Bool.false_and, Option.bind, bn_add, bn_sub, bn_mul, bn_div, bn_mod, bn_pow, bn_addS, bn_addT, bn_addL, cp_eq, cp_ne, cp_ltI, cp_leI, cp_gtI, cp_geI, cp_ltS, cp_leS, cp_gtS, cp_geS, cp_ltT, cp_gtT, cp_in, cp_nin, cp_is, cp_isn, ix_l, ix_t, ix_s, ixs_tp, ixs_pd, ixs_rf, ixs_fz, bi_lenL, bi_lenT, bi_lenS, bi_listL, bi_listT, bi_tupL, bi_tupT, bi_intI, bi_intB, bi_strI, bi_strS, bi_abs, bi_max, bi_min, bi_all, bi_any, bi_sum, in_l, in_t, in_s, tr_b, tr_i, tr_n, tr_l, tr_t, so_l, so_t, so_s, so_f, io_t, ng_i, pt_i, ag_a, ag_s, rv_l, rv_t, ap_d, rk_l, rk_t, rk_s, rg_1, rg_2, sl_l, sl_t, sl_s, mt_ixS, wp_mkT0, wp_mkT1, wp_mkT2, wp_mkT3, wp_mkT4, wp_mkT5, wp_mkT6, wp_mkT7, wp_mkT8, b_signs]
    exact ⟨by decide, by rw [List.take_length]; exact q⟩))
end
end AI

set_option Elab.async false
set_option linter.all false
set_option maxRecDepth 100000
set_option maxHeartbeats 4000000
/-! AiDraws: what the laws draw. -/
namespace AI
open PySem L2
def b_text : List S := [.asg (.nm 1) (.call "_law_draw" [(.var 0), (.cst (.int 21000))]), .asg (.nm 2) (.bin .Mod (.bi .int [(.var 1)]) (.cst (.int 8))), .asg (.nm 3) (.cst (.str "")), .ite (.val (.cmp .Lt (.var 2) (.cst (.int 6)))) [.for_ (.nm 4) (.rng [(.idx (.lst [(.cst (.int 0)), (.cst (.int 1)), (.cst (.int 1)), (.cst (.int 1)), (.cst (.int 2)), (.cst (.int 3))]) (.var 2))]) [.asg (.nm 3) (.bin .Add (.var 3) (.idx (.cst (.str "abB' ")) (.bin .Mod (.bi .int [(.bin .FloorDiv (.var 1) (.idx (.lst [(.cst (.int 8)), (.cst (.int 40)), (.cst (.int 200))]) (.var 4)))]) (.cst (.int 5)))))], .ret (.var 3)] [], .for_ (.nm 4) (.rng [(.idx (.lst [(.cst (.int 20)), (.bin .FloorDiv (.var 1) (.cst (.int 1000)))]) (.bin .Sub (.var 2) (.cst (.int 6))))]) [.asg (.nm 3) (.bin .Add (.var 3) (.idx (.call "_law_signs" []) (.call "_law_draw" [(.var 0), (.cst (.int 94))])))], .ret (.var 3)]
theorem cast_add (B : Nat) (k : Nat) : B + k + 1 = B + (k + 1) := rfl
section
variable {T T' : TT} {f : Str} {bx : Bool} {h : Boxes} {Q : RV → Boxes → Prop}
theorem text_raw {T0 : TT} {B n : Nat} {b : Box} (ed : T'.raw "_law_draw" = rawDef T0 ⟨2, 4, b_draw⟩) (es : T'.raw "_law_signs" = rawDef T0 ⟨0, 1, b_signs⟩) (t : TapeB B b) (hb : h[n]? = some b) (hB : B + 21 ≤ 10 ^ 100)
    (q : ∀ s b', TapeB (B + 21) b' → TxtOk 20 s → Q (.pd (.str s)) (h.set n b')) : wp (rawDef T' ⟨1, 5, b_text⟩ [.rf n]) Q h := by
  have l := box_lt hb
  refine wp_def rfl ?_
  simp only [wp_ret, wp_bnd, wp_some, wp_grd, wp_no, wp_dat_pd, wp_dat_fz,  ev, evs, evO, evI, evC, evTs, AI.ex, asgG, asgGs, getV, wp_exs, wp_exs_nil, goS_nx, goS_rt, goS_bk, goS_ct, turnE_nx, turnE_ct, turnE_bk, turnE_rt, endD_rt, endD_nx, back_pd, binS, isFz, cmpS, biS, dats, truth, isiS, allPd, isiD, rkOf, join_some, Option.map, List.map, List.length_cons, List.length_nil, List.getElem?_cons_zero, List.getElem?_cons_succ, List.set_cons_zero, List.set_cons_succ, startS, atI_pos, atI_cast, Int.toNat_natCast, wp_newL1, wp_newL2, wp_newT1, List.length_set, List.set_set, decide_eq_true_eq, decide_eq_false_iff_not, Bool.not_eq_true', true_and, and_true,  ixN_pos, Int.reduceLE, Int.reduceLT, Int.reduceToNat, Int.reduceAdd, Int.reduceSub, Int.reduceMul, Int.reduceMod, Int.reduceNeg, Int.reducePow, Nat.reduceAdd, Nat.reduceLT, Nat.reduceLeDiff, Nat.reduceSub, reduceIte, Int.reduceEq, List.isEmpty_nil, Bool.false_eq_true, decide_true, decide_false, ge_iff_le, gt_iff_lt,  wp_eq_int, wp_eq_str, wp_eq_bool, List.length_map, List.replicate, List.cons_append, List.nil_append, Bool.not_false, Bool.not_true, Bool.and_true, Bool.true_and, Bool.and_self, Bool.and_false, Bool.false_and, Option.bind, bn_add, bn_sub, bn_mul, bn_div, bn_mod, bn_pow, bn_addS, bn_addT, bn_addL, cp_eq, cp_ne, cp_ltI, cp_leI, cp_gtI, cp_geI, cp_ltS, cp_leS, cp_gtS, cp_geS, cp_ltT, cp_gtT, cp_in, cp_nin, cp_is, cp_isn, ix_l, ix_t, ix_s, ixs_tp, ixs_pd, ixs_rf, ixs_fz, bi_lenL, bi_lenT, bi_lenS, bi_listL, bi_listT, bi_tupL, bi_tupT, bi_intI, bi_intB, bi_strI, bi_strS, bi_abs, bi_max, bi_min, bi_all, bi_any, bi_sum, in_l, in_t, in_s, tr_b, tr_i, tr_n, tr_l, tr_t, so_l, so_t, so_s, so_f, io_t, ng_i, pt_i, ag_a, ag_s, rv_l, rv_t, ap_d, rk_l, rk_t, rk_s, rg_1, rg_2, sl_l, sl_t, sl_s, mt_ixS, wp_mkT0, wp_mkT1, wp_mkT2, wp_mkT3, wp_mkT4, wp_mkT5, wp_mkT6, wp_mkT7, wp_mkT8, b_text]
  refine draw_call ed t hb (by omega) (by decide) fun v b1 t1 hv => ?_
  have v0 := hv.1
  have v1 : v < 21000 := hv.2
  simp only [wp_ret, wp_bnd, wp_some, wp_grd, wp_no, wp_dat_pd, wp_dat_fz,  ev, evs, evO, evI, evC, evTs, AI.ex, asgG, asgGs, getV, wp_exs, wp_exs_nil, goS_nx, goS_rt, goS_bk, goS_ct, turnE_nx, turnE_ct, turnE_bk, turnE_rt, endD_rt, endD_nx, back_pd, binS, isFz, cmpS, biS, dats, truth, isiS, allPd, isiD, rkOf, join_some, Option.map, List.map, List.length_cons, List.length_nil, List.getElem?_cons_zero, List.getElem?_cons_succ, List.set_cons_zero, List.set_cons_succ, startS, atI_pos, atI_cast, Int.toNat_natCast, wp_newL1, wp_newL2, wp_newT1, List.length_set, List.set_set, decide_eq_true_eq, decide_eq_false_iff_not, Bool.not_eq_true', true_and, and_true,  ixN_pos, Int.reduceLE, Int.reduceLT, Int.reduceToNat, Int.reduceAdd, Int.reduceSub, Int.reduceMul, Int.reduceMod, Int.reduceNeg, Int.reducePow, Nat.reduceAdd, Nat.reduceLT, Nat.reduceLeDiff, Nat.reduceSub, reduceIte, Int.reduceEq, List.isEmpty_nil, Bool.false_eq_true, decide_true, decide_false, ge_iff_le, gt_iff_lt,  wp_eq_int, wp_eq_str, wp_eq_bool, List.length_map, List.replicate, List.cons_append, List.nil_append, Bool.not_false, Bool.not_true, Bool.and_true, Bool.true_and, Bool.and_self, Bool.and_false, Bool.false_and, Option.bind, bn_add, bn_sub, bn_mul, bn_div, bn_mod, bn_pow, bn_addS, bn_addT, bn_addL, cp_eq, cp_ne, cp_ltI, cp_leI, cp_gtI, cp_geI, cp_ltS, cp_leS, cp_gtS, cp_geS, cp_ltT, cp_gtT, cp_in, cp_nin, cp_is, cp_isn, ix_l, ix_t, ix_s, ixs_tp, ixs_pd, ixs_rf, ixs_fz, bi_lenL, bi_lenT, bi_lenS, bi_listL, bi_listT, bi_tupL, bi_tupT, bi_intI, bi_intB, bi_strI, bi_strS, bi_abs, bi_max, bi_min, bi_all, bi_any, bi_sum, in_l, in_t, in_s, tr_b, tr_i, tr_n, tr_l, tr_t, so_l, so_t, so_s, so_f, io_t, ng_i, pt_i, ag_a, ag_s, rv_l, rv_t, ap_d, rk_l, rk_t, rk_s, rg_1, rg_2, sl_l, sl_t, sl_s, mt_ixS, wp_mkT0, wp_mkT1, wp_mkT2, wp_mkT3, wp_mkT4, wp_mkT5, wp_mkT6, wp_mkT7, wp_mkT8]
  have r := emod_rng v (show (0 : Int) < 8 by decide)
  refine wp_if (fun c0 => ?_) (fun c0 => ?_)
  · simp only [wp_ret, wp_bnd, wp_some, wp_grd, wp_no, wp_dat_pd, wp_dat_fz,  ev, evs, evO, evI, evC, evTs, AI.ex, asgG, asgGs, getV, wp_exs, wp_exs_nil, goS_nx, goS_rt, goS_bk, goS_ct, turnE_nx, turnE_ct, turnE_bk, turnE_rt, endD_rt, endD_nx, back_pd, binS, isFz, cmpS, biS, dats, truth, isiS, allPd, isiD, rkOf, join_some, Option.map, List.map, List.length_cons, List.length_nil, List.getElem?_cons_zero, List.getElem?_cons_succ, List.set_cons_zero, List.set_cons_succ, startS, atI_pos, atI_cast, Int.toNat_natCast, wp_newL1, wp_newL2, wp_newT1, List.length_set, List.set_set, decide_eq_true_eq, decide_eq_false_iff_not, Bool.not_eq_true', true_and, and_true,  ixN_pos, Int.reduceLE, Int.reduceLT, Int.reduceToNat, Int.reduceAdd, Int.reduceSub, Int.reduceMul, Int.reduceMod, Int.reduceNeg, Int.reducePow, Nat.reduceAdd, Nat.reduceLT, Nat.reduceLeDiff, Nat.reduceSub, reduceIte, Int.reduceEq, List.isEmpty_nil, Bool.false_eq_true, decide_true, decide_false, ge_iff_le, gt_iff_lt,  wp_eq_int, wp_eq_str, wp_eq_bool, List.length_map, List.replicate, List.cons_append, List.nil_append, Bool.not_false, Bool.not_true, Bool.and_true, Bool.true_and, Bool.and_self, Bool.and_false, Bool.false_and, Option.bind, bn_add, bn_sub, bn_mul, bn_div, bn_mod, bn_pow, bn_addS, bn_addT, bn_addL, cp_eq, cp_ne, cp_ltI, cp_leI, cp_gtI, cp_geI, cp_ltS, cp_leS, cp_gtS, cp_geS, cp_ltT, cp_gtT, cp_in, cp_nin, cp_is, cp_isn, ix_l, ix_t, ix_s, ixs_tp, ixs_pd, ixs_rf, ixs_fz, bi_lenL, bi_lenT, bi_lenS, bi_listL, bi_listT, bi_tupL, bi_tupT, bi_intI, bi_intB, bi_strI, bi_strS, bi_abs, bi_max, bi_min, bi_all, bi_any, bi_sum, in_l, in_t, in_s, tr_b, tr_i, tr_n, tr_l, tr_t, so_l, so_t, so_s, so_f, io_t, ng_i, pt_i, ag_a, ag_s, rv_l, rv_t, ap_d, rk_l, rk_t, rk_s, rg_1, rg_2, sl_l, sl_t, sl_s, mt_ixS, wp_mkT0, wp_mkT1, wp_mkT2, wp_mkT3, wp_mkT4, wp_mkT5, wp_mkT6, wp_mkT7, wp_mkT8]
    obtain ⟨m, em, hm⟩ : ∃ m : Nat, atI [PyData.int 0, PyData.int 1, PyData.int 1, PyData.int 1, PyData.int 2, PyData.int 3] (v % 8) = some (.int m) ∧ m ≤ 3 := by
      have : v % 8 = 0 ∨ v % 8 = 1 ∨ v % 8 = 2 ∨ v % 8 = 3 ∨ v % 8 = 4 ∨ v % 8 = 5 := by omega
      rcases this with e | e | e | e | e | e <;> rw [e]
      · exact ⟨0, rfl, by omega⟩
      · exact ⟨1, rfl, by omega⟩
      · exact ⟨1, rfl, by omega⟩
      · exact ⟨1, rfl, by omega⟩
      · exact ⟨2, rfl, by omega⟩
      · exact ⟨3, rfl, by omega⟩
    refine wp_at em ?_
    simp only [wp_ret, wp_bnd, wp_some, wp_grd, wp_no, wp_dat_pd, wp_dat_fz,  ev, evs, evO, evI, evC, evTs, AI.ex, asgG, asgGs, getV, wp_exs, wp_exs_nil, goS_nx, goS_rt, goS_bk, goS_ct, turnE_nx, turnE_ct, turnE_bk, turnE_rt, endD_rt, endD_nx, back_pd, binS, isFz, cmpS, biS, dats, truth, isiS, allPd, isiD, rkOf, join_some, Option.map, List.map, List.length_cons, List.length_nil, List.getElem?_cons_zero, List.getElem?_cons_succ, List.set_cons_zero, List.set_cons_succ, startS, atI_pos, atI_cast, Int.toNat_natCast, wp_newL1, wp_newL2, wp_newT1, List.length_set, List.set_set, decide_eq_true_eq, decide_eq_false_iff_not, Bool.not_eq_true', true_and, and_true,  ixN_pos, Int.reduceLE, Int.reduceLT, Int.reduceToNat, Int.reduceAdd, Int.reduceSub, Int.reduceMul, Int.reduceMod, Int.reduceNeg, Int.reducePow, Nat.reduceAdd, Nat.reduceLT, Nat.reduceLeDiff, Nat.reduceSub, reduceIte, Int.reduceEq, List.isEmpty_nil, Bool.false_eq_true, decide_true, decide_false, ge_iff_le, gt_iff_lt,  wp_eq_int, wp_eq_str, wp_eq_bool, List.length_map, List.replicate, List.cons_append, List.nil_append, Bool.not_false, Bool.not_true, Bool.and_true, Bool.true_and, Bool.and_self, Bool.and_false, Bool.false_and, Option.bind, bn_add, bn_sub, bn_mul, bn_div, bn_mod, bn_pow, bn_addS, bn_addT, bn_addL, cp_eq, cp_ne, cp_ltI, cp_leI, cp_gtI, cp_geI, cp_ltS, cp_leS, cp_gtS, cp_geS, cp_ltT, cp_gtT, cp_in, cp_nin, cp_is, cp_isn, ix_l, ix_t, ix_s, ixs_tp, ixs_pd, ixs_rf, ixs_fz, bi_lenL, bi_lenT, bi_lenS, bi_listL, bi_listT, bi_tupL, bi_tupT, bi_intI, bi_intB, bi_strI, bi_strS, bi_abs, bi_max, bi_min, bi_all, bi_any, bi_sum, in_l, in_t, in_s, tr_b, tr_i, tr_n, tr_l, tr_t, so_l, so_t, so_s, so_f, io_t, ng_i, pt_i, ag_a, ag_s, rv_l, rv_t, ap_d, rk_l, rk_t, rk_s, rg_1, rg_2, sl_l, sl_t, sl_s, mt_ixS, wp_mkT0, wp_mkT1, wp_mkT2, wp_mkT3, wp_mkT4, wp_mkT5, wp_mkT6, wp_mkT7, wp_mkT8]
    refine ⟨by omega, ?_⟩
    refine wp_rng (fun i σ h' => h' = h.set n b1 ∧ ∃ s y, σ = [some (.rf n), some (.pd (.int v)), some (.pd (.int (v % 8))), some (.pd (.str s)), y] ∧ TxtOk i s) ⟨rfl, _, _, rfl, TxtOk.nil⟩ ?_ ?_
    · rintro k hk σ h' ⟨rfl, s, y, rfl, g⟩
      simp only [wp_ret, wp_bnd, wp_some, wp_grd, wp_no, wp_dat_pd, wp_dat_fz,  ev, evs, evO, evI, evC, evTs, AI.ex, asgG, asgGs, getV, wp_exs, wp_exs_nil, goS_nx, goS_rt, goS_bk, goS_ct, turnE_nx, turnE_ct, turnE_bk, turnE_rt, endD_rt, endD_nx, back_pd, binS, isFz, cmpS, biS, dats, truth, isiS, allPd, isiD, rkOf, join_some, Option.map, List.map, List.length_cons, List.length_nil, List.getElem?_cons_zero, List.getElem?_cons_succ, List.set_cons_zero, List.set_cons_succ, startS, atI_pos, atI_cast, Int.toNat_natCast, wp_newL1, wp_newL2, wp_newT1, List.length_set, List.set_set, decide_eq_true_eq, decide_eq_false_iff_not, Bool.not_eq_true', true_and, and_true,  ixN_pos, Int.reduceLE, Int.reduceLT, Int.reduceToNat, Int.reduceAdd, Int.reduceSub, Int.reduceMul, Int.reduceMod, Int.reduceNeg, Int.reducePow, Nat.reduceAdd, Nat.reduceLT, Nat.reduceLeDiff, Nat.reduceSub, reduceIte, Int.reduceEq, List.isEmpty_nil, Bool.false_eq_true, decide_true, decide_false, ge_iff_le, gt_iff_lt,  wp_eq_int, wp_eq_str, wp_eq_bool, List.length_map, List.replicate, List.cons_append, List.nil_append, Bool.not_false, Bool.not_true, Bool.and_true, Bool.true_and, Bool.and_self, Bool.and_false, Bool.false_and, Option.bind, bn_add, bn_sub, bn_mul, bn_div, bn_mod, bn_pow, bn_addS, bn_addT, bn_addL, cp_eq, cp_ne, cp_ltI, cp_leI, cp_gtI, cp_geI, cp_ltS, cp_leS, cp_gtS, cp_geS, cp_ltT, cp_gtT, cp_in, cp_nin, cp_is, cp_isn, ix_l, ix_t, ix_s, ixs_tp, ixs_pd, ixs_rf, ixs_fz, bi_lenL, bi_lenT, bi_lenS, bi_listL, bi_listT, bi_tupL, bi_tupT, bi_intI, bi_intB, bi_strI, bi_strS, bi_abs, bi_max, bi_min, bi_all, bi_any, bi_sum, in_l, in_t, in_s, tr_b, tr_i, tr_n, tr_l, tr_t, so_l, so_t, so_s, so_f, io_t, ng_i, pt_i, ag_a, ag_s, rv_l, rv_t, ap_d, rk_l, rk_t, rk_s, rg_1, rg_2, sl_l, sl_t, sl_s, mt_ixS, wp_mkT0, wp_mkT1, wp_mkT2, wp_mkT3, wp_mkT4, wp_mkT5, wp_mkT6, wp_mkT7, wp_mkT8]
      obtain ⟨j, ej, hj0, hj1⟩ : ∃ j : Int, atI [PyData.int 8, PyData.int 40, PyData.int 200] (0 + (k : Int)) = some (.int j) ∧ 0 < j ∧ j < 2 ^ 400 := by
        have : k = 0 ∨ k = 1 ∨ k = 2 := by omega
        rcases this with rfl | rfl | rfl
        · exact ⟨8, rfl, by decide, by decide⟩
        · exact ⟨40, rfl, by decide, by decide⟩
        · exact ⟨200, rfl, by decide, by decide⟩
      refine wp_at ej ?_
      simp only [wp_ret, wp_bnd, wp_some, wp_grd, wp_no, wp_dat_pd, wp_dat_fz,  ev, evs, evO, evI, evC, evTs, AI.ex, asgG, asgGs, getV, wp_exs, wp_exs_nil, goS_nx, goS_rt, goS_bk, goS_ct, turnE_nx, turnE_ct, turnE_bk, turnE_rt, endD_rt, endD_nx, back_pd, binS, isFz, cmpS, biS, dats, truth, isiS, allPd, isiD, rkOf, join_some, Option.map, List.map, List.length_cons, List.length_nil, List.getElem?_cons_zero, List.getElem?_cons_succ, List.set_cons_zero, List.set_cons_succ, startS, atI_pos, atI_cast, Int.toNat_natCast, wp_newL1, wp_newL2, wp_newT1, List.length_set, List.set_set, decide_eq_true_eq, decide_eq_false_iff_not, Bool.not_eq_true', true_and, and_true,  ixN_pos, Int.reduceLE, Int.reduceLT, Int.reduceToNat, Int.reduceAdd, Int.reduceSub, Int.reduceMul, Int.reduceMod, Int.reduceNeg, Int.reducePow, Nat.reduceAdd, Nat.reduceLT, Nat.reduceLeDiff, Nat.reduceSub, reduceIte, Int.reduceEq, List.isEmpty_nil, Bool.false_eq_true, decide_true, decide_false, ge_iff_le, gt_iff_lt,  wp_eq_int, wp_eq_str, wp_eq_bool, List.length_map, List.replicate, List.cons_append, List.nil_append, Bool.not_false, Bool.not_true, Bool.and_true, Bool.true_and, Bool.and_self, Bool.and_false, Bool.false_and, Option.bind, bn_add, bn_sub, bn_mul, bn_div, bn_mod, bn_pow, bn_addS, bn_addT, bn_addL, cp_eq, cp_ne, cp_ltI, cp_leI, cp_gtI, cp_geI, cp_ltS, cp_leS, cp_gtS, cp_geS, cp_ltT, cp_gtT, cp_in, cp_nin, cp_is, cp_isn, ix_l, ix_t, ix_s, ixs_tp, ixs_pd, ixs_rf, ixs_fz, bi_lenL, bi_lenT, bi_lenS, bi_listL, bi_listT, bi_tupL, bi_tupT, bi_intI, bi_intB, bi_strI, bi_strS, bi_abs, bi_max, bi_min, bi_all, bi_any, bi_sum, in_l, in_t, in_s, tr_b, tr_i, tr_n, tr_l, tr_t, so_l, so_t, so_s, so_f, io_t, ng_i, pt_i, ag_a, ag_s, rv_l, rv_t, ap_d, rk_l, rk_t, rk_s, rg_1, rg_2, sl_l, sl_t, sl_s, mt_ixS, wp_mkT0, wp_mkT1, wp_mkT2, wp_mkT3, wp_mkT4, wp_mkT5, wp_mkT6, wp_mkT7, wp_mkT8]
      have r5 := emod_rng (v / j) (show (0 : Int) < 5 by decide)
      refine ⟨⟨hj0, Nat.lt_trans (log_le (by omega) hj1) (by decide)⟩, by decide, ?_⟩
      obtain ⟨c, ec, hc⟩ := str_at (z := "abB' ") r5.1 r5.2
      refine wp_at ec ?_
      simp only [wp_ret, wp_bnd, wp_some, wp_grd, wp_no, wp_dat_pd, wp_dat_fz,  ev, evs, evO, evI, evC, evTs, AI.ex, asgG, asgGs, getV, wp_exs, wp_exs_nil, goS_nx, goS_rt, goS_bk, goS_ct, turnE_nx, turnE_ct, turnE_bk, turnE_rt, endD_rt, endD_nx, back_pd, binS, isFz, cmpS, biS, dats, truth, isiS, allPd, isiD, rkOf, join_some, Option.map, List.map, List.length_cons, List.length_nil, List.getElem?_cons_zero, List.getElem?_cons_succ, List.set_cons_zero, List.set_cons_succ, startS, atI_pos, atI_cast, Int.toNat_natCast, wp_newL1, wp_newL2, wp_newT1, List.length_set, List.set_set, decide_eq_true_eq, decide_eq_false_iff_not, Bool.not_eq_true', true_and, and_true,  ixN_pos, Int.reduceLE, Int.reduceLT, Int.reduceToNat, Int.reduceAdd, Int.reduceSub, Int.reduceMul, Int.reduceMod, Int.reduceNeg, Int.reducePow, Nat.reduceAdd, Nat.reduceLT, Nat.reduceLeDiff, Nat.reduceSub, reduceIte, Int.reduceEq, List.isEmpty_nil, Bool.false_eq_true, decide_true, decide_false, ge_iff_le, gt_iff_lt,  wp_eq_int, wp_eq_str, wp_eq_bool, List.length_map, List.replicate, List.cons_append, List.nil_append, Bool.not_false, Bool.not_true, Bool.and_true, Bool.true_and, Bool.and_self, Bool.and_false, Bool.false_and, Option.bind, bn_add, bn_sub, bn_mul, bn_div, bn_mod, bn_pow, bn_addS, bn_addT, bn_addL, cp_eq, cp_ne, cp_ltI, cp_leI, cp_gtI, cp_geI, cp_ltS, cp_leS, cp_gtS, cp_geS, cp_ltT, cp_gtT, cp_in, cp_nin, cp_is, cp_isn, ix_l, ix_t, ix_s, ixs_tp, ixs_pd, ixs_rf, ixs_fz, bi_lenL, bi_lenT, bi_lenS, bi_listL, bi_listT, bi_tupL, bi_tupT, bi_intI, bi_intB, bi_strI, bi_strS, bi_abs, bi_max, bi_min, bi_all, bi_any, bi_sum, in_l, in_t, in_s, tr_b, tr_i, tr_n, tr_l, tr_t, so_l, so_t, so_s, so_f, io_t, ng_i, pt_i, ag_a, ag_s, rv_l, rv_t, ap_d, rk_l, rk_t, rk_s, rg_1, rg_2, sl_l, sl_t, sl_s, mt_ixS, wp_mkT0, wp_mkT1, wp_mkT2, wp_mkT3, wp_mkT4, wp_mkT5, wp_mkT6, wp_mkT7, wp_mkT8]
      have gc : TxtOk 1 ⟨#[c]⟩ := TxtOk.one ((by decide +kernel : ∀ c ∈ ("abB' " : Str).cps.toList, c ∈ SG.cps.toList) c hc)
      refine ⟨?_, _, _, rfl, g.add gc⟩
      have := g.1
      show s.length + 1 ≤ sizeLine
      exact Nat.le_trans (by omega : _ ≤ 1000) (by decide)
    · rintro σ h' ⟨rfl, s, y, rfl, g⟩
      simp only [wp_ret, wp_bnd, wp_some, wp_grd, wp_no, wp_dat_pd, wp_dat_fz,  ev, evs, evO, evI, evC, evTs, AI.ex, asgG, asgGs, getV, wp_exs, wp_exs_nil, goS_nx, goS_rt, goS_bk, goS_ct, turnE_nx, turnE_ct, turnE_bk, turnE_rt, endD_rt, endD_nx, back_pd, binS, isFz, cmpS, biS, dats, truth, isiS, allPd, isiD, rkOf, join_some, Option.map, List.map, List.length_cons, List.length_nil, List.getElem?_cons_zero, List.getElem?_cons_succ, List.set_cons_zero, List.set_cons_succ, startS, atI_pos, atI_cast, Int.toNat_natCast, wp_newL1, wp_newL2, wp_newT1, List.length_set, List.set_set, decide_eq_true_eq, decide_eq_false_iff_not, Bool.not_eq_true', true_and, and_true,  ixN_pos, Int.reduceLE, Int.reduceLT, Int.reduceToNat, Int.reduceAdd, Int.reduceSub, Int.reduceMul, Int.reduceMod, Int.reduceNeg, Int.reducePow, Nat.reduceAdd, Nat.reduceLT, Nat.reduceLeDiff, Nat.reduceSub, reduceIte, Int.reduceEq, List.isEmpty_nil, Bool.false_eq_true, decide_true, decide_false, ge_iff_le, gt_iff_lt,  wp_eq_int, wp_eq_str, wp_eq_bool, List.length_map, List.replicate, List.cons_append, List.nil_append, Bool.not_false, Bool.not_true, Bool.and_true, Bool.true_and, Bool.and_self, Bool.and_false, Bool.false_and, Option.bind, bn_add, bn_sub, bn_mul, bn_div, bn_mod, bn_pow, bn_addS, bn_addT, bn_addL, cp_eq, cp_ne, cp_ltI, cp_leI, cp_gtI, cp_geI, cp_ltS, cp_leS, cp_gtS, cp_geS, cp_ltT, cp_gtT, cp_in, cp_nin, cp_is, cp_isn, ix_l, ix_t, ix_s, ixs_tp, ixs_pd, ixs_rf, ixs_fz, bi_lenL, bi_lenT, bi_lenS, bi_listL, bi_listT, bi_tupL, bi_tupT, bi_intI, bi_intB, bi_strI, bi_strS, bi_abs, bi_max, bi_min, bi_all, bi_any, bi_sum, in_l, in_t, in_s, tr_b, tr_i, tr_n, tr_l, tr_t, so_l, so_t, so_s, so_f, io_t, ng_i, pt_i, ag_a, ag_s, rv_l, rv_t, ap_d, rk_l, rk_t, rk_s, rg_1, rg_2, sl_l, sl_t, sl_s, mt_ixS, wp_mkT0, wp_mkT1, wp_mkT2, wp_mkT3, wp_mkT4, wp_mkT5, wp_mkT6, wp_mkT7, wp_mkT8]
      exact q s b1 (t1.up (by omega)) (g.up (by omega))
  · simp only [wp_ret, wp_bnd, wp_some, wp_grd, wp_no, wp_dat_pd, wp_dat_fz,  ev, evs, evO, evI, evC, evTs, AI.ex, asgG, asgGs, getV, wp_exs, wp_exs_nil, goS_nx, goS_rt, goS_bk, goS_ct, turnE_nx, turnE_ct, turnE_bk, turnE_rt, endD_rt, endD_nx, back_pd, binS, isFz, cmpS, biS, dats, truth, isiS, allPd, isiD, rkOf, join_some, Option.map, List.map, List.length_cons, List.length_nil, List.getElem?_cons_zero, List.getElem?_cons_succ, List.set_cons_zero, List.set_cons_succ, startS, atI_pos, atI_cast, Int.toNat_natCast, wp_newL1, wp_newL2, wp_newT1, List.length_set, List.set_set, decide_eq_true_eq, decide_eq_false_iff_not, Bool.not_eq_true', true_and, and_true,  ixN_pos, Int.reduceLE, Int.reduceLT, Int.reduceToNat, Int.reduceAdd, Int.reduceSub, Int.reduceMul, Int.reduceMod, Int.reduceNeg, Int.reducePow, Nat.reduceAdd, Nat.reduceLT, Nat.reduceLeDiff, Nat.reduceSub, reduceIte, Int.reduceEq, List.isEmpty_nil, Bool.false_eq_true, decide_true, decide_false, ge_iff_le, gt_iff_lt,  wp_eq_int, wp_eq_str, wp_eq_bool, List.length_map, List.replicate, List.cons_append, List.nil_append, Bool.not_false, Bool.not_true, Bool.and_true, Bool.true_and, Bool.and_self, Bool.and_false, Bool.false_and, Option.bind, bn_add, bn_sub, bn_mul, bn_div, bn_mod, bn_pow, bn_addS, bn_addT, bn_addL, cp_eq, cp_ne, cp_ltI, cp_leI, cp_gtI, cp_geI, cp_ltS, cp_leS, cp_gtS, cp_geS, cp_ltT, cp_gtT, cp_in, cp_nin, cp_is, cp_isn, ix_l, ix_t, ix_s, ixs_tp, ixs_pd, ixs_rf, ixs_fz, bi_lenL, bi_lenT, bi_lenS, bi_listL, bi_listT, bi_tupL, bi_tupT, bi_intI, bi_intB, bi_strI, bi_strS, bi_abs, bi_max, bi_min, bi_all, bi_any, bi_sum, in_l, in_t, in_s, tr_b, tr_i, tr_n, tr_l, tr_t, so_l, so_t, so_s, so_f, io_t, ng_i, pt_i, ag_a, ag_s, rv_l, rv_t, ap_d, rk_l, rk_t, rk_s, rg_1, rg_2, sl_l, sl_t, sl_s, mt_ixS, wp_mkT0, wp_mkT1, wp_mkT2, wp_mkT3, wp_mkT4, wp_mkT5, wp_mkT6, wp_mkT7, wp_mkT8]
    refine ⟨by decide, ?_⟩
    obtain ⟨m, em, hm⟩ : ∃ m : Nat, atI [PyData.int 20, PyData.int (v / 1000)] (v % 8 - 6) = some (.int m) ∧ m ≤ 20 := by
      have : v % 8 = 6 ∨ v % 8 = 7 := by omega
      rcases this with e | e <;> rw [e]
      · exact ⟨20, rfl, by omega⟩
      · exact ⟨(v / 1000).toNat, by rw [Int.toNat_of_nonneg (by omega)]; rfl, by omega⟩
    refine wp_at em ?_
    simp only [wp_ret, wp_bnd, wp_some, wp_grd, wp_no, wp_dat_pd, wp_dat_fz,  ev, evs, evO, evI, evC, evTs, AI.ex, asgG, asgGs, getV, wp_exs, wp_exs_nil, goS_nx, goS_rt, goS_bk, goS_ct, turnE_nx, turnE_ct, turnE_bk, turnE_rt, endD_rt, endD_nx, back_pd, binS, isFz, cmpS, biS, dats, truth, isiS, allPd, isiD, rkOf, join_some, Option.map, List.map, List.length_cons, List.length_nil, List.getElem?_cons_zero, List.getElem?_cons_succ, List.set_cons_zero, List.set_cons_succ, startS, atI_pos, atI_cast, Int.toNat_natCast, wp_newL1, wp_newL2, wp_newT1, List.length_set, List.set_set, decide_eq_true_eq, decide_eq_false_iff_not, Bool.not_eq_true', true_and, and_true,  ixN_pos, Int.reduceLE, Int.reduceLT, Int.reduceToNat, Int.reduceAdd, Int.reduceSub, Int.reduceMul, Int.reduceMod, Int.reduceNeg, Int.reducePow, Nat.reduceAdd, Nat.reduceLT, Nat.reduceLeDiff, Nat.reduceSub, reduceIte, Int.reduceEq, List.isEmpty_nil, Bool.false_eq_true, decide_true, decide_false, ge_iff_le, gt_iff_lt,  wp_eq_int, wp_eq_str, wp_eq_bool, List.length_map, List.replicate, List.cons_append, List.nil_append, Bool.not_false, Bool.not_true, Bool.and_true, Bool.true_and, Bool.and_self, Bool.and_false, Bool.false_and, Option.bind, bn_add, bn_sub, bn_mul, bn_div, bn_mod, bn_pow, bn_addS, bn_addT, bn_addL, cp_eq, cp_ne, cp_ltI, cp_leI, cp_gtI, cp_geI, cp_ltS, cp_leS, cp_gtS, cp_geS, cp_ltT, cp_gtT, cp_in, cp_nin, cp_is, cp_isn, ix_l, ix_t, ix_s, ixs_tp, ixs_pd, ixs_rf, ixs_fz, bi_lenL, bi_lenT, bi_lenS, bi_listL, bi_listT, bi_tupL, bi_tupT, bi_intI, bi_intB, bi_strI, bi_strS, bi_abs, bi_max, bi_min, bi_all, bi_any, bi_sum, in_l, in_t, in_s, tr_b, tr_i, tr_n, tr_l, tr_t, so_l, so_t, so_s, so_f, io_t, ng_i, pt_i, ag_a, ag_s, rv_l, rv_t, ap_d, rk_l, rk_t, rk_s, rg_1, rg_2, sl_l, sl_t, sl_s, mt_ixS, wp_mkT0, wp_mkT1, wp_mkT2, wp_mkT3, wp_mkT4, wp_mkT5, wp_mkT6, wp_mkT7, wp_mkT8]
    refine ⟨by omega, ?_⟩
    refine wp_rng (fun i σ h' => ∃ b2 s y, h' = h.set n b2 ∧ TapeB (B + 1 + i) b2 ∧ σ = [some (.rf n), some (.pd (.int v)), some (.pd (.int (v % 8))), some (.pd (.str s)), y] ∧ TxtOk i s) ⟨b1, _, _, rfl, t1, rfl, TxtOk.nil⟩ ?_ ?_
    · rintro k hk σ h' ⟨b2, s, y, rfl, t2, rfl, g⟩
      simp only [wp_ret, wp_bnd, wp_some, wp_grd, wp_no, wp_dat_pd, wp_dat_fz,  ev, evs, evO, evI, evC, evTs, AI.ex, asgG, asgGs, getV, wp_exs, wp_exs_nil, goS_nx, goS_rt, goS_bk, goS_ct, turnE_nx, turnE_ct, turnE_bk, turnE_rt, endD_rt, endD_nx, back_pd, binS, isFz, cmpS, biS, dats, truth, isiS, allPd, isiD, rkOf, join_some, Option.map, List.map, List.length_cons, List.length_nil, List.getElem?_cons_zero, List.getElem?_cons_succ, List.set_cons_zero, List.set_cons_succ, startS, atI_pos, atI_cast, Int.toNat_natCast, wp_newL1, wp_newL2, wp_newT1, List.length_set, List.set_set, decide_eq_true_eq, decide_eq_false_iff_not, Bool.not_eq_true', true_and, and_true,  ixN_pos, Int.reduceLE, Int.reduceLT, Int.reduceToNat, Int.reduceAdd, Int.reduceSub, Int.reduceMul, Int.reduceMod, Int.reduceNeg, Int.reducePow, Nat.reduceAdd, Nat.reduceLT, Nat.reduceLeDiff, Nat.reduceSub, reduceIte, Int.reduceEq, List.isEmpty_nil, Bool.false_eq_true, decide_true, decide_false, ge_iff_le, gt_iff_lt,  wp_eq_int, wp_eq_str, wp_eq_bool, List.length_map, List.replicate, List.cons_append, List.nil_append, Bool.not_false, Bool.not_true, Bool.and_true, Bool.true_and, Bool.and_self, Bool.and_false, Bool.false_and, Option.bind, bn_add, bn_sub, bn_mul, bn_div, bn_mod, bn_pow, bn_addS, bn_addT, bn_addL, cp_eq, cp_ne, cp_ltI, cp_leI, cp_gtI, cp_geI, cp_ltS, cp_leS, cp_gtS, cp_geS, cp_ltT, cp_gtT, cp_in, cp_nin, cp_is, cp_isn, ix_l, ix_t, ix_s, ixs_tp, ixs_pd, ixs_rf, ixs_fz, bi_lenL, bi_lenT, bi_lenS, bi_listL, bi_listT, bi_tupL, bi_tupT, bi_intI, bi_intB, bi_strI, bi_strS, bi_abs, bi_max, bi_min, bi_all, bi_any, bi_sum, in_l, in_t, in_s, tr_b, tr_i, tr_n, tr_l, tr_t, so_l, so_t, so_s, so_f, io_t, ng_i, pt_i, ag_a, ag_s, rv_l, rv_t, ap_d, rk_l, rk_t, rk_s, rg_1, rg_2, sl_l, sl_t, sl_s, mt_ixS, wp_mkT0, wp_mkT1, wp_mkT2, wp_mkT3, wp_mkT4, wp_mkT5, wp_mkT6, wp_mkT7, wp_mkT8]
      refine signs_call es ?_
      refine draw_call ed t2 (List.getElem?_set_self l) (by omega) (by decide) fun w b3 t3 hw => ?_
      simp only [wp_ret, wp_bnd, wp_some, wp_grd, wp_no, wp_dat_pd, wp_dat_fz,  ev, evs, evO, evI, evC, evTs, AI.ex, asgG, asgGs, getV, wp_exs, wp_exs_nil, goS_nx, goS_rt, goS_bk, goS_ct, turnE_nx, turnE_ct, turnE_bk, turnE_rt, endD_rt, endD_nx, back_pd, binS, isFz, cmpS, biS, dats, truth, isiS, allPd, isiD, rkOf, join_some, Option.map, List.map, List.length_cons, List.length_nil, List.getElem?_cons_zero, List.getElem?_cons_succ, List.set_cons_zero, List.set_cons_succ, startS, atI_pos, atI_cast, Int.toNat_natCast, wp_newL1, wp_newL2, wp_newT1, List.length_set, List.set_set, decide_eq_true_eq, decide_eq_false_iff_not, Bool.not_eq_true', true_and, and_true,  ixN_pos, Int.reduceLE, Int.reduceLT, Int.reduceToNat, Int.reduceAdd, Int.reduceSub, Int.reduceMul, Int.reduceMod, Int.reduceNeg, Int.reducePow, Nat.reduceAdd, Nat.reduceLT, Nat.reduceLeDiff, Nat.reduceSub, reduceIte, Int.reduceEq, List.isEmpty_nil, Bool.false_eq_true, decide_true, decide_false, ge_iff_le, gt_iff_lt,  wp_eq_int, wp_eq_str, wp_eq_bool, List.length_map, List.replicate, List.cons_append, List.nil_append, Bool.not_false, Bool.not_true, Bool.and_true, Bool.true_and, Bool.and_self, Bool.and_false, Bool.false_and, Option.bind, bn_add, bn_sub, bn_mul, bn_div, bn_mod, bn_pow, bn_addS, bn_addT, bn_addL, cp_eq, cp_ne, cp_ltI, cp_leI, cp_gtI, cp_geI, cp_ltS, cp_leS, cp_gtS, cp_geS, cp_ltT, cp_gtT, cp_in, cp_nin, cp_is, cp_isn, ix_l, ix_t, ix_s, ixs_tp, ixs_pd, ixs_rf, ixs_fz, bi_lenL, bi_lenT, bi_lenS, bi_listL, bi_listT, bi_tupL, bi_tupT, bi_intI, bi_intB, bi_strI, bi_strS, bi_abs, bi_max, bi_min, bi_all, bi_any, bi_sum, in_l, in_t, in_s, tr_b, tr_i, tr_n, tr_l, tr_t, so_l, so_t, so_s, so_f, io_t, ng_i, pt_i, ag_a, ag_s, rv_l, rv_t, ap_d, rk_l, rk_t, rk_s, rg_1, rg_2, sl_l, sl_t, sl_s, mt_ixS, wp_mkT0, wp_mkT1, wp_mkT2, wp_mkT3, wp_mkT4, wp_mkT5, wp_mkT6, wp_mkT7, wp_mkT8]
      have w0 := hw.1
      have w1 : w < 94 := hw.2
      obtain ⟨c, ec, hc⟩ := str_at (z := SG) w0 (by rw [SG_len]; exact w1)
      refine ⟨by decide +kernel, wp_at ec ?_⟩
      refine ⟨?_, _, _, _, rfl, t3, rfl, g.add (TxtOk.one hc)⟩
      have := g.1
      show s.length + 1 ≤ sizeLine
      exact Nat.le_trans (by omega : _ ≤ 1000) (by decide)
    · rintro σ h' ⟨b2, s, y, rfl, t2, rfl, g⟩
      simp only [wp_ret, wp_bnd, wp_some, wp_grd, wp_no, wp_dat_pd, wp_dat_fz,  ev, evs, evO, evI, evC, evTs, AI.ex, asgG, asgGs, getV, wp_exs, wp_exs_nil, goS_nx, goS_rt, goS_bk, goS_ct, turnE_nx, turnE_ct, turnE_bk, turnE_rt, endD_rt, endD_nx, back_pd, binS, isFz, cmpS, biS, dats, truth, isiS, allPd, isiD, rkOf, join_some, Option.map, List.map, List.length_cons, List.length_nil, List.getElem?_cons_zero, List.getElem?_cons_succ, List.set_cons_zero, List.set_cons_succ, startS, atI_pos, atI_cast, Int.toNat_natCast, wp_newL1, wp_newL2, wp_newT1, List.length_set, List.set_set, decide_eq_true_eq, decide_eq_false_iff_not, Bool.not_eq_true', true_and, and_true,  ixN_pos, Int.reduceLE, Int.reduceLT, Int.reduceToNat, Int.reduceAdd, Int.reduceSub, Int.reduceMul, Int.reduceMod, Int.reduceNeg, Int.reducePow, Nat.reduceAdd, Nat.reduceLT, Nat.reduceLeDiff, Nat.reduceSub, reduceIte, Int.reduceEq, List.isEmpty_nil, Bool.false_eq_true, decide_true, decide_false, ge_iff_le, gt_iff_lt,  wp_eq_int, wp_eq_str, wp_eq_bool, List.length_map, List.replicate, List.cons_append, List.nil_append, Bool.not_false, Bool.not_true, Bool.and_true, Bool.true_and, Bool.and_self, Bool.and_false, Bool.false_and, Option.bind, bn_add, bn_sub, bn_mul, bn_div, bn_mod, bn_pow, bn_addS, bn_addT, bn_addL, cp_eq, cp_ne, cp_ltI, cp_leI, cp_gtI, cp_geI, cp_ltS, cp_leS, cp_gtS, cp_geS, cp_ltT, cp_gtT, cp_in, cp_nin, cp_is, cp_isn, ix_l, ix_t, ix_s, ixs_tp, ixs_pd, ixs_rf, ixs_fz, bi_lenL, bi_lenT, bi_lenS, bi_listL, bi_listT, bi_tupL, bi_tupT, bi_intI, bi_intB, bi_strI, bi_strS, bi_abs, bi_max, bi_min, bi_all, bi_any, bi_sum, in_l, in_t, in_s, tr_b, tr_i, tr_n, tr_l, tr_t, so_l, so_t, so_s, so_f, io_t, ng_i, pt_i, ag_a, ag_s, rv_l, rv_t, ap_d, rk_l, rk_t, rk_s, rg_1, rg_2, sl_l, sl_t, sl_s, mt_ixS, wp_mkT0, wp_mkT1, wp_mkT2, wp_mkT3, wp_mkT4, wp_mkT5, wp_mkT6, wp_mkT7, wp_mkT8]
      exact q s b2 (t2.up (by omega)) (g.up (by omega))
theorem text_call {T0 : TT} {B n : Nat} {b : Box} (e : T.raw f = rawDef T' ⟨1, 5, b_text⟩) (ed : T'.raw "_law_draw" = rawDef T0 ⟨2, 4, b_draw⟩) (es : T'.raw "_law_signs" = rawDef T0 ⟨0, 1, b_signs⟩) (t : TapeB B b) (hb : h[n]? = some b) (hB : B + 21 ≤ 10 ^ 100)
    (q : ∀ s b', TapeB (B + 21) b' → TxtOk 20 s → Q (.pd (.str s)) (h.set n b')) : wp (T.call bx f [.rf n]) Q h :=
  wp_call e (text_raw ed es t hb hB fun s b' t' g => by rw [back_pd, List.take_of_length_le (by simp)]; exact q s b' t' g)
end
end AI

set_option Elab.async false
set_option linter.all false
set_option maxRecDepth 100000
set_option maxHeartbeats 4000000
namespace K00
open PySem AI
abbrev top (i : Nat) : Stmt := PySem.Challenge.pw_indoubt_k00_values_in_order.main.body.getD i (.Pass ⟨0, 0, 0, 0⟩)
def b_value_key : List S := [.ite (.val (.isi (.var 0) .str)) [.ret (.tup [(.cst (.int 1)), (.var 0)])] [], .ret (.tup [(.cst (.int 0)), (.var 0)])]
def d_value_key : DefI := ⟨"value_key", L2.defArgs (top 1), L2.defBody (top 1), L2.defScope (top 1), ["value"], ["value"], [], b_value_key⟩
def b_compare_values : List S := [.asg (.nm 2) (.call "value_key" [(.var 0)]), .asg (.nm 3) (.call "value_key" [(.var 1)]), .ite (.val (.cmp .Lt (.var 2) (.var 3))) [.ret (.neg (.cst (.int 1)))] [], .ite (.val (.cmp .Gt (.var 2) (.var 3))) [.ret (.cst (.int 1))] [], .ret (.cst (.int 0))]
def d_compare_values : DefI := ⟨"compare_values", L2.defArgs (top 2), L2.defBody (top 2), L2.defScope (top 2), ["left", "right", "left_key", "right_key"], ["left", "right"], [], b_compare_values⟩
def b_law_tape : List S := [.asg (.nm 1) (.cst (.int 7)), .for_ (.nm 2) (.val (.var 0)) [.asg (.nm 1) (.bin .Mod (.bi .int [(.bin .Add (.bin .Mult (.var 1) (.cst (.int 31))) (.bi .abs [(.bi .int [(.var 2)])]))]) (.cst (.int 2147483647)))], .ret (.bx (.lst [(.bi .list [(.var 0)]), (.cst (.int 0)), (.cst (.int 0)), (.var 1)]))]
def d_law_tape : DefI := ⟨"_law_tape", L2.defArgs (top 4), L2.defBody (top 4), L2.defScope (top 4), ["_law_script", "_law_total", "_law_cell"], ["_law_script"], ["return"], b_law_tape⟩
def b_law_draw : List S := [.ite (.val (.cmp .Eq (.idx (.var 0) (.cst (.int 2))) (.cst (.int 0)))) [.asg (.nm 2) (.idx (.var 0) (.cst (.int 1))), .asg (.nm 3) (.cst (.int 0)), .ite (.val (.cmp .Lt (.var 2) (.bi .len [(.idx (.var 0) (.cst (.int 0)))]))) [.asg (.nm 3) (.bi .abs [(.bi .int [(.idx (.idx (.var 0) (.cst (.int 0))) (.var 2))])])] [.asg (.sub (.var 0) (.cst (.int 3))) (.bin .Mod (.bi .int [(.bin .Add (.bin .Add (.bin .Mult (.idx (.var 0) (.cst (.int 3))) (.cst (.int 48271))) (.var 2)) (.cst (.int 1)))]) (.cst (.int 2147483647))), .asg (.nm 3) (.idx (.var 0) (.cst (.int 3)))], .asg (.sub (.var 0) (.cst (.int 1))) (.bin .Add (.var 2) (.cst (.int 1))), .ite (.val (.cmp .Lt (.var 3) (.bin .Pow (.cst (.int 10)) (.cst (.int 18))))) [.asg (.nm 3) (.bin .Mod (.bi .int [(.bin .Add (.bin .Add (.bin .Mult (.var 3) (.cst (.int 48271))) (.bin .Mult (.var 2) (.cst (.int 69621)))) (.cst (.int 5)))]) (.cst (.int 2147483647))), .asg (.nm 3) (.bin .Mod (.bi .int [(.bin .Mult (.var 3) (.cst (.int 69621)))]) (.cst (.int 2147483629))), .ret (.bin .Mod (.bi .int [(.var 3)]) (.bi .max [(.var 1), (.cst (.int 1))]))] [], .asg (.sub (.var 0) (.cst (.int 2))) (.var 3)] [], .asg (.nm 3) (.idx (.var 0) (.cst (.int 2))), .asg (.sub (.var 0) (.cst (.int 2))) (.bin .FloorDiv (.var 3) (.bi .max [(.var 1), (.cst (.int 2))])), .ret (.bin .Mod (.bi .int [(.var 3)]) (.bi .max [(.var 1), (.cst (.int 1))]))]
def d_law_draw : DefI := ⟨"_law_draw", L2.defArgs (top 5), L2.defBody (top 5), L2.defScope (top 5), ["_law_tape_here", "_law_many", "_law_place", "_law_number"], ["_law_tape_here", "_law_many"], ["_law_tape_here"], b_law_draw⟩
def b_law_signs : List S := [.asg (.nm 0) (.cst (.str " !\"#$&'()*+,-./0123456789:;<=>?@ABCDEFGHIJKLMNOPQRSTUVWXYZ[\\]^_`")), .ret (.bin .Add (.var 0) (.cst (.str "abcdefghijklmnopqrstuvwxyz{|}~")))]
def d_law_signs : DefI := ⟨"_law_signs", L2.defArgs (top 6), L2.defBody (top 6), L2.defScope (top 6), ["_law_signs_here"], [], [], b_law_signs⟩
def b_law_text : List S := [.asg (.nm 1) (.call "_law_draw" [(.var 0), (.cst (.int 21000))]), .asg (.nm 2) (.bin .Mod (.bi .int [(.var 1)]) (.cst (.int 8))), .asg (.nm 3) (.cst (.str "")), .ite (.val (.cmp .Lt (.var 2) (.cst (.int 6)))) [.for_ (.nm 4) (.rng [(.idx (.lst [(.cst (.int 0)), (.cst (.int 1)), (.cst (.int 1)), (.cst (.int 1)), (.cst (.int 2)), (.cst (.int 3))]) (.var 2))]) [.asg (.nm 3) (.bin .Add (.var 3) (.idx (.cst (.str "abB' ")) (.bin .Mod (.bi .int [(.bin .FloorDiv (.var 1) (.idx (.lst [(.cst (.int 8)), (.cst (.int 40)), (.cst (.int 200))]) (.var 4)))]) (.cst (.int 5)))))], .ret (.var 3)] [], .for_ (.nm 4) (.rng [(.idx (.lst [(.cst (.int 20)), (.bin .FloorDiv (.var 1) (.cst (.int 1000)))]) (.bin .Sub (.var 2) (.cst (.int 6))))]) [.asg (.nm 3) (.bin .Add (.var 3) (.idx (.call "_law_signs" []) (.call "_law_draw" [(.var 0), (.cst (.int 94))])))], .ret (.var 3)]
def d_law_text : DefI := ⟨"_law_text", L2.defArgs (top 7), L2.defBody (top 7), L2.defScope (top 7), ["_law_tape_here", "_law_number", "_law_share", "_law_text_here", "_law_k"], ["_law_tape_here"], ["_law_tape_here"], b_law_text⟩
def b_law_any : List S := [.asg (.nm 1) (.call "_law_draw" [(.var 0), (.bin .Mult (.cst (.int 16)) (.bin .Pow (.cst (.int 10)) (.cst (.int 30))))]), .asg (.nm 2) (.bin .Mod (.bi .int [(.var 1)]) (.cst (.int 8))), .ite (.val (.cmp .Lt (.var 2) (.cst (.int 4)))) [.ret (.call "_law_text" [(.var 0)])] [], .ite (.val (.cmp .Eq (.var 2) (.cst (.int 4)))) [.ret (.bin .Sub (.bin .Mod (.bi .int [(.bin .FloorDiv (.var 1) (.cst (.int 8)))]) (.cst (.int 7))) (.cst (.int 3)))] [], .ite (.val (.cmp .Eq (.var 2) (.cst (.int 5)))) [.ret (.idx (.lst [(.cst (.int 1000000)), (.neg (.cst (.int 1000000))), (.bin .Pow (.cst (.int 10)) (.cst (.int 12))), (.neg (.bin .Pow (.cst (.int 10)) (.cst (.int 12)))), (.bin .Pow (.cst (.int 10)) (.cst (.int 30)))]) (.bin .Mod (.bi .int [(.bin .FloorDiv (.var 1) (.cst (.int 8)))]) (.cst (.int 5))))] [], .ite (.val (.cmp .Eq (.var 2) (.cst (.int 6)))) [.ret (.bin .Sub (.bin .Mod (.bi .int [(.bin .FloorDiv (.var 1) (.cst (.int 8)))]) (.cst (.int 2000003))) (.cst (.int 1000001)))] [], .ret (.bin .Sub (.bin .FloorDiv (.var 1) (.cst (.int 8))) (.bin .Pow (.cst (.int 10)) (.cst (.int 30))))]
def d_law_any : DefI := ⟨"_law_any", L2.defArgs (top 8), L2.defBody (top 8), L2.defScope (top 8), ["_law_tape_here", "_law_number", "_law_share"], ["_law_tape_here"], ["_law_tape_here"], b_law_any⟩
def b_law_near : List S := [.ite (.val (.isi (.var 1) .int)) [.ret (.bin .Sub (.bin .Add (.var 1) (.cst (.int 1))) (.bin .Mult (.cst (.int 2)) (.call "_law_draw" [(.var 0), (.cst (.int 2))])))] [], .asg (.nm 2) (.call "_law_draw" [(.var 0), (.bin .Add (.bi .len [(.var 1)]) (.cst (.int 1)))]), .ite (.val (.cmp .Eq (.call "_law_draw" [(.var 0), (.cst (.int 3))]) (.cst (.int 0)))) [.ret (.slc (.var 1) none (some (.var 2)))] [], .asg (.nm 3) (.idx (.call "_law_signs" []) (.call "_law_draw" [(.var 0), (.cst (.int 94))])), .ret (.slc (.bin .Add (.bin .Add (.slc (.var 1) none (some (.var 2))) (.var 3)) (.slc (.var 1) (some (.bin .Add (.var 2) (.cst (.int 1)))) none)) none (some (.cst (.int 20))))]
def d_law_near : DefI := ⟨"_law_near", L2.defArgs (top 9), L2.defBody (top 9), L2.defScope (top 9), ["_law_tape_here", "_law_value", "_law_at", "_law_sign"], ["_law_tape_here", "_law_value"], ["_law_tape_here"], b_law_near⟩
def b_law_comes_before : List S := [.ite (.or (.val (.isi (.var 0) .int)) (.val (.isi (.var 1) .int))) [.ret (.and (.isi (.var 0) .int) (.or (.not (.isi (.var 1) .int)) (.cmp .Lt (.var 0) (.var 1))))] [], .asg (.nm 2) (.call "_law_signs" []), .for_ (.nm 3) (.rng [(.bi .min [(.bi .len [(.var 0)]), (.bi .len [(.var 1)])])]) [.ite (.val (.cmp .NotEq (.idx (.var 0) (.var 3)) (.idx (.var 1) (.var 3)))) [.ret (.cmp .Lt (.meth .index (.var 2) [(.idx (.var 0) (.var 3))]) (.meth .index (.var 2) [(.idx (.var 1) (.var 3))]))] []], .ret (.cmp .Lt (.bi .len [(.var 0)]) (.bi .len [(.var 1)]))]
def d_law_comes_before : DefI := ⟨"_law_comes_before", L2.defArgs (top 10), L2.defBody (top 10), L2.defScope (top 10), ["_law_left", "_law_right", "_law_signs_here", "_law_k"], ["_law_left", "_law_right"], [], b_law_comes_before⟩
def b_law_is : List S := [.ret (.and (.isi (.var 0) .int) (.and (.not (.isi (.var 0) .bool)) (.cmp .Eq (.var 0) (.var 1))))]
def d_law_is : DefI := ⟨"_law_is", L2.defArgs (top 11), L2.defBody (top 11), L2.defScope (top 11), ["_law_told", "_law_due"], ["_law_told", "_law_due"], [], b_law_is⟩
def b_law : List S := [.asg (.nm 1) (.bx (.call "_law_tape" [(.var 0)])), .asg (.nm 2) (.call "_law_any" [(.var 1)]), .asg (.nm 3) (.call "_law_draw" [(.var 1), (.cst (.int 4))]), .asg (.nm 4) (.var 2), .ite (.val (.cmp .Eq (.var 3) (.cst (.int 1)))) [.asg (.nm 4) (.call "_law_near" [(.var 1), (.var 2)])] [], .ite (.val (.cmp .Gt (.var 3) (.cst (.int 1)))) [.asg (.nm 4) (.call "_law_any" [(.var 1)])] [], .asg (.nm 5) (.cst (.int 0)), .ite (.val (.call "_law_comes_before" [(.var 2), (.var 4)])) [.asg (.nm 5) (.neg (.cst (.int 1)))] [], .ite (.val (.call "_law_comes_before" [(.var 4), (.var 2)])) [.asg (.nm 5) (.cst (.int 1))] [], .ite (.not (.val (.call "_law_is" [(.call "compare_values" [(.var 2), (.var 4)]), (.var 5)]))) [.ret (.cst (.bool false))] [], .ret (.call "_law_is" [(.call "compare_values" [(.var 4), (.var 2)]), (.neg (.var 5))])]
def d_law : DefI := ⟨"law", L2.defArgs (top 12), L2.defBody (top 12), L2.defScope (top 12), ["_law_script", "_law_tape_here", "_law_left", "_law_share", "_law_right", "_law_due"], ["_law_script"], ["_law_tape_here"], b_law⟩
def tab : Tab := ⟨[d_value_key, d_compare_values, d_law_tape, d_law_draw, d_law_signs, d_law_text, d_law_any, d_law_near, d_law_comes_before, d_law_is, d_law], [], ["abs", "bool", "int", "isinstance", "len", "list", "max", "min", "range", "str"], 1000⟩
theorem c_value_key : DefC tab d_value_key := ⟨by kernel_rfl, by kernel_rfl, fun _ _ _ _ _ _ us hl => match us, hl with | [_], _ => rfl⟩
theorem c_compare_values : DefC tab d_compare_values := ⟨by kernel_rfl, by kernel_rfl, fun _ _ _ _ _ _ us hl => match us, hl with | [_, _], _ => rfl⟩
theorem c_law_tape : DefC tab d_law_tape := ⟨by kernel_rfl, by kernel_rfl, fun _ _ _ _ _ _ us hl => match us, hl with | [_], _ => rfl⟩
theorem c_law_draw : DefC tab d_law_draw := ⟨by kernel_rfl, by kernel_rfl, fun _ _ _ _ _ _ us hl => match us, hl with | [_, _], _ => rfl⟩
theorem c_law_signs : DefC tab d_law_signs := ⟨by kernel_rfl, by kernel_rfl, fun _ _ _ _ _ _ us hl => match us, hl with | [], _ => rfl⟩
theorem c_law_text : DefC tab d_law_text := ⟨by kernel_rfl, by kernel_rfl, fun _ _ _ _ _ _ us hl => match us, hl with | [_], _ => rfl⟩
theorem c_law_any : DefC tab d_law_any := ⟨by kernel_rfl, by kernel_rfl, fun _ _ _ _ _ _ us hl => match us, hl with | [_], _ => rfl⟩
theorem c_law_near : DefC tab d_law_near := ⟨by kernel_rfl, by kernel_rfl, fun _ _ _ _ _ _ us hl => match us, hl with | [_, _], _ => rfl⟩
theorem c_law_comes_before : DefC tab d_law_comes_before := ⟨by kernel_rfl, by kernel_rfl, fun _ _ _ _ _ _ us hl => match us, hl with | [_, _], _ => rfl⟩
theorem c_law_is : DefC tab d_law_is := ⟨by kernel_rfl, by kernel_rfl, fun _ _ _ _ _ _ us hl => match us, hl with | [_, _], _ => rfl⟩
theorem c_law : DefC tab d_law := ⟨by kernel_rfl, by kernel_rfl, fun _ _ _ _ _ _ us hl => match us, hl with | [_], _ => rfl⟩
theorem r_value_key (n : Nat) : (tab.mdl.tt (n + 1)).raw "value_key" = rawDef (tab.mdl.tt n) ⟨1, 1, b_value_key⟩ := by kernel_rfl
theorem r_compare_values (n : Nat) : (tab.mdl.tt (n + 1)).raw "compare_values" = rawDef (tab.mdl.tt n) ⟨2, 4, b_compare_values⟩ := by kernel_rfl
theorem r_law_tape (n : Nat) : (tab.mdl.tt (n + 1)).raw "_law_tape" = rawDef (tab.mdl.tt n) ⟨1, 3, b_law_tape⟩ := by kernel_rfl
theorem r_law_draw (n : Nat) : (tab.mdl.tt (n + 1)).raw "_law_draw" = rawDef (tab.mdl.tt n) ⟨2, 4, b_law_draw⟩ := by kernel_rfl
theorem r_law_signs (n : Nat) : (tab.mdl.tt (n + 1)).raw "_law_signs" = rawDef (tab.mdl.tt n) ⟨0, 1, b_law_signs⟩ := by kernel_rfl
theorem r_law_text (n : Nat) : (tab.mdl.tt (n + 1)).raw "_law_text" = rawDef (tab.mdl.tt n) ⟨1, 5, b_law_text⟩ := by kernel_rfl
theorem r_law_any (n : Nat) : (tab.mdl.tt (n + 1)).raw "_law_any" = rawDef (tab.mdl.tt n) ⟨1, 3, b_law_any⟩ := by kernel_rfl
theorem r_law_near (n : Nat) : (tab.mdl.tt (n + 1)).raw "_law_near" = rawDef (tab.mdl.tt n) ⟨2, 4, b_law_near⟩ := by kernel_rfl
theorem r_law_comes_before (n : Nat) : (tab.mdl.tt (n + 1)).raw "_law_comes_before" = rawDef (tab.mdl.tt n) ⟨2, 4, b_law_comes_before⟩ := by kernel_rfl
theorem r_law_is (n : Nat) : (tab.mdl.tt (n + 1)).raw "_law_is" = rawDef (tab.mdl.tt n) ⟨2, 2, b_law_is⟩ := by kernel_rfl
theorem r_law (n : Nat) : (tab.mdl.tt (n + 1)).raw "law" = rawDef (tab.mdl.tt n) ⟨1, 6, b_law⟩ := by kernel_rfl
theorem allC : AllC tab tab.dfs := .cons c_value_key (.cons c_compare_values (.cons c_law_tape (.cons c_law_draw (.cons c_law_signs (.cons c_law_text (.cons c_law_any (.cons c_law_near (.cons c_law_comes_before (.cons c_law_is (.cons c_law .nil))))))))))
end K00

set_option Elab.async false
set_option linter.all false
set_option maxRecDepth 100000
set_option maxHeartbeats 4000000
/-! K00: values in order -/
namespace K00
open PySem AI L2
abbrev TM (n : Nat) : AI.TT := tab.mdl.tt n
/-- what is compared -/
def GV (d : D) : Prop := (∃ i, d = .int i) ∨ (∃ s, d = .str s ∧ TxtOk 60 s)
section
variable {bx : Bool} {h : Boxes} {Q : RV → Boxes → Prop} {B n : Nat} {b : Box}
theorem any_call {m : Nat} (t : TapeB B b) (hb : h[n]? = some b) (hB : B + 22 ≤ 10 ^ 100) (q : ∀ d b', TapeB (B + 22) b' → GV d → Q (.pd d) (h.set n b')) : wp ((TM (m + 4)).call bx "_law_any" [.rf n]) Q h := by
  have l := box_lt hb
  refine wp_call (r_law_any _) (wp_def rfl ?_)
  have ret : ∀ d b', TapeB (B + 22) b' → GV d → back h.length bx Q (.pd d) (h.set n b') := fun d b' t' g => by rw [back_pd, List.take_of_length_le (by simp)]; exact q d b' t' g
  generalize hQ : back h.length bx Q = Q' at *
  clear hQ q
  simp only [wp_ret, wp_bnd, wp_some, wp_grd, wp_no, wp_dat_pd, wp_dat_fz,  ev, evs, evO, evI, evC, evTs, AI.ex, asgG, asgGs, getV, wp_exs, wp_exs_nil, goS_nx, goS_rt, goS_bk, goS_ct, turnE_nx, turnE_ct, turnE_bk, turnE_rt, endD_rt, endD_nx, back_pd, binS, isFz, cmpS, biS, dats, truth, isiS, allPd, isiD, rkOf, join_some, Option.map, List.map, List.length_cons, List.length_nil, List.getElem?_cons_zero, List.getElem?_cons_succ, List.set_cons_zero, List.set_cons_succ, startS, atI_pos, atI_cast, Int.toNat_natCast, wp_newL1, wp_newL2, wp_newT1, List.length_set, List.set_set, decide_eq_true_eq, decide_eq_false_iff_not, Bool.not_eq_true', true_and, and_true,  ixN_pos, Int.reduceLE, Int.reduceLT, Int.reduceToNat, Int.reduceAdd, Int.reduceSub, Int.reduceMul, Int.reduceMod, Int.reduceNeg, Int.reducePow, Nat.reduceAdd, Nat.reduceLT, Nat.reduceLeDiff, Nat.reduceSub, reduceIte, Int.reduceEq, List.isEmpty_nil, Bool.false_eq_true, Bool.true_eq_false, decide_true, decide_false, ge_iff_le, gt_iff_lt,  wp_eq_int, wp_eq_str, wp_eq_bool, List.length_map, List.replicate, List.cons_append, List.nil_append, Bool.not_false, Bool.not_true, Bool.and_true, Bool.true_and, Bool.and_self, Bool.and_false, Bool.false_and, Option.bind, bn_add, bn_sub, bn_mul, bn_div, bn_mod, bn_pow, bn_addS, bn_addT, bn_addL, cp_eq, cp_ne, cp_ltI, cp_leI, cp_gtI, cp_geI, cp_ltS, cp_leS, cp_gtS, cp_geS, cp_ltT, cp_gtT, cp_in, cp_nin, cp_is, cp_isn, ix_l, ix_t, ix_s, ixs_tp, ixs_pd, ixs_rf, ixs_fz, bi_lenL, bi_lenT, bi_lenS, bi_listL, bi_listT, bi_tupL, bi_tupT, bi_intI, bi_intB, bi_strI, bi_strS, bi_abs, bi_max, bi_min, bi_all, bi_any, bi_sum, in_l, in_t, in_s, tr_b, tr_i, tr_n, tr_l, tr_t, so_l, so_t, so_s, so_f, io_t, ng_i, pt_i, ag_a, ag_s, rv_l, rv_t, ap_d, rk_l, rk_t, rk_s, rg_1, rg_2, sl_l, sl_t, sl_s, mt_ixS, wp_mkT0, wp_mkT1, wp_mkT2, wp_mkT3, wp_mkT4, wp_mkT5, wp_mkT6, wp_mkT7, wp_mkT8, b_law_any]
  refine ⟨by decide, by decide, ?_⟩
  refine draw_call (r_law_draw _) t hb (by omega) (by decide) fun v b1 t1 hv => ?_
  have v0 := hv.1
  have r := emod_rng v (show (0 : Int) < 8 by decide)
  simp only [wp_ret, wp_bnd, wp_some, wp_grd, wp_no, wp_dat_pd, wp_dat_fz,  ev, evs, evO, evI, evC, evTs, AI.ex, asgG, asgGs, getV, wp_exs, wp_exs_nil, goS_nx, goS_rt, goS_bk, goS_ct, turnE_nx, turnE_ct, turnE_bk, turnE_rt, endD_rt, endD_nx, back_pd, binS, isFz, cmpS, biS, dats, truth, isiS, allPd, isiD, rkOf, join_some, Option.map, List.map, List.length_cons, List.length_nil, List.getElem?_cons_zero, List.getElem?_cons_succ, List.set_cons_zero, List.set_cons_succ, startS, atI_pos, atI_cast, Int.toNat_natCast, wp_newL1, wp_newL2, wp_newT1, List.length_set, List.set_set, decide_eq_true_eq, decide_eq_false_iff_not, Bool.not_eq_true', true_and, and_true,  ixN_pos, Int.reduceLE, Int.reduceLT, Int.reduceToNat, Int.reduceAdd, Int.reduceSub, Int.reduceMul, Int.reduceMod, Int.reduceNeg, Int.reducePow, Nat.reduceAdd, Nat.reduceLT, Nat.reduceLeDiff, Nat.reduceSub, reduceIte, Int.reduceEq, List.isEmpty_nil, Bool.false_eq_true, Bool.true_eq_false, decide_true, decide_false, ge_iff_le, gt_iff_lt,  wp_eq_int, wp_eq_str, wp_eq_bool, List.length_map, List.replicate, List.cons_append, List.nil_append, Bool.not_false, Bool.not_true, Bool.and_true, Bool.true_and, Bool.and_self, Bool.and_false, Bool.false_and, Option.bind, bn_add, bn_sub, bn_mul, bn_div, bn_mod, bn_pow, bn_addS, bn_addT, bn_addL, cp_eq, cp_ne, cp_ltI, cp_leI, cp_gtI, cp_geI, cp_ltS, cp_leS, cp_gtS, cp_geS, cp_ltT, cp_gtT, cp_in, cp_nin, cp_is, cp_isn, ix_l, ix_t, ix_s, ixs_tp, ixs_pd, ixs_rf, ixs_fz, bi_lenL, bi_lenT, bi_lenS, bi_listL, bi_listT, bi_tupL, bi_tupT, bi_intI, bi_intB, bi_strI, bi_strS, bi_abs, bi_max, bi_min, bi_all, bi_any, bi_sum, in_l, in_t, in_s, tr_b, tr_i, tr_n, tr_l, tr_t, so_l, so_t, so_s, so_f, io_t, ng_i, pt_i, ag_a, ag_s, rv_l, rv_t, ap_d, rk_l, rk_t, rk_s, rg_1, rg_2, sl_l, sl_t, sl_s, mt_ixS, wp_mkT0, wp_mkT1, wp_mkT2, wp_mkT3, wp_mkT4, wp_mkT5, wp_mkT6, wp_mkT7, wp_mkT8]
  refine wp_if (fun c0 => ?_) (fun c0 => ?_)
  · simp only [wp_ret, wp_bnd, wp_some, wp_grd, wp_no, wp_dat_pd, wp_dat_fz,  ev, evs, evO, evI, evC, evTs, AI.ex, asgG, asgGs, getV, wp_exs, wp_exs_nil, goS_nx, goS_rt, goS_bk, goS_ct, turnE_nx, turnE_ct, turnE_bk, turnE_rt, endD_rt, endD_nx, back_pd, binS, isFz, cmpS, biS, dats, truth, isiS, allPd, isiD, rkOf, join_some, Option.map, List.map, List.length_cons, List.length_nil, List.getElem?_cons_zero, List.getElem?_cons_succ, List.set_cons_zero, List.set_cons_succ, startS, atI_pos, atI_cast, Int.toNat_natCast, wp_newL1, wp_newL2, wp_newT1, List.length_set, List.set_set, decide_eq_true_eq, decide_eq_false_iff_not, Bool.not_eq_true', true_and, and_true,  ixN_pos, Int.reduceLE, Int.reduceLT, Int.reduceToNat, Int.reduceAdd, Int.reduceSub, Int.reduceMul, Int.reduceMod, Int.reduceNeg, Int.reducePow, Nat.reduceAdd, Nat.reduceLT, Nat.reduceLeDiff, Nat.reduceSub, reduceIte, Int.reduceEq, List.isEmpty_nil, Bool.false_eq_true, Bool.true_eq_false, decide_true, decide_false, ge_iff_le, gt_iff_lt,  wp_eq_int, wp_eq_str, wp_eq_bool, List.length_map, List.replicate, List.cons_append, List.nil_append, Bool.not_false, Bool.not_true, Bool.and_true, Bool.true_and, Bool.and_self, Bool.and_false, Bool.false_and, Option.bind, bn_add, bn_sub, bn_mul, bn_div, bn_mod, bn_pow, bn_addS, bn_addT, bn_addL, cp_eq, cp_ne, cp_ltI, cp_leI, cp_gtI, cp_geI, cp_ltS, cp_leS, cp_gtS, cp_geS, cp_ltT, cp_gtT, cp_in, cp_nin, cp_is, cp_isn, ix_l, ix_t, ix_s, ixs_tp, ixs_pd, ixs_rf, ixs_fz, bi_lenL, bi_lenT, bi_lenS, bi_listL, bi_listT, bi_tupL, bi_tupT, bi_intI, bi_intB, bi_strI, bi_strS, bi_abs, bi_max, bi_min, bi_all, bi_any, bi_sum, in_l, in_t, in_s, tr_b, tr_i, tr_n, tr_l, tr_t, so_l, so_t, so_s, so_f, io_t, ng_i, pt_i, ag_a, ag_s, rv_l, rv_t, ap_d, rk_l, rk_t, rk_s, rg_1, rg_2, sl_l, sl_t, sl_s, mt_ixS, wp_mkT0, wp_mkT1, wp_mkT2, wp_mkT3, wp_mkT4, wp_mkT5, wp_mkT6, wp_mkT7, wp_mkT8]
    refine text_call (r_law_text _) (r_law_draw _) (r_law_signs _) t1 (List.getElem?_set_self l) (by omega) fun s b2 t2 g => ?_
    simp only [wp_ret, wp_bnd, wp_some, wp_grd, wp_no, wp_dat_pd, wp_dat_fz,  ev, evs, evO, evI, evC, evTs, AI.ex, asgG, asgGs, getV, wp_exs, wp_exs_nil, goS_nx, goS_rt, goS_bk, goS_ct, turnE_nx, turnE_ct, turnE_bk, turnE_rt, endD_rt, endD_nx, back_pd, binS, isFz, cmpS, biS, dats, truth, isiS, allPd, isiD, rkOf, join_some, Option.map, List.map, List.length_cons, List.length_nil, List.getElem?_cons_zero, List.getElem?_cons_succ, List.set_cons_zero, List.set_cons_succ, startS, atI_pos, atI_cast, Int.toNat_natCast, wp_newL1, wp_newL2, wp_newT1, List.length_set, List.set_set, decide_eq_true_eq, decide_eq_false_iff_not, Bool.not_eq_true', true_and, and_true,  ixN_pos, Int.reduceLE, Int.reduceLT, Int.reduceToNat, Int.reduceAdd, Int.reduceSub, Int.reduceMul, Int.reduceMod, Int.reduceNeg, Int.reducePow, Nat.reduceAdd, Nat.reduceLT, Nat.reduceLeDiff, Nat.reduceSub, reduceIte, Int.reduceEq, List.isEmpty_nil, Bool.false_eq_true, Bool.true_eq_false, decide_true, decide_false, ge_iff_le, gt_iff_lt,  wp_eq_int, wp_eq_str, wp_eq_bool, List.length_map, List.replicate, List.cons_append, List.nil_append, Bool.not_false, Bool.not_true, Bool.and_true, Bool.true_and, Bool.and_self, Bool.and_false, Bool.false_and, Option.bind, bn_add, bn_sub, bn_mul, bn_div, bn_mod, bn_pow, bn_addS, bn_addT, bn_addL, cp_eq, cp_ne, cp_ltI, cp_leI, cp_gtI, cp_geI, cp_ltS, cp_leS, cp_gtS, cp_geS, cp_ltT, cp_gtT, cp_in, cp_nin, cp_is, cp_isn, ix_l, ix_t, ix_s, ixs_tp, ixs_pd, ixs_rf, ixs_fz, bi_lenL, bi_lenT, bi_lenS, bi_listL, bi_listT, bi_tupL, bi_tupT, bi_intI, bi_intB, bi_strI, bi_strS, bi_abs, bi_max, bi_min, bi_all, bi_any, bi_sum, in_l, in_t, in_s, tr_b, tr_i, tr_n, tr_l, tr_t, so_l, so_t, so_s, so_f, io_t, ng_i, pt_i, ag_a, ag_s, rv_l, rv_t, ap_d, rk_l, rk_t, rk_s, rg_1, rg_2, sl_l, sl_t, sl_s, mt_ixS, wp_mkT0, wp_mkT1, wp_mkT2, wp_mkT3, wp_mkT4, wp_mkT5, wp_mkT6, wp_mkT7, wp_mkT8]
    exact ret _ _ t2 (.inr ⟨s, rfl, g.up (by omega)⟩)
  · simp only [wp_ret, wp_bnd, wp_some, wp_grd, wp_no, wp_dat_pd, wp_dat_fz,  ev, evs, evO, evI, evC, evTs, AI.ex, asgG, asgGs, getV, wp_exs, wp_exs_nil, goS_nx, goS_rt, goS_bk, goS_ct, turnE_nx, turnE_ct, turnE_bk, turnE_rt, endD_rt, endD_nx, back_pd, binS, isFz, cmpS, biS, dats, truth, isiS, allPd, isiD, rkOf, join_some, Option.map, List.map, List.length_cons, List.length_nil, List.getElem?_cons_zero, List.getElem?_cons_succ, List.set_cons_zero, List.set_cons_succ, startS, atI_pos, atI_cast, Int.toNat_natCast, wp_newL1, wp_newL2, wp_newT1, List.length_set, List.set_set, decide_eq_true_eq, decide_eq_false_iff_not, Bool.not_eq_true', true_and, and_true,  ixN_pos, Int.reduceLE, Int.reduceLT, Int.reduceToNat, Int.reduceAdd, Int.reduceSub, Int.reduceMul, Int.reduceMod, Int.reduceNeg, Int.reducePow, Nat.reduceAdd, Nat.reduceLT, Nat.reduceLeDiff, Nat.reduceSub, reduceIte, Int.reduceEq, List.isEmpty_nil, Bool.false_eq_true, Bool.true_eq_false, decide_true, decide_false, ge_iff_le, gt_iff_lt,  wp_eq_int, wp_eq_str, wp_eq_bool, List.length_map, List.replicate, List.cons_append, List.nil_append, Bool.not_false, Bool.not_true, Bool.and_true, Bool.true_and, Bool.and_self, Bool.and_false, Bool.false_and, Option.bind, bn_add, bn_sub, bn_mul, bn_div, bn_mod, bn_pow, bn_addS, bn_addT, bn_addL, cp_eq, cp_ne, cp_ltI, cp_leI, cp_gtI, cp_geI, cp_ltS, cp_leS, cp_gtS, cp_geS, cp_ltT, cp_gtT, cp_in, cp_nin, cp_is, cp_isn, ix_l, ix_t, ix_s, ixs_tp, ixs_pd, ixs_rf, ixs_fz, bi_lenL, bi_lenT, bi_lenS, bi_listL, bi_listT, bi_tupL, bi_tupT, bi_intI, bi_intB, bi_strI, bi_strS, bi_abs, bi_max, bi_min, bi_all, bi_any, bi_sum, in_l, in_t, in_s, tr_b, tr_i, tr_n, tr_l, tr_t, so_l, so_t, so_s, so_f, io_t, ng_i, pt_i, ag_a, ag_s, rv_l, rv_t, ap_d, rk_l, rk_t, rk_s, rg_1, rg_2, sl_l, sl_t, sl_s, mt_ixS, wp_mkT0, wp_mkT1, wp_mkT2, wp_mkT3, wp_mkT4, wp_mkT5, wp_mkT6, wp_mkT7, wp_mkT8]
    refine wp_if (fun c1 => ?_) (fun c1 => ?_)
    · simp only [wp_ret, wp_bnd, wp_some, wp_grd, wp_no, wp_dat_pd, wp_dat_fz,  ev, evs, evO, evI, evC, evTs, AI.ex, asgG, asgGs, getV, wp_exs, wp_exs_nil, goS_nx, goS_rt, goS_bk, goS_ct, turnE_nx, turnE_ct, turnE_bk, turnE_rt, endD_rt, endD_nx, back_pd, binS, isFz, cmpS, biS, dats, truth, isiS, allPd, isiD, rkOf, join_some, Option.map, List.map, List.length_cons, List.length_nil, List.getElem?_cons_zero, List.getElem?_cons_succ, List.set_cons_zero, List.set_cons_succ, startS, atI_pos, atI_cast, Int.toNat_natCast, wp_newL1, wp_newL2, wp_newT1, List.length_set, List.set_set, decide_eq_true_eq, decide_eq_false_iff_not, Bool.not_eq_true', true_and, and_true,  ixN_pos, Int.reduceLE, Int.reduceLT, Int.reduceToNat, Int.reduceAdd, Int.reduceSub, Int.reduceMul, Int.reduceMod, Int.reduceNeg, Int.reducePow, Nat.reduceAdd, Nat.reduceLT, Nat.reduceLeDiff, Nat.reduceSub, reduceIte, Int.reduceEq, List.isEmpty_nil, Bool.false_eq_true, Bool.true_eq_false, decide_true, decide_false, ge_iff_le, gt_iff_lt,  wp_eq_int, wp_eq_str, wp_eq_bool, List.length_map, List.replicate, List.cons_append, List.nil_append, Bool.not_false, Bool.not_true, Bool.and_true, Bool.true_and, Bool.and_self, Bool.and_false, Bool.false_and, Option.bind, bn_add, bn_sub, bn_mul, bn_div, bn_mod, bn_pow, bn_addS, bn_addT, bn_addL, cp_eq, cp_ne, cp_ltI, cp_leI, cp_gtI, cp_geI, cp_ltS, cp_leS, cp_gtS, cp_geS, cp_ltT, cp_gtT, cp_in, cp_nin, cp_is, cp_isn, ix_l, ix_t, ix_s, ixs_tp, ixs_pd, ixs_rf, ixs_fz, bi_lenL, bi_lenT, bi_lenS, bi_listL, bi_listT, bi_tupL, bi_tupT, bi_intI, bi_intB, bi_strI, bi_strS, bi_abs, bi_max, bi_min, bi_all, bi_any, bi_sum, in_l, in_t, in_s, tr_b, tr_i, tr_n, tr_l, tr_t, so_l, so_t, so_s, so_f, io_t, ng_i, pt_i, ag_a, ag_s, rv_l, rv_t, ap_d, rk_l, rk_t, rk_s, rg_1, rg_2, sl_l, sl_t, sl_s, mt_ixS, wp_mkT0, wp_mkT1, wp_mkT2, wp_mkT3, wp_mkT4, wp_mkT5, wp_mkT6, wp_mkT7, wp_mkT8]
      exact ⟨by decide, ret _ _ (t1.up (by omega)) (.inl ⟨_, rfl⟩)⟩
    · simp only [wp_ret, wp_bnd, wp_some, wp_grd, wp_no, wp_dat_pd, wp_dat_fz,  ev, evs, evO, evI, evC, evTs, AI.ex, asgG, asgGs, getV, wp_exs, wp_exs_nil, goS_nx, goS_rt, goS_bk, goS_ct, turnE_nx, turnE_ct, turnE_bk, turnE_rt, endD_rt, endD_nx, back_pd, binS, isFz, cmpS, biS, dats, truth, isiS, allPd, isiD, rkOf, join_some, Option.map, List.map, List.length_cons, List.length_nil, List.getElem?_cons_zero, List.getElem?_cons_succ, List.set_cons_zero, List.set_cons_succ, startS, atI_pos, atI_cast, Int.toNat_natCast, wp_newL1, wp_newL2, wp_newT1, List.length_set, List.set_set, decide_eq_true_eq, decide_eq_false_iff_not, Bool.not_eq_true', true_and, and_true,  ixN_pos, Int.reduceLE, Int.reduceLT, Int.reduceToNat, Int.reduceAdd, Int.reduceSub, Int.reduceMul, Int.reduceMod, Int.reduceNeg, Int.reducePow, Nat.reduceAdd, Nat.reduceLT, Nat.reduceLeDiff, Nat.reduceSub, reduceIte, Int.reduceEq, List.isEmpty_nil, Bool.false_eq_true, Bool.true_eq_false, decide_true, decide_false, ge_iff_le, gt_iff_lt,  wp_eq_int, wp_eq_str, wp_eq_bool, List.length_map, List.replicate, List.cons_append, List.nil_append, Bool.not_false, Bool.not_true, Bool.and_true, Bool.true_and, Bool.and_self, Bool.and_false, Bool.false_and, Option.bind, bn_add, bn_sub, bn_mul, bn_div, bn_mod, bn_pow, bn_addS, bn_addT, bn_addL, cp_eq, cp_ne, cp_ltI, cp_leI, cp_gtI, cp_geI, cp_ltS, cp_leS, cp_gtS, cp_geS, cp_ltT, cp_gtT, cp_in, cp_nin, cp_is, cp_isn, ix_l, ix_t, ix_s, ixs_tp, ixs_pd, ixs_rf, ixs_fz, bi_lenL, bi_lenT, bi_lenS, bi_listL, bi_listT, bi_tupL, bi_tupT, bi_intI, bi_intB, bi_strI, bi_strS, bi_abs, bi_max, bi_min, bi_all, bi_any, bi_sum, in_l, in_t, in_s, tr_b, tr_i, tr_n, tr_l, tr_t, so_l, so_t, so_s, so_f, io_t, ng_i, pt_i, ag_a, ag_s, rv_l, rv_t, ap_d, rk_l, rk_t, rk_s, rg_1, rg_2, sl_l, sl_t, sl_s, mt_ixS, wp_mkT0, wp_mkT1, wp_mkT2, wp_mkT3, wp_mkT4, wp_mkT5, wp_mkT6, wp_mkT7, wp_mkT8]
      refine wp_if (fun c2 => ?_) (fun c2 => ?_)
      · simp only [wp_ret, wp_bnd, wp_some, wp_grd, wp_no, wp_dat_pd, wp_dat_fz,  ev, evs, evO, evI, evC, evTs, AI.ex, asgG, asgGs, getV, wp_exs, wp_exs_nil, goS_nx, goS_rt, goS_bk, goS_ct, turnE_nx, turnE_ct, turnE_bk, turnE_rt, endD_rt, endD_nx, back_pd, binS, isFz, cmpS, biS, dats, truth, isiS, allPd, isiD, rkOf, join_some, Option.map, List.map, List.length_cons, List.length_nil, List.getElem?_cons_zero, List.getElem?_cons_succ, List.set_cons_zero, List.set_cons_succ, startS, atI_pos, atI_cast, Int.toNat_natCast, wp_newL1, wp_newL2, wp_newT1, List.length_set, List.set_set, decide_eq_true_eq, decide_eq_false_iff_not, Bool.not_eq_true', true_and, and_true,  ixN_pos, Int.reduceLE, Int.reduceLT, Int.reduceToNat, Int.reduceAdd, Int.reduceSub, Int.reduceMul, Int.reduceMod, Int.reduceNeg, Int.reducePow, Nat.reduceAdd, Nat.reduceLT, Nat.reduceLeDiff, Nat.reduceSub, reduceIte, Int.reduceEq, List.isEmpty_nil, Bool.false_eq_true, Bool.true_eq_false, decide_true, decide_false, ge_iff_le, gt_iff_lt,  wp_eq_int, wp_eq_str, wp_eq_bool, List.length_map, List.replicate, List.cons_append, List.nil_append, Bool.not_false, Bool.not_true, Bool.and_true, Bool.true_and, Bool.and_self, Bool.and_false, Bool.false_and, Option.bind, bn_add, bn_sub, bn_mul, bn_div, bn_mod, bn_pow, bn_addS, bn_addT, bn_addL, cp_eq, cp_ne, cp_ltI, cp_leI, cp_gtI, cp_geI, cp_ltS, cp_leS, cp_gtS, cp_geS, cp_ltT, cp_gtT, cp_in, cp_nin, cp_is, cp_isn, ix_l, ix_t, ix_s, ixs_tp, ixs_pd, ixs_rf, ixs_fz, bi_lenL, bi_lenT, bi_lenS, bi_listL, bi_listT, bi_tupL, bi_tupT, bi_intI, bi_intB, bi_strI, bi_strS, bi_abs, bi_max, bi_min, bi_all, bi_any, bi_sum, in_l, in_t, in_s, tr_b, tr_i, tr_n, tr_l, tr_t, so_l, so_t, so_s, so_f, io_t, ng_i, pt_i, ag_a, ag_s, rv_l, rv_t, ap_d, rk_l, rk_t, rk_s, rg_1, rg_2, sl_l, sl_t, sl_s, mt_ixS, wp_mkT0, wp_mkT1, wp_mkT2, wp_mkT3, wp_mkT4, wp_mkT5, wp_mkT6, wp_mkT7, wp_mkT8]
        obtain ⟨z, ez⟩ : ∃ z : Int, atI [PyData.int 1000000, PyData.int (-1000000), PyData.int 1000000000000, PyData.int (-1000000000000), PyData.int 1000000000000000000000000000000] (v / 8 % 5) = some (.int z) := by
          have r5 := emod_rng (v / 8) (show (0 : Int) < 5 by decide)
          have : v / 8 % 5 = 0 ∨ v / 8 % 5 = 1 ∨ v / 8 % 5 = 2 ∨ v / 8 % 5 = 3 ∨ v / 8 % 5 = 4 := by omega
          rcases this with e | e | e | e | e <;> rw [e] <;> exact ⟨_, rfl⟩
        exact ⟨by decide, by decide, by decide, by decide, wp_at ez (ret _ _ (t1.up (by omega)) (.inl ⟨_, rfl⟩))⟩
      · simp only [wp_ret, wp_bnd, wp_some, wp_grd, wp_no, wp_dat_pd, wp_dat_fz,  ev, evs, evO, evI, evC, evTs, AI.ex, asgG, asgGs, getV, wp_exs, wp_exs_nil, goS_nx, goS_rt, goS_bk, goS_ct, turnE_nx, turnE_ct, turnE_bk, turnE_rt, endD_rt, endD_nx, back_pd, binS, isFz, cmpS, biS, dats, truth, isiS, allPd, isiD, rkOf, join_some, Option.map, List.map, List.length_cons, List.length_nil, List.getElem?_cons_zero, List.getElem?_cons_succ, List.set_cons_zero, List.set_cons_succ, startS, atI_pos, atI_cast, Int.toNat_natCast, wp_newL1, wp_newL2, wp_newT1, List.length_set, List.set_set, decide_eq_true_eq, decide_eq_false_iff_not, Bool.not_eq_true', true_and, and_true,  ixN_pos, Int.reduceLE, Int.reduceLT, Int.reduceToNat, Int.reduceAdd, Int.reduceSub, Int.reduceMul, Int.reduceMod, Int.reduceNeg, Int.reducePow, Nat.reduceAdd, Nat.reduceLT, Nat.reduceLeDiff, Nat.reduceSub, reduceIte, Int.reduceEq, List.isEmpty_nil, Bool.false_eq_true, Bool.true_eq_false, decide_true, decide_false, ge_iff_le, gt_iff_lt,  wp_eq_int, wp_eq_str, wp_eq_bool, List.length_map, List.replicate, List.cons_append, List.nil_append, Bool.not_false, Bool.not_true, Bool.and_true, Bool.true_and, Bool.and_self, Bool.and_false, Bool.false_and, Option.bind, bn_add, bn_sub, bn_mul, bn_div, bn_mod, bn_pow, bn_addS, bn_addT, bn_addL, cp_eq, cp_ne, cp_ltI, cp_leI, cp_gtI, cp_geI, cp_ltS, cp_leS, cp_gtS, cp_geS, cp_ltT, cp_gtT, cp_in, cp_nin, cp_is, cp_isn, ix_l, ix_t, ix_s, ixs_tp, ixs_pd, ixs_rf, ixs_fz, bi_lenL, bi_lenT, bi_lenS, bi_listL, bi_listT, bi_tupL, bi_tupT, bi_intI, bi_intB, bi_strI, bi_strS, bi_abs, bi_max, bi_min, bi_all, bi_any, bi_sum, in_l, in_t, in_s, tr_b, tr_i, tr_n, tr_l, tr_t, so_l, so_t, so_s, so_f, io_t, ng_i, pt_i, ag_a, ag_s, rv_l, rv_t, ap_d, rk_l, rk_t, rk_s, rg_1, rg_2, sl_l, sl_t, sl_s, mt_ixS, wp_mkT0, wp_mkT1, wp_mkT2, wp_mkT3, wp_mkT4, wp_mkT5, wp_mkT6, wp_mkT7, wp_mkT8]
        refine wp_if (fun c3 => ?_) (fun c3 => ?_)
        · simp only [wp_ret, wp_bnd, wp_some, wp_grd, wp_no, wp_dat_pd, wp_dat_fz,  ev, evs, evO, evI, evC, evTs, AI.ex, asgG, asgGs, getV, wp_exs, wp_exs_nil, goS_nx, goS_rt, goS_bk, goS_ct, turnE_nx, turnE_ct, turnE_bk, turnE_rt, endD_rt, endD_nx, back_pd, binS, isFz, cmpS, biS, dats, truth, isiS, allPd, isiD, rkOf, join_some, Option.map, List.map, List.length_cons, List.length_nil, List.getElem?_cons_zero, List.getElem?_cons_succ, List.set_cons_zero, List.set_cons_succ, startS, atI_pos, atI_cast, Int.toNat_natCast, wp_newL1, wp_newL2, wp_newT1, List.length_set, List.set_set, decide_eq_true_eq, decide_eq_false_iff_not, Bool.not_eq_true', true_and, and_true,  ixN_pos, Int.reduceLE, Int.reduceLT, Int.reduceToNat, Int.reduceAdd, Int.reduceSub, Int.reduceMul, Int.reduceMod, Int.reduceNeg, Int.reducePow, Nat.reduceAdd, Nat.reduceLT, Nat.reduceLeDiff, Nat.reduceSub, reduceIte, Int.reduceEq, List.isEmpty_nil, Bool.false_eq_true, Bool.true_eq_false, decide_true, decide_false, ge_iff_le, gt_iff_lt,  wp_eq_int, wp_eq_str, wp_eq_bool, List.length_map, List.replicate, List.cons_append, List.nil_append, Bool.not_false, Bool.not_true, Bool.and_true, Bool.true_and, Bool.and_self, Bool.and_false, Bool.false_and, Option.bind, bn_add, bn_sub, bn_mul, bn_div, bn_mod, bn_pow, bn_addS, bn_addT, bn_addL, cp_eq, cp_ne, cp_ltI, cp_leI, cp_gtI, cp_geI, cp_ltS, cp_leS, cp_gtS, cp_geS, cp_ltT, cp_gtT, cp_in, cp_nin, cp_is, cp_isn, ix_l, ix_t, ix_s, ixs_tp, ixs_pd, ixs_rf, ixs_fz, bi_lenL, bi_lenT, bi_lenS, bi_listL, bi_listT, bi_tupL, bi_tupT, bi_intI, bi_intB, bi_strI, bi_strS, bi_abs, bi_max, bi_min, bi_all, bi_any, bi_sum, in_l, in_t, in_s, tr_b, tr_i, tr_n, tr_l, tr_t, so_l, so_t, so_s, so_f, io_t, ng_i, pt_i, ag_a, ag_s, rv_l, rv_t, ap_d, rk_l, rk_t, rk_s, rg_1, rg_2, sl_l, sl_t, sl_s, mt_ixS, wp_mkT0, wp_mkT1, wp_mkT2, wp_mkT3, wp_mkT4, wp_mkT5, wp_mkT6, wp_mkT7, wp_mkT8]
          exact ⟨by decide, ret _ _ (t1.up (by omega)) (.inl ⟨_, rfl⟩)⟩
        · simp only [wp_ret, wp_bnd, wp_some, wp_grd, wp_no, wp_dat_pd, wp_dat_fz,  ev, evs, evO, evI, evC, evTs, AI.ex, asgG, asgGs, getV, wp_exs, wp_exs_nil, goS_nx, goS_rt, goS_bk, goS_ct, turnE_nx, turnE_ct, turnE_bk, turnE_rt, endD_rt, endD_nx, back_pd, binS, isFz, cmpS, biS, dats, truth, isiS, allPd, isiD, rkOf, join_some, Option.map, List.map, List.length_cons, List.length_nil, List.getElem?_cons_zero, List.getElem?_cons_succ, List.set_cons_zero, List.set_cons_succ, startS, atI_pos, atI_cast, Int.toNat_natCast, wp_newL1, wp_newL2, wp_newT1, List.length_set, List.set_set, decide_eq_true_eq, decide_eq_false_iff_not, Bool.not_eq_true', true_and, and_true,  ixN_pos, Int.reduceLE, Int.reduceLT, Int.reduceToNat, Int.reduceAdd, Int.reduceSub, Int.reduceMul, Int.reduceMod, Int.reduceNeg, Int.reducePow, Nat.reduceAdd, Nat.reduceLT, Nat.reduceLeDiff, Nat.reduceSub, reduceIte, Int.reduceEq, List.isEmpty_nil, Bool.false_eq_true, Bool.true_eq_false, decide_true, decide_false, ge_iff_le, gt_iff_lt,  wp_eq_int, wp_eq_str, wp_eq_bool, List.length_map, List.replicate, List.cons_append, List.nil_append, Bool.not_false, Bool.not_true, Bool.and_true, Bool.true_and, Bool.and_self, Bool.and_false, Bool.false_and, Option.bind, bn_add, bn_sub, bn_mul, bn_div, bn_mod, bn_pow, bn_addS, bn_addT, bn_addL, cp_eq, cp_ne, cp_ltI, cp_leI, cp_gtI, cp_geI, cp_ltS, cp_leS, cp_gtS, cp_geS, cp_ltT, cp_gtT, cp_in, cp_nin, cp_is, cp_isn, ix_l, ix_t, ix_s, ixs_tp, ixs_pd, ixs_rf, ixs_fz, bi_lenL, bi_lenT, bi_lenS, bi_listL, bi_listT, bi_tupL, bi_tupT, bi_intI, bi_intB, bi_strI, bi_strS, bi_abs, bi_max, bi_min, bi_all, bi_any, bi_sum, in_l, in_t, in_s, tr_b, tr_i, tr_n, tr_l, tr_t, so_l, so_t, so_s, so_f, io_t, ng_i, pt_i, ag_a, ag_s, rv_l, rv_t, ap_d, rk_l, rk_t, rk_s, rg_1, rg_2, sl_l, sl_t, sl_s, mt_ixS, wp_mkT0, wp_mkT1, wp_mkT2, wp_mkT3, wp_mkT4, wp_mkT5, wp_mkT6, wp_mkT7, wp_mkT8]
          exact ⟨by decide, by decide, ret _ _ (t1.up (by omega)) (.inl ⟨_, rfl⟩)⟩
theorem near_call {m : Nat} {d : D} (g : GV d) (t : TapeB B b) (hb : h[n]? = some b) (hB : B + 22 ≤ 10 ^ 100) (q : ∀ d b', TapeB (B + 22) b' → GV d → Q (.pd d) (h.set n b')) : wp ((TM (m + 4)).call bx "_law_near" [.rf n, .pd d]) Q h := by
  have l := box_lt hb
  refine wp_call (r_law_near _) (wp_def rfl ?_)
  have ret : ∀ d b', TapeB (B + 22) b' → GV d → back h.length bx Q (.pd d) (h.set n b') := fun d b' t' g => by rw [back_pd, List.take_of_length_le (by simp)]; exact q d b' t' g
  generalize hQ : back h.length bx Q = Q' at *
  clear hQ q
  rcases g with ⟨i, rfl⟩ | ⟨s, rfl, g⟩
  · simp only [wp_ret, wp_bnd, wp_some, wp_grd, wp_no, wp_dat_pd, wp_dat_fz,  ev, evs, evO, evI, evC, evTs, AI.ex, asgG, asgGs, getV, wp_exs, wp_exs_nil, goS_nx, goS_rt, goS_bk, goS_ct, turnE_nx, turnE_ct, turnE_bk, turnE_rt, endD_rt, endD_nx, back_pd, binS, isFz, cmpS, biS, dats, truth, isiS, allPd, isiD, rkOf, join_some, Option.map, List.map, List.length_cons, List.length_nil, List.getElem?_cons_zero, List.getElem?_cons_succ, List.set_cons_zero, List.set_cons_succ, startS, atI_pos, atI_cast, Int.toNat_natCast, wp_newL1, wp_newL2, wp_newT1, List.length_set, List.set_set, decide_eq_true_eq, decide_eq_false_iff_not, Bool.not_eq_true', true_and, and_true,  ixN_pos, Int.reduceLE, Int.reduceLT, Int.reduceToNat, Int.reduceAdd, Int.reduceSub, Int.reduceMul, Int.reduceMod, Int.reduceNeg, Int.reducePow, Nat.reduceAdd, Nat.reduceLT, Nat.reduceLeDiff, Nat.reduceSub, reduceIte, Int.reduceEq, List.isEmpty_nil, Bool.false_eq_true, Bool.true_eq_false, decide_true, decide_false, ge_iff_le, gt_iff_lt,  wp_eq_int, wp_eq_str, wp_eq_bool, List.length_map, List.replicate, List.cons_append, List.nil_append, Bool.not_false, Bool.not_true, Bool.and_true, Bool.true_and, Bool.and_self, Bool.and_false, Bool.false_and, Option.bind, bn_add, bn_sub, bn_mul, bn_div, bn_mod, bn_pow, bn_addS, bn_addT, bn_addL, cp_eq, cp_ne, cp_ltI, cp_leI, cp_gtI, cp_geI, cp_ltS, cp_leS, cp_gtS, cp_geS, cp_ltT, cp_gtT, cp_in, cp_nin, cp_is, cp_isn, ix_l, ix_t, ix_s, ixs_tp, ixs_pd, ixs_rf, ixs_fz, bi_lenL, bi_lenT, bi_lenS, bi_listL, bi_listT, bi_tupL, bi_tupT, bi_intI, bi_intB, bi_strI, bi_strS, bi_abs, bi_max, bi_min, bi_all, bi_any, bi_sum, in_l, in_t, in_s, tr_b, tr_i, tr_n, tr_l, tr_t, so_l, so_t, so_s, so_f, io_t, ng_i, pt_i, ag_a, ag_s, rv_l, rv_t, ap_d, rk_l, rk_t, rk_s, rg_1, rg_2, sl_l, sl_t, sl_s, mt_ixS, wp_mkT0, wp_mkT1, wp_mkT2, wp_mkT3, wp_mkT4, wp_mkT5, wp_mkT6, wp_mkT7, wp_mkT8, b_law_near]
    refine draw_call (r_law_draw _) t hb (by omega) (by decide) fun v b1 t1 hv => ?_
    try simp only [wp_ret, wp_bnd, wp_some, wp_grd, wp_no, wp_dat_pd, wp_dat_fz,  ev, evs, evO, evI, evC, evTs, AI.ex, asgG, asgGs, getV, wp_exs, wp_exs_nil, goS_nx, goS_rt, goS_bk, goS_ct, turnE_nx, turnE_ct, turnE_bk, turnE_rt, endD_rt, endD_nx, back_pd, binS, isFz, cmpS, biS, dats, truth, isiS, allPd, isiD, rkOf, join_some, Option.map, List.map, List.length_cons, List.length_nil, List.getElem?_cons_zero, List.getElem?_cons_succ, List.set_cons_zero, List.set_cons_succ, startS, atI_pos, atI_cast, Int.toNat_natCast, wp_newL1, wp_newL2, wp_newT1, List.length_set, List.set_set, decide_eq_true_eq, decide_eq_false_iff_not, Bool.not_eq_true', true_and, and_true,  ixN_pos, Int.reduceLE, Int.reduceLT, Int.reduceToNat, Int.reduceAdd, Int.reduceSub, Int.reduceMul, Int.reduceMod, Int.reduceNeg, Int.reducePow, Nat.reduceAdd, Nat.reduceLT, Nat.reduceLeDiff, Nat.reduceSub, reduceIte, Int.reduceEq, List.isEmpty_nil, Bool.false_eq_true, Bool.true_eq_false, decide_true, decide_false, ge_iff_le, gt_iff_lt,  wp_eq_int, wp_eq_str, wp_eq_bool, List.length_map, List.replicate, List.cons_append, List.nil_append, Bool.not_false, Bool.not_true, Bool.and_true, Bool.true_and, Bool.and_self, Bool.and_false, Bool.false_and, Option.bind, bn_add, bn_sub, bn_mul, bn_div, bn_mod, bn_pow, bn_addS, bn_addT, bn_addL, cp_eq, cp_ne, cp_ltI, cp_leI, cp_gtI, cp_geI, cp_ltS, cp_leS, cp_gtS, cp_geS, cp_ltT, cp_gtT, cp_in, cp_nin, cp_is, cp_isn, ix_l, ix_t, ix_s, ixs_tp, ixs_pd, ixs_rf, ixs_fz, bi_lenL, bi_lenT, bi_lenS, bi_listL, bi_listT, bi_tupL, bi_tupT, bi_intI, bi_intB, bi_strI, bi_strS, bi_abs, bi_max, bi_min, bi_all, bi_any, bi_sum, in_l, in_t, in_s, tr_b, tr_i, tr_n, tr_l, tr_t, so_l, so_t, so_s, so_f, io_t, ng_i, pt_i, ag_a, ag_s, rv_l, rv_t, ap_d, rk_l, rk_t, rk_s, rg_1, rg_2, sl_l, sl_t, sl_s, mt_ixS, wp_mkT0, wp_mkT1, wp_mkT2, wp_mkT3, wp_mkT4, wp_mkT5, wp_mkT6, wp_mkT7, wp_mkT8]
    have v1 : v < 2 := hv.2
    exact ⟨mul_ok (by decide) (by decide) hv.1 (Int.lt_trans v1 (by decide)), ret _ _ (t1.up (by omega)) (.inl ⟨_, rfl⟩)⟩
  · have z : s.length ≤ sizeLine := Nat.le_trans g.1 (by decide)
    have l60 := g.1
    simp only [wp_ret, wp_bnd, wp_some, wp_grd, wp_no, wp_dat_pd, wp_dat_fz,  ev, evs, evO, evI, evC, evTs, AI.ex, asgG, asgGs, getV, wp_exs, wp_exs_nil, goS_nx, goS_rt, goS_bk, goS_ct, turnE_nx, turnE_ct, turnE_bk, turnE_rt, endD_rt, endD_nx, back_pd, binS, isFz, cmpS, biS, dats, truth, isiS, allPd, isiD, rkOf, join_some, Option.map, List.map, List.length_cons, List.length_nil, List.getElem?_cons_zero, List.getElem?_cons_succ, List.set_cons_zero, List.set_cons_succ, startS, atI_pos, atI_cast, Int.toNat_natCast, wp_newL1, wp_newL2, wp_newT1, List.length_set, List.set_set, decide_eq_true_eq, decide_eq_false_iff_not, Bool.not_eq_true', true_and, and_true,  ixN_pos, Int.reduceLE, Int.reduceLT, Int.reduceToNat, Int.reduceAdd, Int.reduceSub, Int.reduceMul, Int.reduceMod, Int.reduceNeg, Int.reducePow, Nat.reduceAdd, Nat.reduceLT, Nat.reduceLeDiff, Nat.reduceSub, reduceIte, Int.reduceEq, List.isEmpty_nil, Bool.false_eq_true, Bool.true_eq_false, decide_true, decide_false, ge_iff_le, gt_iff_lt,  wp_eq_int, wp_eq_str, wp_eq_bool, List.length_map, List.replicate, List.cons_append, List.nil_append, Bool.not_false, Bool.not_true, Bool.and_true, Bool.true_and, Bool.and_self, Bool.and_false, Bool.false_and, Option.bind, bn_add, bn_sub, bn_mul, bn_div, bn_mod, bn_pow, bn_addS, bn_addT, bn_addL, cp_eq, cp_ne, cp_ltI, cp_leI, cp_gtI, cp_geI, cp_ltS, cp_leS, cp_gtS, cp_geS, cp_ltT, cp_gtT, cp_in, cp_nin, cp_is, cp_isn, ix_l, ix_t, ix_s, ixs_tp, ixs_pd, ixs_rf, ixs_fz, bi_lenL, bi_lenT, bi_lenS, bi_listL, bi_listT, bi_tupL, bi_tupT, bi_intI, bi_intB, bi_strI, bi_strS, bi_abs, bi_max, bi_min, bi_all, bi_any, bi_sum, in_l, in_t, in_s, tr_b, tr_i, tr_n, tr_l, tr_t, so_l, so_t, so_s, so_f, io_t, ng_i, pt_i, ag_a, ag_s, rv_l, rv_t, ap_d, rk_l, rk_t, rk_s, rg_1, rg_2, sl_l, sl_t, sl_s, mt_ixS, wp_mkT0, wp_mkT1, wp_mkT2, wp_mkT3, wp_mkT4, wp_mkT5, wp_mkT6, wp_mkT7, wp_mkT8, b_law_near]
    refine ⟨z, draw_call (r_law_draw _) t hb (by omega) (Int.lt_trans (by omega : (s.length : Int) + 1 < 2 ^ 62) (by decide)) fun v b1 t1 hv => ?_⟩
    try simp only [wp_ret, wp_bnd, wp_some, wp_grd, wp_no, wp_dat_pd, wp_dat_fz,  ev, evs, evO, evI, evC, evTs, AI.ex, asgG, asgGs, getV, wp_exs, wp_exs_nil, goS_nx, goS_rt, goS_bk, goS_ct, turnE_nx, turnE_ct, turnE_bk, turnE_rt, endD_rt, endD_nx, back_pd, binS, isFz, cmpS, biS, dats, truth, isiS, allPd, isiD, rkOf, join_some, Option.map, List.map, List.length_cons, List.length_nil, List.getElem?_cons_zero, List.getElem?_cons_succ, List.set_cons_zero, List.set_cons_succ, startS, atI_pos, atI_cast, Int.toNat_natCast, wp_newL1, wp_newL2, wp_newT1, List.length_set, List.set_set, decide_eq_true_eq, decide_eq_false_iff_not, Bool.not_eq_true', true_and, and_true,  ixN_pos, Int.reduceLE, Int.reduceLT, Int.reduceToNat, Int.reduceAdd, Int.reduceSub, Int.reduceMul, Int.reduceMod, Int.reduceNeg, Int.reducePow, Nat.reduceAdd, Nat.reduceLT, Nat.reduceLeDiff, Nat.reduceSub, reduceIte, Int.reduceEq, List.isEmpty_nil, Bool.false_eq_true, Bool.true_eq_false, decide_true, decide_false, ge_iff_le, gt_iff_lt,  wp_eq_int, wp_eq_str, wp_eq_bool, List.length_map, List.replicate, List.cons_append, List.nil_append, Bool.not_false, Bool.not_true, Bool.and_true, Bool.true_and, Bool.and_self, Bool.and_false, Bool.false_and, Option.bind, bn_add, bn_sub, bn_mul, bn_div, bn_mod, bn_pow, bn_addS, bn_addT, bn_addL, cp_eq, cp_ne, cp_ltI, cp_leI, cp_gtI, cp_geI, cp_ltS, cp_leS, cp_gtS, cp_geS, cp_ltT, cp_gtT, cp_in, cp_nin, cp_is, cp_isn, ix_l, ix_t, ix_s, ixs_tp, ixs_pd, ixs_rf, ixs_fz, bi_lenL, bi_lenT, bi_lenS, bi_listL, bi_listT, bi_tupL, bi_tupT, bi_intI, bi_intB, bi_strI, bi_strS, bi_abs, bi_max, bi_min, bi_all, bi_any, bi_sum, in_l, in_t, in_s, tr_b, tr_i, tr_n, tr_l, tr_t, so_l, so_t, so_s, so_f, io_t, ng_i, pt_i, ag_a, ag_s, rv_l, rv_t, ap_d, rk_l, rk_t, rk_s, rg_1, rg_2, sl_l, sl_t, sl_s, mt_ixS, wp_mkT0, wp_mkT1, wp_mkT2, wp_mkT3, wp_mkT4, wp_mkT5, wp_mkT6, wp_mkT7, wp_mkT8]
    refine draw_call (r_law_draw _) t1 (List.getElem?_set_self l) (by omega) (by decide) fun w b2 t2 hw => ?_
    simp only [wp_ret, wp_bnd, wp_some, wp_grd, wp_no, wp_dat_pd, wp_dat_fz,  ev, evs, evO, evI, evC, evTs, AI.ex, asgG, asgGs, getV, wp_exs, wp_exs_nil, goS_nx, goS_rt, goS_bk, goS_ct, turnE_nx, turnE_ct, turnE_bk, turnE_rt, endD_rt, endD_nx, back_pd, binS, isFz, cmpS, biS, dats, truth, isiS, allPd, isiD, rkOf, join_some, Option.map, List.map, List.length_cons, List.length_nil, List.getElem?_cons_zero, List.getElem?_cons_succ, List.set_cons_zero, List.set_cons_succ, startS, atI_pos, atI_cast, Int.toNat_natCast, wp_newL1, wp_newL2, wp_newT1, List.length_set, List.set_set, decide_eq_true_eq, decide_eq_false_iff_not, Bool.not_eq_true', true_and, and_true,  ixN_pos, Int.reduceLE, Int.reduceLT, Int.reduceToNat, Int.reduceAdd, Int.reduceSub, Int.reduceMul, Int.reduceMod, Int.reduceNeg, Int.reducePow, Nat.reduceAdd, Nat.reduceLT, Nat.reduceLeDiff, Nat.reduceSub, reduceIte, Int.reduceEq, List.isEmpty_nil, Bool.false_eq_true, Bool.true_eq_false, decide_true, decide_false, ge_iff_le, gt_iff_lt,  wp_eq_int, wp_eq_str, wp_eq_bool, List.length_map, List.replicate, List.cons_append, List.nil_append, Bool.not_false, Bool.not_true, Bool.and_true, Bool.true_and, Bool.and_self, Bool.and_false, Bool.false_and, Option.bind, bn_add, bn_sub, bn_mul, bn_div, bn_mod, bn_pow, bn_addS, bn_addT, bn_addL, cp_eq, cp_ne, cp_ltI, cp_leI, cp_gtI, cp_geI, cp_ltS, cp_leS, cp_gtS, cp_geS, cp_ltT, cp_gtT, cp_in, cp_nin, cp_is, cp_isn, ix_l, ix_t, ix_s, ixs_tp, ixs_pd, ixs_rf, ixs_fz, bi_lenL, bi_lenT, bi_lenS, bi_listL, bi_listT, bi_tupL, bi_tupT, bi_intI, bi_intB, bi_strI, bi_strS, bi_abs, bi_max, bi_min, bi_all, bi_any, bi_sum, in_l, in_t, in_s, tr_b, tr_i, tr_n, tr_l, tr_t, so_l, so_t, so_s, so_f, io_t, ng_i, pt_i, ag_a, ag_s, rv_l, rv_t, ap_d, rk_l, rk_t, rk_s, rg_1, rg_2, sl_l, sl_t, sl_s, mt_ixS, wp_mkT0, wp_mkT1, wp_mkT2, wp_mkT3, wp_mkT4, wp_mkT5, wp_mkT6, wp_mkT7, wp_mkT8]
    refine wp_if (fun c0 => ?_) (fun c0 => ?_)
    · simp only [wp_ret, wp_bnd, wp_some, wp_grd, wp_no, wp_dat_pd, wp_dat_fz,  ev, evs, evO, evI, evC, evTs, AI.ex, asgG, asgGs, getV, wp_exs, wp_exs_nil, goS_nx, goS_rt, goS_bk, goS_ct, turnE_nx, turnE_ct, turnE_bk, turnE_rt, endD_rt, endD_nx, back_pd, binS, isFz, cmpS, biS, dats, truth, isiS, allPd, isiD, rkOf, join_some, Option.map, List.map, List.length_cons, List.length_nil, List.getElem?_cons_zero, List.getElem?_cons_succ, List.set_cons_zero, List.set_cons_succ, startS, atI_pos, atI_cast, Int.toNat_natCast, wp_newL1, wp_newL2, wp_newT1, List.length_set, List.set_set, decide_eq_true_eq, decide_eq_false_iff_not, Bool.not_eq_true', true_and, and_true,  ixN_pos, Int.reduceLE, Int.reduceLT, Int.reduceToNat, Int.reduceAdd, Int.reduceSub, Int.reduceMul, Int.reduceMod, Int.reduceNeg, Int.reducePow, Nat.reduceAdd, Nat.reduceLT, Nat.reduceLeDiff, Nat.reduceSub, reduceIte, Int.reduceEq, List.isEmpty_nil, Bool.false_eq_true, Bool.true_eq_false, decide_true, decide_false, ge_iff_le, gt_iff_lt,  wp_eq_int, wp_eq_str, wp_eq_bool, List.length_map, List.replicate, List.cons_append, List.nil_append, Bool.not_false, Bool.not_true, Bool.and_true, Bool.true_and, Bool.and_self, Bool.and_false, Bool.false_and, Option.bind, bn_add, bn_sub, bn_mul, bn_div, bn_mod, bn_pow, bn_addS, bn_addT, bn_addL, cp_eq, cp_ne, cp_ltI, cp_leI, cp_gtI, cp_geI, cp_ltS, cp_leS, cp_gtS, cp_geS, cp_ltT, cp_gtT, cp_in, cp_nin, cp_is, cp_isn, ix_l, ix_t, ix_s, ixs_tp, ixs_pd, ixs_rf, ixs_fz, bi_lenL, bi_lenT, bi_lenS, bi_listL, bi_listT, bi_tupL, bi_tupT, bi_intI, bi_intB, bi_strI, bi_strS, bi_abs, bi_max, bi_min, bi_all, bi_any, bi_sum, in_l, in_t, in_s, tr_b, tr_i, tr_n, tr_l, tr_t, so_l, so_t, so_s, so_f, io_t, ng_i, pt_i, ag_a, ag_s, rv_l, rv_t, ap_d, rk_l, rk_t, rk_s, rg_1, rg_2, sl_l, sl_t, sl_s, mt_ixS, wp_mkT0, wp_mkT1, wp_mkT2, wp_mkT3, wp_mkT4, wp_mkT5, wp_mkT6, wp_mkT7, wp_mkT8]
      exact ⟨z, ret _ _ (t2.up (by omega)) (.inr ⟨_, rfl, g.cut _ _⟩)⟩
    · simp only [wp_ret, wp_bnd, wp_some, wp_grd, wp_no, wp_dat_pd, wp_dat_fz,  ev, evs, evO, evI, evC, evTs, AI.ex, asgG, asgGs, getV, wp_exs, wp_exs_nil, goS_nx, goS_rt, goS_bk, goS_ct, turnE_nx, turnE_ct, turnE_bk, turnE_rt, endD_rt, endD_nx, back_pd, binS, isFz, cmpS, biS, dats, truth, isiS, allPd, isiD, rkOf, join_some, Option.map, List.map, List.length_cons, List.length_nil, List.getElem?_cons_zero, List.getElem?_cons_succ, List.set_cons_zero, List.set_cons_succ, startS, atI_pos, atI_cast, Int.toNat_natCast, wp_newL1, wp_newL2, wp_newT1, List.length_set, List.set_set, decide_eq_true_eq, decide_eq_false_iff_not, Bool.not_eq_true', true_and, and_true,  ixN_pos, Int.reduceLE, Int.reduceLT, Int.reduceToNat, Int.reduceAdd, Int.reduceSub, Int.reduceMul, Int.reduceMod, Int.reduceNeg, Int.reducePow, Nat.reduceAdd, Nat.reduceLT, Nat.reduceLeDiff, Nat.reduceSub, reduceIte, Int.reduceEq, List.isEmpty_nil, Bool.false_eq_true, Bool.true_eq_false, decide_true, decide_false, ge_iff_le, gt_iff_lt,  wp_eq_int, wp_eq_str, wp_eq_bool, List.length_map, List.replicate, List.cons_append, List.nil_append, Bool.not_false, Bool.not_true, Bool.and_true, Bool.true_and, Bool.and_self, Bool.and_false, Bool.false_and, Option.bind, bn_add, bn_sub, bn_mul, bn_div, bn_mod, bn_pow, bn_addS, bn_addT, bn_addL, cp_eq, cp_ne, cp_ltI, cp_leI, cp_gtI, cp_geI, cp_ltS, cp_leS, cp_gtS, cp_geS, cp_ltT, cp_gtT, cp_in, cp_nin, cp_is, cp_isn, ix_l, ix_t, ix_s, ixs_tp, ixs_pd, ixs_rf, ixs_fz, bi_lenL, bi_lenT, bi_lenS, bi_listL, bi_listT, bi_tupL, bi_tupT, bi_intI, bi_intB, bi_strI, bi_strS, bi_abs, bi_max, bi_min, bi_all, bi_any, bi_sum, in_l, in_t, in_s, tr_b, tr_i, tr_n, tr_l, tr_t, so_l, so_t, so_s, so_f, io_t, ng_i, pt_i, ag_a, ag_s, rv_l, rv_t, ap_d, rk_l, rk_t, rk_s, rg_1, rg_2, sl_l, sl_t, sl_s, mt_ixS, wp_mkT0, wp_mkT1, wp_mkT2, wp_mkT3, wp_mkT4, wp_mkT5, wp_mkT6, wp_mkT7, wp_mkT8]
      refine signs_call (r_law_signs _) ?_
      refine draw_call (r_law_draw _) t2 (List.getElem?_set_self l) (by omega) (by decide) fun u b3 t3 hu => ?_
      have u1 : u < 94 := hu.2
      obtain ⟨c, ec, hc⟩ := str_at (z := SG) hu.1 (by rw [SG_len]; exact u1)
      simp only [wp_ret, wp_bnd, wp_some, wp_grd, wp_no, wp_dat_pd, wp_dat_fz,  ev, evs, evO, evI, evC, evTs, AI.ex, asgG, asgGs, getV, wp_exs, wp_exs_nil, goS_nx, goS_rt, goS_bk, goS_ct, turnE_nx, turnE_ct, turnE_bk, turnE_rt, endD_rt, endD_nx, back_pd, binS, isFz, cmpS, biS, dats, truth, isiS, allPd, isiD, rkOf, join_some, Option.map, List.map, List.length_cons, List.length_nil, List.getElem?_cons_zero, List.getElem?_cons_succ, List.set_cons_zero, List.set_cons_succ, startS, atI_pos, atI_cast, Int.toNat_natCast, wp_newL1, wp_newL2, wp_newT1, List.length_set, List.set_set, decide_eq_true_eq, decide_eq_false_iff_not, Bool.not_eq_true', true_and, and_true,  ixN_pos, Int.reduceLE, Int.reduceLT, Int.reduceToNat, Int.reduceAdd, Int.reduceSub, Int.reduceMul, Int.reduceMod, Int.reduceNeg, Int.reducePow, Nat.reduceAdd, Nat.reduceLT, Nat.reduceLeDiff, Nat.reduceSub, reduceIte, Int.reduceEq, List.isEmpty_nil, Bool.false_eq_true, Bool.true_eq_false, decide_true, decide_false, ge_iff_le, gt_iff_lt,  wp_eq_int, wp_eq_str, wp_eq_bool, List.length_map, List.replicate, List.cons_append, List.nil_append, Bool.not_false, Bool.not_true, Bool.and_true, Bool.true_and, Bool.and_self, Bool.and_false, Bool.false_and, Option.bind, bn_add, bn_sub, bn_mul, bn_div, bn_mod, bn_pow, bn_addS, bn_addT, bn_addL, cp_eq, cp_ne, cp_ltI, cp_leI, cp_gtI, cp_geI, cp_ltS, cp_leS, cp_gtS, cp_geS, cp_ltT, cp_gtT, cp_in, cp_nin, cp_is, cp_isn, ix_l, ix_t, ix_s, ixs_tp, ixs_pd, ixs_rf, ixs_fz, bi_lenL, bi_lenT, bi_lenS, bi_listL, bi_listT, bi_tupL, bi_tupT, bi_intI, bi_intB, bi_strI, bi_strS, bi_abs, bi_max, bi_min, bi_all, bi_any, bi_sum, in_l, in_t, in_s, tr_b, tr_i, tr_n, tr_l, tr_t, so_l, so_t, so_s, so_f, io_t, ng_i, pt_i, ag_a, ag_s, rv_l, rv_t, ap_d, rk_l, rk_t, rk_s, rg_1, rg_2, sl_l, sl_t, sl_s, mt_ixS, wp_mkT0, wp_mkT1, wp_mkT2, wp_mkT3, wp_mkT4, wp_mkT5, wp_mkT6, wp_mkT7, wp_mkT8]
      refine ⟨by decide +kernel, wp_at ec ?_⟩
      have g1 := g.cut none (some v)
      have g2 := g1.add (TxtOk.one hc)
      have g3 := g2.add (g.cut (some (v + 1)) none)
      try simp only [wp_ret, wp_bnd, wp_some, wp_grd, wp_no, wp_dat_pd, wp_dat_fz,  ev, evs, evO, evI, evC, evTs, AI.ex, asgG, asgGs, getV, wp_exs, wp_exs_nil, goS_nx, goS_rt, goS_bk, goS_ct, turnE_nx, turnE_ct, turnE_bk, turnE_rt, endD_rt, endD_nx, back_pd, binS, isFz, cmpS, biS, dats, truth, isiS, allPd, isiD, rkOf, join_some, Option.map, List.map, List.length_cons, List.length_nil, List.getElem?_cons_zero, List.getElem?_cons_succ, List.set_cons_zero, List.set_cons_succ, startS, atI_pos, atI_cast, Int.toNat_natCast, wp_newL1, wp_newL2, wp_newT1, List.length_set, List.set_set, decide_eq_true_eq, decide_eq_false_iff_not, Bool.not_eq_true', true_and, and_true,  ixN_pos, Int.reduceLE, Int.reduceLT, Int.reduceToNat, Int.reduceAdd, Int.reduceSub, Int.reduceMul, Int.reduceMod, Int.reduceNeg, Int.reducePow, Nat.reduceAdd, Nat.reduceLT, Nat.reduceLeDiff, Nat.reduceSub, reduceIte, Int.reduceEq, List.isEmpty_nil, Bool.false_eq_true, Bool.true_eq_false, decide_true, decide_false, ge_iff_le, gt_iff_lt,  wp_eq_int, wp_eq_str, wp_eq_bool, List.length_map, List.replicate, List.cons_append, List.nil_append, Bool.not_false, Bool.not_true, Bool.and_true, Bool.true_and, Bool.and_self, Bool.and_false, Bool.false_and, Option.bind, bn_add, bn_sub, bn_mul, bn_div, bn_mod, bn_pow, bn_addS, bn_addT, bn_addL, cp_eq, cp_ne, cp_ltI, cp_leI, cp_gtI, cp_geI, cp_ltS, cp_leS, cp_gtS, cp_geS, cp_ltT, cp_gtT, cp_in, cp_nin, cp_is, cp_isn, ix_l, ix_t, ix_s, ixs_tp, ixs_pd, ixs_rf, ixs_fz, bi_lenL, bi_lenT, bi_lenS, bi_listL, bi_listT, bi_tupL, bi_tupT, bi_intI, bi_intB, bi_strI, bi_strS, bi_abs, bi_max, bi_min, bi_all, bi_any, bi_sum, in_l, in_t, in_s, tr_b, tr_i, tr_n, tr_l, tr_t, so_l, so_t, so_s, so_f, io_t, ng_i, pt_i, ag_a, ag_s, rv_l, rv_t, ap_d, rk_l, rk_t, rk_s, rg_1, rg_2, sl_l, sl_t, sl_s, mt_ixS, wp_mkT0, wp_mkT1, wp_mkT2, wp_mkT3, wp_mkT4, wp_mkT5, wp_mkT6, wp_mkT7, wp_mkT8]
      have k : (60 + 1 + 60 : Nat) ≤ sizeLine := by decide
      have e1 := g1.1
      have e2 := g2.1
      have e3 := g3.1
      have e4 := (g.cut (some (v + 1)) none).1
      refine ⟨z, ?_, z, ?_, ?_, ?_⟩
      · exact Nat.le_trans (Nat.add_le_add e1 (Nat.le_refl 1)) (Nat.le_trans (by decide : 60 + 1 ≤ 121) k)
      · exact Nat.le_trans (Nat.add_le_add e2 e4) k
      · exact Nat.le_trans e3 k
      · refine ret _ _ (t3.up (by omega)) (.inr ⟨_, rfl, ?_, (g3.cut none (some 20)).2⟩)
        have e5 := cut_to ((cutS s none (some v) ++ ⟨#[c]⟩) ++ cutS s (some (v + 1)) none) (n := 20) (by decide)
        rw [← str_size, e5, List.length_take]
        have : Int.toNat 20 = 20 := rfl
        omega
/-! ### what is due -/
/-- which comes first -/
def before (l r : D) : Bool := match l, r with
  | .int i, .int j => decide (i < j)
  | .int _, _ => true
  | .str x, .str y => ltS x y
  | _, _ => false
theorem before_call {m : Nat} {x y : D} (gx : GV x) (gy : GV y) (q : Q (.pd (.bool (before x y))) h) : wp ((TM (m + 2)).call bx "_law_comes_before" [.pd x, .pd y]) Q h := by
  refine wp_call (r_law_comes_before _) (wp_def rfl ?_)
  have ret : back h.length bx Q (.pd (.bool (before x y))) h := by rw [back_pd, List.take_length]; exact q
  generalize hQ : back h.length bx Q = Q' at *
  clear hQ q
  rcases gx with ⟨i, rfl⟩ | ⟨s, rfl, g⟩
  · rcases gy with ⟨j, rfl⟩ | ⟨u, rfl, g'⟩
    · simp only [wp_ret, wp_bnd, wp_some, wp_grd, wp_no, wp_dat_pd, wp_dat_fz,  ev, evs, evO, evI, evC, evTs, AI.ex, asgG, asgGs, getV, wp_exs, wp_exs_nil, goS_nx, goS_rt, goS_bk, goS_ct, turnE_nx, turnE_ct, turnE_bk, turnE_rt, endD_rt, endD_nx, back_pd, binS, isFz, cmpS, biS, dats, truth, isiS, allPd, isiD, rkOf, join_some, Option.map, List.map, List.length_cons, List.length_nil, List.getElem?_cons_zero, List.getElem?_cons_succ, List.set_cons_zero, List.set_cons_succ, startS, atI_pos, atI_cast, Int.toNat_natCast, wp_newL1, wp_newL2, wp_newT1, List.length_set, List.set_set, decide_eq_true_eq, decide_eq_false_iff_not, Bool.not_eq_true', true_and, and_true,  ixN_pos, Int.reduceLE, Int.reduceLT, Int.reduceToNat, Int.reduceAdd, Int.reduceSub, Int.reduceMul, Int.reduceMod, Int.reduceNeg, Int.reducePow, Nat.reduceAdd, Nat.reduceLT, Nat.reduceLeDiff, Nat.reduceSub, reduceIte, Int.reduceEq, List.isEmpty_nil, Bool.false_eq_true, Bool.true_eq_false, decide_true, decide_false, ge_iff_le, gt_iff_lt,  wp_eq_int, wp_eq_str, wp_eq_bool, List.length_map, List.replicate, List.cons_append, List.nil_append, Bool.not_false, Bool.not_true, Bool.and_true, Bool.true_and, Bool.and_self, Bool.and_false, Bool.false_and, Option.bind, bn_add, bn_sub, bn_mul, bn_div, bn_mod, bn_pow, bn_addS, bn_addT, bn_addL, cp_eq, cp_ne, cp_ltI, cp_leI, cp_gtI, cp_geI, cp_ltS, cp_leS, cp_gtS, cp_geS, cp_ltT, cp_gtT, cp_in, cp_nin, cp_is, cp_isn, ix_l, ix_t, ix_s, ixs_tp, ixs_pd, ixs_rf, ixs_fz, bi_lenL, bi_lenT, bi_lenS, bi_listL, bi_listT, bi_tupL, bi_tupT, bi_intI, bi_intB, bi_strI, bi_strS, bi_abs, bi_max, bi_min, bi_all, bi_any, bi_sum, in_l, in_t, in_s, tr_b, tr_i, tr_n, tr_l, tr_t, so_l, so_t, so_s, so_f, io_t, ng_i, pt_i, ag_a, ag_s, rv_l, rv_t, ap_d, rk_l, rk_t, rk_s, rg_1, rg_2, sl_l, sl_t, sl_s, mt_ixS, wp_mkT0, wp_mkT1, wp_mkT2, wp_mkT3, wp_mkT4, wp_mkT5, wp_mkT6, wp_mkT7, wp_mkT8, b_law_comes_before]
      exact ret
    · simp only [wp_ret, wp_bnd, wp_some, wp_grd, wp_no, wp_dat_pd, wp_dat_fz,  ev, evs, evO, evI, evC, evTs, AI.ex, asgG, asgGs, getV, wp_exs, wp_exs_nil, goS_nx, goS_rt, goS_bk, goS_ct, turnE_nx, turnE_ct, turnE_bk, turnE_rt, endD_rt, endD_nx, back_pd, binS, isFz, cmpS, biS, dats, truth, isiS, allPd, isiD, rkOf, join_some, Option.map, List.map, List.length_cons, List.length_nil, List.getElem?_cons_zero, List.getElem?_cons_succ, List.set_cons_zero, List.set_cons_succ, startS, atI_pos, atI_cast, Int.toNat_natCast, wp_newL1, wp_newL2, wp_newT1, List.length_set, List.set_set, decide_eq_true_eq, decide_eq_false_iff_not, Bool.not_eq_true', true_and, and_true,  ixN_pos, Int.reduceLE, Int.reduceLT, Int.reduceToNat, Int.reduceAdd, Int.reduceSub, Int.reduceMul, Int.reduceMod, Int.reduceNeg, Int.reducePow, Nat.reduceAdd, Nat.reduceLT, Nat.reduceLeDiff, Nat.reduceSub, reduceIte, Int.reduceEq, List.isEmpty_nil, Bool.false_eq_true, Bool.true_eq_false, decide_true, decide_false, ge_iff_le, gt_iff_lt,  wp_eq_int, wp_eq_str, wp_eq_bool, List.length_map, List.replicate, List.cons_append, List.nil_append, Bool.not_false, Bool.not_true, Bool.and_true, Bool.true_and, Bool.and_self, Bool.and_false, Bool.false_and, Option.bind, bn_add, bn_sub, bn_mul, bn_div, bn_mod, bn_pow, bn_addS, bn_addT, bn_addL, cp_eq, cp_ne, cp_ltI, cp_leI, cp_gtI, cp_geI, cp_ltS, cp_leS, cp_gtS, cp_geS, cp_ltT, cp_gtT, cp_in, cp_nin, cp_is, cp_isn, ix_l, ix_t, ix_s, ixs_tp, ixs_pd, ixs_rf, ixs_fz, bi_lenL, bi_lenT, bi_lenS, bi_listL, bi_listT, bi_tupL, bi_tupT, bi_intI, bi_intB, bi_strI, bi_strS, bi_abs, bi_max, bi_min, bi_all, bi_any, bi_sum, in_l, in_t, in_s, tr_b, tr_i, tr_n, tr_l, tr_t, so_l, so_t, so_s, so_f, io_t, ng_i, pt_i, ag_a, ag_s, rv_l, rv_t, ap_d, rk_l, rk_t, rk_s, rg_1, rg_2, sl_l, sl_t, sl_s, mt_ixS, wp_mkT0, wp_mkT1, wp_mkT2, wp_mkT3, wp_mkT4, wp_mkT5, wp_mkT6, wp_mkT7, wp_mkT8, b_law_comes_before]
      exact ret
  · rcases gy with ⟨j, rfl⟩ | ⟨u, rfl, g'⟩
    · simp only [wp_ret, wp_bnd, wp_some, wp_grd, wp_no, wp_dat_pd, wp_dat_fz,  ev, evs, evO, evI, evC, evTs, AI.ex, asgG, asgGs, getV, wp_exs, wp_exs_nil, goS_nx, goS_rt, goS_bk, goS_ct, turnE_nx, turnE_ct, turnE_bk, turnE_rt, endD_rt, endD_nx, back_pd, binS, isFz, cmpS, biS, dats, truth, isiS, allPd, isiD, rkOf, join_some, Option.map, List.map, List.length_cons, List.length_nil, List.getElem?_cons_zero, List.getElem?_cons_succ, List.set_cons_zero, List.set_cons_succ, startS, atI_pos, atI_cast, Int.toNat_natCast, wp_newL1, wp_newL2, wp_newT1, List.length_set, List.set_set, decide_eq_true_eq, decide_eq_false_iff_not, Bool.not_eq_true', true_and, and_true,  ixN_pos, Int.reduceLE, Int.reduceLT, Int.reduceToNat, Int.reduceAdd, Int.reduceSub, Int.reduceMul, Int.reduceMod, Int.reduceNeg, Int.reducePow, Nat.reduceAdd, Nat.reduceLT, Nat.reduceLeDiff, Nat.reduceSub, reduceIte, Int.reduceEq, List.isEmpty_nil, Bool.false_eq_true, Bool.true_eq_false, decide_true, decide_false, ge_iff_le, gt_iff_lt,  wp_eq_int, wp_eq_str, wp_eq_bool, List.length_map, List.replicate, List.cons_append, List.nil_append, Bool.not_false, Bool.not_true, Bool.and_true, Bool.true_and, Bool.and_self, Bool.and_false, Bool.false_and, Option.bind, bn_add, bn_sub, bn_mul, bn_div, bn_mod, bn_pow, bn_addS, bn_addT, bn_addL, cp_eq, cp_ne, cp_ltI, cp_leI, cp_gtI, cp_geI, cp_ltS, cp_leS, cp_gtS, cp_geS, cp_ltT, cp_gtT, cp_in, cp_nin, cp_is, cp_isn, ix_l, ix_t, ix_s, ixs_tp, ixs_pd, ixs_rf, ixs_fz, bi_lenL, bi_lenT, bi_lenS, bi_listL, bi_listT, bi_tupL, bi_tupT, bi_intI, bi_intB, bi_strI, bi_strS, bi_abs, bi_max, bi_min, bi_all, bi_any, bi_sum, in_l, in_t, in_s, tr_b, tr_i, tr_n, tr_l, tr_t, so_l, so_t, so_s, so_f, io_t, ng_i, pt_i, ag_a, ag_s, rv_l, rv_t, ap_d, rk_l, rk_t, rk_s, rg_1, rg_2, sl_l, sl_t, sl_s, mt_ixS, wp_mkT0, wp_mkT1, wp_mkT2, wp_mkT3, wp_mkT4, wp_mkT5, wp_mkT6, wp_mkT7, wp_mkT8, b_law_comes_before]
      exact ret
    · have z1 : s.length ≤ sizeLine := Nat.le_trans g.1 (by decide)
      have z2 : u.length ≤ sizeLine := Nat.le_trans g'.1 (by decide)
      have l1 := g.1
      have l2 := g'.1
      simp only [wp_ret, wp_bnd, wp_some, wp_grd, wp_no, wp_dat_pd, wp_dat_fz,  ev, evs, evO, evI, evC, evTs, AI.ex, asgG, asgGs, getV, wp_exs, wp_exs_nil, goS_nx, goS_rt, goS_bk, goS_ct, turnE_nx, turnE_ct, turnE_bk, turnE_rt, endD_rt, endD_nx, back_pd, binS, isFz, cmpS, biS, dats, truth, isiS, allPd, isiD, rkOf, join_some, Option.map, List.map, List.length_cons, List.length_nil, List.getElem?_cons_zero, List.getElem?_cons_succ, List.set_cons_zero, List.set_cons_succ, startS, atI_pos, atI_cast, Int.toNat_natCast, wp_newL1, wp_newL2, wp_newT1, List.length_set, List.set_set, decide_eq_true_eq, decide_eq_false_iff_not, Bool.not_eq_true', true_and, and_true,  ixN_pos, Int.reduceLE, Int.reduceLT, Int.reduceToNat, Int.reduceAdd, Int.reduceSub, Int.reduceMul, Int.reduceMod, Int.reduceNeg, Int.reducePow, Nat.reduceAdd, Nat.reduceLT, Nat.reduceLeDiff, Nat.reduceSub, reduceIte, Int.reduceEq, List.isEmpty_nil, Bool.false_eq_true, Bool.true_eq_false, decide_true, decide_false, ge_iff_le, gt_iff_lt,  wp_eq_int, wp_eq_str, wp_eq_bool, List.length_map, List.replicate, List.cons_append, List.nil_append, Bool.not_false, Bool.not_true, Bool.and_true, Bool.true_and, Bool.and_self, Bool.and_false, Bool.false_and, Option.bind, bn_add, bn_sub, bn_mul, bn_div, bn_mod, bn_pow, bn_addS, bn_addT, bn_addL, cp_eq, cp_ne, cp_ltI, cp_leI, cp_gtI, cp_geI, cp_ltS, cp_leS, cp_gtS, cp_geS, cp_ltT, cp_gtT, cp_in, cp_nin, cp_is, cp_isn, ix_l, ix_t, ix_s, ixs_tp, ixs_pd, ixs_rf, ixs_fz, bi_lenL, bi_lenT, bi_lenS, bi_listL, bi_listT, bi_tupL, bi_tupT, bi_intI, bi_intB, bi_strI, bi_strS, bi_abs, bi_max, bi_min, bi_all, bi_any, bi_sum, in_l, in_t, in_s, tr_b, tr_i, tr_n, tr_l, tr_t, so_l, so_t, so_s, so_f, io_t, ng_i, pt_i, ag_a, ag_s, rv_l, rv_t, ap_d, rk_l, rk_t, rk_s, rg_1, rg_2, sl_l, sl_t, sl_s, mt_ixS, wp_mkT0, wp_mkT1, wp_mkT2, wp_mkT3, wp_mkT4, wp_mkT5, wp_mkT6, wp_mkT7, wp_mkT8, b_law_comes_before]
      refine signs_call (r_law_signs _) ⟨z1, z2, ⟨by split <;> omega, by split <;> omega⟩, ?_⟩
      have em : (if (u.length : Int) < s.length then (u.length : Int) else s.length).toNat = min s.length u.length := by split <;> omega
      rw [em]
      refine wp_rng (fun i σ h' => h' = h ∧ (∃ y, σ = [some (.pd (.str s)), some (.pd (.str u)), some (.pd (.str SG)), y]) ∧ ∀ j (j1 : j < s.cps.toList.length) (j2 : j < u.cps.toList.length), j < i → s.cps.toList[j] = u.cps.toList[j]) ⟨rfl, ⟨_, rfl⟩, fun j _ _ k => absurd k (Nat.not_lt_zero j)⟩ ?_ ?_
      · rintro k hk σ h' ⟨rfl, ⟨y, rfl⟩, al⟩
        have k1 : k < s.cps.toList.length := by rw [str_size]; omega
        have k2 : k < u.cps.toList.length := by rw [str_size]; omega
        have a1 : atI s.cps.toList (0 + (k : Int)) = some s.cps.toList[k] := by rw [Int.zero_add, atI_cast, List.getElem?_eq_getElem k1]
        have a2 : atI u.cps.toList (0 + (k : Int)) = some u.cps.toList[k] := by rw [Int.zero_add, atI_cast, List.getElem?_eq_getElem k2]
        simp only [wp_ret, wp_bnd, wp_some, wp_grd, wp_no, wp_dat_pd, wp_dat_fz,  ev, evs, evO, evI, evC, evTs, AI.ex, asgG, asgGs, getV, wp_exs, wp_exs_nil, goS_nx, goS_rt, goS_bk, goS_ct, turnE_nx, turnE_ct, turnE_bk, turnE_rt, endD_rt, endD_nx, back_pd, binS, isFz, cmpS, biS, dats, truth, isiS, allPd, isiD, rkOf, join_some, Option.map, List.map, List.length_cons, List.length_nil, List.getElem?_cons_zero, List.getElem?_cons_succ, List.set_cons_zero, List.set_cons_succ, startS, atI_pos, atI_cast, Int.toNat_natCast, wp_newL1, wp_newL2, wp_newT1, List.length_set, List.set_set, decide_eq_true_eq, decide_eq_false_iff_not, Bool.not_eq_true', true_and, and_true,  ixN_pos, Int.reduceLE, Int.reduceLT, Int.reduceToNat, Int.reduceAdd, Int.reduceSub, Int.reduceMul, Int.reduceMod, Int.reduceNeg, Int.reducePow, Nat.reduceAdd, Nat.reduceLT, Nat.reduceLeDiff, Nat.reduceSub, reduceIte, Int.reduceEq, List.isEmpty_nil, Bool.false_eq_true, Bool.true_eq_false, decide_true, decide_false, ge_iff_le, gt_iff_lt,  wp_eq_int, wp_eq_str, wp_eq_bool, List.length_map, List.replicate, List.cons_append, List.nil_append, Bool.not_false, Bool.not_true, Bool.and_true, Bool.true_and, Bool.and_self, Bool.and_false, Bool.false_and, Option.bind, bn_add, bn_sub, bn_mul, bn_div, bn_mod, bn_pow, bn_addS, bn_addT, bn_addL, cp_eq, cp_ne, cp_ltI, cp_leI, cp_gtI, cp_geI, cp_ltS, cp_leS, cp_gtS, cp_geS, cp_ltT, cp_gtT, cp_in, cp_nin, cp_is, cp_isn, ix_l, ix_t, ix_s, ixs_tp, ixs_pd, ixs_rf, ixs_fz, bi_lenL, bi_lenT, bi_lenS, bi_listL, bi_listT, bi_tupL, bi_tupT, bi_intI, bi_intB, bi_strI, bi_strS, bi_abs, bi_max, bi_min, bi_all, bi_any, bi_sum, in_l, in_t, in_s, tr_b, tr_i, tr_n, tr_l, tr_t, so_l, so_t, so_s, so_f, io_t, ng_i, pt_i, ag_a, ag_s, rv_l, rv_t, ap_d, rk_l, rk_t, rk_s, rg_1, rg_2, sl_l, sl_t, sl_s, mt_ixS, wp_mkT0, wp_mkT1, wp_mkT2, wp_mkT3, wp_mkT4, wp_mkT5, wp_mkT6, wp_mkT7, wp_mkT8, a1, a2]
        refine ⟨z1, z2, ?_⟩
        refine wp_if (fun c0 => ?_) (fun c0 => ?_)
        · obtain ⟨p, p1, p2, p3⟩ := SG_index (g.2 _ (List.getElem_mem k1))
          obtain ⟨r, r1, r2, r3⟩ := SG_index (g'.2 _ (List.getElem_mem k2))
          simp only [wp_ret, wp_bnd, wp_some, wp_grd, wp_no, wp_dat_pd, wp_dat_fz,  ev, evs, evO, evI, evC, evTs, AI.ex, asgG, asgGs, getV, wp_exs, wp_exs_nil, goS_nx, goS_rt, goS_bk, goS_ct, turnE_nx, turnE_ct, turnE_bk, turnE_rt, endD_rt, endD_nx, back_pd, binS, isFz, cmpS, biS, dats, truth, isiS, allPd, isiD, rkOf, join_some, Option.map, List.map, List.length_cons, List.length_nil, List.getElem?_cons_zero, List.getElem?_cons_succ, List.set_cons_zero, List.set_cons_succ, startS, atI_pos, atI_cast, Int.toNat_natCast, wp_newL1, wp_newL2, wp_newT1, List.length_set, List.set_set, decide_eq_true_eq, decide_eq_false_iff_not, Bool.not_eq_true', true_and, and_true,  ixN_pos, Int.reduceLE, Int.reduceLT, Int.reduceToNat, Int.reduceAdd, Int.reduceSub, Int.reduceMul, Int.reduceMod, Int.reduceNeg, Int.reducePow, Nat.reduceAdd, Nat.reduceLT, Nat.reduceLeDiff, Nat.reduceSub, reduceIte, Int.reduceEq, List.isEmpty_nil, Bool.false_eq_true, Bool.true_eq_false, decide_true, decide_false, ge_iff_le, gt_iff_lt,  wp_eq_int, wp_eq_str, wp_eq_bool, List.length_map, List.replicate, List.cons_append, List.nil_append, Bool.not_false, Bool.not_true, Bool.and_true, Bool.true_and, Bool.and_self, Bool.and_false, Bool.false_and, Option.bind, bn_add, bn_sub, bn_mul, bn_div, bn_mod, bn_pow, bn_addS, bn_addT, bn_addL, cp_eq, cp_ne, cp_ltI, cp_leI, cp_gtI, cp_geI, cp_ltS, cp_leS, cp_gtS, cp_geS, cp_ltT, cp_gtT, cp_in, cp_nin, cp_is, cp_isn, ix_l, ix_t, ix_s, ixs_tp, ixs_pd, ixs_rf, ixs_fz, bi_lenL, bi_lenT, bi_lenS, bi_listL, bi_listT, bi_tupL, bi_tupT, bi_intI, bi_intB, bi_strI, bi_strS, bi_abs, bi_max, bi_min, bi_all, bi_any, bi_sum, in_l, in_t, in_s, tr_b, tr_i, tr_n, tr_l, tr_t, so_l, so_t, so_s, so_f, io_t, ng_i, pt_i, ag_a, ag_s, rv_l, rv_t, ap_d, rk_l, rk_t, rk_s, rg_1, rg_2, sl_l, sl_t, sl_s, mt_ixS, wp_mkT0, wp_mkT1, wp_mkT2, wp_mkT3, wp_mkT4, wp_mkT5, wp_mkT6, wp_mkT7, wp_mkT8, a1, a2, p2, r2]
          refine ⟨z1, z2, ?_⟩
          have ne : s.cps.toList[k] ≠ u.cps.toList[k] := fun e => c0 (by rw [e])
          have lx := lex_at k1 k2 al ne
          have up := SG_up p p1 r r1
          rw [p3, r3] at up
          have e : before (.str s) (.str u) = decide ((p : Int) < (r : Int)) := by
            show decide (s.cps.toList < u.cps.toList) = _
            rw [show decide ((p : Int) < (r : Int)) = decide (p < r) by simp, up]
            simp only [lx]
          rw [← e]; exact ret
        · simp only [wp_ret, wp_bnd, wp_some, wp_grd, wp_no, wp_dat_pd, wp_dat_fz,  ev, evs, evO, evI, evC, evTs, AI.ex, asgG, asgGs, getV, wp_exs, wp_exs_nil, goS_nx, goS_rt, goS_bk, goS_ct, turnE_nx, turnE_ct, turnE_bk, turnE_rt, endD_rt, endD_nx, back_pd, binS, isFz, cmpS, biS, dats, truth, isiS, allPd, isiD, rkOf, join_some, Option.map, List.map, List.length_cons, List.length_nil, List.getElem?_cons_zero, List.getElem?_cons_succ, List.set_cons_zero, List.set_cons_succ, startS, atI_pos, atI_cast, Int.toNat_natCast, wp_newL1, wp_newL2, wp_newT1, List.length_set, List.set_set, decide_eq_true_eq, decide_eq_false_iff_not, Bool.not_eq_true', true_and, and_true,  ixN_pos, Int.reduceLE, Int.reduceLT, Int.reduceToNat, Int.reduceAdd, Int.reduceSub, Int.reduceMul, Int.reduceMod, Int.reduceNeg, Int.reducePow, Nat.reduceAdd, Nat.reduceLT, Nat.reduceLeDiff, Nat.reduceSub, reduceIte, Int.reduceEq, List.isEmpty_nil, Bool.false_eq_true, Bool.true_eq_false, decide_true, decide_false, ge_iff_le, gt_iff_lt,  wp_eq_int, wp_eq_str, wp_eq_bool, List.length_map, List.replicate, List.cons_append, List.nil_append, Bool.not_false, Bool.not_true, Bool.and_true, Bool.true_and, Bool.and_self, Bool.and_false, Bool.false_and, Option.bind, bn_add, bn_sub, bn_mul, bn_div, bn_mod, bn_pow, bn_addS, bn_addT, bn_addL, cp_eq, cp_ne, cp_ltI, cp_leI, cp_gtI, cp_geI, cp_ltS, cp_leS, cp_gtS, cp_geS, cp_ltT, cp_gtT, cp_in, cp_nin, cp_is, cp_isn, ix_l, ix_t, ix_s, ixs_tp, ixs_pd, ixs_rf, ixs_fz, bi_lenL, bi_lenT, bi_lenS, bi_listL, bi_listT, bi_tupL, bi_tupT, bi_intI, bi_intB, bi_strI, bi_strS, bi_abs, bi_max, bi_min, bi_all, bi_any, bi_sum, in_l, in_t, in_s, tr_b, tr_i, tr_n, tr_l, tr_t, so_l, so_t, so_s, so_f, io_t, ng_i, pt_i, ag_a, ag_s, rv_l, rv_t, ap_d, rk_l, rk_t, rk_s, rg_1, rg_2, sl_l, sl_t, sl_s, mt_ixS, wp_mkT0, wp_mkT1, wp_mkT2, wp_mkT3, wp_mkT4, wp_mkT5, wp_mkT6, wp_mkT7, wp_mkT8]
          refine ⟨⟨_, rfl⟩, fun j j1 j2 hj => ?_⟩
          by_cases c1 : j = k
          · subst c1
            have : (⟨#[s.cps.toList[j]]⟩ : Str) = ⟨#[u.cps.toList[j]]⟩ := by simpa using c0
            simpa using this
          · exact al j j1 j2 (by omega)
      · rintro σ h' ⟨rfl, ⟨y, rfl⟩, al⟩
        simp only [wp_ret, wp_bnd, wp_some, wp_grd, wp_no, wp_dat_pd, wp_dat_fz,  ev, evs, evO, evI, evC, evTs, AI.ex, asgG, asgGs, getV, wp_exs, wp_exs_nil, goS_nx, goS_rt, goS_bk, goS_ct, turnE_nx, turnE_ct, turnE_bk, turnE_rt, endD_rt, endD_nx, back_pd, binS, isFz, cmpS, biS, dats, truth, isiS, allPd, isiD, rkOf, join_some, Option.map, List.map, List.length_cons, List.length_nil, List.getElem?_cons_zero, List.getElem?_cons_succ, List.set_cons_zero, List.set_cons_succ, startS, atI_pos, atI_cast, Int.toNat_natCast, wp_newL1, wp_newL2, wp_newT1, List.length_set, List.set_set, decide_eq_true_eq, decide_eq_false_iff_not, Bool.not_eq_true', true_and, and_true,  ixN_pos, Int.reduceLE, Int.reduceLT, Int.reduceToNat, Int.reduceAdd, Int.reduceSub, Int.reduceMul, Int.reduceMod, Int.reduceNeg, Int.reducePow, Nat.reduceAdd, Nat.reduceLT, Nat.reduceLeDiff, Nat.reduceSub, reduceIte, Int.reduceEq, List.isEmpty_nil, Bool.false_eq_true, Bool.true_eq_false, decide_true, decide_false, ge_iff_le, gt_iff_lt,  wp_eq_int, wp_eq_str, wp_eq_bool, List.length_map, List.replicate, List.cons_append, List.nil_append, Bool.not_false, Bool.not_true, Bool.and_true, Bool.true_and, Bool.and_self, Bool.and_false, Bool.false_and, Option.bind, bn_add, bn_sub, bn_mul, bn_div, bn_mod, bn_pow, bn_addS, bn_addT, bn_addL, cp_eq, cp_ne, cp_ltI, cp_leI, cp_gtI, cp_geI, cp_ltS, cp_leS, cp_gtS, cp_geS, cp_ltT, cp_gtT, cp_in, cp_nin, cp_is, cp_isn, ix_l, ix_t, ix_s, ixs_tp, ixs_pd, ixs_rf, ixs_fz, bi_lenL, bi_lenT, bi_lenS, bi_listL, bi_listT, bi_tupL, bi_tupT, bi_intI, bi_intB, bi_strI, bi_strS, bi_abs, bi_max, bi_min, bi_all, bi_any, bi_sum, in_l, in_t, in_s, tr_b, tr_i, tr_n, tr_l, tr_t, so_l, so_t, so_s, so_f, io_t, ng_i, pt_i, ag_a, ag_s, rv_l, rv_t, ap_d, rk_l, rk_t, rk_s, rg_1, rg_2, sl_l, sl_t, sl_s, mt_ixS, wp_mkT0, wp_mkT1, wp_mkT2, wp_mkT3, wp_mkT4, wp_mkT5, wp_mkT6, wp_mkT7, wp_mkT8]
        refine ⟨z1, z2, ?_⟩
        have lx := lex_end (a := s.cps.toList) (b := u.cps.toList) fun j j1 j2 => al j j1 j2 (by rw [str_size] at j1 j2; omega)
        have e : before (.str s) (.str u) = decide ((s.length : Int) < (u.length : Int)) := by
          show decide (s.cps.toList < u.cps.toList) = _
          rw [show decide ((s.length : Int) < (u.length : Int)) = decide (s.length < u.length) by simp]
          simp only [lx, str_size]
        rw [← e]; exact ret
/-- what the program says -/
def sayC (l r : D) : Int := if before l r = true then -1 else if before r l = true then 1 else 0
theorem key_call {m : Nat} {x : D} (gx : GV x) (q : Q (.pd (.tuple [.int (if isiD x .str = true then 1 else 0), x])) h) : wp ((TM (m + 1)).call bx "value_key" [.pd x]) Q h := by
  refine wp_call (r_value_key _) (wp_def rfl ?_)
  have ret : back h.length bx Q (.pd (.tuple [.int (if isiD x .str = true then 1 else 0), x])) h := by rw [back_pd, List.take_length]; exact q
  generalize hQ : back h.length bx Q = Q' at *
  clear hQ q
  rcases gx with ⟨i, rfl⟩ | ⟨s, rfl, g⟩
  · simp only [wp_ret, wp_bnd, wp_some, wp_grd, wp_no, wp_dat_pd, wp_dat_fz,  ev, evs, evO, evI, evC, evTs, AI.ex, asgG, asgGs, getV, wp_exs, wp_exs_nil, goS_nx, goS_rt, goS_bk, goS_ct, turnE_nx, turnE_ct, turnE_bk, turnE_rt, endD_rt, endD_nx, back_pd, binS, isFz, cmpS, biS, dats, truth, isiS, allPd, isiD, rkOf, join_some, Option.map, List.map, List.length_cons, List.length_nil, List.getElem?_cons_zero, List.getElem?_cons_succ, List.set_cons_zero, List.set_cons_succ, startS, atI_pos, atI_cast, Int.toNat_natCast, wp_newL1, wp_newL2, wp_newT1, List.length_set, List.set_set, decide_eq_true_eq, decide_eq_false_iff_not, Bool.not_eq_true', true_and, and_true,  ixN_pos, Int.reduceLE, Int.reduceLT, Int.reduceToNat, Int.reduceAdd, Int.reduceSub, Int.reduceMul, Int.reduceMod, Int.reduceNeg, Int.reducePow, Nat.reduceAdd, Nat.reduceLT, Nat.reduceLeDiff, Nat.reduceSub, reduceIte, Int.reduceEq, List.isEmpty_nil, Bool.false_eq_true, Bool.true_eq_false, decide_true, decide_false, ge_iff_le, gt_iff_lt,  wp_eq_int, wp_eq_str, wp_eq_bool, List.length_map, List.replicate, List.cons_append, List.nil_append, Bool.not_false, Bool.not_true, Bool.and_true, Bool.true_and, Bool.and_self, Bool.and_false, Bool.false_and, Option.bind, bn_add, bn_sub, bn_mul, bn_div, bn_mod, bn_pow, bn_addS, bn_addT, bn_addL, cp_eq, cp_ne, cp_ltI, cp_leI, cp_gtI, cp_geI, cp_ltS, cp_leS, cp_gtS, cp_geS, cp_ltT, cp_gtT, cp_in, cp_nin, cp_is, cp_isn, ix_l, ix_t, ix_s, ixs_tp, ixs_pd, ixs_rf, ixs_fz, bi_lenL, bi_lenT, bi_lenS, bi_listL, bi_listT, bi_tupL, bi_tupT, bi_intI, bi_intB, bi_strI, bi_strS, bi_abs, bi_max, bi_min, bi_all, bi_any, bi_sum, in_l, in_t, in_s, tr_b, tr_i, tr_n, tr_l, tr_t, so_l, so_t, so_s, so_f, io_t, ng_i, pt_i, ag_a, ag_s, rv_l, rv_t, ap_d, rk_l, rk_t, rk_s, rg_1, rg_2, sl_l, sl_t, sl_s, mt_ixS, wp_mkT0, wp_mkT1, wp_mkT2, wp_mkT3, wp_mkT4, wp_mkT5, wp_mkT6, wp_mkT7, wp_mkT8, b_value_key]
    exact ret
  · simp only [wp_ret, wp_bnd, wp_some, wp_grd, wp_no, wp_dat_pd, wp_dat_fz,  ev, evs, evO, evI, evC, evTs, AI.ex, asgG, asgGs, getV, wp_exs, wp_exs_nil, goS_nx, goS_rt, goS_bk, goS_ct, turnE_nx, turnE_ct, turnE_bk, turnE_rt, endD_rt, endD_nx, back_pd, binS, isFz, cmpS, biS, dats, truth, isiS, allPd, isiD, rkOf, join_some, Option.map, List.map, List.length_cons, List.length_nil, List.getElem?_cons_zero, List.getElem?_cons_succ, List.set_cons_zero, List.set_cons_succ, startS, atI_pos, atI_cast, Int.toNat_natCast, wp_newL1, wp_newL2, wp_newT1, List.length_set, List.set_set, decide_eq_true_eq, decide_eq_false_iff_not, Bool.not_eq_true', true_and, and_true,  ixN_pos, Int.reduceLE, Int.reduceLT, Int.reduceToNat, Int.reduceAdd, Int.reduceSub, Int.reduceMul, Int.reduceMod, Int.reduceNeg, Int.reducePow, Nat.reduceAdd, Nat.reduceLT, Nat.reduceLeDiff, Nat.reduceSub, reduceIte, Int.reduceEq, List.isEmpty_nil, Bool.false_eq_true, Bool.true_eq_false, decide_true, decide_false, ge_iff_le, gt_iff_lt,  wp_eq_int, wp_eq_str, wp_eq_bool, List.length_map, List.replicate, List.cons_append, List.nil_append, Bool.not_false, Bool.not_true, Bool.and_true, Bool.true_and, Bool.and_self, Bool.and_false, Bool.false_and, Option.bind, bn_add, bn_sub, bn_mul, bn_div, bn_mod, bn_pow, bn_addS, bn_addT, bn_addL, cp_eq, cp_ne, cp_ltI, cp_leI, cp_gtI, cp_geI, cp_ltS, cp_leS, cp_gtS, cp_geS, cp_ltT, cp_gtT, cp_in, cp_nin, cp_is, cp_isn, ix_l, ix_t, ix_s, ixs_tp, ixs_pd, ixs_rf, ixs_fz, bi_lenL, bi_lenT, bi_lenS, bi_listL, bi_listT, bi_tupL, bi_tupT, bi_intI, bi_intB, bi_strI, bi_strS, bi_abs, bi_max, bi_min, bi_all, bi_any, bi_sum, in_l, in_t, in_s, tr_b, tr_i, tr_n, tr_l, tr_t, so_l, so_t, so_s, so_f, io_t, ng_i, pt_i, ag_a, ag_s, rv_l, rv_t, ap_d, rk_l, rk_t, rk_s, rg_1, rg_2, sl_l, sl_t, sl_s, mt_ixS, wp_mkT0, wp_mkT1, wp_mkT2, wp_mkT3, wp_mkT4, wp_mkT5, wp_mkT6, wp_mkT7, wp_mkT8, b_value_key]
    exact ret
theorem cmp_call {m : Nat} {x y : D} (gx : GV x) (gy : GV y) (q : Q (.pd (.int (sayC x y))) h) : wp ((TM (m + 2)).call bx "compare_values" [.pd x, .pd y]) Q h := by
  refine wp_call (r_compare_values _) (wp_def rfl ?_)
  have ret : back h.length bx Q (.pd (.int (sayC x y))) h := by rw [back_pd, List.take_length]; exact q
  generalize hQ : back h.length bx Q = Q' at *
  clear hQ q
  simp only [wp_ret, wp_bnd, wp_some, wp_grd, wp_no, wp_dat_pd, wp_dat_fz,  ev, evs, evO, evI, evC, evTs, AI.ex, asgG, asgGs, getV, wp_exs, wp_exs_nil, goS_nx, goS_rt, goS_bk, goS_ct, turnE_nx, turnE_ct, turnE_bk, turnE_rt, endD_rt, endD_nx, back_pd, binS, isFz, cmpS, biS, dats, truth, isiS, allPd, isiD, rkOf, join_some, Option.map, List.map, List.length_cons, List.length_nil, List.getElem?_cons_zero, List.getElem?_cons_succ, List.set_cons_zero, List.set_cons_succ, startS, atI_pos, atI_cast, Int.toNat_natCast, wp_newL1, wp_newL2, wp_newT1, List.length_set, List.set_set, decide_eq_true_eq, decide_eq_false_iff_not, Bool.not_eq_true', true_and, and_true,  ixN_pos, Int.reduceLE, Int.reduceLT, Int.reduceToNat, Int.reduceAdd, Int.reduceSub, Int.reduceMul, Int.reduceMod, Int.reduceNeg, Int.reducePow, Nat.reduceAdd, Nat.reduceLT, Nat.reduceLeDiff, Nat.reduceSub, reduceIte, Int.reduceEq, List.isEmpty_nil, Bool.false_eq_true, Bool.true_eq_false, decide_true, decide_false, ge_iff_le, gt_iff_lt,  wp_eq_int, wp_eq_str, wp_eq_bool, List.length_map, List.replicate, List.cons_append, List.nil_append, Bool.not_false, Bool.not_true, Bool.and_true, Bool.true_and, Bool.and_self, Bool.and_false, Bool.false_and, Option.bind, bn_add, bn_sub, bn_mul, bn_div, bn_mod, bn_pow, bn_addS, bn_addT, bn_addL, cp_eq, cp_ne, cp_ltI, cp_leI, cp_gtI, cp_geI, cp_ltS, cp_leS, cp_gtS, cp_geS, cp_ltT, cp_gtT, cp_in, cp_nin, cp_is, cp_isn, ix_l, ix_t, ix_s, ixs_tp, ixs_pd, ixs_rf, ixs_fz, bi_lenL, bi_lenT, bi_lenS, bi_listL, bi_listT, bi_tupL, bi_tupT, bi_intI, bi_intB, bi_strI, bi_strS, bi_abs, bi_max, bi_min, bi_all, bi_any, bi_sum, in_l, in_t, in_s, tr_b, tr_i, tr_n, tr_l, tr_t, so_l, so_t, so_s, so_f, io_t, ng_i, pt_i, ag_a, ag_s, rv_l, rv_t, ap_d, rk_l, rk_t, rk_s, rg_1, rg_2, sl_l, sl_t, sl_s, mt_ixS, wp_mkT0, wp_mkT1, wp_mkT2, wp_mkT3, wp_mkT4, wp_mkT5, wp_mkT6, wp_mkT7, wp_mkT8, b_compare_values]
  refine key_call gx ?_
  refine key_call gy ?_
  rcases gx with ⟨i, rfl⟩ | ⟨s, rfl, g⟩
  · rcases gy with ⟨j, rfl⟩ | ⟨u, rfl, g'⟩
    · simp only [wp_ret, wp_bnd, wp_some, wp_grd, wp_no, wp_dat_pd, wp_dat_fz,  ev, evs, evO, evI, evC, evTs, AI.ex, asgG, asgGs, getV, wp_exs, wp_exs_nil, goS_nx, goS_rt, goS_bk, goS_ct, turnE_nx, turnE_ct, turnE_bk, turnE_rt, endD_rt, endD_nx, back_pd, binS, isFz, cmpS, biS, dats, truth, isiS, allPd, isiD, rkOf, join_some, Option.map, List.map, List.length_cons, List.length_nil, List.getElem?_cons_zero, List.getElem?_cons_succ, List.set_cons_zero, List.set_cons_succ, startS, atI_pos, atI_cast, Int.toNat_natCast, wp_newL1, wp_newL2, wp_newT1, List.length_set, List.set_set, decide_eq_true_eq, decide_eq_false_iff_not, Bool.not_eq_true', true_and, and_true,  ixN_pos, Int.reduceLE, Int.reduceLT, Int.reduceToNat, Int.reduceAdd, Int.reduceSub, Int.reduceMul, Int.reduceMod, Int.reduceNeg, Int.reducePow, Nat.reduceAdd, Nat.reduceLT, Nat.reduceLeDiff, Nat.reduceSub, reduceIte, Int.reduceEq, List.isEmpty_nil, Bool.false_eq_true, Bool.true_eq_false, decide_true, decide_false, ge_iff_le, gt_iff_lt,  wp_eq_int, wp_eq_str, wp_eq_bool, List.length_map, List.replicate, List.cons_append, List.nil_append, Bool.not_false, Bool.not_true, Bool.and_true, Bool.true_and, Bool.and_self, Bool.and_false, Bool.false_and, Option.bind, bn_add, bn_sub, bn_mul, bn_div, bn_mod, bn_pow, bn_addS, bn_addT, bn_addL, cp_eq, cp_ne, cp_ltI, cp_leI, cp_gtI, cp_geI, cp_ltS, cp_leS, cp_gtS, cp_geS, cp_ltT, cp_gtT, cp_in, cp_nin, cp_is, cp_isn, ix_l, ix_t, ix_s, ixs_tp, ixs_pd, ixs_rf, ixs_fz, bi_lenL, bi_lenT, bi_lenS, bi_listL, bi_listT, bi_tupL, bi_tupT, bi_intI, bi_intB, bi_strI, bi_strS, bi_abs, bi_max, bi_min, bi_all, bi_any, bi_sum, in_l, in_t, in_s, tr_b, tr_i, tr_n, tr_l, tr_t, so_l, so_t, so_s, so_f, io_t, ng_i, pt_i, ag_a, ag_s, rv_l, rv_t, ap_d, rk_l, rk_t, rk_s, rg_1, rg_2, sl_l, sl_t, sl_s, mt_ixS, wp_mkT0, wp_mkT1, wp_mkT2, wp_mkT3, wp_mkT4, wp_mkT5, wp_mkT6, wp_mkT7, wp_mkT8, ltD, ltDs, gtD, gtDs, eqv_int]
      have d : min (PyData.tuple [PyData.int 0, PyData.int i]).depth (PyData.tuple [PyData.int 0, PyData.int j]).depth ≤ 64 := by show min 1 1 ≤ 64; decide
      have e : sayC (.int i) (.int j) = if i < j then -1 else if j < i then 1 else 0 := by simp [sayC, before]
      rw [e] at ret
      refine ⟨d, ?_⟩
      rcases Int.lt_trichotomy i j with c | c | c
      · rw [if_neg (by omega), decide_eq_true c]
        rw [if_pos c] at ret
        simp only [wp_ret, wp_bnd, wp_some, wp_grd, wp_no, wp_dat_pd, wp_dat_fz,  ev, evs, evO, evI, evC, evTs, AI.ex, asgG, asgGs, getV, wp_exs, wp_exs_nil, goS_nx, goS_rt, goS_bk, goS_ct, turnE_nx, turnE_ct, turnE_bk, turnE_rt, endD_rt, endD_nx, back_pd, binS, isFz, cmpS, biS, dats, truth, isiS, allPd, isiD, rkOf, join_some, Option.map, List.map, List.length_cons, List.length_nil, List.getElem?_cons_zero, List.getElem?_cons_succ, List.set_cons_zero, List.set_cons_succ, startS, atI_pos, atI_cast, Int.toNat_natCast, wp_newL1, wp_newL2, wp_newT1, List.length_set, List.set_set, decide_eq_true_eq, decide_eq_false_iff_not, Bool.not_eq_true', true_and, and_true,  ixN_pos, Int.reduceLE, Int.reduceLT, Int.reduceToNat, Int.reduceAdd, Int.reduceSub, Int.reduceMul, Int.reduceMod, Int.reduceNeg, Int.reducePow, Nat.reduceAdd, Nat.reduceLT, Nat.reduceLeDiff, Nat.reduceSub, reduceIte, Int.reduceEq, List.isEmpty_nil, Bool.false_eq_true, Bool.true_eq_false, decide_true, decide_false, ge_iff_le, gt_iff_lt,  wp_eq_int, wp_eq_str, wp_eq_bool, List.length_map, List.replicate, List.cons_append, List.nil_append, Bool.not_false, Bool.not_true, Bool.and_true, Bool.true_and, Bool.and_self, Bool.and_false, Bool.false_and, Option.bind, bn_add, bn_sub, bn_mul, bn_div, bn_mod, bn_pow, bn_addS, bn_addT, bn_addL, cp_eq, cp_ne, cp_ltI, cp_leI, cp_gtI, cp_geI, cp_ltS, cp_leS, cp_gtS, cp_geS, cp_ltT, cp_gtT, cp_in, cp_nin, cp_is, cp_isn, ix_l, ix_t, ix_s, ixs_tp, ixs_pd, ixs_rf, ixs_fz, bi_lenL, bi_lenT, bi_lenS, bi_listL, bi_listT, bi_tupL, bi_tupT, bi_intI, bi_intB, bi_strI, bi_strS, bi_abs, bi_max, bi_min, bi_all, bi_any, bi_sum, in_l, in_t, in_s, tr_b, tr_i, tr_n, tr_l, tr_t, so_l, so_t, so_s, so_f, io_t, ng_i, pt_i, ag_a, ag_s, rv_l, rv_t, ap_d, rk_l, rk_t, rk_s, rg_1, rg_2, sl_l, sl_t, sl_s, mt_ixS, wp_mkT0, wp_mkT1, wp_mkT2, wp_mkT3, wp_mkT4, wp_mkT5, wp_mkT6, wp_mkT7, wp_mkT8]
        exact ret
      · rw [if_pos c]
        rw [if_neg (by omega), if_neg (by omega)] at ret
        simp only [wp_ret, wp_bnd, wp_some, wp_grd, wp_no, wp_dat_pd, wp_dat_fz,  ev, evs, evO, evI, evC, evTs, AI.ex, asgG, asgGs, getV, wp_exs, wp_exs_nil, goS_nx, goS_rt, goS_bk, goS_ct, turnE_nx, turnE_ct, turnE_bk, turnE_rt, endD_rt, endD_nx, back_pd, binS, isFz, cmpS, biS, dats, truth, isiS, allPd, isiD, rkOf, join_some, Option.map, List.map, List.length_cons, List.length_nil, List.getElem?_cons_zero, List.getElem?_cons_succ, List.set_cons_zero, List.set_cons_succ, startS, atI_pos, atI_cast, Int.toNat_natCast, wp_newL1, wp_newL2, wp_newT1, List.length_set, List.set_set, decide_eq_true_eq, decide_eq_false_iff_not, Bool.not_eq_true', true_and, and_true,  ixN_pos, Int.reduceLE, Int.reduceLT, Int.reduceToNat, Int.reduceAdd, Int.reduceSub, Int.reduceMul, Int.reduceMod, Int.reduceNeg, Int.reducePow, Nat.reduceAdd, Nat.reduceLT, Nat.reduceLeDiff, Nat.reduceSub, reduceIte, Int.reduceEq, List.isEmpty_nil, Bool.false_eq_true, Bool.true_eq_false, decide_true, decide_false, ge_iff_le, gt_iff_lt,  wp_eq_int, wp_eq_str, wp_eq_bool, List.length_map, List.replicate, List.cons_append, List.nil_append, Bool.not_false, Bool.not_true, Bool.and_true, Bool.true_and, Bool.and_self, Bool.and_false, Bool.false_and, Option.bind, bn_add, bn_sub, bn_mul, bn_div, bn_mod, bn_pow, bn_addS, bn_addT, bn_addL, cp_eq, cp_ne, cp_ltI, cp_leI, cp_gtI, cp_geI, cp_ltS, cp_leS, cp_gtS, cp_geS, cp_ltT, cp_gtT, cp_in, cp_nin, cp_is, cp_isn, ix_l, ix_t, ix_s, ixs_tp, ixs_pd, ixs_rf, ixs_fz, bi_lenL, bi_lenT, bi_lenS, bi_listL, bi_listT, bi_tupL, bi_tupT, bi_intI, bi_intB, bi_strI, bi_strS, bi_abs, bi_max, bi_min, bi_all, bi_any, bi_sum, in_l, in_t, in_s, tr_b, tr_i, tr_n, tr_l, tr_t, so_l, so_t, so_s, so_f, io_t, ng_i, pt_i, ag_a, ag_s, rv_l, rv_t, ap_d, rk_l, rk_t, rk_s, rg_1, rg_2, sl_l, sl_t, sl_s, mt_ixS, wp_mkT0, wp_mkT1, wp_mkT2, wp_mkT3, wp_mkT4, wp_mkT5, wp_mkT6, wp_mkT7, wp_mkT8, ltD, ltDs, gtD, gtDs, eqv_int, if_pos c]
        exact ⟨d, ret⟩
      · rw [if_neg (by omega), decide_eq_false (by omega)]
        rw [if_neg (by omega), if_pos c] at ret
        have c2 : ¬ (i = j) := by omega
        simp only [wp_ret, wp_bnd, wp_some, wp_grd, wp_no, wp_dat_pd, wp_dat_fz,  ev, evs, evO, evI, evC, evTs, AI.ex, asgG, asgGs, getV, wp_exs, wp_exs_nil, goS_nx, goS_rt, goS_bk, goS_ct, turnE_nx, turnE_ct, turnE_bk, turnE_rt, endD_rt, endD_nx, back_pd, binS, isFz, cmpS, biS, dats, truth, isiS, allPd, isiD, rkOf, join_some, Option.map, List.map, List.length_cons, List.length_nil, List.getElem?_cons_zero, List.getElem?_cons_succ, List.set_cons_zero, List.set_cons_succ, startS, atI_pos, atI_cast, Int.toNat_natCast, wp_newL1, wp_newL2, wp_newT1, List.length_set, List.set_set, decide_eq_true_eq, decide_eq_false_iff_not, Bool.not_eq_true', true_and, and_true,  ixN_pos, Int.reduceLE, Int.reduceLT, Int.reduceToNat, Int.reduceAdd, Int.reduceSub, Int.reduceMul, Int.reduceMod, Int.reduceNeg, Int.reducePow, Nat.reduceAdd, Nat.reduceLT, Nat.reduceLeDiff, Nat.reduceSub, reduceIte, Int.reduceEq, List.isEmpty_nil, Bool.false_eq_true, Bool.true_eq_false, decide_true, decide_false, ge_iff_le, gt_iff_lt,  wp_eq_int, wp_eq_str, wp_eq_bool, List.length_map, List.replicate, List.cons_append, List.nil_append, Bool.not_false, Bool.not_true, Bool.and_true, Bool.true_and, Bool.and_self, Bool.and_false, Bool.false_and, Option.bind, bn_add, bn_sub, bn_mul, bn_div, bn_mod, bn_pow, bn_addS, bn_addT, bn_addL, cp_eq, cp_ne, cp_ltI, cp_leI, cp_gtI, cp_geI, cp_ltS, cp_leS, cp_gtS, cp_geS, cp_ltT, cp_gtT, cp_in, cp_nin, cp_is, cp_isn, ix_l, ix_t, ix_s, ixs_tp, ixs_pd, ixs_rf, ixs_fz, bi_lenL, bi_lenT, bi_lenS, bi_listL, bi_listT, bi_tupL, bi_tupT, bi_intI, bi_intB, bi_strI, bi_strS, bi_abs, bi_max, bi_min, bi_all, bi_any, bi_sum, in_l, in_t, in_s, tr_b, tr_i, tr_n, tr_l, tr_t, so_l, so_t, so_s, so_f, io_t, ng_i, pt_i, ag_a, ag_s, rv_l, rv_t, ap_d, rk_l, rk_t, rk_s, rg_1, rg_2, sl_l, sl_t, sl_s, mt_ixS, wp_mkT0, wp_mkT1, wp_mkT2, wp_mkT3, wp_mkT4, wp_mkT5, wp_mkT6, wp_mkT7, wp_mkT8, ltD, ltDs, gtD, gtDs, eqv_int, if_neg c2, decide_eq_true c]
        exact ⟨d, ret⟩
    · simp only [wp_ret, wp_bnd, wp_some, wp_grd, wp_no, wp_dat_pd, wp_dat_fz,  ev, evs, evO, evI, evC, evTs, AI.ex, asgG, asgGs, getV, wp_exs, wp_exs_nil, goS_nx, goS_rt, goS_bk, goS_ct, turnE_nx, turnE_ct, turnE_bk, turnE_rt, endD_rt, endD_nx, back_pd, binS, isFz, cmpS, biS, dats, truth, isiS, allPd, isiD, rkOf, join_some, Option.map, List.map, List.length_cons, List.length_nil, List.getElem?_cons_zero, List.getElem?_cons_succ, List.set_cons_zero, List.set_cons_succ, startS, atI_pos, atI_cast, Int.toNat_natCast, wp_newL1, wp_newL2, wp_newT1, List.length_set, List.set_set, decide_eq_true_eq, decide_eq_false_iff_not, Bool.not_eq_true', true_and, and_true,  ixN_pos, Int.reduceLE, Int.reduceLT, Int.reduceToNat, Int.reduceAdd, Int.reduceSub, Int.reduceMul, Int.reduceMod, Int.reduceNeg, Int.reducePow, Nat.reduceAdd, Nat.reduceLT, Nat.reduceLeDiff, Nat.reduceSub, reduceIte, Int.reduceEq, List.isEmpty_nil, Bool.false_eq_true, Bool.true_eq_false, decide_true, decide_false, ge_iff_le, gt_iff_lt,  wp_eq_int, wp_eq_str, wp_eq_bool, List.length_map, List.replicate, List.cons_append, List.nil_append, Bool.not_false, Bool.not_true, Bool.and_true, Bool.true_and, Bool.and_self, Bool.and_false, Bool.false_and, Option.bind, bn_add, bn_sub, bn_mul, bn_div, bn_mod, bn_pow, bn_addS, bn_addT, bn_addL, cp_eq, cp_ne, cp_ltI, cp_leI, cp_gtI, cp_geI, cp_ltS, cp_leS, cp_gtS, cp_geS, cp_ltT, cp_gtT, cp_in, cp_nin, cp_is, cp_isn, ix_l, ix_t, ix_s, ixs_tp, ixs_pd, ixs_rf, ixs_fz, bi_lenL, bi_lenT, bi_lenS, bi_listL, bi_listT, bi_tupL, bi_tupT, bi_intI, bi_intB, bi_strI, bi_strS, bi_abs, bi_max, bi_min, bi_all, bi_any, bi_sum, in_l, in_t, in_s, tr_b, tr_i, tr_n, tr_l, tr_t, so_l, so_t, so_s, so_f, io_t, ng_i, pt_i, ag_a, ag_s, rv_l, rv_t, ap_d, rk_l, rk_t, rk_s, rg_1, rg_2, sl_l, sl_t, sl_s, mt_ixS, wp_mkT0, wp_mkT1, wp_mkT2, wp_mkT3, wp_mkT4, wp_mkT5, wp_mkT6, wp_mkT7, wp_mkT8, ltD, ltDs, gtD, gtDs, eqv_int]
      exact ⟨by show min 1 1 ≤ 64; decide, ret⟩
  · rcases gy with ⟨j, rfl⟩ | ⟨u, rfl, g'⟩
    · simp only [wp_ret, wp_bnd, wp_some, wp_grd, wp_no, wp_dat_pd, wp_dat_fz,  ev, evs, evO, evI, evC, evTs, AI.ex, asgG, asgGs, getV, wp_exs, wp_exs_nil, goS_nx, goS_rt, goS_bk, goS_ct, turnE_nx, turnE_ct, turnE_bk, turnE_rt, endD_rt, endD_nx, back_pd, binS, isFz, cmpS, biS, dats, truth, isiS, allPd, isiD, rkOf, join_some, Option.map, List.map, List.length_cons, List.length_nil, List.getElem?_cons_zero, List.getElem?_cons_succ, List.set_cons_zero, List.set_cons_succ, startS, atI_pos, atI_cast, Int.toNat_natCast, wp_newL1, wp_newL2, wp_newT1, List.length_set, List.set_set, decide_eq_true_eq, decide_eq_false_iff_not, Bool.not_eq_true', true_and, and_true,  ixN_pos, Int.reduceLE, Int.reduceLT, Int.reduceToNat, Int.reduceAdd, Int.reduceSub, Int.reduceMul, Int.reduceMod, Int.reduceNeg, Int.reducePow, Nat.reduceAdd, Nat.reduceLT, Nat.reduceLeDiff, Nat.reduceSub, reduceIte, Int.reduceEq, List.isEmpty_nil, Bool.false_eq_true, Bool.true_eq_false, decide_true, decide_false, ge_iff_le, gt_iff_lt,  wp_eq_int, wp_eq_str, wp_eq_bool, List.length_map, List.replicate, List.cons_append, List.nil_append, Bool.not_false, Bool.not_true, Bool.and_true, Bool.true_and, Bool.and_self, Bool.and_false, Bool.false_and, Option.bind, bn_add, bn_sub, bn_mul, bn_div, bn_mod, bn_pow, bn_addS, bn_addT, bn_addL, cp_eq, cp_ne, cp_ltI, cp_leI, cp_gtI, cp_geI, cp_ltS, cp_leS, cp_gtS, cp_geS, cp_ltT, cp_gtT, cp_in, cp_nin, cp_is, cp_isn, ix_l, ix_t, ix_s, ixs_tp, ixs_pd, ixs_rf, ixs_fz, bi_lenL, bi_lenT, bi_lenS, bi_listL, bi_listT, bi_tupL, bi_tupT, bi_intI, bi_intB, bi_strI, bi_strS, bi_abs, bi_max, bi_min, bi_all, bi_any, bi_sum, in_l, in_t, in_s, tr_b, tr_i, tr_n, tr_l, tr_t, so_l, so_t, so_s, so_f, io_t, ng_i, pt_i, ag_a, ag_s, rv_l, rv_t, ap_d, rk_l, rk_t, rk_s, rg_1, rg_2, sl_l, sl_t, sl_s, mt_ixS, wp_mkT0, wp_mkT1, wp_mkT2, wp_mkT3, wp_mkT4, wp_mkT5, wp_mkT6, wp_mkT7, wp_mkT8, ltD, ltDs, gtD, gtDs, eqv_int]
      exact ⟨by show min 1 1 ≤ 64; decide, by show min 1 1 ≤ 64; decide, ret⟩
    · simp only [wp_ret, wp_bnd, wp_some, wp_grd, wp_no, wp_dat_pd, wp_dat_fz,  ev, evs, evO, evI, evC, evTs, AI.ex, asgG, asgGs, getV, wp_exs, wp_exs_nil, goS_nx, goS_rt, goS_bk, goS_ct, turnE_nx, turnE_ct, turnE_bk, turnE_rt, endD_rt, endD_nx, back_pd, binS, isFz, cmpS, biS, dats, truth, isiS, allPd, isiD, rkOf, join_some, Option.map, List.map, List.length_cons, List.length_nil, List.getElem?_cons_zero, List.getElem?_cons_succ, List.set_cons_zero, List.set_cons_succ, startS, atI_pos, atI_cast, Int.toNat_natCast, wp_newL1, wp_newL2, wp_newT1, List.length_set, List.set_set, decide_eq_true_eq, decide_eq_false_iff_not, Bool.not_eq_true', true_and, and_true,  ixN_pos, Int.reduceLE, Int.reduceLT, Int.reduceToNat, Int.reduceAdd, Int.reduceSub, Int.reduceMul, Int.reduceMod, Int.reduceNeg, Int.reducePow, Nat.reduceAdd, Nat.reduceLT, Nat.reduceLeDiff, Nat.reduceSub, reduceIte, Int.reduceEq, List.isEmpty_nil, Bool.false_eq_true, Bool.true_eq_false, decide_true, decide_false, ge_iff_le, gt_iff_lt,  wp_eq_int, wp_eq_str, wp_eq_bool, List.length_map, List.replicate, List.cons_append, List.nil_append, Bool.not_false, Bool.not_true, Bool.and_true, Bool.true_and, Bool.and_self, Bool.and_false, Bool.false_and, Option.bind, bn_add, bn_sub, bn_mul, bn_div, bn_mod, bn_pow, bn_addS, bn_addT, bn_addL, cp_eq, cp_ne, cp_ltI, cp_leI, cp_gtI, cp_geI, cp_ltS, cp_leS, cp_gtS, cp_geS, cp_ltT, cp_gtT, cp_in, cp_nin, cp_is, cp_isn, ix_l, ix_t, ix_s, ixs_tp, ixs_pd, ixs_rf, ixs_fz, bi_lenL, bi_lenT, bi_lenS, bi_listL, bi_listT, bi_tupL, bi_tupT, bi_intI, bi_intB, bi_strI, bi_strS, bi_abs, bi_max, bi_min, bi_all, bi_any, bi_sum, in_l, in_t, in_s, tr_b, tr_i, tr_n, tr_l, tr_t, so_l, so_t, so_s, so_f, io_t, ng_i, pt_i, ag_a, ag_s, rv_l, rv_t, ap_d, rk_l, rk_t, rk_s, rg_1, rg_2, sl_l, sl_t, sl_s, mt_ixS, wp_mkT0, wp_mkT1, wp_mkT2, wp_mkT3, wp_mkT4, wp_mkT5, wp_mkT6, wp_mkT7, wp_mkT8, ltD, ltDs, gtD, gtDs, eqv_int, eqv_str]
      have d : min (PyData.tuple [PyData.int 1, PyData.str s]).depth (PyData.tuple [PyData.int 1, PyData.str u]).depth ≤ 64 := by show min 1 1 ≤ 64; decide
      have e : sayC (.str s) (.str u) = if ltS s u = true then -1 else if ltS u s = true then 1 else 0 := rfl
      rw [e] at ret
      refine ⟨d, ?_⟩
      by_cases c : s = u
      · subst c
        have n : ltS s s = false := by unfold ltS; simp
        simp only [n, Bool.false_eq_true, if_false] at ret
        simp only [wp_ret, wp_bnd, wp_some, wp_grd, wp_no, wp_dat_pd, wp_dat_fz,  ev, evs, evO, evI, evC, evTs, AI.ex, asgG, asgGs, getV, wp_exs, wp_exs_nil, goS_nx, goS_rt, goS_bk, goS_ct, turnE_nx, turnE_ct, turnE_bk, turnE_rt, endD_rt, endD_nx, back_pd, binS, isFz, cmpS, biS, dats, truth, isiS, allPd, isiD, rkOf, join_some, Option.map, List.map, List.length_cons, List.length_nil, List.getElem?_cons_zero, List.getElem?_cons_succ, List.set_cons_zero, List.set_cons_succ, startS, atI_pos, atI_cast, Int.toNat_natCast, wp_newL1, wp_newL2, wp_newT1, List.length_set, List.set_set, decide_eq_true_eq, decide_eq_false_iff_not, Bool.not_eq_true', true_and, and_true,  ixN_pos, Int.reduceLE, Int.reduceLT, Int.reduceToNat, Int.reduceAdd, Int.reduceSub, Int.reduceMul, Int.reduceMod, Int.reduceNeg, Int.reducePow, Nat.reduceAdd, Nat.reduceLT, Nat.reduceLeDiff, Nat.reduceSub, reduceIte, Int.reduceEq, List.isEmpty_nil, Bool.false_eq_true, Bool.true_eq_false, decide_true, decide_false, ge_iff_le, gt_iff_lt,  wp_eq_int, wp_eq_str, wp_eq_bool, List.length_map, List.replicate, List.cons_append, List.nil_append, Bool.not_false, Bool.not_true, Bool.and_true, Bool.true_and, Bool.and_self, Bool.and_false, Bool.false_and, Option.bind, bn_add, bn_sub, bn_mul, bn_div, bn_mod, bn_pow, bn_addS, bn_addT, bn_addL, cp_eq, cp_ne, cp_ltI, cp_leI, cp_gtI, cp_geI, cp_ltS, cp_leS, cp_gtS, cp_geS, cp_ltT, cp_gtT, cp_in, cp_nin, cp_is, cp_isn, ix_l, ix_t, ix_s, ixs_tp, ixs_pd, ixs_rf, ixs_fz, bi_lenL, bi_lenT, bi_lenS, bi_listL, bi_listT, bi_tupL, bi_tupT, bi_intI, bi_intB, bi_strI, bi_strS, bi_abs, bi_max, bi_min, bi_all, bi_any, bi_sum, in_l, in_t, in_s, tr_b, tr_i, tr_n, tr_l, tr_t, so_l, so_t, so_s, so_f, io_t, ng_i, pt_i, ag_a, ag_s, rv_l, rv_t, ap_d, rk_l, rk_t, rk_s, rg_1, rg_2, sl_l, sl_t, sl_s, mt_ixS, wp_mkT0, wp_mkT1, wp_mkT2, wp_mkT3, wp_mkT4, wp_mkT5, wp_mkT6, wp_mkT7, wp_mkT8, ltD, ltDs, gtD, gtDs, eqv_int, eqv_str]
        exact ⟨d, ret⟩
      · rw [if_neg c]
        by_cases c2 : ltS s u = true
        · rw [c2]
          rw [if_pos c2] at ret
          simp only [wp_ret, wp_bnd, wp_some, wp_grd, wp_no, wp_dat_pd, wp_dat_fz,  ev, evs, evO, evI, evC, evTs, AI.ex, asgG, asgGs, getV, wp_exs, wp_exs_nil, goS_nx, goS_rt, goS_bk, goS_ct, turnE_nx, turnE_ct, turnE_bk, turnE_rt, endD_rt, endD_nx, back_pd, binS, isFz, cmpS, biS, dats, truth, isiS, allPd, isiD, rkOf, join_some, Option.map, List.map, List.length_cons, List.length_nil, List.getElem?_cons_zero, List.getElem?_cons_succ, List.set_cons_zero, List.set_cons_succ, startS, atI_pos, atI_cast, Int.toNat_natCast, wp_newL1, wp_newL2, wp_newT1, List.length_set, List.set_set, decide_eq_true_eq, decide_eq_false_iff_not, Bool.not_eq_true', true_and, and_true,  ixN_pos, Int.reduceLE, Int.reduceLT, Int.reduceToNat, Int.reduceAdd, Int.reduceSub, Int.reduceMul, Int.reduceMod, Int.reduceNeg, Int.reducePow, Nat.reduceAdd, Nat.reduceLT, Nat.reduceLeDiff, Nat.reduceSub, reduceIte, Int.reduceEq, List.isEmpty_nil, Bool.false_eq_true, Bool.true_eq_false, decide_true, decide_false, ge_iff_le, gt_iff_lt,  wp_eq_int, wp_eq_str, wp_eq_bool, List.length_map, List.replicate, List.cons_append, List.nil_append, Bool.not_false, Bool.not_true, Bool.and_true, Bool.true_and, Bool.and_self, Bool.and_false, Bool.false_and, Option.bind, bn_add, bn_sub, bn_mul, bn_div, bn_mod, bn_pow, bn_addS, bn_addT, bn_addL, cp_eq, cp_ne, cp_ltI, cp_leI, cp_gtI, cp_geI, cp_ltS, cp_leS, cp_gtS, cp_geS, cp_ltT, cp_gtT, cp_in, cp_nin, cp_is, cp_isn, ix_l, ix_t, ix_s, ixs_tp, ixs_pd, ixs_rf, ixs_fz, bi_lenL, bi_lenT, bi_lenS, bi_listL, bi_listT, bi_tupL, bi_tupT, bi_intI, bi_intB, bi_strI, bi_strS, bi_abs, bi_max, bi_min, bi_all, bi_any, bi_sum, in_l, in_t, in_s, tr_b, tr_i, tr_n, tr_l, tr_t, so_l, so_t, so_s, so_f, io_t, ng_i, pt_i, ag_a, ag_s, rv_l, rv_t, ap_d, rk_l, rk_t, rk_s, rg_1, rg_2, sl_l, sl_t, sl_s, mt_ixS, wp_mkT0, wp_mkT1, wp_mkT2, wp_mkT3, wp_mkT4, wp_mkT5, wp_mkT6, wp_mkT7, wp_mkT8]
          exact ret
        · rw [if_neg c2] at ret
          rw [Bool.eq_false_iff.mpr c2]
          simp only [wp_ret, wp_bnd, wp_some, wp_grd, wp_no, wp_dat_pd, wp_dat_fz,  ev, evs, evO, evI, evC, evTs, AI.ex, asgG, asgGs, getV, wp_exs, wp_exs_nil, goS_nx, goS_rt, goS_bk, goS_ct, turnE_nx, turnE_ct, turnE_bk, turnE_rt, endD_rt, endD_nx, back_pd, binS, isFz, cmpS, biS, dats, truth, isiS, allPd, isiD, rkOf, join_some, Option.map, List.map, List.length_cons, List.length_nil, List.getElem?_cons_zero, List.getElem?_cons_succ, List.set_cons_zero, List.set_cons_succ, startS, atI_pos, atI_cast, Int.toNat_natCast, wp_newL1, wp_newL2, wp_newT1, List.length_set, List.set_set, decide_eq_true_eq, decide_eq_false_iff_not, Bool.not_eq_true', true_and, and_true,  ixN_pos, Int.reduceLE, Int.reduceLT, Int.reduceToNat, Int.reduceAdd, Int.reduceSub, Int.reduceMul, Int.reduceMod, Int.reduceNeg, Int.reducePow, Nat.reduceAdd, Nat.reduceLT, Nat.reduceLeDiff, Nat.reduceSub, reduceIte, Int.reduceEq, List.isEmpty_nil, Bool.false_eq_true, Bool.true_eq_false, decide_true, decide_false, ge_iff_le, gt_iff_lt,  wp_eq_int, wp_eq_str, wp_eq_bool, List.length_map, List.replicate, List.cons_append, List.nil_append, Bool.not_false, Bool.not_true, Bool.and_true, Bool.true_and, Bool.and_self, Bool.and_false, Bool.false_and, Option.bind, bn_add, bn_sub, bn_mul, bn_div, bn_mod, bn_pow, bn_addS, bn_addT, bn_addL, cp_eq, cp_ne, cp_ltI, cp_leI, cp_gtI, cp_geI, cp_ltS, cp_leS, cp_gtS, cp_geS, cp_ltT, cp_gtT, cp_in, cp_nin, cp_is, cp_isn, ix_l, ix_t, ix_s, ixs_tp, ixs_pd, ixs_rf, ixs_fz, bi_lenL, bi_lenT, bi_lenS, bi_listL, bi_listT, bi_tupL, bi_tupT, bi_intI, bi_intB, bi_strI, bi_strS, bi_abs, bi_max, bi_min, bi_all, bi_any, bi_sum, in_l, in_t, in_s, tr_b, tr_i, tr_n, tr_l, tr_t, so_l, so_t, so_s, so_f, io_t, ng_i, pt_i, ag_a, ag_s, rv_l, rv_t, ap_d, rk_l, rk_t, rk_s, rg_1, rg_2, sl_l, sl_t, sl_s, mt_ixS, wp_mkT0, wp_mkT1, wp_mkT2, wp_mkT3, wp_mkT4, wp_mkT5, wp_mkT6, wp_mkT7, wp_mkT8, ltD, ltDs, gtD, gtDs, eqv_int, eqv_str, if_neg c]
          refine ⟨d, ?_⟩
          by_cases c3 : ltS u s = true
          · rw [c3]
            rw [if_pos c3] at ret
            simp only [wp_ret, wp_bnd, wp_some, wp_grd, wp_no, wp_dat_pd, wp_dat_fz,  ev, evs, evO, evI, evC, evTs, AI.ex, asgG, asgGs, getV, wp_exs, wp_exs_nil, goS_nx, goS_rt, goS_bk, goS_ct, turnE_nx, turnE_ct, turnE_bk, turnE_rt, endD_rt, endD_nx, back_pd, binS, isFz, cmpS, biS, dats, truth, isiS, allPd, isiD, rkOf, join_some, Option.map, List.map, List.length_cons, List.length_nil, List.getElem?_cons_zero, List.getElem?_cons_succ, List.set_cons_zero, List.set_cons_succ, startS, atI_pos, atI_cast, Int.toNat_natCast, wp_newL1, wp_newL2, wp_newT1, List.length_set, List.set_set, decide_eq_true_eq, decide_eq_false_iff_not, Bool.not_eq_true', true_and, and_true,  ixN_pos, Int.reduceLE, Int.reduceLT, Int.reduceToNat, Int.reduceAdd, Int.reduceSub, Int.reduceMul, Int.reduceMod, Int.reduceNeg, Int.reducePow, Nat.reduceAdd, Nat.reduceLT, Nat.reduceLeDiff, Nat.reduceSub, reduceIte, Int.reduceEq, List.isEmpty_nil, Bool.false_eq_true, Bool.true_eq_false, decide_true, decide_false, ge_iff_le, gt_iff_lt,  wp_eq_int, wp_eq_str, wp_eq_bool, List.length_map, List.replicate, List.cons_append, List.nil_append, Bool.not_false, Bool.not_true, Bool.and_true, Bool.true_and, Bool.and_self, Bool.and_false, Bool.false_and, Option.bind, bn_add, bn_sub, bn_mul, bn_div, bn_mod, bn_pow, bn_addS, bn_addT, bn_addL, cp_eq, cp_ne, cp_ltI, cp_leI, cp_gtI, cp_geI, cp_ltS, cp_leS, cp_gtS, cp_geS, cp_ltT, cp_gtT, cp_in, cp_nin, cp_is, cp_isn, ix_l, ix_t, ix_s, ixs_tp, ixs_pd, ixs_rf, ixs_fz, bi_lenL, bi_lenT, bi_lenS, bi_listL, bi_listT, bi_tupL, bi_tupT, bi_intI, bi_intB, bi_strI, bi_strS, bi_abs, bi_max, bi_min, bi_all, bi_any, bi_sum, in_l, in_t, in_s, tr_b, tr_i, tr_n, tr_l, tr_t, so_l, so_t, so_s, so_f, io_t, ng_i, pt_i, ag_a, ag_s, rv_l, rv_t, ap_d, rk_l, rk_t, rk_s, rg_1, rg_2, sl_l, sl_t, sl_s, mt_ixS, wp_mkT0, wp_mkT1, wp_mkT2, wp_mkT3, wp_mkT4, wp_mkT5, wp_mkT6, wp_mkT7, wp_mkT8]
            exact ret
          · rw [if_neg c3] at ret
            rw [Bool.eq_false_iff.mpr c3]
            simp only [wp_ret, wp_bnd, wp_some, wp_grd, wp_no, wp_dat_pd, wp_dat_fz,  ev, evs, evO, evI, evC, evTs, AI.ex, asgG, asgGs, getV, wp_exs, wp_exs_nil, goS_nx, goS_rt, goS_bk, goS_ct, turnE_nx, turnE_ct, turnE_bk, turnE_rt, endD_rt, endD_nx, back_pd, binS, isFz, cmpS, biS, dats, truth, isiS, allPd, isiD, rkOf, join_some, Option.map, List.map, List.length_cons, List.length_nil, List.getElem?_cons_zero, List.getElem?_cons_succ, List.set_cons_zero, List.set_cons_succ, startS, atI_pos, atI_cast, Int.toNat_natCast, wp_newL1, wp_newL2, wp_newT1, List.length_set, List.set_set, decide_eq_true_eq, decide_eq_false_iff_not, Bool.not_eq_true', true_and, and_true,  ixN_pos, Int.reduceLE, Int.reduceLT, Int.reduceToNat, Int.reduceAdd, Int.reduceSub, Int.reduceMul, Int.reduceMod, Int.reduceNeg, Int.reducePow, Nat.reduceAdd, Nat.reduceLT, Nat.reduceLeDiff, Nat.reduceSub, reduceIte, Int.reduceEq, List.isEmpty_nil, Bool.false_eq_true, Bool.true_eq_false, decide_true, decide_false, ge_iff_le, gt_iff_lt,  wp_eq_int, wp_eq_str, wp_eq_bool, List.length_map, List.replicate, List.cons_append, List.nil_append, Bool.not_false, Bool.not_true, Bool.and_true, Bool.true_and, Bool.and_self, Bool.and_false, Bool.false_and, Option.bind, bn_add, bn_sub, bn_mul, bn_div, bn_mod, bn_pow, bn_addS, bn_addT, bn_addL, cp_eq, cp_ne, cp_ltI, cp_leI, cp_gtI, cp_geI, cp_ltS, cp_leS, cp_gtS, cp_geS, cp_ltT, cp_gtT, cp_in, cp_nin, cp_is, cp_isn, ix_l, ix_t, ix_s, ixs_tp, ixs_pd, ixs_rf, ixs_fz, bi_lenL, bi_lenT, bi_lenS, bi_listL, bi_listT, bi_tupL, bi_tupT, bi_intI, bi_intB, bi_strI, bi_strS, bi_abs, bi_max, bi_min, bi_all, bi_any, bi_sum, in_l, in_t, in_s, tr_b, tr_i, tr_n, tr_l, tr_t, so_l, so_t, so_s, so_f, io_t, ng_i, pt_i, ag_a, ag_s, rv_l, rv_t, ap_d, rk_l, rk_t, rk_s, rg_1, rg_2, sl_l, sl_t, sl_s, mt_ixS, wp_mkT0, wp_mkT1, wp_mkT2, wp_mkT3, wp_mkT4, wp_mkT5, wp_mkT6, wp_mkT7, wp_mkT8]
            exact ret
theorem is_call {m : Nat} {i j : Int} (q : Q (.pd (.bool (decide (i = j)))) h) : wp ((TM (m + 1)).call bx "_law_is" [.pd (.int i), .pd (.int j)]) Q h := by
  refine wp_call (r_law_is _) (wp_def rfl ?_)
  have ret : back h.length bx Q (.pd (.bool (decide (i = j)))) h := by rw [back_pd, List.take_length]; exact q
  generalize hQ : back h.length bx Q = Q' at *
  clear hQ q
  simp only [wp_ret, wp_bnd, wp_some, wp_grd, wp_no, wp_dat_pd, wp_dat_fz,  ev, evs, evO, evI, evC, evTs, AI.ex, asgG, asgGs, getV, wp_exs, wp_exs_nil, goS_nx, goS_rt, goS_bk, goS_ct, turnE_nx, turnE_ct, turnE_bk, turnE_rt, endD_rt, endD_nx, back_pd, binS, isFz, cmpS, biS, dats, truth, isiS, allPd, isiD, rkOf, join_some, Option.map, List.map, List.length_cons, List.length_nil, List.getElem?_cons_zero, List.getElem?_cons_succ, List.set_cons_zero, List.set_cons_succ, startS, atI_pos, atI_cast, Int.toNat_natCast, wp_newL1, wp_newL2, wp_newT1, List.length_set, List.set_set, decide_eq_true_eq, decide_eq_false_iff_not, Bool.not_eq_true', true_and, and_true,  ixN_pos, Int.reduceLE, Int.reduceLT, Int.reduceToNat, Int.reduceAdd, Int.reduceSub, Int.reduceMul, Int.reduceMod, Int.reduceNeg, Int.reducePow, Nat.reduceAdd, Nat.reduceLT, Nat.reduceLeDiff, Nat.reduceSub, reduceIte, Int.reduceEq, List.isEmpty_nil, Bool.false_eq_true, Bool.true_eq_false, decide_true, decide_false, ge_iff_le, gt_iff_lt,  wp_eq_int, wp_eq_str, wp_eq_bool, List.length_map, List.replicate, List.cons_append, List.nil_append, Bool.not_false, Bool.not_true, Bool.and_true, Bool.true_and, Bool.and_self, Bool.and_false, Bool.false_and, Option.bind, bn_add, bn_sub, bn_mul, bn_div, bn_mod, bn_pow, bn_addS, bn_addT, bn_addL, cp_eq, cp_ne, cp_ltI, cp_leI, cp_gtI, cp_geI, cp_ltS, cp_leS, cp_gtS, cp_geS, cp_ltT, cp_gtT, cp_in, cp_nin, cp_is, cp_isn, ix_l, ix_t, ix_s, ixs_tp, ixs_pd, ixs_rf, ixs_fz, bi_lenL, bi_lenT, bi_lenS, bi_listL, bi_listT, bi_tupL, bi_tupT, bi_intI, bi_intB, bi_strI, bi_strS, bi_abs, bi_max, bi_min, bi_all, bi_any, bi_sum, in_l, in_t, in_s, tr_b, tr_i, tr_n, tr_l, tr_t, so_l, so_t, so_s, so_f, io_t, ng_i, pt_i, ag_a, ag_s, rv_l, rv_t, ap_d, rk_l, rk_t, rk_s, rg_1, rg_2, sl_l, sl_t, sl_s, mt_ixS, wp_mkT0, wp_mkT1, wp_mkT2, wp_mkT3, wp_mkT4, wp_mkT5, wp_mkT6, wp_mkT7, wp_mkT8, b_law_is]
  exact ret
theorem say_ok (x y : D) (gx : GV x) (gy : GV y) : ¬ (before x y = true ∧ before y x = true) := by
  rcases gx with ⟨i, rfl⟩ | ⟨s, rfl, _⟩ <;> rcases gy with ⟨j, rfl⟩ | ⟨u, rfl, _⟩
  · simp only [before, decide_eq_true_eq]; omega
  · simp [before]
  · simp [before]
  · rintro ⟨a, b⟩
    have a' : s.cps.toList < u.cps.toList := of_decide_eq_true a
    have b' : u.cps.toList < s.cps.toList := of_decide_eq_true b
    exact absurd a' (List.lt_asymm b')
end
theorem plain (ns : List Int) (hl : ns.length ≤ 63) : ∃ b, (tab.mdl.tt 100).raw "law" [.fz (ns.map PyData.int)] [] = .ok (.pd (.bool true)) b := by
  suffices w : wp ((tab.mdl.tt 100).raw "law" [.fz (ns.map PyData.int)]) (fun r _ => r = .pd (.bool true)) [] by
    obtain ⟨r, b, e, rfl⟩ := w
    exact ⟨b, e⟩
  rw [r_law 99]
  refine wp_def rfl ?_
  simp only [wp_ret, wp_bnd, wp_some, wp_grd, wp_no, wp_dat_pd, wp_dat_fz,  ev, evs, evO, evI, evC, evTs, AI.ex, asgG, asgGs, getV, wp_exs, wp_exs_nil, goS_nx, goS_rt, goS_bk, goS_ct, turnE_nx, turnE_ct, turnE_bk, turnE_rt, endD_rt, endD_nx, back_pd, binS, isFz, cmpS, biS, dats, truth, isiS, allPd, isiD, rkOf, join_some, Option.map, List.map, List.length_cons, List.length_nil, List.getElem?_cons_zero, List.getElem?_cons_succ, List.set_cons_zero, List.set_cons_succ, startS, atI_pos, atI_cast, Int.toNat_natCast, wp_newL1, wp_newL2, wp_newT1, List.length_set, List.set_set, decide_eq_true_eq, decide_eq_false_iff_not, Bool.not_eq_true', true_and, and_true,  ixN_pos, Int.reduceLE, Int.reduceLT, Int.reduceToNat, Int.reduceAdd, Int.reduceSub, Int.reduceMul, Int.reduceMod, Int.reduceNeg, Int.reducePow, Nat.reduceAdd, Nat.reduceLT, Nat.reduceLeDiff, Nat.reduceSub, reduceIte, Int.reduceEq, List.isEmpty_nil, Bool.false_eq_true, Bool.true_eq_false, decide_true, decide_false, ge_iff_le, gt_iff_lt,  wp_eq_int, wp_eq_str, wp_eq_bool, List.length_map, List.replicate, List.cons_append, List.nil_append, Bool.not_false, Bool.not_true, Bool.and_true, Bool.true_and, Bool.and_self, Bool.and_false, Bool.false_and, Option.bind, bn_add, bn_sub, bn_mul, bn_div, bn_mod, bn_pow, bn_addS, bn_addT, bn_addL, cp_eq, cp_ne, cp_ltI, cp_leI, cp_gtI, cp_geI, cp_ltS, cp_leS, cp_gtS, cp_geS, cp_ltT, cp_gtT, cp_in, cp_nin, cp_is, cp_isn, ix_l, ix_t, ix_s, ixs_tp, ixs_pd, ixs_rf, ixs_fz, bi_lenL, bi_lenT, bi_lenS, bi_listL, bi_listT, bi_tupL, bi_tupT, bi_intI, bi_intB, bi_strI, bi_strS, bi_abs, bi_max, bi_min, bi_all, bi_any, bi_sum, in_l, in_t, in_s, tr_b, tr_i, tr_n, tr_l, tr_t, so_l, so_t, so_s, so_f, io_t, ng_i, pt_i, ag_a, ag_s, rv_l, rv_t, ap_d, rk_l, rk_t, rk_s, rg_1, rg_2, sl_l, sl_t, sl_s, mt_ixS, wp_mkT0, wp_mkT1, wp_mkT2, wp_mkT3, wp_mkT4, wp_mkT5, wp_mkT6, wp_mkT7, wp_mkT8, b_law]
  refine tape_call (r_law_tape 98) hl fun b0 t0 => ?_
  simp only [wp_ret, wp_bnd, wp_some, wp_grd, wp_no, wp_dat_pd, wp_dat_fz,  ev, evs, evO, evI, evC, evTs, AI.ex, asgG, asgGs, getV, wp_exs, wp_exs_nil, goS_nx, goS_rt, goS_bk, goS_ct, turnE_nx, turnE_ct, turnE_bk, turnE_rt, endD_rt, endD_nx, back_pd, binS, isFz, cmpS, biS, dats, truth, isiS, allPd, isiD, rkOf, join_some, Option.map, List.map, List.length_cons, List.length_nil, List.getElem?_cons_zero, List.getElem?_cons_succ, List.set_cons_zero, List.set_cons_succ, startS, atI_pos, atI_cast, Int.toNat_natCast, wp_newL1, wp_newL2, wp_newT1, List.length_set, List.set_set, decide_eq_true_eq, decide_eq_false_iff_not, Bool.not_eq_true', true_and, and_true,  ixN_pos, Int.reduceLE, Int.reduceLT, Int.reduceToNat, Int.reduceAdd, Int.reduceSub, Int.reduceMul, Int.reduceMod, Int.reduceNeg, Int.reducePow, Nat.reduceAdd, Nat.reduceLT, Nat.reduceLeDiff, Nat.reduceSub, reduceIte, Int.reduceEq, List.isEmpty_nil, Bool.false_eq_true, Bool.true_eq_false, decide_true, decide_false, ge_iff_le, gt_iff_lt,  wp_eq_int, wp_eq_str, wp_eq_bool, List.length_map, List.replicate, List.cons_append, List.nil_append, Bool.not_false, Bool.not_true, Bool.and_true, Bool.true_and, Bool.and_self, Bool.and_false, Bool.false_and, Option.bind, bn_add, bn_sub, bn_mul, bn_div, bn_mod, bn_pow, bn_addS, bn_addT, bn_addL, cp_eq, cp_ne, cp_ltI, cp_leI, cp_gtI, cp_geI, cp_ltS, cp_leS, cp_gtS, cp_geS, cp_ltT, cp_gtT, cp_in, cp_nin, cp_is, cp_isn, ix_l, ix_t, ix_s, ixs_tp, ixs_pd, ixs_rf, ixs_fz, bi_lenL, bi_lenT, bi_lenS, bi_listL, bi_listT, bi_tupL, bi_tupT, bi_intI, bi_intB, bi_strI, bi_strS, bi_abs, bi_max, bi_min, bi_all, bi_any, bi_sum, in_l, in_t, in_s, tr_b, tr_i, tr_n, tr_l, tr_t, so_l, so_t, so_s, so_f, io_t, ng_i, pt_i, ag_a, ag_s, rv_l, rv_t, ap_d, rk_l, rk_t, rk_s, rg_1, rg_2, sl_l, sl_t, sl_s, mt_ixS, wp_mkT0, wp_mkT1, wp_mkT2, wp_mkT3, wp_mkT4, wp_mkT5, wp_mkT6, wp_mkT7, wp_mkT8]
  refine any_call (m := 95) t0 rfl (by decide) fun x b1 t1 gx => ?_
  simp only [wp_ret, wp_bnd, wp_some, wp_grd, wp_no, wp_dat_pd, wp_dat_fz,  ev, evs, evO, evI, evC, evTs, AI.ex, asgG, asgGs, getV, wp_exs, wp_exs_nil, goS_nx, goS_rt, goS_bk, goS_ct, turnE_nx, turnE_ct, turnE_bk, turnE_rt, endD_rt, endD_nx, back_pd, binS, isFz, cmpS, biS, dats, truth, isiS, allPd, isiD, rkOf, join_some, Option.map, List.map, List.length_cons, List.length_nil, List.getElem?_cons_zero, List.getElem?_cons_succ, List.set_cons_zero, List.set_cons_succ, startS, atI_pos, atI_cast, Int.toNat_natCast, wp_newL1, wp_newL2, wp_newT1, List.length_set, List.set_set, decide_eq_true_eq, decide_eq_false_iff_not, Bool.not_eq_true', true_and, and_true,  ixN_pos, Int.reduceLE, Int.reduceLT, Int.reduceToNat, Int.reduceAdd, Int.reduceSub, Int.reduceMul, Int.reduceMod, Int.reduceNeg, Int.reducePow, Nat.reduceAdd, Nat.reduceLT, Nat.reduceLeDiff, Nat.reduceSub, reduceIte, Int.reduceEq, List.isEmpty_nil, Bool.false_eq_true, Bool.true_eq_false, decide_true, decide_false, ge_iff_le, gt_iff_lt,  wp_eq_int, wp_eq_str, wp_eq_bool, List.length_map, List.replicate, List.cons_append, List.nil_append, Bool.not_false, Bool.not_true, Bool.and_true, Bool.true_and, Bool.and_self, Bool.and_false, Bool.false_and, Option.bind, bn_add, bn_sub, bn_mul, bn_div, bn_mod, bn_pow, bn_addS, bn_addT, bn_addL, cp_eq, cp_ne, cp_ltI, cp_leI, cp_gtI, cp_geI, cp_ltS, cp_leS, cp_gtS, cp_geS, cp_ltT, cp_gtT, cp_in, cp_nin, cp_is, cp_isn, ix_l, ix_t, ix_s, ixs_tp, ixs_pd, ixs_rf, ixs_fz, bi_lenL, bi_lenT, bi_lenS, bi_listL, bi_listT, bi_tupL, bi_tupT, bi_intI, bi_intB, bi_strI, bi_strS, bi_abs, bi_max, bi_min, bi_all, bi_any, bi_sum, in_l, in_t, in_s, tr_b, tr_i, tr_n, tr_l, tr_t, so_l, so_t, so_s, so_f, io_t, ng_i, pt_i, ag_a, ag_s, rv_l, rv_t, ap_d, rk_l, rk_t, rk_s, rg_1, rg_2, sl_l, sl_t, sl_s, mt_ixS, wp_mkT0, wp_mkT1, wp_mkT2, wp_mkT3, wp_mkT4, wp_mkT5, wp_mkT6, wp_mkT7, wp_mkT8]
  refine draw_call (r_law_draw 98) t1 rfl (by decide) (by decide) fun v b2 t2 hv => ?_
  simp only [wp_ret, wp_bnd, wp_some, wp_grd, wp_no, wp_dat_pd, wp_dat_fz,  ev, evs, evO, evI, evC, evTs, AI.ex, asgG, asgGs, getV, wp_exs, wp_exs_nil, goS_nx, goS_rt, goS_bk, goS_ct, turnE_nx, turnE_ct, turnE_bk, turnE_rt, endD_rt, endD_nx, back_pd, binS, isFz, cmpS, biS, dats, truth, isiS, allPd, isiD, rkOf, join_some, Option.map, List.map, List.length_cons, List.length_nil, List.getElem?_cons_zero, List.getElem?_cons_succ, List.set_cons_zero, List.set_cons_succ, startS, atI_pos, atI_cast, Int.toNat_natCast, wp_newL1, wp_newL2, wp_newT1, List.length_set, List.set_set, decide_eq_true_eq, decide_eq_false_iff_not, Bool.not_eq_true', true_and, and_true,  ixN_pos, Int.reduceLE, Int.reduceLT, Int.reduceToNat, Int.reduceAdd, Int.reduceSub, Int.reduceMul, Int.reduceMod, Int.reduceNeg, Int.reducePow, Nat.reduceAdd, Nat.reduceLT, Nat.reduceLeDiff, Nat.reduceSub, reduceIte, Int.reduceEq, List.isEmpty_nil, Bool.false_eq_true, Bool.true_eq_false, decide_true, decide_false, ge_iff_le, gt_iff_lt,  wp_eq_int, wp_eq_str, wp_eq_bool, List.length_map, List.replicate, List.cons_append, List.nil_append, Bool.not_false, Bool.not_true, Bool.and_true, Bool.true_and, Bool.and_self, Bool.and_false, Bool.false_and, Option.bind, bn_add, bn_sub, bn_mul, bn_div, bn_mod, bn_pow, bn_addS, bn_addT, bn_addL, cp_eq, cp_ne, cp_ltI, cp_leI, cp_gtI, cp_geI, cp_ltS, cp_leS, cp_gtS, cp_geS, cp_ltT, cp_gtT, cp_in, cp_nin, cp_is, cp_isn, ix_l, ix_t, ix_s, ixs_tp, ixs_pd, ixs_rf, ixs_fz, bi_lenL, bi_lenT, bi_lenS, bi_listL, bi_listT, bi_tupL, bi_tupT, bi_intI, bi_intB, bi_strI, bi_strS, bi_abs, bi_max, bi_min, bi_all, bi_any, bi_sum, in_l, in_t, in_s, tr_b, tr_i, tr_n, tr_l, tr_t, so_l, so_t, so_s, so_f, io_t, ng_i, pt_i, ag_a, ag_s, rv_l, rv_t, ap_d, rk_l, rk_t, rk_s, rg_1, rg_2, sl_l, sl_t, sl_s, mt_ixS, wp_mkT0, wp_mkT1, wp_mkT2, wp_mkT3, wp_mkT4, wp_mkT5, wp_mkT6, wp_mkT7, wp_mkT8]
  refine wp_mono (Q := fun f h' => ∃ y b3, f = .nx [some (.fz (ns.map .int)), some (.rf 0), some (.pd x), some (.pd (.int v)), some (.pd y), none] ∧ h' = [b3] ∧ TapeB 50 b3 ∧ GV y) ?_ ?_
  · refine wp_if (fun c0 => ?_) (fun c0 => ?_)
    · simp only [wp_ret, wp_bnd, wp_some, wp_grd, wp_no, wp_dat_pd, wp_dat_fz,  ev, evs, evO, evI, evC, evTs, AI.ex, asgG, asgGs, getV, wp_exs, wp_exs_nil, goS_nx, goS_rt, goS_bk, goS_ct, turnE_nx, turnE_ct, turnE_bk, turnE_rt, endD_rt, endD_nx, back_pd, binS, isFz, cmpS, biS, dats, truth, isiS, allPd, isiD, rkOf, join_some, Option.map, List.map, List.length_cons, List.length_nil, List.getElem?_cons_zero, List.getElem?_cons_succ, List.set_cons_zero, List.set_cons_succ, startS, atI_pos, atI_cast, Int.toNat_natCast, wp_newL1, wp_newL2, wp_newT1, List.length_set, List.set_set, decide_eq_true_eq, decide_eq_false_iff_not, Bool.not_eq_true', true_and, and_true,  ixN_pos, Int.reduceLE, Int.reduceLT, Int.reduceToNat, Int.reduceAdd, Int.reduceSub, Int.reduceMul, Int.reduceMod, Int.reduceNeg, Int.reducePow, Nat.reduceAdd, Nat.reduceLT, Nat.reduceLeDiff, Nat.reduceSub, reduceIte, Int.reduceEq, List.isEmpty_nil, Bool.false_eq_true, Bool.true_eq_false, decide_true, decide_false, ge_iff_le, gt_iff_lt,  wp_eq_int, wp_eq_str, wp_eq_bool, List.length_map, List.replicate, List.cons_append, List.nil_append, Bool.not_false, Bool.not_true, Bool.and_true, Bool.true_and, Bool.and_self, Bool.and_false, Bool.false_and, Option.bind, bn_add, bn_sub, bn_mul, bn_div, bn_mod, bn_pow, bn_addS, bn_addT, bn_addL, cp_eq, cp_ne, cp_ltI, cp_leI, cp_gtI, cp_geI, cp_ltS, cp_leS, cp_gtS, cp_geS, cp_ltT, cp_gtT, cp_in, cp_nin, cp_is, cp_isn, ix_l, ix_t, ix_s, ixs_tp, ixs_pd, ixs_rf, ixs_fz, bi_lenL, bi_lenT, bi_lenS, bi_listL, bi_listT, bi_tupL, bi_tupT, bi_intI, bi_intB, bi_strI, bi_strS, bi_abs, bi_max, bi_min, bi_all, bi_any, bi_sum, in_l, in_t, in_s, tr_b, tr_i, tr_n, tr_l, tr_t, so_l, so_t, so_s, so_f, io_t, ng_i, pt_i, ag_a, ag_s, rv_l, rv_t, ap_d, rk_l, rk_t, rk_s, rg_1, rg_2, sl_l, sl_t, sl_s, mt_ixS, wp_mkT0, wp_mkT1, wp_mkT2, wp_mkT3, wp_mkT4, wp_mkT5, wp_mkT6, wp_mkT7, wp_mkT8]
      refine near_call (m := 95) gx t2 rfl (by decide) fun y b3 t3 gy => ?_
      try simp only [wp_ret, wp_bnd, wp_some, wp_grd, wp_no, wp_dat_pd, wp_dat_fz,  ev, evs, evO, evI, evC, evTs, AI.ex, asgG, asgGs, getV, wp_exs, wp_exs_nil, goS_nx, goS_rt, goS_bk, goS_ct, turnE_nx, turnE_ct, turnE_bk, turnE_rt, endD_rt, endD_nx, back_pd, binS, isFz, cmpS, biS, dats, truth, isiS, allPd, isiD, rkOf, join_some, Option.map, List.map, List.length_cons, List.length_nil, List.getElem?_cons_zero, List.getElem?_cons_succ, List.set_cons_zero, List.set_cons_succ, startS, atI_pos, atI_cast, Int.toNat_natCast, wp_newL1, wp_newL2, wp_newT1, List.length_set, List.set_set, decide_eq_true_eq, decide_eq_false_iff_not, Bool.not_eq_true', true_and, and_true,  ixN_pos, Int.reduceLE, Int.reduceLT, Int.reduceToNat, Int.reduceAdd, Int.reduceSub, Int.reduceMul, Int.reduceMod, Int.reduceNeg, Int.reducePow, Nat.reduceAdd, Nat.reduceLT, Nat.reduceLeDiff, Nat.reduceSub, reduceIte, Int.reduceEq, List.isEmpty_nil, Bool.false_eq_true, Bool.true_eq_false, decide_true, decide_false, ge_iff_le, gt_iff_lt,  wp_eq_int, wp_eq_str, wp_eq_bool, List.length_map, List.replicate, List.cons_append, List.nil_append, Bool.not_false, Bool.not_true, Bool.and_true, Bool.true_and, Bool.and_self, Bool.and_false, Bool.false_and, Option.bind, bn_add, bn_sub, bn_mul, bn_div, bn_mod, bn_pow, bn_addS, bn_addT, bn_addL, cp_eq, cp_ne, cp_ltI, cp_leI, cp_gtI, cp_geI, cp_ltS, cp_leS, cp_gtS, cp_geS, cp_ltT, cp_gtT, cp_in, cp_nin, cp_is, cp_isn, ix_l, ix_t, ix_s, ixs_tp, ixs_pd, ixs_rf, ixs_fz, bi_lenL, bi_lenT, bi_lenS, bi_listL, bi_listT, bi_tupL, bi_tupT, bi_intI, bi_intB, bi_strI, bi_strS, bi_abs, bi_max, bi_min, bi_all, bi_any, bi_sum, in_l, in_t, in_s, tr_b, tr_i, tr_n, tr_l, tr_t, so_l, so_t, so_s, so_f, io_t, ng_i, pt_i, ag_a, ag_s, rv_l, rv_t, ap_d, rk_l, rk_t, rk_s, rg_1, rg_2, sl_l, sl_t, sl_s, mt_ixS, wp_mkT0, wp_mkT1, wp_mkT2, wp_mkT3, wp_mkT4, wp_mkT5, wp_mkT6, wp_mkT7, wp_mkT8]
      exact ⟨_, _, rfl, rfl, t3.up (by omega), gy⟩
    · simp only [wp_ret, wp_bnd, wp_some, wp_grd, wp_no, wp_dat_pd, wp_dat_fz,  ev, evs, evO, evI, evC, evTs, AI.ex, asgG, asgGs, getV, wp_exs, wp_exs_nil, goS_nx, goS_rt, goS_bk, goS_ct, turnE_nx, turnE_ct, turnE_bk, turnE_rt, endD_rt, endD_nx, back_pd, binS, isFz, cmpS, biS, dats, truth, isiS, allPd, isiD, rkOf, join_some, Option.map, List.map, List.length_cons, List.length_nil, List.getElem?_cons_zero, List.getElem?_cons_succ, List.set_cons_zero, List.set_cons_succ, startS, atI_pos, atI_cast, Int.toNat_natCast, wp_newL1, wp_newL2, wp_newT1, List.length_set, List.set_set, decide_eq_true_eq, decide_eq_false_iff_not, Bool.not_eq_true', true_and, and_true,  ixN_pos, Int.reduceLE, Int.reduceLT, Int.reduceToNat, Int.reduceAdd, Int.reduceSub, Int.reduceMul, Int.reduceMod, Int.reduceNeg, Int.reducePow, Nat.reduceAdd, Nat.reduceLT, Nat.reduceLeDiff, Nat.reduceSub, reduceIte, Int.reduceEq, List.isEmpty_nil, Bool.false_eq_true, Bool.true_eq_false, decide_true, decide_false, ge_iff_le, gt_iff_lt,  wp_eq_int, wp_eq_str, wp_eq_bool, List.length_map, List.replicate, List.cons_append, List.nil_append, Bool.not_false, Bool.not_true, Bool.and_true, Bool.true_and, Bool.and_self, Bool.and_false, Bool.false_and, Option.bind, bn_add, bn_sub, bn_mul, bn_div, bn_mod, bn_pow, bn_addS, bn_addT, bn_addL, cp_eq, cp_ne, cp_ltI, cp_leI, cp_gtI, cp_geI, cp_ltS, cp_leS, cp_gtS, cp_geS, cp_ltT, cp_gtT, cp_in, cp_nin, cp_is, cp_isn, ix_l, ix_t, ix_s, ixs_tp, ixs_pd, ixs_rf, ixs_fz, bi_lenL, bi_lenT, bi_lenS, bi_listL, bi_listT, bi_tupL, bi_tupT, bi_intI, bi_intB, bi_strI, bi_strS, bi_abs, bi_max, bi_min, bi_all, bi_any, bi_sum, in_l, in_t, in_s, tr_b, tr_i, tr_n, tr_l, tr_t, so_l, so_t, so_s, so_f, io_t, ng_i, pt_i, ag_a, ag_s, rv_l, rv_t, ap_d, rk_l, rk_t, rk_s, rg_1, rg_2, sl_l, sl_t, sl_s, mt_ixS, wp_mkT0, wp_mkT1, wp_mkT2, wp_mkT3, wp_mkT4, wp_mkT5, wp_mkT6, wp_mkT7, wp_mkT8]
      exact ⟨_, _, rfl, rfl, t2.up (by omega), gx⟩
  rintro f h' ⟨y, b3, rfl, rfl, t3, gy⟩
  simp only [wp_ret, wp_bnd, wp_some, wp_grd, wp_no, wp_dat_pd, wp_dat_fz,  ev, evs, evO, evI, evC, evTs, AI.ex, asgG, asgGs, getV, wp_exs, wp_exs_nil, goS_nx, goS_rt, goS_bk, goS_ct, turnE_nx, turnE_ct, turnE_bk, turnE_rt, endD_rt, endD_nx, back_pd, binS, isFz, cmpS, biS, dats, truth, isiS, allPd, isiD, rkOf, join_some, Option.map, List.map, List.length_cons, List.length_nil, List.getElem?_cons_zero, List.getElem?_cons_succ, List.set_cons_zero, List.set_cons_succ, startS, atI_pos, atI_cast, Int.toNat_natCast, wp_newL1, wp_newL2, wp_newT1, List.length_set, List.set_set, decide_eq_true_eq, decide_eq_false_iff_not, Bool.not_eq_true', true_and, and_true,  ixN_pos, Int.reduceLE, Int.reduceLT, Int.reduceToNat, Int.reduceAdd, Int.reduceSub, Int.reduceMul, Int.reduceMod, Int.reduceNeg, Int.reducePow, Nat.reduceAdd, Nat.reduceLT, Nat.reduceLeDiff, Nat.reduceSub, reduceIte, Int.reduceEq, List.isEmpty_nil, Bool.false_eq_true, Bool.true_eq_false, decide_true, decide_false, ge_iff_le, gt_iff_lt,  wp_eq_int, wp_eq_str, wp_eq_bool, List.length_map, List.replicate, List.cons_append, List.nil_append, Bool.not_false, Bool.not_true, Bool.and_true, Bool.true_and, Bool.and_self, Bool.and_false, Bool.false_and, Option.bind, bn_add, bn_sub, bn_mul, bn_div, bn_mod, bn_pow, bn_addS, bn_addT, bn_addL, cp_eq, cp_ne, cp_ltI, cp_leI, cp_gtI, cp_geI, cp_ltS, cp_leS, cp_gtS, cp_geS, cp_ltT, cp_gtT, cp_in, cp_nin, cp_is, cp_isn, ix_l, ix_t, ix_s, ixs_tp, ixs_pd, ixs_rf, ixs_fz, bi_lenL, bi_lenT, bi_lenS, bi_listL, bi_listT, bi_tupL, bi_tupT, bi_intI, bi_intB, bi_strI, bi_strS, bi_abs, bi_max, bi_min, bi_all, bi_any, bi_sum, in_l, in_t, in_s, tr_b, tr_i, tr_n, tr_l, tr_t, so_l, so_t, so_s, so_f, io_t, ng_i, pt_i, ag_a, ag_s, rv_l, rv_t, ap_d, rk_l, rk_t, rk_s, rg_1, rg_2, sl_l, sl_t, sl_s, mt_ixS, wp_mkT0, wp_mkT1, wp_mkT2, wp_mkT3, wp_mkT4, wp_mkT5, wp_mkT6, wp_mkT7, wp_mkT8]
  refine wp_mono (Q := fun f h' => ∃ y b3, f = .nx [some (.fz (ns.map .int)), some (.rf 0), some (.pd x), some (.pd (.int v)), some (.pd y), none] ∧ h' = [b3] ∧ GV y) ?_ ?_
  · refine wp_if (fun c0 => ?_) (fun c0 => ?_)
    · simp only [wp_ret, wp_bnd, wp_some, wp_grd, wp_no, wp_dat_pd, wp_dat_fz,  ev, evs, evO, evI, evC, evTs, AI.ex, asgG, asgGs, getV, wp_exs, wp_exs_nil, goS_nx, goS_rt, goS_bk, goS_ct, turnE_nx, turnE_ct, turnE_bk, turnE_rt, endD_rt, endD_nx, back_pd, binS, isFz, cmpS, biS, dats, truth, isiS, allPd, isiD, rkOf, join_some, Option.map, List.map, List.length_cons, List.length_nil, List.getElem?_cons_zero, List.getElem?_cons_succ, List.set_cons_zero, List.set_cons_succ, startS, atI_pos, atI_cast, Int.toNat_natCast, wp_newL1, wp_newL2, wp_newT1, List.length_set, List.set_set, decide_eq_true_eq, decide_eq_false_iff_not, Bool.not_eq_true', true_and, and_true,  ixN_pos, Int.reduceLE, Int.reduceLT, Int.reduceToNat, Int.reduceAdd, Int.reduceSub, Int.reduceMul, Int.reduceMod, Int.reduceNeg, Int.reducePow, Nat.reduceAdd, Nat.reduceLT, Nat.reduceLeDiff, Nat.reduceSub, reduceIte, Int.reduceEq, List.isEmpty_nil, Bool.false_eq_true, Bool.true_eq_false, decide_true, decide_false, ge_iff_le, gt_iff_lt,  wp_eq_int, wp_eq_str, wp_eq_bool, List.length_map, List.replicate, List.cons_append, List.nil_append, Bool.not_false, Bool.not_true, Bool.and_true, Bool.true_and, Bool.and_self, Bool.and_false, Bool.false_and, Option.bind, bn_add, bn_sub, bn_mul, bn_div, bn_mod, bn_pow, bn_addS, bn_addT, bn_addL, cp_eq, cp_ne, cp_ltI, cp_leI, cp_gtI, cp_geI, cp_ltS, cp_leS, cp_gtS, cp_geS, cp_ltT, cp_gtT, cp_in, cp_nin, cp_is, cp_isn, ix_l, ix_t, ix_s, ixs_tp, ixs_pd, ixs_rf, ixs_fz, bi_lenL, bi_lenT, bi_lenS, bi_listL, bi_listT, bi_tupL, bi_tupT, bi_intI, bi_intB, bi_strI, bi_strS, bi_abs, bi_max, bi_min, bi_all, bi_any, bi_sum, in_l, in_t, in_s, tr_b, tr_i, tr_n, tr_l, tr_t, so_l, so_t, so_s, so_f, io_t, ng_i, pt_i, ag_a, ag_s, rv_l, rv_t, ap_d, rk_l, rk_t, rk_s, rg_1, rg_2, sl_l, sl_t, sl_s, mt_ixS, wp_mkT0, wp_mkT1, wp_mkT2, wp_mkT3, wp_mkT4, wp_mkT5, wp_mkT6, wp_mkT7, wp_mkT8]
      refine any_call (m := 95) t3 rfl (by decide) fun y b4 t4 gy => ?_
      try simp only [wp_ret, wp_bnd, wp_some, wp_grd, wp_no, wp_dat_pd, wp_dat_fz,  ev, evs, evO, evI, evC, evTs, AI.ex, asgG, asgGs, getV, wp_exs, wp_exs_nil, goS_nx, goS_rt, goS_bk, goS_ct, turnE_nx, turnE_ct, turnE_bk, turnE_rt, endD_rt, endD_nx, back_pd, binS, isFz, cmpS, biS, dats, truth, isiS, allPd, isiD, rkOf, join_some, Option.map, List.map, List.length_cons, List.length_nil, List.getElem?_cons_zero, List.getElem?_cons_succ, List.set_cons_zero, List.set_cons_succ, startS, atI_pos, atI_cast, Int.toNat_natCast, wp_newL1, wp_newL2, wp_newT1, List.length_set, List.set_set, decide_eq_true_eq, decide_eq_false_iff_not, Bool.not_eq_true', true_and, and_true,  ixN_pos, Int.reduceLE, Int.reduceLT, Int.reduceToNat, Int.reduceAdd, Int.reduceSub, Int.reduceMul, Int.reduceMod, Int.reduceNeg, Int.reducePow, Nat.reduceAdd, Nat.reduceLT, Nat.reduceLeDiff, Nat.reduceSub, reduceIte, Int.reduceEq, List.isEmpty_nil, Bool.false_eq_true, Bool.true_eq_false, decide_true, decide_false, ge_iff_le, gt_iff_lt,  wp_eq_int, wp_eq_str, wp_eq_bool, List.length_map, List.replicate, List.cons_append, List.nil_append, Bool.not_false, Bool.not_true, Bool.and_true, Bool.true_and, Bool.and_self, Bool.and_false, Bool.false_and, Option.bind, bn_add, bn_sub, bn_mul, bn_div, bn_mod, bn_pow, bn_addS, bn_addT, bn_addL, cp_eq, cp_ne, cp_ltI, cp_leI, cp_gtI, cp_geI, cp_ltS, cp_leS, cp_gtS, cp_geS, cp_ltT, cp_gtT, cp_in, cp_nin, cp_is, cp_isn, ix_l, ix_t, ix_s, ixs_tp, ixs_pd, ixs_rf, ixs_fz, bi_lenL, bi_lenT, bi_lenS, bi_listL, bi_listT, bi_tupL, bi_tupT, bi_intI, bi_intB, bi_strI, bi_strS, bi_abs, bi_max, bi_min, bi_all, bi_any, bi_sum, in_l, in_t, in_s, tr_b, tr_i, tr_n, tr_l, tr_t, so_l, so_t, so_s, so_f, io_t, ng_i, pt_i, ag_a, ag_s, rv_l, rv_t, ap_d, rk_l, rk_t, rk_s, rg_1, rg_2, sl_l, sl_t, sl_s, mt_ixS, wp_mkT0, wp_mkT1, wp_mkT2, wp_mkT3, wp_mkT4, wp_mkT5, wp_mkT6, wp_mkT7, wp_mkT8]
      exact ⟨_, _, rfl, rfl, gy⟩
    · simp only [wp_ret, wp_bnd, wp_some, wp_grd, wp_no, wp_dat_pd, wp_dat_fz,  ev, evs, evO, evI, evC, evTs, AI.ex, asgG, asgGs, getV, wp_exs, wp_exs_nil, goS_nx, goS_rt, goS_bk, goS_ct, turnE_nx, turnE_ct, turnE_bk, turnE_rt, endD_rt, endD_nx, back_pd, binS, isFz, cmpS, biS, dats, truth, isiS, allPd, isiD, rkOf, join_some, Option.map, List.map, List.length_cons, List.length_nil, List.getElem?_cons_zero, List.getElem?_cons_succ, List.set_cons_zero, List.set_cons_succ, startS, atI_pos, atI_cast, Int.toNat_natCast, wp_newL1, wp_newL2, wp_newT1, List.length_set, List.set_set, decide_eq_true_eq, decide_eq_false_iff_not, Bool.not_eq_true', true_and, and_true,  ixN_pos, Int.reduceLE, Int.reduceLT, Int.reduceToNat, Int.reduceAdd, Int.reduceSub, Int.reduceMul, Int.reduceMod, Int.reduceNeg, Int.reducePow, Nat.reduceAdd, Nat.reduceLT, Nat.reduceLeDiff, Nat.reduceSub, reduceIte, Int.reduceEq, List.isEmpty_nil, Bool.false_eq_true, Bool.true_eq_false, decide_true, decide_false, ge_iff_le, gt_iff_lt,  wp_eq_int, wp_eq_str, wp_eq_bool, List.length_map, List.replicate, List.cons_append, List.nil_append, Bool.not_false, Bool.not_true, Bool.and_true, Bool.true_and, Bool.and_self, Bool.and_false, Bool.false_and, Option.bind, bn_add, bn_sub, bn_mul, bn_div, bn_mod, bn_pow, bn_addS, bn_addT, bn_addL, cp_eq, cp_ne, cp_ltI, cp_leI, cp_gtI, cp_geI, cp_ltS, cp_leS, cp_gtS, cp_geS, cp_ltT, cp_gtT, cp_in, cp_nin, cp_is, cp_isn, ix_l, ix_t, ix_s, ixs_tp, ixs_pd, ixs_rf, ixs_fz, bi_lenL, bi_lenT, bi_lenS, bi_listL, bi_listT, bi_tupL, bi_tupT, bi_intI, bi_intB, bi_strI, bi_strS, bi_abs, bi_max, bi_min, bi_all, bi_any, bi_sum, in_l, in_t, in_s, tr_b, tr_i, tr_n, tr_l, tr_t, so_l, so_t, so_s, so_f, io_t, ng_i, pt_i, ag_a, ag_s, rv_l, rv_t, ap_d, rk_l, rk_t, rk_s, rg_1, rg_2, sl_l, sl_t, sl_s, mt_ixS, wp_mkT0, wp_mkT1, wp_mkT2, wp_mkT3, wp_mkT4, wp_mkT5, wp_mkT6, wp_mkT7, wp_mkT8]
      exact ⟨_, _, rfl, rfl, gy⟩
  rintro f h' ⟨y, b3, rfl, rfl, gy⟩
  simp only [wp_ret, wp_bnd, wp_some, wp_grd, wp_no, wp_dat_pd, wp_dat_fz,  ev, evs, evO, evI, evC, evTs, AI.ex, asgG, asgGs, getV, wp_exs, wp_exs_nil, goS_nx, goS_rt, goS_bk, goS_ct, turnE_nx, turnE_ct, turnE_bk, turnE_rt, endD_rt, endD_nx, back_pd, binS, isFz, cmpS, biS, dats, truth, isiS, allPd, isiD, rkOf, join_some, Option.map, List.map, List.length_cons, List.length_nil, List.getElem?_cons_zero, List.getElem?_cons_succ, List.set_cons_zero, List.set_cons_succ, startS, atI_pos, atI_cast, Int.toNat_natCast, wp_newL1, wp_newL2, wp_newT1, List.length_set, List.set_set, decide_eq_true_eq, decide_eq_false_iff_not, Bool.not_eq_true', true_and, and_true,  ixN_pos, Int.reduceLE, Int.reduceLT, Int.reduceToNat, Int.reduceAdd, Int.reduceSub, Int.reduceMul, Int.reduceMod, Int.reduceNeg, Int.reducePow, Nat.reduceAdd, Nat.reduceLT, Nat.reduceLeDiff, Nat.reduceSub, reduceIte, Int.reduceEq, List.isEmpty_nil, Bool.false_eq_true, Bool.true_eq_false, decide_true, decide_false, ge_iff_le, gt_iff_lt,  wp_eq_int, wp_eq_str, wp_eq_bool, List.length_map, List.replicate, List.cons_append, List.nil_append, Bool.not_false, Bool.not_true, Bool.and_true, Bool.true_and, Bool.and_self, Bool.and_false, Bool.false_and, Option.bind, bn_add, bn_sub, bn_mul, bn_div, bn_mod, bn_pow, bn_addS, bn_addT, bn_addL, cp_eq, cp_ne, cp_ltI, cp_leI, cp_gtI, cp_geI, cp_ltS, cp_leS, cp_gtS, cp_geS, cp_ltT, cp_gtT, cp_in, cp_nin, cp_is, cp_isn, ix_l, ix_t, ix_s, ixs_tp, ixs_pd, ixs_rf, ixs_fz, bi_lenL, bi_lenT, bi_lenS, bi_listL, bi_listT, bi_tupL, bi_tupT, bi_intI, bi_intB, bi_strI, bi_strS, bi_abs, bi_max, bi_min, bi_all, bi_any, bi_sum, in_l, in_t, in_s, tr_b, tr_i, tr_n, tr_l, tr_t, so_l, so_t, so_s, so_f, io_t, ng_i, pt_i, ag_a, ag_s, rv_l, rv_t, ap_d, rk_l, rk_t, rk_s, rg_1, rg_2, sl_l, sl_t, sl_s, mt_ixS, wp_mkT0, wp_mkT1, wp_mkT2, wp_mkT3, wp_mkT4, wp_mkT5, wp_mkT6, wp_mkT7, wp_mkT8]
  refine before_call (m := 97) gx gy ?_
  simp only [wp_ret, wp_bnd, wp_some, wp_grd, wp_no, wp_dat_pd, wp_dat_fz,  ev, evs, evO, evI, evC, evTs, AI.ex, asgG, asgGs, getV, wp_exs, wp_exs_nil, goS_nx, goS_rt, goS_bk, goS_ct, turnE_nx, turnE_ct, turnE_bk, turnE_rt, endD_rt, endD_nx, back_pd, binS, isFz, cmpS, biS, dats, truth, isiS, allPd, isiD, rkOf, join_some, Option.map, List.map, List.length_cons, List.length_nil, List.getElem?_cons_zero, List.getElem?_cons_succ, List.set_cons_zero, List.set_cons_succ, startS, atI_pos, atI_cast, Int.toNat_natCast, wp_newL1, wp_newL2, wp_newT1, List.length_set, List.set_set, decide_eq_true_eq, decide_eq_false_iff_not, Bool.not_eq_true', true_and, and_true,  ixN_pos, Int.reduceLE, Int.reduceLT, Int.reduceToNat, Int.reduceAdd, Int.reduceSub, Int.reduceMul, Int.reduceMod, Int.reduceNeg, Int.reducePow, Nat.reduceAdd, Nat.reduceLT, Nat.reduceLeDiff, Nat.reduceSub, reduceIte, Int.reduceEq, List.isEmpty_nil, Bool.false_eq_true, Bool.true_eq_false, decide_true, decide_false, ge_iff_le, gt_iff_lt,  wp_eq_int, wp_eq_str, wp_eq_bool, List.length_map, List.replicate, List.cons_append, List.nil_append, Bool.not_false, Bool.not_true, Bool.and_true, Bool.true_and, Bool.and_self, Bool.and_false, Bool.false_and, Option.bind, bn_add, bn_sub, bn_mul, bn_div, bn_mod, bn_pow, bn_addS, bn_addT, bn_addL, cp_eq, cp_ne, cp_ltI, cp_leI, cp_gtI, cp_geI, cp_ltS, cp_leS, cp_gtS, cp_geS, cp_ltT, cp_gtT, cp_in, cp_nin, cp_is, cp_isn, ix_l, ix_t, ix_s, ixs_tp, ixs_pd, ixs_rf, ixs_fz, bi_lenL, bi_lenT, bi_lenS, bi_listL, bi_listT, bi_tupL, bi_tupT, bi_intI, bi_intB, bi_strI, bi_strS, bi_abs, bi_max, bi_min, bi_all, bi_any, bi_sum, in_l, in_t, in_s, tr_b, tr_i, tr_n, tr_l, tr_t, so_l, so_t, so_s, so_f, io_t, ng_i, pt_i, ag_a, ag_s, rv_l, rv_t, ap_d, rk_l, rk_t, rk_s, rg_1, rg_2, sl_l, sl_t, sl_s, mt_ixS, wp_mkT0, wp_mkT1, wp_mkT2, wp_mkT3, wp_mkT4, wp_mkT5, wp_mkT6, wp_mkT7, wp_mkT8]
  have no := say_ok x y gx gy
  refine wp_mono (Q := fun f h' => f = .nx [some (.fz (ns.map .int)), some (.rf 0), some (.pd x), some (.pd (.int v)), some (.pd y), some (.pd (.int (if before x y = true then -1 else 0)))] ∧ h' = [b3]) ?_ ?_
  · refine wp_if (fun c0 => ?_) (fun c0 => ?_)
    · simp only [wp_ret, wp_bnd, wp_some, wp_grd, wp_no, wp_dat_pd, wp_dat_fz,  ev, evs, evO, evI, evC, evTs, AI.ex, asgG, asgGs, getV, wp_exs, wp_exs_nil, goS_nx, goS_rt, goS_bk, goS_ct, turnE_nx, turnE_ct, turnE_bk, turnE_rt, endD_rt, endD_nx, back_pd, binS, isFz, cmpS, biS, dats, truth, isiS, allPd, isiD, rkOf, join_some, Option.map, List.map, List.length_cons, List.length_nil, List.getElem?_cons_zero, List.getElem?_cons_succ, List.set_cons_zero, List.set_cons_succ, startS, atI_pos, atI_cast, Int.toNat_natCast, wp_newL1, wp_newL2, wp_newT1, List.length_set, List.set_set, decide_eq_true_eq, decide_eq_false_iff_not, Bool.not_eq_true', true_and, and_true,  ixN_pos, Int.reduceLE, Int.reduceLT, Int.reduceToNat, Int.reduceAdd, Int.reduceSub, Int.reduceMul, Int.reduceMod, Int.reduceNeg, Int.reducePow, Nat.reduceAdd, Nat.reduceLT, Nat.reduceLeDiff, Nat.reduceSub, reduceIte, Int.reduceEq, List.isEmpty_nil, Bool.false_eq_true, Bool.true_eq_false, decide_true, decide_false, ge_iff_le, gt_iff_lt,  wp_eq_int, wp_eq_str, wp_eq_bool, List.length_map, List.replicate, List.cons_append, List.nil_append, Bool.not_false, Bool.not_true, Bool.and_true, Bool.true_and, Bool.and_self, Bool.and_false, Bool.false_and, Option.bind, bn_add, bn_sub, bn_mul, bn_div, bn_mod, bn_pow, bn_addS, bn_addT, bn_addL, cp_eq, cp_ne, cp_ltI, cp_leI, cp_gtI, cp_geI, cp_ltS, cp_leS, cp_gtS, cp_geS, cp_ltT, cp_gtT, cp_in, cp_nin, cp_is, cp_isn, ix_l, ix_t, ix_s, ixs_tp, ixs_pd, ixs_rf, ixs_fz, bi_lenL, bi_lenT, bi_lenS, bi_listL, bi_listT, bi_tupL, bi_tupT, bi_intI, bi_intB, bi_strI, bi_strS, bi_abs, bi_max, bi_min, bi_all, bi_any, bi_sum, in_l, in_t, in_s, tr_b, tr_i, tr_n, tr_l, tr_t, so_l, so_t, so_s, so_f, io_t, ng_i, pt_i, ag_a, ag_s, rv_l, rv_t, ap_d, rk_l, rk_t, rk_s, rg_1, rg_2, sl_l, sl_t, sl_s, mt_ixS, wp_mkT0, wp_mkT1, wp_mkT2, wp_mkT3, wp_mkT4, wp_mkT5, wp_mkT6, wp_mkT7, wp_mkT8, c0]
    · simp only [wp_ret, wp_bnd, wp_some, wp_grd, wp_no, wp_dat_pd, wp_dat_fz,  ev, evs, evO, evI, evC, evTs, AI.ex, asgG, asgGs, getV, wp_exs, wp_exs_nil, goS_nx, goS_rt, goS_bk, goS_ct, turnE_nx, turnE_ct, turnE_bk, turnE_rt, endD_rt, endD_nx, back_pd, binS, isFz, cmpS, biS, dats, truth, isiS, allPd, isiD, rkOf, join_some, Option.map, List.map, List.length_cons, List.length_nil, List.getElem?_cons_zero, List.getElem?_cons_succ, List.set_cons_zero, List.set_cons_succ, startS, atI_pos, atI_cast, Int.toNat_natCast, wp_newL1, wp_newL2, wp_newT1, List.length_set, List.set_set, decide_eq_true_eq, decide_eq_false_iff_not, Bool.not_eq_true', true_and, and_true,  ixN_pos, Int.reduceLE, Int.reduceLT, Int.reduceToNat, Int.reduceAdd, Int.reduceSub, Int.reduceMul, Int.reduceMod, Int.reduceNeg, Int.reducePow, Nat.reduceAdd, Nat.reduceLT, Nat.reduceLeDiff, Nat.reduceSub, reduceIte, Int.reduceEq, List.isEmpty_nil, Bool.false_eq_true, Bool.true_eq_false, decide_true, decide_false, ge_iff_le, gt_iff_lt,  wp_eq_int, wp_eq_str, wp_eq_bool, List.length_map, List.replicate, List.cons_append, List.nil_append, Bool.not_false, Bool.not_true, Bool.and_true, Bool.true_and, Bool.and_self, Bool.and_false, Bool.false_and, Option.bind, bn_add, bn_sub, bn_mul, bn_div, bn_mod, bn_pow, bn_addS, bn_addT, bn_addL, cp_eq, cp_ne, cp_ltI, cp_leI, cp_gtI, cp_geI, cp_ltS, cp_leS, cp_gtS, cp_geS, cp_ltT, cp_gtT, cp_in, cp_nin, cp_is, cp_isn, ix_l, ix_t, ix_s, ixs_tp, ixs_pd, ixs_rf, ixs_fz, bi_lenL, bi_lenT, bi_lenS, bi_listL, bi_listT, bi_tupL, bi_tupT, bi_intI, bi_intB, bi_strI, bi_strS, bi_abs, bi_max, bi_min, bi_all, bi_any, bi_sum, in_l, in_t, in_s, tr_b, tr_i, tr_n, tr_l, tr_t, so_l, so_t, so_s, so_f, io_t, ng_i, pt_i, ag_a, ag_s, rv_l, rv_t, ap_d, rk_l, rk_t, rk_s, rg_1, rg_2, sl_l, sl_t, sl_s, mt_ixS, wp_mkT0, wp_mkT1, wp_mkT2, wp_mkT3, wp_mkT4, wp_mkT5, wp_mkT6, wp_mkT7, wp_mkT8, c0]
  rintro f h' ⟨rfl, rfl⟩
  simp only [wp_ret, wp_bnd, wp_some, wp_grd, wp_no, wp_dat_pd, wp_dat_fz,  ev, evs, evO, evI, evC, evTs, AI.ex, asgG, asgGs, getV, wp_exs, wp_exs_nil, goS_nx, goS_rt, goS_bk, goS_ct, turnE_nx, turnE_ct, turnE_bk, turnE_rt, endD_rt, endD_nx, back_pd, binS, isFz, cmpS, biS, dats, truth, isiS, allPd, isiD, rkOf, join_some, Option.map, List.map, List.length_cons, List.length_nil, List.getElem?_cons_zero, List.getElem?_cons_succ, List.set_cons_zero, List.set_cons_succ, startS, atI_pos, atI_cast, Int.toNat_natCast, wp_newL1, wp_newL2, wp_newT1, List.length_set, List.set_set, decide_eq_true_eq, decide_eq_false_iff_not, Bool.not_eq_true', true_and, and_true,  ixN_pos, Int.reduceLE, Int.reduceLT, Int.reduceToNat, Int.reduceAdd, Int.reduceSub, Int.reduceMul, Int.reduceMod, Int.reduceNeg, Int.reducePow, Nat.reduceAdd, Nat.reduceLT, Nat.reduceLeDiff, Nat.reduceSub, reduceIte, Int.reduceEq, List.isEmpty_nil, Bool.false_eq_true, Bool.true_eq_false, decide_true, decide_false, ge_iff_le, gt_iff_lt,  wp_eq_int, wp_eq_str, wp_eq_bool, List.length_map, List.replicate, List.cons_append, List.nil_append, Bool.not_false, Bool.not_true, Bool.and_true, Bool.true_and, Bool.and_self, Bool.and_false, Bool.false_and, Option.bind, bn_add, bn_sub, bn_mul, bn_div, bn_mod, bn_pow, bn_addS, bn_addT, bn_addL, cp_eq, cp_ne, cp_ltI, cp_leI, cp_gtI, cp_geI, cp_ltS, cp_leS, cp_gtS, cp_geS, cp_ltT, cp_gtT, cp_in, cp_nin, cp_is, cp_isn, ix_l, ix_t, ix_s, ixs_tp, ixs_pd, ixs_rf, ixs_fz, bi_lenL, bi_lenT, bi_lenS, bi_listL, bi_listT, bi_tupL, bi_tupT, bi_intI, bi_intB, bi_strI, bi_strS, bi_abs, bi_max, bi_min, bi_all, bi_any, bi_sum, in_l, in_t, in_s, tr_b, tr_i, tr_n, tr_l, tr_t, so_l, so_t, so_s, so_f, io_t, ng_i, pt_i, ag_a, ag_s, rv_l, rv_t, ap_d, rk_l, rk_t, rk_s, rg_1, rg_2, sl_l, sl_t, sl_s, mt_ixS, wp_mkT0, wp_mkT1, wp_mkT2, wp_mkT3, wp_mkT4, wp_mkT5, wp_mkT6, wp_mkT7, wp_mkT8]
  refine before_call (m := 97) gy gx ?_
  simp only [wp_ret, wp_bnd, wp_some, wp_grd, wp_no, wp_dat_pd, wp_dat_fz,  ev, evs, evO, evI, evC, evTs, AI.ex, asgG, asgGs, getV, wp_exs, wp_exs_nil, goS_nx, goS_rt, goS_bk, goS_ct, turnE_nx, turnE_ct, turnE_bk, turnE_rt, endD_rt, endD_nx, back_pd, binS, isFz, cmpS, biS, dats, truth, isiS, allPd, isiD, rkOf, join_some, Option.map, List.map, List.length_cons, List.length_nil, List.getElem?_cons_zero, List.getElem?_cons_succ, List.set_cons_zero, List.set_cons_succ, startS, atI_pos, atI_cast, Int.toNat_natCast, wp_newL1, wp_newL2, wp_newT1, List.length_set, List.set_set, decide_eq_true_eq, decide_eq_false_iff_not, Bool.not_eq_true', true_and, and_true,  ixN_pos, Int.reduceLE, Int.reduceLT, Int.reduceToNat, Int.reduceAdd, Int.reduceSub, Int.reduceMul, Int.reduceMod, Int.reduceNeg, Int.reducePow, Nat.reduceAdd, Nat.reduceLT, Nat.reduceLeDiff, Nat.reduceSub, reduceIte, Int.reduceEq, List.isEmpty_nil, Bool.false_eq_true, Bool.true_eq_false, decide_true, decide_false, ge_iff_le, gt_iff_lt,  wp_eq_int, wp_eq_str, wp_eq_bool, List.length_map, List.replicate, List.cons_append, List.nil_append, Bool.not_false, Bool.not_true, Bool.and_true, Bool.true_and, Bool.and_self, Bool.and_false, Bool.false_and, Option.bind, bn_add, bn_sub, bn_mul, bn_div, bn_mod, bn_pow, bn_addS, bn_addT, bn_addL, cp_eq, cp_ne, cp_ltI, cp_leI, cp_gtI, cp_geI, cp_ltS, cp_leS, cp_gtS, cp_geS, cp_ltT, cp_gtT, cp_in, cp_nin, cp_is, cp_isn, ix_l, ix_t, ix_s, ixs_tp, ixs_pd, ixs_rf, ixs_fz, bi_lenL, bi_lenT, bi_lenS, bi_listL, bi_listT, bi_tupL, bi_tupT, bi_intI, bi_intB, bi_strI, bi_strS, bi_abs, bi_max, bi_min, bi_all, bi_any, bi_sum, in_l, in_t, in_s, tr_b, tr_i, tr_n, tr_l, tr_t, so_l, so_t, so_s, so_f, io_t, ng_i, pt_i, ag_a, ag_s, rv_l, rv_t, ap_d, rk_l, rk_t, rk_s, rg_1, rg_2, sl_l, sl_t, sl_s, mt_ixS, wp_mkT0, wp_mkT1, wp_mkT2, wp_mkT3, wp_mkT4, wp_mkT5, wp_mkT6, wp_mkT7, wp_mkT8]
  refine wp_mono (Q := fun f h' => f = .nx [some (.fz (ns.map .int)), some (.rf 0), some (.pd x), some (.pd (.int v)), some (.pd y), some (.pd (.int (sayC x y)))] ∧ h' = [b3]) ?_ ?_
  · refine wp_if (fun c0 => ?_) (fun c0 => ?_)
    · have c1 : ¬ before x y = true := fun c => no ⟨c, c0⟩
      simp only [wp_ret, wp_bnd, wp_some, wp_grd, wp_no, wp_dat_pd, wp_dat_fz,  ev, evs, evO, evI, evC, evTs, AI.ex, asgG, asgGs, getV, wp_exs, wp_exs_nil, goS_nx, goS_rt, goS_bk, goS_ct, turnE_nx, turnE_ct, turnE_bk, turnE_rt, endD_rt, endD_nx, back_pd, binS, isFz, cmpS, biS, dats, truth, isiS, allPd, isiD, rkOf, join_some, Option.map, List.map, List.length_cons, List.length_nil, List.getElem?_cons_zero, List.getElem?_cons_succ, List.set_cons_zero, List.set_cons_succ, startS, atI_pos, atI_cast, Int.toNat_natCast, wp_newL1, wp_newL2, wp_newT1, List.length_set, List.set_set, decide_eq_true_eq, decide_eq_false_iff_not, Bool.not_eq_true', true_and, and_true,  ixN_pos, Int.reduceLE, Int.reduceLT, Int.reduceToNat, Int.reduceAdd, Int.reduceSub, Int.reduceMul, Int.reduceMod, Int.reduceNeg, Int.reducePow, Nat.reduceAdd, Nat.reduceLT, Nat.reduceLeDiff, Nat.reduceSub, reduceIte, Int.reduceEq, List.isEmpty_nil, Bool.false_eq_true, Bool.true_eq_false, decide_true, decide_false, ge_iff_le, gt_iff_lt,  wp_eq_int, wp_eq_str, wp_eq_bool, List.length_map, List.replicate, List.cons_append, List.nil_append, Bool.not_false, Bool.not_true, Bool.and_true, Bool.true_and, Bool.and_self, Bool.and_false, Bool.false_and, Option.bind, bn_add, bn_sub, bn_mul, bn_div, bn_mod, bn_pow, bn_addS, bn_addT, bn_addL, cp_eq, cp_ne, cp_ltI, cp_leI, cp_gtI, cp_geI, cp_ltS, cp_leS, cp_gtS, cp_geS, cp_ltT, cp_gtT, cp_in, cp_nin, cp_is, cp_isn, ix_l, ix_t, ix_s, ixs_tp, ixs_pd, ixs_rf, ixs_fz, bi_lenL, bi_lenT, bi_lenS, bi_listL, bi_listT, bi_tupL, bi_tupT, bi_intI, bi_intB, bi_strI, bi_strS, bi_abs, bi_max, bi_min, bi_all, bi_any, bi_sum, in_l, in_t, in_s, tr_b, tr_i, tr_n, tr_l, tr_t, so_l, so_t, so_s, so_f, io_t, ng_i, pt_i, ag_a, ag_s, rv_l, rv_t, ap_d, rk_l, rk_t, rk_s, rg_1, rg_2, sl_l, sl_t, sl_s, mt_ixS, wp_mkT0, wp_mkT1, wp_mkT2, wp_mkT3, wp_mkT4, wp_mkT5, wp_mkT6, wp_mkT7, wp_mkT8, sayC, c0, c1]
    · simp only [wp_ret, wp_bnd, wp_some, wp_grd, wp_no, wp_dat_pd, wp_dat_fz,  ev, evs, evO, evI, evC, evTs, AI.ex, asgG, asgGs, getV, wp_exs, wp_exs_nil, goS_nx, goS_rt, goS_bk, goS_ct, turnE_nx, turnE_ct, turnE_bk, turnE_rt, endD_rt, endD_nx, back_pd, binS, isFz, cmpS, biS, dats, truth, isiS, allPd, isiD, rkOf, join_some, Option.map, List.map, List.length_cons, List.length_nil, List.getElem?_cons_zero, List.getElem?_cons_succ, List.set_cons_zero, List.set_cons_succ, startS, atI_pos, atI_cast, Int.toNat_natCast, wp_newL1, wp_newL2, wp_newT1, List.length_set, List.set_set, decide_eq_true_eq, decide_eq_false_iff_not, Bool.not_eq_true', true_and, and_true,  ixN_pos, Int.reduceLE, Int.reduceLT, Int.reduceToNat, Int.reduceAdd, Int.reduceSub, Int.reduceMul, Int.reduceMod, Int.reduceNeg, Int.reducePow, Nat.reduceAdd, Nat.reduceLT, Nat.reduceLeDiff, Nat.reduceSub, reduceIte, Int.reduceEq, List.isEmpty_nil, Bool.false_eq_true, Bool.true_eq_false, decide_true, decide_false, ge_iff_le, gt_iff_lt,  wp_eq_int, wp_eq_str, wp_eq_bool, List.length_map, List.replicate, List.cons_append, List.nil_append, Bool.not_false, Bool.not_true, Bool.and_true, Bool.true_and, Bool.and_self, Bool.and_false, Bool.false_and, Option.bind, bn_add, bn_sub, bn_mul, bn_div, bn_mod, bn_pow, bn_addS, bn_addT, bn_addL, cp_eq, cp_ne, cp_ltI, cp_leI, cp_gtI, cp_geI, cp_ltS, cp_leS, cp_gtS, cp_geS, cp_ltT, cp_gtT, cp_in, cp_nin, cp_is, cp_isn, ix_l, ix_t, ix_s, ixs_tp, ixs_pd, ixs_rf, ixs_fz, bi_lenL, bi_lenT, bi_lenS, bi_listL, bi_listT, bi_tupL, bi_tupT, bi_intI, bi_intB, bi_strI, bi_strS, bi_abs, bi_max, bi_min, bi_all, bi_any, bi_sum, in_l, in_t, in_s, tr_b, tr_i, tr_n, tr_l, tr_t, so_l, so_t, so_s, so_f, io_t, ng_i, pt_i, ag_a, ag_s, rv_l, rv_t, ap_d, rk_l, rk_t, rk_s, rg_1, rg_2, sl_l, sl_t, sl_s, mt_ixS, wp_mkT0, wp_mkT1, wp_mkT2, wp_mkT3, wp_mkT4, wp_mkT5, wp_mkT6, wp_mkT7, wp_mkT8, sayC, c0]
  rintro f h' ⟨rfl, rfl⟩
  simp only [wp_ret, wp_bnd, wp_some, wp_grd, wp_no, wp_dat_pd, wp_dat_fz,  ev, evs, evO, evI, evC, evTs, AI.ex, asgG, asgGs, getV, wp_exs, wp_exs_nil, goS_nx, goS_rt, goS_bk, goS_ct, turnE_nx, turnE_ct, turnE_bk, turnE_rt, endD_rt, endD_nx, back_pd, binS, isFz, cmpS, biS, dats, truth, isiS, allPd, isiD, rkOf, join_some, Option.map, List.map, List.length_cons, List.length_nil, List.getElem?_cons_zero, List.getElem?_cons_succ, List.set_cons_zero, List.set_cons_succ, startS, atI_pos, atI_cast, Int.toNat_natCast, wp_newL1, wp_newL2, wp_newT1, List.length_set, List.set_set, decide_eq_true_eq, decide_eq_false_iff_not, Bool.not_eq_true', true_and, and_true,  ixN_pos, Int.reduceLE, Int.reduceLT, Int.reduceToNat, Int.reduceAdd, Int.reduceSub, Int.reduceMul, Int.reduceMod, Int.reduceNeg, Int.reducePow, Nat.reduceAdd, Nat.reduceLT, Nat.reduceLeDiff, Nat.reduceSub, reduceIte, Int.reduceEq, List.isEmpty_nil, Bool.false_eq_true, Bool.true_eq_false, decide_true, decide_false, ge_iff_le, gt_iff_lt,  wp_eq_int, wp_eq_str, wp_eq_bool, List.length_map, List.replicate, List.cons_append, List.nil_append, Bool.not_false, Bool.not_true, Bool.and_true, Bool.true_and, Bool.and_self, Bool.and_false, Bool.false_and, Option.bind, bn_add, bn_sub, bn_mul, bn_div, bn_mod, bn_pow, bn_addS, bn_addT, bn_addL, cp_eq, cp_ne, cp_ltI, cp_leI, cp_gtI, cp_geI, cp_ltS, cp_leS, cp_gtS, cp_geS, cp_ltT, cp_gtT, cp_in, cp_nin, cp_is, cp_isn, ix_l, ix_t, ix_s, ixs_tp, ixs_pd, ixs_rf, ixs_fz, bi_lenL, bi_lenT, bi_lenS, bi_listL, bi_listT, bi_tupL, bi_tupT, bi_intI, bi_intB, bi_strI, bi_strS, bi_abs, bi_max, bi_min, bi_all, bi_any, bi_sum, in_l, in_t, in_s, tr_b, tr_i, tr_n, tr_l, tr_t, so_l, so_t, so_s, so_f, io_t, ng_i, pt_i, ag_a, ag_s, rv_l, rv_t, ap_d, rk_l, rk_t, rk_s, rg_1, rg_2, sl_l, sl_t, sl_s, mt_ixS, wp_mkT0, wp_mkT1, wp_mkT2, wp_mkT3, wp_mkT4, wp_mkT5, wp_mkT6, wp_mkT7, wp_mkT8]
  refine cmp_call (m := 97) gx gy ?_
  refine is_call (m := 98) ?_
  simp only [wp_ret, wp_bnd, wp_some, wp_grd, wp_no, wp_dat_pd, wp_dat_fz,  ev, evs, evO, evI, evC, evTs, AI.ex, asgG, asgGs, getV, wp_exs, wp_exs_nil, goS_nx, goS_rt, goS_bk, goS_ct, turnE_nx, turnE_ct, turnE_bk, turnE_rt, endD_rt, endD_nx, back_pd, binS, isFz, cmpS, biS, dats, truth, isiS, allPd, isiD, rkOf, join_some, Option.map, List.map, List.length_cons, List.length_nil, List.getElem?_cons_zero, List.getElem?_cons_succ, List.set_cons_zero, List.set_cons_succ, startS, atI_pos, atI_cast, Int.toNat_natCast, wp_newL1, wp_newL2, wp_newT1, List.length_set, List.set_set, decide_eq_true_eq, decide_eq_false_iff_not, Bool.not_eq_true', true_and, and_true,  ixN_pos, Int.reduceLE, Int.reduceLT, Int.reduceToNat, Int.reduceAdd, Int.reduceSub, Int.reduceMul, Int.reduceMod, Int.reduceNeg, Int.reducePow, Nat.reduceAdd, Nat.reduceLT, Nat.reduceLeDiff, Nat.reduceSub, reduceIte, Int.reduceEq, List.isEmpty_nil, Bool.false_eq_true, Bool.true_eq_false, decide_true, decide_false, ge_iff_le, gt_iff_lt,  wp_eq_int, wp_eq_str, wp_eq_bool, List.length_map, List.replicate, List.cons_append, List.nil_append, Bool.not_false, Bool.not_true, Bool.and_true, Bool.true_and, Bool.and_self, Bool.and_false, Bool.false_and, Option.bind, bn_add, bn_sub, bn_mul, bn_div, bn_mod, bn_pow, bn_addS, bn_addT, bn_addL, cp_eq, cp_ne, cp_ltI, cp_leI, cp_gtI, cp_geI, cp_ltS, cp_leS, cp_gtS, cp_geS, cp_ltT, cp_gtT, cp_in, cp_nin, cp_is, cp_isn, ix_l, ix_t, ix_s, ixs_tp, ixs_pd, ixs_rf, ixs_fz, bi_lenL, bi_lenT, bi_lenS, bi_listL, bi_listT, bi_tupL, bi_tupT, bi_intI, bi_intB, bi_strI, bi_strS, bi_abs, bi_max, bi_min, bi_all, bi_any, bi_sum, in_l, in_t, in_s, tr_b, tr_i, tr_n, tr_l, tr_t, so_l, so_t, so_s, so_f, io_t, ng_i, pt_i, ag_a, ag_s, rv_l, rv_t, ap_d, rk_l, rk_t, rk_s, rg_1, rg_2, sl_l, sl_t, sl_s, mt_ixS, wp_mkT0, wp_mkT1, wp_mkT2, wp_mkT3, wp_mkT4, wp_mkT5, wp_mkT6, wp_mkT7, wp_mkT8, decide_true]
  refine cmp_call (m := 97) gy gx ?_
  refine is_call (m := 98) ?_
  have e : sayC y x = -sayC x y := by
    unfold sayC
    by_cases c1 : before x y = true
    · by_cases c2 : before y x = true
      · exact absurd ⟨c1, c2⟩ no
      · rw [if_neg c2, if_pos c1, if_pos c1]; rfl
    · by_cases c2 : before y x = true
      · rw [if_pos c2, if_neg c1, if_pos c2]
      · rw [if_neg c2, if_neg c1, if_neg c1, if_neg c2]; rfl
  simp only [wp_ret, wp_bnd, wp_some, wp_grd, wp_no, wp_dat_pd, wp_dat_fz,  ev, evs, evO, evI, evC, evTs, AI.ex, asgG, asgGs, getV, wp_exs, wp_exs_nil, goS_nx, goS_rt, goS_bk, goS_ct, turnE_nx, turnE_ct, turnE_bk, turnE_rt, endD_rt, endD_nx, back_pd, binS, isFz, cmpS, biS, dats, truth, isiS, allPd, isiD, rkOf, join_some, Option.map, List.map, List.length_cons, List.length_nil, List.getElem?_cons_zero, List.getElem?_cons_succ, List.set_cons_zero, List.set_cons_succ, startS, atI_pos, atI_cast, Int.toNat_natCast, wp_newL1, wp_newL2, wp_newT1, List.length_set, List.set_set, decide_eq_true_eq, decide_eq_false_iff_not, Bool.not_eq_true', true_and, and_true,  ixN_pos, Int.reduceLE, Int.reduceLT, Int.reduceToNat, Int.reduceAdd, Int.reduceSub, Int.reduceMul, Int.reduceMod, Int.reduceNeg, Int.reducePow, Nat.reduceAdd, Nat.reduceLT, Nat.reduceLeDiff, Nat.reduceSub, reduceIte, Int.reduceEq, List.isEmpty_nil, Bool.false_eq_true, Bool.true_eq_false, decide_true, decide_false, ge_iff_le, gt_iff_lt,  wp_eq_int, wp_eq_str, wp_eq_bool, List.length_map, List.replicate, List.cons_append, List.nil_append, Bool.not_false, Bool.not_true, Bool.and_true, Bool.true_and, Bool.and_self, Bool.and_false, Bool.false_and, Option.bind, bn_add, bn_sub, bn_mul, bn_div, bn_mod, bn_pow, bn_addS, bn_addT, bn_addL, cp_eq, cp_ne, cp_ltI, cp_leI, cp_gtI, cp_geI, cp_ltS, cp_leS, cp_gtS, cp_geS, cp_ltT, cp_gtT, cp_in, cp_nin, cp_is, cp_isn, ix_l, ix_t, ix_s, ixs_tp, ixs_pd, ixs_rf, ixs_fz, bi_lenL, bi_lenT, bi_lenS, bi_listL, bi_listT, bi_tupL, bi_tupT, bi_intI, bi_intB, bi_strI, bi_strS, bi_abs, bi_max, bi_min, bi_all, bi_any, bi_sum, in_l, in_t, in_s, tr_b, tr_i, tr_n, tr_l, tr_t, so_l, so_t, so_s, so_f, io_t, ng_i, pt_i, ag_a, ag_s, rv_l, rv_t, ap_d, rk_l, rk_t, rk_s, rg_1, rg_2, sl_l, sl_t, sl_s, mt_ixS, wp_mkT0, wp_mkT1, wp_mkT2, wp_mkT3, wp_mkT4, wp_mkT5, wp_mkT6, wp_mkT7, wp_mkT8, e]
end K00

namespace K00
open PySem AI
abbrev R : PySem.W.OpenRow := PySem.W.OpenLaw.row PySem.Challenge.rw_indoubt_k00_values_in_order
theorem run (w : World) : HandSHeadRun.RunEq R (PySem.W.view R.prog [12]) (hookA 4 tab) (obA 4 tab) 900 ["__name__", "value_key", "compare_values", "_law_tape", "_law_draw", "_law_signs", "_law_text", "_law_any", "_law_near", "_law_comes_before", "_law_is"] w := by
  intro os
  kernel_rfl
end K00
open PySem PySem.W PySem.Calls PyProof.Rows AI
theorem PySem.Challenge.cw_indoubt_k00_values_in_order_holds : PySem.Challenge.rw_indoubt_k00_values_in_order.Holds := by
  w_on; o_law
  refine HandSHeadRun.head_any (r := K00.R) (q := view K00.R.prog [12]) (H := hookA 4 K00.tab) (ob := obA 4 K00.tab) (M := 900) (loose := ["__name__", "value_key", "compare_values", "_law_tape", "_law_draw", "_law_signs", "_law_text", "_law_any", "_law_near", "_law_comes_before", "_law_is"]) (d := HandSHeadRun.topDef K00.R.prog 12) (kwd := []) (obA_eq 4 K00.tab)
    (by kernel_rfl) (fun s => by kernel_rfl) K00.run (by kernel_rfl) (by kernel_rfl) (by kernel_rfl) (by rfl) (by first | assumption | decide +kernel) (by decide +kernel) ⟨rfl, rfl, rfl, rfl, rfl, by decide +kernel⟩ ?hw ?hc
  case hw => w_witness2
  case hc => exact walk_ai K00.tab 100 K00.d_law "_law_script" rfl (by kernel_rfl) ⟨rfl, by decide, by decide⟩ (by kernel_rfl) (by kernel_rfl) rfl K00.allC K00.plain
