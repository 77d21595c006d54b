import PyProof.Rows.All
import Wide.All
import OpenK.AllK
import Wide.FinOn
import HandS.ForMost
import HandS.Wide
import HandS.TupAny
import HandS.Deep
import HandS.IsInst
import HandS.Codes
import HandS.Flow
import HandS.StrMore
import HandS.Rev
import HandS.RevRange
import HandS.Replace
import HandS.TupLe
import PyProof.ReprRoads
import KE.KDictList
import HandS.RaiseMore
import HandS.Strs
import HandS.HeadHook2
import HandS.HeadEnd
import HandS.Style
import HandS.Head2
import PySem.Challenge.RW_indoubt_k17_rows_that_can_be_stored
set_option Elab.async false
set_option linter.all false
set_option maxRecDepth 100000
set_option maxHeartbeats 4000000
/-! AiBase: the plain values, the boxes, how they stand in the abstract heap. -/
namespace AI
open PySem L2

abbrev D := PyData

/-- a value of the plain run: data, a box (something that is changed), a tuple that holds boxes, a frozen list, a name of the module's -/
inductive RV where
  | pd (d : D)
  | rf (n : Nat)
  | tp (xs : List RV)
  | fz (xs : List D)
  | gl (x : Str)

/-- a cell of a list: data, or another box -/
inductive Cl where
  | d (x : D)
  | r (n : Nat)
/-- what stands in a box -/
inductive Box where
  | lst (xs : List D)
  | mix (cs : List Cl)
  | gone
abbrev Boxes := List Box

/-- a tuple, its object known (it has no dict of its own) -/
def TupAt (H : Hp) (a : Addr) (vs : List V) : Prop := ∃ o, H a = some (.frz o (.tup vs)) ∧ o.dict = none
/-- a list of the module's own -/
def KL (K : PySem.W.Frag) (a : Addr) (xs : List V) : Prop := ∃ (o : Obj) (its : Array Value) (n : Nat), K.lookup a = some o ∧ o.cls = .type "list" ∧ o.dict = none ∧ o.data = .seq its n ∧ its.size ≤ sizeLine ∧ Vals xs its.toList
section
variable (K : PySem.W.Frag) (mg : Str → Option Value)
mutual
inductive VD (μ : List Addr) (H : Hp) : V → D → Prop
  | non : VD μ H .non .none
  | bl (b : Bool) : VD μ H (.bl b) (.bool b)
  | int (i : Int) : VD μ H (.int i) (.int i)
  | str (x : Str) : VD μ H (.str x) (.str x)
  | lst {a : Addr} {vs : List V} {ds : List D} : H a = some (.lst vs) → a ∉ μ → vs.length ≤ sizeLine → VDs μ H vs ds → VD μ H (.ref a) (.list ds)
  | tup {a : Addr} {vs : List V} {ds : List D} : TupAt H a vs → a ∉ μ → vs.length ≤ sizeLine → VDs μ H vs ds → VD μ H (.ref a) (.tuple ds)
  | tupK {a : Addr} {vs : List V} {ds : List D} : (∃ (o : Obj) (its : Array Value) (n : Nat), K.lookup a = some o ∧ o.cls = .type "tuple" ∧ o.dict = none ∧ o.data = .seq its n ∧ its.size ≤ sizeLine ∧ Vals vs its.toList) → VDs μ H vs ds → VD μ H (.ref a) (.tuple ds)
inductive VDs (μ : List Addr) (H : Hp) : List V → List D → Prop
  | nil : VDs μ H [] []
  | cons {v : V} {vs : List V} {d : D} {ds : List D} : VD μ H v d → VDs μ H vs ds → VDs μ H (v :: vs) (d :: ds)
end

def VC (μ : List Addr) (H : Hp) (v : V) : Cl → Prop
  | .d x => VD K μ H v x
  | .r n => ∃ a, μ[n]? = some a ∧ v = .ref a
def BoxIs (μ : List Addr) (H : Hp) (a : Addr) : Box → Prop
  | .lst ds => ∃ vs, H a = some (.lst vs) ∧ VDs K μ H vs ds ∧ vs.length ≤ sizeLine
  | .mix cs => ∃ vs, H a = some (.lst vs) ∧ Paired (VC K μ H) vs cs ∧ vs.length ≤ sizeLine
  | .gone => ∃ o, H a = some o

structure RH (μ : List Addr) (h : Boxes) (H : Hp) : Prop where
  len : μ.length = h.length
  nd : μ.Nodup
  box : ∀ (i : Nat) (a : Addr) (b : Box), μ[i]? = some a → h[i]? = some b → BoxIs K μ H a b
  low : ∀ (i : Nat) (cs : List Cl), h[i]? = some (.mix cs) → ∀ n, Cl.r n ∈ cs → n < i

mutual
inductive VR (μ : List Addr) (H : Hp) : V → RV → Prop
  | pd {v : V} {d : D} : VD K μ H v d → VR μ H v (.pd d)
  | rf {a : Addr} {n : Nat} : μ[n]? = some a → VR μ H (.ref a) (.rf n)
  | tp {a : Addr} {vs : List V} {rs : List RV} : TupAt H a vs → a ∉ μ → vs.length ≤ sizeLine → VRs μ H vs rs → VR μ H (.ref a) (.tp rs)
  | fz {a : Addr} {vs : List V} {ds : List D} : SqL K H a vs → ((∃ o, H a = some (.frz o (.lst vs))) ∧ a ∉ μ ∨ KL K a vs) → vs.length ≤ sizeLine → VDs K μ H vs ds → VR μ H (.ref a) (.fz ds)
  | gl {x : Str} {f : Addr} : mg x = some (.ref f) → VR μ H (.ref f) (.gl x)
inductive VRs (μ : List Addr) (H : Hp) : List V → List RV → Prop
  | nil : VRs μ H [] []
  | cons {v : V} {vs : List V} {r : RV} {rs : List RV} : VR μ H v r → VRs μ H vs rs → VRs μ H (v :: vs) (r :: rs)
end

/-- from (μ, H) to (μ', H'): all that was tracked and is no box stands as it stood; new boxes are new -/
structure Ext (μ : List Addr) (H : Hp) (μ' : List Addr) (H' : Hp) : Prop where
  keep : ∀ a o, H a = some o → a ∉ μ → H' a = some o
  pre : ∃ t, μ' = μ ++ t
  new : ∀ a, a ∈ μ' → a ∉ μ → H a = none
end

section
variable {K : PySem.W.Frag} {mg : Str → Option Value} {μ μ' μ'' : List Addr} {H H' H'' : Hp} {h h' h'' : Boxes}
theorem Ext.refl : Ext μ H μ H := ⟨fun _ _ e _ => e, ⟨[], by simp⟩, fun _ a b => absurd a b⟩
theorem Ext.away (e : Ext μ H μ' H') {a : Addr} {o : HO} (h : H a = some o) (n : a ∉ μ) : a ∉ μ' := fun z => by
  have := e.new a z n
  rw [h] at this; cases this
theorem Ext.trans (e : Ext μ H μ' H') (f : Ext μ' H' μ'' H'') : Ext μ H μ'' H'' := by
  refine ⟨fun a o q n => f.keep a o (e.keep a o q n) (e.away q n), ?_, fun a q n => ?_⟩
  · obtain ⟨t, rfl⟩ := e.pre
    obtain ⟨u, rfl⟩ := f.pre
    exact ⟨t ++ u, by simp⟩
  · by_cases hm : a ∈ μ'
    · exact e.new a hm n
    · have := f.new a q hm
      cases z : H a with
      | none => rfl
      | some o => rw [e.keep a o z n] at this; cases this
theorem TupAt.ext (e : Ext μ H μ' H') {a : Addr} {vs : List V} (t : TupAt H a vs) (n : a ∉ μ) : TupAt H' a vs ∧ a ∉ μ' := by
  obtain ⟨o, h, d⟩ := t
  exact ⟨⟨o, e.keep _ _ h n, d⟩, e.away h n⟩
theorem TupAt.sq {a : Addr} {vs : List V} (t : TupAt H a vs) : SqT K H a vs := by
  obtain ⟨o, h, _⟩ := t
  exact .inl (.inr ⟨o, h⟩)
theorem Ext.get (e : Ext μ H μ' H') {n : Nat} {a : Addr} (h : μ[n]? = some a) : μ'[n]? = some a := by
  obtain ⟨t, rfl⟩ := e.pre
  have hl : n < μ.length := by
    rcases Nat.lt_or_ge n μ.length with z | z
    · exact z
    · rw [List.getElem?_eq_none z] at h; cases h
  rw [List.getElem?_append_left hl]; exact h
mutual
theorem VD.ext (e : Ext μ H μ' H') : ∀ (d : D) (v : V), VD K μ H v d → VD K μ' H' v d
  | .none, _, h => by cases h; exact .non
  | .bool b, _, h => by cases h; exact .bl b
  | .int i, _, h => by cases h; exact .int i
  | .str x, _, h => by cases h; exact .str x
  | .list ds, _, h => by
    cases h with
    | lst q n z r => exact .lst (e.keep _ _ q n) (e.away q n) z (VDs.ext e ds _ r)
  | .tuple ds, _, h => by
    cases h with
    | tup q n z r => exact .tup (q.ext e n).1 (q.ext e n).2 z (VDs.ext e ds _ r)
    | tupK q r => exact .tupK q (VDs.ext e ds _ r)
  | .dict _, _, h => by cases h
theorem VDs.ext (e : Ext μ H μ' H') : ∀ (ds : List D) (vs : List V), VDs K μ H vs ds → VDs K μ' H' vs ds
  | [], _, h => by cases h; exact .nil
  | d :: ds, _, h => by
    cases h with
    | cons h1 h2 => exact .cons (VD.ext e d _ h1) (VDs.ext e ds _ h2)
end
mutual
theorem VR.ext (e : Ext μ H μ' H') : ∀ (r : RV) (v : V), VR K mg μ H v r → VR K mg μ' H' v r
  | .pd d, _, h => by cases h with | pd q => exact .pd (VD.ext e d _ q)
  | .rf n, _, h => by cases h with | rf q => exact .rf (e.get q)
  | .tp rs, _, h => by cases h with | tp q n z r => exact .tp (q.ext e n).1 (q.ext e n).2 z (VRs.ext e rs _ r)
  | .fz ds, _, h => by
    cases h with
    | fz q f z r =>
      rcases f with ⟨⟨o, f⟩, n⟩ | f
      · have f' := e.keep _ _ f n
        exact .fz (.inl (.inr ⟨o, f'⟩)) (.inl ⟨⟨o, f'⟩, e.away f n⟩) z (VDs.ext e ds _ r)
      · exact .fz (.inr f) (.inr f) z (VDs.ext e ds _ r)
  | .gl x, _, h => by cases h with | gl q => exact .gl q
theorem VRs.ext (e : Ext μ H μ' H') : ∀ (rs : List RV) (vs : List V), VRs K mg μ H vs rs → VRs K mg μ' H' vs rs
  | [], _, h => by cases h; exact .nil
  | r :: rs, _, h => by
    cases h with
    | cons h1 h2 => exact .cons (VR.ext e r _ h1) (VRs.ext e rs _ h2)
end
theorem VDs.length : ∀ {vs : List V} {ds : List D}, VDs K μ H vs ds → vs.length = ds.length
  | _, _, .nil => rfl
  | _, _, .cons _ t => congrArg (· + 1) (VDs.length t)
theorem VRs.length : ∀ {vs : List V} {ds : List RV}, VRs K mg μ H vs ds → vs.length = ds.length
  | _, _, .nil => rfl
  | _, _, .cons _ t => congrArg (· + 1) (VRs.length t)
theorem VDs.get : ∀ {vs : List V} {ds : List D} {i : Nat} {d : D}, VDs K μ H vs ds → ds[i]? = some d → ∃ v, vs[i]? = some v ∧ VD K μ H v d
  | _, _, _, _, .nil, e => by simp at e
  | _, _, 0, _, .cons r _, e => by simp at e; subst e; exact ⟨_, rfl, r⟩
  | _, _, i + 1, x, .cons _ t, e => by
    obtain ⟨u, h1, h2⟩ := VDs.get (i := i) t (by simpa using e)
    exact ⟨u, by simpa using h1, h2⟩
theorem VDs.get' : ∀ {vs : List V} {ds : List D} {i : Nat} {v : V}, VDs K μ H vs ds → vs[i]? = some v → ∃ d, ds[i]? = some d ∧ VD K μ H v d
  | _, _, _, _, .nil, e => by simp at e
  | _, _, 0, _, .cons r _, e => by simp at e; subst e; exact ⟨_, rfl, r⟩
  | _, _, i + 1, x, .cons _ t, e => by
    obtain ⟨u, h1, h2⟩ := VDs.get' (i := i) t (by simpa using e)
    exact ⟨u, by simpa using h1, h2⟩
theorem VDs.append : ∀ {vs ws : List V} {ds es : List D}, VDs K μ H vs ds → VDs K μ H ws es → VDs K μ H (vs ++ ws) (ds ++ es)
  | _, _, _, _, .nil, s => s
  | _, _, _, _, .cons r t, s => .cons r (VDs.append t s)
theorem VDs.take : ∀ {vs : List V} {ds : List D} (n : Nat), VDs K μ H vs ds → VDs K μ H (vs.take n) (ds.take n)
  | _, _, 0, _ => .nil
  | _, _, _ + 1, .nil => .nil
  | _, _, n + 1, .cons r t => .cons r (VDs.take n t)
theorem VDs.drop : ∀ {vs : List V} {ds : List D} (n : Nat), VDs K μ H vs ds → VDs K μ H (vs.drop n) (ds.drop n)
  | _, _, 0, r => r
  | _, _, _ + 1, .nil => .nil
  | _, _, n + 1, .cons _ t => VDs.drop n t
theorem VDs.reverse {vs : List V} {ds : List D} (h : VDs K μ H vs ds) : VDs K μ H vs.reverse ds.reverse := by
  induction h using VDs.rec (motive_1 := fun _ _ _ => True) with
  | non | bl | int | str | lst | tup | tupK => trivial
  | nil => exact .nil
  | cons h1 _ _ ih => rw [List.reverse_cons, List.reverse_cons]; exact ih.append (.cons h1 .nil)
theorem VDs.set {v : V} {d : D} (r : VD K μ H v d) : ∀ {vs : List V} {ds : List D} (i : Nat), VDs K μ H vs ds → VDs K μ H (vs.set i v) (ds.set i d)
  | _, _, _, .nil => .nil
  | _, _, 0, .cons _ t => .cons r t
  | _, _, i + 1, .cons q t => .cons q (VDs.set r i t)
theorem VRs.get : ∀ {vs : List V} {ds : List RV} {i : Nat} {d : RV}, VRs K mg μ H vs ds → ds[i]? = some d → ∃ v, vs[i]? = some v ∧ VR K mg μ H v d
  | _, _, _, _, .nil, e => by simp at e
  | _, _, 0, _, .cons r _, e => by simp at e; subst e; exact ⟨_, rfl, r⟩
  | _, _, i + 1, x, .cons _ t, e => by
    obtain ⟨u, h1, h2⟩ := VRs.get (i := i) t (by simpa using e)
    exact ⟨u, by simpa using h1, h2⟩
theorem VRs.append : ∀ {vs ws : List V} {ds es : List RV}, VRs K mg μ H vs ds → VRs K mg μ H ws es → VRs K mg μ H (vs ++ ws) (ds ++ es)
  | _, _, _, _, .nil, s => s
  | _, _, _, _, .cons r t, s => .cons r (VRs.append t s)

/-- a box as it stands -/
theorem RH.at (R : RH K μ h H) {i : Nat} {b : Box} (e : h[i]? = some b) : ∃ a, μ[i]? = some a ∧ BoxIs K μ H a b := by
  have hl : i < h.length := by
    rcases Nat.lt_or_ge i h.length with z | z
    · exact z
    · rw [List.getElem?_eq_none z] at e; cases e
  have hl' : i < μ.length := by rw [R.len]; exact hl
  exact ⟨μ[i], List.getElem?_eq_getElem hl', R.box i _ b (List.getElem?_eq_getElem hl') e⟩
theorem RH.there (R : RH K μ h H) {a : Addr} (ha : a ∈ μ) : ∃ o, H a = some o := by
  obtain ⟨i, hi, e⟩ := List.mem_iff_getElem.mp ha
  have hi' : i < h.length := by rw [← R.len]; exact hi
  have := R.box i a h[i] (by rw [List.getElem?_eq_getElem hi, e]) (List.getElem?_eq_getElem hi')
  cases q : h[i] with
  | lst ds => rw [q] at this; obtain ⟨vs, e, _⟩ := this; exact ⟨_, e⟩
  | mix cs => rw [q] at this; obtain ⟨vs, e, _⟩ := this; exact ⟨_, e⟩
  | gone => rw [q] at this; exact this
theorem RH.notin (R : RH K μ h H) {a : Addr} (ha : H a = none) : a ∉ μ := fun z => by
  obtain ⟨o, e⟩ := R.there z
  rw [ha] at e; cases e
theorem VC.ext (e : Ext μ H μ' H') : ∀ (c : Cl) (v : V), VC K μ H v c → VC K μ' H' v c
  | .d x, v, h => VD.ext e x v h
  | .r n, v, ⟨a, q, z⟩ => ⟨a, e.get q, z⟩
theorem VC.all {F G : V → Cl → Prop} (f : ∀ v c, F v c → G v c) : ∀ {vs : List V} {cs : List Cl}, Paired F vs cs → Paired G vs cs
  | _, _, .nil => .nil
  | _, _, .cons r t => .cons (f _ _ r) (VC.all f t)
theorem VC.allM {F G : V → Cl → Prop} : ∀ {vs : List V} {cs : List Cl}, (∀ v c, c ∈ cs → F v c → G v c) → Paired F vs cs → Paired G vs cs
  | _, _, _, .nil => .nil
  | _, _, f, .cons r t => .cons (f _ _ (List.mem_cons_self ..) r) (VC.allM (fun v c m => f v c (List.mem_cons_of_mem _ m)) t)
theorem BoxIs.ext (e : Ext μ H μ' H') {a : Addr} {b : Box} (same : H' a = H a) (x : BoxIs K μ H a b) : BoxIs K μ' H' a b := by
  cases b with
  | lst ds => obtain ⟨vs, q, r, z⟩ := x; exact ⟨vs, by rw [same]; exact q, VDs.ext e _ _ r, z⟩
  | mix cs => obtain ⟨vs, q, r, z⟩ := x; exact ⟨vs, by rw [same]; exact q, VC.all (fun v c => VC.ext e c v) r, z⟩
  | gone => obtain ⟨o, q⟩ := x; exact ⟨o, by rw [same]; exact q⟩
/-- a new object that is no box -/
theorem RH.push {p : Addr} {o : HO} (R : RH K μ h H) (hp : H p = none) : RH K μ h (upd H p o) ∧ Ext μ H μ (upd H p o) := by
  have e : Ext μ H μ (upd H p o) := ⟨fun a u q _ => by rw [upd_ne (ne_of_none q hp)]; exact q, ⟨[], by simp⟩, fun _ a b => absurd a b⟩
  refine ⟨⟨R.len, R.nd, fun i a b h1 h2 => ?_, R.low⟩, e⟩
  have hb := R.box i a b h1 h2
  obtain ⟨u, hu⟩ := R.there (List.mem_of_getElem? h1)
  exact hb.ext e (upd_ne (ne_of_none hu hp))
/-- a new box -/
theorem RH.newBoxG {p : Addr} {vs : List V} {bb : Box} (R : RH K μ h H) (hp : H p = none) (is : ∀ μ' H', Ext μ H μ' H' → H' p = some (.lst vs) → BoxIs K μ' H' p bb) (lw : ∀ cs, bb = .mix cs → ∀ n, Cl.r n ∈ cs → n < h.length) :
    RH K (μ ++ [p]) (h ++ [bb]) (upd H p (.lst vs)) ∧ Ext μ H (μ ++ [p]) (upd H p (.lst vs)) := by
  have hn : p ∉ μ := R.notin hp
  have e : Ext μ H (μ ++ [p]) (upd H p (.lst vs)) := by
    refine ⟨fun a u q _ => by rw [upd_ne (ne_of_none q hp)]; exact q, ⟨[p], rfl⟩, fun a ha hb => ?_⟩
    rcases List.mem_append.mp ha with q | q
    · exact absurd q hb
    · have : a = p := by simpa using q
      rw [this]; exact hp
  refine ⟨⟨by simp [R.len], ?_, fun i a b h1 h2 => ?_, fun i cs h2 => ?_⟩, e⟩
  · rw [List.nodup_append]
    exact ⟨R.nd, by simp, fun x hx y hy => by have : y = p := by simpa using hy
                                              subst this; intro z; subst z; exact hn hx⟩
  · by_cases hi : i < μ.length
    · rw [List.getElem?_append_left hi] at h1
      rw [List.getElem?_append_left (by rw [← R.len]; exact hi)] at h2
      obtain ⟨u, hu⟩ := R.there (List.mem_of_getElem? h1)
      exact (R.box i a b h1 h2).ext e (upd_ne (ne_of_none hu hp))
    · have hi' : i = μ.length := by
        have : i < (μ ++ [p]).length := by
          rcases Nat.lt_or_ge i (μ ++ [p]).length with z | z
          · exact z
          · rw [List.getElem?_eq_none z] at h1; cases h1
        simp at this; omega
      subst hi'
      rw [List.getElem?_append_right (Nat.le_refl _)] at h1
      rw [List.getElem?_append_right (by rw [R.len]; exact Nat.le_refl _)] at h2
      simp at h1
      rw [R.len] at h2
      simp at h2
      subst h1; subst h2
      exact is _ _ e upd_same
  · by_cases hi : i < h.length
    · rw [List.getElem?_append_left hi] at h2
      exact R.low i cs h2
    · have hi' : i = h.length := by
        have : i < (h ++ [bb]).length := by
          rcases Nat.lt_or_ge i (h ++ [bb]).length with z | z
          · exact z
          · rw [List.getElem?_eq_none z] at h2; cases h2
        simp at this; omega
      subst hi'
      rw [List.getElem?_append_right (Nat.le_refl _)] at h2
      simp at h2
      exact lw cs h2
theorem RH.newBox {p : Addr} {vs : List V} {ds : List D} (R : RH K μ h H) (hp : H p = none) (r : VDs K μ H vs ds) (z : vs.length ≤ sizeLine) :
    RH K (μ ++ [p]) (h ++ [.lst ds]) (upd H p (.lst vs)) ∧ Ext μ H (μ ++ [p]) (upd H p (.lst vs)) :=
  R.newBoxG hp (fun μ' H' e q => ⟨vs, q, VDs.ext e _ _ r, z⟩) fun cs q => by cases q
theorem RH.newMix {p : Addr} {vs : List V} {cs : List Cl} (R : RH K μ h H) (hp : H p = none) (r : Paired (VC K μ H) vs cs) (z : vs.length ≤ sizeLine) :
    RH K (μ ++ [p]) (h ++ [.mix cs]) (upd H p (.lst vs)) ∧ Ext μ H (μ ++ [p]) (upd H p (.lst vs)) :=
  R.newBoxG hp (fun μ' H' e q => ⟨vs, q, VC.all (fun v c => VC.ext e c v) r, z⟩) fun cs' q n m => by
    cases q
    rw [← R.len]
    obtain ⟨i, hi, e⟩ := List.mem_iff_getElem.mp m
    have aux : ∀ {vs : List V} {cs : List Cl}, Paired (VC K μ H) vs cs → Cl.r n ∈ cs → n < μ.length := by
      intro vs cs r m
      induction r with
      | nil => cases m
      | @cons v c vs cs q t ih =>
        rcases List.mem_cons.mp m with rfl | m
        · obtain ⟨a, q, _⟩ := q
          rcases Nat.lt_or_ge n μ.length with z | z
          · exact z
          · rw [List.getElem?_eq_none z] at q; cases q
        · exact ih m
    exact aux r m
/-- a box is changed -/
theorem RH.writeG {n : Nat} {a : Addr} {vs : List V} {bb : Box} (R : RH K μ h H) (ha : μ[n]? = some a) (is : ∀ H', Ext μ H μ H' → H' a = some (.lst vs) → BoxIs K μ H' a bb) (lw : ∀ cs, bb = .mix cs → ∀ m, Cl.r m ∈ cs → m < n) :
    RH K μ (h.set n bb) (upd H a (.lst vs)) ∧ Ext μ H μ (upd H a (.lst vs)) := by
  have hm := List.mem_of_getElem? ha
  have e : Ext μ H μ (upd H a (.lst vs)) := ⟨fun b u q hb => by rw [upd_ne (fun z : b = a => hb (by rw [z]; exact hm))]; exact q, ⟨[], by simp⟩, fun _ a b => absurd a b⟩
  have hn : n < μ.length := by
    rcases Nat.lt_or_ge n μ.length with z | z
    · exact z
    · rw [List.getElem?_eq_none z] at ha; cases ha
  have hn' : n < h.length := by rw [← R.len]; exact hn
  refine ⟨⟨by simp [R.len], R.nd, fun i b c h1 h2 => ?_, fun i cs h2 => ?_⟩, e⟩
  · by_cases hi : n = i
    · subst hi
      rw [ha] at h1; cases h1
      rw [List.getElem?_set_self hn'] at h2; cases h2
      exact is _ e upd_same
    · rw [List.getElem?_set_ne hi] at h2
      refine (R.box i b c h1 h2).ext e (upd_ne fun q => ?_)
      subst q
      have hi1 : i < μ.length := by
        rcases Nat.lt_or_ge i μ.length with z | z
        · exact z
        · rw [List.getElem?_eq_none z] at h1; cases h1
      rw [List.getElem?_eq_getElem hn] at ha
      rw [List.getElem?_eq_getElem hi1] at h1
      exact hi ((List.getElem_inj R.nd).mp ((Option.some.inj ha).trans (Option.some.inj h1).symm))
  · by_cases hi : n = i
    · subst hi
      rw [List.getElem?_set_self hn'] at h2; cases h2
      exact lw cs rfl
    · rw [List.getElem?_set_ne hi] at h2
      exact R.low i cs h2
theorem RH.write {n : Nat} {a : Addr} {vs : List V} {ds : List D} (R : RH K μ h H) (ha : μ[n]? = some a) (r : VDs K μ H vs ds) (z : vs.length ≤ sizeLine) :
    RH K μ (h.set n (.lst ds)) (upd H a (.lst vs)) ∧ Ext μ H μ (upd H a (.lst vs)) :=
  R.writeG ha (fun H' e q => ⟨vs, q, VDs.ext e _ _ r, z⟩) fun cs q => by cases q
theorem Paired.set' {F : V → Cl → Prop} {v : V} {c : Cl} (r : F v c) : ∀ {vs : List V} {cs : List Cl} (i : Nat), Paired F vs cs → Paired F (vs.set i v) (cs.set i c)
  | _, _, _, .nil => .nil
  | _, _, 0, .cons _ t => .cons r t
  | _, _, i + 1, .cons q t => .cons q (Paired.set' r i t)
theorem Paired.get' {F : V → Cl → Prop} : ∀ {vs : List V} {cs : List Cl} {i : Nat} {c : Cl}, Paired F vs cs → cs[i]? = some c → ∃ v, vs[i]? = some v ∧ F v c
  | _, _, _, _, .nil, e => by simp at e
  | _, _, 0, _, .cons r _, e => by simp at e; subst e; exact ⟨_, rfl, r⟩
  | _, _, i + 1, x, .cons _ t, e => by
    obtain ⟨u, h1, h2⟩ := Paired.get' (i := i) t (by simpa using e)
    exact ⟨u, by simpa using h1, h2⟩
/-- a cell of a box of cells is changed: data into it -/
theorem RH.writeMix {n : Nat} {a : Addr} {vs : List V} {cs : List Cl} {v : V} {d : D} (R : RH K μ h H) (ha : μ[n]? = some a) (hb : h[n]? = some (.mix cs)) (r : Paired (VC K μ H) vs cs) (z : vs.length ≤ sizeLine) (x : VD K μ H v d) (j : Nat) :
    RH K μ (h.set n (.mix (cs.set j (.d d)))) (upd H a (.lst (vs.set j v))) ∧ Ext μ H μ (upd H a (.lst (vs.set j v))) :=
  R.writeG ha (fun H' e q => ⟨_, q, VC.all (fun v c => VC.ext e c v) (Paired.set' (F := VC K μ H) (c := .d d) x j r), by rw [List.length_set]; exact z⟩) fun cs' q m hm => by
    cases q
    rcases List.mem_or_eq_of_mem_set hm with hm | hm
    · exact R.low n cs hb m hm
    · cases hm
/-- a box is given up -/
theorem RH.leave {n : Nat} (R : RH K μ h H) : RH K μ (h.set n .gone) H := by
  refine ⟨by simp [R.len], R.nd, fun i b c h1 h2 => ?_, fun i cs h2 => ?_⟩
  · by_cases hi : n = i
    · subst hi
      obtain ⟨u, hu⟩ := R.there (List.mem_of_getElem? h1)
      by_cases hn : n < h.length
      · rw [List.getElem?_set_self hn] at h2; cases h2
        exact ⟨u, hu⟩
      · rw [List.getElem?_eq_none (by simpa using Nat.le_of_not_lt hn)] at h2; cases h2
    · rw [List.getElem?_set_ne hi] at h2
      exact R.box i b c h1 h2
  · by_cases hi : n = i
    · subst hi
      by_cases hn : n < h.length
      · rw [List.getElem?_set_self hn] at h2; cases h2
      · rw [List.getElem?_eq_none (by simpa using Nat.le_of_not_lt hn)] at h2; cases h2
    · rw [List.getElem?_set_ne hi] at h2
      exact R.low i cs h2
/-- the last boxes are forgotten -/
theorem VD.less {k : Nat} : ∀ (d : D) (v : V), VD K μ H v d → VD K (μ.take k) H v d := by
  have aux : ∀ {a : Addr}, a ∉ μ → a ∉ μ.take k := fun h z => h (List.mem_of_mem_take z)
  intro d v h
  induction h using VD.rec (motive_2 := fun vs ds _ => VDs K (μ.take k) H vs ds) with
  | non => exact .non
  | bl b => exact .bl b
  | int i => exact .int i
  | str x => exact .str x
  | lst q n z _ ih => exact .lst q (aux n) z ih
  | tup q n z _ ih => exact .tup q (aux n) z ih
  | tupK q _ ih => exact .tupK q ih
  | nil => exact .nil
  | cons _ _ i1 i2 => exact .cons i1 i2
theorem VDs.less {k : Nat} : ∀ (ds : List D) (vs : List V), VDs K μ H vs ds → VDs K (μ.take k) H vs ds
  | [], _, h => by cases h; exact .nil
  | d :: ds, _, h => by cases h with | cons h1 h2 => exact .cons (VD.less d _ h1) (VDs.less ds _ h2)
theorem RH.less {k : Nat} (R : RH K μ h H) : RH K (μ.take k) (h.take k) H := by
  refine ⟨by simp [R.len], R.nd.sublist (List.take_sublist _ _), fun i a b h1 h2 => ?_, fun i cs h2 => ?_⟩
  · rw [List.getElem?_take] at h1 h2
    split at h1
    · rename_i hi
      rw [if_pos hi] at h2
      have x := R.box i a b h1 h2
      cases b with
      | lst ds => obtain ⟨vs, q, r, z⟩ := x; exact ⟨vs, q, VDs.less _ _ r, z⟩
      | mix cs =>
        obtain ⟨vs, q, r, z⟩ := x
        refine ⟨vs, q, VC.allM (fun v c m x => ?_) r, z⟩
        cases c with
        | d x0 => exact VD.less _ _ x
        | r n =>
          obtain ⟨b, q1, q2⟩ := x
          have := R.low i cs h2 n m
          exact ⟨b, by rw [List.getElem?_take, if_pos (by omega)]; exact q1, q2⟩
      | gone => exact x
    · cases h1
  · rw [List.getElem?_take] at h2
    split at h2
    · exact R.low i cs h2
    · cases h2
theorem VD.sub (f : ∀ b, b ∈ μ' → b ∈ μ) : ∀ (d : D) (v : V), VD K μ H v d → VD K μ' H v d := by
  intro d v h
  induction h using VD.rec (motive_2 := fun vs ds _ => VDs K μ' H vs ds) with
  | non => exact .non
  | bl b => exact .bl b
  | int i => exact .int i
  | str x => exact .str x
  | lst q n z _ ih => exact .lst q (fun m => n (f _ m)) z ih
  | tup q n z _ ih => exact .tup q (fun m => n (f _ m)) z ih
  | tupK q _ ih => exact .tupK q ih
  | nil => exact .nil
  | cons _ _ i1 i2 => exact .cons i1 i2
theorem VDs.sub (f : ∀ b, b ∈ μ' → b ∈ μ) : ∀ (ds : List D) (vs : List V), VDs K μ H vs ds → VDs K μ' H vs ds
  | [], _, h => by cases h; exact .nil
  | d :: ds, _, h => by cases h with | cons h1 h2 => exact .cons (VD.sub f d _ h1) (VDs.sub f ds _ h2)
theorem BoxIs.sub (f : ∀ b, b ∈ μ' → b ∈ μ) {a : Addr} {b : Box} (g : ∀ cs, b = .mix cs → ∀ n, Cl.r n ∈ cs → ∀ c, μ[n]? = some c → μ'[n]? = some c) (x : BoxIs K μ H a b) : BoxIs K μ' H a b := by
  cases b with
  | lst ds => obtain ⟨vs, q, r, z⟩ := x; exact ⟨vs, q, VDs.sub f _ _ r, z⟩
  | mix cs =>
    obtain ⟨vs, q, r, z⟩ := x
    refine ⟨vs, q, VC.allM (fun v c m x => ?_) r, z⟩
    cases c with
    | d x0 => exact VD.sub f _ _ x
    | r n => obtain ⟨b, q1, q2⟩ := x; exact ⟨b, g cs rfl n m b q1, q2⟩
  | gone => exact x
/-- behind a call: the caller's boxes, the rest forgotten -/
theorem Ext.back (e : Ext μ H μ' H') : Ext μ H μ H' := ⟨e.keep, ⟨[], by simp⟩, fun _ a b => absurd a b⟩
theorem Ext.take (e : Ext μ H μ' H') : μ'.take μ.length = μ := by
  obtain ⟨t, rfl⟩ := e.pre
  simp
/-- a box's content as data, the box forgotten -/
theorem VD.ofBox {k n : Nat} {a : Addr} {ds : List D} (R : RH K μ h H) (ha : μ[n]? = some a) (hb : h[n]? = some (.lst ds)) (hk : k ≤ n) : VD K (μ.take k) H (.ref a) (.list ds) := by
  obtain ⟨vs, q, r, z⟩ := R.box n a _ ha hb
  refine .lst q (fun m => ?_) z (VDs.less _ _ r)
  obtain ⟨i, hi, e⟩ := List.mem_iff_getElem.mp m
  have hi' : i < k := by simp at hi; omega
  have hi2 : i < μ.length := by simp at hi; omega
  rw [List.getElem_take] at e
  have hn : n < μ.length := by
    rcases Nat.lt_or_ge n μ.length with z | z
    · exact z
    · rw [List.getElem?_eq_none z] at ha; cases ha
  rw [List.getElem?_eq_getElem hn] at ha
  have : i = n := (List.getElem_inj R.nd).mp (e.trans (Option.some.inj ha).symm)
  omega
end
end AI

set_option Elab.async false
set_option linter.all false
set_option maxRecDepth 100000
set_option maxHeartbeats 4000000
/-! AiEval: the plain run. -/
namespace AI
open PySem L2

/-- a raised exception: its class's name in the module, its field -/
structure Exn where
  cls : Str
  fld : Option (Str × D)

inductive Res (α : Type) where
  | ok (a : α) (h : Boxes)
  | ex (x : Exn) (h : Boxes)
  | no
abbrev M (α : Type) := Boxes → Res α
@[inline] def M.ret {α : Type} (a : α) : M α := fun h => .ok a h
@[inline] def M.bnd {α β : Type} (m : M α) (f : α → M β) : M β := fun h => match m h with
  | .ok a h' => f a h'
  | .ex x h' => .ex x h'
  | .no => .no
instance : Monad M where
  pure := M.ret
  bind := M.bnd
def M.no {α : Type} : M α := fun _ => .no
def M.opt {α : Type} : Option α → M α
  | some a => M.ret a
  | none => M.no
def M.grd (b : Bool) : M Unit := if b then M.ret () else M.no

/-- what a value is as data -/
def dat : RV → M D
  | .pd d => M.ret d
  | .fz ds => M.ret (.list ds)
  | .rf n => fun h => match h[n]? with
    | some (.lst ds) => .ok (.list ds) h
    | _ => .no
  | _ => M.no
/-- a list that is made -/
def newL (bx : Bool) (ds : List D) : M RV := fun h =>
  if ds.length ≤ sizeLine then (if bx then .ok (.rf h.length) (h ++ [.lst ds]) else .ok (.pd (.list ds)) h) else .no
def newT (ds : List D) : M RV := fun h => if ds.length ≤ sizeLine then .ok (.pd (.tuple ds)) h else .no

def allPd : List RV → Option (List D)
  | [] => some []
  | .pd d :: rs => (allPd rs).map (d :: ·)
  | _ => none
def mkTup (rs : List RV) : M RV := fun h => match allPd rs with
  | some ds => if ds.length ≤ sizeLine then .ok (.pd (.tuple ds)) h else .no
  | none => if rs.length ≤ sizeLine then .ok (.tp rs) h else .no

/-! ### truth -/
/-- a cell as a value -/
def celR : Cl → RV
  | .d x => .pd x
  | .r n => .rf n
def clOf : RV → Option Cl
  | .pd d => some (.d d)
  | .rf n => some (.r n)
  | _ => none
def clsOf : List RV → Option (List Cl)
  | [] => some []
  | r :: rs => match clOf r, clsOf rs with
    | some c, some cs => some (c :: cs)
    | _, _ => none
def newM (bx : Bool) (cs : List Cl) : M RV := fun h => if bx = true ∧ cs.length ≤ sizeLine then .ok (.rf h.length) (h ++ [.mix cs]) else .no
/-- a list display -/
def mkLst (bx : Bool) (rs : List RV) : M RV := match allPd rs with
  | some ds => newL bx ds
  | none => match clsOf rs with
    | some cs => newM bx cs
    | none => M.no
def truD : D → Option Bool
  | .none => some false
  | .bool b => some b
  | .int i => some (i != 0)
  | .str y => if y.length ≤ sizeLine then some ((y.length : Int) != 0) else none
  | .list ds => some (!ds.isEmpty)
  | .tuple ds => some (!ds.isEmpty)
  | .dict _ => none
def truth (r : RV) : M Bool := M.bnd (dat r) fun d => M.opt (truD d)

/-! ### operators -/
def binD (bx : Bool) (op : Operator) (a b : D) : M RV :=
  match op, a, b with
  | .Add, .int i, .int j => M.ret (.pd (.int (i + j)))
  | .Sub, .int i, .int j => M.ret (.pd (.int (i - j)))
  | .Mult, .int i, .int j => M.bnd (M.grd (decide (i.natAbs.log2 + j.natAbs.log2 < 1000000))) fun _ => M.ret (.pd (.int (i * j)))
  | .FloorDiv, .int i, .int j => M.bnd (M.grd (decide (0 < j ∧ j.natAbs.log2 < 9000))) fun _ => M.ret (.pd (.int (i / j)))
  | .Mod, .int i, .int j => M.bnd (M.grd (decide (0 < j))) fun _ => M.ret (.pd (.int (i % j)))
  | .Pow, .int i, .int j => M.bnd (M.grd (decide (0 ≤ j ∧ j ≤ 1000000 ∧ i.natAbs < 2 ^ 64))) fun _ => M.ret (.pd (.int (i ^ j.toNat)))
  | .Add, .str x, .str y => M.bnd (M.grd (decide (x.length + y.length ≤ sizeLine))) fun _ => M.ret (.pd (.str (x ++ y)))
  | .Add, .tuple xs, .tuple ys => newT (xs ++ ys)
  | .Add, .list xs, .list ys => newL bx (xs ++ ys)
  | _, _, _ => M.no
def isFz : RV → Bool
  | .fz _ => true
  | _ => false
def binS (bx : Bool) (op : Operator) (a b : RV) : M RV := M.bnd (M.grd (!isFz a && !isFz b)) fun _ => M.bnd (dat a) fun x => M.bnd (dat b) fun y => binD bx op x y
def negS : RV → M RV
  | .pd (.int i) => M.ret (.pd (.int (-i)))
  | _ => M.no

def ltS (a b : Str) : Bool := decide (a.cps.toList < b.cps.toList)
def eqD (a b : D) : M Bool := M.bnd (M.grd (decide (min a.depth b.depth ≤ 64))) fun _ => M.ret (PyData.eqv a b)
def inL (x : D) (ys : List D) : M Bool := M.bnd (M.grd (decide (x.depth ≤ 64))) fun _ => M.ret (ys.any fun y => PyData.eqv y x)
def inStr (x y : Str) : Bool := !(Builtin.Str.occurrences y x 0 y.length 1).isEmpty
def inD (x y : D) : M Bool := match y with
  | .list ds => inL x ds
  | .tuple ds => inL x ds
  | .str z => match x with
    | .str u => M.ret (inStr u z)
    | _ => M.no
  | _ => M.no
mutual
/-- x < y, if the two can be compared -/
def ltD : D → D → Option Bool
  | .int i, .int j => some (decide (i < j))
  | .str x, .str y => some (ltS x y)
  | .tuple xs, .tuple ys => ltDs xs ys
  | _, _ => none
def ltDs : List D → List D → Option Bool
  | [], ys => some (!ys.isEmpty)
  | _ :: _, [] => some false
  | x :: xs, y :: ys => if PyData.eqv x y = true then ltDs xs ys else ltD x y
end
mutual
def gtD : D → D → Option Bool
  | .int i, .int j => some (decide (j < i))
  | .str x, .str y => some (ltS y x)
  | .tuple xs, .tuple ys => gtDs xs ys
  | _, _ => none
def gtDs : List D → List D → Option Bool
  | [], _ => some false
  | _ :: _, [] => some true
  | x :: xs, y :: ys => if PyData.eqv x y = true then gtDs xs ys else gtD x y
end
def isNonD : D → Bool
  | .none => true
  | _ => false
def cmpD (op : CmpOp) (a b : D) : M Bool :=
  match op, a, b with
  | .Eq, a, b => eqD a b
  | .NotEq, a, b => M.bnd (eqD a b) fun k => M.ret (!k)
  | .Lt, .int i, .int j => M.ret (decide (i < j))
  | .LtE, .int i, .int j => M.ret (decide (i ≤ j))
  | .Gt, .int i, .int j => M.ret (decide (j < i))
  | .GtE, .int i, .int j => M.ret (decide (j ≤ i))
  | .Lt, .str x, .str y => M.ret (ltS x y)
  | .Gt, .str x, .str y => M.ret (ltS y x)
  | .LtE, .str x, .str y => M.ret (!ltS y x)
  | .GtE, .str x, .str y => M.ret (!ltS x y)
  | .Lt, .tuple xs, .tuple ys => M.bnd (M.grd (decide (min (PyData.tuple xs).depth (PyData.tuple ys).depth ≤ 64))) fun _ => M.opt (ltD (.tuple xs) (.tuple ys))
  | .Gt, .tuple xs, .tuple ys => M.bnd (M.grd (decide (min (PyData.tuple xs).depth (PyData.tuple ys).depth ≤ 64))) fun _ => M.opt (gtD (.tuple xs) (.tuple ys))
  | .In, a, b => inD a b
  | .NotIn, a, b => M.bnd (inD a b) fun k => M.ret (!k)
  | .Is, a, .none => M.ret (isNonD a)
  | .IsNot, a, .none => M.ret (!isNonD a)
  | _, _, _ => M.no
def cmpS (op : CmpOp) (a b : RV) : M Bool := M.bnd (dat a) fun x => M.bnd (dat b) fun y => cmpD op x y

/-! ### subscripts -/
def idxD (o i : D) : M RV := match o, i with
  | .list ds, .int k => M.bnd (M.opt (atI ds k)) fun d => M.ret (.pd d)
  | .tuple ds, .int k => M.bnd (M.opt (atI ds k)) fun d => M.ret (.pd d)
  | .str z, .int k => M.bnd (M.grd (decide (z.length ≤ sizeLine))) fun _ => M.bnd (M.opt (atI z.cps.toList k)) fun c => M.ret (.pd (.str ⟨#[c]⟩))
  | _, _ => M.no
/-- a place of a box -/
def idxB (n : Nat) (k : Int) : M RV := fun h => match h[n]? with
  | some (.mix cs) => M.bnd (M.opt (atI cs k)) (fun c => M.ret (celR c)) h
  | some (.lst ds) => M.bnd (M.opt (atI ds k)) (fun d => M.ret (.pd d)) h
  | _ => .no
def idxS (o i : RV) : M RV := match o, i with
  | .tp rs, .pd (.int k) => M.opt (atI rs k)
  | .rf n, .pd (.int k) => idxB n k
  | o, i => M.bnd (dat o) fun x => M.bnd (dat i) fun y => idxD x y
def partS : RV → M (Option Int)
  | .pd (.int i) => M.ret (some i)
  | _ => M.no
def cutL {α : Type} (xs : List α) (lo hi : Option Int) : List α := (xs.drop (HT.sIx xs.length 0 lo)).take (HT.sIx xs.length xs.length hi - HT.sIx xs.length 0 lo)
def slcS (bx : Bool) (o : RV) (lo hi : Option Int) : M RV := M.bnd (dat o) fun x => match x with
  | .list ds => newL bx (cutL ds lo hi)
  | .tuple ds => newT (cutL ds lo hi)
  | .str z => M.bnd (M.grd (decide (z.length ≤ sizeLine))) fun _ => M.ret (.pd (.str (cutS z lo hi)))
  | _ => M.no

/-! ### built-in functions -/
inductive BI where
  | len | list | tuple | int | str | abs | max | min | all | any | sum | repr
  deriving DecidableEq
def intsOf : List D → Option (List Int)
  | [] => some []
  | .int i :: r => (intsOf r).map (i :: ·)
  | _ => none
def boolsOf : List D → Option (List Bool)
  | [] => some []
  | .bool i :: r => (boolsOf r).map (i :: ·)
  | _ => none
def maxL : List Int → Int
  | [] => 0
  | [i] => i
  | i :: r => if i < maxL r then maxL r else i
def biD (bx : Bool) (b : BI) (as : List D) : M RV :=
  match b, as with
  | .len, [.list ds] => M.ret (.pd (.int ds.length))
  | .len, [.tuple ds] => M.ret (.pd (.int ds.length))
  | .len, [.str z] => M.bnd (M.grd (decide (z.length ≤ sizeLine))) fun _ => M.ret (.pd (.int z.length))
  | .list, [.list ds] => newL bx ds
  | .list, [.tuple ds] => newL bx ds
  | .tuple, [.list ds] => newT ds
  | .tuple, [.tuple ds] => M.ret (.pd (.tuple ds))
  | .int, [.int i] => M.ret (.pd (.int i))
  | .int, [.bool k] => M.ret (.pd (.int (if k then 1 else 0)))
  | .int, [.str a] => M.bnd (M.grd (decide (a.length ≤ 640))) fun _ => M.bnd (M.opt (PySem.intText? a)) fun n => M.ret (.pd (.int n))
  | .str, [.int i] => M.bnd (M.grd (decide (i.natAbs.log2 < 1920))) fun _ => M.ret (.pd (.str (toString i)))
  | .str, [.str a] => M.ret (.pd (.str a))
  | .abs, [.int i] => M.ret (.pd (.int (if i < 0 then -i else i)))
  | .max, [.int i, .int j] => M.ret (.pd (.int (if j > i then j else i)))
  | .min, [.int i, .int j] => M.ret (.pd (.int (if j < i then j else i)))
  | .all, [.list ds] => M.bnd (M.opt (boolsOf ds)) fun ks => M.ret (.pd (.bool (ks.all id)))
  | .any, [.list ds] => M.bnd (M.opt (boolsOf ds)) fun ks => M.ret (.pd (.bool (ks.any id)))
  | .sum, [.list ds] => M.bnd (M.opt (intsOf ds)) fun ks => M.ret (.pd (.int ks.sum))
  | .repr, [d] => M.bnd (M.grd (decide (d.showable = true ∧ d.depth ≤ 64 ∧ d.shown.length ≤ sizeLine))) fun _ => M.ret (.pd (.str d.shown))
  | _, _ => M.no
def dats : List RV → M (List D)
  | [] => M.ret []
  | r :: rs => M.bnd (dat r) fun d => M.bnd (dats rs) fun ds => M.ret (d :: ds)
def biS (bx : Bool) (b : BI) (as : List RV) : M RV := M.bnd (dats as) fun ds => biD bx b ds

/-- isinstance against a built-in class -/
inductive TY where | int | str | bool | tuple | list | dict
  deriving DecidableEq
def isiD : D → TY → Bool
  | .int _, .int => true
  | .bool _, .int => true
  | .bool _, .bool => true
  | .str _, .str => true
  | .tuple _, .tuple => true
  | .list _, .list => true
  | .dict _, .dict => true
  | _, _ => false
def isi2S (a : RV) (t u : TY) : M RV := M.bnd (dat a) fun d => M.ret (.pd (.bool (isiD d t || isiD d u)))
def isiS (a : RV) (t : TY) : M RV := M.bnd (dat a) fun d => M.ret (.pd (.bool (isiD d t)))

/-! ### methods -/
inductive MT where
  | append | extend | pop | popAt | index | join | split | words | startswith
  deriving DecidableEq
def firstAt (ds : List D) (d : D) : Option Nat := ds.findIdx? fun z => PyData.eqv z d
def strsOf : List D → Option (List Str)
  | [] => some []
  | .str i :: r => (strsOf r).map (i :: ·)
  | _ => none
def itemsD : D → Option (List D)
  | .list ds => some ds
  | .tuple ds => some ds
  | _ => none
/-- the change of a box -/
def mod (n : Nat) (f : List D → M (D × List D)) : M RV := fun h => match h[n]? with
  | some (.lst ds) => match f ds h with
    | .ok (r, ds') _ => if ds'.length ≤ sizeLine then .ok (.pd r) (h.set n (.lst ds')) else .no
    | _ => .no
  | _ => .no
/-- what a method is asked of -/
inductive RK where | list | tuple | str
  deriving DecidableEq
def rkD : D → Option RK
  | .list _ => some .list
  | .tuple _ => some .tuple
  | .str _ => some .str
  | _ => none
def rkOf (r : RV) : M RK := M.bnd (dat r) fun d => M.opt (rkD d)
def asPd : RV → Option D
  | .pd d => some d
  | _ => none
def methS (bx : Bool) (m : MT) (k : RK) (o : RV) (as : List RV) : M RV :=
  match m, k with
  | .append, .list => match o, as with
    | .rf n, [r] => M.bnd (M.opt (asPd r)) fun d => mod n fun ds => M.ret (.none, ds ++ [d])
    | _, _ => M.no
  | .pop, .list => match o, as with
    | .rf n, [] => mod n fun ds => M.bnd (M.opt (ds[ds.length - 1]?)) fun d => M.ret (d, ds.dropLast)
    | _, _ => M.no
  | .popAt, .list => match o, as with
    | .rf n, [.pd (.int i)] => mod n fun ds => M.bnd (M.grd (decide (-(2 ^ 63) ≤ i ∧ i < 2 ^ 63))) fun _ => M.bnd (M.opt (seqIndex? i ds.length)) fun k => M.bnd (M.opt ds[k]?) fun d => M.ret (d, ds.eraseIdx k)
    | _, _ => M.no
  | .extend, .list => match o, as with
    | .rf n, [r] => if isFz r = true then M.no else M.bnd (dat r) fun d => match d with
      | .list es => mod n fun ds => M.ret (.none, ds ++ es)
      | _ => M.no
    | _, _ => M.no
  | .index, .list => match as with
    | [.pd d] => M.bnd (dat o) fun x => match x with
      | .list ds => M.bnd (M.grd (decide (d.depth ≤ 64))) fun _ => M.bnd (M.opt (firstAt ds d)) fun k => M.ret (.pd (.int k))
      | _ => M.no
    | _ => M.no
  | .index, .tuple => match o, as with
    | .pd (.tuple ds), [.pd d] => M.bnd (M.grd (decide (d.depth ≤ 64))) fun _ => M.bnd (M.opt (firstAt ds d)) fun k => M.ret (.pd (.int k))
    | _, _ => M.no
  | .index, .str => match o, as with
    | .pd (.str z), [.pd (.str u)] => M.bnd (M.opt (Builtin.Str.occurrences z u 0 z.length 1).head?) fun k => M.ret (.pd (.int (k : Nat)))
    | _, _ => M.no
  | .split, .str => match o, as with
    | .pd (.str a), [.pd (.str b)] => M.bnd (M.grd (decide ((b.length == 0) = false ∧ a.length + 2 ≤ sizeLine))) fun _ => newL bx ((Txt.split a b).map PyData.str)
    | _, _ => M.no
  | .words, .str => match o, as with
    | .pd (.str a), [] => M.bnd (M.grd (decide (a.length + 2 ≤ sizeLine))) fun _ => newL bx ((Txt.words a).map PyData.str)
    | _, _ => M.no
  | .startswith, .str => match o, as with
    | .pd (.str a), [.pd (.str b)] => M.ret (.pd (.bool (Txt.startswith a b)))
    | _, _ => M.no
  | .join, .str => match o, as with
    | .pd (.str a), [r] => M.bnd (dat r) fun d => M.bnd (M.opt (itemsD d)) fun ds => M.bnd (M.opt (strsOf ds)) fun ys => M.bnd (M.grd (decide ((ys.map (·.length)).sum + ys.length * a.length ≤ 16777216))) fun _ => M.ret (.pd (.str (Txt.join a ys)))
    | _, _ => M.no
  | _, _ => M.no
/-- o[i] = v -/
def setB (n : Nat) (k : Int) (d : D) : M RV := fun h => match h[n]? with
  | some (.mix cs) => (match ixN cs.length k with
    | some j => .ok (.pd .none) (h.set n (.mix (cs.set j (.d d))))
    | none => .no)
  | _ => mod n (fun ds => M.bnd (M.opt (ixN ds.length k)) fun j => M.ret (.none, ds.set j d)) h
def setS (o i : RV) (v : RV) : M RV := match o, i, v with
  | .rf n, .pd (.int k), .pd d => setB n k d
  | _, _, _ => M.no

/-! ### the syntax -/
mutual
inductive E where
  | var (i : Nat)
  | cst (d : D)
  | glob (x : Str)
  | fn (x : Str)
  | tup (es : List E)
  | lst (es : List E)
  | bin (op : Operator) (a b : E)
  | neg (a : E)
  | cmp (op : CmpOp) (a b : E)
  | cmp2 (op op' : CmpOp) (a b c : E)
  | and (a b : E)
  | or (a b : E)
  | not (a : E)
  | idx (a i : E)
  | slc (a : E) (lo hi : Option E)
  | call (f : Str) (es : List E)
  | calv (i : Nat) (es : List E)
  | bi (b : BI) (es : List E)
  | isi (a : E) (t : TY)
  | isi2 (a : E) (t u : TY)
  | meth (m : MT) (o : E) (es : List E)
  | lc (elt : E) (g : G) (it : I) (ifs : List C) (own : List Nat)
  | bx (e : E)
  | lrev (t : Bool) (e : E)
  | no
inductive C where
  | val (e : E)
  | and (a b : C)
  | or (a b : C)
  | not (a : C)
inductive G where
  | nm (i : Nat)
  | tup (gs : List G)
  | sub (o i : E)
/-- what a loop walks -/
inductive I where
  | val (e : E)
  | rng (es : List E)
  | rev (e : E)
end
inductive S where
  | asg (g : G) (e : E)
  | aug (op : Operator) (i : Nat) (e : E)
  | expr (e : E)
  | ite (c : C) (a b : List S)
  | for_ (g : G) (it : I) (body : List S)
  | while_ (c : C) (body : List S)
  | ret (e : E)
  | retN
  | brk
  | cnt
  | pass
  | no

/-! ### the run -/
abbrev Sl := List (Option RV)
/-- behind a call: the boxes that it made are forgotten; the result that is one becomes data (or, if it is wanted so, a box of the caller's) -/
def frzD (n0 : Nat) (h : Boxes) : RV → Option D
  | .pd d => some d
  | .rf k => if n0 ≤ k then (match h[k]? with | some (.lst ds) => some (.list ds) | _ => none) else none
  | _ => none
def frzDs (n0 : Nat) (h : Boxes) : List RV → Option (List D)
  | [] => some []
  | r :: rs => (frzD n0 h r).bind fun d => (frzDs n0 h rs).map (d :: ·)
def settle (n0 : Nat) (bx : Bool) (r : RV) (h : Boxes) : Res RV :=
  match r with
  | .pd d => .ok (.pd d) (h.take n0)
  | .gl x => .ok (.gl x) (h.take n0)
  | .fz _ => .no
  | .rf k => if k < n0 then .ok (.rf k) (h.take n0) else match h[k]? with
    | some (.lst ds) => if bx = true then .ok (.rf n0) (h.take n0 ++ [.lst ds]) else .ok (.pd (.list ds)) (h.take n0)
    | some (.mix _) => if bx = true then .ok (.rf k) (h.take (k + 1)) else .no
    | _ => .no
  | .tp rs => match frzDs n0 h rs with
    | some ds => .ok (.pd (.tuple ds)) (h.take n0)
    | none => .no
structure TT where
  raw : Str → List RV → M RV
  cst : Str → Option D
  isFn : Str → Bool
  wf : Nat
def TT.call (T : TT) (bx : Bool) (f : Str) (rs : List RV) : M RV := fun h => match T.raw f rs h with
  | .ok r h' => settle h.length bx r h'
  | .ex x h' => .ex x (h'.take h.length)
  | .no => .no
def getV (σ : Sl) (i : Nat) : M RV := M.opt (σ[i]?).join
def wipeS (σ : Sl) : List Nat → Sl
  | [] => σ
  | v :: vs => (wipeS σ vs).set v none
/-- what is walked: the items as they are at the start, the box that holds them (or none) -/
structure Src where
  items : List D
  box : Option Nat
def srcOf : RV → M Src
  | .pd (.list ds) => M.ret ⟨ds, none⟩
  | .pd (.tuple ds) => M.ret ⟨ds, none⟩
  | .pd (.str z) => M.ret ⟨z.cps.toList.map fun c => .str ⟨#[c]⟩, none⟩
  | .fz ds => M.ret ⟨ds, none⟩
  | .rf n => fun h => match h[n]? with
    | some (.lst ds) => .ok ⟨ds, some n⟩ h
    | _ => .no
  | _ => M.no
def revOf : RV → M Src
  | .pd (.list ds) => M.ret ⟨ds.reverse, none⟩
  | .pd (.tuple ds) => M.ret ⟨ds.reverse, none⟩
  | _ => M.no
/-- list(reversed(r)) -/
def revS (bx t : Bool) (r : RV) : M RV := if isFz r = true then M.no else M.bnd (dat r) fun d => match d with
  | .list ds => if t = true then newT ds.reverse else newL bx ds.reverse
  | _ => M.no
/-- the i-th item, as it stands at turn i -/
def srcAt (s : Src) (i : Nat) : M D := match s.box with
  | none => M.opt s.items[i]?
  | some n => fun h => match h[n]? with
    | some (.lst ds) => if ds.length = s.items.length then (match ds[i]? with | some d => .ok d h | none => .no) else .no
    | _ => .no
def srcEnd (s : Src) : M Unit := match s.box with
  | none => M.ret ()
  | some n => fun h => match h[n]? with
    | some (.lst ds) => if ds.length = s.items.length then .ok () h else .no
    | _ => .no
def rngL (lo : Int) (n : Nat) : List D := (List.range n).map fun k : Nat => PyData.int (lo + k)
def rngOf : List RV → M Src
  | [.pd (.int j)] => M.bnd (M.grd (decide (-(2 ^ 62) ≤ j ∧ j < 2 ^ 62))) fun _ => M.ret ⟨rngL 0 j.toNat, none⟩
  | [.pd (.int i), .pd (.int j)] => M.bnd (M.grd (decide (-(2 ^ 62) ≤ i ∧ i < 2 ^ 62 ∧ -(2 ^ 62) ≤ j ∧ j < 2 ^ 62))) fun _ => M.ret ⟨rngL i (j - i).toNat, none⟩
  | _ => M.no
/-- the items of a list or a tuple that is unpacked -/
def itemsOf (n : Nat) : RV → M (List RV)
  | .pd (.tuple ds) => if ds.length = n then M.ret (ds.map .pd) else M.no
  | .tp rs => if rs.length = n then M.ret rs else M.no
  | _ => M.no
/-- a comprehension's loop, into the box n -/
def lcB (n : Nat) (s : Src) (turn : D → M (Option D)) : Nat → Nat → M Unit
  | 0, _ => srcEnd s
  | k + 1, i => M.bnd (srcAt s i) fun d => M.bnd (turn d) fun r => match r with
    | some y => M.bnd (mod n fun ds => M.ret (.none, ds ++ [y])) fun _ => lcB n s turn k (i + 1)
    | none => lcB n s turn k (i + 1)
def lcS (bx : Bool) (s : Src) (turn : D → M (Option D)) : M RV := fun h => match lcB h.length s turn s.items.length 0 (h ++ [.lst []]) with
  | .ok _ h' => settle h.length bx (.rf h.length) h'
  | .ex x h' => .ex x h'
  | .no => .no

mutual
def ev (T : TT) (σ : Sl) (bx : Bool) : E → M RV
  | .var i => getV σ i
  | .cst d => M.ret (.pd d)
  | .glob x => M.bnd (M.opt (T.cst x)) fun d => M.ret (.pd d)
  | .fn x => if T.isFn x = true then M.ret (.gl x) else M.no
  | .tup es => M.bnd (evs T σ es) mkTup
  | .lst es => M.bnd (evs T σ es) (mkLst bx)
  | .bin op a b => M.bnd (ev T σ false a) fun x => M.bnd (ev T σ false b) fun y => binS bx op x y
  | .neg a => M.bnd (ev T σ false a) negS
  | .cmp op a b => M.bnd (ev T σ false a) fun x => M.bnd (ev T σ false b) fun y => M.bnd (cmpS op x y) fun k => M.ret (.pd (.bool k))
  | .cmp2 op op' a b c => M.bnd (ev T σ false a) fun x => M.bnd (ev T σ false b) fun y => M.bnd (cmpS op x y) fun k =>
      if k = true then M.bnd (ev T σ false c) fun z => M.bnd (cmpS op' y z) fun k' => M.ret (.pd (.bool k')) else M.ret (.pd (.bool false))
  | .and a b => M.bnd (ev T σ false a) fun x => match x with
    | .pd (.bool true) => ev T σ false b
    | .pd (.bool false) => M.ret (.pd (.bool false))
    | _ => M.no
  | .or a b => M.bnd (ev T σ false a) fun x => match x with
    | .pd (.bool true) => M.ret (.pd (.bool true))
    | .pd (.bool false) => ev T σ false b
    | _ => M.no
  | .not a => M.bnd (ev T σ false a) fun x => match x with
    | .pd (.bool k) => M.ret (.pd (.bool (!k)))
    | _ => M.no
  | .idx a i => M.bnd (ev T σ false a) fun x => M.bnd (ev T σ false i) fun y => idxS x y
  | .slc a lo hi => M.bnd (ev T σ false a) fun x => M.bnd (evO T σ lo) fun l => M.bnd (evO T σ hi) fun u => slcS bx x l u
  | .call f es => M.bnd (evs T σ es) fun rs => T.call bx f rs
  | .calv i es => M.bnd (getV σ i) fun r => match r with
    | .gl f => M.bnd (evs T σ es) fun rs => T.call bx f rs
    | _ => M.no
  | .bi b es => M.bnd (evs T σ es) fun rs => biS bx b rs
  | .isi a t => M.bnd (ev T σ false a) fun x => isiS x t
  | .isi2 a t u => M.bnd (ev T σ false a) fun x => isi2S x t u
  | .meth m o es => M.bnd (ev T σ false o) fun x => M.bnd (rkOf x) fun k => M.bnd (evs T σ es) fun rs => methS bx m k x rs
  | .lc elt g it ifs own => M.bnd (evI T σ it) fun s => lcS bx s fun d => M.bnd (asgG T g (.pd d) (wipeS σ own)) fun σ2 => M.bnd (evTs T σ2 ifs) fun k =>
      if k = true then M.bnd (ev T σ2 false elt) fun r => M.bnd (M.opt (asPd r)) fun y => M.ret (some y)
      else M.ret none
  | .bx e => ev T σ true e
  | .lrev t e => M.bnd (ev T σ false e) fun r => revS bx t r
  | .no => M.no
def evs (T : TT) (σ : Sl) : List E → M (List RV)
  | [] => M.ret []
  | e :: es => M.bnd (ev T σ false e) fun x => M.bnd (evs T σ es) fun xs => M.ret (x :: xs)
def evO (T : TT) (σ : Sl) : Option E → M (Option Int)
  | none => M.ret none
  | some e => M.bnd (ev T σ false e) partS
def evC (T : TT) (σ : Sl) : C → M Bool
  | .val e => M.bnd (ev T σ false e) truth
  | .and a b => M.bnd (evC T σ a) fun k => if k = true then evC T σ b else M.ret false
  | .or a b => M.bnd (evC T σ a) fun k => if k = true then M.ret true else evC T σ b
  | .not a => M.bnd (evC T σ a) fun k => M.ret (!k)
def evTs (T : TT) (σ : Sl) : List C → M Bool
  | [] => M.ret true
  | [c] => evC T σ c
  | _ => M.no
def evI (T : TT) (σ : Sl) : I → M Src
  | .val e => M.bnd (ev T σ false e) srcOf
  | .rng es => M.bnd (evs T σ es) rngOf
  | .rev e => M.bnd (ev T σ false e) revOf
def asgG (T : TT) : G → RV → Sl → M Sl
  | .nm i, r, σ => M.ret (σ.set i (some r))
  | .tup gs, r, σ => M.bnd (itemsOf gs.length r) fun rs => asgGs T gs rs σ
  | .sub o i, r, σ => M.bnd (ev T σ false o) fun x => M.bnd (ev T σ false i) fun y => M.bnd (setS x y r) fun _ => M.ret σ
def asgGs (T : TT) : List G → List RV → Sl → M Sl
  | [], [], σ => M.ret σ
  | g :: gs, r :: rs, σ => M.bnd (asgG T g r σ) fun σ' => asgGs T gs rs σ'
  | _, _, _ => M.no
end

def augS : Operator → RV → RV → M RV
  | .Add, .pd (.int a), .pd (.int b) => M.ret (.pd (.int (a + b)))
  | .Sub, .pd (.int a), .pd (.int b) => M.ret (.pd (.int (a - b)))
  | _, _, _ => M.no
/-- how a statement ends -/
inductive Fl where
  | nx (σ : Sl)
  | rt (r : RV)
  | bk (σ : Sl)
  | ct (σ : Sl)
def forL (s : Src) (body : D → Sl → M Fl) : Nat → Nat → Sl → M Fl
  | 0, _, σ => M.bnd (srcEnd s) fun _ => M.ret (.nx σ)
  | k + 1, i, σ => M.bnd (srcAt s i) fun d => M.bnd (body d σ) fun f => match f with
    | .nx σ' => forL s body k (i + 1) σ'
    | .ct σ' => forL s body k (i + 1) σ'
    | .bk σ' => M.ret (.nx σ')
    | .rt r => M.ret (.rt r)
def whlL (test : Sl → M Bool) (body : Sl → M Fl) : Nat → Sl → M Fl
  | 0, _ => M.no
  | k + 1, σ => M.bnd (test σ) fun b => if b = true then M.bnd (body σ) fun f => match f with
      | .nx σ' => whlL test body k σ'
      | .ct σ' => whlL test body k σ'
      | .bk σ' => M.ret (.nx σ')
      | .rt r => M.ret (.rt r)
    else M.ret (.nx σ)
mutual
def ex (T : TT) : S → Sl → M Fl
  | .asg g e, σ => M.bnd (ev T σ false e) fun r => M.bnd (asgG T g r σ) fun σ' => M.ret (.nx σ')
  | .aug op i e, σ => M.bnd (getV σ i) fun x => M.bnd (ev T σ false e) fun y => M.bnd (augS op x y) fun r => M.ret (.nx (σ.set i (some r)))
  | .expr e, σ => M.bnd (ev T σ false e) fun _ => M.ret (.nx σ)
  | .ite c a b, σ => M.bnd (evC T σ c) fun k => if k = true then exs T a σ else exs T b σ
  | .for_ g it body, σ => M.bnd (evI T σ it) fun s => forL s (fun d σ1 => M.bnd (asgG T g (.pd d) σ1) fun σ2 => exs T body σ2) s.items.length 0 σ
  | .while_ c body, σ => whlL (fun σ1 => evC T σ1 c) (fun σ1 => exs T body σ1) T.wf σ
  | .ret e, σ => M.bnd (ev T σ false e) fun r => M.ret (.rt r)
  | .retN, _ => M.ret (.rt (.pd .none))
  | .brk, σ => M.ret (.bk σ)
  | .cnt, σ => M.ret (.ct σ)
  | .pass, σ => M.ret (.nx σ)
  | .no, _ => M.no
def exs (T : TT) : List S → Sl → M Fl
  | [], σ => M.ret (.nx σ)
  | s :: ss, σ => M.bnd (ex T s σ) fun f => match f with
    | .nx σ' => exs T ss σ'
    | f => M.ret f
end

/-! ### calls -/
structure Def where
  pars : Nat
  slots : Nat
  body : List S
def startS (n : Nat) (rs : List RV) : Sl := rs.map some ++ List.replicate (n - rs.length) none
def rawDef (T : TT) (d : Def) (rs : List RV) : M RV := fun h =>
  if rs.length = d.pars then
    match exs T d.body (startS d.slots rs) h with
    | .ok (.rt r) h' => .ok r h'
    | .ok (.nx _) h' => .ok (.pd .none) h'
    | .ok _ _ => .no
    | .ex x h' => .ex x h'
    | .no => .no
  else .no
/-- the module: its defs, its constants -/
structure Mdl where
  defs : Str → Option Def
  cst : Str → Option D
  wf : Nat
def Mdl.tt (P : Mdl) : Nat → TT
  | 0 => ⟨fun _ _ => M.no, P.cst, fun x => (P.defs x).isSome, P.wf⟩
  | n + 1 => ⟨fun f rs => match P.defs f with
      | some d => rawDef (P.tt n) d rs
      | none => M.no, P.cst, fun x => (P.defs x).isSome, P.wf⟩
end AI

set_option Elab.async false
set_option linter.all false
set_option maxRecDepth 100000
set_option maxHeartbeats 4000000
/-! AiEq: == and != of data without dicts, whatever its texts. -/
namespace AI
open PySem L2 SeqAt
mutual
def pln : D → Bool
  | .list xs => plns xs
  | .tuple xs => plns xs
  | .dict _ => false
  | _ => true
def plns : List D → Bool
  | [] => true
  | x :: xs => pln x && plns xs
end
mutual
theorem eqv_same : ∀ d : D, pln d = true → PyData.eqv d d = true
  | .none, _ | .bool _, _ | .int _, _ | .str _, _ => by simp [PyData.eqv]
  | .list xs, h | .tuple xs, h => by rw [PyData.eqv]; exact eqvs_same xs (by simpa [pln] using h)
  | .dict _, h => by simp [pln] at h
theorem eqvs_same : ∀ xs : List D, plns xs = true → PyData.eqvAll xs xs = true
  | [], _ => by simp [PyData.eqvAll]
  | x :: xs, h => by
    simp only [plns, Bool.and_eq_true] at h
    simp [PyData.eqvAll, eqv_same x h.1, eqvs_same xs h.2]
end
mutual
theorem one_of {h : Heap} : ∀ (d e : D) (v : Value) (as bs : List Addr), pln d = true → Reads h v d as → Reads h v e bs → d = e
  | .none, _, _, _, _, _, r, q | .bool _, _, _, _, _, _, r, q | .int _, _, _, _, _, _, r, q | .str _, _, _, _, _, _, r, q => by cases r; cases q; rfl
  | .list xs, e, _, _, _, p, r, q => by
    rcases r with _ | _ | _ | _ | ⟨a1, a2, a3, a4⟩
    rcases q with _ | _ | _ | _ | ⟨b1, b2, b3, b4⟩ | ⟨b1, b2, b3, b4⟩ | ⟨b1, b2, b3, b4, b5⟩
    · obtain rfl := Option.some.inj (a1.symm.trans b1)
      rw [a3] at b3; cases b3
      rw [ones_of xs _ _ _ _ (by simpa [pln] using p) a4 b4]
    · obtain rfl := Option.some.inj (a1.symm.trans b1)
      rw [a2] at b2; simp at b2
    · obtain rfl := Option.some.inj (a1.symm.trans b1)
      rw [a2] at b2; simp at b2
  | .tuple xs, e, _, _, _, p, r, q => by
    rcases r with _ | _ | _ | _ | _ | ⟨a1, a2, a3, a4⟩
    rcases q with _ | _ | _ | _ | ⟨b1, b2, b3, b4⟩ | ⟨b1, b2, b3, b4⟩ | ⟨b1, b2, b3, b4, b5⟩
    · obtain rfl := Option.some.inj (a1.symm.trans b1)
      rw [a2] at b2; simp at b2
    · obtain rfl := Option.some.inj (a1.symm.trans b1)
      rw [a3] at b3; cases b3
      rw [ones_of xs _ _ _ _ (by simpa [pln] using p) a4 b4]
    · obtain rfl := Option.some.inj (a1.symm.trans b1)
      rw [a2] at b2; simp at b2
  | .dict _, _, _, _, _, p, _, _ => by simp [pln] at p
theorem ones_of {h : Heap} : ∀ (xs ys : List D) (vs : List Value) (as bs : List Addr), plns xs = true → ReadsAll h vs xs as → ReadsAll h vs ys bs → xs = ys
  | [], _, _, _, _, _, r, q => by cases r; cases q; rfl
  | x :: xs, _, _, _, _, p, r, q => by
    simp only [plns, Bool.and_eq_true] at p
    rcases r with _ | ⟨r1, r2⟩
    rcases q with _ | ⟨q1, q2⟩
    rw [one_of x _ _ _ _ p.1 r1 q1, ones_of xs _ _ _ _ p.2 r2 q2]
end
theorem rl {h : Heap} {a : Value} {xs : List D} {as : List Addr} (r : Reads h a (.list xs) as) : ∃ l o vs n cs, a = .ref l ∧ h.get? l = some o ∧ o.cls = .type "list" ∧ o.data = .seq vs n ∧ ReadsAll h vs.toList xs cs := by
  cases r with
  | list a1 a2 a3 a4 => exact ⟨_, _, _, _, _, rfl, a1, a2, a3, a4⟩
theorem rt {h : Heap} {a : Value} {xs : List D} {as : List Addr} (r : Reads h a (.tuple xs) as) : ∃ l o vs n cs, a = .ref l ∧ h.get? l = some o ∧ o.cls = .type "tuple" ∧ o.data = .seq vs n ∧ ReadsAll h vs.toList xs cs := by
  cases r with
  | tuple a1 a2 a3 a4 => exact ⟨_, _, _, _, _, rfl, a1, a2, a3, a4⟩
mutual
theorem eqp : ∀ (d e : D) (A : Around) (s : Shared) (a b : Value) (as bs : List Addr), Reads s.heap a d as → Reads s.heap b e bs → pln d = true → pln e = true → A.units + min d.depth e.depth < cLine → EqAt A s a b (PyData.eqv d e)
  | .none, e, A, s, _, _, _, _, r, q, _, p, u => by
    cases r
    cases q with
    | none => refine EqAt.same _
    | bool z => refine EqAt.none_bool z
    | int z zt => refine EqAt.none_int z zt
    | str z zt => refine EqAt.none_str z zt
    | list b1 b2 b3 b4 => refine EqAt.none_list ⟨_, b1, b2, _, b3⟩ (room_here u)
    | tuple b1 b2 b3 b4 => refine EqAt.none_tuple ⟨_, b1, b2, _, b3⟩ (room_here u)
    | dict => simp [pln] at p
  | .bool k, e, A, s, _, _, _, _, r, q, _, p, u => by
    rcases r with _ | _
    cases q with
    | none => refine EqAt.bool_none k
    | bool z => refine EqAt.bool_bool k z
    | int z zt => refine EqAt.bool_int k z zt
    | str z zt => refine EqAt.bool_str k z zt
    | list b1 b2 b3 b4 => refine EqAt.bool_list k ⟨_, b1, b2, _, b3⟩ (room_here u)
    | tuple b1 b2 b3 b4 => refine EqAt.bool_tuple k ⟨_, b1, b2, _, b3⟩ (room_here u)
    | dict => simp [pln] at p
  | .int k, e, A, s, _, _, _, _, r, q, _, p, u => by
    rcases r with _ | _ | ⟨_, kt⟩
    cases q with
    | none => refine EqAt.int_none k kt
    | bool z => refine EqAt.int_bool k kt z
    | int z zt => refine EqAt.int_int k kt z zt
    | str z zt => refine EqAt.int_str k kt z zt
    | list b1 b2 b3 b4 => refine EqAt.int_list k kt ⟨_, b1, b2, _, b3⟩ (room_here u)
    | tuple b1 b2 b3 b4 => refine EqAt.int_tuple k kt ⟨_, b1, b2, _, b3⟩ (room_here u)
    | dict => simp [pln] at p
  | .str k, e, A, s, _, _, _, _, r, q, _, p, u => by
    rcases r with _ | _ | _ | ⟨_, kt⟩
    cases q with
    | none => refine EqAt.str_none k kt
    | bool z => refine EqAt.str_bool k kt z
    | int z zt => refine EqAt.str_int k kt z zt
    | str z zt => refine EqAt.str_str k kt z zt
    | list b1 b2 b3 b4 => refine EqAt.str_list k kt ⟨_, b1, b2, _, b3⟩ (room_here u)
    | tuple b1 b2 b3 b4 => refine EqAt.str_tuple k kt ⟨_, b1, b2, _, b3⟩ (room_here u)
    | dict => simp [pln] at p
  | .list xs, e, A, s, _, _, _, _, r, q, p, p', u => by
    have r0 := r
    obtain ⟨l1, o1, w1, n1', c1, rfl, a1, a2, a3, a4⟩ := rl r
    have hl : s.heap.IsList _ _ := ⟨_, a1, a2, _, a3⟩
    cases q with
    | @list l2 _ ws _ ys _ b1 b2 b3 b4 =>
      have hl' : s.heap.IsList _ _ := ⟨_, b1, b2, _, b3⟩
      have n1 := ReadsAll.length _ _ _ a4
      have n2 := ReadsAll.length _ _ _ b4
      simp only [Array.length_toList] at n1 n2
      show EqAt A s _ _ (PyData.eqvAll xs ys)
      by_cases z : l1 = l2
      · subst z
        have w := one_of (.list xs) (.list ys) _ _ _ p r0 (.list b1 b2 b3 b4)
        injection w with w
        subst w
        rw [eqvs_same xs (by simpa [pln] using p)]
        exact EqAt.same _
      · by_cases y : xs.length = ys.length
        · rw [← eqvAll_same_length y, ← n1]
          exact EqAt.of_refs z (RcAt.lists hl hl' (by omega) (room_here u) fun j j1 j2 => by
            have := eqps xs ys A.in1 s _ _ _ _ a4 b4 (by simpa [pln] using p) (by simpa [pln] using p') (room_in u) j (by simpa using j1) (by simpa using j2)
            simpa using this)
        · rw [eqvAll_other_length y]
          exact EqAt.of_refs z (RcAt.lists_lengths hl hl' (by simp; omega) (room_here u))
    | none => exact EqAt.list_none hl (room_here u)
    | bool _ => exact EqAt.list_bool _ hl (room_here u)
    | int _ _ => exact EqAt.list_int _ _ hl (room_here u)
    | str _ _ => exact EqAt.list_str _ _ hl (room_here u)
    | tuple b1 b2 b3 b4 => exact EqAt.list_tuple hl ⟨_, b1, b2, _, b3⟩ (room_here u)
    | dict => simp [pln] at p'
  | .tuple xs, e, A, s, _, _, _, _, r, q, p, p', u => by
    have r0 := r
    obtain ⟨l1, o1, w1, n1', c1, rfl, a1, a2, a3, a4⟩ := rt r
    have hl : s.heap.IsTuple _ _ := ⟨_, a1, a2, _, a3⟩
    cases q with
    | @tuple l2 _ ws _ ys _ b1 b2 b3 b4 =>
      have hl' : s.heap.IsTuple _ _ := ⟨_, b1, b2, _, b3⟩
      have n1 := ReadsAll.length _ _ _ a4
      have n2 := ReadsAll.length _ _ _ b4
      simp only [Array.length_toList] at n1 n2
      show EqAt A s _ _ (PyData.eqvAll xs ys)
      by_cases z : l1 = l2
      · subst z
        have w := one_of (.tuple xs) (.tuple ys) _ _ _ p r0 (.tuple b1 b2 b3 b4)
        injection w with w
        subst w
        rw [eqvs_same xs (by simpa [pln] using p)]
        exact EqAt.same _
      · rw [← eqvAll_eq xs ys, ← n1, ← n2]
        exact EqAt.of_refs z (RcAt.tuples hl hl' (room_here u) fun j j1 j2 => by
          have := eqps xs ys A.in1 s _ _ _ _ a4 b4 (by simpa [pln] using p) (by simpa [pln] using p') (room_in u) j (by simpa using j1) (by simpa using j2)
          simpa using this)
    | none => exact EqAt.tuple_none hl (room_here u)
    | bool _ => exact EqAt.tuple_bool _ hl (room_here u)
    | int _ _ => exact EqAt.tuple_int _ _ hl (room_here u)
    | str _ _ => exact EqAt.tuple_str _ _ hl (room_here u)
    | list b1 b2 b3 b4 => exact EqAt.tuple_list hl ⟨_, b1, b2, _, b3⟩ (room_here u)
    | dict => simp [pln] at p'
  | .dict _, _, _, _, _, _, _, _, _, _, p, _, _ => by simp [pln] at p
theorem eqps : ∀ (xs ys : List D) (A : Around) (s : Shared) (vs ws : List Value) (as bs : List Addr), ReadsAll s.heap vs xs as → ReadsAll s.heap ws ys bs → plns xs = true → plns ys = true →
    A.units + min (PyData.depthAll xs) (PyData.depthAll ys) < cLine → ∀ j (h1 : j < vs.length) (h2 : j < ws.length), EqAt A s vs[j] ws[j] (pairEq xs ys j)
  | [], _, _, _, _, _, _, _, r, _, _, _, _, j, h1, _ => by cases r; simp at h1
  | _ :: _, [], _, _, _, _, _, _, _, q, _, _, _, j, _, h2 => by cases q; simp at h2
  | x :: xs, y :: ys, A, s, _, _, _, _, r, q, p, p', u, j, h1, h2 => by
    simp only [plns, Bool.and_eq_true] at p p'
    rcases r with _ | ⟨r1, r2⟩
    rcases q with _ | ⟨q1, q2⟩
    rcases j with _ | j
    · exact eqp x y A s _ _ _ _ r1 q1 p.1 p'.1 (room_head u)
    · exact eqps xs ys A s _ _ _ _ r2 q2 p.2 p'.2 (room_tail u) j (Nat.lt_of_succ_lt_succ h1) (Nat.lt_of_succ_lt_succ h2)
end
section
variable {A : Around} {s : Shared} {a b : Value} {as bs : List Addr}
/-- ==, asked itself -/
theorem rcp (d e : D) (r : Reads s.heap a d as) (q : Reads s.heap b e bs) (p : pln d = true) (p' : pln e = true) (u : A.units + min d.depth e.depth < cLine) : RcAt A s a b (PyData.eqv d e) ∧ RcNeAt A s a b (!PyData.eqv d e) := by
  cases r with
  | none =>
    cases q with
    | none => refine ⟨RcAt.none_none, RcNeAt.none_none⟩
    | bool z => refine ⟨RcAt.none_bool z, RcNeAt.none_bool z⟩
    | int z zt => refine ⟨RcAt.none_int z zt, RcNeAt.none_int z zt⟩
    | str z zt => refine ⟨RcAt.none_str z zt, RcNeAt.none_str z zt⟩
    | list b1 b2 b3 b4 => refine ⟨RcAt.none_list ⟨_, b1, b2, _, b3⟩ (room_here u), RcNeAt.none_list ⟨_, b1, b2, _, b3⟩ (room_here u)⟩
    | tuple b1 b2 b3 b4 => refine ⟨RcAt.none_tuple ⟨_, b1, b2, _, b3⟩ (room_here u), RcNeAt.none_tuple ⟨_, b1, b2, _, b3⟩ (room_here u)⟩
    | dict => simp [pln] at p'
  | bool k =>
    cases q with
    | none => refine ⟨RcAt.bool_none k, RcNeAt.bool_none k⟩
    | bool z => refine ⟨RcAt.bool_bool k z, RcNeAt.bool_bool k z⟩
    | int z zt => refine ⟨RcAt.bool_int k z zt, RcNeAt.bool_int k z zt⟩
    | str z zt => refine ⟨RcAt.bool_str k z zt, RcNeAt.bool_str k z zt⟩
    | list b1 b2 b3 b4 => refine ⟨RcAt.bool_list k ⟨_, b1, b2, _, b3⟩ (room_here u), RcNeAt.bool_list k ⟨_, b1, b2, _, b3⟩ (room_here u)⟩
    | tuple b1 b2 b3 b4 => refine ⟨RcAt.bool_tuple k ⟨_, b1, b2, _, b3⟩ (room_here u), RcNeAt.bool_tuple k ⟨_, b1, b2, _, b3⟩ (room_here u)⟩
    | dict => simp [pln] at p'
  | int k kt =>
    cases q with
    | none => refine ⟨RcAt.int_none k kt, RcNeAt.int_none k kt⟩
    | bool z => refine ⟨RcAt.int_bool k kt z, RcNeAt.int_bool k kt z⟩
    | int z zt => refine ⟨RcAt.int_int k kt z zt, RcNeAt.int_int k kt z zt⟩
    | str z zt => refine ⟨RcAt.int_str k kt z zt, RcNeAt.int_str k kt z zt⟩
    | list b1 b2 b3 b4 => refine ⟨RcAt.int_list k kt ⟨_, b1, b2, _, b3⟩ (room_here u), RcNeAt.int_list k kt ⟨_, b1, b2, _, b3⟩ (room_here u)⟩
    | tuple b1 b2 b3 b4 => refine ⟨RcAt.int_tuple k kt ⟨_, b1, b2, _, b3⟩ (room_here u), RcNeAt.int_tuple k kt ⟨_, b1, b2, _, b3⟩ (room_here u)⟩
    | dict => simp [pln] at p'
  | str k kt =>
    cases q with
    | none => refine ⟨RcAt.str_none k kt, RcNeAt.str_none k kt⟩
    | bool z => refine ⟨RcAt.str_bool k kt z, RcNeAt.str_bool k kt z⟩
    | int z zt => refine ⟨RcAt.str_int k kt z zt, RcNeAt.str_int k kt z zt⟩
    | str z zt => refine ⟨RcAt.str_str k kt z zt, RcNeAt.str_str k kt z zt⟩
    | list b1 b2 b3 b4 => refine ⟨RcAt.str_list k kt ⟨_, b1, b2, _, b3⟩ (room_here u), RcNeAt.str_list k kt ⟨_, b1, b2, _, b3⟩ (room_here u)⟩
    | tuple b1 b2 b3 b4 => refine ⟨RcAt.str_tuple k kt ⟨_, b1, b2, _, b3⟩ (room_here u), RcNeAt.str_tuple k kt ⟨_, b1, b2, _, b3⟩ (room_here u)⟩
    | dict => simp [pln] at p'
  | @list l1 _ vs _ xs _ a1 a2 a3 a4 =>
    have hl : s.heap.IsList _ _ := ⟨_, a1, a2, _, a3⟩
    cases q with
    | @list l2 _ ws _ ys _ b1 b2 b3 b4 =>
      have hl' : s.heap.IsList _ _ := ⟨_, b1, b2, _, b3⟩
      have n1 := ReadsAll.length _ _ _ a4
      have n2 := ReadsAll.length _ _ _ b4
      simp only [Array.length_toList] at n1 n2
      show RcAt A s _ _ (PyData.eqvAll xs ys) ∧ RcNeAt A s _ _ (!PyData.eqvAll xs ys)
      by_cases y : xs.length = ys.length
      · rw [← eqvAll_same_length y, ← n1]
        have go : ∀ j (j1 : j < vs.size) (j2 : j < ws.size), EqAt A.in1 s vs[j] ws[j] (pairEq xs ys j) := fun j j1 j2 => by
          have := eqps xs ys A.in1 s _ _ _ _ a4 b4 (by simpa [pln] using p) (by simpa [pln] using p') (room_in u) j (by simpa using j1) (by simpa using j2)
          simpa using this
        exact ⟨RcAt.lists hl hl' (by omega) (room_here u) go, RcNeAt.lists hl hl' (by omega) (room_here u) go⟩
      · rw [eqvAll_other_length y]
        exact ⟨RcAt.lists_lengths hl hl' (by simp; omega) (room_here u), RcNeAt.lists_lengths hl hl' (by simp; omega) (room_here u)⟩
    | none => exact ⟨RcAt.list_none hl (room_here u), RcNeAt.list_none hl (room_here u)⟩
    | bool _ => exact ⟨RcAt.list_bool _ hl (room_here u), RcNeAt.list_bool _ hl (room_here u)⟩
    | int _ _ => exact ⟨RcAt.list_int _ _ hl (room_here u), RcNeAt.list_int _ _ hl (room_here u)⟩
    | str _ _ => exact ⟨RcAt.list_str _ _ hl (room_here u), RcNeAt.list_str _ _ hl (room_here u)⟩
    | tuple b1 b2 b3 b4 => exact ⟨RcAt.list_tuple hl ⟨_, b1, b2, _, b3⟩ (room_here u), RcNeAt.list_tuple hl ⟨_, b1, b2, _, b3⟩ (room_here u)⟩
    | dict => simp [pln] at p'
  | @tuple l1 _ vs _ xs _ a1 a2 a3 a4 =>
    have hl : s.heap.IsTuple _ _ := ⟨_, a1, a2, _, a3⟩
    cases q with
    | @tuple l2 _ ws _ ys _ b1 b2 b3 b4 =>
      have hl' : s.heap.IsTuple _ _ := ⟨_, b1, b2, _, b3⟩
      have n1 := ReadsAll.length _ _ _ a4
      have n2 := ReadsAll.length _ _ _ b4
      simp only [Array.length_toList] at n1 n2
      show RcAt A s _ _ (PyData.eqvAll xs ys) ∧ RcNeAt A s _ _ (!PyData.eqvAll xs ys)
      rw [← eqvAll_eq xs ys, ← n1, ← n2]
      have go : ∀ j (j1 : j < vs.size) (j2 : j < ws.size), EqAt A.in1 s vs[j] ws[j] (pairEq xs ys j) := fun j j1 j2 => by
        have := eqps xs ys A.in1 s _ _ _ _ a4 b4 (by simpa [pln] using p) (by simpa [pln] using p') (room_in u) j (by simpa using j1) (by simpa using j2)
        simpa using this
      exact ⟨RcAt.tuples hl hl' (room_here u) go, RcNeAt.tuples hl hl' (room_here u) go⟩
    | none => exact ⟨RcAt.tuple_none hl (room_here u), RcNeAt.tuple_none hl (room_here u)⟩
    | bool _ => exact ⟨RcAt.tuple_bool _ hl (room_here u), RcNeAt.tuple_bool _ hl (room_here u)⟩
    | int _ _ => exact ⟨RcAt.tuple_int _ _ hl (room_here u), RcNeAt.tuple_int _ _ hl (room_here u)⟩
    | str _ _ => exact ⟨RcAt.tuple_str _ _ hl (room_here u), RcNeAt.tuple_str _ _ hl (room_here u)⟩
    | list b1 b2 b3 b4 => exact ⟨RcAt.tuple_list hl ⟨_, b1, b2, _, b3⟩ (room_here u), RcNeAt.tuple_list hl ⟨_, b1, b2, _, b3⟩ (room_here u)⟩
    | dict => simp [pln] at p'
  | dict => simp [pln] at p
end
end AI

set_option Elab.async false
set_option linter.all false
set_option maxRecDepth 100000
set_option maxHeartbeats 4000000
/-! AiOps: the operations by values. -/
namespace AI
open PySem L2 SeqAt
section
variable {K : PySem.W.Frag} {mg : Str → Option Value} {μ μ' μ'' : List Addr} {H H' H'' : Hp} {h h' h'' : Boxes}

/-- what is wanted behind: wherever the plain run ends, so does the other -/
def Out (K : PySem.W.Frag) (mg : Str → Option Value) (μ : List Addr) (H : Hp) (res : Res RV) (Q : VK) : Prop := match res with
  | .ok r h' => ∀ v μ' H', RH K μ' h' H' → Ext μ H μ' H' → VR K mg μ' H' v r → Q v H'
  | _ => False
/-- the same, without a value -/
def OutA {α : Type} (K : PySem.W.Frag) (μ : List Addr) (H : Hp) (res : Res α) (P : α → List Addr → Boxes → Hp → Prop) : Prop := match res with
  | .ok a h' => ∀ μ' H', RH K μ' h' H' → Ext μ H μ' H' → P a μ' h' H'
  | _ => False

/-- a value as data: it is, or it is a list's place -/
def VW (K : PySem.W.Frag) (μ : List Addr) (H : Hp) (v : V) (d : D) : Prop :=
  VD K μ H v d ∨ ∃ a vs ds, v = .ref a ∧ d = .list ds ∧ SqL K H a vs ∧ vs.length ≤ sizeLine ∧ VDs K μ H vs ds ∧ ((∃ o, H a = some o) ∨ KL K a vs)
theorem VW.int {v : V} {i : Int} (x : VW K μ H v (.int i)) : v = .int i := by
  rcases x with x | ⟨_, _, _, _, e, _⟩
  · cases x; rfl
  · cases e
theorem VW.str {v : V} {i : Str} (x : VW K μ H v (.str i)) : v = .str i := by
  rcases x with x | ⟨_, _, _, _, e, _⟩
  · cases x; rfl
  · cases e
theorem VW.bl {v : V} {i : Bool} (x : VW K μ H v (.bool i)) : v = .bl i := by
  rcases x with x | ⟨_, _, _, _, e, _⟩
  · cases x; rfl
  · cases e
theorem VW.non {v : V} (x : VW K μ H v .none) : v = .non := by
  rcases x with x | ⟨_, _, _, _, e, _⟩
  · cases x; rfl
  · cases e
theorem VW.list {v : V} {ds : List D} (x : VW K μ H v (.list ds)) : ∃ a vs, v = .ref a ∧ SqL K H a vs ∧ VDs K μ H vs ds ∧ vs.length ≤ sizeLine := by
  rcases x with x | ⟨a, vs, ds', rfl, e, q, z, r, _⟩
  · cases x with
    | lst q n z r => exact ⟨_, _, rfl, .of q, r, z⟩
  · cases e; exact ⟨a, vs, rfl, q, r, z⟩
theorem VD.sqT {v : V} {ds : List D} (x : VD K μ H v (.tuple ds)) : ∃ a vs, v = .ref a ∧ SqT K H a vs ∧ VDs K μ H vs ds ∧ vs.length ≤ sizeLine := by
  cases x with
  | tup q n z r => exact ⟨_, _, rfl, q.sq, r, z⟩
  | tupK q r =>
    obtain ⟨o, its, n, q1, q2, q3, q4, hz, rv⟩ := q
    refine ⟨_, _, rfl, .inr ⟨o, its, n, q1, q2, q4, hz, rv⟩, r, ?_⟩
    have := rv.length
    simp at this; omega
theorem VW.tuple {v : V} {ds : List D} (x : VW K μ H v (.tuple ds)) : ∃ a vs, v = .ref a ∧ SqT K H a vs ∧ VDs K μ H vs ds ∧ vs.length ≤ sizeLine := by
  rcases x with x | ⟨_, _, _, _, e, _⟩
  · exact x.sqT
  · cases e
theorem VW.dict {v : V} {kvs : List (D × D)} (x : VW K μ H v (.dict kvs)) : False := by
  rcases x with x | ⟨_, _, _, _, e, _⟩
  · cases x
  · cases e
/-- what dat tells -/
theorem dat_ok {r : RV} {v : V} {d : D} (R : RH K μ h H) (x : VR K mg μ H v r) (e : dat r h = .ok d h') : h' = h ∧ VW K μ H v d := by
  cases r with
  | pd d0 =>
    cases x with
    | pd q => cases e; exact ⟨rfl, .inl q⟩
  | fz ds =>
    cases x with
    | fz q f z r =>
      cases e
      exact ⟨rfl, .inr ⟨_, _, _, rfl, rfl, q, z, r, f.imp (fun f => ⟨_, f.1.choose_spec⟩) id⟩⟩
  | rf n =>
    cases x with
    | rf q =>
      simp only [dat] at e
      cases hb : h[n]? with
      | none => rw [hb] at e; cases e
      | some b =>
        rw [hb] at e
        cases b with
        | gone => cases e
        | mix _ => cases e
        | lst ds =>
          cases e
          obtain ⟨vs, q1, q2, q3⟩ := R.box n _ _ q hb
          exact ⟨rfl, .inr ⟨_, _, _, rfl, rfl, .of q1, q3, q2, .inl ⟨_, q1⟩⟩⟩
  | tp _ => cases e
  | gl _ => cases e

/-! ### data as the layer's own data -/
mutual
theorem VD.dp : ∀ (d : D) (v : V), VD K μ H v d → Dp K H v d ∧ pln d = true
  | .none, _, x => by cases x; exact ⟨.non, rfl⟩
  | .bool b, _, x => by cases x; exact ⟨.bl b, rfl⟩
  | .int i, _, x => by cases x; exact ⟨.int i, rfl⟩
  | .str y, _, x => by cases x; exact ⟨.str y, rfl⟩
  | .list ds, _, x => by
    cases x with
    | lst q n z r => obtain ⟨a, b⟩ := VDs.dp ds _ r; exact ⟨.lst (.of q) a, by simpa [pln] using b⟩
  | .tuple ds, _, x => by
    obtain ⟨a, vs, rfl, q, r, _⟩ := x.sqT
    obtain ⟨p, b⟩ := VDs.dp ds _ r
    exact ⟨.tup q p, by simpa [pln] using b⟩
  | .dict _, _, x => by cases x
theorem VDs.dp : ∀ (ds : List D) (vs : List V), VDs K μ H vs ds → DpAll K H vs ds ∧ plns ds = true
  | [], _, x => by cases x; exact ⟨.nil, rfl⟩
  | d :: ds, _, x => by
    cases x with
    | cons a b =>
      obtain ⟨p, q⟩ := VD.dp d _ a
      obtain ⟨p', q'⟩ := VDs.dp ds _ b
      exact ⟨.cons p p', by simp [plns, q, q']⟩
end
theorem VW.dp {v : V} {d : D} (x : VW K μ H v d) : Dp K H v d ∧ pln d = true := by
  rcases x with x | ⟨a, vs, ds, rfl, rfl, q, z, r, _⟩
  · exact VD.dp _ _ x
  · obtain ⟨p, b⟩ := VDs.dp ds _ r
    exact ⟨.lst q p, by simpa [pln] using b⟩
end

section
variable {X : Cx}
/-! ### ==, in -/
def rEqP (K : PySem.W.Frag) (neg : Bool) : R2 := fun x y H Q => ∃ d e, Dp K H x d ∧ Dp K H y e ∧ pln d = true ∧ pln e = true ∧ min d.depth e.depth ≤ 64 ∧ Q (.bl (if neg then !PyData.eqv d e else PyData.eqv d e)) H
theorem op_eqP (hu : X.A.units + 65 < cLine) : OpR X (compareOp .Eq) (rEqP X.K false) := by
  intro pins s σ H x y v u Q I rx ry ⟨d, e, hd, he, pd, pe, hm, q⟩
  obtain ⟨as, r1⟩ := Dp.reads I d x v hd rx
  obtain ⟨bs, r2⟩ := Dp.reads I e y u he ry
  exact (rcp d e r1 r2 pd pe (by omega)).1 X.prog X.w X.xe _ ⟨.bl _, H, I, rfl, q⟩
theorem op_neP (hu : X.A.units + 65 < cLine) : OpR X (compareOp .NotEq) (rEqP X.K true) := by
  intro pins s σ H x y v u Q I rx ry ⟨d, e, hd, he, pd, pe, hm, q⟩
  obtain ⟨as, r1⟩ := Dp.reads I d x v hd rx
  obtain ⟨bs, r2⟩ := Dp.reads I e y u he ry
  exact (rcp d e r1 r2 pd pe (by omega)).2 X.prog X.w X.xe _ ⟨.bl _, H, I, rfl, q⟩
noncomputable def isD (s : Shared) (d : D) (u : Value) : Bool := @decide (∃ z as, Reads s.heap u z as ∧ pln z = true ∧ PyData.eqv z d = true) (Classical.propDecidable _)
theorem isD_of {s : Shared} {d z : D} {u : Value} {as : List Addr} (r : Reads s.heap u z as) (p : pln z = true) : isD s d u = PyData.eqv z d := by
  unfold isD
  cases e : PyData.eqv z d with
  | true => exact @decide_eq_true _ (Classical.propDecidable _) ⟨z, as, r, p, e⟩
  | false =>
    refine @decide_eq_false _ (Classical.propDecidable _) fun ⟨z', bs, r', p', e'⟩ => ?_
    rw [one_of z z' u as bs p r r', e'] at e; cases e
theorem any_isD {s : Shared} {d : D} : ∀ {ds : List D} {us : List Value} {as : List Addr}, ReadsAll s.heap us ds as → plns ds = true → us.any (isD s d) = ds.any fun z => PyData.eqv z d
  | [], _, _, r, _ => by cases r; rfl
  | z :: ds, _, _, r, p => by
    simp only [plns, Bool.and_eq_true] at p
    cases r with
    | cons r1 r2 => rw [List.any_cons, List.any_cons, isD_of r1 p.1, any_isD r2 p.2]
theorem eqAt_isD {A : Around} {s : Shared} {d : D} {v : Value} {bs : List Addr} (rv : Reads s.heap v d bs) (pd : pln d = true) (hu : A.units + d.depth < cLine) : ∀ {ds : List D} {us : List Value} {as : List Addr}, ReadsAll s.heap us ds as → plns ds = true → ∀ u ∈ us, EqAt A s u v (isD s d u)
  | [], _, _, r, _ => by cases r; intro u hu; cases hu
  | z :: ds, _, _, r, p => by
    simp only [plns, Bool.and_eq_true] at p
    cases r with
    | cons r1 r2 =>
      intro u hm
      rcases List.mem_cons.mp hm with rfl | hm
      · rw [isD_of r1 p.1]
        exact eqp z d A s _ _ _ _ r1 rv p.1 pd (by have : min z.depth d.depth ≤ d.depth := Nat.min_le_right _ _; omega)
      · exact eqAt_isD rv pd hu r2 p.2 u hm
def rInP (K : PySem.W.Frag) (neg : Bool) : R2 := fun x y H Q => ∃ d ds a vs, Dp K H x d ∧ y = .ref a ∧ (SqL K H a vs ∨ SqT K H a vs) ∧ DpAll K H vs ds ∧ pln d = true ∧ plns ds = true ∧ d.depth ≤ 64 ∧
  Q (.bl (if neg then !(ds.any fun z => PyData.eqv z d) else ds.any fun z => PyData.eqv z d)) H
theorem op_inP (hu : X.A.units + 70 < cLine) : OpR X (compareOp .In) (rInP X.K false) := by
  intro pins s σ H x y v u Q I rx ry ⟨d, ds, a, vs, hd, ey, hq, ha, pd, pe, hm, q⟩
  subst ey
  cases ry
  obtain ⟨bs, rv⟩ := Dp.reads I d x v hd rx
  have un : X.A.in1.units + d.depth < cLine := by show X.A.units + 1 + d.depth < cLine; omega
  rcases hq with hq | hq
  · obtain ⟨its, rr, pl, hz⟩ := I.list hq
    obtain ⟨as, ra⟩ := Dp.readsAll I ds vs its ha rr
    refine in_listAt (isD s d) pl.isList (fun w hw => eqAt_isD rv pd un ra pe w (by simpa using hw)) ⟨.bl _, H, I, rfl, ?_⟩
    rw [show its.toArray.any (isD s d) = its.any (isD s d) by simp, any_isD ra pe]
    exact q
  · obtain ⟨its, rr, pl, hz⟩ := I.tuple hq
    obtain ⟨as, ra⟩ := Dp.readsAll I ds vs its ha rr
    refine in_tupleAt (isD s d) (show s.heap.IsTuple a its.toArray from pl) (fun w hw => eqAt_isD rv pd un ra pe w (by simpa using hw)) ⟨.bl _, H, I, rfl, ?_⟩
    rw [show its.toArray.any (isD s d) = its.any (isD s d) by simp, any_isD ra pe]
    exact q
theorem op_ninP (hu : X.A.units + 70 < cLine) : OpR X (compareOp .NotIn) (rInP X.K true) := by
  intro pins s σ H x y v u Q I rx ry ⟨d, ds, a, vs, hd, ey, hq, ha, pd, pe, hm, q⟩
  subst ey
  cases ry
  obtain ⟨bs, rv⟩ := Dp.reads I d x v hd rx
  have un : X.A.in1.units + d.depth < cLine := by show X.A.units + 1 + d.depth < cLine; omega
  rcases hq with hq | hq
  · obtain ⟨its, rr, pl, hz⟩ := I.list hq
    obtain ⟨as, ra⟩ := Dp.readsAll I ds vs its ha rr
    refine notIn_listAt (isD s d) pl.isList (fun w hw => eqAt_isD rv pd un ra pe w (by simpa using hw)) ⟨.bl _, H, I, rfl, ?_⟩
    rw [show its.toArray.any (isD s d) = its.any (isD s d) by simp, any_isD ra pe]
    exact q
  · obtain ⟨its, rr, pl, hz⟩ := I.tuple hq
    obtain ⟨as, ra⟩ := Dp.readsAll I ds vs its ha rr
    refine notIn_tupleAt (isD s d) (show s.heap.IsTuple a its.toArray from pl) (fun w hw => eqAt_isD rv pd un ra pe w (by simpa using hw)) ⟨.bl _, H, I, rfl, ?_⟩
    rw [show its.toArray.any (isD s d) = its.any (isD s d) by simp, any_isD ra pe]
    exact q
end
end AI

set_option Elab.async false
set_option linter.all false
set_option maxRecDepth 100000
set_option maxHeartbeats 4000000
/-! AiLt: the order of tuples: the first place that differs decides, what stands behind it is not asked. -/
namespace AI
open PySem PySem.Spec PyProof.Rows L2 SeqAt
open PySem.AutoSeq1 (wpAny_loadPart')
open PySem.MeetsSeq PySem.MeetsSeq2 PySem.MeetsSeq3

/-- behind place i, all places ahead of it alike -/
theorem tupltAt (p q : Addr) (xs ys : Array Value) (m m2 : Nat) (d1 d2 : Option Addr) (w1 w2 : Array (Option Value)) (e r : Nat → Bool) : Meets (Builtin.«tuple.__lt__» ⟨[.ref p, .ref q], []⟩) (fun A R s =>
    s.heap.get? p = some { cls := .type "tuple", dict := d1, data := .seq xs m, slots := w1 } ∧ s.heap.get? q = some { cls := .type "tuple", dict := d2, data := .seq ys m2, slots := w2 } ∧
    (∀ j (j1 : j < xs.size) (j2 : j < ys.size), EqAt A.in1 s xs[j] ys[j] (e j)) ∧ (∀ j (j1 : j < xs.size) (j2 : j < ys.size), (∀ i, i < j → e i = true) → e j = false → Ob.RcOp .Lt A.in1 s xs[j] ys[j] (r j)) ∧
    R (.ok (.ret (.bool (Ob.lexAt e r (decide (xs.size < ys.size)) 0 (min xs.size ys.size))))) s) := .of_wp fun prog w A R s z => by
  obtain ⟨hp, gs, ds, ts, os⟩ := s
  obtain ⟨z1, z2, z3, z4, z5⟩ := z
  have sub := AutoSeq1.sub_tuple_tuple
  have len : (xs.toList.zip ys.toList).length = min xs.size ys.size := by simp
  wp_walk using wpAny_loadPart' z1, wpAny_loadPart' z2, wpAny_forIn_list _ (fun rest b s' => b.1 = none ∧ s' = ⟨hp, gs, ds, ts, os⟩ ∧ ∃ i, rest = (xs.toList.zip ys.toList).drop i ∧ (∀ k, k < i → k < min xs.size ys.size → e k = true) ∧ R (.ok (.ret (.bool (Ob.lexAt e r (decide (xs.size < ys.size)) i (min xs.size ys.size - i))))) ⟨hp, gs, ds, ts, os⟩) _
  case turn =>
    rintro ⟨u, v⟩ rest b s' ⟨f1, rfl, i, f2, al, f3⟩
    have lt : i < (xs.toList.zip ys.toList).length := by
      by_cases c : i < (xs.toList.zip ys.toList).length
      · exact c
      · rw [List.drop_of_length_le (Nat.le_of_not_lt c)] at f2
        cases f2
    have lm : i < min xs.size ys.size := by rw [← len]; exact lt
    have l1 : i < xs.size := by omega
    have l2 : i < ys.size := by omega
    rw [List.drop_eq_getElem_cons lt] at f2
    injection f2 with f4 f5
    have e1 : u = xs[i] := by simpa using congrArg Prod.fst f4
    have e2 : v = ys[i] := by simpa using congrArg Prod.snd f4
    subst e1 e2
    have st : min xs.size ys.size - i = (min xs.size ys.size - (i + 1)) + 1 := by omega
    rw [st, Ob.lexAt_succ] at f3
    refine wpAny_bind (z3 i l1 l2 prog w _ _ ?_)
    by_cases c : e i = true
    · rw [if_pos c] at f3
      rw [c]
      wp_walk
      exact ⟨rfl, rfl, i + 1, f5, fun k k1 k2 => (Nat.lt_succ_iff_lt_or_eq.mp k1).elim (fun k3 => al k k3 k2) (fun k3 => k3 ▸ c), f3⟩
    · have c' : e i = false := by simpa using c
      rw [if_neg c] at f3
      rw [c']
      have go := z4 i l1 l2 (fun k k1 => al k k1 (by omega)) c' prog w
      wp_walk using go
      exact ⟨_, rfl, by simpa using f3⟩
  case fin =>
    rintro ⟨b1, b2⟩ s' ⟨f1, rfl, i, f2, al, f3⟩
    simp only at f1
    subst f1
    have ge : min xs.size ys.size ≤ i := by
      by_cases c : i < (xs.toList.zip ys.toList).length
      · rw [List.drop_eq_getElem_cons c] at f2
        cases f2
      · rw [← len]; exact Nat.le_of_not_lt c
    rw [Nat.sub_eq_zero_of_le ge, Ob.lexAt_zero] at f3
    wp_walk
    exact ⟨_, rfl, by simpa [Builtin.Tuple.tupleCompareSizes] using f3⟩
  case h => exact ⟨rfl, rfl, 0, rfl, fun k k1 => absurd k1 (Nat.not_lt_zero k), by simpa using z5⟩
theorem tuplt {A : Around} {s : Shared} {p q : Addr} {xs ys : Array Value} {e r : Nat → Bool} (h1 : s.heap.IsTuple p xs) (h2 : s.heap.IsTuple q ys) (u : A.units < cLine) (he : ∀ j (j1 : j < xs.size) (j2 : j < ys.size), EqAt A.in1 s xs[j] ys[j] (e j))
    (hr : ∀ j (j1 : j < xs.size) (j2 : j < ys.size), (∀ i, i < j → e i = true) → e j = false → Ob.RcOp .Lt A.in1 s xs[j] ys[j] (r j)) : Ob.RcOp .Lt A s (.ref p) (.ref q) (Ob.lexAt e r (decide (xs.size < ys.size)) 0 (min xs.size ys.size)) := fun prog w E Q z => by
  obtain ⟨⟨c1, d1, o1, s1⟩, a1, a2, m1, a3⟩ := id h1
  obtain ⟨⟨c2, d2, o2, s2⟩, b1, b2, m2, b3⟩ := id h2
  simp only at a2 a3 b2 b3
  subst a2 a3 b2 b3
  exact richCompare_meets_room (op := .Lt) ⟨_, a1, rfl⟩ ⟨_, b1, rfl⟩ F.slot_tuple_lt F.entry_tuple_lt (F.args_tuple_lt_2 _ _) (tupltAt p q xs ys m1 m2 d1 d2 s1 s2 e r) ⟨a1, b1, he, hr, ⟨(fun x => nomatch x), z⟩⟩ u


/-- behind place i, all places ahead of it alike -/
theorem tupgtAt (p q : Addr) (xs ys : Array Value) (m m2 : Nat) (d1 d2 : Option Addr) (w1 w2 : Array (Option Value)) (e r : Nat → Bool) : Meets (Builtin.«tuple.__gt__» ⟨[.ref p, .ref q], []⟩) (fun A R s =>
    s.heap.get? p = some { cls := .type "tuple", dict := d1, data := .seq xs m, slots := w1 } ∧ s.heap.get? q = some { cls := .type "tuple", dict := d2, data := .seq ys m2, slots := w2 } ∧
    (∀ j (j1 : j < xs.size) (j2 : j < ys.size), EqAt A.in1 s xs[j] ys[j] (e j)) ∧ (∀ j (j1 : j < xs.size) (j2 : j < ys.size), (∀ i, i < j → e i = true) → e j = false → Ob.RcOp .Gt A.in1 s xs[j] ys[j] (r j)) ∧
    R (.ok (.ret (.bool (Ob.lexAt e r (decide (xs.size > ys.size)) 0 (min xs.size ys.size))))) s) := .of_wp fun prog w A R s z => by
  obtain ⟨hp, gs, ds, ts, os⟩ := s
  obtain ⟨z1, z2, z3, z4, z5⟩ := z
  have sub := AutoSeq1.sub_tuple_tuple
  have len : (xs.toList.zip ys.toList).length = min xs.size ys.size := by simp
  wp_walk using wpAny_loadPart' z1, wpAny_loadPart' z2, wpAny_forIn_list _ (fun rest b s' => b.1 = none ∧ s' = ⟨hp, gs, ds, ts, os⟩ ∧ ∃ i, rest = (xs.toList.zip ys.toList).drop i ∧ (∀ k, k < i → k < min xs.size ys.size → e k = true) ∧ R (.ok (.ret (.bool (Ob.lexAt e r (decide (xs.size > ys.size)) i (min xs.size ys.size - i))))) ⟨hp, gs, ds, ts, os⟩) _
  case turn =>
    rintro ⟨u, v⟩ rest b s' ⟨f1, rfl, i, f2, al, f3⟩
    have lt : i < (xs.toList.zip ys.toList).length := by
      by_cases c : i < (xs.toList.zip ys.toList).length
      · exact c
      · rw [List.drop_of_length_le (Nat.le_of_not_lt c)] at f2
        cases f2
    have lm : i < min xs.size ys.size := by rw [← len]; exact lt
    have l1 : i < xs.size := by omega
    have l2 : i < ys.size := by omega
    rw [List.drop_eq_getElem_cons lt] at f2
    injection f2 with f4 f5
    have e1 : u = xs[i] := by simpa using congrArg Prod.fst f4
    have e2 : v = ys[i] := by simpa using congrArg Prod.snd f4
    subst e1 e2
    have st : min xs.size ys.size - i = (min xs.size ys.size - (i + 1)) + 1 := by omega
    rw [st, Ob.lexAt_succ] at f3
    refine wpAny_bind (z3 i l1 l2 prog w _ _ ?_)
    by_cases c : e i = true
    · rw [if_pos c] at f3
      rw [c]
      wp_walk
      exact ⟨rfl, rfl, i + 1, f5, fun k k1 k2 => (Nat.lt_succ_iff_lt_or_eq.mp k1).elim (fun k3 => al k k3 k2) (fun k3 => k3 ▸ c), f3⟩
    · have c' : e i = false := by simpa using c
      rw [if_neg c] at f3
      rw [c']
      have go := z4 i l1 l2 (fun k k1 => al k k1 (by omega)) c' prog w
      wp_walk using go
      exact ⟨_, rfl, by simpa using f3⟩
  case fin =>
    rintro ⟨b1, b2⟩ s' ⟨f1, rfl, i, f2, al, f3⟩
    simp only at f1
    subst f1
    have ge : min xs.size ys.size ≤ i := by
      by_cases c : i < (xs.toList.zip ys.toList).length
      · rw [List.drop_eq_getElem_cons c] at f2
        cases f2
      · rw [← len]; exact Nat.le_of_not_lt c
    rw [Nat.sub_eq_zero_of_le ge, Ob.lexAt_zero] at f3
    wp_walk
    exact ⟨_, rfl, by simpa [Builtin.Tuple.tupleCompareSizes] using f3⟩
  case h => exact ⟨rfl, rfl, 0, rfl, fun k k1 => absurd k1 (Nat.not_lt_zero k), by simpa using z5⟩
theorem tupgt {A : Around} {s : Shared} {p q : Addr} {xs ys : Array Value} {e r : Nat → Bool} (h1 : s.heap.IsTuple p xs) (h2 : s.heap.IsTuple q ys) (u : A.units < cLine) (he : ∀ j (j1 : j < xs.size) (j2 : j < ys.size), EqAt A.in1 s xs[j] ys[j] (e j))
    (hr : ∀ j (j1 : j < xs.size) (j2 : j < ys.size), (∀ i, i < j → e i = true) → e j = false → Ob.RcOp .Gt A.in1 s xs[j] ys[j] (r j)) : Ob.RcOp .Gt A s (.ref p) (.ref q) (Ob.lexAt e r (decide (xs.size > ys.size)) 0 (min xs.size ys.size)) := fun prog w E Q z => by
  obtain ⟨⟨c1, d1, o1, s1⟩, a1, a2, m1, a3⟩ := id h1
  obtain ⟨⟨c2, d2, o2, s2⟩, b1, b2, m2, b3⟩ := id h2
  simp only at a2 a3 b2 b3
  subst a2 a3 b2 b3
  exact richCompare_meets_room (op := .Gt) ⟨_, a1, rfl⟩ ⟨_, b1, rfl⟩ F.slot_tuple_gt F.entry_tuple_gt (F.args_tuple_gt_2 _ _) (tupgtAt p q xs ys m1 m2 d1 d2 s1 s2 e r) ⟨a1, b1, he, hr, ⟨(fun x => nomatch x), z⟩⟩ u



theorem lexAt_sh {e r : Nat → Bool} {z : Bool} : ∀ (n i : Nat), Ob.lexAt e r z (i + 1) n = Ob.lexAt (fun j => e (j + 1)) (fun j => r (j + 1)) z i n
  | 0, i => rfl
  | n + 1, i => by rw [Ob.lexAt_succ, Ob.lexAt_succ, lexAt_sh n (i + 1)]
theorem lexAt_cong {e e' r r' : Nat → Bool} {z : Bool} : ∀ (n i : Nat), (∀ j, i ≤ j → j < i + n → e j = e' j ∧ r j = r' j) → Ob.lexAt e r z i n = Ob.lexAt e' r' z i n
  | 0, i, _ => rfl
  | n + 1, i, h => by
    obtain ⟨h1, h2⟩ := h i (Nat.le_refl _) (by omega)
    rw [Ob.lexAt_succ, Ob.lexAt_succ, h1, h2, lexAt_cong n (i + 1) fun j a b => h j (by omega) (by omega)]


mutual
theorem ltp : ∀ (d e : D) (k : Bool) (A : Around) (s : Shared) (a b : Value) (as bs : List Addr), ltD d e = some k → Reads s.heap a d as → Reads s.heap b e bs → pln d = true → pln e = true → A.units + min d.depth e.depth < cLine → Ob.RcOp .Lt A s a b k
  | .int i, e, k, A, s, a, b, as, bs, h, r, q, _, _, u => by
    cases e with
    | int j =>
      rcases r with _ | _ | ⟨_, kt⟩
      rcases q with _ | _ | ⟨_, kt2⟩
      cases h
      exact fun _ _ _ _ z => PyProof.Rows.lt_int z
    | _ => cases h
  | .str i, e, k, A, s, a, b, as, bs, h, r, q, _, _, u => by
    cases e with
    | str j =>
      rcases r with _ | _ | _ | ⟨_, kt⟩
      rcases q with _ | _ | _ | ⟨_, kt2⟩
      cases h
      exact fun _ _ _ _ z => PySem.P.lt_str z
    | _ => cases h
  | .tuple xs, e, k, A, s, a, b, as, bs, h, r, q, p, p', u => by
    cases e with
    | tuple ys =>
      obtain ⟨l1, o1, w1, n1, c1, rfl, a1, a2, a3, a4⟩ := rt r
      obtain ⟨l2, o2, w2, n2, c2, rfl, b1, b2, b3, b4⟩ := rt q
      have u' := room_in u
      obtain ⟨f, hf, hk⟩ := ltps xs ys k A.in1 s _ _ _ _ (show ltDs xs ys = some k from h) a4 b4 (by simpa [pln] using p) (by simpa [pln] using p') u'
      have := tuplt (e := pairEq xs ys) (r := f) ⟨_, a1, a2, _, a3⟩ ⟨_, b1, b2, _, b3⟩ (room_here u) (fun j j1 j2 => by
        have := eqps xs ys A.in1 s _ _ _ _ a4 b4 (by simpa [pln] using p) (by simpa [pln] using p') u' j (by simpa using j1) (by simpa using j2)
        simpa using this) (fun j j1 j2 m1 m2 => by
        have := hf j (by simpa using j1) (by simpa using j2) m1 m2
        simpa using this)
      simp only [Array.length_toList] at hk
      rw [hk] at this
      exact this
    | _ => cases h
  | .none, e, _, _, _, _, _, _, _, h, _, _, _, _, _ | .bool _, e, _, _, _, _, _, _, _, h, _, _, _, _, _ | .list _, e, _, _, _, _, _, _, _, h, _, _, _, _, _ | .dict _, e, _, _, _, _, _, _, _, h, _, _, _, _, _ => by cases e <;> cases h
theorem ltps : ∀ (xs ys : List D) (k : Bool) (A : Around) (s : Shared) (vs ws : List Value) (as bs : List Addr), ltDs xs ys = some k → ReadsAll s.heap vs xs as → ReadsAll s.heap ws ys bs → plns xs = true → plns ys = true → A.units + min (PyData.depthAll xs) (PyData.depthAll ys) < cLine →
    ∃ r : Nat → Bool, (∀ j (j1 : j < vs.length) (j2 : j < ws.length), (∀ i, i < j → pairEq xs ys i = true) → pairEq xs ys j = false → Ob.RcOp .Lt A s vs[j] ws[j] (r j)) ∧ Ob.lexAt (pairEq xs ys) r (decide (vs.length < ws.length)) 0 (min vs.length ws.length) = k
  | [], ys, k, A, s, _, ws, _, _, h, r, q, _, _, _ => by
    cases r
    refine ⟨fun _ => false, fun j j1 => by simp at j1, ?_⟩
    cases q with
    | nil => cases h; rfl
    | cons _ _ => cases h; rw [List.length_nil, Nat.zero_min, Ob.lexAt_zero]; simp
  | x :: xs, [], k, A, s, _, _, _, _, h, r, q, _, _, _ => by
    cases q
    refine ⟨fun _ => false, fun j _ j2 => by simp at j2, ?_⟩
    cases r
    cases h
    rw [List.length_nil, Nat.min_zero, Ob.lexAt_zero]; simp
  | x :: xs, y :: ys, k, A, s, _, _, _, _, h, r, q, p, p', u => by
    simp only [plns, Bool.and_eq_true] at p p'
    rcases r with _ | ⟨r1, r2⟩
    rcases q with _ | ⟨q1, q2⟩
    simp only [ltDs] at h
    by_cases c : PyData.eqv x y = true
    · rw [if_pos c] at h
      obtain ⟨f, hf, hk⟩ := ltps xs ys k A s _ _ _ _ h r2 q2 p.2 p'.2 (room_tail u)
      refine ⟨fun j => f (j - 1), fun j j1 j2 m1 m2 => ?_, ?_⟩
      · cases j with
        | zero => exact absurd (show PyData.eqv x y = false from m2) (by rw [c]; simp)
        | succ j => exact hf j (by simpa using j1) (by simpa using j2) (fun i hi => m1 (i + 1) (by omega)) m2
      · rw [List.length_cons, List.length_cons, Nat.succ_min_succ, Ob.lexAt_succ, if_pos (show pairEq (x :: xs) (y :: ys) 0 = true from c), lexAt_sh]
        rw [← hk]
        simp only [gt_iff_lt, Nat.add_lt_add_iff_right]
        exact lexAt_cong _ _ fun j _ _ => ⟨rfl, rfl⟩
    · rw [if_neg c] at h
      have c' : PyData.eqv x y = false := by simpa using c
      refine ⟨fun _ => k, fun j j1 j2 m1 m2 => ?_, ?_⟩
      · cases j with
        | zero => exact ltp x y k A s _ _ _ _ h r1 q1 p.1 p'.1 (room_head u)
        | succ j => exact absurd (show PyData.eqv x y = true from m1 0 (Nat.succ_pos j)) c
      · rw [List.length_cons, List.length_cons, Nat.succ_min_succ, Ob.lexAt_succ, if_neg (show ¬ pairEq (x :: xs) (y :: ys) 0 = true from c)]
end


mutual
theorem gtp : ∀ (d e : D) (k : Bool) (A : Around) (s : Shared) (a b : Value) (as bs : List Addr), gtD d e = some k → Reads s.heap a d as → Reads s.heap b e bs → pln d = true → pln e = true → A.units + min d.depth e.depth < cLine → Ob.RcOp .Gt A s a b k
  | .int i, e, k, A, s, a, b, as, bs, h, r, q, _, _, u => by
    cases e with
    | int j =>
      rcases r with _ | _ | ⟨_, kt⟩
      rcases q with _ | _ | ⟨_, kt2⟩
      cases h
      exact fun _ _ _ _ z => PyProof.Rows.gt_int z
    | _ => cases h
  | .str i, e, k, A, s, a, b, as, bs, h, r, q, _, _, u => by
    cases e with
    | str j =>
      rcases r with _ | _ | _ | ⟨_, kt⟩
      rcases q with _ | _ | _ | ⟨_, kt2⟩
      cases h
      exact fun _ _ _ _ z => PySem.P.gt_str z
    | _ => cases h
  | .tuple xs, e, k, A, s, a, b, as, bs, h, r, q, p, p', u => by
    cases e with
    | tuple ys =>
      obtain ⟨l1, o1, w1, n1, c1, rfl, a1, a2, a3, a4⟩ := rt r
      obtain ⟨l2, o2, w2, n2, c2, rfl, b1, b2, b3, b4⟩ := rt q
      have u' := room_in u
      obtain ⟨f, hf, hk⟩ := gtps xs ys k A.in1 s _ _ _ _ (show gtDs xs ys = some k from h) a4 b4 (by simpa [pln] using p) (by simpa [pln] using p') u'
      have := tupgt (e := pairEq xs ys) (r := f) ⟨_, a1, a2, _, a3⟩ ⟨_, b1, b2, _, b3⟩ (room_here u) (fun j j1 j2 => by
        have := eqps xs ys A.in1 s _ _ _ _ a4 b4 (by simpa [pln] using p) (by simpa [pln] using p') u' j (by simpa using j1) (by simpa using j2)
        simpa using this) (fun j j1 j2 m1 m2 => by
        have := hf j (by simpa using j1) (by simpa using j2) m1 m2
        simpa using this)
      simp only [Array.length_toList] at hk
      rw [hk] at this
      exact this
    | _ => cases h
  | .none, e, _, _, _, _, _, _, _, h, _, _, _, _, _ | .bool _, e, _, _, _, _, _, _, _, h, _, _, _, _, _ | .list _, e, _, _, _, _, _, _, _, h, _, _, _, _, _ | .dict _, e, _, _, _, _, _, _, _, h, _, _, _, _, _ => by cases e <;> cases h
theorem gtps : ∀ (xs ys : List D) (k : Bool) (A : Around) (s : Shared) (vs ws : List Value) (as bs : List Addr), gtDs xs ys = some k → ReadsAll s.heap vs xs as → ReadsAll s.heap ws ys bs → plns xs = true → plns ys = true → A.units + min (PyData.depthAll xs) (PyData.depthAll ys) < cLine →
    ∃ r : Nat → Bool, (∀ j (j1 : j < vs.length) (j2 : j < ws.length), (∀ i, i < j → pairEq xs ys i = true) → pairEq xs ys j = false → Ob.RcOp .Gt A s vs[j] ws[j] (r j)) ∧ Ob.lexAt (pairEq xs ys) r (decide (vs.length > ws.length)) 0 (min vs.length ws.length) = k
  | [], ys, k, A, s, _, ws, _, _, h, r, q, _, _, _ => by
    cases r
    refine ⟨fun _ => false, fun j j1 => by simp at j1, ?_⟩
    cases q with
    | nil => cases h; rfl
    | cons _ _ => cases h; rw [List.length_nil, Nat.zero_min, Ob.lexAt_zero]; simp
  | x :: xs, [], k, A, s, _, _, _, _, h, r, q, _, _, _ => by
    cases q
    refine ⟨fun _ => false, fun j _ j2 => by simp at j2, ?_⟩
    cases r
    cases h
    rw [List.length_nil, Nat.min_zero, Ob.lexAt_zero]; simp
  | x :: xs, y :: ys, k, A, s, _, _, _, _, h, r, q, p, p', u => by
    simp only [plns, Bool.and_eq_true] at p p'
    rcases r with _ | ⟨r1, r2⟩
    rcases q with _ | ⟨q1, q2⟩
    simp only [gtDs] at h
    by_cases c : PyData.eqv x y = true
    · rw [if_pos c] at h
      obtain ⟨f, hf, hk⟩ := gtps xs ys k A s _ _ _ _ h r2 q2 p.2 p'.2 (room_tail u)
      refine ⟨fun j => f (j - 1), fun j j1 j2 m1 m2 => ?_, ?_⟩
      · cases j with
        | zero => exact absurd (show PyData.eqv x y = false from m2) (by rw [c]; simp)
        | succ j => exact hf j (by simpa using j1) (by simpa using j2) (fun i hi => m1 (i + 1) (by omega)) m2
      · rw [List.length_cons, List.length_cons, Nat.succ_min_succ, Ob.lexAt_succ, if_pos (show pairEq (x :: xs) (y :: ys) 0 = true from c), lexAt_sh]
        rw [← hk]
        simp only [gt_iff_lt, Nat.add_lt_add_iff_right]
        exact lexAt_cong _ _ fun j _ _ => ⟨rfl, rfl⟩
    · rw [if_neg c] at h
      have c' : PyData.eqv x y = false := by simpa using c
      refine ⟨fun _ => k, fun j j1 j2 m1 m2 => ?_, ?_⟩
      · cases j with
        | zero => exact gtp x y k A s _ _ _ _ h r1 q1 p.1 p'.1 (room_head u)
        | succ j => exact absurd (show PyData.eqv x y = true from m1 0 (Nat.succ_pos j)) c
      · rw [List.length_cons, List.length_cons, Nat.succ_min_succ, Ob.lexAt_succ, if_neg (show ¬ pairEq (x :: xs) (y :: ys) 0 = true from c)]
end


def rLtT (K : PySem.W.Frag) : R2 := fun x y H Q => ∃ d e k, Dp K H x d ∧ Dp K H y e ∧ pln d = true ∧ pln e = true ∧ min d.depth e.depth ≤ 64 ∧ ltD d e = some k ∧ Q (.bl k) H
theorem op_ltA {X : Cx} (hu : X.A.units + 65 < cLine) : OpR X (compareOp .Lt) (rLtT X.K) := by
  intro pins s σ H x y v u Q I rx ry ⟨d, e, k, hd, he, pd, pe, hm, hk, q⟩
  obtain ⟨as, r1⟩ := Dp.reads I d x v hd rx
  obtain ⟨bs, r2⟩ := Dp.reads I e y u he ry
  exact ltp d e k X.A s v u as bs hk r1 r2 pd pe (by omega) X.prog X.w X.xe _ ⟨.bl _, H, I, rfl, q⟩


def rGtT (K : PySem.W.Frag) : R2 := fun x y H Q => ∃ d e k, Dp K H x d ∧ Dp K H y e ∧ pln d = true ∧ pln e = true ∧ min d.depth e.depth ≤ 64 ∧ gtD d e = some k ∧ Q (.bl k) H
theorem op_gtA {X : Cx} (hu : X.A.units + 65 < cLine) : OpR X (compareOp .Gt) (rGtT X.K) := by
  intro pins s σ H x y v u Q I rx ry ⟨d, e, k, hd, he, pd, pe, hm, hk, q⟩
  obtain ⟨as, r1⟩ := Dp.reads I d x v hd rx
  obtain ⟨bs, r2⟩ := Dp.reads I e y u he ry
  exact gtp d e k X.A s v u as bs hk r1 r2 pd pe (by omega) X.prog X.w X.xe _ ⟨.bl _, H, I, rfl, q⟩

end AI

set_option Elab.async false
set_option linter.all false
set_option maxRecDepth 100000
set_option maxHeartbeats 4000000
/-! AiTup: the rules that make tuples, the new object told. -/
namespace AI
open PySem L2 SeqAt PyProof.Rows
section
variable {X : Cx} {pins : List (Addr × Obj)} {σ : L2.St} {H : Hp} {s : Shared}
theorem newTup {vs : List V} {its : List Value} {n t' : Nat} {Q : VK} (I : Inv X pins σ H s) (r : Vals vs its) (z : vs.length ≤ sizeLine)
    (q : ∀ p o, H p = none → o.dict = none → Q (.ref p) (upd H p (.frz o (.tup vs)))) :
    EP X pins σ Q (.ref s.heap.objs.size) { s with heap := s.heap.push { cls := .type "tuple", data := .seq its.toArray n }, toks := t' } := by
  have hf : H s.heap.objs.size = none := I.hok.fresh (Nat.le_refl _)
  refine ⟨.ref _, _, I.laid (o := .frz { cls := .type "tuple", data := .seq its.toArray n } (.tup vs)) (fun b u e => Heap.get?_push_of_some _ e) (Nat.le_refl _) ?_, rfl, q _ { cls := .type "tuple", data := .seq its.toArray n } hf rfl⟩
  exact ⟨Heap.get?_push_size _ rfl, z, its, r, _, Heap.get?_push_size _ rfl, rfl, _, rfl⟩
variable {es : List Expr} {pos : Pos} {t : TA}
def tTupF (t : TA) : TE := fun σ H Q => t σ H fun xs H1 => xs.length ≤ sizeLine ∧ ∀ p o, H1 p = none → o.dict = none → Q (.ref p) (upd H1 p (.frz o (.tup xs)))
theorem pe_tupF {x1} (h : PA X es t) : PE X (.Tuple es x1 pos) (tTupF t) := by
  refine ⟨fun pins s σ H Q I hq => wpAny_Tuple_spliced (thn (h.run pos pins s σ H _ I hq) fun us s1 ⟨xs, H1, I1, r, z, q⟩ => ?_)⟩
  have hl := r.length
  exact ⟨by omega, newTup (t' := s1.toks) I1 r z q⟩
theorem call_tupleF : CallR X (.type "tuple") (fun xs H Q => ∃ p ys, xs = [.ref p] ∧ ((SqL X.K H p ys ∧ ∀ l o, H l = none → o.dict = none → Q (.ref l) (upd H l (.frz o (.tup ys)))) ∨ (SqT X.K H p ys ∧ Q (.ref p) H))) := by
  intro pins s σ H xs us Q I r ⟨p, ys, exs, h⟩
  subst exs
  rcases h with ⟨hq, q⟩ | ⟨hq, q⟩
  · obtain ⟨u, rfl, rx⟩ := vals1 r
    cases rx
    obtain ⟨its, r', pl, hz⟩ := I.list hq
    have hl := r'.length
    refine call_tuple_list pl.isList (fun h' kp => ?_) (by simp only [List.size_toArray]; omega)
    have I1 : Inv X pins σ H { s with heap := h' } := I.kept (t' := s.toks) kp
    exact newTup (t' := s.toks) I1 r' hz q
  · exact call_tuple_of pins s σ H _ us Q I r ⟨p, ys, rfl, .inr ⟨hq, q⟩⟩
def rCatF (K : PySem.W.Frag) : R2 := fun x y H Q => ∃ a b xs ys, x = .ref a ∧ y = .ref b ∧ SqT K H a xs ∧ SqT K H b ys ∧ xs.length + ys.length ≤ sizeLine ∧
  (xs = [] → Q (.ref b) H) ∧ (xs ≠ [] → ys = [] → Q (.ref a) H) ∧ (xs ≠ [] → ys ≠ [] → ∀ p o, H p = none → o.dict = none → Q (.ref p) (upd H p (.frz o (.tup (xs ++ ys)))))
def rSlF (K : PySem.W.Frag) : V → Option Int → Option Int → Hp → VK → Prop := fun x lo hi H Q => ∃ a xs, x = .ref a ∧ SqT K H a xs ∧
  (HT.sIx xs.length 0 lo = 0 ∧ HT.sIx xs.length xs.length hi = xs.length → Q (.ref a) H) ∧ (¬ (HT.sIx xs.length 0 lo = 0 ∧ HT.sIx xs.length xs.length hi = xs.length) → ∀ p o, H p = none → o.dict = none → Q (.ref p) (upd H p (.frz o (.tup (cutV xs lo hi)))))
theorem op_catF : OpR X (binaryOp .Add) (rCatF X.K) := by
  intro pins s σ H x y v u Q I rx ry ⟨a, b, xs, ys, ex, ey, ha, hb, hz, q0, q1, q2⟩
  by_cases hx : xs = []
  · exact op_catA pins s σ H x y v u Q I rx ry ⟨a, b, xs, ys, ex, ey, ha, hb, hz, q0, q1, fun z => absurd hx z⟩
  · subst ex
    subst ey
    cases rx
    cases ry
    obtain ⟨its, r1, p1, _⟩ := I.tuple ha
    obtain ⟨its2, r2, p2, _⟩ := I.tuple hb
    have l1 := r1.length
    have l2 := r2.length
    refine HT.cat_tup p1 p2 (fun z => hx (r1.nil_iff.mp z)) (fun z => ⟨.ref a, H, I, rfl, q1 hx (r2.nil_iff.mp z)⟩) (fun z => ?_) (by omega)
    exact newTup (t' := s.toks) I (r1.append r2) (by rw [List.length_append]; exact hz) (q2 hx fun w => z (r2.nil_iff.mpr w))
theorem sl_tupF : SlR X (rSlF X.K) := by
  intro pins s σ H x v vl vu lo hi sl Q I rx hs pl pu ⟨a, xs, ex, hx, q1, q2⟩
  by_cases hw : HT.sIx xs.length 0 lo = 0 ∧ HT.sIx xs.length xs.length hi = xs.length
  · exact sl_tupA pins s σ H x v vl vu lo hi sl Q I rx hs pl pu ⟨a, xs, ex, hx, q1, fun z => absurd hw z⟩
  · subst ex
    cases rx
    obtain ⟨its, r, ht, hz⟩ := I.tuple hx
    have l1 := r.length
    have hlen : its.toArray.size = xs.length := by simp [l1]
    refine ⟨"tuple", _, PyProof.Rows.slot_tuple_getitem.lookup, ht.typeIs, ?_⟩
    refine HT.getItem_tuple_cut ht hs pl pu (by rw [hlen]; exact hw) ?_ (by omega)
    rw [hlen]
    exact newTup (t' := s.toks) I ((r.drop (HT.sIx xs.length 0 lo)).take (HT.sIx xs.length xs.length hi - HT.sIx xs.length 0 lo)) (Nat.le_trans (cutV_length xs lo hi) hz) (q2 hw)
end
end AI

set_option Elab.async false
set_option linter.all false
set_option maxRecDepth 100000
set_option maxHeartbeats 4000000
/-! AiRp: repr of data. -/
namespace AI
open PySem PySem.Spec PyProof.Rows L2 SeqAt
mutual
theorem pln_noDict : ∀ d : D, pln d = true → d.hasDict = false
  | .none, _ | .bool _, _ | .int _, _ | .str _, _ => rfl
  | .list xs, h | .tuple xs, h => by rw [PyData.hasDict]; exact plns_noDict xs (by simpa [pln] using h)
  | .dict _, h => by simp [pln] at h
theorem plns_noDict : ∀ xs : List D, plns xs = true → PyData.hasDictAll xs = false
  | [], _ => rfl
  | x :: xs, h => by
    simp only [plns, Bool.and_eq_true] at h
    rw [PyData.hasDictAll, pln_noDict x h.1, plns_noDict xs h.2]; rfl
end
def rRepr (K : PySem.W.Frag) : List V → Hp → VK → Prop := fun xs H Q => ∃ x d, xs = [x] ∧ Dp K H x d ∧ pln d = true ∧ d.showable = true ∧ d.depth ≤ 64 ∧ d.shown.length ≤ sizeLine ∧ Q (.str d.shown) H
theorem call_reprP {X : Cx} (gd : X.A.guards = some []) (hu : X.A.units + 70 < cLine) : CallR X (.builtin "repr") (rRepr X.K) := by
  intro pins s σ H xs us Q I r h
  obtain ⟨x, d, rfl, hd, pd, sh, dp, ln, q⟩ := h
  obtain ⟨u, rfl, ru⟩ := vals1 r
  obtain ⟨as, rd⟩ := Dp.reads I d x u hd ru
  cases rd with
  | none => exact PySem.P.repr_of_none ⟨.str _, H, I.tok _, ⟨_, rfl⟩, q⟩
  | bool b => exact PySem.P.repr_of_bool ⟨.str _, H, I.tok _, ⟨_, rfl⟩, q⟩
  | int i t => exact PySem.P.repr_of_int (of_decide_eq_true sh) ⟨.str _, H, I.tok _, ⟨_, rfl⟩, q⟩
  | str z t => exact PySem.P.repr_of_str ⟨.str _, H, I.tok _, ⟨_, rfl⟩, q⟩ ln
  | list a1 a2 a3 a4 => exact PySem.repr_of_reads' (.list a1 a2 a3 a4) sh (fun e => by rw [pln_noDict _ pd] at e; cases e) gd (by omega) (fun _ _ e => e) (fun h' v tk k => ⟨.str _, H, I.kept k, ⟨_, rfl⟩, q⟩) ln
  | tuple a1 a2 a3 a4 => exact PySem.repr_of_reads' (.tuple a1 a2 a3 a4) sh (fun e => by rw [pln_noDict _ pd] at e; cases e) gd (by omega) (fun _ _ e => e) (fun h' v tk k => ⟨.str _, H, I.kept k, ⟨_, rfl⟩, q⟩) ln
  | dict => simp [pln] at pd
end AI

set_option Elab.async false
set_option linter.all false
set_option maxRecDepth 100000
set_option maxHeartbeats 4000000
/-! AiRv: list(reversed(list)), tuple(reversed(list)). -/
namespace AI
open PySem PySem.Spec PyProof.Rows L2 SeqAt RT
section
variable {prog : Program} {w : World} {A : Around} {E : Value → Shared → Prop} {s : Shared}
theorem ext_rev {R : Result → Shared → Prop} {it l S : Addr} {items : Array Value} (hh : A.handled = none) (hit : s.heap.IsRevIter it l ((items.size : Int) - 1)) (hl : s.heap.IsList l items) (hne : l ≠ it) (hSi : S ≠ it) (hSl : S ≠ l) (res : Value) (c₀ : Nat) (hS : s.heap.get? S = some { cls := .type "list", data := .seq #[] c₀ })
    (hR : ∀ h' tk acc' c', (∀ b o, b ≠ S → b ≠ it → s.heap.get? b = some o → h'.get? b = some o) → h'.get? S = some { cls := .type "list", dict := none, data := .seq acc' c', slots := #[] } → ItemsOf (fun i v => items[items.size - 1 - i]? = some v) acc' items.size → R (.ok (.ret res)) { s with heap := h', toks := tk }) (hn : items.size ≤ sizeLine) :
    wpAny (model prog w) A.in1 (Builtin.List.listExtendWith (.ref S) (.ref it) res)
      (fun fin s' => match fin with | .done f => R (.ok f) s' | .again c' => c'.quiet = true ∧ codeAny (model prog w) A c' R s') (fun e s' => R (.error e) s') s := by
  have W := (Walks.listRev (prog := prog) (w := w) (A := A.in1) hh it l hne items).toS
  have hSf : S ∉ [it, l] := by simp only [List.mem_cons, List.not_mem_nil, or_false, not_or]; exact ⟨hSi, hSl⟩
  have hT : s.TypeIs (.ref it) "list_reverseiterator" := Heap.IsRevIter.typeIs hit
  have h1 : Builtin.List.listSameRef (.ref S) (.ref it) = false := by simp [Builtin.List.listSameRef, hSi]
  have e0 : ((items.size : Nat) : Int) - 1 - ((0 : Nat) : Int) = (items.size : Int) - 1 := by omega
  unfold Builtin.List.listExtendWith
  refine wpAny_bind (wpAny_typeOf hT ?_)
  rw [if_neg (by rw [h1]; decide)]
  refine wpAny_bind (wpAny_pyIter_revIter hit ?_)
  refine wpAny_bind (wpAny_holding ?_)
  unfold Builtin.List.listLengthHint
  refine wpAny_bind (wpAny_specialOf hT nolen_lri ?_)
  show wpAny _ A.in1 (specialOf (Value.ref it) (Str.ofString "__length_hint__") >>= _) _ _ _
  refine wpAny_bind (wpAny_specialOf hT hint_lri ?_)
  generalize hid : ("list_reverseiterator.__length_hint__" : String) = id0
  wp_delta
  rw [show splitId id0 = some ("list_reverseiterator", "__length_hint__") from by subst hid; decide +kernel]
  subst hid
  refine wpAny_bind (wpAny_isInstance (b := true) hT (by rw [isSubtype_type]; kernel_rfl) ?_)
  refine wpAny_pure ?_
  rw [if_neg (by decide)]
  refine wpAny_pure ⟨plainId_quiet F.plain_extend_loop _, codeAny_extend_loopS W hn S hSf res items.size 0 _ #[] c₀ rfl (Nat.zero_le _) ⟨Nat.zero_le _, by rw [e0]; exact hit, hl⟩ hS (ItemsOf.nil _) fun s' acc' c' hm hS' hacc => ?_⟩
  rw [Moved.eq_with hm]
  refine hR s'.heap s'.toks acc' c' (fun b o hb hi e => hm.heap b o (fun hmem => ?_) e) hS' hacc
  rcases List.mem_cons.mp hmem with e' | hmem
  · exact hb e'
  · exact hi (List.mem_singleton.mp hmem)
theorem call_list_rev {Q : Value → Shared → Prop} {it l : Addr} {items : Array Value} (hh : A.handled = none) (hit : s.heap.IsRevIter it l ((items.size : Int) - 1)) (hl : s.heap.IsList l items) (hne : l ≠ it) (hn : items.size ≤ sizeLine)
    (hQ : ∀ h' tk acc' c', (∀ b o, b ≠ it → s.heap.get? b = some o → h'.get? b = some o) → h'.get? s.heap.objs.size = some { cls := .type "list", dict := none, data := .seq acc' c', slots := #[] } → ItemsOf (fun i v => items[items.size - 1 - i]? = some v) acc' items.size → Q (.ref s.heap.objs.size) { s with heap := h', toks := tk }) :
    wpAny (model prog w) A (call (.type "list") [.ref it]) Q E s := by
  refine callType_codes (Q₁ := fun obj s₁ => obj = .ref s.heap.objs.size ∧ s₁ = { s with heap := s.heap.push { cls := .type "list", data := .seq #[] } }) PySem.F.called_list (PySem.F.typeCall_list_1 _) PySem.F.entry_list_init
    (code_list_new _ ⟨rfl, rfl⟩) fun obj s₁ h₁ => ?_
  obtain ⟨rfl, rfl⟩ := h₁
  obtain ⟨oi, hoi, _⟩ := id hit
  obtain ⟨ol, hol, _⟩ := id hl
  have hS : (s.heap.push { cls := .type "list", data := .seq #[] }).get? s.heap.objs.size = some { cls := .type "list", data := .seq #[] } := Heap.get?_push_size _ rfl
  have n1 : s.heap.objs.size ≠ it := Nat.ne_of_gt (Heap.lt_size hoi)
  have n2 : s.heap.objs.size ≠ l := Nat.ne_of_gt (Heap.lt_size hol)
  refine ⟨⟨_, hS, rfl⟩, PySem.F.args_list_init_2 _ _, ?_⟩
  generalize hS0 : s.heap.objs.size = S at *
  show wpAny _ _ (do let old ← Builtin.List.listItems (.ref S); Builtin.List.listUpdate (.ref S) (fun _ => #[]); letGo old.toList.reverse; Builtin.List.listExtendWith (.ref S) (.ref it) .none) _ _ _
  refine wpAny_bind ?_
  unfold Builtin.List.listItems
  refine wpAny_bind (wpAny_seqItems (s := { s with heap := s.heap.push { cls := .type "list", data := .seq #[] } }) hS rfl (wpAny_pure ?_))
  show wpAny _ _ (updateSeq S (fun _ => #[]) >>= fun _ => letGo (#[] : Array Value).toList.reverse >>= fun _ => Builtin.List.listExtendWith (.ref S) (.ref it) .none) _ _ _
  refine wpAny_bind (wpAny_updateSeq (s := { s with heap := s.heap.push { cls := .type "list", data := .seq #[] } }) hS rfl ?_)
  have hS₂ := Heap.get?_update_self (Obj.mapSeq (fun _ => (#[] : Array Value))) hS rfl
  have oth : ∀ b o, b ≠ S → s.heap.get? b = some o → ((s.heap.push { cls := .type "list", data := .seq #[] }).update S (Obj.mapSeq (fun _ => (#[] : Array Value)))).get? b = some o :=
    fun b o hb e => (Heap.get?_update_other _ _ (Ne.symm hb)).trans (Heap.get?_push_of_some _ e)
  refine wpAny_bind (wpAny_letGo ?_)
  have hit2 : ((s.heap.push { cls := .type "list", data := .seq #[] }).update S (Obj.mapSeq (fun _ => (#[] : Array Value)))).IsRevIter it l ((items.size : Int) - 1) := hit.at fun o e => oth it o (Ne.symm n1) e
  have hl2 : ((s.heap.push { cls := .type "list", data := .seq #[] }).update S (Obj.mapSeq (fun _ => (#[] : Array Value)))).IsList l items := by
    obtain ⟨o, ho, r⟩ := hl
    exact ⟨o, oth l o (Ne.symm n2) ho, r⟩
  refine ext_rev (A := A.in1) (s := { s with heap := (s.heap.push { cls := .type "list", data := .seq #[] }).update S (Obj.mapSeq (fun _ => (#[] : Array Value))) }) hh hit2 hl2 hne n1 n2 .none _ hS₂ (fun h' tk acc' c' hk hS' hacc => ?_) hn
  exact ⟨rfl, hQ h' tk acc' c' (fun b o hb e => hk b o (fun z => by rw [z, ← hS0] at e; exact absurd (Heap.lt_size e) (Nat.lt_irrefl _)) hb (oth b o (fun z => by rw [z, ← hS0] at e; exact absurd (Heap.lt_size e) (Nat.lt_irrefl _)) e)) hS' hacc⟩
end
section
variable {X : Cx}
def tLRev (K : PySem.W.Frag) (te : TE) : TE := fun σ H Q => te σ H fun v H1 => ∃ (a : Addr) (xs : List V), v = .ref a ∧ SqL K H1 a xs ∧ ∀ q, H1 q = none → Q (.ref q) (upd H1 q (.lst xs.reverse))
def tTRev (K : PySem.W.Frag) (te : TE) : TE := fun σ H Q => te σ H fun v H1 => ∃ (a : Addr) (xs : List V), v = .ref a ∧ SqL K H1 a xs ∧ ∀ q o, H1 q = none → o.dict = none → Q (.ref q) (upd H1 q (.frz o (.tup xs.reverse)))
theorem pe_listRev {e : Expr} {te : TE} {p p2 pos pos2 : Pos} (hc : X.calm = true) (hg : Gl X "list") (hm : X.mg "list" = none) (hg2 : Gl X "reversed") (hm2 : X.mg "reversed" = none) (he : PE X e te)
    (hs : starEach [e] X.env = (false, eval e X.env) :: starEach [] X.env)
    (hs2 : starEach [.Call (.Name "reversed" p2) [e] [] pos2] X.env = (false, eval (.Call (.Name "reversed" p2) [e] [] pos2) X.env) :: starEach [] X.env := by rfl) :
    PE X (.Call (.Name "list" p) [.Call (.Name "reversed" p2) [e] [] pos2] [] pos) (tLRev X.K te) := by
  refine ⟨fun pins s σ H Q I h => ?_⟩
  refine Call_ (ld_blt I hg hm boot_list (PyProof.Rows.callWith_type1 (args_cons (Call_ (ld_blt I hg2 hm2 PyProof.Rows.boot_reversed (PyProof.Rows.callWith_type1 (args_cons (thn (he.run pins s σ H _ I h) fun u s1 ⟨v, H1, I1, r1, q1⟩ => args_nil ?_) hs) hs rfl))) hs2) hs2 rfl))
  obtain ⟨a, xs, ev, hq, q⟩ := q1
  subst ev
  obtain rfl : u = Value.ref a := r1
  obtain ⟨its, rv, p', hz⟩ := I1.list hq
  refine call_reversed_list p'.isList (args_nil ?_)
  have k0 : ∀ b o, s1.heap.get? b = some o → (s1.heap.push (revObj a ((its.toArray.size : Int) - 1))).get? b = some o := fun b o e => Heap.get?_push_of_some _ e
  have I2 : Inv X pins σ H1 { s1 with heap := s1.heap.push (revObj a ((its.toArray.size : Int) - 1)) } := I1.kept (t' := s1.toks) k0
  obtain ⟨f0, f1, f2, f3, f4, f5⟩ := I1.fpOk (H' := H1) (b := s1.heap.objs.size) (Nat.le_refl _) (I1.hok.fresh (Nat.le_refl _))
  have hl := p'.isList
  obtain ⟨ol, hol, _⟩ := id hl
  have hne : a ≠ s1.heap.objs.size := Nat.ne_of_lt (Heap.lt_size hol)
  have hn : its.toArray.size ≤ sizeLine := by rw [List.size_toArray, ← rv.length]; exact hz
  refine call_list_rev (s := { s1 with heap := s1.heap.push (revObj a ((its.toArray.size : Int) - 1)) }) (I1.ok.hd hc) ⟨_, Heap.get?_push_size _ rfl, rfl, rfl⟩ (hl.push _) hne hn fun h' tk acc c hk hS hi => ?_
  refine ⟨.ref (s1.heap.push (revObj a ((its.toArray.size : Int) - 1))).objs.size, upd H1 _ (.lst xs.reverse), I2.turnedNew (t' := tk) (ch := [s1.heap.objs.size]) (fun b o hb e => hk b o (fun z => hb (by simp [z])) e) (fun b hb => ?_) (Nat.le_refl _) ?_, rfl, q _ (I2.hok.fresh (Nat.le_refl _))⟩
  · have e : b = s1.heap.objs.size := by simpa using hb
    subst e
    exact ⟨f0, f1, f2, f3, f4, f5⟩
  · exact ⟨by rw [List.length_reverse]; exact hz, acc.toList, c, vals_rev rv hi, by rw [Array.toArray_toList]; exact hS⟩
theorem pe_tupleRev {e : Expr} {te : TE} {p p2 pos pos2 : Pos} (hc : X.calm = true) (hg : Gl X "tuple") (hm : X.mg "tuple" = none) (hg2 : Gl X "reversed") (hm2 : X.mg "reversed" = none) (he : PE X e te)
    (hs : starEach [e] X.env = (false, eval e X.env) :: starEach [] X.env)
    (hs2 : starEach [.Call (.Name "reversed" p2) [e] [] pos2] X.env = (false, eval (.Call (.Name "reversed" p2) [e] [] pos2) X.env) :: starEach [] X.env := by rfl) :
    PE X (.Call (.Name "tuple" p) [.Call (.Name "reversed" p2) [e] [] pos2] [] pos) (tTRev X.K te) := by
  refine ⟨fun pins s σ H Q I h => ?_⟩
  refine Call_ (ld_blt I hg hm boot_tuple (PyProof.Rows.callWith_type1 (args_cons (Call_ (ld_blt I hg2 hm2 PyProof.Rows.boot_reversed (PyProof.Rows.callWith_type1 (args_cons (thn (he.run pins s σ H _ I h) fun u s1 ⟨v, H1, I1, r1, q1⟩ => args_nil ?_) hs) hs rfl))) hs2) hs2 rfl))
  obtain ⟨a, xs, ev, hq, q⟩ := q1
  subst ev
  obtain rfl : u = Value.ref a := r1
  obtain ⟨its, rv, p', hz⟩ := I1.list hq
  refine call_reversed_list p'.isList (args_nil ?_)
  have k0 : ∀ b o, s1.heap.get? b = some o → (s1.heap.push (revObj a ((its.toArray.size : Int) - 1))).get? b = some o := fun b o e => Heap.get?_push_of_some _ e
  have I2 : Inv X pins σ H1 { s1 with heap := s1.heap.push (revObj a ((its.toArray.size : Int) - 1)) } := I1.kept (t' := s1.toks) k0
  obtain ⟨f0, f1, f2, f3, f4, f5⟩ := I1.fpOk (H' := H1) (b := s1.heap.objs.size) (Nat.le_refl _) (I1.hok.fresh (Nat.le_refl _))
  have hl := p'.isList
  obtain ⟨ol, hol, _⟩ := id hl
  have hne : a ≠ s1.heap.objs.size := Nat.ne_of_lt (Heap.lt_size hol)
  have hn : its.toArray.size ≤ sizeLine := by rw [List.size_toArray, ← rv.length]; exact hz
  refine call_tuple_rev (s := { s1 with heap := s1.heap.push (revObj a ((its.toArray.size : Int) - 1)) }) (I1.ok.hd hc) ⟨_, Heap.get?_push_size _ rfl, rfl, rfl⟩ (hl.push _) hne hn fun h' tk acc hk hi => ?_
  have I3 : Inv X pins σ H1 { s1 with heap := h', toks := tk } := I2.turned (t' := tk) (fun b o hb e => hk b o hb e) f0 f1 f3 f4 f5
  have := newTup (s := { s1 with heap := h', toks := tk }) (n := 0) (t' := tk) I3 (vals_rev rv hi) (by rw [List.length_reverse]; exact hz) q
  rw [Array.toArray_toList] at this
  exact this
end
end AI

set_option Elab.async false
set_option linter.all false
set_option maxRecDepth 100000
set_option maxHeartbeats 4000000
/-! AiSnd: what the plain operations do is what the layer's rules ask. -/
namespace AI
open PySem L2 SeqAt
section
variable {K : PySem.W.Frag} {mg : Str → Option Value} {μ μ' μ'' : List Addr} {H H' H'' : Hp} {h h' h'' : Boxes} {Q : VK} {bx : Bool}

theorem Out.bnd {α : Type} {m : M α} {f : α → M RV} (o : Out K mg μ H (M.bnd m f h) Q) : ∃ a h1, m h = .ok a h1 ∧ Out K mg μ H (f a h1) Q := by
  unfold M.bnd at o
  cases e : m h with
  | ok a h1 => rw [e] at o; exact ⟨a, h1, rfl, o⟩
  | ex x h1 => rw [e] at o; exact o.elim
  | no => rw [e] at o; exact o.elim
theorem bnd_ok {α β : Type} {m : M α} {f : α → M β} {b : β} (e : M.bnd m f h = .ok b h') : ∃ a h1, m h = .ok a h1 ∧ f a h1 = .ok b h' := by
  unfold M.bnd at e
  cases q : m h with
  | ok a h1 => rw [q] at e; exact ⟨a, h1, rfl, e⟩
  | ex x h1 => rw [q] at e; cases e
  | no => rw [q] at e; cases e
theorem opt_ok {α : Type} {o : Option α} {a : α} (e : M.opt o h = .ok a h') : o = some a ∧ h' = h := by
  cases o with
  | none => cases e
  | some x => cases e; exact ⟨rfl, rfl⟩
theorem grd_ok {b : Bool} {u : Unit} (e : M.grd b h = .ok u h') : b = true ∧ h' = h := by
  cases b with
  | false => cases e
  | true => cases e; exact ⟨rfl, rfl⟩
theorem ret_ok {α : Type} {a b : α} (e : M.ret a h = .ok b h') : b = a ∧ h' = h := by
  cases e; exact ⟨rfl, rfl⟩
theorem Out.ret {r : RV} (o : Out K mg μ H (M.ret r h) Q) (R : RH K μ h H) {v : V} (x : VR K mg μ H v r) : Q v H := o v μ H R .refl x
theorem Out.no (o : Out K mg μ H (M.no h) Q) : False := o
theorem Out.imp {res : Res RV} {Q' : VK} (o : Out K mg μ H res Q) (f : ∀ v H', Q v H' → Q' v H') : Out K mg μ H res Q' := by
  cases res with
  | ok r h' => exact fun v μ' H' a b c => f v H' (o v μ' H' a b c)
  | ex _ _ => exact o
  | no => exact o
theorem Out.up {res : Res RV} (e : Ext μ H μ' H') (o : Out K mg μ H res Q) : Out K mg μ' H' res Q := by
  cases res with
  | ok r h' => exact fun v μ2 H2 a b c => o v μ2 H2 a (e.trans b) c
  | ex _ _ => exact o
  | no => exact o
theorem newL_snd {ds : List D} {vs : List V} (R : RH K μ h H) (r : VDs K μ H vs ds) (o : Out K mg μ H (newL bx ds h) Q) : vs.length ≤ sizeLine ∧ ∀ p, H p = none → Q (.ref p) (upd H p (.lst vs)) := by
  unfold newL at o
  have hl := r.length
  by_cases z : ds.length ≤ sizeLine
  · rw [if_pos z] at o
    refine ⟨by omega, fun p hp => ?_⟩
    cases bx with
    | true =>
      obtain ⟨R', e⟩ := R.newBox hp r (by omega)
      refine o _ _ _ R' e (.rf ?_)
      rw [← R.len, List.getElem?_append_right (Nat.le_refl _)]
      simp
    | false =>
      obtain ⟨R', e⟩ := R.push (o := .lst vs) hp
      exact o _ _ _ R' e (.pd (.lst upd_same (R.notin hp) (by omega) (VDs.ext e _ _ r)))
  · rw [if_neg z] at o; exact o.elim
theorem newT_snd {ds : List D} {vs : List V} (R : RH K μ h H) (r : VDs K μ H vs ds) (o : Out K mg μ H (newT ds h) Q) : vs.length ≤ sizeLine ∧ ∀ p o, H p = none → o.dict = none → Q (.ref p) (upd H p (.frz o (.tup vs))) := by
  unfold newT at o
  have hl := r.length
  by_cases z : ds.length ≤ sizeLine
  · rw [if_pos z] at o
    refine ⟨by omega, fun p ob hp hd => ?_⟩
    obtain ⟨R', e⟩ := R.push (o := .frz ob (.tup vs)) hp
    exact o _ _ _ R' e (.pd (.tup ⟨ob, upd_same, hd⟩ (R.notin hp) (by omega) (VDs.ext e _ _ r)))
  · rw [if_neg z] at o; exact o.elim
theorem clsOf_snd : ∀ {rs : List RV} {cs : List Cl} {vs : List V}, clsOf rs = some cs → VRs K mg μ H vs rs → Paired (VC K μ H) vs cs
  | [], _, _, e, .nil => by cases e; exact .nil
  | r :: rs, cs, _, e, .cons x t => by
    simp only [clsOf] at e
    cases q : clOf r with
    | none => rw [q] at e; cases e
    | some c =>
      cases q2 : clsOf rs with
      | none => rw [q, q2] at e; cases e
      | some cs' =>
        rw [q, q2] at e; cases e
        refine .cons ?_ (clsOf_snd q2 t)
        cases r with
        | pd d => cases q; cases x with | pd x => exact x
        | rf n => cases q; cases x with | rf x => exact ⟨_, x, rfl⟩
        | tp _ => cases q
        | fz _ => cases q
        | gl _ => cases q
theorem allPd_snd : ∀ {rs : List RV} {ds : List D} {vs : List V}, allPd rs = some ds → VRs K mg μ H vs rs → VDs K μ H vs ds
  | [], _, _, e, .nil => by cases e; exact .nil
  | .pd d :: rs, ds, _, e, .cons (.pd x) t => by
    simp only [allPd] at e
    cases q : allPd rs with
    | none => rw [q] at e; cases e
    | some es => rw [q] at e; cases e; exact .cons x (allPd_snd q t)
  | .rf _ :: _, _, _, e, _ => by cases e
  | .tp _ :: _, _, _, e, _ => by cases e
  | .fz _ :: _, _, _, e, _ => by cases e
  | .gl _ :: _, _, _, e, _ => by cases e
theorem mkLst_snd {rs : List RV} {vs : List V} (R : RH K μ h H) (r : VRs K mg μ H vs rs) (o : Out K mg μ H (mkLst bx rs h) Q) : vs.length ≤ sizeLine ∧ ∀ p, H p = none → Q (.ref p) (upd H p (.lst vs)) := by
  unfold mkLst at o
  cases q : allPd rs with
  | some ds =>
    rw [q] at o
    exact newL_snd R (allPd_snd q r) o
  | none =>
    rw [q] at o
    simp only at o
    cases q2 : clsOf rs with
    | none => rw [q2] at o; exact o.elim
    | some cs =>
      rw [q2] at o
      have rp := clsOf_snd q2 r
      have hl := Paired.length rp
      simp only [newM] at o
      split at o
      · rename_i hc
        obtain ⟨rfl, z⟩ := hc
        refine ⟨by omega, fun p hp => ?_⟩
        obtain ⟨R', e⟩ := R.newMix hp rp (by omega)
        refine o _ _ _ R' e (.rf ?_)
        rw [← R.len, List.getElem?_append_right (Nat.le_refl _)]
        simp
      · exact o.elim
theorem mkTup_snd {rs : List RV} {vs : List V} (R : RH K μ h H) (r : VRs K mg μ H vs rs) (o : Out K mg μ H (mkTup rs h) Q) : vs.length ≤ sizeLine ∧ ∀ p o, H p = none → o.dict = none → Q (.ref p) (upd H p (.frz o (.tup vs))) := by
  unfold mkTup at o
  cases q : allPd rs with
  | some ds =>
    rw [q] at o
    exact newT_snd R (allPd_snd q r) o
  | none =>
    rw [q] at o
    have hl := r.length
    by_cases z : rs.length ≤ sizeLine
    · simp only [if_pos z] at o
      refine ⟨by omega, fun p ob hp hd => ?_⟩
      obtain ⟨R', e⟩ := R.push (o := .frz ob (.tup vs)) hp
      exact o _ _ _ R' e (.tp ⟨ob, upd_same, hd⟩ (R.notin hp) (by omega) (VRs.ext e _ _ r))
    · simp only [if_neg z] at o; exact o.elim

/-! ### truth -/
theorem truth_snd {r : RV} {v : V} {k : Bool} (R : RH K μ h H) (x : VR K mg μ H v r) (e : truth r h = .ok k h') : h' = h ∧ TruV K v H k := by
  obtain ⟨d, h1, e1, e2⟩ := bnd_ok e
  obtain ⟨rfl, w⟩ := dat_ok R x e1
  obtain ⟨e3, rfl⟩ := opt_ok e2
  refine ⟨rfl, ?_⟩
  cases d with
  | none => cases e3; rw [w.non]; exact rfl
  | bool b => cases e3; rw [w.bl]; exact rfl
  | int i => cases e3; rw [w.int]; exact rfl
  | str y =>
    rw [w.str]
    simp only [truD] at e3
    split at e3
    · rename_i z; cases e3; exact ⟨z, rfl⟩
    · cases e3
  | list ds =>
    obtain ⟨a, vs, rfl, q, r, _⟩ := w.list
    cases e3
    refine .inl ⟨vs, q, ?_⟩
    cases r <;> rfl
  | tuple ds =>
    obtain ⟨a, vs, rfl, q, r, _⟩ := w.tuple
    cases e3
    refine .inr (.inl ⟨vs, q, ?_⟩)
    cases r <;> rfl
  | dict _ => cases e3

/-! ### two-place operators -/
def rAddS : R2 := fun x y H Q => ∃ i j, x = .str i ∧ y = .str j ∧ i.length + j.length ≤ sizeLine ∧ Q (.str (i ++ j)) H
def rBin (K : PySem.W.Frag) : Operator → R2
  | .Add => fun x y H Q => rI0 (fun i j => .int (i + j)) x y H Q ∨ rAddS x y H Q ∨ rCatF K x y H Q ∨ rCat x y H Q
  | .Sub => rI0 fun i j => .int (i - j)
  | .Mult => rI CMulW fun i j => .int (i * j)
  | .FloorDiv => rI CDivW fun i j => .int (i / j)
  | .Mod => rI (fun _ j => 0 < j) fun i j => .int (i % j)
  | .Pow => rI CPow fun i j => .int (i ^ j.toNat)
  | _ => fun _ _ _ _ => False
theorem op_no {X : Cx} {f : Value → Value → Sem Value} : OpR X f fun _ _ _ _ => False := fun _ _ _ _ _ _ _ _ _ _ _ _ z => z.elim
theorem op_bin {X : Cx} : (op : Operator) → OpR X (binaryOp op) (rBin X.K op)
  | .Add => op_add.or (OpR.or (r := rAddS) op_add_str (op_catF.or op_cat))
  | .Sub => op_sub
  | .Mult => op_mulW
  | .FloorDiv => op_fdivW
  | .Mod => op_mod
  | .Pow => op_pow
  | .MatMult | .Div | .LShift | .RShift | .BitOr | .BitXor | .BitAnd => op_no
theorem lstM {r : RV} {v : V} {ds : List D} (R : RH K μ h H) (nf : isFz r = false) (x : VR K mg μ H v r) (e : dat r h = .ok (.list ds) h') : ∃ a vs, v = .ref a ∧ H a = some (.lst vs) ∧ VDs K μ H vs ds ∧ vs.length ≤ sizeLine := by
  cases r with
  | pd d0 =>
    cases x with
    | pd q =>
      cases e
      cases q with
      | lst q n z r => exact ⟨_, _, rfl, q, r, z⟩
  | fz ds => cases nf
  | rf n =>
    cases x with
    | rf q =>
      simp only [dat] at e
      cases hb : h[n]? with
      | none => rw [hb] at e; cases e
      | some b =>
        rw [hb] at e
        cases b with
        | gone => cases e
        | mix _ => cases e
        | lst ds =>
          cases e
          obtain ⟨vs, q1, q2, q3⟩ := R.box n _ _ q hb
          exact ⟨_, _, rfl, q1, q2, q3⟩
  | tp _ => cases e
  | gl _ => cases e
theorem binS_snd {op : Operator} {a b : RV} {v u : V} (R : RH K μ h H) (x : VR K mg μ H v a) (y : VR K mg μ H u b) (o : Out K mg μ H (binS bx op a b h) Q) : rBin K op v u H Q := by
  obtain ⟨_, h0, e0, o1⟩ := o.bnd
  obtain ⟨g, rfl⟩ := grd_ok e0
  simp only [Bool.and_eq_true, Bool.not_eq_true'] at g
  obtain ⟨d, h1, e1, o2⟩ := o1.bnd
  obtain ⟨rfl, w1⟩ := dat_ok R x e1
  obtain ⟨e, h2, e2, o3⟩ := o2.bnd
  obtain ⟨rfl, w2⟩ := dat_ok R y e2
  clear o o1 o2
  unfold binD at o3
  split at o3
  · rw [w1.int, w2.int]; exact .inl ⟨_, _, rfl, rfl, o3.ret R (.pd (.int _))⟩
  · rw [w1.int, w2.int]; exact ⟨_, _, rfl, rfl, o3.ret R (.pd (.int _))⟩
  · obtain ⟨_, h0, e0, o4⟩ := o3.bnd
    obtain ⟨g, rfl⟩ := grd_ok e0
    have g := of_decide_eq_true g
    rw [w1.int, w2.int]; exact ⟨_, _, rfl, rfl, g, o4.ret R (.pd (.int _))⟩
  · obtain ⟨_, h0, e0, o4⟩ := o3.bnd
    obtain ⟨g, rfl⟩ := grd_ok e0
    have g := of_decide_eq_true g
    rw [w1.int, w2.int]; exact ⟨_, _, rfl, rfl, g, o4.ret R (.pd (.int _))⟩
  · obtain ⟨_, h0, e0, o4⟩ := o3.bnd
    obtain ⟨g, rfl⟩ := grd_ok e0
    have g := of_decide_eq_true g
    rw [w1.int, w2.int]; exact ⟨_, _, rfl, rfl, g, o4.ret R (.pd (.int _))⟩
  · obtain ⟨_, h0, e0, o4⟩ := o3.bnd
    obtain ⟨g, rfl⟩ := grd_ok e0
    have g := of_decide_eq_true g
    rw [w1.int, w2.int]; exact ⟨_, _, rfl, rfl, g, o4.ret R (.pd (.int _))⟩
  · obtain ⟨_, h0, e0, o4⟩ := o3.bnd
    obtain ⟨g, rfl⟩ := grd_ok e0
    have g := of_decide_eq_true g
    rw [w1.str, w2.str]; exact .inr (.inl ⟨_, _, rfl, rfl, g, o4.ret R (.pd (.str _))⟩)
  · rename_i xs ys
    obtain ⟨p, vs, rfl, q1, r1, z1⟩ := w1.tuple
    obtain ⟨p', ws, rfl, q2, r2, z2⟩ := w2.tuple
    obtain ⟨z, q⟩ := newT_snd R (r1.append r2) o3
    have hl := (r1.append r2).length
    rw [List.length_append] at z
    refine .inr (.inr (.inl ⟨p, p', vs, ws, rfl, rfl, q1, q2, z, fun hx => ?_, fun hx hy => ?_, fun _ _ => q⟩))
    · subst hx
      cases r1
      unfold newT at o3
      rw [List.nil_append] at o3 hl
      rw [if_pos (by have := r2.length; omega)] at o3
      rcases w2 with w2 | ⟨_, _, _, _, e, _⟩
      · exact o3 _ _ _ R .refl (.pd w2)
      · cases e
    · subst hy
      cases r2
      unfold newT at o3
      rw [List.append_nil] at o3 hl
      rw [if_pos (by have := r1.length; omega)] at o3
      rcases w1 with w1 | ⟨_, _, _, _, e, _⟩
      · exact o3 _ _ _ R .refl (.pd w1)
      · cases e
  · rename_i xs ys
    obtain ⟨p, vs, rfl, q1, r1, z1⟩ := lstM R g.1 x e1
    obtain ⟨p', ws, rfl, q2, r2, z2⟩ := lstM R g.2 y e2
    obtain ⟨z, q⟩ := newL_snd R (r1.append r2) o3
    rw [List.length_append] at z
    exact .inr (.inr (.inr ⟨p, p', vs, ws, rfl, rfl, q1, q2, z, q⟩))
  · exact o3.no.elim
end
end AI

set_option Elab.async false
set_option linter.all false
set_option maxRecDepth 100000
set_option maxHeartbeats 4000000
/-! AiSnd2: comparisons, subscripts, built-ins, methods. -/
namespace AI
open PySem L2 SeqAt
section
variable {K : PySem.W.Frag} {mg : Str → Option Value} {μ μ' μ'' : List Addr} {H H' H'' : Hp} {h h' h'' : Boxes} {Q : VK} {bx : Bool}
def rTxt (p : Str → Str → Bool) : R2 := fun x y H Q => ∃ i j, x = .str i ∧ y = .str j ∧ Q (.bl (p i j)) H
def rCmp (K : PySem.W.Frag) : CmpOp → R2
  | .Eq => rEqP K false
  | .NotEq => rEqP K true
  | .Lt => fun x y H Q => (rI0 (fun i j => .bl (decide (i < j))) x y H Q ∨ rTxt (fun i j => decide (i.cps.toList < j.cps.toList)) x y H Q) ∨ rLtT K x y H Q
  | .LtE => fun x y H Q => rI0 (fun i j => .bl (decide (i ≤ j))) x y H Q ∨ rTxt (fun i j => !decide (j.cps.toList < i.cps.toList)) x y H Q
  | .Gt => fun x y H Q => (rI0 (fun i j => .bl (decide (j < i))) x y H Q ∨ rTxt (fun i j => decide (j.cps.toList < i.cps.toList)) x y H Q) ∨ rGtT K x y H Q
  | .GtE => fun x y H Q => rI0 (fun i j => .bl (decide (j ≤ i))) x y H Q ∨ rTxt (fun i j => !decide (i.cps.toList < j.cps.toList)) x y H Q
  | .In => fun x y H Q => rInP K false x y H Q ∨ rTxt (fun i j => !(Builtin.Str.occurrences j i 0 j.length 1).isEmpty) x y H Q
  | .NotIn => fun x y H Q => rInP K true x y H Q ∨ rTxt (fun i j => !(!(Builtin.Str.occurrences j i 0 j.length 1).isEmpty)) x y H Q
  | .Is => fun x y H Q => y = .non ∧ Q (.bl (decide (x = .non))) H
  | .IsNot => fun x y H Q => y = .non ∧ Q (.bl (!decide (x = .non))) H
theorem op_cmp {X : Cx} (hu : X.A.units + 70 < cLine) : (op : CmpOp) → OpR X (compareOp op) (rCmp X.K op)
  | .Eq => op_eqP (by omega)
  | .NotEq => op_neP (by omega)
  | .Lt => (op_lt.or (r' := rTxt _) op_lt_str).or (op_ltA (by omega))
  | .LtE => op_le.or (r' := rTxt _) op_le_str
  | .Gt => (op_gt.or (r' := rTxt _) op_gt_str).or (op_gtA (by omega))
  | .GtE => op_ge.or (r' := rTxt _) op_ge_str
  | .In => (op_inP hu).or (r' := rTxt _) op_in_str
  | .NotIn => (op_ninP hu).or (r' := rTxt _) op_notin_str
  | .Is => op_isN
  | .IsNot => op_notN
theorem VW.isN {v : V} {d : D} (x : VW K μ H v d) : (decide (v = .non)) = isNonD d := by
  cases d with
  | none => rw [x.non]; rfl
  | bool _ => rw [x.bl]; rfl
  | int _ => rw [x.int]; rfl
  | str _ => rw [x.str]; rfl
  | list _ => obtain ⟨_, _, rfl, _⟩ := x.list; rfl
  | tuple _ => obtain ⟨_, _, rfl, _⟩ := x.tuple; rfl
  | dict _ => exact x.dict.elim
theorem eqD_snd {neg : Bool} {x y : D} {v u : V} {k : Bool} (w1 : VW K μ H v x) (w2 : VW K μ H u y) (e : eqD x y h = .ok k h') : h' = h ∧ ∀ Q : VK, Q (.bl (if neg then !k else k)) H → rEqP K neg v u H Q := by
  obtain ⟨_, h1, e1, e2⟩ := bnd_ok e
  obtain ⟨g, rfl⟩ := grd_ok e1
  obtain ⟨rfl, rfl⟩ := ret_ok e2
  obtain ⟨a, b⟩ := w1.dp
  obtain ⟨c, d⟩ := w2.dp
  exact ⟨rfl, fun Q q => ⟨x, y, a, c, b, d, of_decide_eq_true g, q⟩⟩
theorem inD_snd {neg : Bool} {x y : D} {v u : V} {k : Bool} (w1 : VW K μ H v x) (w2 : VW K μ H u y) (e : inD x y h = .ok k h') : h' = h ∧ ∀ Q : VK, Q (.bl (if neg then !k else k)) H →
    rInP K neg v u H Q ∨ rTxt (fun i j => if neg then !(!(Builtin.Str.occurrences j i 0 j.length 1).isEmpty) else !(Builtin.Str.occurrences j i 0 j.length 1).isEmpty) v u H Q := by
  obtain ⟨a, b⟩ := w1.dp
  have seq : ∀ {ds : List D} {p : Addr} {vs : List V}, inL x ds h = .ok k h' → u = .ref p → SqL K H p vs ∨ SqT K H p vs → VDs K μ H vs ds → h' = h ∧ ∀ Q : VK, Q (.bl (if neg then !k else k)) H → rInP K neg v u H Q := by
    intro ds p vs e eu hq r
    obtain ⟨_, h1, e1, e2⟩ := bnd_ok e
    obtain ⟨g, rfl⟩ := grd_ok e1
    obtain ⟨rfl, rfl⟩ := ret_ok e2
    obtain ⟨c, d⟩ := VDs.dp _ _ r
    exact ⟨rfl, fun Q q => ⟨x, ds, p, vs, a, eu, hq, c, b, d, of_decide_eq_true g, q⟩⟩
  cases y with
  | list ds =>
    obtain ⟨p, vs, eu, q, r, _⟩ := w2.list
    obtain ⟨e1, e2⟩ := seq e eu (.inl q) r
    exact ⟨e1, fun Q q => .inl (e2 Q q)⟩
  | tuple ds =>
    obtain ⟨p, vs, eu, q, r, _⟩ := w2.tuple
    obtain ⟨e1, e2⟩ := seq e eu (.inr q) r
    exact ⟨e1, fun Q q => .inl (e2 Q q)⟩
  | str z =>
    cases x with
    | str t =>
      cases e
      refine ⟨rfl, fun Q q => .inr ⟨t, z, w1.str, w2.str, ?_⟩⟩
      cases neg <;> exact q
    | none => cases e
    | bool _ => cases e
    | int _ => cases e
    | list _ => cases e
    | tuple _ => cases e
    | dict _ => cases e
  | none => cases e
  | bool _ => cases e
  | int _ => cases e
  | dict _ => cases e
theorem cmpS_snd {op : CmpOp} {a b : RV} {v u : V} {k : Bool} (R : RH K μ h H) (x : VR K mg μ H v a) (y : VR K mg μ H u b) (e : cmpS op a b h = .ok k h') : h' = h ∧ ∀ Q : VK, Q (.bl k) H → rCmp K op v u H Q := by
  obtain ⟨d, h1, e1, e2⟩ := bnd_ok e
  obtain ⟨rfl, w1⟩ := dat_ok R x e1
  obtain ⟨e, h2, e3, e4⟩ := bnd_ok e2
  obtain ⟨rfl, w2⟩ := dat_ok R y e3
  clear e2
  unfold cmpD at e4
  split at e4
  · exact eqD_snd (neg := false) w1 w2 e4
  · obtain ⟨k', h3, e5, e6⟩ := bnd_ok e4
    obtain ⟨rfl, rfl⟩ := ret_ok e6
    exact eqD_snd (neg := true) w1 w2 e5
  · obtain ⟨rfl, rfl⟩ := ret_ok e4; exact ⟨rfl, fun Q q => .inl (.inl ⟨_, _, w1.int, w2.int, q⟩)⟩
  · obtain ⟨rfl, rfl⟩ := ret_ok e4; exact ⟨rfl, fun Q q => .inl ⟨_, _, w1.int, w2.int, q⟩⟩
  · obtain ⟨rfl, rfl⟩ := ret_ok e4; exact ⟨rfl, fun Q q => .inl (.inl ⟨_, _, w1.int, w2.int, q⟩)⟩
  · obtain ⟨rfl, rfl⟩ := ret_ok e4; exact ⟨rfl, fun Q q => .inl ⟨_, _, w1.int, w2.int, q⟩⟩
  · obtain ⟨rfl, rfl⟩ := ret_ok e4; exact ⟨rfl, fun Q q => .inl (.inr ⟨_, _, w1.str, w2.str, q⟩)⟩
  · obtain ⟨rfl, rfl⟩ := ret_ok e4; exact ⟨rfl, fun Q q => .inl (.inr ⟨_, _, w1.str, w2.str, q⟩)⟩
  · obtain ⟨rfl, rfl⟩ := ret_ok e4; exact ⟨rfl, fun Q q => .inr ⟨_, _, w1.str, w2.str, q⟩⟩
  · obtain ⟨rfl, rfl⟩ := ret_ok e4; exact ⟨rfl, fun Q q => .inr ⟨_, _, w1.str, w2.str, q⟩⟩
  · obtain ⟨_, h3, e5, e6⟩ := bnd_ok e4
    obtain ⟨g, rfl⟩ := grd_ok e5
    obtain ⟨f, rfl⟩ := opt_ok e6
    have p1 := w1.dp
    have p2 := w2.dp
    exact ⟨rfl, fun Q q => .inr ⟨_, _, _, p1.1, p2.1, p1.2, p2.2, of_decide_eq_true g, f, q⟩⟩
  · obtain ⟨_, h3, e5, e6⟩ := bnd_ok e4
    obtain ⟨g, rfl⟩ := grd_ok e5
    obtain ⟨f, rfl⟩ := opt_ok e6
    have p1 := w1.dp
    have p2 := w2.dp
    exact ⟨rfl, fun Q q => .inr ⟨_, _, _, p1.1, p2.1, p1.2, p2.2, of_decide_eq_true g, f, q⟩⟩
  · exact inD_snd (neg := false) w1 w2 e4
  · obtain ⟨k', h3, e5, e6⟩ := bnd_ok e4
    obtain ⟨rfl, rfl⟩ := ret_ok e6
    exact inD_snd (neg := true) w1 w2 e5
  · obtain ⟨rfl, rfl⟩ := ret_ok e4
    exact ⟨rfl, fun Q q => ⟨w2.non, by rw [w1.isN]; exact q⟩⟩
  · obtain ⟨rfl, rfl⟩ := ret_ok e4
    exact ⟨rfl, fun Q q => ⟨w2.non, by rw [w1.isN]; exact q⟩⟩
  · cases e4

/-! ### subscripts -/
theorem atI_VDs {vs : List V} {ds : List D} {k : Int} {d : D} (r : VDs K μ H vs ds) (e : atI ds k = some d) : ∃ v, atI vs k = some v ∧ VD K μ H v d := by
  unfold atI at e ⊢
  rw [r.length]
  cases q : ixN ds.length k with
  | none => rw [q] at e; cases e
  | some j => rw [q] at e; exact r.get e
theorem atI_VRs {vs : List V} {ds : List RV} {k : Int} {d : RV} (r : VRs K mg μ H vs ds) (e : atI ds k = some d) : ∃ v, atI vs k = some v ∧ VR K mg μ H v d := by
  unfold atI at e ⊢
  rw [r.length]
  cases q : ixN ds.length k with
  | none => rw [q] at e; cases e
  | some j => rw [q] at e; exact r.get e
theorem idxS_snd {o i : RV} {v u : V} (R : RH K μ h H) (x : VR K mg μ H v o) (y : VR K mg μ H u i) (q : Out K mg μ H (idxS o i h) Q) : rIx K v u H Q := by
  unfold idxS at q
  split at q
  · rename_i rs k
    cases x with
    | tp e n z r =>
      cases y with
      | pd y =>
        cases y
        cases p : atI rs k with
        | none => rw [p] at q; exact q.elim
        | some w =>
          rw [p] at q
          obtain ⟨v', e', x'⟩ := atI_VRs r p
          exact .inr (.inl ⟨_, _, _, _, rfl, rfl, e.sq, e', q.ret R x'⟩)
  · rename_i n k
    cases x with
    | rf ha =>
      cases y with
      | pd y =>
        cases y
        simp only [idxB] at q
        cases hb : h[n]? with
        | none => rw [hb] at q; exact q.elim
        | some b =>
          rw [hb] at q
          cases b with
          | gone => exact q.elim
          | mix cs =>
            obtain ⟨c, h1, e1, o1⟩ := q.bnd
            obtain ⟨g1, rfl⟩ := opt_ok e1
            obtain ⟨vs, q1, r, z⟩ := R.box n _ _ ha hb
            unfold atI at g1
            cases q : ixN cs.length k with
            | none => rw [q] at g1; cases g1
            | some j =>
              rw [q] at g1
              obtain ⟨v, e2, x2⟩ := Paired.get' r g1
              have e3 : atI vs k = some v := by unfold atI; rw [Paired.length r, q]; exact e2
              refine .inl ⟨_, _, _, _, rfl, rfl, .of q1, e3, o1.ret R ?_⟩
              cases c with
              | d x => exact .pd x2
              | r m => obtain ⟨a, e4, rfl⟩ := x2; exact .rf e4
          | lst ds =>
            obtain ⟨c, h1, e1, o1⟩ := q.bnd
            obtain ⟨g1, rfl⟩ := opt_ok e1
            obtain ⟨vs, q1, r, z⟩ := R.box n _ _ ha hb
            obtain ⟨v', e', x'⟩ := atI_VDs r g1
            exact .inl ⟨_, _, _, _, rfl, rfl, .of q1, e', o1.ret R (.pd x')⟩
  · obtain ⟨d, h1, e1, o2⟩ := q.bnd
    obtain ⟨rfl, w1⟩ := dat_ok R x e1
    obtain ⟨e, h2, e2, o3⟩ := o2.bnd
    obtain ⟨rfl, w2⟩ := dat_ok R y e2
    clear o2 q
    unfold idxD at o3
    split at o3
    · obtain ⟨d', h3, e3, o4⟩ := o3.bnd
      obtain ⟨g3, rfl⟩ := opt_ok e3
      obtain ⟨p, vs, rfl, hq, r, _⟩ := w1.list
      obtain ⟨v', e', x'⟩ := atI_VDs r g3
      exact .inl ⟨_, _, _, _, rfl, w2.int, hq, e', o4.ret R (.pd x')⟩
    · obtain ⟨d', h3, e3, o4⟩ := o3.bnd
      obtain ⟨g3, rfl⟩ := opt_ok e3
      obtain ⟨p, vs, rfl, hq, r, _⟩ := w1.tuple
      obtain ⟨v', e', x'⟩ := atI_VDs r g3
      exact .inr (.inl ⟨_, _, _, _, rfl, w2.int, hq, e', o4.ret R (.pd x')⟩)
    · obtain ⟨_, h3, e3, o4⟩ := o3.bnd
      obtain ⟨g, rfl⟩ := grd_ok e3
      obtain ⟨c, h4, e4, o5⟩ := o4.bnd
      obtain ⟨g4, rfl⟩ := opt_ok e4
      exact .inr (.inr ⟨_, _, _, w1.str, w2.int, of_decide_eq_true g, g4, o5.ret R (.pd (.str _))⟩)
    · exact o3.no.elim
def rSlc (K : PySem.W.Frag) : V → Option Int → Option Int → Hp → VK → Prop := fun x lo hi H Q => rSlL K x lo hi H Q ∨ rSlF K x lo hi H Q ∨ rSlS x lo hi H Q
theorem sl_any {X : Cx} : SlR X (rSlc X.K) := sl_list.or (sl_tupF.or sl_str)
theorem cut_snd {vs : List V} {ds : List D} (r : VDs K μ H vs ds) (lo hi : Option Int) : VDs K μ H (cutV vs lo hi) (cutL ds lo hi) := by
  unfold cutV cutL
  rw [r.length]
  exact (r.drop _).take _
theorem slcS_snd {o : RV} {v : V} {lo hi : Option Int} (R : RH K μ h H) (x : VR K mg μ H v o) (q : Out K mg μ H (slcS bx o lo hi h) Q) : rSlc K v lo hi H Q := by
  obtain ⟨d, h1, e1, o2⟩ := q.bnd
  obtain ⟨rfl, w1⟩ := dat_ok R x e1
  clear q
  split at o2
  · obtain ⟨p, vs, rfl, hq, r, _⟩ := w1.list
    exact .inl ⟨p, vs, rfl, hq, (newL_snd R (cut_snd r lo hi) o2).2⟩
  · rename_i ds
    obtain ⟨p, vs, rfl, hq, r, _⟩ := w1.tuple
    obtain ⟨z, q⟩ := newT_snd R (cut_snd r lo hi) o2
    refine .inr (.inl ⟨p, vs, rfl, hq, fun ⟨c1, c2⟩ => ?_, fun _ => q⟩)
    have e : cutL ds lo hi = ds := by
      unfold cutL
      rw [← r.length, c1, c2, r.length]
      simp
    rw [e] at o2
    unfold newT at o2
    have hl := r.length
    have hz : vs.length ≤ sizeLine := by
      have := (cut_snd r lo hi).length
      rw [e] at this
      omega
    rw [if_pos (by omega)] at o2
    rcases w1 with w1 | ⟨_, _, _, _, e, _⟩
    · exact o2 _ _ _ R .refl (.pd w1)
    · cases e
  · obtain ⟨_, h3, e3, o4⟩ := o2.bnd
    obtain ⟨g, rfl⟩ := grd_ok e3
    exact .inr (.inr ⟨_, w1.str, of_decide_eq_true g, o4.ret R (.pd (.str _))⟩)
  · exact o2.no.elim
end
end AI

set_option Elab.async false
set_option linter.all false
set_option maxRecDepth 100000
set_option maxHeartbeats 4000000
/-! AiSnd3: built-ins, isinstance, methods, stores. -/
namespace AI
open PySem L2 SeqAt
section
variable {K : PySem.W.Frag} {mg : Str → Option Value} {μ μ' μ'' : List Addr} {H H' H'' : Hp} {h h' h'' : Boxes} {Q : VK} {bx : Bool}
abbrev R1 := List V → Hp → VK → Prop
/-- a built-in as a value -/
def BI.val : BI → Value
  | .len => .builtin "len" | .abs => .builtin "abs" | .max => .builtin "max" | .min => .builtin "min" | .all => .builtin "all" | .any => .builtin "any" | .sum => .builtin "sum"
  | .repr => .builtin "repr"
  | .list => .type "list" | .tuple => .type "tuple" | .int => .type "int" | .str => .type "str"
def rBi (K : PySem.W.Frag) : BI → R1
  | .len => fun xs H Q => (∃ p ys, xs = [.ref p] ∧ (SqL K H p ys ∨ SqT K H p ys) ∧ Q (.int ys.length) H) ∨ (∃ z, xs = [.str z] ∧ z.length ≤ sizeLine ∧ Q (.int z.length) H)
  | .list => fun xs H Q => ∃ p ys, xs = [.ref p] ∧ (SqL K H p ys ∨ SqT K H p ys) ∧ ∀ l, H l = none → Q (.ref l) (upd H l (.lst ys))
  | .tuple => fun xs H Q => ∃ p ys, xs = [.ref p] ∧ ((SqL K H p ys ∧ ∀ l o, H l = none → o.dict = none → Q (.ref l) (upd H l (.frz o (.tup ys)))) ∨ (SqT K H p ys ∧ Q (.ref p) H))
  | .int => fun xs H Q => ((∃ i, xs = [.int i] ∧ Q (.int i) H) ∨ ∃ k, xs = [.bl k] ∧ Q (.int (if k then 1 else 0)) H) ∨ ∃ a n, xs = [.str a] ∧ PySem.intText? a = some n ∧ a.length ≤ 640 ∧ Q (.int n) H
  | .str => fun xs H Q => (∃ i, xs = [.int i] ∧ i.natAbs.log2 < 1920 ∧ Q (.str (toString i)) H) ∨ ∃ a, xs = [.str a] ∧ Q (.str a) H
  | .abs => fun xs H Q => ∃ i, xs = [.int i] ∧ Q (.int (if i < 0 then -i else i)) H
  | .max => fun xs H Q => ∃ i j, xs = [.int i, .int j] ∧ Q (.int (if j > i then j else i)) H
  | .min => fun xs H Q => ∃ i j, xs = [.int i, .int j] ∧ Q (.int (if j < i then j else i)) H
  | .all => rAll K
  | .any => rAny K
  | .sum => rSum K
  | .repr => rRepr K
theorem cr_bi {X : Cx} (gd : X.A.guards = some []) (hu : X.A.units + 70 < cLine) (hc : X.calm = true) : (b : BI) → CallR X b.val (rBi X.K b)
  | .len => call_len_seq.or call_len_str
  | .list => call_list_of
  | .tuple => call_tupleF
  | .int => call_int1.or call_int_str
  | .str => call_str_int.or SkE.call_str_str
  | .abs => call_abs
  | .max => call_max2 hc
  | .min => call_min2 hc
  | .all => cr_all hc
  | .any => cr_any hc
  | .sum => cr_sum hc
  | .repr => call_reprP gd hu
theorem dats_ok : ∀ {rs : List RV} {vs : List V} {ds : List D} {h h' : Boxes}, RH K μ h H → VRs K mg μ H vs rs → dats rs h = .ok ds h' → h' = h ∧ ∃ ws, ws = vs ∧ ws.length = ds.length ∧ ∀ (i : Nat) (v : V) (d : D), vs[i]? = some v → ds[i]? = some d → VW K μ H v d
  | [], _, _, _, _, R, .nil, e => by cases e; exact ⟨rfl, _, rfl, rfl, fun i v d e => by simp at e⟩
  | r :: rs, _, _, h, h', R, .cons x t, e => by
    obtain ⟨d, h1, e1, e2⟩ := bnd_ok e
    obtain ⟨rfl, w1⟩ := dat_ok R x e1
    obtain ⟨ds, h2, e3, e4⟩ := bnd_ok e2
    obtain ⟨rfl, ws, rfl, l, f⟩ := dats_ok R t e3
    obtain ⟨rfl, rfl⟩ := ret_ok e4
    refine ⟨rfl, _, rfl, by simpa using l, fun i v d e1 e2 => ?_⟩
    cases i with
    | zero => simp at e1 e2; subst e1; subst e2; exact w1
    | succ i => exact f i v d (by simpa using e1) (by simpa using e2)
theorem boolsOf_snd : ∀ {ds : List D} {ks : List Bool} {vs : List V}, boolsOf ds = some ks → VDs K μ H vs ds → vs = ks.map V.bl
  | [], _, _, e, .nil => by cases e; rfl
  | .bool i :: ds, ks, _, e, .cons x t => by
    simp only [boolsOf] at e
    cases q : boolsOf ds with
    | none => rw [q] at e; cases e
    | some es => rw [q] at e; cases e; cases x; rw [boolsOf_snd q t]; rfl
  | .none :: _, _, _, e, _ | .int _ :: _, _, _, e, _ | .str _ :: _, _, _, e, _ | .list _ :: _, _, _, e, _ | .tuple _ :: _, _, _, e, _ | .dict _ :: _, _, _, e, _ => by cases e
theorem intsOf_snd : ∀ {ds : List D} {ks : List Int} {vs : List V}, intsOf ds = some ks → VDs K μ H vs ds → vs = ks.map V.int
  | [], _, _, e, .nil => by cases e; rfl
  | .int i :: ds, ks, _, e, .cons x t => by
    simp only [intsOf] at e
    cases q : intsOf ds with
    | none => rw [q] at e; cases e
    | some es => rw [q] at e; cases e; cases x; rw [intsOf_snd q t]; rfl
  | .none :: _, _, _, e, _ | .bool _ :: _, _, _, e, _ | .str _ :: _, _, _, e, _ | .list _ :: _, _, _, e, _ | .tuple _ :: _, _, _, e, _ | .dict _ :: _, _, _, e, _ => by cases e
theorem one_arg {vs : List V} {d : D} {ws : List V} (e : ws = vs) (l : ws.length = [d].length) (f : ∀ (i : Nat) (v : V) (d' : D), vs[i]? = some v → [d][i]? = some d' → VW K μ H v d') : ∃ v, vs = [v] ∧ VW K μ H v d := by
  subst e
  match ws, l with
  | [v], _ => exact ⟨v, rfl, f 0 v d rfl rfl⟩
theorem two_arg {vs : List V} {d d2 : D} {ws : List V} (e : ws = vs) (l : ws.length = [d, d2].length) (f : ∀ (i : Nat) (v : V) (d' : D), vs[i]? = some v → [d, d2][i]? = some d' → VW K μ H v d') : ∃ v v2, vs = [v, v2] ∧ VW K μ H v d ∧ VW K μ H v2 d2 := by
  subst e
  match ws, l with
  | [v, v2], _ => exact ⟨v, v2, rfl, f 0 v d rfl rfl, f 1 v2 d2 rfl rfl⟩
theorem biS_snd {b : BI} {rs : List RV} {vs : List V} (R : RH K μ h H) (x : VRs K mg μ H vs rs) (q : Out K mg μ H (biS bx b rs h) Q) : rBi K b vs H Q := by
  obtain ⟨ds, h1, e1, o2⟩ := q.bnd
  obtain ⟨rfl, ws, ew, l, f⟩ := dats_ok R x e1
  clear q
  unfold biD at o2
  split at o2
  · obtain ⟨v, rfl, w⟩ := one_arg ew l f
    obtain ⟨p, us, rfl, hq, r, _⟩ := w.list
    refine .inl ⟨p, us, rfl, .inl hq, ?_⟩
    rw [r.length]; exact o2.ret R (.pd (.int _))
  · obtain ⟨v, rfl, w⟩ := one_arg ew l f
    obtain ⟨p, us, rfl, hq, r, _⟩ := w.tuple
    refine .inl ⟨p, us, rfl, .inr hq, ?_⟩
    rw [r.length]; exact o2.ret R (.pd (.int _))
  · obtain ⟨v, rfl, w⟩ := one_arg ew l f
    obtain ⟨_, h0, e0, o3⟩ := o2.bnd
    obtain ⟨g, rfl⟩ := grd_ok e0
    exact .inr ⟨_, by rw [w.str], of_decide_eq_true g, o3.ret R (.pd (.int _))⟩
  · obtain ⟨v, rfl, w⟩ := one_arg ew l f
    obtain ⟨p, us, rfl, hq, r, _⟩ := w.list
    exact ⟨p, us, rfl, .inl hq, (newL_snd R r o2).2⟩
  · obtain ⟨v, rfl, w⟩ := one_arg ew l f
    obtain ⟨p, us, rfl, hq, r, _⟩ := w.tuple
    exact ⟨p, us, rfl, .inr hq, (newL_snd R r o2).2⟩
  · obtain ⟨v, rfl, w⟩ := one_arg ew l f
    obtain ⟨p, us, rfl, hq, r, _⟩ := w.list
    exact ⟨p, us, rfl, .inl ⟨hq, (newT_snd R r o2).2⟩⟩
  · obtain ⟨v, rfl, w⟩ := one_arg ew l f
    obtain ⟨p, us, e, hq, r, _⟩ := w.tuple
    rcases w with w | ⟨_, _, _, _, e, _⟩
    · subst e
      exact ⟨p, us, rfl, .inr ⟨hq, o2.ret R (.pd w)⟩⟩
    · cases e
  · obtain ⟨v, rfl, w⟩ := one_arg ew l f
    exact .inl (.inl ⟨_, by rw [w.int], o2.ret R (.pd (.int _))⟩)
  · obtain ⟨v, rfl, w⟩ := one_arg ew l f
    exact .inl (.inr ⟨_, by rw [w.bl], o2.ret R (.pd (.int _))⟩)
  · obtain ⟨v, rfl, w⟩ := one_arg ew l f
    obtain ⟨_, h0, e0, o3⟩ := o2.bnd
    obtain ⟨g, rfl⟩ := grd_ok e0
    obtain ⟨n, h2, e2, o4⟩ := o3.bnd
    obtain ⟨g2, rfl⟩ := opt_ok e2
    exact .inr ⟨_, _, by rw [w.str], g2, of_decide_eq_true g, o4.ret R (.pd (.int _))⟩
  · obtain ⟨v, rfl, w⟩ := one_arg ew l f
    obtain ⟨_, h0, e0, o3⟩ := o2.bnd
    obtain ⟨g, rfl⟩ := grd_ok e0
    exact .inl ⟨_, by rw [w.int], of_decide_eq_true g, o3.ret R (.pd (.str _))⟩
  · obtain ⟨v, rfl, w⟩ := one_arg ew l f
    exact .inr ⟨_, by rw [w.str], o2.ret R (.pd (.str _))⟩
  · obtain ⟨v, rfl, w⟩ := one_arg ew l f
    exact ⟨_, by rw [w.int], o2.ret R (.pd (.int _))⟩
  · obtain ⟨v, v2, rfl, w, w2⟩ := two_arg ew l f
    exact ⟨_, _, by rw [w.int, w2.int], o2.ret R (.pd (.int _))⟩
  · obtain ⟨v, v2, rfl, w, w2⟩ := two_arg ew l f
    exact ⟨_, _, by rw [w.int, w2.int], o2.ret R (.pd (.int _))⟩
  · obtain ⟨v, rfl, w⟩ := one_arg ew l f
    obtain ⟨p, us, rfl, hq, r, _⟩ := w.list
    obtain ⟨ks, h0, e0, o3⟩ := o2.bnd
    obtain ⟨g, rfl⟩ := opt_ok e0
    have e := boolsOf_snd g r
    subst e
    exact ⟨p, ks, rfl, hq, o3.ret R (.pd (.bl _))⟩
  · obtain ⟨v, rfl, w⟩ := one_arg ew l f
    obtain ⟨p, us, rfl, hq, r, _⟩ := w.list
    obtain ⟨ks, h0, e0, o3⟩ := o2.bnd
    obtain ⟨g, rfl⟩ := opt_ok e0
    have e := boolsOf_snd g r
    subst e
    exact ⟨p, ks, rfl, hq, o3.ret R (.pd (.bl _))⟩
  · obtain ⟨v, rfl, w⟩ := one_arg ew l f
    obtain ⟨p, us, rfl, hq, r, _⟩ := w.list
    obtain ⟨ks, h0, e0, o3⟩ := o2.bnd
    obtain ⟨g, rfl⟩ := opt_ok e0
    have e := intsOf_snd g r
    subst e
    exact ⟨p, ks, rfl, hq, o3.ret R (.pd (.int _))⟩
  · obtain ⟨v, rfl, w⟩ := one_arg ew l f
    obtain ⟨_, h0, e0, o3⟩ := o2.bnd
    obtain ⟨g, rfl⟩ := grd_ok e0
    have g := of_decide_eq_true g
    obtain ⟨p1, p2⟩ := w.dp
    exact ⟨v, _, rfl, p1, p2, g.1, g.2.1, g.2.2, o3.ret R (.pd (.str _))⟩
  · exact o2.no.elim

/-! ### isinstance -/
def TY.nm : TY → String
  | .int => "int" | .str => "str" | .bool => "bool" | .tuple => "tuple" | .list => "list" | .dict => "dict"
theorem isiT_snd {d : D} {v : V} (w : VW K μ H v d) : ∃ n, TyX K H v (.type n) ∧ ∀ t : TY, kitB n t.nm = some (isiD d t) := by
  cases d with
  | none => rw [w.non]; exact ⟨_, .base .non, fun t => by cases t <;> first | (show kitB _ _ = some true; decide +kernel) | (show kitB _ _ = some false; decide +kernel)⟩
  | bool b => rw [w.bl]; exact ⟨_, .base (.bl b), fun t => by cases t <;> first | (show kitB _ _ = some true; decide +kernel) | (show kitB _ _ = some false; decide +kernel)⟩
  | int i => rw [w.int]; exact ⟨_, .base (.int i), fun t => by cases t <;> first | (show kitB _ _ = some true; decide +kernel) | (show kitB _ _ = some false; decide +kernel)⟩
  | str y => rw [w.str]; exact ⟨_, .base (.str y), fun t => by cases t <;> first | (show kitB _ _ = some true; decide +kernel) | (show kitB _ _ = some false; decide +kernel)⟩
  | list ds =>
    obtain ⟨p, vs, rfl, hq, r, _⟩ := w.list
    refine ⟨"list", ?_, fun t => by cases t <;> first | (show kitB _ _ = some true; decide +kernel) | (show kitB _ _ = some false; decide +kernel)⟩
    rcases hq with (hq | ⟨o, hq⟩) | ⟨o, its, n, hk, hc, _⟩
    · exact .base (.lst hq)
    · exact .base (.frz hq)
    · exact .kList hk hc
  | tuple ds =>
    obtain ⟨p, vs, rfl, hq, r, _⟩ := w.tuple
    refine ⟨"tuple", ?_, fun t => by cases t <;> first | (show kitB _ _ = some true; decide +kernel) | (show kitB _ _ = some false; decide +kernel)⟩
    rcases hq with (hq | ⟨o, hq⟩) | ⟨o, its, n, hk, hc, _⟩
    · exact .base (.tup hq)
    · exact .fTuple hq
    · exact .kTuple hk hc
  | dict _ => exact w.dict.elim
theorem isi2S_snd {a : RV} {t u : TY} {v : V} (R : RH K μ h H) (x : VR K mg μ H v a) (q : Out K mg μ H (isi2S a t u h) Q) : ∀ p, H p = none → rIsiT K [v, .ref p] (upd H p (.tup [.ty t.nm, .ty u.nm])) Q := by
  intro p hp
  obtain ⟨d, h1, e1, o2⟩ := q.bnd
  obtain ⟨rfl, w⟩ := dat_ok R x e1
  obtain ⟨R', E⟩ := R.push (o := .tup [.ty t.nm, .ty u.nm]) hp
  have w' : VW K μ (upd H p (.tup [.ty t.nm, .ty u.nm])) v d := (dat_ok R' (VR.ext E _ _ x) (by
    have := e1
    exact this)).2
  obtain ⟨n, ty, f⟩ := isiT_snd w'
  refine ⟨v, p, _, .type n, [.type t.nm, .type u.nm], isiD d t || isiD d u, rfl, upd_same, .cons (.ty _) (.cons (.ty _) .nil), ty, ?_, (o2.up E).ret R' (.pd (.bl _))⟩
  refine kitAny_cons (kit_ty (f t)) (fun z => ?_) (fun z => by rw [z]; rfl)
  rw [z, Bool.false_or]
  refine kitAny_cons (kit_ty (f u)) (fun z => ?_) (fun z => z)
  rw [z]; rfl
theorem isiS_snd {a : RV} {t : TY} {v : V} (R : RH K μ h H) (x : VR K mg μ H v a) (q : Out K mg μ H (isiS a t h) Q) : rIsi K [v, .ty t.nm] H Q := by
  obtain ⟨d, h1, e1, o2⟩ := q.bnd
  obtain ⟨rfl, w⟩ := dat_ok R x e1
  have fin : ∀ {n : String} {b : Bool}, TyX K H v (.type n) → kitB n t.nm = some b → isiD d t = b → rIsi K [v, .ty t.nm] H Q := fun {n b} ty k e =>
    ⟨v, .ty t.nm, .type n, .type t.nm, b, rfl, .ty _, ty, kit_ty k, by have := o2.ret R (.pd (.bl _)); rw [e] at this; exact this⟩
  cases d with
  | none =>
    have := w.non; subst this
    cases t <;> first | exact fin (b := true) (.base .non) (by decide +kernel) rfl | exact fin (b := false) (.base .non) (by decide +kernel) rfl
  | bool b =>
    have := w.bl; subst this
    cases t <;> first | exact fin (b := true) (.base (.bl b)) (by decide +kernel) rfl | exact fin (b := false) (.base (.bl b)) (by decide +kernel) rfl
  | int i =>
    have := w.int; subst this
    cases t <;> first | exact fin (b := true) (.base (.int i)) (by decide +kernel) rfl | exact fin (b := false) (.base (.int i)) (by decide +kernel) rfl
  | str y =>
    have := w.str; subst this
    cases t <;> first | exact fin (b := true) (.base (.str y)) (by decide +kernel) rfl | exact fin (b := false) (.base (.str y)) (by decide +kernel) rfl
  | list ds =>
    obtain ⟨p, vs, rfl, hq, r, _⟩ := w.list
    have ty : TyX K H (.ref p) (.type "list") := by
      rcases hq with (hq | ⟨o, hq⟩) | ⟨o, its, n, hk, hc, _⟩
      · exact .base (.lst hq)
      · exact .base (.frz hq)
      · exact .kList hk hc
    cases t <;> first | exact fin (b := true) ty (by decide +kernel) rfl | exact fin (b := false) ty (by decide +kernel) rfl
  | tuple ds =>
    obtain ⟨p, vs, rfl, hq, r, _⟩ := w.tuple
    have ty : TyX K H (.ref p) (.type "tuple") := by
      rcases hq with (hq | ⟨o, hq⟩) | ⟨o, its, n, hk, hc, _⟩
      · exact .base (.tup hq)
      · exact .fTuple hq
      · exact .kTuple hk hc
    cases t <;> first | exact fin (b := true) ty (by decide +kernel) rfl | exact fin (b := false) ty (by decide +kernel) rfl
  | dict _ => exact w.dict.elim
end
end AI

set_option Elab.async false
set_option linter.all false
set_option maxRecDepth 100000
set_option maxHeartbeats 4000000
/-! AiMt: methods of lists, tuples and texts by what the receiver is; the stores into lists. -/
namespace AI
open PySem L2 SeqAt
def RK.nm : RK → String
  | .list => "list" | .tuple => "tuple" | .str => "str"
def MT.nm : MT → Str
  | .append => "append" | .extend => "extend" | .pop => "pop" | .popAt => "pop" | .index => "index" | .join => "join" | .split => "split" | .words => "split" | .startswith => "startswith"
/-- the receiver -/
def TyK (K : PySem.W.Frag) (k : RK) (x : V) (H : Hp) : Prop := match k with
  | .list => ∃ a vs, x = .ref a ∧ SqL K H a vs
  | .tuple => ∃ a, x = .ref a ∧ ((∃ vs, TupAt H a vs) ∨ ∃ o, K.lookup a = some o ∧ o.cls = .type "tuple" ∧ o.dict = none)
  | .str => ∃ y, x = .str y
section
variable {X : Cx} {pins : List (Addr × Obj)} {σ : L2.St} {H : Hp} {s : Shared}
theorem TyK.is {k : RK} {x : V} {v : Value} (I : Inv X pins σ H s) (r : RelV x v) (ty : TyK X.K k x H) : s.TypeIs v k.nm ∧ ∀ a, v = .ref a → ∃ ob, s.heap.get? a = some ob ∧ ob.dict = none := by
  cases k with
  | list =>
    obtain ⟨a, vs, rfl, q⟩ := ty
    exact tyV_is I r (show tyV X.K "list" (.ref a) H from .inl ⟨rfl, vs, q⟩)
  | str =>
    obtain ⟨y, rfl⟩ := ty
    exact tyV_is I r (show tyV X.K "str" (.str y) H from rfl)
  | tuple =>
    obtain ⟨a, rfl, q | ⟨o, q1, q2, q3⟩⟩ := ty
    · obtain ⟨vs, o, h, d⟩ := q
      cases r
      obtain ⟨e, z, its, r2, ob, e2, c, _⟩ := I.hok a _ h
      rw [e] at e2; cases e2
      exact ⟨⟨o, e, c⟩, fun b eb => by cases eb; exact ⟨o, e, d⟩⟩
    · exact tyV_is I r (show tyV X.K "tuple" (.ref a) H from .inr (.inl ⟨rfl, o, q1, q2, q3⟩))
/-- the place of an equal item -/
def rIndexP (K : PySem.W.Frag) (l : Bool) : V → List V → Hp → VK → Prop := fun x xs H Q => ∃ a y d ds vs j, x = .ref a ∧ xs = [y] ∧ (if l = true then SqL K H a vs else SqT K H a vs) ∧ DpAll K H vs ds ∧ plns ds = true ∧ Dp K H y d ∧ pln d = true ∧
  d.depth ≤ 64 ∧ firstAt ds d = some j ∧ Q (.int (j : Nat)) H
theorem first_of {ds : List D} {d : D} {j : Nat} (e : firstAt ds d = some j) : ∃ z, ds[j]? = some z ∧ PyData.eqv z d = true ∧ ∀ m z', m < j → ds[m]? = some z' → PyData.eqv z' d = false := by
  unfold firstAt at e
  rw [List.findIdx?_eq_some_iff_getElem] at e
  obtain ⟨h, e1, e2⟩ := e
  refine ⟨ds[j], List.getElem?_eq_getElem h, e1, fun m z' hm hz => ?_⟩
  obtain ⟨hm', e'⟩ := List.getElem?_eq_some_iff.mp hz
  have := e2 m hm
  rw [e'] at this
  simpa using this
theorem places {s : Shared} {d : D} {ds : List D} {its : List Value} {as : List Addr} {j : Nat} (ra : ReadsAll s.heap its ds as) (pd : plns ds = true) (e : firstAt ds d = some j) :
    ∃ hj : j < its.toArray.size, isD s d its.toArray[j] = true ∧ ∀ m (hm : m < its.toArray.size), m < j → isD s d its.toArray[m] = false := by
  obtain ⟨z, e1, e2, e3⟩ := first_of e
  have hl := ReadsAll.length _ _ _ ra
  have aux : ∀ (ds : List D) (its : List Value) (as : List Addr) (m : Nat) (z : D) (hm : m < its.length), ReadsAll s.heap its ds as → plns ds = true → ds[m]? = some z → isD s d its[m] = PyData.eqv z d := by
    intro ds
    induction ds with
    | nil => intro its as m z hm r p e; simp at e
    | cons c ds ih =>
      intro its as m z hm r p e
      simp only [plns, Bool.and_eq_true] at p
      cases r with
      | cons r1 r2 =>
        cases m with
        | zero => simp at e; subst e; exact isD_of r1 p.1
        | succ m => exact ih _ _ m z (by simpa using hm) r2 p.2 (by simpa using e)
  have hj : j < its.length := by rw [hl]; exact (List.getElem?_eq_some_iff.mp e1).1
  refine ⟨by simpa using hj, ?_, fun m hm hmj => ?_⟩
  · have := aux ds its as j z hj ra pd e1
    simp only [List.getElem_toArray]
    rw [this]; exact e2
  · have hm' : m < its.length := by simpa using hm
    have hz : ds[m]? = some ds[m] := List.getElem?_eq_getElem (by omega)
    have := aux ds its as m _ hm' ra pd hz
    simp only [List.getElem_toArray]
    rw [this]; exact e3 m _ hmj hz
theorem mt_indexP (hu : X.A.units + 70 < cLine) : MtR X "list.index" (rIndexP X.K true) := by
  intro pins s σ H x xs v us Q I rx rxs ⟨a, y, d, ds, vs, j, ex, exs, hq, ha, pds, hy, pd, hd, hf, q⟩
  subst ex exs
  cases rx
  have hq : SqL X.K H a vs := hq
  obtain ⟨uy, rfl, ry⟩ := vals1 rxs
  obtain ⟨bs, rv⟩ := Dp.reads I d y uy hy ry
  obtain ⟨its, rr, ⟨⟨cls, dd, dt, sl⟩, n, ho, hc, hdn, hdt⟩, hz⟩ := I.list hq
  simp only at hc hdt
  subst hc hdt
  obtain ⟨as, ra⟩ := Dp.readsAll I ds vs its ha rr
  have un : X.A.in1.units + d.depth < cLine := by show X.A.units + 1 + d.depth < cLine; omega
  obtain ⟨hj, p1, p2⟩ := places ra pds hf
  have hl := rr.length
  have hsl := sizeLine_eq
  have hj' : j < its.length := by simpa using hj
  exact call_meets PySem.F.slot_list_index ⟨_, ho, rfl⟩ PySem.F.entry_list_index (PySem.F.args_list_index_2 _ _) (list_indexAt a its.toArray n dd sl uy (isD s d) j hj (by omega) p1 p2)
    ⟨ho, fun w hw => eqAt_isD rv pd un ra pds w (by simpa using hw), ⟨.int (j : Nat), H, I.tok _, ⟨_, rfl⟩, q⟩⟩
theorem mt_indexQ (hu : X.A.units + 70 < cLine) : MtR X "tuple.index" (rIndexP X.K false) := by
  intro pins s σ H x xs v us Q I rx rxs ⟨a, y, d, ds, vs, j, ex, exs, hq, ha, pds, hy, pd, hd, hf, q⟩
  subst ex exs
  cases rx
  have hq : SqT X.K H a vs := hq
  obtain ⟨uy, rfl, ry⟩ := vals1 rxs
  obtain ⟨bs, rv⟩ := Dp.reads I d y uy hy ry
  obtain ⟨its, rr, ⟨⟨cls, dd, dt, sl⟩, ho, hc, n, hdt⟩, hz⟩ := I.tuple hq
  simp only at hc hdt
  subst hc hdt
  obtain ⟨as, ra⟩ := Dp.readsAll I ds vs its ha rr
  have un : X.A.in1.units + d.depth < cLine := by show X.A.units + 1 + d.depth < cLine; omega
  obtain ⟨hj, p1, p2⟩ := places ra pds hf
  exact call_meets PySem.F.slot_tuple_index ⟨_, ho, rfl⟩ PySem.F.entry_tuple_index (PySem.F.args_tuple_index_2 _ _) (TI.tuple_indexAt a its.toArray n dd sl uy (isD s d) j hj p1 p2)
    ⟨ho, fun w hw => eqAt_isD rv pd un ra pds w (by simpa using hw), ⟨.int (j : Nat), H, I.tok _, ⟨_, rfl⟩, q⟩⟩
end
end AI

set_option Elab.async false
set_option linter.all false
set_option maxRecDepth 100000
set_option maxHeartbeats 4000000
/-! AiGd: promises of defs where no repr is under way (A.guards = some []). -/
namespace AI
open PySem PySem.Spec PyProof.Rows L2
structure FnG (P : Program) (w : World) (K : PySem.W.Frag) (mg : Str → Option Value) (base : Heap) (k : Nat) (f : Addr) (fd : FuncData) (ps : List Str) (sp : Sp) : Prop where
  len : ∀ vs H Q E, sp vs H Q E → vs.length = ps.length
  run : ∀ (A : Around) (fs : List Env) (s : Shared) (H : Hp) (as : Args) (us : List Value) (vs : List V) (Q : VK) (E : XK), A.guards = some [] → Room k A → Env0 P w K mg base A fs s H → BindsTo s fd as (ps.zip us) → Vals vs us → sp vs H Q E → codeAny (model P w) A (.call (.ref f) as) (CR CX0 fs P w H s Q E) s
section
variable {X : Cx} {f : Addr} {fd : FuncData} {ps : List Str} {k : Nat} {sp : Sp} {t : TA} {e : Expr} {es : List Expr} {x : Str} {p pos : Pos}
theorem run_g {pins : List (Addr × Obj)} {σ : L2.St} {H : Hp} {s : Shared} {Q : VK} {us : List Value} {vs : List V} (F : FnG X.prog X.w X.K X.mg X.base k f fd ps sp) (gd : X.A.guards = some []) (rm : Room k X.A) (bd : Binds X.K fd ps []) (I : Inv X pins σ H s) (r : Vals vs us) (z : sp vs H Q E0) :
    wpAny (model X.prog X.w) X.A (call (.ref f) us) (EP X pins σ Q) X.xe s := by
  have hl : (us ++ []).length = ps.length := by rw [List.append_nil, ← r.length]; exact F.len _ _ _ _ z
  have b := bd s us I.kIn hl
  rw [List.append_nil] at b
  refine wpAny_call (codeAny_mono (F.run X.A X.stack s H ⟨us, []⟩ us vs Q E0 gd rm I.env0 b r z) fun r s' hq => ?_)
  cases r with
  | error _ => exact hq.elim
  | ok fl =>
    cases fl with
    | ret u => exact I.after hq
    | next => exact hq.elim
    | brk => exact hq.elim
    | cont => exact hq.elim
theorem pe_g (F : FnG X.prog X.w X.K X.mg X.base k f fd ps sp) (gd : X.A.guards = some []) (rm : Room k X.A) (hg : Gl X x) (hm : X.mg x = some (.ref f)) (hk : PySem.W.keepIn X.K (.ref f) = true) (bd : Binds X.K fd ps []) (ha : PA X (e :: es) t) (hdb : (x == ("__debug__" : Str)) = false)
    (he : starEach (e :: es) X.env = (false, eval e X.env) :: starEach es X.env) (hpl : (backTo pos (starEach es X.env)).any (·.1) = false) : PE X (.Call (.Name x p) (e :: es) [] pos) (fun σ H Q => t σ H fun vs H1 => sp vs H1 Q E0) :=
  ⟨fun pins s σ H Q I h => wpAny_Call_Name_kw (ld_glob I hg hm (PySem.W.callWith_K (h₀ := X.base) I.ok.mod.kin hk (thn (ha.run pos pins s σ H _ I h) fun us s1 ⟨vs, H1, I1, r, q⟩ => ⟨I1.kIn, run_g F gd rm bd I1 r q⟩) he hpl) hdb)⟩
theorem pe_g0 (F : FnG X.prog X.w X.K X.mg X.base k f fd ps sp) (gd : X.A.guards = some []) (rm : Room k X.A) (hg : Gl X x) (hm : X.mg x = some (.ref f)) (hk : PySem.W.keepIn X.K (.ref f) = true) (bd : Binds X.K fd ps []) (hdb : (x == ("__debug__" : Str)) = false) :
    PE X (.Call (.Name x p) [] [] pos) (fun σ H Q => sp [] H Q E0) :=
  ⟨fun pins s σ H Q I h => wpAny_Call_Name_kw (ld_glob I hg hm (PySem.W.callWith_K0 I.kIn hk (run_g (us := []) F gd rm bd I .nil h)) hdb)⟩
end
section
variable {P : Program} {w : World} {K : PySem.W.Frag} {mg : Str → Option Value} {base : Heap} {x qual : Str} {params : Arguments} {body : List Stmt} {scope : Scope} {dvs : List V} {kws : List (Str × V)} {f : Addr} {fd : FuncData}
/-- a def by its body -/
theorem fn_g {N ps : List Str} {k : Nat} {sp : Sp} (F : FunD K x qual params body scope dvs kws f fd) (S : FnScope N ps scope) (len : ∀ vs H Q E, sp vs H Q E → vs.length = ps.length)
    (hb : ∀ (cd : Value) (A : Around) (fs : List Env) (s : Shared) (H : Hp) (vs : List V) (Q : VK) (E : XK), A.guards = some [] → Room k (A.deeper (envOfC qual scope s.heap.objs.size f cd)) → sp vs H Q E →
      ∃ t, PSs (cxOf CX0 P w K mg base N qual scope f cd A fs s H E) body t ∧ t { nx := fun _ H' => Q .non H', rt := Q } (start N vs) H) : FnG P w K mg base (k + 1) f fd ps sp := by
  obtain ⟨oc, od, dV, kV, doc, pm, an, cd, ct, osl, rfl, lk, hcd, _, _⟩ := F.ex
  refine ⟨len, fun A fs s H as us vs Q E gd rm e0 bd rv z => ?_⟩
  have KX : K.In s.heap := e0.mod.kin.keeps fun b o q => (e0.bs b o q).1
  have lim : s.heap.NoLimit := e0.mod.nolimit.keeps fun b o q => (e0.bs b o q).1
  refine codeAny_call_function rm.depth (KX _ _ lk) rfl S.co S.gen rfl (PySem.W.codeRec_of KX hcd) (bd _ _ _ _ (wpAny_newFunctionEnv_cells S.kind (fun y hy => ?_) fun env he s1 nw => ?_))
  · rcases S.par y.1 (List.of_mem_zip hy).1 with q | q
    · exact .inl q
    · exact .inr ⟨q, PySem.W.cellsFrom_some _ _ _ (.inl q)⟩
  subst he
  obtain ⟨t, ht, hq⟩ := hb cd A fs s H vs Q E gd (rm.deeper _) z
  have I := inv_start (CX := CX0) (P := P) (E := E) S rm.hd e0 (len _ _ _ _ z) rv nw
  refine ⟨lim.keeps nw.toInCall.keep, codeAny_func (wpAny_mono (ht.run [] s1 (start N vs) H _ I hq) (fun fl s' e => ?_) fun _ _ e => e)⟩
  cases fl with
  | ret u =>
    obtain ⟨v, σ', H', J, rv, q⟩ := e
    exact ⟨v, H', J.os, J.bare, J.base, J.hok, rv, q⟩
  | next =>
    obtain ⟨σ', H', J, q⟩ := e
    exact ⟨V.non, H', J.os, J.bare, J.base, J.hok, rfl, q⟩
  | brk =>
    obtain ⟨_, _, _, q⟩ := e
    exact q.elim
  | cont =>
    obtain ⟨_, _, _, q⟩ := e
    exact q.elim
end
end AI

set_option Elab.async false
set_option linter.all false
set_option maxRecDepth 100000
set_option maxHeartbeats 4000000
/-! AiGe: the law's call over such a promise. -/
namespace AI
open PySem PySem.Spec PyProof.Rows L2
/-- the script's object, as it is tracked (or nothing, if the module has it) -/
def hpOf (K : PySem.W.Frag) (a : Addr) (vs : List Value) (ns : List Int) : Hp := fun b => if b = a ∧ K.lookup a = none then some (.frz { cls := .type "list", data := .seq vs.toArray } (.lst (ns.map V.int))) else none
section
variable {K : PySem.W.Frag} {a : Addr} {vs : List Value} {ns : List Int}
theorem hpOf_some {b : Addr} {o : HO} (e : hpOf K a vs ns b = some o) : b = a ∧ K.lookup a = none ∧ o = .frz { cls := .type "list", data := .seq vs.toArray } (.lst (ns.map V.int)) := by
  unfold hpOf at e
  by_cases c : b = a ∧ K.lookup a = none
  · rw [if_pos c] at e
    exact ⟨c.1, c.2, (Option.some.inj e).symm⟩
  · rw [if_neg c] at e; cases e
theorem law_g {P : Program} {w : World} {mg mb : Str → Option Value} {k : Nat} {fa : Addr} {fd : FuncData} {x : Str} {sp : Sp} {s : Shared} (KX : K.In s.heap) (hn : s.heap.Ns mainGlobals mg) (hb : s.heap.Ns builtinsNs mb) (hbb : ∀ x : Str, x ≠ "__name__" → mb x = bootBuiltins x) (lim : s.heap.NoLimit) (hg : s.gens = #[])
    (ha : s.heap.get? a = some { cls := .type "list", data := .seq vs.toArray }) (hi : IntsAre vs ns) (hl : ns.length ≤ sizeLine) (rm : Room k callerA) (F : ∀ base : Heap, K.In base → base.Ns mainGlobals mg → FnG P w K mg base k fa fd [x] sp) (hbind : ∀ (s : Shared) (u : Value), BindsTo s fd ⟨[u], []⟩ [(x, u)])
    (hsp : ∀ H : Hp, Only H → SqL K H a (ns.map V.int) → sp [.ref a] H (fun v _ => v = .bl true) E0) :
    codeAny (model P w) callerA (.call (.ref fa) ⟨[.ref a], []⟩) (fun r s' => r = .ok (.ret (.bool true)) ∧ OldK s.heap s'.heap ∧ s'.os = s.os ∧ AllBare s'.gens) s := by
  have rv := vals_ints hi
  have lv := hi.length
  let H := hpOf K a vs ns
  have one : ∀ {b : Addr} {o : HO}, H b = some o → b = a ∧ K.lookup a = none ∧ o = .frz { cls := .type "list", data := .seq vs.toArray } (.lst (ns.map V.int)) := hpOf_some
  have cases_ : ∀ b, H b = none ∨ ∃ o, H b = some o := fun b => by cases q : H b with
    | none => exact .inl rfl
    | some o => exact .inr ⟨o, rfl⟩
  have only : Only H := fun b => (cases_ b).imp id fun ⟨o, q⟩ => ⟨_, _, q.trans (congrArg some (one q).2.2)⟩
  have sq : SqL K H a (ns.map V.int) := by
    cases q : K.lookup a with
    | none => exact .inl (.inr ⟨_, if_pos ⟨rfl, q⟩⟩)
    | some o =>
      have e := KX a o q
      rw [ha] at e
      cases e
      exact .inr ⟨_, vs.toArray, _, q, rfl, rfl, rfl, by rw [List.size_toArray, lv]; exact hl, by simpa using rv⟩
  have ok : HOk P w H s.heap := fun b o q => by
    obtain ⟨rfl, _, rfl⟩ := one q
    exact ⟨ha, by rw [List.length_map]; exact hl, vs, _, rv, ha⟩
  have below : ∀ {b : Addr} {o : Obj}, s.heap.get? b = some o → H b = none → (hidT s.heap H).get? b = some o := fun e n => hidT_get e n
  have noD : ∀ {b : Addr} {o : Obj} {es : Array DictEntry} {ep : Nat}, s.heap.get? b = some o → o.data = .dict es ep → H b = none := fun {b o es ep} e d => (cases_ b).elim id fun ⟨u, q⟩ => by
    obtain ⟨rfl, _⟩ := one q
    rw [ha] at e
    cases e
    exact nomatch (show Data.seq vs.toArray _ = Data.dict es ep from d)
  have nsOf : ∀ {b : Addr} {m : Str → Option Value}, s.heap.Ns b m → (hidT s.heap H).Ns b m := fun {b m} ⟨o, es, ep, e, d, r⟩ => ⟨o, es, ep, below e (noD e d), d, r⟩
  have KB : K.In (hidT s.heap H) := fun b o e => below (KX b o e) ((cases_ b).elim id fun ⟨u, q⟩ => by
    obtain ⟨rfl, n, _⟩ := one q
    rw [n] at e; cases e)
  have md : Mod K mg (hidT s.heap H) := ⟨KB, nsOf hn, ⟨mb, nsOf hb, hbb⟩, let ⟨mc, h1, h2⟩ := lim; ⟨mc, nsOf h1, h2⟩⟩
  have env : Env0 P w K mg (hidT s.heap H) callerA [] s H := ⟨rfl, md, fun b o e => of_hidT e, Nat.le_of_eq (hidT_size _ _), trivial, fun b z => (by cases z), ok, .of_eq hg⟩
  refine codeAny_mono ((F _ KB (nsOf hn)).run callerA [] s H ⟨[.ref a], []⟩ [.ref a] [.ref a] _ E0 rfl rm env (hbind s (.ref a)) (.cons rfl .nil) (hsp H only sq)) fun r s' z => ?_
  cases r with
  | error _ => exact z.elim
  | ok fl =>
    cases fl with
    | next => exact z.elim
    | brk => exact z.elim
    | cont => exact z.elim
    | ret u =>
      obtain ⟨v, H', os, bare, un, ok', ru, qv⟩ := z
      subst qv
      obtain rfl : u = Value.bool true := ru
      refine ⟨rfl, OldK.of_keep fun b o e => ?_, os, bare⟩
      rcases cases_ b with q | ⟨u, q⟩
      · exact un.keep b o e q (by intro z; cases z) (by simp)
      · obtain ⟨rfl, n, rfl⟩ := one q
        obtain ⟨g, _⟩ := ok' b _ (un.frzs b _ _ q)
        rw [e] at ha
        cases ha
        exact g
end
theorem walk_g {l : PySem.W.OpenLaw} {n k : Nat} {q : Program} {loose : List Str} {XP : (Str → Option Value) → Heap → Prop} {YP : World → Heap → Prop} {d : DefRec} {x : Str} (hn : l.most = some n) (hn2 : n ≤ sizeLine) (hdf : d.params.defaults = []) (rm : Room k callerA)
    (F : ∀ (w : World) (mg : Str → Option Value) (fa : Addr) (h : Heap), YP w h → h.Ns mainGlobals mg → mg d.name = some (.ref fa) → ∃ (K : PySem.W.Frag) (fd : FuncData) (sp : Sp), K.In h ∧ (∀ (s : Shared) (u : Value), BindsTo s fd ⟨[u], []⟩ [(x, u)]) ∧
      (∀ (H : Hp) (a : Addr) (ns : List Int), ns.length ≤ n → Only H → SqL K H a (ns.map V.int) → sp [.ref a] H (fun v _ => v = .bl true) E0) ∧ ∀ base : Heap, K.In base → base.Ns mainGlobals mg → FnG l.prog w K mg base k fa fd [x] sp) :
    PySem.W.WalkO q loose XP YP l.row.toRowW d [] (fun f vs => PySem.call f vs) := by
  refine Att.attach_call hn hdf fun w s0 s1 mg mb fa o pm cd doc a vs ns G Y ho hd hcd hmg hobj hints hlen hg => ?_
  obtain ⟨K, fd, sp, KX, bd, hsp, hF⟩ := F w mg fa _ Y G.T.g hmg
  exact law_g KX G.T.g G.T.b G.T.builtins G.T.nolimit hg hobj hints (Nat.le_trans hlen hn2) rm hF bd fun H hO hS => hsp H a ns hlen hO hS
end AI

set_option Elab.async false
set_option linter.all false
set_option maxRecDepth 100000
set_option maxHeartbeats 4000000
/-! AiPE: each form of an expression reads as its plain run. -/
namespace AI
open PySem L2 SeqAt
section
variable {X : Cx} {K : PySem.W.Frag} {mg : Str → Option Value} {T : TT} {bx : Bool}

theorem PEimp {e : Expr} {t t' : TE} (p : PE X e t) (f : ∀ σ H Q, t' σ H Q → t σ H Q) : PE X e t' := ⟨fun pins s σ H Q I h => p.run pins s σ H Q I (f σ H Q h)⟩
theorem PTimp {e : Expr} {t t' : L2.TT} (p : PT X e t) (f : ∀ σ H Q, t' σ H Q → t σ H Q) : PT X e t' := ⟨fun pins s σ H Q I h => p.run pins s σ H Q I (f σ H Q h)⟩
theorem PWimp {e : Expr} {t t' : L2.TT} (p : PW X e t) (f : ∀ σ H Q, t' σ H Q → t σ H Q) : PW X e t' := ⟨fun w pins s σ H Q I h => p.run w pins s σ H Q I (f σ H Q h)⟩
theorem PAimp {es : List Expr} {t t' : TA} (p : PA X es t) (f : ∀ σ H Q, t' σ H Q → t σ H Q) : PA X es t' := ⟨fun pos pins s σ H Q I h => p.run pos pins s σ H Q I (f σ H Q h)⟩
theorem PGimp {e : Expr} {t t' : TG} (p : PG X e t) (f : ∀ v σ H Q, t' v σ H Q → t v σ H Q) : PG X e t' := ⟨fun pins s σ H v u Q I r h => p.run pins s σ H v u Q I r (f v σ H Q h)⟩
theorem PGsimp {es : List Expr} {t t' : TGs} (p : PGs X es t) (f : ∀ v σ H Q, t' v σ H Q → t v σ H Q) : PGs X es t' := ⟨fun pins s σ H v u Q I r h => p.run pins s σ H v u Q I r (f v σ H Q h)⟩
theorem PIimp {tg e : Expr} {t t' : TI} (p : PI X tg e t) (f : ∀ σ H Q, t' σ H Q → t σ H Q) : PI X tg e t' := ⟨fun pins s σ H R I h => p.run pins s σ H R I (f σ H R h)⟩
theorem PSimp {st : Stmt} {t t' : TS} (p : PS X st t) (f : ∀ D σ H, t' D σ H → t D σ H) : PS X st t' := ⟨fun pins s σ H D I h => p.run pins s σ H D I (f D σ H h)⟩
theorem PSsimp {st : List Stmt} {t t' : TS} (p : PSs X st t) (f : ∀ D σ H, t' D σ H → t D σ H) : PSs X st t' := ⟨fun pins s σ H D I h => p.run pins s σ H D I (f D σ H h)⟩

/-- the slots -/
structure SR (K : PySem.W.Frag) (mg : Str → Option Value) (μ : List Addr) (H : Hp) (σ : L2.St) (σ' : Sl) : Prop where
  len : σ.length = σ'.length
  get : ∀ (i : Nat) (r : RV), σ'[i]? = some (some r) → ∃ v, σ[i]? = some (some v) ∧ VR K mg μ H v r
theorem SR.ext {μ μ' : List Addr} {H H' : Hp} {σ : L2.St} {σ' : Sl} (e : Ext μ H μ' H') (s : SR K mg μ H σ σ') : SR K mg μ' H' σ σ' :=
  ⟨s.len, fun i r q => let ⟨v, a, b⟩ := s.get i r q; ⟨v, a, VR.ext e _ _ b⟩⟩
theorem SR.set {μ : List Addr} {H : Hp} {σ : L2.St} {σ' : Sl} (s : SR K mg μ H σ σ') {v : V} {r : RV} (x : VR K mg μ H v r) (i : Nat) : SR K mg μ H (σ.set i (some v)) (σ'.set i (some r)) := by
  refine ⟨by simp [s.len], fun j q e => ?_⟩
  by_cases h : i = j
  · subst h
    by_cases z : i < σ'.length
    · rw [List.getElem?_set_self z] at e
      cases e
      exact ⟨v, List.getElem?_set_self (by rw [s.len]; exact z), x⟩
    · rw [List.getElem?_eq_none (by simpa using Nat.le_of_not_lt z)] at e; cases e
  · rw [List.getElem?_set_ne h] at e ⊢
    exact s.get j q e
theorem SR.wipe {μ : List Addr} {H : Hp} {σ : L2.St} {σ' : Sl} (s : SR K mg μ H σ σ') : ∀ vs : List Nat, SR K mg μ H (L2.wipe σ vs) (wipeS σ' vs)
  | [] => s
  | v :: vs => by
    have ih := SR.wipe s vs
    refine ⟨by simp [L2.wipe, wipeS, ih.len], fun j q e => ?_⟩
    simp only [L2.wipe, wipeS] at e ⊢
    by_cases h : v = j
    · subst h
      by_cases z : v < (wipeS σ' vs).length
      · rw [List.getElem?_set_self z] at e; cases e
      · rw [List.getElem?_eq_none (by simpa using Nat.le_of_not_lt z)] at e; cases e
    · rw [List.getElem?_set_ne h] at e ⊢
      exact ih.get j q e
/-- an expression's reading -/
def rdE (K : PySem.W.Frag) (mg : Str → Option Value) (T : TT) (bx : Bool) (e : E) : TE := fun σ H Q => ∃ σ' μ h, SR K mg μ H σ σ' ∧ RH K μ h H ∧ Out K mg μ H (ev T σ' bx e h) Q
def OutL (K : PySem.W.Frag) (mg : Str → Option Value) (μ : List Addr) (H : Hp) (res : Res (List RV)) (Q : List V → Hp → Prop) : Prop := match res with
  | .ok r h' => ∀ v μ' H', RH K μ' h' H' → Ext μ H μ' H' → VRs K mg μ' H' v r → Q v H'
  | _ => False
def rdA (K : PySem.W.Frag) (mg : Str → Option Value) (T : TT) (es : List E) : TA := fun σ H Q => ∃ σ' μ h, SR K mg μ H σ σ' ∧ RH K μ h H ∧ OutL K mg μ H (evs T σ' es h) Q
def OutB (K : PySem.W.Frag) (μ : List Addr) (H : Hp) (res : Res Bool) (Q : Bool → Hp → Prop) : Prop := match res with
  | .ok r h' => ∀ μ' H', RH K μ' h' H' → Ext μ H μ' H' → Q r H'
  | _ => False
def rdC (K : PySem.W.Frag) (mg : Str → Option Value) (T : TT) (c : C) : L2.TT := fun σ H Q => ∃ σ' μ h, SR K mg μ H σ σ' ∧ RH K μ h H ∧ OutB K μ H (evC T σ' c h) Q
end
end AI

set_option Elab.async false
set_option linter.all false
set_option maxRecDepth 100000
set_option maxHeartbeats 4000000
/-! AiPE2: the forms of expressions. -/
namespace AI
open PySem L2 SeqAt
section
variable {K : PySem.W.Frag} {mg : Str → Option Value} {μ μ' : List Addr} {H H' : Hp} {h h' : Boxes}
theorem Out.of {res : Res RV} {r : RV} {Q : VK} (e : res = .ok r h') (f : ∀ v μ' H', RH K μ' h' H' → Ext μ H μ' H' → VR K mg μ' H' v r → Q v H') : Out K mg μ H res Q := by
  rw [e]; exact f
theorem OutL.of {res : Res (List RV)} {r : List RV} {Q : List V → Hp → Prop} (e : res = .ok r h') (f : ∀ v μ' H', RH K μ' h' H' → Ext μ H μ' H' → VRs K mg μ' H' v r → Q v H') : OutL K mg μ H res Q := by
  rw [e]; exact f
theorem OutB.of {res : Res Bool} {r : Bool} {Q : Bool → Hp → Prop} (e : res = .ok r h') (f : ∀ μ' H', RH K μ' h' H' → Ext μ H μ' H' → Q r H') : OutB K μ H res Q := by
  rw [e]; exact f
theorem Out.inv {res : Res RV} {Q : VK} (o : Out K mg μ H res Q) : ∃ r h', res = .ok r h' := by
  cases res with
  | ok r h' => exact ⟨r, h', rfl⟩
  | ex _ _ => exact o.elim
  | no => exact o.elim
theorem OutL.bnd {α : Type} {m : M α} {f : α → M (List RV)} {Q : List V → Hp → Prop} (o : OutL K mg μ H (M.bnd m f h) Q) : ∃ a h1, m h = .ok a h1 ∧ OutL K mg μ H (f a h1) Q := by
  unfold M.bnd at o
  cases e : m h with
  | ok a h1 => rw [e] at o; exact ⟨a, h1, rfl, o⟩
  | ex x h1 => rw [e] at o; exact o.elim
  | no => rw [e] at o; exact o.elim
theorem OutB.bnd {α : Type} {m : M α} {f : α → M Bool} {Q : Bool → Hp → Prop} (o : OutB K μ H (M.bnd m f h) Q) : ∃ a h1, m h = .ok a h1 ∧ OutB K μ H (f a h1) Q := by
  unfold M.bnd at o
  cases e : m h with
  | ok a h1 => rw [e] at o; exact ⟨a, h1, rfl, o⟩
  | ex x h1 => rw [e] at o; exact o.elim
  | no => rw [e] at o; exact o.elim
theorem OutL.up {res : Res (List RV)} {Q : List V → Hp → Prop} (e : Ext μ H μ' H') (o : OutL K mg μ H res Q) : OutL K mg μ' H' res Q := by
  cases res with
  | ok r h' => exact fun v μ2 H2 a b c => o v μ2 H2 a (e.trans b) c
  | ex _ _ => exact o
  | no => exact o
theorem OutB.up {res : Res Bool} {Q : Bool → Hp → Prop} (e : Ext μ H μ' H') (o : OutB K μ H res Q) : OutB K μ' H' res Q := by
  cases res with
  | ok r h' => exact fun μ2 H2 a b => o μ2 H2 a (e.trans b)
  | ex _ _ => exact o
  | no => exact o
theorem OutL.inv {res : Res (List RV)} {Q : List V → Hp → Prop} (o : OutL K mg μ H res Q) : ∃ r h', res = .ok r h' := by
  cases res with
  | ok r h' => exact ⟨r, h', rfl⟩
  | ex _ _ => exact o.elim
  | no => exact o.elim
theorem OutB.inv {res : Res Bool} {Q : Bool → Hp → Prop} (o : OutB K μ H res Q) : ∃ r h', res = .ok r h' := by
  cases res with
  | ok r h' => exact ⟨r, h', rfl⟩
  | ex _ _ => exact o.elim
  | no => exact o.elim
end

section
variable {X : Cx} {T : TT} {bx : Bool} {a b c : Expr} {x y z : E} {pos : Pos}
abbrev pE (X : Cx) (T : TT) (e : Expr) (ê : E) : Prop := ∀ bx, PE X e (rdE X.K X.mg T bx ê)
abbrev pA (X : Cx) (T : TT) (es : List Expr) (ê : List E) : Prop := PA X es (rdA X.K X.mg T ê)
theorem p_var {i : Nat} {n : Str} (hN : X.N[i]? = some n) (hv : Vis X.env.scope n) (hd : (n == ("__debug__" : Str)) = false) (hcd : (n == ("__classdict__" : Str)) = false) : pE X T (.Name n pos) (.var i) := fun bx =>
  PEimp (pe_var hN hv hd hcd) fun σ H Q ⟨σ', μ, h, S, R, o⟩ => by
    simp only [ev, getV] at o
    cases q : σ'[i]? with
    | none => rw [q] at o; exact o.elim
    | some w =>
      cases w with
      | none => rw [q] at o; exact o.elim
      | some r =>
        rw [q] at o
        obtain ⟨v, e1, x1⟩ := S.get i r q
        exact ⟨v, e1, Out.ret o R x1⟩
theorem p_cst {d : D} {v : V} (hp : PE X a (tC v)) (hd : ∀ μ H, VD X.K μ H v d) : pE X T a (.cst d) := fun bx =>
  PEimp hp fun σ H Q ⟨σ', μ, h, S, R, o⟩ => by
    simp only [ev] at o
    exact Out.ret o R (.pd (hd μ H))
theorem p_glob {n : Str} {d : D} {v : V} (hp : PE X a (tC v)) (ht : T.cst n = some d) (hd : ∀ μ H, VD X.K μ H v d) : pE X T a (.glob n) := fun bx =>
  PEimp hp fun σ H Q ⟨σ', μ, h, S, R, o⟩ => by
    simp only [ev, ht] at o
    exact Out.ret o R (.pd (hd μ H))
theorem p_fn {n : Str} {f : Addr} (hg : Gl X n) (hm : X.mg n = some (.ref f)) (hd : (n == ("__debug__" : Str)) = false) : pE X T (.Name n pos) (.fn n) := fun bx =>
  PEimp (pe_glob hg hm (v := .ref f) rfl hd) fun σ H Q ⟨σ', μ, h, S, R, o⟩ => by
    simp only [ev] at o
    split at o
    · exact Out.ret o R (.gl hm)
    · exact o.elim
theorem p_nil : pA X T [] [] := PAimp pa_nil fun σ H Q ⟨σ', μ, h, S, R, o⟩ => by
  simp only [evs] at o
  exact o _ _ _ R .refl .nil
theorem p_cons {es : List Expr} {xs : List E} (ha : pE X T a x) (hr : pA X T es xs) (hs : starEach (a :: es) X.env = (false, eval a X.env) :: starEach es X.env) : pA X T (a :: es) (x :: xs) :=
  PAimp (pa_cons (ha false) hr hs) fun σ H Q ⟨σ', μ, h, S, R, o⟩ => by
    simp only [evs] at o
    obtain ⟨r, h1, e1, o1⟩ := o.bnd
    refine ⟨σ', μ, h, S, R, Out.of e1 fun v μ1 H1 R1 E1 x1 => ?_⟩
    obtain ⟨r2, h2, e2, o2⟩ := (o1.up E1).bnd
    refine ⟨σ', μ1, h1, S.ext E1, R1, OutL.of e2 fun v2 μ2 H2 R2 E2 x2 => ?_⟩
    exact o2 _ _ _ R2 E2 (.cons (VR.ext E2 _ _ x1) x2)
theorem p_tup {es : List Expr} {xs : List E} {k : Nat} (h : pA X T es xs) : pE X T (.Tuple es k pos) (.tup xs) := fun bx =>
  PEimp (pe_tupF h) fun σ H Q ⟨σ', μ, h, S, R, o⟩ => by
    simp only [ev] at o
    obtain ⟨r, h1, e1, o1⟩ := o.bnd
    refine ⟨σ', μ, h, S, R, OutL.of e1 fun v μ1 H1 R1 E1 x1 => ?_⟩
    exact mkTup_snd R1 x1 (o1.up E1)
theorem p_lst {es : List Expr} {xs : List E} (h : pA X T es xs) : pE X T (.List es pos) (.lst xs) := fun bx =>
  PEimp (pe_lst h) fun σ H Q ⟨σ', μ, h, S, R, o⟩ => by
    simp only [ev] at o
    obtain ⟨r, h1, e1, o1⟩ := o.bnd
    refine ⟨σ', μ, h, S, R, OutL.of e1 fun v μ1 H1 R1 E1 x1 => ?_⟩
    exact mkLst_snd R1 x1 (o1.up E1)
theorem p_bin {op : Operator} (ha : pE X T a x) (hb : pE X T b y) : pE X T (.BinOp a op b pos) (.bin op x y) := fun bx =>
  PEimp (pe_op (op_bin op) (ha false) (hb false)) fun σ H Q ⟨σ', μ, h, S, R, o⟩ => by
    simp only [ev] at o
    obtain ⟨r, h1, e1, o1⟩ := o.bnd
    refine ⟨σ', μ, h, S, R, Out.of e1 fun v μ1 H1 R1 E1 x1 => ?_⟩
    obtain ⟨r2, h2, e2, o2⟩ := (o1.up E1).bnd
    refine ⟨σ', μ1, h1, S.ext E1, R1, Out.of e2 fun v2 μ2 H2 R2 E2 x2 => ?_⟩
    exact binS_snd R2 (VR.ext E2 _ _ x1) x2 (o2.up E2)
theorem p_neg (ha : pE X T a x) : pE X T (.UnaryOp .USub a pos) (.neg x) := fun bx =>
  PEimp (pe_un un_neg (ha false)) fun σ H Q ⟨σ', μ, h, S, R, o⟩ => by
    simp only [ev] at o
    obtain ⟨r, h1, e1, o1⟩ := o.bnd
    refine ⟨σ', μ, h, S, R, Out.of e1 fun v μ1 H1 R1 E1 x1 => ?_⟩
    have o2 := o1.up E1
    unfold negS at o2
    split at o2
    · cases x1 with
      | pd x1 => cases x1; exact ⟨_, rfl, o2.ret R1 (.pd (.int _))⟩
    · exact o2.no.elim
theorem p_cmp {op : CmpOp} (hu : X.A.units + 70 < cLine) (ha : pE X T a x) (hb : pE X T b y) (hm : behindInMarks op b = false) : pE X T (.Compare a [op] [b] pos) (.cmp op x y) := fun bx =>
  PEimp (pe_cmpR (op_cmp hu op) (ha false) (hb false) hm) fun σ H Q ⟨σ', μ, h, S, R, o⟩ => by
    simp only [ev] at o
    obtain ⟨r, h1, e1, o1⟩ := o.bnd
    refine ⟨σ', μ, h, S, R, Out.of e1 fun v μ1 H1 R1 E1 x1 => ?_⟩
    obtain ⟨r2, h2, e2, o2⟩ := (o1.up E1).bnd
    refine ⟨σ', μ1, h1, S.ext E1, R1, Out.of e2 fun v2 μ2 H2 R2 E2 x2 => ?_⟩
    obtain ⟨k, h3, e3, o3⟩ := (o2.up E2).bnd
    obtain ⟨rfl, f⟩ := cmpS_snd R2 (VR.ext E2 _ _ x1) x2 e3
    exact f _ (o3.ret R2 (.pd (.bl _)))
theorem p_and {rest : List Expr} (ha : pE X T a x) (hb : pE X T (.BoolOp .And (b :: rest) pos) y) : pE X T (.BoolOp .And (a :: b :: rest) pos) (.and x y) := fun bx =>
  PEimp (pe_and (ha false) (hb false)) fun σ H Q ⟨σ', μ, h, S, R, o⟩ => by
    simp only [ev] at o
    obtain ⟨r, h1, e1, o1⟩ := o.bnd
    refine ⟨σ', μ, h, S, R, Out.of e1 fun v μ1 H1 R1 E1 x1 => ?_⟩
    have o2 := o1.up E1
    split at o2
    · cases x1 with
      | pd x1 => cases x1; exact ⟨true, rfl, by rw [if_pos rfl]; exact ⟨σ', μ1, h1, S.ext E1, R1, o2⟩⟩
    · cases x1 with
      | pd x1 => cases x1; exact ⟨false, rfl, by rw [if_neg Bool.false_ne_true]; exact o2.ret R1 (.pd (.bl _))⟩
    · exact o2.no.elim
theorem p_or {rest : List Expr} (ha : pE X T a x) (hb : pE X T (.BoolOp .Or (b :: rest) pos) y) : pE X T (.BoolOp .Or (a :: b :: rest) pos) (.or x y) := fun bx =>
  PEimp (pe_or (ha false) (hb false)) fun σ H Q ⟨σ', μ, h, S, R, o⟩ => by
    simp only [ev] at o
    obtain ⟨r, h1, e1, o1⟩ := o.bnd
    refine ⟨σ', μ, h, S, R, Out.of e1 fun v μ1 H1 R1 E1 x1 => ?_⟩
    have o2 := o1.up E1
    split at o2
    · cases x1 with
      | pd x1 => cases x1; exact ⟨true, rfl, by rw [if_pos rfl]; exact o2.ret R1 (.pd (.bl _))⟩
    · cases x1 with
      | pd x1 => cases x1; exact ⟨false, rfl, by rw [if_neg Bool.false_ne_true]; exact ⟨σ', μ1, h1, S.ext E1, R1, o2⟩⟩
    · exact o2.no.elim
theorem p_one {op : BoolOp} (ha : pE X T a x) : pE X T (.BoolOp op [a] pos) x := fun bx => pe_one (ha bx)
theorem p_not (ha : pE X T a x) : pE X T (.UnaryOp .Not a pos) (.not x) := fun bx =>
  PEimp (pe_not (ha false)) fun σ H Q ⟨σ', μ, h, S, R, o⟩ => by
    simp only [ev] at o
    obtain ⟨r, h1, e1, o1⟩ := o.bnd
    refine ⟨σ', μ, h, S, R, Out.of e1 fun v μ1 H1 R1 E1 x1 => ?_⟩
    have o2 := o1.up E1
    split at o2
    · cases x1 with
      | pd x1 => cases x1; exact ⟨_, rfl, o2.ret R1 (.pd (.bl _))⟩
    · exact o2.no.elim
theorem p_idx (ha : pE X T a x) (hb : pE X T b y) (hs : PlainIx b) : pE X T (.Subscript a b pos) (.idx x y) := fun bx =>
  PEimp (pe_ix ix_seq (ha false) (hb false) hs) fun σ H Q ⟨σ', μ, h, S, R, o⟩ => by
    simp only [ev] at o
    obtain ⟨r, h1, e1, o1⟩ := o.bnd
    refine ⟨σ', μ, h, S, R, Out.of e1 fun v μ1 H1 R1 E1 x1 => ?_⟩
    obtain ⟨r2, h2, e2, o2⟩ := (o1.up E1).bnd
    refine ⟨σ', μ1, h1, S.ext E1, R1, Out.of e2 fun v2 μ2 H2 R2 E2 x2 => ?_⟩
    exact idxS_snd R2 (VR.ext E2 _ _ x1) x2 (o2.up E2)
/-- a part of a slice -/
def OutO (K : PySem.W.Frag) (μ : List Addr) (H : Hp) (res : Res (Option Int)) (Q : Option Int → Hp → Prop) : Prop := match res with
  | .ok r h' => ∀ μ' H', RH K μ' h' H' → Ext μ H μ' H' → Q r H'
  | _ => False
theorem OutO.of {K : PySem.W.Frag} {μ : List Addr} {H : Hp} {h' : Boxes} {res : Res (Option Int)} {r : Option Int} {Q : Option Int → Hp → Prop} (e : res = .ok r h') (f : ∀ μ' H', RH K μ' h' H' → Ext μ H μ' H' → Q r H') : OutO K μ H res Q := by
  rw [e]; exact f
def rdO (K : PySem.W.Frag) (mg : Str → Option Value) (T : TT) (e : Option E) : TO := fun σ H Q => ∃ σ' μ h, SR K mg μ H σ σ' ∧ RH K μ h H ∧ OutO K μ H (evO T σ' e h) Q
theorem POimp {e : Option Expr} {t t' : TO} (p : PO X e t) (f : ∀ σ H Q, t' σ H Q → t σ H Q) : PO X e t' := ⟨fun pins s σ H Q I h => p.run pins s σ H Q I (f σ H Q h)⟩
theorem p_onone : PO X none (rdO X.K X.mg T none) := POimp po_none fun σ H Q ⟨σ', μ, h, S, R, o⟩ => by
  simp only [evO] at o
  exact o _ _ R .refl
theorem p_osome (ha : pE X T a x) : PO X (some a) (rdO X.K X.mg T (some x)) := POimp (po_some (ha false)) fun σ H Q ⟨σ', μ, h, S, R, o⟩ => by
  simp only [evO] at o
  cases e0 : ev T σ' false x h with
  | ok r h1 =>
    simp only [M.bnd, e0] at o
    refine ⟨σ', μ, h, S, R, Out.of e0 fun v μ1 H1 R1 E1 x1 => ?_⟩
    unfold partS at o
    split at o
    · cases x1 with
      | pd x1 => cases x1; exact ⟨_, rfl, o _ _ R1 E1⟩
    · exact o.elim
  | ex _ _ => simp only [M.bnd, e0] at o; exact o.elim
  | no => simp only [M.bnd, e0] at o; exact o.elim
theorem p_slc {lo hi : Option Expr} {l u : Option E} {p2 : Pos} (ha : pE X T a x) (hl : PO X lo (rdO X.K X.mg T l)) (hu : PO X hi (rdO X.K X.mg T u)) : pE X T (.Subscript a (.Slice lo hi none p2) pos) (.slc x l u) := fun bx =>
  PEimp (pe_slice sl_any (ha false) hl hu) fun σ H Q ⟨σ', μ, h, S, R, o⟩ => by
    simp only [ev] at o
    obtain ⟨r, h1, e1, o1⟩ := o.bnd
    refine ⟨σ', μ, h, S, R, Out.of e1 fun v μ1 H1 R1 E1 x1 => ?_⟩
    obtain ⟨l', h2, e2, o2⟩ := (o1.up E1).bnd
    refine ⟨σ', μ1, h1, S.ext E1, R1, OutO.of e2 fun μ2 H2 R2 E2 => ?_⟩
    obtain ⟨u', h3, e3, o3⟩ := (o2.up E2).bnd
    refine ⟨σ', μ2, h2, (S.ext E1).ext E2, R2, OutO.of e3 fun μ3 H3 R3 E3 => ?_⟩
    exact slcS_snd R3 (VR.ext E3 _ _ (VR.ext E2 _ _ x1)) (o3.up E3)
/-- a built-in function -/
def BI.nm : BI → Str
  | .len => "len" | .abs => "abs" | .max => "max" | .min => "min" | .all => "all" | .any => "any" | .sum => "sum" | .list => "list" | .tuple => "tuple" | .int => "int" | .str => "str" | .repr => "repr"
theorem p_bi {bi : BI} {es : List Expr} {xs : List E} {p : Pos} (gd : X.A.guards = some []) (hu : X.A.units + 70 < cLine) (hc : X.calm = true) (hg : Gl X bi.nm) (hm : X.mg bi.nm = none) (ha : pA X T (a :: es) xs) (he : starEach (a :: es) X.env = (false, eval a X.env) :: starEach es X.env)
    (hpl : (backTo pos (starEach es X.env)).any (·.1) = false) : pE X T (.Call (.Name bi.nm p) (a :: es) [] pos) (.bi bi xs) := fun bx => by
  have main : PE X (.Call (.Name bi.nm p) (a :: es) [] pos) (tCB (rBi X.K bi) (rdA X.K X.mg T xs)) := by
    cases bi <;> first
      | exact pe_callB (cr_bi gd hu hc _) hg hm (by decide +kernel) ha (by decide) (by decide) he hpl
      | exact pe_callTy (cr_bi gd hu hc _) hg hm (by decide +kernel) ha (by decide) (by decide) he hpl
  exact PEimp main fun σ H Q ⟨σ', μ, h, S, R, o⟩ => by
    simp only [ev] at o
    obtain ⟨r, h1, e1, o1⟩ := o.bnd
    refine ⟨σ', μ, h, S, R, OutL.of e1 fun v μ1 H1 R1 E1 x1 => ?_⟩
    exact biS_snd R1 x1 (o1.up E1)
theorem p_no : pE X T a .no := fun bx => ⟨fun pins s σ H Q I ⟨σ', μ, h, S, R, o⟩ => by
  simp only [ev] at o
  exact o.no.elim⟩
theorem p_bx (ha : pE X T a x) : pE X T a (.bx x) := fun bx => PEimp (ha true) fun σ H Q ⟨σ', μ, h, S, R, o⟩ => by
  simp only [ev] at o
  exact ⟨σ', μ, h, S, R, o⟩
end
end AI

set_option Elab.async false
set_option linter.all false
set_option maxRecDepth 100000
set_option maxHeartbeats 4000000
/-! AiPE3: chains, isinstance, methods, calls, tests. -/
namespace AI
open PySem L2 SeqAt
section
variable {X : Cx} {T : TT} {bx : Bool} {a b c : Expr} {x y z : E} {pos : Pos}
theorem p_cmp2 {op op' : CmpOp} (hu : X.A.units + 70 < cLine) (ha : pE X T a x) (hb : pE X T b y) (hc : pE X T c z) (hm : lastMarks [op, op'] [b, c] = false) : pE X T (.Compare a [op, op'] [b, c] pos) (.cmp2 op op' x y z) := fun bx =>
  PEimp (pe_chain (op_cmp hu op) (op_cmp hu op') (ha false) (hb false) (hc false) hm) fun σ H Q ⟨σ', μ, h, S, R, o⟩ => by
    simp only [ev] at o
    obtain ⟨r, h1, e1, o1⟩ := o.bnd
    refine ⟨σ', μ, h, S, R, Out.of e1 fun v μ1 H1 R1 E1 x1 => ?_⟩
    obtain ⟨r2, h2, e2, o2⟩ := (o1.up E1).bnd
    refine ⟨σ', μ1, h1, S.ext E1, R1, Out.of e2 fun v2 μ2 H2 R2 E2 x2 => ?_⟩
    obtain ⟨k, h3, e3, o3⟩ := (o2.up E2).bnd
    obtain ⟨rfl, f⟩ := cmpS_snd R2 (VR.ext E2 _ _ x1) x2 e3
    refine f _ ⟨k, rfl, ?_⟩
    cases k with
    | false =>
      rw [if_neg Bool.false_ne_true] at o3 ⊢
      exact o3.ret R2 (.pd (.bl _))
    | true =>
      rw [if_pos rfl] at o3 ⊢
      obtain ⟨r4, h4, e4, o4⟩ := o3.bnd
      refine ⟨σ', μ2, _, (S.ext E1).ext E2, R2, Out.of e4 fun v4 μ4 H4 R4 E4 x4 => ?_⟩
      obtain ⟨k', h5, e5, o5⟩ := (o4.up E4).bnd
      obtain ⟨rfl, f'⟩ := cmpS_snd R4 (VR.ext E4 _ _ x2) x4 e5
      exact f' _ (o5.ret R4 (.pd (.bl _)))
theorem bootTy : (t : TY) → bootBuiltins (Str.ofString t.nm) = some (.type t.nm)
  | .int | .str | .bool | .tuple | .list | .dict => by decide +kernel
theorem p_isi {t : TY} {p p2 : Pos} (hg : Gl X "isinstance") (hm : X.mg "isinstance" = none) (hg2 : Gl X (Str.ofString t.nm)) (hm2 : X.mg (Str.ofString t.nm) = none) (ha : pE X T a x)
    (he : starEach [a, .Name (Str.ofString t.nm) p2] X.env = (false, eval a X.env) :: starEach [.Name (Str.ofString t.nm) p2] X.env) (hpl : (backTo pos (starEach [.Name (Str.ofString t.nm) p2] X.env)).any (·.1) = false) :
    pE X T (.Call (.Name "isinstance" p) [a, .Name (Str.ofString t.nm) p2] [] pos) (.isi x t) := fun bx => by
  have q2 : PE X (.Name (Str.ofString t.nm) p2) (tC (.ty t.nm)) := pe_bltn hg2 hm2 (bootTy t) rfl (by cases t <;> decide) (by cases t <;> decide)
  exact PEimp (pe_callB call_isi hg hm (by decide +kernel) (pa_cons (ha false) (pa_cons q2 pa_nil rfl) he) (by decide) (by decide) he hpl) fun σ H Q ⟨σ', μ, h, S, R, o⟩ => by
    simp only [ev] at o
    obtain ⟨r, h1, e1, o1⟩ := o.bnd
    refine ⟨σ', μ, h, S, R, Out.of e1 fun v μ1 H1 R1 E1 x1 => ?_⟩
    exact isiS_snd R1 x1 (o1.up E1)

theorem p_isi2 {t t2 : TY} {p p2 p3 p4 : Pos} {k : Nat} (hg : Gl X "isinstance") (hm : X.mg "isinstance" = none) (hg2 : Gl X (Str.ofString t.nm)) (hm2 : X.mg (Str.ofString t.nm) = none) (hg3 : Gl X (Str.ofString t2.nm)) (hm3 : X.mg (Str.ofString t2.nm) = none) (ha : pE X T a x)
    (he : starEach [a, .Tuple [.Name (Str.ofString t.nm) p2, .Name (Str.ofString t2.nm) p3] k p4] X.env = (false, eval a X.env) :: starEach [.Tuple [.Name (Str.ofString t.nm) p2, .Name (Str.ofString t2.nm) p3] k p4] X.env) :
    pE X T (.Call (.Name "isinstance" p) [a, .Tuple [.Name (Str.ofString t.nm) p2, .Name (Str.ofString t2.nm) p3] k p4] [] pos) (.isi2 x t t2) := fun bx => by
  have q2 : PE X (.Name (Str.ofString t.nm) p2) (tC (.ty t.nm)) := pe_bltn hg2 hm2 (bootTy t) rfl (by cases t <;> decide) (by cases t <;> decide)
  have q3 : PE X (.Name (Str.ofString t2.nm) p3) (tC (.ty t2.nm)) := pe_bltn hg3 hm3 (bootTy t2) rfl (by cases t2 <;> decide) (by cases t2 <;> decide)
  exact PEimp (pe_callB call_isiT hg hm (by decide +kernel) (pa_cons (ha false) (pa_cons (pe_tup (pa_cons q2 (pa_cons q3 pa_nil rfl) rfl)) pa_nil rfl) he) (by decide) (by decide) he rfl) fun σ H Q ⟨σ', μ, h, S, R, o⟩ => by
    simp only [ev] at o
    obtain ⟨r, h1, e1, o1⟩ := o.bnd
    refine ⟨σ', μ, h, S, R, Out.of e1 fun v μ1 H1 R1 E1 x1 => ?_⟩
    exact ⟨by show 2 ≤ sizeLine; decide, isi2S_snd R1 x1 (o1.up E1)⟩
theorem revS_snd {K : PySem.W.Frag} {mg : Str → Option Value} {μ : List Addr} {H : Hp} {h : Boxes} {Q : VK} {r : RV} {v : V} {t : Bool} (R : RH K μ h H) (x : VR K mg μ H v r) (o : Out K mg μ H (revS bx t r h) Q) :
    ∃ (a : Addr) (xs : List V), v = .ref a ∧ SqL K H a xs ∧ (t = false → ∀ q, H q = none → Q (.ref q) (upd H q (.lst xs.reverse))) ∧ (t = true → ∀ q o, H q = none → o.dict = none → Q (.ref q) (upd H q (.frz o (.tup xs.reverse)))) := by
  unfold revS at o
  split at o
  · exact o.no.elim
  · obtain ⟨d, h1, e1, o1⟩ := o.bnd
    obtain ⟨rfl, w⟩ := dat_ok R x e1
    split at o1
    · obtain ⟨a, vs, rfl, q, r, _⟩ := w.list
      refine ⟨a, vs, rfl, q, fun ht => ?_, fun ht => ?_⟩
      · subst ht
        exact (newL_snd R r.reverse o1).2
      · subst ht
        exact (newT_snd R r.reverse o1).2
    · exact o1.no.elim
theorem p_revL {p p2 pos2 : Pos} (hc : X.calm = true) (hg : Gl X "list") (hm : X.mg "list" = none) (hg2 : Gl X "reversed") (hm2 : X.mg "reversed" = none) (ha : pE X T a x) (hs : starEach [a] X.env = (false, eval a X.env) :: starEach [] X.env) :
    pE X T (.Call (.Name "list" p) [.Call (.Name "reversed" p2) [a] [] pos2] [] pos) (.lrev false x) := fun bx =>
  PEimp (pe_listRev hc hg hm hg2 hm2 (ha false) hs) fun σ H Q ⟨σ', μ, h, S, R, o⟩ => by
    simp only [ev] at o
    obtain ⟨r, h1, e1, o1⟩ := o.bnd
    refine ⟨σ', μ, h, S, R, Out.of e1 fun v μ1 H1 R1 E1 x1 => ?_⟩
    obtain ⟨a, xs, e, q, f, _⟩ := revS_snd R1 x1 (o1.up E1)
    exact ⟨a, xs, e, q, f rfl⟩
theorem p_revT {p p2 pos2 : Pos} (hc : X.calm = true) (hg : Gl X "tuple") (hm : X.mg "tuple" = none) (hg2 : Gl X "reversed") (hm2 : X.mg "reversed" = none) (ha : pE X T a x) (hs : starEach [a] X.env = (false, eval a X.env) :: starEach [] X.env) :
    pE X T (.Call (.Name "tuple" p) [.Call (.Name "reversed" p2) [a] [] pos2] [] pos) (.lrev true x) := fun bx =>
  PEimp (pe_tupleRev hc hg hm hg2 hm2 (ha false) hs) fun σ H Q ⟨σ', μ, h, S, R, o⟩ => by
    simp only [ev] at o
    obtain ⟨r, h1, e1, o1⟩ := o.bnd
    refine ⟨σ', μ, h, S, R, Out.of e1 fun v μ1 H1 R1 E1 x1 => ?_⟩
    obtain ⟨a, xs, e, q, _, f⟩ := revS_snd R1 x1 (o1.up E1)
    exact ⟨a, xs, e, q, f rfl⟩

theorem p_cutRev {k : Nat} {p1 p2 p3 : Pos} (ha : pE X T a x) : pE X T (.Subscript a (.Slice none none (some (.UnaryOp .USub (.Constant (.int 1) k p1) p2)) p3) pos) (.lrev false x) := fun bx =>
  PEimp (L2.pe_revL (ha false)) fun σ H Q ⟨σ', μ, h, S, R, o⟩ => by
    simp only [ev] at o
    obtain ⟨r, h1, e1, o1⟩ := o.bnd
    refine ⟨σ', μ, h, S, R, Out.of e1 fun v μ1 H1 R1 E1 x1 => ?_⟩
    obtain ⟨a, xs, e, q, f, _⟩ := revS_snd R1 x1 (o1.up E1)
    exact ⟨a, xs, e, q, f rfl⟩

/-! ### methods -/
def rMt (K : PySem.W.Frag) : MT → RK → V → List V → Hp → VK → Prop
  | .append, .list => rAppend
  | .extend, .list => rExtend
  | .pop, .list => rPop
  | .popAt, .list => rPopAt
  | .index, .list => rIndexP K true
  | .index, .tuple => rIndexP K false
  | .index, .str => fun x xs H Q => ∃ a b i rest, x = .str a ∧ xs = [.str b] ∧ Builtin.Str.occurrences a b 0 a.length 1 = i :: rest ∧ Q (.int (i : Nat)) H
  | .words, .str => fun x xs H Q => ∃ a, x = .str a ∧ xs = [] ∧ a.length + 2 ≤ sizeLine ∧ rNewStrs (Txt.words a) H Q
  | .startswith, .str => fun x xs H Q => ∃ a b, x = .str a ∧ xs = [.str b] ∧ Q (.bl (Txt.startswith a b)) H
  | .join, .str => fun x xs H Q => ∃ a p, ∃ ys : List Str, x = .str a ∧ xs = [.ref p] ∧ (SqL K H p (ys.map V.str) ∨ SqT K H p (ys.map V.str)) ∧ (ys.map (·.length)).sum + ys.length * a.length ≤ 16777216 ∧ Q (.str (Txt.join a ys)) H
  | .split, .str => fun x xs H Q => ∃ a b, x = .str a ∧ xs = [.str b] ∧ (b.length == 0) = false ∧ a.length + 2 ≤ sizeLine ∧ rNewStrs (Txt.split a b) H Q
  | _, _ => fun _ _ _ _ => False
/-- the method is there -/
def MtOn (X : Cx) (m : MT) (k : RK) : Prop := ∃ id, PlainAttrs k.nm ∧ Slot k.nm m.nm id ∧ typeOf (.builtin id) = pure (.type "method_descriptor") ∧ MtR X id (rMt X.K m k)
def sup : MT → RK → Bool
  | .append, .list | .extend, .list | .pop, .list | .popAt, .list | .index, .list | .index, .tuple | .index, .str | .split, .str | .words, .str | .startswith, .str | .join, .str => true
  | _, _ => false
theorem mt_on (hu : X.A.units + 70 < cLine) (m : MT) (k : RK) : MtOn X m k ∨ sup m k = false := by
  cases m <;> cases k <;> first
    | exact .inr rfl
    | exact .inl ⟨_, PySem.F.plainAttrs_list, PySem.F.slot_list_append, PySem.F.type_list_append, mt_append⟩
    | exact .inl ⟨_, PySem.F.plainAttrs_list, PySem.F.slot_list_extend, PySem.F.type_list_extend, mt_extend⟩
    | exact .inl ⟨_, PySem.F.plainAttrs_list, PySem.F.slot_list_pop, PySem.F.type_list_pop, mt_pop⟩
    | exact .inl ⟨_, PySem.F.plainAttrs_list, PySem.F.slot_list_pop, PySem.F.type_list_pop, mt_popAt⟩
    | exact .inl ⟨_, PySem.F.plainAttrs_list, PySem.F.slot_list_index, PySem.F.type_list_index, mt_indexP hu⟩
    | exact .inl ⟨_, PySem.F.plainAttrs_tuple, PySem.F.slot_tuple_index, PySem.F.type_tuple_index, mt_indexQ hu⟩
    | exact .inl ⟨_, PySem.F.plainAttrs_str, PySem.F.slot_str_index, PySem.F.type_str_index, mt_sindex⟩
    | exact .inl ⟨_, PySem.F.plainAttrs_str, PySem.F.slot_str_split, PySem.F.type_str_split, mt_split⟩
    | exact .inl ⟨_, PySem.F.plainAttrs_str, PySem.F.slot_str_split, PySem.F.type_str_split, mt_words⟩
    | exact .inl ⟨_, PySem.F.plainAttrs_str, PySem.F.slot_str_startswith, PySem.F.type_str_startswith, mt_startswith⟩
    | exact .inl ⟨_, PySem.F.plainAttrs_str, PySem.F.slot_str_join, PySem.F.type_str_join, mt_join⟩
theorem no_sup {m : MT} {k : RK} {r : RV} {rs : List RV} {bx : Bool} {h : Boxes} (e : sup m k = false) : methS bx m k r rs h = .no := by
  cases m <;> cases k <;> first | rfl | cases e
theorem rkOf_snd {r : RV} {k : RK} {v : V} {K : PySem.W.Frag} {mg : Str → Option Value} {μ : List Addr} {H : Hp} {h h' : Boxes} (R : RH K μ h H) (x : VR K mg μ H v r) (e : rkOf r h = .ok k h') : h' = h ∧ TyK K k v H := by
  obtain ⟨d, h1, e1, e2⟩ := bnd_ok e
  obtain ⟨rfl, w⟩ := dat_ok R x e1
  obtain ⟨e3, rfl⟩ := opt_ok e2
  refine ⟨rfl, ?_⟩
  cases d with
  | list ds =>
    cases e3
    obtain ⟨a, vs, rfl, q, _⟩ := w.list
    exact ⟨a, vs, rfl, q⟩
  | str y => cases e3; exact ⟨y, w.str⟩
  | tuple ds =>
    cases e3
    rcases w with w | ⟨_, _, _, _, e, _⟩
    · cases w with
      | tup q n z r => exact ⟨_, rfl, .inl ⟨_, q⟩⟩
      | tupK q r => obtain ⟨o, its, n, q1, q2, q3, _⟩ := q; exact ⟨_, rfl, .inr ⟨o, q1, q2, q3⟩⟩
    · cases e
  | none => cases e3
  | bool _ => cases e3
  | int _ => cases e3
  | dict _ => cases e3
section
variable {K : PySem.W.Frag} {mg : Str → Option Value} {μ : List Addr} {H : Hp} {h h' : Boxes} {Q : VK}
/-- what the change of a box tells -/
theorem mod_snd {n : Nat} {f : List D → M (D × List D)} (R : RH K μ h H) {a : Addr} (ha : μ[n]? = some a) (o : Out K mg μ H (mod n f h) Q) : ∃ ds vs d ds' h2, H a = some (.lst vs) ∧ VDs K μ H vs ds ∧ f ds h = .ok (d, ds') h2 ∧ ds'.length ≤ sizeLine ∧
    ∀ v vs', VD K μ H v d → VDs K μ H vs' ds' → Q v (upd H a (.lst vs')) := by
  unfold mod at o
  cases e : h[n]? with
  | none => rw [e] at o; exact o.elim
  | some b =>
    rw [e] at o
    cases b with
    | gone => exact o.elim
    | mix _ => exact o.elim
    | lst ds =>
      simp only at o
      cases e2 : f ds h with
      | ex _ _ => rw [e2] at o; exact o.elim
      | no => rw [e2] at o; exact o.elim
      | ok r h2 =>
        obtain ⟨d, ds'⟩ := r
        rw [e2] at o
        simp only at o
        by_cases z : ds'.length ≤ sizeLine
        · rw [if_pos z] at o
          obtain ⟨vs, q1, q2, q3⟩ := R.box n a _ ha e
          refine ⟨ds, vs, d, ds', h2, q1, q2, e2, z, fun v vs' hv hvs => ?_⟩
          obtain ⟨R', E⟩ := R.write ha hvs (by rw [hvs.length]; exact z)
          exact o _ _ _ R' E (.pd (VD.ext E _ _ hv))
        · rw [if_neg z] at o; exact o.elim
theorem VDs.dropLast {vs : List V} {ds : List D} (r : VDs K μ H vs ds) : VDs K μ H vs.dropLast ds.dropLast := by
  rw [List.dropLast_eq_take, List.dropLast_eq_take, r.length]
  exact r.take _
theorem VDs.eraseIdx {vs : List V} {ds : List D} (r : VDs K μ H vs ds) (k : Nat) : VDs K μ H (vs.eraseIdx k) (ds.eraseIdx k) := by
  rw [List.eraseIdx_eq_take_drop_succ, List.eraseIdx_eq_take_drop_succ]
  exact (r.take _).append (r.drop _)
theorem asPd_snd {r : RV} {d : D} {v : V} (e : asPd r = some d) (x : VR K mg μ H v r) : VD K μ H v d := by
  cases r with
  | pd d' => cases e; cases x with | pd q => exact q
  | rf _ => cases e
  | tp _ => cases e
  | fz _ => cases e
  | gl _ => cases e
theorem strsOf_snd : ∀ {ds : List D} {ks : List Str} {vs : List V}, strsOf ds = some ks → VDs K μ H vs ds → vs = ks.map V.str
  | [], _, _, e, .nil => by cases e; rfl
  | .str i :: ds, ks, _, e, .cons x t => by
    simp only [strsOf] at e
    cases q : strsOf ds with
    | none => rw [q] at e; cases e
    | some es => rw [q] at e; cases e; cases x; rw [strsOf_snd q t]; rfl
  | .none :: _, _, _, e, _ | .bool _ :: _, _, _, e, _ | .int _ :: _, _, _, e, _ | .list _ :: _, _, _, e, _ | .tuple _ :: _, _, _, e, _ | .dict _ :: _, _, _, e, _ => by cases e
theorem methS_snd {bx : Bool} {m : MT} {k : RK} {r : RV} {rs : List RV} {v : V} {vs : List V} (R : RH K μ h H) (x : VR K mg μ H v r) (xs : VRs K mg μ H vs rs) (o : Out K mg μ H (methS bx m k r rs h) Q) : rMt K m k v vs H Q := by
  unfold methS at o
  split at o
  · -- append
    split at o
    · cases x with
      | rf ha =>
        cases xs with
        | cons x1 xt =>
          cases xt
          obtain ⟨d, h1, e1, o1⟩ := o.bnd
          obtain ⟨ge1, rfl⟩ := opt_ok e1
          obtain ⟨ds, us, d', ds', h2, q1, q2, e2, z, f⟩ := mod_snd R ha o1
          obtain ⟨e2, rfl⟩ := ret_ok e2
          cases e2
          have x2 := asPd_snd ge1 x1
          have hl := q2.length
          simp at z
          exact ⟨_, us, _, rfl, rfl, q1, by omega, f _ _ .non (q2.append (.cons x2 .nil))⟩
    · exact o.no.elim
  · -- pop
    split at o
    · cases x with
      | rf ha =>
        cases xs
        obtain ⟨ds, us, d', ds', h2, q1, q2, e2, z, f⟩ := mod_snd R ha o
        obtain ⟨d, h3, e3, e4⟩ := bnd_ok e2
        obtain ⟨ge3, rfl⟩ := opt_ok e3
        obtain ⟨e4, rfl⟩ := ret_ok e4
        cases e4
        obtain ⟨u, e5, x5⟩ := q2.get ge3
        exact ⟨_, us, u, rfl, rfl, q1, by rw [q2.length]; exact e5, f _ _ x5 q2.dropLast⟩
    · exact o.no.elim
  · -- popAt
    split at o
    · cases x with
      | rf ha =>
        cases xs with
        | cons x1 xt =>
          cases xt
          cases x1 with
          | pd x1 =>
            cases x1
            obtain ⟨ds, us, d', ds', h2, q1, q2, e2, z, f⟩ := mod_snd R ha o
            obtain ⟨_, h3, e3, e4⟩ := bnd_ok e2
            obtain ⟨g, rfl⟩ := grd_ok e3
            obtain ⟨k, h5, e5, e6⟩ := bnd_ok e4
            obtain ⟨ge5, rfl⟩ := opt_ok e5
            obtain ⟨d, h7, e7, e8⟩ := bnd_ok e6
            obtain ⟨ge7, rfl⟩ := opt_ok e7
            obtain ⟨e8, rfl⟩ := ret_ok e8
            cases e8
            have g := of_decide_eq_true g
            obtain ⟨u, e9, x9⟩ := q2.get ge7
            exact ⟨_, us, _, k, u, rfl, rfl, q1, g.1, g.2, by rw [q2.length]; exact ge5, e9, f _ _ x9 (q2.eraseIdx k)⟩
    · exact o.no.elim
  · -- extend
    split at o
    · split at o
      · exact o.elim
      · rename_i nf
        cases x with
        | rf ha =>
          cases xs with
          | cons x1 xt =>
            cases xt
            obtain ⟨d, h1, e1, o1⟩ := o.bnd
            obtain ⟨rfl, w⟩ := dat_ok R x1 e1
            split at o1
            · obtain ⟨p, ws, rfl, q3, r3, _⟩ := lstM R (by simpa using nf) x1 e1
              obtain ⟨ds, us, d', ds', h2, q1, q2, e2, z, f⟩ := mod_snd R ha o1
              obtain ⟨e2, rfl⟩ := ret_ok e2
              cases e2
              have hl := (q2.append r3).length
              rw [List.length_append] at hl
              exact ⟨_, p, us, ws, rfl, rfl, q1, q3, by omega, f _ _ .non (q2.append r3)⟩
            · exact o1.elim
    · exact o.no.elim
  · -- index of a list
    split at o
    · cases xs with
      | cons x1 xt =>
        cases xt
        cases x1 with
        | pd x1 =>
          obtain ⟨d, h1, e1, o1⟩ := o.bnd
          obtain ⟨rfl, w⟩ := dat_ok R x e1
          split at o1
          · obtain ⟨a, us, rfl, q, r, _⟩ := w.list
            obtain ⟨_, h3, e3, o3⟩ := o1.bnd
            obtain ⟨g, rfl⟩ := grd_ok e3
            obtain ⟨j, h4, e4, o4⟩ := o3.bnd
            obtain ⟨ge4, rfl⟩ := opt_ok e4
            obtain ⟨p1, p2⟩ := VDs.dp _ _ r
            obtain ⟨p3, p4⟩ := VD.dp _ _ x1
            exact ⟨a, _, _, _, us, j, rfl, rfl, q, p1, p2, p3, p4, of_decide_eq_true g, ge4, o4.ret R (.pd (.int _))⟩
          · exact o1.elim
    · exact o.no.elim
  · -- index of a tuple
    split at o
    · cases x with
      | pd x =>
        cases xs with
        | cons x1 xt =>
          cases xt
          cases x1 with
          | pd x1 =>
            obtain ⟨a, us, rfl, q, r, _⟩ := x.sqT
            obtain ⟨_, h3, e3, o3⟩ := o.bnd
            obtain ⟨g, rfl⟩ := grd_ok e3
            obtain ⟨j, h4, e4, o4⟩ := o3.bnd
            obtain ⟨ge4, rfl⟩ := opt_ok e4
            obtain ⟨p1, p2⟩ := VDs.dp _ _ r
            obtain ⟨p3, p4⟩ := VD.dp _ _ x1
            exact ⟨a, _, _, _, us, j, rfl, rfl, q, p1, p2, p3, p4, of_decide_eq_true g, ge4, o4.ret R (.pd (.int _))⟩
    · exact o.no.elim
  · -- index of a text
    split at o
    · cases x with
      | pd x =>
        cases x
        cases xs with
        | cons x1 xt =>
          cases xt
          cases x1 with
          | pd x1 =>
            cases x1
            obtain ⟨j, h4, e4, o4⟩ := o.bnd
            obtain ⟨ge4, rfl⟩ := opt_ok e4
            rename_i z u
            cases q : Builtin.Str.occurrences z u 0 z.length 1 with
            | nil => rw [q] at ge4; cases ge4
            | cons i rest =>
              rw [q] at ge4
              cases ge4
              exact ⟨_, _, j, rest, rfl, rfl, q, o4.ret R (.pd (.int _))⟩
    · exact o.no.elim
  · -- split
    split at o
    · cases x with
      | pd x =>
        cases x
        cases xs with
        | cons x1 xt =>
          cases xt
          cases x1 with
          | pd x1 =>
            cases x1
            obtain ⟨_, h3, e3, o3⟩ := o.bnd
            obtain ⟨g, rfl⟩ := grd_ok e3
            have g := of_decide_eq_true g
            have aux : ∀ l : List Str, VDs K μ H (l.map V.str) (l.map PyData.str) := fun l => by
              induction l with
              | nil => exact .nil
              | cons a l ih => exact .cons (.str a) ih
            exact ⟨_, _, rfl, rfl, g.1, g.2, (newL_snd R (aux _) o3).2⟩
    · exact o.no.elim
  · -- words
    split at o
    · cases x with
      | pd x =>
        cases x
        cases xs
        obtain ⟨_, h3, e3, o3⟩ := o.bnd
        obtain ⟨g, rfl⟩ := grd_ok e3
        have aux : ∀ l : List Str, VDs K μ H (l.map V.str) (l.map PyData.str) := fun l => by
          induction l with
          | nil => exact .nil
          | cons a l ih => exact .cons (.str a) ih
        exact ⟨_, rfl, rfl, of_decide_eq_true g, (newL_snd R (aux _) o3).2⟩
    · exact o.no.elim
  · -- startswith
    split at o
    · cases x with
      | pd x =>
        cases x
        cases xs with
        | cons x1 xt =>
          cases xt
          cases x1 with
          | pd x1 =>
            cases x1
            exact ⟨_, _, rfl, rfl, o.ret R (.pd (.bl _))⟩
    · exact o.no.elim
  · -- join
    split at o
    · cases x with
      | pd x =>
        cases x
        cases xs with
        | cons x1 xt =>
          cases xt
          obtain ⟨d, h1, e1, o1⟩ := o.bnd
          obtain ⟨rfl, w⟩ := dat_ok R x1 e1
          obtain ⟨ds, h2, e2, o2⟩ := o1.bnd
          obtain ⟨ge2, rfl⟩ := opt_ok e2
          obtain ⟨ys, h3, e3, o3⟩ := o2.bnd
          obtain ⟨ge3, rfl⟩ := opt_ok e3
          obtain ⟨_, h4, e4, o4⟩ := o3.bnd
          obtain ⟨g, rfl⟩ := grd_ok e4
          have g := of_decide_eq_true g
          unfold itemsD at ge2
          split at ge2
          · cases ge2
            obtain ⟨p, us, rfl, q, r, _⟩ := w.list
            have e := strsOf_snd ge3 r
            subst e
            exact ⟨_, _, ys, rfl, rfl, .inl q, g, o4.ret R (.pd (.str _))⟩
          · cases ge2
            obtain ⟨p, us, rfl, q, r, _⟩ := w.tuple
            have e := strsOf_snd ge3 r
            subst e
            exact ⟨_, _, ys, rfl, rfl, .inr q, g, o4.ret R (.pd (.str _))⟩
          · cases ge2
    · exact o.no.elim
  · exact o.no.elim
end
end
end AI

set_option Elab.async false
set_option linter.all false
set_option maxRecDepth 100000
set_option maxHeartbeats 4000000
/-! AiPE4: calls of methods and of the module's defs; tests. -/
namespace AI
open PySem L2 SeqAt
section
variable {X : Cx} {T : TT} {bx : Bool} {a b c : Expr} {x y z : E} {pos apos cpos : Pos}
/-! ### methods -/
theorem p_meth {m : MT} {o : Expr} {es : List Expr} {xs : List E} (hu : X.A.units + 70 < cLine) (ho : pE X T o x) (ha : pA X T (a :: es) xs) (hbase : attributeBase o m.nm X.env (eval o X.env) = eval o X.env)
    (hfew : ((backTo cpos (starEach (a :: es) X.env)).all (fun x => !x.1) && (backToKw cpos (keywordEach [] X.env)).all (fun x => x.1.isSome) && decide ((a :: es).length + ([] : List Keyword).length + (if ([] : List Keyword).isEmpty then 0 else 1) < 30)) = true)
    (hline : (apos.endLine == cpos.line) = true) (hs : starEach (a :: es) X.env = (false, eval a X.env) :: starEach es X.env) (hplain : (backTo cpos (starEach es X.env)).any (·.1) = false) :
    pE X T (.Call (.Attribute o m.nm apos) (a :: es) [] cpos) (.meth m x xs) := fun bx => by
  refine ⟨fun pins s σ H Q I ⟨σ', μ, h, S, R, q⟩ => ?_⟩
  simp only [ev] at q
  obtain ⟨r, h1, e1, q1⟩ := q.bnd
  refine wpAny_Call_method_late hbase hfew hline rfl (thn ((ho false).run pins s σ H (fun v H1 => ∃ μ1, RH X.K μ1 h1 H1 ∧ Ext μ H μ1 H1 ∧ VR X.K X.mg μ1 H1 v r) I ⟨σ', μ, h, S, R, Out.of e1 fun v μ1 H1 R1 E1 x1 => ⟨μ1, R1, E1, x1⟩⟩) fun v s1 ⟨w, H1, I1, rw1, μ1, R1, E1, x1⟩ => ?_)
  obtain ⟨k, h2, e2, q2⟩ := (q1.up E1).bnd
  obtain ⟨rfl, ty⟩ := rkOf_snd R1 x1 e2
  obtain ⟨t1, t2⟩ := ty.is I1 rw1
  obtain ⟨rs, h3, e3, q3⟩ := q2.bnd
  have hA := ha.run cpos pins s1 σ H1 (fun vs H2 => rMt X.K m k w vs H2 Q) I1 ⟨σ', μ1, _, S.ext E1, R1, OutL.of e3 fun vs μ2 H2 R2 E2 x2 => methS_snd R2 (VR.ext E2 _ _ x1) x2 (q3.up E2)⟩
  rcases mt_on hu m k with ⟨id, pa, slot, hty, hm⟩ | no
  · refine ⟨k.nm, id, pa, slot, hty, t1, t2, ?_⟩
    rw [hs] at hA ⊢
    refine Calls.callWith_builtin (by show (false || (backTo cpos (starEach es X.env)).any (·.1)) = false; rw [hplain] <;> rfl) (Calls.evalArgs_plain ?_)
    exact thn hA fun us s2 ⟨vs, H2, I2, r2, q2⟩ => hm pins s2 σ H2 w vs v us Q I2 rw1 r2 q2
  · rw [no_sup no] at q3; exact q3.elim
theorem p_meth0 {m : MT} {o : Expr} (hu : X.A.units + 70 < cLine) (ho : pE X T o x) (hbase : attributeBase o m.nm X.env (eval o X.env) = eval o X.env) (hline : (apos.endLine == cpos.line) = true) :
    pE X T (.Call (.Attribute o m.nm apos) [] [] cpos) (.meth m x []) := fun bx => by
  refine ⟨fun pins s σ H Q I ⟨σ', μ, h, S, R, q⟩ => ?_⟩
  simp only [ev] at q
  obtain ⟨r, h1, e1, q1⟩ := q.bnd
  refine wpAny_Call_method0_late hbase hline (thn ((ho false).run pins s σ H (fun v H1 => ∃ μ1, RH X.K μ1 h1 H1 ∧ Ext μ H μ1 H1 ∧ VR X.K X.mg μ1 H1 v r) I ⟨σ', μ, h, S, R, Out.of e1 fun v μ1 H1 R1 E1 x1 => ⟨μ1, R1, E1, x1⟩⟩) fun v s1 ⟨w, H1, I1, rw1, μ1, R1, E1, x1⟩ => ?_)
  obtain ⟨k, h2, e2, q2⟩ := (q1.up E1).bnd
  obtain ⟨rfl, ty⟩ := rkOf_snd R1 x1 e2
  obtain ⟨t1, t2⟩ := ty.is I1 rw1
  obtain ⟨rs, h3, e3, q3⟩ := q2.bnd
  simp only [evs] at e3
  obtain ⟨rfl, rfl⟩ := ret_ok e3
  have q4 := methS_snd R1 x1 .nil q3
  rcases mt_on hu m k with ⟨id, pa, slot, hty, hm⟩ | no
  · exact ⟨k.nm, id, pa, slot, hty, t1, t2, Calls.callWith_builtin rfl (PySem.evalArgs_none (hm pins s1 σ H1 w [] v [] Q I1 rw1 .nil q4))⟩
  · rw [no_sup no] at q3; exact q3.elim

/-! ### calls -/
/-- what a def promises: its plain run -/
def spF (K : PySem.W.Frag) (mg : Str → Option Value) (T : TT) (n : Nat) (f : Str) : Sp := fun vs H Q _ => ∃ μ h rs, RH K μ h H ∧ VRs K mg μ H vs rs ∧ rs.length = n ∧ Out K mg μ H (T.raw f rs h) Q
theorem frzD_snd {K : PySem.W.Frag} {mg : Str → Option Value} {μ : List Addr} {H : Hp} {h : Boxes} {n : Nat} {r : RV} {d : D} {v : V} (R : RH K μ h H) (x : VR K mg μ H v r) (e : frzD n h r = some d) : VD K (μ.take n) H v d := by
  cases r with
  | pd d' => cases e; cases x with | pd q => exact VD.less _ _ q
  | rf k =>
    simp only [frzD] at e
    split at e
    · rename_i hk
      cases q : h[k]? with
      | none => rw [q] at e; cases e
      | some b =>
        rw [q] at e
        cases b with
        | gone => cases e
        | mix _ => cases e
        | lst ds =>
          cases e
          cases x with
          | rf ha => exact VD.ofBox R ha q hk
    · cases e
  | tp _ => cases e
  | fz _ => cases e
  | gl _ => cases e
theorem frzDs_snd {K : PySem.W.Frag} {mg : Str → Option Value} {μ : List Addr} {H : Hp} {h : Boxes} {n : Nat} (R : RH K μ h H) : ∀ {rs : List RV} {ds : List D} {vs : List V}, VRs K mg μ H vs rs → frzDs n h rs = some ds → VDs K (μ.take n) H vs ds
  | [], _, _, .nil, e => by cases e; exact .nil
  | r :: rs, _, _, .cons x t, e => by
    simp only [frzDs] at e
    cases q : frzD n h r with
    | none => rw [q] at e; cases e
    | some d =>
      rw [q] at e
      cases q2 : frzDs n h rs with
      | none => rw [q2] at e; cases e
      | some ds => rw [q2] at e; cases e; exact .cons (frzD_snd R x q) (frzDs_snd R t q2)
theorem settle_snd {K : PySem.W.Frag} {mg : Str → Option Value} {μ μ' : List Addr} {H H' : Hp} {h h' h2 : Boxes} {r r2 : RV} {v : V} (R : RH K μ h H) (R' : RH K μ' h' H') (E : Ext μ H μ' H') (x : VR K mg μ' H' v r)
    (e : settle h.length bx r h' = .ok r2 h2) : ∃ μ2, RH K μ2 h2 H' ∧ Ext μ H μ2 H' ∧ VR K mg μ2 H' v r2 := by
  have tk : μ'.take h.length = μ := by rw [← R.len]; exact E.take
  have Rt : RH K μ (h'.take h.length) H' := by have := R'.less (k := h.length); rw [tk] at this; exact this
  cases r with
  | pd d =>
    cases e
    cases x with
    | pd q => exact ⟨μ, Rt, E.back, .pd (by have := VD.less (k := h.length) _ _ q; rw [tk] at this; exact this)⟩
  | gl n =>
    cases e
    cases x with
    | gl q => exact ⟨μ, Rt, E.back, .gl q⟩
  | fz ds => cases e
  | tp rs =>
    simp only [settle] at e
    cases q : frzDs h.length h' rs with
    | none => rw [q] at e; cases e
    | some ds =>
      rw [q] at e; cases e
      cases x with
      | tp t n z xs =>
        refine ⟨μ, Rt, E.back, .pd (.tup t (fun m => ?_) z (by have := frzDs_snd R' xs q; rw [tk] at this; exact this))⟩
        exact n (by rw [← tk] at m; exact List.mem_of_mem_take m)
  | rf k =>
    cases x with
    | @rf a _ ha =>
      simp only [settle] at e
      split at e
      · rename_i hk
        cases e
        refine ⟨μ, Rt, E.back, .rf ?_⟩
        rw [← tk, List.getElem?_take, if_pos hk]; exact ha
      · rename_i hk
        cases q : h'[k]? with
        | none => rw [q] at e; cases e
        | some b =>
          rw [q] at e
          cases b with
          | gone => cases e
          | mix cs =>
            simp only at e
            split at e
            · cases e
              have hkl : k < μ'.length := by
                rcases Nat.lt_or_ge k μ'.length with z | z
                · exact z
                · rw [List.getElem?_eq_none z] at ha; cases ha
              obtain ⟨t, et⟩ := E.pre
              have hμ : μ.length = h.length := R.len
              refine ⟨μ'.take (k + 1), R'.less, ⟨E.keep, ⟨t.take (k + 1 - μ.length), ?_⟩, fun b hb nb => E.new b (List.mem_of_mem_take hb) nb⟩, .rf ?_⟩
              · rw [et, List.take_append, List.take_of_length_le (by omega)]
              · rw [List.getElem?_take, if_pos (by omega)]; exact ha
            · cases e
          | lst ds =>
            simp only at e
            have vd := VD.ofBox R' ha q (Nat.le_of_not_lt hk)
            rw [tk] at vd
            split at e
            · cases e
              cases vd with
              | @lst _ vs _ q1 n1 z1 r1 =>
                have hn : H a = none := E.new a (List.mem_of_getElem? ha) n1
                have E2 : Ext μ H (μ ++ [a]) H' := ⟨E.keep, ⟨[a], rfl⟩, fun b hb nb => by
                  rcases List.mem_append.mp hb with m | m
                  · exact absurd m nb
                  · have : b = a := by simpa using m
                    rw [this]; exact hn⟩
                refine ⟨μ ++ [a], ⟨by simp [Rt.len], ?_, fun i b bb e1 e2 => ?_, fun i cs e2 => ?_⟩, E2, .rf ?_⟩
                · rw [List.nodup_append]
                  exact ⟨Rt.nd, by simp, fun x hx y hy z => n1 (by
                    have e : y = a := by simpa using hy
                    rw [← e, ← z]; exact hx)⟩
                · have hsub : ∀ c, c ∈ μ ++ [a] → c ∈ μ' := fun c hc => by
                    rcases List.mem_append.mp hc with m | m
                    · rw [← tk] at m; exact List.mem_of_mem_take m
                    · have : c = a := by simpa using m
                      rw [this]; exact List.mem_of_getElem? ha
                  by_cases hi : i < μ.length
                  · rw [List.getElem?_append_left hi] at e1
                    rw [List.getElem?_append_left (by rw [← Rt.len]; exact hi)] at e2
                    have hi' : i < h.length := by rw [← R.len]; exact hi
                    rw [List.getElem?_take, if_pos hi'] at e2
                    have e1' : μ'[i]? = some b := E.get e1
                    refine (R'.box i b bb e1' e2).sub hsub fun cs ec n m c hc => ?_
                    subst ec
                    have hn := R'.low i cs e2 n m
                    have : n < μ.length := by omega
                    rw [List.getElem?_append_left this, ← tk, List.getElem?_take, if_pos (by rw [← R.len]; exact this)]; exact hc
                  · have hi' : i = μ.length := by
                      have : i < (μ ++ [a]).length := by
                        rcases Nat.lt_or_ge i (μ ++ [a]).length with z | z
                        · exact z
                        · rw [List.getElem?_eq_none z] at e1; cases e1
                      simp at this; omega
                    subst hi'
                    rw [List.getElem?_append_right (Nat.le_refl _)] at e1
                    rw [List.getElem?_append_right (by rw [Rt.len]; exact Nat.le_refl _), ← Rt.len] at e2
                    simp at e1 e2
                    subst e1; subst e2
                    exact (R'.box k _ _ ha q).sub hsub fun cs ec => by cases ec
                · by_cases hi : i < h.length
                  · rw [List.getElem?_append_left (by rw [← Rt.len, R.len]; exact hi), List.getElem?_take, if_pos hi] at e2
                    exact R'.low i cs e2
                  · rw [List.getElem?_append_right (by rw [← Rt.len, R.len]; omega)] at e2
                    cases z : i - (h'.take h.length).length with
                    | zero => rw [z] at e2; simp at e2
                    | succ m => rw [z] at e2; simp at e2
                · rw [← R.len, List.getElem?_append_right (Nat.le_refl _)]; simp
            · cases e
              exact ⟨μ, Rt, E.back, .pd vd⟩
theorem call_snd {K : PySem.W.Frag} {mg : Str → Option Value} {μ : List Addr} {H : Hp} {h : Boxes} {f : Str} {n : Nat} {rs : List RV} {vs : List V} {Q : VK} {E : XK} (R : RH K μ h H) (xs : VRs K mg μ H vs rs) (hl : rs.length = n) (o : Out K mg μ H (T.call bx f rs h) Q) : spF K mg T n f vs H Q E := by
  refine ⟨μ, h, rs, R, xs, hl, ?_⟩
  unfold TT.call at o
  cases e : T.raw f rs h with
  | ex _ _ => rw [e] at o; exact o.elim
  | no => rw [e] at o; exact o.elim
  | ok r h1 =>
    rw [e] at o
    intro v μ1 H1 R1 E1 x1
    obtain ⟨r2, h2, e2⟩ := o.inv
    obtain ⟨μ2, R2, E2, x2⟩ := settle_snd R R1 E1 x1 e2
    have o' : Out K mg μ H (.ok r2 h2) Q := by rw [← e2]; exact o
    exact o' v μ2 H1 R2 E2 x2
theorem p_call {f : Str} {fa : Addr} {fd : FuncData} {ps : List Str} {k : Nat} {p : Pos} {es : List Expr} {xs : List E} (F : FnG X.prog X.w X.K X.mg X.base k fa fd ps (spF X.K X.mg T ps.length f)) (gd : X.A.guards = some []) (hr : Room k X.A) (hg : Gl X f) (hm : X.mg f = some (.ref fa))
    (hk : PySem.W.keepIn X.K (.ref fa) = true) (hb : Binds X.K fd ps []) (ha : pA X T (a :: es) xs) (hl : xs.length = ps.length) (hdb : (f == ("__debug__" : Str)) = false) (he : starEach (a :: es) X.env = (false, eval a X.env) :: starEach es X.env)
    (hpl : (backTo pos (starEach es X.env)).any (·.1) = false) : pE X T (.Call (.Name f p) (a :: es) [] pos) (.call f xs) := fun bx =>
  PEimp (pe_g F gd hr hg hm hk hb ha hdb he hpl) fun σ H Q ⟨σ', μ, h, S, R, o⟩ => by
    simp only [ev] at o
    obtain ⟨r, h1, e1, o1⟩ := o.bnd
    refine ⟨σ', μ, h, S, R, OutL.of e1 fun v μ1 H1 R1 E1 x1 => ?_⟩
    have len : ∀ (xs : List E) (h h' : Boxes) (r : List RV), evs T σ' xs h = .ok r h' → r.length = xs.length := by
      intro xs
      induction xs with
      | nil => intro h h' r e; simp only [evs] at e; cases e; rfl
      | cons y ys ih =>
        intro h h' r e
        simp only [evs] at e
        obtain ⟨r0, h0, e0, e⟩ := bnd_ok e
        obtain ⟨r1, h2, e2, e⟩ := bnd_ok e
        obtain ⟨rfl, rfl⟩ := ret_ok e
        simp [ih _ _ _ e2]
    exact call_snd R1 x1 (by rw [len _ _ _ _ e1, hl]) (o1.up E1)
theorem p_call0 {f : Str} {fa : Addr} {fd : FuncData} {k : Nat} {p : Pos} (F : FnG X.prog X.w X.K X.mg X.base k fa fd [] (spF X.K X.mg T 0 f)) (gd : X.A.guards = some []) (hr : Room k X.A) (hg : Gl X f) (hm : X.mg f = some (.ref fa))
    (hk : PySem.W.keepIn X.K (.ref fa) = true) (hb : Binds X.K fd [] []) (hdb : (f == ("__debug__" : Str)) = false) : pE X T (.Call (.Name f p) [] [] pos) (.call f []) := fun bx =>
  PEimp (pe_g0 F gd hr hg hm hk hb hdb) fun σ H Q ⟨σ', μ, h, S, R, o⟩ => by
    simp only [ev, evs] at o
    obtain ⟨r, h1, e1, o1⟩ := o.bnd
    obtain ⟨rfl, rfl⟩ := ret_ok e1
    exact call_snd (E := E0) R .nil rfl o1

/-! ### tests -/
abbrev pC (X : Cx) (T : TT) (e : Expr) (ĉ : C) : Prop := PT X e (rdC X.K X.mg T ĉ)
abbrev pW (X : Cx) (T : TT) (e : Expr) (ĉ : C) : Prop := PW X e (rdC X.K X.mg T ĉ)
variable {u w : C}
theorem c_val (ha : pE X T a x) (he : ∀ whole, isTrue a X.env whole = (do let v ← whole; standAt a.pos; holding [v] (truthy v))) : pC X T a (.val x) :=
  PTimp (pt_truth (ha false) he) fun σ H Q ⟨σ', μ, h, S, R, o⟩ => by
    simp only [evC] at o
    obtain ⟨r, h1, e1, o1⟩ := o.bnd
    refine ⟨σ', μ, h, S, R, Out.of e1 fun v μ1 H1 R1 E1 x1 => ?_⟩
    obtain ⟨k, h2, e2⟩ := o1.inv
    obtain ⟨rfl, t⟩ := truth_snd R1 x1 e2
    rw [e2] at o1
    exact ⟨k, t, o1 _ _ R1 E1⟩
theorem c_cmp {op : CmpOp} (hu : X.A.units + 70 < cLine) (ha : pE X T a x) (hb : pE X T b y) (hm : behindInMarks op b = false) : pC X T (.Compare a [op] [b] pos) (.val (.cmp op x y)) :=
  PTimp (pt_cmpR (op_cmp hu op) (ha false) (hb false) hm) fun σ H Q ⟨σ', μ, h, S, R, o⟩ => by
    simp only [evC, ev] at o
    obtain ⟨r0, h0, e0, o0⟩ := o.bnd
    obtain ⟨r, h1, e1, g1⟩ := bnd_ok e0
    refine ⟨σ', μ, h, S, R, Out.of e1 fun v μ1 H1 R1 E1 x1 => ?_⟩
    obtain ⟨r2, h2, e2, g2⟩ := bnd_ok g1
    refine ⟨σ', μ1, h1, S.ext E1, R1, Out.of e2 fun v2 μ2 H2 R2 E2 x2 => ?_⟩
    obtain ⟨k, h3, e3, g3⟩ := bnd_ok g2
    obtain ⟨rfl, f⟩ := cmpS_snd R2 (VR.ext E2 _ _ x1) x2 e3
    obtain ⟨rfl, rfl⟩ := ret_ok g3
    exact f _ ⟨k, rfl, o0 _ _ R2 (E1.trans E2)⟩
theorem c_cmp2 {op op' : CmpOp} (hu : X.A.units + 70 < cLine) (ha : pE X T a x) (hb : pE X T b y) (hc : pE X T c z) (hm : lastMarks [op, op'] [b, c] = false) : pC X T (.Compare a [op, op'] [b, c] pos) (.val (.cmp2 op op' x y z)) :=
  PTimp (pt_chain (op_cmp hu op) (op_cmp hu op') (ha false) (hb false) (hc false) hm) fun σ H Q ⟨σ', μ, h, S, R, o⟩ => by
    simp only [evC, ev] at o
    obtain ⟨r0, h0, e0, o0⟩ := o.bnd
    obtain ⟨r, h1, e1, g1⟩ := bnd_ok e0
    refine ⟨σ', μ, h, S, R, Out.of e1 fun v μ1 H1 R1 E1 x1 => ?_⟩
    obtain ⟨r2, h2, e2, g2⟩ := bnd_ok g1
    refine ⟨σ', μ1, h1, S.ext E1, R1, Out.of e2 fun v2 μ2 H2 R2 E2 x2 => ?_⟩
    obtain ⟨k, h3, e3, g3⟩ := bnd_ok g2
    obtain ⟨rfl, f⟩ := cmpS_snd R2 (VR.ext E2 _ _ x1) x2 e3
    refine f _ ⟨k, rfl, ?_⟩
    cases k with
    | false =>
      rw [if_neg Bool.false_ne_true] at g3 ⊢
      obtain ⟨rfl, rfl⟩ := ret_ok g3
      exact ⟨false, rfl, o0 _ _ R2 (E1.trans E2)⟩
    | true =>
      rw [if_pos rfl] at g3 ⊢
      obtain ⟨r4, h4, e4, g4⟩ := bnd_ok g3
      refine ⟨σ', μ2, _, (S.ext E1).ext E2, R2, Out.of e4 fun v4 μ4 H4 R4 E4 x4 => ?_⟩
      obtain ⟨k', h5, e5, g5⟩ := bnd_ok g4
      obtain ⟨rfl, f'⟩ := cmpS_snd R4 (VR.ext E4 _ _ x2) x4 e5
      obtain ⟨rfl, rfl⟩ := ret_ok g5
      exact f' _ ⟨k', rfl, o0 _ _ R4 ((E1.trans E2).trans E4)⟩
theorem c_and1 (ha : pC X T a u) : pW X T (.BoolOp .And [a] pos) u := pw_and1 ha
theorem c_or1 (ha : pC X T a u) : pW X T (.BoolOp .Or [a] pos) u := pw_or1 ha
theorem c_and {rest : List Expr} (ha : pC X T a u) (hb : pW X T (.BoolOp .And (b :: rest) pos) w) : pW X T (.BoolOp .And (a :: b :: rest) pos) (.and u w) :=
  PWimp (pw_and ha hb) fun σ H Q ⟨σ', μ, h, S, R, o⟩ => by
    simp only [evC] at o
    obtain ⟨k, h1, e1, o1⟩ := o.bnd
    refine ⟨σ', μ, h, S, R, OutB.of e1 fun μ1 H1 R1 E1 => ?_⟩
    cases k with
    | true => rw [if_pos rfl] at o1 ⊢; exact ⟨σ', μ1, h1, S.ext E1, R1, o1.up E1⟩
    | false => rw [if_neg Bool.false_ne_true] at o1 ⊢; exact o1 _ _ R1 E1
theorem c_or {rest : List Expr} (ha : pC X T a u) (hb : pW X T (.BoolOp .Or (b :: rest) pos) w) : pW X T (.BoolOp .Or (a :: b :: rest) pos) (.or u w) :=
  PWimp (pw_or ha hb) fun σ H Q ⟨σ', μ, h, S, R, o⟩ => by
    simp only [evC] at o
    obtain ⟨k, h1, e1, o1⟩ := o.bnd
    refine ⟨σ', μ, h, S, R, OutB.of e1 fun μ1 H1 R1 E1 => ?_⟩
    cases k with
    | true => rw [if_pos rfl] at o1 ⊢; exact o1 _ _ R1 E1
    | false => rw [if_neg Bool.false_ne_true] at o1 ⊢; exact ⟨σ', μ1, h1, S.ext E1, R1, o1.up E1⟩
theorem c_not (ha : pC X T a u) : pC X T (.UnaryOp .Not a pos) (.not u) :=
  PTimp (pt_not ha) fun σ H Q ⟨σ', μ, h, S, R, o⟩ => by
    simp only [evC] at o
    obtain ⟨k, h1, e1, o1⟩ := o.bnd
    exact ⟨σ', μ, h, S, R, OutB.of e1 fun μ1 H1 R1 E1 => o1 _ _ R1 E1⟩
end
end AI

set_option Elab.async false
set_option linter.all false
set_option maxRecDepth 100000
set_option maxHeartbeats 4000000
/-! AiPI: what is walked. -/
namespace AI
open PySem L2 SeqAt RT
structure IsW (K : PySem.W.Frag) (s : Src) (μ1 : List Addr) (H1 : Hp) (J : It) : Prop where
  go : ∀ i μ' h' H' d h'', RH K μ' h' H' → Ext μ1 H1 μ' H' → i < s.items.length → srcAt s i h' = .ok d h'' → h'' = h' ∧ J.go i H' ∧ ∀ x H'', J.yld i H' x H'' → H'' = H' ∧ VD K μ' H' x d
  stop : ∀ μ' h' H' u h'', RH K μ' h' H' → Ext μ1 H1 μ' H' → srcEnd s h' = .ok u h'' → h'' = h' ∧ J.stop s.items.length H'
def rdI (K : PySem.W.Frag) (mg : Str → Option Value) (T : TT) (i : I) : TI := fun σ H R => ∃ σ' μ h s h1, SR K mg μ H σ σ' ∧ RH K μ h H ∧ evI T σ' i h = .ok s h1 ∧
  ∀ μ1 H1 J, RH K μ1 h1 H1 → Ext μ H μ1 H1 → IsW K s μ1 H1 J → R J H1
section
variable {K : PySem.W.Frag} {μ : List Addr} {H : Hp} {h : Boxes}
/-- a list that stays -/
theorem w_list {a : Addr} {vs : List V} {ds : List D} (st : ∀ μ' H', Ext μ H μ' H' → SqL K H' a vs ∧ VDs K μ' H' vs ds) : IsW K ⟨ds, none⟩ μ H (Itl K a) where
  go := fun i μ' h' H' d h'' R E hi e => by
    obtain ⟨ge, rfl⟩ := opt_ok (show M.opt ds[i]? h' = .ok d h'' from e)
    obtain ⟨q, r⟩ := st _ _ E
    obtain ⟨v, e1, x1⟩ := r.get ge
    exact ⟨rfl, ⟨vs, v, q, e1⟩, fun x H'' ⟨e2, f⟩ => ⟨e2, by have := f vs q; rw [e1] at this; cases this; exact x1⟩⟩
  stop := fun μ' h' H' u h'' R E e => by
    obtain ⟨q, r⟩ := st _ _ E
    cases e
    exact ⟨rfl, vs, q, Nat.le_of_eq r.length⟩
theorem w_tup {a : Addr} {vs : List V} {ds : List D} (st : ∀ μ' H', Ext μ H μ' H' → SqT K H' a vs ∧ VDs K μ' H' vs ds) : IsW K ⟨ds, none⟩ μ H (Itt K a) where
  go := fun i μ' h' H' d h'' R E hi e => by
    obtain ⟨ge, rfl⟩ := opt_ok (show M.opt ds[i]? h' = .ok d h'' from e)
    obtain ⟨q, r⟩ := st _ _ E
    obtain ⟨v, e1, x1⟩ := r.get ge
    exact ⟨rfl, ⟨vs, v, q, e1⟩, fun x H'' ⟨e2, f⟩ => ⟨e2, by have := f vs q; rw [e1] at this; cases this; exact x1⟩⟩
  stop := fun μ' h' H' u h'' R E e => by
    obtain ⟨q, r⟩ := st _ _ E
    cases e
    exact ⟨rfl, vs, q, Nat.le_of_eq r.length⟩
theorem w_box {a : Addr} {n : Nat} {ds : List D} (ha : μ[n]? = some a) : IsW K ⟨ds, some n⟩ μ H (Itl K a) where
  go := fun i μ' h' H' d h'' R E hi e => by
    simp only [srcAt] at e
    cases q : h'[n]? with
    | none => rw [q] at e; cases e
    | some b =>
      rw [q] at e
      cases b with
      | gone => cases e
      | mix _ => cases e
      | lst es =>
        simp only at e
        split at e
        · rename_i hl
          cases q2 : es[i]? with
          | none => rw [q2] at e; cases e
          | some d' =>
            rw [q2] at e; cases e
            obtain ⟨vs, q3, r, z⟩ := R.box n a _ (E.get ha) q
            obtain ⟨v, e1, x1⟩ := r.get q2
            exact ⟨rfl, ⟨vs, v, .of q3, e1⟩, fun x H'' ⟨e2, f⟩ => ⟨e2, by have := f vs (.of q3); rw [e1] at this; cases this; exact x1⟩⟩
        · cases e
  stop := fun μ' h' H' u h'' R E e => by
    simp only [srcEnd] at e
    cases q : h'[n]? with
    | none => rw [q] at e; cases e
    | some b =>
      rw [q] at e
      cases b with
      | gone => cases e
      | mix _ => cases e
      | lst es =>
        simp only at e
        split at e
        · rename_i hl
          cases e
          obtain ⟨vs, q3, r, z⟩ := R.box n a _ (E.get ha) q
          exact ⟨rfl, vs, .of q3, by rw [r.length, hl]; exact Nat.le_refl _⟩
        · cases e
theorem w_rng {lo : Int} {n : Nat} : IsW K ⟨rngL lo n, none⟩ μ H (Itr lo n) where
  go := fun i μ' h' H' d h'' R E hi e => by
    obtain ⟨ge, rfl⟩ := opt_ok (show M.opt (rngL lo n)[i]? h' = .ok d h'' from e)
    have hi' : i < n := by simpa [rngL] using hi
    have ed : d = .int (lo + i) := by
      simp [rngL, hi'] at ge
      exact ge.symm
    exact ⟨rfl, hi', fun x H'' ⟨e2, f⟩ => ⟨e2, by rw [f, ed]; exact .int _⟩⟩
  stop := fun μ' h' H' u h'' R E e => by
    cases e
    exact ⟨rfl, by simp [rngL, Itr]⟩
theorem w_str {z : Str} : IsW K ⟨z.cps.toList.map fun c => .str ⟨#[c]⟩, none⟩ μ H (Its z) where
  go := fun i μ' h' H' d h'' R E hi e => by
    obtain ⟨ge, rfl⟩ := opt_ok (show M.opt (z.cps.toList.map fun c => PyData.str ⟨#[c]⟩)[i]? h' = .ok d h'' from e)
    have hi' : i < z.cps.size := by simpa using hi
    refine ⟨rfl, hi', fun x H'' ⟨e2, c, e3, e4⟩ => ⟨e2, ?_⟩⟩
    rw [e4]
    have : d = .str ⟨#[c]⟩ := by
      simp [hi'] at ge
      have e5 : z.cps[i] = c := by simpa [hi'] using e3
      rw [← ge, e5]
    rw [this]; exact .str _
  stop := fun μ' h' H' u h'' R E e => by
    cases e
    exact ⟨rfl, by simp [Its]⟩
theorem rev_get {α : Type} {xs : List α} {i : Nat} (hi : i < xs.length) : xs.reverse[i]? = xs[xs.length - 1 - i]? := List.getElem?_reverse hi
theorem w_rev {a : Addr} {vs : List V} {ds : List D} (st : ∀ μ' H', Ext μ H μ' H' → SqL K H' a vs ∧ VDs K μ' H' vs ds) (hl : vs.length = ds.length) : IsW K ⟨ds.reverse, none⟩ μ H (Itv K a vs.length) where
  go := fun i μ' h' H' d h'' R E hi e => by
    obtain ⟨ge, rfl⟩ := opt_ok (show M.opt ds.reverse[i]? h' = .ok d h'' from e)
    obtain ⟨q, r⟩ := st _ _ E
    have hi' : i < vs.length := by rw [hl]; simpa using hi
    obtain ⟨v, e1, x1⟩ := r.reverse.get ge
    rw [rev_get hi'] at e1
    exact ⟨rfl, ⟨hi', vs, v, q, e1⟩, fun x H'' ⟨e2, f⟩ => ⟨e2, by have := f vs q; rw [e1] at this; cases this; exact x1⟩⟩
  stop := fun μ' h' H' u h'' R E e => by
    cases e
    exact ⟨rfl, by simp [Itv, hl]⟩
theorem w_revT {a : Addr} {vs : List V} {ds : List D} (st : ∀ μ' H', Ext μ H μ' H' → SqT K H' a vs ∧ VDs K μ' H' vs ds) (hl : vs.length = ds.length) : IsW K ⟨ds.reverse, none⟩ μ H (ItvT K a vs.length) where
  go := fun i μ' h' H' d h'' R E hi e => by
    obtain ⟨ge, rfl⟩ := opt_ok (show M.opt ds.reverse[i]? h' = .ok d h'' from e)
    obtain ⟨q, r⟩ := st _ _ E
    have hi' : i < vs.length := by rw [hl]; simpa using hi
    obtain ⟨v, e1, x1⟩ := r.reverse.get ge
    rw [rev_get hi'] at e1
    exact ⟨rfl, ⟨hi', vs, v, q, e1⟩, fun x H'' ⟨e2, f⟩ => ⟨e2, by have := f vs q; rw [e1] at this; cases this; exact x1⟩⟩
  stop := fun μ' h' H' u h'' R E e => by
    cases e
    exact ⟨rfl, by simp [ItvT, hl]⟩
end
section
variable {X : Cx} {T : TT} {a b c : Expr} {x y z : E} {pos : Pos} {tg : Expr}
/-- a list, a tuple or a text is walked -/
def iAny (K : PySem.W.Frag) (te : TE) : TI := fun σ H R => te σ H fun x H1 => (∃ a, x = .ref a ∧ (∃ xs, SqL K H1 a xs) ∧ R (Itl K a) H1) ∨ (∃ a, x = .ref a ∧ (∃ xs, SqT K H1 a xs) ∧ R (Itt K a) H1) ∨ (∃ z, x = .str z ∧ R (Its z) H1)
theorem pi_any {te : TE} (he : PE X a te) : PI X tg a (iAny X.K te) := by
  refine ⟨fun pins s σ H R I h => thn (he.run pins s σ H _ I h) fun v s1 ⟨w, H1, I1, r1, q1⟩ => ?_⟩
  rcases q1 with ⟨p, ew, ⟨xs, hq⟩, q⟩ | ⟨p, ew, ⟨xs, hq⟩, q⟩ | ⟨t, ew, q⟩
  · subst ew
    cases r1
    obtain ⟨its, rv, pl, hz⟩ := I1.list hq
    exact wpAny_pyIter_list pl.isList (pi_one (tk := s1.toks) I1 _ (turn_list p _) ⟨_, Heap.get?_push_size _ rfl, rfl, rfl⟩ q)
  · subst ew
    cases r1
    obtain ⟨its, rv, pl, hz⟩ := I1.tuple hq
    exact wpAny_pyIter_tuple (show s1.heap.IsTuple p its.toArray from pl) (pi_one (tk := s1.toks) I1 _ (turn_tuple p _) ⟨_, Heap.get?_push_size _ rfl, rfl, rfl⟩ q)
  · subst ew
    obtain ⟨k, rfl⟩ := r1
    rcases ha : t.cps.all (· < 128) with _ | _
    · exact wpAny_pyIter_wide ha (pi_one (tk := s1.toks) I1 _ (turn_str _ t k "str_iterator" (.inr rfl)) ⟨_, Heap.get?_push_size _ rfl, rfl, rfl⟩ q)
    · exact wpAny_pyIter_ascii ha (pi_one (tk := s1.toks) I1 _ (turn_str _ t k "str_ascii_iterator" (.inl rfl)) ⟨_, Heap.get?_push_size _ rfl, rfl, rfl⟩ q)
abbrev pIt (X : Cx) (T : TT) (tg e : Expr) (i : I) : Prop := PI X tg e (rdI X.K X.mg T i)
theorem i_val (ha : pE X T a x) : pIt X T tg a (.val x) := PIimp (pi_any (ha false)) fun σ H R ⟨σ', μ, h, s, h1, S, Rh, e, f⟩ => by
  simp only [evI] at e
  obtain ⟨r, h0, e0, e1⟩ := bnd_ok e
  refine ⟨σ', μ, h, S, Rh, Out.of e0 fun v μ1 H1 R1 E1 x1 => ?_⟩
  unfold srcOf at e1
  split at e1
  · obtain ⟨rfl, rfl⟩ := ret_ok e1
    cases x1 with
    | pd q =>
      cases q with
      | @lst p vs _ q n z r => exact .inl ⟨p, rfl, ⟨vs, .of q⟩, f _ _ _ R1 E1 (w_list fun μ' H' E => ⟨.of (E.keep _ _ q n), VDs.ext E _ _ r⟩)⟩
  · obtain ⟨rfl, rfl⟩ := ret_ok e1
    cases x1 with
    | pd q =>
      cases q with
      | @tup p vs _ q n z r => exact .inr (.inl ⟨p, rfl, ⟨vs, q.sq⟩, f _ _ _ R1 E1 (w_tup fun μ' H' E => ⟨(q.ext E n).1.sq, VDs.ext E _ _ r⟩)⟩)
      | @tupK p vs _ q r =>
        have sq : ∀ H', SqT X.K H' p vs := fun H' => by
          obtain ⟨o, its, n, q1, q2, q3, q4, hz, rv⟩ := q
          exact .inr ⟨o, its, n, q1, q2, q4, hz, rv⟩
        exact .inr (.inl ⟨p, rfl, ⟨vs, sq _⟩, f _ _ _ R1 E1 (w_tup fun μ' H' E => ⟨sq _, VDs.ext E _ _ r⟩)⟩)
  · obtain ⟨rfl, rfl⟩ := ret_ok e1
    cases x1 with
    | pd q => cases q; exact .inr (.inr ⟨_, rfl, f _ _ _ R1 E1 w_str⟩)
  · obtain ⟨rfl, rfl⟩ := ret_ok e1
    cases x1 with
    | @fz p vs _ q o z r =>
      rcases o with ⟨⟨ob, o⟩, n⟩ | o
      · exact .inl ⟨p, rfl, ⟨vs, q⟩, f _ _ _ R1 E1 (w_list fun μ' H' E => ⟨.inl (.inr ⟨ob, E.keep _ _ o n⟩), VDs.ext E _ _ r⟩)⟩
      · exact .inl ⟨p, rfl, ⟨vs, q⟩, f _ _ _ R1 E1 (w_list fun μ' H' E => ⟨.inr o, VDs.ext E _ _ r⟩)⟩
  · rename_i n
    cases x1 with
    | @rf p _ ha =>
      cases q : h0[n]? with
      | none => rw [q] at e1; cases e1
      | some b =>
        rw [q] at e1
        cases b with
        | gone => cases e1
        | mix _ => cases e1
        | lst ds =>
          cases e1
          obtain ⟨vs, q1, r, z⟩ := R1.box n p _ ha q
          exact .inl ⟨p, rfl, ⟨vs, .of q1⟩, f _ _ _ R1 E1 (w_box ha)⟩
  · cases e1
theorem i_rng1 {p : Pos} (hg : Gl X "range") (hm : X.mg "range" = none) (ha : pA X T [a] [x]) (hs : starEach [a] X.env = [(false, eval a X.env)]) : pIt X T tg (.Call (.Name "range" p) [a] [] pos) (.rng [x]) :=
  PIimp (pi_range1 hg hm ha hs) fun σ H R ⟨σ', μ, h, s, h1, S, Rh, e, f⟩ => by
    simp only [evI] at e
    obtain ⟨r, h0, e0, e1⟩ := bnd_ok e
    refine ⟨σ', μ, h, S, Rh, OutL.of e0 fun v μ1 H1 R1 E1 x1 => ?_⟩
    unfold rngOf at e1
    split at e1
    · obtain ⟨_, h2, e2, e3⟩ := bnd_ok e1
      obtain ⟨g, rfl⟩ := grd_ok e2
      obtain ⟨rfl, rfl⟩ := ret_ok e3
      have g := of_decide_eq_true g
      cases x1 with
      | cons x1 xt =>
        cases xt
        cases x1 with
        | pd x1 => cases x1; exact ⟨_, rfl, g.1, g.2, f _ _ _ R1 E1 w_rng⟩
    · exfalso
      simp only [evs] at e0
      obtain ⟨r1, h3, e4, e5⟩ := bnd_ok e0
      obtain ⟨r2, h4, e6, e7⟩ := bnd_ok e5
      obtain ⟨rfl, rfl⟩ := ret_ok e6
      obtain ⟨e8, _⟩ := ret_ok e7
      cases e8
    · cases e1
theorem i_rng2 {p : Pos} (hg : Gl X "range") (hm : X.mg "range" = none) (ha : pA X T [a, b] [x, y]) (hs : starEach [a, b] X.env = [(false, eval a X.env), (false, eval b X.env)]) (hs2 : starEach [b] X.env = [(false, eval b X.env)]) :
    pIt X T tg (.Call (.Name "range" p) [a, b] [] pos) (.rng [x, y]) :=
  PIimp (pi_range2 hg hm ha hs hs2) fun σ H R ⟨σ', μ, h, s, h1, S, Rh, e, f⟩ => by
    simp only [evI] at e
    obtain ⟨r, h0, e0, e1⟩ := bnd_ok e
    refine ⟨σ', μ, h, S, Rh, OutL.of e0 fun v μ1 H1 R1 E1 x1 => ?_⟩
    unfold rngOf at e1
    split at e1
    · exfalso
      simp only [evs] at e0
      obtain ⟨r1, h3, e4, e5⟩ := bnd_ok e0
      obtain ⟨r2, h4, e6, e7⟩ := bnd_ok e5
      obtain ⟨r3, h5, e8, e9⟩ := bnd_ok e6
      obtain ⟨r4, h6, e10, e11⟩ := bnd_ok e9
      obtain ⟨rfl, rfl⟩ := ret_ok e10
      obtain ⟨rfl, rfl⟩ := ret_ok e11
      obtain ⟨e12, _⟩ := ret_ok e7
      cases e12
    · obtain ⟨_, h2, e2, e3⟩ := bnd_ok e1
      obtain ⟨g, rfl⟩ := grd_ok e2
      obtain ⟨rfl, rfl⟩ := ret_ok e3
      have g := of_decide_eq_true g
      cases x1 with
      | cons x1 xt =>
        cases xt with
        | cons x2 xt =>
          cases xt
          cases x1 with
          | pd x1 =>
            cases x1
            cases x2 with
            | pd x2 => cases x2; exact ⟨_, _, rfl, g, f _ _ _ R1 E1 w_rng⟩
    · cases e1
theorem i_rev {p : Pos} (hg : Gl X "reversed") (hm : X.mg "reversed" = none) (ha : pE X T a x) (hs : starEach [a] X.env = (false, eval a X.env) :: starEach [] X.env) : pIt X T tg (.Call (.Name "reversed" p) [a] [] pos) (.rev x) :=
  PIimp (pi_revA hg hm (ha false) hs) fun σ H R ⟨σ', μ, h, s, h1, S, Rh, e, f⟩ => by
    simp only [evI] at e
    obtain ⟨r, h0, e0, e1⟩ := bnd_ok e
    refine ⟨σ', μ, h, S, Rh, Out.of e0 fun v μ1 H1 R1 E1 x1 => ?_⟩
    unfold revOf at e1
    split at e1
    · obtain ⟨rfl, rfl⟩ := ret_ok e1
      cases x1 with
      | pd q =>
        cases q with
        | @lst p vs _ q n z r => exact ⟨p, vs, rfl, .inl ⟨.of q, f _ _ _ R1 E1 (w_rev (fun μ' H' E => ⟨.of (E.keep _ _ q n), VDs.ext E _ _ r⟩) r.length)⟩⟩
    · obtain ⟨rfl, rfl⟩ := ret_ok e1
      cases x1 with
      | pd q =>
        cases q with
        | @tup p vs _ q n z r => exact ⟨p, vs, rfl, .inr ⟨q.sq, f _ _ _ R1 E1 (w_revT (fun μ' H' E => ⟨(q.ext E n).1.sq, VDs.ext E _ _ r⟩) r.length)⟩⟩
        | @tupK p vs _ q r =>
          have sq : ∀ H', SqT X.K H' p vs := fun H' => by
            obtain ⟨o, its, n, q1, q2, q3, q4, hz, rv⟩ := q
            exact .inr ⟨o, its, n, q1, q2, q4, hz, rv⟩
          exact ⟨p, vs, rfl, .inr ⟨sq _, f _ _ _ R1 E1 (w_revT (fun μ' H' E => ⟨sq _, VDs.ext E _ _ r⟩) r.length)⟩⟩
    · cases e1
end
end AI

set_option Elab.async false
set_option linter.all false
set_option maxRecDepth 100000
set_option maxHeartbeats 4000000
/-! AiPG: targets, comprehensions. -/
namespace AI
open PySem L2 SeqAt
/-! the slots that a target stores -/
mutual
def gSl : G → List Nat
  | .nm i => [i]
  | .tup gs => gSls gs
  | .sub _ _ => []
def gSls : List G → List Nat
  | [] => []
  | g :: gs => gSl g ++ gSls gs
end
theorem wipe_get {σ : L2.St} {k : Nat} : ∀ {vs : List Nat}, (L2.wipe σ vs)[k]? = if k ∈ vs ∧ k < σ.length then some none else σ[k]?
  | [] => by simp [L2.wipe]
  | v :: vs => by
    simp only [L2.wipe]
    by_cases h : v = k
    · subst h
      by_cases z : v < σ.length
      · rw [List.getElem?_set_self (by rw [wipe_length]; exact z)]; simp [z]
      · rw [List.getElem?_eq_none (by simp [wipe_length]; omega)]; simp [z]
    · rw [List.getElem?_set_ne h, wipe_get]
      have : (k ∈ v :: vs) ↔ k ∈ vs := by simp [Ne.symm h]
      simp only [this]
theorem wipe_set {σ : L2.St} {i : Nat} {v : Option V} {vs : List Nat} (h : i ∈ vs) : L2.wipe (σ.set i v) vs = L2.wipe σ vs := by
  apply List.ext_getElem?
  intro k
  rw [wipe_get, wipe_get]
  by_cases e : i = k
  · subst e
    by_cases z : i < σ.length
    · simp [h, z]
    · rw [if_neg (by simp [z]), if_neg (by simp [z]), List.getElem?_eq_none (by simp; omega), List.getElem?_eq_none (by omega)]
  · rw [List.getElem?_set_ne e, List.length_set]
def OutG (K : PySem.W.Frag) (mg : Str → Option Value) (μ : List Addr) (H : Hp) (sl : List Nat) (σ : L2.St) (res : Res Sl) (Q : L2.St → Hp → Prop) : Prop := match res with
  | .ok σ' h' => ∀ σ2 μ' H', RH K μ' h' H' → Ext μ H μ' H' → SR K mg μ' H' σ2 σ' → (∀ own : List Nat, (∀ i ∈ sl, i ∈ own) → L2.wipe σ2 own = L2.wipe σ own) → Q σ2 H'
  | _ => False
def rdG (K : PySem.W.Frag) (mg : Str → Option Value) (T : TT) (g : G) : TG := fun v σ H Q => ∃ σ' μ h r, SR K mg μ H σ σ' ∧ RH K μ h H ∧ VR K mg μ H v r ∧ OutG K mg μ H (gSl g) σ (asgG T g r σ' h) Q
def rdGs (K : PySem.W.Frag) (mg : Str → Option Value) (T : TT) (g : List G) : TGs := fun vs σ H Q => ∃ σ' μ h rs, SR K mg μ H σ σ' ∧ RH K μ h H ∧ VRs K mg μ H vs rs ∧ OutG K mg μ H (gSls g) σ (asgGs T g rs σ' h) Q
section
variable {K : PySem.W.Frag} {mg : Str → Option Value} {μ μ' : List Addr} {H H' : Hp} {h h' : Boxes} {sl : List Nat} {σ : L2.St} {Q : L2.St → Hp → Prop}
theorem OutG.bnd {α : Type} {m : M α} {f : α → M Sl} (o : OutG K mg μ H sl σ (M.bnd m f h) Q) : ∃ a h1, m h = .ok a h1 ∧ OutG K mg μ H sl σ (f a h1) Q := by
  unfold M.bnd at o
  cases e : m h with
  | ok a h1 => rw [e] at o; exact ⟨a, h1, rfl, o⟩
  | ex x h1 => rw [e] at o; exact o.elim
  | no => rw [e] at o; exact o.elim
theorem OutG.up {res : Res Sl} (e : Ext μ H μ' H') (o : OutG K mg μ H sl σ res Q) : OutG K mg μ' H' sl σ res Q := by
  cases res with
  | ok r h' => exact fun σ2 μ2 H2 a b c d => o σ2 μ2 H2 a (e.trans b) c d
  | ex _ _ => exact o
  | no => exact o
theorem OutG.of {res : Res Sl} {r : Sl} (e : res = .ok r h') (f : ∀ σ2 μ' H', RH K μ' h' H' → Ext μ H μ' H' → SR K mg μ' H' σ2 r → (∀ own : List Nat, (∀ i ∈ sl, i ∈ own) → L2.wipe σ2 own = L2.wipe σ own) → Q σ2 H') : OutG K mg μ H sl σ res Q := by
  rw [e]; exact f
end
section
variable {X : Cx} {T : TT} {a b c : Expr} {x y z : E} {pos : Pos}
abbrev pG (X : Cx) (T : TT) (e : Expr) (g : G) : Prop := PG X e (rdG X.K X.mg T g)
abbrev pGs (X : Cx) (T : TT) (e : List Expr) (g : List G) : Prop := PGs X e (rdGs X.K X.mg T g)
theorem g_nm {i : Nat} {n : Str} (hN : X.N.Nodup) (hi : X.N[i]? = some n) (hx : Loc X.env.scope n) (hf : X.fn n = true ∨ X.env.scope.names.lookup n = some .local) : pG X T (.Name n pos) (.nm i) :=
  PGimp (pg_name hN hi hx hf) fun v σ H Q ⟨σ', μ, h, r, S, R, xv, o⟩ => by
    simp only [asgG] at o
    exact o _ _ _ R .refl (S.set xv i) fun own ho => wipe_set (ho i (by simp [gSl]))
theorem gs_nil : pGs X T [] [] := PGsimp pgs_nil fun vs σ H Q ⟨σ', μ, h, rs, S, R, xv, o⟩ => by
  cases xv with
  | nil => simp only [asgGs] at o; exact ⟨rfl, o _ _ _ R .refl S fun _ _ => rfl⟩
  | cons _ _ => simp only [asgGs] at o; exact o.elim
theorem gs_cons {g : G} {gs : List G} {es : List Expr} (h1 : pG X T a g) (h2 : pGs X T es gs) (hs : (assignEach (a :: es) X.env).map (·.2) = assign a X.env :: (assignEach es X.env).map (·.2)) : pGs X T (a :: es) (g :: gs) :=
  PGsimp (pgs_cons h1 h2 hs) fun vs σ H Q ⟨σ', μ, h, rs, S, R, xv, o⟩ => by
    cases xv with
    | nil => simp only [asgGs] at o; exact o.elim
    | @cons v vs r rs xv xs =>
      simp only [asgGs] at o
      obtain ⟨s1, h1, e1, o1⟩ := o.bnd
      refine ⟨v, vs, rfl, σ', μ, h, r, S, R, xv, OutG.of e1 fun σ2 μ1 H1 R1 E1 S1 w1 => ?_⟩
      refine ⟨s1, μ1, h1, rs, S1, R1, VRs.ext E1 _ _ xs, ?_⟩
      have o2 := o1.up E1
      cases e2 : asgGs T gs rs s1 h1 with
      | ok s2 h2 =>
        rw [e2] at o2
        intro σ3 μ3 H3 R3 E3 S3 w3
        refine o2 σ3 μ3 H3 R3 E3 S3 fun own ho => ?_
        rw [w3 own fun i hi => ho i (by simp [gSls, hi]), w1 own fun i hi => ho i (by simp [gSls, hi])]
      | ex _ _ => rw [e2] at o2; exact o2.elim
      | no => rw [e2] at o2; exact o2.elim
theorem g_tup {es : List Expr} {gs : List G} {k : Nat} (hc : X.calm = true) (h : pGs X T es gs) (hn : (assignEach es X.env).length = gs.length) (hst : (assignEach es X.env).findIdx? (·.1) = none) : pG X T (.Tuple es k pos) (.tup gs) :=
  PGimp (pg_tup (n := gs.length) hc h hn hst) fun v σ H Q ⟨σ', μ, h, r, S, R, xv, o⟩ => by
    simp only [asgG] at o
    obtain ⟨rs, h1, e1, o1⟩ := o.bnd
    unfold itemsOf at e1
    split at e1
    · rename_i ds
      split at e1
      · rename_i hl
        obtain ⟨rfl, rfl⟩ := ret_ok e1
        cases xv with
        | pd q =>
          obtain ⟨p, vs, rfl, q1, r1, _⟩ := q.sqT
          have aux : ∀ (ds : List D) (vs : List V), VDs X.K μ H vs ds → VRs X.K X.mg μ H vs (ds.map RV.pd) := by
            intro ds
            induction ds with
            | nil => intro vs h; cases h; exact .nil
            | cons d ds ih => intro vs h; cases h with | cons a b => exact .cons (.pd a) (ih _ b)
          exact ⟨p, vs, rfl, q1, by rw [r1.length]; exact hl, σ', μ, _, _, S, R, aux _ _ r1, o1⟩
      · cases e1
    · rename_i rs'
      split at e1
      · rename_i hl
        obtain ⟨rfl, rfl⟩ := ret_ok e1
        cases xv with
        | tp q n z xs => exact ⟨_, _, rfl, q.sq, by rw [xs.length]; exact hl, σ', μ, _, _, S, R, xs, o1⟩
      · cases e1
    · cases e1
theorem g_sub {o i : Expr} {eo ei : E} (ho : pE X T o eo) (hi : pE X T i ei)
    (ha : ∀ v, assign (.Subscript o i pos) X.env v = (do
      let ov ← holding [v] (eval o X.env)
      let iv ← holding [v, ov] (eval i X.env)
      standAt pos
      holding [v, ov, iv] (setItem ov iv v)
      release [v, ov, iv] [])) : pG X T (.Subscript o i pos) (.sub eo ei) :=
  PGimp (pg_sub (ho false) (hi false) set_list ha) fun v σ H Q ⟨σ', μ, h, r, S, R, xv, q⟩ => by
    simp only [asgG] at q
    obtain ⟨r1, h1, e1, q1⟩ := q.bnd
    refine ⟨σ', μ, h, S, R, Out.of e1 fun v1 μ1 H1 R1 E1 x1 => ?_⟩
    obtain ⟨r2, h2, e2, q2⟩ := (q1.up E1).bnd
    refine ⟨σ', μ1, h1, S.ext E1, R1, Out.of e2 fun v2 μ2 H2 R2 E2 x2 => ?_⟩
    obtain ⟨r3, h3, e3, q3⟩ := (q2.up E2).bnd
    have x1' := VR.ext E2 _ _ x1
    have xv' := VR.ext E2 _ _ (VR.ext E1 _ _ xv)
    unfold setS at e3
    split at e3
    · rename_i n k d
      cases x1' with
      | rf ha =>
        cases x2 with
        | pd x2 =>
          cases x2
          cases xv' with
          | pd xv' =>
            unfold setB at e3
            split at e3
            · rename_i cs hb
              split at e3
              · rename_i j hj
                cases e3
                obtain ⟨vs, g1, g2, z⟩ := R2.box _ _ _ ha hb
                refine ⟨_, vs, k, j, rfl, rfl, g1, by rw [Paired.length g2]; exact hj, ?_⟩
                obtain ⟨R3, E3⟩ := R2.writeMix ha hb g2 z xv' j
                exact q3 σ μ2 _ R3 E3 (((S.ext E1).ext E2).ext E3) fun _ _ => rfl
              · cases e3
            rename_i hbn
            have om : Out X.K X.mg μ2 H2 (mod n (fun ds => M.bnd (M.opt (ixN ds.length k)) fun j => M.ret (.none, ds.set j d)) h2) (fun _ H3 => ∃ μ3, RH X.K μ3 h3 H3 ∧ Ext μ2 H2 μ3 H3) := Out.of e3 fun v3 μ3 H3 R3 E3 x3 => ⟨μ3, R3, E3⟩
            obtain ⟨ds, us, d, ds', h4, g1, g2, g3, z, f⟩ := mod_snd R2 ha om
            obtain ⟨j, h5, e5, e6⟩ := bnd_ok g3
            obtain ⟨ge5, rfl⟩ := opt_ok e5
            obtain ⟨e7, rfl⟩ := ret_ok e6
            cases e7
            obtain ⟨μ3, R3, E3⟩ := f _ _ .non (g2.set xv' j)
            refine ⟨_, us, _, j, rfl, rfl, g1, by rw [g2.length]; exact ge5, ?_⟩
            exact q3 σ μ3 _ R3 E3 (((S.ext E1).ext E2).ext E3) fun _ _ => rfl
    · cases e3
end
end AI

set_option Elab.async false
set_option linter.all false
set_option maxRecDepth 100000
set_option maxHeartbeats 4000000
/-! AiLc: comprehensions. -/
namespace AI
open PySem L2 SeqAt
def rdTs (K : PySem.W.Frag) (mg : Str → Option Value) (T : TT) (cs : List C) : L2.TT := fun σ H Q => ∃ σ' μ h, SR K mg μ H σ σ' ∧ RH K μ h H ∧ OutB K μ H (evTs T σ' cs h) Q
section
variable {K : PySem.W.Frag} {mg : Str → Option Value} {T : TT} {bx : Bool} {elt : E} {g : G} {it : I} {ifs : List C} {own : List Nat} {σ : L2.St} {H : Hp} {Q : VK}
theorem wipe_wipe {σ : L2.St} {vs : List Nat} : L2.wipe (L2.wipe σ vs) vs = L2.wipe σ vs := by
  apply List.ext_getElem?
  intro k
  rw [wipe_get, wipe_length, wipe_get]
  by_cases h : k ∈ vs ∧ k < σ.length
  · rw [if_pos h, if_pos h]
  · rw [if_neg h, if_neg h]
/-- what stands at turn i -/
structure AtTurn (K : PySem.W.Frag) (s : Src) (turn : D → M (Option D)) (n : Nat) (D : Addr) (μ1 : List Addr) (H1 : Hp) (hF : Boxes) (i : Nat) (H' : Hp) : Prop where
  le : i ≤ s.items.length
  ex : ∃ μ' h', RH K μ' h' H' ∧ Ext μ1 H1 μ' H' ∧ μ'[n]? = some D ∧ ∃ u, lcB n s turn (s.items.length - i) i h' = .ok u hF
theorem lc_snd (hg : ∀ i ∈ gSl g, i ∈ own) (hy : ∃ σ' μ h, SR K mg μ H σ σ' ∧ RH K μ h H ∧ Out K mg μ H (ev T σ' bx (.lc elt g it ifs own) h) Q) :
    tLc (rdI K mg T it) (rdG K mg T g) (rdTs K mg T ifs) (rdE K mg T false elt) own σ H Q := by
  obtain ⟨σ', μ, h, S, R, o⟩ := hy
  simp only [ev] at o
  obtain ⟨s, h1, e1, o1⟩ := o.bnd
  refine ⟨σ', μ, h, s, h1, S, R, e1, fun μ1 H1 J R1 E1 W D hD => ?_⟩
  generalize hturn : (fun d => M.bnd (asgG T g (.pd d) (wipeS σ' own)) fun σ2 => M.bnd (evTs T σ2 ifs) fun k =>
      if k = true then M.bnd (ev T σ2 false elt) fun r => M.bnd (M.opt (asPd r)) fun y => M.ret (some y)
      else M.ret none) = turn at o1
  unfold lcS at o1
  cases eF : lcB h1.length s turn s.items.length 0 (h1 ++ [.lst []]) with
  | ex _ _ => rw [eF] at o1; exact o1.elim
  | no => rw [eF] at o1; exact o1.elim
  | ok u hF =>
    rw [eF] at o1
    have o1 : Out K mg μ H (settle h1.length bx (.rf h1.length) hF) Q := o1
    obtain ⟨R2, E2⟩ := R1.newBox hD .nil (Nat.zero_le _)
    refine ⟨fun i m H' => m = s.items.length - i ∧ AtTurn K s turn h1.length D μ1 H1 hF i H', ⟨s.items.length, rfl, Nat.zero_le _, μ1 ++ [D], h1 ++ [.lst []], R2, E2, ?_, u, ?_⟩, ?_⟩
    · rw [← R1.len, List.getElem?_append_right (Nat.le_refl _)]; simp
    · simpa using eF
    rintro i m H' ⟨rfl, hle, μ', h', R', E', hD', u', e'⟩
    by_cases hi : i < s.items.length
    · obtain ⟨k, hk⟩ : ∃ k, s.items.length - i = k + 1 := ⟨s.items.length - i - 1, by omega⟩
      rw [hk] at e'
      simp only [lcB] at e'
      obtain ⟨d, h3, e3, e4⟩ := bnd_ok e'
      obtain ⟨rfl, go, yl⟩ := W.go i μ' h' H' d h3 R' E' hi e3
      obtain ⟨r, h5, e5, e6⟩ := bnd_ok e4
      clear e'
      refine .inr ⟨go, fun H'' => AtTurn K s turn h1.length D μ1 H1 hF (i + 1) H'', fun H'' a => ⟨s.items.length - (i + 1), by omega, rfl, a⟩, fun x H'' hyl => ?_⟩
      obtain ⟨rfl, vd⟩ := yl x H'' hyl
      rw [← hturn] at e5
      obtain ⟨s2, h6, e7, e8⟩ := bnd_ok e5
      have S' := ((S.ext (E1.trans E')).wipe own)
      refine ⟨wipeS σ' own, μ', _, .pd d, S', R', .pd vd, OutG.of e7 fun σ2 μ2 H2 R2 E2 S2 w2 => ⟨(w2 own hg).trans wipe_wipe, ?_⟩⟩
      obtain ⟨b, h7, e9, e10⟩ := bnd_ok e8
      refine ⟨s2, μ2, h6, S2, R2, OutB.of e9 fun μ3 H3 R3 E3 => ?_⟩
      have hkk : s.items.length - (i + 1) = k := by omega
      cases b with
      | false =>
        rw [if_neg Bool.false_ne_true] at e10 ⊢
        obtain ⟨rfl, rfl⟩ := ret_ok e10
        exact ⟨hi, μ3, _, R3, (E'.trans E2).trans E3, E3.get (E2.get hD'), u', by rw [hkk]; exact e6⟩
      | true =>
        rw [if_pos rfl] at e10 ⊢
        obtain ⟨r2, h8, e11, e12⟩ := bnd_ok e10
        obtain ⟨y, h9, e13, e14⟩ := bnd_ok e12
        obtain ⟨ge13, rfl⟩ := opt_ok e13
        obtain ⟨rfl, rfl⟩ := ret_ok e14
        refine ⟨s2, μ3, h7, S2.ext E3, R3, Out.of e11 fun v μ4 H4 R4 E4 x4 => ?_⟩
        have vy := asPd_snd ge13 x4
        obtain ⟨w, h10, e15, e16⟩ := bnd_ok e6
        have hD4 : μ4[h1.length]? = some D := E4.get (E3.get (E2.get hD'))
        have om : Out K mg μ4 H4 (mod h1.length (fun ds => M.ret (.none, ds ++ [y])) _) (fun _ H5 => ∃ μ5, RH K μ5 h10 H5 ∧ Ext μ4 H4 μ5 H5) := Out.of e15 fun v5 μ5 H5 R5 E5 x5 => ⟨μ5, R5, E5⟩
        obtain ⟨ds, us, d', ds', h11, g1, g2, g3, z, f⟩ := mod_snd R4 hD4 om
        obtain ⟨g4, rfl⟩ := ret_ok g3
        cases g4
        have hl := g2.length
        simp at z
        obtain ⟨μ5, R5, E5⟩ := f _ _ .non (g2.append (.cons vy .nil))
        exact ⟨us, g1, by omega, hi, μ5, h10, R5, (((E'.trans E2).trans E3).trans E4).trans E5, E5.get hD4, u', by rw [hkk]; exact e16⟩
    · have hn : i = s.items.length := by omega
      subst hn
      rw [Nat.sub_self] at e'
      simp only [lcB] at e'
      obtain ⟨rfl, st⟩ := W.stop μ' h' H' u' hF R' E' e'
      refine .inl ⟨st, ?_⟩
      obtain ⟨r2, h2, e2⟩ := o1.inv
      obtain ⟨μ2, Rb, Eb, xb⟩ := settle_snd (mg := mg) (v := .ref D) (bx := bx) R1 R' E' (.rf hD') e2
      have o2 := o1.up E1
      rw [e2] at o2
      exact o2 _ _ _ Rb Eb xb
end
section
variable {X : Cx} {T : TT} {a b c : Expr} {x y z : E} {pos : Pos}
theorem ts_nil : PTs X [] (rdTs X.K X.mg T []) := ⟨fun pins s σ H Q I ⟨σ', μ, h, S, R, o⟩ => pts_nil.run pins s σ H Q I (by
  simp only [evTs] at o
  exact o _ _ R .refl)⟩
theorem ts_one {u : C} (h : pC X T a u) : PTs X [a] (rdTs X.K X.mg T [u]) := ⟨fun pins s σ H Q I ⟨σ', μ, h', S, R, o⟩ => (pts_one h).run pins s σ H Q I (by
  simp only [evTs] at o
  exact ⟨σ', μ, h', S, R, o⟩)⟩
theorem p_lc {elt tg iter : Expr} {ifs : List Expr} {scope : Scope} {own : List (Str × Nat)} {eelt : E} {g : G} {it : I} {eifs : List C} (hc : X.calm = true) (hN : X.N.Nodup) (hi : pIt X T tg iter it) (ok : BlkOk X.N X.env.scope scope own)
    (hg : ∀ (s : Shared) (H : Hp) (C : Addr) (cl : List (Str × Addr)) (fp : List Addr), pG (X.blk s H scope (compEnvC scope cl C X.env) fp) T tg g)
    (ht : ∀ (s : Shared) (H : Hp) (C : Addr) (cl : List (Str × Addr)) (fp : List Addr), PTs (X.blk s H scope (compEnvC scope cl C X.env) fp) ifs (rdTs X.K X.mg T eifs))
    (he : ∀ (s : Shared) (H : Hp) (C : Addr) (cl : List (Str × Addr)) (fp : List Addr), pE (X.blk s H scope (compEnvC scope cl C X.env) fp) T elt eelt)
    (hs : ∀ x, foldedSetIterable iter X.env x = pure x) (hsl : ∀ i ∈ gSl g, i ∈ own.map (·.2)) :
    pE X T (.ListComp elt [⟨tg, iter, ifs, 0⟩] scope pos) (.lc eelt g it eifs (own.map (·.2))) := fun bx =>
  PEimp (pe_lc hc hN hi ok hg ht (fun s H C cl fp => he s H C cl fp false) hs) fun σ H Q hy => lc_snd hsl hy
end
end AI

set_option Elab.async false
set_option linter.all false
set_option maxRecDepth 100000
set_option maxHeartbeats 4000000
/-! AiPS: statements. -/
namespace AI
open PySem L2 SeqAt
/-- what is wanted behind a statement -/
def OutS (K : PySem.W.Frag) (mg : Str → Option Value) (μ : List Addr) (H : Hp) (res : Res Fl) (D : Ends) : Prop := match res with
  | .ok (.nx s) h' => ∀ σ' μ' H', RH K μ' h' H' → Ext μ H μ' H' → SR K mg μ' H' σ' s → D.nx σ' H'
  | .ok (.rt r) h' => ∀ v μ' H', RH K μ' h' H' → Ext μ H μ' H' → VR K mg μ' H' v r → D.rt v H'
  | .ok (.bk s) h' => ∀ σ' μ' H', RH K μ' h' H' → Ext μ H μ' H' → SR K mg μ' H' σ' s → D.bk σ' H'
  | .ok (.ct s) h' => ∀ σ' μ' H', RH K μ' h' H' → Ext μ H μ' H' → SR K mg μ' H' σ' s → D.ct σ' H'
  | _ => False
section
variable {K : PySem.W.Frag} {mg : Str → Option Value} {T : TT} {μ μ' : List Addr} {H H' : Hp} {h h' : Boxes} {D : Ends} {σ : L2.St}
theorem OutS.bnd {α : Type} {m : M α} {f : α → M Fl} (o : OutS K mg μ H (M.bnd m f h) D) : ∃ a h1, m h = .ok a h1 ∧ OutS K mg μ H (f a h1) D := by
  unfold M.bnd at o
  cases e : m h with
  | ok a h1 => rw [e] at o; exact ⟨a, h1, rfl, o⟩
  | ex x h1 => rw [e] at o; exact o.elim
  | no => rw [e] at o; exact o.elim
theorem OutS.up {res : Res Fl} (e : Ext μ H μ' H') (o : OutS K mg μ H res D) : OutS K mg μ' H' res D := by
  cases res with
  | ok r h' =>
    cases r with
    | nx s => exact fun σ2 μ2 H2 a b c => o σ2 μ2 H2 a (e.trans b) c
    | rt s => exact fun σ2 μ2 H2 a b c => o σ2 μ2 H2 a (e.trans b) c
    | bk s => exact fun σ2 μ2 H2 a b c => o σ2 μ2 H2 a (e.trans b) c
    | ct s => exact fun σ2 μ2 H2 a b c => o σ2 μ2 H2 a (e.trans b) c
  | ex _ _ => exact o
  | no => exact o
/-- behind a statement: what its way out leads to -/
theorem OutS.seq {res : Res Fl} {D' : Ends} {k : Sl → M Fl} (o : ∀ f h', res = .ok f h' → match f with
    | .nx s => OutS K mg μ H (k s h') D'
    | f => OutS K mg μ H (.ok f h') D') (ok : ∃ f h', res = .ok f h')
    (d : D.rt = D'.rt ∧ D.bk = D'.bk ∧ D.ct = D'.ct) (n : ∀ σ' s μ' h' H', RH K μ' h' H' → Ext μ H μ' H' → SR K mg μ' H' σ' s → OutS K mg μ' H' (k s h') D' → D.nx σ' H') : OutS K mg μ H res D := by
  obtain ⟨f, h', rfl⟩ := ok
  have o := o f h' rfl
  obtain ⟨d1, d2, d3⟩ := d
  cases f with
  | nx s => exact fun σ' μ' H' R E S => n σ' s μ' h' H' R E S (o.up E)
  | rt s => show ∀ v μ' H', _ → _ → _ → D.rt v H'; rw [d1]; exact o
  | bk s => show ∀ v μ' H', _ → _ → _ → D.bk v H'; rw [d2]; exact o
  | ct s => show ∀ v μ' H', _ → _ → _ → D.ct v H'; rw [d3]; exact o
def rdS (K : PySem.W.Frag) (mg : Str → Option Value) (T : TT) (s : S) : TS := fun D σ H => ∃ σ' μ h, SR K mg μ H σ σ' ∧ RH K μ h H ∧ OutS K mg μ H (ex T s σ' h) D
def rdSs (K : PySem.W.Frag) (mg : Str → Option Value) (T : TT) (ss : List S) : TS := fun D σ H => ∃ σ' μ h, SR K mg μ H σ σ' ∧ RH K μ h H ∧ OutS K mg μ H (exs T ss σ' h) D
end
section
variable {X : Cx} {T : TT} {a b c : Expr} {x y z : E} {pos : Pos} {st : Stmt} {sts : List Stmt} {s : S} {ss : List S}
abbrev pS (X : Cx) (T : TT) (st : Stmt) (s : S) : Prop := PS X st (rdS X.K X.mg T s)
abbrev pSs (X : Cx) (T : TT) (st : List Stmt) (s : List S) : Prop := PSs X st (rdSs X.K X.mg T s)
theorem s_nil : pSs X T [] [] := PSsimp pss_nil fun D σ H ⟨σ', μ, h, S, R, o⟩ => by
  simp only [exs] at o
  exact o _ _ _ R .refl S
theorem s_cons (h1 : pS X T st s) (h2 : pSs X T sts ss) : pSs X T (st :: sts) (s :: ss) := PSsimp (pss_cons h1 h2) fun D σ H ⟨σ', μ, h, S, R, o⟩ => by
  simp only [exs] at o
  refine ⟨σ', μ, h, S, R, ?_⟩
  obtain ⟨f, h1, e1, o1⟩ := o.bnd
  refine OutS.seq (k := fun s => exs T ss s) (D' := D) (fun f' h' e => ?_) ⟨f, h1, e1⟩ ⟨rfl, rfl, rfl⟩ fun σ2 s2 μ2 h2 H2 R2 E2 S2 o2 => ⟨s2, μ2, h2, S2, R2, o2⟩
  rw [e1] at e
  cases e
  cases f <;> exact o1
theorem s_asg {tg e : Expr} {ê : E} {g : G} (he : pE X T e ê) (hg : pG X T tg g) (hs : swapsWithSole [tg] e pos.line X.env = pure false) (hw : swappedStores [tg] e X.env = pure none) (h1 : (assignEach [tg] X.env).map (·.2) = [assign tg X.env]) :
    pS X T (.Assign [tg] e pos) (.asg g ê) := PSimp (ps_asg (he false) hg hs hw h1) fun D σ H ⟨σ', μ, h, S, R, o⟩ => by
  simp only [ex] at o
  obtain ⟨r, h1, e1, o1⟩ := o.bnd
  refine ⟨σ', μ, h, S, R, Out.of e1 fun v μ1 H1 R1 E1 x1 => ?_⟩
  obtain ⟨s2, h2, e2, o2⟩ := (o1.up E1).bnd
  exact ⟨σ', μ1, h1, r, S.ext E1, R1, x1, OutG.of e2 fun σ2 μ2 H2 R2 E2 S2 _ => o2 _ _ _ R2 E2 S2⟩
/-- name = [..] with the comprehension's own way of storing -/
theorem s_setLc {i : Nat} {n : Str} {py spos : Pos} {elt tg iter : Expr} {ifs : List Expr} {scope : Scope} {own : List (Str × Nat)} {eelt : E} {g : G} {it : I} {eifs : List C} {bx : Bool} (hc : X.calm = true) (hN : X.N.Nodup) (hy : X.N[i]? = some n)
    (hyl : X.env.scope.names.lookup n = some .local) (hsw : swapsWith (.ListComp elt [⟨tg, iter, ifs, 0⟩] scope pos) (some (.Name n py)) spos.line X.env = pure true) (hi : pIt X T tg iter it) (ok : BlkOk X.N X.env.scope scope own)
    (hg : ∀ (s : Shared) (H : Hp) (C : Addr) (cl : List (Str × Addr)) (fp : List Addr), pG (X.blk s H scope (compEnvC scope cl C X.env) fp) T tg g)
    (ht : ∀ (s : Shared) (H : Hp) (C : Addr) (cl : List (Str × Addr)) (fp : List Addr), PTs (X.blk s H scope (compEnvC scope cl C X.env) fp) ifs (rdTs X.K X.mg T eifs))
    (he : ∀ (s : Shared) (H : Hp) (C : Addr) (cl : List (Str × Addr)) (fp : List Addr), pE (X.blk s H scope (compEnvC scope cl C X.env) fp) T elt eelt)
    (hs : ∀ x, foldedSetIterable iter X.env x = pure x) (hsl : ∀ i ∈ gSl g, i ∈ own.map (·.2)) :
    pS X T (.Assign [.Name n py] (.ListComp elt [⟨tg, iter, ifs, 0⟩] scope pos) spos) (.asg (.nm i) (if bx = true then .bx (.lc eelt g it eifs (own.map (·.2))) else .lc eelt g it eifs (own.map (·.2)))) :=
  PSimp (ps_setLc hc hN hy hyl hsw hi ok hg ht (fun s H C cl fp => he s H C cl fp false) hs) fun D σ H ⟨σ', μ, h, S, R, o⟩ => by
    simp only [ex] at o
    obtain ⟨r, h1, e1, o1⟩ := o.bnd
    have e2 : ev T σ' bx (.lc eelt g it eifs (own.map (·.2))) h = .ok r h1 := by
      cases bx with
      | false => exact e1
      | true =>
        rw [if_pos rfl] at e1
        simp only [ev] at e1 ⊢
        exact e1
    refine lc_snd (bx := bx) hsl ⟨σ', μ, h, S, R, Out.of e2 fun v μ1 H1 R1 E1 x1 => ?_⟩
    have o2 := o1.up E1
    simp only [asgG] at o2
    exact o2 _ _ _ R1 .refl ((S.ext E1).set x1 i)
theorem s_expr {e : Expr} {ê : E} (he : pE X T e ê) (hs : swapsWith e none pos.line X.env = pure false) : pS X T (.Expr e pos) (.expr ê) := PSimp (ps_expr (he false) hs) fun D σ H ⟨σ', μ, h, S, R, o⟩ => by
  simp only [ex] at o
  obtain ⟨r, h1, e1, o1⟩ := o.bnd
  exact ⟨σ', μ, h, S, R, Out.of e1 fun v μ1 H1 R1 E1 x1 => o1 _ _ _ R1 E1 (S.ext E1)⟩
theorem s_doc {t : Str} {j : Nat} {p1 p2 : Pos} : pS X T (.Expr (.Constant (.str t) j p1) p2) .pass := PSimp ps_doc fun D σ H ⟨σ', μ, h, S, R, o⟩ => by
  simp only [ex] at o
  exact o _ _ _ R .refl S
theorem s_ret {e : Expr} {ê : E} (he : pE X T e ê) : pS X T (.Return (some e) pos) (.ret ê) := PSimp (ps_ret (he false)) fun D σ H ⟨σ', μ, h, S, R, o⟩ => by
  simp only [ex] at o
  obtain ⟨r, h1, e1, o1⟩ := o.bnd
  exact ⟨σ', μ, h, S, R, Out.of e1 fun v μ1 H1 R1 E1 x1 => o1 _ _ _ R1 E1 x1⟩
theorem s_retN : pS X T (.Return none pos) .retN := PSimp ps_retN fun D σ H ⟨σ', μ, h, S, R, o⟩ => by
  simp only [ex] at o
  exact o _ _ _ R .refl (.pd .non)
theorem s_no {st : Stmt} : pS X T st .no := ⟨fun pins s σ H D I ⟨σ', μ, h, S, R, o⟩ => by
  simp only [ex] at o
  exact o.elim⟩
theorem s_pass : pS X T (.Pass pos) .pass := PSimp ps_pass fun D σ H ⟨σ', μ, h, S, R, o⟩ => by
  simp only [ex] at o
  exact o _ _ _ R .refl S
theorem s_brk : pS X T (.Break pos) .brk := PSimp ps_break fun D σ H ⟨σ', μ, h, S, R, o⟩ => by
  simp only [ex] at o
  exact o _ _ _ R .refl S
theorem s_cnt : pS X T (.Continue pos) .cnt := PSimp ps_continue fun D σ H ⟨σ', μ, h, S, R, o⟩ => by
  simp only [ex] at o
  exact o _ _ _ R .refl S
theorem s_ite {c : Expr} {A B : List Stmt} {u : C} {sa sb : List S} (hc : pC X T c u) (ha : pSs X T A sa) (hb : pSs X T B sb) : pS X T (.If c A B pos) (.ite u sa sb) := PSimp (ps_if hc ha hb) fun D σ H ⟨σ', μ, h, S, R, o⟩ => by
  simp only [ex] at o
  obtain ⟨k, h1, e1, o1⟩ := o.bnd
  refine ⟨σ', μ, h, S, R, OutB.of e1 fun μ1 H1 R1 E1 => ?_⟩
  cases k with
  | true => rw [if_pos rfl] at o1 ⊢; exact ⟨σ', μ1, h1, S.ext E1, R1, o1.up E1⟩
  | false => rw [if_neg Bool.false_ne_true] at o1 ⊢; exact ⟨σ', μ1, h1, S.ext E1, R1, o1.up E1⟩
theorem getV_ok {σ : Sl} {i : Nat} {r : RV} {h h' : Boxes} (e : getV σ i h = .ok r h') : σ[i]? = some (some r) ∧ h' = h := by
  unfold getV at e
  obtain ⟨g1, g2⟩ := opt_ok e
  refine ⟨?_, g2⟩
  cases q : σ[i]? with
  | none => rw [q] at g1; cases g1
  | some w =>
    rw [q] at g1
    cases w with
    | none => cases g1
    | some r' => cases g1; rfl
theorem augS_snd {K : PySem.W.Frag} {mg : Str → Option Value} {μ : List Addr} {H : Hp} {op : Operator} {a b r : RV} {v u : V} {h h' : Boxes} (x : VR K mg μ H v a) (y : VR K mg μ H u b) (e : augS op a b h = .ok r h') :
    h' = h ∧ ∃ i j k, v = .int i ∧ u = .int j ∧ r = .pd (.int k) ∧ ((op = .Add ∧ k = i + j) ∨ (op = .Sub ∧ k = i - j)) := by
  unfold augS at e
  split at e
  · obtain ⟨rfl, rfl⟩ := ret_ok e
    cases x with
    | pd x =>
      cases x
      cases y with
      | pd y => cases y; exact ⟨rfl, _, _, _, rfl, rfl, rfl, .inl ⟨rfl, rfl⟩⟩
  · obtain ⟨rfl, rfl⟩ := ret_ok e
    cases x with
    | pd x =>
      cases x
      cases y with
      | pd y => cases y; exact ⟨rfl, _, _, _, rfl, rfl, rfl, .inr ⟨rfl, rfl⟩⟩
  · cases e
theorem s_augG {i : Nat} {n : Str} {op : Operator} {e : Expr} {ê : E} {p' : Pos} {f : Int → Int → Int} (hop : (op = .Add ∧ f = fun i j => i + j) ∨ (op = .Sub ∧ f = fun i j => i - j)) (hip : PIp X op (ipI f)) (hN : X.N.Nodup) (hi : X.N[i]? = some n) (hx : Loc X.env.scope n)
    (hf : X.fn n = true ∨ X.env.scope.names.lookup n = some .local) (he : pE X T e ê) : pS X T (.AugAssign (.Name n p') op e pos) (.aug op i ê) := PSimp (ps_aug hN hi hx (he false) hip hf) fun D σ H ⟨σ', μ, h, S, R, o⟩ => by
  simp only [ex] at o
  obtain ⟨r, h1, e1, o1⟩ := o.bnd
  obtain ⟨g1, rfl⟩ := getV_ok e1
  obtain ⟨v, q1, x1⟩ := S.get i r g1
  obtain ⟨r2, h2, e2, o2⟩ := o1.bnd
  refine ⟨v, q1, σ', μ, _, S, R, Out.of e2 fun v2 μ2 H2 R2 E2 x2 => ?_⟩
  obtain ⟨r3, h3, e3, o3⟩ := (o2.up E2).bnd
  obtain ⟨rfl, a, b, k, rfl, rfl, rfl, c⟩ := augS_snd (VR.ext E2 _ _ x1) x2 e3
  refine ⟨a, b, rfl, rfl, ?_⟩
  have ek : k = f a b := by
    rcases hop with ⟨h1, h2⟩ | ⟨h1, h2⟩ <;> rcases c with ⟨h3, h4⟩ | ⟨h3, h4⟩
    · rw [h2, h4]
    · rw [h1] at h3; cases h3
    · rw [h1] at h3; cases h3
    · rw [h2, h4]
  rw [← ek]
  exact o3 _ _ _ R2 .refl ((S.ext E2).set (.pd (.int _)) i)
theorem s_aug {i : Nat} {n : Str} {op : Operator} {e : Expr} {ê : E} {p' : Pos} (hop : op = .Add ∨ op = .Sub) (hN : X.N.Nodup) (hi : X.N[i]? = some n) (hx : Loc X.env.scope n) (hf : X.fn n = true ∨ X.env.scope.names.lookup n = some .local) (he : pE X T e ê) :
    pS X T (.AugAssign (.Name n p') op e pos) (.aug op i ê) := by
  rcases hop with rfl | rfl
  · exact s_augG (.inl ⟨rfl, rfl⟩) ip_add hN hi hx hf he
  · exact s_augG (.inr ⟨rfl, rfl⟩) ip_sub hN hi hx hf he
/-- a for -/
structure ForAt (K : PySem.W.Frag) (mg : Str → Option Value) (s : Src) (body : D → Sl → M Fl) (μ1 : List Addr) (H1 : Hp) (D : Ends) (i : Nat) (σ : L2.St) (H' : Hp) : Prop where
  le : i ≤ s.items.length
  ex : ∃ μ' h' σ', RH K μ' h' H' ∧ Ext μ1 H1 μ' H' ∧ SR K mg μ' H' σ σ' ∧ OutS K mg μ' H' (forL s body (s.items.length - i) i σ' h') D
theorem s_for {tg iter : Expr} {body : List Stmt} {g : G} {it : I} {sb : List S} (hp : PassesOwn (model X.prog X.w) X.A X.env X.xe) (hc : X.calm = true) (hi : pIt X T tg iter it) (hg : pG X T tg g) (hb : pSs X T body sb)
    (hs : ∀ x, foldedSetIterable iter X.env x = pure x) : pS X T (.For tg iter body [] pos) (.for_ g it sb) := PSimp (ps_for hp hc hi hg hb hs) fun D σ H ⟨σ', μ, h, S, R, o⟩ => by
  simp only [ex] at o
  obtain ⟨s, h1, e1, o1⟩ := o.bnd
  refine ⟨σ', μ, h, s, h1, S, R, e1, fun μ1 H1 J R1 E1 W => ?_⟩
  generalize hbody : (fun d σ1 => M.bnd (asgG T g (.pd d) σ1) fun σ2 => exs T sb σ2) = bd at o1
  refine ⟨fun i m σ H' => m = s.items.length - i ∧ ForAt X.K X.mg s bd μ1 H1 D i σ H', ⟨s.items.length, rfl, Nat.zero_le _, μ1, h1, σ', R1, .refl, S.ext E1, by simpa using o1.up E1⟩, ?_⟩
  rintro i m σ H' ⟨rfl, hle, μ', h', s', R', E', S', o'⟩
  by_cases hlt : i < s.items.length
  · obtain ⟨k, hk⟩ : ∃ k, s.items.length - i = k + 1 := ⟨s.items.length - i - 1, by omega⟩
    rw [hk] at o'
    simp only [forL] at o'
    obtain ⟨d, h3, e3, o3⟩ := o'.bnd
    obtain ⟨rfl, go, yl⟩ := W.go i μ' h' H' d h3 R' E' hlt e3
    clear o'
    refine .inr ⟨go, fun σ H'' => ForAt X.K X.mg s bd μ1 H1 D (i + 1) σ H'', fun σ H'' a => ⟨s.items.length - (i + 1), by omega, rfl, a⟩, fun x H'' hyl => ?_⟩
    obtain ⟨rfl, vd⟩ := yl x H'' hyl
    obtain ⟨f, h4, e4, o4⟩ := o3.bnd
    rw [← hbody] at e4
    obtain ⟨s2, h6, e7, e8⟩ := bnd_ok e4
    refine ⟨s', μ', _, .pd d, S', R', .pd vd, OutG.of e7 fun σ2 μ2 H2 R2 E2 S2 w2 => ?_⟩
    refine ⟨s2, μ2, h6, S2, R2, ?_⟩
    rw [e8]
    have hkk : s.items.length - (i + 1) = k := by omega
    have o5 := o4.up E2
    cases f with
    | nx s5 => exact fun σ5 μ5 H5 R5 E5 S5 => ⟨hlt, μ5, h4, s5, R5, (E'.trans E2).trans E5, S5, by rw [hkk]; exact o5.up E5⟩
    | ct s5 => exact fun σ5 μ5 H5 R5 E5 S5 => ⟨hlt, μ5, h4, s5, R5, (E'.trans E2).trans E5, S5, by rw [hkk]; exact o5.up E5⟩
    | bk s5 => exact fun σ5 μ5 H5 R5 E5 S5 => o5 σ5 μ5 H5 R5 E5 S5
    | rt r5 => exact fun v5 μ5 H5 R5 E5 x5 => o5 v5 μ5 H5 R5 E5 x5
  · have hn : i = s.items.length := by omega
    subst hn
    rw [Nat.sub_self] at o'
    simp only [forL] at o'
    obtain ⟨u, h3, e3, o3⟩ := o'.bnd
    obtain ⟨rfl, st⟩ := W.stop μ' h' H' u h3 R' E' e3
    exact .inl ⟨st, o3 _ _ _ R' .refl S'⟩
/-- a while -/
structure WhlAt (K : PySem.W.Frag) (mg : Str → Option Value) (test : Sl → M Bool) (body : Sl → M Fl) (μ1 : List Addr) (H1 : Hp) (D : Ends) (m : Nat) (σ : L2.St) (H' : Hp) : Prop where
  ex : ∃ μ' h' σ', RH K μ' h' H' ∧ Ext μ1 H1 μ' H' ∧ SR K mg μ' H' σ σ' ∧ OutS K mg μ' H' (whlL test body m σ' h') D
theorem s_while {c : Expr} {body : List Stmt} {u : C} {sb : List S} (hp : PassesOwn (model X.prog X.w) X.A X.env X.xe) (hc : pC X T c u) (hb : pSs X T body sb) : pS X T (.While c body [] pos) (.while_ u sb) := PSimp (ps_while hp hc hb) fun D σ H ⟨σ', μ, h, S, R, o⟩ => by
  simp only [ex] at o
  refine ⟨fun m σ H' => WhlAt X.K X.mg (fun σ1 => evC T σ1 u) (fun σ1 => exs T sb σ1) μ H D m σ H', ⟨T.wf, μ, h, σ', R, .refl, S, o⟩, ?_⟩
  rintro m σ H' ⟨μ', h', s', R', E', S', o'⟩
  cases m with
  | zero => simp only [whlL] at o'; exact o'.elim
  | succ m =>
    simp only [whlL] at o'
    obtain ⟨b, h1, e1, o1⟩ := o'.bnd
    refine ⟨s', μ', h', S', R', OutB.of e1 fun μ1 H1 R1 E1 => ?_⟩
    have o2 := o1.up E1
    cases b with
    | false =>
      rw [if_neg Bool.false_ne_true] at o2 ⊢
      exact o2 _ _ _ R1 .refl (S'.ext E1)
    | true =>
      rw [if_pos rfl] at o2 ⊢
      obtain ⟨f, h4, e4, o4⟩ := o2.bnd
      refine ⟨fun σ H'' => WhlAt X.K X.mg (fun σ1 => evC T σ1 u) (fun σ1 => exs T sb σ1) μ H D m σ H'', fun σ H'' a => ⟨m, Nat.lt_succ_self m, a⟩, s', μ1, h1, S'.ext E1, R1, ?_⟩
      rw [e4]
      cases f with
      | nx s5 => exact fun σ5 μ5 H5 R5 E5 S5 => ⟨μ5, h4, s5, R5, (E'.trans E1).trans E5, S5, o4.up E5⟩
      | ct s5 => exact fun σ5 μ5 H5 R5 E5 S5 => ⟨μ5, h4, s5, R5, (E'.trans E1).trans E5, S5, o4.up E5⟩
      | bk s5 => exact fun σ5 μ5 H5 R5 E5 S5 => o4 σ5 μ5 H5 R5 E5 S5
      | rt r5 => exact fun v5 μ5 H5 R5 E5 x5 => o4 v5 μ5 H5 R5 E5 x5
end
end AI

set_option Elab.async false
set_option linter.all false
set_option maxRecDepth 100000
set_option maxHeartbeats 4000000
/-! AiCmp: from the text's syntax to the plain one; each step is sound. -/
namespace AI
open PySem L2 SeqAt
/-- what the module has: its defs with the number of their parameters, its constants, the built-ins' names that it does not bind -/
structure Sg where
  ar : Str → Option Nat
  cst : Str → Option D
  nob : List Str

def mapO {α β : Type} (f : α → Option β) : List α → Option (List β)
  | [] => some []
  | a :: as => match f a, mapO f as with
    | some b, some bs => some (b :: bs)
    | _, _ => none
def foldB {α β : Type} (mk : β → β → β) (f : α → Option β) : List α → Option β
  | [] => none
  | [a] => f a
  | a :: b :: as => match f a, foldB mk f (b :: as) with
    | some x, some y => some (mk x y)
    | _, _ => none
def nStar : Expr → Bool
  | .Starred _ _ => false
  | _ => true
def nComp : Expr → Bool
  | .ListComp .. | .SetComp .. | .DictComp .. => false
  | _ => true
def nSet : Expr → Bool
  | .Set .. => false
  | _ => true
def nSlice : Expr → Bool
  | .Slice .. => false
  | _ => true
def nTup : Expr → Bool
  | .Tuple .. => false
  | _ => true
/-- a test that asks its value's truth -/
def plainT : Expr → Bool
  | .Name .. | .Constant .. | .Call .. | .Subscript .. | .BinOp .. | .ListComp .. | .Tuple .. | .List .. => true
  | _ => false
/-- a receiver -/
def recv : Expr → Bool
  | .Name .. | .Subscript .. | .Constant .. | .BinOp .. | .Call _ (_ :: _) _ _ | .Call (.Attribute ..) _ _ _ => true
  | _ => false
def idxOf (N : List Str) (x : Str) : Option Nat := N.findIdx? fun y => decide (y = x)
def biOf (f : Str) : Option BI := [BI.len, .abs, .max, .min, .all, .any, .sum, .list, .tuple, .int, .str, .repr].find? fun b => decide (b.nm = f)
def tyOf (f : Str) : Option TY := [TY.int, .str, .bool, .tuple, .list, .dict].find? fun b => decide (Str.ofString b.nm = f)
def mtOf (m : Str) (n : Nat) : Option MT :=
  if m = MT.append.nm ∧ n = 1 then some .append else if m = MT.extend.nm ∧ n = 1 then some .extend else if m = MT.pop.nm ∧ n = 0 then some .pop else if m = MT.popAt.nm ∧ n = 1 then some .popAt
  else if m = MT.index.nm ∧ n = 1 then some .index else if m = MT.split.nm ∧ n = 1 then some .split else if m = MT.words.nm ∧ n = 0 then some .words else if m = MT.startswith.nm ∧ n = 1 then some .startswith else if m = MT.join.nm ∧ n = 1 then some .join else none
def glob (sc : Scope) (x : Str) : Bool := decide (sc.names.lookup x = some .globalImplicit)
def okNm (x : Str) : Bool := !(x == ("__debug__" : Str)) && !(x == ("__classdict__" : Str))
/-- the own names of a comprehension's block, with their slots -/
def ownOf (N : List Str) (scope : Scope) : List (Str × Nat) := scope.names.filterMap fun y => match y.2 with
  | .local | .cell => (idxOf N y.1).map fun i => (y.1, i)
  | _ => none
def isLoc (sc : Scope) (x : Str) : Bool := decide (sc.names.lookup x = some .local) || decide (sc.names.lookup x = some .cell)
def cConst : Const → Option D
  | .none => some .none
  | .bool b => some (.bool b)
  | .int i => some (.int i)
  | .str s => some (.str s)
  | _ => none
def inNob (P : Sg) (x : Str) : Bool := P.nob.any fun y => decide (y = x)
/-- reversed(a) alone -/
def isRev : List Expr → Option Expr
  | [.Call (.Name r _) [a] [] _] => if r = ("reversed" : Str) then some a else none
  | _ => none
def hasM (mu : List Str) (x : Str) : Bool := mu.any fun y => decide (y = x)
mutual
def cE (P : Sg) (N : List Str) : Nat → Scope → Expr → Option E
  | 0, _, _ => none
  | n + 1, sc, e => match e with
    | .Name x _ => if okNm x = true then (match sc.names.lookup x with
        | some .globalImplicit => match P.cst x with
          | some _ => some (.glob x)
          | none => match P.ar x with
            | some _ => some (.fn x)
            | none => none
        | some .globalExplicit => none
        | some _ => (idxOf N x).map .var
        | none => none) else none
    | .Constant c _ _ => (cConst c).map .cst
    | .Tuple es _ _ => if es.all nStar = true then (mapO (cE P N n sc) es).map .tup else none
    | .List es _ => if es.all nStar = true then (mapO (cE P N n sc) es).map .lst else none
    | .BinOp a op b _ => match cE P N n sc a, cE P N n sc b with
      | some x, some y => some (.bin op x y)
      | _, _ => none
    | .UnaryOp .USub a _ => (cE P N n sc a).map .neg
    | .UnaryOp .Not a _ => (cE P N n sc a).map .not
    | .Compare a [op] [b] _ => if behindInMarks op b = false then (match cE P N n sc a, cE P N n sc b with
      | some x, some y => some (.cmp op x y)
      | _, _ => none) else none
    | .Compare a [op, op'] [b, c] _ => if lastMarks [op, op'] [b, c] = false then (match cE P N n sc a, cE P N n sc b, cE P N n sc c with
      | some x, some y, some z => some (.cmp2 op op' x y z)
      | _, _, _ => none) else none
    | .BoolOp .And vs _ => foldB .and (cE P N n sc) vs
    | .BoolOp .Or vs _ => foldB .or (cE P N n sc) vs
    | .Subscript a (.Slice none none (some (.UnaryOp .USub (.Constant (.int 1) _ _) _)) _) _ => (cE P N n sc a).map (.lrev false)
    | .Subscript a (.Slice lo hi none _) _ => match cE P N n sc a, cO P N n sc lo, cO P N n sc hi with
      | some x, some l, some u => some (.slc x l u)
      | _, _, _ => none
    | .Subscript a i _ => if nSlice i = true then (match cE P N n sc a, cE P N n sc i with
      | some x, some y => some (.idx x y)
      | _, _ => none) else none
    | .Call (.Name f _) args [] _ => if glob sc f = true ∧ args.all nStar = true ∧ okNm f = true then (match P.ar f with
      | some k => if args.length = k then (mapO (cE P N n sc) args).map (.call f) else none
      | none => if inNob P f = true then (if f = ("isinstance" : Str) then (match args with
          | [a, .Name t _] => match tyOf t with
            | some ty => if glob sc t = true ∧ inNob P t = true then (cE P N n sc a).map (.isi · ty) else none
            | none => none
          | [a, .Tuple [.Name t _, .Name u _] _ _] => match tyOf t, tyOf u with
            | some ty, some ty2 => if (glob sc t = true ∧ inNob P t = true) ∧ glob sc u = true ∧ inNob P u = true then (cE P N n sc a).map (.isi2 · ty ty2) else none
            | _, _ => none
          | _ => none) else match isRev args with
          | some a => if (f = ("list" : Str) ∨ f = ("tuple" : Str)) ∧ nStar a = true ∧ glob sc "reversed" = true ∧ inNob P "reversed" = true then (cE P N n sc a).map (.lrev (decide (f = ("tuple" : Str)))) else none
          | none => match biOf f, args with
            | some b, _ :: _ => (mapO (cE P N n sc) args).map (.bi b)
            | _, _ => none) else none) else none
    | .Call (.Attribute o m apos) args [] cpos => if recv o = true ∧ args.all nStar = true ∧ (apos.endLine == cpos.line) = true ∧ args.length < 20 then (match mtOf m args.length, cE P N n sc o, mapO (cE P N n sc) args with
      | some mt, some x, some xs => some (.meth mt x xs)
      | _, _, _ => none) else none
    | .ListComp elt [⟨tg, iter, ifs, 0⟩] scope _ => if blkC N sc scope (ownOf N scope) = true ∧ nSet iter = true then
        (match cI P N n sc iter, cG P N n (relS scope sc) (isLoc scope) tg, mapO (cC P N n (relS scope sc)) ifs, cE P N n (relS scope sc) elt with
        | some it, some g, some cs, some x => if (gSl g).all (fun i => (ownOf N scope).any fun p => decide (p.2 = i)) = true ∧ cs.length ≤ 1 then some (.lc x g it cs ((ownOf N scope).map (·.2))) else none
        | _, _, _, _ => none) else none
    | _ => none
def cO (P : Sg) (N : List Str) : Nat → Scope → Option Expr → Option (Option E)
  | 0, _, _ => none
  | n + 1, sc, e => match e with
    | none => some none
    | some e => (cE P N n sc e).map some
def cC (P : Sg) (N : List Str) : Nat → Scope → Expr → Option C
  | 0, _, _ => none
  | n + 1, sc, e => match e with
    | .BoolOp .And vs _ => foldB .and (cC P N n sc) vs
    | .BoolOp .Or vs _ => foldB .or (cC P N n sc) vs
    | .UnaryOp .Not a _ => (cC P N n sc a).map .not
    | .Compare a [op] [b] _ => if behindInMarks op b = false then (match cE P N n sc a, cE P N n sc b with
      | some x, some y => some (.val (.cmp op x y))
      | _, _ => none) else none
    | .Compare a [op, op'] [b, c] _ => if lastMarks [op, op'] [b, c] = false then (match cE P N n sc a, cE P N n sc b, cE P N n sc c with
      | some x, some y, some z => some (.val (.cmp2 op op' x y z))
      | _, _, _ => none) else none
    | e => if plainT e = true then (cE P N n sc e).map .val else none
def cG (P : Sg) (N : List Str) : Nat → Scope → (Str → Bool) → Expr → Option G
  | 0, _, _, _ => none
  | n + 1, sc, tl, e => match e with
    | .Name x _ => if tl x = true then (idxOf N x).map .nm else none
    | .Tuple es _ _ => if es.all nStar = true then (mapO (cG P N n sc tl) es).map .tup else none
    | .Subscript o i _ => if nSlice i = true then (match cE P N n sc o, cE P N n sc i with
      | some x, some y => some (.sub x y)
      | _, _ => none) else none
    | _ => none
def cI (P : Sg) (N : List Str) : Nat → Scope → Expr → Option I
  | 0, _, _ => none
  | n + 1, sc, e => match e with
    | .Call (.Name f p) args [] pos => if f = ("range" : Str) then (if glob sc f = true ∧ inNob P f = true then (match args with
        | [a] => if nStar a = true then (cE P N n sc a).map fun x => .rng [x] else none
        | [a, b] => if nStar a = true ∧ nStar b = true then (match cE P N n sc a, cE P N n sc b with
          | some x, some y => some (.rng [x, y])
          | _, _ => none) else none
        | _ => none) else none)
      else if f = ("reversed" : Str) then (if glob sc f = true ∧ inNob P f = true then (match args with
        | [a] => if nStar a = true then (cE P N n sc a).map .rev else none
        | _ => none) else none)
      else (cE P N n sc e).map .val
    | e => (cE P N n sc e).map .val
end
/-- is the comprehension stored in its own way? -/
def swapC (sc : Scope) (x : Str) (py : Pos) (scope : Scope) (lp : Pos) : Bool := decide (sc.names.lookup x = some .local) && py.line == lp.line && !(scope.names.any fun y => y.1 == x && (y.2 == .local || y.2 == .cell))
def bxE (mu : List Str) (x : Str) (e : E) : E := if mu.any (fun y => decide (y = x)) = true then .bx e else e
def cS (P : Sg) (N : List Str) (mu : List Str) (sc : Scope) : Nat → Stmt → Option S
  | 0, _ => none
  | n + 1, st => match st with
    | .Assign [.Name x py] (.ListComp elt gs scope lp) _ => match cE P N (n + 1) sc (.ListComp elt gs scope lp), idxOf N x with
      | some ê, some i => if isLoc sc x = true then some (.asg (.nm i) (bxE mu x ê)) else some .no
      | _, _ => some .no
    | .Assign [.Name x py] e _ => if nComp e = true then (match cE P N n sc e, idxOf N x with
      | some ê, some i => if isLoc sc x = true then some (.asg (.nm i) (bxE mu x ê)) else some .no
      | _, _ => some .no) else some .no
    | .Assign [tg] e _ => if nComp e = true ∧ nTup e = true ∧ nStar tg = true then (match cE P N n sc e, cG P N n sc (isLoc sc) tg with
      | some ê, some g => some (.asg g ê)
      | _, _ => some .no) else some .no
    | .AugAssign (.Name x _) op e _ => if (op = .Add ∨ op = .Sub) ∧ isLoc sc x = true then (match cE P N n sc e, idxOf N x with
      | some ê, some i => some (.aug op i ê)
      | _, _ => some .no) else some .no
    | .Expr (.Constant (.str _) _ _) _ => some .pass
    | .Expr e _ => if nComp e = true then (match cE P N n sc e with
      | some x => some (.expr x)
      | none => some .no) else some .no
    | .If c a b _ => match cC P N n sc c, mapO (cS P N mu sc n) a, mapO (cS P N mu sc n) b with
      | some u, some x, some y => some (.ite u x y)
      | _, _, _ => some .no
    | .For tg iter body [] _ => if nSet iter = true then (match cG P N n sc (isLoc sc) tg, cI P N n sc iter, mapO (cS P N mu sc n) body with
      | some g, some it, some x => some (.for_ g it x)
      | _, _, _ => some .no) else some .no
    | .While c body [] _ => match cC P N n sc c, mapO (cS P N mu sc n) body with
      | some u, some x => some (.while_ u x)
      | _, _ => some .no
    | .Return (some (.List (e0 :: es) p)) _ => if hasM mu "return.0" = true then (if (e0 :: es).all nStar = true then (match cE P N n sc e0, mapO (cE P N n sc) es with
        | some x, some xs => some (.ret (.bx (.lst (.bx x :: xs))))
        | _, _ => some .no) else some .no)
      else (match cE P N n sc (.List (e0 :: es) p) with
        | some x => some (.ret (bxE mu "return" x))
        | none => some .no)
    | .Return (some e) _ => match cE P N n sc e with
      | some x => some (.ret (bxE mu "return" x))
      | none => some .no
    | .Return none _ => some .retN
    | .Pass _ => some .pass
    | .Break _ => some .brk
    | .Continue _ => some .cnt
    | _ => some .no
end AI

set_option Elab.async false
set_option linter.all false
set_option maxRecDepth 100000
set_option maxHeartbeats 4000000
/-! AiFn: the translation is sound. -/
namespace AI
open PySem L2 SeqAt
section
variable {env : Env} {a : Expr} {es : List Expr} {pos : Pos}
theorem star_cons (h : nStar a = true) : starEach (a :: es) env = (false, eval a env) :: starEach es env := by
  cases a <;> first | rfl | cases h
theorem asg_cons (h : nStar a = true) : assignEach (a :: es) env = (false, assign a env) :: assignEach es env := by
  cases a <;> first | rfl | cases h
theorem back_any : ∀ {es : List Expr}, es.all nStar = true → (backTo pos (starEach es env)).any (·.1) = false
  | [], _ => rfl
  | a :: es, h => by
    rw [List.all_cons, Bool.and_eq_true] at h
    rw [star_cons h.1]
    show (false || (backTo pos (starEach es env)).any (·.1)) = false
    rw [back_any h.2]; rfl
theorem back_all : ∀ {es : List Expr}, es.all nStar = true → (backTo pos (starEach es env)).all (fun x => !x.1) = true
  | [], _ => rfl
  | a :: es, h => by
    rw [List.all_cons, Bool.and_eq_true] at h
    rw [star_cons h.1]
    show (!false && (backTo pos (starEach es env)).all (fun x => !x.1)) = true
    rw [back_all h.2]; rfl
theorem recv_base {o : Expr} {m : Str} {w : Sem Value} (h : recv o = true) : attributeBase o m env w = w := by
  unfold recv at h
  split at h <;> first | rfl | (cases h; done) | (rename_i f _ _ _ _; cases f <;> rfl)
theorem fold_none {v : Value} (h : nSet a = true) : foldedSetIterable a env v = pure v := by
  cases a <;> first | rfl | cases h
theorem plain_ix (h : nSlice a = true) : PlainIx a := fun o i => by
  cases a <;> first | rfl | cases h
theorem plain_true {w : Sem Value} (h : plainT a = true) : isTrue a env w = (do let v ← w; standAt a.pos; holding [v] (truthy v)) := by
  cases a <;> first | rfl | cases h
theorem sw_none {t : Option Expr} {l : Nat} (h : nComp a = true) : swapsWith a t l env = pure false := by
  cases a <;> first | rfl | cases h
theorem ss_none {tg : Expr} (h : nTup a = true) : swappedStores [tg] a env = pure none := by
  cases a <;> first | (cases h; done) | (cases tg <;> rfl)
theorem ss_name {x : Str} {p : Pos} : swappedStores [.Name x p] a env = pure none := by
  cases a <;> rfl
theorem asg_one {tg : Expr} (h : nStar tg = true) : (assignEach [tg] env).map (·.2) = [assign tg env] := by
  rw [asg_cons h]; rfl
end
theorem idxOf_ok {N : List Str} {x : Str} {i : Nat} (h : idxOf N x = some i) : N[i]? = some x := by
  unfold idxOf at h
  rw [List.findIdx?_eq_some_iff_getElem] at h
  obtain ⟨hi, e, _⟩ := h
  rw [List.getElem?_eq_getElem hi, of_decide_eq_true e]
theorem mapO_cons {α β : Type} {f : α → Option β} {a : α} {as : List α} {r : List β} (h : mapO f (a :: as) = some r) : ∃ b bs, f a = some b ∧ mapO f as = some bs ∧ r = b :: bs := by
  simp only [mapO] at h
  split at h
  · rename_i b bs e1 e2
    cases h
    exact ⟨b, bs, e1, e2, rfl⟩
  · cases h
theorem mapO_nil {α β : Type} {f : α → Option β} {r : List β} (h : mapO f [] = some r) : r = [] := by
  simp only [mapO] at h; cases h; rfl
theorem mapO_len {α β : Type} {f : α → Option β} : ∀ {as : List α} {r : List β}, mapO f as = some r → r.length = as.length
  | [], _, h => by rw [mapO_nil h]; rfl
  | a :: as, r, h => by
    obtain ⟨b, bs, _, e, rfl⟩ := mapO_cons h
    simp [mapO_len e]
theorem okNm_ok {x : Str} (h : okNm x = true) : (x == ("__debug__" : Str)) = false ∧ (x == ("__classdict__" : Str)) = false := by
  simp only [okNm, Bool.and_eq_true, Bool.not_eq_true'] at h
  exact h
/-- the context is as the translation says -/
structure Good (P : Sg) (T : TT) (N : List Str) (sc : Scope) (tl : Str → Bool) (X : Cx) : Prop where
  hN : X.N = N
  nd : X.N.Nodup
  hsc : X.env.scope = sc
  calm : X.calm = true
  hu : X.A.units + 70 < cLine
  gd : X.A.guards = some []
  fnok : ∀ f n, P.ar f = some n → ∃ fa fd ps k, X.mg f = some (.ref fa) ∧ ps.length = n ∧ FnG X.prog X.w X.K X.mg X.base k fa fd ps (spF X.K X.mg T ps.length f) ∧ Room k X.A ∧ PySem.W.keepIn X.K (.ref fa) = true ∧ Binds X.K fd ps []
  cst : ∀ x d, P.cst x = some d → ∃ u v, X.mg x = some u ∧ RelV v u ∧ (∀ μ H, VD X.K μ H v d) ∧ T.cst x = some d
  nob : ∀ x, inNob P x = true → X.mg x = none
  tgt : ∀ x, tl x = true → Loc X.env.scope x ∧ (X.fn x = true ∨ X.env.scope.names.lookup x = some .local)
theorem look_rel {ns : List (Str × NameKind)} {f : Str → NameKind → NameKind} (hf : ∀ n k, k ≠ .free → f n k = k) {x : Str} {k : NameKind} (hk : k ≠ .free) (h : ns.lookup x = some k) : (ns.map fun (n, k) => (n, f n k)).lookup x = some k := by
  induction ns with
  | nil => cases h
  | cons y ns ih =>
    obtain ⟨n, k'⟩ := y
    simp only [List.map_cons, List.lookup_cons] at h ⊢
    cases e : x == n with
    | true => rw [e] at h; simp only at h ⊢; cases h; rw [hf n k hk]
    | false => rw [e] at h; exact ih h
theorem relS_names {scope sc : Scope} : (relS scope sc).names = scope.names.map fun (n, k) => (n, if (k == .free && sc.kind == .function && sc.names.lookup n == some .cell) = true then NameKind.cell else k) := by
  unfold relS
  simp only
  congr 1
  funext ⟨n, k⟩
  simp only
  split <;> rfl
theorem Good.blk {P : Sg} {T : TT} {N : List Str} {sc : Scope} {tl : Str → Bool} {X : Cx} (G : Good P T N sc tl X) (scope : Scope) (s : Shared) (H : Hp) (C : Addr) (cl : List (Str × Addr)) (fp : List Addr) :
    Good P T N (relS scope sc) (isLoc scope) (X.blk s H scope (compEnvC scope cl C X.env) fp) where
  hN := G.hN
  nd := G.nd
  hsc := by rw [← G.hsc]; rfl
  calm := G.calm
  hu := G.hu
  fnok := G.fnok
  gd := G.gd
  cst := G.cst
  nob := G.nob
  tgt := fun x h => by
    have e : (X.blk s H scope (compEnvC scope cl C X.env) fp).env.scope = relS scope sc := by rw [← G.hsc]; rfl
    rw [e]
    unfold isLoc at h
    rw [Bool.or_eq_true, decide_eq_true_eq, decide_eq_true_eq] at h
    have hf : ∀ (n : Str) (k : NameKind), k ≠ .free → (if (k == .free && sc.kind == .function && sc.names.lookup n == some .cell) = true then NameKind.cell else k) = k := fun n k hk => by
      rw [if_neg]
      simp [hk]
    rcases h with h | h
    · have q : (relS scope sc).names.lookup x = some .local := by
        rw [relS_names]; exact look_rel hf (by decide) h
      exact ⟨.inl q, .inr q⟩
    · have q : (relS scope sc).names.lookup x = some .cell := by
        rw [relS_names]; exact look_rel hf (by decide) h
      refine ⟨.inr q, .inl ?_⟩
      show (scope.names.lookup x == some .cell) = true
      rw [h]; rfl
end AI

set_option Elab.async false
set_option linter.all false
set_option maxRecDepth 100000
set_option maxHeartbeats 4000000
/-! AiFn2: the translation is sound, form by form. -/
namespace AI
open PySem L2 SeqAt
structure SndN (P : Sg) (T : TT) (N : List Str) (n : Nat) : Prop where
  e : ∀ (sc : Scope) (tl : Str → Bool) (X : Cx) (a : Expr) (x : E), Good P T N sc tl X → cE P N n sc a = some x → pE X T a x
  o : ∀ (sc : Scope) (tl : Str → Bool) (X : Cx) (a : Option Expr) (x : Option E), Good P T N sc tl X → cO P N n sc a = some x → PO X a (rdO X.K X.mg T x)
  c : ∀ (sc : Scope) (tl : Str → Bool) (X : Cx) (a : Expr) (x : C), Good P T N sc tl X → cC P N n sc a = some x → pC X T a x
  g : ∀ (sc : Scope) (tl : Str → Bool) (X : Cx) (a : Expr) (x : G), Good P T N sc tl X → cG P N n sc tl a = some x → pG X T a x
  i : ∀ (sc : Scope) (tl : Str → Bool) (X : Cx) (tg a : Expr) (x : I), Good P T N sc tl X → cI P N n sc a = some x → pIt X T tg a x
section
variable {P : Sg} {T : TT} {N : List Str} {n : Nat} {sc : Scope} {tl : Str → Bool} {X : Cx}
theorem map_ok {α β : Type} {f : α → β} {o : Option α} {b : β} (h : o.map f = some b) : ∃ a, o = some a ∧ b = f a := by
  cases o with
  | none => cases h
  | some a => cases h; exact ⟨a, rfl, rfl⟩
theorem snd_args (ih : SndN P T N n) (G : Good P T N sc tl X) : ∀ {es : List Expr} {xs : List E}, es.all nStar = true → mapO (cE P N n sc) es = some xs → pA X T es xs
  | [], _, _, h => by rw [mapO_nil h]; exact p_nil
  | a :: es, _, hs, h => by
    rw [List.all_cons, Bool.and_eq_true] at hs
    obtain ⟨b, bs, e1, e2, rfl⟩ := mapO_cons h
    exact p_cons (ih.e sc tl X a b G e1) (snd_args ih G hs.2 e2) (star_cons hs.1)
theorem snd_foldAnd {pos : Pos} (ih : SndN P T N n) (G : Good P T N sc tl X) : ∀ {es : List Expr} {x : E}, foldB .and (cE P N n sc) es = some x → pE X T (.BoolOp .And es pos) x
  | [], _, h => by cases h
  | [a], _, h => p_one (ih.e sc tl X a _ G h)
  | a :: b :: es, _, h => by
    simp only [foldB] at h
    split at h
    · rename_i x y e1 e2
      cases h
      exact p_and (ih.e sc tl X a _ G e1) (snd_foldAnd ih G e2)
    · cases h
theorem snd_foldOr {pos : Pos} (ih : SndN P T N n) (G : Good P T N sc tl X) : ∀ {es : List Expr} {x : E}, foldB .or (cE P N n sc) es = some x → pE X T (.BoolOp .Or es pos) x
  | [], _, h => by cases h
  | [a], _, h => p_one (ih.e sc tl X a _ G h)
  | a :: b :: es, _, h => by
    simp only [foldB] at h
    split at h
    · rename_i x y e1 e2
      cases h
      exact p_or (ih.e sc tl X a _ G e1) (snd_foldOr ih G e2)
    · cases h
theorem snd_cAnd {pos : Pos} (ih : SndN P T N n) (G : Good P T N sc tl X) : ∀ {es : List Expr} {x : C}, foldB .and (cC P N n sc) es = some x → pW X T (.BoolOp .And es pos) x
  | [], _, h => by cases h
  | [a], _, h => c_and1 (ih.c sc tl X a _ G h)
  | a :: b :: es, _, h => by
    simp only [foldB] at h
    split at h
    · rename_i x y e1 e2
      cases h
      exact c_and (ih.c sc tl X a _ G e1) (snd_cAnd ih G e2)
    · cases h
theorem snd_cOr {pos : Pos} (ih : SndN P T N n) (G : Good P T N sc tl X) : ∀ {es : List Expr} {x : C}, foldB .or (cC P N n sc) es = some x → pW X T (.BoolOp .Or es pos) x
  | [], _, h => by cases h
  | [a], _, h => c_or1 (ih.c sc tl X a _ G h)
  | a :: b :: es, _, h => by
    simp only [foldB] at h
    split at h
    · rename_i x y e1 e2
      cases h
      exact c_or (ih.c sc tl X a _ G e1) (snd_cOr ih G e2)
    · cases h
theorem snd_gs (ih : SndN P T N n) (G : Good P T N sc tl X) : ∀ {es : List Expr} {xs : List AI.G}, es.all nStar = true → mapO (cG P N n sc tl) es = some xs → pGs X T es xs ∧ (assignEach es X.env).length = xs.length ∧ (assignEach es X.env).findIdx? (·.1) = none
  | [], _, _, h => by rw [mapO_nil h]; exact ⟨gs_nil, rfl, rfl⟩
  | a :: es, _, hs, h => by
    rw [List.all_cons, Bool.and_eq_true] at hs
    obtain ⟨b, bs, e1, e2, rfl⟩ := mapO_cons h
    obtain ⟨h1, h2, h3⟩ := snd_gs ih G hs.2 e2
    refine ⟨gs_cons (ih.g sc tl X a b G e1) h1 (by rw [asg_cons hs.1]; rfl), by rw [asg_cons hs.1]; simp [h2], ?_⟩
    rw [asg_cons hs.1, List.findIdx?_cons, h3]
    rfl
theorem glob_ok (G : Good P T N sc tl X) {x : Str} (h : glob sc x = true) : Gl X x := by
  unfold glob at h
  show X.env.scope.names.lookup x = _
  rw [G.hsc]; exact of_decide_eq_true h
theorem idx_ok (G : Good P T N sc tl X) {x : Str} {i : Nat} (h : idxOf N x = some i) : X.N[i]? = some x := by
  rw [G.hN]; exact idxOf_ok h
theorem find_ok {α : Type} {p : α → Bool} {l : List α} {b : α} (h : l.find? p = some b) : p b = true := List.find?_some h
theorem snd_const {c : Const} {d : D} {k : Nat} {pos : Pos} (h : cConst c = some d) : pE X T (.Constant c k pos) (.cst d) := by
  cases c with
  | none => cases h; exact p_cst pe_non fun _ _ => .non
  | bool b => cases h; exact p_cst pe_bl fun _ _ => .bl b
  | int i => cases h; exact p_cst pe_int fun _ _ => .int i
  | str s => cases h; exact p_cst pe_str fun _ _ => .str s
  | float _ => cases h
  | complex _ _ => cases h
  | bytes _ => cases h
  | ellipsis => cases h
theorem ty_ok {f : Str} {b : TY} (h : tyOf f = some b) : Str.ofString b.nm = f := by
  unfold tyOf at h
  have := List.find?_some h
  exact of_decide_eq_true this
theorem bi_ok {f : Str} {b : BI} (h : biOf f = some b) : b.nm = f := by
  unfold biOf at h
  have := List.find?_some h
  exact of_decide_eq_true this
theorem mt_ok {m : Str} {k : Nat} {t : MT} (h : mtOf m k = some t) : m = t.nm := by
  unfold mtOf at h
  repeat' split at h
  all_goals first
    | (cases h; rename_i q; exact q.1)
    | cases h
theorem isRev_ok {args : List Expr} {a : Expr} (h : isRev args = some a) : ∃ p2 pos2, args = [.Call (.Name "reversed" p2) [a] [] pos2] := by
  unfold isRev at h
  split at h
  · split at h
    · rename_i hr
      subst hr
      cases h
      exact ⟨_, _, rfl⟩
    · cases h
  · cases h
theorem snd_E (ih : SndN P T N n) (a : Expr) (x : E) (G : Good P T N sc tl X) (h : cE P N (n + 1) sc a = some x) : pE X T a x := by
  simp only [cE] at h
  split at h
  · -- a name
    split at h
    · rename_i nm p ok
      obtain ⟨o1, o2⟩ := okNm_ok ok
      split at h
      · rename_i hl
        have hg : Gl X nm := by show X.env.scope.names.lookup nm = _; rw [G.hsc]; exact hl
        split at h
        · rename_i d hd
          cases h
          obtain ⟨u, v, e1, e2, e3, e4⟩ := G.cst nm d hd
          exact p_glob (pe_glob hg e1 e2 o1) e4 e3
        · split at h
          · rename_i k hk
            cases h
            obtain ⟨fa, fd, ps, j, e1, _⟩ := G.fnok nm k hk
            exact p_fn hg e1 o1
          · cases h
      · cases h
      · rename_i k hne1 hne2 hl
        obtain ⟨i, e1, rfl⟩ := map_ok h
        refine p_var (idx_ok G e1) ?_ o1 o2
        show X.env.scope.names.lookup nm = _ ∨ _
        rw [G.hsc, hl]
        cases k with
        | «local» => exact .inl rfl
        | cell => exact .inr (.inl rfl)
        | free => exact .inr (.inr rfl)
        | globalExplicit => exact absurd rfl hne2
        | globalImplicit => exact absurd rfl hne1
      · cases h
    · cases h
  · -- a constant
    obtain ⟨d, e1, rfl⟩ := map_ok h
    exact snd_const e1
  · split at h
    · rename_i hs
      obtain ⟨xs, e1, rfl⟩ := map_ok h
      exact p_tup (snd_args ih G hs e1)
    · cases h
  · split at h
    · rename_i hs
      obtain ⟨xs, e1, rfl⟩ := map_ok h
      exact p_lst (snd_args ih G hs e1)
    · cases h
  · split at h
    · rename_i x y e1 e2
      cases h
      exact p_bin (ih.e _ _ _ _ _ G e1) (ih.e _ _ _ _ _ G e2)
    · cases h
  · obtain ⟨y, e1, rfl⟩ := map_ok h
    exact p_neg (ih.e _ _ _ _ _ G e1)
  · obtain ⟨y, e1, rfl⟩ := map_ok h
    exact p_not (ih.e _ _ _ _ _ G e1)
  · split at h
    · rename_i hb
      split at h
      · rename_i x y e1 e2
        cases h
        exact p_cmp G.hu (ih.e _ _ _ _ _ G e1) (ih.e _ _ _ _ _ G e2) hb
      · cases h
    · cases h
  · split at h
    · rename_i hb
      split at h
      · rename_i x y z e1 e2 e3
        cases h
        exact p_cmp2 G.hu (ih.e _ _ _ _ _ G e1) (ih.e _ _ _ _ _ G e2) (ih.e _ _ _ _ _ G e3) hb
      · cases h
    · cases h
  · exact snd_foldAnd ih G h
  · exact snd_foldOr ih G h
  · obtain ⟨y, e1, rfl⟩ := map_ok h
    exact p_cutRev (ih.e _ _ _ _ _ G e1)
  · split at h
    · rename_i x l u e1 e2 e3
      cases h
      exact p_slc (ih.e _ _ _ _ _ G e1) (ih.o _ _ _ _ _ G e2) (ih.o _ _ _ _ _ G e3)
    · cases h
  · split at h
    · rename_i hs
      split at h
      · rename_i x y e1 e2
        cases h
        exact p_idx (ih.e _ _ _ _ _ G e1) (ih.e _ _ _ _ _ G e2) (plain_ix hs)
      · cases h
    · cases h
  · -- a call of a name
    rename_i f p args pos
    split at h
    · rename_i hc
      obtain ⟨hg, hs, ok⟩ := hc
      obtain ⟨o1, o2⟩ := okNm_ok ok
      have hg := glob_ok G hg
      split at h
      · rename_i k hk
        split at h
        · rename_i hl
          obtain ⟨xs, e1, rfl⟩ := map_ok h
          obtain ⟨fa, fd, ps, j, m1, m2, F, hr, kp, bn⟩ := G.fnok f k hk
          cases args with
          | nil =>
            rw [mapO_nil e1]
            have e0 : ps = [] := List.eq_nil_of_length_eq_zero (by rw [m2, ← hl]; rfl)
            subst e0
            exact p_call0 F G.gd hr hg m1 kp bn o1
          | cons a es =>
            rw [List.all_cons, Bool.and_eq_true] at hs
            exact p_call F G.gd hr hg m1 kp bn (snd_args ih G (by rw [List.all_cons, hs.1, hs.2]; rfl) e1) (by rw [mapO_len e1, m2, hl]) o1 (star_cons hs.1) (back_any hs.2)
        · cases h
      · split at h
        · rename_i hn
          have hm := G.nob f hn
          split at h
          · rename_i hf
            subst hf
            split at h
            · rename_i a t p2
              split at h
              · rename_i ty ht
                split at h
                · rename_i ht2
                  obtain ⟨y, e1, rfl⟩ := map_ok h
                  have et : t = Str.ofString ty.nm := (ty_ok ht).symm
                  subst et
                  rw [List.all_cons, Bool.and_eq_true] at hs
                  exact p_isi hg hm (glob_ok G ht2.1) (G.nob _ ht2.2) (ih.e _ _ _ _ _ G e1) (star_cons hs.1) (back_any hs.2)
                · cases h
              · cases h
            · rename_i a t p2 u p3 k p4
              split at h
              · rename_i ty ty2 ht hu2
                split at h
                · rename_i ht2
                  obtain ⟨y, e1, rfl⟩ := map_ok h
                  have et : t = Str.ofString ty.nm := (ty_ok ht).symm
                  have eu : u = Str.ofString ty2.nm := (ty_ok hu2).symm
                  subst et
                  subst eu
                  rw [List.all_cons, Bool.and_eq_true] at hs
                  exact p_isi2 hg hm (glob_ok G ht2.1.1) (G.nob _ ht2.1.2) (glob_ok G ht2.2.1) (G.nob _ ht2.2.2) (ih.e _ _ _ _ _ G e1) (star_cons hs.1)
                · cases h
              · cases h
            · cases h
          · split at h
            · rename_i a hr
              obtain ⟨p2, pos2, rfl⟩ := isRev_ok hr
              split at h
              · rename_i hq
                obtain ⟨hf, hna, hg2, hn2⟩ := hq
                obtain ⟨y, e1, rfl⟩ := map_ok h
                rcases hf with rfl | rfl
                · exact p_revL G.calm hg hm (glob_ok G hg2) (G.nob _ hn2) (ih.e _ _ _ _ _ G e1) (star_cons hna)
                · exact p_revT G.calm hg hm (glob_ok G hg2) (G.nob _ hn2) (ih.e _ _ _ _ _ G e1) (star_cons hna)
              · cases h
            · split at h
              · rename_i b a es hb _
                obtain ⟨xs, e1, rfl⟩ := map_ok h
                have ef : f = b.nm := (bi_ok hb).symm
                subst ef
                rw [List.all_cons, Bool.and_eq_true] at hs
                exact p_bi G.gd G.hu G.calm hg hm (snd_args ih G (by rw [List.all_cons, hs.1, hs.2]; rfl) e1) (star_cons hs.1) (back_any hs.2)
              · cases h
        · cases h
    · cases h
  · -- a method
    rename_i o m apos args cpos
    split at h
    · rename_i hc
      obtain ⟨hr, hs, hl, hn⟩ := hc
      split at h
      · rename_i mt x xs e1 e2 e3
        cases h
        obtain rfl := mt_ok e1
        cases args with
        | nil =>
          rw [mapO_nil e3]
          exact p_meth0 G.hu (ih.e _ _ _ _ _ G e2) (recv_base hr) hl
        | cons a es =>
          have hs0 := hs
          rw [List.all_cons, Bool.and_eq_true] at hs
          refine p_meth G.hu (ih.e _ _ _ _ _ G e2) (snd_args ih G hs0 e3) (recv_base hr) ?_ hl (star_cons hs.1) (back_any hs.2)
          rw [back_all hs0, Bool.and_eq_true, Bool.and_eq_true]
          refine ⟨⟨rfl, rfl⟩, decide_eq_true ?_⟩
          simp at hn ⊢
          omega
      · cases h
    · cases h
  · -- a comprehension
    rename_i elt tg iter ifs scope pos
    split at h
    · rename_i hc
      obtain ⟨hb, hset⟩ := hc
      split at h
      · rename_i it g cs y e1 e2 e3 e4
        split at h
        · rename_i hq
          obtain ⟨hq1, hq2⟩ := hq
          cases h
          refine p_lc G.calm G.nd (ih.i _ _ _ _ _ _ G e1) (by rw [G.hN, G.hsc]; exact blkOk_by hb) (fun s H C cl fp => ih.g _ _ _ _ _ (G.blk scope s H C cl fp) e2)
            (fun s H C cl fp => ?_) (fun s H C cl fp => ih.e _ _ _ _ _ (G.blk scope s H C cl fp) e4) (fun _ => fold_none hset) ?_
          · cases ifs with
            | nil => rw [mapO_nil e3]; exact ts_nil
            | cons c1 cr =>
              obtain ⟨u, us, f1, f2, rfl⟩ := mapO_cons e3
              cases cr with
              | nil => rw [mapO_nil f2]; exact ts_one (ih.c _ _ _ _ _ (G.blk scope s H C cl fp) f1)
              | cons c2 cr =>
                obtain ⟨u2, us2, _, _, rfl⟩ := mapO_cons f2
                simp at hq2
          · intro i hi
            rw [List.all_eq_true] at hq1
            have := hq1 i hi
            rw [List.any_eq_true] at this
            obtain ⟨p, hp, e⟩ := this
            rw [← of_decide_eq_true e]
            exact List.mem_map.mpr ⟨p, hp, rfl⟩
        · cases h
      · cases h
    · cases h
  · cases h
theorem snd_O (ih : SndN P T N n) (a : Option Expr) (x : Option E) (G : Good P T N sc tl X) (h : cO P N (n + 1) sc a = some x) : PO X a (rdO X.K X.mg T x) := by
  simp only [cO] at h
  split at h
  · cases h; exact p_onone
  · obtain ⟨y, e1, rfl⟩ := map_ok h
    exact p_osome (ih.e _ _ _ _ _ G e1)
theorem snd_C (ih : SndN P T N n) (a : Expr) (x : C) (G : Good P T N sc tl X) (h : cC P N (n + 1) sc a = some x) : pC X T a x := by
  simp only [cC] at h
  split at h
  · exact (snd_cAnd ih G h).pt
  · exact (snd_cOr ih G h).pt
  · obtain ⟨y, e1, rfl⟩ := map_ok h
    exact c_not (ih.c _ _ _ _ _ G e1)
  · split at h
    · rename_i hb
      split at h
      · rename_i x y e1 e2
        cases h
        exact c_cmp G.hu (ih.e _ _ _ _ _ G e1) (ih.e _ _ _ _ _ G e2) hb
      · cases h
    · cases h
  · split at h
    · rename_i hb
      split at h
      · rename_i x y z e1 e2 e3
        cases h
        exact c_cmp2 G.hu (ih.e _ _ _ _ _ G e1) (ih.e _ _ _ _ _ G e2) (ih.e _ _ _ _ _ G e3) hb
      · cases h
    · cases h
  · split at h
    · rename_i hp
      obtain ⟨y, e1, rfl⟩ := map_ok h
      exact c_val (ih.e _ _ _ _ _ G e1) fun _ => plain_true hp
    · cases h
theorem sub_asg {o i : Expr} {pos : Pos} {env : Env} (h : nSlice i = true) (v : Value) : assign (.Subscript o i pos) env v = (do
      let ov ← holding [v] (eval o env)
      let iv ← holding [v, ov] (eval i env)
      standAt pos
      holding [v, ov, iv] (setItem ov iv v)
      release [v, ov, iv] []) := by
  cases i <;> first | rfl | cases h
theorem snd_G (ih : SndN P T N n) (a : Expr) (x : AI.G) (G : Good P T N sc tl X) (h : cG P N (n + 1) sc tl a = some x) : pG X T a x := by
  simp only [cG] at h
  split at h
  · split at h
    · rename_i ht
      obtain ⟨i, e1, rfl⟩ := map_ok h
      obtain ⟨t1, t2⟩ := G.tgt _ ht
      exact g_nm G.nd (idx_ok G e1) t1 t2
    · cases h
  · split at h
    · rename_i hs
      obtain ⟨xs, e1, rfl⟩ := map_ok h
      obtain ⟨q1, q2, q3⟩ := snd_gs ih G hs e1
      exact g_tup G.calm q1 q2 q3
    · cases h
  · split at h
    · rename_i hs
      split at h
      · rename_i x y e1 e2
        cases h
        exact g_sub (ih.e _ _ _ _ _ G e1) (ih.e _ _ _ _ _ G e2) (sub_asg hs)
      · cases h
    · cases h
  · cases h
theorem snd_I (ih : SndN P T N n) (tg a : Expr) (x : AI.I) (G : Good P T N sc tl X) (h : cI P N (n + 1) sc a = some x) : pIt X T tg a x := by
  simp only [cI] at h
  split at h
  · rename_i f p args pos
    split at h
    · rename_i hf
      subst hf
      split at h
      · rename_i hc
        split at h
        · split at h
          · rename_i hs
            obtain ⟨y, e1, rfl⟩ := map_ok h
            exact i_rng1 (glob_ok G hc.1) (G.nob _ hc.2) (p_cons (ih.e _ _ _ _ _ G e1) p_nil (star_cons hs)) (by rw [star_cons hs]; rfl)
          · cases h
        · split at h
          · rename_i hs
            split at h
            · rename_i x y e1 e2
              cases h
              exact i_rng2 (glob_ok G hc.1) (G.nob _ hc.2) (p_cons (ih.e _ _ _ _ _ G e1) (p_cons (ih.e _ _ _ _ _ G e2) p_nil (star_cons hs.2)) (star_cons hs.1)) (by rw [star_cons hs.1, star_cons hs.2]; rfl) (by rw [star_cons hs.2]; rfl)
            · cases h
          · cases h
        · cases h
      · cases h
    · split at h
      · rename_i hf
        subst hf
        split at h
        · rename_i hc
          split at h
          · split at h
            · rename_i hs
              obtain ⟨y, e1, rfl⟩ := map_ok h
              exact i_rev (glob_ok G hc.1) (G.nob _ hc.2) (ih.e _ _ _ _ _ G e1) (star_cons hs)
            · cases h
          · cases h
        · cases h
      · obtain ⟨y, e1, rfl⟩ := map_ok h
        exact i_val (ih.e _ _ _ _ _ G e1)
  · obtain ⟨y, e1, rfl⟩ := map_ok h
    exact i_val (ih.e _ _ _ _ _ G e1)
theorem snd_all : ∀ n, SndN P T N n
  | 0 => ⟨fun _ _ _ _ _ _ h => by simp [cE] at h, fun _ _ _ _ _ _ h => by simp [cO] at h, fun _ _ _ _ _ _ h => by simp [cC] at h, fun _ _ _ _ _ _ h => by simp [cG] at h, fun _ _ _ _ _ _ _ h => by simp [cI] at h⟩
  | n + 1 => ⟨fun _ _ _ a x G h => snd_E (snd_all n) a x G h, fun _ _ _ a x G h => snd_O (snd_all n) a x G h, fun _ _ _ a x G h => snd_C (snd_all n) a x G h, fun _ _ _ a x G h => snd_G (snd_all n) a x G h, fun _ _ _ tg a x G h => snd_I (snd_all n) tg a x G h⟩
end
end AI

set_option Elab.async false
set_option linter.all false
set_option maxRecDepth 100000
set_option maxHeartbeats 4000000
/-! AiFn3: statements, defs, the module. -/
namespace AI
open PySem L2 SeqAt
section
variable {P : Sg} {T : TT} {N mu : List Str} {n : Nat} {sc : Scope} {X : Cx}
/-- a def's own body -/
structure GoodS (P : Sg) (T : TT) (N : List Str) (sc : Scope) (X : Cx) : Prop extends Good P T N sc (isLoc sc) X where
  kind : sc.kind = .function
  own : PassesOwn (model X.prog X.w) X.A X.env X.xe
theorem sw_cases {elt : Expr} {gs : List Comprehension} {scope : Scope} {lp py : Pos} {x : Str} {l : Nat} (G : GoodS P T N sc X) :
    (swapsWith (.ListComp elt gs scope lp) (some (.Name x py)) l X.env = pure true ∧ X.env.scope.names.lookup x = some .local) ∨ swapsWith (.ListComp elt gs scope lp) (some (.Name x py)) l X.env = pure false := by
  have e : swapsWith (.ListComp elt gs scope lp) (some (.Name x py)) l X.env = pure (X.env.blockKind == .function && X.env.kindOf x == some .local && py.line == lp.line && !(scope.names.any fun (n, k) => n == x && (k == .local || k == .cell))) := rfl
  rw [e]
  cases hb : (X.env.blockKind == .function && X.env.kindOf x == some .local && py.line == lp.line && !(scope.names.any fun (n, k) => n == x && (k == .local || k == .cell))) with
  | false => exact .inr rfl
  | true =>
    refine .inl ⟨rfl, ?_⟩
    simp only [Bool.and_eq_true] at hb
    exact beq_iff_eq.mp hb.1.1.2
theorem asg_name {i : Nat} {x : Str} {py : Pos} {G : Good P T N sc (isLoc sc) X} (hl : isLoc sc x = true) (e1 : idxOf N x = some i) : pG X T (.Name x py) (.nm i) := by
  obtain ⟨t1, t2⟩ := G.tgt x hl
  exact g_nm G.nd (idx_ok G e1) t1 t2
theorem bx_snd {a : Expr} {ê : E} {x : Str} (h : pE X T a ê) : pE X T a (bxE mu x ê) := by
  unfold bxE
  split
  · exact p_bx h
  · exact h
theorem lc_inv {elt : Expr} {gs : List Comprehension} {scope : Scope} {lp : Pos} {ê : E} (h : cE P N (n + 1) sc (.ListComp elt gs scope lp) = some ê) : ∃ tg iter ifs it g cs y, gs = [⟨tg, iter, ifs, 0⟩] ∧ blkC N sc scope (ownOf N scope) = true ∧ nSet iter = true ∧
    cI P N n sc iter = some it ∧ cG P N n (relS scope sc) (isLoc scope) tg = some g ∧ mapO (cC P N n (relS scope sc)) ifs = some cs ∧ cE P N n (relS scope sc) elt = some y ∧ (gSl g).all (fun i => (ownOf N scope).any fun p => decide (p.2 = i)) = true ∧ cs.length ≤ 1 ∧
    ê = .lc y g it cs ((ownOf N scope).map (·.2)) := by
  simp only [cE] at h
  split at h <;> first
    | (rename_i q; cases q; done)
    | skip
  · rename_i elt' tg iter ifs scope' pos q
    cases q
    split at h
    · rename_i hc
      obtain ⟨hb, hset⟩ := hc
      split at h
      · rename_i it g cs y e1 e2 e3 e4
        split at h
        · rename_i hq
          cases h
          exact ⟨tg, iter, ifs, it, g, cs, y, rfl, hb, hset, e1, e2, e3, e4, hq.1, hq.2, rfl⟩
        · cases h
      · cases h
    · cases h
  · cases h
theorem snd_S : ∀ (n : Nat) {X : Cx} (G : GoodS P T N sc X) (st : Stmt) (s : S), cS P N mu sc n st = some s → pS X T st s
  | 0, _, _, _, _, h => by simp [cS] at h
  | n + 1, X, G, st, s, h => by
    have ih := snd_all (P := P) (T := T) (N := N) n
    have blk : ∀ {sts : List Stmt} {ss : List S}, mapO (cS P N mu sc n) sts = some ss → pSs X T sts ss := by
      intro sts
      induction sts with
      | nil => intro ss h; rw [mapO_nil h]; exact s_nil
      | cons a as ihl =>
        intro ss h
        obtain ⟨b, bs, e1, e2, rfl⟩ := mapO_cons h
        exact s_cons (snd_S n G a b e1) (ihl e2)
    simp only [cS] at h
    have no : ∀ {st : Stmt} {s : S}, some S.no = some s → pS X T st s := fun e => by cases e; exact s_no
    split at h
    · -- name = [..]
      rename_i x py elt gs scope lp pos
      split at h
      · rename_i ê i e1 e2
        split at h
        · rename_i hl
          cases h
          obtain ⟨t1, t2⟩ := G.tgt x hl
          rcases sw_cases (elt := elt) (gs := gs) (scope := scope) (lp := lp) (py := py) (x := x) (l := pos.line) G with ⟨hw, hy⟩ | hw
          · obtain ⟨tg, iter, ifs, it, g, cs, y, rfl, hb, hset, f1, f2, f3, f4, f5, f6, rfl⟩ := lc_inv e1
            have := s_setLc (T := T) (eifs := cs) (bx := mu.any fun y => decide (y = x)) G.calm G.nd (idx_ok G.toGood e2) hy hw (ih.i _ _ _ _ _ _ G.toGood f1) (by rw [G.hN, G.hsc]; exact blkOk_by hb)
              (fun s H C cl fp => ih.g _ _ _ _ _ (G.blk scope s H C cl fp) f2) (fun s H C cl fp => ?_) (fun s H C cl fp => ih.e _ _ _ _ _ (G.blk scope s H C cl fp) f4) (fun _ => fold_none hset) ?_
            · exact this
            · cases ifs with
              | nil => rw [mapO_nil f3]; exact ts_nil
              | cons c1 cr =>
                obtain ⟨u, us, k1, k2, rfl⟩ := mapO_cons f3
                cases cr with
                | nil => rw [mapO_nil k2]; exact ts_one (ih.c _ _ _ _ _ (G.blk scope s H C cl fp) k1)
                | cons c2 cr =>
                  obtain ⟨u2, us2, _, _, rfl⟩ := mapO_cons k2
                  simp at f6
            · intro i hi
              rw [List.all_eq_true] at f5
              have := f5 i hi
              rw [List.any_eq_true] at this
              obtain ⟨p, hp, e⟩ := this
              rw [← of_decide_eq_true e]
              exact List.mem_map.mpr ⟨p, hp, rfl⟩
          · exact s_asg (bx_snd ((snd_all (n + 1)).e _ _ _ _ _ G.toGood e1)) (asg_name (G := G.toGood) hl e2) hw ss_name rfl
        · exact no h
      · exact no h
    · split at h
      · rename_i x py e pos hne hc
        split at h
        · rename_i ê i e1 e2
          split at h
          · rename_i hl
            cases h
            exact s_asg (bx_snd (ih.e _ _ _ _ _ G.toGood e1)) (asg_name (G := G.toGood) hl e2) (show swapsWith e (some (.Name x py)) pos.line X.env = pure false from sw_none hc) ss_name rfl
          · exact no h
        · exact no h
      · exact no h
    · split at h
      · rename_i tg e pos hn1 hn2 hc
        obtain ⟨c1, c2, c3⟩ := hc
        split at h
        · rename_i ê g e1 e2
          cases h
          exact s_asg (ih.e _ _ _ _ _ G.toGood e1) (ih.g _ _ _ _ _ G.toGood e2) (show swapsWith e (some tg) pos.line X.env = pure false from sw_none c1) (ss_none c2) (asg_one c3)
        · exact no h
      · exact no h
    · split at h
      · rename_i x p op e pos hc
        split at h
        · rename_i ê i e1 e2
          cases h
          obtain ⟨t1, t2⟩ := G.tgt x hc.2
          exact s_aug hc.1 G.nd (idx_ok G.toGood e2) t1 t2 (ih.e _ _ _ _ _ G.toGood e1)
        · exact no h
      · exact no h
    · cases h; exact s_doc
    · split at h
      · rename_i hc
        split at h
        · rename_i y e1
          cases h
          exact s_expr (ih.e _ _ _ _ _ G.toGood e1) (sw_none hc)
        · exact no h
      · exact no h
    · split at h
      · rename_i u x y e1 e2 e3
        cases h
        exact s_ite (ih.c _ _ _ _ _ G.toGood e1) (blk e2) (blk e3)
      · exact no h
    · split at h
      · rename_i hset
        split at h
        · rename_i g it x e1 e2 e3
          cases h
          exact s_for G.own G.calm (ih.i _ _ _ _ _ _ G.toGood e2) (ih.g _ _ _ _ _ G.toGood e1) (blk e3) fun _ => fold_none hset
        · exact no h
      · exact no h
    · split at h
      · rename_i u x e1 e2
        cases h
        exact s_while G.own (ih.c _ _ _ _ _ G.toGood e1) (blk e2)
      · exact no h
    · rename_i e0 es p pos
      split at h
      · split at h
        · rename_i hs
          rw [List.all_cons, Bool.and_eq_true] at hs
          split at h
          · rename_i x xs e1 e2
            cases h
            exact s_ret (p_bx (p_lst (p_cons (p_bx (ih.e _ _ _ _ _ G.toGood e1)) (snd_args ih G.toGood hs.2 e2) (star_cons hs.1))))
          · exact no h
        · exact no h
      · split at h
        · rename_i y e1
          cases h
          exact s_ret (bx_snd (ih.e _ _ _ _ _ G.toGood e1))
        · exact no h
    · split at h
      · rename_i y e1
        cases h
        exact s_ret (bx_snd (ih.e _ _ _ _ _ G.toGood e1))
      · exact no h
    · cases h; exact s_retN
    · cases h; exact s_pass
    · cases h; exact s_brk
    · cases h; exact s_cnt
    · exact no h
theorem snd_Ss {n : Nat} (G : GoodS P T N sc X) : ∀ {sts : List Stmt} {ss : List S}, mapO (cS P N mu sc n) sts = some ss → pSs X T sts ss
  | [], _, h => by rw [mapO_nil h]; exact s_nil
  | a :: as, _, h => by
    obtain ⟨b, bs, e1, e2, rfl⟩ := mapO_cons h
    exact s_cons (snd_S n G a b e1) (snd_Ss G e2)
end
end AI

set_option Elab.async false
set_option linter.all false
set_option maxRecDepth 100000
set_option maxHeartbeats 4000000
/-! AiTop: the module's defs, the law. -/
namespace AI
open PySem PySem.Spec PyProof.Rows L2 SeqAt
/-- a def as the text has it, with its translation -/
structure DefI where
  name : Str
  params : Arguments
  body : List Stmt
  scope : Scope
  N : List Str
  ps : List Str
  mu : List Str
  ss : List S
/-- what is known of a def -/
structure DefOk (P : Sg) (M : Mdl) (K : PySem.W.Frag) (mg : Str → Option Value) (d : DefI) (fa : Addr) (fd : FuncData) : Prop where
  sco : FnScope d.N d.ps d.scope
  tr : ∃ k, mapO (cS P d.N d.mu d.scope k) d.body = some d.ss
  def_ : M.defs d.name = some ⟨d.ps.length, d.N.length, d.ss⟩
  fun_ : FunD K d.name d.name d.params d.body d.scope [] [] fa fd
  mgf : mg d.name = some (.ref fa)
  bnd : Binds K fd d.ps []
structure ModF (P : Sg) (M : Mdl) (K : PySem.W.Frag) (mg : Str → Option Value) : Prop where
  fns : ∀ f n, P.ar f = some n → ∃ d fa fd, DefOk P M K mg d fa fd ∧ d.name = f ∧ d.ps.length = n
  cst : ∀ x d, P.cst x = some d → ∃ u v, mg x = some u ∧ RelV v u ∧ (∀ μ H, VD K μ H v d) ∧ M.cst x = some d
  nob : ∀ x, inNob P x = true → mg x = none
theorem tt_cst {M : Mdl} : ∀ n, (M.tt n).cst = M.cst
  | 0 => rfl
  | _ + 1 => rfl
theorem SR.start {K : PySem.W.Frag} {mg : Str → Option Value} {μ : List Addr} {H : Hp} {vs : List V} {rs : List RV} {N : List Str} (xs : VRs K mg μ H vs rs) : SR K mg μ H (L2.start N vs) (startS N.length rs) := by
  have l := xs.length
  refine ⟨by simp [L2.start, startS, l], fun i r e => ?_⟩
  unfold startS at e
  unfold L2.start
  by_cases h : i < rs.length
  · rw [List.getElem?_append_left (by simpa using h), List.getElem?_map] at e
    cases q : rs[i]? with
    | none => rw [q] at e; cases e
    | some r0 =>
      rw [q] at e
      simp at e
      subst e
      obtain ⟨v, e1, e2⟩ := xs.get q
      refine ⟨v, ?_, e2⟩
      rw [List.getElem?_append_left (by simpa [l] using h), List.getElem?_map, e1]; rfl
  · rw [List.getElem?_append_right (by simpa using h), List.getElem?_replicate] at e
    split at e <;> cases e
theorem lift70 (a n : Nat) : a + 70 ≤ a + 16 * n + 200 := by omega
theorem all_ok {P : Sg} {M : Mdl} {prog : Program} {w : World} {K : PySem.W.Frag} {mg : Str → Option Value} {base : Heap} (F : ModF P M K mg) : ∀ (n : Nat) (d : DefI) (fa : Addr) (fd : FuncData), DefOk P M K mg d fa fd →
    FnG prog w K mg base n fa fd d.ps (spF K mg (M.tt n) d.ps.length d.name)
  | 0, d, fa, fd, h => by
    have no : ∀ vs H Q E, ¬ spF K mg (M.tt 0) d.ps.length d.name vs H Q E := fun vs H Q E ⟨μ, h, rs, _, _, _, o⟩ => o
    exact ⟨fun vs H Q E h => absurd h (no vs H Q E), fun A outer s H args us vs Q E _ _ _ _ _ h => absurd h (no vs H Q E)⟩
  | n + 1, d, fa, fd, h => by
    have ih := all_ok (prog := prog) (w := w) (base := base) F n
    refine fn_g h.fun_ h.sco (fun vs H Q E ⟨μ, b, rs, R, xs, hl, o⟩ => by rw [xs.length, hl]) fun cdv A outer s H vs Q E gd hr ⟨μ, b, rs, R, xs, hl, o⟩ => ?_
    obtain ⟨k, tr⟩ := h.tr
    have G : GoodS P (M.tt n) d.N d.scope (cxOf CX0 prog w K mg base d.N d.name d.scope fa cdv A outer s H E).nox := {
      hN := rfl
      nd := h.sco.nd
      hsc := rfl
      calm := rfl
      hu := Nat.lt_of_le_of_lt (lift70 _ n) hr.un
      gd := gd
      fnok := fun f m e => by
        obtain ⟨d', fa', fd', D, rfl, rfl⟩ := F.fns f m e
        exact ⟨fa', fd', d'.ps, n, D.mgf, rfl, ih d' fa' fd' D, hr, D.fun_.kp, D.bnd⟩
      cst := fun x y e => by
        obtain ⟨u, v, e1, e2, e3, e4⟩ := F.cst x y e
        exact ⟨u, v, e1, e2, e3, by rw [tt_cst]; exact e4⟩
      nob := F.nob
      tgt := fun x e => by
        unfold isLoc at e
        rw [Bool.or_eq_true, decide_eq_true_eq, decide_eq_true_eq] at e
        exact ⟨e, .inl rfl⟩
      kind := h.sco.kind
      own := PassesOwn.never }
    refine ⟨_, PSs.nox (snd_Ss G tr), _, μ, b, SR.start xs, R, ?_⟩
    have o1 : Out K mg μ H (rawDef (M.tt n) ⟨d.ps.length, d.N.length, d.ss⟩ rs b) Q := by
      have e : (M.tt (n + 1)).raw d.name rs b = rawDef (M.tt n) ⟨d.ps.length, d.N.length, d.ss⟩ rs b := by
        show (match M.defs d.name with | some d => rawDef (M.tt n) d rs | none => AI.M.no) b = _
        rw [h.def_]
      rw [← e]; exact o
    unfold rawDef at o1
    simp only [hl, if_true] at o1
    cases q : exs (M.tt n) d.ss (startS d.N.length rs) b with
    | ok f b' =>
      rw [q] at o1
      cases f with
      | nx s => exact fun σ' μ' H' R' E' _ => o1 .non μ' H' R' E' (.pd .non)
      | rt r => exact o1
      | bk _ => exact o1.elim
      | ct _ => exact o1.elim
    | ex _ _ => rw [q] at o1; exact o1.elim
    | no => rw [q] at o1; exact o1.elim

/-! ### the module's own values as data -/
mutual
def vB (K : PySem.W.Frag) : D → Value → Bool
  | .none, .none => true
  | .bool b, .bool c => b == c
  | .int i, .int j _ => decide (i = j)
  | .str x, .str y _ => decide (x = y)
  | .tuple ds, .ref a => match K.lookup a with
    | some ⟨.type c, none, .seq its _, _⟩ => decide (c = "tuple") && (decide (its.size ≤ sizeLine) && vBs K ds its.toList)
    | _ => false
  | _, _ => false
def vBs (K : PySem.W.Frag) : List D → List Value → Bool
  | [], [] => true
  | d :: ds, v :: vs => vB K d v && vBs K ds vs
  | _, _ => false
end
mutual
theorem vB_ok {K : PySem.W.Frag} : ∀ (d : D) (u : Value), vB K d u = true → ∃ v, RelV v u ∧ ∀ μ H, VD K μ H v d
  | .none, u, h => by
    cases u with
    | none => exact ⟨.non, rfl, fun _ _ => .non⟩
    | _ => cases h
  | .bool b, u, h => by
    cases u with
    | bool c =>
      have e : b = c := eq_of_beq (show (b == c) = true from h)
      subst e
      exact ⟨.bl b, rfl, fun _ _ => .bl b⟩
    | _ => cases h
  | .int i, u, h => by
    cases u with
    | int j t =>
      have e : i = j := of_decide_eq_true h
      subst e
      exact ⟨.int i, ⟨t, rfl⟩, fun _ _ => .int i⟩
    | _ => cases h
  | .str i, u, h => by
    cases u with
    | str j t =>
      have e : i = j := of_decide_eq_true h
      subst e
      exact ⟨.str i, ⟨t, rfl⟩, fun _ _ => .str i⟩
    | _ => cases h
  | .tuple ds, u, h => by
    cases u with
    | ref a =>
      simp only [vB] at h
      split at h
      · rename_i c its n osl q
        obtain ⟨h1, h2⟩ := Bool.and_eq_true_iff.mp h
        obtain ⟨h3, h4⟩ := Bool.and_eq_true_iff.mp h2
        obtain ⟨vs, r, f⟩ := vBs_ok ds its.toList h4
        refine ⟨.ref a, rfl, fun μ H => .tupK ⟨_, its, n, q, ?_, rfl, rfl, of_decide_eq_true h3, r⟩ (f μ H)⟩
        rw [of_decide_eq_true h1]
      · cases h
    | _ => cases h
  | .list _, u, h => by cases u <;> cases h
  | .dict _, u, h => by cases u <;> cases h
theorem vBs_ok {K : PySem.W.Frag} : ∀ (ds : List D) (us : List Value), vBs K ds us = true → ∃ vs, Vals vs us ∧ ∀ μ H, VDs K μ H vs ds
  | [], [], _ => ⟨[], .nil, fun _ _ => .nil⟩
  | d :: ds, u :: us, h => by
    simp only [vBs] at h
    obtain ⟨h1, h2⟩ := Bool.and_eq_true_iff.mp h
    obtain ⟨v, r, f⟩ := vB_ok d u h1
    obtain ⟨vs, rs, fs⟩ := vBs_ok ds us h2
    exact ⟨v :: vs, .cons r rs, fun μ H => .cons (f μ H) (fs μ H)⟩
  | [], _ :: _, h => by cases h
  | _ :: _, [], h => by cases h
end
def cB (K : PySem.W.Frag) (c : Str × D) : Bool := match PySem.W.nsIn K mainGlobals c.1 with
  | some (some u) => vB K c.2 u
  | _ => false
theorem cB_ok {K : PySem.W.Frag} {h : Heap} {mg : Str → Option Value} (X : K.In h) (G : h.Ns mainGlobals mg) {x : Str} {d : D} (c : cB K (x, d) = true) : ∃ u v, mg x = some u ∧ RelV v u ∧ ∀ μ H, VD K μ H v d := by
  unfold cB at c
  split at c
  · rename_i u e
    obtain ⟨v, r, f⟩ := vB_ok _ _ c
    exact ⟨u, v, PySem.W.mg_of X G e, r, f⟩
  · cases c
/-! ### the head's facts -/
def DefI.toD (d : DefI) : He.DefD := ⟨(d.name, none), d.name, d.name, d.params, d.body, d.scope, [], []⟩
structure Tab where
  dfs : List DefI
  cs : List (Str × D)
  fr : List Str
  wf : Nat
def Tab.find (t : Tab) (f : Str) : Option DefI := t.dfs.find? fun d => decide (d.name = f)
def Tab.sg (t : Tab) : Sg := ⟨fun f => (t.find f).map fun d => d.ps.length, fun x => t.cs.lookup x, t.fr⟩
def Tab.mdl (t : Tab) : Mdl := ⟨fun f => (t.find f).map fun d => ⟨d.ps.length, d.N.length, d.ss⟩, fun x => t.cs.lookup x, t.wf⟩
def Tab.fa (t : Tab) : List He.Fa := t.dfs.map (fun d => .glo d.name) ++ t.fr.map .free
abbrev hookA (n : Nat) (t : Tab) : PySem.W.Hook where
  α := He.AlD × Bool
  obs := fun s => (He.obsDG n t.fa (t.dfs.map DefI.toD) s.heap.get?, t.cs.all (cB (He.frG s.heap.get? (He.asD s.heap.get? n))))
  val := fun _ => (He.valD (t.dfs.map DefI.toD), true)
  says := fun _ h => ∃ K : PySem.W.Frag, K.In h ∧ He.SaysD t.fa (t.dfs.map DefI.toD) K ∧ t.cs.all (cB K) = true
  of := fun _ _ e => ⟨_, He.frG_in, congrArg (fun z : He.AlD × Bool => z.1) e, congrArg (fun z : He.AlD × Bool => z.2) e⟩
  keeps := fun _ _ _ ⟨K, hK, c⟩ k => ⟨K, PySem.W.Frag.In.keeps hK k, c⟩
def obA (n : Nat) (t : Tab) (s : PySem.W.SharedT) : He.AlD × Bool := (He.obsDG n t.fa (t.dfs.map DefI.toD) (HandSHeadRun.getT s), t.cs.all (cB (He.frG (HandSHeadRun.getT s) (He.asD (HandSHeadRun.getT s) n))))
theorem obA_eq (n : Nat) (t : Tab) (s : PySem.W.SharedT) : obA n t s = (hookA n t).obs s.abs := by
  have e : HandSHeadRun.getT s = s.abs.heap.get? := funext (HandSHeadRun.getT_eq s)
  unfold obA
  rw [e]
/-- what is to be seen of a def in the text -/
structure DefC (t : Tab) (d : DefI) : Prop where
  sco : C8.scC d.N d.ps d.scope = true
  tr : mapO (cS t.sg d.N d.mu d.scope 60) d.body = some d.ss
  bnd : ∀ (kV doc pm : Value) (an : Option Addr) (cdv ct : Value) (us : List Value), us.length = d.ps.length → bindArgs (PySem.W.fnOf d.name d.name d.params d.body d.scope .none kV doc pm an cdv ct) ⟨us, []⟩ = pure (d.ps.zip us)
inductive AllC (t : Tab) : List DefI → Prop
  | nil : AllC t []
  | cons {d : DefI} {ds : List DefI} : DefC t d → AllC t ds → AllC t (d :: ds)
theorem AllC.mem {t : Tab} {ds : List DefI} (A : AllC t ds) {d : DefI} (h : d ∈ ds) : DefC t d := by
  induction A with
  | nil => cases h
  | cons c _ ih => rcases List.mem_cons.mp h with rfl | h
                   · exact c
                   · exact ih h
theorem Tab.find_mem {t : Tab} {f : Str} {d : DefI} (e : t.find f = some d) : d ∈ t.dfs ∧ d.name = f := by
  unfold Tab.find at e
  exact ⟨List.mem_of_find?_eq_some e, by simpa using List.find?_some e⟩
section
variable {t : Tab} {K : PySem.W.Frag} {h : Heap} {mg : Str → Option Value}
theorem says_def (X : K.In h) (G : h.Ns mainGlobals mg) (A : AllC t t.dfs) (c : He.SaysD t.fa (t.dfs.map DefI.toD) K) {f : Str} {d : DefI} (e : t.find f = some d) : ∃ fd, DefOk t.sg t.mdl K mg d (He.ga K d.name) fd := by
  obtain ⟨m, rfl⟩ := t.find_mem e
  obtain ⟨i, hi⟩ := List.getElem?_of_mem m
  obtain ⟨fd, F⟩ := c.def_ i (d := d.toD) (by rw [List.getElem?_map, hi]; rfl)
  have D := A.mem m
  have hl : i < t.dfs.length := (List.getElem?_eq_some_iff.mp hi).1
  have g : mg d.name = some (.ref (He.ga K d.name)) := He.glo_ok X G (c.fact i (f := .glo d.name) (by
    unfold Tab.fa
    rw [List.getElem?_append_left (by simpa using hl), List.getElem?_map, hi]; rfl))
  exact ⟨fd, C8.fnScope_by D.sco, ⟨60, D.tr⟩, by show (t.find d.name).map _ = _; rw [e]; rfl, F, g, FunD.bindsN F D.bnd⟩
theorem says_mod (X : K.In h) (G : h.Ns mainGlobals mg) (A : AllC t t.dfs) (c : He.SaysD t.fa (t.dfs.map DefI.toD) K) (cc : t.cs.all (cB K) = true) : ModF t.sg t.mdl K mg where
  fns := fun f n e => by
    have e' : (t.find f).map (fun d => d.ps.length) = some n := e
    cases q : t.find f with
    | none => rw [q] at e'; cases e'
    | some d =>
      rw [q] at e'
      cases e'
      obtain ⟨fd, D⟩ := says_def X G A c q
      exact ⟨d, _, fd, D, (t.find_mem q).2, rfl⟩
  cst := fun x d e => by
    have e' : t.cs.lookup x = some d := e
    have m := PySem.mem_of_lookup e'
    obtain ⟨u, v, a, b, f⟩ := cB_ok X G (List.all_eq_true.mp cc _ m)
    exact ⟨u, v, a, b, f, e'⟩
  nob := fun x e => by
    have e' : (t.fr.any fun y => decide (y = x)) = true := e
    obtain ⟨y, m, q⟩ := List.any_eq_true.mp e'
    obtain rfl := of_decide_eq_true q
    obtain ⟨i, hi⟩ := List.getElem?_of_mem m
    refine He.free_ok X G (c.fact (t.dfs.length + i) (f := .free y) ?_)
    unfold Tab.fa
    rw [List.getElem?_append_right (by simp)]
    simp [hi]
end
/-- THE END: a law whose plain run is true -/
theorem walk_ai {l : PySem.W.OpenLaw} {q : Program} {loose : List Str} {XP : (Str → Option Value) → Heap → Prop} {d : DefRec} (t : Tab) (k : Nat) (dl : DefI) (x : Str)
    (hn : l.most = some 63) (hdf : d.params.defaults = []) (hr : Room k callerA) (hd : d.name = dl.name) (hf : t.find dl.name = some dl) (hps : dl.ps = [x]) (A : AllC t t.dfs)
    (plain : ∀ ns : List Int, ns.length ≤ 63 → ∃ b, (t.mdl.tt k).raw dl.name [.fz (ns.map PyData.int)] [] = .ok (.pd (.bool true)) b) :
    PySem.W.WalkO q loose XP (hookA 4 t).says l.row.toRowW d [] (fun f vs => PySem.call f vs) := by
  refine walk_g (l := l) (n := 63) (k := k) (x := x) hn (by decide) hdf hr ?F
  intro w mg fa h Y G hmg
  obtain ⟨K, KX, c, cc⟩ := Y
  rw [hd] at hmg
  obtain ⟨fd, D⟩ := says_def KX G A c hf
  have e := hmg.symm.trans D.mgf
  cases e
  have F := says_mod KX G A c cc
  have b : ∀ (s : Shared) (u : Value), BindsTo s fd ⟨[u], []⟩ [(x, u)] := fun s u => by
    have := FunD.bindsA (ps := dl.ps) D.fun_ (A.mem (t.find_mem hf).1).bnd s [u] (by rw [hps]; rfl)
    rw [hps] at this
    exact this
  refine ⟨K, fd, spF K mg (t.mdl.tt k) dl.ps.length dl.name, KX, b, fun H a ns hl ho hS => ?_, fun base _ _ => ?_⟩
  · obtain ⟨b, e⟩ := plain ns hl
    refine ⟨[], [], [.fz (ns.map PyData.int)], ⟨rfl, .nil, fun i a b e => by simp at e, fun i cs e => by simp at e⟩, .cons (.fz hS ?_ ?_ ?_) .nil, by rw [hps]; rfl, ?_⟩
    · rcases hS with (hS | ⟨o, hS⟩) | hS
      · rcases ho a with q | ⟨o, xs, q⟩
        · rw [hS] at q; cases q
        · rw [hS] at q; cases q
      · exact .inl ⟨⟨o, hS⟩, by simp⟩
      · exact .inr hS
    · rw [List.length_map]; exact Nat.le_trans hl (by decide)
    · clear hS b e hl
      induction ns with
      | nil => exact .nil
      | cons i ns ih => exact .cons (.int i) ih
    · rw [e]
      intro v μ' H' _ _ x
      cases x with
      | pd q => cases q; rfl
  · have := all_ok (prog := l.prog) (w := w) (base := base) F k dl _ fd D
    rw [hps] at this ⊢
    exact this
end AI

set_option Elab.async false
set_option linter.all false
set_option maxRecDepth 100000
set_option maxHeartbeats 4000000
/-! AiWp: reasoning about the plain run. -/
namespace AI
open PySem L2
/-- m ends well, behind it Q -/
def wp {α : Type} (m : M α) (Q : α → Boxes → Prop) (h : Boxes) : Prop := ∃ a h', m h = .ok a h' ∧ Q a h'
section
variable {α β : Type} {a : α} {m : M α} {f : α → M β} {Q : α → Boxes → Prop} {Q2 : β → Boxes → Prop} {h h' : Boxes}
theorem wp_of (e : m h = .ok a h') (q : Q a h') : wp m Q h := ⟨a, h', e, q⟩
theorem wp_mono {Q' : α → Boxes → Prop} (w : wp m Q h) (f : ∀ a h', Q a h' → Q' a h') : wp m Q' h := let ⟨a, h', e, q⟩ := w; ⟨a, h', e, f a h' q⟩
theorem wp_ret : wp (M.ret a) Q h = Q a h := propext ⟨fun ⟨_, _, e, q⟩ => (by cases e; exact q), fun q => ⟨_, _, rfl, q⟩⟩
theorem wp_bnd : wp (M.bnd m f) Q2 h = wp m (fun a h' => wp (f a) Q2 h') h := propext ⟨fun ⟨b, h2, e, q⟩ => (by
  unfold M.bnd at e
  cases e1 : m h with
  | ok a h1 => rw [e1] at e; exact ⟨a, h1, e1, b, h2, e, q⟩
  | ex _ _ => rw [e1] at e; cases e
  | no => rw [e1] at e; exact (nomatch e)), fun ⟨a, h1, e1, b, h2, e2, q⟩ => ⟨b, h2, by unfold M.bnd; rw [e1]; exact e2, q⟩⟩
theorem wp_some : wp (M.opt (some a)) Q h = Q a h := wp_ret
theorem wp_opt {o : Option α} : wp (M.opt o) Q h = ∃ a, o = some a ∧ Q a h := by
  cases o with
  | none => exact propext ⟨fun ⟨_, _, e, _⟩ => (by cases e), fun ⟨_, e, _⟩ => by cases e⟩
  | some a => rw [wp_some]; exact propext ⟨fun q => ⟨a, rfl, q⟩, fun ⟨_, e, q⟩ => by cases e; exact q⟩
theorem wp_grd {b : Bool} {Q : Unit → Boxes → Prop} : wp (M.grd b) Q h = (b = true ∧ Q () h) := by
  cases b with
  | false => exact propext ⟨fun ⟨_, _, e, _⟩ => (by cases e), fun ⟨e, _⟩ => by cases e⟩
  | true => exact wp_ret.trans (propext ⟨fun q => ⟨rfl, q⟩, fun q => q.2⟩)
theorem wp_no : wp (M.no : M α) Q h = False := propext ⟨fun ⟨_, _, e, _⟩ => (by cases e), fun z => z.elim⟩
theorem wp_ite {c : Prop} [Decidable c] {m' : M α} : wp (if c then m else m') Q h = if c then wp m Q h else wp m' Q h := by split <;> rfl
theorem wp_dite {c : Bool} {m' : M α} : wp (if c = true then m else m') Q h = ((c = true → wp m Q h) ∧ (c = false → wp m' Q h)) := by cases c <;> simp
theorem wp_raw {r : Res α} : wp (fun _ => r) Q h = ∃ a h', r = .ok a h' ∧ Q a h' := rfl
end
section
variable {Q : D → Boxes → Prop} {R : RV → Boxes → Prop} {h : Boxes}
theorem wp_dat_pd {d : D} : wp (dat (.pd d)) Q h = Q d h := wp_ret
theorem wp_dat_fz {ds : List D} : wp (dat (.fz ds)) Q h = Q (.list ds) h := wp_ret
theorem wp_dat_rf {n : Nat} {ds : List D} (e : h[n]? = some (.lst ds)) : wp (dat (.rf n)) Q h = Q (.list ds) h := by
  refine propext ⟨fun ⟨a, h', e1, q⟩ => ?_, fun q => ⟨_, _, by simp only [dat, e], q⟩⟩
  simp only [dat, e] at e1
  cases e1; exact q
theorem wp_newL {bx : Bool} {ds : List D} (z : ds.length ≤ sizeLine) : wp (newL bx ds) R h = if bx = true then R (.rf h.length) (h ++ [.lst ds]) else R (.pd (.list ds)) h := by
  cases bx with
  | true => exact propext ⟨fun ⟨_, _, e, q⟩ => by simp only [newL, if_pos z] at e; cases e; exact q, fun q => ⟨_, _, by simp only [newL, if_pos z, if_true], q⟩⟩
  | false => exact propext ⟨fun ⟨_, _, e, q⟩ => by simp only [newL, if_pos z] at e; cases e; exact q, fun q => ⟨_, _, by simp only [newL, if_pos z]; rfl, q⟩⟩
theorem wp_newT {ds : List D} (z : ds.length ≤ sizeLine) : wp (newT ds) R h = R (.pd (.tuple ds)) h :=
  propext ⟨fun ⟨_, _, e, q⟩ => by simp only [newT, if_pos z] at e; cases e; exact q, fun q => ⟨_, _, by simp only [newT, if_pos z], q⟩⟩
theorem wp_tupD {rs : List RV} {ds : List D} (e : allPd rs = some ds) (z : ds.length ≤ sizeLine) : wp (mkTup rs) R h = R (.pd (.tuple ds)) h :=
  propext ⟨fun ⟨_, _, e1, q⟩ => by simp only [mkTup, e, if_pos z] at e1; cases e1; exact q, fun q => ⟨_, _, by simp only [mkTup, e, if_pos z], q⟩⟩
theorem wp_idxL {n : Nat} {ds : List D} {k : Int} (e : h[n]? = some (.lst ds)) : wp (idxB n k) R h = wp (M.opt (atI ds k)) (fun d h' => R (.pd d) h') h := by
  have : idxB n k h = M.bnd (M.opt (atI ds k)) (fun d => M.ret (.pd d)) h := by simp only [idxB, e]
  have e2 : wp (idxB n k) R h = wp (M.bnd (M.opt (atI ds k)) (fun d => M.ret (.pd d))) R h := by unfold wp; rw [this]
  rw [e2, wp_bnd]
  congr 1
  funext a h'
  rw [wp_ret]
theorem wp_idxM {n : Nat} {cs : List Cl} {k : Int} (e : h[n]? = some (.mix cs)) : wp (idxB n k) R h = wp (M.opt (atI cs k)) (fun c h' => R (celR c) h') h := by
  have : idxB n k h = M.bnd (M.opt (atI cs k)) (fun c => M.ret (celR c)) h := by simp only [idxB, e]
  have e2 : wp (idxB n k) R h = wp (M.bnd (M.opt (atI cs k)) (fun c => M.ret (celR c))) R h := by unfold wp; rw [this]
  rw [e2, wp_bnd]
  congr 1
  funext a h'
  rw [wp_ret]
theorem wp_setM {n : Nat} {cs : List Cl} {k : Int} {j : Nat} {d : D} (e : h[n]? = some (.mix cs)) (hj : ixN cs.length k = some j) : wp (setS (.rf n) (.pd (.int k)) (.pd d)) R h = R (.pd .none) (h.set n (.mix (cs.set j (.d d)))) := by
  have : setS (.rf n) (.pd (.int k)) (.pd d) h = .ok (.pd .none) (h.set n (.mix (cs.set j (.d d)))) := by
    simp only [setS, setB, e, hj]
  exact propext ⟨fun ⟨_, _, e1, q⟩ => by rw [this] at e1; cases e1; exact q, fun q => ⟨_, _, this, q⟩⟩
theorem wp_newM {cs : List Cl} (z : cs.length ≤ 1000) : wp (newM true cs) R h = R (.rf h.length) (h ++ [.mix cs]) := by
  have z' : cs.length ≤ sizeLine := Nat.le_trans z (by decide)
  have : newM true cs h = .ok (.rf h.length) (h ++ [.mix cs]) := by simp only [newM, true_and, if_pos z']
  exact propext ⟨fun ⟨_, _, e1, q⟩ => by rw [this] at e1; cases e1; exact q, fun q => ⟨_, _, this, q⟩⟩
theorem wp_set {n : Nat} {ds : List D} {k : Int} {j : Nat} {d : D} (e : h[n]? = some (.lst ds)) (hj : ixN ds.length k = some j) (z : ds.length ≤ sizeLine) : wp (setS (.rf n) (.pd (.int k)) (.pd d)) R h = R (.pd .none) (h.set n (.lst (ds.set j d))) := by
  have : setS (.rf n) (.pd (.int k)) (.pd d) h = .ok (.pd .none) (h.set n (.lst (ds.set j d))) := by
    simp only [setS, setB, mod, e, hj]
    simp [M.bnd, M.opt, M.ret, z]
  exact propext ⟨fun ⟨_, _, e1, q⟩ => by rw [this] at e1; cases e1; exact q, fun q => ⟨_, _, this, q⟩⟩
end
/-! ### calls -/
section
variable {T T' : TT} {f : Str} {d : Def} {rs : List RV} {bx : Bool} {Q : RV → Boxes → Prop} {h : Boxes}
/-- what is wanted of a def's end, by the caller -/
def back (n0 : Nat) (bx : Bool) (Q : RV → Boxes → Prop) (r : RV) (h : Boxes) : Prop := ∃ r' h', settle n0 bx r h = .ok r' h' ∧ Q r' h'
theorem back_pd {n0 : Nat} {d : D} : back n0 bx Q (.pd d) h = Q (.pd d) (h.take n0) := propext ⟨fun ⟨_, _, e, q⟩ => (by cases e; exact q), fun q => ⟨_, _, rfl, q⟩⟩
theorem wp_call (e : T.raw f = rawDef T' d) (w : wp (rawDef T' d rs) (back h.length bx Q) h) : wp (T.call bx f rs) Q h := by
  obtain ⟨r, h1, e1, r2, h2, e2, q⟩ := w
  refine ⟨r2, h2, ?_, q⟩
  unfold TT.call
  rw [e, e1]; exact e2
/-- behind a def's body -/
def endD (Q : RV → Boxes → Prop) : Fl → Boxes → Prop := fun f h => match f with
  | .rt r => Q r h
  | .nx _ => Q (.pd .none) h
  | _ => False
theorem wp_def (l : rs.length = d.pars) (w : wp (exs T' d.body (startS d.slots rs)) (endD Q) h) : wp (rawDef T' d rs) Q h := by
  obtain ⟨f, h1, e, q⟩ := w
  cases f with
  | nx s => exact ⟨_, _, by simp only [rawDef, if_pos l, e], q⟩
  | rt r => exact ⟨_, _, by simp only [rawDef, if_pos l, e], q⟩
  | bk _ => exact q.elim
  | ct _ => exact q.elim
end
/-! ### statements -/
section
variable {T : TT} {s : S} {ss : List S} {σ : Sl} {Q : Fl → Boxes → Prop} {h : Boxes}
/-- behind a statement: on, or out -/
def goS (T : TT) (ss : List S) (Q : Fl → Boxes → Prop) : Fl → Boxes → Prop := fun f h => match f with
  | .nx σ' => wp (exs T ss σ') Q h
  | f => Q f h
theorem wp_exs_nil : wp (exs T [] σ) Q h = Q (.nx σ) h := by simp only [exs]; exact wp_ret
theorem wp_exs : wp (exs T (s :: ss) σ) Q h = wp (ex T s σ) (goS T ss Q) h := by
  simp only [exs]
  rw [wp_bnd]
  congr 1
  funext f h'
  cases f <;> first | rfl | exact wp_ret
theorem goS_nx : goS T ss Q (.nx σ) h = wp (exs T ss σ) Q h := rfl
theorem goS_rt {r : RV} : goS T ss Q (.rt r) h = Q (.rt r) h := rfl
theorem goS_bk : goS T ss Q (.bk σ) h = Q (.bk σ) h := rfl
theorem goS_ct : goS T ss Q (.ct σ) h = Q (.ct σ) h := rfl
theorem endD_rt {Q : RV → Boxes → Prop} {r : RV} : endD Q (.rt r) h = Q r h := rfl
theorem endD_nx {Q : RV → Boxes → Prop} : endD Q (.nx σ) h = Q (.pd .none) h := rfl
end
/-! ### loops -/
section
variable {s : Src} {body : D → Sl → M Fl} {Q : Fl → Boxes → Prop} {h : Boxes} {σ : Sl}
def turnE (I : Sl → Boxes → Prop) (Q : Fl → Boxes → Prop) : Fl → Boxes → Prop := fun f h => match f with
  | .nx σ' => I σ' h
  | .ct σ' => I σ' h
  | .bk σ' => Q (.nx σ') h
  | .rt r => Q (.rt r) h
theorem wp_forN (I : Nat → Sl → Boxes → Prop) (hb : s.box = none) (step : ∀ i (hi : i < s.items.length) σ h, I i σ h → wp (body s.items[i] σ) (turnE (I (i + 1)) Q) h) (fin : ∀ σ h, I s.items.length σ h → Q (.nx σ) h) :
    ∀ (k i : Nat) (σ : Sl) (h : Boxes), i + k = s.items.length → I i σ h → wp (forL s body k i σ) Q h
  | 0, i, σ, h, e, hI => by
    obtain rfl : i = s.items.length := by omega
    simp only [forL, srcEnd, hb]
    rw [wp_bnd, wp_ret, wp_ret]
    exact fin _ _ hI
  | k + 1, i, σ, h, e, hI => by
    have hi : i < s.items.length := by omega
    simp only [forL, srcAt, hb]
    rw [wp_bnd, wp_opt]
    refine ⟨s.items[i], List.getElem?_eq_getElem hi, ?_⟩
    rw [wp_bnd]
    refine wp_mono (step i hi σ h hI) fun f h' q => ?_
    cases f with
    | nx σ' => exact wp_forN I hb step fin k (i + 1) σ' h' (by omega) q
    | ct σ' => exact wp_forN I hb step fin k (i + 1) σ' h' (by omega) q
    | bk σ' => rw [wp_ret]; exact q
    | rt r => rw [wp_ret]; exact q
theorem turnE_nx {I : Sl → Boxes → Prop} : turnE I Q (.nx σ) h = I σ h := rfl
theorem turnE_ct {I : Sl → Boxes → Prop} : turnE I Q (.ct σ) h = I σ h := rfl
theorem turnE_bk {I : Sl → Boxes → Prop} : turnE I Q (.bk σ) h = Q (.nx σ) h := rfl
theorem turnE_rt {I : Sl → Boxes → Prop} {r : RV} : turnE I Q (.rt r) h = Q (.rt r) h := rfl
/-- a loop over items that stand still -/
theorem wp_for {items : List D} (I : Nat → Sl → Boxes → Prop) (h0 : I 0 σ h) (step : ∀ i (hi : i < items.length) σ h, I i σ h → wp (body items[i] σ) (turnE (I (i + 1)) Q) h) (fin : ∀ σ h, I items.length σ h → Q (.nx σ) h) :
    wp (forL ⟨items, none⟩ body items.length 0 σ) Q h := wp_forN (s := ⟨items, none⟩) I rfl step fin items.length 0 σ h (by simp) h0
/-- a loop over a box that stands still -/
theorem wp_forBN {n : Nat} (I : Nat → Sl → Boxes → Prop) (hb : s.box = some n) (still : ∀ i σ h, I i σ h → h[n]? = some (.lst s.items)) (step : ∀ i (hi : i < s.items.length) σ h, I i σ h → wp (body s.items[i] σ) (turnE (I (i + 1)) Q) h) (fin : ∀ σ h, I s.items.length σ h → Q (.nx σ) h) :
    ∀ (k i : Nat) (σ : Sl) (h : Boxes), i + k = s.items.length → I i σ h → wp (forL s body k i σ) Q h
  | 0, i, σ, h, e, hI => by
    obtain rfl : i = s.items.length := by omega
    simp only [forL, srcEnd, hb]
    rw [wp_bnd]
    refine ⟨(), h, ?_, by dsimp only; rw [wp_ret]; exact fin _ _ hI⟩
    simp only [still _ _ _ hI]; rfl
  | k + 1, i, σ, h, e, hI => by
    have hi : i < s.items.length := by omega
    simp only [forL, srcAt, hb]
    rw [wp_bnd]
    refine ⟨s.items[i], h, ?_, ?_⟩
    · simp only [still _ _ _ hI, if_true, List.getElem?_eq_getElem hi]
    dsimp only
    rw [wp_bnd]
    refine wp_mono (step i hi σ h hI) fun f h' q => ?_
    cases f with
    | nx σ' => exact wp_forBN I hb still step fin k (i + 1) σ' h' (by omega) q
    | ct σ' => exact wp_forBN I hb still step fin k (i + 1) σ' h' (by omega) q
    | bk σ' => rw [wp_ret]; exact q
    | rt r => rw [wp_ret]; exact q
theorem wp_forB {n : Nat} {items : List D} (I : Nat → Sl → Boxes → Prop) (h0 : I 0 σ h) (still : ∀ i σ h, I i σ h → h[n]? = some (.lst items)) (step : ∀ i (hi : i < items.length) σ h, I i σ h → wp (body items[i] σ) (turnE (I (i + 1)) Q) h) (fin : ∀ σ h, I items.length σ h → Q (.nx σ) h) :
    wp (forL ⟨items, some n⟩ body items.length 0 σ) Q h := wp_forBN (s := ⟨items, some n⟩) I rfl still step fin items.length 0 σ h (by simp) h0
end
/-! ### comprehensions -/
section
variable {turn : D → M (Option D)} {Q : RV → Boxes → Prop} {h : Boxes}
/-- into a list; I i acc h: behind i items, acc made, the boxes of the outside h -/
theorem wp_lcB {items : List D} {n : Nat} {Q : Boxes → Prop} (I : Nat → List D → Boxes → Prop) (hz : items.length ≤ sizeLine) (len : ∀ i acc h, I i acc h → h.length = n ∧ acc.length ≤ i)
    (step : ∀ i (hi : i < items.length) acc h, I i acc h → wp (turn items[i]) (fun r h' => ∃ h2, h' = h2 ++ [.lst acc] ∧ I (i + 1) (acc ++ r.toList) h2) (h ++ [.lst acc])) (fin : ∀ acc h, I items.length acc h → Q (h ++ [.lst acc])) :
    ∀ (k i : Nat) (acc : List D) (h : Boxes), i + k = items.length → I i acc h → wp (lcB n ⟨items, none⟩ turn k i) (fun _ => Q) (h ++ [.lst acc])
  | 0, i, acc, h, e, hI => by
    obtain rfl : i = items.length := by omega
    simp only [lcB, srcEnd]
    rw [wp_ret]
    exact fin _ _ hI
  | k + 1, i, acc, h, e, hI => by
    have hi : i < items.length := by omega
    simp only [lcB, srcAt]
    rw [wp_bnd, wp_opt]
    refine ⟨items[i], List.getElem?_eq_getElem hi, ?_⟩
    rw [wp_bnd]
    refine wp_mono (step i hi acc h hI) fun r h' ⟨h2, e2, q⟩ => ?_
    subst e2
    obtain ⟨l1, l2⟩ := len _ _ _ q
    cases r with
    | none =>
      rw [Option.toList_none, List.append_nil] at q
      exact wp_lcB I hz len step fin k (i + 1) acc h2 (by omega) q
    | some y =>
      simp only [Option.toList_some] at q l2
      rw [wp_bnd]
      refine ⟨.pd .none, h2 ++ [.lst (acc ++ [y])], ?_, wp_lcB I hz len step fin k (i + 1) (acc ++ [y]) h2 (by omega) q⟩
      have z : (acc ++ [y]).length ≤ sizeLine := by omega
      have g : (h2 ++ [Box.lst acc])[n]? = some (.lst acc) := by rw [← l1, List.getElem?_append_right (Nat.le_refl _)]; simp
      have w : (h2 ++ [Box.lst acc]).set n (.lst (acc ++ [y])) = h2 ++ [.lst (acc ++ [y])] := by rw [← l1, List.set_append_right _ _ (Nat.le_refl _)]; simp
      simp only [mod, g, M.ret, if_pos z, w]
theorem wp_lc {items : List D} {bx : Bool} (I : Nat → List D → Boxes → Prop) (hz : items.length ≤ sizeLine) (len : ∀ i acc h', I i acc h' → h'.length = h.length ∧ acc.length ≤ i) (h0 : I 0 [] h)
    (step : ∀ i (hi : i < items.length) acc h, I i acc h → wp (turn items[i]) (fun r h' => ∃ h2, h' = h2 ++ [.lst acc] ∧ I (i + 1) (acc ++ r.toList) h2) (h ++ [.lst acc]))
    (fin : ∀ acc h, I items.length acc h → if bx = true then Q (.rf h.length) (h ++ [.lst acc]) else Q (.pd (.list acc)) h) : wp (lcS bx ⟨items, none⟩ turn) Q h := by
  obtain ⟨u, h1, e, acc, h2, e2, q⟩ := wp_lcB (n := h.length) (Q := fun h' => ∃ acc h2, h' = h2 ++ [.lst acc] ∧ I items.length acc h2) I hz len step (fun acc h q => ⟨acc, h, rfl, q⟩) items.length 0 [] h (by simp) h0
  subst e2
  obtain ⟨l1, _⟩ := len _ _ _ q
  have g : (h2 ++ [Box.lst acc])[h.length]? = some (.lst acc) := by rw [← l1, List.getElem?_append_right (Nat.le_refl _)]; simp
  have t : (h2 ++ [Box.lst acc]).take h.length = h2 := by rw [← l1]; simp
  cases bx with
  | true =>
    refine ⟨.rf h2.length, h2 ++ [.lst acc], ?_, by simpa using fin _ _ q⟩
    simp only [lcS, e, settle]
    rw [if_neg (Nat.lt_irrefl _), g]
    simp only [if_true]
    rw [t, l1]
  | false =>
    refine ⟨.pd (.list acc), h2, ?_, by simpa using fin _ _ q⟩
    simp only [lcS, e, settle]
    rw [if_neg (Nat.lt_irrefl _), g]
    simp [t]
/-- one whose turns leave all as it is -/
theorem wp_lcP {items : List D} {bx : Bool} (f : D → Option D) (hz : items.length ≤ sizeLine) (step : ∀ d ∈ items, ∀ acc, wp (turn d) (fun r h' => r = f d ∧ h' = h ++ [.lst acc]) (h ++ [.lst acc]))
    (fin : if bx = true then Q (.rf h.length) (h ++ [.lst (items.filterMap f)]) else Q (.pd (.list (items.filterMap f))) h) : wp (lcS bx ⟨items, none⟩ turn) Q h := by
  refine wp_lc (fun i acc h' => h' = h ∧ acc = (items.take i).filterMap f ∧ i ≤ items.length) hz (fun i acc h' ⟨a, b, c⟩ => ⟨by rw [a], ?_⟩) ⟨rfl, rfl, Nat.zero_le _⟩ (fun i hi acc h' ⟨a, b, c⟩ => ?_) fun acc h' ⟨a, b, _⟩ => ?_
  · subst b
    exact Nat.le_trans (List.length_filterMap_le _ _) (by simp; omega)
  · subst a
    refine wp_mono (step _ (List.getElem_mem hi) acc) fun r h2 ⟨e1, e2⟩ => ⟨_, e2, rfl, ?_, hi⟩
    subst e1 b
    rw [List.take_succ_eq_append_getElem hi, List.filterMap_append]
    cases q : f items[i] <;> simp [q]
  · subst a b
    rw [List.take_length]; exact fin
end
end AI

set_option Elab.async false
set_option linter.all false
set_option maxRecDepth 100000
set_option maxHeartbeats 4000000
/-! AiVal: values of the plain run. -/
namespace AI
open PySem L2
theorem atI_pos {α : Type} {xs : List α} {k : Int} (h : 0 ≤ k) : atI xs k = xs[k.toNat]? := by
  unfold atI ixN
  rw [if_pos h]
  split
  · rfl
  · rw [List.getElem?_eq_none (by omega)]; rfl
theorem atI_cast {α : Type} {xs : List α} {k : Nat} : atI xs (k : Int) = xs[k]? := atI_pos (Int.natCast_nonneg k)
theorem ixN_pos {n : Nat} {k : Int} (h : 0 ≤ k) (l : k.toNat < n) : ixN n k = some k.toNat := by
  unfold ixN
  rw [if_pos h, if_pos (by omega)]
theorem ofString_inj {a b : String} : (Str.ofString a = Str.ofString b) = (a = b) := by
  refine propext ⟨fun h => ?_, fun h => by rw [h]⟩
  rw [Str.ofString_eq_toList, Str.ofString_eq_toList] at h
  have h1 : a.toList.map Char.toNat = b.toList.map Char.toNat := by
    have := congrArg (fun z : Str => z.cps.toList) h
    simpa using this
  have h2 : a.toList = b.toList := by
    refine (List.map_inj_right ?_).mp h1
    intro x y e
    exact Char.ext (UInt32.toNat_inj.mp e)
  exact String.ext h2
theorem join_some {α : Type} {a : α} : (some (some a)).join = some a := rfl
section
variable {Q : Bool → Boxes → Prop} {h : Boxes} {R : RV → Boxes → Prop}
theorem eqv_int {i j : Int} : PyData.eqv (.int i) (.int j) = decide (i = j) := rfl
theorem eqv_str {i j : Str} : PyData.eqv (.str i) (.str j) = decide (i = j) := rfl
theorem eqv_bool {i j : Bool} : PyData.eqv (.bool i) (.bool j) = decide (i = j) := rfl
theorem dep_int {i : Int} : (PyData.int i).depth = 0 := rfl
theorem dep_str {i : Str} : (PyData.str i).depth = 0 := rfl
theorem dep_bool {i : Bool} : (PyData.bool i).depth = 0 := rfl
theorem wp_eq_int {i j : Int} : wp (eqD (.int i) (.int j)) Q h = Q (decide (i = j)) h := by
  unfold eqD
  rw [wp_bnd, wp_grd]
  exact propext ⟨fun q => by have := q.2; rw [wp_ret] at this; exact this, fun q => ⟨rfl, by rw [wp_ret]; exact q⟩⟩
theorem wp_eq_str {i j : Str} : wp (eqD (.str i) (.str j)) Q h = Q (decide (i = j)) h := by
  unfold eqD
  rw [wp_bnd, wp_grd]
  exact propext ⟨fun q => by have := q.2; rw [wp_ret] at this; exact this, fun q => ⟨rfl, by rw [wp_ret]; exact q⟩⟩
theorem wp_eq_bool {i j : Bool} : wp (eqD (.bool i) (.bool j)) Q h = Q (decide (i = j)) h := by
  unfold eqD
  rw [wp_bnd, wp_grd]
  exact propext ⟨fun q => by have := q.2; rw [wp_ret] at this; exact this, fun q => ⟨rfl, by rw [wp_ret]; exact q⟩⟩
end
theorem two64 : (10 : Int) ^ 100 < 2 ^ 400 := by decide
theorem log_le {i : Int} {k : Nat} (h0 : 0 ≤ i) (h : i < 2 ^ k) : i.natAbs.log2 < k + 1 := by
  by_cases z : i.natAbs = 0
  · rw [z]; simp
  · have : i.natAbs < 2 ^ (k + 1) := by
      have e : (i.natAbs : Int) = i := Int.natAbs_of_nonneg h0
      have : (i.natAbs : Int) < ((2 ^ k : Nat) : Int) := by rw [e]; exact_mod_cast h
      have h2 : i.natAbs < 2 ^ k := by exact_mod_cast this
      exact Nat.lt_trans h2 (Nat.pow_lt_pow_right (by omega) (by omega))
    exact (Nat.log2_lt z).mpr this
/-- small numbers may be multiplied -/
theorem mul_ok {i j : Int} (a : 0 ≤ i) (b : i < 2 ^ 400) (c : 0 ≤ j) (d : j < 2 ^ 400) : i.natAbs.log2 + j.natAbs.log2 < 1000000 := by
  have := log_le a b
  have := log_le c d
  omega
theorem ints_get {xs : List Int} {k : Nat} (h : k < xs.length) : (xs.map PyData.int)[k]? = some (.int xs[k]) := by
  rw [List.getElem?_map, List.getElem?_eq_getElem h]; rfl
theorem rg_1 {j : Int} : rngOf [.pd (.int j)] = M.bnd (M.grd (decide (-(2 ^ 62) ≤ j ∧ j < 2 ^ 62))) fun _ => M.ret ⟨rngL 0 j.toNat, none⟩ := rfl
theorem rg_2 {i j : Int} : rngOf [.pd (.int i), .pd (.int j)] = M.bnd (M.grd (decide (-(2 ^ 62) ≤ i ∧ i < 2 ^ 62 ∧ -(2 ^ 62) ≤ j ∧ j < 2 ^ 62))) fun _ => M.ret ⟨rngL i (j - i).toNat, none⟩ := rfl
theorem sl_l {bx : Bool} {ds : List D} {lo hi : Option Int} : slcS bx (.pd (.list ds)) lo hi = newL bx (cutL ds lo hi) := rfl
theorem sl_t {bx : Bool} {ds : List D} {lo hi : Option Int} : slcS bx (.pd (.tuple ds)) lo hi = newT (cutL ds lo hi) := rfl
theorem sl_s {bx : Bool} {z : Str} {lo hi : Option Int} : slcS bx (.pd (.str z)) lo hi = M.bnd (M.grd (decide (z.length ≤ sizeLine))) fun _ => M.ret (.pd (.str (cutS z lo hi))) := rfl
theorem wp_mkT0 {R : RV → Boxes → Prop} {h : Boxes} : wp (mkTup []) R h = R (.pd (.tuple [])) h := wp_tupD rfl (show 0 ≤ sizeLine by decide)
theorem wp_mkT1 {a : D} {R : RV → Boxes → Prop} {h : Boxes} : wp (mkTup [.pd a]) R h = R (.pd (.tuple [a])) h := wp_tupD rfl (show 1 ≤ sizeLine by decide)
theorem wp_mkT2 {a b : D} {R : RV → Boxes → Prop} {h : Boxes} : wp (mkTup [.pd a, .pd b]) R h = R (.pd (.tuple [a, b])) h := wp_tupD rfl (show 2 ≤ sizeLine by decide)
theorem wp_mkT3 {a b c : D} {R : RV → Boxes → Prop} {h : Boxes} : wp (mkTup [.pd a, .pd b, .pd c]) R h = R (.pd (.tuple [a, b, c])) h := wp_tupD rfl (show 3 ≤ sizeLine by decide)
theorem wp_mkT4 {a b c d : D} {R : RV → Boxes → Prop} {h : Boxes} : wp (mkTup [.pd a, .pd b, .pd c, .pd d]) R h = R (.pd (.tuple [a, b, c, d])) h := wp_tupD rfl (show 4 ≤ sizeLine by decide)
theorem wp_mkT5 {a b c d e : D} {R : RV → Boxes → Prop} {h : Boxes} : wp (mkTup [.pd a, .pd b, .pd c, .pd d, .pd e]) R h = R (.pd (.tuple [a, b, c, d, e])) h := wp_tupD rfl (show 5 ≤ sizeLine by decide)
theorem wp_mkT6 {a b c d e f : D} {R : RV → Boxes → Prop} {h : Boxes} : wp (mkTup [.pd a, .pd b, .pd c, .pd d, .pd e, .pd f]) R h = R (.pd (.tuple [a, b, c, d, e, f])) h := wp_tupD rfl (show 6 ≤ sizeLine by decide)
theorem wp_mkT7 {a b c d e f g : D} {R : RV → Boxes → Prop} {h : Boxes} : wp (mkTup [.pd a, .pd b, .pd c, .pd d, .pd e, .pd f, .pd g]) R h = R (.pd (.tuple [a, b, c, d, e, f, g])) h := wp_tupD rfl (show 7 ≤ sizeLine by decide)
theorem wp_mkT8 {a b c d e f g k : D} {R : RV → Boxes → Prop} {h : Boxes} : wp (mkTup [.pd a, .pd b, .pd c, .pd d, .pd e, .pd f, .pd g, .pd k]) R h = R (.pd (.tuple [a, b, c, d, e, f, g, k])) h := wp_tupD rfl (show 8 ≤ sizeLine by decide)
theorem mt_ixS {bx : Bool} {z u : Str} : methS bx .index .str (.pd (.str z)) [.pd (.str u)] = M.bnd (M.opt (Builtin.Str.occurrences z u 0 z.length 1).head?) fun k => M.ret (.pd (.int (k : Nat))) := rfl
theorem wp_at {α : Type} {o : Option α} {a : α} {Q : α → Boxes → Prop} {h : Boxes} (e : o = some a) (q : Q a h) : wp (M.opt o) Q h := by rw [e, wp_some]; exact q
theorem wp_if {α : Type} {c : Prop} [Decidable c] {m m' : M α} {Q : α → Boxes → Prop} {h : Boxes} (a : c → wp m Q h) (b : ¬ c → wp m' Q h) : wp (if c then m else m') Q h := by
  by_cases z : c
  · rw [if_pos z]; exact a z
  · rw [if_neg z]; exact b z
/-! ### the operations, case by case -/
theorem bn_add {bx : Bool} {i j : Int} : binD bx .Add (.int i) (.int j) = M.ret (.pd (.int (i + j))) := rfl
theorem bn_sub {bx : Bool} {i j : Int} : binD bx .Sub (.int i) (.int j) = M.ret (.pd (.int (i - j))) := rfl
theorem bn_mul {bx : Bool} {i j : Int} : binD bx .Mult (.int i) (.int j) = M.bnd (M.grd (decide (i.natAbs.log2 + j.natAbs.log2 < 1000000))) fun _ => M.ret (.pd (.int (i * j))) := rfl
theorem bn_div {bx : Bool} {i j : Int} : binD bx .FloorDiv (.int i) (.int j) = M.bnd (M.grd (decide (0 < j ∧ j.natAbs.log2 < 9000))) fun _ => M.ret (.pd (.int (i / j))) := rfl
theorem bn_mod {bx : Bool} {i j : Int} : binD bx .Mod (.int i) (.int j) = M.bnd (M.grd (decide (0 < j))) fun _ => M.ret (.pd (.int (i % j))) := rfl
theorem bn_pow {bx : Bool} {i j : Int} : binD bx .Pow (.int i) (.int j) = M.bnd (M.grd (decide (0 ≤ j ∧ j ≤ 1000000 ∧ i.natAbs < 2 ^ 64))) fun _ => M.ret (.pd (.int (i ^ j.toNat))) := rfl
theorem bn_addS {bx : Bool} {x y : Str} : binD bx .Add (.str x) (.str y) = M.bnd (M.grd (decide (x.length + y.length ≤ sizeLine))) fun _ => M.ret (.pd (.str (x ++ y))) := rfl
theorem bn_addT {bx : Bool} {ds es : List D} : binD bx .Add (.tuple ds) (.tuple es) = newT (ds ++ es) := rfl
theorem bn_addL {bx : Bool} {ds es : List D} : binD bx .Add (.list ds) (.list es) = newL bx (ds ++ es) := rfl
theorem cp_eq {a b : D} : cmpD .Eq a b = eqD a b := rfl
theorem cp_ne {a b : D} : cmpD .NotEq a b = M.bnd (eqD a b) fun k => M.ret (!k) := rfl
theorem cp_ltI {i j : Int} : cmpD .Lt (.int i) (.int j) = M.ret (decide (i < j)) := rfl
theorem cp_leI {i j : Int} : cmpD .LtE (.int i) (.int j) = M.ret (decide (i ≤ j)) := rfl
theorem cp_gtI {i j : Int} : cmpD .Gt (.int i) (.int j) = M.ret (decide (j < i)) := rfl
theorem cp_geI {i j : Int} : cmpD .GtE (.int i) (.int j) = M.ret (decide (j ≤ i)) := rfl
theorem cp_ltS {x y : Str} : cmpD .Lt (.str x) (.str y) = M.ret (ltS x y) := rfl
theorem cp_leS {x y : Str} : cmpD .LtE (.str x) (.str y) = M.ret (!ltS y x) := rfl
theorem cp_gtS {x y : Str} : cmpD .Gt (.str x) (.str y) = M.ret (ltS y x) := rfl
theorem cp_geS {x y : Str} : cmpD .GtE (.str x) (.str y) = M.ret (!ltS x y) := rfl
theorem cp_ltT {ds es : List D} : cmpD .Lt (.tuple ds) (.tuple es) = M.bnd (M.grd (decide (min (PyData.tuple ds).depth (PyData.tuple es).depth ≤ 64))) fun _ => M.opt (ltD (.tuple ds) (.tuple es)) := rfl
theorem cp_gtT {ds es : List D} : cmpD .Gt (.tuple ds) (.tuple es) = M.bnd (M.grd (decide (min (PyData.tuple ds).depth (PyData.tuple es).depth ≤ 64))) fun _ => M.opt (gtD (.tuple ds) (.tuple es)) := rfl
theorem cp_in {a b : D} : cmpD .In a b = inD a b := rfl
theorem cp_nin {a b : D} : cmpD .NotIn a b = M.bnd (inD a b) fun k => M.ret (!k) := rfl
theorem cp_is {a : D} : cmpD .Is a .none = M.ret (isNonD a) := rfl
theorem cp_isn {a : D} : cmpD .IsNot a .none = M.ret (!isNonD a) := rfl
theorem ix_l {ds : List D} {i : Int} : idxD (.list ds) (.int i) = M.bnd (M.opt (atI ds i)) fun d => M.ret (.pd d) := rfl
theorem ix_t {ds : List D} {i : Int} : idxD (.tuple ds) (.int i) = M.bnd (M.opt (atI ds i)) fun d => M.ret (.pd d) := rfl
theorem ix_s {x : Str} {i : Int} : idxD (.str x) (.int i) = M.bnd (M.grd (decide (x.length ≤ sizeLine))) fun _ => M.bnd (M.opt (atI x.cps.toList i)) fun c => M.ret (.pd (.str ⟨#[c]⟩)) := rfl
theorem ixs_tp {rs : List RV} {i : Int} : idxS (.tp rs) (.pd (.int i)) = M.opt (atI rs i) := rfl
theorem ixs_pd {d : D} {r : RV} : idxS (.pd d) r = M.bnd (dat (.pd d)) fun x => M.bnd (dat r) fun y => idxD x y := rfl
theorem ixs_rf {n : Nat} {k : Int} : idxS (.rf n) (.pd (.int k)) = idxB n k := rfl
theorem cel_d {d : D} : celR (.d d) = .pd d := rfl
theorem cel_r {n : Nat} : celR (.r n) = .rf n := rfl
theorem clOf_d {d : D} : clOf (.pd d) = some (.d d) := rfl
theorem clOf_r {n : Nat} : clOf (.rf n) = some (.r n) := rfl
theorem bi_repr {bx : Bool} {d : D} : biD bx .repr [d] = M.bnd (M.grd (decide (d.showable = true ∧ d.depth ≤ 64 ∧ d.shown.length ≤ sizeLine))) fun _ => M.ret (.pd (.str d.shown)) := rfl
theorem wp_reprB {bx : Bool} {k : Bool} {R : RV → Boxes → Prop} {h : Boxes} : wp (biD bx .repr [.bool k]) R h = R (.pd (.str (PyData.shown (.bool k)))) h := by
  rw [bi_repr, wp_bnd, wp_grd]
  exact propext ⟨fun q => by have := q.2; rw [wp_ret] at this; exact this, fun q => ⟨by cases k <;> decide +kernel, by rw [wp_ret]; exact q⟩⟩
theorem ixs_fz {ds : List D} {r : RV} : idxS (.fz ds) r = M.bnd (dat (.fz ds)) fun x => M.bnd (dat r) fun y => idxD x y := rfl
theorem bi_lenL {bx : Bool} {ds : List D} : biD bx .len [.list ds] = M.ret (.pd (.int ds.length)) := rfl
theorem bi_lenT {bx : Bool} {ds : List D} : biD bx .len [.tuple ds] = M.ret (.pd (.int ds.length)) := rfl
theorem bi_lenS {bx : Bool} {x : Str} : biD bx .len [.str x] = M.bnd (M.grd (decide (x.length ≤ sizeLine))) fun _ => M.ret (.pd (.int x.length)) := rfl
theorem bi_listL {bx : Bool} {ds : List D} : biD bx .list [.list ds] = newL bx ds := rfl
theorem bi_listT {bx : Bool} {ds : List D} : biD bx .list [.tuple ds] = newL bx ds := rfl
theorem bi_tupL {bx : Bool} {ds : List D} : biD bx .tuple [.list ds] = newT ds := rfl
theorem bi_tupT {bx : Bool} {ds : List D} : biD bx .tuple [.tuple ds] = M.ret (.pd (.tuple ds)) := rfl
theorem bi_intI {bx : Bool} {i : Int} : biD bx .int [.int i] = M.ret (.pd (.int i)) := rfl
theorem bi_intB {bx : Bool} {k : Bool} : biD bx .int [.bool k] = M.ret (.pd (.int (if k then 1 else 0))) := rfl
theorem bi_strI {bx : Bool} {i : Int} : biD bx .str [.int i] = M.bnd (M.grd (decide (i.natAbs.log2 < 1920))) fun _ => M.ret (.pd (.str (toString i))) := rfl
theorem bi_strS {bx : Bool} {x : Str} : biD bx .str [.str x] = M.ret (.pd (.str x)) := rfl
theorem bi_abs {bx : Bool} {i : Int} : biD bx .abs [.int i] = M.ret (.pd (.int (if i < 0 then -i else i))) := rfl
theorem bi_max {bx : Bool} {i j : Int} : biD bx .max [.int i, .int j] = M.ret (.pd (.int (if j > i then j else i))) := rfl
theorem bi_min {bx : Bool} {i j : Int} : biD bx .min [.int i, .int j] = M.ret (.pd (.int (if j < i then j else i))) := rfl
theorem bi_all {bx : Bool} {ds : List D} : biD bx .all [.list ds] = M.bnd (M.opt (boolsOf ds)) fun ks => M.ret (.pd (.bool (ks.all id))) := rfl
theorem bi_any {bx : Bool} {ds : List D} : biD bx .any [.list ds] = M.bnd (M.opt (boolsOf ds)) fun ks => M.ret (.pd (.bool (ks.any id))) := rfl
theorem bi_sum {bx : Bool} {ds : List D} : biD bx .sum [.list ds] = M.bnd (M.opt (intsOf ds)) fun ks => M.ret (.pd (.int ks.sum)) := rfl
theorem in_l {a : D} {ds : List D} : inD a (.list ds) = inL a ds := rfl
theorem in_t {a : D} {ds : List D} : inD a (.tuple ds) = inL a ds := rfl
theorem in_s {x y : Str} : inD (.str x) (.str y) = M.ret (inStr x y) := rfl
theorem tr_b {k : Bool} : truD (.bool k) = some k := rfl
theorem tr_i {i : Int} : truD (.int i) = some (i != 0) := rfl
theorem tr_n : truD .none = some false := rfl
theorem tr_l {ds : List D} : truD (.list ds) = some (!ds.isEmpty) := rfl
theorem tr_t {ds : List D} : truD (.tuple ds) = some (!ds.isEmpty) := rfl
theorem so_l {ds : List D} : srcOf (.pd (.list ds)) = M.ret ⟨ds, none⟩ := rfl
theorem so_t {ds : List D} : srcOf (.pd (.tuple ds)) = M.ret ⟨ds, none⟩ := rfl
theorem so_s {z : Str} : srcOf (.pd (.str z)) = M.ret ⟨z.cps.toList.map fun c => .str ⟨#[c]⟩, none⟩ := rfl
theorem so_f {ds : List D} : srcOf (.fz ds) = M.ret ⟨ds, none⟩ := rfl
theorem io_t {n : Nat} {ds : List D} : itemsOf n (.pd (.tuple ds)) = if ds.length = n then M.ret (ds.map .pd) else M.no := rfl
theorem ng_i {i : Int} : negS (.pd (.int i)) = M.ret (.pd (.int (-i))) := rfl
theorem pt_i {i : Int} : partS (.pd (.int i)) = M.ret (some i) := rfl
theorem ag_a {i j : Int} : augS .Add (.pd (.int i)) (.pd (.int j)) = M.ret (.pd (.int (i + j))) := rfl
theorem ag_s {i j : Int} : augS .Sub (.pd (.int i)) (.pd (.int j)) = M.ret (.pd (.int (i - j))) := rfl
theorem rv_l {ds : List D} : revOf (.pd (.list ds)) = M.ret ⟨ds.reverse, none⟩ := rfl
theorem rv_t {ds : List D} : revOf (.pd (.tuple ds)) = M.ret ⟨ds.reverse, none⟩ := rfl
theorem ap_d {d : D} : asPd (.pd d) = some d := rfl
theorem rk_l {ds : List D} : rkD (.list ds) = some .list := rfl
theorem rk_t {ds : List D} : rkD (.tuple ds) = some .tuple := rfl
theorem rk_s {x : Str} : rkD (.str x) = some .str := rfl
/-! ### end of the cases -/
/-! ### boxes -/
section
variable {n : Nat} {h : Boxes} {ds : List D} {x y : Box} {R : RV → Boxes → Prop}
theorem box_self (e : h[n]? = some x) : h = h.set n x := by
  obtain ⟨l, e⟩ := List.getElem?_eq_some_iff.mp e
  rw [← e, List.set_getElem_self]
theorem box_lt (e : h[n]? = some x) : n < h.length := (List.getElem?_eq_some_iff.mp e).1
theorem wp_dat_set {Q : D → Boxes → Prop} (l : n < h.length) : wp (dat (.rf n)) Q (h.set n (.lst ds)) = Q (.list ds) (h.set n (.lst ds)) := wp_dat_rf (List.getElem?_set_self l)
theorem wp_idx_set {k : Int} (l : n < h.length) : wp (idxB n k) R (h.set n (.lst ds)) = wp (M.opt (atI ds k)) (fun d h' => R (.pd d) h') (h.set n (.lst ds)) := wp_idxL (List.getElem?_set_self l)
theorem wp_idxM_set {k : Int} {cs : List Cl} (l : n < h.length) : wp (idxB n k) R (h.set n (.mix cs)) = wp (M.opt (atI cs k)) (fun c h' => R (celR c) h') (h.set n (.mix cs)) := wp_idxM (List.getElem?_set_self l)
theorem wp_setM_set {k : Int} {d : D} {cs : List Cl} (l : n < h.length) (h0 : 0 ≤ k) (hk : k.toNat < cs.length) : wp (setS (.rf n) (.pd (.int k)) (.pd d)) R (h.set n (.mix cs)) = R (.pd .none) (h.set n (.mix (cs.set k.toNat (.d d)))) := by
  rw [wp_setM (List.getElem?_set_self l) (ixN_pos h0 hk), List.set_set]
theorem wp_set_set {k : Int} {d : D} (l : n < h.length) (h0 : 0 ≤ k) (hk : k.toNat < ds.length) (z : ds.length ≤ 1000) : wp (setS (.rf n) (.pd (.int k)) (.pd d)) R (h.set n (.lst ds)) = R (.pd .none) (h.set n (.lst (ds.set k.toNat d))) := by
  rw [wp_set (List.getElem?_set_self l) (ixN_pos h0 hk) (Nat.le_trans z (by decide)), List.set_set]
end
theorem wp_newL1 {ds : List D} {R : RV → Boxes → Prop} {h : Boxes} (z : ds.length ≤ 1000000) : wp (newL false ds) R h = R (.pd (.list ds)) h := by
  rw [wp_newL (Nat.le_trans z (by decide))]; rfl
theorem wp_newL2 {ds : List D} {R : RV → Boxes → Prop} {h : Boxes} (z : ds.length ≤ 1000000) : wp (newL true ds) R h = R (.rf h.length) (h ++ [.lst ds]) := by
  rw [wp_newL (Nat.le_trans z (by decide))]; rfl
theorem wp_newT1 {ds : List D} {R : RV → Boxes → Prop} {h : Boxes} (z : ds.length ≤ 1000000) : wp (newT ds) R h = R (.pd (.tuple ds)) h := wp_newT (Nat.le_trans z (by decide))
/-! ### boxes, whatever stands in them -/
theorem wp_nope {α : Type} {m : M α} {Q : α → Boxes → Prop} {h : Boxes} (e : m h = .no) : wp m Q h = False := propext ⟨fun ⟨_, _, e1, _⟩ => (by rw [e] at e1; cases e1), fun z => z.elim⟩
section
variable {n : Nat} {h : Boxes} {R : RV → Boxes → Prop}
theorem wp_datR {Q : D → Boxes → Prop} : wp (dat (.rf n)) Q h = (match h[n]? with | some (.lst ds) => Q (.list ds) h | _ => False) := by
  cases e : h[n]? with
  | none => exact wp_nope (by simp only [dat, e])
  | some b =>
    cases b with
    | lst ds => exact wp_dat_rf e
    | mix _ => exact wp_nope (by simp only [dat, e])
    | gone => exact wp_nope (by simp only [dat, e])
theorem wp_idxR {k : Int} : wp (idxB n k) R h = (match h[n]? with | some (.lst ds) => wp (M.opt (atI ds k)) (fun d h' => R (.pd d) h') h | some (.mix cs) => wp (M.opt (atI cs k)) (fun c h' => R (celR c) h') h | _ => False) := by
  cases e : h[n]? with
  | none => exact wp_nope (by simp only [idxB, e])
  | some b =>
    cases b with
    | lst ds => exact wp_idxL e
    | mix cs => exact wp_idxM e
    | gone => exact wp_nope (by simp only [idxB, e])
theorem wp_setR {k : Int} {d : D} : wp (setS (.rf n) (.pd (.int k)) (.pd d)) R h = (match h[n]? with
    | some (.lst ds) => (match ixN ds.length k with | some j => (ds.length ≤ sizeLine ∧ R (.pd .none) (h.set n (.lst (ds.set j d)))) | none => False)
    | some (.mix cs) => (match ixN cs.length k with | some j => R (.pd .none) (h.set n (.mix (cs.set j (.d d)))) | none => False)
    | _ => False) := by
  cases e : h[n]? with
  | none => exact wp_nope (by simp only [setS, setB, mod, e])
  | some b =>
    cases b with
    | lst ds =>
      simp only
      cases hj : ixN ds.length k with
      | none => exact wp_nope (by simp only [setS, setB, mod, e, hj, M.opt, M.bnd, M.no])
      | some j =>
        refine propext ⟨fun ⟨a, h', e1, q⟩ => ?_, fun ⟨e2, q⟩ => by rw [wp_set e hj e2]; exact q⟩
        simp only [setS, setB, mod, e, hj, M.opt, M.bnd, M.ret] at e1
        split at e1
        · rename_i z
          cases e1
          exact ⟨by simpa using z, q⟩
        · cases e1
    | mix cs =>
      simp only
      cases hj : ixN cs.length k with
      | none => exact wp_nope (by simp only [setS, setB, e, hj])
      | some j => exact wp_setM e hj
    | gone => exact wp_nope (by simp only [setS, setB, mod, e])
theorem lg9 {j : Int} (h0 : 0 ≤ j) (h : j ≤ 1000000000000) : (j.natAbs.log2 < 9000) = True := eq_true (Nat.lt_trans (log_le h0 (show j < 2 ^ 400 from Int.lt_of_le_of_lt h (by decide))) (by decide))
theorem meth_words {bx : Bool} {a : Str} : methS bx .words .str (.pd (.str a)) [] = M.bnd (M.grd (decide (a.length + 2 ≤ sizeLine))) fun _ => newL bx ((Txt.words a).map PyData.str) := rfl
theorem wp_mkTR {rs : List RV} : wp (mkTup rs) R h = (match allPd rs with | some ds => (ds.length ≤ sizeLine ∧ R (.pd (.tuple ds)) h) | none => (rs.length ≤ sizeLine ∧ R (.tp rs) h)) := by
  cases e : allPd rs with
  | some ds =>
    by_cases z : ds.length ≤ sizeLine
    · simp only [wp_tupD e z, z, true_and]
    · simp only [z, false_and]
      exact wp_nope (by simp only [mkTup, e, if_neg z])
  | none =>
    by_cases z : rs.length ≤ sizeLine
    · simp only [z, true_and]
      exact propext ⟨fun ⟨_, _, e1, q⟩ => by simp only [mkTup, e, if_pos z] at e1; cases e1; exact q, fun q => ⟨_, _, by simp only [mkTup, e, if_pos z], q⟩⟩
    · simp only [z, false_and]
      exact wp_nope (by simp only [mkTup, e, if_neg z])
theorem wp_eqR {a c : D} {Q : Bool → Boxes → Prop} : wp (eqD a c) Q h = (min a.depth c.depth ≤ 64 ∧ Q (PyData.eqv a c) h) := by
  unfold eqD
  rw [wp_bnd, wp_grd]
  exact propext ⟨fun q => ⟨of_decide_eq_true q.1, by have := q.2; rw [wp_ret] at this; exact this⟩, fun q => ⟨decide_eq_true q.1, by rw [wp_ret]; exact q.2⟩⟩
theorem eqv_tup {xs ys : List D} : PyData.eqv (.tuple xs) (.tuple ys) = PyData.eqvAll xs ys := rfl
theorem eqvA_c {x y : D} {xs ys : List D} : PyData.eqvAll (x :: xs) (y :: ys) = (PyData.eqv x y && PyData.eqvAll xs ys) := rfl
theorem eqvA_n : PyData.eqvAll [] [] = true := rfl
theorem wp_inS {s : Str} {ds : List D} {Q : Bool → Boxes → Prop} : wp (inL (.str s) ds) Q h = Q (ds.any fun y => PyData.eqv y (.str s)) h := by
  unfold inL
  rw [wp_bnd, wp_grd]
  exact propext ⟨fun q => by have := q.2; rw [wp_ret] at this; exact this, fun q => ⟨rfl, by rw [wp_ret]; exact q⟩⟩
theorem le_line {m : Nat} (h : m ≤ 1000000) : (m ≤ sizeLine) = True := eq_true (Nat.le_trans h (by decide))
theorem lt_line {m : Nat} (h : m ≤ 1000000) : (m < sizeLine) = True := eq_true (Nat.lt_of_le_of_lt h (by decide))
theorem wp_appR {d : D} {bx : Bool} : wp (methS bx .append .list (.rf n) [.pd d]) R h = (match h[n]? with
    | some (.lst ds) => (ds.length < sizeLine ∧ R (.pd .none) (h.set n (.lst (ds ++ [d]))))
    | _ => False) := by
  cases e : h[n]? with
  | none => exact wp_nope (by simp only [methS, asPd, M.opt, M.bnd, M.ret, mod, e])
  | some b =>
    cases b with
    | lst ds =>
      refine propext ⟨fun ⟨a, h', e1, q⟩ => ?_, fun ⟨z, q⟩ => ⟨.pd .none, h.set n (.lst (ds ++ [d])), ?_, q⟩⟩
      · simp only [methS, asPd, M.opt, M.bnd, M.ret, mod, e, List.length_append, List.length_cons, List.length_nil] at e1
        split at e1
        · rename_i z
          cases e1
          exact ⟨z, q⟩
        · cases e1
      · simp only [methS, asPd, M.opt, M.bnd, M.ret, mod, e, List.length_append, List.length_cons, List.length_nil]
        rw [if_pos (by omega)]
    | mix _ => exact wp_nope (by simp only [methS, asPd, M.opt, M.bnd, M.ret, mod, e])
    | gone => exact wp_nope (by simp only [methS, asPd, M.opt, M.bnd, M.ret, mod, e])
theorem set_last {hs : Boxes} {x y : Box} : (hs ++ [x]).set hs.length y = hs ++ [y] := by
  rw [List.set_append_right _ _ (Nat.le_refl _)]; simp
theorem get_last {hs : Boxes} {x : Box} : (hs ++ [x])[hs.length]? = some x := by
  rw [List.getElem?_append_right (Nat.le_refl _)]; simp
end
theorem wp_rng {lo : Int} {m : Nat} {body : D → Sl → M Fl} {σ : Sl} {Q : Fl → Boxes → Prop} {h : Boxes} (I : Nat → Sl → Boxes → Prop) (h0 : I 0 σ h) (step : ∀ k, k < m → ∀ σ h, I k σ h → wp (body (.int (lo + k)) σ) (turnE (I (k + 1)) Q) h) (fin : ∀ σ h, I m σ h → Q (.nx σ) h) :
    wp (forL ⟨rngL lo m, none⟩ body (rngL lo m).length 0 σ) Q h := by
  have l : (rngL lo m).length = m := by simp [rngL]
  refine wp_for I h0 (fun i hi σ h hI => ?_) (fun σ h hI => fin σ h (by rw [l] at hI; exact hI))
  have e : (rngL lo m)[i] = .int (lo + i) := by simp [rngL]
  rw [e]
  exact step i (by rw [l] at hi; exact hi) σ h hI
def AllP {α : Type} (P : α → Prop) : List α → Prop
  | [] => True
  | x :: xs => P x ∧ AllP P xs
theorem AllP.mem {α : Type} {P : α → Prop} : ∀ {xs : List α} {x : α}, AllP P xs → x ∈ xs → P x
  | _ :: _, _, h, m => by
    rcases List.mem_cons.mp m with rfl | m
    · exact h.1
    · exact AllP.mem h.2 m
theorem at_in {α : Type} {xs : List α} {k : Int} (h0 : 0 ≤ k) (h1 : k < xs.length) : ∃ x, atI xs k = some x ∧ x ∈ xs := by
  rw [atI_pos h0]
  have l : k.toNat < xs.length := by omega
  exact ⟨_, List.getElem?_eq_getElem l, List.getElem_mem l⟩
/-- one of several -/
theorem wp_atA {α : Type} {xs : List α} {k : Int} {Q : α → Boxes → Prop} {h : Boxes} (P : α → Prop) (h0 : 0 ≤ k) (h1 : k < xs.length) (hp : AllP P xs) (q : ∀ x, P x → Q x h) : wp (M.opt (atI xs k)) Q h := by
  obtain ⟨x, e, m⟩ := at_in h0 h1
  exact wp_at e (q x (hp.mem m))
theorem wp_atM {α : Type} {xs : List α} {k : Int} {Q : α → Boxes → Prop} {h : Boxes} (h0 : 0 ≤ k) (h1 : k < xs.length) (q : ∀ x, x ∈ xs → Q x h) : wp (M.opt (atI xs k)) Q h := by
  obtain ⟨x, e, m⟩ := at_in h0 h1
  exact wp_at e (q x m)
/-- a comprehension whose turns draw: the tape's two boxes stand first -/
theorem wp_lcT {items : List D} {bx : Bool} {turn : D → M (Option D)} {c b : Box} {hs : Boxes} {Q : RV → Boxes → Prop} (I : Nat → List D → Box → Box → Prop) (hz : items.length ≤ sizeLine) (len : ∀ i acc c b, I i acc c b → acc.length ≤ i) (h0 : I 0 [] c b)
    (step : ∀ i (hi : i < items.length) acc c b, I i acc c b → ∀ J : Option D → Boxes → Prop, (∀ r c' b', I (i + 1) (acc ++ r.toList) c' b' → J r (c' :: b' :: (hs ++ [.lst acc]))) → wp (turn items[i]) J (c :: b :: (hs ++ [.lst acc])))
    (fin : ∀ acc c b, I items.length acc c b → if bx = true then Q (.rf (hs.length + 1 + 1)) (c :: b :: (hs ++ [.lst acc])) else Q (.pd (.list acc)) (c :: b :: hs)) : wp (lcS bx ⟨items, none⟩ turn) Q (c :: b :: hs) := by
  refine wp_lc (fun i acc h' => ∃ c b, h' = c :: b :: hs ∧ I i acc c b) hz (fun i acc h' ⟨c, b, e, q⟩ => ⟨by rw [e]; rfl, len _ _ _ _ q⟩) ⟨c, b, rfl, h0⟩ (fun i hi acc h' ⟨c, b, e, q⟩ => ?_) fun acc h' ⟨c, b, e, q⟩ => ?_
  · subst e
    exact step i hi acc c b q _ fun r c' b' q' => ⟨c' :: b' :: hs, rfl, c', b', rfl, q'⟩
  · subst e
    exact fin acc c b q
/-- .. the tape's one box stands first -/
theorem wp_lcT1 {items : List D} {bx : Bool} {turn : D → M (Option D)} {b : Box} {hs : Boxes} {Q : RV → Boxes → Prop} (I : Nat → List D → Box → Prop) (hz : items.length ≤ sizeLine) (len : ∀ i acc b, I i acc b → acc.length ≤ i) (h0 : I 0 [] b)
    (step : ∀ i (hi : i < items.length) acc b, I i acc b → ∀ J : Option D → Boxes → Prop, (∀ r b', I (i + 1) (acc ++ r.toList) b' → J r (b' :: (hs ++ [.lst acc]))) → wp (turn items[i]) J (b :: (hs ++ [.lst acc])))
    (fin : ∀ acc b, I items.length acc b → if bx = true then Q (.rf (hs.length + 1)) (b :: (hs ++ [.lst acc])) else Q (.pd (.list acc)) (b :: hs)) : wp (lcS bx ⟨items, none⟩ turn) Q (b :: hs) := by
  refine wp_lc (fun i acc h' => ∃ b, h' = b :: hs ∧ I i acc b) hz (fun i acc h' ⟨b, e, q⟩ => ⟨by rw [e]; rfl, len _ _ _ q⟩) ⟨b, rfl, h0⟩ (fun i hi acc h' ⟨b, e, q⟩ => ?_) fun acc h' ⟨b, e, q⟩ => ?_
  · subst e
    exact step i hi acc b q _ fun r b' q' => ⟨b' :: hs, rfl, b', rfl, q'⟩
  · subst e
    exact fin acc b q
/-- one over a row of known things, whose turns leave all as it is -/
theorem wp_lcF {α : Type} {l : List α} {g : α → D} {bx : Bool} {turn : D → M (Option D)} {Q : RV → Boxes → Prop} {h : Boxes} (f : α → Option D) (hz : l.length ≤ 1000000)
    (step : ∀ a ∈ l, ∀ acc (J : Option D → Boxes → Prop), J (f a) (h ++ [.lst acc]) → wp (turn (g a)) J (h ++ [.lst acc]))
    (fin : if bx = true then Q (.rf h.length) (h ++ [.lst (l.filterMap f)]) else Q (.pd (.list (l.filterMap f))) h) : wp (lcS bx ⟨l.map g, none⟩ turn) Q h := by
  have hl : (l.map g).length = l.length := List.length_map _
  refine wp_lc (fun i acc h' => h' = h ∧ acc = (l.take i).filterMap f ∧ i ≤ l.length) (by rw [hl]; exact Nat.le_trans hz (by decide)) (fun i acc h' ⟨a, b, c⟩ => ⟨by rw [a], ?_⟩) ⟨rfl, rfl, Nat.zero_le _⟩ (fun i hi acc h' ⟨a, b, c⟩ => ?_) fun acc h' ⟨a, b, _⟩ => ?_
  · subst b
    exact Nat.le_trans (List.length_filterMap_le _ _) (by simp; omega)
  · subst a
    have hi' : i < l.length := by rw [← hl]; exact hi
    rw [List.getElem_map]
    refine step _ (List.getElem_mem hi') acc _ ⟨_, rfl, rfl, ?_, hi'⟩
    subst b
    rw [List.take_succ_eq_append_getElem hi', List.filterMap_append]
    cases q : f l[i] <;> simp [q]
  · subst a b
    rw [hl, List.take_length]; exact fin
theorem boolsOf_map {α : Type} {l : List α} {p : α → Bool} : boolsOf (l.filterMap fun a => some (PyData.bool (p a))) = some (l.map p) := by
  induction l with
  | nil => rfl
  | cons a l ih => simp only [List.filterMap_cons, boolsOf, ih]; rfl
/-- a loop as a fold -/
theorem wp_forF {α τ : Type} {l : List α} {n : Nat} {g : α → D} {body : D → Sl → M Fl} {σ : Sl} {Q : Fl → Boxes → Prop} {h : Boxes} (f : τ → α → τ) (s0 : τ) (St : τ → Sl → Boxes → Prop) (h0 : St s0 σ h)
    (step : ∀ pre a post, l = pre ++ a :: post → ∀ σ h, St (pre.foldl f s0) σ h → ∀ J : Sl → Boxes → Prop, (∀ σ h, St (f (pre.foldl f s0) a) σ h → J σ h) → wp (body (g a) σ) (turnE J Q) h)
    (fin : ∀ σ h, St (l.foldl f s0) σ h → Q (.nx σ) h) (hn : n = l.length := by simp) : wp (forL ⟨l.map g, none⟩ body n 0 σ) Q h := by
  have hl : (l.map g).length = l.length := List.length_map _
  rw [hn, ← hl]
  refine wp_for (fun i σ h => St ((l.take i).foldl f s0) σ h ∧ i ≤ l.length) ⟨h0, Nat.zero_le _⟩ (fun i hi σ h ⟨q, _⟩ => ?_) fun σ h ⟨q, _⟩ => by rw [hl, List.take_length] at q; exact fin σ h q
  have hi' : i < l.length := by rw [← hl]; exact hi
  rw [List.getElem_map]
  refine step (l.take i) l[i] (l.drop (i + 1)) ?_ σ h q _ fun σ' h' q' => ⟨?_, hi'⟩
  · rw [← List.drop_eq_getElem_cons hi', List.take_append_drop]
  · rw [List.take_succ_eq_append_getElem hi', List.foldl_append]; exact q'
/-- a loop that looks for the first one -/
theorem wp_forFind {α : Type} {l : List α} {n : Nat} {g : α → D} {body : D → Sl → M Fl} {σ : Sl} {Q : Fl → Boxes → Prop} {h : Boxes} (p : α → Bool) (St : Sl → Boxes → Prop) (Hit : α → Prop) (h0 : St σ h) (hit : ∀ a, l.find? p = some a → Hit a)
    (step : ∀ a ∈ l, ∀ σ h, St σ h → ∀ J : Sl → Boxes → Prop, (p a = true → Hit a) → (p a = false → ∀ σ h, St σ h → J σ h) → wp (body (g a) σ) (turnE J Q) h)
    (fin : l.find? p = none → ∀ σ h, St σ h → Q (.nx σ) h) (hn : n = l.length := by simp) : wp (forL ⟨l.map g, none⟩ body n 0 σ) Q h := by
  have fall : ∀ (l : List α) (f : Bool), l.foldl (fun f a => f || p a) f = (f || l.any p) := by
    intro l
    induction l with
    | nil => intro f; simp
    | cons c l ih => intro f; rw [List.foldl_cons, ih, List.any_cons, Bool.or_assoc]
  have nof : ∀ pre : List α, pre.any p = false → pre.find? p = none := fun pre e => by
    rw [List.find?_eq_none]
    intro x hx
    have := List.any_eq_false.mp e x hx
    simpa using this
  refine wp_forF (fun (f : Bool) a => f || p a) false (fun f σ h => f = false ∧ St σ h) ⟨rfl, h0⟩ ?_ ?_ hn
  · rintro pre a post e σ h ⟨f0, hS⟩ J hJ
    rw [fall, Bool.false_or] at f0
    rw [fall, Bool.false_or, f0, Bool.false_or] at hJ
    refine step a (by rw [e]; simp) σ h hS J (fun hp => hit a ?_) fun hp σ' h' hS' => hJ _ _ ⟨hp, hS'⟩
    rw [e, List.find?_append, nof pre f0, Option.none_or, List.find?_cons, hp]
  · rintro σ h ⟨f0, hS⟩
    rw [fall, Bool.false_or] at f0
    exact fin (nof l f0) σ h hS
/-- two ways join -/
theorem wp_join {α : Type} {m : M α} {K : α → Boxes → Prop} {h : Boxes} (J : α → Boxes → Prop) (a : ∀ J' : α → Boxes → Prop, (∀ x h', J x h' → J' x h') → wp m J' h) (b : ∀ x h', J x h' → K x h') : wp m K h := wp_mono (a J fun _ _ q => q) b
theorem wp_joinG {T : TT} {m : M Bool} {A B ss : List S} {σ : Sl} {Q : Fl → Boxes → Prop} {h : Boxes} (J : Fl → Boxes → Prop) (a : ∀ J' : Fl → Boxes → Prop, (∀ x h', J x h' → J' x h') → wp m (fun a h' => wp (if a = true then exs T A σ else exs T B σ) J' h') h) (b : ∀ x h', J x h' → goS T ss Q x h') :
    wp m (fun a h' => wp (if a = true then exs T A σ else exs T B σ) (goS T ss Q) h') h := wp_mono (a _ b) fun _ _ q => q
theorem wp_rngJ {lo : Int} {m : Nat} {body : D → Sl → M Fl} {σ : Sl} {Q : Fl → Boxes → Prop} {h : Boxes} (I : Nat → Sl → Boxes → Prop) (h0 : I 0 σ h) (step : ∀ k, k < m → ∀ σ h, I k σ h → ∀ J : Sl → Boxes → Prop, (∀ σ h, I (k + 1) σ h → J σ h) → wp (body (.int (lo + k)) σ) (turnE J Q) h) (fin : ∀ σ h, I m σ h → Q (.nx σ) h) :
    wp (forL ⟨rngL lo m, none⟩ body (rngL lo m).length 0 σ) Q h := wp_rng I h0 (fun k hk σ h i => step k hk σ h i _ fun _ _ q => q) fin
theorem wp_forJ {items : List D} {body : D → Sl → M Fl} {σ : Sl} {Q : Fl → Boxes → Prop} {h : Boxes} (I : Nat → Sl → Boxes → Prop) (h0 : I 0 σ h) (step : ∀ i (hi : i < items.length) σ h, I i σ h → ∀ J : Sl → Boxes → Prop, (∀ σ h, I (i + 1) σ h → J σ h) → wp (body items[i] σ) (turnE J Q) h) (fin : ∀ σ h, I items.length σ h → Q (.nx σ) h) :
    wp (forL ⟨items, none⟩ body items.length 0 σ) Q h := wp_for I h0 (fun k hk σ h i => step k hk σ h i _ fun _ _ q => q) fin
theorem emod_rng (a : Int) {b : Int} (h : 0 < b) : 0 ≤ a % b ∧ a % b < b := ⟨Int.emod_nonneg _ (by omega), Int.emod_lt_of_pos _ h⟩
end AI

set_option Elab.async false
set_option linter.all false
set_option maxRecDepth 100000
set_option maxHeartbeats 4000000
/-! AiTape: the laws' tape of numbers. -/
namespace AI
open PySem L2
def b_tape : List S := [.asg (.nm 1) (.cst (.int 7)), .for_ (.nm 2) (.val (.var 0)) [.asg (.nm 1) (.bin .Mod (.bi .int [(.bin .Add (.bin .Mult (.var 1) (.cst (.int 31))) (.bi .abs [(.bi .int [(.var 2)])]))]) (.cst (.int 2147483647)))], .ret (.bx (.lst [(.bi .list [(.var 0)]), (.cst (.int 0)), (.cst (.int 0)), (.var 1)]))]
def b_draw : List S := [.ite (.val (.cmp .Eq (.idx (.var 0) (.cst (.int 2))) (.cst (.int 0)))) [.asg (.nm 2) (.idx (.var 0) (.cst (.int 1))), .asg (.nm 3) (.cst (.int 0)), .ite (.val (.cmp .Lt (.var 2) (.bi .len [(.idx (.var 0) (.cst (.int 0)))]))) [.asg (.nm 3) (.bi .abs [(.bi .int [(.idx (.idx (.var 0) (.cst (.int 0))) (.var 2))])])] [.asg (.sub (.var 0) (.cst (.int 3))) (.bin .Mod (.bi .int [(.bin .Add (.bin .Add (.bin .Mult (.idx (.var 0) (.cst (.int 3))) (.cst (.int 48271))) (.var 2)) (.cst (.int 1)))]) (.cst (.int 2147483647))), .asg (.nm 3) (.idx (.var 0) (.cst (.int 3)))], .asg (.sub (.var 0) (.cst (.int 1))) (.bin .Add (.var 2) (.cst (.int 1))), .ite (.val (.cmp .Lt (.var 3) (.bin .Pow (.cst (.int 10)) (.cst (.int 18))))) [.asg (.nm 3) (.bin .Mod (.bi .int [(.bin .Add (.bin .Add (.bin .Mult (.var 3) (.cst (.int 48271))) (.bin .Mult (.var 2) (.cst (.int 69621)))) (.cst (.int 5)))]) (.cst (.int 2147483647))), .asg (.nm 3) (.bin .Mod (.bi .int [(.bin .Mult (.var 3) (.cst (.int 69621)))]) (.cst (.int 2147483629))), .ret (.bin .Mod (.bi .int [(.var 3)]) (.bi .max [(.var 1), (.cst (.int 1))]))] [], .asg (.sub (.var 0) (.cst (.int 2))) (.var 3)] [], .asg (.nm 3) (.idx (.var 0) (.cst (.int 2))), .asg (.sub (.var 0) (.cst (.int 2))) (.bin .FloorDiv (.var 3) (.bi .max [(.var 1), (.cst (.int 2))])), .ret (.bin .Mod (.bi .int [(.var 3)]) (.bi .max [(.var 1), (.cst (.int 1))]))]
/-- the tape's box: at most B numbers were drawn -/
structure TapeB (B : Nat) (b : Box) : Prop where
  ex : ∃ (xs : List Int) (a : Nat) (e c : Int), b = .lst [.list (xs.map .int), .int a, .int e, .int c] ∧ a ≤ B ∧ 0 ≤ e ∧ 0 ≤ c ∧ c < 2147483647 ∧ xs.length ≤ 63
theorem TapeB.up {B B' : Nat} {b : Box} (t : TapeB B b) (h : B ≤ B') : TapeB B' b := by
  obtain ⟨xs, a, e, c, e1, e2, e3⟩ := t.ex
  exact ⟨xs, a, e, c, e1, Nat.le_trans e2 h, e3⟩
theorem max_pos (k : Int) : 0 < (if k < 1 then 1 else k) := by split <;> omega
theorem max_two (k : Int) : 0 < (if k < 2 then 2 else k) := by split <;> omega
/-- what is drawn below k -/
def Drawn (k v : Int) : Prop := 0 ≤ v ∧ v < (if k < 1 then 1 else k)
theorem Drawn.lt {k v : Int} (d : Drawn k v) (h : 1 ≤ k) : 0 ≤ v ∧ v < k := by
  obtain ⟨a, b⟩ := d
  rw [if_neg (by omega)] at b
  exact ⟨a, b⟩
theorem small400 {a B : Nat} (h : a ≤ B) (hB : B ≤ 10 ^ 100) : (a : Int) < 2 ^ 400 := by
  have : a < 2 ^ 400 := Nat.lt_of_le_of_lt (Nat.le_trans h hB) (by decide)
  exact_mod_cast this
theorem draw_raw {T : TT} {B n : Nat} {h : Boxes} {b : Box} {many : Int} (t : TapeB B b) (hb : h[n]? = some b) (hB : B ≤ 10 ^ 100) (hm : many < 2 ^ 1000) {Q : RV → Boxes → Prop} (q : ∀ v b', TapeB (B + 1) b' → Drawn many v → Q (.pd (.int v)) (h.set n b')) : wp (rawDef T ⟨2, 4, b_draw⟩ [.rf n, .pd (.int many)]) Q h := by
  obtain ⟨xs, a, e, c, rfl, ha, he, hc0, hc1, hx⟩ := t.ex
  have l := box_lt hb
  refine wp_def rfl ?_
  rw [box_self hb]
  have pos := max_pos many
  have two := max_two many
  have lg : (if many < 2 then 2 else many).natAbs.log2 < 9000 := by
    have : (if many < 2 then 2 else many) < 2 ^ 1000 := by split <;> first | assumption | decide
    exact Nat.lt_trans (log_le (by omega) this) (by decide)
  simp only [wp_ret, wp_bnd, wp_some, wp_grd, wp_no, wp_dat_pd, wp_dat_fz,  ev, evs, evO, evI, evC, evTs, AI.ex, asgG, asgGs, getV, wp_exs, wp_exs_nil, goS_nx, goS_rt, goS_bk, goS_ct, turnE_nx, turnE_ct, turnE_bk, turnE_rt, endD_rt, endD_nx, back_pd, binS, isFz, cmpS, biS, dats, truth, isiS, allPd, isiD, rkOf, join_some, Option.map, List.map, List.length_cons, List.length_nil, List.getElem?_cons_zero, List.getElem?_cons_succ, List.set_cons_zero, List.set_cons_succ, startS, atI_pos, atI_cast, Int.toNat_natCast, wp_newL1, wp_newL2, wp_newT1, List.length_set, List.set_set, decide_eq_true_eq, decide_eq_false_iff_not, Bool.not_eq_true', true_and, and_true,  ixN_pos, Int.reduceLE, Int.reduceLT, Int.reduceToNat, Int.reduceAdd, Int.reduceSub, Int.reduceMul, Int.reduceMod, Int.reduceNeg, Int.reducePow, Nat.reduceAdd, Nat.reduceLT, Nat.reduceLeDiff, Nat.reduceSub, reduceIte, Int.reduceEq, List.isEmpty_nil, Bool.false_eq_true, Bool.true_eq_false, decide_true, decide_false, ge_iff_le, gt_iff_lt,  wp_eq_int, wp_eq_str, wp_eq_bool, List.length_map, List.replicate, List.cons_append, List.nil_append, Bool.not_false, Bool.not_true, Bool.and_true, Bool.true_and, Bool.and_self, Bool.and_false, Bool.false_and, Option.bind, bn_add, bn_sub, bn_mul, bn_div, bn_mod, bn_pow, bn_addS, bn_addT, bn_addL, cp_eq, cp_ne, cp_ltI, cp_leI, cp_gtI, cp_geI, cp_ltS, cp_leS, cp_gtS, cp_geS, cp_ltT, cp_gtT, cp_in, cp_nin, cp_is, cp_isn, ix_l, ix_t, ix_s, ixs_tp, ixs_pd, ixs_rf, ixs_fz, cel_d, cel_r, mkLst, clsOf, clOf_d, clOf_r, wp_reprB, revS, isi2S, Bool.or_false, Bool.or_true, Bool.false_or, Bool.true_or, bi_lenL, bi_lenT, bi_lenS, bi_listL, bi_listT, bi_tupL, bi_tupT, bi_intI, bi_intB, bi_strI, bi_strS, bi_abs, bi_max, bi_min, bi_all, bi_any, bi_sum, in_l, in_t, in_s, tr_b, tr_i, tr_n, tr_l, tr_t, so_l, so_t, so_s, so_f, io_t, ng_i, pt_i, ag_a, ag_s, rv_l, rv_t, ap_d, rk_l, rk_t, rk_s, rg_1, rg_2, sl_l, sl_t, sl_s, mt_ixS, wp_mkT0, wp_mkT1, wp_mkT2, wp_mkT3, wp_mkT4, wp_mkT5, wp_mkT6, wp_mkT7, wp_mkT8, b_draw, wp_dat_set l, wp_idx_set l]
  refine wp_if (fun c0 => ?_) (fun c0 => ?_)
  · -- a new cell
    subst c0
    simp only [wp_ret, wp_bnd, wp_some, wp_grd, wp_no, wp_dat_pd, wp_dat_fz,  ev, evs, evO, evI, evC, evTs, AI.ex, asgG, asgGs, getV, wp_exs, wp_exs_nil, goS_nx, goS_rt, goS_bk, goS_ct, turnE_nx, turnE_ct, turnE_bk, turnE_rt, endD_rt, endD_nx, back_pd, binS, isFz, cmpS, biS, dats, truth, isiS, allPd, isiD, rkOf, join_some, Option.map, List.map, List.length_cons, List.length_nil, List.getElem?_cons_zero, List.getElem?_cons_succ, List.set_cons_zero, List.set_cons_succ, startS, atI_pos, atI_cast, Int.toNat_natCast, wp_newL1, wp_newL2, wp_newT1, List.length_set, List.set_set, decide_eq_true_eq, decide_eq_false_iff_not, Bool.not_eq_true', true_and, and_true,  ixN_pos, Int.reduceLE, Int.reduceLT, Int.reduceToNat, Int.reduceAdd, Int.reduceSub, Int.reduceMul, Int.reduceMod, Int.reduceNeg, Int.reducePow, Nat.reduceAdd, Nat.reduceLT, Nat.reduceLeDiff, Nat.reduceSub, reduceIte, Int.reduceEq, List.isEmpty_nil, Bool.false_eq_true, Bool.true_eq_false, decide_true, decide_false, ge_iff_le, gt_iff_lt,  wp_eq_int, wp_eq_str, wp_eq_bool, List.length_map, List.replicate, List.cons_append, List.nil_append, Bool.not_false, Bool.not_true, Bool.and_true, Bool.true_and, Bool.and_self, Bool.and_false, Bool.false_and, Option.bind, bn_add, bn_sub, bn_mul, bn_div, bn_mod, bn_pow, bn_addS, bn_addT, bn_addL, cp_eq, cp_ne, cp_ltI, cp_leI, cp_gtI, cp_geI, cp_ltS, cp_leS, cp_gtS, cp_geS, cp_ltT, cp_gtT, cp_in, cp_nin, cp_is, cp_isn, ix_l, ix_t, ix_s, ixs_tp, ixs_pd, ixs_rf, ixs_fz, cel_d, cel_r, mkLst, clsOf, clOf_d, clOf_r, wp_reprB, revS, isi2S, Bool.or_false, Bool.or_true, Bool.false_or, Bool.true_or, bi_lenL, bi_lenT, bi_lenS, bi_listL, bi_listT, bi_tupL, bi_tupT, bi_intI, bi_intB, bi_strI, bi_strS, bi_abs, bi_max, bi_min, bi_all, bi_any, bi_sum, in_l, in_t, in_s, tr_b, tr_i, tr_n, tr_l, tr_t, so_l, so_t, so_s, so_f, io_t, ng_i, pt_i, ag_a, ag_s, rv_l, rv_t, ap_d, rk_l, rk_t, rk_s, rg_1, rg_2, sl_l, sl_t, sl_s, mt_ixS, wp_mkT0, wp_mkT1, wp_mkT2, wp_mkT3, wp_mkT4, wp_mkT5, wp_mkT6, wp_mkT7, wp_mkT8, wp_dat_set l, wp_idx_set l]
    have ha4 := small400 ha hB
    have done : ∀ (v c' e' : Int), 0 ≤ c' → c' < 2147483647 → 0 ≤ e' → Q (.pd (.int (v % if many < 1 then 1 else many))) (h.set n (.lst [.list (xs.map .int), .int ((a : Int) + 1), .int e', .int c'])) := fun v c' e' h1 h2 h3 =>
      q _ _ ⟨xs, a + 1, e', c', rfl, by omega, h3, h1, h2, hx⟩ ⟨(emod_rng v pos).1, (emod_rng v pos).2⟩
    refine wp_if (fun c1 => ?_) (fun c1 => ?_)
    · have hl : a < xs.length := by omega
      simp only [wp_ret, wp_bnd, wp_some, wp_grd, wp_no, wp_dat_pd, wp_dat_fz,  ev, evs, evO, evI, evC, evTs, AI.ex, asgG, asgGs, getV, wp_exs, wp_exs_nil, goS_nx, goS_rt, goS_bk, goS_ct, turnE_nx, turnE_ct, turnE_bk, turnE_rt, endD_rt, endD_nx, back_pd, binS, isFz, cmpS, biS, dats, truth, isiS, allPd, isiD, rkOf, join_some, Option.map, List.map, List.length_cons, List.length_nil, List.getElem?_cons_zero, List.getElem?_cons_succ, List.set_cons_zero, List.set_cons_succ, startS, atI_pos, atI_cast, Int.toNat_natCast, wp_newL1, wp_newL2, wp_newT1, List.length_set, List.set_set, decide_eq_true_eq, decide_eq_false_iff_not, Bool.not_eq_true', true_and, and_true,  ixN_pos, Int.reduceLE, Int.reduceLT, Int.reduceToNat, Int.reduceAdd, Int.reduceSub, Int.reduceMul, Int.reduceMod, Int.reduceNeg, Int.reducePow, Nat.reduceAdd, Nat.reduceLT, Nat.reduceLeDiff, Nat.reduceSub, reduceIte, Int.reduceEq, List.isEmpty_nil, Bool.false_eq_true, Bool.true_eq_false, decide_true, decide_false, ge_iff_le, gt_iff_lt,  wp_eq_int, wp_eq_str, wp_eq_bool, List.length_map, List.replicate, List.cons_append, List.nil_append, Bool.not_false, Bool.not_true, Bool.and_true, Bool.true_and, Bool.and_self, Bool.and_false, Bool.false_and, Option.bind, bn_add, bn_sub, bn_mul, bn_div, bn_mod, bn_pow, bn_addS, bn_addT, bn_addL, cp_eq, cp_ne, cp_ltI, cp_leI, cp_gtI, cp_geI, cp_ltS, cp_leS, cp_gtS, cp_geS, cp_ltT, cp_gtT, cp_in, cp_nin, cp_is, cp_isn, ix_l, ix_t, ix_s, ixs_tp, ixs_pd, ixs_rf, ixs_fz, cel_d, cel_r, mkLst, clsOf, clOf_d, clOf_r, wp_reprB, revS, isi2S, Bool.or_false, Bool.or_true, Bool.false_or, Bool.true_or, bi_lenL, bi_lenT, bi_lenS, bi_listL, bi_listT, bi_tupL, bi_tupT, bi_intI, bi_intB, bi_strI, bi_strS, bi_abs, bi_max, bi_min, bi_all, bi_any, bi_sum, in_l, in_t, in_s, tr_b, tr_i, tr_n, tr_l, tr_t, so_l, so_t, so_s, so_f, io_t, ng_i, pt_i, ag_a, ag_s, rv_l, rv_t, ap_d, rk_l, rk_t, rk_s, rg_1, rg_2, sl_l, sl_t, sl_s, mt_ixS, wp_mkT0, wp_mkT1, wp_mkT2, wp_mkT3, wp_mkT4, wp_mkT5, wp_mkT6, wp_mkT7, wp_mkT8, wp_dat_set l, wp_idx_set l, wp_set_set l, ints_get hl]
      have w0 : 0 ≤ (if xs[a] < 0 then -xs[a] else xs[a]) := by split <;> omega
      generalize (if xs[a] < 0 then -xs[a] else xs[a]) = w at *
      refine ⟨by decide, ?_⟩
      refine wp_if (fun c2 => ?_) (fun c2 => ?_)
      · have w4 : w < 2 ^ 400 := Int.lt_trans c2 (by decide)
        simp only [wp_ret, wp_bnd, wp_some, wp_grd, wp_no, wp_dat_pd, wp_dat_fz,  ev, evs, evO, evI, evC, evTs, AI.ex, asgG, asgGs, getV, wp_exs, wp_exs_nil, goS_nx, goS_rt, goS_bk, goS_ct, turnE_nx, turnE_ct, turnE_bk, turnE_rt, endD_rt, endD_nx, back_pd, binS, isFz, cmpS, biS, dats, truth, isiS, allPd, isiD, rkOf, join_some, Option.map, List.map, List.length_cons, List.length_nil, List.getElem?_cons_zero, List.getElem?_cons_succ, List.set_cons_zero, List.set_cons_succ, startS, atI_pos, atI_cast, Int.toNat_natCast, wp_newL1, wp_newL2, wp_newT1, List.length_set, List.set_set, decide_eq_true_eq, decide_eq_false_iff_not, Bool.not_eq_true', true_and, and_true,  ixN_pos, Int.reduceLE, Int.reduceLT, Int.reduceToNat, Int.reduceAdd, Int.reduceSub, Int.reduceMul, Int.reduceMod, Int.reduceNeg, Int.reducePow, Nat.reduceAdd, Nat.reduceLT, Nat.reduceLeDiff, Nat.reduceSub, reduceIte, Int.reduceEq, List.isEmpty_nil, Bool.false_eq_true, Bool.true_eq_false, decide_true, decide_false, ge_iff_le, gt_iff_lt,  wp_eq_int, wp_eq_str, wp_eq_bool, List.length_map, List.replicate, List.cons_append, List.nil_append, Bool.not_false, Bool.not_true, Bool.and_true, Bool.true_and, Bool.and_self, Bool.and_false, Bool.false_and, Option.bind, bn_add, bn_sub, bn_mul, bn_div, bn_mod, bn_pow, bn_addS, bn_addT, bn_addL, cp_eq, cp_ne, cp_ltI, cp_leI, cp_gtI, cp_geI, cp_ltS, cp_leS, cp_gtS, cp_geS, cp_ltT, cp_gtT, cp_in, cp_nin, cp_is, cp_isn, ix_l, ix_t, ix_s, ixs_tp, ixs_pd, ixs_rf, ixs_fz, cel_d, cel_r, mkLst, clsOf, clOf_d, clOf_r, wp_reprB, revS, isi2S, Bool.or_false, Bool.or_true, Bool.false_or, Bool.true_or, bi_lenL, bi_lenT, bi_lenS, bi_listL, bi_listT, bi_tupL, bi_tupT, bi_intI, bi_intB, bi_strI, bi_strS, bi_abs, bi_max, bi_min, bi_all, bi_any, bi_sum, in_l, in_t, in_s, tr_b, tr_i, tr_n, tr_l, tr_t, so_l, so_t, so_s, so_f, io_t, ng_i, pt_i, ag_a, ag_s, rv_l, rv_t, ap_d, rk_l, rk_t, rk_s, rg_1, rg_2, sl_l, sl_t, sl_s, mt_ixS, wp_mkT0, wp_mkT1, wp_mkT2, wp_mkT3, wp_mkT4, wp_mkT5, wp_mkT6, wp_mkT7, wp_mkT8, wp_dat_set l, wp_idx_set l, wp_set_set l]
        have r1 := emod_rng (w * 48271 + ↑a * 69621 + 5) (show (0 : Int) < 2147483647 by decide)
        exact ⟨mul_ok w0 w4 (by decide) (by decide), mul_ok (by omega) ha4 (by decide) (by decide), mul_ok r1.1 (Int.lt_trans r1.2 (by decide)) (by decide) (by decide), pos, done _ _ _ hc0 hc1 he⟩
      · simp only [wp_ret, wp_bnd, wp_some, wp_grd, wp_no, wp_dat_pd, wp_dat_fz,  ev, evs, evO, evI, evC, evTs, AI.ex, asgG, asgGs, getV, wp_exs, wp_exs_nil, goS_nx, goS_rt, goS_bk, goS_ct, turnE_nx, turnE_ct, turnE_bk, turnE_rt, endD_rt, endD_nx, back_pd, binS, isFz, cmpS, biS, dats, truth, isiS, allPd, isiD, rkOf, join_some, Option.map, List.map, List.length_cons, List.length_nil, List.getElem?_cons_zero, List.getElem?_cons_succ, List.set_cons_zero, List.set_cons_succ, startS, atI_pos, atI_cast, Int.toNat_natCast, wp_newL1, wp_newL2, wp_newT1, List.length_set, List.set_set, decide_eq_true_eq, decide_eq_false_iff_not, Bool.not_eq_true', true_and, and_true,  ixN_pos, Int.reduceLE, Int.reduceLT, Int.reduceToNat, Int.reduceAdd, Int.reduceSub, Int.reduceMul, Int.reduceMod, Int.reduceNeg, Int.reducePow, Nat.reduceAdd, Nat.reduceLT, Nat.reduceLeDiff, Nat.reduceSub, reduceIte, Int.reduceEq, List.isEmpty_nil, Bool.false_eq_true, Bool.true_eq_false, decide_true, decide_false, ge_iff_le, gt_iff_lt,  wp_eq_int, wp_eq_str, wp_eq_bool, List.length_map, List.replicate, List.cons_append, List.nil_append, Bool.not_false, Bool.not_true, Bool.and_true, Bool.true_and, Bool.and_self, Bool.and_false, Bool.false_and, Option.bind, bn_add, bn_sub, bn_mul, bn_div, bn_mod, bn_pow, bn_addS, bn_addT, bn_addL, cp_eq, cp_ne, cp_ltI, cp_leI, cp_gtI, cp_geI, cp_ltS, cp_leS, cp_gtS, cp_geS, cp_ltT, cp_gtT, cp_in, cp_nin, cp_is, cp_isn, ix_l, ix_t, ix_s, ixs_tp, ixs_pd, ixs_rf, ixs_fz, cel_d, cel_r, mkLst, clsOf, clOf_d, clOf_r, wp_reprB, revS, isi2S, Bool.or_false, Bool.or_true, Bool.false_or, Bool.true_or, bi_lenL, bi_lenT, bi_lenS, bi_listL, bi_listT, bi_tupL, bi_tupT, bi_intI, bi_intB, bi_strI, bi_strS, bi_abs, bi_max, bi_min, bi_all, bi_any, bi_sum, in_l, in_t, in_s, tr_b, tr_i, tr_n, tr_l, tr_t, so_l, so_t, so_s, so_f, io_t, ng_i, pt_i, ag_a, ag_s, rv_l, rv_t, ap_d, rk_l, rk_t, rk_s, rg_1, rg_2, sl_l, sl_t, sl_s, mt_ixS, wp_mkT0, wp_mkT1, wp_mkT2, wp_mkT3, wp_mkT4, wp_mkT5, wp_mkT6, wp_mkT7, wp_mkT8, wp_dat_set l, wp_idx_set l, wp_set_set l]
        exact ⟨⟨two, lg⟩, pos, done _ _ _ hc0 hc1 (Int.ediv_nonneg w0 (by omega))⟩
    · simp only [wp_ret, wp_bnd, wp_some, wp_grd, wp_no, wp_dat_pd, wp_dat_fz,  ev, evs, evO, evI, evC, evTs, AI.ex, asgG, asgGs, getV, wp_exs, wp_exs_nil, goS_nx, goS_rt, goS_bk, goS_ct, turnE_nx, turnE_ct, turnE_bk, turnE_rt, endD_rt, endD_nx, back_pd, binS, isFz, cmpS, biS, dats, truth, isiS, allPd, isiD, rkOf, join_some, Option.map, List.map, List.length_cons, List.length_nil, List.getElem?_cons_zero, List.getElem?_cons_succ, List.set_cons_zero, List.set_cons_succ, startS, atI_pos, atI_cast, Int.toNat_natCast, wp_newL1, wp_newL2, wp_newT1, List.length_set, List.set_set, decide_eq_true_eq, decide_eq_false_iff_not, Bool.not_eq_true', true_and, and_true,  ixN_pos, Int.reduceLE, Int.reduceLT, Int.reduceToNat, Int.reduceAdd, Int.reduceSub, Int.reduceMul, Int.reduceMod, Int.reduceNeg, Int.reducePow, Nat.reduceAdd, Nat.reduceLT, Nat.reduceLeDiff, Nat.reduceSub, reduceIte, Int.reduceEq, List.isEmpty_nil, Bool.false_eq_true, Bool.true_eq_false, decide_true, decide_false, ge_iff_le, gt_iff_lt,  wp_eq_int, wp_eq_str, wp_eq_bool, List.length_map, List.replicate, List.cons_append, List.nil_append, Bool.not_false, Bool.not_true, Bool.and_true, Bool.true_and, Bool.and_self, Bool.and_false, Bool.false_and, Option.bind, bn_add, bn_sub, bn_mul, bn_div, bn_mod, bn_pow, bn_addS, bn_addT, bn_addL, cp_eq, cp_ne, cp_ltI, cp_leI, cp_gtI, cp_geI, cp_ltS, cp_leS, cp_gtS, cp_geS, cp_ltT, cp_gtT, cp_in, cp_nin, cp_is, cp_isn, ix_l, ix_t, ix_s, ixs_tp, ixs_pd, ixs_rf, ixs_fz, cel_d, cel_r, mkLst, clsOf, clOf_d, clOf_r, wp_reprB, revS, isi2S, Bool.or_false, Bool.or_true, Bool.false_or, Bool.true_or, bi_lenL, bi_lenT, bi_lenS, bi_listL, bi_listT, bi_tupL, bi_tupT, bi_intI, bi_intB, bi_strI, bi_strS, bi_abs, bi_max, bi_min, bi_all, bi_any, bi_sum, in_l, in_t, in_s, tr_b, tr_i, tr_n, tr_l, tr_t, so_l, so_t, so_s, so_f, io_t, ng_i, pt_i, ag_a, ag_s, rv_l, rv_t, ap_d, rk_l, rk_t, rk_s, rg_1, rg_2, sl_l, sl_t, sl_s, mt_ixS, wp_mkT0, wp_mkT1, wp_mkT2, wp_mkT3, wp_mkT4, wp_mkT5, wp_mkT6, wp_mkT7, wp_mkT8, wp_dat_set l, wp_idx_set l, wp_set_set l]
      have r0 := emod_rng (c * 48271 + ↑a + 1) (show (0 : Int) < 2147483647 by decide)
      refine ⟨mul_ok hc0 (Int.lt_trans hc1 (by decide)) (by decide) (by decide), by decide, ?_⟩
      generalize (c * 48271 + ↑a + 1) % 2147483647 = w at *
      refine wp_if (fun c2 => ?_) (fun c2 => ?_)
      · have w4 : w < 2 ^ 400 := Int.lt_trans c2 (by decide)
        simp only [wp_ret, wp_bnd, wp_some, wp_grd, wp_no, wp_dat_pd, wp_dat_fz,  ev, evs, evO, evI, evC, evTs, AI.ex, asgG, asgGs, getV, wp_exs, wp_exs_nil, goS_nx, goS_rt, goS_bk, goS_ct, turnE_nx, turnE_ct, turnE_bk, turnE_rt, endD_rt, endD_nx, back_pd, binS, isFz, cmpS, biS, dats, truth, isiS, allPd, isiD, rkOf, join_some, Option.map, List.map, List.length_cons, List.length_nil, List.getElem?_cons_zero, List.getElem?_cons_succ, List.set_cons_zero, List.set_cons_succ, startS, atI_pos, atI_cast, Int.toNat_natCast, wp_newL1, wp_newL2, wp_newT1, List.length_set, List.set_set, decide_eq_true_eq, decide_eq_false_iff_not, Bool.not_eq_true', true_and, and_true,  ixN_pos, Int.reduceLE, Int.reduceLT, Int.reduceToNat, Int.reduceAdd, Int.reduceSub, Int.reduceMul, Int.reduceMod, Int.reduceNeg, Int.reducePow, Nat.reduceAdd, Nat.reduceLT, Nat.reduceLeDiff, Nat.reduceSub, reduceIte, Int.reduceEq, List.isEmpty_nil, Bool.false_eq_true, Bool.true_eq_false, decide_true, decide_false, ge_iff_le, gt_iff_lt,  wp_eq_int, wp_eq_str, wp_eq_bool, List.length_map, List.replicate, List.cons_append, List.nil_append, Bool.not_false, Bool.not_true, Bool.and_true, Bool.true_and, Bool.and_self, Bool.and_false, Bool.false_and, Option.bind, bn_add, bn_sub, bn_mul, bn_div, bn_mod, bn_pow, bn_addS, bn_addT, bn_addL, cp_eq, cp_ne, cp_ltI, cp_leI, cp_gtI, cp_geI, cp_ltS, cp_leS, cp_gtS, cp_geS, cp_ltT, cp_gtT, cp_in, cp_nin, cp_is, cp_isn, ix_l, ix_t, ix_s, ixs_tp, ixs_pd, ixs_rf, ixs_fz, cel_d, cel_r, mkLst, clsOf, clOf_d, clOf_r, wp_reprB, revS, isi2S, Bool.or_false, Bool.or_true, Bool.false_or, Bool.true_or, bi_lenL, bi_lenT, bi_lenS, bi_listL, bi_listT, bi_tupL, bi_tupT, bi_intI, bi_intB, bi_strI, bi_strS, bi_abs, bi_max, bi_min, bi_all, bi_any, bi_sum, in_l, in_t, in_s, tr_b, tr_i, tr_n, tr_l, tr_t, so_l, so_t, so_s, so_f, io_t, ng_i, pt_i, ag_a, ag_s, rv_l, rv_t, ap_d, rk_l, rk_t, rk_s, rg_1, rg_2, sl_l, sl_t, sl_s, mt_ixS, wp_mkT0, wp_mkT1, wp_mkT2, wp_mkT3, wp_mkT4, wp_mkT5, wp_mkT6, wp_mkT7, wp_mkT8, wp_dat_set l, wp_idx_set l, wp_set_set l]
        have r1 := emod_rng (w * 48271 + ↑a * 69621 + 5) (show (0 : Int) < 2147483647 by decide)
        exact ⟨mul_ok r0.1 w4 (by decide) (by decide), mul_ok (by omega) ha4 (by decide) (by decide), mul_ok r1.1 (Int.lt_trans r1.2 (by decide)) (by decide) (by decide), pos, done _ _ _ r0.1 r0.2 he⟩
      · simp only [wp_ret, wp_bnd, wp_some, wp_grd, wp_no, wp_dat_pd, wp_dat_fz,  ev, evs, evO, evI, evC, evTs, AI.ex, asgG, asgGs, getV, wp_exs, wp_exs_nil, goS_nx, goS_rt, goS_bk, goS_ct, turnE_nx, turnE_ct, turnE_bk, turnE_rt, endD_rt, endD_nx, back_pd, binS, isFz, cmpS, biS, dats, truth, isiS, allPd, isiD, rkOf, join_some, Option.map, List.map, List.length_cons, List.length_nil, List.getElem?_cons_zero, List.getElem?_cons_succ, List.set_cons_zero, List.set_cons_succ, startS, atI_pos, atI_cast, Int.toNat_natCast, wp_newL1, wp_newL2, wp_newT1, List.length_set, List.set_set, decide_eq_true_eq, decide_eq_false_iff_not, Bool.not_eq_true', true_and, and_true,  ixN_pos, Int.reduceLE, Int.reduceLT, Int.reduceToNat, Int.reduceAdd, Int.reduceSub, Int.reduceMul, Int.reduceMod, Int.reduceNeg, Int.reducePow, Nat.reduceAdd, Nat.reduceLT, Nat.reduceLeDiff, Nat.reduceSub, reduceIte, Int.reduceEq, List.isEmpty_nil, Bool.false_eq_true, Bool.true_eq_false, decide_true, decide_false, ge_iff_le, gt_iff_lt,  wp_eq_int, wp_eq_str, wp_eq_bool, List.length_map, List.replicate, List.cons_append, List.nil_append, Bool.not_false, Bool.not_true, Bool.and_true, Bool.true_and, Bool.and_self, Bool.and_false, Bool.false_and, Option.bind, bn_add, bn_sub, bn_mul, bn_div, bn_mod, bn_pow, bn_addS, bn_addT, bn_addL, cp_eq, cp_ne, cp_ltI, cp_leI, cp_gtI, cp_geI, cp_ltS, cp_leS, cp_gtS, cp_geS, cp_ltT, cp_gtT, cp_in, cp_nin, cp_is, cp_isn, ix_l, ix_t, ix_s, ixs_tp, ixs_pd, ixs_rf, ixs_fz, cel_d, cel_r, mkLst, clsOf, clOf_d, clOf_r, wp_reprB, revS, isi2S, Bool.or_false, Bool.or_true, Bool.false_or, Bool.true_or, bi_lenL, bi_lenT, bi_lenS, bi_listL, bi_listT, bi_tupL, bi_tupT, bi_intI, bi_intB, bi_strI, bi_strS, bi_abs, bi_max, bi_min, bi_all, bi_any, bi_sum, in_l, in_t, in_s, tr_b, tr_i, tr_n, tr_l, tr_t, so_l, so_t, so_s, so_f, io_t, ng_i, pt_i, ag_a, ag_s, rv_l, rv_t, ap_d, rk_l, rk_t, rk_s, rg_1, rg_2, sl_l, sl_t, sl_s, mt_ixS, wp_mkT0, wp_mkT1, wp_mkT2, wp_mkT3, wp_mkT4, wp_mkT5, wp_mkT6, wp_mkT7, wp_mkT8, wp_dat_set l, wp_idx_set l, wp_set_set l]
        exact ⟨⟨two, lg⟩, pos, done _ _ _ r0.1 r0.2 (Int.ediv_nonneg r0.1 (by omega))⟩
  · simp only [wp_ret, wp_bnd, wp_some, wp_grd, wp_no, wp_dat_pd, wp_dat_fz,  ev, evs, evO, evI, evC, evTs, AI.ex, asgG, asgGs, getV, wp_exs, wp_exs_nil, goS_nx, goS_rt, goS_bk, goS_ct, turnE_nx, turnE_ct, turnE_bk, turnE_rt, endD_rt, endD_nx, back_pd, binS, isFz, cmpS, biS, dats, truth, isiS, allPd, isiD, rkOf, join_some, Option.map, List.map, List.length_cons, List.length_nil, List.getElem?_cons_zero, List.getElem?_cons_succ, List.set_cons_zero, List.set_cons_succ, startS, atI_pos, atI_cast, Int.toNat_natCast, wp_newL1, wp_newL2, wp_newT1, List.length_set, List.set_set, decide_eq_true_eq, decide_eq_false_iff_not, Bool.not_eq_true', true_and, and_true,  ixN_pos, Int.reduceLE, Int.reduceLT, Int.reduceToNat, Int.reduceAdd, Int.reduceSub, Int.reduceMul, Int.reduceMod, Int.reduceNeg, Int.reducePow, Nat.reduceAdd, Nat.reduceLT, Nat.reduceLeDiff, Nat.reduceSub, reduceIte, Int.reduceEq, List.isEmpty_nil, Bool.false_eq_true, Bool.true_eq_false, decide_true, decide_false, ge_iff_le, gt_iff_lt,  wp_eq_int, wp_eq_str, wp_eq_bool, List.length_map, List.replicate, List.cons_append, List.nil_append, Bool.not_false, Bool.not_true, Bool.and_true, Bool.true_and, Bool.and_self, Bool.and_false, Bool.false_and, Option.bind, bn_add, bn_sub, bn_mul, bn_div, bn_mod, bn_pow, bn_addS, bn_addT, bn_addL, cp_eq, cp_ne, cp_ltI, cp_leI, cp_gtI, cp_geI, cp_ltS, cp_leS, cp_gtS, cp_geS, cp_ltT, cp_gtT, cp_in, cp_nin, cp_is, cp_isn, ix_l, ix_t, ix_s, ixs_tp, ixs_pd, ixs_rf, ixs_fz, cel_d, cel_r, mkLst, clsOf, clOf_d, clOf_r, wp_reprB, revS, isi2S, Bool.or_false, Bool.or_true, Bool.false_or, Bool.true_or, bi_lenL, bi_lenT, bi_lenS, bi_listL, bi_listT, bi_tupL, bi_tupT, bi_intI, bi_intB, bi_strI, bi_strS, bi_abs, bi_max, bi_min, bi_all, bi_any, bi_sum, in_l, in_t, in_s, tr_b, tr_i, tr_n, tr_l, tr_t, so_l, so_t, so_s, so_f, io_t, ng_i, pt_i, ag_a, ag_s, rv_l, rv_t, ap_d, rk_l, rk_t, rk_s, rg_1, rg_2, sl_l, sl_t, sl_s, mt_ixS, wp_mkT0, wp_mkT1, wp_mkT2, wp_mkT3, wp_mkT4, wp_mkT5, wp_mkT6, wp_mkT7, wp_mkT8, wp_dat_set l, wp_idx_set l, wp_set_set l]
    exact ⟨⟨two, lg⟩, pos, q _ _ ⟨xs, a, _, c, rfl, by omega, Int.ediv_nonneg he (by omega), hc0, hc1, hx⟩ ⟨(emod_rng e pos).1, (emod_rng e pos).2⟩⟩
theorem tape_raw {T : TT} {ns : List Int} {h : Boxes} (hl : ns.length ≤ 63) {Q : RV → Boxes → Prop} (q : ∀ c : Int, 0 ≤ c → c < 2147483647 → Q (.rf h.length) (h ++ [.lst [.list (ns.map .int), .int 0, .int 0, .int c]])) : wp (rawDef T ⟨1, 3, b_tape⟩ [.fz (ns.map .int)]) Q h := by
  refine wp_def rfl ?_
  simp only [wp_ret, wp_bnd, wp_some, wp_grd, wp_no, wp_dat_pd, wp_dat_fz,  ev, evs, evO, evI, evC, evTs, AI.ex, asgG, asgGs, getV, wp_exs, wp_exs_nil, goS_nx, goS_rt, goS_bk, goS_ct, turnE_nx, turnE_ct, turnE_bk, turnE_rt, endD_rt, endD_nx, back_pd, binS, isFz, cmpS, biS, dats, truth, isiS, allPd, isiD, rkOf, join_some, Option.map, List.map, List.length_cons, List.length_nil, List.getElem?_cons_zero, List.getElem?_cons_succ, List.set_cons_zero, List.set_cons_succ, startS, atI_pos, atI_cast, Int.toNat_natCast, wp_newL1, wp_newL2, wp_newT1, List.length_set, List.set_set, decide_eq_true_eq, decide_eq_false_iff_not, Bool.not_eq_true', true_and, and_true,  ixN_pos, Int.reduceLE, Int.reduceLT, Int.reduceToNat, Int.reduceAdd, Int.reduceSub, Int.reduceMul, Int.reduceMod, Int.reduceNeg, Int.reducePow, Nat.reduceAdd, Nat.reduceLT, Nat.reduceLeDiff, Nat.reduceSub, reduceIte, Int.reduceEq, List.isEmpty_nil, Bool.false_eq_true, Bool.true_eq_false, decide_true, decide_false, ge_iff_le, gt_iff_lt,  wp_eq_int, wp_eq_str, wp_eq_bool, List.length_map, List.replicate, List.cons_append, List.nil_append, Bool.not_false, Bool.not_true, Bool.and_true, Bool.true_and, Bool.and_self, Bool.and_false, Bool.false_and, Option.bind, bn_add, bn_sub, bn_mul, bn_div, bn_mod, bn_pow, bn_addS, bn_addT, bn_addL, cp_eq, cp_ne, cp_ltI, cp_leI, cp_gtI, cp_geI, cp_ltS, cp_leS, cp_gtS, cp_geS, cp_ltT, cp_gtT, cp_in, cp_nin, cp_is, cp_isn, ix_l, ix_t, ix_s, ixs_tp, ixs_pd, ixs_rf, ixs_fz, cel_d, cel_r, mkLst, clsOf, clOf_d, clOf_r, wp_reprB, revS, isi2S, Bool.or_false, Bool.or_true, Bool.false_or, Bool.true_or, bi_lenL, bi_lenT, bi_lenS, bi_listL, bi_listT, bi_tupL, bi_tupT, bi_intI, bi_intB, bi_strI, bi_strS, bi_abs, bi_max, bi_min, bi_all, bi_any, bi_sum, in_l, in_t, in_s, tr_b, tr_i, tr_n, tr_l, tr_t, so_l, so_t, so_s, so_f, io_t, ng_i, pt_i, ag_a, ag_s, rv_l, rv_t, ap_d, rk_l, rk_t, rk_s, rg_1, rg_2, sl_l, sl_t, sl_s, mt_ixS, wp_mkT0, wp_mkT1, wp_mkT2, wp_mkT3, wp_mkT4, wp_mkT5, wp_mkT6, wp_mkT7, wp_mkT8, b_tape]
  have step : ∀ (i : Nat) (hi : i < (ns.map PyData.int).length), ∃ x : Int, (ns.map PyData.int)[i] = .int x := fun i hi => by simp
  rw [show ns.length = (ns.map PyData.int).length by simp]
  refine wp_for (fun i σ h' => h' = h ∧ ∃ t y, σ = [some (.fz (ns.map .int)), some (.pd (.int t)), y] ∧ 0 ≤ t ∧ t < 2147483647) ⟨rfl, 7, none, rfl, by decide, by decide⟩ ?_ ?_
  · rintro i hi σ h' ⟨rfl, t, y, rfl, t0, t1⟩
    obtain ⟨x, hx⟩ := step i hi
    rw [hx]
    simp only [wp_ret, wp_bnd, wp_some, wp_grd, wp_no, wp_dat_pd, wp_dat_fz,  ev, evs, evO, evI, evC, evTs, AI.ex, asgG, asgGs, getV, wp_exs, wp_exs_nil, goS_nx, goS_rt, goS_bk, goS_ct, turnE_nx, turnE_ct, turnE_bk, turnE_rt, endD_rt, endD_nx, back_pd, binS, isFz, cmpS, biS, dats, truth, isiS, allPd, isiD, rkOf, join_some, Option.map, List.map, List.length_cons, List.length_nil, List.getElem?_cons_zero, List.getElem?_cons_succ, List.set_cons_zero, List.set_cons_succ, startS, atI_pos, atI_cast, Int.toNat_natCast, wp_newL1, wp_newL2, wp_newT1, List.length_set, List.set_set, decide_eq_true_eq, decide_eq_false_iff_not, Bool.not_eq_true', true_and, and_true,  ixN_pos, Int.reduceLE, Int.reduceLT, Int.reduceToNat, Int.reduceAdd, Int.reduceSub, Int.reduceMul, Int.reduceMod, Int.reduceNeg, Int.reducePow, Nat.reduceAdd, Nat.reduceLT, Nat.reduceLeDiff, Nat.reduceSub, reduceIte, Int.reduceEq, List.isEmpty_nil, Bool.false_eq_true, Bool.true_eq_false, decide_true, decide_false, ge_iff_le, gt_iff_lt,  wp_eq_int, wp_eq_str, wp_eq_bool, List.length_map, List.replicate, List.cons_append, List.nil_append, Bool.not_false, Bool.not_true, Bool.and_true, Bool.true_and, Bool.and_self, Bool.and_false, Bool.false_and, Option.bind, bn_add, bn_sub, bn_mul, bn_div, bn_mod, bn_pow, bn_addS, bn_addT, bn_addL, cp_eq, cp_ne, cp_ltI, cp_leI, cp_gtI, cp_geI, cp_ltS, cp_leS, cp_gtS, cp_geS, cp_ltT, cp_gtT, cp_in, cp_nin, cp_is, cp_isn, ix_l, ix_t, ix_s, ixs_tp, ixs_pd, ixs_rf, ixs_fz, cel_d, cel_r, mkLst, clsOf, clOf_d, clOf_r, wp_reprB, revS, isi2S, Bool.or_false, Bool.or_true, Bool.false_or, Bool.true_or, bi_lenL, bi_lenT, bi_lenS, bi_listL, bi_listT, bi_tupL, bi_tupT, bi_intI, bi_intB, bi_strI, bi_strS, bi_abs, bi_max, bi_min, bi_all, bi_any, bi_sum, in_l, in_t, in_s, tr_b, tr_i, tr_n, tr_l, tr_t, so_l, so_t, so_s, so_f, io_t, ng_i, pt_i, ag_a, ag_s, rv_l, rv_t, ap_d, rk_l, rk_t, rk_s, rg_1, rg_2, sl_l, sl_t, sl_s, mt_ixS, wp_mkT0, wp_mkT1, wp_mkT2, wp_mkT3, wp_mkT4, wp_mkT5, wp_mkT6, wp_mkT7, wp_mkT8]
    have r := emod_rng (t * 31 + if x < 0 then -x else x) (show (0 : Int) < 2147483647 by decide)
    exact ⟨mul_ok t0 (Int.lt_trans t1 (by decide)) (by decide) (by decide), _, _, rfl, r.1, r.2⟩
  · rintro σ h' ⟨rfl, t, y, rfl, t0, t1⟩
    have z : (ns.map PyData.int).length ≤ sizeLine := by rw [List.length_map]; exact Nat.le_trans hl (by decide)
    simp only [wp_ret, wp_bnd, wp_some, wp_grd, wp_no, wp_dat_pd, wp_dat_fz,  ev, evs, evO, evI, evC, evTs, AI.ex, asgG, asgGs, getV, wp_exs, wp_exs_nil, goS_nx, goS_rt, goS_bk, goS_ct, turnE_nx, turnE_ct, turnE_bk, turnE_rt, endD_rt, endD_nx, back_pd, binS, isFz, cmpS, biS, dats, truth, isiS, allPd, isiD, rkOf, join_some, Option.map, List.map, List.length_cons, List.length_nil, List.getElem?_cons_zero, List.getElem?_cons_succ, List.set_cons_zero, List.set_cons_succ, startS, atI_pos, atI_cast, Int.toNat_natCast, wp_newL1, wp_newL2, wp_newT1, List.length_set, List.set_set, decide_eq_true_eq, decide_eq_false_iff_not, Bool.not_eq_true', true_and, and_true,  ixN_pos, Int.reduceLE, Int.reduceLT, Int.reduceToNat, Int.reduceAdd, Int.reduceSub, Int.reduceMul, Int.reduceMod, Int.reduceNeg, Int.reducePow, Nat.reduceAdd, Nat.reduceLT, Nat.reduceLeDiff, Nat.reduceSub, reduceIte, Int.reduceEq, List.isEmpty_nil, Bool.false_eq_true, Bool.true_eq_false, decide_true, decide_false, ge_iff_le, gt_iff_lt,  wp_eq_int, wp_eq_str, wp_eq_bool, List.length_map, List.replicate, List.cons_append, List.nil_append, Bool.not_false, Bool.not_true, Bool.and_true, Bool.true_and, Bool.and_self, Bool.and_false, Bool.false_and, Option.bind, bn_add, bn_sub, bn_mul, bn_div, bn_mod, bn_pow, bn_addS, bn_addT, bn_addL, cp_eq, cp_ne, cp_ltI, cp_leI, cp_gtI, cp_geI, cp_ltS, cp_leS, cp_gtS, cp_geS, cp_ltT, cp_gtT, cp_in, cp_nin, cp_is, cp_isn, ix_l, ix_t, ix_s, ixs_tp, ixs_pd, ixs_rf, ixs_fz, cel_d, cel_r, mkLst, clsOf, clOf_d, clOf_r, wp_reprB, revS, isi2S, Bool.or_false, Bool.or_true, Bool.false_or, Bool.true_or, bi_lenL, bi_lenT, bi_lenS, bi_listL, bi_listT, bi_tupL, bi_tupT, bi_intI, bi_intB, bi_strI, bi_strS, bi_abs, bi_max, bi_min, bi_all, bi_any, bi_sum, in_l, in_t, in_s, tr_b, tr_i, tr_n, tr_l, tr_t, so_l, so_t, so_s, so_f, io_t, ng_i, pt_i, ag_a, ag_s, rv_l, rv_t, ap_d, rk_l, rk_t, rk_s, rg_1, rg_2, sl_l, sl_t, sl_s, mt_ixS, wp_mkT0, wp_mkT1, wp_mkT2, wp_mkT3, wp_mkT4, wp_mkT5, wp_mkT6, wp_mkT7, wp_mkT8, wp_newL z, Bool.false_eq_true]
    exact q t t0 t1
section
variable {T T' : TT} {f : Str} {bx : Bool} {h : Boxes} {Q : RV → Boxes → Prop}
theorem draw_call {B n : Nat} {b : Box} {many : Int} (e : T.raw f = rawDef T' ⟨2, 4, b_draw⟩) (t : TapeB B b) (hb : h[n]? = some b) (hB : B ≤ 10 ^ 100) (hm : many < 2 ^ 1000) (q : ∀ v b', TapeB (B + 1) b' → Drawn many v → Q (.pd (.int v)) (h.set n b')) : wp (T.call bx f [.rf n, .pd (.int many)]) Q h :=
  wp_call e (draw_raw t hb hB hm fun v b' t' hv => by rw [back_pd, List.take_of_length_le (by simp)]; exact q v b' t' hv)
theorem tape_call {ns : List Int} (e : T.raw f = rawDef T' ⟨1, 3, b_tape⟩) (hl : ns.length ≤ 63) (q : ∀ b, TapeB 0 b → Q (.rf h.length) (h ++ [b])) : wp (T.call true f [.fz (ns.map .int)]) Q h :=
  wp_call e (tape_raw hl fun c c0 c1 => by
    refine ⟨.rf h.length, h ++ [.lst [.list (ns.map .int), .int 0, .int 0, .int c]], ?_, q _ ⟨ns, 0, 0, c, rfl, Nat.le_refl _, by decide, c0, c1, hl⟩⟩
    unfold settle
    simp)
end
end AI

set_option Elab.async false
set_option linter.all false
set_option maxRecDepth 100000
set_option maxHeartbeats 4000000
/-! AiStr: texts. -/
namespace AI
open PySem L2
theorem str_len (x y : Str) : (x ++ y).length = x.length + y.length := by
  show (x.cps ++ y.cps).size = _
  rw [Array.size_append]; rfl
theorem str_app (x y : Str) : (x ++ y).cps.toList = x.cps.toList ++ y.cps.toList := by
  show (x.cps ++ y.cps).toList = _
  rw [Array.toList_append]
theorem str_size (x : Str) : x.cps.toList.length = x.length := rfl
theorem str_one (c : Nat) : (⟨#[c]⟩ : Str).length = 1 := rfl
theorem str_one' (c : Nat) : (⟨#[c]⟩ : Str).cps.toList = [c] := rfl
theorem str_ext {x y : Str} (h : x.cps.toList = y.cps.toList) : x = y := by
  cases x; cases y
  simp only at h
  rw [Array.toList_inj.mp h]
theorem cut_len (z : Str) (lo hi : Option Int) : (cutS z lo hi).length ≤ z.length := by
  show (List.toArray _).size ≤ _
  rw [List.size_toArray, List.length_take, List.length_drop]
  have : z.cps.toList.length = z.length := rfl
  omega
theorem cut_mem {z : Str} {lo hi : Option Int} {c : Nat} (h : c ∈ (cutS z lo hi).cps.toList) : c ∈ z.cps.toList := by
  have h' : c ∈ (z.cps.toList.drop (HT.sIx z.length 0 lo)).take (HT.sIx z.length z.length hi - HT.sIx z.length 0 lo) := h
  exact List.mem_of_mem_drop (List.mem_of_mem_take h')
/-- z[: n] -/
theorem cut_to (z : Str) {n : Int} (h : 0 ≤ n) : (cutS z none (some n)).cps.toList = z.cps.toList.take n.toNat := by
  show (z.cps.toList.drop 0).take (HT.sIx z.length z.length (some n) - 0) = _
  unfold HT.sIx
  simp only
  rw [if_neg (by omega), List.drop_zero, Nat.sub_zero]
  by_cases c : n.toNat ≤ z.length
  · rw [Nat.min_eq_left c]
  · rw [Nat.min_eq_right (by omega), List.take_of_length_le (by rw [str_size]; omega), List.take_of_length_le (by rw [str_size]; omega)]
theorem cut_from (z : Str) {n : Int} (h : 0 ≤ n) : (cutS z (some n) none).cps.toList = z.cps.toList.drop n.toNat := by
  show (z.cps.toList.drop (HT.sIx z.length 0 (some n))).take (z.length - HT.sIx z.length 0 (some n)) = _
  unfold HT.sIx
  simp only
  rw [if_neg (by omega)]
  by_cases c : n.toNat ≤ z.length
  · rw [Nat.min_eq_left c, List.take_of_length_le (by rw [List.length_drop, str_size]; omega)]
  · rw [Nat.min_eq_right (by omega), List.drop_of_length_le (by rw [str_size]; omega), List.drop_of_length_le (by rw [str_size]; omega), List.take_nil]
/-! ### the order -/
theorem lex_at {a b : List Nat} : ∀ {i : Nat} (h1 : i < a.length) (h2 : i < b.length), (∀ j (j1 : j < a.length) (j2 : j < b.length), j < i → a[j] = b[j]) → a[i] ≠ b[i] → (a < b ↔ a[i] < b[i]) := by
  induction a generalizing b with
  | nil => intro i h1; simp at h1
  | cons x xs ih =>
    intro i h1 h2 al ne
    cases b with
    | nil => simp at h2
    | cons y ys =>
      cases i with
      | zero =>
        simp only [List.getElem_cons_zero] at ne ⊢
        rw [List.cons_lt_cons_iff]
        constructor
        · rintro (h | ⟨h, _⟩)
          · exact h
          · exact absurd h ne
        · exact fun h => .inl h
      | succ i =>
        have e : x = y := al 0 (by simp) (by simp) (by omega)
        subst e
        simp only [List.getElem_cons_succ] at ne ⊢
        rw [List.cons_lt_cons_iff]
        have := ih (b := ys) (i := i) (by simpa using h1) (by simpa using h2) (fun j j1 j2 hj => al (j + 1) (Nat.succ_lt_succ j1) (Nat.succ_lt_succ j2) (by omega)) ne
        constructor
        · rintro (h | ⟨_, h⟩)
          · exact absurd h (Nat.lt_irrefl _)
          · exact this.mp h
        · exact fun h => .inr ⟨rfl, this.mpr h⟩
theorem lex_end {a b : List Nat} (al : ∀ j (j1 : j < a.length) (j2 : j < b.length), a[j] = b[j]) : (a < b ↔ a.length < b.length) := by
  induction a generalizing b with
  | nil => cases b <;> simp
  | cons x xs ih =>
    cases b with
    | nil => simp
    | cons y ys =>
      have e : x = y := al 0 (by simp) (by simp)
      subst e
      rw [List.cons_lt_cons_iff]
      have := ih (b := ys) fun j j1 j2 => al (j + 1) (Nat.succ_lt_succ j1) (Nat.succ_lt_succ j2)
      simp only [List.length_cons, Nat.add_lt_add_iff_right]
      constructor
      · rintro (h | ⟨_, h⟩)
        · exact absurd h (Nat.lt_irrefl _)
        · exact this.mp h
      · exact fun h => .inr ⟨trivial, this.mpr h⟩
/-! ### the laws' signs -/
def b_signs : List S := [.asg (.nm 0) (.cst (.str " !\"#$&'()*+,-./0123456789:;<=>?@ABCDEFGHIJKLMNOPQRSTUVWXYZ[\\]^_`")), .ret (.bin .Add (.var 0) (.cst (.str "abcdefghijklmnopqrstuvwxyz{|}~")))]
def SG : Str := (" !\"#$&'()*+,-./0123456789:;<=>?@ABCDEFGHIJKLMNOPQRSTUVWXYZ[\\]^_`" : Str) ++ ("abcdefghijklmnopqrstuvwxyz{|}~" : Str)
theorem SG_len : SG.length = 94 := by decide +kernel
theorem SG_pos : ∀ k, k < 94 → (SG.cps.toList[k]?).bind (fun c => (Builtin.Str.occurrences SG ⟨#[c]⟩ 0 94 1).head?) = some k := by decide +kernel
theorem SG_up : ∀ j, j < 94 → ∀ k, k < 94 → (decide (j < k)) = decide (SG.cps.toList.getD j 0 < SG.cps.toList.getD k 0) := by decide +kernel
theorem SG_index {c : Nat} (h : c ∈ SG.cps.toList) : ∃ k, k < 94 ∧ (Builtin.Str.occurrences SG ⟨#[c]⟩ 0 SG.length 1).head? = some k ∧ SG.cps.toList.getD k 0 = c := by
  obtain ⟨k, hk, e⟩ := List.getElem_of_mem h
  have hk' : k < 94 := by rw [← SG_len]; exact hk
  have q := SG_pos k hk'
  rw [List.getElem?_eq_getElem hk, e] at q
  exact ⟨k, hk', by rw [SG_len]; exact q, by rw [List.getD_eq_getElem?_getD, List.getElem?_eq_getElem hk, e]; rfl⟩
theorem str_at {z : Str} {k : Int} (h0 : 0 ≤ k) (h1 : k < z.length) : ∃ c, atI z.cps.toList k = some c ∧ c ∈ z.cps.toList := by
  rw [atI_pos h0]
  have l : k.toNat < z.cps.toList.length := by rw [str_size]; omega
  exact ⟨_, List.getElem?_eq_getElem l, List.getElem_mem l⟩
def TxtOk (m : Nat) (s : Str) : Prop := s.length ≤ m ∧ ∀ c ∈ s.cps.toList, c ∈ SG.cps.toList
theorem TxtOk.nil : TxtOk 0 ("" : Str) := ⟨by decide, fun c h => by
  have e : (("" : Str).cps.toList) = [] := by decide
  rw [e] at h; cases h⟩
theorem TxtOk.up {m m' : Nat} {s : Str} (g : TxtOk m s) (h : m ≤ m') : TxtOk m' s := ⟨Nat.le_trans g.1 h, g.2⟩
theorem TxtOk.add {m m' : Nat} {s s' : Str} (g : TxtOk m s) (g' : TxtOk m' s') : TxtOk (m + m') (s ++ s') := ⟨by rw [str_len]; exact Nat.add_le_add g.1 g'.1, fun c h => by
  rw [str_app] at h
  rcases List.mem_append.mp h with h | h
  · exact g.2 c h
  · exact g'.2 c h⟩
theorem TxtOk.one {c : Nat} (h : c ∈ SG.cps.toList) : TxtOk 1 ⟨#[c]⟩ := ⟨Nat.le_refl _, fun d hd => by
  rw [str_one', List.mem_singleton] at hd
  rw [hd]; exact h⟩
theorem TxtOk.cut {m : Nat} {s : Str} (g : TxtOk m s) (lo hi : Option Int) : TxtOk m (cutS s lo hi) := ⟨Nat.le_trans (cut_len s lo hi) g.1, fun c h => g.2 c (cut_mem h)⟩
section
variable {T T' : TT} {f : Str} {bx : Bool} {h : Boxes} {Q : RV → Boxes → Prop}
theorem signs_call (e : T.raw f = rawDef T' ⟨0, 1, b_signs⟩) (q : Q (.pd (.str SG)) h) : wp (T.call bx f []) Q h :=
  wp_call e (wp_def rfl (by
    simp only [wp_ret, wp_bnd, wp_some, wp_grd, wp_no, wp_dat_pd, wp_dat_fz,  ev, evs, evO, evI, evC, evTs, AI.ex, asgG, asgGs, getV, wp_exs, wp_exs_nil, goS_nx, goS_rt, goS_bk, goS_ct, turnE_nx, turnE_ct, turnE_bk, turnE_rt, endD_rt, endD_nx, back_pd, binS, isFz, cmpS, biS, dats, truth, isiS, allPd, isiD, rkOf, join_some, Option.map, List.map, List.length_cons, List.length_nil, List.getElem?_cons_zero, List.getElem?_cons_succ, List.set_cons_zero, List.set_cons_succ, startS, atI_pos, atI_cast, Int.toNat_natCast, wp_newL1, wp_newL2, wp_newT1, List.length_set, List.set_set, decide_eq_true_eq, decide_eq_false_iff_not, Bool.not_eq_true', true_and, and_true,  ixN_pos, Int.reduceLE, Int.reduceLT, Int.reduceToNat, Int.reduceAdd, Int.reduceSub, Int.reduceMul, Int.reduceMod, Int.reduceNeg, Int.reducePow, Nat.reduceAdd, Nat.reduceLT, Nat.reduceLeDiff, Nat.reduceSub, reduceIte, Int.reduceEq, List.isEmpty_nil, Bool.false_eq_true, Bool.true_eq_false, decide_true, decide_false, ge_iff_le, gt_iff_lt,  wp_eq_int, wp_eq_str, wp_eq_bool, List.length_map, List.replicate, List.cons_append, List.nil_append, Bool.not_false, Bool.not_true, Bool.and_true, Bool.true_and, Bool.and_self, Bool.and_false, Bool.false_and, Option.bind, bn_add, bn_sub, bn_mul, bn_div, bn_mod, bn_pow, bn_addS, bn_addT, bn_addL, cp_eq, cp_ne, cp_ltI, cp_leI, cp_gtI, cp_geI, cp_ltS, cp_leS, cp_gtS, cp_geS, cp_ltT, cp_gtT, cp_in, cp_nin, cp_is, cp_isn, ix_l, ix_t, ix_s, ixs_tp, ixs_pd, ixs_rf, ixs_fz, cel_d, cel_r, mkLst, clsOf, clOf_d, clOf_r, wp_reprB, revS, isi2S, Bool.or_false, Bool.or_true, Bool.false_or, Bool.true_or, bi_lenL, bi_lenT, bi_lenS, bi_listL, bi_listT, bi_tupL, bi_tupT, bi_intI, bi_intB, bi_strI, bi_strS, bi_abs, bi_max, bi_min, bi_all, bi_any, bi_sum, in_l, in_t, in_s, tr_b, tr_i, tr_n, tr_l, tr_t, so_l, so_t, so_s, so_f, io_t, ng_i, pt_i, ag_a, ag_s, rv_l, rv_t, ap_d, rk_l, rk_t, rk_s, rg_1, rg_2, sl_l, sl_t, sl_s, mt_ixS, wp_mkT0, wp_mkT1, wp_mkT2, wp_mkT3, wp_mkT4, wp_mkT5, wp_mkT6, wp_mkT7, wp_mkT8, b_signs]
    exact ⟨by decide, by rw [List.take_length]; exact q⟩))
end
end AI

set_option Elab.async false
set_option linter.all false
set_option maxRecDepth 100000
set_option maxHeartbeats 4000000
/-! AiDraws: what the laws draw. -/
namespace AI
open PySem L2
def b_text : List S := [.asg (.nm 1) (.call "_law_draw" [(.var 0), (.cst (.int 21000))]), .asg (.nm 2) (.bin .Mod (.bi .int [(.var 1)]) (.cst (.int 8))), .asg (.nm 3) (.cst (.str "")), .ite (.val (.cmp .Lt (.var 2) (.cst (.int 6)))) [.for_ (.nm 4) (.rng [(.idx (.lst [(.cst (.int 0)), (.cst (.int 1)), (.cst (.int 1)), (.cst (.int 1)), (.cst (.int 2)), (.cst (.int 3))]) (.var 2))]) [.asg (.nm 3) (.bin .Add (.var 3) (.idx (.cst (.str "abB' ")) (.bin .Mod (.bi .int [(.bin .FloorDiv (.var 1) (.idx (.lst [(.cst (.int 8)), (.cst (.int 40)), (.cst (.int 200))]) (.var 4)))]) (.cst (.int 5)))))], .ret (.var 3)] [], .for_ (.nm 4) (.rng [(.idx (.lst [(.cst (.int 20)), (.bin .FloorDiv (.var 1) (.cst (.int 1000)))]) (.bin .Sub (.var 2) (.cst (.int 6))))]) [.asg (.nm 3) (.bin .Add (.var 3) (.idx (.call "_law_signs" []) (.call "_law_draw" [(.var 0), (.cst (.int 94))])))], .ret (.var 3)]
theorem cast_add (B : Nat) (k : Nat) : B + k + 1 = B + (k + 1) := rfl
section
variable {T T' : TT} {f : Str} {bx : Bool} {h : Boxes} {Q : RV → Boxes → Prop}
theorem text_raw {T0 : TT} {B n : Nat} {b : Box} (ed : T'.raw "_law_draw" = rawDef T0 ⟨2, 4, b_draw⟩) (es : T'.raw "_law_signs" = rawDef T0 ⟨0, 1, b_signs⟩) (t : TapeB B b) (hb : h[n]? = some b) (hB : B + 21 ≤ 10 ^ 100)
    (q : ∀ s b', TapeB (B + 21) b' → TxtOk 20 s → Q (.pd (.str s)) (h.set n b')) : wp (rawDef T' ⟨1, 5, b_text⟩ [.rf n]) Q h := by
  have l := box_lt hb
  refine wp_def rfl ?_
  simp only [wp_ret, wp_bnd, wp_some, wp_grd, wp_no, wp_dat_pd, wp_dat_fz,  ev, evs, evO, evI, evC, evTs, AI.ex, asgG, asgGs, getV, wp_exs, wp_exs_nil, goS_nx, goS_rt, goS_bk, goS_ct, turnE_nx, turnE_ct, turnE_bk, turnE_rt, endD_rt, endD_nx, back_pd, binS, isFz, cmpS, biS, dats, truth, isiS, allPd, isiD, rkOf, join_some, Option.map, List.map, List.length_cons, List.length_nil, List.getElem?_cons_zero, List.getElem?_cons_succ, List.set_cons_zero, List.set_cons_succ, startS, atI_pos, atI_cast, Int.toNat_natCast, wp_newL1, wp_newL2, wp_newT1, List.length_set, List.set_set, decide_eq_true_eq, decide_eq_false_iff_not, Bool.not_eq_true', true_and, and_true,  ixN_pos, Int.reduceLE, Int.reduceLT, Int.reduceToNat, Int.reduceAdd, Int.reduceSub, Int.reduceMul, Int.reduceMod, Int.reduceNeg, Int.reducePow, Nat.reduceAdd, Nat.reduceLT, Nat.reduceLeDiff, Nat.reduceSub, reduceIte, Int.reduceEq, List.isEmpty_nil, Bool.false_eq_true, Bool.true_eq_false, decide_true, decide_false, ge_iff_le, gt_iff_lt,  wp_eq_int, wp_eq_str, wp_eq_bool, List.length_map, List.replicate, List.cons_append, List.nil_append, Bool.not_false, Bool.not_true, Bool.and_true, Bool.true_and, Bool.and_self, Bool.and_false, Bool.false_and, Option.bind, bn_add, bn_sub, bn_mul, bn_div, bn_mod, bn_pow, bn_addS, bn_addT, bn_addL, cp_eq, cp_ne, cp_ltI, cp_leI, cp_gtI, cp_geI, cp_ltS, cp_leS, cp_gtS, cp_geS, cp_ltT, cp_gtT, cp_in, cp_nin, cp_is, cp_isn, ix_l, ix_t, ix_s, ixs_tp, ixs_pd, ixs_rf, ixs_fz, cel_d, cel_r, mkLst, clsOf, clOf_d, clOf_r, wp_reprB, revS, isi2S, Bool.or_false, Bool.or_true, Bool.false_or, Bool.true_or, bi_lenL, bi_lenT, bi_lenS, bi_listL, bi_listT, bi_tupL, bi_tupT, bi_intI, bi_intB, bi_strI, bi_strS, bi_abs, bi_max, bi_min, bi_all, bi_any, bi_sum, in_l, in_t, in_s, tr_b, tr_i, tr_n, tr_l, tr_t, so_l, so_t, so_s, so_f, io_t, ng_i, pt_i, ag_a, ag_s, rv_l, rv_t, ap_d, rk_l, rk_t, rk_s, rg_1, rg_2, sl_l, sl_t, sl_s, mt_ixS, wp_mkT0, wp_mkT1, wp_mkT2, wp_mkT3, wp_mkT4, wp_mkT5, wp_mkT6, wp_mkT7, wp_mkT8, b_text]
  refine draw_call ed t hb (by omega) (by decide) fun v b1 t1 hv => ?_
  have v0 := hv.1
  have v1 : v < 21000 := hv.2
  simp only [wp_ret, wp_bnd, wp_some, wp_grd, wp_no, wp_dat_pd, wp_dat_fz,  ev, evs, evO, evI, evC, evTs, AI.ex, asgG, asgGs, getV, wp_exs, wp_exs_nil, goS_nx, goS_rt, goS_bk, goS_ct, turnE_nx, turnE_ct, turnE_bk, turnE_rt, endD_rt, endD_nx, back_pd, binS, isFz, cmpS, biS, dats, truth, isiS, allPd, isiD, rkOf, join_some, Option.map, List.map, List.length_cons, List.length_nil, List.getElem?_cons_zero, List.getElem?_cons_succ, List.set_cons_zero, List.set_cons_succ, startS, atI_pos, atI_cast, Int.toNat_natCast, wp_newL1, wp_newL2, wp_newT1, List.length_set, List.set_set, decide_eq_true_eq, decide_eq_false_iff_not, Bool.not_eq_true', true_and, and_true,  ixN_pos, Int.reduceLE, Int.reduceLT, Int.reduceToNat, Int.reduceAdd, Int.reduceSub, Int.reduceMul, Int.reduceMod, Int.reduceNeg, Int.reducePow, Nat.reduceAdd, Nat.reduceLT, Nat.reduceLeDiff, Nat.reduceSub, reduceIte, Int.reduceEq, List.isEmpty_nil, Bool.false_eq_true, Bool.true_eq_false, decide_true, decide_false, ge_iff_le, gt_iff_lt,  wp_eq_int, wp_eq_str, wp_eq_bool, List.length_map, List.replicate, List.cons_append, List.nil_append, Bool.not_false, Bool.not_true, Bool.and_true, Bool.true_and, Bool.and_self, Bool.and_false, Bool.false_and, Option.bind, bn_add, bn_sub, bn_mul, bn_div, bn_mod, bn_pow, bn_addS, bn_addT, bn_addL, cp_eq, cp_ne, cp_ltI, cp_leI, cp_gtI, cp_geI, cp_ltS, cp_leS, cp_gtS, cp_geS, cp_ltT, cp_gtT, cp_in, cp_nin, cp_is, cp_isn, ix_l, ix_t, ix_s, ixs_tp, ixs_pd, ixs_rf, ixs_fz, cel_d, cel_r, mkLst, clsOf, clOf_d, clOf_r, wp_reprB, revS, isi2S, Bool.or_false, Bool.or_true, Bool.false_or, Bool.true_or, bi_lenL, bi_lenT, bi_lenS, bi_listL, bi_listT, bi_tupL, bi_tupT, bi_intI, bi_intB, bi_strI, bi_strS, bi_abs, bi_max, bi_min, bi_all, bi_any, bi_sum, in_l, in_t, in_s, tr_b, tr_i, tr_n, tr_l, tr_t, so_l, so_t, so_s, so_f, io_t, ng_i, pt_i, ag_a, ag_s, rv_l, rv_t, ap_d, rk_l, rk_t, rk_s, rg_1, rg_2, sl_l, sl_t, sl_s, mt_ixS, wp_mkT0, wp_mkT1, wp_mkT2, wp_mkT3, wp_mkT4, wp_mkT5, wp_mkT6, wp_mkT7, wp_mkT8]
  have r := emod_rng v (show (0 : Int) < 8 by decide)
  refine wp_if (fun c0 => ?_) (fun c0 => ?_)
  · simp only [wp_ret, wp_bnd, wp_some, wp_grd, wp_no, wp_dat_pd, wp_dat_fz,  ev, evs, evO, evI, evC, evTs, AI.ex, asgG, asgGs, getV, wp_exs, wp_exs_nil, goS_nx, goS_rt, goS_bk, goS_ct, turnE_nx, turnE_ct, turnE_bk, turnE_rt, endD_rt, endD_nx, back_pd, binS, isFz, cmpS, biS, dats, truth, isiS, allPd, isiD, rkOf, join_some, Option.map, List.map, List.length_cons, List.length_nil, List.getElem?_cons_zero, List.getElem?_cons_succ, List.set_cons_zero, List.set_cons_succ, startS, atI_pos, atI_cast, Int.toNat_natCast, wp_newL1, wp_newL2, wp_newT1, List.length_set, List.set_set, decide_eq_true_eq, decide_eq_false_iff_not, Bool.not_eq_true', true_and, and_true,  ixN_pos, Int.reduceLE, Int.reduceLT, Int.reduceToNat, Int.reduceAdd, Int.reduceSub, Int.reduceMul, Int.reduceMod, Int.reduceNeg, Int.reducePow, Nat.reduceAdd, Nat.reduceLT, Nat.reduceLeDiff, Nat.reduceSub, reduceIte, Int.reduceEq, List.isEmpty_nil, Bool.false_eq_true, Bool.true_eq_false, decide_true, decide_false, ge_iff_le, gt_iff_lt,  wp_eq_int, wp_eq_str, wp_eq_bool, List.length_map, List.replicate, List.cons_append, List.nil_append, Bool.not_false, Bool.not_true, Bool.and_true, Bool.true_and, Bool.and_self, Bool.and_false, Bool.false_and, Option.bind, bn_add, bn_sub, bn_mul, bn_div, bn_mod, bn_pow, bn_addS, bn_addT, bn_addL, cp_eq, cp_ne, cp_ltI, cp_leI, cp_gtI, cp_geI, cp_ltS, cp_leS, cp_gtS, cp_geS, cp_ltT, cp_gtT, cp_in, cp_nin, cp_is, cp_isn, ix_l, ix_t, ix_s, ixs_tp, ixs_pd, ixs_rf, ixs_fz, cel_d, cel_r, mkLst, clsOf, clOf_d, clOf_r, wp_reprB, revS, isi2S, Bool.or_false, Bool.or_true, Bool.false_or, Bool.true_or, bi_lenL, bi_lenT, bi_lenS, bi_listL, bi_listT, bi_tupL, bi_tupT, bi_intI, bi_intB, bi_strI, bi_strS, bi_abs, bi_max, bi_min, bi_all, bi_any, bi_sum, in_l, in_t, in_s, tr_b, tr_i, tr_n, tr_l, tr_t, so_l, so_t, so_s, so_f, io_t, ng_i, pt_i, ag_a, ag_s, rv_l, rv_t, ap_d, rk_l, rk_t, rk_s, rg_1, rg_2, sl_l, sl_t, sl_s, mt_ixS, wp_mkT0, wp_mkT1, wp_mkT2, wp_mkT3, wp_mkT4, wp_mkT5, wp_mkT6, wp_mkT7, wp_mkT8]
    obtain ⟨m, em, hm⟩ : ∃ m : Nat, atI [PyData.int 0, PyData.int 1, PyData.int 1, PyData.int 1, PyData.int 2, PyData.int 3] (v % 8) = some (.int m) ∧ m ≤ 3 := by
      have : v % 8 = 0 ∨ v % 8 = 1 ∨ v % 8 = 2 ∨ v % 8 = 3 ∨ v % 8 = 4 ∨ v % 8 = 5 := by omega
      rcases this with e | e | e | e | e | e <;> rw [e]
      · exact ⟨0, rfl, by omega⟩
      · exact ⟨1, rfl, by omega⟩
      · exact ⟨1, rfl, by omega⟩
      · exact ⟨1, rfl, by omega⟩
      · exact ⟨2, rfl, by omega⟩
      · exact ⟨3, rfl, by omega⟩
    refine wp_at em ?_
    simp only [wp_ret, wp_bnd, wp_some, wp_grd, wp_no, wp_dat_pd, wp_dat_fz,  ev, evs, evO, evI, evC, evTs, AI.ex, asgG, asgGs, getV, wp_exs, wp_exs_nil, goS_nx, goS_rt, goS_bk, goS_ct, turnE_nx, turnE_ct, turnE_bk, turnE_rt, endD_rt, endD_nx, back_pd, binS, isFz, cmpS, biS, dats, truth, isiS, allPd, isiD, rkOf, join_some, Option.map, List.map, List.length_cons, List.length_nil, List.getElem?_cons_zero, List.getElem?_cons_succ, List.set_cons_zero, List.set_cons_succ, startS, atI_pos, atI_cast, Int.toNat_natCast, wp_newL1, wp_newL2, wp_newT1, List.length_set, List.set_set, decide_eq_true_eq, decide_eq_false_iff_not, Bool.not_eq_true', true_and, and_true,  ixN_pos, Int.reduceLE, Int.reduceLT, Int.reduceToNat, Int.reduceAdd, Int.reduceSub, Int.reduceMul, Int.reduceMod, Int.reduceNeg, Int.reducePow, Nat.reduceAdd, Nat.reduceLT, Nat.reduceLeDiff, Nat.reduceSub, reduceIte, Int.reduceEq, List.isEmpty_nil, Bool.false_eq_true, Bool.true_eq_false, decide_true, decide_false, ge_iff_le, gt_iff_lt,  wp_eq_int, wp_eq_str, wp_eq_bool, List.length_map, List.replicate, List.cons_append, List.nil_append, Bool.not_false, Bool.not_true, Bool.and_true, Bool.true_and, Bool.and_self, Bool.and_false, Bool.false_and, Option.bind, bn_add, bn_sub, bn_mul, bn_div, bn_mod, bn_pow, bn_addS, bn_addT, bn_addL, cp_eq, cp_ne, cp_ltI, cp_leI, cp_gtI, cp_geI, cp_ltS, cp_leS, cp_gtS, cp_geS, cp_ltT, cp_gtT, cp_in, cp_nin, cp_is, cp_isn, ix_l, ix_t, ix_s, ixs_tp, ixs_pd, ixs_rf, ixs_fz, cel_d, cel_r, mkLst, clsOf, clOf_d, clOf_r, wp_reprB, revS, isi2S, Bool.or_false, Bool.or_true, Bool.false_or, Bool.true_or, bi_lenL, bi_lenT, bi_lenS, bi_listL, bi_listT, bi_tupL, bi_tupT, bi_intI, bi_intB, bi_strI, bi_strS, bi_abs, bi_max, bi_min, bi_all, bi_any, bi_sum, in_l, in_t, in_s, tr_b, tr_i, tr_n, tr_l, tr_t, so_l, so_t, so_s, so_f, io_t, ng_i, pt_i, ag_a, ag_s, rv_l, rv_t, ap_d, rk_l, rk_t, rk_s, rg_1, rg_2, sl_l, sl_t, sl_s, mt_ixS, wp_mkT0, wp_mkT1, wp_mkT2, wp_mkT3, wp_mkT4, wp_mkT5, wp_mkT6, wp_mkT7, wp_mkT8]
    refine ⟨by omega, ?_⟩
    refine wp_rng (fun i σ h' => h' = h.set n b1 ∧ ∃ s y, σ = [some (.rf n), some (.pd (.int v)), some (.pd (.int (v % 8))), some (.pd (.str s)), y] ∧ TxtOk i s) ⟨rfl, _, _, rfl, TxtOk.nil⟩ ?_ ?_
    · rintro k hk σ h' ⟨rfl, s, y, rfl, g⟩
      simp only [wp_ret, wp_bnd, wp_some, wp_grd, wp_no, wp_dat_pd, wp_dat_fz,  ev, evs, evO, evI, evC, evTs, AI.ex, asgG, asgGs, getV, wp_exs, wp_exs_nil, goS_nx, goS_rt, goS_bk, goS_ct, turnE_nx, turnE_ct, turnE_bk, turnE_rt, endD_rt, endD_nx, back_pd, binS, isFz, cmpS, biS, dats, truth, isiS, allPd, isiD, rkOf, join_some, Option.map, List.map, List.length_cons, List.length_nil, List.getElem?_cons_zero, List.getElem?_cons_succ, List.set_cons_zero, List.set_cons_succ, startS, atI_pos, atI_cast, Int.toNat_natCast, wp_newL1, wp_newL2, wp_newT1, List.length_set, List.set_set, decide_eq_true_eq, decide_eq_false_iff_not, Bool.not_eq_true', true_and, and_true,  ixN_pos, Int.reduceLE, Int.reduceLT, Int.reduceToNat, Int.reduceAdd, Int.reduceSub, Int.reduceMul, Int.reduceMod, Int.reduceNeg, Int.reducePow, Nat.reduceAdd, Nat.reduceLT, Nat.reduceLeDiff, Nat.reduceSub, reduceIte, Int.reduceEq, List.isEmpty_nil, Bool.false_eq_true, Bool.true_eq_false, decide_true, decide_false, ge_iff_le, gt_iff_lt,  wp_eq_int, wp_eq_str, wp_eq_bool, List.length_map, List.replicate, List.cons_append, List.nil_append, Bool.not_false, Bool.not_true, Bool.and_true, Bool.true_and, Bool.and_self, Bool.and_false, Bool.false_and, Option.bind, bn_add, bn_sub, bn_mul, bn_div, bn_mod, bn_pow, bn_addS, bn_addT, bn_addL, cp_eq, cp_ne, cp_ltI, cp_leI, cp_gtI, cp_geI, cp_ltS, cp_leS, cp_gtS, cp_geS, cp_ltT, cp_gtT, cp_in, cp_nin, cp_is, cp_isn, ix_l, ix_t, ix_s, ixs_tp, ixs_pd, ixs_rf, ixs_fz, cel_d, cel_r, mkLst, clsOf, clOf_d, clOf_r, wp_reprB, revS, isi2S, Bool.or_false, Bool.or_true, Bool.false_or, Bool.true_or, bi_lenL, bi_lenT, bi_lenS, bi_listL, bi_listT, bi_tupL, bi_tupT, bi_intI, bi_intB, bi_strI, bi_strS, bi_abs, bi_max, bi_min, bi_all, bi_any, bi_sum, in_l, in_t, in_s, tr_b, tr_i, tr_n, tr_l, tr_t, so_l, so_t, so_s, so_f, io_t, ng_i, pt_i, ag_a, ag_s, rv_l, rv_t, ap_d, rk_l, rk_t, rk_s, rg_1, rg_2, sl_l, sl_t, sl_s, mt_ixS, wp_mkT0, wp_mkT1, wp_mkT2, wp_mkT3, wp_mkT4, wp_mkT5, wp_mkT6, wp_mkT7, wp_mkT8]
      obtain ⟨j, ej, hj0, hj1⟩ : ∃ j : Int, atI [PyData.int 8, PyData.int 40, PyData.int 200] (0 + (k : Int)) = some (.int j) ∧ 0 < j ∧ j < 2 ^ 400 := by
        have : k = 0 ∨ k = 1 ∨ k = 2 := by omega
        rcases this with rfl | rfl | rfl
        · exact ⟨8, rfl, by decide, by decide⟩
        · exact ⟨40, rfl, by decide, by decide⟩
        · exact ⟨200, rfl, by decide, by decide⟩
      refine wp_at ej ?_
      simp only [wp_ret, wp_bnd, wp_some, wp_grd, wp_no, wp_dat_pd, wp_dat_fz,  ev, evs, evO, evI, evC, evTs, AI.ex, asgG, asgGs, getV, wp_exs, wp_exs_nil, goS_nx, goS_rt, goS_bk, goS_ct, turnE_nx, turnE_ct, turnE_bk, turnE_rt, endD_rt, endD_nx, back_pd, binS, isFz, cmpS, biS, dats, truth, isiS, allPd, isiD, rkOf, join_some, Option.map, List.map, List.length_cons, List.length_nil, List.getElem?_cons_zero, List.getElem?_cons_succ, List.set_cons_zero, List.set_cons_succ, startS, atI_pos, atI_cast, Int.toNat_natCast, wp_newL1, wp_newL2, wp_newT1, List.length_set, List.set_set, decide_eq_true_eq, decide_eq_false_iff_not, Bool.not_eq_true', true_and, and_true,  ixN_pos, Int.reduceLE, Int.reduceLT, Int.reduceToNat, Int.reduceAdd, Int.reduceSub, Int.reduceMul, Int.reduceMod, Int.reduceNeg, Int.reducePow, Nat.reduceAdd, Nat.reduceLT, Nat.reduceLeDiff, Nat.reduceSub, reduceIte, Int.reduceEq, List.isEmpty_nil, Bool.false_eq_true, Bool.true_eq_false, decide_true, decide_false, ge_iff_le, gt_iff_lt,  wp_eq_int, wp_eq_str, wp_eq_bool, List.length_map, List.replicate, List.cons_append, List.nil_append, Bool.not_false, Bool.not_true, Bool.and_true, Bool.true_and, Bool.and_self, Bool.and_false, Bool.false_and, Option.bind, bn_add, bn_sub, bn_mul, bn_div, bn_mod, bn_pow, bn_addS, bn_addT, bn_addL, cp_eq, cp_ne, cp_ltI, cp_leI, cp_gtI, cp_geI, cp_ltS, cp_leS, cp_gtS, cp_geS, cp_ltT, cp_gtT, cp_in, cp_nin, cp_is, cp_isn, ix_l, ix_t, ix_s, ixs_tp, ixs_pd, ixs_rf, ixs_fz, cel_d, cel_r, mkLst, clsOf, clOf_d, clOf_r, wp_reprB, revS, isi2S, Bool.or_false, Bool.or_true, Bool.false_or, Bool.true_or, bi_lenL, bi_lenT, bi_lenS, bi_listL, bi_listT, bi_tupL, bi_tupT, bi_intI, bi_intB, bi_strI, bi_strS, bi_abs, bi_max, bi_min, bi_all, bi_any, bi_sum, in_l, in_t, in_s, tr_b, tr_i, tr_n, tr_l, tr_t, so_l, so_t, so_s, so_f, io_t, ng_i, pt_i, ag_a, ag_s, rv_l, rv_t, ap_d, rk_l, rk_t, rk_s, rg_1, rg_2, sl_l, sl_t, sl_s, mt_ixS, wp_mkT0, wp_mkT1, wp_mkT2, wp_mkT3, wp_mkT4, wp_mkT5, wp_mkT6, wp_mkT7, wp_mkT8]
      have r5 := emod_rng (v / j) (show (0 : Int) < 5 by decide)
      refine ⟨⟨hj0, Nat.lt_trans (log_le (by omega) hj1) (by decide)⟩, by decide, ?_⟩
      obtain ⟨c, ec, hc⟩ := str_at (z := "abB' ") r5.1 r5.2
      refine wp_at ec ?_
      simp only [wp_ret, wp_bnd, wp_some, wp_grd, wp_no, wp_dat_pd, wp_dat_fz,  ev, evs, evO, evI, evC, evTs, AI.ex, asgG, asgGs, getV, wp_exs, wp_exs_nil, goS_nx, goS_rt, goS_bk, goS_ct, turnE_nx, turnE_ct, turnE_bk, turnE_rt, endD_rt, endD_nx, back_pd, binS, isFz, cmpS, biS, dats, truth, isiS, allPd, isiD, rkOf, join_some, Option.map, List.map, List.length_cons, List.length_nil, List.getElem?_cons_zero, List.getElem?_cons_succ, List.set_cons_zero, List.set_cons_succ, startS, atI_pos, atI_cast, Int.toNat_natCast, wp_newL1, wp_newL2, wp_newT1, List.length_set, List.set_set, decide_eq_true_eq, decide_eq_false_iff_not, Bool.not_eq_true', true_and, and_true,  ixN_pos, Int.reduceLE, Int.reduceLT, Int.reduceToNat, Int.reduceAdd, Int.reduceSub, Int.reduceMul, Int.reduceMod, Int.reduceNeg, Int.reducePow, Nat.reduceAdd, Nat.reduceLT, Nat.reduceLeDiff, Nat.reduceSub, reduceIte, Int.reduceEq, List.isEmpty_nil, Bool.false_eq_true, Bool.true_eq_false, decide_true, decide_false, ge_iff_le, gt_iff_lt,  wp_eq_int, wp_eq_str, wp_eq_bool, List.length_map, List.replicate, List.cons_append, List.nil_append, Bool.not_false, Bool.not_true, Bool.and_true, Bool.true_and, Bool.and_self, Bool.and_false, Bool.false_and, Option.bind, bn_add, bn_sub, bn_mul, bn_div, bn_mod, bn_pow, bn_addS, bn_addT, bn_addL, cp_eq, cp_ne, cp_ltI, cp_leI, cp_gtI, cp_geI, cp_ltS, cp_leS, cp_gtS, cp_geS, cp_ltT, cp_gtT, cp_in, cp_nin, cp_is, cp_isn, ix_l, ix_t, ix_s, ixs_tp, ixs_pd, ixs_rf, ixs_fz, cel_d, cel_r, mkLst, clsOf, clOf_d, clOf_r, wp_reprB, revS, isi2S, Bool.or_false, Bool.or_true, Bool.false_or, Bool.true_or, bi_lenL, bi_lenT, bi_lenS, bi_listL, bi_listT, bi_tupL, bi_tupT, bi_intI, bi_intB, bi_strI, bi_strS, bi_abs, bi_max, bi_min, bi_all, bi_any, bi_sum, in_l, in_t, in_s, tr_b, tr_i, tr_n, tr_l, tr_t, so_l, so_t, so_s, so_f, io_t, ng_i, pt_i, ag_a, ag_s, rv_l, rv_t, ap_d, rk_l, rk_t, rk_s, rg_1, rg_2, sl_l, sl_t, sl_s, mt_ixS, wp_mkT0, wp_mkT1, wp_mkT2, wp_mkT3, wp_mkT4, wp_mkT5, wp_mkT6, wp_mkT7, wp_mkT8]
      have gc : TxtOk 1 ⟨#[c]⟩ := TxtOk.one ((by decide +kernel : ∀ c ∈ ("abB' " : Str).cps.toList, c ∈ SG.cps.toList) c hc)
      refine ⟨?_, _, _, rfl, g.add gc⟩
      have := g.1
      show s.length + 1 ≤ sizeLine
      exact Nat.le_trans (by omega : _ ≤ 1000) (by decide)
    · rintro σ h' ⟨rfl, s, y, rfl, g⟩
      simp only [wp_ret, wp_bnd, wp_some, wp_grd, wp_no, wp_dat_pd, wp_dat_fz,  ev, evs, evO, evI, evC, evTs, AI.ex, asgG, asgGs, getV, wp_exs, wp_exs_nil, goS_nx, goS_rt, goS_bk, goS_ct, turnE_nx, turnE_ct, turnE_bk, turnE_rt, endD_rt, endD_nx, back_pd, binS, isFz, cmpS, biS, dats, truth, isiS, allPd, isiD, rkOf, join_some, Option.map, List.map, List.length_cons, List.length_nil, List.getElem?_cons_zero, List.getElem?_cons_succ, List.set_cons_zero, List.set_cons_succ, startS, atI_pos, atI_cast, Int.toNat_natCast, wp_newL1, wp_newL2, wp_newT1, List.length_set, List.set_set, decide_eq_true_eq, decide_eq_false_iff_not, Bool.not_eq_true', true_and, and_true,  ixN_pos, Int.reduceLE, Int.reduceLT, Int.reduceToNat, Int.reduceAdd, Int.reduceSub, Int.reduceMul, Int.reduceMod, Int.reduceNeg, Int.reducePow, Nat.reduceAdd, Nat.reduceLT, Nat.reduceLeDiff, Nat.reduceSub, reduceIte, Int.reduceEq, List.isEmpty_nil, Bool.false_eq_true, Bool.true_eq_false, decide_true, decide_false, ge_iff_le, gt_iff_lt,  wp_eq_int, wp_eq_str, wp_eq_bool, List.length_map, List.replicate, List.cons_append, List.nil_append, Bool.not_false, Bool.not_true, Bool.and_true, Bool.true_and, Bool.and_self, Bool.and_false, Bool.false_and, Option.bind, bn_add, bn_sub, bn_mul, bn_div, bn_mod, bn_pow, bn_addS, bn_addT, bn_addL, cp_eq, cp_ne, cp_ltI, cp_leI, cp_gtI, cp_geI, cp_ltS, cp_leS, cp_gtS, cp_geS, cp_ltT, cp_gtT, cp_in, cp_nin, cp_is, cp_isn, ix_l, ix_t, ix_s, ixs_tp, ixs_pd, ixs_rf, ixs_fz, cel_d, cel_r, mkLst, clsOf, clOf_d, clOf_r, wp_reprB, revS, isi2S, Bool.or_false, Bool.or_true, Bool.false_or, Bool.true_or, bi_lenL, bi_lenT, bi_lenS, bi_listL, bi_listT, bi_tupL, bi_tupT, bi_intI, bi_intB, bi_strI, bi_strS, bi_abs, bi_max, bi_min, bi_all, bi_any, bi_sum, in_l, in_t, in_s, tr_b, tr_i, tr_n, tr_l, tr_t, so_l, so_t, so_s, so_f, io_t, ng_i, pt_i, ag_a, ag_s, rv_l, rv_t, ap_d, rk_l, rk_t, rk_s, rg_1, rg_2, sl_l, sl_t, sl_s, mt_ixS, wp_mkT0, wp_mkT1, wp_mkT2, wp_mkT3, wp_mkT4, wp_mkT5, wp_mkT6, wp_mkT7, wp_mkT8]
      exact q s b1 (t1.up (by omega)) (g.up (by omega))
  · simp only [wp_ret, wp_bnd, wp_some, wp_grd, wp_no, wp_dat_pd, wp_dat_fz,  ev, evs, evO, evI, evC, evTs, AI.ex, asgG, asgGs, getV, wp_exs, wp_exs_nil, goS_nx, goS_rt, goS_bk, goS_ct, turnE_nx, turnE_ct, turnE_bk, turnE_rt, endD_rt, endD_nx, back_pd, binS, isFz, cmpS, biS, dats, truth, isiS, allPd, isiD, rkOf, join_some, Option.map, List.map, List.length_cons, List.length_nil, List.getElem?_cons_zero, List.getElem?_cons_succ, List.set_cons_zero, List.set_cons_succ, startS, atI_pos, atI_cast, Int.toNat_natCast, wp_newL1, wp_newL2, wp_newT1, List.length_set, List.set_set, decide_eq_true_eq, decide_eq_false_iff_not, Bool.not_eq_true', true_and, and_true,  ixN_pos, Int.reduceLE, Int.reduceLT, Int.reduceToNat, Int.reduceAdd, Int.reduceSub, Int.reduceMul, Int.reduceMod, Int.reduceNeg, Int.reducePow, Nat.reduceAdd, Nat.reduceLT, Nat.reduceLeDiff, Nat.reduceSub, reduceIte, Int.reduceEq, List.isEmpty_nil, Bool.false_eq_true, Bool.true_eq_false, decide_true, decide_false, ge_iff_le, gt_iff_lt,  wp_eq_int, wp_eq_str, wp_eq_bool, List.length_map, List.replicate, List.cons_append, List.nil_append, Bool.not_false, Bool.not_true, Bool.and_true, Bool.true_and, Bool.and_self, Bool.and_false, Bool.false_and, Option.bind, bn_add, bn_sub, bn_mul, bn_div, bn_mod, bn_pow, bn_addS, bn_addT, bn_addL, cp_eq, cp_ne, cp_ltI, cp_leI, cp_gtI, cp_geI, cp_ltS, cp_leS, cp_gtS, cp_geS, cp_ltT, cp_gtT, cp_in, cp_nin, cp_is, cp_isn, ix_l, ix_t, ix_s, ixs_tp, ixs_pd, ixs_rf, ixs_fz, cel_d, cel_r, mkLst, clsOf, clOf_d, clOf_r, wp_reprB, revS, isi2S, Bool.or_false, Bool.or_true, Bool.false_or, Bool.true_or, bi_lenL, bi_lenT, bi_lenS, bi_listL, bi_listT, bi_tupL, bi_tupT, bi_intI, bi_intB, bi_strI, bi_strS, bi_abs, bi_max, bi_min, bi_all, bi_any, bi_sum, in_l, in_t, in_s, tr_b, tr_i, tr_n, tr_l, tr_t, so_l, so_t, so_s, so_f, io_t, ng_i, pt_i, ag_a, ag_s, rv_l, rv_t, ap_d, rk_l, rk_t, rk_s, rg_1, rg_2, sl_l, sl_t, sl_s, mt_ixS, wp_mkT0, wp_mkT1, wp_mkT2, wp_mkT3, wp_mkT4, wp_mkT5, wp_mkT6, wp_mkT7, wp_mkT8]
    refine ⟨by decide, ?_⟩
    obtain ⟨m, em, hm⟩ : ∃ m : Nat, atI [PyData.int 20, PyData.int (v / 1000)] (v % 8 - 6) = some (.int m) ∧ m ≤ 20 := by
      have : v % 8 = 6 ∨ v % 8 = 7 := by omega
      rcases this with e | e <;> rw [e]
      · exact ⟨20, rfl, by omega⟩
      · exact ⟨(v / 1000).toNat, by rw [Int.toNat_of_nonneg (by omega)]; rfl, by omega⟩
    refine wp_at em ?_
    simp only [wp_ret, wp_bnd, wp_some, wp_grd, wp_no, wp_dat_pd, wp_dat_fz,  ev, evs, evO, evI, evC, evTs, AI.ex, asgG, asgGs, getV, wp_exs, wp_exs_nil, goS_nx, goS_rt, goS_bk, goS_ct, turnE_nx, turnE_ct, turnE_bk, turnE_rt, endD_rt, endD_nx, back_pd, binS, isFz, cmpS, biS, dats, truth, isiS, allPd, isiD, rkOf, join_some, Option.map, List.map, List.length_cons, List.length_nil, List.getElem?_cons_zero, List.getElem?_cons_succ, List.set_cons_zero, List.set_cons_succ, startS, atI_pos, atI_cast, Int.toNat_natCast, wp_newL1, wp_newL2, wp_newT1, List.length_set, List.set_set, decide_eq_true_eq, decide_eq_false_iff_not, Bool.not_eq_true', true_and, and_true,  ixN_pos, Int.reduceLE, Int.reduceLT, Int.reduceToNat, Int.reduceAdd, Int.reduceSub, Int.reduceMul, Int.reduceMod, Int.reduceNeg, Int.reducePow, Nat.reduceAdd, Nat.reduceLT, Nat.reduceLeDiff, Nat.reduceSub, reduceIte, Int.reduceEq, List.isEmpty_nil, Bool.false_eq_true, Bool.true_eq_false, decide_true, decide_false, ge_iff_le, gt_iff_lt,  wp_eq_int, wp_eq_str, wp_eq_bool, List.length_map, List.replicate, List.cons_append, List.nil_append, Bool.not_false, Bool.not_true, Bool.and_true, Bool.true_and, Bool.and_self, Bool.and_false, Bool.false_and, Option.bind, bn_add, bn_sub, bn_mul, bn_div, bn_mod, bn_pow, bn_addS, bn_addT, bn_addL, cp_eq, cp_ne, cp_ltI, cp_leI, cp_gtI, cp_geI, cp_ltS, cp_leS, cp_gtS, cp_geS, cp_ltT, cp_gtT, cp_in, cp_nin, cp_is, cp_isn, ix_l, ix_t, ix_s, ixs_tp, ixs_pd, ixs_rf, ixs_fz, cel_d, cel_r, mkLst, clsOf, clOf_d, clOf_r, wp_reprB, revS, isi2S, Bool.or_false, Bool.or_true, Bool.false_or, Bool.true_or, bi_lenL, bi_lenT, bi_lenS, bi_listL, bi_listT, bi_tupL, bi_tupT, bi_intI, bi_intB, bi_strI, bi_strS, bi_abs, bi_max, bi_min, bi_all, bi_any, bi_sum, in_l, in_t, in_s, tr_b, tr_i, tr_n, tr_l, tr_t, so_l, so_t, so_s, so_f, io_t, ng_i, pt_i, ag_a, ag_s, rv_l, rv_t, ap_d, rk_l, rk_t, rk_s, rg_1, rg_2, sl_l, sl_t, sl_s, mt_ixS, wp_mkT0, wp_mkT1, wp_mkT2, wp_mkT3, wp_mkT4, wp_mkT5, wp_mkT6, wp_mkT7, wp_mkT8]
    refine ⟨by omega, ?_⟩
    refine wp_rng (fun i σ h' => ∃ b2 s y, h' = h.set n b2 ∧ TapeB (B + 1 + i) b2 ∧ σ = [some (.rf n), some (.pd (.int v)), some (.pd (.int (v % 8))), some (.pd (.str s)), y] ∧ TxtOk i s) ⟨b1, _, _, rfl, t1, rfl, TxtOk.nil⟩ ?_ ?_
    · rintro k hk σ h' ⟨b2, s, y, rfl, t2, rfl, g⟩
      simp only [wp_ret, wp_bnd, wp_some, wp_grd, wp_no, wp_dat_pd, wp_dat_fz,  ev, evs, evO, evI, evC, evTs, AI.ex, asgG, asgGs, getV, wp_exs, wp_exs_nil, goS_nx, goS_rt, goS_bk, goS_ct, turnE_nx, turnE_ct, turnE_bk, turnE_rt, endD_rt, endD_nx, back_pd, binS, isFz, cmpS, biS, dats, truth, isiS, allPd, isiD, rkOf, join_some, Option.map, List.map, List.length_cons, List.length_nil, List.getElem?_cons_zero, List.getElem?_cons_succ, List.set_cons_zero, List.set_cons_succ, startS, atI_pos, atI_cast, Int.toNat_natCast, wp_newL1, wp_newL2, wp_newT1, List.length_set, List.set_set, decide_eq_true_eq, decide_eq_false_iff_not, Bool.not_eq_true', true_and, and_true,  ixN_pos, Int.reduceLE, Int.reduceLT, Int.reduceToNat, Int.reduceAdd, Int.reduceSub, Int.reduceMul, Int.reduceMod, Int.reduceNeg, Int.reducePow, Nat.reduceAdd, Nat.reduceLT, Nat.reduceLeDiff, Nat.reduceSub, reduceIte, Int.reduceEq, List.isEmpty_nil, Bool.false_eq_true, Bool.true_eq_false, decide_true, decide_false, ge_iff_le, gt_iff_lt,  wp_eq_int, wp_eq_str, wp_eq_bool, List.length_map, List.replicate, List.cons_append, List.nil_append, Bool.not_false, Bool.not_true, Bool.and_true, Bool.true_and, Bool.and_self, Bool.and_false, Bool.false_and, Option.bind, bn_add, bn_sub, bn_mul, bn_div, bn_mod, bn_pow, bn_addS, bn_addT, bn_addL, cp_eq, cp_ne, cp_ltI, cp_leI, cp_gtI, cp_geI, cp_ltS, cp_leS, cp_gtS, cp_geS, cp_ltT, cp_gtT, cp_in, cp_nin, cp_is, cp_isn, ix_l, ix_t, ix_s, ixs_tp, ixs_pd, ixs_rf, ixs_fz, cel_d, cel_r, mkLst, clsOf, clOf_d, clOf_r, wp_reprB, revS, isi2S, Bool.or_false, Bool.or_true, Bool.false_or, Bool.true_or, bi_lenL, bi_lenT, bi_lenS, bi_listL, bi_listT, bi_tupL, bi_tupT, bi_intI, bi_intB, bi_strI, bi_strS, bi_abs, bi_max, bi_min, bi_all, bi_any, bi_sum, in_l, in_t, in_s, tr_b, tr_i, tr_n, tr_l, tr_t, so_l, so_t, so_s, so_f, io_t, ng_i, pt_i, ag_a, ag_s, rv_l, rv_t, ap_d, rk_l, rk_t, rk_s, rg_1, rg_2, sl_l, sl_t, sl_s, mt_ixS, wp_mkT0, wp_mkT1, wp_mkT2, wp_mkT3, wp_mkT4, wp_mkT5, wp_mkT6, wp_mkT7, wp_mkT8]
      refine signs_call es ?_
      refine draw_call ed t2 (List.getElem?_set_self l) (by omega) (by decide) fun w b3 t3 hw => ?_
      simp only [wp_ret, wp_bnd, wp_some, wp_grd, wp_no, wp_dat_pd, wp_dat_fz,  ev, evs, evO, evI, evC, evTs, AI.ex, asgG, asgGs, getV, wp_exs, wp_exs_nil, goS_nx, goS_rt, goS_bk, goS_ct, turnE_nx, turnE_ct, turnE_bk, turnE_rt, endD_rt, endD_nx, back_pd, binS, isFz, cmpS, biS, dats, truth, isiS, allPd, isiD, rkOf, join_some, Option.map, List.map, List.length_cons, List.length_nil, List.getElem?_cons_zero, List.getElem?_cons_succ, List.set_cons_zero, List.set_cons_succ, startS, atI_pos, atI_cast, Int.toNat_natCast, wp_newL1, wp_newL2, wp_newT1, List.length_set, List.set_set, decide_eq_true_eq, decide_eq_false_iff_not, Bool.not_eq_true', true_and, and_true,  ixN_pos, Int.reduceLE, Int.reduceLT, Int.reduceToNat, Int.reduceAdd, Int.reduceSub, Int.reduceMul, Int.reduceMod, Int.reduceNeg, Int.reducePow, Nat.reduceAdd, Nat.reduceLT, Nat.reduceLeDiff, Nat.reduceSub, reduceIte, Int.reduceEq, List.isEmpty_nil, Bool.false_eq_true, Bool.true_eq_false, decide_true, decide_false, ge_iff_le, gt_iff_lt,  wp_eq_int, wp_eq_str, wp_eq_bool, List.length_map, List.replicate, List.cons_append, List.nil_append, Bool.not_false, Bool.not_true, Bool.and_true, Bool.true_and, Bool.and_self, Bool.and_false, Bool.false_and, Option.bind, bn_add, bn_sub, bn_mul, bn_div, bn_mod, bn_pow, bn_addS, bn_addT, bn_addL, cp_eq, cp_ne, cp_ltI, cp_leI, cp_gtI, cp_geI, cp_ltS, cp_leS, cp_gtS, cp_geS, cp_ltT, cp_gtT, cp_in, cp_nin, cp_is, cp_isn, ix_l, ix_t, ix_s, ixs_tp, ixs_pd, ixs_rf, ixs_fz, cel_d, cel_r, mkLst, clsOf, clOf_d, clOf_r, wp_reprB, revS, isi2S, Bool.or_false, Bool.or_true, Bool.false_or, Bool.true_or, bi_lenL, bi_lenT, bi_lenS, bi_listL, bi_listT, bi_tupL, bi_tupT, bi_intI, bi_intB, bi_strI, bi_strS, bi_abs, bi_max, bi_min, bi_all, bi_any, bi_sum, in_l, in_t, in_s, tr_b, tr_i, tr_n, tr_l, tr_t, so_l, so_t, so_s, so_f, io_t, ng_i, pt_i, ag_a, ag_s, rv_l, rv_t, ap_d, rk_l, rk_t, rk_s, rg_1, rg_2, sl_l, sl_t, sl_s, mt_ixS, wp_mkT0, wp_mkT1, wp_mkT2, wp_mkT3, wp_mkT4, wp_mkT5, wp_mkT6, wp_mkT7, wp_mkT8]
      have w0 := hw.1
      have w1 : w < 94 := hw.2
      obtain ⟨c, ec, hc⟩ := str_at (z := SG) w0 (by rw [SG_len]; exact w1)
      refine ⟨by decide +kernel, wp_at ec ?_⟩
      refine ⟨?_, _, _, _, rfl, t3, rfl, g.add (TxtOk.one hc)⟩
      have := g.1
      show s.length + 1 ≤ sizeLine
      exact Nat.le_trans (by omega : _ ≤ 1000) (by decide)
    · rintro σ h' ⟨b2, s, y, rfl, t2, rfl, g⟩
      simp only [wp_ret, wp_bnd, wp_some, wp_grd, wp_no, wp_dat_pd, wp_dat_fz,  ev, evs, evO, evI, evC, evTs, AI.ex, asgG, asgGs, getV, wp_exs, wp_exs_nil, goS_nx, goS_rt, goS_bk, goS_ct, turnE_nx, turnE_ct, turnE_bk, turnE_rt, endD_rt, endD_nx, back_pd, binS, isFz, cmpS, biS, dats, truth, isiS, allPd, isiD, rkOf, join_some, Option.map, List.map, List.length_cons, List.length_nil, List.getElem?_cons_zero, List.getElem?_cons_succ, List.set_cons_zero, List.set_cons_succ, startS, atI_pos, atI_cast, Int.toNat_natCast, wp_newL1, wp_newL2, wp_newT1, List.length_set, List.set_set, decide_eq_true_eq, decide_eq_false_iff_not, Bool.not_eq_true', true_and, and_true,  ixN_pos, Int.reduceLE, Int.reduceLT, Int.reduceToNat, Int.reduceAdd, Int.reduceSub, Int.reduceMul, Int.reduceMod, Int.reduceNeg, Int.reducePow, Nat.reduceAdd, Nat.reduceLT, Nat.reduceLeDiff, Nat.reduceSub, reduceIte, Int.reduceEq, List.isEmpty_nil, Bool.false_eq_true, Bool.true_eq_false, decide_true, decide_false, ge_iff_le, gt_iff_lt,  wp_eq_int, wp_eq_str, wp_eq_bool, List.length_map, List.replicate, List.cons_append, List.nil_append, Bool.not_false, Bool.not_true, Bool.and_true, Bool.true_and, Bool.and_self, Bool.and_false, Bool.false_and, Option.bind, bn_add, bn_sub, bn_mul, bn_div, bn_mod, bn_pow, bn_addS, bn_addT, bn_addL, cp_eq, cp_ne, cp_ltI, cp_leI, cp_gtI, cp_geI, cp_ltS, cp_leS, cp_gtS, cp_geS, cp_ltT, cp_gtT, cp_in, cp_nin, cp_is, cp_isn, ix_l, ix_t, ix_s, ixs_tp, ixs_pd, ixs_rf, ixs_fz, cel_d, cel_r, mkLst, clsOf, clOf_d, clOf_r, wp_reprB, revS, isi2S, Bool.or_false, Bool.or_true, Bool.false_or, Bool.true_or, bi_lenL, bi_lenT, bi_lenS, bi_listL, bi_listT, bi_tupL, bi_tupT, bi_intI, bi_intB, bi_strI, bi_strS, bi_abs, bi_max, bi_min, bi_all, bi_any, bi_sum, in_l, in_t, in_s, tr_b, tr_i, tr_n, tr_l, tr_t, so_l, so_t, so_s, so_f, io_t, ng_i, pt_i, ag_a, ag_s, rv_l, rv_t, ap_d, rk_l, rk_t, rk_s, rg_1, rg_2, sl_l, sl_t, sl_s, mt_ixS, wp_mkT0, wp_mkT1, wp_mkT2, wp_mkT3, wp_mkT4, wp_mkT5, wp_mkT6, wp_mkT7, wp_mkT8]
      exact q s b2 (t2.up (by omega)) (g.up (by omega))
theorem text_call {T0 : TT} {B n : Nat} {b : Box} (e : T.raw f = rawDef T' ⟨1, 5, b_text⟩) (ed : T'.raw "_law_draw" = rawDef T0 ⟨2, 4, b_draw⟩) (es : T'.raw "_law_signs" = rawDef T0 ⟨0, 1, b_signs⟩) (t : TapeB B b) (hb : h[n]? = some b) (hB : B + 21 ≤ 10 ^ 100)
    (q : ∀ s b', TapeB (B + 21) b' → TxtOk 20 s → Q (.pd (.str s)) (h.set n b')) : wp (T.call bx f [.rf n]) Q h :=
  wp_call e (text_raw ed es t hb hB fun s b' t' g => by rw [back_pd, List.take_of_length_le (by simp)]; exact q s b' t' g)
end
end AI

set_option Elab.async false
set_option linter.all false
set_option maxRecDepth 100000
set_option maxHeartbeats 4000000
/-! AiTape2: the laws' tape of numbers, its cells a list of its own. -/
namespace AI
open PySem L2
def b_tape2 : List S := [.asg (.nm 1) (.cst (.int 7)), .for_ (.nm 2) (.val (.var 0)) [.asg (.nm 1) (.bin .Mod (.bi .int [(.bin .Add (.bin .Mult (.var 1) (.cst (.int 31))) (.bi .abs [(.bi .int [(.var 2)])]))]) (.cst (.int 2147483647)))], .ret (.bx (.lst [(.bx (.bi .list [(.var 0)])), (.cst (.int 0)), (.cst (.int 0)), (.var 1)]))]
def b_draw2 : List S := [.ite (.val (.cmp .Eq (.idx (.var 0) (.cst (.int 2))) (.cst (.int 0)))) [.asg (.nm 2) (.bx (.idx (.var 0) (.cst (.int 0)))), .asg (.nm 3) (.idx (.var 0) (.cst (.int 1))), .ite (.val (.cmp .Eq (.var 3) (.bi .len [(.var 2)]))) [.asg (.sub (.var 0) (.cst (.int 3))) (.bin .Mod (.bi .int [(.bin .Add (.bin .Add (.bin .Mult (.idx (.var 0) (.cst (.int 3))) (.cst (.int 48271))) (.var 3)) (.cst (.int 1)))]) (.cst (.int 2147483647))), .expr (.meth .append (.var 2) [(.idx (.var 0) (.cst (.int 3)))])] [], .asg (.sub (.var 0) (.cst (.int 1))) (.bin .Add (.var 3) (.cst (.int 1))), .asg (.nm 4) (.bi .abs [(.bi .int [(.idx (.var 2) (.var 3))])]), .ite (.val (.cmp .Lt (.var 4) (.bin .Pow (.cst (.int 10)) (.cst (.int 18))))) [.asg (.nm 4) (.bin .Mod (.bi .int [(.bin .Add (.bin .Add (.bin .Mult (.var 4) (.cst (.int 48271))) (.bin .Mult (.var 3) (.cst (.int 69621)))) (.cst (.int 5)))]) (.cst (.int 2147483647))), .asg (.nm 4) (.bin .Mod (.bi .int [(.bin .Mult (.var 4) (.cst (.int 69621)))]) (.cst (.int 2147483629))), .ret (.bin .Mod (.bi .int [(.var 4)]) (.bi .max [(.var 1), (.cst (.int 1))]))] [], .asg (.sub (.var 0) (.cst (.int 2))) (.var 4)] [], .asg (.nm 4) (.idx (.var 0) (.cst (.int 2))), .asg (.sub (.var 0) (.cst (.int 2))) (.bin .FloorDiv (.var 4) (.bi .max [(.var 1), (.cst (.int 2))])), .ret (.bin .Mod (.bi .int [(.var 4)]) (.bi .max [(.var 1), (.cst (.int 1))]))]
/-- the tape's two boxes (0: the cells, 1: the tape): at most B numbers were drawn -/
structure Tp (B : Nat) (c b : Box) : Prop where
  ex : ∃ (xs : List Int) (a : Nat) (e t : Int), c = .lst (xs.map .int) ∧ b = .mix [.r 0, .d (.int a), .d (.int e), .d (.int t)] ∧ a ≤ xs.length ∧ xs.length ≤ 63 + B ∧ 0 ≤ e ∧ 0 ≤ t ∧ t < 2147483647
theorem Tp.up {B B' : Nat} {c b : Box} (t : Tp B c b) (h : B ≤ B') : Tp B' c b := by
  obtain ⟨xs, a, e, u, e1, e2, e3, e4, e5⟩ := t.ex
  exact ⟨xs, a, e, u, e1, e2, e3, Nat.le_trans e4 (by omega), e5⟩
theorem draw2_raw {T : TT} {B : Nat} {c b : Box} {hs : Boxes} {many : Int} (t : Tp B c b) (hB : B ≤ 16000000) (hm : many < 2 ^ 1000) {Q : RV → Boxes → Prop} (q : ∀ v c' b', Tp (B + 1) c' b' → Drawn many v → Q (.pd (.int v)) (c' :: b' :: hs)) : wp (rawDef T ⟨2, 5, b_draw2⟩ [.rf 1, .pd (.int many)]) Q (c :: b :: hs) := by
  obtain ⟨xs, a, e, u, rfl, rfl, ha, hx, he, hu0, hu1⟩ := t.ex
  refine wp_def rfl ?_
  have pos := max_pos many
  have two := max_two many
  have lg : (if many < 2 then 2 else many).natAbs.log2 < 9000 := by
    have : (if many < 2 then 2 else many) < 2 ^ 1000 := by split <;> first | assumption | decide
    exact Nat.lt_trans (log_le (by omega) this) (by decide)
  have ha4 : (a : Int) < 2 ^ 400 := Int.lt_trans (show (a : Int) < 17000000 by omega) (by decide)
  have hsl := sizeLine_eq
  simp only [wp_ret, wp_bnd, wp_some, wp_grd, wp_no, wp_dat_pd, wp_dat_fz,  ev, evs, evO, evI, evC, evTs, AI.ex, asgG, asgGs, getV, wp_exs, wp_exs_nil, goS_nx, goS_rt, goS_bk, goS_ct, turnE_nx, turnE_ct, turnE_bk, turnE_rt, endD_rt, endD_nx, back_pd, binS, isFz, cmpS, biS, dats, truth, isiS, allPd, isiD, rkOf, join_some, Option.map, List.map, List.length_cons, List.length_nil, List.getElem?_cons_zero, List.getElem?_cons_succ, List.set_cons_zero, List.set_cons_succ, startS, atI_pos, atI_cast, Int.toNat_natCast, wp_newL1, wp_newL2, wp_newT1, List.length_set, List.set_set, decide_eq_true_eq, decide_eq_false_iff_not, Bool.not_eq_true', true_and, and_true,  ixN_pos, Int.reduceLE, Int.reduceLT, Int.reduceToNat, Int.reduceAdd, Int.reduceSub, Int.reduceMul, Int.reduceMod, Int.reduceNeg, Int.reducePow, Nat.reduceAdd, Nat.reduceLT, Nat.reduceLeDiff, Nat.reduceSub, reduceIte, Int.reduceEq, List.isEmpty_nil, Bool.false_eq_true, Bool.true_eq_false, decide_true, decide_false, ge_iff_le, gt_iff_lt,  wp_eq_int, wp_eq_str, wp_eq_bool, List.length_map, List.replicate, List.cons_append, List.nil_append, Bool.not_false, Bool.not_true, Bool.and_true, Bool.true_and, Bool.and_self, Bool.and_false, Bool.false_and, Option.bind, bn_add, bn_sub, bn_mul, bn_div, bn_mod, bn_pow, bn_addS, bn_addT, bn_addL, cp_eq, cp_ne, cp_ltI, cp_leI, cp_gtI, cp_geI, cp_ltS, cp_leS, cp_gtS, cp_geS, cp_ltT, cp_gtT, cp_in, cp_nin, cp_is, cp_isn, ix_l, ix_t, ix_s, ixs_tp, ixs_pd, ixs_rf, ixs_fz, cel_d, cel_r, mkLst, clsOf, clOf_d, clOf_r, wp_reprB, revS, isi2S, Bool.or_false, Bool.or_true, Bool.false_or, Bool.true_or, bi_lenL, bi_lenT, bi_lenS, bi_listL, bi_listT, bi_tupL, bi_tupT, bi_intI, bi_intB, bi_strI, bi_strS, bi_abs, bi_max, bi_min, bi_all, bi_any, bi_sum, in_l, in_t, in_s, tr_b, tr_i, tr_n, tr_l, tr_t, so_l, so_t, so_s, so_f, io_t, ng_i, pt_i, ag_a, ag_s, rv_l, rv_t, ap_d, rk_l, rk_t, rk_s, rg_1, rg_2, sl_l, sl_t, sl_s, mt_ixS, wp_mkT0, wp_mkT1, wp_mkT2, wp_mkT3, wp_mkT4, wp_mkT5, wp_mkT6, wp_mkT7, wp_mkT8, wp_datR, wp_idxR, wp_setR, wp_appR, set_last, get_last, le_line, lt_line, wp_newM, lg9, meth_words, wp_mkTR, not_true_eq_false, not_false_eq_true, eq_self, ofString_inj, String.reduceEq, wipeS, wp_inS, false_and, and_false, b_draw2]
  refine wp_if (fun c0 => ?_) (fun c0 => ?_)
  · subst c0
    simp only [wp_ret, wp_bnd, wp_some, wp_grd, wp_no, wp_dat_pd, wp_dat_fz,  ev, evs, evO, evI, evC, evTs, AI.ex, asgG, asgGs, getV, wp_exs, wp_exs_nil, goS_nx, goS_rt, goS_bk, goS_ct, turnE_nx, turnE_ct, turnE_bk, turnE_rt, endD_rt, endD_nx, back_pd, binS, isFz, cmpS, biS, dats, truth, isiS, allPd, isiD, rkOf, join_some, Option.map, List.map, List.length_cons, List.length_nil, List.getElem?_cons_zero, List.getElem?_cons_succ, List.set_cons_zero, List.set_cons_succ, startS, atI_pos, atI_cast, Int.toNat_natCast, wp_newL1, wp_newL2, wp_newT1, List.length_set, List.set_set, decide_eq_true_eq, decide_eq_false_iff_not, Bool.not_eq_true', true_and, and_true,  ixN_pos, Int.reduceLE, Int.reduceLT, Int.reduceToNat, Int.reduceAdd, Int.reduceSub, Int.reduceMul, Int.reduceMod, Int.reduceNeg, Int.reducePow, Nat.reduceAdd, Nat.reduceLT, Nat.reduceLeDiff, Nat.reduceSub, reduceIte, Int.reduceEq, List.isEmpty_nil, Bool.false_eq_true, Bool.true_eq_false, decide_true, decide_false, ge_iff_le, gt_iff_lt,  wp_eq_int, wp_eq_str, wp_eq_bool, List.length_map, List.replicate, List.cons_append, List.nil_append, Bool.not_false, Bool.not_true, Bool.and_true, Bool.true_and, Bool.and_self, Bool.and_false, Bool.false_and, Option.bind, bn_add, bn_sub, bn_mul, bn_div, bn_mod, bn_pow, bn_addS, bn_addT, bn_addL, cp_eq, cp_ne, cp_ltI, cp_leI, cp_gtI, cp_geI, cp_ltS, cp_leS, cp_gtS, cp_geS, cp_ltT, cp_gtT, cp_in, cp_nin, cp_is, cp_isn, ix_l, ix_t, ix_s, ixs_tp, ixs_pd, ixs_rf, ixs_fz, cel_d, cel_r, mkLst, clsOf, clOf_d, clOf_r, wp_reprB, revS, isi2S, Bool.or_false, Bool.or_true, Bool.false_or, Bool.true_or, bi_lenL, bi_lenT, bi_lenS, bi_listL, bi_listT, bi_tupL, bi_tupT, bi_intI, bi_intB, bi_strI, bi_strS, bi_abs, bi_max, bi_min, bi_all, bi_any, bi_sum, in_l, in_t, in_s, tr_b, tr_i, tr_n, tr_l, tr_t, so_l, so_t, so_s, so_f, io_t, ng_i, pt_i, ag_a, ag_s, rv_l, rv_t, ap_d, rk_l, rk_t, rk_s, rg_1, rg_2, sl_l, sl_t, sl_s, mt_ixS, wp_mkT0, wp_mkT1, wp_mkT2, wp_mkT3, wp_mkT4, wp_mkT5, wp_mkT6, wp_mkT7, wp_mkT8, wp_datR, wp_idxR, wp_setR, wp_appR, set_last, get_last, le_line, lt_line, wp_newM, lg9, meth_words, wp_mkTR, not_true_eq_false, not_false_eq_true, eq_self, ofString_inj, String.reduceEq, wipeS, wp_inS, false_and, and_false]
    refine wp_join (fun f h' => ∃ (xs' : List Int) (u' : Int), f = .nx [some (.rf 1), some (.pd (.int many)), some (.rf 0), some (.pd (.int a)), none] ∧ h' = .lst (xs'.map .int) :: .mix [.r 0, .d (.int a), .d (.int 0), .d (.int u')] :: hs ∧ a < xs'.length ∧ xs'.length ≤ 64 + B ∧ 0 ≤ u' ∧ u' < 2147483647) (fun J hJ => ?_) ?_
    · refine wp_if (fun c1 => ?_) (fun c1 => ?_)
      · simp only [wp_ret, wp_bnd, wp_some, wp_grd, wp_no, wp_dat_pd, wp_dat_fz,  ev, evs, evO, evI, evC, evTs, AI.ex, asgG, asgGs, getV, wp_exs, wp_exs_nil, goS_nx, goS_rt, goS_bk, goS_ct, turnE_nx, turnE_ct, turnE_bk, turnE_rt, endD_rt, endD_nx, back_pd, binS, isFz, cmpS, biS, dats, truth, isiS, allPd, isiD, rkOf, join_some, Option.map, List.map, List.length_cons, List.length_nil, List.getElem?_cons_zero, List.getElem?_cons_succ, List.set_cons_zero, List.set_cons_succ, startS, atI_pos, atI_cast, Int.toNat_natCast, wp_newL1, wp_newL2, wp_newT1, List.length_set, List.set_set, decide_eq_true_eq, decide_eq_false_iff_not, Bool.not_eq_true', true_and, and_true,  ixN_pos, Int.reduceLE, Int.reduceLT, Int.reduceToNat, Int.reduceAdd, Int.reduceSub, Int.reduceMul, Int.reduceMod, Int.reduceNeg, Int.reducePow, Nat.reduceAdd, Nat.reduceLT, Nat.reduceLeDiff, Nat.reduceSub, reduceIte, Int.reduceEq, List.isEmpty_nil, Bool.false_eq_true, Bool.true_eq_false, decide_true, decide_false, ge_iff_le, gt_iff_lt,  wp_eq_int, wp_eq_str, wp_eq_bool, List.length_map, List.replicate, List.cons_append, List.nil_append, Bool.not_false, Bool.not_true, Bool.and_true, Bool.true_and, Bool.and_self, Bool.and_false, Bool.false_and, Option.bind, bn_add, bn_sub, bn_mul, bn_div, bn_mod, bn_pow, bn_addS, bn_addT, bn_addL, cp_eq, cp_ne, cp_ltI, cp_leI, cp_gtI, cp_geI, cp_ltS, cp_leS, cp_gtS, cp_geS, cp_ltT, cp_gtT, cp_in, cp_nin, cp_is, cp_isn, ix_l, ix_t, ix_s, ixs_tp, ixs_pd, ixs_rf, ixs_fz, cel_d, cel_r, mkLst, clsOf, clOf_d, clOf_r, wp_reprB, revS, isi2S, Bool.or_false, Bool.or_true, Bool.false_or, Bool.true_or, bi_lenL, bi_lenT, bi_lenS, bi_listL, bi_listT, bi_tupL, bi_tupT, bi_intI, bi_intB, bi_strI, bi_strS, bi_abs, bi_max, bi_min, bi_all, bi_any, bi_sum, in_l, in_t, in_s, tr_b, tr_i, tr_n, tr_l, tr_t, so_l, so_t, so_s, so_f, io_t, ng_i, pt_i, ag_a, ag_s, rv_l, rv_t, ap_d, rk_l, rk_t, rk_s, rg_1, rg_2, sl_l, sl_t, sl_s, mt_ixS, wp_mkT0, wp_mkT1, wp_mkT2, wp_mkT3, wp_mkT4, wp_mkT5, wp_mkT6, wp_mkT7, wp_mkT8, wp_datR, wp_idxR, wp_setR, wp_appR, set_last, get_last, le_line, lt_line, wp_newM, lg9, meth_words, wp_mkTR, not_true_eq_false, not_false_eq_true, eq_self, ofString_inj, String.reduceEq, wipeS, wp_inS, false_and, and_false]
        have r0 := emod_rng (u * 48271 + ↑a + 1) (show (0 : Int) < 2147483647 by decide)
        refine ⟨mul_ok hu0 (Int.lt_trans hu1 (by decide)) (by decide) (by decide), by omega, hJ _ _ ⟨xs ++ [(u * 48271 + ↑a + 1) % 2147483647], _, rfl, ?_, ?_, ?_, r0.1, r0.2⟩⟩
        · rw [List.map_append]; rfl
        · rw [List.length_append]; simp; omega
        · rw [List.length_append]; simp; omega
      · simp only [wp_ret, wp_bnd, wp_some, wp_grd, wp_no, wp_dat_pd, wp_dat_fz,  ev, evs, evO, evI, evC, evTs, AI.ex, asgG, asgGs, getV, wp_exs, wp_exs_nil, goS_nx, goS_rt, goS_bk, goS_ct, turnE_nx, turnE_ct, turnE_bk, turnE_rt, endD_rt, endD_nx, back_pd, binS, isFz, cmpS, biS, dats, truth, isiS, allPd, isiD, rkOf, join_some, Option.map, List.map, List.length_cons, List.length_nil, List.getElem?_cons_zero, List.getElem?_cons_succ, List.set_cons_zero, List.set_cons_succ, startS, atI_pos, atI_cast, Int.toNat_natCast, wp_newL1, wp_newL2, wp_newT1, List.length_set, List.set_set, decide_eq_true_eq, decide_eq_false_iff_not, Bool.not_eq_true', true_and, and_true,  ixN_pos, Int.reduceLE, Int.reduceLT, Int.reduceToNat, Int.reduceAdd, Int.reduceSub, Int.reduceMul, Int.reduceMod, Int.reduceNeg, Int.reducePow, Nat.reduceAdd, Nat.reduceLT, Nat.reduceLeDiff, Nat.reduceSub, reduceIte, Int.reduceEq, List.isEmpty_nil, Bool.false_eq_true, Bool.true_eq_false, decide_true, decide_false, ge_iff_le, gt_iff_lt,  wp_eq_int, wp_eq_str, wp_eq_bool, List.length_map, List.replicate, List.cons_append, List.nil_append, Bool.not_false, Bool.not_true, Bool.and_true, Bool.true_and, Bool.and_self, Bool.and_false, Bool.false_and, Option.bind, bn_add, bn_sub, bn_mul, bn_div, bn_mod, bn_pow, bn_addS, bn_addT, bn_addL, cp_eq, cp_ne, cp_ltI, cp_leI, cp_gtI, cp_geI, cp_ltS, cp_leS, cp_gtS, cp_geS, cp_ltT, cp_gtT, cp_in, cp_nin, cp_is, cp_isn, ix_l, ix_t, ix_s, ixs_tp, ixs_pd, ixs_rf, ixs_fz, cel_d, cel_r, mkLst, clsOf, clOf_d, clOf_r, wp_reprB, revS, isi2S, Bool.or_false, Bool.or_true, Bool.false_or, Bool.true_or, bi_lenL, bi_lenT, bi_lenS, bi_listL, bi_listT, bi_tupL, bi_tupT, bi_intI, bi_intB, bi_strI, bi_strS, bi_abs, bi_max, bi_min, bi_all, bi_any, bi_sum, in_l, in_t, in_s, tr_b, tr_i, tr_n, tr_l, tr_t, so_l, so_t, so_s, so_f, io_t, ng_i, pt_i, ag_a, ag_s, rv_l, rv_t, ap_d, rk_l, rk_t, rk_s, rg_1, rg_2, sl_l, sl_t, sl_s, mt_ixS, wp_mkT0, wp_mkT1, wp_mkT2, wp_mkT3, wp_mkT4, wp_mkT5, wp_mkT6, wp_mkT7, wp_mkT8, wp_datR, wp_idxR, wp_setR, wp_appR, set_last, get_last, le_line, lt_line, wp_newM, lg9, meth_words, wp_mkTR, not_true_eq_false, not_false_eq_true, eq_self, ofString_inj, String.reduceEq, wipeS, wp_inS, false_and, and_false]
        exact hJ _ _ ⟨xs, u, rfl, rfl, by omega, by omega, hu0, hu1⟩
    rintro f h' ⟨xs', u', rfl, rfl, ha', hx', hv0, hv1⟩
    simp only [wp_ret, wp_bnd, wp_some, wp_grd, wp_no, wp_dat_pd, wp_dat_fz,  ev, evs, evO, evI, evC, evTs, AI.ex, asgG, asgGs, getV, wp_exs, wp_exs_nil, goS_nx, goS_rt, goS_bk, goS_ct, turnE_nx, turnE_ct, turnE_bk, turnE_rt, endD_rt, endD_nx, back_pd, binS, isFz, cmpS, biS, dats, truth, isiS, allPd, isiD, rkOf, join_some, Option.map, List.map, List.length_cons, List.length_nil, List.getElem?_cons_zero, List.getElem?_cons_succ, List.set_cons_zero, List.set_cons_succ, startS, atI_pos, atI_cast, Int.toNat_natCast, wp_newL1, wp_newL2, wp_newT1, List.length_set, List.set_set, decide_eq_true_eq, decide_eq_false_iff_not, Bool.not_eq_true', true_and, and_true,  ixN_pos, Int.reduceLE, Int.reduceLT, Int.reduceToNat, Int.reduceAdd, Int.reduceSub, Int.reduceMul, Int.reduceMod, Int.reduceNeg, Int.reducePow, Nat.reduceAdd, Nat.reduceLT, Nat.reduceLeDiff, Nat.reduceSub, reduceIte, Int.reduceEq, List.isEmpty_nil, Bool.false_eq_true, Bool.true_eq_false, decide_true, decide_false, ge_iff_le, gt_iff_lt,  wp_eq_int, wp_eq_str, wp_eq_bool, List.length_map, List.replicate, List.cons_append, List.nil_append, Bool.not_false, Bool.not_true, Bool.and_true, Bool.true_and, Bool.and_self, Bool.and_false, Bool.false_and, Option.bind, bn_add, bn_sub, bn_mul, bn_div, bn_mod, bn_pow, bn_addS, bn_addT, bn_addL, cp_eq, cp_ne, cp_ltI, cp_leI, cp_gtI, cp_geI, cp_ltS, cp_leS, cp_gtS, cp_geS, cp_ltT, cp_gtT, cp_in, cp_nin, cp_is, cp_isn, ix_l, ix_t, ix_s, ixs_tp, ixs_pd, ixs_rf, ixs_fz, cel_d, cel_r, mkLst, clsOf, clOf_d, clOf_r, wp_reprB, revS, isi2S, Bool.or_false, Bool.or_true, Bool.false_or, Bool.true_or, bi_lenL, bi_lenT, bi_lenS, bi_listL, bi_listT, bi_tupL, bi_tupT, bi_intI, bi_intB, bi_strI, bi_strS, bi_abs, bi_max, bi_min, bi_all, bi_any, bi_sum, in_l, in_t, in_s, tr_b, tr_i, tr_n, tr_l, tr_t, so_l, so_t, so_s, so_f, io_t, ng_i, pt_i, ag_a, ag_s, rv_l, rv_t, ap_d, rk_l, rk_t, rk_s, rg_1, rg_2, sl_l, sl_t, sl_s, mt_ixS, wp_mkT0, wp_mkT1, wp_mkT2, wp_mkT3, wp_mkT4, wp_mkT5, wp_mkT6, wp_mkT7, wp_mkT8, wp_datR, wp_idxR, wp_setR, wp_appR, set_last, get_last, le_line, lt_line, wp_newM, lg9, meth_words, wp_mkTR, not_true_eq_false, not_false_eq_true, eq_self, ofString_inj, String.reduceEq, wipeS, wp_inS, false_and, and_false, ints_get ha']
    have w0 : 0 ≤ (if xs'[a] < 0 then -xs'[a] else xs'[a]) := by split <;> omega
    generalize (if xs'[a] < 0 then -xs'[a] else xs'[a]) = w at *
    have done : ∀ (v e' : Int), 0 ≤ e' → Q (.pd (.int (v % if many < 1 then 1 else many))) (.lst (xs'.map .int) :: .mix [.r 0, .d (.int ((a : Int) + 1)), .d (.int e'), .d (.int u')] :: hs) := fun v e' h1 =>
      q _ _ _ ⟨xs', a + 1, e', u', rfl, rfl, ha', by omega, h1, hv0, hv1⟩ ⟨(emod_rng v pos).1, (emod_rng v pos).2⟩
    refine ⟨by decide, ?_⟩
    refine wp_if (fun c2 => ?_) (fun c2 => ?_)
    · have w4 : w < 2 ^ 400 := Int.lt_trans c2 (by decide)
      simp only [wp_ret, wp_bnd, wp_some, wp_grd, wp_no, wp_dat_pd, wp_dat_fz,  ev, evs, evO, evI, evC, evTs, AI.ex, asgG, asgGs, getV, wp_exs, wp_exs_nil, goS_nx, goS_rt, goS_bk, goS_ct, turnE_nx, turnE_ct, turnE_bk, turnE_rt, endD_rt, endD_nx, back_pd, binS, isFz, cmpS, biS, dats, truth, isiS, allPd, isiD, rkOf, join_some, Option.map, List.map, List.length_cons, List.length_nil, List.getElem?_cons_zero, List.getElem?_cons_succ, List.set_cons_zero, List.set_cons_succ, startS, atI_pos, atI_cast, Int.toNat_natCast, wp_newL1, wp_newL2, wp_newT1, List.length_set, List.set_set, decide_eq_true_eq, decide_eq_false_iff_not, Bool.not_eq_true', true_and, and_true,  ixN_pos, Int.reduceLE, Int.reduceLT, Int.reduceToNat, Int.reduceAdd, Int.reduceSub, Int.reduceMul, Int.reduceMod, Int.reduceNeg, Int.reducePow, Nat.reduceAdd, Nat.reduceLT, Nat.reduceLeDiff, Nat.reduceSub, reduceIte, Int.reduceEq, List.isEmpty_nil, Bool.false_eq_true, Bool.true_eq_false, decide_true, decide_false, ge_iff_le, gt_iff_lt,  wp_eq_int, wp_eq_str, wp_eq_bool, List.length_map, List.replicate, List.cons_append, List.nil_append, Bool.not_false, Bool.not_true, Bool.and_true, Bool.true_and, Bool.and_self, Bool.and_false, Bool.false_and, Option.bind, bn_add, bn_sub, bn_mul, bn_div, bn_mod, bn_pow, bn_addS, bn_addT, bn_addL, cp_eq, cp_ne, cp_ltI, cp_leI, cp_gtI, cp_geI, cp_ltS, cp_leS, cp_gtS, cp_geS, cp_ltT, cp_gtT, cp_in, cp_nin, cp_is, cp_isn, ix_l, ix_t, ix_s, ixs_tp, ixs_pd, ixs_rf, ixs_fz, cel_d, cel_r, mkLst, clsOf, clOf_d, clOf_r, wp_reprB, revS, isi2S, Bool.or_false, Bool.or_true, Bool.false_or, Bool.true_or, bi_lenL, bi_lenT, bi_lenS, bi_listL, bi_listT, bi_tupL, bi_tupT, bi_intI, bi_intB, bi_strI, bi_strS, bi_abs, bi_max, bi_min, bi_all, bi_any, bi_sum, in_l, in_t, in_s, tr_b, tr_i, tr_n, tr_l, tr_t, so_l, so_t, so_s, so_f, io_t, ng_i, pt_i, ag_a, ag_s, rv_l, rv_t, ap_d, rk_l, rk_t, rk_s, rg_1, rg_2, sl_l, sl_t, sl_s, mt_ixS, wp_mkT0, wp_mkT1, wp_mkT2, wp_mkT3, wp_mkT4, wp_mkT5, wp_mkT6, wp_mkT7, wp_mkT8, wp_datR, wp_idxR, wp_setR, wp_appR, set_last, get_last, le_line, lt_line, wp_newM, lg9, meth_words, wp_mkTR, not_true_eq_false, not_false_eq_true, eq_self, ofString_inj, String.reduceEq, wipeS, wp_inS, false_and, and_false]
      have r1 := emod_rng (w * 48271 + ↑a * 69621 + 5) (show (0 : Int) < 2147483647 by decide)
      exact ⟨mul_ok w0 w4 (by decide) (by decide), mul_ok (by omega) ha4 (by decide) (by decide), mul_ok r1.1 (Int.lt_trans r1.2 (by decide)) (by decide) (by decide), pos, done _ _ (by decide)⟩
    · simp only [wp_ret, wp_bnd, wp_some, wp_grd, wp_no, wp_dat_pd, wp_dat_fz,  ev, evs, evO, evI, evC, evTs, AI.ex, asgG, asgGs, getV, wp_exs, wp_exs_nil, goS_nx, goS_rt, goS_bk, goS_ct, turnE_nx, turnE_ct, turnE_bk, turnE_rt, endD_rt, endD_nx, back_pd, binS, isFz, cmpS, biS, dats, truth, isiS, allPd, isiD, rkOf, join_some, Option.map, List.map, List.length_cons, List.length_nil, List.getElem?_cons_zero, List.getElem?_cons_succ, List.set_cons_zero, List.set_cons_succ, startS, atI_pos, atI_cast, Int.toNat_natCast, wp_newL1, wp_newL2, wp_newT1, List.length_set, List.set_set, decide_eq_true_eq, decide_eq_false_iff_not, Bool.not_eq_true', true_and, and_true,  ixN_pos, Int.reduceLE, Int.reduceLT, Int.reduceToNat, Int.reduceAdd, Int.reduceSub, Int.reduceMul, Int.reduceMod, Int.reduceNeg, Int.reducePow, Nat.reduceAdd, Nat.reduceLT, Nat.reduceLeDiff, Nat.reduceSub, reduceIte, Int.reduceEq, List.isEmpty_nil, Bool.false_eq_true, Bool.true_eq_false, decide_true, decide_false, ge_iff_le, gt_iff_lt,  wp_eq_int, wp_eq_str, wp_eq_bool, List.length_map, List.replicate, List.cons_append, List.nil_append, Bool.not_false, Bool.not_true, Bool.and_true, Bool.true_and, Bool.and_self, Bool.and_false, Bool.false_and, Option.bind, bn_add, bn_sub, bn_mul, bn_div, bn_mod, bn_pow, bn_addS, bn_addT, bn_addL, cp_eq, cp_ne, cp_ltI, cp_leI, cp_gtI, cp_geI, cp_ltS, cp_leS, cp_gtS, cp_geS, cp_ltT, cp_gtT, cp_in, cp_nin, cp_is, cp_isn, ix_l, ix_t, ix_s, ixs_tp, ixs_pd, ixs_rf, ixs_fz, cel_d, cel_r, mkLst, clsOf, clOf_d, clOf_r, wp_reprB, revS, isi2S, Bool.or_false, Bool.or_true, Bool.false_or, Bool.true_or, bi_lenL, bi_lenT, bi_lenS, bi_listL, bi_listT, bi_tupL, bi_tupT, bi_intI, bi_intB, bi_strI, bi_strS, bi_abs, bi_max, bi_min, bi_all, bi_any, bi_sum, in_l, in_t, in_s, tr_b, tr_i, tr_n, tr_l, tr_t, so_l, so_t, so_s, so_f, io_t, ng_i, pt_i, ag_a, ag_s, rv_l, rv_t, ap_d, rk_l, rk_t, rk_s, rg_1, rg_2, sl_l, sl_t, sl_s, mt_ixS, wp_mkT0, wp_mkT1, wp_mkT2, wp_mkT3, wp_mkT4, wp_mkT5, wp_mkT6, wp_mkT7, wp_mkT8, wp_datR, wp_idxR, wp_setR, wp_appR, set_last, get_last, le_line, lt_line, wp_newM, lg9, meth_words, wp_mkTR, not_true_eq_false, not_false_eq_true, eq_self, ofString_inj, String.reduceEq, wipeS, wp_inS, false_and, and_false]
      exact ⟨⟨two, lg⟩, pos, done _ _ (Int.ediv_nonneg w0 (by omega))⟩
  · simp only [wp_ret, wp_bnd, wp_some, wp_grd, wp_no, wp_dat_pd, wp_dat_fz,  ev, evs, evO, evI, evC, evTs, AI.ex, asgG, asgGs, getV, wp_exs, wp_exs_nil, goS_nx, goS_rt, goS_bk, goS_ct, turnE_nx, turnE_ct, turnE_bk, turnE_rt, endD_rt, endD_nx, back_pd, binS, isFz, cmpS, biS, dats, truth, isiS, allPd, isiD, rkOf, join_some, Option.map, List.map, List.length_cons, List.length_nil, List.getElem?_cons_zero, List.getElem?_cons_succ, List.set_cons_zero, List.set_cons_succ, startS, atI_pos, atI_cast, Int.toNat_natCast, wp_newL1, wp_newL2, wp_newT1, List.length_set, List.set_set, decide_eq_true_eq, decide_eq_false_iff_not, Bool.not_eq_true', true_and, and_true,  ixN_pos, Int.reduceLE, Int.reduceLT, Int.reduceToNat, Int.reduceAdd, Int.reduceSub, Int.reduceMul, Int.reduceMod, Int.reduceNeg, Int.reducePow, Nat.reduceAdd, Nat.reduceLT, Nat.reduceLeDiff, Nat.reduceSub, reduceIte, Int.reduceEq, List.isEmpty_nil, Bool.false_eq_true, Bool.true_eq_false, decide_true, decide_false, ge_iff_le, gt_iff_lt,  wp_eq_int, wp_eq_str, wp_eq_bool, List.length_map, List.replicate, List.cons_append, List.nil_append, Bool.not_false, Bool.not_true, Bool.and_true, Bool.true_and, Bool.and_self, Bool.and_false, Bool.false_and, Option.bind, bn_add, bn_sub, bn_mul, bn_div, bn_mod, bn_pow, bn_addS, bn_addT, bn_addL, cp_eq, cp_ne, cp_ltI, cp_leI, cp_gtI, cp_geI, cp_ltS, cp_leS, cp_gtS, cp_geS, cp_ltT, cp_gtT, cp_in, cp_nin, cp_is, cp_isn, ix_l, ix_t, ix_s, ixs_tp, ixs_pd, ixs_rf, ixs_fz, cel_d, cel_r, mkLst, clsOf, clOf_d, clOf_r, wp_reprB, revS, isi2S, Bool.or_false, Bool.or_true, Bool.false_or, Bool.true_or, bi_lenL, bi_lenT, bi_lenS, bi_listL, bi_listT, bi_tupL, bi_tupT, bi_intI, bi_intB, bi_strI, bi_strS, bi_abs, bi_max, bi_min, bi_all, bi_any, bi_sum, in_l, in_t, in_s, tr_b, tr_i, tr_n, tr_l, tr_t, so_l, so_t, so_s, so_f, io_t, ng_i, pt_i, ag_a, ag_s, rv_l, rv_t, ap_d, rk_l, rk_t, rk_s, rg_1, rg_2, sl_l, sl_t, sl_s, mt_ixS, wp_mkT0, wp_mkT1, wp_mkT2, wp_mkT3, wp_mkT4, wp_mkT5, wp_mkT6, wp_mkT7, wp_mkT8, wp_datR, wp_idxR, wp_setR, wp_appR, set_last, get_last, le_line, lt_line, wp_newM, lg9, meth_words, wp_mkTR, not_true_eq_false, not_false_eq_true, eq_self, ofString_inj, String.reduceEq, wipeS, wp_inS, false_and, and_false]
    exact ⟨⟨two, lg⟩, pos, q _ _ _ ⟨xs, a, _, u, rfl, rfl, ha, by omega, Int.ediv_nonneg he (by omega), hu0, hu1⟩ ⟨(emod_rng e pos).1, (emod_rng e pos).2⟩⟩
theorem tape2_raw {T : TT} {ns : List Int} (hl : ns.length ≤ 63) {Q : RV → Boxes → Prop} (q : ∀ t : Int, 0 ≤ t → t < 2147483647 → Q (.rf 1) [.lst (ns.map .int), .mix [.r 0, .d (.int 0), .d (.int 0), .d (.int t)]]) : wp (rawDef T ⟨1, 3, b_tape2⟩ [.fz (ns.map .int)]) Q [] := by
  refine wp_def rfl ?_
  simp only [wp_ret, wp_bnd, wp_some, wp_grd, wp_no, wp_dat_pd, wp_dat_fz,  ev, evs, evO, evI, evC, evTs, AI.ex, asgG, asgGs, getV, wp_exs, wp_exs_nil, goS_nx, goS_rt, goS_bk, goS_ct, turnE_nx, turnE_ct, turnE_bk, turnE_rt, endD_rt, endD_nx, back_pd, binS, isFz, cmpS, biS, dats, truth, isiS, allPd, isiD, rkOf, join_some, Option.map, List.map, List.length_cons, List.length_nil, List.getElem?_cons_zero, List.getElem?_cons_succ, List.set_cons_zero, List.set_cons_succ, startS, atI_pos, atI_cast, Int.toNat_natCast, wp_newL1, wp_newL2, wp_newT1, List.length_set, List.set_set, decide_eq_true_eq, decide_eq_false_iff_not, Bool.not_eq_true', true_and, and_true,  ixN_pos, Int.reduceLE, Int.reduceLT, Int.reduceToNat, Int.reduceAdd, Int.reduceSub, Int.reduceMul, Int.reduceMod, Int.reduceNeg, Int.reducePow, Nat.reduceAdd, Nat.reduceLT, Nat.reduceLeDiff, Nat.reduceSub, reduceIte, Int.reduceEq, List.isEmpty_nil, Bool.false_eq_true, Bool.true_eq_false, decide_true, decide_false, ge_iff_le, gt_iff_lt,  wp_eq_int, wp_eq_str, wp_eq_bool, List.length_map, List.replicate, List.cons_append, List.nil_append, Bool.not_false, Bool.not_true, Bool.and_true, Bool.true_and, Bool.and_self, Bool.and_false, Bool.false_and, Option.bind, bn_add, bn_sub, bn_mul, bn_div, bn_mod, bn_pow, bn_addS, bn_addT, bn_addL, cp_eq, cp_ne, cp_ltI, cp_leI, cp_gtI, cp_geI, cp_ltS, cp_leS, cp_gtS, cp_geS, cp_ltT, cp_gtT, cp_in, cp_nin, cp_is, cp_isn, ix_l, ix_t, ix_s, ixs_tp, ixs_pd, ixs_rf, ixs_fz, cel_d, cel_r, mkLst, clsOf, clOf_d, clOf_r, wp_reprB, revS, isi2S, Bool.or_false, Bool.or_true, Bool.false_or, Bool.true_or, bi_lenL, bi_lenT, bi_lenS, bi_listL, bi_listT, bi_tupL, bi_tupT, bi_intI, bi_intB, bi_strI, bi_strS, bi_abs, bi_max, bi_min, bi_all, bi_any, bi_sum, in_l, in_t, in_s, tr_b, tr_i, tr_n, tr_l, tr_t, so_l, so_t, so_s, so_f, io_t, ng_i, pt_i, ag_a, ag_s, rv_l, rv_t, ap_d, rk_l, rk_t, rk_s, rg_1, rg_2, sl_l, sl_t, sl_s, mt_ixS, wp_mkT0, wp_mkT1, wp_mkT2, wp_mkT3, wp_mkT4, wp_mkT5, wp_mkT6, wp_mkT7, wp_mkT8, wp_datR, wp_idxR, wp_setR, wp_appR, set_last, get_last, le_line, lt_line, wp_newM, lg9, meth_words, wp_mkTR, not_true_eq_false, not_false_eq_true, eq_self, ofString_inj, String.reduceEq, wipeS, wp_inS, false_and, and_false, b_tape2]
  have step : ∀ (i : Nat) (hi : i < (ns.map PyData.int).length), ∃ x : Int, (ns.map PyData.int)[i] = .int x := fun i hi => by simp
  rw [show ns.length = (ns.map PyData.int).length by simp]
  refine wp_for (fun i σ h' => h' = [] ∧ ∃ t y, σ = [some (.fz (ns.map .int)), some (.pd (.int t)), y] ∧ 0 ≤ t ∧ t < 2147483647) ⟨rfl, 7, none, rfl, by decide, by decide⟩ ?_ ?_
  · rintro i hi σ h' ⟨rfl, t, y, rfl, t0, t1⟩
    obtain ⟨x, hx⟩ := step i hi
    rw [hx]
    simp only [wp_ret, wp_bnd, wp_some, wp_grd, wp_no, wp_dat_pd, wp_dat_fz,  ev, evs, evO, evI, evC, evTs, AI.ex, asgG, asgGs, getV, wp_exs, wp_exs_nil, goS_nx, goS_rt, goS_bk, goS_ct, turnE_nx, turnE_ct, turnE_bk, turnE_rt, endD_rt, endD_nx, back_pd, binS, isFz, cmpS, biS, dats, truth, isiS, allPd, isiD, rkOf, join_some, Option.map, List.map, List.length_cons, List.length_nil, List.getElem?_cons_zero, List.getElem?_cons_succ, List.set_cons_zero, List.set_cons_succ, startS, atI_pos, atI_cast, Int.toNat_natCast, wp_newL1, wp_newL2, wp_newT1, List.length_set, List.set_set, decide_eq_true_eq, decide_eq_false_iff_not, Bool.not_eq_true', true_and, and_true,  ixN_pos, Int.reduceLE, Int.reduceLT, Int.reduceToNat, Int.reduceAdd, Int.reduceSub, Int.reduceMul, Int.reduceMod, Int.reduceNeg, Int.reducePow, Nat.reduceAdd, Nat.reduceLT, Nat.reduceLeDiff, Nat.reduceSub, reduceIte, Int.reduceEq, List.isEmpty_nil, Bool.false_eq_true, Bool.true_eq_false, decide_true, decide_false, ge_iff_le, gt_iff_lt,  wp_eq_int, wp_eq_str, wp_eq_bool, List.length_map, List.replicate, List.cons_append, List.nil_append, Bool.not_false, Bool.not_true, Bool.and_true, Bool.true_and, Bool.and_self, Bool.and_false, Bool.false_and, Option.bind, bn_add, bn_sub, bn_mul, bn_div, bn_mod, bn_pow, bn_addS, bn_addT, bn_addL, cp_eq, cp_ne, cp_ltI, cp_leI, cp_gtI, cp_geI, cp_ltS, cp_leS, cp_gtS, cp_geS, cp_ltT, cp_gtT, cp_in, cp_nin, cp_is, cp_isn, ix_l, ix_t, ix_s, ixs_tp, ixs_pd, ixs_rf, ixs_fz, cel_d, cel_r, mkLst, clsOf, clOf_d, clOf_r, wp_reprB, revS, isi2S, Bool.or_false, Bool.or_true, Bool.false_or, Bool.true_or, bi_lenL, bi_lenT, bi_lenS, bi_listL, bi_listT, bi_tupL, bi_tupT, bi_intI, bi_intB, bi_strI, bi_strS, bi_abs, bi_max, bi_min, bi_all, bi_any, bi_sum, in_l, in_t, in_s, tr_b, tr_i, tr_n, tr_l, tr_t, so_l, so_t, so_s, so_f, io_t, ng_i, pt_i, ag_a, ag_s, rv_l, rv_t, ap_d, rk_l, rk_t, rk_s, rg_1, rg_2, sl_l, sl_t, sl_s, mt_ixS, wp_mkT0, wp_mkT1, wp_mkT2, wp_mkT3, wp_mkT4, wp_mkT5, wp_mkT6, wp_mkT7, wp_mkT8, wp_datR, wp_idxR, wp_setR, wp_appR, set_last, get_last, le_line, lt_line, wp_newM, lg9, meth_words, wp_mkTR, not_true_eq_false, not_false_eq_true, eq_self, ofString_inj, String.reduceEq, wipeS, wp_inS, false_and, and_false]
    have r := emod_rng (t * 31 + if x < 0 then -x else x) (show (0 : Int) < 2147483647 by decide)
    exact ⟨mul_ok t0 (Int.lt_trans t1 (by decide)) (by decide) (by decide), _, _, rfl, r.1, r.2⟩
  · rintro σ h' ⟨rfl, t, y, rfl, t0, t1⟩
    have z : (ns.map PyData.int).length ≤ 1000000 := by rw [List.length_map]; omega
    simp only [wp_ret, wp_bnd, wp_some, wp_grd, wp_no, wp_dat_pd, wp_dat_fz,  ev, evs, evO, evI, evC, evTs, AI.ex, asgG, asgGs, getV, wp_exs, wp_exs_nil, goS_nx, goS_rt, goS_bk, goS_ct, turnE_nx, turnE_ct, turnE_bk, turnE_rt, endD_rt, endD_nx, back_pd, binS, isFz, cmpS, biS, dats, truth, isiS, allPd, isiD, rkOf, join_some, Option.map, List.map, List.length_cons, List.length_nil, List.getElem?_cons_zero, List.getElem?_cons_succ, List.set_cons_zero, List.set_cons_succ, startS, atI_pos, atI_cast, Int.toNat_natCast, wp_newL1, wp_newL2, wp_newT1, List.length_set, List.set_set, decide_eq_true_eq, decide_eq_false_iff_not, Bool.not_eq_true', true_and, and_true,  ixN_pos, Int.reduceLE, Int.reduceLT, Int.reduceToNat, Int.reduceAdd, Int.reduceSub, Int.reduceMul, Int.reduceMod, Int.reduceNeg, Int.reducePow, Nat.reduceAdd, Nat.reduceLT, Nat.reduceLeDiff, Nat.reduceSub, reduceIte, Int.reduceEq, List.isEmpty_nil, Bool.false_eq_true, Bool.true_eq_false, decide_true, decide_false, ge_iff_le, gt_iff_lt,  wp_eq_int, wp_eq_str, wp_eq_bool, List.length_map, List.replicate, List.cons_append, List.nil_append, Bool.not_false, Bool.not_true, Bool.and_true, Bool.true_and, Bool.and_self, Bool.and_false, Bool.false_and, Option.bind, bn_add, bn_sub, bn_mul, bn_div, bn_mod, bn_pow, bn_addS, bn_addT, bn_addL, cp_eq, cp_ne, cp_ltI, cp_leI, cp_gtI, cp_geI, cp_ltS, cp_leS, cp_gtS, cp_geS, cp_ltT, cp_gtT, cp_in, cp_nin, cp_is, cp_isn, ix_l, ix_t, ix_s, ixs_tp, ixs_pd, ixs_rf, ixs_fz, cel_d, cel_r, mkLst, clsOf, clOf_d, clOf_r, wp_reprB, revS, isi2S, Bool.or_false, Bool.or_true, Bool.false_or, Bool.true_or, bi_lenL, bi_lenT, bi_lenS, bi_listL, bi_listT, bi_tupL, bi_tupT, bi_intI, bi_intB, bi_strI, bi_strS, bi_abs, bi_max, bi_min, bi_all, bi_any, bi_sum, in_l, in_t, in_s, tr_b, tr_i, tr_n, tr_l, tr_t, so_l, so_t, so_s, so_f, io_t, ng_i, pt_i, ag_a, ag_s, rv_l, rv_t, ap_d, rk_l, rk_t, rk_s, rg_1, rg_2, sl_l, sl_t, sl_s, mt_ixS, wp_mkT0, wp_mkT1, wp_mkT2, wp_mkT3, wp_mkT4, wp_mkT5, wp_mkT6, wp_mkT7, wp_mkT8, wp_datR, wp_idxR, wp_setR, wp_appR, set_last, get_last, le_line, lt_line, wp_newM, lg9, meth_words, wp_mkTR, not_true_eq_false, not_false_eq_true, eq_self, ofString_inj, String.reduceEq, wipeS, wp_inS, false_and, and_false, wp_newL2 z]
    exact q t t0 t1
section
variable {T T' : TT} {f : Str} {bx : Bool} {hs : Boxes} {Q : RV → Boxes → Prop}
theorem draw2 {B : Nat} {c b : Box} {many : Int} (e : T.raw f = rawDef T' ⟨2, 5, b_draw2⟩) (t : Tp B c b) (hB : B ≤ 16000000) (hm : many < 2 ^ 1000) (q : ∀ v c' b', Tp (B + 1) c' b' → Drawn many v → Q (.pd (.int v)) (c' :: b' :: hs)) : wp (T.call bx f [.rf 1, .pd (.int many)]) Q (c :: b :: hs) :=
  wp_call e (draw2_raw t hB hm fun v c' b' t' hv => by rw [back_pd, List.take_of_length_le (by simp)]; exact q v c' b' t' hv)
theorem tape2 {ns : List Int} (e : T.raw f = rawDef T' ⟨1, 3, b_tape2⟩) (hl : ns.length ≤ 63) (q : ∀ c b, Tp 0 c b → Q (.rf 1) [c, b]) : wp (T.call true f [.fz (ns.map .int)]) Q [] :=
  wp_call e (tape2_raw hl fun t t0 t1 => ⟨.rf 1, _, rfl, q _ _ ⟨ns, 0, 0, t, rfl, rfl, Nat.zero_le _, by omega, by decide, t0, t1⟩⟩)
end
end AI

set_option Elab.async false
set_option linter.all false
set_option maxRecDepth 100000
set_option maxHeartbeats 4000000
/-! AiFct: names and facts that are drawn. -/
namespace AI
open PySem L2
def b_names2 : List S := [.asg (.nm 2) (.cst (.str "abcdefghijklmnopqrstuvwxyz0123456789_")), .asg (.nm 3) (.call "_law_draw" [(.var 0), (.cst (.int 4))]), .asg (.nm 4) (.bx (.lst [])), .for_ (.nm 5) (.rng [(.bin .Add (.cst (.int 1)) (.call "_law_draw" [(.var 0), (.var 1)]))]) [.asg (.nm 6) (.call "_law_draw" [(.var 0), (.cst (.int 1566136))]), .asg (.nm 7) (.bin .Add (.idx (.var 2) (.bin .Mod (.bi .int [(.bin .FloorDiv (.var 6) (.cst (.int 104)))]) (.cst (.int 37)))) (.idx (.var 2) (.bin .Mod (.bi .int [(.bin .FloorDiv (.var 6) (.cst (.int 3848)))]) (.cst (.int 37))))), .asg (.nm 8) (.bin .Add (.idx (.var 2) (.bin .Mod (.bi .int [(.var 6)]) (.cst (.int 26)))) (.slc (.var 7) none (some (.idx (.lst [(.cst (.int 0)), (.cst (.int 0)), (.cst (.int 1)), (.cst (.int 2))]) (.bin .Mod (.bi .int [(.bin .FloorDiv (.var 6) (.cst (.int 26)))]) (.cst (.int 4))))))), .asg (.nm 9) (.bin .Mod (.bi .int [(.bin .FloorDiv (.var 6) (.cst (.int 142376)))]) (.cst (.int 11))), .asg (.nm 10) (.idx (.meth .words (.cst (.str "schema undecided prepared mentioned possible row when begin execute prepare learn")) []) (.var 9)), .asg (.nm 8) (.idx (.lst [(.var 8), (.bin .Add (.cst (.str "reservation_x")) (.var 8)), (.bin .Add (.bin .Add (.slc (.cst (.str "transaction")) none (some (.var 9))) (.idx (.var 8) (.cst (.int 0)))) (.slc (.cst (.str "transaction")) (some (.bin .Add (.var 9) (.cst (.int 1)))) none)), (.var 10)]) (.var 3)), .ite (.val (.cmp .In (.var 8) (.tup [(.cst (.str "by")), (.cst (.str "of")), (.cst (.str "or")), (.cst (.str "to")), (.cst (.str "and")), (.cst (.str "key")), (.cst (.str "not")), (.cst (.str "one")), (.cst (.str "set")), (.cst (.str "sum"))]))) [.asg (.nm 8) (.bin .Add (.var 8) (.cst (.str "_")))] [], .ite (.val (.cmp .NotIn (.var 8) (.var 4))) [.expr (.meth .append (.var 4) [(.var 8)])] []], .ret (.var 4)]
/-- a row of names -/
structure Nms (m : Nat) (xs : List Str) : Prop where
  nd : xs.Nodup
  pos : 1 ≤ xs.length
  len : xs.length ≤ m
  shr : ∀ x ∈ xs, TxtOk 30 x
theorem low_SG : ∀ c ∈ (Str.ofString "abcdefghijklmnopqrstuvwxyz0123456789_").cps.toList, c ∈ SG.cps.toList := by decide +kernel
/-- a written text of the laws' signs -/
theorem TxtOk.lit {m : Nat} {s : Str} (h : (decide (s.length ≤ m) && s.cps.toList.all fun c => SG.cps.toList.contains c) = true) : TxtOk m s := by
  rw [Bool.and_eq_true, List.all_eq_true] at h
  exact ⟨of_decide_eq_true h.1, fun c hc => by simpa using h.2 c hc⟩
theorem words_plain : Txt.words ("schema undecided prepared mentioned possible row when begin execute prepare learn" : Str) = ["schema", "undecided", "prepared", "mentioned", "possible", "row", "when", "begin", "execute", "prepare", "learn"].map Str.ofString := by decide +kernel
section
variable {T T' T0 : TT} {f : Str} {bx : Bool} {hs : Boxes} {Q : RV → Boxes → Prop} {B : Nat} {c b : Box}
theorem cut_add {s u : Str} {a b : Nat} (h1 : s.length ≤ a) (h2 : u.length ≤ b) : (s ++ u).length ≤ a + b := by rw [str_len]; omega
theorem in_eqv {xs : List Str} {s : Str} : ((xs.map PyData.str).any fun y => PyData.eqv y (.str s)) = decide (s ∈ xs) := by
  induction xs with
  | nil => simp
  | cons x xs ih =>
    rw [List.map_cons, List.any_cons, ih, eqv_str]
    by_cases e : x = s
    · subst e; simp
    · have : ¬ s = x := fun z => e z.symm
      simp [e, this]
theorem names2_raw {m : Nat} (ed : T'.raw "_law_draw" = rawDef T0 ⟨2, 5, b_draw2⟩) (t : Tp B c b) (hB : B + m + 2 ≤ 16000000) (hm : 1 ≤ m) (hm2 : m ≤ 100)
    (q : ∀ xs c' b', Tp (B + m + 2) c' b' → Nms m xs → Q (.rf (hs.length + 1 + 1)) (c' :: b' :: (hs ++ [.lst (xs.map .str)]))) : wp (rawDef T' ⟨2, 11, b_names2⟩ [.rf 1, .pd (.int m)]) Q (c :: b :: hs) := by
  refine wp_def rfl ?_
  simp only [wp_ret, wp_bnd, wp_some, wp_grd, wp_no, wp_dat_pd, wp_dat_fz,  ev, evs, evO, evI, evC, evTs, AI.ex, asgG, asgGs, getV, wp_exs, wp_exs_nil, goS_nx, goS_rt, goS_bk, goS_ct, turnE_nx, turnE_ct, turnE_bk, turnE_rt, endD_rt, endD_nx, back_pd, binS, isFz, cmpS, biS, dats, truth, isiS, allPd, isiD, rkOf, join_some, Option.map, List.map, List.length_cons, List.length_nil, List.getElem?_cons_zero, List.getElem?_cons_succ, List.set_cons_zero, List.set_cons_succ, startS, atI_pos, atI_cast, Int.toNat_natCast, wp_newL1, wp_newL2, wp_newT1, List.length_set, List.set_set, decide_eq_true_eq, decide_eq_false_iff_not, Bool.not_eq_true', true_and, and_true,  ixN_pos, Int.reduceLE, Int.reduceLT, Int.reduceToNat, Int.reduceAdd, Int.reduceSub, Int.reduceMul, Int.reduceMod, Int.reduceNeg, Int.reducePow, Nat.reduceAdd, Nat.reduceLT, Nat.reduceLeDiff, Nat.reduceSub, reduceIte, Int.reduceEq, List.isEmpty_nil, Bool.false_eq_true, Bool.true_eq_false, decide_true, decide_false, ge_iff_le, gt_iff_lt,  wp_eq_int, wp_eq_str, wp_eq_bool, List.length_map, List.replicate, List.cons_append, List.nil_append, Bool.not_false, Bool.not_true, Bool.and_true, Bool.true_and, Bool.and_self, Bool.and_false, Bool.false_and, Option.bind, bn_add, bn_sub, bn_mul, bn_div, bn_mod, bn_pow, bn_addS, bn_addT, bn_addL, cp_eq, cp_ne, cp_ltI, cp_leI, cp_gtI, cp_geI, cp_ltS, cp_leS, cp_gtS, cp_geS, cp_ltT, cp_gtT, cp_in, cp_nin, cp_is, cp_isn, ix_l, ix_t, ix_s, ixs_tp, ixs_pd, ixs_rf, ixs_fz, cel_d, cel_r, mkLst, clsOf, clOf_d, clOf_r, wp_reprB, revS, isi2S, Bool.or_false, Bool.or_true, Bool.false_or, Bool.true_or, bi_lenL, bi_lenT, bi_lenS, bi_listL, bi_listT, bi_tupL, bi_tupT, bi_intI, bi_intB, bi_strI, bi_strS, bi_abs, bi_max, bi_min, bi_all, bi_any, bi_sum, in_l, in_t, in_s, tr_b, tr_i, tr_n, tr_l, tr_t, so_l, so_t, so_s, so_f, io_t, ng_i, pt_i, ag_a, ag_s, rv_l, rv_t, ap_d, rk_l, rk_t, rk_s, rg_1, rg_2, sl_l, sl_t, sl_s, mt_ixS, wp_mkT0, wp_mkT1, wp_mkT2, wp_mkT3, wp_mkT4, wp_mkT5, wp_mkT6, wp_mkT7, wp_mkT8, wp_datR, wp_idxR, wp_setR, wp_appR, set_last, get_last, le_line, lt_line, wp_newM, lg9, meth_words, wp_mkTR, not_true_eq_false, not_false_eq_true, eq_self, ofString_inj, String.reduceEq, wipeS, wp_inS, false_and, and_false, b_names2]
  refine draw2 ed t (by omega) (by decide) fun v c1 b1 t1 hv => ?_
  have v0 := hv.1
  have v1 : v < 4 := hv.2
  simp only [wp_ret, wp_bnd, wp_some, wp_grd, wp_no, wp_dat_pd, wp_dat_fz,  ev, evs, evO, evI, evC, evTs, AI.ex, asgG, asgGs, getV, wp_exs, wp_exs_nil, goS_nx, goS_rt, goS_bk, goS_ct, turnE_nx, turnE_ct, turnE_bk, turnE_rt, endD_rt, endD_nx, back_pd, binS, isFz, cmpS, biS, dats, truth, isiS, allPd, isiD, rkOf, join_some, Option.map, List.map, List.length_cons, List.length_nil, List.getElem?_cons_zero, List.getElem?_cons_succ, List.set_cons_zero, List.set_cons_succ, startS, atI_pos, atI_cast, Int.toNat_natCast, wp_newL1, wp_newL2, wp_newT1, List.length_set, List.set_set, decide_eq_true_eq, decide_eq_false_iff_not, Bool.not_eq_true', true_and, and_true,  ixN_pos, Int.reduceLE, Int.reduceLT, Int.reduceToNat, Int.reduceAdd, Int.reduceSub, Int.reduceMul, Int.reduceMod, Int.reduceNeg, Int.reducePow, Nat.reduceAdd, Nat.reduceLT, Nat.reduceLeDiff, Nat.reduceSub, reduceIte, Int.reduceEq, List.isEmpty_nil, Bool.false_eq_true, Bool.true_eq_false, decide_true, decide_false, ge_iff_le, gt_iff_lt,  wp_eq_int, wp_eq_str, wp_eq_bool, List.length_map, List.replicate, List.cons_append, List.nil_append, Bool.not_false, Bool.not_true, Bool.and_true, Bool.true_and, Bool.and_self, Bool.and_false, Bool.false_and, Option.bind, bn_add, bn_sub, bn_mul, bn_div, bn_mod, bn_pow, bn_addS, bn_addT, bn_addL, cp_eq, cp_ne, cp_ltI, cp_leI, cp_gtI, cp_geI, cp_ltS, cp_leS, cp_gtS, cp_geS, cp_ltT, cp_gtT, cp_in, cp_nin, cp_is, cp_isn, ix_l, ix_t, ix_s, ixs_tp, ixs_pd, ixs_rf, ixs_fz, cel_d, cel_r, mkLst, clsOf, clOf_d, clOf_r, wp_reprB, revS, isi2S, Bool.or_false, Bool.or_true, Bool.false_or, Bool.true_or, bi_lenL, bi_lenT, bi_lenS, bi_listL, bi_listT, bi_tupL, bi_tupT, bi_intI, bi_intB, bi_strI, bi_strS, bi_abs, bi_max, bi_min, bi_all, bi_any, bi_sum, in_l, in_t, in_s, tr_b, tr_i, tr_n, tr_l, tr_t, so_l, so_t, so_s, so_f, io_t, ng_i, pt_i, ag_a, ag_s, rv_l, rv_t, ap_d, rk_l, rk_t, rk_s, rg_1, rg_2, sl_l, sl_t, sl_s, mt_ixS, wp_mkT0, wp_mkT1, wp_mkT2, wp_mkT3, wp_mkT4, wp_mkT5, wp_mkT6, wp_mkT7, wp_mkT8, wp_datR, wp_idxR, wp_setR, wp_appR, set_last, get_last, le_line, lt_line, wp_newM, lg9, meth_words, wp_mkTR, not_true_eq_false, not_false_eq_true, eq_self, ofString_inj, String.reduceEq, wipeS, wp_inS, false_and, and_false]
  refine draw2 ed t1 (by omega) (Int.lt_trans (show (m : Int) < 1000 by omega) (by decide)) fun w c2 b2 t2 hw => ?_
  have w0 := hw.1
  have w1 : w < m := by have := hw.2; split at this <;> omega
  simp only [wp_ret, wp_bnd, wp_some, wp_grd, wp_no, wp_dat_pd, wp_dat_fz,  ev, evs, evO, evI, evC, evTs, AI.ex, asgG, asgGs, getV, wp_exs, wp_exs_nil, goS_nx, goS_rt, goS_bk, goS_ct, turnE_nx, turnE_ct, turnE_bk, turnE_rt, endD_rt, endD_nx, back_pd, binS, isFz, cmpS, biS, dats, truth, isiS, allPd, isiD, rkOf, join_some, Option.map, List.map, List.length_cons, List.length_nil, List.getElem?_cons_zero, List.getElem?_cons_succ, List.set_cons_zero, List.set_cons_succ, startS, atI_pos, atI_cast, Int.toNat_natCast, wp_newL1, wp_newL2, wp_newT1, List.length_set, List.set_set, decide_eq_true_eq, decide_eq_false_iff_not, Bool.not_eq_true', true_and, and_true,  ixN_pos, Int.reduceLE, Int.reduceLT, Int.reduceToNat, Int.reduceAdd, Int.reduceSub, Int.reduceMul, Int.reduceMod, Int.reduceNeg, Int.reducePow, Nat.reduceAdd, Nat.reduceLT, Nat.reduceLeDiff, Nat.reduceSub, reduceIte, Int.reduceEq, List.isEmpty_nil, Bool.false_eq_true, Bool.true_eq_false, decide_true, decide_false, ge_iff_le, gt_iff_lt,  wp_eq_int, wp_eq_str, wp_eq_bool, List.length_map, List.replicate, List.cons_append, List.nil_append, Bool.not_false, Bool.not_true, Bool.and_true, Bool.true_and, Bool.and_self, Bool.and_false, Bool.false_and, Option.bind, bn_add, bn_sub, bn_mul, bn_div, bn_mod, bn_pow, bn_addS, bn_addT, bn_addL, cp_eq, cp_ne, cp_ltI, cp_leI, cp_gtI, cp_geI, cp_ltS, cp_leS, cp_gtS, cp_geS, cp_ltT, cp_gtT, cp_in, cp_nin, cp_is, cp_isn, ix_l, ix_t, ix_s, ixs_tp, ixs_pd, ixs_rf, ixs_fz, cel_d, cel_r, mkLst, clsOf, clOf_d, clOf_r, wp_reprB, revS, isi2S, Bool.or_false, Bool.or_true, Bool.false_or, Bool.true_or, bi_lenL, bi_lenT, bi_lenS, bi_listL, bi_listT, bi_tupL, bi_tupT, bi_intI, bi_intB, bi_strI, bi_strS, bi_abs, bi_max, bi_min, bi_all, bi_any, bi_sum, in_l, in_t, in_s, tr_b, tr_i, tr_n, tr_l, tr_t, so_l, so_t, so_s, so_f, io_t, ng_i, pt_i, ag_a, ag_s, rv_l, rv_t, ap_d, rk_l, rk_t, rk_s, rg_1, rg_2, sl_l, sl_t, sl_s, mt_ixS, wp_mkT0, wp_mkT1, wp_mkT2, wp_mkT3, wp_mkT4, wp_mkT5, wp_mkT6, wp_mkT7, wp_mkT8, wp_datR, wp_idxR, wp_setR, wp_appR, set_last, get_last, le_line, lt_line, wp_newM, lg9, meth_words, wp_mkTR, not_true_eq_false, not_false_eq_true, eq_self, ofString_inj, String.reduceEq, wipeS, wp_inS, false_and, and_false]
  refine ⟨⟨by omega, by omega⟩, ?_⟩
  refine wp_rngJ (fun i σ h' => ∃ xs c' b' y5 y6 y7 y8 y9 y10, Tp (B + 2 + i) c' b' ∧ h' = c' :: b' :: (hs ++ [.lst (xs.map .str)]) ∧ σ = [some (.rf 1), some (.pd (.int m)), some (.pd (.str "abcdefghijklmnopqrstuvwxyz0123456789_")), some (.pd (.int v)), some (.rf (hs.length + 1 + 1)), y5, y6, y7, y8, y9, y10] ∧ xs.Nodup ∧ xs.length ≤ i ∧ (1 ≤ i → 1 ≤ xs.length) ∧ ∀ x ∈ xs, TxtOk 30 x) ⟨[], c2, b2, none, none, none, none, none, none, t2, rfl, rfl, List.nodup_nil, by simp, by omega, by simp⟩ ?_ ?_
  · rintro k hk σ h' ⟨xs, c3, b3, y5, y6, y7, y8, y9, y10, t3, rfl, rfl, nd, le, ps, sh⟩ J hJ
    simp only [wp_ret, wp_bnd, wp_some, wp_grd, wp_no, wp_dat_pd, wp_dat_fz,  ev, evs, evO, evI, evC, evTs, AI.ex, asgG, asgGs, getV, wp_exs, wp_exs_nil, goS_nx, goS_rt, goS_bk, goS_ct, turnE_nx, turnE_ct, turnE_bk, turnE_rt, endD_rt, endD_nx, back_pd, binS, isFz, cmpS, biS, dats, truth, isiS, allPd, isiD, rkOf, join_some, Option.map, List.map, List.length_cons, List.length_nil, List.getElem?_cons_zero, List.getElem?_cons_succ, List.set_cons_zero, List.set_cons_succ, startS, atI_pos, atI_cast, Int.toNat_natCast, wp_newL1, wp_newL2, wp_newT1, List.length_set, List.set_set, decide_eq_true_eq, decide_eq_false_iff_not, Bool.not_eq_true', true_and, and_true,  ixN_pos, Int.reduceLE, Int.reduceLT, Int.reduceToNat, Int.reduceAdd, Int.reduceSub, Int.reduceMul, Int.reduceMod, Int.reduceNeg, Int.reducePow, Nat.reduceAdd, Nat.reduceLT, Nat.reduceLeDiff, Nat.reduceSub, reduceIte, Int.reduceEq, List.isEmpty_nil, Bool.false_eq_true, Bool.true_eq_false, decide_true, decide_false, ge_iff_le, gt_iff_lt,  wp_eq_int, wp_eq_str, wp_eq_bool, List.length_map, List.replicate, List.cons_append, List.nil_append, Bool.not_false, Bool.not_true, Bool.and_true, Bool.true_and, Bool.and_self, Bool.and_false, Bool.false_and, Option.bind, bn_add, bn_sub, bn_mul, bn_div, bn_mod, bn_pow, bn_addS, bn_addT, bn_addL, cp_eq, cp_ne, cp_ltI, cp_leI, cp_gtI, cp_geI, cp_ltS, cp_leS, cp_gtS, cp_geS, cp_ltT, cp_gtT, cp_in, cp_nin, cp_is, cp_isn, ix_l, ix_t, ix_s, ixs_tp, ixs_pd, ixs_rf, ixs_fz, cel_d, cel_r, mkLst, clsOf, clOf_d, clOf_r, wp_reprB, revS, isi2S, Bool.or_false, Bool.or_true, Bool.false_or, Bool.true_or, bi_lenL, bi_lenT, bi_lenS, bi_listL, bi_listT, bi_tupL, bi_tupT, bi_intI, bi_intB, bi_strI, bi_strS, bi_abs, bi_max, bi_min, bi_all, bi_any, bi_sum, in_l, in_t, in_s, tr_b, tr_i, tr_n, tr_l, tr_t, so_l, so_t, so_s, so_f, io_t, ng_i, pt_i, ag_a, ag_s, rv_l, rv_t, ap_d, rk_l, rk_t, rk_s, rg_1, rg_2, sl_l, sl_t, sl_s, mt_ixS, wp_mkT0, wp_mkT1, wp_mkT2, wp_mkT3, wp_mkT4, wp_mkT5, wp_mkT6, wp_mkT7, wp_mkT8, wp_datR, wp_idxR, wp_setR, wp_appR, set_last, get_last, le_line, lt_line, wp_newM, lg9, meth_words, wp_mkTR, not_true_eq_false, not_false_eq_true, eq_self, ofString_inj, String.reduceEq, wipeS, wp_inS, false_and, and_false]
    refine draw2 ed t3 (by omega) (by decide) fun z c4 b4 t4 hz => ?_
    have z0 := hz.1
    have hsl := sizeLine_eq
    have L1 : (Str.ofString "abcdefghijklmnopqrstuvwxyz0123456789_").length = 37 := by decide +kernel
    have L2 : (Str.ofString "transaction").length = 11 := by decide +kernel
    have L3 : (Str.ofString "reservation_x").length = 13 := by decide +kernel
    have L4 : (Str.ofString "schema undecided prepared mentioned possible row when begin execute prepare learn").length = 81 := by decide +kernel
    simp only [wp_ret, wp_bnd, wp_some, wp_grd, wp_no, wp_dat_pd, wp_dat_fz,  ev, evs, evO, evI, evC, evTs, AI.ex, asgG, asgGs, getV, wp_exs, wp_exs_nil, goS_nx, goS_rt, goS_bk, goS_ct, turnE_nx, turnE_ct, turnE_bk, turnE_rt, endD_rt, endD_nx, back_pd, binS, isFz, cmpS, biS, dats, truth, isiS, allPd, isiD, rkOf, join_some, Option.map, List.map, List.length_cons, List.length_nil, List.getElem?_cons_zero, List.getElem?_cons_succ, List.set_cons_zero, List.set_cons_succ, startS, atI_pos, atI_cast, Int.toNat_natCast, wp_newL1, wp_newL2, wp_newT1, List.length_set, List.set_set, decide_eq_true_eq, decide_eq_false_iff_not, Bool.not_eq_true', true_and, and_true,  ixN_pos, Int.reduceLE, Int.reduceLT, Int.reduceToNat, Int.reduceAdd, Int.reduceSub, Int.reduceMul, Int.reduceMod, Int.reduceNeg, Int.reducePow, Nat.reduceAdd, Nat.reduceLT, Nat.reduceLeDiff, Nat.reduceSub, reduceIte, Int.reduceEq, List.isEmpty_nil, Bool.false_eq_true, Bool.true_eq_false, decide_true, decide_false, ge_iff_le, gt_iff_lt,  wp_eq_int, wp_eq_str, wp_eq_bool, List.length_map, List.replicate, List.cons_append, List.nil_append, Bool.not_false, Bool.not_true, Bool.and_true, Bool.true_and, Bool.and_self, Bool.and_false, Bool.false_and, Option.bind, bn_add, bn_sub, bn_mul, bn_div, bn_mod, bn_pow, bn_addS, bn_addT, bn_addL, cp_eq, cp_ne, cp_ltI, cp_leI, cp_gtI, cp_geI, cp_ltS, cp_leS, cp_gtS, cp_geS, cp_ltT, cp_gtT, cp_in, cp_nin, cp_is, cp_isn, ix_l, ix_t, ix_s, ixs_tp, ixs_pd, ixs_rf, ixs_fz, cel_d, cel_r, mkLst, clsOf, clOf_d, clOf_r, wp_reprB, revS, isi2S, Bool.or_false, Bool.or_true, Bool.false_or, Bool.true_or, bi_lenL, bi_lenT, bi_lenS, bi_listL, bi_listT, bi_tupL, bi_tupT, bi_intI, bi_intB, bi_strI, bi_strS, bi_abs, bi_max, bi_min, bi_all, bi_any, bi_sum, in_l, in_t, in_s, tr_b, tr_i, tr_n, tr_l, tr_t, so_l, so_t, so_s, so_f, io_t, ng_i, pt_i, ag_a, ag_s, rv_l, rv_t, ap_d, rk_l, rk_t, rk_s, rg_1, rg_2, sl_l, sl_t, sl_s, mt_ixS, wp_mkT0, wp_mkT1, wp_mkT2, wp_mkT3, wp_mkT4, wp_mkT5, wp_mkT6, wp_mkT7, wp_mkT8, wp_datR, wp_idxR, wp_setR, wp_appR, set_last, get_last, le_line, lt_line, wp_newM, lg9, meth_words, wp_mkTR, not_true_eq_false, not_false_eq_true, eq_self, ofString_inj, String.reduceEq, wipeS, wp_inS, false_and, and_false, L1, L2, L3, L4]
    refine wp_atM (emod_rng _ (by decide)).1 (by rw [str_size, L1]; exact (emod_rng _ (by decide)).2) fun a1 m1 => wp_atM (emod_rng _ (by decide)).1 (by rw [str_size, L1]; exact (emod_rng _ (by decide)).2) fun a2 m2 => ⟨by rw [str_one, str_one]; omega, ?_⟩
    refine wp_atM (emod_rng _ (by decide)).1 (by rw [str_size, L1]; exact Int.lt_trans (emod_rng _ (by decide)).2 (by decide)) fun a3 m3 => ?_
    refine wp_atA (fun d => ∃ i : Int, d = .int i) (emod_rng _ (by decide)).1 (emod_rng _ (by decide)).2 ⟨⟨_, rfl⟩, ⟨_, rfl⟩, ⟨_, rfl⟩, ⟨_, rfl⟩, trivial⟩ fun d ⟨i, ei⟩ => ?_
    subst ei
    simp only [wp_ret, wp_bnd, wp_some, wp_grd, wp_no, wp_dat_pd, wp_dat_fz,  ev, evs, evO, evI, evC, evTs, AI.ex, asgG, asgGs, getV, wp_exs, wp_exs_nil, goS_nx, goS_rt, goS_bk, goS_ct, turnE_nx, turnE_ct, turnE_bk, turnE_rt, endD_rt, endD_nx, back_pd, binS, isFz, cmpS, biS, dats, truth, isiS, allPd, isiD, rkOf, join_some, Option.map, List.map, List.length_cons, List.length_nil, List.getElem?_cons_zero, List.getElem?_cons_succ, List.set_cons_zero, List.set_cons_succ, startS, atI_pos, atI_cast, Int.toNat_natCast, wp_newL1, wp_newL2, wp_newT1, List.length_set, List.set_set, decide_eq_true_eq, decide_eq_false_iff_not, Bool.not_eq_true', true_and, and_true,  ixN_pos, Int.reduceLE, Int.reduceLT, Int.reduceToNat, Int.reduceAdd, Int.reduceSub, Int.reduceMul, Int.reduceMod, Int.reduceNeg, Int.reducePow, Nat.reduceAdd, Nat.reduceLT, Nat.reduceLeDiff, Nat.reduceSub, reduceIte, Int.reduceEq, List.isEmpty_nil, Bool.false_eq_true, Bool.true_eq_false, decide_true, decide_false, ge_iff_le, gt_iff_lt,  wp_eq_int, wp_eq_str, wp_eq_bool, List.length_map, List.replicate, List.cons_append, List.nil_append, Bool.not_false, Bool.not_true, Bool.and_true, Bool.true_and, Bool.and_self, Bool.and_false, Bool.false_and, Option.bind, bn_add, bn_sub, bn_mul, bn_div, bn_mod, bn_pow, bn_addS, bn_addT, bn_addL, cp_eq, cp_ne, cp_ltI, cp_leI, cp_gtI, cp_geI, cp_ltS, cp_leS, cp_gtS, cp_geS, cp_ltT, cp_gtT, cp_in, cp_nin, cp_is, cp_isn, ix_l, ix_t, ix_s, ixs_tp, ixs_pd, ixs_rf, ixs_fz, cel_d, cel_r, mkLst, clsOf, clOf_d, clOf_r, wp_reprB, revS, isi2S, Bool.or_false, Bool.or_true, Bool.false_or, Bool.true_or, bi_lenL, bi_lenT, bi_lenS, bi_listL, bi_listT, bi_tupL, bi_tupT, bi_intI, bi_intB, bi_strI, bi_strS, bi_abs, bi_max, bi_min, bi_all, bi_any, bi_sum, in_l, in_t, in_s, tr_b, tr_i, tr_n, tr_l, tr_t, so_l, so_t, so_s, so_f, io_t, ng_i, pt_i, ag_a, ag_s, rv_l, rv_t, ap_d, rk_l, rk_t, rk_s, rg_1, rg_2, sl_l, sl_t, sl_s, mt_ixS, wp_mkT0, wp_mkT1, wp_mkT2, wp_mkT3, wp_mkT4, wp_mkT5, wp_mkT6, wp_mkT7, wp_mkT8, wp_datR, wp_idxR, wp_setR, wp_appR, set_last, get_last, le_line, lt_line, wp_newM, lg9, meth_words, wp_mkTR, not_true_eq_false, not_false_eq_true, eq_self, ofString_inj, String.reduceEq, wipeS, wp_inS, false_and, and_false, L1, L2, L3, L4, words_plain]
    have g1 : TxtOk 2 (cutS ({ cps := #[a1] } ++ { cps := #[a2] }) none (some i)) := ((TxtOk.one (low_SG a1 m1)).add (TxtOk.one (low_SG a2 m2))).cut _ _
    have g2 : TxtOk 3 (({ cps := #[a3] } : Str) ++ cutS ({ cps := #[a1] } ++ { cps := #[a2] }) none (some i)) := (TxtOk.one (low_SG a3 m3)).add g1
    have l1 := g1.1
    have l2 := g2.1
    have l3 : 1 ≤ (({ cps := #[a3] } : Str) ++ cutS ({ cps := #[a1] } ++ { cps := #[a2] }) none (some i)).length := by rw [str_len, str_one]; omega
    generalize (({ cps := #[a3] } : Str) ++ cutS ({ cps := #[a1] } ++ { cps := #[a2] }) none (some i)) = s0 at *
    refine ⟨by rw [str_len, str_one, str_one]; omega, by rw [str_one]; omega, ?_⟩
    refine wp_atA (fun d => ∃ s : Str, d = .str s ∧ TxtOk 9 s) (emod_rng _ (by decide)).1 (emod_rng _ (by decide)).2 (by repeat' first | exact trivial | refine ⟨⟨_, rfl, TxtOk.lit (by decide +kernel)⟩, ?_⟩) fun d ⟨p, ep, hp⟩ => ?_
    subst ep
    refine ⟨by omega, by omega, wp_at (List.getElem?_eq_getElem (show 0 < s0.cps.toList.length by rw [str_size]; omega)) ?_⟩
    have gt : TxtOk 11 (Str.ofString "transaction") := TxtOk.lit (by decide +kernel)
    have gr : TxtOk 13 (Str.ofString "reservation_x") := TxtOk.lit (by decide +kernel)
    have g4 : TxtOk 11 (cutS (Str.ofString "transaction") none (some (z / 142376 % 11))) := gt.cut _ _
    have g5 : TxtOk 11 (cutS (Str.ofString "transaction") (some (z / 142376 % 11 + 1)) none) := gt.cut _ _
    have g6 := g4.add (TxtOk.one (g2.2 _ (List.getElem_mem (show 0 < s0.cps.toList.length by rw [str_size]; omega))))
    have l4 := g4.1
    have l5 := g5.1
    have l6 := g6.1
    refine ⟨by rw [str_one]; omega, by omega, ?_⟩
    refine wp_atA (fun d => ∃ s : Str, d = .str s ∧ TxtOk 25 s) v0 v1 ⟨⟨_, rfl, g2.up (by decide)⟩, ⟨_, rfl, (gr.add g2).up (by decide)⟩, ⟨_, rfl, (g6.add g5).up (by decide)⟩, ⟨_, rfl, hp.up (by decide)⟩, trivial⟩ fun d ⟨s, es, hsz⟩ => ?_
    subst es
    simp only [wp_ret, wp_bnd, wp_some, wp_grd, wp_no, wp_dat_pd, wp_dat_fz,  ev, evs, evO, evI, evC, evTs, AI.ex, asgG, asgGs, getV, wp_exs, wp_exs_nil, goS_nx, goS_rt, goS_bk, goS_ct, turnE_nx, turnE_ct, turnE_bk, turnE_rt, endD_rt, endD_nx, back_pd, binS, isFz, cmpS, biS, dats, truth, isiS, allPd, isiD, rkOf, join_some, Option.map, List.map, List.length_cons, List.length_nil, List.getElem?_cons_zero, List.getElem?_cons_succ, List.set_cons_zero, List.set_cons_succ, startS, atI_pos, atI_cast, Int.toNat_natCast, wp_newL1, wp_newL2, wp_newT1, List.length_set, List.set_set, decide_eq_true_eq, decide_eq_false_iff_not, Bool.not_eq_true', true_and, and_true,  ixN_pos, Int.reduceLE, Int.reduceLT, Int.reduceToNat, Int.reduceAdd, Int.reduceSub, Int.reduceMul, Int.reduceMod, Int.reduceNeg, Int.reducePow, Nat.reduceAdd, Nat.reduceLT, Nat.reduceLeDiff, Nat.reduceSub, reduceIte, Int.reduceEq, List.isEmpty_nil, Bool.false_eq_true, Bool.true_eq_false, decide_true, decide_false, ge_iff_le, gt_iff_lt,  wp_eq_int, wp_eq_str, wp_eq_bool, List.length_map, List.replicate, List.cons_append, List.nil_append, Bool.not_false, Bool.not_true, Bool.and_true, Bool.true_and, Bool.and_self, Bool.and_false, Bool.false_and, Option.bind, bn_add, bn_sub, bn_mul, bn_div, bn_mod, bn_pow, bn_addS, bn_addT, bn_addL, cp_eq, cp_ne, cp_ltI, cp_leI, cp_gtI, cp_geI, cp_ltS, cp_leS, cp_gtS, cp_geS, cp_ltT, cp_gtT, cp_in, cp_nin, cp_is, cp_isn, ix_l, ix_t, ix_s, ixs_tp, ixs_pd, ixs_rf, ixs_fz, cel_d, cel_r, mkLst, clsOf, clOf_d, clOf_r, wp_reprB, revS, isi2S, Bool.or_false, Bool.or_true, Bool.false_or, Bool.true_or, bi_lenL, bi_lenT, bi_lenS, bi_listL, bi_listT, bi_tupL, bi_tupT, bi_intI, bi_intB, bi_strI, bi_strS, bi_abs, bi_max, bi_min, bi_all, bi_any, bi_sum, in_l, in_t, in_s, tr_b, tr_i, tr_n, tr_l, tr_t, so_l, so_t, so_s, so_f, io_t, ng_i, pt_i, ag_a, ag_s, rv_l, rv_t, ap_d, rk_l, rk_t, rk_s, rg_1, rg_2, sl_l, sl_t, sl_s, mt_ixS, wp_mkT0, wp_mkT1, wp_mkT2, wp_mkT3, wp_mkT4, wp_mkT5, wp_mkT6, wp_mkT7, wp_mkT8, wp_datR, wp_idxR, wp_setR, wp_appR, set_last, get_last, le_line, lt_line, wp_newM, lg9, meth_words, wp_mkTR, not_true_eq_false, not_false_eq_true, eq_self, ofString_inj, String.reduceEq, wipeS, wp_inS, false_and, and_false]
    refine wp_join (fun f h' => ∃ s' : Str, TxtOk 30 s' ∧ h' = c4 :: b4 :: (hs ++ [.lst (xs.map .str)]) ∧ f = .nx [some (.rf 1), some (.pd (.int m)), some (.pd (.str "abcdefghijklmnopqrstuvwxyz0123456789_")), some (.pd (.int v)), some (.rf (hs.length + 1 + 1)), some (.pd (.int (0 + (k : Int)))), some (.pd (.int z)), some (.pd (.str ({ cps := #[a1] } ++ { cps := #[a2] }))), some (.pd (.str s')), some (.pd (.int (z / 142376 % 11))), some (.pd (.str p))]) (fun J' hJ' => ?_) ?_
    · refine wp_if (fun c0 => ?_) (fun c0 => ?_)
      · simp only [wp_ret, wp_bnd, wp_some, wp_grd, wp_no, wp_dat_pd, wp_dat_fz,  ev, evs, evO, evI, evC, evTs, AI.ex, asgG, asgGs, getV, wp_exs, wp_exs_nil, goS_nx, goS_rt, goS_bk, goS_ct, turnE_nx, turnE_ct, turnE_bk, turnE_rt, endD_rt, endD_nx, back_pd, binS, isFz, cmpS, biS, dats, truth, isiS, allPd, isiD, rkOf, join_some, Option.map, List.map, List.length_cons, List.length_nil, List.getElem?_cons_zero, List.getElem?_cons_succ, List.set_cons_zero, List.set_cons_succ, startS, atI_pos, atI_cast, Int.toNat_natCast, wp_newL1, wp_newL2, wp_newT1, List.length_set, List.set_set, decide_eq_true_eq, decide_eq_false_iff_not, Bool.not_eq_true', true_and, and_true,  ixN_pos, Int.reduceLE, Int.reduceLT, Int.reduceToNat, Int.reduceAdd, Int.reduceSub, Int.reduceMul, Int.reduceMod, Int.reduceNeg, Int.reducePow, Nat.reduceAdd, Nat.reduceLT, Nat.reduceLeDiff, Nat.reduceSub, reduceIte, Int.reduceEq, List.isEmpty_nil, Bool.false_eq_true, Bool.true_eq_false, decide_true, decide_false, ge_iff_le, gt_iff_lt,  wp_eq_int, wp_eq_str, wp_eq_bool, List.length_map, List.replicate, List.cons_append, List.nil_append, Bool.not_false, Bool.not_true, Bool.and_true, Bool.true_and, Bool.and_self, Bool.and_false, Bool.false_and, Option.bind, bn_add, bn_sub, bn_mul, bn_div, bn_mod, bn_pow, bn_addS, bn_addT, bn_addL, cp_eq, cp_ne, cp_ltI, cp_leI, cp_gtI, cp_geI, cp_ltS, cp_leS, cp_gtS, cp_geS, cp_ltT, cp_gtT, cp_in, cp_nin, cp_is, cp_isn, ix_l, ix_t, ix_s, ixs_tp, ixs_pd, ixs_rf, ixs_fz, cel_d, cel_r, mkLst, clsOf, clOf_d, clOf_r, wp_reprB, revS, isi2S, Bool.or_false, Bool.or_true, Bool.false_or, Bool.true_or, bi_lenL, bi_lenT, bi_lenS, bi_listL, bi_listT, bi_tupL, bi_tupT, bi_intI, bi_intB, bi_strI, bi_strS, bi_abs, bi_max, bi_min, bi_all, bi_any, bi_sum, in_l, in_t, in_s, tr_b, tr_i, tr_n, tr_l, tr_t, so_l, so_t, so_s, so_f, io_t, ng_i, pt_i, ag_a, ag_s, rv_l, rv_t, ap_d, rk_l, rk_t, rk_s, rg_1, rg_2, sl_l, sl_t, sl_s, mt_ixS, wp_mkT0, wp_mkT1, wp_mkT2, wp_mkT3, wp_mkT4, wp_mkT5, wp_mkT6, wp_mkT7, wp_mkT8, wp_datR, wp_idxR, wp_setR, wp_appR, set_last, get_last, le_line, lt_line, wp_newM, lg9, meth_words, wp_mkTR, not_true_eq_false, not_false_eq_true, eq_self, ofString_inj, String.reduceEq, wipeS, wp_inS, false_and, and_false]
        exact ⟨by rw [show (Str.ofString "_").length = 1 by decide +kernel]; have := hsz.1; omega, hJ' _ _ ⟨_, (hsz.add (m' := 1) (TxtOk.lit (by decide +kernel))).up (by decide), rfl, rfl⟩⟩
      · simp only [wp_ret, wp_bnd, wp_some, wp_grd, wp_no, wp_dat_pd, wp_dat_fz,  ev, evs, evO, evI, evC, evTs, AI.ex, asgG, asgGs, getV, wp_exs, wp_exs_nil, goS_nx, goS_rt, goS_bk, goS_ct, turnE_nx, turnE_ct, turnE_bk, turnE_rt, endD_rt, endD_nx, back_pd, binS, isFz, cmpS, biS, dats, truth, isiS, allPd, isiD, rkOf, join_some, Option.map, List.map, List.length_cons, List.length_nil, List.getElem?_cons_zero, List.getElem?_cons_succ, List.set_cons_zero, List.set_cons_succ, startS, atI_pos, atI_cast, Int.toNat_natCast, wp_newL1, wp_newL2, wp_newT1, List.length_set, List.set_set, decide_eq_true_eq, decide_eq_false_iff_not, Bool.not_eq_true', true_and, and_true,  ixN_pos, Int.reduceLE, Int.reduceLT, Int.reduceToNat, Int.reduceAdd, Int.reduceSub, Int.reduceMul, Int.reduceMod, Int.reduceNeg, Int.reducePow, Nat.reduceAdd, Nat.reduceLT, Nat.reduceLeDiff, Nat.reduceSub, reduceIte, Int.reduceEq, List.isEmpty_nil, Bool.false_eq_true, Bool.true_eq_false, decide_true, decide_false, ge_iff_le, gt_iff_lt,  wp_eq_int, wp_eq_str, wp_eq_bool, List.length_map, List.replicate, List.cons_append, List.nil_append, Bool.not_false, Bool.not_true, Bool.and_true, Bool.true_and, Bool.and_self, Bool.and_false, Bool.false_and, Option.bind, bn_add, bn_sub, bn_mul, bn_div, bn_mod, bn_pow, bn_addS, bn_addT, bn_addL, cp_eq, cp_ne, cp_ltI, cp_leI, cp_gtI, cp_geI, cp_ltS, cp_leS, cp_gtS, cp_geS, cp_ltT, cp_gtT, cp_in, cp_nin, cp_is, cp_isn, ix_l, ix_t, ix_s, ixs_tp, ixs_pd, ixs_rf, ixs_fz, cel_d, cel_r, mkLst, clsOf, clOf_d, clOf_r, wp_reprB, revS, isi2S, Bool.or_false, Bool.or_true, Bool.false_or, Bool.true_or, bi_lenL, bi_lenT, bi_lenS, bi_listL, bi_listT, bi_tupL, bi_tupT, bi_intI, bi_intB, bi_strI, bi_strS, bi_abs, bi_max, bi_min, bi_all, bi_any, bi_sum, in_l, in_t, in_s, tr_b, tr_i, tr_n, tr_l, tr_t, so_l, so_t, so_s, so_f, io_t, ng_i, pt_i, ag_a, ag_s, rv_l, rv_t, ap_d, rk_l, rk_t, rk_s, rg_1, rg_2, sl_l, sl_t, sl_s, mt_ixS, wp_mkT0, wp_mkT1, wp_mkT2, wp_mkT3, wp_mkT4, wp_mkT5, wp_mkT6, wp_mkT7, wp_mkT8, wp_datR, wp_idxR, wp_setR, wp_appR, set_last, get_last, le_line, lt_line, wp_newM, lg9, meth_words, wp_mkTR, not_true_eq_false, not_false_eq_true, eq_self, ofString_inj, String.reduceEq, wipeS, wp_inS, false_and, and_false]
        exact hJ' _ _ ⟨_, hsz.up (by decide), rfl, rfl⟩
    rintro f h' ⟨s', hs', rfl, rfl⟩
    simp only [wp_ret, wp_bnd, wp_some, wp_grd, wp_no, wp_dat_pd, wp_dat_fz,  ev, evs, evO, evI, evC, evTs, AI.ex, asgG, asgGs, getV, wp_exs, wp_exs_nil, goS_nx, goS_rt, goS_bk, goS_ct, turnE_nx, turnE_ct, turnE_bk, turnE_rt, endD_rt, endD_nx, back_pd, binS, isFz, cmpS, biS, dats, truth, isiS, allPd, isiD, rkOf, join_some, Option.map, List.map, List.length_cons, List.length_nil, List.getElem?_cons_zero, List.getElem?_cons_succ, List.set_cons_zero, List.set_cons_succ, startS, atI_pos, atI_cast, Int.toNat_natCast, wp_newL1, wp_newL2, wp_newT1, List.length_set, List.set_set, decide_eq_true_eq, decide_eq_false_iff_not, Bool.not_eq_true', true_and, and_true,  ixN_pos, Int.reduceLE, Int.reduceLT, Int.reduceToNat, Int.reduceAdd, Int.reduceSub, Int.reduceMul, Int.reduceMod, Int.reduceNeg, Int.reducePow, Nat.reduceAdd, Nat.reduceLT, Nat.reduceLeDiff, Nat.reduceSub, reduceIte, Int.reduceEq, List.isEmpty_nil, Bool.false_eq_true, Bool.true_eq_false, decide_true, decide_false, ge_iff_le, gt_iff_lt,  wp_eq_int, wp_eq_str, wp_eq_bool, List.length_map, List.replicate, List.cons_append, List.nil_append, Bool.not_false, Bool.not_true, Bool.and_true, Bool.true_and, Bool.and_self, Bool.and_false, Bool.false_and, Option.bind, bn_add, bn_sub, bn_mul, bn_div, bn_mod, bn_pow, bn_addS, bn_addT, bn_addL, cp_eq, cp_ne, cp_ltI, cp_leI, cp_gtI, cp_geI, cp_ltS, cp_leS, cp_gtS, cp_geS, cp_ltT, cp_gtT, cp_in, cp_nin, cp_is, cp_isn, ix_l, ix_t, ix_s, ixs_tp, ixs_pd, ixs_rf, ixs_fz, cel_d, cel_r, mkLst, clsOf, clOf_d, clOf_r, wp_reprB, revS, isi2S, Bool.or_false, Bool.or_true, Bool.false_or, Bool.true_or, bi_lenL, bi_lenT, bi_lenS, bi_listL, bi_listT, bi_tupL, bi_tupT, bi_intI, bi_intB, bi_strI, bi_strS, bi_abs, bi_max, bi_min, bi_all, bi_any, bi_sum, in_l, in_t, in_s, tr_b, tr_i, tr_n, tr_l, tr_t, so_l, so_t, so_s, so_f, io_t, ng_i, pt_i, ag_a, ag_s, rv_l, rv_t, ap_d, rk_l, rk_t, rk_s, rg_1, rg_2, sl_l, sl_t, sl_s, mt_ixS, wp_mkT0, wp_mkT1, wp_mkT2, wp_mkT3, wp_mkT4, wp_mkT5, wp_mkT6, wp_mkT7, wp_mkT8, wp_datR, wp_idxR, wp_setR, wp_appR, set_last, get_last, le_line, lt_line, wp_newM, lg9, meth_words, wp_mkTR, not_true_eq_false, not_false_eq_true, eq_self, ofString_inj, String.reduceEq, wipeS, wp_inS, false_and, and_false, in_eqv]
    refine wp_if (fun c0 => ?_) (fun c0 => ?_)
    · simp only [wp_ret, wp_bnd, wp_some, wp_grd, wp_no, wp_dat_pd, wp_dat_fz,  ev, evs, evO, evI, evC, evTs, AI.ex, asgG, asgGs, getV, wp_exs, wp_exs_nil, goS_nx, goS_rt, goS_bk, goS_ct, turnE_nx, turnE_ct, turnE_bk, turnE_rt, endD_rt, endD_nx, back_pd, binS, isFz, cmpS, biS, dats, truth, isiS, allPd, isiD, rkOf, join_some, Option.map, List.map, List.length_cons, List.length_nil, List.getElem?_cons_zero, List.getElem?_cons_succ, List.set_cons_zero, List.set_cons_succ, startS, atI_pos, atI_cast, Int.toNat_natCast, wp_newL1, wp_newL2, wp_newT1, List.length_set, List.set_set, decide_eq_true_eq, decide_eq_false_iff_not, Bool.not_eq_true', true_and, and_true,  ixN_pos, Int.reduceLE, Int.reduceLT, Int.reduceToNat, Int.reduceAdd, Int.reduceSub, Int.reduceMul, Int.reduceMod, Int.reduceNeg, Int.reducePow, Nat.reduceAdd, Nat.reduceLT, Nat.reduceLeDiff, Nat.reduceSub, reduceIte, Int.reduceEq, List.isEmpty_nil, Bool.false_eq_true, Bool.true_eq_false, decide_true, decide_false, ge_iff_le, gt_iff_lt,  wp_eq_int, wp_eq_str, wp_eq_bool, List.length_map, List.replicate, List.cons_append, List.nil_append, Bool.not_false, Bool.not_true, Bool.and_true, Bool.true_and, Bool.and_self, Bool.and_false, Bool.false_and, Option.bind, bn_add, bn_sub, bn_mul, bn_div, bn_mod, bn_pow, bn_addS, bn_addT, bn_addL, cp_eq, cp_ne, cp_ltI, cp_leI, cp_gtI, cp_geI, cp_ltS, cp_leS, cp_gtS, cp_geS, cp_ltT, cp_gtT, cp_in, cp_nin, cp_is, cp_isn, ix_l, ix_t, ix_s, ixs_tp, ixs_pd, ixs_rf, ixs_fz, cel_d, cel_r, mkLst, clsOf, clOf_d, clOf_r, wp_reprB, revS, isi2S, Bool.or_false, Bool.or_true, Bool.false_or, Bool.true_or, bi_lenL, bi_lenT, bi_lenS, bi_listL, bi_listT, bi_tupL, bi_tupT, bi_intI, bi_intB, bi_strI, bi_strS, bi_abs, bi_max, bi_min, bi_all, bi_any, bi_sum, in_l, in_t, in_s, tr_b, tr_i, tr_n, tr_l, tr_t, so_l, so_t, so_s, so_f, io_t, ng_i, pt_i, ag_a, ag_s, rv_l, rv_t, ap_d, rk_l, rk_t, rk_s, rg_1, rg_2, sl_l, sl_t, sl_s, mt_ixS, wp_mkT0, wp_mkT1, wp_mkT2, wp_mkT3, wp_mkT4, wp_mkT5, wp_mkT6, wp_mkT7, wp_mkT8, wp_datR, wp_idxR, wp_setR, wp_appR, set_last, get_last, le_line, lt_line, wp_newM, lg9, meth_words, wp_mkTR, not_true_eq_false, not_false_eq_true, eq_self, ofString_inj, String.reduceEq, wipeS, wp_inS, false_and, and_false]
      refine ⟨by omega, hJ _ _ ⟨xs ++ [s'], c4, b4, _, _, _, _, _, _, t4.up (by omega), by rw [List.map_append]; rfl, rfl, ?_, by rw [List.length_append]; simp; omega, fun _ => by rw [List.length_append]; simp, fun x hx => ?_⟩⟩
      · rw [List.nodup_append]
        exact ⟨nd, by simp, fun a ha d hd => by
          have : d = s' := by simpa using hd
          subst this
          intro e; subst e
          exact c0 ha⟩
      · rcases List.mem_append.mp hx with hx | hx
        · exact sh x hx
        · have : x = s' := by simpa using hx
          subst this; exact hs'
    · simp only [wp_ret, wp_bnd, wp_some, wp_grd, wp_no, wp_dat_pd, wp_dat_fz,  ev, evs, evO, evI, evC, evTs, AI.ex, asgG, asgGs, getV, wp_exs, wp_exs_nil, goS_nx, goS_rt, goS_bk, goS_ct, turnE_nx, turnE_ct, turnE_bk, turnE_rt, endD_rt, endD_nx, back_pd, binS, isFz, cmpS, biS, dats, truth, isiS, allPd, isiD, rkOf, join_some, Option.map, List.map, List.length_cons, List.length_nil, List.getElem?_cons_zero, List.getElem?_cons_succ, List.set_cons_zero, List.set_cons_succ, startS, atI_pos, atI_cast, Int.toNat_natCast, wp_newL1, wp_newL2, wp_newT1, List.length_set, List.set_set, decide_eq_true_eq, decide_eq_false_iff_not, Bool.not_eq_true', true_and, and_true,  ixN_pos, Int.reduceLE, Int.reduceLT, Int.reduceToNat, Int.reduceAdd, Int.reduceSub, Int.reduceMul, Int.reduceMod, Int.reduceNeg, Int.reducePow, Nat.reduceAdd, Nat.reduceLT, Nat.reduceLeDiff, Nat.reduceSub, reduceIte, Int.reduceEq, List.isEmpty_nil, Bool.false_eq_true, Bool.true_eq_false, decide_true, decide_false, ge_iff_le, gt_iff_lt,  wp_eq_int, wp_eq_str, wp_eq_bool, List.length_map, List.replicate, List.cons_append, List.nil_append, Bool.not_false, Bool.not_true, Bool.and_true, Bool.true_and, Bool.and_self, Bool.and_false, Bool.false_and, Option.bind, bn_add, bn_sub, bn_mul, bn_div, bn_mod, bn_pow, bn_addS, bn_addT, bn_addL, cp_eq, cp_ne, cp_ltI, cp_leI, cp_gtI, cp_geI, cp_ltS, cp_leS, cp_gtS, cp_geS, cp_ltT, cp_gtT, cp_in, cp_nin, cp_is, cp_isn, ix_l, ix_t, ix_s, ixs_tp, ixs_pd, ixs_rf, ixs_fz, cel_d, cel_r, mkLst, clsOf, clOf_d, clOf_r, wp_reprB, revS, isi2S, Bool.or_false, Bool.or_true, Bool.false_or, Bool.true_or, bi_lenL, bi_lenT, bi_lenS, bi_listL, bi_listT, bi_tupL, bi_tupT, bi_intI, bi_intB, bi_strI, bi_strS, bi_abs, bi_max, bi_min, bi_all, bi_any, bi_sum, in_l, in_t, in_s, tr_b, tr_i, tr_n, tr_l, tr_t, so_l, so_t, so_s, so_f, io_t, ng_i, pt_i, ag_a, ag_s, rv_l, rv_t, ap_d, rk_l, rk_t, rk_s, rg_1, rg_2, sl_l, sl_t, sl_s, mt_ixS, wp_mkT0, wp_mkT1, wp_mkT2, wp_mkT3, wp_mkT4, wp_mkT5, wp_mkT6, wp_mkT7, wp_mkT8, wp_datR, wp_idxR, wp_setR, wp_appR, set_last, get_last, le_line, lt_line, wp_newM, lg9, meth_words, wp_mkTR, not_true_eq_false, not_false_eq_true, eq_self, ofString_inj, String.reduceEq, wipeS, wp_inS, false_and, and_false]
      have c0 : s' ∈ xs := by simpa using c0
      exact hJ _ _ ⟨xs, c4, b4, _, _, _, _, _, _, t4.up (by omega), rfl, rfl, nd, by omega, fun _ => List.length_pos_of_mem c0, sh⟩
  · rintro σ h' ⟨xs, c3, b3, y5, y6, y7, y8, y9, y10, t3, rfl, rfl, nd, le, ps, sh⟩
    simp only [wp_ret, wp_bnd, wp_some, wp_grd, wp_no, wp_dat_pd, wp_dat_fz,  ev, evs, evO, evI, evC, evTs, AI.ex, asgG, asgGs, getV, wp_exs, wp_exs_nil, goS_nx, goS_rt, goS_bk, goS_ct, turnE_nx, turnE_ct, turnE_bk, turnE_rt, endD_rt, endD_nx, back_pd, binS, isFz, cmpS, biS, dats, truth, isiS, allPd, isiD, rkOf, join_some, Option.map, List.map, List.length_cons, List.length_nil, List.getElem?_cons_zero, List.getElem?_cons_succ, List.set_cons_zero, List.set_cons_succ, startS, atI_pos, atI_cast, Int.toNat_natCast, wp_newL1, wp_newL2, wp_newT1, List.length_set, List.set_set, decide_eq_true_eq, decide_eq_false_iff_not, Bool.not_eq_true', true_and, and_true,  ixN_pos, Int.reduceLE, Int.reduceLT, Int.reduceToNat, Int.reduceAdd, Int.reduceSub, Int.reduceMul, Int.reduceMod, Int.reduceNeg, Int.reducePow, Nat.reduceAdd, Nat.reduceLT, Nat.reduceLeDiff, Nat.reduceSub, reduceIte, Int.reduceEq, List.isEmpty_nil, Bool.false_eq_true, Bool.true_eq_false, decide_true, decide_false, ge_iff_le, gt_iff_lt,  wp_eq_int, wp_eq_str, wp_eq_bool, List.length_map, List.replicate, List.cons_append, List.nil_append, Bool.not_false, Bool.not_true, Bool.and_true, Bool.true_and, Bool.and_self, Bool.and_false, Bool.false_and, Option.bind, bn_add, bn_sub, bn_mul, bn_div, bn_mod, bn_pow, bn_addS, bn_addT, bn_addL, cp_eq, cp_ne, cp_ltI, cp_leI, cp_gtI, cp_geI, cp_ltS, cp_leS, cp_gtS, cp_geS, cp_ltT, cp_gtT, cp_in, cp_nin, cp_is, cp_isn, ix_l, ix_t, ix_s, ixs_tp, ixs_pd, ixs_rf, ixs_fz, cel_d, cel_r, mkLst, clsOf, clOf_d, clOf_r, wp_reprB, revS, isi2S, Bool.or_false, Bool.or_true, Bool.false_or, Bool.true_or, bi_lenL, bi_lenT, bi_lenS, bi_listL, bi_listT, bi_tupL, bi_tupT, bi_intI, bi_intB, bi_strI, bi_strS, bi_abs, bi_max, bi_min, bi_all, bi_any, bi_sum, in_l, in_t, in_s, tr_b, tr_i, tr_n, tr_l, tr_t, so_l, so_t, so_s, so_f, io_t, ng_i, pt_i, ag_a, ag_s, rv_l, rv_t, ap_d, rk_l, rk_t, rk_s, rg_1, rg_2, sl_l, sl_t, sl_s, mt_ixS, wp_mkT0, wp_mkT1, wp_mkT2, wp_mkT3, wp_mkT4, wp_mkT5, wp_mkT6, wp_mkT7, wp_mkT8, wp_datR, wp_idxR, wp_setR, wp_appR, set_last, get_last, le_line, lt_line, wp_newM, lg9, meth_words, wp_mkTR, not_true_eq_false, not_false_eq_true, eq_self, ofString_inj, String.reduceEq, wipeS, wp_inS, false_and, and_false]
    exact q xs c3 b3 (t3.up (by omega)) ⟨nd, ps (by omega), by omega, sh⟩
/-- the defs of a family of levels -/
def Has (T : Nat → TT) (f : Str) (d : Def) : Prop := ∀ n, (T (n + 1)).raw f = rawDef (T n) d
theorem names2 {T : Nat → TT} {k m : Nat} (en : Has T "_law_names" ⟨2, 11, b_names2⟩) (ed : Has T "_law_draw" ⟨2, 5, b_draw2⟩) (t : Tp B c b) (hB : B + m + 2 ≤ 16000000) (hm : 1 ≤ m) (hm2 : m ≤ 100)
    (q : ∀ xs c' b', Tp (B + m + 2) c' b' → Nms m xs → Q (.pd (.list (xs.map .str))) (c' :: b' :: hs)) : wp ((T (k + 2)).call false "_law_names" [.rf 1, .pd (.int m)]) Q (c :: b :: hs) :=
  wp_call (en _) (names2_raw (ed _) t hB hm hm2 fun xs c' b' t' hx => by
    refine ⟨.pd (.list (xs.map .str)), c' :: b' :: hs, ?_, q xs c' b' t' hx⟩
    unfold settle
    simp only [List.length_cons, if_neg (Nat.lt_irrefl _), List.getElem?_cons_succ, get_last, Bool.false_eq_true, if_false, List.take_succ_cons, List.take_left])
end
/-! ### facts -/
inductive Fct where
  | tru | fls
  | com (s : Str)
  | one (l : List Str)
  | not (f : Fct)
  | imp (f g : Fct)
  | con (w : Bool) (l : List Fct)
namespace Fct
mutual
def toD : Fct → D
  | .tru => .tuple [.str "true"]
  | .fls => .tuple [.str "false"]
  | .com s => .tuple [.str "commits", .str s]
  | .one l => .tuple [.str "one of", .tuple (l.map .str)]
  | .not f => .tuple [.str "not", f.toD]
  | .imp f g => .tuple [.str "implies", f.toD, g.toD]
  | .con w l => .tuple [.str (if w = true then "and" else "or"), .tuple (toDs l)]
def toDs : List Fct → List D
  | [] => []
  | f :: l => f.toD :: toDs l
end
theorem toDs_map : ∀ l, toDs l = l.map toD
  | [] => rfl
  | f :: l => by rw [toDs, List.map_cons, toDs_map l]
mutual
/-- the nesting -/
def dep : Fct → Nat
  | .tru | .fls | .com _ | .one _ => 0
  | .not f => f.dep + 1
  | .imp f g => max f.dep g.dep + 1
  | .con _ l => deps l + 1
def deps : List Fct → Nat
  | [] => 0
  | f :: l => max f.dep (deps l)
end
mutual
/-- its names are among those, its rows are short -/
def ok (P : Str → Prop) : Fct → Prop
  | .tru | .fls => True
  | .com s => P s
  | .one l => (∀ s ∈ l, P s) ∧ l.length ≤ 100
  | .not f => f.ok P
  | .imp f g => f.ok P ∧ g.ok P
  | .con _ l => oks P l ∧ l.length ≤ 100
def oks (P : Str → Prop) : List Fct → Prop
  | [] => True
  | f :: l => f.ok P ∧ oks P l
end
mutual
/-- its names, in order, as often as they stand in it -/
def nms : Fct → List Str
  | .tru | .fls => []
  | .com s => [s]
  | .one l => l
  | .not f => f.nms
  | .imp f g => f.nms ++ g.nms
  | .con _ l => nmss l
def nmss : List Fct → List Str
  | [] => []
  | f :: l => f.nms ++ nmss l
end
theorem nmss_app : ∀ {l r : List Fct}, nmss (l ++ r) = nmss l ++ nmss r
  | [], _ => rfl
  | f :: l, r => by rw [List.cons_append, nmss, nmss, nmss_app, List.append_assoc]
mutual
/-- the truth, where com tells what commits -/
def tv (com : Str → Bool) : Fct → Bool
  | .tru => true
  | .fls => false
  | .com s => com s
  | .one l => decide ((l.filter com).length = 1)
  | .not f => !(f.tv com)
  | .imp f g => !(f.tv com) || g.tv com
  | .con w l => if w = true then alls com l else anys com l
def alls (com : Str → Bool) : List Fct → Bool
  | [] => true
  | f :: l => f.tv com && alls com l
def anys (com : Str → Bool) : List Fct → Bool
  | [] => false
  | f :: l => f.tv com || anys com l
end
theorem oks_iff {P : Str → Prop} : ∀ {l : List Fct}, oks P l ↔ ∀ f ∈ l, f.ok P
  | [] => by simp [oks]
  | f :: l => by simp [oks, oks_iff (l := l)]
theorem deps_le {n : Nat} : ∀ {l : List Fct}, deps l ≤ n ↔ ∀ f ∈ l, f.dep ≤ n
  | [] => by simp [deps]
  | f :: l => by simp [deps, deps_le (l := l), Nat.max_le]
theorem alls_eq {com : Str → Bool} : ∀ {l : List Fct}, alls com l = l.all (tv com)
  | [] => rfl
  | f :: l => by rw [alls, List.all_cons, alls_eq (l := l)]
theorem anys_eq {com : Str → Bool} : ∀ {l : List Fct}, anys com l = l.any (tv com)
  | [] => rfl
  | f :: l => by rw [anys, List.any_cons, anys_eq (l := l)]
end Fct
def b_fact2 : List S := [.asg (.nm 3) (.call "_law_draw" [(.var 0), (.cst (.int 10))]), .ite (.and (.val (.cmp .Gt (.var 2) (.cst (.int 0)))) (.val (.cmp .Eq (.var 3) (.cst (.int 0))))) [.ret (.tup [(.cst (.str "not")), (.call "_law_fact" [(.var 0), (.var 1), (.bin .Sub (.var 2) (.cst (.int 1)))])])] [], .ite (.and (.val (.cmp .Gt (.var 2) (.cst (.int 0)))) (.val (.cmp .Eq (.var 3) (.cst (.int 1))))) [.asg (.nm 4) (.call "_law_fact" [(.var 0), (.var 1), (.bin .Sub (.var 2) (.cst (.int 1)))]), .ret (.tup [(.cst (.str "implies")), (.var 4), (.call "_law_fact" [(.var 0), (.var 1), (.bin .Sub (.var 2) (.cst (.int 1)))])])] [], .ite (.and (.val (.cmp .Gt (.var 2) (.cst (.int 0)))) (.val (.cmp .Lt (.var 3) (.cst (.int 5))))) [.asg (.nm 5) (.idx (.lst [(.cst (.int 2)), (.cst (.int 2)), (.cst (.int 3))]) (.call "_law_draw" [(.var 0), (.cst (.int 3))])), .ite (.and (.val (.cmp .Eq (.var 2) (.cst (.int 1)))) (.val (.cmp .Eq (.call "_law_draw" [(.var 0), (.cst (.int 4))]) (.cst (.int 0))))) [.asg (.nm 5) (.cst (.int 6))] [], .ret (.tup [(.idx (.lst [(.cst (.str "and")), (.cst (.str "or")), (.cst (.str "or"))]) (.bin .Sub (.var 3) (.cst (.int 2)))), (.bi .tuple [(.lc (.call "_law_fact" [(.var 0), (.var 1), (.bin .Sub (.var 2) (.cst (.int 1)))]) (.nm 6) (.rng [(.var 5)]) [] [6])])])] [], .ite (.val (.cmp .Eq (.var 3) (.cst (.int 5)))) [.ret (.idx (.lst [(.tup [(.cst (.str "true"))]), (.tup [(.cst (.str "false"))])]) (.call "_law_draw" [(.var 0), (.cst (.int 2))]))] [], .ite (.val (.cmp .Eq (.var 3) (.cst (.int 6)))) [.ret (.tup [(.cst (.str "one of")), (.bi .tuple [(.lc (.idx (.var 1) (.call "_law_draw" [(.var 0), (.bi .len [(.var 1)])])) (.nm 6) (.rng [(.bin .Add (.cst (.int 1)) (.call "_law_draw" [(.var 0), (.cst (.int 3))]))]) [] [6])])])] [], .ret (.tup [(.cst (.str "commits")), (.idx (.var 1) (.call "_law_draw" [(.var 0), (.bi .len [(.var 1)])]))])]
def b_chain2 : List S := [.asg (.nm 2) (.call "_law_draw" [(.var 0), (.cst (.int 3))]), .asg (.nm 3) (.tup [(.cst (.str "commits")), (.idx (.var 1) (.call "_law_draw" [(.var 0), (.bi .len [(.var 1)])]))]), .for_ (.nm 4) (.rng [(.cst (.int 20))]) [.asg (.nm 5) (.tup [(.cst (.str "commits")), (.idx (.var 1) (.call "_law_draw" [(.var 0), (.bi .len [(.var 1)])]))]), .asg (.nm 3) (.idx (.lst [(.tup [(.cst (.str "not")), (.var 3)]), (.tup [(.cst (.str "implies")), (.var 5), (.var 3)]), (.tup [(.cst (.str "implies")), (.var 3), (.var 5)])]) (.var 2))], .ret (.var 3)]
def b_true2 : List S := [.ite (.val (.cmp .Eq (.idx (.var 0) (.cst (.int 0))) (.cst (.str "commits")))) [.ret (.cmp .In (.idx (.var 0) (.cst (.int 1))) (.var 1))] [], .ite (.val (.cmp .Eq (.idx (.var 0) (.cst (.int 0))) (.cst (.str "one of")))) [.ret (.cmp .Eq (.bi .len [(.lc (.var 2) (.nm 2) (.val (.idx (.var 0) (.cst (.int 1)))) [(.val (.cmp .In (.var 2) (.var 1)))] [2])]) (.cst (.int 1)))] [], .ite (.val (.cmp .Eq (.idx (.var 0) (.cst (.int 0))) (.cst (.str "not")))) [.ret (.not (.call "_law_true" [(.idx (.var 0) (.cst (.int 1))), (.var 1)]))] [], .ite (.val (.cmp .Eq (.idx (.var 0) (.cst (.int 0))) (.cst (.str "implies")))) [.ret (.or (.call "_law_true" [(.idx (.var 0) (.cst (.int 2))), (.var 1)]) (.not (.call "_law_true" [(.idx (.var 0) (.cst (.int 1))), (.var 1)])))] [], .ite (.val (.cmp .Eq (.idx (.var 0) (.cst (.int 0))) (.cst (.str "and")))) [.ret (.cmp .Eq (.bi .len [(.lc (.var 3) (.nm 3) (.val (.idx (.var 0) (.cst (.int 1)))) [(.not (.val (.call "_law_true" [(.var 3), (.var 1)])))] [3])]) (.cst (.int 0)))] [], .ite (.val (.cmp .Eq (.idx (.var 0) (.cst (.int 0))) (.cst (.str "or")))) [.ret (.cmp .Gt (.bi .len [(.lc (.var 3) (.nm 3) (.val (.idx (.var 0) (.cst (.int 1)))) [(.val (.call "_law_true" [(.var 3), (.var 1)]))] [3])]) (.cst (.int 0)))] [], .ret (.cmp .Eq (.idx (.var 0) (.cst (.int 0))) (.cst (.str "true")))]
def b_all2 : List S := [.asg (.nm 1) (.lst [(.tup [])]), .for_ (.nm 2) (.rev (.bi .list [(.var 0)])) [.asg (.nm 1) (.bin .Add (.lc (.bin .Add (.tup [(.var 2)]) (.var 3)) (.nm 3) (.val (.var 1)) [] [3]) (.var 1))], .ret (.var 1)]
def b_same2 : List S := [.ite (.val (.isi (.var 1) .dict)) [.asg (.nm 2) (.and (.isi (.var 0) .dict) (.call "_law_same" [(.bi .list [(.var 0)]), (.bi .list [(.var 1)])])), .no] [], .ite (.val (.isi2 (.var 1) .list .tuple)) [.ite (.or (.val (.cmp .NotEq (.isi (.var 0) .list) (.isi (.var 1) .list))) (.val (.cmp .NotEq (.isi (.var 0) .tuple) (.isi (.var 1) .tuple)))) [.ret (.cst (.bool false))] [], .ret (.and (.cmp .Eq (.bi .len [(.var 0)]) (.bi .len [(.var 1)])) (.cmp .Eq (.bi .len [(.lc (.var 3) (.nm 3) (.rng [(.bi .len [(.var 1)])]) [(.not (.val (.call "_law_same" [(.idx (.var 0) (.var 3)), (.idx (.var 1) (.var 3))])))] [3])]) (.cst (.int 0))))] [], .ite (.val (.cmp .Is (.var 1) (.cst .none))) [.ret (.cmp .Is (.var 0) (.cst .none))] [], .ite (.or (.not (.val (.isi2 (.var 0) .int .str))) (.val (.cmp .NotEq (.isi (.var 0) .bool) (.isi (.var 1) .bool)))) [.ret (.cst (.bool false))] [], .ret (.cmp .Eq (.var 0) (.var 1))]
def addN (acc : List Str) (s : Str) : List Str := if s ∈ acc then acc else acc ++ [s]
theorem addN_len (l : List Str) : ∀ acc : List Str, (l.foldl addN acc).length ≤ acc.length + l.length := by
  induction l with
  | nil => intro acc; exact Nat.le_refl _
  | cons s l ih =>
    intro acc
    have := ih (addN acc s)
    have h2 : (addN acc s).length ≤ acc.length + 1 := by unfold addN; split <;> simp
    rw [List.foldl_cons, List.length_cons]; omega
def once (l : List Str) : List Str := l.foldl addN []
end AI

set_option Elab.async false
set_option linter.all false
set_option maxRecDepth 100000
set_option maxHeartbeats 4000000
/-! AiF1: the laws with the simple tape (box 0): names, texts, numbers. -/
namespace AI
open PySem L2
def b_name1 : List S := [.asg (.nm 1) (.cst (.str "abcdefghijklmnopqrstuvwxyz0123456789_")), .asg (.nm 2) (.call "_law_draw" [(.var 0), (.cst (.int 569504))]), .asg (.nm 3) (.bin .Add (.idx (.lst [(.cst (.str "")), (.cst (.str "")), (.cst (.str "")), (.cst (.str "reservation_x"))]) (.bin .Mod (.bi .int [(.var 2)]) (.cst (.int 4)))) (.idx (.var 1) (.bin .Mod (.bi .int [(.bin .FloorDiv (.var 2) (.cst (.int 16)))]) (.cst (.int 26))))), .for_ (.nm 4) (.rng [(.idx (.lst [(.cst (.int 0)), (.cst (.int 0)), (.cst (.int 1)), (.cst (.int 2))]) (.bin .Mod (.bi .int [(.bin .FloorDiv (.var 2) (.cst (.int 4)))]) (.cst (.int 4))))]) [.asg (.nm 3) (.bin .Add (.var 3) (.idx (.var 1) (.bin .Mod (.bi .int [(.bin .FloorDiv (.var 2) (.idx (.lst [(.cst (.int 416)), (.cst (.int 15392))]) (.var 4)))]) (.cst (.int 37)))))], .ite (.val (.cmp .In (.var 3) (.lst [(.cst (.str "key")), (.cst (.str "to")), (.cst (.str "by")), (.cst (.str "sum")), (.cst (.str "set")), (.cst (.str "and")), (.cst (.str "or")), (.cst (.str "not")), (.cst (.str "one")), (.cst (.str "of"))]))) [.ret (.bin .Add (.var 3) (.cst (.str "_")))] [], .ret (.var 3)]
def b_names1 : List S := [.asg (.nm 2) (.bx (.lst [])), .for_ (.nm 3) (.rng [(.var 1)]) [.asg (.nm 4) (.call "_law_name" [(.var 0)]), .ite (.val (.cmp .NotIn (.var 4) (.var 2))) [.expr (.meth .append (.var 2) [(.var 4)])] []], .ret (.var 2)]
def b_text1 : List S := [.asg (.nm 1) (.call "_law_draw" [(.var 0), (.cst (.int 21000))]), .asg (.nm 2) (.bin .Mod (.bi .int [(.var 1)]) (.cst (.int 8))), .asg (.nm 3) (.cst (.str "")), .ite (.val (.cmp .Lt (.var 2) (.cst (.int 6)))) [.for_ (.nm 4) (.rng [(.idx (.lst [(.cst (.int 0)), (.cst (.int 1)), (.cst (.int 1)), (.cst (.int 1)), (.cst (.int 2)), (.cst (.int 3))]) (.var 2))]) [.asg (.nm 3) (.bin .Add (.var 3) (.idx (.cst (.str "abB' ")) (.bin .Mod (.bi .int [(.bin .FloorDiv (.var 1) (.idx (.lst [(.cst (.int 8)), (.cst (.int 40)), (.cst (.int 200))]) (.var 4)))]) (.cst (.int 5)))))], .ret (.var 3)] [], .for_ (.nm 4) (.rng [(.idx (.lst [(.cst (.int 20)), (.bin .FloorDiv (.var 1) (.cst (.int 1000)))]) (.bin .Sub (.var 2) (.cst (.int 6))))]) [.asg (.nm 3) (.bin .Add (.var 3) (.idx (.call "_law_signs" []) (.call "_law_draw" [(.var 0), (.cst (.int 94))])))], .ret (.var 3)]
def b_number1 : List S := [.asg (.nm 1) (.call "_law_draw" [(.var 0), (.cst (.int 16000008))]), .asg (.nm 2) (.bin .Mod (.bi .int [(.var 1)]) (.cst (.int 8))), .ite (.val (.cmp .Lt (.var 2) (.cst (.int 5)))) [.ret (.bin .Sub (.bin .Mod (.bi .int [(.bin .FloorDiv (.var 1) (.cst (.int 8)))]) (.cst (.int 7))) (.cst (.int 3)))] [], .ite (.val (.cmp .Eq (.var 2) (.cst (.int 5)))) [.ret (.idx (.lst [(.cst (.int 1000000)), (.neg (.cst (.int 1000000))), (.cst (.int 999999)), (.neg (.cst (.int 999999)))]) (.bin .Mod (.bi .int [(.bin .FloorDiv (.var 1) (.cst (.int 8)))]) (.cst (.int 4))))] [], .ret (.bin .Sub (.bin .FloorDiv (.var 1) (.cst (.int 8))) (.cst (.int 1000000)))]
def b_kind1 : List S := [.asg (.nm 1) (.call "_law_draw" [(.var 0), (.cst (.int 80))]), .ite (.val (.cmp .Lt (.bin .Mod (.bi .int [(.var 1)]) (.cst (.int 8))) (.cst (.int 3)))) [.ret (.tup [(.cst (.str "string"))])] [], .ite (.val (.cmp .Lt (.bin .Mod (.bi .int [(.var 1)]) (.cst (.int 8))) (.cst (.int 6)))) [.ret (.tup [(.cst (.str "integer")), (.cst (.int 1000000))])] [], .ret (.tup [(.cst (.str "integer")), (.idx (.lst [(.cst (.int 0)), (.cst (.int 1)), (.cst (.int 7)), (.cst (.int 60)), (.cst (.int 3000)), (.cst (.int 500000000000)), (.cst (.int 500000000001)), (.cst (.int 999999000000)), (.cst (.int 999999999999)), (.bin .Pow (.cst (.int 10)) (.cst (.int 12)))]) (.bin .FloorDiv (.var 1) (.cst (.int 8))))])]
def b_value1 : List S := [.ite (.val (.cmp .Eq (.idx (.var 1) (.cst (.int 0))) (.cst (.str "string")))) [.ret (.call "_law_text" [(.var 0)])] [], .asg (.nm 2) (.idx (.var 1) (.cst (.int 1))), .asg (.nm 3) (.call "_law_draw" [(.var 0), (.bin .Mult (.cst (.int 16)) (.bin .Add (.var 2) (.cst (.int 1))))]), .asg (.nm 4) (.bin .Mod (.bi .int [(.var 3)]) (.cst (.int 8))), .ite (.val (.cmp .Lt (.var 4) (.cst (.int 5)))) [.ret (.bi .min [(.var 2), (.bin .Mod (.bi .int [(.bin .FloorDiv (.var 3) (.cst (.int 8)))]) (.cst (.int 3)))])] [], .ite (.val (.cmp .Eq (.var 4) (.cst (.int 5)))) [.ret (.bi .max [(.neg (.var 2)), (.bi .min [(.var 2), (.bin .Sub (.bin .Mod (.bi .int [(.bin .FloorDiv (.var 3) (.cst (.int 8)))]) (.cst (.int 7))) (.cst (.int 3)))])])] [], .ite (.val (.cmp .Eq (.var 4) (.cst (.int 6)))) [.ret (.idx (.lst [(.var 2), (.neg (.var 2))]) (.bin .Mod (.bi .int [(.bin .FloorDiv (.var 3) (.cst (.int 8)))]) (.cst (.int 2))))] [], .ret (.bin .Sub (.bin .Mod (.bi .int [(.bin .Mult (.bin .FloorDiv (.var 3) (.cst (.int 8))) (.cst (.int 1000003)))]) (.bin .Add (.bin .Mult (.cst (.int 2)) (.var 2)) (.cst (.int 1)))) (.var 2))]
def b_columns1 : List S := [.ret (.bi .tuple [(.lc (.tup [(.var 2), (.call "_law_kind" [(.var 0)])]) (.nm 2) (.val (.call "_law_names" [(.var 0), (.var 1)])) [] [2])])]
section
variable {T : Nat → TT} {bx : Bool} {hs : Boxes} {Q : RV → Boxes → Prop} {B : Nat} {b : Box}
theorem draw1 {T T' : TT} {f : Str} {many : Int} (e : T.raw f = rawDef T' ⟨2, 4, b_draw⟩) (t : TapeB B b) (hB : B ≤ 16000000) (hm : many < 2 ^ 1000) (q : ∀ v b', TapeB (B + 1) b' → Drawn many v → Q (.pd (.int v)) (b' :: hs)) : wp (T.call bx f [.rf 0, .pd (.int many)]) Q (b :: hs) :=
  draw_call e t rfl (Nat.le_trans hB (by decide)) hm fun v b' t' hv => q v b' t' hv
theorem tape1 {T T' : TT} {f : Str} {ns : List Int} (e : T.raw f = rawDef T' ⟨1, 3, b_tape⟩) (hl : ns.length ≤ 63) (q : ∀ b, TapeB 0 b → Q (.rf 0) [b]) : wp (T.call true f [.fz (ns.map .int)]) Q [] := tape_call e hl q
theorem text1e : b_text1 = b_text := rfl
theorem text1 {k : Nat} (e : Has T "_law_text" ⟨1, 5, b_text⟩) (ed : Has T "_law_draw" ⟨2, 4, b_draw⟩) (es : Has T "_law_signs" ⟨0, 1, b_signs⟩) (t : TapeB B b) (hB : B + 21 ≤ 16000000)
    (q : ∀ s b', TapeB (B + 21) b' → TxtOk 20 s → Q (.pd (.str s)) (b' :: hs)) : wp ((T (k + 2)).call bx "_law_text" [.rf 0]) Q (b :: hs) :=
  text_call (e _) (ed _) (es _) t rfl (Nat.le_trans hB (by decide)) fun s b' t' g => q s b' t' g
theorem number1 {k : Nat} (e : Has T "_law_number" ⟨1, 3, b_number1⟩) (ed : Has T "_law_draw" ⟨2, 4, b_draw⟩) (t : TapeB B b) (hB : B + 1 ≤ 16000000)
    (q : ∀ (i : Int) b', TapeB (B + 1) b' → -1000000 ≤ i → i ≤ 1000000 → Q (.pd (.int i)) (b' :: hs)) : wp ((T (k + 2)).call bx "_law_number" [.rf 0]) Q (b :: hs) := by
  refine wp_call (e _) (wp_def rfl ?_)
  have ret : ∀ (i : Int) b', TapeB (B + 1) b' → -1000000 ≤ i → i ≤ 1000000 → back (b :: hs).length bx Q (.pd (.int i)) (b' :: hs) := fun i b' t' h1 h2 => by rw [back_pd, List.take_of_length_le (by simp)]; exact q i b' t' h1 h2
  generalize back (b :: hs).length bx Q = Q' at *
  clear q
  simp only [wp_ret, wp_bnd, wp_some, wp_grd, wp_no, wp_dat_pd, wp_dat_fz,  ev, evs, evO, evI, evC, evTs, AI.ex, asgG, asgGs, getV, wp_exs, wp_exs_nil, goS_nx, goS_rt, goS_bk, goS_ct, turnE_nx, turnE_ct, turnE_bk, turnE_rt, endD_rt, endD_nx, back_pd, binS, isFz, cmpS, biS, dats, truth, isiS, allPd, isiD, rkOf, join_some, Option.map, List.map, List.length_cons, List.length_nil, List.getElem?_cons_zero, List.getElem?_cons_succ, List.set_cons_zero, List.set_cons_succ, startS, atI_pos, atI_cast, Int.toNat_natCast, wp_newL1, wp_newL2, wp_newT1, List.length_set, List.set_set, decide_eq_true_eq, decide_eq_false_iff_not, Bool.not_eq_true', true_and, and_true,  ixN_pos, Int.reduceLE, Int.reduceLT, Int.reduceToNat, Int.reduceAdd, Int.reduceSub, Int.reduceMul, Int.reduceMod, Int.reduceNeg, Int.reducePow, Nat.reduceAdd, Nat.reduceLT, Nat.reduceLeDiff, Nat.reduceSub, reduceIte, Int.reduceEq, List.isEmpty_nil, Bool.false_eq_true, Bool.true_eq_false, decide_true, decide_false, ge_iff_le, gt_iff_lt,  wp_eq_int, wp_eq_str, wp_eq_bool, List.length_map, List.replicate, List.cons_append, List.nil_append, Bool.not_false, Bool.not_true, Bool.and_true, Bool.true_and, Bool.and_self, Bool.and_false, Bool.false_and, Option.bind, bn_add, bn_sub, bn_mul, bn_div, bn_mod, bn_pow, bn_addS, bn_addT, bn_addL, cp_eq, cp_ne, cp_ltI, cp_leI, cp_gtI, cp_geI, cp_ltS, cp_leS, cp_gtS, cp_geS, cp_ltT, cp_gtT, cp_in, cp_nin, cp_is, cp_isn, ix_l, ix_t, ix_s, ixs_tp, ixs_pd, ixs_rf, ixs_fz, cel_d, cel_r, mkLst, clsOf, clOf_d, clOf_r, wp_reprB, revS, isi2S, Bool.or_false, Bool.or_true, Bool.false_or, Bool.true_or, bi_lenL, bi_lenT, bi_lenS, bi_listL, bi_listT, bi_tupL, bi_tupT, bi_intI, bi_intB, bi_strI, bi_strS, bi_abs, bi_max, bi_min, bi_all, bi_any, bi_sum, in_l, in_t, in_s, tr_b, tr_i, tr_n, tr_l, tr_t, so_l, so_t, so_s, so_f, io_t, ng_i, pt_i, ag_a, ag_s, rv_l, rv_t, ap_d, rk_l, rk_t, rk_s, rg_1, rg_2, sl_l, sl_t, sl_s, mt_ixS, wp_mkT0, wp_mkT1, wp_mkT2, wp_mkT3, wp_mkT4, wp_mkT5, wp_mkT6, wp_mkT7, wp_mkT8, wp_datR, wp_idxR, wp_setR, wp_appR, set_last, get_last, le_line, lt_line, wp_newM, lg9, meth_words, wp_mkTR, not_true_eq_false, not_false_eq_true, eq_self, ofString_inj, String.reduceEq, wipeS, wp_inS, false_and, and_false, b_number1]
  refine draw1 (ed _) t (by omega) (by decide) fun v b1 t1 hv => ?_
  obtain ⟨v0, v1⟩ := hv.lt (by decide)
  try simp only [wp_ret, wp_bnd, wp_some, wp_grd, wp_no, wp_dat_pd, wp_dat_fz,  ev, evs, evO, evI, evC, evTs, AI.ex, asgG, asgGs, getV, wp_exs, wp_exs_nil, goS_nx, goS_rt, goS_bk, goS_ct, turnE_nx, turnE_ct, turnE_bk, turnE_rt, endD_rt, endD_nx, back_pd, binS, isFz, cmpS, biS, dats, truth, isiS, allPd, isiD, rkOf, join_some, Option.map, List.map, List.length_cons, List.length_nil, List.getElem?_cons_zero, List.getElem?_cons_succ, List.set_cons_zero, List.set_cons_succ, startS, atI_pos, atI_cast, Int.toNat_natCast, wp_newL1, wp_newL2, wp_newT1, List.length_set, List.set_set, decide_eq_true_eq, decide_eq_false_iff_not, Bool.not_eq_true', true_and, and_true,  ixN_pos, Int.reduceLE, Int.reduceLT, Int.reduceToNat, Int.reduceAdd, Int.reduceSub, Int.reduceMul, Int.reduceMod, Int.reduceNeg, Int.reducePow, Nat.reduceAdd, Nat.reduceLT, Nat.reduceLeDiff, Nat.reduceSub, reduceIte, Int.reduceEq, List.isEmpty_nil, Bool.false_eq_true, Bool.true_eq_false, decide_true, decide_false, ge_iff_le, gt_iff_lt,  wp_eq_int, wp_eq_str, wp_eq_bool, List.length_map, List.replicate, List.cons_append, List.nil_append, Bool.not_false, Bool.not_true, Bool.and_true, Bool.true_and, Bool.and_self, Bool.and_false, Bool.false_and, Option.bind, bn_add, bn_sub, bn_mul, bn_div, bn_mod, bn_pow, bn_addS, bn_addT, bn_addL, cp_eq, cp_ne, cp_ltI, cp_leI, cp_gtI, cp_geI, cp_ltS, cp_leS, cp_gtS, cp_geS, cp_ltT, cp_gtT, cp_in, cp_nin, cp_is, cp_isn, ix_l, ix_t, ix_s, ixs_tp, ixs_pd, ixs_rf, ixs_fz, cel_d, cel_r, mkLst, clsOf, clOf_d, clOf_r, wp_reprB, revS, isi2S, Bool.or_false, Bool.or_true, Bool.false_or, Bool.true_or, bi_lenL, bi_lenT, bi_lenS, bi_listL, bi_listT, bi_tupL, bi_tupT, bi_intI, bi_intB, bi_strI, bi_strS, bi_abs, bi_max, bi_min, bi_all, bi_any, bi_sum, in_l, in_t, in_s, tr_b, tr_i, tr_n, tr_l, tr_t, so_l, so_t, so_s, so_f, io_t, ng_i, pt_i, ag_a, ag_s, rv_l, rv_t, ap_d, rk_l, rk_t, rk_s, rg_1, rg_2, sl_l, sl_t, sl_s, mt_ixS, wp_mkT0, wp_mkT1, wp_mkT2, wp_mkT3, wp_mkT4, wp_mkT5, wp_mkT6, wp_mkT7, wp_mkT8, wp_datR, wp_idxR, wp_setR, wp_appR, set_last, get_last, le_line, lt_line, wp_newM, lg9, meth_words, wp_mkTR, not_true_eq_false, not_false_eq_true, eq_self, ofString_inj, String.reduceEq, wipeS, wp_inS, false_and, and_false]
  refine wp_if (fun c => ?_) (fun c => ?_)
  · try simp only [wp_ret, wp_bnd, wp_some, wp_grd, wp_no, wp_dat_pd, wp_dat_fz,  ev, evs, evO, evI, evC, evTs, AI.ex, asgG, asgGs, getV, wp_exs, wp_exs_nil, goS_nx, goS_rt, goS_bk, goS_ct, turnE_nx, turnE_ct, turnE_bk, turnE_rt, endD_rt, endD_nx, back_pd, binS, isFz, cmpS, biS, dats, truth, isiS, allPd, isiD, rkOf, join_some, Option.map, List.map, List.length_cons, List.length_nil, List.getElem?_cons_zero, List.getElem?_cons_succ, List.set_cons_zero, List.set_cons_succ, startS, atI_pos, atI_cast, Int.toNat_natCast, wp_newL1, wp_newL2, wp_newT1, List.length_set, List.set_set, decide_eq_true_eq, decide_eq_false_iff_not, Bool.not_eq_true', true_and, and_true,  ixN_pos, Int.reduceLE, Int.reduceLT, Int.reduceToNat, Int.reduceAdd, Int.reduceSub, Int.reduceMul, Int.reduceMod, Int.reduceNeg, Int.reducePow, Nat.reduceAdd, Nat.reduceLT, Nat.reduceLeDiff, Nat.reduceSub, reduceIte, Int.reduceEq, List.isEmpty_nil, Bool.false_eq_true, Bool.true_eq_false, decide_true, decide_false, ge_iff_le, gt_iff_lt,  wp_eq_int, wp_eq_str, wp_eq_bool, List.length_map, List.replicate, List.cons_append, List.nil_append, Bool.not_false, Bool.not_true, Bool.and_true, Bool.true_and, Bool.and_self, Bool.and_false, Bool.false_and, Option.bind, bn_add, bn_sub, bn_mul, bn_div, bn_mod, bn_pow, bn_addS, bn_addT, bn_addL, cp_eq, cp_ne, cp_ltI, cp_leI, cp_gtI, cp_geI, cp_ltS, cp_leS, cp_gtS, cp_geS, cp_ltT, cp_gtT, cp_in, cp_nin, cp_is, cp_isn, ix_l, ix_t, ix_s, ixs_tp, ixs_pd, ixs_rf, ixs_fz, cel_d, cel_r, mkLst, clsOf, clOf_d, clOf_r, wp_reprB, revS, isi2S, Bool.or_false, Bool.or_true, Bool.false_or, Bool.true_or, bi_lenL, bi_lenT, bi_lenS, bi_listL, bi_listT, bi_tupL, bi_tupT, bi_intI, bi_intB, bi_strI, bi_strS, bi_abs, bi_max, bi_min, bi_all, bi_any, bi_sum, in_l, in_t, in_s, tr_b, tr_i, tr_n, tr_l, tr_t, so_l, so_t, so_s, so_f, io_t, ng_i, pt_i, ag_a, ag_s, rv_l, rv_t, ap_d, rk_l, rk_t, rk_s, rg_1, rg_2, sl_l, sl_t, sl_s, mt_ixS, wp_mkT0, wp_mkT1, wp_mkT2, wp_mkT3, wp_mkT4, wp_mkT5, wp_mkT6, wp_mkT7, wp_mkT8, wp_datR, wp_idxR, wp_setR, wp_appR, set_last, get_last, le_line, lt_line, wp_newM, lg9, meth_words, wp_mkTR, not_true_eq_false, not_false_eq_true, eq_self, ofString_inj, String.reduceEq, wipeS, wp_inS, false_and, and_false]
    exact ret _ _ t1 (by omega) (by omega)
  try simp only [wp_ret, wp_bnd, wp_some, wp_grd, wp_no, wp_dat_pd, wp_dat_fz,  ev, evs, evO, evI, evC, evTs, AI.ex, asgG, asgGs, getV, wp_exs, wp_exs_nil, goS_nx, goS_rt, goS_bk, goS_ct, turnE_nx, turnE_ct, turnE_bk, turnE_rt, endD_rt, endD_nx, back_pd, binS, isFz, cmpS, biS, dats, truth, isiS, allPd, isiD, rkOf, join_some, Option.map, List.map, List.length_cons, List.length_nil, List.getElem?_cons_zero, List.getElem?_cons_succ, List.set_cons_zero, List.set_cons_succ, startS, atI_pos, atI_cast, Int.toNat_natCast, wp_newL1, wp_newL2, wp_newT1, List.length_set, List.set_set, decide_eq_true_eq, decide_eq_false_iff_not, Bool.not_eq_true', true_and, and_true,  ixN_pos, Int.reduceLE, Int.reduceLT, Int.reduceToNat, Int.reduceAdd, Int.reduceSub, Int.reduceMul, Int.reduceMod, Int.reduceNeg, Int.reducePow, Nat.reduceAdd, Nat.reduceLT, Nat.reduceLeDiff, Nat.reduceSub, reduceIte, Int.reduceEq, List.isEmpty_nil, Bool.false_eq_true, Bool.true_eq_false, decide_true, decide_false, ge_iff_le, gt_iff_lt,  wp_eq_int, wp_eq_str, wp_eq_bool, List.length_map, List.replicate, List.cons_append, List.nil_append, Bool.not_false, Bool.not_true, Bool.and_true, Bool.true_and, Bool.and_self, Bool.and_false, Bool.false_and, Option.bind, bn_add, bn_sub, bn_mul, bn_div, bn_mod, bn_pow, bn_addS, bn_addT, bn_addL, cp_eq, cp_ne, cp_ltI, cp_leI, cp_gtI, cp_geI, cp_ltS, cp_leS, cp_gtS, cp_geS, cp_ltT, cp_gtT, cp_in, cp_nin, cp_is, cp_isn, ix_l, ix_t, ix_s, ixs_tp, ixs_pd, ixs_rf, ixs_fz, cel_d, cel_r, mkLst, clsOf, clOf_d, clOf_r, wp_reprB, revS, isi2S, Bool.or_false, Bool.or_true, Bool.false_or, Bool.true_or, bi_lenL, bi_lenT, bi_lenS, bi_listL, bi_listT, bi_tupL, bi_tupT, bi_intI, bi_intB, bi_strI, bi_strS, bi_abs, bi_max, bi_min, bi_all, bi_any, bi_sum, in_l, in_t, in_s, tr_b, tr_i, tr_n, tr_l, tr_t, so_l, so_t, so_s, so_f, io_t, ng_i, pt_i, ag_a, ag_s, rv_l, rv_t, ap_d, rk_l, rk_t, rk_s, rg_1, rg_2, sl_l, sl_t, sl_s, mt_ixS, wp_mkT0, wp_mkT1, wp_mkT2, wp_mkT3, wp_mkT4, wp_mkT5, wp_mkT6, wp_mkT7, wp_mkT8, wp_datR, wp_idxR, wp_setR, wp_appR, set_last, get_last, le_line, lt_line, wp_newM, lg9, meth_words, wp_mkTR, not_true_eq_false, not_false_eq_true, eq_self, ofString_inj, String.reduceEq, wipeS, wp_inS, false_and, and_false]
  refine wp_if (fun c => ?_) (fun c => ?_)
  · try simp only [wp_ret, wp_bnd, wp_some, wp_grd, wp_no, wp_dat_pd, wp_dat_fz,  ev, evs, evO, evI, evC, evTs, AI.ex, asgG, asgGs, getV, wp_exs, wp_exs_nil, goS_nx, goS_rt, goS_bk, goS_ct, turnE_nx, turnE_ct, turnE_bk, turnE_rt, endD_rt, endD_nx, back_pd, binS, isFz, cmpS, biS, dats, truth, isiS, allPd, isiD, rkOf, join_some, Option.map, List.map, List.length_cons, List.length_nil, List.getElem?_cons_zero, List.getElem?_cons_succ, List.set_cons_zero, List.set_cons_succ, startS, atI_pos, atI_cast, Int.toNat_natCast, wp_newL1, wp_newL2, wp_newT1, List.length_set, List.set_set, decide_eq_true_eq, decide_eq_false_iff_not, Bool.not_eq_true', true_and, and_true,  ixN_pos, Int.reduceLE, Int.reduceLT, Int.reduceToNat, Int.reduceAdd, Int.reduceSub, Int.reduceMul, Int.reduceMod, Int.reduceNeg, Int.reducePow, Nat.reduceAdd, Nat.reduceLT, Nat.reduceLeDiff, Nat.reduceSub, reduceIte, Int.reduceEq, List.isEmpty_nil, Bool.false_eq_true, Bool.true_eq_false, decide_true, decide_false, ge_iff_le, gt_iff_lt,  wp_eq_int, wp_eq_str, wp_eq_bool, List.length_map, List.replicate, List.cons_append, List.nil_append, Bool.not_false, Bool.not_true, Bool.and_true, Bool.true_and, Bool.and_self, Bool.and_false, Bool.false_and, Option.bind, bn_add, bn_sub, bn_mul, bn_div, bn_mod, bn_pow, bn_addS, bn_addT, bn_addL, cp_eq, cp_ne, cp_ltI, cp_leI, cp_gtI, cp_geI, cp_ltS, cp_leS, cp_gtS, cp_geS, cp_ltT, cp_gtT, cp_in, cp_nin, cp_is, cp_isn, ix_l, ix_t, ix_s, ixs_tp, ixs_pd, ixs_rf, ixs_fz, cel_d, cel_r, mkLst, clsOf, clOf_d, clOf_r, wp_reprB, revS, isi2S, Bool.or_false, Bool.or_true, Bool.false_or, Bool.true_or, bi_lenL, bi_lenT, bi_lenS, bi_listL, bi_listT, bi_tupL, bi_tupT, bi_intI, bi_intB, bi_strI, bi_strS, bi_abs, bi_max, bi_min, bi_all, bi_any, bi_sum, in_l, in_t, in_s, tr_b, tr_i, tr_n, tr_l, tr_t, so_l, so_t, so_s, so_f, io_t, ng_i, pt_i, ag_a, ag_s, rv_l, rv_t, ap_d, rk_l, rk_t, rk_s, rg_1, rg_2, sl_l, sl_t, sl_s, mt_ixS, wp_mkT0, wp_mkT1, wp_mkT2, wp_mkT3, wp_mkT4, wp_mkT5, wp_mkT6, wp_mkT7, wp_mkT8, wp_datR, wp_idxR, wp_setR, wp_appR, set_last, get_last, le_line, lt_line, wp_newM, lg9, meth_words, wp_mkTR, not_true_eq_false, not_false_eq_true, eq_self, ofString_inj, String.reduceEq, wipeS, wp_inS, false_and, and_false]
    refine wp_atA (fun d => ∃ i : Int, d = .int i ∧ -1000000 ≤ i ∧ i ≤ 1000000) (emod_rng _ (by decide)).1 (emod_rng _ (by decide)).2 (by repeat' first | exact trivial | refine ⟨⟨_, rfl, by decide, by decide⟩, ?_⟩) fun d ⟨i, e, h1, h2⟩ => ?_
    subst e
    exact ret _ _ t1 h1 h2
  · try simp only [wp_ret, wp_bnd, wp_some, wp_grd, wp_no, wp_dat_pd, wp_dat_fz,  ev, evs, evO, evI, evC, evTs, AI.ex, asgG, asgGs, getV, wp_exs, wp_exs_nil, goS_nx, goS_rt, goS_bk, goS_ct, turnE_nx, turnE_ct, turnE_bk, turnE_rt, endD_rt, endD_nx, back_pd, binS, isFz, cmpS, biS, dats, truth, isiS, allPd, isiD, rkOf, join_some, Option.map, List.map, List.length_cons, List.length_nil, List.getElem?_cons_zero, List.getElem?_cons_succ, List.set_cons_zero, List.set_cons_succ, startS, atI_pos, atI_cast, Int.toNat_natCast, wp_newL1, wp_newL2, wp_newT1, List.length_set, List.set_set, decide_eq_true_eq, decide_eq_false_iff_not, Bool.not_eq_true', true_and, and_true,  ixN_pos, Int.reduceLE, Int.reduceLT, Int.reduceToNat, Int.reduceAdd, Int.reduceSub, Int.reduceMul, Int.reduceMod, Int.reduceNeg, Int.reducePow, Nat.reduceAdd, Nat.reduceLT, Nat.reduceLeDiff, Nat.reduceSub, reduceIte, Int.reduceEq, List.isEmpty_nil, Bool.false_eq_true, Bool.true_eq_false, decide_true, decide_false, ge_iff_le, gt_iff_lt,  wp_eq_int, wp_eq_str, wp_eq_bool, List.length_map, List.replicate, List.cons_append, List.nil_append, Bool.not_false, Bool.not_true, Bool.and_true, Bool.true_and, Bool.and_self, Bool.and_false, Bool.false_and, Option.bind, bn_add, bn_sub, bn_mul, bn_div, bn_mod, bn_pow, bn_addS, bn_addT, bn_addL, cp_eq, cp_ne, cp_ltI, cp_leI, cp_gtI, cp_geI, cp_ltS, cp_leS, cp_gtS, cp_geS, cp_ltT, cp_gtT, cp_in, cp_nin, cp_is, cp_isn, ix_l, ix_t, ix_s, ixs_tp, ixs_pd, ixs_rf, ixs_fz, cel_d, cel_r, mkLst, clsOf, clOf_d, clOf_r, wp_reprB, revS, isi2S, Bool.or_false, Bool.or_true, Bool.false_or, Bool.true_or, bi_lenL, bi_lenT, bi_lenS, bi_listL, bi_listT, bi_tupL, bi_tupT, bi_intI, bi_intB, bi_strI, bi_strS, bi_abs, bi_max, bi_min, bi_all, bi_any, bi_sum, in_l, in_t, in_s, tr_b, tr_i, tr_n, tr_l, tr_t, so_l, so_t, so_s, so_f, io_t, ng_i, pt_i, ag_a, ag_s, rv_l, rv_t, ap_d, rk_l, rk_t, rk_s, rg_1, rg_2, sl_l, sl_t, sl_s, mt_ixS, wp_mkT0, wp_mkT1, wp_mkT2, wp_mkT3, wp_mkT4, wp_mkT5, wp_mkT6, wp_mkT7, wp_mkT8, wp_datR, wp_idxR, wp_setR, wp_appR, set_last, get_last, le_line, lt_line, wp_newM, lg9, meth_words, wp_mkTR, not_true_eq_false, not_false_eq_true, eq_self, ofString_inj, String.reduceEq, wipeS, wp_inS, false_and, and_false]
    exact ret _ _ t1 (by omega) (by omega)
/-- a drawn name -/
theorem name1 {k : Nat} (e : Has T "_law_name" ⟨1, 5, b_name1⟩) (ed : Has T "_law_draw" ⟨2, 4, b_draw⟩) (t : TapeB B b) (hB : B + 1 ≤ 16000000)
    (q : ∀ s b', TapeB (B + 1) b' → TxtOk 17 s → Q (.pd (.str s)) (b' :: hs)) : wp ((T (k + 2)).call bx "_law_name" [.rf 0]) Q (b :: hs) := by
  refine wp_call (e _) (wp_def rfl ?_)
  have ret : ∀ s b', TapeB (B + 1) b' → TxtOk 17 s → back (b :: hs).length bx Q (.pd (.str s)) (b' :: hs) := fun i b' t' h1 => by rw [back_pd, List.take_of_length_le (by simp)]; exact q i b' t' h1
  generalize back (b :: hs).length bx Q = Q' at *
  clear q
  have hsl := sizeLine_eq
  have L1 : (Str.ofString "abcdefghijklmnopqrstuvwxyz0123456789_").length = 37 := by decide +kernel
  simp only [wp_ret, wp_bnd, wp_some, wp_grd, wp_no, wp_dat_pd, wp_dat_fz,  ev, evs, evO, evI, evC, evTs, AI.ex, asgG, asgGs, getV, wp_exs, wp_exs_nil, goS_nx, goS_rt, goS_bk, goS_ct, turnE_nx, turnE_ct, turnE_bk, turnE_rt, endD_rt, endD_nx, back_pd, binS, isFz, cmpS, biS, dats, truth, isiS, allPd, isiD, rkOf, join_some, Option.map, List.map, List.length_cons, List.length_nil, List.getElem?_cons_zero, List.getElem?_cons_succ, List.set_cons_zero, List.set_cons_succ, startS, atI_pos, atI_cast, Int.toNat_natCast, wp_newL1, wp_newL2, wp_newT1, List.length_set, List.set_set, decide_eq_true_eq, decide_eq_false_iff_not, Bool.not_eq_true', true_and, and_true,  ixN_pos, Int.reduceLE, Int.reduceLT, Int.reduceToNat, Int.reduceAdd, Int.reduceSub, Int.reduceMul, Int.reduceMod, Int.reduceNeg, Int.reducePow, Nat.reduceAdd, Nat.reduceLT, Nat.reduceLeDiff, Nat.reduceSub, reduceIte, Int.reduceEq, List.isEmpty_nil, Bool.false_eq_true, Bool.true_eq_false, decide_true, decide_false, ge_iff_le, gt_iff_lt,  wp_eq_int, wp_eq_str, wp_eq_bool, List.length_map, List.replicate, List.cons_append, List.nil_append, Bool.not_false, Bool.not_true, Bool.and_true, Bool.true_and, Bool.and_self, Bool.and_false, Bool.false_and, Option.bind, bn_add, bn_sub, bn_mul, bn_div, bn_mod, bn_pow, bn_addS, bn_addT, bn_addL, cp_eq, cp_ne, cp_ltI, cp_leI, cp_gtI, cp_geI, cp_ltS, cp_leS, cp_gtS, cp_geS, cp_ltT, cp_gtT, cp_in, cp_nin, cp_is, cp_isn, ix_l, ix_t, ix_s, ixs_tp, ixs_pd, ixs_rf, ixs_fz, cel_d, cel_r, mkLst, clsOf, clOf_d, clOf_r, wp_reprB, revS, isi2S, Bool.or_false, Bool.or_true, Bool.false_or, Bool.true_or, bi_lenL, bi_lenT, bi_lenS, bi_listL, bi_listT, bi_tupL, bi_tupT, bi_intI, bi_intB, bi_strI, bi_strS, bi_abs, bi_max, bi_min, bi_all, bi_any, bi_sum, in_l, in_t, in_s, tr_b, tr_i, tr_n, tr_l, tr_t, so_l, so_t, so_s, so_f, io_t, ng_i, pt_i, ag_a, ag_s, rv_l, rv_t, ap_d, rk_l, rk_t, rk_s, rg_1, rg_2, sl_l, sl_t, sl_s, mt_ixS, wp_mkT0, wp_mkT1, wp_mkT2, wp_mkT3, wp_mkT4, wp_mkT5, wp_mkT6, wp_mkT7, wp_mkT8, wp_datR, wp_idxR, wp_setR, wp_appR, set_last, get_last, le_line, lt_line, wp_newM, lg9, meth_words, wp_mkTR, not_true_eq_false, not_false_eq_true, eq_self, ofString_inj, String.reduceEq, wipeS, wp_inS, false_and, and_false, b_name1, L1]
  refine draw1 (ed _) t (by omega) (by decide) fun v b1 t1 hv => ?_
  obtain ⟨v0, v1⟩ := hv.lt (by decide)
  simp only [wp_ret, wp_bnd, wp_some, wp_grd, wp_no, wp_dat_pd, wp_dat_fz,  ev, evs, evO, evI, evC, evTs, AI.ex, asgG, asgGs, getV, wp_exs, wp_exs_nil, goS_nx, goS_rt, goS_bk, goS_ct, turnE_nx, turnE_ct, turnE_bk, turnE_rt, endD_rt, endD_nx, back_pd, binS, isFz, cmpS, biS, dats, truth, isiS, allPd, isiD, rkOf, join_some, Option.map, List.map, List.length_cons, List.length_nil, List.getElem?_cons_zero, List.getElem?_cons_succ, List.set_cons_zero, List.set_cons_succ, startS, atI_pos, atI_cast, Int.toNat_natCast, wp_newL1, wp_newL2, wp_newT1, List.length_set, List.set_set, decide_eq_true_eq, decide_eq_false_iff_not, Bool.not_eq_true', true_and, and_true,  ixN_pos, Int.reduceLE, Int.reduceLT, Int.reduceToNat, Int.reduceAdd, Int.reduceSub, Int.reduceMul, Int.reduceMod, Int.reduceNeg, Int.reducePow, Nat.reduceAdd, Nat.reduceLT, Nat.reduceLeDiff, Nat.reduceSub, reduceIte, Int.reduceEq, List.isEmpty_nil, Bool.false_eq_true, Bool.true_eq_false, decide_true, decide_false, ge_iff_le, gt_iff_lt,  wp_eq_int, wp_eq_str, wp_eq_bool, List.length_map, List.replicate, List.cons_append, List.nil_append, Bool.not_false, Bool.not_true, Bool.and_true, Bool.true_and, Bool.and_self, Bool.and_false, Bool.false_and, Option.bind, bn_add, bn_sub, bn_mul, bn_div, bn_mod, bn_pow, bn_addS, bn_addT, bn_addL, cp_eq, cp_ne, cp_ltI, cp_leI, cp_gtI, cp_geI, cp_ltS, cp_leS, cp_gtS, cp_geS, cp_ltT, cp_gtT, cp_in, cp_nin, cp_is, cp_isn, ix_l, ix_t, ix_s, ixs_tp, ixs_pd, ixs_rf, ixs_fz, cel_d, cel_r, mkLst, clsOf, clOf_d, clOf_r, wp_reprB, revS, isi2S, Bool.or_false, Bool.or_true, Bool.false_or, Bool.true_or, bi_lenL, bi_lenT, bi_lenS, bi_listL, bi_listT, bi_tupL, bi_tupT, bi_intI, bi_intB, bi_strI, bi_strS, bi_abs, bi_max, bi_min, bi_all, bi_any, bi_sum, in_l, in_t, in_s, tr_b, tr_i, tr_n, tr_l, tr_t, so_l, so_t, so_s, so_f, io_t, ng_i, pt_i, ag_a, ag_s, rv_l, rv_t, ap_d, rk_l, rk_t, rk_s, rg_1, rg_2, sl_l, sl_t, sl_s, mt_ixS, wp_mkT0, wp_mkT1, wp_mkT2, wp_mkT3, wp_mkT4, wp_mkT5, wp_mkT6, wp_mkT7, wp_mkT8, wp_datR, wp_idxR, wp_setR, wp_appR, set_last, get_last, le_line, lt_line, wp_newM, lg9, meth_words, wp_mkTR, not_true_eq_false, not_false_eq_true, eq_self, ofString_inj, String.reduceEq, wipeS, wp_inS, false_and, and_false, L1]
  refine wp_atA (fun d => ∃ s : Str, d = .str s ∧ TxtOk 13 s) (emod_rng _ (by decide)).1 (emod_rng _ (by decide)).2 (by repeat' first | exact trivial | refine ⟨⟨_, rfl, TxtOk.lit (by decide +kernel)⟩, ?_⟩) fun d ⟨s0, e0, g0⟩ => ?_
  subst e0
  refine wp_atM (emod_rng _ (by decide)).1 (by rw [str_size, L1]; exact Int.lt_trans (emod_rng _ (by decide)).2 (by decide)) fun a1 m1 => ?_
  have h0 := g0.1
  have l0 := g0.add (TxtOk.one (low_SG a1 m1))
  simp only [wp_ret, wp_bnd, wp_some, wp_grd, wp_no, wp_dat_pd, wp_dat_fz,  ev, evs, evO, evI, evC, evTs, AI.ex, asgG, asgGs, getV, wp_exs, wp_exs_nil, goS_nx, goS_rt, goS_bk, goS_ct, turnE_nx, turnE_ct, turnE_bk, turnE_rt, endD_rt, endD_nx, back_pd, binS, isFz, cmpS, biS, dats, truth, isiS, allPd, isiD, rkOf, join_some, Option.map, List.map, List.length_cons, List.length_nil, List.getElem?_cons_zero, List.getElem?_cons_succ, List.set_cons_zero, List.set_cons_succ, startS, atI_pos, atI_cast, Int.toNat_natCast, wp_newL1, wp_newL2, wp_newT1, List.length_set, List.set_set, decide_eq_true_eq, decide_eq_false_iff_not, Bool.not_eq_true', true_and, and_true,  ixN_pos, Int.reduceLE, Int.reduceLT, Int.reduceToNat, Int.reduceAdd, Int.reduceSub, Int.reduceMul, Int.reduceMod, Int.reduceNeg, Int.reducePow, Nat.reduceAdd, Nat.reduceLT, Nat.reduceLeDiff, Nat.reduceSub, reduceIte, Int.reduceEq, List.isEmpty_nil, Bool.false_eq_true, Bool.true_eq_false, decide_true, decide_false, ge_iff_le, gt_iff_lt,  wp_eq_int, wp_eq_str, wp_eq_bool, List.length_map, List.replicate, List.cons_append, List.nil_append, Bool.not_false, Bool.not_true, Bool.and_true, Bool.true_and, Bool.and_self, Bool.and_false, Bool.false_and, Option.bind, bn_add, bn_sub, bn_mul, bn_div, bn_mod, bn_pow, bn_addS, bn_addT, bn_addL, cp_eq, cp_ne, cp_ltI, cp_leI, cp_gtI, cp_geI, cp_ltS, cp_leS, cp_gtS, cp_geS, cp_ltT, cp_gtT, cp_in, cp_nin, cp_is, cp_isn, ix_l, ix_t, ix_s, ixs_tp, ixs_pd, ixs_rf, ixs_fz, cel_d, cel_r, mkLst, clsOf, clOf_d, clOf_r, wp_reprB, revS, isi2S, Bool.or_false, Bool.or_true, Bool.false_or, Bool.true_or, bi_lenL, bi_lenT, bi_lenS, bi_listL, bi_listT, bi_tupL, bi_tupT, bi_intI, bi_intB, bi_strI, bi_strS, bi_abs, bi_max, bi_min, bi_all, bi_any, bi_sum, in_l, in_t, in_s, tr_b, tr_i, tr_n, tr_l, tr_t, so_l, so_t, so_s, so_f, io_t, ng_i, pt_i, ag_a, ag_s, rv_l, rv_t, ap_d, rk_l, rk_t, rk_s, rg_1, rg_2, sl_l, sl_t, sl_s, mt_ixS, wp_mkT0, wp_mkT1, wp_mkT2, wp_mkT3, wp_mkT4, wp_mkT5, wp_mkT6, wp_mkT7, wp_mkT8, wp_datR, wp_idxR, wp_setR, wp_appR, set_last, get_last, le_line, lt_line, wp_newM, lg9, meth_words, wp_mkTR, not_true_eq_false, not_false_eq_true, eq_self, ofString_inj, String.reduceEq, wipeS, wp_inS, false_and, and_false]
  refine ⟨by rw [str_one]; omega, ?_⟩
  refine wp_atA (fun d => ∃ j : Nat, d = .int j ∧ j ≤ 2) (emod_rng _ (by decide)).1 (emod_rng _ (by decide)).2 ⟨⟨0, rfl, by decide⟩, ⟨0, rfl, by decide⟩, ⟨1, rfl, by decide⟩, ⟨2, rfl, by decide⟩, trivial⟩ fun d ⟨j, ej, j2⟩ => ?_
  subst ej
  simp only [wp_ret, wp_bnd, wp_some, wp_grd, wp_no, wp_dat_pd, wp_dat_fz,  ev, evs, evO, evI, evC, evTs, AI.ex, asgG, asgGs, getV, wp_exs, wp_exs_nil, goS_nx, goS_rt, goS_bk, goS_ct, turnE_nx, turnE_ct, turnE_bk, turnE_rt, endD_rt, endD_nx, back_pd, binS, isFz, cmpS, biS, dats, truth, isiS, allPd, isiD, rkOf, join_some, Option.map, List.map, List.length_cons, List.length_nil, List.getElem?_cons_zero, List.getElem?_cons_succ, List.set_cons_zero, List.set_cons_succ, startS, atI_pos, atI_cast, Int.toNat_natCast, wp_newL1, wp_newL2, wp_newT1, List.length_set, List.set_set, decide_eq_true_eq, decide_eq_false_iff_not, Bool.not_eq_true', true_and, and_true,  ixN_pos, Int.reduceLE, Int.reduceLT, Int.reduceToNat, Int.reduceAdd, Int.reduceSub, Int.reduceMul, Int.reduceMod, Int.reduceNeg, Int.reducePow, Nat.reduceAdd, Nat.reduceLT, Nat.reduceLeDiff, Nat.reduceSub, reduceIte, Int.reduceEq, List.isEmpty_nil, Bool.false_eq_true, Bool.true_eq_false, decide_true, decide_false, ge_iff_le, gt_iff_lt,  wp_eq_int, wp_eq_str, wp_eq_bool, List.length_map, List.replicate, List.cons_append, List.nil_append, Bool.not_false, Bool.not_true, Bool.and_true, Bool.true_and, Bool.and_self, Bool.and_false, Bool.false_and, Option.bind, bn_add, bn_sub, bn_mul, bn_div, bn_mod, bn_pow, bn_addS, bn_addT, bn_addL, cp_eq, cp_ne, cp_ltI, cp_leI, cp_gtI, cp_geI, cp_ltS, cp_leS, cp_gtS, cp_geS, cp_ltT, cp_gtT, cp_in, cp_nin, cp_is, cp_isn, ix_l, ix_t, ix_s, ixs_tp, ixs_pd, ixs_rf, ixs_fz, cel_d, cel_r, mkLst, clsOf, clOf_d, clOf_r, wp_reprB, revS, isi2S, Bool.or_false, Bool.or_true, Bool.false_or, Bool.true_or, bi_lenL, bi_lenT, bi_lenS, bi_listL, bi_listT, bi_tupL, bi_tupT, bi_intI, bi_intB, bi_strI, bi_strS, bi_abs, bi_max, bi_min, bi_all, bi_any, bi_sum, in_l, in_t, in_s, tr_b, tr_i, tr_n, tr_l, tr_t, so_l, so_t, so_s, so_f, io_t, ng_i, pt_i, ag_a, ag_s, rv_l, rv_t, ap_d, rk_l, rk_t, rk_s, rg_1, rg_2, sl_l, sl_t, sl_s, mt_ixS, wp_mkT0, wp_mkT1, wp_mkT2, wp_mkT3, wp_mkT4, wp_mkT5, wp_mkT6, wp_mkT7, wp_mkT8, wp_datR, wp_idxR, wp_setR, wp_appR, set_last, get_last, le_line, lt_line, wp_newM, lg9, meth_words, wp_mkTR, not_true_eq_false, not_false_eq_true, eq_self, ofString_inj, String.reduceEq, wipeS, wp_inS, false_and, and_false]
  refine ⟨⟨by omega, by omega⟩, ?_⟩
  refine wp_rngJ (fun i σ h' => ∃ (s : Str) (y : Option RV), h' = b1 :: hs ∧ TxtOk (14 + i) s ∧ σ = [some (.rf 0), some (.pd (.str "abcdefghijklmnopqrstuvwxyz0123456789_")), some (.pd (.int v)), some (.pd (.str s)), y]) ⟨_, _, rfl, l0, rfl⟩ ?_ ?_
  · rintro i hi σ h' ⟨s, y, rfl, hs1, rfl⟩ J hJ
    have hs1l := hs1.1
    simp only [wp_ret, wp_bnd, wp_some, wp_grd, wp_no, wp_dat_pd, wp_dat_fz,  ev, evs, evO, evI, evC, evTs, AI.ex, asgG, asgGs, getV, wp_exs, wp_exs_nil, goS_nx, goS_rt, goS_bk, goS_ct, turnE_nx, turnE_ct, turnE_bk, turnE_rt, endD_rt, endD_nx, back_pd, binS, isFz, cmpS, biS, dats, truth, isiS, allPd, isiD, rkOf, join_some, Option.map, List.map, List.length_cons, List.length_nil, List.getElem?_cons_zero, List.getElem?_cons_succ, List.set_cons_zero, List.set_cons_succ, startS, atI_pos, atI_cast, Int.toNat_natCast, wp_newL1, wp_newL2, wp_newT1, List.length_set, List.set_set, decide_eq_true_eq, decide_eq_false_iff_not, Bool.not_eq_true', true_and, and_true,  ixN_pos, Int.reduceLE, Int.reduceLT, Int.reduceToNat, Int.reduceAdd, Int.reduceSub, Int.reduceMul, Int.reduceMod, Int.reduceNeg, Int.reducePow, Nat.reduceAdd, Nat.reduceLT, Nat.reduceLeDiff, Nat.reduceSub, reduceIte, Int.reduceEq, List.isEmpty_nil, Bool.false_eq_true, Bool.true_eq_false, decide_true, decide_false, ge_iff_le, gt_iff_lt,  wp_eq_int, wp_eq_str, wp_eq_bool, List.length_map, List.replicate, List.cons_append, List.nil_append, Bool.not_false, Bool.not_true, Bool.and_true, Bool.true_and, Bool.and_self, Bool.and_false, Bool.false_and, Option.bind, bn_add, bn_sub, bn_mul, bn_div, bn_mod, bn_pow, bn_addS, bn_addT, bn_addL, cp_eq, cp_ne, cp_ltI, cp_leI, cp_gtI, cp_geI, cp_ltS, cp_leS, cp_gtS, cp_geS, cp_ltT, cp_gtT, cp_in, cp_nin, cp_is, cp_isn, ix_l, ix_t, ix_s, ixs_tp, ixs_pd, ixs_rf, ixs_fz, cel_d, cel_r, mkLst, clsOf, clOf_d, clOf_r, wp_reprB, revS, isi2S, Bool.or_false, Bool.or_true, Bool.false_or, Bool.true_or, bi_lenL, bi_lenT, bi_lenS, bi_listL, bi_listT, bi_tupL, bi_tupT, bi_intI, bi_intB, bi_strI, bi_strS, bi_abs, bi_max, bi_min, bi_all, bi_any, bi_sum, in_l, in_t, in_s, tr_b, tr_i, tr_n, tr_l, tr_t, so_l, so_t, so_s, so_f, io_t, ng_i, pt_i, ag_a, ag_s, rv_l, rv_t, ap_d, rk_l, rk_t, rk_s, rg_1, rg_2, sl_l, sl_t, sl_s, mt_ixS, wp_mkT0, wp_mkT1, wp_mkT2, wp_mkT3, wp_mkT4, wp_mkT5, wp_mkT6, wp_mkT7, wp_mkT8, wp_datR, wp_idxR, wp_setR, wp_appR, set_last, get_last, le_line, lt_line, wp_newM, lg9, meth_words, wp_mkTR, not_true_eq_false, not_false_eq_true, eq_self, ofString_inj, String.reduceEq, wipeS, wp_inS, false_and, and_false, L1]
    refine wp_atA (fun d => d = .int 416 ∨ d = .int 15392) (by omega) (show (0 : Int) + (i : Int) < 2 by omega) ⟨.inl rfl, .inr rfl, trivial⟩ fun d hd => ?_
    rcases hd with rfl | rfl <;> (
      simp only [wp_ret, wp_bnd, wp_some, wp_grd, wp_no, wp_dat_pd, wp_dat_fz,  ev, evs, evO, evI, evC, evTs, AI.ex, asgG, asgGs, getV, wp_exs, wp_exs_nil, goS_nx, goS_rt, goS_bk, goS_ct, turnE_nx, turnE_ct, turnE_bk, turnE_rt, endD_rt, endD_nx, back_pd, binS, isFz, cmpS, biS, dats, truth, isiS, allPd, isiD, rkOf, join_some, Option.map, List.map, List.length_cons, List.length_nil, List.getElem?_cons_zero, List.getElem?_cons_succ, List.set_cons_zero, List.set_cons_succ, startS, atI_pos, atI_cast, Int.toNat_natCast, wp_newL1, wp_newL2, wp_newT1, List.length_set, List.set_set, decide_eq_true_eq, decide_eq_false_iff_not, Bool.not_eq_true', true_and, and_true,  ixN_pos, Int.reduceLE, Int.reduceLT, Int.reduceToNat, Int.reduceAdd, Int.reduceSub, Int.reduceMul, Int.reduceMod, Int.reduceNeg, Int.reducePow, Nat.reduceAdd, Nat.reduceLT, Nat.reduceLeDiff, Nat.reduceSub, reduceIte, Int.reduceEq, List.isEmpty_nil, Bool.false_eq_true, Bool.true_eq_false, decide_true, decide_false, ge_iff_le, gt_iff_lt,  wp_eq_int, wp_eq_str, wp_eq_bool, List.length_map, List.replicate, List.cons_append, List.nil_append, Bool.not_false, Bool.not_true, Bool.and_true, Bool.true_and, Bool.and_self, Bool.and_false, Bool.false_and, Option.bind, bn_add, bn_sub, bn_mul, bn_div, bn_mod, bn_pow, bn_addS, bn_addT, bn_addL, cp_eq, cp_ne, cp_ltI, cp_leI, cp_gtI, cp_geI, cp_ltS, cp_leS, cp_gtS, cp_geS, cp_ltT, cp_gtT, cp_in, cp_nin, cp_is, cp_isn, ix_l, ix_t, ix_s, ixs_tp, ixs_pd, ixs_rf, ixs_fz, cel_d, cel_r, mkLst, clsOf, clOf_d, clOf_r, wp_reprB, revS, isi2S, Bool.or_false, Bool.or_true, Bool.false_or, Bool.true_or, bi_lenL, bi_lenT, bi_lenS, bi_listL, bi_listT, bi_tupL, bi_tupT, bi_intI, bi_intB, bi_strI, bi_strS, bi_abs, bi_max, bi_min, bi_all, bi_any, bi_sum, in_l, in_t, in_s, tr_b, tr_i, tr_n, tr_l, tr_t, so_l, so_t, so_s, so_f, io_t, ng_i, pt_i, ag_a, ag_s, rv_l, rv_t, ap_d, rk_l, rk_t, rk_s, rg_1, rg_2, sl_l, sl_t, sl_s, mt_ixS, wp_mkT0, wp_mkT1, wp_mkT2, wp_mkT3, wp_mkT4, wp_mkT5, wp_mkT6, wp_mkT7, wp_mkT8, wp_datR, wp_idxR, wp_setR, wp_appR, set_last, get_last, le_line, lt_line, wp_newM, lg9, meth_words, wp_mkTR, not_true_eq_false, not_false_eq_true, eq_self, ofString_inj, String.reduceEq, wipeS, wp_inS, false_and, and_false, L1]
      refine wp_atM (emod_rng _ (by decide)).1 (by rw [str_size, L1]; exact (emod_rng _ (by decide)).2) fun a2 m2 => ?_
      exact ⟨by rw [str_one]; omega, hJ _ _ ⟨_, _, rfl, (hs1.add (TxtOk.one (low_SG a2 m2))).up (by omega), rfl⟩⟩)
  rintro σ h' ⟨s, y, rfl, hs1, rfl⟩
  have hj : TxtOk 16 s := hs1.up (by have : (j : Int).toNat = j := by omega
                                     omega)
  have hj1 := hj.1
  simp only [wp_ret, wp_bnd, wp_some, wp_grd, wp_no, wp_dat_pd, wp_dat_fz,  ev, evs, evO, evI, evC, evTs, AI.ex, asgG, asgGs, getV, wp_exs, wp_exs_nil, goS_nx, goS_rt, goS_bk, goS_ct, turnE_nx, turnE_ct, turnE_bk, turnE_rt, endD_rt, endD_nx, back_pd, binS, isFz, cmpS, biS, dats, truth, isiS, allPd, isiD, rkOf, join_some, Option.map, List.map, List.length_cons, List.length_nil, List.getElem?_cons_zero, List.getElem?_cons_succ, List.set_cons_zero, List.set_cons_succ, startS, atI_pos, atI_cast, Int.toNat_natCast, wp_newL1, wp_newL2, wp_newT1, List.length_set, List.set_set, decide_eq_true_eq, decide_eq_false_iff_not, Bool.not_eq_true', true_and, and_true,  ixN_pos, Int.reduceLE, Int.reduceLT, Int.reduceToNat, Int.reduceAdd, Int.reduceSub, Int.reduceMul, Int.reduceMod, Int.reduceNeg, Int.reducePow, Nat.reduceAdd, Nat.reduceLT, Nat.reduceLeDiff, Nat.reduceSub, reduceIte, Int.reduceEq, List.isEmpty_nil, Bool.false_eq_true, Bool.true_eq_false, decide_true, decide_false, ge_iff_le, gt_iff_lt,  wp_eq_int, wp_eq_str, wp_eq_bool, List.length_map, List.replicate, List.cons_append, List.nil_append, Bool.not_false, Bool.not_true, Bool.and_true, Bool.true_and, Bool.and_self, Bool.and_false, Bool.false_and, Option.bind, bn_add, bn_sub, bn_mul, bn_div, bn_mod, bn_pow, bn_addS, bn_addT, bn_addL, cp_eq, cp_ne, cp_ltI, cp_leI, cp_gtI, cp_geI, cp_ltS, cp_leS, cp_gtS, cp_geS, cp_ltT, cp_gtT, cp_in, cp_nin, cp_is, cp_isn, ix_l, ix_t, ix_s, ixs_tp, ixs_pd, ixs_rf, ixs_fz, cel_d, cel_r, mkLst, clsOf, clOf_d, clOf_r, wp_reprB, revS, isi2S, Bool.or_false, Bool.or_true, Bool.false_or, Bool.true_or, bi_lenL, bi_lenT, bi_lenS, bi_listL, bi_listT, bi_tupL, bi_tupT, bi_intI, bi_intB, bi_strI, bi_strS, bi_abs, bi_max, bi_min, bi_all, bi_any, bi_sum, in_l, in_t, in_s, tr_b, tr_i, tr_n, tr_l, tr_t, so_l, so_t, so_s, so_f, io_t, ng_i, pt_i, ag_a, ag_s, rv_l, rv_t, ap_d, rk_l, rk_t, rk_s, rg_1, rg_2, sl_l, sl_t, sl_s, mt_ixS, wp_mkT0, wp_mkT1, wp_mkT2, wp_mkT3, wp_mkT4, wp_mkT5, wp_mkT6, wp_mkT7, wp_mkT8, wp_datR, wp_idxR, wp_setR, wp_appR, set_last, get_last, le_line, lt_line, wp_newM, lg9, meth_words, wp_mkTR, not_true_eq_false, not_false_eq_true, eq_self, ofString_inj, String.reduceEq, wipeS, wp_inS, false_and, and_false, show (Str.ofString "_").length = 1 by decide +kernel]
  refine wp_if (fun c => ?_) (fun c => ?_)
  · simp only [wp_ret, wp_bnd, wp_some, wp_grd, wp_no, wp_dat_pd, wp_dat_fz,  ev, evs, evO, evI, evC, evTs, AI.ex, asgG, asgGs, getV, wp_exs, wp_exs_nil, goS_nx, goS_rt, goS_bk, goS_ct, turnE_nx, turnE_ct, turnE_bk, turnE_rt, endD_rt, endD_nx, back_pd, binS, isFz, cmpS, biS, dats, truth, isiS, allPd, isiD, rkOf, join_some, Option.map, List.map, List.length_cons, List.length_nil, List.getElem?_cons_zero, List.getElem?_cons_succ, List.set_cons_zero, List.set_cons_succ, startS, atI_pos, atI_cast, Int.toNat_natCast, wp_newL1, wp_newL2, wp_newT1, List.length_set, List.set_set, decide_eq_true_eq, decide_eq_false_iff_not, Bool.not_eq_true', true_and, and_true,  ixN_pos, Int.reduceLE, Int.reduceLT, Int.reduceToNat, Int.reduceAdd, Int.reduceSub, Int.reduceMul, Int.reduceMod, Int.reduceNeg, Int.reducePow, Nat.reduceAdd, Nat.reduceLT, Nat.reduceLeDiff, Nat.reduceSub, reduceIte, Int.reduceEq, List.isEmpty_nil, Bool.false_eq_true, Bool.true_eq_false, decide_true, decide_false, ge_iff_le, gt_iff_lt,  wp_eq_int, wp_eq_str, wp_eq_bool, List.length_map, List.replicate, List.cons_append, List.nil_append, Bool.not_false, Bool.not_true, Bool.and_true, Bool.true_and, Bool.and_self, Bool.and_false, Bool.false_and, Option.bind, bn_add, bn_sub, bn_mul, bn_div, bn_mod, bn_pow, bn_addS, bn_addT, bn_addL, cp_eq, cp_ne, cp_ltI, cp_leI, cp_gtI, cp_geI, cp_ltS, cp_leS, cp_gtS, cp_geS, cp_ltT, cp_gtT, cp_in, cp_nin, cp_is, cp_isn, ix_l, ix_t, ix_s, ixs_tp, ixs_pd, ixs_rf, ixs_fz, cel_d, cel_r, mkLst, clsOf, clOf_d, clOf_r, wp_reprB, revS, isi2S, Bool.or_false, Bool.or_true, Bool.false_or, Bool.true_or, bi_lenL, bi_lenT, bi_lenS, bi_listL, bi_listT, bi_tupL, bi_tupT, bi_intI, bi_intB, bi_strI, bi_strS, bi_abs, bi_max, bi_min, bi_all, bi_any, bi_sum, in_l, in_t, in_s, tr_b, tr_i, tr_n, tr_l, tr_t, so_l, so_t, so_s, so_f, io_t, ng_i, pt_i, ag_a, ag_s, rv_l, rv_t, ap_d, rk_l, rk_t, rk_s, rg_1, rg_2, sl_l, sl_t, sl_s, mt_ixS, wp_mkT0, wp_mkT1, wp_mkT2, wp_mkT3, wp_mkT4, wp_mkT5, wp_mkT6, wp_mkT7, wp_mkT8, wp_datR, wp_idxR, wp_setR, wp_appR, set_last, get_last, le_line, lt_line, wp_newM, lg9, meth_words, wp_mkTR, not_true_eq_false, not_false_eq_true, eq_self, ofString_inj, String.reduceEq, wipeS, wp_inS, false_and, and_false, show (Str.ofString "_").length = 1 by decide +kernel]
    exact ⟨by omega, ret _ _ t1 ((hj.add (m' := 1) (TxtOk.lit (by decide +kernel))).up (by decide))⟩
  · simp only [wp_ret, wp_bnd, wp_some, wp_grd, wp_no, wp_dat_pd, wp_dat_fz,  ev, evs, evO, evI, evC, evTs, AI.ex, asgG, asgGs, getV, wp_exs, wp_exs_nil, goS_nx, goS_rt, goS_bk, goS_ct, turnE_nx, turnE_ct, turnE_bk, turnE_rt, endD_rt, endD_nx, back_pd, binS, isFz, cmpS, biS, dats, truth, isiS, allPd, isiD, rkOf, join_some, Option.map, List.map, List.length_cons, List.length_nil, List.getElem?_cons_zero, List.getElem?_cons_succ, List.set_cons_zero, List.set_cons_succ, startS, atI_pos, atI_cast, Int.toNat_natCast, wp_newL1, wp_newL2, wp_newT1, List.length_set, List.set_set, decide_eq_true_eq, decide_eq_false_iff_not, Bool.not_eq_true', true_and, and_true,  ixN_pos, Int.reduceLE, Int.reduceLT, Int.reduceToNat, Int.reduceAdd, Int.reduceSub, Int.reduceMul, Int.reduceMod, Int.reduceNeg, Int.reducePow, Nat.reduceAdd, Nat.reduceLT, Nat.reduceLeDiff, Nat.reduceSub, reduceIte, Int.reduceEq, List.isEmpty_nil, Bool.false_eq_true, Bool.true_eq_false, decide_true, decide_false, ge_iff_le, gt_iff_lt,  wp_eq_int, wp_eq_str, wp_eq_bool, List.length_map, List.replicate, List.cons_append, List.nil_append, Bool.not_false, Bool.not_true, Bool.and_true, Bool.true_and, Bool.and_self, Bool.and_false, Bool.false_and, Option.bind, bn_add, bn_sub, bn_mul, bn_div, bn_mod, bn_pow, bn_addS, bn_addT, bn_addL, cp_eq, cp_ne, cp_ltI, cp_leI, cp_gtI, cp_geI, cp_ltS, cp_leS, cp_gtS, cp_geS, cp_ltT, cp_gtT, cp_in, cp_nin, cp_is, cp_isn, ix_l, ix_t, ix_s, ixs_tp, ixs_pd, ixs_rf, ixs_fz, cel_d, cel_r, mkLst, clsOf, clOf_d, clOf_r, wp_reprB, revS, isi2S, Bool.or_false, Bool.or_true, Bool.false_or, Bool.true_or, bi_lenL, bi_lenT, bi_lenS, bi_listL, bi_listT, bi_tupL, bi_tupT, bi_intI, bi_intB, bi_strI, bi_strS, bi_abs, bi_max, bi_min, bi_all, bi_any, bi_sum, in_l, in_t, in_s, tr_b, tr_i, tr_n, tr_l, tr_t, so_l, so_t, so_s, so_f, io_t, ng_i, pt_i, ag_a, ag_s, rv_l, rv_t, ap_d, rk_l, rk_t, rk_s, rg_1, rg_2, sl_l, sl_t, sl_s, mt_ixS, wp_mkT0, wp_mkT1, wp_mkT2, wp_mkT3, wp_mkT4, wp_mkT5, wp_mkT6, wp_mkT7, wp_mkT8, wp_datR, wp_idxR, wp_setR, wp_appR, set_last, get_last, le_line, lt_line, wp_newM, lg9, meth_words, wp_mkTR, not_true_eq_false, not_false_eq_true, eq_self, ofString_inj, String.reduceEq, wipeS, wp_inS, false_and, and_false]
    exact ret _ _ t1 (hj.up (by decide))
/-- names that are drawn -/
theorem names1 {k m : Nat} (en : Has T "_law_names" ⟨2, 5, b_names1⟩) (e : Has T "_law_name" ⟨1, 5, b_name1⟩) (ed : Has T "_law_draw" ⟨2, 4, b_draw⟩) (t : TapeB B b) (hm : 1 ≤ m) (hm2 : m ≤ 100) (hB : B + m ≤ 16000000)
    (q : ∀ xs b', TapeB (B + m) b' → Nms m xs → Q (.pd (.list (xs.map .str))) (b' :: hs)) : wp ((T (k + 3)).call false "_law_names" [.rf 0, .pd (.int m)]) Q (b :: hs) := by
  refine wp_call (en _) (wp_def rfl ?_)
  have ret : ∀ xs b', TapeB (B + m) b' → Nms m xs → back (b :: hs).length false Q (.rf (hs.length + 1)) (b' :: (hs ++ [.lst (xs.map .str)])) := fun xs b' t' hx => by
    refine ⟨.pd (.list (xs.map .str)), b' :: hs, ?_, q xs b' t' hx⟩
    unfold settle
    simp only [List.length_cons, if_neg (Nat.lt_irrefl _), List.getElem?_cons_succ, get_last, Bool.false_eq_true, if_false, List.take_succ_cons, List.take_left]
  generalize back (b :: hs).length false Q = Q' at *
  clear q
  have hsl := sizeLine_eq
  simp only [wp_ret, wp_bnd, wp_some, wp_grd, wp_no, wp_dat_pd, wp_dat_fz,  ev, evs, evO, evI, evC, evTs, AI.ex, asgG, asgGs, getV, wp_exs, wp_exs_nil, goS_nx, goS_rt, goS_bk, goS_ct, turnE_nx, turnE_ct, turnE_bk, turnE_rt, endD_rt, endD_nx, back_pd, binS, isFz, cmpS, biS, dats, truth, isiS, allPd, isiD, rkOf, join_some, Option.map, List.map, List.length_cons, List.length_nil, List.getElem?_cons_zero, List.getElem?_cons_succ, List.set_cons_zero, List.set_cons_succ, startS, atI_pos, atI_cast, Int.toNat_natCast, wp_newL1, wp_newL2, wp_newT1, List.length_set, List.set_set, decide_eq_true_eq, decide_eq_false_iff_not, Bool.not_eq_true', true_and, and_true,  ixN_pos, Int.reduceLE, Int.reduceLT, Int.reduceToNat, Int.reduceAdd, Int.reduceSub, Int.reduceMul, Int.reduceMod, Int.reduceNeg, Int.reducePow, Nat.reduceAdd, Nat.reduceLT, Nat.reduceLeDiff, Nat.reduceSub, reduceIte, Int.reduceEq, List.isEmpty_nil, Bool.false_eq_true, Bool.true_eq_false, decide_true, decide_false, ge_iff_le, gt_iff_lt,  wp_eq_int, wp_eq_str, wp_eq_bool, List.length_map, List.replicate, List.cons_append, List.nil_append, Bool.not_false, Bool.not_true, Bool.and_true, Bool.true_and, Bool.and_self, Bool.and_false, Bool.false_and, Option.bind, bn_add, bn_sub, bn_mul, bn_div, bn_mod, bn_pow, bn_addS, bn_addT, bn_addL, cp_eq, cp_ne, cp_ltI, cp_leI, cp_gtI, cp_geI, cp_ltS, cp_leS, cp_gtS, cp_geS, cp_ltT, cp_gtT, cp_in, cp_nin, cp_is, cp_isn, ix_l, ix_t, ix_s, ixs_tp, ixs_pd, ixs_rf, ixs_fz, cel_d, cel_r, mkLst, clsOf, clOf_d, clOf_r, wp_reprB, revS, isi2S, Bool.or_false, Bool.or_true, Bool.false_or, Bool.true_or, bi_lenL, bi_lenT, bi_lenS, bi_listL, bi_listT, bi_tupL, bi_tupT, bi_intI, bi_intB, bi_strI, bi_strS, bi_abs, bi_max, bi_min, bi_all, bi_any, bi_sum, in_l, in_t, in_s, tr_b, tr_i, tr_n, tr_l, tr_t, so_l, so_t, so_s, so_f, io_t, ng_i, pt_i, ag_a, ag_s, rv_l, rv_t, ap_d, rk_l, rk_t, rk_s, rg_1, rg_2, sl_l, sl_t, sl_s, mt_ixS, wp_mkT0, wp_mkT1, wp_mkT2, wp_mkT3, wp_mkT4, wp_mkT5, wp_mkT6, wp_mkT7, wp_mkT8, wp_datR, wp_idxR, wp_setR, wp_appR, set_last, get_last, le_line, lt_line, wp_newM, lg9, meth_words, wp_mkTR, not_true_eq_false, not_false_eq_true, eq_self, ofString_inj, String.reduceEq, wipeS, wp_inS, false_and, and_false, b_names1]
  refine ⟨⟨by omega, by omega⟩, ?_⟩
  refine wp_rngJ (fun i σ h' => ∃ (xs : List Str) (b' : Box) (y3 y4 : Option RV), TapeB (B + i) b' ∧ h' = b' :: (hs ++ [.lst (xs.map .str)]) ∧ σ = [some (.rf 0), some (.pd (.int m)), some (.rf (hs.length + 1)), y3, y4] ∧ xs.Nodup ∧ xs.length ≤ i ∧ (1 ≤ i → 1 ≤ xs.length) ∧ ∀ x ∈ xs, TxtOk 30 x) ⟨[], b, _, _, t, rfl, rfl, List.nodup_nil, by simp, by omega, by simp⟩ ?_ ?_
  · rintro i hi σ h' ⟨xs, b1, y3, y4, t1, rfl, rfl, nd, le, ps, sh⟩ J hJ
    simp only [wp_ret, wp_bnd, wp_some, wp_grd, wp_no, wp_dat_pd, wp_dat_fz,  ev, evs, evO, evI, evC, evTs, AI.ex, asgG, asgGs, getV, wp_exs, wp_exs_nil, goS_nx, goS_rt, goS_bk, goS_ct, turnE_nx, turnE_ct, turnE_bk, turnE_rt, endD_rt, endD_nx, back_pd, binS, isFz, cmpS, biS, dats, truth, isiS, allPd, isiD, rkOf, join_some, Option.map, List.map, List.length_cons, List.length_nil, List.getElem?_cons_zero, List.getElem?_cons_succ, List.set_cons_zero, List.set_cons_succ, startS, atI_pos, atI_cast, Int.toNat_natCast, wp_newL1, wp_newL2, wp_newT1, List.length_set, List.set_set, decide_eq_true_eq, decide_eq_false_iff_not, Bool.not_eq_true', true_and, and_true,  ixN_pos, Int.reduceLE, Int.reduceLT, Int.reduceToNat, Int.reduceAdd, Int.reduceSub, Int.reduceMul, Int.reduceMod, Int.reduceNeg, Int.reducePow, Nat.reduceAdd, Nat.reduceLT, Nat.reduceLeDiff, Nat.reduceSub, reduceIte, Int.reduceEq, List.isEmpty_nil, Bool.false_eq_true, Bool.true_eq_false, decide_true, decide_false, ge_iff_le, gt_iff_lt,  wp_eq_int, wp_eq_str, wp_eq_bool, List.length_map, List.replicate, List.cons_append, List.nil_append, Bool.not_false, Bool.not_true, Bool.and_true, Bool.true_and, Bool.and_self, Bool.and_false, Bool.false_and, Option.bind, bn_add, bn_sub, bn_mul, bn_div, bn_mod, bn_pow, bn_addS, bn_addT, bn_addL, cp_eq, cp_ne, cp_ltI, cp_leI, cp_gtI, cp_geI, cp_ltS, cp_leS, cp_gtS, cp_geS, cp_ltT, cp_gtT, cp_in, cp_nin, cp_is, cp_isn, ix_l, ix_t, ix_s, ixs_tp, ixs_pd, ixs_rf, ixs_fz, cel_d, cel_r, mkLst, clsOf, clOf_d, clOf_r, wp_reprB, revS, isi2S, Bool.or_false, Bool.or_true, Bool.false_or, Bool.true_or, bi_lenL, bi_lenT, bi_lenS, bi_listL, bi_listT, bi_tupL, bi_tupT, bi_intI, bi_intB, bi_strI, bi_strS, bi_abs, bi_max, bi_min, bi_all, bi_any, bi_sum, in_l, in_t, in_s, tr_b, tr_i, tr_n, tr_l, tr_t, so_l, so_t, so_s, so_f, io_t, ng_i, pt_i, ag_a, ag_s, rv_l, rv_t, ap_d, rk_l, rk_t, rk_s, rg_1, rg_2, sl_l, sl_t, sl_s, mt_ixS, wp_mkT0, wp_mkT1, wp_mkT2, wp_mkT3, wp_mkT4, wp_mkT5, wp_mkT6, wp_mkT7, wp_mkT8, wp_datR, wp_idxR, wp_setR, wp_appR, set_last, get_last, le_line, lt_line, wp_newM, lg9, meth_words, wp_mkTR, not_true_eq_false, not_false_eq_true, eq_self, ofString_inj, String.reduceEq, wipeS, wp_inS, false_and, and_false]
    refine name1 e ed t1 (by omega) fun s b2 t2 hs2 => ?_
    simp only [wp_ret, wp_bnd, wp_some, wp_grd, wp_no, wp_dat_pd, wp_dat_fz,  ev, evs, evO, evI, evC, evTs, AI.ex, asgG, asgGs, getV, wp_exs, wp_exs_nil, goS_nx, goS_rt, goS_bk, goS_ct, turnE_nx, turnE_ct, turnE_bk, turnE_rt, endD_rt, endD_nx, back_pd, binS, isFz, cmpS, biS, dats, truth, isiS, allPd, isiD, rkOf, join_some, Option.map, List.map, List.length_cons, List.length_nil, List.getElem?_cons_zero, List.getElem?_cons_succ, List.set_cons_zero, List.set_cons_succ, startS, atI_pos, atI_cast, Int.toNat_natCast, wp_newL1, wp_newL2, wp_newT1, List.length_set, List.set_set, decide_eq_true_eq, decide_eq_false_iff_not, Bool.not_eq_true', true_and, and_true,  ixN_pos, Int.reduceLE, Int.reduceLT, Int.reduceToNat, Int.reduceAdd, Int.reduceSub, Int.reduceMul, Int.reduceMod, Int.reduceNeg, Int.reducePow, Nat.reduceAdd, Nat.reduceLT, Nat.reduceLeDiff, Nat.reduceSub, reduceIte, Int.reduceEq, List.isEmpty_nil, Bool.false_eq_true, Bool.true_eq_false, decide_true, decide_false, ge_iff_le, gt_iff_lt,  wp_eq_int, wp_eq_str, wp_eq_bool, List.length_map, List.replicate, List.cons_append, List.nil_append, Bool.not_false, Bool.not_true, Bool.and_true, Bool.true_and, Bool.and_self, Bool.and_false, Bool.false_and, Option.bind, bn_add, bn_sub, bn_mul, bn_div, bn_mod, bn_pow, bn_addS, bn_addT, bn_addL, cp_eq, cp_ne, cp_ltI, cp_leI, cp_gtI, cp_geI, cp_ltS, cp_leS, cp_gtS, cp_geS, cp_ltT, cp_gtT, cp_in, cp_nin, cp_is, cp_isn, ix_l, ix_t, ix_s, ixs_tp, ixs_pd, ixs_rf, ixs_fz, cel_d, cel_r, mkLst, clsOf, clOf_d, clOf_r, wp_reprB, revS, isi2S, Bool.or_false, Bool.or_true, Bool.false_or, Bool.true_or, bi_lenL, bi_lenT, bi_lenS, bi_listL, bi_listT, bi_tupL, bi_tupT, bi_intI, bi_intB, bi_strI, bi_strS, bi_abs, bi_max, bi_min, bi_all, bi_any, bi_sum, in_l, in_t, in_s, tr_b, tr_i, tr_n, tr_l, tr_t, so_l, so_t, so_s, so_f, io_t, ng_i, pt_i, ag_a, ag_s, rv_l, rv_t, ap_d, rk_l, rk_t, rk_s, rg_1, rg_2, sl_l, sl_t, sl_s, mt_ixS, wp_mkT0, wp_mkT1, wp_mkT2, wp_mkT3, wp_mkT4, wp_mkT5, wp_mkT6, wp_mkT7, wp_mkT8, wp_datR, wp_idxR, wp_setR, wp_appR, set_last, get_last, le_line, lt_line, wp_newM, lg9, meth_words, wp_mkTR, not_true_eq_false, not_false_eq_true, eq_self, ofString_inj, String.reduceEq, wipeS, wp_inS, false_and, and_false, in_eqv]
    refine wp_if (fun c0 => ?_) (fun c0 => ?_)
    · simp only [wp_ret, wp_bnd, wp_some, wp_grd, wp_no, wp_dat_pd, wp_dat_fz,  ev, evs, evO, evI, evC, evTs, AI.ex, asgG, asgGs, getV, wp_exs, wp_exs_nil, goS_nx, goS_rt, goS_bk, goS_ct, turnE_nx, turnE_ct, turnE_bk, turnE_rt, endD_rt, endD_nx, back_pd, binS, isFz, cmpS, biS, dats, truth, isiS, allPd, isiD, rkOf, join_some, Option.map, List.map, List.length_cons, List.length_nil, List.getElem?_cons_zero, List.getElem?_cons_succ, List.set_cons_zero, List.set_cons_succ, startS, atI_pos, atI_cast, Int.toNat_natCast, wp_newL1, wp_newL2, wp_newT1, List.length_set, List.set_set, decide_eq_true_eq, decide_eq_false_iff_not, Bool.not_eq_true', true_and, and_true,  ixN_pos, Int.reduceLE, Int.reduceLT, Int.reduceToNat, Int.reduceAdd, Int.reduceSub, Int.reduceMul, Int.reduceMod, Int.reduceNeg, Int.reducePow, Nat.reduceAdd, Nat.reduceLT, Nat.reduceLeDiff, Nat.reduceSub, reduceIte, Int.reduceEq, List.isEmpty_nil, Bool.false_eq_true, Bool.true_eq_false, decide_true, decide_false, ge_iff_le, gt_iff_lt,  wp_eq_int, wp_eq_str, wp_eq_bool, List.length_map, List.replicate, List.cons_append, List.nil_append, Bool.not_false, Bool.not_true, Bool.and_true, Bool.true_and, Bool.and_self, Bool.and_false, Bool.false_and, Option.bind, bn_add, bn_sub, bn_mul, bn_div, bn_mod, bn_pow, bn_addS, bn_addT, bn_addL, cp_eq, cp_ne, cp_ltI, cp_leI, cp_gtI, cp_geI, cp_ltS, cp_leS, cp_gtS, cp_geS, cp_ltT, cp_gtT, cp_in, cp_nin, cp_is, cp_isn, ix_l, ix_t, ix_s, ixs_tp, ixs_pd, ixs_rf, ixs_fz, cel_d, cel_r, mkLst, clsOf, clOf_d, clOf_r, wp_reprB, revS, isi2S, Bool.or_false, Bool.or_true, Bool.false_or, Bool.true_or, bi_lenL, bi_lenT, bi_lenS, bi_listL, bi_listT, bi_tupL, bi_tupT, bi_intI, bi_intB, bi_strI, bi_strS, bi_abs, bi_max, bi_min, bi_all, bi_any, bi_sum, in_l, in_t, in_s, tr_b, tr_i, tr_n, tr_l, tr_t, so_l, so_t, so_s, so_f, io_t, ng_i, pt_i, ag_a, ag_s, rv_l, rv_t, ap_d, rk_l, rk_t, rk_s, rg_1, rg_2, sl_l, sl_t, sl_s, mt_ixS, wp_mkT0, wp_mkT1, wp_mkT2, wp_mkT3, wp_mkT4, wp_mkT5, wp_mkT6, wp_mkT7, wp_mkT8, wp_datR, wp_idxR, wp_setR, wp_appR, set_last, get_last, le_line, lt_line, wp_newM, lg9, meth_words, wp_mkTR, not_true_eq_false, not_false_eq_true, eq_self, ofString_inj, String.reduceEq, wipeS, wp_inS, false_and, and_false]
      have c0 : ¬ s ∈ xs := by simpa using c0
      refine ⟨by omega, hJ _ _ ⟨xs ++ [s], b2, _, _, t2.up (by omega), by rw [List.map_append]; rfl, rfl, ?_, by rw [List.length_append]; simp; omega, fun _ => by rw [List.length_append]; simp, fun x hx => ?_⟩⟩
      · rw [List.nodup_append]
        exact ⟨nd, by simp, fun a ha d hd => by
          have : d = s := by simpa using hd
          subst this
          intro e; subst e
          exact c0 ha⟩
      · rcases List.mem_append.mp hx with hx | hx
        · exact sh x hx
        · have : x = s := by simpa using hx
          subst this; exact hs2.up (by decide)
    · simp only [wp_ret, wp_bnd, wp_some, wp_grd, wp_no, wp_dat_pd, wp_dat_fz,  ev, evs, evO, evI, evC, evTs, AI.ex, asgG, asgGs, getV, wp_exs, wp_exs_nil, goS_nx, goS_rt, goS_bk, goS_ct, turnE_nx, turnE_ct, turnE_bk, turnE_rt, endD_rt, endD_nx, back_pd, binS, isFz, cmpS, biS, dats, truth, isiS, allPd, isiD, rkOf, join_some, Option.map, List.map, List.length_cons, List.length_nil, List.getElem?_cons_zero, List.getElem?_cons_succ, List.set_cons_zero, List.set_cons_succ, startS, atI_pos, atI_cast, Int.toNat_natCast, wp_newL1, wp_newL2, wp_newT1, List.length_set, List.set_set, decide_eq_true_eq, decide_eq_false_iff_not, Bool.not_eq_true', true_and, and_true,  ixN_pos, Int.reduceLE, Int.reduceLT, Int.reduceToNat, Int.reduceAdd, Int.reduceSub, Int.reduceMul, Int.reduceMod, Int.reduceNeg, Int.reducePow, Nat.reduceAdd, Nat.reduceLT, Nat.reduceLeDiff, Nat.reduceSub, reduceIte, Int.reduceEq, List.isEmpty_nil, Bool.false_eq_true, Bool.true_eq_false, decide_true, decide_false, ge_iff_le, gt_iff_lt,  wp_eq_int, wp_eq_str, wp_eq_bool, List.length_map, List.replicate, List.cons_append, List.nil_append, Bool.not_false, Bool.not_true, Bool.and_true, Bool.true_and, Bool.and_self, Bool.and_false, Bool.false_and, Option.bind, bn_add, bn_sub, bn_mul, bn_div, bn_mod, bn_pow, bn_addS, bn_addT, bn_addL, cp_eq, cp_ne, cp_ltI, cp_leI, cp_gtI, cp_geI, cp_ltS, cp_leS, cp_gtS, cp_geS, cp_ltT, cp_gtT, cp_in, cp_nin, cp_is, cp_isn, ix_l, ix_t, ix_s, ixs_tp, ixs_pd, ixs_rf, ixs_fz, cel_d, cel_r, mkLst, clsOf, clOf_d, clOf_r, wp_reprB, revS, isi2S, Bool.or_false, Bool.or_true, Bool.false_or, Bool.true_or, bi_lenL, bi_lenT, bi_lenS, bi_listL, bi_listT, bi_tupL, bi_tupT, bi_intI, bi_intB, bi_strI, bi_strS, bi_abs, bi_max, bi_min, bi_all, bi_any, bi_sum, in_l, in_t, in_s, tr_b, tr_i, tr_n, tr_l, tr_t, so_l, so_t, so_s, so_f, io_t, ng_i, pt_i, ag_a, ag_s, rv_l, rv_t, ap_d, rk_l, rk_t, rk_s, rg_1, rg_2, sl_l, sl_t, sl_s, mt_ixS, wp_mkT0, wp_mkT1, wp_mkT2, wp_mkT3, wp_mkT4, wp_mkT5, wp_mkT6, wp_mkT7, wp_mkT8, wp_datR, wp_idxR, wp_setR, wp_appR, set_last, get_last, le_line, lt_line, wp_newM, lg9, meth_words, wp_mkTR, not_true_eq_false, not_false_eq_true, eq_self, ofString_inj, String.reduceEq, wipeS, wp_inS, false_and, and_false]
      have c0 : s ∈ xs := by simpa using c0
      exact hJ _ _ ⟨xs, b2, _, _, t2.up (by omega), rfl, rfl, nd, by omega, fun _ => List.length_pos_of_mem c0, sh⟩
  · rintro σ h' ⟨xs, b1, y3, y4, t1, rfl, rfl, nd, le, ps, sh⟩
    simp only [wp_ret, wp_bnd, wp_some, wp_grd, wp_no, wp_dat_pd, wp_dat_fz,  ev, evs, evO, evI, evC, evTs, AI.ex, asgG, asgGs, getV, wp_exs, wp_exs_nil, goS_nx, goS_rt, goS_bk, goS_ct, turnE_nx, turnE_ct, turnE_bk, turnE_rt, endD_rt, endD_nx, back_pd, binS, isFz, cmpS, biS, dats, truth, isiS, allPd, isiD, rkOf, join_some, Option.map, List.map, List.length_cons, List.length_nil, List.getElem?_cons_zero, List.getElem?_cons_succ, List.set_cons_zero, List.set_cons_succ, startS, atI_pos, atI_cast, Int.toNat_natCast, wp_newL1, wp_newL2, wp_newT1, List.length_set, List.set_set, decide_eq_true_eq, decide_eq_false_iff_not, Bool.not_eq_true', true_and, and_true,  ixN_pos, Int.reduceLE, Int.reduceLT, Int.reduceToNat, Int.reduceAdd, Int.reduceSub, Int.reduceMul, Int.reduceMod, Int.reduceNeg, Int.reducePow, Nat.reduceAdd, Nat.reduceLT, Nat.reduceLeDiff, Nat.reduceSub, reduceIte, Int.reduceEq, List.isEmpty_nil, Bool.false_eq_true, Bool.true_eq_false, decide_true, decide_false, ge_iff_le, gt_iff_lt,  wp_eq_int, wp_eq_str, wp_eq_bool, List.length_map, List.replicate, List.cons_append, List.nil_append, Bool.not_false, Bool.not_true, Bool.and_true, Bool.true_and, Bool.and_self, Bool.and_false, Bool.false_and, Option.bind, bn_add, bn_sub, bn_mul, bn_div, bn_mod, bn_pow, bn_addS, bn_addT, bn_addL, cp_eq, cp_ne, cp_ltI, cp_leI, cp_gtI, cp_geI, cp_ltS, cp_leS, cp_gtS, cp_geS, cp_ltT, cp_gtT, cp_in, cp_nin, cp_is, cp_isn, ix_l, ix_t, ix_s, ixs_tp, ixs_pd, ixs_rf, ixs_fz, cel_d, cel_r, mkLst, clsOf, clOf_d, clOf_r, wp_reprB, revS, isi2S, Bool.or_false, Bool.or_true, Bool.false_or, Bool.true_or, bi_lenL, bi_lenT, bi_lenS, bi_listL, bi_listT, bi_tupL, bi_tupT, bi_intI, bi_intB, bi_strI, bi_strS, bi_abs, bi_max, bi_min, bi_all, bi_any, bi_sum, in_l, in_t, in_s, tr_b, tr_i, tr_n, tr_l, tr_t, so_l, so_t, so_s, so_f, io_t, ng_i, pt_i, ag_a, ag_s, rv_l, rv_t, ap_d, rk_l, rk_t, rk_s, rg_1, rg_2, sl_l, sl_t, sl_s, mt_ixS, wp_mkT0, wp_mkT1, wp_mkT2, wp_mkT3, wp_mkT4, wp_mkT5, wp_mkT6, wp_mkT7, wp_mkT8, wp_datR, wp_idxR, wp_setR, wp_appR, set_last, get_last, le_line, lt_line, wp_newM, lg9, meth_words, wp_mkTR, not_true_eq_false, not_false_eq_true, eq_self, ofString_inj, String.reduceEq, wipeS, wp_inS, false_and, and_false]
    exact ret xs b1 (t1.up (by omega)) ⟨nd, ps (by omega), by omega, sh⟩
end
end AI

set_option Elab.async false
set_option linter.all false
set_option maxRecDepth 100000
set_option maxHeartbeats 4000000
/-! AiF2: kinds, columns, values, operands. -/
namespace AI
open PySem L2
def b_bound1 : List S := [.ite (.val (.cmp .Eq (.idx (.var 0) (.cst (.int 0))) (.cst (.str "integer")))) [.ret (.bi .abs [(.idx (.var 0) (.cst (.int 1)))])] [], .for_ (.nm 2) (.val (.var 1)) [.ite (.and (.val (.cmp .Eq (.var 0) (.tup [(.cst (.str "column")), (.idx (.var 2) (.cst (.int 0)))]))) (.val (.cmp .Eq (.idx (.idx (.var 2) (.cst (.int 1))) (.cst (.int 0))) (.cst (.str "integer"))))) [.ret (.idx (.idx (.var 2) (.cst (.int 1))) (.cst (.int 1)))] []], .ret (.cst (.int 0))]
def b_operand1 : List S := [.asg (.nm 3) (.lc (.idx (.var 4) (.cst (.int 0))) (.nm 4) (.val (.var 1)) [(.val (.cmp .Eq (.idx (.idx (.var 4) (.cst (.int 1))) (.cst (.int 0))) (.var 2)))] [4]), .asg (.nm 5) (.call "_law_draw" [(.var 0), (.cst (.int 360))]), .ite (.and (.val (.var 3)) (.val (.cmp .Gt (.bin .Mod (.bi .int [(.var 5)]) (.cst (.int 3))) (.cst (.int 0))))) [.ret (.tup [(.cst (.str "column")), (.idx (.var 3) (.bin .Mod (.bi .int [(.bin .FloorDiv (.var 5) (.cst (.int 3)))]) (.bi .len [(.var 3)])))])] [], .ite (.val (.cmp .Eq (.var 2) (.cst (.str "string")))) [.ret (.tup [(.cst (.str "string")), (.call "_law_text" [(.var 0)])])] [], .ret (.tup [(.cst (.str "integer")), (.call "_law_number" [(.var 0)])])]
inductive Knd where
  | str
  | int (m : Nat)
namespace Knd
def toD : Knd → D
  | .str => .tuple [.str "string"]
  | .int m => .tuple [.str "integer", .int m]
def ok : Knd → Prop
  | .str => True
  | .int m => m ≤ 1000000000000
def isI : Knd → Bool
  | .str => false
  | .int _ => true
/-- the data that a column of this kind holds -/
def fits : Knd → D → Prop
  | .str, d => ∃ s, d = .str s ∧ TxtOk 20 s
  | .int m, d => ∃ i : Int, d = .int i ∧ -m ≤ i ∧ i ≤ m
end Knd
abbrev Cols := List (Str × Knd)
def colD (c : Str × Knd) : D := .tuple [.str c.1, c.2.toD]
structure ColsOk (n : Nat) (cs : Cols) : Prop where
  nd : (cs.map (·.1)).Nodup
  pos : 1 ≤ cs.length
  len : cs.length ≤ n
  kn : ∀ c ∈ cs, c.2.ok
  shr : ∀ c ∈ cs, TxtOk 30 c.1
inductive Opd where
  | col (s : Str)
  | int (i : Int)
  | str (s : Str)
namespace Opd
def toD : Opd → D
  | .col s => .tuple [.str "column", .str s]
  | .int i => .tuple [.str "integer", .int i]
  | .str s => .tuple [.str "string", .str s]
/-- of the kind w (true: an integer) -/
def ok (cs : Cols) (w : Bool) : Opd → Prop
  | .col s => ∃ k, (s, k) ∈ cs ∧ k.isI = w
  | .int i => w = true ∧ -1000000 ≤ i ∧ i ≤ 1000000
  | .str s => w = false ∧ TxtOk 20 s
def bnd (cs : Cols) : Opd → Nat
  | .int i => i.natAbs
  | .col s => match cs.find? fun c => decide (c.1 = s) && c.2.isI with
    | some (_, .int m) => m
    | _ => 0
  | .str _ => 0
end Opd
def wordD (w : Bool) : D := .str (if w = true then "integer" else "string")
section
variable {T : Nat → TT} {bx : Bool} {hs : Boxes} {Q : RV → Boxes → Prop} {B : Nat} {b : Box}
theorem kind1 {k : Nat} (e : Has T "_law_kind" ⟨1, 2, b_kind1⟩) (ed : Has T "_law_draw" ⟨2, 4, b_draw⟩) (t : TapeB B b) (hB : B + 1 ≤ 16000000)
    (q : ∀ (i : Knd) b', TapeB (B + 1) b' → i.ok → Q (.pd i.toD) (b' :: hs)) : wp ((T (k + 2)).call bx "_law_kind" [.rf 0]) Q (b :: hs) := by
  refine wp_call (e _) (wp_def rfl ?_)
  have ret : ∀ (i : Knd) b', TapeB (B + 1) b' → i.ok → back (b :: hs).length bx Q (.pd i.toD) (b' :: hs) := fun i b' t' h1 => by rw [back_pd, List.take_of_length_le (by simp)]; exact q i b' t' h1
  generalize back (b :: hs).length bx Q = Q' at *
  clear q
  simp only [wp_ret, wp_bnd, wp_some, wp_grd, wp_no, wp_dat_pd, wp_dat_fz,  ev, evs, evO, evI, evC, evTs, AI.ex, asgG, asgGs, getV, wp_exs, wp_exs_nil, goS_nx, goS_rt, goS_bk, goS_ct, turnE_nx, turnE_ct, turnE_bk, turnE_rt, endD_rt, endD_nx, back_pd, binS, isFz, cmpS, biS, dats, truth, isiS, allPd, isiD, rkOf, join_some, Option.map, List.map, List.length_cons, List.length_nil, List.getElem?_cons_zero, List.getElem?_cons_succ, List.set_cons_zero, List.set_cons_succ, startS, atI_pos, atI_cast, Int.toNat_natCast, wp_newL1, wp_newL2, wp_newT1, List.length_set, List.set_set, decide_eq_true_eq, decide_eq_false_iff_not, Bool.not_eq_true', true_and, and_true,  ixN_pos, Int.reduceLE, Int.reduceLT, Int.reduceToNat, Int.reduceAdd, Int.reduceSub, Int.reduceMul, Int.reduceMod, Int.reduceNeg, Int.reducePow, Nat.reduceAdd, Nat.reduceLT, Nat.reduceLeDiff, Nat.reduceSub, reduceIte, Int.reduceEq, List.isEmpty_nil, Bool.false_eq_true, Bool.true_eq_false, decide_true, decide_false, ge_iff_le, gt_iff_lt,  wp_eq_int, wp_eq_str, wp_eq_bool, List.length_map, List.replicate, List.cons_append, List.nil_append, Bool.not_false, Bool.not_true, Bool.and_true, Bool.true_and, Bool.and_self, Bool.and_false, Bool.false_and, Option.bind, bn_add, bn_sub, bn_mul, bn_div, bn_mod, bn_pow, bn_addS, bn_addT, bn_addL, cp_eq, cp_ne, cp_ltI, cp_leI, cp_gtI, cp_geI, cp_ltS, cp_leS, cp_gtS, cp_geS, cp_ltT, cp_gtT, cp_in, cp_nin, cp_is, cp_isn, ix_l, ix_t, ix_s, ixs_tp, ixs_pd, ixs_rf, ixs_fz, cel_d, cel_r, mkLst, clsOf, clOf_d, clOf_r, wp_reprB, revS, isi2S, Bool.or_false, Bool.or_true, Bool.false_or, Bool.true_or, bi_lenL, bi_lenT, bi_lenS, bi_listL, bi_listT, bi_tupL, bi_tupT, bi_intI, bi_intB, bi_strI, bi_strS, bi_abs, bi_max, bi_min, bi_all, bi_any, bi_sum, in_l, in_t, in_s, tr_b, tr_i, tr_n, tr_l, tr_t, so_l, so_t, so_s, so_f, io_t, ng_i, pt_i, ag_a, ag_s, rv_l, rv_t, ap_d, rk_l, rk_t, rk_s, rg_1, rg_2, sl_l, sl_t, sl_s, mt_ixS, wp_mkT0, wp_mkT1, wp_mkT2, wp_mkT3, wp_mkT4, wp_mkT5, wp_mkT6, wp_mkT7, wp_mkT8, wp_datR, wp_idxR, wp_setR, wp_appR, set_last, get_last, le_line, lt_line, wp_newM, lg9, meth_words, wp_mkTR, not_true_eq_false, not_false_eq_true, eq_self, ofString_inj, String.reduceEq, wipeS, wp_inS, false_and, and_false, b_kind1]
  refine draw1 (ed _) t (by omega) (by decide) fun v b1 t1 hv => ?_
  obtain ⟨v0, v1⟩ := hv.lt (by decide)
  try simp only [wp_ret, wp_bnd, wp_some, wp_grd, wp_no, wp_dat_pd, wp_dat_fz,  ev, evs, evO, evI, evC, evTs, AI.ex, asgG, asgGs, getV, wp_exs, wp_exs_nil, goS_nx, goS_rt, goS_bk, goS_ct, turnE_nx, turnE_ct, turnE_bk, turnE_rt, endD_rt, endD_nx, back_pd, binS, isFz, cmpS, biS, dats, truth, isiS, allPd, isiD, rkOf, join_some, Option.map, List.map, List.length_cons, List.length_nil, List.getElem?_cons_zero, List.getElem?_cons_succ, List.set_cons_zero, List.set_cons_succ, startS, atI_pos, atI_cast, Int.toNat_natCast, wp_newL1, wp_newL2, wp_newT1, List.length_set, List.set_set, decide_eq_true_eq, decide_eq_false_iff_not, Bool.not_eq_true', true_and, and_true,  ixN_pos, Int.reduceLE, Int.reduceLT, Int.reduceToNat, Int.reduceAdd, Int.reduceSub, Int.reduceMul, Int.reduceMod, Int.reduceNeg, Int.reducePow, Nat.reduceAdd, Nat.reduceLT, Nat.reduceLeDiff, Nat.reduceSub, reduceIte, Int.reduceEq, List.isEmpty_nil, Bool.false_eq_true, Bool.true_eq_false, decide_true, decide_false, ge_iff_le, gt_iff_lt,  wp_eq_int, wp_eq_str, wp_eq_bool, List.length_map, List.replicate, List.cons_append, List.nil_append, Bool.not_false, Bool.not_true, Bool.and_true, Bool.true_and, Bool.and_self, Bool.and_false, Bool.false_and, Option.bind, bn_add, bn_sub, bn_mul, bn_div, bn_mod, bn_pow, bn_addS, bn_addT, bn_addL, cp_eq, cp_ne, cp_ltI, cp_leI, cp_gtI, cp_geI, cp_ltS, cp_leS, cp_gtS, cp_geS, cp_ltT, cp_gtT, cp_in, cp_nin, cp_is, cp_isn, ix_l, ix_t, ix_s, ixs_tp, ixs_pd, ixs_rf, ixs_fz, cel_d, cel_r, mkLst, clsOf, clOf_d, clOf_r, wp_reprB, revS, isi2S, Bool.or_false, Bool.or_true, Bool.false_or, Bool.true_or, bi_lenL, bi_lenT, bi_lenS, bi_listL, bi_listT, bi_tupL, bi_tupT, bi_intI, bi_intB, bi_strI, bi_strS, bi_abs, bi_max, bi_min, bi_all, bi_any, bi_sum, in_l, in_t, in_s, tr_b, tr_i, tr_n, tr_l, tr_t, so_l, so_t, so_s, so_f, io_t, ng_i, pt_i, ag_a, ag_s, rv_l, rv_t, ap_d, rk_l, rk_t, rk_s, rg_1, rg_2, sl_l, sl_t, sl_s, mt_ixS, wp_mkT0, wp_mkT1, wp_mkT2, wp_mkT3, wp_mkT4, wp_mkT5, wp_mkT6, wp_mkT7, wp_mkT8, wp_datR, wp_idxR, wp_setR, wp_appR, set_last, get_last, le_line, lt_line, wp_newM, lg9, meth_words, wp_mkTR, not_true_eq_false, not_false_eq_true, eq_self, ofString_inj, String.reduceEq, wipeS, wp_inS, false_and, and_false]
  refine wp_if (fun c => ?_) (fun c => ?_)
  · try simp only [wp_ret, wp_bnd, wp_some, wp_grd, wp_no, wp_dat_pd, wp_dat_fz,  ev, evs, evO, evI, evC, evTs, AI.ex, asgG, asgGs, getV, wp_exs, wp_exs_nil, goS_nx, goS_rt, goS_bk, goS_ct, turnE_nx, turnE_ct, turnE_bk, turnE_rt, endD_rt, endD_nx, back_pd, binS, isFz, cmpS, biS, dats, truth, isiS, allPd, isiD, rkOf, join_some, Option.map, List.map, List.length_cons, List.length_nil, List.getElem?_cons_zero, List.getElem?_cons_succ, List.set_cons_zero, List.set_cons_succ, startS, atI_pos, atI_cast, Int.toNat_natCast, wp_newL1, wp_newL2, wp_newT1, List.length_set, List.set_set, decide_eq_true_eq, decide_eq_false_iff_not, Bool.not_eq_true', true_and, and_true,  ixN_pos, Int.reduceLE, Int.reduceLT, Int.reduceToNat, Int.reduceAdd, Int.reduceSub, Int.reduceMul, Int.reduceMod, Int.reduceNeg, Int.reducePow, Nat.reduceAdd, Nat.reduceLT, Nat.reduceLeDiff, Nat.reduceSub, reduceIte, Int.reduceEq, List.isEmpty_nil, Bool.false_eq_true, Bool.true_eq_false, decide_true, decide_false, ge_iff_le, gt_iff_lt,  wp_eq_int, wp_eq_str, wp_eq_bool, List.length_map, List.replicate, List.cons_append, List.nil_append, Bool.not_false, Bool.not_true, Bool.and_true, Bool.true_and, Bool.and_self, Bool.and_false, Bool.false_and, Option.bind, bn_add, bn_sub, bn_mul, bn_div, bn_mod, bn_pow, bn_addS, bn_addT, bn_addL, cp_eq, cp_ne, cp_ltI, cp_leI, cp_gtI, cp_geI, cp_ltS, cp_leS, cp_gtS, cp_geS, cp_ltT, cp_gtT, cp_in, cp_nin, cp_is, cp_isn, ix_l, ix_t, ix_s, ixs_tp, ixs_pd, ixs_rf, ixs_fz, cel_d, cel_r, mkLst, clsOf, clOf_d, clOf_r, wp_reprB, revS, isi2S, Bool.or_false, Bool.or_true, Bool.false_or, Bool.true_or, bi_lenL, bi_lenT, bi_lenS, bi_listL, bi_listT, bi_tupL, bi_tupT, bi_intI, bi_intB, bi_strI, bi_strS, bi_abs, bi_max, bi_min, bi_all, bi_any, bi_sum, in_l, in_t, in_s, tr_b, tr_i, tr_n, tr_l, tr_t, so_l, so_t, so_s, so_f, io_t, ng_i, pt_i, ag_a, ag_s, rv_l, rv_t, ap_d, rk_l, rk_t, rk_s, rg_1, rg_2, sl_l, sl_t, sl_s, mt_ixS, wp_mkT0, wp_mkT1, wp_mkT2, wp_mkT3, wp_mkT4, wp_mkT5, wp_mkT6, wp_mkT7, wp_mkT8, wp_datR, wp_idxR, wp_setR, wp_appR, set_last, get_last, le_line, lt_line, wp_newM, lg9, meth_words, wp_mkTR, not_true_eq_false, not_false_eq_true, eq_self, ofString_inj, String.reduceEq, wipeS, wp_inS, false_and, and_false]
    exact ret .str _ t1 trivial
  try simp only [wp_ret, wp_bnd, wp_some, wp_grd, wp_no, wp_dat_pd, wp_dat_fz,  ev, evs, evO, evI, evC, evTs, AI.ex, asgG, asgGs, getV, wp_exs, wp_exs_nil, goS_nx, goS_rt, goS_bk, goS_ct, turnE_nx, turnE_ct, turnE_bk, turnE_rt, endD_rt, endD_nx, back_pd, binS, isFz, cmpS, biS, dats, truth, isiS, allPd, isiD, rkOf, join_some, Option.map, List.map, List.length_cons, List.length_nil, List.getElem?_cons_zero, List.getElem?_cons_succ, List.set_cons_zero, List.set_cons_succ, startS, atI_pos, atI_cast, Int.toNat_natCast, wp_newL1, wp_newL2, wp_newT1, List.length_set, List.set_set, decide_eq_true_eq, decide_eq_false_iff_not, Bool.not_eq_true', true_and, and_true,  ixN_pos, Int.reduceLE, Int.reduceLT, Int.reduceToNat, Int.reduceAdd, Int.reduceSub, Int.reduceMul, Int.reduceMod, Int.reduceNeg, Int.reducePow, Nat.reduceAdd, Nat.reduceLT, Nat.reduceLeDiff, Nat.reduceSub, reduceIte, Int.reduceEq, List.isEmpty_nil, Bool.false_eq_true, Bool.true_eq_false, decide_true, decide_false, ge_iff_le, gt_iff_lt,  wp_eq_int, wp_eq_str, wp_eq_bool, List.length_map, List.replicate, List.cons_append, List.nil_append, Bool.not_false, Bool.not_true, Bool.and_true, Bool.true_and, Bool.and_self, Bool.and_false, Bool.false_and, Option.bind, bn_add, bn_sub, bn_mul, bn_div, bn_mod, bn_pow, bn_addS, bn_addT, bn_addL, cp_eq, cp_ne, cp_ltI, cp_leI, cp_gtI, cp_geI, cp_ltS, cp_leS, cp_gtS, cp_geS, cp_ltT, cp_gtT, cp_in, cp_nin, cp_is, cp_isn, ix_l, ix_t, ix_s, ixs_tp, ixs_pd, ixs_rf, ixs_fz, cel_d, cel_r, mkLst, clsOf, clOf_d, clOf_r, wp_reprB, revS, isi2S, Bool.or_false, Bool.or_true, Bool.false_or, Bool.true_or, bi_lenL, bi_lenT, bi_lenS, bi_listL, bi_listT, bi_tupL, bi_tupT, bi_intI, bi_intB, bi_strI, bi_strS, bi_abs, bi_max, bi_min, bi_all, bi_any, bi_sum, in_l, in_t, in_s, tr_b, tr_i, tr_n, tr_l, tr_t, so_l, so_t, so_s, so_f, io_t, ng_i, pt_i, ag_a, ag_s, rv_l, rv_t, ap_d, rk_l, rk_t, rk_s, rg_1, rg_2, sl_l, sl_t, sl_s, mt_ixS, wp_mkT0, wp_mkT1, wp_mkT2, wp_mkT3, wp_mkT4, wp_mkT5, wp_mkT6, wp_mkT7, wp_mkT8, wp_datR, wp_idxR, wp_setR, wp_appR, set_last, get_last, le_line, lt_line, wp_newM, lg9, meth_words, wp_mkTR, not_true_eq_false, not_false_eq_true, eq_self, ofString_inj, String.reduceEq, wipeS, wp_inS, false_and, and_false]
  refine wp_if (fun c => ?_) (fun c => ?_)
  · try simp only [wp_ret, wp_bnd, wp_some, wp_grd, wp_no, wp_dat_pd, wp_dat_fz,  ev, evs, evO, evI, evC, evTs, AI.ex, asgG, asgGs, getV, wp_exs, wp_exs_nil, goS_nx, goS_rt, goS_bk, goS_ct, turnE_nx, turnE_ct, turnE_bk, turnE_rt, endD_rt, endD_nx, back_pd, binS, isFz, cmpS, biS, dats, truth, isiS, allPd, isiD, rkOf, join_some, Option.map, List.map, List.length_cons, List.length_nil, List.getElem?_cons_zero, List.getElem?_cons_succ, List.set_cons_zero, List.set_cons_succ, startS, atI_pos, atI_cast, Int.toNat_natCast, wp_newL1, wp_newL2, wp_newT1, List.length_set, List.set_set, decide_eq_true_eq, decide_eq_false_iff_not, Bool.not_eq_true', true_and, and_true,  ixN_pos, Int.reduceLE, Int.reduceLT, Int.reduceToNat, Int.reduceAdd, Int.reduceSub, Int.reduceMul, Int.reduceMod, Int.reduceNeg, Int.reducePow, Nat.reduceAdd, Nat.reduceLT, Nat.reduceLeDiff, Nat.reduceSub, reduceIte, Int.reduceEq, List.isEmpty_nil, Bool.false_eq_true, Bool.true_eq_false, decide_true, decide_false, ge_iff_le, gt_iff_lt,  wp_eq_int, wp_eq_str, wp_eq_bool, List.length_map, List.replicate, List.cons_append, List.nil_append, Bool.not_false, Bool.not_true, Bool.and_true, Bool.true_and, Bool.and_self, Bool.and_false, Bool.false_and, Option.bind, bn_add, bn_sub, bn_mul, bn_div, bn_mod, bn_pow, bn_addS, bn_addT, bn_addL, cp_eq, cp_ne, cp_ltI, cp_leI, cp_gtI, cp_geI, cp_ltS, cp_leS, cp_gtS, cp_geS, cp_ltT, cp_gtT, cp_in, cp_nin, cp_is, cp_isn, ix_l, ix_t, ix_s, ixs_tp, ixs_pd, ixs_rf, ixs_fz, cel_d, cel_r, mkLst, clsOf, clOf_d, clOf_r, wp_reprB, revS, isi2S, Bool.or_false, Bool.or_true, Bool.false_or, Bool.true_or, bi_lenL, bi_lenT, bi_lenS, bi_listL, bi_listT, bi_tupL, bi_tupT, bi_intI, bi_intB, bi_strI, bi_strS, bi_abs, bi_max, bi_min, bi_all, bi_any, bi_sum, in_l, in_t, in_s, tr_b, tr_i, tr_n, tr_l, tr_t, so_l, so_t, so_s, so_f, io_t, ng_i, pt_i, ag_a, ag_s, rv_l, rv_t, ap_d, rk_l, rk_t, rk_s, rg_1, rg_2, sl_l, sl_t, sl_s, mt_ixS, wp_mkT0, wp_mkT1, wp_mkT2, wp_mkT3, wp_mkT4, wp_mkT5, wp_mkT6, wp_mkT7, wp_mkT8, wp_datR, wp_idxR, wp_setR, wp_appR, set_last, get_last, le_line, lt_line, wp_newM, lg9, meth_words, wp_mkTR, not_true_eq_false, not_false_eq_true, eq_self, ofString_inj, String.reduceEq, wipeS, wp_inS, false_and, and_false]
    exact ret (.int 1000000) _ t1 (show 1000000 ≤ 1000000000000 by decide)
  try simp only [wp_ret, wp_bnd, wp_some, wp_grd, wp_no, wp_dat_pd, wp_dat_fz,  ev, evs, evO, evI, evC, evTs, AI.ex, asgG, asgGs, getV, wp_exs, wp_exs_nil, goS_nx, goS_rt, goS_bk, goS_ct, turnE_nx, turnE_ct, turnE_bk, turnE_rt, endD_rt, endD_nx, back_pd, binS, isFz, cmpS, biS, dats, truth, isiS, allPd, isiD, rkOf, join_some, Option.map, List.map, List.length_cons, List.length_nil, List.getElem?_cons_zero, List.getElem?_cons_succ, List.set_cons_zero, List.set_cons_succ, startS, atI_pos, atI_cast, Int.toNat_natCast, wp_newL1, wp_newL2, wp_newT1, List.length_set, List.set_set, decide_eq_true_eq, decide_eq_false_iff_not, Bool.not_eq_true', true_and, and_true,  ixN_pos, Int.reduceLE, Int.reduceLT, Int.reduceToNat, Int.reduceAdd, Int.reduceSub, Int.reduceMul, Int.reduceMod, Int.reduceNeg, Int.reducePow, Nat.reduceAdd, Nat.reduceLT, Nat.reduceLeDiff, Nat.reduceSub, reduceIte, Int.reduceEq, List.isEmpty_nil, Bool.false_eq_true, Bool.true_eq_false, decide_true, decide_false, ge_iff_le, gt_iff_lt,  wp_eq_int, wp_eq_str, wp_eq_bool, List.length_map, List.replicate, List.cons_append, List.nil_append, Bool.not_false, Bool.not_true, Bool.and_true, Bool.true_and, Bool.and_self, Bool.and_false, Bool.false_and, Option.bind, bn_add, bn_sub, bn_mul, bn_div, bn_mod, bn_pow, bn_addS, bn_addT, bn_addL, cp_eq, cp_ne, cp_ltI, cp_leI, cp_gtI, cp_geI, cp_ltS, cp_leS, cp_gtS, cp_geS, cp_ltT, cp_gtT, cp_in, cp_nin, cp_is, cp_isn, ix_l, ix_t, ix_s, ixs_tp, ixs_pd, ixs_rf, ixs_fz, cel_d, cel_r, mkLst, clsOf, clOf_d, clOf_r, wp_reprB, revS, isi2S, Bool.or_false, Bool.or_true, Bool.false_or, Bool.true_or, bi_lenL, bi_lenT, bi_lenS, bi_listL, bi_listT, bi_tupL, bi_tupT, bi_intI, bi_intB, bi_strI, bi_strS, bi_abs, bi_max, bi_min, bi_all, bi_any, bi_sum, in_l, in_t, in_s, tr_b, tr_i, tr_n, tr_l, tr_t, so_l, so_t, so_s, so_f, io_t, ng_i, pt_i, ag_a, ag_s, rv_l, rv_t, ap_d, rk_l, rk_t, rk_s, rg_1, rg_2, sl_l, sl_t, sl_s, mt_ixS, wp_mkT0, wp_mkT1, wp_mkT2, wp_mkT3, wp_mkT4, wp_mkT5, wp_mkT6, wp_mkT7, wp_mkT8, wp_datR, wp_idxR, wp_setR, wp_appR, set_last, get_last, le_line, lt_line, wp_newM, lg9, meth_words, wp_mkTR, not_true_eq_false, not_false_eq_true, eq_self, ofString_inj, String.reduceEq, wipeS, wp_inS, false_and, and_false]
  refine ⟨by decide, ?_⟩
  refine wp_atA (fun d => ∃ m : Nat, d = .int m ∧ m ≤ 1000000000000) (by omega) (show v / 8 < 10 by omega) ⟨⟨0, rfl, by decide⟩, ⟨1, rfl, by decide⟩, ⟨7, rfl, by decide⟩, ⟨60, rfl, by decide⟩, ⟨3000, rfl, by decide⟩, ⟨500000000000, rfl, by decide⟩, ⟨500000000001, rfl, by decide⟩, ⟨999999000000, rfl, by decide⟩, ⟨999999999999, rfl, by decide⟩, ⟨1000000000000, rfl, by decide⟩, trivial⟩ fun d ⟨m, em, hm⟩ => ?_
  subst em
  try simp only [wp_ret, wp_bnd, wp_some, wp_grd, wp_no, wp_dat_pd, wp_dat_fz,  ev, evs, evO, evI, evC, evTs, AI.ex, asgG, asgGs, getV, wp_exs, wp_exs_nil, goS_nx, goS_rt, goS_bk, goS_ct, turnE_nx, turnE_ct, turnE_bk, turnE_rt, endD_rt, endD_nx, back_pd, binS, isFz, cmpS, biS, dats, truth, isiS, allPd, isiD, rkOf, join_some, Option.map, List.map, List.length_cons, List.length_nil, List.getElem?_cons_zero, List.getElem?_cons_succ, List.set_cons_zero, List.set_cons_succ, startS, atI_pos, atI_cast, Int.toNat_natCast, wp_newL1, wp_newL2, wp_newT1, List.length_set, List.set_set, decide_eq_true_eq, decide_eq_false_iff_not, Bool.not_eq_true', true_and, and_true,  ixN_pos, Int.reduceLE, Int.reduceLT, Int.reduceToNat, Int.reduceAdd, Int.reduceSub, Int.reduceMul, Int.reduceMod, Int.reduceNeg, Int.reducePow, Nat.reduceAdd, Nat.reduceLT, Nat.reduceLeDiff, Nat.reduceSub, reduceIte, Int.reduceEq, List.isEmpty_nil, Bool.false_eq_true, Bool.true_eq_false, decide_true, decide_false, ge_iff_le, gt_iff_lt,  wp_eq_int, wp_eq_str, wp_eq_bool, List.length_map, List.replicate, List.cons_append, List.nil_append, Bool.not_false, Bool.not_true, Bool.and_true, Bool.true_and, Bool.and_self, Bool.and_false, Bool.false_and, Option.bind, bn_add, bn_sub, bn_mul, bn_div, bn_mod, bn_pow, bn_addS, bn_addT, bn_addL, cp_eq, cp_ne, cp_ltI, cp_leI, cp_gtI, cp_geI, cp_ltS, cp_leS, cp_gtS, cp_geS, cp_ltT, cp_gtT, cp_in, cp_nin, cp_is, cp_isn, ix_l, ix_t, ix_s, ixs_tp, ixs_pd, ixs_rf, ixs_fz, cel_d, cel_r, mkLst, clsOf, clOf_d, clOf_r, wp_reprB, revS, isi2S, Bool.or_false, Bool.or_true, Bool.false_or, Bool.true_or, bi_lenL, bi_lenT, bi_lenS, bi_listL, bi_listT, bi_tupL, bi_tupT, bi_intI, bi_intB, bi_strI, bi_strS, bi_abs, bi_max, bi_min, bi_all, bi_any, bi_sum, in_l, in_t, in_s, tr_b, tr_i, tr_n, tr_l, tr_t, so_l, so_t, so_s, so_f, io_t, ng_i, pt_i, ag_a, ag_s, rv_l, rv_t, ap_d, rk_l, rk_t, rk_s, rg_1, rg_2, sl_l, sl_t, sl_s, mt_ixS, wp_mkT0, wp_mkT1, wp_mkT2, wp_mkT3, wp_mkT4, wp_mkT5, wp_mkT6, wp_mkT7, wp_mkT8, wp_datR, wp_idxR, wp_setR, wp_appR, set_last, get_last, le_line, lt_line, wp_newM, lg9, meth_words, wp_mkTR, not_true_eq_false, not_false_eq_true, eq_self, ofString_inj, String.reduceEq, wipeS, wp_inS, false_and, and_false]
  exact ret (.int m) _ t1 hm
theorem columns1 {k n : Nat} (ec : Has T "_law_columns" ⟨2, 3, b_columns1⟩) (ek : Has T "_law_kind" ⟨1, 2, b_kind1⟩) (en : Has T "_law_names" ⟨2, 5, b_names1⟩) (e : Has T "_law_name" ⟨1, 5, b_name1⟩) (ed : Has T "_law_draw" ⟨2, 4, b_draw⟩) (t : TapeB B b) (hn : 1 ≤ n) (hn2 : n ≤ 100) (hB : B + 2 * n ≤ 16000000)
    (q : ∀ cs b', TapeB (B + 2 * n) b' → ColsOk n cs → Q (.pd (.tuple (cs.map colD))) (b' :: hs)) : wp ((T (k + 4)).call bx "_law_columns" [.rf 0, .pd (.int n)]) Q (b :: hs) := by
  refine wp_call (ec _) (wp_def rfl ?_)
  have ret : ∀ cs b', TapeB (B + 2 * n) b' → ColsOk n cs → back (b :: hs).length bx Q (.pd (.tuple (cs.map colD))) (b' :: hs) := fun i b' t' h1 => by rw [back_pd, List.take_of_length_le (by simp)]; exact q i b' t' h1
  generalize back (b :: hs).length bx Q = Q' at *
  clear q
  simp only [wp_ret, wp_bnd, wp_some, wp_grd, wp_no, wp_dat_pd, wp_dat_fz,  ev, evs, evO, evI, evC, evTs, AI.ex, asgG, asgGs, getV, wp_exs, wp_exs_nil, goS_nx, goS_rt, goS_bk, goS_ct, turnE_nx, turnE_ct, turnE_bk, turnE_rt, endD_rt, endD_nx, back_pd, binS, isFz, cmpS, biS, dats, truth, isiS, allPd, isiD, rkOf, join_some, Option.map, List.map, List.length_cons, List.length_nil, List.getElem?_cons_zero, List.getElem?_cons_succ, List.set_cons_zero, List.set_cons_succ, startS, atI_pos, atI_cast, Int.toNat_natCast, wp_newL1, wp_newL2, wp_newT1, List.length_set, List.set_set, decide_eq_true_eq, decide_eq_false_iff_not, Bool.not_eq_true', true_and, and_true,  ixN_pos, Int.reduceLE, Int.reduceLT, Int.reduceToNat, Int.reduceAdd, Int.reduceSub, Int.reduceMul, Int.reduceMod, Int.reduceNeg, Int.reducePow, Nat.reduceAdd, Nat.reduceLT, Nat.reduceLeDiff, Nat.reduceSub, reduceIte, Int.reduceEq, List.isEmpty_nil, Bool.false_eq_true, Bool.true_eq_false, decide_true, decide_false, ge_iff_le, gt_iff_lt,  wp_eq_int, wp_eq_str, wp_eq_bool, List.length_map, List.replicate, List.cons_append, List.nil_append, Bool.not_false, Bool.not_true, Bool.and_true, Bool.true_and, Bool.and_self, Bool.and_false, Bool.false_and, Option.bind, bn_add, bn_sub, bn_mul, bn_div, bn_mod, bn_pow, bn_addS, bn_addT, bn_addL, cp_eq, cp_ne, cp_ltI, cp_leI, cp_gtI, cp_geI, cp_ltS, cp_leS, cp_gtS, cp_geS, cp_ltT, cp_gtT, cp_in, cp_nin, cp_is, cp_isn, ix_l, ix_t, ix_s, ixs_tp, ixs_pd, ixs_rf, ixs_fz, cel_d, cel_r, mkLst, clsOf, clOf_d, clOf_r, wp_reprB, revS, isi2S, Bool.or_false, Bool.or_true, Bool.false_or, Bool.true_or, bi_lenL, bi_lenT, bi_lenS, bi_listL, bi_listT, bi_tupL, bi_tupT, bi_intI, bi_intB, bi_strI, bi_strS, bi_abs, bi_max, bi_min, bi_all, bi_any, bi_sum, in_l, in_t, in_s, tr_b, tr_i, tr_n, tr_l, tr_t, so_l, so_t, so_s, so_f, io_t, ng_i, pt_i, ag_a, ag_s, rv_l, rv_t, ap_d, rk_l, rk_t, rk_s, rg_1, rg_2, sl_l, sl_t, sl_s, mt_ixS, wp_mkT0, wp_mkT1, wp_mkT2, wp_mkT3, wp_mkT4, wp_mkT5, wp_mkT6, wp_mkT7, wp_mkT8, wp_datR, wp_idxR, wp_setR, wp_appR, set_last, get_last, le_line, lt_line, wp_newM, lg9, meth_words, wp_mkTR, not_true_eq_false, not_false_eq_true, eq_self, ofString_inj, String.reduceEq, wipeS, wp_inS, false_and, and_false, b_columns1]
  refine names1 en e ed t hn hn2 (by omega) fun xs b1 t1 hx => ?_
  have hxl := hx.len
  try simp only [wp_ret, wp_bnd, wp_some, wp_grd, wp_no, wp_dat_pd, wp_dat_fz,  ev, evs, evO, evI, evC, evTs, AI.ex, asgG, asgGs, getV, wp_exs, wp_exs_nil, goS_nx, goS_rt, goS_bk, goS_ct, turnE_nx, turnE_ct, turnE_bk, turnE_rt, endD_rt, endD_nx, back_pd, binS, isFz, cmpS, biS, dats, truth, isiS, allPd, isiD, rkOf, join_some, Option.map, List.map, List.length_cons, List.length_nil, List.getElem?_cons_zero, List.getElem?_cons_succ, List.set_cons_zero, List.set_cons_succ, startS, atI_pos, atI_cast, Int.toNat_natCast, wp_newL1, wp_newL2, wp_newT1, List.length_set, List.set_set, decide_eq_true_eq, decide_eq_false_iff_not, Bool.not_eq_true', true_and, and_true,  ixN_pos, Int.reduceLE, Int.reduceLT, Int.reduceToNat, Int.reduceAdd, Int.reduceSub, Int.reduceMul, Int.reduceMod, Int.reduceNeg, Int.reducePow, Nat.reduceAdd, Nat.reduceLT, Nat.reduceLeDiff, Nat.reduceSub, reduceIte, Int.reduceEq, List.isEmpty_nil, Bool.false_eq_true, Bool.true_eq_false, decide_true, decide_false, ge_iff_le, gt_iff_lt,  wp_eq_int, wp_eq_str, wp_eq_bool, List.length_map, List.replicate, List.cons_append, List.nil_append, Bool.not_false, Bool.not_true, Bool.and_true, Bool.true_and, Bool.and_self, Bool.and_false, Bool.false_and, Option.bind, bn_add, bn_sub, bn_mul, bn_div, bn_mod, bn_pow, bn_addS, bn_addT, bn_addL, cp_eq, cp_ne, cp_ltI, cp_leI, cp_gtI, cp_geI, cp_ltS, cp_leS, cp_gtS, cp_geS, cp_ltT, cp_gtT, cp_in, cp_nin, cp_is, cp_isn, ix_l, ix_t, ix_s, ixs_tp, ixs_pd, ixs_rf, ixs_fz, cel_d, cel_r, mkLst, clsOf, clOf_d, clOf_r, wp_reprB, revS, isi2S, Bool.or_false, Bool.or_true, Bool.false_or, Bool.true_or, bi_lenL, bi_lenT, bi_lenS, bi_listL, bi_listT, bi_tupL, bi_tupT, bi_intI, bi_intB, bi_strI, bi_strS, bi_abs, bi_max, bi_min, bi_all, bi_any, bi_sum, in_l, in_t, in_s, tr_b, tr_i, tr_n, tr_l, tr_t, so_l, so_t, so_s, so_f, io_t, ng_i, pt_i, ag_a, ag_s, rv_l, rv_t, ap_d, rk_l, rk_t, rk_s, rg_1, rg_2, sl_l, sl_t, sl_s, mt_ixS, wp_mkT0, wp_mkT1, wp_mkT2, wp_mkT3, wp_mkT4, wp_mkT5, wp_mkT6, wp_mkT7, wp_mkT8, wp_datR, wp_idxR, wp_setR, wp_appR, set_last, get_last, le_line, lt_line, wp_newM, lg9, meth_words, wp_mkTR, not_true_eq_false, not_false_eq_true, eq_self, ofString_inj, String.reduceEq, wipeS, wp_inS, false_and, and_false]
  refine wp_lcT1 (fun i acc b' => ∃ cs : Cols, acc = cs.map colD ∧ cs.map (·.1) = xs.take i ∧ (∀ c ∈ cs, c.2.ok) ∧ i ≤ xs.length ∧ TapeB (B + n + i) b') (by rw [List.length_map, sizeLine_eq]; omega) (fun i acc b' ⟨cs, e, h1, _, h3, _⟩ => by
      have := congrArg List.length h1
      rw [List.length_map, List.length_take] at this
      rw [e, List.length_map]; omega) ⟨[], rfl, rfl, by simp, Nat.zero_le _, t1⟩ ?_ ?_
  · rintro i hi acc b2 ⟨cs, rfl, h1, h2, h3, t2⟩ J hJ
    rw [List.length_map] at hi
    simp only [wp_ret, wp_bnd, wp_some, wp_grd, wp_no, wp_dat_pd, wp_dat_fz,  ev, evs, evO, evI, evC, evTs, AI.ex, asgG, asgGs, getV, wp_exs, wp_exs_nil, goS_nx, goS_rt, goS_bk, goS_ct, turnE_nx, turnE_ct, turnE_bk, turnE_rt, endD_rt, endD_nx, back_pd, binS, isFz, cmpS, biS, dats, truth, isiS, allPd, isiD, rkOf, join_some, Option.map, List.map, List.length_cons, List.length_nil, List.getElem?_cons_zero, List.getElem?_cons_succ, List.set_cons_zero, List.set_cons_succ, startS, atI_pos, atI_cast, Int.toNat_natCast, wp_newL1, wp_newL2, wp_newT1, List.length_set, List.set_set, decide_eq_true_eq, decide_eq_false_iff_not, Bool.not_eq_true', true_and, and_true,  ixN_pos, Int.reduceLE, Int.reduceLT, Int.reduceToNat, Int.reduceAdd, Int.reduceSub, Int.reduceMul, Int.reduceMod, Int.reduceNeg, Int.reducePow, Nat.reduceAdd, Nat.reduceLT, Nat.reduceLeDiff, Nat.reduceSub, reduceIte, Int.reduceEq, List.isEmpty_nil, Bool.false_eq_true, Bool.true_eq_false, decide_true, decide_false, ge_iff_le, gt_iff_lt,  wp_eq_int, wp_eq_str, wp_eq_bool, List.length_map, List.replicate, List.cons_append, List.nil_append, Bool.not_false, Bool.not_true, Bool.and_true, Bool.true_and, Bool.and_self, Bool.and_false, Bool.false_and, Option.bind, bn_add, bn_sub, bn_mul, bn_div, bn_mod, bn_pow, bn_addS, bn_addT, bn_addL, cp_eq, cp_ne, cp_ltI, cp_leI, cp_gtI, cp_geI, cp_ltS, cp_leS, cp_gtS, cp_geS, cp_ltT, cp_gtT, cp_in, cp_nin, cp_is, cp_isn, ix_l, ix_t, ix_s, ixs_tp, ixs_pd, ixs_rf, ixs_fz, cel_d, cel_r, mkLst, clsOf, clOf_d, clOf_r, wp_reprB, revS, isi2S, Bool.or_false, Bool.or_true, Bool.false_or, Bool.true_or, bi_lenL, bi_lenT, bi_lenS, bi_listL, bi_listT, bi_tupL, bi_tupT, bi_intI, bi_intB, bi_strI, bi_strS, bi_abs, bi_max, bi_min, bi_all, bi_any, bi_sum, in_l, in_t, in_s, tr_b, tr_i, tr_n, tr_l, tr_t, so_l, so_t, so_s, so_f, io_t, ng_i, pt_i, ag_a, ag_s, rv_l, rv_t, ap_d, rk_l, rk_t, rk_s, rg_1, rg_2, sl_l, sl_t, sl_s, mt_ixS, wp_mkT0, wp_mkT1, wp_mkT2, wp_mkT3, wp_mkT4, wp_mkT5, wp_mkT6, wp_mkT7, wp_mkT8, wp_datR, wp_idxR, wp_setR, wp_appR, set_last, get_last, le_line, lt_line, wp_newM, lg9, meth_words, wp_mkTR, not_true_eq_false, not_false_eq_true, eq_self, ofString_inj, String.reduceEq, wipeS, wp_inS, false_and, and_false, List.getElem_map]
    refine kind1 ek ed t2 (by omega) fun kd b3 t3 hk => ?_
    try simp only [wp_ret, wp_bnd, wp_some, wp_grd, wp_no, wp_dat_pd, wp_dat_fz,  ev, evs, evO, evI, evC, evTs, AI.ex, asgG, asgGs, getV, wp_exs, wp_exs_nil, goS_nx, goS_rt, goS_bk, goS_ct, turnE_nx, turnE_ct, turnE_bk, turnE_rt, endD_rt, endD_nx, back_pd, binS, isFz, cmpS, biS, dats, truth, isiS, allPd, isiD, rkOf, join_some, Option.map, List.map, List.length_cons, List.length_nil, List.getElem?_cons_zero, List.getElem?_cons_succ, List.set_cons_zero, List.set_cons_succ, startS, atI_pos, atI_cast, Int.toNat_natCast, wp_newL1, wp_newL2, wp_newT1, List.length_set, List.set_set, decide_eq_true_eq, decide_eq_false_iff_not, Bool.not_eq_true', true_and, and_true,  ixN_pos, Int.reduceLE, Int.reduceLT, Int.reduceToNat, Int.reduceAdd, Int.reduceSub, Int.reduceMul, Int.reduceMod, Int.reduceNeg, Int.reducePow, Nat.reduceAdd, Nat.reduceLT, Nat.reduceLeDiff, Nat.reduceSub, reduceIte, Int.reduceEq, List.isEmpty_nil, Bool.false_eq_true, Bool.true_eq_false, decide_true, decide_false, ge_iff_le, gt_iff_lt,  wp_eq_int, wp_eq_str, wp_eq_bool, List.length_map, List.replicate, List.cons_append, List.nil_append, Bool.not_false, Bool.not_true, Bool.and_true, Bool.true_and, Bool.and_self, Bool.and_false, Bool.false_and, Option.bind, bn_add, bn_sub, bn_mul, bn_div, bn_mod, bn_pow, bn_addS, bn_addT, bn_addL, cp_eq, cp_ne, cp_ltI, cp_leI, cp_gtI, cp_geI, cp_ltS, cp_leS, cp_gtS, cp_geS, cp_ltT, cp_gtT, cp_in, cp_nin, cp_is, cp_isn, ix_l, ix_t, ix_s, ixs_tp, ixs_pd, ixs_rf, ixs_fz, cel_d, cel_r, mkLst, clsOf, clOf_d, clOf_r, wp_reprB, revS, isi2S, Bool.or_false, Bool.or_true, Bool.false_or, Bool.true_or, bi_lenL, bi_lenT, bi_lenS, bi_listL, bi_listT, bi_tupL, bi_tupT, bi_intI, bi_intB, bi_strI, bi_strS, bi_abs, bi_max, bi_min, bi_all, bi_any, bi_sum, in_l, in_t, in_s, tr_b, tr_i, tr_n, tr_l, tr_t, so_l, so_t, so_s, so_f, io_t, ng_i, pt_i, ag_a, ag_s, rv_l, rv_t, ap_d, rk_l, rk_t, rk_s, rg_1, rg_2, sl_l, sl_t, sl_s, mt_ixS, wp_mkT0, wp_mkT1, wp_mkT2, wp_mkT3, wp_mkT4, wp_mkT5, wp_mkT6, wp_mkT7, wp_mkT8, wp_datR, wp_idxR, wp_setR, wp_appR, set_last, get_last, le_line, lt_line, wp_newM, lg9, meth_words, wp_mkTR, not_true_eq_false, not_false_eq_true, eq_self, ofString_inj, String.reduceEq, wipeS, wp_inS, false_and, and_false]
    refine hJ _ _ ⟨cs ++ [(xs[i], kd)], by rw [List.map_append]; rfl, ?_, fun c hc => ?_, hi, t3⟩
    · rw [List.map_append, h1, List.take_succ_eq_append_getElem hi]; rfl
    · rcases List.mem_append.mp hc with hc | hc
      · exact h2 c hc
      · have e : c = (xs[i], kd) := by simpa using hc
        rw [e]; exact hk
  · rintro acc b2 ⟨cs, rfl, h1, h2, h3, t2⟩
    rw [List.length_map] at h1 t2
    rw [List.take_length] at h1
    have hlen := congrArg List.length h1
    rw [List.length_map] at hlen
    simp only [Bool.false_eq_true, if_false]
    have hz : (cs.map colD).length ≤ 1000000 := by rw [List.length_map]; omega
    simp only [wp_ret, wp_bnd, wp_some, wp_grd, wp_no, wp_dat_pd, wp_dat_fz,  ev, evs, evO, evI, evC, evTs, AI.ex, asgG, asgGs, getV, wp_exs, wp_exs_nil, goS_nx, goS_rt, goS_bk, goS_ct, turnE_nx, turnE_ct, turnE_bk, turnE_rt, endD_rt, endD_nx, back_pd, binS, isFz, cmpS, biS, dats, truth, isiS, allPd, isiD, rkOf, join_some, Option.map, List.map, List.length_cons, List.length_nil, List.getElem?_cons_zero, List.getElem?_cons_succ, List.set_cons_zero, List.set_cons_succ, startS, atI_pos, atI_cast, Int.toNat_natCast, wp_newL1, wp_newL2, wp_newT1, List.length_set, List.set_set, decide_eq_true_eq, decide_eq_false_iff_not, Bool.not_eq_true', true_and, and_true,  ixN_pos, Int.reduceLE, Int.reduceLT, Int.reduceToNat, Int.reduceAdd, Int.reduceSub, Int.reduceMul, Int.reduceMod, Int.reduceNeg, Int.reducePow, Nat.reduceAdd, Nat.reduceLT, Nat.reduceLeDiff, Nat.reduceSub, reduceIte, Int.reduceEq, List.isEmpty_nil, Bool.false_eq_true, Bool.true_eq_false, decide_true, decide_false, ge_iff_le, gt_iff_lt,  wp_eq_int, wp_eq_str, wp_eq_bool, List.length_map, List.replicate, List.cons_append, List.nil_append, Bool.not_false, Bool.not_true, Bool.and_true, Bool.true_and, Bool.and_self, Bool.and_false, Bool.false_and, Option.bind, bn_add, bn_sub, bn_mul, bn_div, bn_mod, bn_pow, bn_addS, bn_addT, bn_addL, cp_eq, cp_ne, cp_ltI, cp_leI, cp_gtI, cp_geI, cp_ltS, cp_leS, cp_gtS, cp_geS, cp_ltT, cp_gtT, cp_in, cp_nin, cp_is, cp_isn, ix_l, ix_t, ix_s, ixs_tp, ixs_pd, ixs_rf, ixs_fz, cel_d, cel_r, mkLst, clsOf, clOf_d, clOf_r, wp_reprB, revS, isi2S, Bool.or_false, Bool.or_true, Bool.false_or, Bool.true_or, bi_lenL, bi_lenT, bi_lenS, bi_listL, bi_listT, bi_tupL, bi_tupT, bi_intI, bi_intB, bi_strI, bi_strS, bi_abs, bi_max, bi_min, bi_all, bi_any, bi_sum, in_l, in_t, in_s, tr_b, tr_i, tr_n, tr_l, tr_t, so_l, so_t, so_s, so_f, io_t, ng_i, pt_i, ag_a, ag_s, rv_l, rv_t, ap_d, rk_l, rk_t, rk_s, rg_1, rg_2, sl_l, sl_t, sl_s, mt_ixS, wp_mkT0, wp_mkT1, wp_mkT2, wp_mkT3, wp_mkT4, wp_mkT5, wp_mkT6, wp_mkT7, wp_mkT8, wp_datR, wp_idxR, wp_setR, wp_appR, set_last, get_last, le_line, lt_line, wp_newM, lg9, meth_words, wp_mkTR, not_true_eq_false, not_false_eq_true, eq_self, ofString_inj, String.reduceEq, wipeS, wp_inS, false_and, and_false, wp_newT1 hz]
    exact ret cs b2 (t2.up (by omega)) ⟨by rw [h1]; exact hx.nd, by rw [hlen]; exact hx.pos, by omega, h2, fun c hc => hx.shr c.1 (by rw [← h1]; exact List.mem_map.mpr ⟨c, hc, rfl⟩)⟩
theorem value1 {k : Nat} (evl : Has T "_law_value" ⟨2, 5, b_value1⟩) (ed : Has T "_law_draw" ⟨2, 4, b_draw⟩) (et : Has T "_law_text" ⟨1, 5, b_text⟩) (es : Has T "_law_signs" ⟨0, 1, b_signs⟩) {kd : Knd} (hk : kd.ok) (t : TapeB B b) (hB : B + 21 ≤ 16000000)
    (q : ∀ d b', TapeB (B + 21) b' → kd.fits d → Q (.pd d) (b' :: hs)) : wp ((T (k + 3)).call bx "_law_value" [.rf 0, .pd kd.toD]) Q (b :: hs) := by
  refine wp_call (evl _) (wp_def rfl ?_)
  have ret : ∀ d b', TapeB (B + 21) b' → kd.fits d → back (b :: hs).length bx Q (.pd d) (b' :: hs) := fun i b' t' h1 => by rw [back_pd, List.take_of_length_le (by simp)]; exact q i b' t' h1
  generalize back (b :: hs).length bx Q = Q' at *
  clear q
  cases kd with
  | str =>
    simp only [wp_ret, wp_bnd, wp_some, wp_grd, wp_no, wp_dat_pd, wp_dat_fz,  ev, evs, evO, evI, evC, evTs, AI.ex, asgG, asgGs, getV, wp_exs, wp_exs_nil, goS_nx, goS_rt, goS_bk, goS_ct, turnE_nx, turnE_ct, turnE_bk, turnE_rt, endD_rt, endD_nx, back_pd, binS, isFz, cmpS, biS, dats, truth, isiS, allPd, isiD, rkOf, join_some, Option.map, List.map, List.length_cons, List.length_nil, List.getElem?_cons_zero, List.getElem?_cons_succ, List.set_cons_zero, List.set_cons_succ, startS, atI_pos, atI_cast, Int.toNat_natCast, wp_newL1, wp_newL2, wp_newT1, List.length_set, List.set_set, decide_eq_true_eq, decide_eq_false_iff_not, Bool.not_eq_true', true_and, and_true,  ixN_pos, Int.reduceLE, Int.reduceLT, Int.reduceToNat, Int.reduceAdd, Int.reduceSub, Int.reduceMul, Int.reduceMod, Int.reduceNeg, Int.reducePow, Nat.reduceAdd, Nat.reduceLT, Nat.reduceLeDiff, Nat.reduceSub, reduceIte, Int.reduceEq, List.isEmpty_nil, Bool.false_eq_true, Bool.true_eq_false, decide_true, decide_false, ge_iff_le, gt_iff_lt,  wp_eq_int, wp_eq_str, wp_eq_bool, List.length_map, List.replicate, List.cons_append, List.nil_append, Bool.not_false, Bool.not_true, Bool.and_true, Bool.true_and, Bool.and_self, Bool.and_false, Bool.false_and, Option.bind, bn_add, bn_sub, bn_mul, bn_div, bn_mod, bn_pow, bn_addS, bn_addT, bn_addL, cp_eq, cp_ne, cp_ltI, cp_leI, cp_gtI, cp_geI, cp_ltS, cp_leS, cp_gtS, cp_geS, cp_ltT, cp_gtT, cp_in, cp_nin, cp_is, cp_isn, ix_l, ix_t, ix_s, ixs_tp, ixs_pd, ixs_rf, ixs_fz, cel_d, cel_r, mkLst, clsOf, clOf_d, clOf_r, wp_reprB, revS, isi2S, Bool.or_false, Bool.or_true, Bool.false_or, Bool.true_or, bi_lenL, bi_lenT, bi_lenS, bi_listL, bi_listT, bi_tupL, bi_tupT, bi_intI, bi_intB, bi_strI, bi_strS, bi_abs, bi_max, bi_min, bi_all, bi_any, bi_sum, in_l, in_t, in_s, tr_b, tr_i, tr_n, tr_l, tr_t, so_l, so_t, so_s, so_f, io_t, ng_i, pt_i, ag_a, ag_s, rv_l, rv_t, ap_d, rk_l, rk_t, rk_s, rg_1, rg_2, sl_l, sl_t, sl_s, mt_ixS, wp_mkT0, wp_mkT1, wp_mkT2, wp_mkT3, wp_mkT4, wp_mkT5, wp_mkT6, wp_mkT7, wp_mkT8, wp_datR, wp_idxR, wp_setR, wp_appR, set_last, get_last, le_line, lt_line, wp_newM, lg9, meth_words, wp_mkTR, not_true_eq_false, not_false_eq_true, eq_self, ofString_inj, String.reduceEq, wipeS, wp_inS, false_and, and_false, b_value1, Knd.toD]
    refine text1 et ed es t (by omega) fun s b1 t1 g => ?_
    exact ret _ _ t1 ⟨s, rfl, g⟩
  | int m =>
    have hm : m ≤ 1000000000000 := hk
    have hmz : (16 * ((m : Int) + 1)) < 2 ^ 1000 := Int.lt_trans (show 16 * ((m : Int) + 1) < 100000000000000 by omega) (by decide)
    simp only [wp_ret, wp_bnd, wp_some, wp_grd, wp_no, wp_dat_pd, wp_dat_fz,  ev, evs, evO, evI, evC, evTs, AI.ex, asgG, asgGs, getV, wp_exs, wp_exs_nil, goS_nx, goS_rt, goS_bk, goS_ct, turnE_nx, turnE_ct, turnE_bk, turnE_rt, endD_rt, endD_nx, back_pd, binS, isFz, cmpS, biS, dats, truth, isiS, allPd, isiD, rkOf, join_some, Option.map, List.map, List.length_cons, List.length_nil, List.getElem?_cons_zero, List.getElem?_cons_succ, List.set_cons_zero, List.set_cons_succ, startS, atI_pos, atI_cast, Int.toNat_natCast, wp_newL1, wp_newL2, wp_newT1, List.length_set, List.set_set, decide_eq_true_eq, decide_eq_false_iff_not, Bool.not_eq_true', true_and, and_true,  ixN_pos, Int.reduceLE, Int.reduceLT, Int.reduceToNat, Int.reduceAdd, Int.reduceSub, Int.reduceMul, Int.reduceMod, Int.reduceNeg, Int.reducePow, Nat.reduceAdd, Nat.reduceLT, Nat.reduceLeDiff, Nat.reduceSub, reduceIte, Int.reduceEq, List.isEmpty_nil, Bool.false_eq_true, Bool.true_eq_false, decide_true, decide_false, ge_iff_le, gt_iff_lt,  wp_eq_int, wp_eq_str, wp_eq_bool, List.length_map, List.replicate, List.cons_append, List.nil_append, Bool.not_false, Bool.not_true, Bool.and_true, Bool.true_and, Bool.and_self, Bool.and_false, Bool.false_and, Option.bind, bn_add, bn_sub, bn_mul, bn_div, bn_mod, bn_pow, bn_addS, bn_addT, bn_addL, cp_eq, cp_ne, cp_ltI, cp_leI, cp_gtI, cp_geI, cp_ltS, cp_leS, cp_gtS, cp_geS, cp_ltT, cp_gtT, cp_in, cp_nin, cp_is, cp_isn, ix_l, ix_t, ix_s, ixs_tp, ixs_pd, ixs_rf, ixs_fz, cel_d, cel_r, mkLst, clsOf, clOf_d, clOf_r, wp_reprB, revS, isi2S, Bool.or_false, Bool.or_true, Bool.false_or, Bool.true_or, bi_lenL, bi_lenT, bi_lenS, bi_listL, bi_listT, bi_tupL, bi_tupT, bi_intI, bi_intB, bi_strI, bi_strS, bi_abs, bi_max, bi_min, bi_all, bi_any, bi_sum, in_l, in_t, in_s, tr_b, tr_i, tr_n, tr_l, tr_t, so_l, so_t, so_s, so_f, io_t, ng_i, pt_i, ag_a, ag_s, rv_l, rv_t, ap_d, rk_l, rk_t, rk_s, rg_1, rg_2, sl_l, sl_t, sl_s, mt_ixS, wp_mkT0, wp_mkT1, wp_mkT2, wp_mkT3, wp_mkT4, wp_mkT5, wp_mkT6, wp_mkT7, wp_mkT8, wp_datR, wp_idxR, wp_setR, wp_appR, set_last, get_last, le_line, lt_line, wp_newM, lg9, meth_words, wp_mkTR, not_true_eq_false, not_false_eq_true, eq_self, ofString_inj, String.reduceEq, wipeS, wp_inS, false_and, and_false, b_value1, Knd.toD]
    refine ⟨mul_ok (by decide) (by decide) (by omega) (Int.lt_trans (show (m : Int) + 1 < 100000000000000 by omega) (by decide)), ?_⟩
    refine draw1 (ed _) t (by omega) hmz fun v b1 t1 hv => ?_
    obtain ⟨v0, v1⟩ := hv.lt (by omega)
    have t2 := t1.up (show B + 1 ≤ B + 21 by omega)
    try simp only [wp_ret, wp_bnd, wp_some, wp_grd, wp_no, wp_dat_pd, wp_dat_fz,  ev, evs, evO, evI, evC, evTs, AI.ex, asgG, asgGs, getV, wp_exs, wp_exs_nil, goS_nx, goS_rt, goS_bk, goS_ct, turnE_nx, turnE_ct, turnE_bk, turnE_rt, endD_rt, endD_nx, back_pd, binS, isFz, cmpS, biS, dats, truth, isiS, allPd, isiD, rkOf, join_some, Option.map, List.map, List.length_cons, List.length_nil, List.getElem?_cons_zero, List.getElem?_cons_succ, List.set_cons_zero, List.set_cons_succ, startS, atI_pos, atI_cast, Int.toNat_natCast, wp_newL1, wp_newL2, wp_newT1, List.length_set, List.set_set, decide_eq_true_eq, decide_eq_false_iff_not, Bool.not_eq_true', true_and, and_true,  ixN_pos, Int.reduceLE, Int.reduceLT, Int.reduceToNat, Int.reduceAdd, Int.reduceSub, Int.reduceMul, Int.reduceMod, Int.reduceNeg, Int.reducePow, Nat.reduceAdd, Nat.reduceLT, Nat.reduceLeDiff, Nat.reduceSub, reduceIte, Int.reduceEq, List.isEmpty_nil, Bool.false_eq_true, Bool.true_eq_false, decide_true, decide_false, ge_iff_le, gt_iff_lt,  wp_eq_int, wp_eq_str, wp_eq_bool, List.length_map, List.replicate, List.cons_append, List.nil_append, Bool.not_false, Bool.not_true, Bool.and_true, Bool.true_and, Bool.and_self, Bool.and_false, Bool.false_and, Option.bind, bn_add, bn_sub, bn_mul, bn_div, bn_mod, bn_pow, bn_addS, bn_addT, bn_addL, cp_eq, cp_ne, cp_ltI, cp_leI, cp_gtI, cp_geI, cp_ltS, cp_leS, cp_gtS, cp_geS, cp_ltT, cp_gtT, cp_in, cp_nin, cp_is, cp_isn, ix_l, ix_t, ix_s, ixs_tp, ixs_pd, ixs_rf, ixs_fz, cel_d, cel_r, mkLst, clsOf, clOf_d, clOf_r, wp_reprB, revS, isi2S, Bool.or_false, Bool.or_true, Bool.false_or, Bool.true_or, bi_lenL, bi_lenT, bi_lenS, bi_listL, bi_listT, bi_tupL, bi_tupT, bi_intI, bi_intB, bi_strI, bi_strS, bi_abs, bi_max, bi_min, bi_all, bi_any, bi_sum, in_l, in_t, in_s, tr_b, tr_i, tr_n, tr_l, tr_t, so_l, so_t, so_s, so_f, io_t, ng_i, pt_i, ag_a, ag_s, rv_l, rv_t, ap_d, rk_l, rk_t, rk_s, rg_1, rg_2, sl_l, sl_t, sl_s, mt_ixS, wp_mkT0, wp_mkT1, wp_mkT2, wp_mkT3, wp_mkT4, wp_mkT5, wp_mkT6, wp_mkT7, wp_mkT8, wp_datR, wp_idxR, wp_setR, wp_appR, set_last, get_last, le_line, lt_line, wp_newM, lg9, meth_words, wp_mkTR, not_true_eq_false, not_false_eq_true, eq_self, ofString_inj, String.reduceEq, wipeS, wp_inS, false_and, and_false]
    refine wp_if (fun c => ?_) (fun c => ?_)
    · try simp only [wp_ret, wp_bnd, wp_some, wp_grd, wp_no, wp_dat_pd, wp_dat_fz,  ev, evs, evO, evI, evC, evTs, AI.ex, asgG, asgGs, getV, wp_exs, wp_exs_nil, goS_nx, goS_rt, goS_bk, goS_ct, turnE_nx, turnE_ct, turnE_bk, turnE_rt, endD_rt, endD_nx, back_pd, binS, isFz, cmpS, biS, dats, truth, isiS, allPd, isiD, rkOf, join_some, Option.map, List.map, List.length_cons, List.length_nil, List.getElem?_cons_zero, List.getElem?_cons_succ, List.set_cons_zero, List.set_cons_succ, startS, atI_pos, atI_cast, Int.toNat_natCast, wp_newL1, wp_newL2, wp_newT1, List.length_set, List.set_set, decide_eq_true_eq, decide_eq_false_iff_not, Bool.not_eq_true', true_and, and_true,  ixN_pos, Int.reduceLE, Int.reduceLT, Int.reduceToNat, Int.reduceAdd, Int.reduceSub, Int.reduceMul, Int.reduceMod, Int.reduceNeg, Int.reducePow, Nat.reduceAdd, Nat.reduceLT, Nat.reduceLeDiff, Nat.reduceSub, reduceIte, Int.reduceEq, List.isEmpty_nil, Bool.false_eq_true, Bool.true_eq_false, decide_true, decide_false, ge_iff_le, gt_iff_lt,  wp_eq_int, wp_eq_str, wp_eq_bool, List.length_map, List.replicate, List.cons_append, List.nil_append, Bool.not_false, Bool.not_true, Bool.and_true, Bool.true_and, Bool.and_self, Bool.and_false, Bool.false_and, Option.bind, bn_add, bn_sub, bn_mul, bn_div, bn_mod, bn_pow, bn_addS, bn_addT, bn_addL, cp_eq, cp_ne, cp_ltI, cp_leI, cp_gtI, cp_geI, cp_ltS, cp_leS, cp_gtS, cp_geS, cp_ltT, cp_gtT, cp_in, cp_nin, cp_is, cp_isn, ix_l, ix_t, ix_s, ixs_tp, ixs_pd, ixs_rf, ixs_fz, cel_d, cel_r, mkLst, clsOf, clOf_d, clOf_r, wp_reprB, revS, isi2S, Bool.or_false, Bool.or_true, Bool.false_or, Bool.true_or, bi_lenL, bi_lenT, bi_lenS, bi_listL, bi_listT, bi_tupL, bi_tupT, bi_intI, bi_intB, bi_strI, bi_strS, bi_abs, bi_max, bi_min, bi_all, bi_any, bi_sum, in_l, in_t, in_s, tr_b, tr_i, tr_n, tr_l, tr_t, so_l, so_t, so_s, so_f, io_t, ng_i, pt_i, ag_a, ag_s, rv_l, rv_t, ap_d, rk_l, rk_t, rk_s, rg_1, rg_2, sl_l, sl_t, sl_s, mt_ixS, wp_mkT0, wp_mkT1, wp_mkT2, wp_mkT3, wp_mkT4, wp_mkT5, wp_mkT6, wp_mkT7, wp_mkT8, wp_datR, wp_idxR, wp_setR, wp_appR, set_last, get_last, le_line, lt_line, wp_newM, lg9, meth_words, wp_mkTR, not_true_eq_false, not_false_eq_true, eq_self, ofString_inj, String.reduceEq, wipeS, wp_inS, false_and, and_false]
      refine ret _ _ t2 ⟨_, rfl, ?_, ?_⟩
      · have := emod_rng (v / 8) (show (0 : Int) < 3 by decide)
        split <;> omega
      · split <;> omega
    try simp only [wp_ret, wp_bnd, wp_some, wp_grd, wp_no, wp_dat_pd, wp_dat_fz,  ev, evs, evO, evI, evC, evTs, AI.ex, asgG, asgGs, getV, wp_exs, wp_exs_nil, goS_nx, goS_rt, goS_bk, goS_ct, turnE_nx, turnE_ct, turnE_bk, turnE_rt, endD_rt, endD_nx, back_pd, binS, isFz, cmpS, biS, dats, truth, isiS, allPd, isiD, rkOf, join_some, Option.map, List.map, List.length_cons, List.length_nil, List.getElem?_cons_zero, List.getElem?_cons_succ, List.set_cons_zero, List.set_cons_succ, startS, atI_pos, atI_cast, Int.toNat_natCast, wp_newL1, wp_newL2, wp_newT1, List.length_set, List.set_set, decide_eq_true_eq, decide_eq_false_iff_not, Bool.not_eq_true', true_and, and_true,  ixN_pos, Int.reduceLE, Int.reduceLT, Int.reduceToNat, Int.reduceAdd, Int.reduceSub, Int.reduceMul, Int.reduceMod, Int.reduceNeg, Int.reducePow, Nat.reduceAdd, Nat.reduceLT, Nat.reduceLeDiff, Nat.reduceSub, reduceIte, Int.reduceEq, List.isEmpty_nil, Bool.false_eq_true, Bool.true_eq_false, decide_true, decide_false, ge_iff_le, gt_iff_lt,  wp_eq_int, wp_eq_str, wp_eq_bool, List.length_map, List.replicate, List.cons_append, List.nil_append, Bool.not_false, Bool.not_true, Bool.and_true, Bool.true_and, Bool.and_self, Bool.and_false, Bool.false_and, Option.bind, bn_add, bn_sub, bn_mul, bn_div, bn_mod, bn_pow, bn_addS, bn_addT, bn_addL, cp_eq, cp_ne, cp_ltI, cp_leI, cp_gtI, cp_geI, cp_ltS, cp_leS, cp_gtS, cp_geS, cp_ltT, cp_gtT, cp_in, cp_nin, cp_is, cp_isn, ix_l, ix_t, ix_s, ixs_tp, ixs_pd, ixs_rf, ixs_fz, cel_d, cel_r, mkLst, clsOf, clOf_d, clOf_r, wp_reprB, revS, isi2S, Bool.or_false, Bool.or_true, Bool.false_or, Bool.true_or, bi_lenL, bi_lenT, bi_lenS, bi_listL, bi_listT, bi_tupL, bi_tupT, bi_intI, bi_intB, bi_strI, bi_strS, bi_abs, bi_max, bi_min, bi_all, bi_any, bi_sum, in_l, in_t, in_s, tr_b, tr_i, tr_n, tr_l, tr_t, so_l, so_t, so_s, so_f, io_t, ng_i, pt_i, ag_a, ag_s, rv_l, rv_t, ap_d, rk_l, rk_t, rk_s, rg_1, rg_2, sl_l, sl_t, sl_s, mt_ixS, wp_mkT0, wp_mkT1, wp_mkT2, wp_mkT3, wp_mkT4, wp_mkT5, wp_mkT6, wp_mkT7, wp_mkT8, wp_datR, wp_idxR, wp_setR, wp_appR, set_last, get_last, le_line, lt_line, wp_newM, lg9, meth_words, wp_mkTR, not_true_eq_false, not_false_eq_true, eq_self, ofString_inj, String.reduceEq, wipeS, wp_inS, false_and, and_false]
    refine wp_if (fun c => ?_) (fun c => ?_)
    · try simp only [wp_ret, wp_bnd, wp_some, wp_grd, wp_no, wp_dat_pd, wp_dat_fz,  ev, evs, evO, evI, evC, evTs, AI.ex, asgG, asgGs, getV, wp_exs, wp_exs_nil, goS_nx, goS_rt, goS_bk, goS_ct, turnE_nx, turnE_ct, turnE_bk, turnE_rt, endD_rt, endD_nx, back_pd, binS, isFz, cmpS, biS, dats, truth, isiS, allPd, isiD, rkOf, join_some, Option.map, List.map, List.length_cons, List.length_nil, List.getElem?_cons_zero, List.getElem?_cons_succ, List.set_cons_zero, List.set_cons_succ, startS, atI_pos, atI_cast, Int.toNat_natCast, wp_newL1, wp_newL2, wp_newT1, List.length_set, List.set_set, decide_eq_true_eq, decide_eq_false_iff_not, Bool.not_eq_true', true_and, and_true,  ixN_pos, Int.reduceLE, Int.reduceLT, Int.reduceToNat, Int.reduceAdd, Int.reduceSub, Int.reduceMul, Int.reduceMod, Int.reduceNeg, Int.reducePow, Nat.reduceAdd, Nat.reduceLT, Nat.reduceLeDiff, Nat.reduceSub, reduceIte, Int.reduceEq, List.isEmpty_nil, Bool.false_eq_true, Bool.true_eq_false, decide_true, decide_false, ge_iff_le, gt_iff_lt,  wp_eq_int, wp_eq_str, wp_eq_bool, List.length_map, List.replicate, List.cons_append, List.nil_append, Bool.not_false, Bool.not_true, Bool.and_true, Bool.true_and, Bool.and_self, Bool.and_false, Bool.false_and, Option.bind, bn_add, bn_sub, bn_mul, bn_div, bn_mod, bn_pow, bn_addS, bn_addT, bn_addL, cp_eq, cp_ne, cp_ltI, cp_leI, cp_gtI, cp_geI, cp_ltS, cp_leS, cp_gtS, cp_geS, cp_ltT, cp_gtT, cp_in, cp_nin, cp_is, cp_isn, ix_l, ix_t, ix_s, ixs_tp, ixs_pd, ixs_rf, ixs_fz, cel_d, cel_r, mkLst, clsOf, clOf_d, clOf_r, wp_reprB, revS, isi2S, Bool.or_false, Bool.or_true, Bool.false_or, Bool.true_or, bi_lenL, bi_lenT, bi_lenS, bi_listL, bi_listT, bi_tupL, bi_tupT, bi_intI, bi_intB, bi_strI, bi_strS, bi_abs, bi_max, bi_min, bi_all, bi_any, bi_sum, in_l, in_t, in_s, tr_b, tr_i, tr_n, tr_l, tr_t, so_l, so_t, so_s, so_f, io_t, ng_i, pt_i, ag_a, ag_s, rv_l, rv_t, ap_d, rk_l, rk_t, rk_s, rg_1, rg_2, sl_l, sl_t, sl_s, mt_ixS, wp_mkT0, wp_mkT1, wp_mkT2, wp_mkT3, wp_mkT4, wp_mkT5, wp_mkT6, wp_mkT7, wp_mkT8, wp_datR, wp_idxR, wp_setR, wp_appR, set_last, get_last, le_line, lt_line, wp_newM, lg9, meth_words, wp_mkTR, not_true_eq_false, not_false_eq_true, eq_self, ofString_inj, String.reduceEq, wipeS, wp_inS, false_and, and_false]
      refine ret _ _ t2 ⟨_, rfl, ?_, ?_⟩
      · have := emod_rng (v / 8) (show (0 : Int) < 7 by decide)
        split <;> (try split) <;> omega
      · split <;> (try split) <;> omega
    try simp only [wp_ret, wp_bnd, wp_some, wp_grd, wp_no, wp_dat_pd, wp_dat_fz,  ev, evs, evO, evI, evC, evTs, AI.ex, asgG, asgGs, getV, wp_exs, wp_exs_nil, goS_nx, goS_rt, goS_bk, goS_ct, turnE_nx, turnE_ct, turnE_bk, turnE_rt, endD_rt, endD_nx, back_pd, binS, isFz, cmpS, biS, dats, truth, isiS, allPd, isiD, rkOf, join_some, Option.map, List.map, List.length_cons, List.length_nil, List.getElem?_cons_zero, List.getElem?_cons_succ, List.set_cons_zero, List.set_cons_succ, startS, atI_pos, atI_cast, Int.toNat_natCast, wp_newL1, wp_newL2, wp_newT1, List.length_set, List.set_set, decide_eq_true_eq, decide_eq_false_iff_not, Bool.not_eq_true', true_and, and_true,  ixN_pos, Int.reduceLE, Int.reduceLT, Int.reduceToNat, Int.reduceAdd, Int.reduceSub, Int.reduceMul, Int.reduceMod, Int.reduceNeg, Int.reducePow, Nat.reduceAdd, Nat.reduceLT, Nat.reduceLeDiff, Nat.reduceSub, reduceIte, Int.reduceEq, List.isEmpty_nil, Bool.false_eq_true, Bool.true_eq_false, decide_true, decide_false, ge_iff_le, gt_iff_lt,  wp_eq_int, wp_eq_str, wp_eq_bool, List.length_map, List.replicate, List.cons_append, List.nil_append, Bool.not_false, Bool.not_true, Bool.and_true, Bool.true_and, Bool.and_self, Bool.and_false, Bool.false_and, Option.bind, bn_add, bn_sub, bn_mul, bn_div, bn_mod, bn_pow, bn_addS, bn_addT, bn_addL, cp_eq, cp_ne, cp_ltI, cp_leI, cp_gtI, cp_geI, cp_ltS, cp_leS, cp_gtS, cp_geS, cp_ltT, cp_gtT, cp_in, cp_nin, cp_is, cp_isn, ix_l, ix_t, ix_s, ixs_tp, ixs_pd, ixs_rf, ixs_fz, cel_d, cel_r, mkLst, clsOf, clOf_d, clOf_r, wp_reprB, revS, isi2S, Bool.or_false, Bool.or_true, Bool.false_or, Bool.true_or, bi_lenL, bi_lenT, bi_lenS, bi_listL, bi_listT, bi_tupL, bi_tupT, bi_intI, bi_intB, bi_strI, bi_strS, bi_abs, bi_max, bi_min, bi_all, bi_any, bi_sum, in_l, in_t, in_s, tr_b, tr_i, tr_n, tr_l, tr_t, so_l, so_t, so_s, so_f, io_t, ng_i, pt_i, ag_a, ag_s, rv_l, rv_t, ap_d, rk_l, rk_t, rk_s, rg_1, rg_2, sl_l, sl_t, sl_s, mt_ixS, wp_mkT0, wp_mkT1, wp_mkT2, wp_mkT3, wp_mkT4, wp_mkT5, wp_mkT6, wp_mkT7, wp_mkT8, wp_datR, wp_idxR, wp_setR, wp_appR, set_last, get_last, le_line, lt_line, wp_newM, lg9, meth_words, wp_mkTR, not_true_eq_false, not_false_eq_true, eq_self, ofString_inj, String.reduceEq, wipeS, wp_inS, false_and, and_false]
    refine wp_if (fun c => ?_) (fun c => ?_)
    · try simp only [wp_ret, wp_bnd, wp_some, wp_grd, wp_no, wp_dat_pd, wp_dat_fz,  ev, evs, evO, evI, evC, evTs, AI.ex, asgG, asgGs, getV, wp_exs, wp_exs_nil, goS_nx, goS_rt, goS_bk, goS_ct, turnE_nx, turnE_ct, turnE_bk, turnE_rt, endD_rt, endD_nx, back_pd, binS, isFz, cmpS, biS, dats, truth, isiS, allPd, isiD, rkOf, join_some, Option.map, List.map, List.length_cons, List.length_nil, List.getElem?_cons_zero, List.getElem?_cons_succ, List.set_cons_zero, List.set_cons_succ, startS, atI_pos, atI_cast, Int.toNat_natCast, wp_newL1, wp_newL2, wp_newT1, List.length_set, List.set_set, decide_eq_true_eq, decide_eq_false_iff_not, Bool.not_eq_true', true_and, and_true,  ixN_pos, Int.reduceLE, Int.reduceLT, Int.reduceToNat, Int.reduceAdd, Int.reduceSub, Int.reduceMul, Int.reduceMod, Int.reduceNeg, Int.reducePow, Nat.reduceAdd, Nat.reduceLT, Nat.reduceLeDiff, Nat.reduceSub, reduceIte, Int.reduceEq, List.isEmpty_nil, Bool.false_eq_true, Bool.true_eq_false, decide_true, decide_false, ge_iff_le, gt_iff_lt,  wp_eq_int, wp_eq_str, wp_eq_bool, List.length_map, List.replicate, List.cons_append, List.nil_append, Bool.not_false, Bool.not_true, Bool.and_true, Bool.true_and, Bool.and_self, Bool.and_false, Bool.false_and, Option.bind, bn_add, bn_sub, bn_mul, bn_div, bn_mod, bn_pow, bn_addS, bn_addT, bn_addL, cp_eq, cp_ne, cp_ltI, cp_leI, cp_gtI, cp_geI, cp_ltS, cp_leS, cp_gtS, cp_geS, cp_ltT, cp_gtT, cp_in, cp_nin, cp_is, cp_isn, ix_l, ix_t, ix_s, ixs_tp, ixs_pd, ixs_rf, ixs_fz, cel_d, cel_r, mkLst, clsOf, clOf_d, clOf_r, wp_reprB, revS, isi2S, Bool.or_false, Bool.or_true, Bool.false_or, Bool.true_or, bi_lenL, bi_lenT, bi_lenS, bi_listL, bi_listT, bi_tupL, bi_tupT, bi_intI, bi_intB, bi_strI, bi_strS, bi_abs, bi_max, bi_min, bi_all, bi_any, bi_sum, in_l, in_t, in_s, tr_b, tr_i, tr_n, tr_l, tr_t, so_l, so_t, so_s, so_f, io_t, ng_i, pt_i, ag_a, ag_s, rv_l, rv_t, ap_d, rk_l, rk_t, rk_s, rg_1, rg_2, sl_l, sl_t, sl_s, mt_ixS, wp_mkT0, wp_mkT1, wp_mkT2, wp_mkT3, wp_mkT4, wp_mkT5, wp_mkT6, wp_mkT7, wp_mkT8, wp_datR, wp_idxR, wp_setR, wp_appR, set_last, get_last, le_line, lt_line, wp_newM, lg9, meth_words, wp_mkTR, not_true_eq_false, not_false_eq_true, eq_self, ofString_inj, String.reduceEq, wipeS, wp_inS, false_and, and_false]
      refine wp_atA (fun d => ∃ i : Int, d = .int i ∧ -m ≤ i ∧ i ≤ m) (emod_rng _ (by decide)).1 (emod_rng _ (by decide)).2 ⟨⟨_, rfl, by omega, by omega⟩, ⟨_, rfl, by omega, by omega⟩, trivial⟩ fun d hd => ?_
      try simp only [wp_ret, wp_bnd, wp_some, wp_grd, wp_no, wp_dat_pd, wp_dat_fz,  ev, evs, evO, evI, evC, evTs, AI.ex, asgG, asgGs, getV, wp_exs, wp_exs_nil, goS_nx, goS_rt, goS_bk, goS_ct, turnE_nx, turnE_ct, turnE_bk, turnE_rt, endD_rt, endD_nx, back_pd, binS, isFz, cmpS, biS, dats, truth, isiS, allPd, isiD, rkOf, join_some, Option.map, List.map, List.length_cons, List.length_nil, List.getElem?_cons_zero, List.getElem?_cons_succ, List.set_cons_zero, List.set_cons_succ, startS, atI_pos, atI_cast, Int.toNat_natCast, wp_newL1, wp_newL2, wp_newT1, List.length_set, List.set_set, decide_eq_true_eq, decide_eq_false_iff_not, Bool.not_eq_true', true_and, and_true,  ixN_pos, Int.reduceLE, Int.reduceLT, Int.reduceToNat, Int.reduceAdd, Int.reduceSub, Int.reduceMul, Int.reduceMod, Int.reduceNeg, Int.reducePow, Nat.reduceAdd, Nat.reduceLT, Nat.reduceLeDiff, Nat.reduceSub, reduceIte, Int.reduceEq, List.isEmpty_nil, Bool.false_eq_true, Bool.true_eq_false, decide_true, decide_false, ge_iff_le, gt_iff_lt,  wp_eq_int, wp_eq_str, wp_eq_bool, List.length_map, List.replicate, List.cons_append, List.nil_append, Bool.not_false, Bool.not_true, Bool.and_true, Bool.true_and, Bool.and_self, Bool.and_false, Bool.false_and, Option.bind, bn_add, bn_sub, bn_mul, bn_div, bn_mod, bn_pow, bn_addS, bn_addT, bn_addL, cp_eq, cp_ne, cp_ltI, cp_leI, cp_gtI, cp_geI, cp_ltS, cp_leS, cp_gtS, cp_geS, cp_ltT, cp_gtT, cp_in, cp_nin, cp_is, cp_isn, ix_l, ix_t, ix_s, ixs_tp, ixs_pd, ixs_rf, ixs_fz, cel_d, cel_r, mkLst, clsOf, clOf_d, clOf_r, wp_reprB, revS, isi2S, Bool.or_false, Bool.or_true, Bool.false_or, Bool.true_or, bi_lenL, bi_lenT, bi_lenS, bi_listL, bi_listT, bi_tupL, bi_tupT, bi_intI, bi_intB, bi_strI, bi_strS, bi_abs, bi_max, bi_min, bi_all, bi_any, bi_sum, in_l, in_t, in_s, tr_b, tr_i, tr_n, tr_l, tr_t, so_l, so_t, so_s, so_f, io_t, ng_i, pt_i, ag_a, ag_s, rv_l, rv_t, ap_d, rk_l, rk_t, rk_s, rg_1, rg_2, sl_l, sl_t, sl_s, mt_ixS, wp_mkT0, wp_mkT1, wp_mkT2, wp_mkT3, wp_mkT4, wp_mkT5, wp_mkT6, wp_mkT7, wp_mkT8, wp_datR, wp_idxR, wp_setR, wp_appR, set_last, get_last, le_line, lt_line, wp_newM, lg9, meth_words, wp_mkTR, not_true_eq_false, not_false_eq_true, eq_self, ofString_inj, String.reduceEq, wipeS, wp_inS, false_and, and_false]
      exact ret _ _ t2 hd
    · try simp only [wp_ret, wp_bnd, wp_some, wp_grd, wp_no, wp_dat_pd, wp_dat_fz,  ev, evs, evO, evI, evC, evTs, AI.ex, asgG, asgGs, getV, wp_exs, wp_exs_nil, goS_nx, goS_rt, goS_bk, goS_ct, turnE_nx, turnE_ct, turnE_bk, turnE_rt, endD_rt, endD_nx, back_pd, binS, isFz, cmpS, biS, dats, truth, isiS, allPd, isiD, rkOf, join_some, Option.map, List.map, List.length_cons, List.length_nil, List.getElem?_cons_zero, List.getElem?_cons_succ, List.set_cons_zero, List.set_cons_succ, startS, atI_pos, atI_cast, Int.toNat_natCast, wp_newL1, wp_newL2, wp_newT1, List.length_set, List.set_set, decide_eq_true_eq, decide_eq_false_iff_not, Bool.not_eq_true', true_and, and_true,  ixN_pos, Int.reduceLE, Int.reduceLT, Int.reduceToNat, Int.reduceAdd, Int.reduceSub, Int.reduceMul, Int.reduceMod, Int.reduceNeg, Int.reducePow, Nat.reduceAdd, Nat.reduceLT, Nat.reduceLeDiff, Nat.reduceSub, reduceIte, Int.reduceEq, List.isEmpty_nil, Bool.false_eq_true, Bool.true_eq_false, decide_true, decide_false, ge_iff_le, gt_iff_lt,  wp_eq_int, wp_eq_str, wp_eq_bool, List.length_map, List.replicate, List.cons_append, List.nil_append, Bool.not_false, Bool.not_true, Bool.and_true, Bool.true_and, Bool.and_self, Bool.and_false, Bool.false_and, Option.bind, bn_add, bn_sub, bn_mul, bn_div, bn_mod, bn_pow, bn_addS, bn_addT, bn_addL, cp_eq, cp_ne, cp_ltI, cp_leI, cp_gtI, cp_geI, cp_ltS, cp_leS, cp_gtS, cp_geS, cp_ltT, cp_gtT, cp_in, cp_nin, cp_is, cp_isn, ix_l, ix_t, ix_s, ixs_tp, ixs_pd, ixs_rf, ixs_fz, cel_d, cel_r, mkLst, clsOf, clOf_d, clOf_r, wp_reprB, revS, isi2S, Bool.or_false, Bool.or_true, Bool.false_or, Bool.true_or, bi_lenL, bi_lenT, bi_lenS, bi_listL, bi_listT, bi_tupL, bi_tupT, bi_intI, bi_intB, bi_strI, bi_strS, bi_abs, bi_max, bi_min, bi_all, bi_any, bi_sum, in_l, in_t, in_s, tr_b, tr_i, tr_n, tr_l, tr_t, so_l, so_t, so_s, so_f, io_t, ng_i, pt_i, ag_a, ag_s, rv_l, rv_t, ap_d, rk_l, rk_t, rk_s, rg_1, rg_2, sl_l, sl_t, sl_s, mt_ixS, wp_mkT0, wp_mkT1, wp_mkT2, wp_mkT3, wp_mkT4, wp_mkT5, wp_mkT6, wp_mkT7, wp_mkT8, wp_datR, wp_idxR, wp_setR, wp_appR, set_last, get_last, le_line, lt_line, wp_newM, lg9, meth_words, wp_mkTR, not_true_eq_false, not_false_eq_true, eq_self, ofString_inj, String.reduceEq, wipeS, wp_inS, false_and, and_false]
      have r := emod_rng (v / 8 * 1000003) (show (0 : Int) < 2 * m + 1 by omega)
      exact ⟨mul_ok (by omega) (Int.lt_trans (show v / 8 < 100000000000000 by omega) (by decide)) (by decide) (by decide), mul_ok (by decide) (by decide) (by omega) (Int.lt_trans (show (m : Int) < 100000000000000 by omega) (by decide)), by omega, ret _ _ t2 ⟨_, rfl, by omega, by omega⟩⟩
end
end AI

set_option Elab.async false
set_option linter.all false
set_option maxRecDepth 100000
set_option maxHeartbeats 4000000
namespace K17
open PySem AI
abbrev top (i : Nat) : Stmt := PySem.Challenge.pw_indoubt_k17_rows_that_can_be_stored.main.body.getD i (.Pass ⟨0, 0, 0, 0⟩)
def b_is_storable : List S := [.ite (.val (.cmp .Eq (.var 1) (.cst (.str "integer")))) [.ret (.and (.isi (.var 0) .int) (.cmp .LtE (.bi .abs [(.var 0)]) (.glob "MOST_IN_TABLES")))] [], .ret (.isi (.var 0) .str)]
def d_is_storable : DefI := ⟨"is_storable", L2.defArgs (top 2), L2.defBody (top 2), L2.defScope (top 2), ["value", "word"], ["value", "word"], [], b_is_storable⟩
def b_table_named : List S := [.for_ (.nm 2) (.val (.idx (.var 0) (.cst (.int 0)))) [.ite (.val (.cmp .Eq (.idx (.var 2) (.cst (.int 0))) (.var 1))) [.ret (.var 2)] []], .ret (.cst .none)]
def d_table_named : DefI := ⟨"table_named", L2.defArgs (top 4), L2.defBody (top 4), L2.defScope (top 4), ["schema", "name", "table"], ["schema", "name"], [], b_table_named⟩
def b_can_store : List S := [.asg (.nm 3) (.idx (.call "table_named" [(.var 0), (.var 1)]) (.cst (.int 1))), .ite (.val (.cmp .NotEq (.bi .len [(.var 2)]) (.bi .len [(.var 3)]))) [.ret (.cst (.bool false))] [], .ret (.bi .all [(.lc (.call "is_storable" [(.idx (.var 2) (.var 4)), (.idx (.idx (.var 3) (.var 4)) (.cst (.int 1)))]) (.nm 4) (.rng [(.bi .len [(.var 2)])]) [] [4])])]
def d_can_store : DefI := ⟨"can_store", L2.defArgs (top 5), L2.defBody (top 5), L2.defScope (top 5), ["schema", "name", "row", "columns", "k"], ["schema", "name", "row"], [], b_can_store⟩
def b_law_tape : List S := [.asg (.nm 1) (.cst (.int 7)), .for_ (.nm 2) (.val (.var 0)) [.asg (.nm 1) (.bin .Mod (.bi .int [(.bin .Add (.bin .Mult (.var 1) (.cst (.int 31))) (.bi .abs [(.bi .int [(.var 2)])]))]) (.cst (.int 2147483647)))], .ret (.bx (.lst [(.bi .list [(.var 0)]), (.cst (.int 0)), (.cst (.int 0)), (.var 1)]))]
def d_law_tape : DefI := ⟨"_law_tape", L2.defArgs (top 7), L2.defBody (top 7), L2.defScope (top 7), ["_law_script", "_law_total", "_law_cell"], ["_law_script"], ["return"], b_law_tape⟩
def b_law_draw : List S := [.ite (.val (.cmp .Eq (.idx (.var 0) (.cst (.int 2))) (.cst (.int 0)))) [.asg (.nm 2) (.idx (.var 0) (.cst (.int 1))), .asg (.nm 3) (.cst (.int 0)), .ite (.val (.cmp .Lt (.var 2) (.bi .len [(.idx (.var 0) (.cst (.int 0)))]))) [.asg (.nm 3) (.bi .abs [(.bi .int [(.idx (.idx (.var 0) (.cst (.int 0))) (.var 2))])])] [.asg (.sub (.var 0) (.cst (.int 3))) (.bin .Mod (.bi .int [(.bin .Add (.bin .Add (.bin .Mult (.idx (.var 0) (.cst (.int 3))) (.cst (.int 48271))) (.var 2)) (.cst (.int 1)))]) (.cst (.int 2147483647))), .asg (.nm 3) (.idx (.var 0) (.cst (.int 3)))], .asg (.sub (.var 0) (.cst (.int 1))) (.bin .Add (.var 2) (.cst (.int 1))), .ite (.val (.cmp .Lt (.var 3) (.bin .Pow (.cst (.int 10)) (.cst (.int 18))))) [.asg (.nm 3) (.bin .Mod (.bi .int [(.bin .Add (.bin .Add (.bin .Mult (.var 3) (.cst (.int 48271))) (.bin .Mult (.var 2) (.cst (.int 69621)))) (.cst (.int 5)))]) (.cst (.int 2147483647))), .asg (.nm 3) (.bin .Mod (.bi .int [(.bin .Mult (.var 3) (.cst (.int 69621)))]) (.cst (.int 2147483629))), .ret (.bin .Mod (.bi .int [(.var 3)]) (.bi .max [(.var 1), (.cst (.int 1))]))] [], .asg (.sub (.var 0) (.cst (.int 2))) (.var 3)] [], .asg (.nm 3) (.idx (.var 0) (.cst (.int 2))), .asg (.sub (.var 0) (.cst (.int 2))) (.bin .FloorDiv (.var 3) (.bi .max [(.var 1), (.cst (.int 2))])), .ret (.bin .Mod (.bi .int [(.var 3)]) (.bi .max [(.var 1), (.cst (.int 1))]))]
def d_law_draw : DefI := ⟨"_law_draw", L2.defArgs (top 8), L2.defBody (top 8), L2.defScope (top 8), ["_law_tape_here", "_law_many", "_law_place", "_law_number"], ["_law_tape_here", "_law_many"], ["_law_tape_here"], b_law_draw⟩
def b_law_name : List S := [.asg (.nm 1) (.cst (.str "abcdefghijklmnopqrstuvwxyz0123456789_")), .asg (.nm 2) (.call "_law_draw" [(.var 0), (.cst (.int 569504))]), .asg (.nm 3) (.bin .Add (.idx (.lst [(.cst (.str "")), (.cst (.str "")), (.cst (.str "")), (.cst (.str "reservation_x"))]) (.bin .Mod (.bi .int [(.var 2)]) (.cst (.int 4)))) (.idx (.var 1) (.bin .Mod (.bi .int [(.bin .FloorDiv (.var 2) (.cst (.int 16)))]) (.cst (.int 26))))), .for_ (.nm 4) (.rng [(.idx (.lst [(.cst (.int 0)), (.cst (.int 0)), (.cst (.int 1)), (.cst (.int 2))]) (.bin .Mod (.bi .int [(.bin .FloorDiv (.var 2) (.cst (.int 4)))]) (.cst (.int 4))))]) [.asg (.nm 3) (.bin .Add (.var 3) (.idx (.var 1) (.bin .Mod (.bi .int [(.bin .FloorDiv (.var 2) (.idx (.lst [(.cst (.int 416)), (.cst (.int 15392))]) (.var 4)))]) (.cst (.int 37)))))], .ite (.val (.cmp .In (.var 3) (.lst [(.cst (.str "key")), (.cst (.str "to")), (.cst (.str "by")), (.cst (.str "sum")), (.cst (.str "set")), (.cst (.str "and")), (.cst (.str "or")), (.cst (.str "not")), (.cst (.str "one")), (.cst (.str "of"))]))) [.ret (.bin .Add (.var 3) (.cst (.str "_")))] [], .ret (.var 3)]
def d_law_name : DefI := ⟨"_law_name", L2.defArgs (top 9), L2.defBody (top 9), L2.defScope (top 9), ["_law_tape_here", "_law_signs_here", "_law_number", "_law_name_here", "_law_k"], ["_law_tape_here"], ["_law_tape_here"], b_law_name⟩
def b_law_names : List S := [.asg (.nm 2) (.bx (.lst [])), .for_ (.nm 3) (.rng [(.var 1)]) [.asg (.nm 4) (.call "_law_name" [(.var 0)]), .ite (.val (.cmp .NotIn (.var 4) (.var 2))) [.expr (.meth .append (.var 2) [(.var 4)])] []], .ret (.var 2)]
def d_law_names : DefI := ⟨"_law_names", L2.defArgs (top 10), L2.defBody (top 10), L2.defScope (top 10), ["_law_tape_here", "_law_many", "_law_names_here", "_law_k", "_law_name_here"], ["_law_tape_here", "_law_many"], ["_law_names_here", "_law_tape_here"], b_law_names⟩
def b_law_signs : List S := [.asg (.nm 0) (.cst (.str " !\"#$&'()*+,-./0123456789:;<=>?@ABCDEFGHIJKLMNOPQRSTUVWXYZ[\\]^_`")), .ret (.bin .Add (.var 0) (.cst (.str "abcdefghijklmnopqrstuvwxyz{|}~")))]
def d_law_signs : DefI := ⟨"_law_signs", L2.defArgs (top 11), L2.defBody (top 11), L2.defScope (top 11), ["_law_signs_here"], [], [], b_law_signs⟩
def b_law_text : List S := [.asg (.nm 1) (.call "_law_draw" [(.var 0), (.cst (.int 21000))]), .asg (.nm 2) (.bin .Mod (.bi .int [(.var 1)]) (.cst (.int 8))), .asg (.nm 3) (.cst (.str "")), .ite (.val (.cmp .Lt (.var 2) (.cst (.int 6)))) [.for_ (.nm 4) (.rng [(.idx (.lst [(.cst (.int 0)), (.cst (.int 1)), (.cst (.int 1)), (.cst (.int 1)), (.cst (.int 2)), (.cst (.int 3))]) (.var 2))]) [.asg (.nm 3) (.bin .Add (.var 3) (.idx (.cst (.str "abB' ")) (.bin .Mod (.bi .int [(.bin .FloorDiv (.var 1) (.idx (.lst [(.cst (.int 8)), (.cst (.int 40)), (.cst (.int 200))]) (.var 4)))]) (.cst (.int 5)))))], .ret (.var 3)] [], .for_ (.nm 4) (.rng [(.idx (.lst [(.cst (.int 20)), (.bin .FloorDiv (.var 1) (.cst (.int 1000)))]) (.bin .Sub (.var 2) (.cst (.int 6))))]) [.asg (.nm 3) (.bin .Add (.var 3) (.idx (.call "_law_signs" []) (.call "_law_draw" [(.var 0), (.cst (.int 94))])))], .ret (.var 3)]
def d_law_text : DefI := ⟨"_law_text", L2.defArgs (top 12), L2.defBody (top 12), L2.defScope (top 12), ["_law_tape_here", "_law_number", "_law_share", "_law_text_here", "_law_k"], ["_law_tape_here"], ["_law_tape_here"], b_law_text⟩
def b_law_value : List S := [.ite (.val (.cmp .Eq (.idx (.var 1) (.cst (.int 0))) (.cst (.str "string")))) [.ret (.call "_law_text" [(.var 0)])] [], .asg (.nm 2) (.idx (.var 1) (.cst (.int 1))), .asg (.nm 3) (.call "_law_draw" [(.var 0), (.bin .Mult (.cst (.int 16)) (.bin .Add (.var 2) (.cst (.int 1))))]), .asg (.nm 4) (.bin .Mod (.bi .int [(.var 3)]) (.cst (.int 8))), .ite (.val (.cmp .Lt (.var 4) (.cst (.int 5)))) [.ret (.bi .min [(.var 2), (.bin .Mod (.bi .int [(.bin .FloorDiv (.var 3) (.cst (.int 8)))]) (.cst (.int 3)))])] [], .ite (.val (.cmp .Eq (.var 4) (.cst (.int 5)))) [.ret (.bi .max [(.neg (.var 2)), (.bi .min [(.var 2), (.bin .Sub (.bin .Mod (.bi .int [(.bin .FloorDiv (.var 3) (.cst (.int 8)))]) (.cst (.int 7))) (.cst (.int 3)))])])] [], .ite (.val (.cmp .Eq (.var 4) (.cst (.int 6)))) [.ret (.idx (.lst [(.var 2), (.neg (.var 2))]) (.bin .Mod (.bi .int [(.bin .FloorDiv (.var 3) (.cst (.int 8)))]) (.cst (.int 2))))] [], .ret (.bin .Sub (.bin .Mod (.bi .int [(.bin .Mult (.bin .FloorDiv (.var 3) (.cst (.int 8))) (.cst (.int 1000003)))]) (.bin .Add (.bin .Mult (.cst (.int 2)) (.var 2)) (.cst (.int 1)))) (.var 2))]
def d_law_value : DefI := ⟨"_law_value", L2.defArgs (top 13), L2.defBody (top 13), L2.defScope (top 13), ["_law_tape_here", "_law_kind", "_law_most", "_law_number", "_law_share"], ["_law_tape_here", "_law_kind"], ["_law_tape_here"], b_law_value⟩
def b_law_some : List S := [.asg (.nm 2) (.bx (.bi .list [(.var 1)])), .asg (.nm 3) (.bx (.lst [])), .for_ (.nm 4) (.rng [(.bin .Add (.cst (.int 1)) (.call "_law_draw" [(.var 0), (.bi .len [(.var 2)])]))]) [.expr (.meth .append (.var 3) [(.meth .popAt (.var 2) [(.call "_law_draw" [(.var 0), (.bi .len [(.var 2)])])])])], .ret (.bi .tuple [(.var 3)])]
def d_law_some : DefI := ⟨"_law_some", L2.defArgs (top 14), L2.defBody (top 14), L2.defScope (top 14), ["_law_tape_here", "_law_names_here", "_law_left", "_law_found", "_law_k"], ["_law_tape_here", "_law_names_here"], ["_law_found", "_law_left", "_law_tape_here"], b_law_some⟩
def b_law_row : List S := [.ret (.bi .tuple [(.lc (.call "_law_value" [(.var 0), (.idx (.var 2) (.cst (.int 1)))]) (.nm 2) (.val (.var 1)) [] [2])])]
def d_law_row : DefI := ⟨"_law_row", L2.defArgs (top 15), L2.defBody (top 15), L2.defScope (top 15), ["_law_tape_here", "_law_columns", "_law_column"], ["_law_tape_here", "_law_columns"], ["_law_tape_here"], b_law_row⟩
def b_law_kinds : List S := [.asg (.nm 1) (.bx (.lst [])), .for_ (.nm 2) (.val (.var 0)) [.ite (.val (.cmp .Eq (.idx (.var 2) (.cst (.int 1))) (.cst (.str "integer")))) [.expr (.meth .append (.var 1) [(.tup [(.idx (.var 2) (.cst (.int 0))), (.tup [(.cst (.str "integer")), (.cst (.int 1000000))])])])] [.expr (.meth .append (.var 1) [(.tup [(.idx (.var 2) (.cst (.int 0))), (.tup [(.cst (.str "string"))])])])]], .ret (.bi .tuple [(.var 1)])]
def d_law_kinds : DefI := ⟨"_law_kinds", L2.defArgs (top 16), L2.defBody (top 16), L2.defScope (top 16), ["_law_columns", "_law_found", "_law_column"], ["_law_columns"], ["_law_found"], b_law_kinds⟩
def b_law_plain_tables : List S := [.asg (.nm 2) (.idx (.lst [(.cst (.int 5)), (.cst (.int 5)), (.cst (.int 8))]) (.call "_law_draw" [(.var 0), (.cst (.int 3))])), .asg (.nm 3) (.lc (.tup [(.var 4), (.idx (.lst [(.cst (.str "integer")), (.cst (.str "integer")), (.cst (.str "string"))]) (.call "_law_draw" [(.var 0), (.cst (.int 3))]))]) (.nm 4) (.val (.call "_law_names" [(.var 0), (.var 2)])) [] [4]), .asg (.nm 5) (.bx (.lst [])), .for_ (.nm 4) (.val (.var 1)) [.asg (.nm 6) (.slc (.call "_law_some" [(.var 0), (.var 3)]) none (some (.bin .Sub (.var 2) (.cst (.int 1))))), .asg (.nm 7) (.idx (.lst [(.cst (.int 2)), (.cst (.int 3)), (.cst (.int 5)), (.cst (.int 8)), (.cst (.int 60))]) (.call "_law_draw" [(.var 0), (.cst (.int 5))])), .expr (.meth .append (.var 5) [(.tup [(.var 4), (.var 6), (.bi .tuple [(.lc (.idx (.var 8) (.cst (.int 0))) (.nm 8) (.val (.var 6)) [] [8])]), (.var 7), (.tup []), (.tup [])])])], .ret (.bi .tuple [(.var 5)])]
def d_law_plain_tables : DefI := ⟨"_law_plain_tables", L2.defArgs (top 17), L2.defBody (top 17), L2.defScope (top 17), ["_law_tape_here", "_law_names_here", "_law_wide", "_law_pool", "_law_name_here", "_law_tables", "_law_columns", "_law_limit", "_law_column"], ["_law_tape_here", "_law_names_here"], ["_law_tables", "_law_tape_here"], b_law_plain_tables⟩
def b_law_fits : List S := [.ite (.val (.cmp .Eq (.var 1) (.cst (.str "string")))) [.ret (.isi (.var 0) .str)] [], .ret (.and (.isi (.var 0) .int) (.and (.cmp .LtE (.neg (.cst (.int 1000000))) (.var 0)) (.cmp .LtE (.var 0) (.cst (.int 1000000)))))]
def d_law_fits : DefI := ⟨"_law_fits", L2.defArgs (top 18), L2.defBody (top 18), L2.defScope (top 18), ["_law_value_here", "_law_word"], ["_law_value_here", "_law_word"], [], b_law_fits⟩
def b_law_odd : List S := [.asg (.nm 1) (.call "_law_draw" [(.var 0), (.cst (.int 4000000))]), .ite (.val (.cmp .Eq (.bin .Mod (.bi .int [(.var 1)]) (.cst (.int 4))) (.cst (.int 0)))) [.ret (.idx (.lst [(.call "_law_text" [(.var 0)]), (.bi .str [(.var 1)])]) (.bin .Mod (.bi .int [(.bin .FloorDiv (.var 1) (.cst (.int 4)))]) (.cst (.int 2))))] [], .asg (.nm 2) (.bin .Add (.cst (.int 999998)) (.bin .Mod (.bi .int [(.bin .FloorDiv (.var 1) (.cst (.int 4)))]) (.cst (.int 5)))), .ret (.idx (.lst [(.var 2), (.neg (.var 2)), (.bin .Sub (.bin .Pow (.cst (.int 10)) (.cst (.int 30))) (.var 1))]) (.bin .Sub (.bin .Mod (.bi .int [(.var 1)]) (.cst (.int 4))) (.cst (.int 1))))]
def d_law_odd : DefI := ⟨"_law_odd", L2.defArgs (top 19), L2.defBody (top 19), L2.defScope (top 19), ["_law_tape_here", "_law_number", "_law_near"], ["_law_tape_here"], ["_law_tape_here"], b_law_odd⟩
def b_law : List S := [.asg (.nm 1) (.bx (.call "_law_tape" [(.var 0)])), .asg (.nm 2) (.tup [(.call "_law_plain_tables" [(.var 1), (.call "_law_names" [(.var 1), (.idx (.lst [(.cst (.int 3)), (.cst (.int 3)), (.cst (.int 8))]) (.call "_law_draw" [(.var 1), (.cst (.int 3))]))])]), (.tup []), (.tup [])]), .for_ (.nm 3) (.val (.idx (.var 2) (.cst (.int 0)))) [.asg (.nm 4) (.call "_law_row" [(.var 1), (.call "_law_kinds" [(.idx (.var 3) (.cst (.int 1)))])]), .asg (.nm 5) (.call "_law_draw" [(.var 1), (.bi .len [(.var 4)])]), .asg (.nm 6) (.call "_law_odd" [(.var 1)]), .for_ (.nm 7) (.val (.lst [(.cst (.str "integer")), (.cst (.str "string"))])) [.ite (.val (.cmp .NotEq (.bi .repr [(.call "is_storable" [(.var 6), (.var 7)])]) (.bi .repr [(.call "_law_fits" [(.var 6), (.var 7)])]))) [.ret (.cst (.bool false))] []], .asg (.nm 8) (.lst [(.var 4), (.bin .Add (.bin .Add (.slc (.var 4) none (some (.var 5))) (.tup [(.var 6)])) (.slc (.var 4) (some (.bin .Add (.var 5) (.cst (.int 1)))) none)), (.bin .Add (.slc (.var 4) none (some (.var 5))) (.slc (.var 4) (some (.bin .Add (.var 5) (.cst (.int 1)))) none)), (.bin .Add (.bin .Add (.slc (.var 4) none (some (.var 5))) (.tup [(.var 6)])) (.slc (.var 4) (some (.var 5)) none))]), .for_ (.nm 9) (.val (.bin .Add (.var 8) (.lst [(.lrev true (.bi .list [(.var 4)])), (.tup [])]))) [.asg (.nm 10) (.cmp .Eq (.bi .len [(.var 9)]) (.bi .len [(.idx (.var 3) (.cst (.int 1)))])), .for_ (.nm 11) (.rng [(.bi .min [(.bi .len [(.var 9)]), (.bi .len [(.idx (.var 3) (.cst (.int 1)))])])]) [.asg (.nm 10) (.and (.var 10) (.call "_law_fits" [(.idx (.var 9) (.var 11)), (.idx (.idx (.idx (.var 3) (.cst (.int 1))) (.var 11)) (.cst (.int 1)))]))], .ite (.val (.cmp .NotEq (.bi .repr [(.call "can_store" [(.var 2), (.idx (.var 3) (.cst (.int 0))), (.var 9)])]) (.bi .repr [(.var 10)]))) [.ret (.cst (.bool false))] []]], .ret (.cst (.bool true))]
def d_law : DefI := ⟨"law", L2.defArgs (top 20), L2.defBody (top 20), L2.defScope (top 20), ["_law_script", "_law_tape_here", "_law_schema", "_law_table", "_law_row_here", "_law_at", "_law_odd_here", "_law_word", "_law_rows", "_law_one", "_law_due", "_law_k"], ["_law_script"], ["_law_tape_here"], b_law⟩
def tab : Tab := ⟨[d_is_storable, d_table_named, d_can_store, d_law_tape, d_law_draw, d_law_name, d_law_names, d_law_signs, d_law_text, d_law_value, d_law_some, d_law_row, d_law_kinds, d_law_plain_tables, d_law_fits, d_law_odd, d_law], [("MOST_IN_TABLES", (.int 1000000))], ["abs", "all", "int", "isinstance", "len", "list", "max", "min", "range", "repr", "reversed", "str", "tuple"], 1000⟩
theorem c_is_storable : DefC tab d_is_storable := ⟨by kernel_rfl, by kernel_rfl, fun _ _ _ _ _ _ us hl => match us, hl with | [_, _], _ => rfl⟩
theorem c_table_named : DefC tab d_table_named := ⟨by kernel_rfl, by kernel_rfl, fun _ _ _ _ _ _ us hl => match us, hl with | [_, _], _ => rfl⟩
theorem c_can_store : DefC tab d_can_store := ⟨by kernel_rfl, by kernel_rfl, fun _ _ _ _ _ _ us hl => match us, hl with | [_, _, _], _ => rfl⟩
theorem c_law_tape : DefC tab d_law_tape := ⟨by kernel_rfl, by kernel_rfl, fun _ _ _ _ _ _ us hl => match us, hl with | [_], _ => rfl⟩
theorem c_law_draw : DefC tab d_law_draw := ⟨by kernel_rfl, by kernel_rfl, fun _ _ _ _ _ _ us hl => match us, hl with | [_, _], _ => rfl⟩
theorem c_law_name : DefC tab d_law_name := ⟨by kernel_rfl, by kernel_rfl, fun _ _ _ _ _ _ us hl => match us, hl with | [_], _ => rfl⟩
theorem c_law_names : DefC tab d_law_names := ⟨by kernel_rfl, by kernel_rfl, fun _ _ _ _ _ _ us hl => match us, hl with | [_, _], _ => rfl⟩
theorem c_law_signs : DefC tab d_law_signs := ⟨by kernel_rfl, by kernel_rfl, fun _ _ _ _ _ _ us hl => match us, hl with | [], _ => rfl⟩
theorem c_law_text : DefC tab d_law_text := ⟨by kernel_rfl, by kernel_rfl, fun _ _ _ _ _ _ us hl => match us, hl with | [_], _ => rfl⟩
theorem c_law_value : DefC tab d_law_value := ⟨by kernel_rfl, by kernel_rfl, fun _ _ _ _ _ _ us hl => match us, hl with | [_, _], _ => rfl⟩
theorem c_law_some : DefC tab d_law_some := ⟨by kernel_rfl, by kernel_rfl, fun _ _ _ _ _ _ us hl => match us, hl with | [_, _], _ => rfl⟩
theorem c_law_row : DefC tab d_law_row := ⟨by kernel_rfl, by kernel_rfl, fun _ _ _ _ _ _ us hl => match us, hl with | [_, _], _ => rfl⟩
theorem c_law_kinds : DefC tab d_law_kinds := ⟨by kernel_rfl, by kernel_rfl, fun _ _ _ _ _ _ us hl => match us, hl with | [_], _ => rfl⟩
theorem c_law_plain_tables : DefC tab d_law_plain_tables := ⟨by kernel_rfl, by kernel_rfl, fun _ _ _ _ _ _ us hl => match us, hl with | [_, _], _ => rfl⟩
theorem c_law_fits : DefC tab d_law_fits := ⟨by kernel_rfl, by kernel_rfl, fun _ _ _ _ _ _ us hl => match us, hl with | [_, _], _ => rfl⟩
theorem c_law_odd : DefC tab d_law_odd := ⟨by kernel_rfl, by kernel_rfl, fun _ _ _ _ _ _ us hl => match us, hl with | [_], _ => rfl⟩
theorem c_law : DefC tab d_law := ⟨by kernel_rfl, by kernel_rfl, fun _ _ _ _ _ _ us hl => match us, hl with | [_], _ => rfl⟩
theorem r_is_storable (n : Nat) : (tab.mdl.tt (n + 1)).raw "is_storable" = rawDef (tab.mdl.tt n) ⟨2, 2, b_is_storable⟩ := by kernel_rfl
theorem r_table_named (n : Nat) : (tab.mdl.tt (n + 1)).raw "table_named" = rawDef (tab.mdl.tt n) ⟨2, 3, b_table_named⟩ := by kernel_rfl
theorem r_can_store (n : Nat) : (tab.mdl.tt (n + 1)).raw "can_store" = rawDef (tab.mdl.tt n) ⟨3, 5, b_can_store⟩ := by kernel_rfl
theorem r_law_tape (n : Nat) : (tab.mdl.tt (n + 1)).raw "_law_tape" = rawDef (tab.mdl.tt n) ⟨1, 3, b_law_tape⟩ := by kernel_rfl
theorem r_law_draw (n : Nat) : (tab.mdl.tt (n + 1)).raw "_law_draw" = rawDef (tab.mdl.tt n) ⟨2, 4, b_law_draw⟩ := by kernel_rfl
theorem r_law_name (n : Nat) : (tab.mdl.tt (n + 1)).raw "_law_name" = rawDef (tab.mdl.tt n) ⟨1, 5, b_law_name⟩ := by kernel_rfl
theorem r_law_names (n : Nat) : (tab.mdl.tt (n + 1)).raw "_law_names" = rawDef (tab.mdl.tt n) ⟨2, 5, b_law_names⟩ := by kernel_rfl
theorem r_law_signs (n : Nat) : (tab.mdl.tt (n + 1)).raw "_law_signs" = rawDef (tab.mdl.tt n) ⟨0, 1, b_law_signs⟩ := by kernel_rfl
theorem r_law_text (n : Nat) : (tab.mdl.tt (n + 1)).raw "_law_text" = rawDef (tab.mdl.tt n) ⟨1, 5, b_law_text⟩ := by kernel_rfl
theorem r_law_value (n : Nat) : (tab.mdl.tt (n + 1)).raw "_law_value" = rawDef (tab.mdl.tt n) ⟨2, 5, b_law_value⟩ := by kernel_rfl
theorem r_law_some (n : Nat) : (tab.mdl.tt (n + 1)).raw "_law_some" = rawDef (tab.mdl.tt n) ⟨2, 5, b_law_some⟩ := by kernel_rfl
theorem r_law_row (n : Nat) : (tab.mdl.tt (n + 1)).raw "_law_row" = rawDef (tab.mdl.tt n) ⟨2, 3, b_law_row⟩ := by kernel_rfl
theorem r_law_kinds (n : Nat) : (tab.mdl.tt (n + 1)).raw "_law_kinds" = rawDef (tab.mdl.tt n) ⟨1, 3, b_law_kinds⟩ := by kernel_rfl
theorem r_law_plain_tables (n : Nat) : (tab.mdl.tt (n + 1)).raw "_law_plain_tables" = rawDef (tab.mdl.tt n) ⟨2, 9, b_law_plain_tables⟩ := by kernel_rfl
theorem r_law_fits (n : Nat) : (tab.mdl.tt (n + 1)).raw "_law_fits" = rawDef (tab.mdl.tt n) ⟨2, 2, b_law_fits⟩ := by kernel_rfl
theorem r_law_odd (n : Nat) : (tab.mdl.tt (n + 1)).raw "_law_odd" = rawDef (tab.mdl.tt n) ⟨1, 3, b_law_odd⟩ := by kernel_rfl
theorem r_law (n : Nat) : (tab.mdl.tt (n + 1)).raw "law" = rawDef (tab.mdl.tt n) ⟨1, 12, b_law⟩ := by kernel_rfl
theorem allC : AllC tab tab.dfs := .cons c_is_storable (.cons c_table_named (.cons c_can_store (.cons c_law_tape (.cons c_law_draw (.cons c_law_name (.cons c_law_names (.cons c_law_signs (.cons c_law_text (.cons c_law_value (.cons c_law_some (.cons c_law_row (.cons c_law_kinds (.cons c_law_plain_tables (.cons c_law_fits (.cons c_law_odd (.cons c_law .nil))))))))))))))))
end K17

set_option Elab.async false
set_option linter.all false
set_option maxRecDepth 100000
set_option maxHeartbeats 4000000
/-! K17: rows that can be stored -/
namespace K17
open PySem AI L2
abbrev TM : Nat → AI.TT := tab.mdl.tt
theorem most (n : Nat) : (TM n).cst "MOST_IN_TABLES" = some (.int 1000000) := by cases n <;> rfl
def Val (d : D) : Prop := (∃ i : Int, d = .int i) ∨ ∃ s, d = .str s
def fitsB (d : D) (w : Bool) : Bool := match d with
  | .int i => w && (decide (-1000000 ≤ i) && decide (i ≤ 1000000))
  | .str _ => !w
  | _ => false
theorem fitsI {i : Int} {w : Bool} : fitsB (.int i) w = (w && (decide (-1000000 ≤ i) && decide (i ≤ 1000000))) := rfl
theorem fitsS {s : Str} {w : Bool} : fitsB (.str s) w = !w := rfl
section
variable {bx : Bool} {h : Boxes} {Q : RV → Boxes → Prop} {k : Nat} {d : D} {w : Bool}
theorem stor (v : Val d) (q : Q (.pd (.bool (fitsB d w))) h) : wp ((TM (k + 1)).call bx "is_storable" [.pd d, .pd (wordD w)]) Q h := by
  refine wp_call (r_is_storable k) (wp_def rfl ?_)
  have ret : back h.length bx Q (.pd (.bool (fitsB d w))) h := by rw [back_pd, List.take_length]; exact q
  generalize back h.length bx Q = Q' at *
  clear q
  rcases v with ⟨i, rfl⟩ | ⟨s, rfl⟩
  · rw [fitsI] at ret
    have e : decide ((if i < 0 then -i else i) ≤ 1000000) = (decide (-1000000 ≤ i) && decide (i ≤ 1000000)) := by
      rw [Bool.eq_iff_iff]
      simp
      split <;> omega
    cases w
    · simp only [wp_ret, wp_bnd, wp_some, wp_grd, wp_no, wp_dat_pd, wp_dat_fz,  ev, evs, evO, evI, evC, evTs, AI.ex, asgG, asgGs, getV, wp_exs, wp_exs_nil, goS_nx, goS_rt, goS_bk, goS_ct, turnE_nx, turnE_ct, turnE_bk, turnE_rt, endD_rt, endD_nx, back_pd, binS, isFz, cmpS, biS, dats, truth, isiS, allPd, isiD, rkOf, join_some, Option.map, List.map, List.length_cons, List.length_nil, List.getElem?_cons_zero, List.getElem?_cons_succ, List.set_cons_zero, List.set_cons_succ, startS, atI_pos, atI_cast, Int.toNat_natCast, wp_newL1, wp_newL2, wp_newT1, List.length_set, List.set_set, decide_eq_true_eq, decide_eq_false_iff_not, Bool.not_eq_true', true_and, and_true,  ixN_pos, Int.reduceLE, Int.reduceLT, Int.reduceToNat, Int.reduceAdd, Int.reduceSub, Int.reduceMul, Int.reduceMod, Int.reduceNeg, Int.reducePow, Nat.reduceAdd, Nat.reduceLT, Nat.reduceLeDiff, Nat.reduceSub, reduceIte, Int.reduceEq, List.isEmpty_nil, Bool.false_eq_true, Bool.true_eq_false, decide_true, decide_false, ge_iff_le, gt_iff_lt,  wp_eq_int, wp_eq_str, wp_eq_bool, List.length_map, List.replicate, List.cons_append, List.nil_append, Bool.not_false, Bool.not_true, Bool.and_true, Bool.true_and, Bool.and_self, Bool.and_false, Bool.false_and, Option.bind, bn_add, bn_sub, bn_mul, bn_div, bn_mod, bn_pow, bn_addS, bn_addT, bn_addL, cp_eq, cp_ne, cp_ltI, cp_leI, cp_gtI, cp_geI, cp_ltS, cp_leS, cp_gtS, cp_geS, cp_ltT, cp_gtT, cp_in, cp_nin, cp_is, cp_isn, ix_l, ix_t, ix_s, ixs_tp, ixs_pd, ixs_rf, ixs_fz, cel_d, cel_r, mkLst, clsOf, clOf_d, clOf_r, wp_reprB, revS, isi2S, Bool.or_false, Bool.or_true, Bool.false_or, Bool.true_or, bi_lenL, bi_lenT, bi_lenS, bi_listL, bi_listT, bi_tupL, bi_tupT, bi_intI, bi_intB, bi_strI, bi_strS, bi_abs, bi_max, bi_min, bi_all, bi_any, bi_sum, in_l, in_t, in_s, tr_b, tr_i, tr_n, tr_l, tr_t, so_l, so_t, so_s, so_f, io_t, ng_i, pt_i, ag_a, ag_s, rv_l, rv_t, ap_d, rk_l, rk_t, rk_s, rg_1, rg_2, sl_l, sl_t, sl_s, mt_ixS, wp_mkT0, wp_mkT1, wp_mkT2, wp_mkT3, wp_mkT4, wp_mkT5, wp_mkT6, wp_mkT7, wp_mkT8, wp_datR, wp_idxR, wp_setR, wp_appR, set_last, get_last, le_line, lt_line, wp_newM, lg9, meth_words, wp_mkTR, not_true_eq_false, not_false_eq_true, eq_self, ofString_inj, String.reduceEq, wipeS, wp_inS, false_and, and_false, b_is_storable, wordD] at ret ⊢
      exact ret
    · rw [← e] at ret
      simp only [wp_ret, wp_bnd, wp_some, wp_grd, wp_no, wp_dat_pd, wp_dat_fz,  ev, evs, evO, evI, evC, evTs, AI.ex, asgG, asgGs, getV, wp_exs, wp_exs_nil, goS_nx, goS_rt, goS_bk, goS_ct, turnE_nx, turnE_ct, turnE_bk, turnE_rt, endD_rt, endD_nx, back_pd, binS, isFz, cmpS, biS, dats, truth, isiS, allPd, isiD, rkOf, join_some, Option.map, List.map, List.length_cons, List.length_nil, List.getElem?_cons_zero, List.getElem?_cons_succ, List.set_cons_zero, List.set_cons_succ, startS, atI_pos, atI_cast, Int.toNat_natCast, wp_newL1, wp_newL2, wp_newT1, List.length_set, List.set_set, decide_eq_true_eq, decide_eq_false_iff_not, Bool.not_eq_true', true_and, and_true,  ixN_pos, Int.reduceLE, Int.reduceLT, Int.reduceToNat, Int.reduceAdd, Int.reduceSub, Int.reduceMul, Int.reduceMod, Int.reduceNeg, Int.reducePow, Nat.reduceAdd, Nat.reduceLT, Nat.reduceLeDiff, Nat.reduceSub, reduceIte, Int.reduceEq, List.isEmpty_nil, Bool.false_eq_true, Bool.true_eq_false, decide_true, decide_false, ge_iff_le, gt_iff_lt,  wp_eq_int, wp_eq_str, wp_eq_bool, List.length_map, List.replicate, List.cons_append, List.nil_append, Bool.not_false, Bool.not_true, Bool.and_true, Bool.true_and, Bool.and_self, Bool.and_false, Bool.false_and, Option.bind, bn_add, bn_sub, bn_mul, bn_div, bn_mod, bn_pow, bn_addS, bn_addT, bn_addL, cp_eq, cp_ne, cp_ltI, cp_leI, cp_gtI, cp_geI, cp_ltS, cp_leS, cp_gtS, cp_geS, cp_ltT, cp_gtT, cp_in, cp_nin, cp_is, cp_isn, ix_l, ix_t, ix_s, ixs_tp, ixs_pd, ixs_rf, ixs_fz, cel_d, cel_r, mkLst, clsOf, clOf_d, clOf_r, wp_reprB, revS, isi2S, Bool.or_false, Bool.or_true, Bool.false_or, Bool.true_or, bi_lenL, bi_lenT, bi_lenS, bi_listL, bi_listT, bi_tupL, bi_tupT, bi_intI, bi_intB, bi_strI, bi_strS, bi_abs, bi_max, bi_min, bi_all, bi_any, bi_sum, in_l, in_t, in_s, tr_b, tr_i, tr_n, tr_l, tr_t, so_l, so_t, so_s, so_f, io_t, ng_i, pt_i, ag_a, ag_s, rv_l, rv_t, ap_d, rk_l, rk_t, rk_s, rg_1, rg_2, sl_l, sl_t, sl_s, mt_ixS, wp_mkT0, wp_mkT1, wp_mkT2, wp_mkT3, wp_mkT4, wp_mkT5, wp_mkT6, wp_mkT7, wp_mkT8, wp_datR, wp_idxR, wp_setR, wp_appR, set_last, get_last, le_line, lt_line, wp_newM, lg9, meth_words, wp_mkTR, not_true_eq_false, not_false_eq_true, eq_self, ofString_inj, String.reduceEq, wipeS, wp_inS, false_and, and_false, b_is_storable, wordD, most] at ret ⊢
      exact ret
  · rw [fitsS] at ret
    cases w <;> (simp only [wp_ret, wp_bnd, wp_some, wp_grd, wp_no, wp_dat_pd, wp_dat_fz,  ev, evs, evO, evI, evC, evTs, AI.ex, asgG, asgGs, getV, wp_exs, wp_exs_nil, goS_nx, goS_rt, goS_bk, goS_ct, turnE_nx, turnE_ct, turnE_bk, turnE_rt, endD_rt, endD_nx, back_pd, binS, isFz, cmpS, biS, dats, truth, isiS, allPd, isiD, rkOf, join_some, Option.map, List.map, List.length_cons, List.length_nil, List.getElem?_cons_zero, List.getElem?_cons_succ, List.set_cons_zero, List.set_cons_succ, startS, atI_pos, atI_cast, Int.toNat_natCast, wp_newL1, wp_newL2, wp_newT1, List.length_set, List.set_set, decide_eq_true_eq, decide_eq_false_iff_not, Bool.not_eq_true', true_and, and_true,  ixN_pos, Int.reduceLE, Int.reduceLT, Int.reduceToNat, Int.reduceAdd, Int.reduceSub, Int.reduceMul, Int.reduceMod, Int.reduceNeg, Int.reducePow, Nat.reduceAdd, Nat.reduceLT, Nat.reduceLeDiff, Nat.reduceSub, reduceIte, Int.reduceEq, List.isEmpty_nil, Bool.false_eq_true, Bool.true_eq_false, decide_true, decide_false, ge_iff_le, gt_iff_lt,  wp_eq_int, wp_eq_str, wp_eq_bool, List.length_map, List.replicate, List.cons_append, List.nil_append, Bool.not_false, Bool.not_true, Bool.and_true, Bool.true_and, Bool.and_self, Bool.and_false, Bool.false_and, Option.bind, bn_add, bn_sub, bn_mul, bn_div, bn_mod, bn_pow, bn_addS, bn_addT, bn_addL, cp_eq, cp_ne, cp_ltI, cp_leI, cp_gtI, cp_geI, cp_ltS, cp_leS, cp_gtS, cp_geS, cp_ltT, cp_gtT, cp_in, cp_nin, cp_is, cp_isn, ix_l, ix_t, ix_s, ixs_tp, ixs_pd, ixs_rf, ixs_fz, cel_d, cel_r, mkLst, clsOf, clOf_d, clOf_r, wp_reprB, revS, isi2S, Bool.or_false, Bool.or_true, Bool.false_or, Bool.true_or, bi_lenL, bi_lenT, bi_lenS, bi_listL, bi_listT, bi_tupL, bi_tupT, bi_intI, bi_intB, bi_strI, bi_strS, bi_abs, bi_max, bi_min, bi_all, bi_any, bi_sum, in_l, in_t, in_s, tr_b, tr_i, tr_n, tr_l, tr_t, so_l, so_t, so_s, so_f, io_t, ng_i, pt_i, ag_a, ag_s, rv_l, rv_t, ap_d, rk_l, rk_t, rk_s, rg_1, rg_2, sl_l, sl_t, sl_s, mt_ixS, wp_mkT0, wp_mkT1, wp_mkT2, wp_mkT3, wp_mkT4, wp_mkT5, wp_mkT6, wp_mkT7, wp_mkT8, wp_datR, wp_idxR, wp_setR, wp_appR, set_last, get_last, le_line, lt_line, wp_newM, lg9, meth_words, wp_mkTR, not_true_eq_false, not_false_eq_true, eq_self, ofString_inj, String.reduceEq, wipeS, wp_inS, false_and, and_false, b_is_storable, wordD, most] at ret ⊢; exact ret)
theorem fits1 (v : Val d) (q : Q (.pd (.bool (fitsB d w))) h) : wp ((TM (k + 1)).call bx "_law_fits" [.pd d, .pd (wordD w)]) Q h := by
  refine wp_call (r_law_fits k) (wp_def rfl ?_)
  have ret : back h.length bx Q (.pd (.bool (fitsB d w))) h := by rw [back_pd, List.take_length]; exact q
  generalize back h.length bx Q = Q' at *
  clear q
  rcases v with ⟨i, rfl⟩ | ⟨s, rfl⟩
  · rw [fitsI] at ret
    cases w
    · simp only [wp_ret, wp_bnd, wp_some, wp_grd, wp_no, wp_dat_pd, wp_dat_fz,  ev, evs, evO, evI, evC, evTs, AI.ex, asgG, asgGs, getV, wp_exs, wp_exs_nil, goS_nx, goS_rt, goS_bk, goS_ct, turnE_nx, turnE_ct, turnE_bk, turnE_rt, endD_rt, endD_nx, back_pd, binS, isFz, cmpS, biS, dats, truth, isiS, allPd, isiD, rkOf, join_some, Option.map, List.map, List.length_cons, List.length_nil, List.getElem?_cons_zero, List.getElem?_cons_succ, List.set_cons_zero, List.set_cons_succ, startS, atI_pos, atI_cast, Int.toNat_natCast, wp_newL1, wp_newL2, wp_newT1, List.length_set, List.set_set, decide_eq_true_eq, decide_eq_false_iff_not, Bool.not_eq_true', true_and, and_true,  ixN_pos, Int.reduceLE, Int.reduceLT, Int.reduceToNat, Int.reduceAdd, Int.reduceSub, Int.reduceMul, Int.reduceMod, Int.reduceNeg, Int.reducePow, Nat.reduceAdd, Nat.reduceLT, Nat.reduceLeDiff, Nat.reduceSub, reduceIte, Int.reduceEq, List.isEmpty_nil, Bool.false_eq_true, Bool.true_eq_false, decide_true, decide_false, ge_iff_le, gt_iff_lt,  wp_eq_int, wp_eq_str, wp_eq_bool, List.length_map, List.replicate, List.cons_append, List.nil_append, Bool.not_false, Bool.not_true, Bool.and_true, Bool.true_and, Bool.and_self, Bool.and_false, Bool.false_and, Option.bind, bn_add, bn_sub, bn_mul, bn_div, bn_mod, bn_pow, bn_addS, bn_addT, bn_addL, cp_eq, cp_ne, cp_ltI, cp_leI, cp_gtI, cp_geI, cp_ltS, cp_leS, cp_gtS, cp_geS, cp_ltT, cp_gtT, cp_in, cp_nin, cp_is, cp_isn, ix_l, ix_t, ix_s, ixs_tp, ixs_pd, ixs_rf, ixs_fz, cel_d, cel_r, mkLst, clsOf, clOf_d, clOf_r, wp_reprB, revS, isi2S, Bool.or_false, Bool.or_true, Bool.false_or, Bool.true_or, bi_lenL, bi_lenT, bi_lenS, bi_listL, bi_listT, bi_tupL, bi_tupT, bi_intI, bi_intB, bi_strI, bi_strS, bi_abs, bi_max, bi_min, bi_all, bi_any, bi_sum, in_l, in_t, in_s, tr_b, tr_i, tr_n, tr_l, tr_t, so_l, so_t, so_s, so_f, io_t, ng_i, pt_i, ag_a, ag_s, rv_l, rv_t, ap_d, rk_l, rk_t, rk_s, rg_1, rg_2, sl_l, sl_t, sl_s, mt_ixS, wp_mkT0, wp_mkT1, wp_mkT2, wp_mkT3, wp_mkT4, wp_mkT5, wp_mkT6, wp_mkT7, wp_mkT8, wp_datR, wp_idxR, wp_setR, wp_appR, set_last, get_last, le_line, lt_line, wp_newM, lg9, meth_words, wp_mkTR, not_true_eq_false, not_false_eq_true, eq_self, ofString_inj, String.reduceEq, wipeS, wp_inS, false_and, and_false, b_law_fits, wordD] at ret ⊢
      exact ret
    · by_cases h1 : -1000000 ≤ i
      · simp only [wp_ret, wp_bnd, wp_some, wp_grd, wp_no, wp_dat_pd, wp_dat_fz,  ev, evs, evO, evI, evC, evTs, AI.ex, asgG, asgGs, getV, wp_exs, wp_exs_nil, goS_nx, goS_rt, goS_bk, goS_ct, turnE_nx, turnE_ct, turnE_bk, turnE_rt, endD_rt, endD_nx, back_pd, binS, isFz, cmpS, biS, dats, truth, isiS, allPd, isiD, rkOf, join_some, Option.map, List.map, List.length_cons, List.length_nil, List.getElem?_cons_zero, List.getElem?_cons_succ, List.set_cons_zero, List.set_cons_succ, startS, atI_pos, atI_cast, Int.toNat_natCast, wp_newL1, wp_newL2, wp_newT1, List.length_set, List.set_set, decide_eq_true_eq, decide_eq_false_iff_not, Bool.not_eq_true', true_and, and_true,  ixN_pos, Int.reduceLE, Int.reduceLT, Int.reduceToNat, Int.reduceAdd, Int.reduceSub, Int.reduceMul, Int.reduceMod, Int.reduceNeg, Int.reducePow, Nat.reduceAdd, Nat.reduceLT, Nat.reduceLeDiff, Nat.reduceSub, reduceIte, Int.reduceEq, List.isEmpty_nil, Bool.false_eq_true, Bool.true_eq_false, decide_true, decide_false, ge_iff_le, gt_iff_lt,  wp_eq_int, wp_eq_str, wp_eq_bool, List.length_map, List.replicate, List.cons_append, List.nil_append, Bool.not_false, Bool.not_true, Bool.and_true, Bool.true_and, Bool.and_self, Bool.and_false, Bool.false_and, Option.bind, bn_add, bn_sub, bn_mul, bn_div, bn_mod, bn_pow, bn_addS, bn_addT, bn_addL, cp_eq, cp_ne, cp_ltI, cp_leI, cp_gtI, cp_geI, cp_ltS, cp_leS, cp_gtS, cp_geS, cp_ltT, cp_gtT, cp_in, cp_nin, cp_is, cp_isn, ix_l, ix_t, ix_s, ixs_tp, ixs_pd, ixs_rf, ixs_fz, cel_d, cel_r, mkLst, clsOf, clOf_d, clOf_r, wp_reprB, revS, isi2S, Bool.or_false, Bool.or_true, Bool.false_or, Bool.true_or, bi_lenL, bi_lenT, bi_lenS, bi_listL, bi_listT, bi_tupL, bi_tupT, bi_intI, bi_intB, bi_strI, bi_strS, bi_abs, bi_max, bi_min, bi_all, bi_any, bi_sum, in_l, in_t, in_s, tr_b, tr_i, tr_n, tr_l, tr_t, so_l, so_t, so_s, so_f, io_t, ng_i, pt_i, ag_a, ag_s, rv_l, rv_t, ap_d, rk_l, rk_t, rk_s, rg_1, rg_2, sl_l, sl_t, sl_s, mt_ixS, wp_mkT0, wp_mkT1, wp_mkT2, wp_mkT3, wp_mkT4, wp_mkT5, wp_mkT6, wp_mkT7, wp_mkT8, wp_datR, wp_idxR, wp_setR, wp_appR, set_last, get_last, le_line, lt_line, wp_newM, lg9, meth_words, wp_mkTR, not_true_eq_false, not_false_eq_true, eq_self, ofString_inj, String.reduceEq, wipeS, wp_inS, false_and, and_false, b_law_fits, wordD, h1, eq_true h1] at ret ⊢
        exact ret
      · simp only [wp_ret, wp_bnd, wp_some, wp_grd, wp_no, wp_dat_pd, wp_dat_fz,  ev, evs, evO, evI, evC, evTs, AI.ex, asgG, asgGs, getV, wp_exs, wp_exs_nil, goS_nx, goS_rt, goS_bk, goS_ct, turnE_nx, turnE_ct, turnE_bk, turnE_rt, endD_rt, endD_nx, back_pd, binS, isFz, cmpS, biS, dats, truth, isiS, allPd, isiD, rkOf, join_some, Option.map, List.map, List.length_cons, List.length_nil, List.getElem?_cons_zero, List.getElem?_cons_succ, List.set_cons_zero, List.set_cons_succ, startS, atI_pos, atI_cast, Int.toNat_natCast, wp_newL1, wp_newL2, wp_newT1, List.length_set, List.set_set, decide_eq_true_eq, decide_eq_false_iff_not, Bool.not_eq_true', true_and, and_true,  ixN_pos, Int.reduceLE, Int.reduceLT, Int.reduceToNat, Int.reduceAdd, Int.reduceSub, Int.reduceMul, Int.reduceMod, Int.reduceNeg, Int.reducePow, Nat.reduceAdd, Nat.reduceLT, Nat.reduceLeDiff, Nat.reduceSub, reduceIte, Int.reduceEq, List.isEmpty_nil, Bool.false_eq_true, Bool.true_eq_false, decide_true, decide_false, ge_iff_le, gt_iff_lt,  wp_eq_int, wp_eq_str, wp_eq_bool, List.length_map, List.replicate, List.cons_append, List.nil_append, Bool.not_false, Bool.not_true, Bool.and_true, Bool.true_and, Bool.and_self, Bool.and_false, Bool.false_and, Option.bind, bn_add, bn_sub, bn_mul, bn_div, bn_mod, bn_pow, bn_addS, bn_addT, bn_addL, cp_eq, cp_ne, cp_ltI, cp_leI, cp_gtI, cp_geI, cp_ltS, cp_leS, cp_gtS, cp_geS, cp_ltT, cp_gtT, cp_in, cp_nin, cp_is, cp_isn, ix_l, ix_t, ix_s, ixs_tp, ixs_pd, ixs_rf, ixs_fz, cel_d, cel_r, mkLst, clsOf, clOf_d, clOf_r, wp_reprB, revS, isi2S, Bool.or_false, Bool.or_true, Bool.false_or, Bool.true_or, bi_lenL, bi_lenT, bi_lenS, bi_listL, bi_listT, bi_tupL, bi_tupT, bi_intI, bi_intB, bi_strI, bi_strS, bi_abs, bi_max, bi_min, bi_all, bi_any, bi_sum, in_l, in_t, in_s, tr_b, tr_i, tr_n, tr_l, tr_t, so_l, so_t, so_s, so_f, io_t, ng_i, pt_i, ag_a, ag_s, rv_l, rv_t, ap_d, rk_l, rk_t, rk_s, rg_1, rg_2, sl_l, sl_t, sl_s, mt_ixS, wp_mkT0, wp_mkT1, wp_mkT2, wp_mkT3, wp_mkT4, wp_mkT5, wp_mkT6, wp_mkT7, wp_mkT8, wp_datR, wp_idxR, wp_setR, wp_appR, set_last, get_last, le_line, lt_line, wp_newM, lg9, meth_words, wp_mkTR, not_true_eq_false, not_false_eq_true, eq_self, ofString_inj, String.reduceEq, wipeS, wp_inS, false_and, and_false, b_law_fits, wordD, h1, eq_false h1] at ret ⊢
        exact ret
  · rw [fitsS] at ret
    cases w <;> (simp only [wp_ret, wp_bnd, wp_some, wp_grd, wp_no, wp_dat_pd, wp_dat_fz,  ev, evs, evO, evI, evC, evTs, AI.ex, asgG, asgGs, getV, wp_exs, wp_exs_nil, goS_nx, goS_rt, goS_bk, goS_ct, turnE_nx, turnE_ct, turnE_bk, turnE_rt, endD_rt, endD_nx, back_pd, binS, isFz, cmpS, biS, dats, truth, isiS, allPd, isiD, rkOf, join_some, Option.map, List.map, List.length_cons, List.length_nil, List.getElem?_cons_zero, List.getElem?_cons_succ, List.set_cons_zero, List.set_cons_succ, startS, atI_pos, atI_cast, Int.toNat_natCast, wp_newL1, wp_newL2, wp_newT1, List.length_set, List.set_set, decide_eq_true_eq, decide_eq_false_iff_not, Bool.not_eq_true', true_and, and_true,  ixN_pos, Int.reduceLE, Int.reduceLT, Int.reduceToNat, Int.reduceAdd, Int.reduceSub, Int.reduceMul, Int.reduceMod, Int.reduceNeg, Int.reducePow, Nat.reduceAdd, Nat.reduceLT, Nat.reduceLeDiff, Nat.reduceSub, reduceIte, Int.reduceEq, List.isEmpty_nil, Bool.false_eq_true, Bool.true_eq_false, decide_true, decide_false, ge_iff_le, gt_iff_lt,  wp_eq_int, wp_eq_str, wp_eq_bool, List.length_map, List.replicate, List.cons_append, List.nil_append, Bool.not_false, Bool.not_true, Bool.and_true, Bool.true_and, Bool.and_self, Bool.and_false, Bool.false_and, Option.bind, bn_add, bn_sub, bn_mul, bn_div, bn_mod, bn_pow, bn_addS, bn_addT, bn_addL, cp_eq, cp_ne, cp_ltI, cp_leI, cp_gtI, cp_geI, cp_ltS, cp_leS, cp_gtS, cp_geS, cp_ltT, cp_gtT, cp_in, cp_nin, cp_is, cp_isn, ix_l, ix_t, ix_s, ixs_tp, ixs_pd, ixs_rf, ixs_fz, cel_d, cel_r, mkLst, clsOf, clOf_d, clOf_r, wp_reprB, revS, isi2S, Bool.or_false, Bool.or_true, Bool.false_or, Bool.true_or, bi_lenL, bi_lenT, bi_lenS, bi_listL, bi_listT, bi_tupL, bi_tupT, bi_intI, bi_intB, bi_strI, bi_strS, bi_abs, bi_max, bi_min, bi_all, bi_any, bi_sum, in_l, in_t, in_s, tr_b, tr_i, tr_n, tr_l, tr_t, so_l, so_t, so_s, so_f, io_t, ng_i, pt_i, ag_a, ag_s, rv_l, rv_t, ap_d, rk_l, rk_t, rk_s, rg_1, rg_2, sl_l, sl_t, sl_s, mt_ixS, wp_mkT0, wp_mkT1, wp_mkT2, wp_mkT3, wp_mkT4, wp_mkT5, wp_mkT6, wp_mkT7, wp_mkT8, wp_datR, wp_idxR, wp_setR, wp_appR, set_last, get_last, le_line, lt_line, wp_newM, lg9, meth_words, wp_mkTR, not_true_eq_false, not_false_eq_true, eq_self, ofString_inj, String.reduceEq, wipeS, wp_inS, false_and, and_false, b_law_fits, wordD] at ret ⊢; exact ret)
end
structure Tbl where
  nm : Str
  cs : List (Str × Bool)
  lim : Int
def cD (c : Str × Bool) : D := .tuple [.str c.1, wordD c.2]
def Tbl.toD (t : Tbl) : D := .tuple [.str t.nm, .tuple (t.cs.map cD), .tuple (t.cs.map fun c => .str c.1), .int t.lim, .tuple [], .tuple []]
def schD (ts : List Tbl) : D := .tuple [.tuple (ts.map Tbl.toD), .tuple [], .tuple []]
theorem same_tbl {ts : List Tbl} (nd : (ts.map (·.nm)).Nodup) {a b : Tbl} (ha : a ∈ ts) (hb : b ∈ ts) (e : a.nm = b.nm) : a = b := by
  obtain ⟨i, hi, e1⟩ := List.getElem_of_mem ha
  obtain ⟨j, hj, e2⟩ := List.getElem_of_mem hb
  have hij := (List.getElem_inj (xs := ts.map (·.nm)) (i := i) (j := j) (h₀ := by simpa using hi) (h₁ := by simpa using hj) nd).mp (by simp [e1, e2, e])
  subst hij
  rw [← e1, ← e2]
def dueAt (vs : List D) (cs : List (Str × Bool)) (i : Nat) : Bool := fitsB (vs.getD i .none) (cs.getD i (Str.ofString "", false)).2
def canB (vs : List D) (cs : List (Str × Bool)) : Bool := decide ((vs.length : Int) = cs.length) && (List.range vs.length).all (dueAt vs cs)
section
variable {bx : Bool} {h : Boxes} {Q : RV → Boxes → Prop} {k : Nat}
theorem named {ts : List Tbl} (nd : (ts.map (·.nm)).Nodup) {t : Tbl} (ht : t ∈ ts) (q : Q (.pd t.toD) h) : wp ((TM (k + 1)).call bx "table_named" [.pd (schD ts), .pd (.str t.nm)]) Q h := by
  refine wp_call (r_table_named k) (wp_def rfl ?_)
  have ret : back h.length bx Q (.pd t.toD) h := by rw [back_pd, List.take_length]; exact q
  generalize back h.length bx Q = Q' at *
  clear q
  simp only [wp_ret, wp_bnd, wp_some, wp_grd, wp_no, wp_dat_pd, wp_dat_fz,  ev, evs, evO, evI, evC, evTs, AI.ex, asgG, asgGs, getV, wp_exs, wp_exs_nil, goS_nx, goS_rt, goS_bk, goS_ct, turnE_nx, turnE_ct, turnE_bk, turnE_rt, endD_rt, endD_nx, back_pd, binS, isFz, cmpS, biS, dats, truth, isiS, allPd, isiD, rkOf, join_some, Option.map, List.map, List.length_cons, List.length_nil, List.getElem?_cons_zero, List.getElem?_cons_succ, List.set_cons_zero, List.set_cons_succ, startS, atI_pos, atI_cast, Int.toNat_natCast, wp_newL1, wp_newL2, wp_newT1, List.length_set, List.set_set, decide_eq_true_eq, decide_eq_false_iff_not, Bool.not_eq_true', true_and, and_true,  ixN_pos, Int.reduceLE, Int.reduceLT, Int.reduceToNat, Int.reduceAdd, Int.reduceSub, Int.reduceMul, Int.reduceMod, Int.reduceNeg, Int.reducePow, Nat.reduceAdd, Nat.reduceLT, Nat.reduceLeDiff, Nat.reduceSub, reduceIte, Int.reduceEq, List.isEmpty_nil, Bool.false_eq_true, Bool.true_eq_false, decide_true, decide_false, ge_iff_le, gt_iff_lt,  wp_eq_int, wp_eq_str, wp_eq_bool, List.length_map, List.replicate, List.cons_append, List.nil_append, Bool.not_false, Bool.not_true, Bool.and_true, Bool.true_and, Bool.and_self, Bool.and_false, Bool.false_and, Option.bind, bn_add, bn_sub, bn_mul, bn_div, bn_mod, bn_pow, bn_addS, bn_addT, bn_addL, cp_eq, cp_ne, cp_ltI, cp_leI, cp_gtI, cp_geI, cp_ltS, cp_leS, cp_gtS, cp_geS, cp_ltT, cp_gtT, cp_in, cp_nin, cp_is, cp_isn, ix_l, ix_t, ix_s, ixs_tp, ixs_pd, ixs_rf, ixs_fz, cel_d, cel_r, mkLst, clsOf, clOf_d, clOf_r, wp_reprB, revS, isi2S, Bool.or_false, Bool.or_true, Bool.false_or, Bool.true_or, bi_lenL, bi_lenT, bi_lenS, bi_listL, bi_listT, bi_tupL, bi_tupT, bi_intI, bi_intB, bi_strI, bi_strS, bi_abs, bi_max, bi_min, bi_all, bi_any, bi_sum, in_l, in_t, in_s, tr_b, tr_i, tr_n, tr_l, tr_t, so_l, so_t, so_s, so_f, io_t, ng_i, pt_i, ag_a, ag_s, rv_l, rv_t, ap_d, rk_l, rk_t, rk_s, rg_1, rg_2, sl_l, sl_t, sl_s, mt_ixS, wp_mkT0, wp_mkT1, wp_mkT2, wp_mkT3, wp_mkT4, wp_mkT5, wp_mkT6, wp_mkT7, wp_mkT8, wp_datR, wp_idxR, wp_setR, wp_appR, set_last, get_last, le_line, lt_line, wp_newM, lg9, meth_words, wp_mkTR, not_true_eq_false, not_false_eq_true, eq_self, ofString_inj, String.reduceEq, wipeS, wp_inS, false_and, and_false, b_table_named, schD]
  refine wp_forFind (fun u : Tbl => decide (u.nm = t.nm)) (fun σ h' => h' = h ∧ ∃ y2, σ = [some (.pd (schD ts)), some (.pd (.str t.nm)), y2]) (fun u => Q' (.pd u.toD) h) ⟨rfl, _, rfl⟩ (fun u hu => ?_) ?_ ?_
  · have h1 := List.mem_of_find?_eq_some hu
    have h2 := List.find?_some hu
    rw [same_tbl nd h1 ht (by simpa using h2)]
    exact ret
  · rintro u hu σ h' ⟨rfl, y2, rfl⟩ J hH hJ
    simp only [wp_ret, wp_bnd, wp_some, wp_grd, wp_no, wp_dat_pd, wp_dat_fz,  ev, evs, evO, evI, evC, evTs, AI.ex, asgG, asgGs, getV, wp_exs, wp_exs_nil, goS_nx, goS_rt, goS_bk, goS_ct, turnE_nx, turnE_ct, turnE_bk, turnE_rt, endD_rt, endD_nx, back_pd, binS, isFz, cmpS, biS, dats, truth, isiS, allPd, isiD, rkOf, join_some, Option.map, List.map, List.length_cons, List.length_nil, List.getElem?_cons_zero, List.getElem?_cons_succ, List.set_cons_zero, List.set_cons_succ, startS, atI_pos, atI_cast, Int.toNat_natCast, wp_newL1, wp_newL2, wp_newT1, List.length_set, List.set_set, decide_eq_true_eq, decide_eq_false_iff_not, Bool.not_eq_true', true_and, and_true,  ixN_pos, Int.reduceLE, Int.reduceLT, Int.reduceToNat, Int.reduceAdd, Int.reduceSub, Int.reduceMul, Int.reduceMod, Int.reduceNeg, Int.reducePow, Nat.reduceAdd, Nat.reduceLT, Nat.reduceLeDiff, Nat.reduceSub, reduceIte, Int.reduceEq, List.isEmpty_nil, Bool.false_eq_true, Bool.true_eq_false, decide_true, decide_false, ge_iff_le, gt_iff_lt,  wp_eq_int, wp_eq_str, wp_eq_bool, List.length_map, List.replicate, List.cons_append, List.nil_append, Bool.not_false, Bool.not_true, Bool.and_true, Bool.true_and, Bool.and_self, Bool.and_false, Bool.false_and, Option.bind, bn_add, bn_sub, bn_mul, bn_div, bn_mod, bn_pow, bn_addS, bn_addT, bn_addL, cp_eq, cp_ne, cp_ltI, cp_leI, cp_gtI, cp_geI, cp_ltS, cp_leS, cp_gtS, cp_geS, cp_ltT, cp_gtT, cp_in, cp_nin, cp_is, cp_isn, ix_l, ix_t, ix_s, ixs_tp, ixs_pd, ixs_rf, ixs_fz, cel_d, cel_r, mkLst, clsOf, clOf_d, clOf_r, wp_reprB, revS, isi2S, Bool.or_false, Bool.or_true, Bool.false_or, Bool.true_or, bi_lenL, bi_lenT, bi_lenS, bi_listL, bi_listT, bi_tupL, bi_tupT, bi_intI, bi_intB, bi_strI, bi_strS, bi_abs, bi_max, bi_min, bi_all, bi_any, bi_sum, in_l, in_t, in_s, tr_b, tr_i, tr_n, tr_l, tr_t, so_l, so_t, so_s, so_f, io_t, ng_i, pt_i, ag_a, ag_s, rv_l, rv_t, ap_d, rk_l, rk_t, rk_s, rg_1, rg_2, sl_l, sl_t, sl_s, mt_ixS, wp_mkT0, wp_mkT1, wp_mkT2, wp_mkT3, wp_mkT4, wp_mkT5, wp_mkT6, wp_mkT7, wp_mkT8, wp_datR, wp_idxR, wp_setR, wp_appR, set_last, get_last, le_line, lt_line, wp_newM, lg9, meth_words, wp_mkTR, not_true_eq_false, not_false_eq_true, eq_self, ofString_inj, String.reduceEq, wipeS, wp_inS, false_and, and_false, Tbl.toD]
    refine wp_if (fun c => ?_) (fun c => ?_)
    · simp only [wp_ret, wp_bnd, wp_some, wp_grd, wp_no, wp_dat_pd, wp_dat_fz,  ev, evs, evO, evI, evC, evTs, AI.ex, asgG, asgGs, getV, wp_exs, wp_exs_nil, goS_nx, goS_rt, goS_bk, goS_ct, turnE_nx, turnE_ct, turnE_bk, turnE_rt, endD_rt, endD_nx, back_pd, binS, isFz, cmpS, biS, dats, truth, isiS, allPd, isiD, rkOf, join_some, Option.map, List.map, List.length_cons, List.length_nil, List.getElem?_cons_zero, List.getElem?_cons_succ, List.set_cons_zero, List.set_cons_succ, startS, atI_pos, atI_cast, Int.toNat_natCast, wp_newL1, wp_newL2, wp_newT1, List.length_set, List.set_set, decide_eq_true_eq, decide_eq_false_iff_not, Bool.not_eq_true', true_and, and_true,  ixN_pos, Int.reduceLE, Int.reduceLT, Int.reduceToNat, Int.reduceAdd, Int.reduceSub, Int.reduceMul, Int.reduceMod, Int.reduceNeg, Int.reducePow, Nat.reduceAdd, Nat.reduceLT, Nat.reduceLeDiff, Nat.reduceSub, reduceIte, Int.reduceEq, List.isEmpty_nil, Bool.false_eq_true, Bool.true_eq_false, decide_true, decide_false, ge_iff_le, gt_iff_lt,  wp_eq_int, wp_eq_str, wp_eq_bool, List.length_map, List.replicate, List.cons_append, List.nil_append, Bool.not_false, Bool.not_true, Bool.and_true, Bool.true_and, Bool.and_self, Bool.and_false, Bool.false_and, Option.bind, bn_add, bn_sub, bn_mul, bn_div, bn_mod, bn_pow, bn_addS, bn_addT, bn_addL, cp_eq, cp_ne, cp_ltI, cp_leI, cp_gtI, cp_geI, cp_ltS, cp_leS, cp_gtS, cp_geS, cp_ltT, cp_gtT, cp_in, cp_nin, cp_is, cp_isn, ix_l, ix_t, ix_s, ixs_tp, ixs_pd, ixs_rf, ixs_fz, cel_d, cel_r, mkLst, clsOf, clOf_d, clOf_r, wp_reprB, revS, isi2S, Bool.or_false, Bool.or_true, Bool.false_or, Bool.true_or, bi_lenL, bi_lenT, bi_lenS, bi_listL, bi_listT, bi_tupL, bi_tupT, bi_intI, bi_intB, bi_strI, bi_strS, bi_abs, bi_max, bi_min, bi_all, bi_any, bi_sum, in_l, in_t, in_s, tr_b, tr_i, tr_n, tr_l, tr_t, so_l, so_t, so_s, so_f, io_t, ng_i, pt_i, ag_a, ag_s, rv_l, rv_t, ap_d, rk_l, rk_t, rk_s, rg_1, rg_2, sl_l, sl_t, sl_s, mt_ixS, wp_mkT0, wp_mkT1, wp_mkT2, wp_mkT3, wp_mkT4, wp_mkT5, wp_mkT6, wp_mkT7, wp_mkT8, wp_datR, wp_idxR, wp_setR, wp_appR, set_last, get_last, le_line, lt_line, wp_newM, lg9, meth_words, wp_mkTR, not_true_eq_false, not_false_eq_true, eq_self, ofString_inj, String.reduceEq, wipeS, wp_inS, false_and, and_false]
      exact hH (by simpa using c)
    · simp only [wp_ret, wp_bnd, wp_some, wp_grd, wp_no, wp_dat_pd, wp_dat_fz,  ev, evs, evO, evI, evC, evTs, AI.ex, asgG, asgGs, getV, wp_exs, wp_exs_nil, goS_nx, goS_rt, goS_bk, goS_ct, turnE_nx, turnE_ct, turnE_bk, turnE_rt, endD_rt, endD_nx, back_pd, binS, isFz, cmpS, biS, dats, truth, isiS, allPd, isiD, rkOf, join_some, Option.map, List.map, List.length_cons, List.length_nil, List.getElem?_cons_zero, List.getElem?_cons_succ, List.set_cons_zero, List.set_cons_succ, startS, atI_pos, atI_cast, Int.toNat_natCast, wp_newL1, wp_newL2, wp_newT1, List.length_set, List.set_set, decide_eq_true_eq, decide_eq_false_iff_not, Bool.not_eq_true', true_and, and_true,  ixN_pos, Int.reduceLE, Int.reduceLT, Int.reduceToNat, Int.reduceAdd, Int.reduceSub, Int.reduceMul, Int.reduceMod, Int.reduceNeg, Int.reducePow, Nat.reduceAdd, Nat.reduceLT, Nat.reduceLeDiff, Nat.reduceSub, reduceIte, Int.reduceEq, List.isEmpty_nil, Bool.false_eq_true, Bool.true_eq_false, decide_true, decide_false, ge_iff_le, gt_iff_lt,  wp_eq_int, wp_eq_str, wp_eq_bool, List.length_map, List.replicate, List.cons_append, List.nil_append, Bool.not_false, Bool.not_true, Bool.and_true, Bool.true_and, Bool.and_self, Bool.and_false, Bool.false_and, Option.bind, bn_add, bn_sub, bn_mul, bn_div, bn_mod, bn_pow, bn_addS, bn_addT, bn_addL, cp_eq, cp_ne, cp_ltI, cp_leI, cp_gtI, cp_geI, cp_ltS, cp_leS, cp_gtS, cp_geS, cp_ltT, cp_gtT, cp_in, cp_nin, cp_is, cp_isn, ix_l, ix_t, ix_s, ixs_tp, ixs_pd, ixs_rf, ixs_fz, cel_d, cel_r, mkLst, clsOf, clOf_d, clOf_r, wp_reprB, revS, isi2S, Bool.or_false, Bool.or_true, Bool.false_or, Bool.true_or, bi_lenL, bi_lenT, bi_lenS, bi_listL, bi_listT, bi_tupL, bi_tupT, bi_intI, bi_intB, bi_strI, bi_strS, bi_abs, bi_max, bi_min, bi_all, bi_any, bi_sum, in_l, in_t, in_s, tr_b, tr_i, tr_n, tr_l, tr_t, so_l, so_t, so_s, so_f, io_t, ng_i, pt_i, ag_a, ag_s, rv_l, rv_t, ap_d, rk_l, rk_t, rk_s, rg_1, rg_2, sl_l, sl_t, sl_s, mt_ixS, wp_mkT0, wp_mkT1, wp_mkT2, wp_mkT3, wp_mkT4, wp_mkT5, wp_mkT6, wp_mkT7, wp_mkT8, wp_datR, wp_idxR, wp_setR, wp_appR, set_last, get_last, le_line, lt_line, wp_newM, lg9, meth_words, wp_mkTR, not_true_eq_false, not_false_eq_true, eq_self, ofString_inj, String.reduceEq, wipeS, wp_inS, false_and, and_false]
      exact hJ (by simpa using c) _ _ ⟨rfl, _, rfl⟩
  · rintro hn
    have := List.find?_eq_none.mp hn t ht
    simp at this
theorem canst {ts : List Tbl} (nd : (ts.map (·.nm)).Nodup) {t : Tbl} (ht : t ∈ ts) {vs : List D} (hv : ∀ v ∈ vs, Val v) (hl : vs.length ≤ 1000) (q : Q (.pd (.bool (canB vs t.cs))) h) : wp ((TM (k + 2)).call bx "can_store" [.pd (schD ts), .pd (.str t.nm), .pd (.tuple vs)]) Q h := by
  refine wp_call (r_can_store _) (wp_def rfl ?_)
  have ret : back h.length bx Q (.pd (.bool (canB vs t.cs))) h := by rw [back_pd, List.take_length]; exact q
  generalize back h.length bx Q = Q' at *
  clear q
  simp only [wp_ret, wp_bnd, wp_some, wp_grd, wp_no, wp_dat_pd, wp_dat_fz,  ev, evs, evO, evI, evC, evTs, AI.ex, asgG, asgGs, getV, wp_exs, wp_exs_nil, goS_nx, goS_rt, goS_bk, goS_ct, turnE_nx, turnE_ct, turnE_bk, turnE_rt, endD_rt, endD_nx, back_pd, binS, isFz, cmpS, biS, dats, truth, isiS, allPd, isiD, rkOf, join_some, Option.map, List.map, List.length_cons, List.length_nil, List.getElem?_cons_zero, List.getElem?_cons_succ, List.set_cons_zero, List.set_cons_succ, startS, atI_pos, atI_cast, Int.toNat_natCast, wp_newL1, wp_newL2, wp_newT1, List.length_set, List.set_set, decide_eq_true_eq, decide_eq_false_iff_not, Bool.not_eq_true', true_and, and_true,  ixN_pos, Int.reduceLE, Int.reduceLT, Int.reduceToNat, Int.reduceAdd, Int.reduceSub, Int.reduceMul, Int.reduceMod, Int.reduceNeg, Int.reducePow, Nat.reduceAdd, Nat.reduceLT, Nat.reduceLeDiff, Nat.reduceSub, reduceIte, Int.reduceEq, List.isEmpty_nil, Bool.false_eq_true, Bool.true_eq_false, decide_true, decide_false, ge_iff_le, gt_iff_lt,  wp_eq_int, wp_eq_str, wp_eq_bool, List.length_map, List.replicate, List.cons_append, List.nil_append, Bool.not_false, Bool.not_true, Bool.and_true, Bool.true_and, Bool.and_self, Bool.and_false, Bool.false_and, Option.bind, bn_add, bn_sub, bn_mul, bn_div, bn_mod, bn_pow, bn_addS, bn_addT, bn_addL, cp_eq, cp_ne, cp_ltI, cp_leI, cp_gtI, cp_geI, cp_ltS, cp_leS, cp_gtS, cp_geS, cp_ltT, cp_gtT, cp_in, cp_nin, cp_is, cp_isn, ix_l, ix_t, ix_s, ixs_tp, ixs_pd, ixs_rf, ixs_fz, cel_d, cel_r, mkLst, clsOf, clOf_d, clOf_r, wp_reprB, revS, isi2S, Bool.or_false, Bool.or_true, Bool.false_or, Bool.true_or, bi_lenL, bi_lenT, bi_lenS, bi_listL, bi_listT, bi_tupL, bi_tupT, bi_intI, bi_intB, bi_strI, bi_strS, bi_abs, bi_max, bi_min, bi_all, bi_any, bi_sum, in_l, in_t, in_s, tr_b, tr_i, tr_n, tr_l, tr_t, so_l, so_t, so_s, so_f, io_t, ng_i, pt_i, ag_a, ag_s, rv_l, rv_t, ap_d, rk_l, rk_t, rk_s, rg_1, rg_2, sl_l, sl_t, sl_s, mt_ixS, wp_mkT0, wp_mkT1, wp_mkT2, wp_mkT3, wp_mkT4, wp_mkT5, wp_mkT6, wp_mkT7, wp_mkT8, wp_datR, wp_idxR, wp_setR, wp_appR, set_last, get_last, le_line, lt_line, wp_newM, lg9, meth_words, wp_mkTR, not_true_eq_false, not_false_eq_true, eq_self, ofString_inj, String.reduceEq, wipeS, wp_inS, false_and, and_false, b_can_store]
  refine named nd ht ?_
  simp only [wp_ret, wp_bnd, wp_some, wp_grd, wp_no, wp_dat_pd, wp_dat_fz,  ev, evs, evO, evI, evC, evTs, AI.ex, asgG, asgGs, getV, wp_exs, wp_exs_nil, goS_nx, goS_rt, goS_bk, goS_ct, turnE_nx, turnE_ct, turnE_bk, turnE_rt, endD_rt, endD_nx, back_pd, binS, isFz, cmpS, biS, dats, truth, isiS, allPd, isiD, rkOf, join_some, Option.map, List.map, List.length_cons, List.length_nil, List.getElem?_cons_zero, List.getElem?_cons_succ, List.set_cons_zero, List.set_cons_succ, startS, atI_pos, atI_cast, Int.toNat_natCast, wp_newL1, wp_newL2, wp_newT1, List.length_set, List.set_set, decide_eq_true_eq, decide_eq_false_iff_not, Bool.not_eq_true', true_and, and_true,  ixN_pos, Int.reduceLE, Int.reduceLT, Int.reduceToNat, Int.reduceAdd, Int.reduceSub, Int.reduceMul, Int.reduceMod, Int.reduceNeg, Int.reducePow, Nat.reduceAdd, Nat.reduceLT, Nat.reduceLeDiff, Nat.reduceSub, reduceIte, Int.reduceEq, List.isEmpty_nil, Bool.false_eq_true, Bool.true_eq_false, decide_true, decide_false, ge_iff_le, gt_iff_lt,  wp_eq_int, wp_eq_str, wp_eq_bool, List.length_map, List.replicate, List.cons_append, List.nil_append, Bool.not_false, Bool.not_true, Bool.and_true, Bool.true_and, Bool.and_self, Bool.and_false, Bool.false_and, Option.bind, bn_add, bn_sub, bn_mul, bn_div, bn_mod, bn_pow, bn_addS, bn_addT, bn_addL, cp_eq, cp_ne, cp_ltI, cp_leI, cp_gtI, cp_geI, cp_ltS, cp_leS, cp_gtS, cp_geS, cp_ltT, cp_gtT, cp_in, cp_nin, cp_is, cp_isn, ix_l, ix_t, ix_s, ixs_tp, ixs_pd, ixs_rf, ixs_fz, cel_d, cel_r, mkLst, clsOf, clOf_d, clOf_r, wp_reprB, revS, isi2S, Bool.or_false, Bool.or_true, Bool.false_or, Bool.true_or, bi_lenL, bi_lenT, bi_lenS, bi_listL, bi_listT, bi_tupL, bi_tupT, bi_intI, bi_intB, bi_strI, bi_strS, bi_abs, bi_max, bi_min, bi_all, bi_any, bi_sum, in_l, in_t, in_s, tr_b, tr_i, tr_n, tr_l, tr_t, so_l, so_t, so_s, so_f, io_t, ng_i, pt_i, ag_a, ag_s, rv_l, rv_t, ap_d, rk_l, rk_t, rk_s, rg_1, rg_2, sl_l, sl_t, sl_s, mt_ixS, wp_mkT0, wp_mkT1, wp_mkT2, wp_mkT3, wp_mkT4, wp_mkT5, wp_mkT6, wp_mkT7, wp_mkT8, wp_datR, wp_idxR, wp_setR, wp_appR, set_last, get_last, le_line, lt_line, wp_newM, lg9, meth_words, wp_mkTR, not_true_eq_false, not_false_eq_true, eq_self, ofString_inj, String.reduceEq, wipeS, wp_inS, false_and, and_false, Tbl.toD]
  refine wp_if (fun c => ?_) (fun c => ?_)
  · have e : canB vs t.cs = false := by
      unfold canB
      rw [decide_eq_false (by simpa using c), Bool.false_and]
    rw [e] at ret
    simp only [wp_ret, wp_bnd, wp_some, wp_grd, wp_no, wp_dat_pd, wp_dat_fz,  ev, evs, evO, evI, evC, evTs, AI.ex, asgG, asgGs, getV, wp_exs, wp_exs_nil, goS_nx, goS_rt, goS_bk, goS_ct, turnE_nx, turnE_ct, turnE_bk, turnE_rt, endD_rt, endD_nx, back_pd, binS, isFz, cmpS, biS, dats, truth, isiS, allPd, isiD, rkOf, join_some, Option.map, List.map, List.length_cons, List.length_nil, List.getElem?_cons_zero, List.getElem?_cons_succ, List.set_cons_zero, List.set_cons_succ, startS, atI_pos, atI_cast, Int.toNat_natCast, wp_newL1, wp_newL2, wp_newT1, List.length_set, List.set_set, decide_eq_true_eq, decide_eq_false_iff_not, Bool.not_eq_true', true_and, and_true,  ixN_pos, Int.reduceLE, Int.reduceLT, Int.reduceToNat, Int.reduceAdd, Int.reduceSub, Int.reduceMul, Int.reduceMod, Int.reduceNeg, Int.reducePow, Nat.reduceAdd, Nat.reduceLT, Nat.reduceLeDiff, Nat.reduceSub, reduceIte, Int.reduceEq, List.isEmpty_nil, Bool.false_eq_true, Bool.true_eq_false, decide_true, decide_false, ge_iff_le, gt_iff_lt,  wp_eq_int, wp_eq_str, wp_eq_bool, List.length_map, List.replicate, List.cons_append, List.nil_append, Bool.not_false, Bool.not_true, Bool.and_true, Bool.true_and, Bool.and_self, Bool.and_false, Bool.false_and, Option.bind, bn_add, bn_sub, bn_mul, bn_div, bn_mod, bn_pow, bn_addS, bn_addT, bn_addL, cp_eq, cp_ne, cp_ltI, cp_leI, cp_gtI, cp_geI, cp_ltS, cp_leS, cp_gtS, cp_geS, cp_ltT, cp_gtT, cp_in, cp_nin, cp_is, cp_isn, ix_l, ix_t, ix_s, ixs_tp, ixs_pd, ixs_rf, ixs_fz, cel_d, cel_r, mkLst, clsOf, clOf_d, clOf_r, wp_reprB, revS, isi2S, Bool.or_false, Bool.or_true, Bool.false_or, Bool.true_or, bi_lenL, bi_lenT, bi_lenS, bi_listL, bi_listT, bi_tupL, bi_tupT, bi_intI, bi_intB, bi_strI, bi_strS, bi_abs, bi_max, bi_min, bi_all, bi_any, bi_sum, in_l, in_t, in_s, tr_b, tr_i, tr_n, tr_l, tr_t, so_l, so_t, so_s, so_f, io_t, ng_i, pt_i, ag_a, ag_s, rv_l, rv_t, ap_d, rk_l, rk_t, rk_s, rg_1, rg_2, sl_l, sl_t, sl_s, mt_ixS, wp_mkT0, wp_mkT1, wp_mkT2, wp_mkT3, wp_mkT4, wp_mkT5, wp_mkT6, wp_mkT7, wp_mkT8, wp_datR, wp_idxR, wp_setR, wp_appR, set_last, get_last, le_line, lt_line, wp_newM, lg9, meth_words, wp_mkTR, not_true_eq_false, not_false_eq_true, eq_self, ofString_inj, String.reduceEq, wipeS, wp_inS, false_and, and_false]
    exact ret
  · have c : (vs.length : Int) = t.cs.length := by simpa using c
    simp only [wp_ret, wp_bnd, wp_some, wp_grd, wp_no, wp_dat_pd, wp_dat_fz,  ev, evs, evO, evI, evC, evTs, AI.ex, asgG, asgGs, getV, wp_exs, wp_exs_nil, goS_nx, goS_rt, goS_bk, goS_ct, turnE_nx, turnE_ct, turnE_bk, turnE_rt, endD_rt, endD_nx, back_pd, binS, isFz, cmpS, biS, dats, truth, isiS, allPd, isiD, rkOf, join_some, Option.map, List.map, List.length_cons, List.length_nil, List.getElem?_cons_zero, List.getElem?_cons_succ, List.set_cons_zero, List.set_cons_succ, startS, atI_pos, atI_cast, Int.toNat_natCast, wp_newL1, wp_newL2, wp_newT1, List.length_set, List.set_set, decide_eq_true_eq, decide_eq_false_iff_not, Bool.not_eq_true', true_and, and_true,  ixN_pos, Int.reduceLE, Int.reduceLT, Int.reduceToNat, Int.reduceAdd, Int.reduceSub, Int.reduceMul, Int.reduceMod, Int.reduceNeg, Int.reducePow, Nat.reduceAdd, Nat.reduceLT, Nat.reduceLeDiff, Nat.reduceSub, reduceIte, Int.reduceEq, List.isEmpty_nil, Bool.false_eq_true, Bool.true_eq_false, decide_true, decide_false, ge_iff_le, gt_iff_lt,  wp_eq_int, wp_eq_str, wp_eq_bool, List.length_map, List.replicate, List.cons_append, List.nil_append, Bool.not_false, Bool.not_true, Bool.and_true, Bool.true_and, Bool.and_self, Bool.and_false, Bool.false_and, Option.bind, bn_add, bn_sub, bn_mul, bn_div, bn_mod, bn_pow, bn_addS, bn_addT, bn_addL, cp_eq, cp_ne, cp_ltI, cp_leI, cp_gtI, cp_geI, cp_ltS, cp_leS, cp_gtS, cp_geS, cp_ltT, cp_gtT, cp_in, cp_nin, cp_is, cp_isn, ix_l, ix_t, ix_s, ixs_tp, ixs_pd, ixs_rf, ixs_fz, cel_d, cel_r, mkLst, clsOf, clOf_d, clOf_r, wp_reprB, revS, isi2S, Bool.or_false, Bool.or_true, Bool.false_or, Bool.true_or, bi_lenL, bi_lenT, bi_lenS, bi_listL, bi_listT, bi_tupL, bi_tupT, bi_intI, bi_intB, bi_strI, bi_strS, bi_abs, bi_max, bi_min, bi_all, bi_any, bi_sum, in_l, in_t, in_s, tr_b, tr_i, tr_n, tr_l, tr_t, so_l, so_t, so_s, so_f, io_t, ng_i, pt_i, ag_a, ag_s, rv_l, rv_t, ap_d, rk_l, rk_t, rk_s, rg_1, rg_2, sl_l, sl_t, sl_s, mt_ixS, wp_mkT0, wp_mkT1, wp_mkT2, wp_mkT3, wp_mkT4, wp_mkT5, wp_mkT6, wp_mkT7, wp_mkT8, wp_datR, wp_idxR, wp_setR, wp_appR, set_last, get_last, le_line, lt_line, wp_newM, lg9, meth_words, wp_mkTR, not_true_eq_false, not_false_eq_true, eq_self, ofString_inj, String.reduceEq, wipeS, wp_inS, false_and, and_false]
    refine ⟨⟨by omega, by omega⟩, ?_⟩
    refine wp_lcF (l := List.range vs.length) (g := fun i : Nat => PyData.int (0 + i)) (fun i => some (.bool (dueAt vs t.cs i))) (by simp; omega) (fun i hi acc J hJ => ?_) ?_
    · have hi : i < vs.length := by simpa using hi
      have hi2 : i < t.cs.length := by omega
      have e1 : vs[i]? = some vs[i] := List.getElem?_eq_getElem hi
      have e2 : (t.cs.map cD)[i]? = some (cD t.cs[i]) := by rw [List.getElem?_map, List.getElem?_eq_getElem hi2]; rfl
      have e3 : dueAt vs t.cs i = fitsB vs[i] t.cs[i].2 := by
        unfold dueAt
        rw [List.getD_eq_getElem?_getD, List.getD_eq_getElem?_getD, e1, List.getElem?_eq_getElem hi2]; rfl
      rw [e3] at hJ
      have hvv := hv _ (List.getElem_mem hi)
      generalize vs[i] = v at *
      generalize t.cs[i] = c at *
      simp only [wp_ret, wp_bnd, wp_some, wp_grd, wp_no, wp_dat_pd, wp_dat_fz,  ev, evs, evO, evI, evC, evTs, AI.ex, asgG, asgGs, getV, wp_exs, wp_exs_nil, goS_nx, goS_rt, goS_bk, goS_ct, turnE_nx, turnE_ct, turnE_bk, turnE_rt, endD_rt, endD_nx, back_pd, binS, isFz, cmpS, biS, dats, truth, isiS, allPd, isiD, rkOf, join_some, Option.map, List.map, List.length_cons, List.length_nil, List.getElem?_cons_zero, List.getElem?_cons_succ, List.set_cons_zero, List.set_cons_succ, startS, atI_pos, atI_cast, Int.toNat_natCast, wp_newL1, wp_newL2, wp_newT1, List.length_set, List.set_set, decide_eq_true_eq, decide_eq_false_iff_not, Bool.not_eq_true', true_and, and_true,  ixN_pos, Int.reduceLE, Int.reduceLT, Int.reduceToNat, Int.reduceAdd, Int.reduceSub, Int.reduceMul, Int.reduceMod, Int.reduceNeg, Int.reducePow, Nat.reduceAdd, Nat.reduceLT, Nat.reduceLeDiff, Nat.reduceSub, reduceIte, Int.reduceEq, List.isEmpty_nil, Bool.false_eq_true, Bool.true_eq_false, decide_true, decide_false, ge_iff_le, gt_iff_lt,  wp_eq_int, wp_eq_str, wp_eq_bool, List.length_map, List.replicate, List.cons_append, List.nil_append, Bool.not_false, Bool.not_true, Bool.and_true, Bool.true_and, Bool.and_self, Bool.and_false, Bool.false_and, Option.bind, bn_add, bn_sub, bn_mul, bn_div, bn_mod, bn_pow, bn_addS, bn_addT, bn_addL, cp_eq, cp_ne, cp_ltI, cp_leI, cp_gtI, cp_geI, cp_ltS, cp_leS, cp_gtS, cp_geS, cp_ltT, cp_gtT, cp_in, cp_nin, cp_is, cp_isn, ix_l, ix_t, ix_s, ixs_tp, ixs_pd, ixs_rf, ixs_fz, cel_d, cel_r, mkLst, clsOf, clOf_d, clOf_r, wp_reprB, revS, isi2S, Bool.or_false, Bool.or_true, Bool.false_or, Bool.true_or, bi_lenL, bi_lenT, bi_lenS, bi_listL, bi_listT, bi_tupL, bi_tupT, bi_intI, bi_intB, bi_strI, bi_strS, bi_abs, bi_max, bi_min, bi_all, bi_any, bi_sum, in_l, in_t, in_s, tr_b, tr_i, tr_n, tr_l, tr_t, so_l, so_t, so_s, so_f, io_t, ng_i, pt_i, ag_a, ag_s, rv_l, rv_t, ap_d, rk_l, rk_t, rk_s, rg_1, rg_2, sl_l, sl_t, sl_s, mt_ixS, wp_mkT0, wp_mkT1, wp_mkT2, wp_mkT3, wp_mkT4, wp_mkT5, wp_mkT6, wp_mkT7, wp_mkT8, wp_datR, wp_idxR, wp_setR, wp_appR, set_last, get_last, le_line, lt_line, wp_newM, lg9, meth_words, wp_mkTR, not_true_eq_false, not_false_eq_true, eq_self, ofString_inj, String.reduceEq, wipeS, wp_inS, false_and, and_false, Int.zero_add, e1, e2, cD]
      refine stor hvv ?_
      simp only [wp_ret, wp_bnd, wp_some, wp_grd, wp_no, wp_dat_pd, wp_dat_fz,  ev, evs, evO, evI, evC, evTs, AI.ex, asgG, asgGs, getV, wp_exs, wp_exs_nil, goS_nx, goS_rt, goS_bk, goS_ct, turnE_nx, turnE_ct, turnE_bk, turnE_rt, endD_rt, endD_nx, back_pd, binS, isFz, cmpS, biS, dats, truth, isiS, allPd, isiD, rkOf, join_some, Option.map, List.map, List.length_cons, List.length_nil, List.getElem?_cons_zero, List.getElem?_cons_succ, List.set_cons_zero, List.set_cons_succ, startS, atI_pos, atI_cast, Int.toNat_natCast, wp_newL1, wp_newL2, wp_newT1, List.length_set, List.set_set, decide_eq_true_eq, decide_eq_false_iff_not, Bool.not_eq_true', true_and, and_true,  ixN_pos, Int.reduceLE, Int.reduceLT, Int.reduceToNat, Int.reduceAdd, Int.reduceSub, Int.reduceMul, Int.reduceMod, Int.reduceNeg, Int.reducePow, Nat.reduceAdd, Nat.reduceLT, Nat.reduceLeDiff, Nat.reduceSub, reduceIte, Int.reduceEq, List.isEmpty_nil, Bool.false_eq_true, Bool.true_eq_false, decide_true, decide_false, ge_iff_le, gt_iff_lt,  wp_eq_int, wp_eq_str, wp_eq_bool, List.length_map, List.replicate, List.cons_append, List.nil_append, Bool.not_false, Bool.not_true, Bool.and_true, Bool.true_and, Bool.and_self, Bool.and_false, Bool.false_and, Option.bind, bn_add, bn_sub, bn_mul, bn_div, bn_mod, bn_pow, bn_addS, bn_addT, bn_addL, cp_eq, cp_ne, cp_ltI, cp_leI, cp_gtI, cp_geI, cp_ltS, cp_leS, cp_gtS, cp_geS, cp_ltT, cp_gtT, cp_in, cp_nin, cp_is, cp_isn, ix_l, ix_t, ix_s, ixs_tp, ixs_pd, ixs_rf, ixs_fz, cel_d, cel_r, mkLst, clsOf, clOf_d, clOf_r, wp_reprB, revS, isi2S, Bool.or_false, Bool.or_true, Bool.false_or, Bool.true_or, bi_lenL, bi_lenT, bi_lenS, bi_listL, bi_listT, bi_tupL, bi_tupT, bi_intI, bi_intB, bi_strI, bi_strS, bi_abs, bi_max, bi_min, bi_all, bi_any, bi_sum, in_l, in_t, in_s, tr_b, tr_i, tr_n, tr_l, tr_t, so_l, so_t, so_s, so_f, io_t, ng_i, pt_i, ag_a, ag_s, rv_l, rv_t, ap_d, rk_l, rk_t, rk_s, rg_1, rg_2, sl_l, sl_t, sl_s, mt_ixS, wp_mkT0, wp_mkT1, wp_mkT2, wp_mkT3, wp_mkT4, wp_mkT5, wp_mkT6, wp_mkT7, wp_mkT8, wp_datR, wp_idxR, wp_setR, wp_appR, set_last, get_last, le_line, lt_line, wp_newM, lg9, meth_words, wp_mkTR, not_true_eq_false, not_false_eq_true, eq_self, ofString_inj, String.reduceEq, wipeS, wp_inS, false_and, and_false]
      exact hJ
    · simp only [wp_ret, wp_bnd, wp_some, wp_grd, wp_no, wp_dat_pd, wp_dat_fz,  ev, evs, evO, evI, evC, evTs, AI.ex, asgG, asgGs, getV, wp_exs, wp_exs_nil, goS_nx, goS_rt, goS_bk, goS_ct, turnE_nx, turnE_ct, turnE_bk, turnE_rt, endD_rt, endD_nx, back_pd, binS, isFz, cmpS, biS, dats, truth, isiS, allPd, isiD, rkOf, join_some, Option.map, List.map, List.length_cons, List.length_nil, List.getElem?_cons_zero, List.getElem?_cons_succ, List.set_cons_zero, List.set_cons_succ, startS, atI_pos, atI_cast, Int.toNat_natCast, wp_newL1, wp_newL2, wp_newT1, List.length_set, List.set_set, decide_eq_true_eq, decide_eq_false_iff_not, Bool.not_eq_true', true_and, and_true,  ixN_pos, Int.reduceLE, Int.reduceLT, Int.reduceToNat, Int.reduceAdd, Int.reduceSub, Int.reduceMul, Int.reduceMod, Int.reduceNeg, Int.reducePow, Nat.reduceAdd, Nat.reduceLT, Nat.reduceLeDiff, Nat.reduceSub, reduceIte, Int.reduceEq, List.isEmpty_nil, Bool.false_eq_true, Bool.true_eq_false, decide_true, decide_false, ge_iff_le, gt_iff_lt,  wp_eq_int, wp_eq_str, wp_eq_bool, List.length_map, List.replicate, List.cons_append, List.nil_append, Bool.not_false, Bool.not_true, Bool.and_true, Bool.true_and, Bool.and_self, Bool.and_false, Bool.false_and, Option.bind, bn_add, bn_sub, bn_mul, bn_div, bn_mod, bn_pow, bn_addS, bn_addT, bn_addL, cp_eq, cp_ne, cp_ltI, cp_leI, cp_gtI, cp_geI, cp_ltS, cp_leS, cp_gtS, cp_geS, cp_ltT, cp_gtT, cp_in, cp_nin, cp_is, cp_isn, ix_l, ix_t, ix_s, ixs_tp, ixs_pd, ixs_rf, ixs_fz, cel_d, cel_r, mkLst, clsOf, clOf_d, clOf_r, wp_reprB, revS, isi2S, Bool.or_false, Bool.or_true, Bool.false_or, Bool.true_or, bi_lenL, bi_lenT, bi_lenS, bi_listL, bi_listT, bi_tupL, bi_tupT, bi_intI, bi_intB, bi_strI, bi_strS, bi_abs, bi_max, bi_min, bi_all, bi_any, bi_sum, in_l, in_t, in_s, tr_b, tr_i, tr_n, tr_l, tr_t, so_l, so_t, so_s, so_f, io_t, ng_i, pt_i, ag_a, ag_s, rv_l, rv_t, ap_d, rk_l, rk_t, rk_s, rg_1, rg_2, sl_l, sl_t, sl_s, mt_ixS, wp_mkT0, wp_mkT1, wp_mkT2, wp_mkT3, wp_mkT4, wp_mkT5, wp_mkT6, wp_mkT7, wp_mkT8, wp_datR, wp_idxR, wp_setR, wp_appR, set_last, get_last, le_line, lt_line, wp_newM, lg9, meth_words, wp_mkTR, not_true_eq_false, not_false_eq_true, eq_self, ofString_inj, String.reduceEq, wipeS, wp_inS, false_and, and_false, boolsOf_map, List.all_map]
      have e : canB vs t.cs = (List.range vs.length).all (dueAt vs t.cs) := by
        unfold canB
        rw [decide_eq_true c, Bool.true_and]
      rw [e] at ret
      exact ret
end
theorem pop_mod {bx : Bool} {n : Nat} {i : Int} : methS bx .popAt .list (.rf n) [.pd (.int i)] = mod n fun ds => M.bnd (M.grd (decide (-(2 ^ 63) ≤ i ∧ i < 2 ^ 63))) fun _ => M.bnd (M.opt (seqIndex? i ds.length)) fun k => M.bnd (M.opt ds[k]?) fun d => M.ret (d, ds.eraseIdx k) := rfl
theorem wp_popR {bx : Bool} {n : Nat} {i : Int} {ds : List D} {R : RV → Boxes → Prop} {h : Boxes} (e : h[n]? = some (.lst ds)) (h0 : 0 ≤ i) (h1 : i < ds.length) (hl : ds.length ≤ 1000) (q : ∀ d ∈ ds, R (.pd d) (h.set n (.lst (ds.eraseIdx i.toNat)))) : wp (methS bx .popAt .list (.rf n) [.pd (.int i)]) R h := by
  rw [pop_mod]
  have hi : i.toNat < ds.length := by omega
  have e1 : seqIndex? i ds.length = some i.toNat := by
    unfold seqIndex?
    simp only [if_neg (show ¬ i < 0 by omega)]
    rw [if_pos (by simp; omega)]
  have e2 : ds[i.toNat]? = some ds[i.toNat] := List.getElem?_eq_getElem hi
  have hsl := sizeLine_eq
  have hle : (ds.eraseIdx i.toNat).length ≤ sizeLine := by
    have := List.length_eraseIdx_le (l := ds) (i := i.toNat)
    omega
  refine ⟨.pd ds[i.toNat], h.set n (.lst (ds.eraseIdx i.toNat)), ?_, q _ (List.getElem_mem hi)⟩
  have e3 : decide (-(2 ^ 63) ≤ i ∧ i < 2 ^ 63) = true := decide_eq_true ⟨by omega, by omega⟩
  simp only [mod, e, M.bnd, M.grd, e3, if_true, e1, M.opt, e2, M.ret, hle]
section
variable {x : Box} {Q : RV → Boxes → Prop} {k B : Nat} {b : Box}
theorem some1 {P : D → Prop} {ds : List D} (hp : ∀ d ∈ ds, P d) (h1 : 1 ≤ ds.length) (h2 : ds.length ≤ 100) (t : TapeB B b) (hB : B + 1 + ds.length ≤ 16000000)
    (q : ∀ es b', TapeB (B + 1 + ds.length) b' → (∀ d ∈ es, P d) → es.length ≤ ds.length → Q (.pd (.tuple es)) [b', x]) : wp ((TM (k + 2)).call false "_law_some" [.rf 0, .pd (.list ds)]) Q [b, x] := by
  refine wp_call (r_law_some _) (wp_def rfl ?_)
  have ret : ∀ es b' (j : Boxes), TapeB (B + 1 + ds.length) b' → (∀ d ∈ es, P d) → es.length ≤ ds.length → back [b, x].length false Q (.pd (.tuple es)) (b' :: x :: j) := fun es b' j t' g1 g2 => by rw [back_pd]; exact q es b' t' g1 g2
  generalize back [b, x].length false Q = Q' at *
  clear q
  have hsl := sizeLine_eq
  have hz : ds.length ≤ 1000000 := by omega
  simp only [wp_ret, wp_bnd, wp_some, wp_grd, wp_no, wp_dat_pd, wp_dat_fz,  ev, evs, evO, evI, evC, evTs, AI.ex, asgG, asgGs, getV, wp_exs, wp_exs_nil, goS_nx, goS_rt, goS_bk, goS_ct, turnE_nx, turnE_ct, turnE_bk, turnE_rt, endD_rt, endD_nx, back_pd, binS, isFz, cmpS, biS, dats, truth, isiS, allPd, isiD, rkOf, join_some, Option.map, List.map, List.length_cons, List.length_nil, List.getElem?_cons_zero, List.getElem?_cons_succ, List.set_cons_zero, List.set_cons_succ, startS, atI_pos, atI_cast, Int.toNat_natCast, wp_newL1, wp_newL2, wp_newT1, List.length_set, List.set_set, decide_eq_true_eq, decide_eq_false_iff_not, Bool.not_eq_true', true_and, and_true,  ixN_pos, Int.reduceLE, Int.reduceLT, Int.reduceToNat, Int.reduceAdd, Int.reduceSub, Int.reduceMul, Int.reduceMod, Int.reduceNeg, Int.reducePow, Nat.reduceAdd, Nat.reduceLT, Nat.reduceLeDiff, Nat.reduceSub, reduceIte, Int.reduceEq, List.isEmpty_nil, Bool.false_eq_true, Bool.true_eq_false, decide_true, decide_false, ge_iff_le, gt_iff_lt,  wp_eq_int, wp_eq_str, wp_eq_bool, List.length_map, List.replicate, List.cons_append, List.nil_append, Bool.not_false, Bool.not_true, Bool.and_true, Bool.true_and, Bool.and_self, Bool.and_false, Bool.false_and, Option.bind, bn_add, bn_sub, bn_mul, bn_div, bn_mod, bn_pow, bn_addS, bn_addT, bn_addL, cp_eq, cp_ne, cp_ltI, cp_leI, cp_gtI, cp_geI, cp_ltS, cp_leS, cp_gtS, cp_geS, cp_ltT, cp_gtT, cp_in, cp_nin, cp_is, cp_isn, ix_l, ix_t, ix_s, ixs_tp, ixs_pd, ixs_rf, ixs_fz, cel_d, cel_r, mkLst, clsOf, clOf_d, clOf_r, wp_reprB, revS, isi2S, Bool.or_false, Bool.or_true, Bool.false_or, Bool.true_or, bi_lenL, bi_lenT, bi_lenS, bi_listL, bi_listT, bi_tupL, bi_tupT, bi_intI, bi_intB, bi_strI, bi_strS, bi_abs, bi_max, bi_min, bi_all, bi_any, bi_sum, in_l, in_t, in_s, tr_b, tr_i, tr_n, tr_l, tr_t, so_l, so_t, so_s, so_f, io_t, ng_i, pt_i, ag_a, ag_s, rv_l, rv_t, ap_d, rk_l, rk_t, rk_s, rg_1, rg_2, sl_l, sl_t, sl_s, mt_ixS, wp_mkT0, wp_mkT1, wp_mkT2, wp_mkT3, wp_mkT4, wp_mkT5, wp_mkT6, wp_mkT7, wp_mkT8, wp_datR, wp_idxR, wp_setR, wp_appR, set_last, get_last, le_line, lt_line, wp_newM, lg9, meth_words, wp_mkTR, not_true_eq_false, not_false_eq_true, eq_self, ofString_inj, String.reduceEq, wipeS, wp_inS, false_and, and_false, b_law_some, wp_newL2 hz, List.append_nil]
  refine draw1 (r_law_draw k) t (by omega) (by omega) fun z b1 t1 hz1 => ?_
  obtain ⟨z0, z1⟩ := hz1.lt (by omega)
  try simp only [wp_ret, wp_bnd, wp_some, wp_grd, wp_no, wp_dat_pd, wp_dat_fz,  ev, evs, evO, evI, evC, evTs, AI.ex, asgG, asgGs, getV, wp_exs, wp_exs_nil, goS_nx, goS_rt, goS_bk, goS_ct, turnE_nx, turnE_ct, turnE_bk, turnE_rt, endD_rt, endD_nx, back_pd, binS, isFz, cmpS, biS, dats, truth, isiS, allPd, isiD, rkOf, join_some, Option.map, List.map, List.length_cons, List.length_nil, List.getElem?_cons_zero, List.getElem?_cons_succ, List.set_cons_zero, List.set_cons_succ, startS, atI_pos, atI_cast, Int.toNat_natCast, wp_newL1, wp_newL2, wp_newT1, List.length_set, List.set_set, decide_eq_true_eq, decide_eq_false_iff_not, Bool.not_eq_true', true_and, and_true,  ixN_pos, Int.reduceLE, Int.reduceLT, Int.reduceToNat, Int.reduceAdd, Int.reduceSub, Int.reduceMul, Int.reduceMod, Int.reduceNeg, Int.reducePow, Nat.reduceAdd, Nat.reduceLT, Nat.reduceLeDiff, Nat.reduceSub, reduceIte, Int.reduceEq, List.isEmpty_nil, Bool.false_eq_true, Bool.true_eq_false, decide_true, decide_false, ge_iff_le, gt_iff_lt,  wp_eq_int, wp_eq_str, wp_eq_bool, List.length_map, List.replicate, List.cons_append, List.nil_append, Bool.not_false, Bool.not_true, Bool.and_true, Bool.true_and, Bool.and_self, Bool.and_false, Bool.false_and, Option.bind, bn_add, bn_sub, bn_mul, bn_div, bn_mod, bn_pow, bn_addS, bn_addT, bn_addL, cp_eq, cp_ne, cp_ltI, cp_leI, cp_gtI, cp_geI, cp_ltS, cp_leS, cp_gtS, cp_geS, cp_ltT, cp_gtT, cp_in, cp_nin, cp_is, cp_isn, ix_l, ix_t, ix_s, ixs_tp, ixs_pd, ixs_rf, ixs_fz, cel_d, cel_r, mkLst, clsOf, clOf_d, clOf_r, wp_reprB, revS, isi2S, Bool.or_false, Bool.or_true, Bool.false_or, Bool.true_or, bi_lenL, bi_lenT, bi_lenS, bi_listL, bi_listT, bi_tupL, bi_tupT, bi_intI, bi_intB, bi_strI, bi_strS, bi_abs, bi_max, bi_min, bi_all, bi_any, bi_sum, in_l, in_t, in_s, tr_b, tr_i, tr_n, tr_l, tr_t, so_l, so_t, so_s, so_f, io_t, ng_i, pt_i, ag_a, ag_s, rv_l, rv_t, ap_d, rk_l, rk_t, rk_s, rg_1, rg_2, sl_l, sl_t, sl_s, mt_ixS, wp_mkT0, wp_mkT1, wp_mkT2, wp_mkT3, wp_mkT4, wp_mkT5, wp_mkT6, wp_mkT7, wp_mkT8, wp_datR, wp_idxR, wp_setR, wp_appR, set_last, get_last, le_line, lt_line, wp_newM, lg9, meth_words, wp_mkTR, not_true_eq_false, not_false_eq_true, eq_self, ofString_inj, String.reduceEq, wipeS, wp_inS, false_and, and_false]
  refine ⟨⟨by omega, by omega⟩, ?_⟩
  refine wp_rngJ (fun i σ h' => ∃ (b' : Box) (left es : List D) (y4 : Option RV), TapeB (B + 1 + i) b' ∧ left.length + i = ds.length ∧ es.length = i ∧ (∀ d ∈ left, P d) ∧ (∀ d ∈ es, P d) ∧ h' = [b', x, .lst left, .lst es] ∧ σ = [some (.rf 0), some (.pd (.list ds)), some (.rf 2), some (.rf 3), y4]) ⟨b1, ds, [], _, t1, rfl, rfl, hp, by simp, rfl, rfl⟩ ?_ ?_
  · rintro i hi σ h' ⟨b2, left, es, y4, t2, l1, l2, p1, p2, rfl, rfl⟩ J hJ
    simp only [wp_ret, wp_bnd, wp_some, wp_grd, wp_no, wp_dat_pd, wp_dat_fz,  ev, evs, evO, evI, evC, evTs, AI.ex, asgG, asgGs, getV, wp_exs, wp_exs_nil, goS_nx, goS_rt, goS_bk, goS_ct, turnE_nx, turnE_ct, turnE_bk, turnE_rt, endD_rt, endD_nx, back_pd, binS, isFz, cmpS, biS, dats, truth, isiS, allPd, isiD, rkOf, join_some, Option.map, List.map, List.length_cons, List.length_nil, List.getElem?_cons_zero, List.getElem?_cons_succ, List.set_cons_zero, List.set_cons_succ, startS, atI_pos, atI_cast, Int.toNat_natCast, wp_newL1, wp_newL2, wp_newT1, List.length_set, List.set_set, decide_eq_true_eq, decide_eq_false_iff_not, Bool.not_eq_true', true_and, and_true,  ixN_pos, Int.reduceLE, Int.reduceLT, Int.reduceToNat, Int.reduceAdd, Int.reduceSub, Int.reduceMul, Int.reduceMod, Int.reduceNeg, Int.reducePow, Nat.reduceAdd, Nat.reduceLT, Nat.reduceLeDiff, Nat.reduceSub, reduceIte, Int.reduceEq, List.isEmpty_nil, Bool.false_eq_true, Bool.true_eq_false, decide_true, decide_false, ge_iff_le, gt_iff_lt,  wp_eq_int, wp_eq_str, wp_eq_bool, List.length_map, List.replicate, List.cons_append, List.nil_append, Bool.not_false, Bool.not_true, Bool.and_true, Bool.true_and, Bool.and_self, Bool.and_false, Bool.false_and, Option.bind, bn_add, bn_sub, bn_mul, bn_div, bn_mod, bn_pow, bn_addS, bn_addT, bn_addL, cp_eq, cp_ne, cp_ltI, cp_leI, cp_gtI, cp_geI, cp_ltS, cp_leS, cp_gtS, cp_geS, cp_ltT, cp_gtT, cp_in, cp_nin, cp_is, cp_isn, ix_l, ix_t, ix_s, ixs_tp, ixs_pd, ixs_rf, ixs_fz, cel_d, cel_r, mkLst, clsOf, clOf_d, clOf_r, wp_reprB, revS, isi2S, Bool.or_false, Bool.or_true, Bool.false_or, Bool.true_or, bi_lenL, bi_lenT, bi_lenS, bi_listL, bi_listT, bi_tupL, bi_tupT, bi_intI, bi_intB, bi_strI, bi_strS, bi_abs, bi_max, bi_min, bi_all, bi_any, bi_sum, in_l, in_t, in_s, tr_b, tr_i, tr_n, tr_l, tr_t, so_l, so_t, so_s, so_f, io_t, ng_i, pt_i, ag_a, ag_s, rv_l, rv_t, ap_d, rk_l, rk_t, rk_s, rg_1, rg_2, sl_l, sl_t, sl_s, mt_ixS, wp_mkT0, wp_mkT1, wp_mkT2, wp_mkT3, wp_mkT4, wp_mkT5, wp_mkT6, wp_mkT7, wp_mkT8, wp_datR, wp_idxR, wp_setR, wp_appR, set_last, get_last, le_line, lt_line, wp_newM, lg9, meth_words, wp_mkTR, not_true_eq_false, not_false_eq_true, eq_self, ofString_inj, String.reduceEq, wipeS, wp_inS, false_and, and_false]
    refine draw1 (r_law_draw k) t2 (by omega) (by omega) fun u b3 t3 hu => ?_
    obtain ⟨u0, u1⟩ := hu.lt (by omega)
    try simp only [wp_ret, wp_bnd, wp_some, wp_grd, wp_no, wp_dat_pd, wp_dat_fz,  ev, evs, evO, evI, evC, evTs, AI.ex, asgG, asgGs, getV, wp_exs, wp_exs_nil, goS_nx, goS_rt, goS_bk, goS_ct, turnE_nx, turnE_ct, turnE_bk, turnE_rt, endD_rt, endD_nx, back_pd, binS, isFz, cmpS, biS, dats, truth, isiS, allPd, isiD, rkOf, join_some, Option.map, List.map, List.length_cons, List.length_nil, List.getElem?_cons_zero, List.getElem?_cons_succ, List.set_cons_zero, List.set_cons_succ, startS, atI_pos, atI_cast, Int.toNat_natCast, wp_newL1, wp_newL2, wp_newT1, List.length_set, List.set_set, decide_eq_true_eq, decide_eq_false_iff_not, Bool.not_eq_true', true_and, and_true,  ixN_pos, Int.reduceLE, Int.reduceLT, Int.reduceToNat, Int.reduceAdd, Int.reduceSub, Int.reduceMul, Int.reduceMod, Int.reduceNeg, Int.reducePow, Nat.reduceAdd, Nat.reduceLT, Nat.reduceLeDiff, Nat.reduceSub, reduceIte, Int.reduceEq, List.isEmpty_nil, Bool.false_eq_true, Bool.true_eq_false, decide_true, decide_false, ge_iff_le, gt_iff_lt,  wp_eq_int, wp_eq_str, wp_eq_bool, List.length_map, List.replicate, List.cons_append, List.nil_append, Bool.not_false, Bool.not_true, Bool.and_true, Bool.true_and, Bool.and_self, Bool.and_false, Bool.false_and, Option.bind, bn_add, bn_sub, bn_mul, bn_div, bn_mod, bn_pow, bn_addS, bn_addT, bn_addL, cp_eq, cp_ne, cp_ltI, cp_leI, cp_gtI, cp_geI, cp_ltS, cp_leS, cp_gtS, cp_geS, cp_ltT, cp_gtT, cp_in, cp_nin, cp_is, cp_isn, ix_l, ix_t, ix_s, ixs_tp, ixs_pd, ixs_rf, ixs_fz, cel_d, cel_r, mkLst, clsOf, clOf_d, clOf_r, wp_reprB, revS, isi2S, Bool.or_false, Bool.or_true, Bool.false_or, Bool.true_or, bi_lenL, bi_lenT, bi_lenS, bi_listL, bi_listT, bi_tupL, bi_tupT, bi_intI, bi_intB, bi_strI, bi_strS, bi_abs, bi_max, bi_min, bi_all, bi_any, bi_sum, in_l, in_t, in_s, tr_b, tr_i, tr_n, tr_l, tr_t, so_l, so_t, so_s, so_f, io_t, ng_i, pt_i, ag_a, ag_s, rv_l, rv_t, ap_d, rk_l, rk_t, rk_s, rg_1, rg_2, sl_l, sl_t, sl_s, mt_ixS, wp_mkT0, wp_mkT1, wp_mkT2, wp_mkT3, wp_mkT4, wp_mkT5, wp_mkT6, wp_mkT7, wp_mkT8, wp_datR, wp_idxR, wp_setR, wp_appR, set_last, get_last, le_line, lt_line, wp_newM, lg9, meth_words, wp_mkTR, not_true_eq_false, not_false_eq_true, eq_self, ofString_inj, String.reduceEq, wipeS, wp_inS, false_and, and_false]
    refine wp_popR rfl u0 u1 (by omega) fun d hd => ?_
    simp only [wp_ret, wp_bnd, wp_some, wp_grd, wp_no, wp_dat_pd, wp_dat_fz,  ev, evs, evO, evI, evC, evTs, AI.ex, asgG, asgGs, getV, wp_exs, wp_exs_nil, goS_nx, goS_rt, goS_bk, goS_ct, turnE_nx, turnE_ct, turnE_bk, turnE_rt, endD_rt, endD_nx, back_pd, binS, isFz, cmpS, biS, dats, truth, isiS, allPd, isiD, rkOf, join_some, Option.map, List.map, List.length_cons, List.length_nil, List.getElem?_cons_zero, List.getElem?_cons_succ, List.set_cons_zero, List.set_cons_succ, startS, atI_pos, atI_cast, Int.toNat_natCast, wp_newL1, wp_newL2, wp_newT1, List.length_set, List.set_set, decide_eq_true_eq, decide_eq_false_iff_not, Bool.not_eq_true', true_and, and_true,  ixN_pos, Int.reduceLE, Int.reduceLT, Int.reduceToNat, Int.reduceAdd, Int.reduceSub, Int.reduceMul, Int.reduceMod, Int.reduceNeg, Int.reducePow, Nat.reduceAdd, Nat.reduceLT, Nat.reduceLeDiff, Nat.reduceSub, reduceIte, Int.reduceEq, List.isEmpty_nil, Bool.false_eq_true, Bool.true_eq_false, decide_true, decide_false, ge_iff_le, gt_iff_lt,  wp_eq_int, wp_eq_str, wp_eq_bool, List.length_map, List.replicate, List.cons_append, List.nil_append, Bool.not_false, Bool.not_true, Bool.and_true, Bool.true_and, Bool.and_self, Bool.and_false, Bool.false_and, Option.bind, bn_add, bn_sub, bn_mul, bn_div, bn_mod, bn_pow, bn_addS, bn_addT, bn_addL, cp_eq, cp_ne, cp_ltI, cp_leI, cp_gtI, cp_geI, cp_ltS, cp_leS, cp_gtS, cp_geS, cp_ltT, cp_gtT, cp_in, cp_nin, cp_is, cp_isn, ix_l, ix_t, ix_s, ixs_tp, ixs_pd, ixs_rf, ixs_fz, cel_d, cel_r, mkLst, clsOf, clOf_d, clOf_r, wp_reprB, revS, isi2S, Bool.or_false, Bool.or_true, Bool.false_or, Bool.true_or, bi_lenL, bi_lenT, bi_lenS, bi_listL, bi_listT, bi_tupL, bi_tupT, bi_intI, bi_intB, bi_strI, bi_strS, bi_abs, bi_max, bi_min, bi_all, bi_any, bi_sum, in_l, in_t, in_s, tr_b, tr_i, tr_n, tr_l, tr_t, so_l, so_t, so_s, so_f, io_t, ng_i, pt_i, ag_a, ag_s, rv_l, rv_t, ap_d, rk_l, rk_t, rk_s, rg_1, rg_2, sl_l, sl_t, sl_s, mt_ixS, wp_mkT0, wp_mkT1, wp_mkT2, wp_mkT3, wp_mkT4, wp_mkT5, wp_mkT6, wp_mkT7, wp_mkT8, wp_datR, wp_idxR, wp_setR, wp_appR, set_last, get_last, le_line, lt_line, wp_newM, lg9, meth_words, wp_mkTR, not_true_eq_false, not_false_eq_true, eq_self, ofString_inj, String.reduceEq, wipeS, wp_inS, false_and, and_false]
    refine ⟨by omega, hJ _ _ ⟨b3, _, _, _, t3.up (by omega), ?_, ?_, fun a ha => p1 a (List.mem_of_mem_eraseIdx ha), fun a ha => ?_, rfl, rfl⟩⟩
    · rw [List.length_eraseIdx, if_pos (by omega)]; omega
    · simp [l2]
    · rcases List.mem_append.mp ha with ha | ha
      · exact p2 a ha
      · have e : a = d := by simpa using ha
        rw [e]; exact p1 d hd
  · rintro σ h' ⟨b2, left, es, y4, t2, l1, l2, p1, p2, rfl, rfl⟩
    have hz3 : es.length ≤ 1000000 := by omega
    simp only [wp_ret, wp_bnd, wp_some, wp_grd, wp_no, wp_dat_pd, wp_dat_fz,  ev, evs, evO, evI, evC, evTs, AI.ex, asgG, asgGs, getV, wp_exs, wp_exs_nil, goS_nx, goS_rt, goS_bk, goS_ct, turnE_nx, turnE_ct, turnE_bk, turnE_rt, endD_rt, endD_nx, back_pd, binS, isFz, cmpS, biS, dats, truth, isiS, allPd, isiD, rkOf, join_some, Option.map, List.map, List.length_cons, List.length_nil, List.getElem?_cons_zero, List.getElem?_cons_succ, List.set_cons_zero, List.set_cons_succ, startS, atI_pos, atI_cast, Int.toNat_natCast, wp_newL1, wp_newL2, wp_newT1, List.length_set, List.set_set, decide_eq_true_eq, decide_eq_false_iff_not, Bool.not_eq_true', true_and, and_true,  ixN_pos, Int.reduceLE, Int.reduceLT, Int.reduceToNat, Int.reduceAdd, Int.reduceSub, Int.reduceMul, Int.reduceMod, Int.reduceNeg, Int.reducePow, Nat.reduceAdd, Nat.reduceLT, Nat.reduceLeDiff, Nat.reduceSub, reduceIte, Int.reduceEq, List.isEmpty_nil, Bool.false_eq_true, Bool.true_eq_false, decide_true, decide_false, ge_iff_le, gt_iff_lt,  wp_eq_int, wp_eq_str, wp_eq_bool, List.length_map, List.replicate, List.cons_append, List.nil_append, Bool.not_false, Bool.not_true, Bool.and_true, Bool.true_and, Bool.and_self, Bool.and_false, Bool.false_and, Option.bind, bn_add, bn_sub, bn_mul, bn_div, bn_mod, bn_pow, bn_addS, bn_addT, bn_addL, cp_eq, cp_ne, cp_ltI, cp_leI, cp_gtI, cp_geI, cp_ltS, cp_leS, cp_gtS, cp_geS, cp_ltT, cp_gtT, cp_in, cp_nin, cp_is, cp_isn, ix_l, ix_t, ix_s, ixs_tp, ixs_pd, ixs_rf, ixs_fz, cel_d, cel_r, mkLst, clsOf, clOf_d, clOf_r, wp_reprB, revS, isi2S, Bool.or_false, Bool.or_true, Bool.false_or, Bool.true_or, bi_lenL, bi_lenT, bi_lenS, bi_listL, bi_listT, bi_tupL, bi_tupT, bi_intI, bi_intB, bi_strI, bi_strS, bi_abs, bi_max, bi_min, bi_all, bi_any, bi_sum, in_l, in_t, in_s, tr_b, tr_i, tr_n, tr_l, tr_t, so_l, so_t, so_s, so_f, io_t, ng_i, pt_i, ag_a, ag_s, rv_l, rv_t, ap_d, rk_l, rk_t, rk_s, rg_1, rg_2, sl_l, sl_t, sl_s, mt_ixS, wp_mkT0, wp_mkT1, wp_mkT2, wp_mkT3, wp_mkT4, wp_mkT5, wp_mkT6, wp_mkT7, wp_mkT8, wp_datR, wp_idxR, wp_setR, wp_appR, set_last, get_last, le_line, lt_line, wp_newM, lg9, meth_words, wp_mkTR, not_true_eq_false, not_false_eq_true, eq_self, ofString_inj, String.reduceEq, wipeS, wp_inS, false_and, and_false, wp_newT1 hz3]
    exact ret _ _ _ (t2.up (by omega)) p2 (by omega)
theorem all_cD : ∀ {es : List D}, (∀ d ∈ es, ∃ c, d = cD c) → ∃ cs : List (Str × Bool), es = cs.map cD
  | [], _ => ⟨[], rfl⟩
  | d :: es, h => by
    obtain ⟨c, rfl⟩ := h d (List.mem_cons_self ..)
    obtain ⟨cs, rfl⟩ := all_cD (es := es) fun d hd => h d (List.mem_cons_of_mem _ hd)
    exact ⟨c :: cs, rfl⟩
theorem cut_mem {es : List D} {lo hi : Option Int} : ∀ d ∈ cutL es lo hi, d ∈ es := fun d hd => List.mem_of_mem_drop (List.mem_of_mem_take hd)
theorem cut_len {es : List D} {lo hi : Option Int} : (cutL es lo hi).length ≤ es.length := by
  unfold cutL
  rw [List.length_take, List.length_drop]; omega
theorem snoc_fold {α : Type} : ∀ (l a : List α), l.foldl (fun a s => a ++ [s]) a = a ++ l
  | [], a => by simp
  | x :: l, a => by rw [List.foldl_cons, snoc_fold l]; simp
theorem tables {m : Nat} {xs : List Str} (hx : Nms m xs) (hm : m ≤ 8) (t : TapeB B b) (hB : B + 400 ≤ 16000000)
    (q : ∀ (ts : List Tbl) b', TapeB (B + 400) b' → (ts.map (·.nm)).Nodup → ts.length ≤ 8 → (∀ t ∈ ts, t.cs.length ≤ 8) → Q (.pd (.tuple (ts.map Tbl.toD))) [b']) : wp ((TM (k + 4)).call false "_law_plain_tables" [.rf 0, .pd (.list (xs.map .str))]) Q [b] := by
  refine wp_call (r_law_plain_tables _) (wp_def rfl ?_)
  have ret : ∀ (ts : List Tbl) b' (j : Boxes), TapeB (B + 400) b' → (ts.map (·.nm)).Nodup → ts.length ≤ 8 → (∀ t ∈ ts, t.cs.length ≤ 8) → back [b].length false Q (.pd (.tuple (ts.map Tbl.toD))) (b' :: j) := fun ts b' j g1 g2 g3 g4 => by rw [back_pd]; exact q ts b' g1 g2 g3 g4
  generalize back [b].length false Q = Q' at *
  clear q
  have hsl := sizeLine_eq
  have hxl := hx.len
  simp only [wp_ret, wp_bnd, wp_some, wp_grd, wp_no, wp_dat_pd, wp_dat_fz,  ev, evs, evO, evI, evC, evTs, AI.ex, asgG, asgGs, getV, wp_exs, wp_exs_nil, goS_nx, goS_rt, goS_bk, goS_ct, turnE_nx, turnE_ct, turnE_bk, turnE_rt, endD_rt, endD_nx, back_pd, binS, isFz, cmpS, biS, dats, truth, isiS, allPd, isiD, rkOf, join_some, Option.map, List.map, List.length_cons, List.length_nil, List.getElem?_cons_zero, List.getElem?_cons_succ, List.set_cons_zero, List.set_cons_succ, startS, atI_pos, atI_cast, Int.toNat_natCast, wp_newL1, wp_newL2, wp_newT1, List.length_set, List.set_set, decide_eq_true_eq, decide_eq_false_iff_not, Bool.not_eq_true', true_and, and_true,  ixN_pos, Int.reduceLE, Int.reduceLT, Int.reduceToNat, Int.reduceAdd, Int.reduceSub, Int.reduceMul, Int.reduceMod, Int.reduceNeg, Int.reducePow, Nat.reduceAdd, Nat.reduceLT, Nat.reduceLeDiff, Nat.reduceSub, reduceIte, Int.reduceEq, List.isEmpty_nil, Bool.false_eq_true, Bool.true_eq_false, decide_true, decide_false, ge_iff_le, gt_iff_lt,  wp_eq_int, wp_eq_str, wp_eq_bool, List.length_map, List.replicate, List.cons_append, List.nil_append, Bool.not_false, Bool.not_true, Bool.and_true, Bool.true_and, Bool.and_self, Bool.and_false, Bool.false_and, Option.bind, bn_add, bn_sub, bn_mul, bn_div, bn_mod, bn_pow, bn_addS, bn_addT, bn_addL, cp_eq, cp_ne, cp_ltI, cp_leI, cp_gtI, cp_geI, cp_ltS, cp_leS, cp_gtS, cp_geS, cp_ltT, cp_gtT, cp_in, cp_nin, cp_is, cp_isn, ix_l, ix_t, ix_s, ixs_tp, ixs_pd, ixs_rf, ixs_fz, cel_d, cel_r, mkLst, clsOf, clOf_d, clOf_r, wp_reprB, revS, isi2S, Bool.or_false, Bool.or_true, Bool.false_or, Bool.true_or, bi_lenL, bi_lenT, bi_lenS, bi_listL, bi_listT, bi_tupL, bi_tupT, bi_intI, bi_intB, bi_strI, bi_strS, bi_abs, bi_max, bi_min, bi_all, bi_any, bi_sum, in_l, in_t, in_s, tr_b, tr_i, tr_n, tr_l, tr_t, so_l, so_t, so_s, so_f, io_t, ng_i, pt_i, ag_a, ag_s, rv_l, rv_t, ap_d, rk_l, rk_t, rk_s, rg_1, rg_2, sl_l, sl_t, sl_s, mt_ixS, wp_mkT0, wp_mkT1, wp_mkT2, wp_mkT3, wp_mkT4, wp_mkT5, wp_mkT6, wp_mkT7, wp_mkT8, wp_datR, wp_idxR, wp_setR, wp_appR, set_last, get_last, le_line, lt_line, wp_newM, lg9, meth_words, wp_mkTR, not_true_eq_false, not_false_eq_true, eq_self, ofString_inj, String.reduceEq, wipeS, wp_inS, false_and, and_false, b_law_plain_tables]
  refine draw1 (r_law_draw (k + 2)) t (by omega) (by decide) fun v b1 t1 hv => ?_
  obtain ⟨v0, v1⟩ := hv.lt (by decide)
  try simp only [wp_ret, wp_bnd, wp_some, wp_grd, wp_no, wp_dat_pd, wp_dat_fz,  ev, evs, evO, evI, evC, evTs, AI.ex, asgG, asgGs, getV, wp_exs, wp_exs_nil, goS_nx, goS_rt, goS_bk, goS_ct, turnE_nx, turnE_ct, turnE_bk, turnE_rt, endD_rt, endD_nx, back_pd, binS, isFz, cmpS, biS, dats, truth, isiS, allPd, isiD, rkOf, join_some, Option.map, List.map, List.length_cons, List.length_nil, List.getElem?_cons_zero, List.getElem?_cons_succ, List.set_cons_zero, List.set_cons_succ, startS, atI_pos, atI_cast, Int.toNat_natCast, wp_newL1, wp_newL2, wp_newT1, List.length_set, List.set_set, decide_eq_true_eq, decide_eq_false_iff_not, Bool.not_eq_true', true_and, and_true,  ixN_pos, Int.reduceLE, Int.reduceLT, Int.reduceToNat, Int.reduceAdd, Int.reduceSub, Int.reduceMul, Int.reduceMod, Int.reduceNeg, Int.reducePow, Nat.reduceAdd, Nat.reduceLT, Nat.reduceLeDiff, Nat.reduceSub, reduceIte, Int.reduceEq, List.isEmpty_nil, Bool.false_eq_true, Bool.true_eq_false, decide_true, decide_false, ge_iff_le, gt_iff_lt,  wp_eq_int, wp_eq_str, wp_eq_bool, List.length_map, List.replicate, List.cons_append, List.nil_append, Bool.not_false, Bool.not_true, Bool.and_true, Bool.true_and, Bool.and_self, Bool.and_false, Bool.false_and, Option.bind, bn_add, bn_sub, bn_mul, bn_div, bn_mod, bn_pow, bn_addS, bn_addT, bn_addL, cp_eq, cp_ne, cp_ltI, cp_leI, cp_gtI, cp_geI, cp_ltS, cp_leS, cp_gtS, cp_geS, cp_ltT, cp_gtT, cp_in, cp_nin, cp_is, cp_isn, ix_l, ix_t, ix_s, ixs_tp, ixs_pd, ixs_rf, ixs_fz, cel_d, cel_r, mkLst, clsOf, clOf_d, clOf_r, wp_reprB, revS, isi2S, Bool.or_false, Bool.or_true, Bool.false_or, Bool.true_or, bi_lenL, bi_lenT, bi_lenS, bi_listL, bi_listT, bi_tupL, bi_tupT, bi_intI, bi_intB, bi_strI, bi_strS, bi_abs, bi_max, bi_min, bi_all, bi_any, bi_sum, in_l, in_t, in_s, tr_b, tr_i, tr_n, tr_l, tr_t, so_l, so_t, so_s, so_f, io_t, ng_i, pt_i, ag_a, ag_s, rv_l, rv_t, ap_d, rk_l, rk_t, rk_s, rg_1, rg_2, sl_l, sl_t, sl_s, mt_ixS, wp_mkT0, wp_mkT1, wp_mkT2, wp_mkT3, wp_mkT4, wp_mkT5, wp_mkT6, wp_mkT7, wp_mkT8, wp_datR, wp_idxR, wp_setR, wp_appR, set_last, get_last, le_line, lt_line, wp_newM, lg9, meth_words, wp_mkTR, not_true_eq_false, not_false_eq_true, eq_self, ofString_inj, String.reduceEq, wipeS, wp_inS, false_and, and_false]
  refine wp_atA (fun d => ∃ n : Nat, d = .int n ∧ 5 ≤ n ∧ n ≤ 8) v0 v1 ⟨⟨5, rfl, by omega, by omega⟩, ⟨5, rfl, by omega, by omega⟩, ⟨8, rfl, by omega, by omega⟩, trivial⟩ fun d ⟨n, e, n0, n1⟩ => ?_
  subst e
  try simp only [wp_ret, wp_bnd, wp_some, wp_grd, wp_no, wp_dat_pd, wp_dat_fz,  ev, evs, evO, evI, evC, evTs, AI.ex, asgG, asgGs, getV, wp_exs, wp_exs_nil, goS_nx, goS_rt, goS_bk, goS_ct, turnE_nx, turnE_ct, turnE_bk, turnE_rt, endD_rt, endD_nx, back_pd, binS, isFz, cmpS, biS, dats, truth, isiS, allPd, isiD, rkOf, join_some, Option.map, List.map, List.length_cons, List.length_nil, List.getElem?_cons_zero, List.getElem?_cons_succ, List.set_cons_zero, List.set_cons_succ, startS, atI_pos, atI_cast, Int.toNat_natCast, wp_newL1, wp_newL2, wp_newT1, List.length_set, List.set_set, decide_eq_true_eq, decide_eq_false_iff_not, Bool.not_eq_true', true_and, and_true,  ixN_pos, Int.reduceLE, Int.reduceLT, Int.reduceToNat, Int.reduceAdd, Int.reduceSub, Int.reduceMul, Int.reduceMod, Int.reduceNeg, Int.reducePow, Nat.reduceAdd, Nat.reduceLT, Nat.reduceLeDiff, Nat.reduceSub, reduceIte, Int.reduceEq, List.isEmpty_nil, Bool.false_eq_true, Bool.true_eq_false, decide_true, decide_false, ge_iff_le, gt_iff_lt,  wp_eq_int, wp_eq_str, wp_eq_bool, List.length_map, List.replicate, List.cons_append, List.nil_append, Bool.not_false, Bool.not_true, Bool.and_true, Bool.true_and, Bool.and_self, Bool.and_false, Bool.false_and, Option.bind, bn_add, bn_sub, bn_mul, bn_div, bn_mod, bn_pow, bn_addS, bn_addT, bn_addL, cp_eq, cp_ne, cp_ltI, cp_leI, cp_gtI, cp_geI, cp_ltS, cp_leS, cp_gtS, cp_geS, cp_ltT, cp_gtT, cp_in, cp_nin, cp_is, cp_isn, ix_l, ix_t, ix_s, ixs_tp, ixs_pd, ixs_rf, ixs_fz, cel_d, cel_r, mkLst, clsOf, clOf_d, clOf_r, wp_reprB, revS, isi2S, Bool.or_false, Bool.or_true, Bool.false_or, Bool.true_or, bi_lenL, bi_lenT, bi_lenS, bi_listL, bi_listT, bi_tupL, bi_tupT, bi_intI, bi_intB, bi_strI, bi_strS, bi_abs, bi_max, bi_min, bi_all, bi_any, bi_sum, in_l, in_t, in_s, tr_b, tr_i, tr_n, tr_l, tr_t, so_l, so_t, so_s, so_f, io_t, ng_i, pt_i, ag_a, ag_s, rv_l, rv_t, ap_d, rk_l, rk_t, rk_s, rg_1, rg_2, sl_l, sl_t, sl_s, mt_ixS, wp_mkT0, wp_mkT1, wp_mkT2, wp_mkT3, wp_mkT4, wp_mkT5, wp_mkT6, wp_mkT7, wp_mkT8, wp_datR, wp_idxR, wp_setR, wp_appR, set_last, get_last, le_line, lt_line, wp_newM, lg9, meth_words, wp_mkTR, not_true_eq_false, not_false_eq_true, eq_self, ofString_inj, String.reduceEq, wipeS, wp_inS, false_and, and_false]
  refine names1 (T := TM) (k := k) (m := n) r_law_names r_law_name r_law_draw t1 (by omega) (by omega) (by omega) fun ps b2 t2 hps => ?_
  have hpl := hps.len
  simp only [wp_ret, wp_bnd, wp_some, wp_grd, wp_no, wp_dat_pd, wp_dat_fz,  ev, evs, evO, evI, evC, evTs, AI.ex, asgG, asgGs, getV, wp_exs, wp_exs_nil, goS_nx, goS_rt, goS_bk, goS_ct, turnE_nx, turnE_ct, turnE_bk, turnE_rt, endD_rt, endD_nx, back_pd, binS, isFz, cmpS, biS, dats, truth, isiS, allPd, isiD, rkOf, join_some, Option.map, List.map, List.length_cons, List.length_nil, List.getElem?_cons_zero, List.getElem?_cons_succ, List.set_cons_zero, List.set_cons_succ, startS, atI_pos, atI_cast, Int.toNat_natCast, wp_newL1, wp_newL2, wp_newT1, List.length_set, List.set_set, decide_eq_true_eq, decide_eq_false_iff_not, Bool.not_eq_true', true_and, and_true,  ixN_pos, Int.reduceLE, Int.reduceLT, Int.reduceToNat, Int.reduceAdd, Int.reduceSub, Int.reduceMul, Int.reduceMod, Int.reduceNeg, Int.reducePow, Nat.reduceAdd, Nat.reduceLT, Nat.reduceLeDiff, Nat.reduceSub, reduceIte, Int.reduceEq, List.isEmpty_nil, Bool.false_eq_true, Bool.true_eq_false, decide_true, decide_false, ge_iff_le, gt_iff_lt,  wp_eq_int, wp_eq_str, wp_eq_bool, List.length_map, List.replicate, List.cons_append, List.nil_append, Bool.not_false, Bool.not_true, Bool.and_true, Bool.true_and, Bool.and_self, Bool.and_false, Bool.false_and, Option.bind, bn_add, bn_sub, bn_mul, bn_div, bn_mod, bn_pow, bn_addS, bn_addT, bn_addL, cp_eq, cp_ne, cp_ltI, cp_leI, cp_gtI, cp_geI, cp_ltS, cp_leS, cp_gtS, cp_geS, cp_ltT, cp_gtT, cp_in, cp_nin, cp_is, cp_isn, ix_l, ix_t, ix_s, ixs_tp, ixs_pd, ixs_rf, ixs_fz, cel_d, cel_r, mkLst, clsOf, clOf_d, clOf_r, wp_reprB, revS, isi2S, Bool.or_false, Bool.or_true, Bool.false_or, Bool.true_or, bi_lenL, bi_lenT, bi_lenS, bi_listL, bi_listT, bi_tupL, bi_tupT, bi_intI, bi_intB, bi_strI, bi_strS, bi_abs, bi_max, bi_min, bi_all, bi_any, bi_sum, in_l, in_t, in_s, tr_b, tr_i, tr_n, tr_l, tr_t, so_l, so_t, so_s, so_f, io_t, ng_i, pt_i, ag_a, ag_s, rv_l, rv_t, ap_d, rk_l, rk_t, rk_s, rg_1, rg_2, sl_l, sl_t, sl_s, mt_ixS, wp_mkT0, wp_mkT1, wp_mkT2, wp_mkT3, wp_mkT4, wp_mkT5, wp_mkT6, wp_mkT7, wp_mkT8, wp_datR, wp_idxR, wp_setR, wp_appR, set_last, get_last, le_line, lt_line, wp_newM, lg9, meth_words, wp_mkTR, not_true_eq_false, not_false_eq_true, eq_self, ofString_inj, String.reduceEq, wipeS, wp_inS, false_and, and_false]
  refine wp_lcT1 (hs := []) (fun i acc b' => (∀ d ∈ acc, ∃ c, d = cD c) ∧ acc.length = i ∧ TapeB (B + 1 + n + i) b') (by rw [List.length_map, sizeLine_eq]; omega) (fun i acc b' ⟨_, e, _⟩ => by omega) ⟨by simp, rfl, t2⟩ ?_ ?_
  · rintro i hi acc b3 ⟨a1, a2, t3⟩ J hJ
    rw [List.length_map] at hi
    rw [List.getElem_map]
    simp only [wp_ret, wp_bnd, wp_some, wp_grd, wp_no, wp_dat_pd, wp_dat_fz,  ev, evs, evO, evI, evC, evTs, AI.ex, asgG, asgGs, getV, wp_exs, wp_exs_nil, goS_nx, goS_rt, goS_bk, goS_ct, turnE_nx, turnE_ct, turnE_bk, turnE_rt, endD_rt, endD_nx, back_pd, binS, isFz, cmpS, biS, dats, truth, isiS, allPd, isiD, rkOf, join_some, Option.map, List.map, List.length_cons, List.length_nil, List.getElem?_cons_zero, List.getElem?_cons_succ, List.set_cons_zero, List.set_cons_succ, startS, atI_pos, atI_cast, Int.toNat_natCast, wp_newL1, wp_newL2, wp_newT1, List.length_set, List.set_set, decide_eq_true_eq, decide_eq_false_iff_not, Bool.not_eq_true', true_and, and_true,  ixN_pos, Int.reduceLE, Int.reduceLT, Int.reduceToNat, Int.reduceAdd, Int.reduceSub, Int.reduceMul, Int.reduceMod, Int.reduceNeg, Int.reducePow, Nat.reduceAdd, Nat.reduceLT, Nat.reduceLeDiff, Nat.reduceSub, reduceIte, Int.reduceEq, List.isEmpty_nil, Bool.false_eq_true, Bool.true_eq_false, decide_true, decide_false, ge_iff_le, gt_iff_lt,  wp_eq_int, wp_eq_str, wp_eq_bool, List.length_map, List.replicate, List.cons_append, List.nil_append, Bool.not_false, Bool.not_true, Bool.and_true, Bool.true_and, Bool.and_self, Bool.and_false, Bool.false_and, Option.bind, bn_add, bn_sub, bn_mul, bn_div, bn_mod, bn_pow, bn_addS, bn_addT, bn_addL, cp_eq, cp_ne, cp_ltI, cp_leI, cp_gtI, cp_geI, cp_ltS, cp_leS, cp_gtS, cp_geS, cp_ltT, cp_gtT, cp_in, cp_nin, cp_is, cp_isn, ix_l, ix_t, ix_s, ixs_tp, ixs_pd, ixs_rf, ixs_fz, cel_d, cel_r, mkLst, clsOf, clOf_d, clOf_r, wp_reprB, revS, isi2S, Bool.or_false, Bool.or_true, Bool.false_or, Bool.true_or, bi_lenL, bi_lenT, bi_lenS, bi_listL, bi_listT, bi_tupL, bi_tupT, bi_intI, bi_intB, bi_strI, bi_strS, bi_abs, bi_max, bi_min, bi_all, bi_any, bi_sum, in_l, in_t, in_s, tr_b, tr_i, tr_n, tr_l, tr_t, so_l, so_t, so_s, so_f, io_t, ng_i, pt_i, ag_a, ag_s, rv_l, rv_t, ap_d, rk_l, rk_t, rk_s, rg_1, rg_2, sl_l, sl_t, sl_s, mt_ixS, wp_mkT0, wp_mkT1, wp_mkT2, wp_mkT3, wp_mkT4, wp_mkT5, wp_mkT6, wp_mkT7, wp_mkT8, wp_datR, wp_idxR, wp_setR, wp_appR, set_last, get_last, le_line, lt_line, wp_newM, lg9, meth_words, wp_mkTR, not_true_eq_false, not_false_eq_true, eq_self, ofString_inj, String.reduceEq, wipeS, wp_inS, false_and, and_false]
    refine draw1 (r_law_draw (k + 2)) t3 (by omega) (by decide) fun u b4 t4 hu => ?_
    obtain ⟨u0, u1⟩ := hu.lt (by decide)
    try simp only [wp_ret, wp_bnd, wp_some, wp_grd, wp_no, wp_dat_pd, wp_dat_fz,  ev, evs, evO, evI, evC, evTs, AI.ex, asgG, asgGs, getV, wp_exs, wp_exs_nil, goS_nx, goS_rt, goS_bk, goS_ct, turnE_nx, turnE_ct, turnE_bk, turnE_rt, endD_rt, endD_nx, back_pd, binS, isFz, cmpS, biS, dats, truth, isiS, allPd, isiD, rkOf, join_some, Option.map, List.map, List.length_cons, List.length_nil, List.getElem?_cons_zero, List.getElem?_cons_succ, List.set_cons_zero, List.set_cons_succ, startS, atI_pos, atI_cast, Int.toNat_natCast, wp_newL1, wp_newL2, wp_newT1, List.length_set, List.set_set, decide_eq_true_eq, decide_eq_false_iff_not, Bool.not_eq_true', true_and, and_true,  ixN_pos, Int.reduceLE, Int.reduceLT, Int.reduceToNat, Int.reduceAdd, Int.reduceSub, Int.reduceMul, Int.reduceMod, Int.reduceNeg, Int.reducePow, Nat.reduceAdd, Nat.reduceLT, Nat.reduceLeDiff, Nat.reduceSub, reduceIte, Int.reduceEq, List.isEmpty_nil, Bool.false_eq_true, Bool.true_eq_false, decide_true, decide_false, ge_iff_le, gt_iff_lt,  wp_eq_int, wp_eq_str, wp_eq_bool, List.length_map, List.replicate, List.cons_append, List.nil_append, Bool.not_false, Bool.not_true, Bool.and_true, Bool.true_and, Bool.and_self, Bool.and_false, Bool.false_and, Option.bind, bn_add, bn_sub, bn_mul, bn_div, bn_mod, bn_pow, bn_addS, bn_addT, bn_addL, cp_eq, cp_ne, cp_ltI, cp_leI, cp_gtI, cp_geI, cp_ltS, cp_leS, cp_gtS, cp_geS, cp_ltT, cp_gtT, cp_in, cp_nin, cp_is, cp_isn, ix_l, ix_t, ix_s, ixs_tp, ixs_pd, ixs_rf, ixs_fz, cel_d, cel_r, mkLst, clsOf, clOf_d, clOf_r, wp_reprB, revS, isi2S, Bool.or_false, Bool.or_true, Bool.false_or, Bool.true_or, bi_lenL, bi_lenT, bi_lenS, bi_listL, bi_listT, bi_tupL, bi_tupT, bi_intI, bi_intB, bi_strI, bi_strS, bi_abs, bi_max, bi_min, bi_all, bi_any, bi_sum, in_l, in_t, in_s, tr_b, tr_i, tr_n, tr_l, tr_t, so_l, so_t, so_s, so_f, io_t, ng_i, pt_i, ag_a, ag_s, rv_l, rv_t, ap_d, rk_l, rk_t, rk_s, rg_1, rg_2, sl_l, sl_t, sl_s, mt_ixS, wp_mkT0, wp_mkT1, wp_mkT2, wp_mkT3, wp_mkT4, wp_mkT5, wp_mkT6, wp_mkT7, wp_mkT8, wp_datR, wp_idxR, wp_setR, wp_appR, set_last, get_last, le_line, lt_line, wp_newM, lg9, meth_words, wp_mkTR, not_true_eq_false, not_false_eq_true, eq_self, ofString_inj, String.reduceEq, wipeS, wp_inS, false_and, and_false]
    refine wp_atA (fun d => ∃ w : Bool, d = wordD w) u0 u1 ⟨⟨true, rfl⟩, ⟨true, rfl⟩, ⟨false, rfl⟩, trivial⟩ fun d ⟨w, e⟩ => ?_
    subst e
    try simp only [wp_ret, wp_bnd, wp_some, wp_grd, wp_no, wp_dat_pd, wp_dat_fz,  ev, evs, evO, evI, evC, evTs, AI.ex, asgG, asgGs, getV, wp_exs, wp_exs_nil, goS_nx, goS_rt, goS_bk, goS_ct, turnE_nx, turnE_ct, turnE_bk, turnE_rt, endD_rt, endD_nx, back_pd, binS, isFz, cmpS, biS, dats, truth, isiS, allPd, isiD, rkOf, join_some, Option.map, List.map, List.length_cons, List.length_nil, List.getElem?_cons_zero, List.getElem?_cons_succ, List.set_cons_zero, List.set_cons_succ, startS, atI_pos, atI_cast, Int.toNat_natCast, wp_newL1, wp_newL2, wp_newT1, List.length_set, List.set_set, decide_eq_true_eq, decide_eq_false_iff_not, Bool.not_eq_true', true_and, and_true,  ixN_pos, Int.reduceLE, Int.reduceLT, Int.reduceToNat, Int.reduceAdd, Int.reduceSub, Int.reduceMul, Int.reduceMod, Int.reduceNeg, Int.reducePow, Nat.reduceAdd, Nat.reduceLT, Nat.reduceLeDiff, Nat.reduceSub, reduceIte, Int.reduceEq, List.isEmpty_nil, Bool.false_eq_true, Bool.true_eq_false, decide_true, decide_false, ge_iff_le, gt_iff_lt,  wp_eq_int, wp_eq_str, wp_eq_bool, List.length_map, List.replicate, List.cons_append, List.nil_append, Bool.not_false, Bool.not_true, Bool.and_true, Bool.true_and, Bool.and_self, Bool.and_false, Bool.false_and, Option.bind, bn_add, bn_sub, bn_mul, bn_div, bn_mod, bn_pow, bn_addS, bn_addT, bn_addL, cp_eq, cp_ne, cp_ltI, cp_leI, cp_gtI, cp_geI, cp_ltS, cp_leS, cp_gtS, cp_geS, cp_ltT, cp_gtT, cp_in, cp_nin, cp_is, cp_isn, ix_l, ix_t, ix_s, ixs_tp, ixs_pd, ixs_rf, ixs_fz, cel_d, cel_r, mkLst, clsOf, clOf_d, clOf_r, wp_reprB, revS, isi2S, Bool.or_false, Bool.or_true, Bool.false_or, Bool.true_or, bi_lenL, bi_lenT, bi_lenS, bi_listL, bi_listT, bi_tupL, bi_tupT, bi_intI, bi_intB, bi_strI, bi_strS, bi_abs, bi_max, bi_min, bi_all, bi_any, bi_sum, in_l, in_t, in_s, tr_b, tr_i, tr_n, tr_l, tr_t, so_l, so_t, so_s, so_f, io_t, ng_i, pt_i, ag_a, ag_s, rv_l, rv_t, ap_d, rk_l, rk_t, rk_s, rg_1, rg_2, sl_l, sl_t, sl_s, mt_ixS, wp_mkT0, wp_mkT1, wp_mkT2, wp_mkT3, wp_mkT4, wp_mkT5, wp_mkT6, wp_mkT7, wp_mkT8, wp_datR, wp_idxR, wp_setR, wp_appR, set_last, get_last, le_line, lt_line, wp_newM, lg9, meth_words, wp_mkTR, not_true_eq_false, not_false_eq_true, eq_self, ofString_inj, String.reduceEq, wipeS, wp_inS, false_and, and_false]
    refine hJ _ _ ⟨fun d hd => ?_, by simp [a2], t4⟩
    rcases List.mem_append.mp hd with hd | hd
    · exact a1 d hd
    · exact ⟨(ps[i], w), List.mem_singleton.mp hd⟩
  · rintro pool b3 ⟨a1, a2, t3⟩
    rw [List.length_map] at a2 t3
    have hpp := hps.pos
    simp only [wp_ret, wp_bnd, wp_some, wp_grd, wp_no, wp_dat_pd, wp_dat_fz,  ev, evs, evO, evI, evC, evTs, AI.ex, asgG, asgGs, getV, wp_exs, wp_exs_nil, goS_nx, goS_rt, goS_bk, goS_ct, turnE_nx, turnE_ct, turnE_bk, turnE_rt, endD_rt, endD_nx, back_pd, binS, isFz, cmpS, biS, dats, truth, isiS, allPd, isiD, rkOf, join_some, Option.map, List.map, List.length_cons, List.length_nil, List.getElem?_cons_zero, List.getElem?_cons_succ, List.set_cons_zero, List.set_cons_succ, startS, atI_pos, atI_cast, Int.toNat_natCast, wp_newL1, wp_newL2, wp_newT1, List.length_set, List.set_set, decide_eq_true_eq, decide_eq_false_iff_not, Bool.not_eq_true', true_and, and_true,  ixN_pos, Int.reduceLE, Int.reduceLT, Int.reduceToNat, Int.reduceAdd, Int.reduceSub, Int.reduceMul, Int.reduceMod, Int.reduceNeg, Int.reducePow, Nat.reduceAdd, Nat.reduceLT, Nat.reduceLeDiff, Nat.reduceSub, reduceIte, Int.reduceEq, List.isEmpty_nil, Bool.false_eq_true, Bool.true_eq_false, decide_true, decide_false, ge_iff_le, gt_iff_lt,  wp_eq_int, wp_eq_str, wp_eq_bool, List.length_map, List.replicate, List.cons_append, List.nil_append, Bool.not_false, Bool.not_true, Bool.and_true, Bool.true_and, Bool.and_self, Bool.and_false, Bool.false_and, Option.bind, bn_add, bn_sub, bn_mul, bn_div, bn_mod, bn_pow, bn_addS, bn_addT, bn_addL, cp_eq, cp_ne, cp_ltI, cp_leI, cp_gtI, cp_geI, cp_ltS, cp_leS, cp_gtS, cp_geS, cp_ltT, cp_gtT, cp_in, cp_nin, cp_is, cp_isn, ix_l, ix_t, ix_s, ixs_tp, ixs_pd, ixs_rf, ixs_fz, cel_d, cel_r, mkLst, clsOf, clOf_d, clOf_r, wp_reprB, revS, isi2S, Bool.or_false, Bool.or_true, Bool.false_or, Bool.true_or, bi_lenL, bi_lenT, bi_lenS, bi_listL, bi_listT, bi_tupL, bi_tupT, bi_intI, bi_intB, bi_strI, bi_strS, bi_abs, bi_max, bi_min, bi_all, bi_any, bi_sum, in_l, in_t, in_s, tr_b, tr_i, tr_n, tr_l, tr_t, so_l, so_t, so_s, so_f, io_t, ng_i, pt_i, ag_a, ag_s, rv_l, rv_t, ap_d, rk_l, rk_t, rk_s, rg_1, rg_2, sl_l, sl_t, sl_s, mt_ixS, wp_mkT0, wp_mkT1, wp_mkT2, wp_mkT3, wp_mkT4, wp_mkT5, wp_mkT6, wp_mkT7, wp_mkT8, wp_datR, wp_idxR, wp_setR, wp_appR, set_last, get_last, le_line, lt_line, wp_newM, lg9, meth_words, wp_mkTR, not_true_eq_false, not_false_eq_true, eq_self, ofString_inj, String.reduceEq, wipeS, wp_inS, false_and, and_false]
    refine wp_forF (l := xs) (fun (a : List Str) s => a ++ [s]) [] (fun (a : List Str) σ h' => ∃ (b' : Box) (ts : List Tbl) (y4 y6 y7 y8 : Option RV), TapeB (B + 30 + 20 * a.length) b' ∧ ts.map (·.nm) = a ∧ (∀ t ∈ ts, t.cs.length ≤ 8) ∧ h' = [b', .lst (ts.map Tbl.toD)] ∧ σ = [some (.rf 0), some (.pd (.list (xs.map .str))), some (.pd (.int n)), some (.pd (.list pool)), y4, some (.rf 1), y6, y7, y8]) ⟨b3, [], _, _, _, _, t3.up (by simp; omega), rfl, by simp, rfl, rfl⟩ ?_ ?_
    · rintro pre s post e σ h' ⟨b4, ts, y4, y6, y7, y8, t4, m1, m2, rfl, rfl⟩ J hJ
      have e4 := congrArg List.length e
      rw [List.length_append, List.length_cons] at e4
      rw [snoc_fold, List.nil_append] at *
      simp only [wp_ret, wp_bnd, wp_some, wp_grd, wp_no, wp_dat_pd, wp_dat_fz,  ev, evs, evO, evI, evC, evTs, AI.ex, asgG, asgGs, getV, wp_exs, wp_exs_nil, goS_nx, goS_rt, goS_bk, goS_ct, turnE_nx, turnE_ct, turnE_bk, turnE_rt, endD_rt, endD_nx, back_pd, binS, isFz, cmpS, biS, dats, truth, isiS, allPd, isiD, rkOf, join_some, Option.map, List.map, List.length_cons, List.length_nil, List.getElem?_cons_zero, List.getElem?_cons_succ, List.set_cons_zero, List.set_cons_succ, startS, atI_pos, atI_cast, Int.toNat_natCast, wp_newL1, wp_newL2, wp_newT1, List.length_set, List.set_set, decide_eq_true_eq, decide_eq_false_iff_not, Bool.not_eq_true', true_and, and_true,  ixN_pos, Int.reduceLE, Int.reduceLT, Int.reduceToNat, Int.reduceAdd, Int.reduceSub, Int.reduceMul, Int.reduceMod, Int.reduceNeg, Int.reducePow, Nat.reduceAdd, Nat.reduceLT, Nat.reduceLeDiff, Nat.reduceSub, reduceIte, Int.reduceEq, List.isEmpty_nil, Bool.false_eq_true, Bool.true_eq_false, decide_true, decide_false, ge_iff_le, gt_iff_lt,  wp_eq_int, wp_eq_str, wp_eq_bool, List.length_map, List.replicate, List.cons_append, List.nil_append, Bool.not_false, Bool.not_true, Bool.and_true, Bool.true_and, Bool.and_self, Bool.and_false, Bool.false_and, Option.bind, bn_add, bn_sub, bn_mul, bn_div, bn_mod, bn_pow, bn_addS, bn_addT, bn_addL, cp_eq, cp_ne, cp_ltI, cp_leI, cp_gtI, cp_geI, cp_ltS, cp_leS, cp_gtS, cp_geS, cp_ltT, cp_gtT, cp_in, cp_nin, cp_is, cp_isn, ix_l, ix_t, ix_s, ixs_tp, ixs_pd, ixs_rf, ixs_fz, cel_d, cel_r, mkLst, clsOf, clOf_d, clOf_r, wp_reprB, revS, isi2S, Bool.or_false, Bool.or_true, Bool.false_or, Bool.true_or, bi_lenL, bi_lenT, bi_lenS, bi_listL, bi_listT, bi_tupL, bi_tupT, bi_intI, bi_intB, bi_strI, bi_strS, bi_abs, bi_max, bi_min, bi_all, bi_any, bi_sum, in_l, in_t, in_s, tr_b, tr_i, tr_n, tr_l, tr_t, so_l, so_t, so_s, so_f, io_t, ng_i, pt_i, ag_a, ag_s, rv_l, rv_t, ap_d, rk_l, rk_t, rk_s, rg_1, rg_2, sl_l, sl_t, sl_s, mt_ixS, wp_mkT0, wp_mkT1, wp_mkT2, wp_mkT3, wp_mkT4, wp_mkT5, wp_mkT6, wp_mkT7, wp_mkT8, wp_datR, wp_idxR, wp_setR, wp_appR, set_last, get_last, le_line, lt_line, wp_newM, lg9, meth_words, wp_mkTR, not_true_eq_false, not_false_eq_true, eq_self, ofString_inj, String.reduceEq, wipeS, wp_inS, false_and, and_false]
      refine some1 (k := k + 1) a1 (by omega) (by omega) t4 (by omega) fun es b5 t5 p5 l5 => ?_
      obtain ⟨cs, hcs⟩ := all_cD (es := cutL es none (some ((n : Int) - 1))) fun d hd => p5 d (cut_mem d hd)
      have hcl : cs.length ≤ 8 := by
        have := cut_len (es := es) (lo := none) (hi := some ((n : Int) - 1))
        rw [hcs, List.length_map] at this
        omega
      have hz6 : (cs.map cD).length ≤ 1000000 := by rw [List.length_map]; omega
      simp only [wp_ret, wp_bnd, wp_some, wp_grd, wp_no, wp_dat_pd, wp_dat_fz,  ev, evs, evO, evI, evC, evTs, AI.ex, asgG, asgGs, getV, wp_exs, wp_exs_nil, goS_nx, goS_rt, goS_bk, goS_ct, turnE_nx, turnE_ct, turnE_bk, turnE_rt, endD_rt, endD_nx, back_pd, binS, isFz, cmpS, biS, dats, truth, isiS, allPd, isiD, rkOf, join_some, Option.map, List.map, List.length_cons, List.length_nil, List.getElem?_cons_zero, List.getElem?_cons_succ, List.set_cons_zero, List.set_cons_succ, startS, atI_pos, atI_cast, Int.toNat_natCast, wp_newL1, wp_newL2, wp_newT1, List.length_set, List.set_set, decide_eq_true_eq, decide_eq_false_iff_not, Bool.not_eq_true', true_and, and_true,  ixN_pos, Int.reduceLE, Int.reduceLT, Int.reduceToNat, Int.reduceAdd, Int.reduceSub, Int.reduceMul, Int.reduceMod, Int.reduceNeg, Int.reducePow, Nat.reduceAdd, Nat.reduceLT, Nat.reduceLeDiff, Nat.reduceSub, reduceIte, Int.reduceEq, List.isEmpty_nil, Bool.false_eq_true, Bool.true_eq_false, decide_true, decide_false, ge_iff_le, gt_iff_lt,  wp_eq_int, wp_eq_str, wp_eq_bool, List.length_map, List.replicate, List.cons_append, List.nil_append, Bool.not_false, Bool.not_true, Bool.and_true, Bool.true_and, Bool.and_self, Bool.and_false, Bool.false_and, Option.bind, bn_add, bn_sub, bn_mul, bn_div, bn_mod, bn_pow, bn_addS, bn_addT, bn_addL, cp_eq, cp_ne, cp_ltI, cp_leI, cp_gtI, cp_geI, cp_ltS, cp_leS, cp_gtS, cp_geS, cp_ltT, cp_gtT, cp_in, cp_nin, cp_is, cp_isn, ix_l, ix_t, ix_s, ixs_tp, ixs_pd, ixs_rf, ixs_fz, cel_d, cel_r, mkLst, clsOf, clOf_d, clOf_r, wp_reprB, revS, isi2S, Bool.or_false, Bool.or_true, Bool.false_or, Bool.true_or, bi_lenL, bi_lenT, bi_lenS, bi_listL, bi_listT, bi_tupL, bi_tupT, bi_intI, bi_intB, bi_strI, bi_strS, bi_abs, bi_max, bi_min, bi_all, bi_any, bi_sum, in_l, in_t, in_s, tr_b, tr_i, tr_n, tr_l, tr_t, so_l, so_t, so_s, so_f, io_t, ng_i, pt_i, ag_a, ag_s, rv_l, rv_t, ap_d, rk_l, rk_t, rk_s, rg_1, rg_2, sl_l, sl_t, sl_s, mt_ixS, wp_mkT0, wp_mkT1, wp_mkT2, wp_mkT3, wp_mkT4, wp_mkT5, wp_mkT6, wp_mkT7, wp_mkT8, wp_datR, wp_idxR, wp_setR, wp_appR, set_last, get_last, le_line, lt_line, wp_newM, lg9, meth_words, wp_mkTR, not_true_eq_false, not_false_eq_true, eq_self, ofString_inj, String.reduceEq, wipeS, wp_inS, false_and, and_false, hcs, wp_newT1 hz6]
      refine draw1 (r_law_draw (k + 2)) t5 (by omega) (by decide) fun u b6 t6 hu => ?_
      obtain ⟨u0, u1⟩ := hu.lt (by decide)
      try simp only [wp_ret, wp_bnd, wp_some, wp_grd, wp_no, wp_dat_pd, wp_dat_fz,  ev, evs, evO, evI, evC, evTs, AI.ex, asgG, asgGs, getV, wp_exs, wp_exs_nil, goS_nx, goS_rt, goS_bk, goS_ct, turnE_nx, turnE_ct, turnE_bk, turnE_rt, endD_rt, endD_nx, back_pd, binS, isFz, cmpS, biS, dats, truth, isiS, allPd, isiD, rkOf, join_some, Option.map, List.map, List.length_cons, List.length_nil, List.getElem?_cons_zero, List.getElem?_cons_succ, List.set_cons_zero, List.set_cons_succ, startS, atI_pos, atI_cast, Int.toNat_natCast, wp_newL1, wp_newL2, wp_newT1, List.length_set, List.set_set, decide_eq_true_eq, decide_eq_false_iff_not, Bool.not_eq_true', true_and, and_true,  ixN_pos, Int.reduceLE, Int.reduceLT, Int.reduceToNat, Int.reduceAdd, Int.reduceSub, Int.reduceMul, Int.reduceMod, Int.reduceNeg, Int.reducePow, Nat.reduceAdd, Nat.reduceLT, Nat.reduceLeDiff, Nat.reduceSub, reduceIte, Int.reduceEq, List.isEmpty_nil, Bool.false_eq_true, Bool.true_eq_false, decide_true, decide_false, ge_iff_le, gt_iff_lt,  wp_eq_int, wp_eq_str, wp_eq_bool, List.length_map, List.replicate, List.cons_append, List.nil_append, Bool.not_false, Bool.not_true, Bool.and_true, Bool.true_and, Bool.and_self, Bool.and_false, Bool.false_and, Option.bind, bn_add, bn_sub, bn_mul, bn_div, bn_mod, bn_pow, bn_addS, bn_addT, bn_addL, cp_eq, cp_ne, cp_ltI, cp_leI, cp_gtI, cp_geI, cp_ltS, cp_leS, cp_gtS, cp_geS, cp_ltT, cp_gtT, cp_in, cp_nin, cp_is, cp_isn, ix_l, ix_t, ix_s, ixs_tp, ixs_pd, ixs_rf, ixs_fz, cel_d, cel_r, mkLst, clsOf, clOf_d, clOf_r, wp_reprB, revS, isi2S, Bool.or_false, Bool.or_true, Bool.false_or, Bool.true_or, bi_lenL, bi_lenT, bi_lenS, bi_listL, bi_listT, bi_tupL, bi_tupT, bi_intI, bi_intB, bi_strI, bi_strS, bi_abs, bi_max, bi_min, bi_all, bi_any, bi_sum, in_l, in_t, in_s, tr_b, tr_i, tr_n, tr_l, tr_t, so_l, so_t, so_s, so_f, io_t, ng_i, pt_i, ag_a, ag_s, rv_l, rv_t, ap_d, rk_l, rk_t, rk_s, rg_1, rg_2, sl_l, sl_t, sl_s, mt_ixS, wp_mkT0, wp_mkT1, wp_mkT2, wp_mkT3, wp_mkT4, wp_mkT5, wp_mkT6, wp_mkT7, wp_mkT8, wp_datR, wp_idxR, wp_setR, wp_appR, set_last, get_last, le_line, lt_line, wp_newM, lg9, meth_words, wp_mkTR, not_true_eq_false, not_false_eq_true, eq_self, ofString_inj, String.reduceEq, wipeS, wp_inS, false_and, and_false]
      refine wp_atA (fun d => ∃ j : Int, d = .int j) u0 u1 ⟨⟨2, rfl⟩, ⟨3, rfl⟩, ⟨5, rfl⟩, ⟨8, rfl⟩, ⟨60, rfl⟩, trivial⟩ fun d ⟨j, e⟩ => ?_
      subst e
      try simp only [wp_ret, wp_bnd, wp_some, wp_grd, wp_no, wp_dat_pd, wp_dat_fz,  ev, evs, evO, evI, evC, evTs, AI.ex, asgG, asgGs, getV, wp_exs, wp_exs_nil, goS_nx, goS_rt, goS_bk, goS_ct, turnE_nx, turnE_ct, turnE_bk, turnE_rt, endD_rt, endD_nx, back_pd, binS, isFz, cmpS, biS, dats, truth, isiS, allPd, isiD, rkOf, join_some, Option.map, List.map, List.length_cons, List.length_nil, List.getElem?_cons_zero, List.getElem?_cons_succ, List.set_cons_zero, List.set_cons_succ, startS, atI_pos, atI_cast, Int.toNat_natCast, wp_newL1, wp_newL2, wp_newT1, List.length_set, List.set_set, decide_eq_true_eq, decide_eq_false_iff_not, Bool.not_eq_true', true_and, and_true,  ixN_pos, Int.reduceLE, Int.reduceLT, Int.reduceToNat, Int.reduceAdd, Int.reduceSub, Int.reduceMul, Int.reduceMod, Int.reduceNeg, Int.reducePow, Nat.reduceAdd, Nat.reduceLT, Nat.reduceLeDiff, Nat.reduceSub, reduceIte, Int.reduceEq, List.isEmpty_nil, Bool.false_eq_true, Bool.true_eq_false, decide_true, decide_false, ge_iff_le, gt_iff_lt,  wp_eq_int, wp_eq_str, wp_eq_bool, List.length_map, List.replicate, List.cons_append, List.nil_append, Bool.not_false, Bool.not_true, Bool.and_true, Bool.true_and, Bool.and_self, Bool.and_false, Bool.false_and, Option.bind, bn_add, bn_sub, bn_mul, bn_div, bn_mod, bn_pow, bn_addS, bn_addT, bn_addL, cp_eq, cp_ne, cp_ltI, cp_leI, cp_gtI, cp_geI, cp_ltS, cp_leS, cp_gtS, cp_geS, cp_ltT, cp_gtT, cp_in, cp_nin, cp_is, cp_isn, ix_l, ix_t, ix_s, ixs_tp, ixs_pd, ixs_rf, ixs_fz, cel_d, cel_r, mkLst, clsOf, clOf_d, clOf_r, wp_reprB, revS, isi2S, Bool.or_false, Bool.or_true, Bool.false_or, Bool.true_or, bi_lenL, bi_lenT, bi_lenS, bi_listL, bi_listT, bi_tupL, bi_tupT, bi_intI, bi_intB, bi_strI, bi_strS, bi_abs, bi_max, bi_min, bi_all, bi_any, bi_sum, in_l, in_t, in_s, tr_b, tr_i, tr_n, tr_l, tr_t, so_l, so_t, so_s, so_f, io_t, ng_i, pt_i, ag_a, ag_s, rv_l, rv_t, ap_d, rk_l, rk_t, rk_s, rg_1, rg_2, sl_l, sl_t, sl_s, mt_ixS, wp_mkT0, wp_mkT1, wp_mkT2, wp_mkT3, wp_mkT4, wp_mkT5, wp_mkT6, wp_mkT7, wp_mkT8, wp_datR, wp_idxR, wp_setR, wp_appR, set_last, get_last, le_line, lt_line, wp_newM, lg9, meth_words, wp_mkTR, not_true_eq_false, not_false_eq_true, eq_self, ofString_inj, String.reduceEq, wipeS, wp_inS, false_and, and_false]
      refine wp_lcF (g := cD) (fun c => some (.str c.1)) (by omega) (fun c hc acc J2 hJ2 => ?_) ?_
      · simp only [wp_ret, wp_bnd, wp_some, wp_grd, wp_no, wp_dat_pd, wp_dat_fz,  ev, evs, evO, evI, evC, evTs, AI.ex, asgG, asgGs, getV, wp_exs, wp_exs_nil, goS_nx, goS_rt, goS_bk, goS_ct, turnE_nx, turnE_ct, turnE_bk, turnE_rt, endD_rt, endD_nx, back_pd, binS, isFz, cmpS, biS, dats, truth, isiS, allPd, isiD, rkOf, join_some, Option.map, List.map, List.length_cons, List.length_nil, List.getElem?_cons_zero, List.getElem?_cons_succ, List.set_cons_zero, List.set_cons_succ, startS, atI_pos, atI_cast, Int.toNat_natCast, wp_newL1, wp_newL2, wp_newT1, List.length_set, List.set_set, decide_eq_true_eq, decide_eq_false_iff_not, Bool.not_eq_true', true_and, and_true,  ixN_pos, Int.reduceLE, Int.reduceLT, Int.reduceToNat, Int.reduceAdd, Int.reduceSub, Int.reduceMul, Int.reduceMod, Int.reduceNeg, Int.reducePow, Nat.reduceAdd, Nat.reduceLT, Nat.reduceLeDiff, Nat.reduceSub, reduceIte, Int.reduceEq, List.isEmpty_nil, Bool.false_eq_true, Bool.true_eq_false, decide_true, decide_false, ge_iff_le, gt_iff_lt,  wp_eq_int, wp_eq_str, wp_eq_bool, List.length_map, List.replicate, List.cons_append, List.nil_append, Bool.not_false, Bool.not_true, Bool.and_true, Bool.true_and, Bool.and_self, Bool.and_false, Bool.false_and, Option.bind, bn_add, bn_sub, bn_mul, bn_div, bn_mod, bn_pow, bn_addS, bn_addT, bn_addL, cp_eq, cp_ne, cp_ltI, cp_leI, cp_gtI, cp_geI, cp_ltS, cp_leS, cp_gtS, cp_geS, cp_ltT, cp_gtT, cp_in, cp_nin, cp_is, cp_isn, ix_l, ix_t, ix_s, ixs_tp, ixs_pd, ixs_rf, ixs_fz, cel_d, cel_r, mkLst, clsOf, clOf_d, clOf_r, wp_reprB, revS, isi2S, Bool.or_false, Bool.or_true, Bool.false_or, Bool.true_or, bi_lenL, bi_lenT, bi_lenS, bi_listL, bi_listT, bi_tupL, bi_tupT, bi_intI, bi_intB, bi_strI, bi_strS, bi_abs, bi_max, bi_min, bi_all, bi_any, bi_sum, in_l, in_t, in_s, tr_b, tr_i, tr_n, tr_l, tr_t, so_l, so_t, so_s, so_f, io_t, ng_i, pt_i, ag_a, ag_s, rv_l, rv_t, ap_d, rk_l, rk_t, rk_s, rg_1, rg_2, sl_l, sl_t, sl_s, mt_ixS, wp_mkT0, wp_mkT1, wp_mkT2, wp_mkT3, wp_mkT4, wp_mkT5, wp_mkT6, wp_mkT7, wp_mkT8, wp_datR, wp_idxR, wp_setR, wp_appR, set_last, get_last, le_line, lt_line, wp_newM, lg9, meth_words, wp_mkTR, not_true_eq_false, not_false_eq_true, eq_self, ofString_inj, String.reduceEq, wipeS, wp_inS, false_and, and_false, cD]
        exact hJ2
      · have hz7 : (cs.filterMap fun c => some (PyData.str c.1)).length ≤ 1000000 := Nat.le_trans (List.length_filterMap_le ..) (by omega)
        have e7 : (cs.filterMap fun c => some (PyData.str c.1)) = cs.map fun c => PyData.str c.1 := congrFun List.filterMap_eq_map' cs
        have hz8 : (cs.map fun c => PyData.str c.1).length ≤ 1000000 := by rw [List.length_map]; omega
        have htl : ts.length = pre.length := by rw [← m1, List.length_map]
        simp only [wp_ret, wp_bnd, wp_some, wp_grd, wp_no, wp_dat_pd, wp_dat_fz,  ev, evs, evO, evI, evC, evTs, AI.ex, asgG, asgGs, getV, wp_exs, wp_exs_nil, goS_nx, goS_rt, goS_bk, goS_ct, turnE_nx, turnE_ct, turnE_bk, turnE_rt, endD_rt, endD_nx, back_pd, binS, isFz, cmpS, biS, dats, truth, isiS, allPd, isiD, rkOf, join_some, Option.map, List.map, List.length_cons, List.length_nil, List.getElem?_cons_zero, List.getElem?_cons_succ, List.set_cons_zero, List.set_cons_succ, startS, atI_pos, atI_cast, Int.toNat_natCast, wp_newL1, wp_newL2, wp_newT1, List.length_set, List.set_set, decide_eq_true_eq, decide_eq_false_iff_not, Bool.not_eq_true', true_and, and_true,  ixN_pos, Int.reduceLE, Int.reduceLT, Int.reduceToNat, Int.reduceAdd, Int.reduceSub, Int.reduceMul, Int.reduceMod, Int.reduceNeg, Int.reducePow, Nat.reduceAdd, Nat.reduceLT, Nat.reduceLeDiff, Nat.reduceSub, reduceIte, Int.reduceEq, List.isEmpty_nil, Bool.false_eq_true, Bool.true_eq_false, decide_true, decide_false, ge_iff_le, gt_iff_lt,  wp_eq_int, wp_eq_str, wp_eq_bool, List.length_map, List.replicate, List.cons_append, List.nil_append, Bool.not_false, Bool.not_true, Bool.and_true, Bool.true_and, Bool.and_self, Bool.and_false, Bool.false_and, Option.bind, bn_add, bn_sub, bn_mul, bn_div, bn_mod, bn_pow, bn_addS, bn_addT, bn_addL, cp_eq, cp_ne, cp_ltI, cp_leI, cp_gtI, cp_geI, cp_ltS, cp_leS, cp_gtS, cp_geS, cp_ltT, cp_gtT, cp_in, cp_nin, cp_is, cp_isn, ix_l, ix_t, ix_s, ixs_tp, ixs_pd, ixs_rf, ixs_fz, cel_d, cel_r, mkLst, clsOf, clOf_d, clOf_r, wp_reprB, revS, isi2S, Bool.or_false, Bool.or_true, Bool.false_or, Bool.true_or, bi_lenL, bi_lenT, bi_lenS, bi_listL, bi_listT, bi_tupL, bi_tupT, bi_intI, bi_intB, bi_strI, bi_strS, bi_abs, bi_max, bi_min, bi_all, bi_any, bi_sum, in_l, in_t, in_s, tr_b, tr_i, tr_n, tr_l, tr_t, so_l, so_t, so_s, so_f, io_t, ng_i, pt_i, ag_a, ag_s, rv_l, rv_t, ap_d, rk_l, rk_t, rk_s, rg_1, rg_2, sl_l, sl_t, sl_s, mt_ixS, wp_mkT0, wp_mkT1, wp_mkT2, wp_mkT3, wp_mkT4, wp_mkT5, wp_mkT6, wp_mkT7, wp_mkT8, wp_datR, wp_idxR, wp_setR, wp_appR, set_last, get_last, le_line, lt_line, wp_newM, lg9, meth_words, wp_mkTR, not_true_eq_false, not_false_eq_true, eq_self, ofString_inj, String.reduceEq, wipeS, wp_inS, false_and, and_false, e7, wp_newT1 hz8]
        refine ⟨by omega, hJ _ _ ⟨b6, ts ++ [⟨s, cs, j⟩], _, _, _, _, t6.up (by simp; omega), by rw [List.map_append, m1]; rfl, fun t ht => ?_, by rw [List.map_append]; rfl, rfl⟩⟩
        rcases List.mem_append.mp ht with ht | ht
        · exact m2 t ht
        · have e : t = ⟨s, cs, j⟩ := by simpa using ht
          subst e
          exact hcl
    · rintro σ h' ⟨b4, ts, y4, y6, y7, y8, t4, m1, m2, rfl, rfl⟩
      rw [snoc_fold, List.nil_append] at *
      have htl : ts.length = xs.length := by rw [← m1, List.length_map]
      have hz9 : (ts.map Tbl.toD).length ≤ 1000000 := by rw [List.length_map]; omega
      simp only [wp_ret, wp_bnd, wp_some, wp_grd, wp_no, wp_dat_pd, wp_dat_fz,  ev, evs, evO, evI, evC, evTs, AI.ex, asgG, asgGs, getV, wp_exs, wp_exs_nil, goS_nx, goS_rt, goS_bk, goS_ct, turnE_nx, turnE_ct, turnE_bk, turnE_rt, endD_rt, endD_nx, back_pd, binS, isFz, cmpS, biS, dats, truth, isiS, allPd, isiD, rkOf, join_some, Option.map, List.map, List.length_cons, List.length_nil, List.getElem?_cons_zero, List.getElem?_cons_succ, List.set_cons_zero, List.set_cons_succ, startS, atI_pos, atI_cast, Int.toNat_natCast, wp_newL1, wp_newL2, wp_newT1, List.length_set, List.set_set, decide_eq_true_eq, decide_eq_false_iff_not, Bool.not_eq_true', true_and, and_true,  ixN_pos, Int.reduceLE, Int.reduceLT, Int.reduceToNat, Int.reduceAdd, Int.reduceSub, Int.reduceMul, Int.reduceMod, Int.reduceNeg, Int.reducePow, Nat.reduceAdd, Nat.reduceLT, Nat.reduceLeDiff, Nat.reduceSub, reduceIte, Int.reduceEq, List.isEmpty_nil, Bool.false_eq_true, Bool.true_eq_false, decide_true, decide_false, ge_iff_le, gt_iff_lt,  wp_eq_int, wp_eq_str, wp_eq_bool, List.length_map, List.replicate, List.cons_append, List.nil_append, Bool.not_false, Bool.not_true, Bool.and_true, Bool.true_and, Bool.and_self, Bool.and_false, Bool.false_and, Option.bind, bn_add, bn_sub, bn_mul, bn_div, bn_mod, bn_pow, bn_addS, bn_addT, bn_addL, cp_eq, cp_ne, cp_ltI, cp_leI, cp_gtI, cp_geI, cp_ltS, cp_leS, cp_gtS, cp_geS, cp_ltT, cp_gtT, cp_in, cp_nin, cp_is, cp_isn, ix_l, ix_t, ix_s, ixs_tp, ixs_pd, ixs_rf, ixs_fz, cel_d, cel_r, mkLst, clsOf, clOf_d, clOf_r, wp_reprB, revS, isi2S, Bool.or_false, Bool.or_true, Bool.false_or, Bool.true_or, bi_lenL, bi_lenT, bi_lenS, bi_listL, bi_listT, bi_tupL, bi_tupT, bi_intI, bi_intB, bi_strI, bi_strS, bi_abs, bi_max, bi_min, bi_all, bi_any, bi_sum, in_l, in_t, in_s, tr_b, tr_i, tr_n, tr_l, tr_t, so_l, so_t, so_s, so_f, io_t, ng_i, pt_i, ag_a, ag_s, rv_l, rv_t, ap_d, rk_l, rk_t, rk_s, rg_1, rg_2, sl_l, sl_t, sl_s, mt_ixS, wp_mkT0, wp_mkT1, wp_mkT2, wp_mkT3, wp_mkT4, wp_mkT5, wp_mkT6, wp_mkT7, wp_mkT8, wp_datR, wp_idxR, wp_setR, wp_appR, set_last, get_last, le_line, lt_line, wp_newM, lg9, meth_words, wp_mkTR, not_true_eq_false, not_false_eq_true, eq_self, ofString_inj, String.reduceEq, wipeS, wp_inS, false_and, and_false, wp_newT1 hz9]
      exact ret ts b4 _ (t4.up (by omega)) (by rw [m1]; exact hx.nd) (by omega) m2
end
def kc (c : Str × Bool) : Str × Knd := (c.1, if c.2 = true then .int 1000000 else .str)
section
variable {h hs : Boxes} {Q : RV → Boxes → Prop} {k B : Nat} {b : Box}
theorem kinds1 {cs : List (Str × Bool)} (hl : cs.length ≤ 1000) (q : Q (.pd (.tuple ((cs.map kc).map colD))) h) : wp ((TM (k + 1)).call false "_law_kinds" [.pd (.tuple (cs.map cD))]) Q h := by
  refine wp_call (r_law_kinds _) (wp_def rfl ?_)
  have ret : ∀ j : Boxes, back h.length false Q (.pd (.tuple ((cs.map kc).map colD))) (h ++ j) := fun j => by rw [back_pd, List.take_left]; exact q
  generalize back h.length false Q = Q' at *
  clear q
  have hsl := sizeLine_eq
  simp only [wp_ret, wp_bnd, wp_some, wp_grd, wp_no, wp_dat_pd, wp_dat_fz,  ev, evs, evO, evI, evC, evTs, AI.ex, asgG, asgGs, getV, wp_exs, wp_exs_nil, goS_nx, goS_rt, goS_bk, goS_ct, turnE_nx, turnE_ct, turnE_bk, turnE_rt, endD_rt, endD_nx, back_pd, binS, isFz, cmpS, biS, dats, truth, isiS, allPd, isiD, rkOf, join_some, Option.map, List.map, List.length_cons, List.length_nil, List.getElem?_cons_zero, List.getElem?_cons_succ, List.set_cons_zero, List.set_cons_succ, startS, atI_pos, atI_cast, Int.toNat_natCast, wp_newL1, wp_newL2, wp_newT1, List.length_set, List.set_set, decide_eq_true_eq, decide_eq_false_iff_not, Bool.not_eq_true', true_and, and_true,  ixN_pos, Int.reduceLE, Int.reduceLT, Int.reduceToNat, Int.reduceAdd, Int.reduceSub, Int.reduceMul, Int.reduceMod, Int.reduceNeg, Int.reducePow, Nat.reduceAdd, Nat.reduceLT, Nat.reduceLeDiff, Nat.reduceSub, reduceIte, Int.reduceEq, List.isEmpty_nil, Bool.false_eq_true, Bool.true_eq_false, decide_true, decide_false, ge_iff_le, gt_iff_lt,  wp_eq_int, wp_eq_str, wp_eq_bool, List.length_map, List.replicate, List.cons_append, List.nil_append, Bool.not_false, Bool.not_true, Bool.and_true, Bool.true_and, Bool.and_self, Bool.and_false, Bool.false_and, Option.bind, bn_add, bn_sub, bn_mul, bn_div, bn_mod, bn_pow, bn_addS, bn_addT, bn_addL, cp_eq, cp_ne, cp_ltI, cp_leI, cp_gtI, cp_geI, cp_ltS, cp_leS, cp_gtS, cp_geS, cp_ltT, cp_gtT, cp_in, cp_nin, cp_is, cp_isn, ix_l, ix_t, ix_s, ixs_tp, ixs_pd, ixs_rf, ixs_fz, cel_d, cel_r, mkLst, clsOf, clOf_d, clOf_r, wp_reprB, revS, isi2S, Bool.or_false, Bool.or_true, Bool.false_or, Bool.true_or, bi_lenL, bi_lenT, bi_lenS, bi_listL, bi_listT, bi_tupL, bi_tupT, bi_intI, bi_intB, bi_strI, bi_strS, bi_abs, bi_max, bi_min, bi_all, bi_any, bi_sum, in_l, in_t, in_s, tr_b, tr_i, tr_n, tr_l, tr_t, so_l, so_t, so_s, so_f, io_t, ng_i, pt_i, ag_a, ag_s, rv_l, rv_t, ap_d, rk_l, rk_t, rk_s, rg_1, rg_2, sl_l, sl_t, sl_s, mt_ixS, wp_mkT0, wp_mkT1, wp_mkT2, wp_mkT3, wp_mkT4, wp_mkT5, wp_mkT6, wp_mkT7, wp_mkT8, wp_datR, wp_idxR, wp_setR, wp_appR, set_last, get_last, le_line, lt_line, wp_newM, lg9, meth_words, wp_mkTR, not_true_eq_false, not_false_eq_true, eq_self, ofString_inj, String.reduceEq, wipeS, wp_inS, false_and, and_false, b_law_kinds]
  refine wp_forF (l := cs) (fun (a : List (Str × Bool)) c => a ++ [c]) [] (fun (a : List (Str × Bool)) σ h' => ∃ y2, h' = h ++ [.lst ((a.map kc).map colD)] ∧ σ = [some (.pd (.tuple (cs.map cD))), some (.rf h.length), y2]) ⟨_, rfl, rfl⟩ ?_ ?_
  · rintro pre ⟨s, w⟩ post e σ h' ⟨y2, rfl, rfl⟩ J hJ
    have e4 := congrArg List.length e
    rw [List.length_append, List.length_cons] at e4
    rw [snoc_fold, List.nil_append] at *
    cases w
    · simp only [wp_ret, wp_bnd, wp_some, wp_grd, wp_no, wp_dat_pd, wp_dat_fz,  ev, evs, evO, evI, evC, evTs, AI.ex, asgG, asgGs, getV, wp_exs, wp_exs_nil, goS_nx, goS_rt, goS_bk, goS_ct, turnE_nx, turnE_ct, turnE_bk, turnE_rt, endD_rt, endD_nx, back_pd, binS, isFz, cmpS, biS, dats, truth, isiS, allPd, isiD, rkOf, join_some, Option.map, List.map, List.length_cons, List.length_nil, List.getElem?_cons_zero, List.getElem?_cons_succ, List.set_cons_zero, List.set_cons_succ, startS, atI_pos, atI_cast, Int.toNat_natCast, wp_newL1, wp_newL2, wp_newT1, List.length_set, List.set_set, decide_eq_true_eq, decide_eq_false_iff_not, Bool.not_eq_true', true_and, and_true,  ixN_pos, Int.reduceLE, Int.reduceLT, Int.reduceToNat, Int.reduceAdd, Int.reduceSub, Int.reduceMul, Int.reduceMod, Int.reduceNeg, Int.reducePow, Nat.reduceAdd, Nat.reduceLT, Nat.reduceLeDiff, Nat.reduceSub, reduceIte, Int.reduceEq, List.isEmpty_nil, Bool.false_eq_true, Bool.true_eq_false, decide_true, decide_false, ge_iff_le, gt_iff_lt,  wp_eq_int, wp_eq_str, wp_eq_bool, List.length_map, List.replicate, List.cons_append, List.nil_append, Bool.not_false, Bool.not_true, Bool.and_true, Bool.true_and, Bool.and_self, Bool.and_false, Bool.false_and, Option.bind, bn_add, bn_sub, bn_mul, bn_div, bn_mod, bn_pow, bn_addS, bn_addT, bn_addL, cp_eq, cp_ne, cp_ltI, cp_leI, cp_gtI, cp_geI, cp_ltS, cp_leS, cp_gtS, cp_geS, cp_ltT, cp_gtT, cp_in, cp_nin, cp_is, cp_isn, ix_l, ix_t, ix_s, ixs_tp, ixs_pd, ixs_rf, ixs_fz, cel_d, cel_r, mkLst, clsOf, clOf_d, clOf_r, wp_reprB, revS, isi2S, Bool.or_false, Bool.or_true, Bool.false_or, Bool.true_or, bi_lenL, bi_lenT, bi_lenS, bi_listL, bi_listT, bi_tupL, bi_tupT, bi_intI, bi_intB, bi_strI, bi_strS, bi_abs, bi_max, bi_min, bi_all, bi_any, bi_sum, in_l, in_t, in_s, tr_b, tr_i, tr_n, tr_l, tr_t, so_l, so_t, so_s, so_f, io_t, ng_i, pt_i, ag_a, ag_s, rv_l, rv_t, ap_d, rk_l, rk_t, rk_s, rg_1, rg_2, sl_l, sl_t, sl_s, mt_ixS, wp_mkT0, wp_mkT1, wp_mkT2, wp_mkT3, wp_mkT4, wp_mkT5, wp_mkT6, wp_mkT7, wp_mkT8, wp_datR, wp_idxR, wp_setR, wp_appR, set_last, get_last, le_line, lt_line, wp_newM, lg9, meth_words, wp_mkTR, not_true_eq_false, not_false_eq_true, eq_self, ofString_inj, String.reduceEq, wipeS, wp_inS, false_and, and_false, cD, wordD]
      exact ⟨by omega, hJ _ _ ⟨_, by rw [List.map_append, List.map_append]; rfl, rfl⟩⟩
    · simp only [wp_ret, wp_bnd, wp_some, wp_grd, wp_no, wp_dat_pd, wp_dat_fz,  ev, evs, evO, evI, evC, evTs, AI.ex, asgG, asgGs, getV, wp_exs, wp_exs_nil, goS_nx, goS_rt, goS_bk, goS_ct, turnE_nx, turnE_ct, turnE_bk, turnE_rt, endD_rt, endD_nx, back_pd, binS, isFz, cmpS, biS, dats, truth, isiS, allPd, isiD, rkOf, join_some, Option.map, List.map, List.length_cons, List.length_nil, List.getElem?_cons_zero, List.getElem?_cons_succ, List.set_cons_zero, List.set_cons_succ, startS, atI_pos, atI_cast, Int.toNat_natCast, wp_newL1, wp_newL2, wp_newT1, List.length_set, List.set_set, decide_eq_true_eq, decide_eq_false_iff_not, Bool.not_eq_true', true_and, and_true,  ixN_pos, Int.reduceLE, Int.reduceLT, Int.reduceToNat, Int.reduceAdd, Int.reduceSub, Int.reduceMul, Int.reduceMod, Int.reduceNeg, Int.reducePow, Nat.reduceAdd, Nat.reduceLT, Nat.reduceLeDiff, Nat.reduceSub, reduceIte, Int.reduceEq, List.isEmpty_nil, Bool.false_eq_true, Bool.true_eq_false, decide_true, decide_false, ge_iff_le, gt_iff_lt,  wp_eq_int, wp_eq_str, wp_eq_bool, List.length_map, List.replicate, List.cons_append, List.nil_append, Bool.not_false, Bool.not_true, Bool.and_true, Bool.true_and, Bool.and_self, Bool.and_false, Bool.false_and, Option.bind, bn_add, bn_sub, bn_mul, bn_div, bn_mod, bn_pow, bn_addS, bn_addT, bn_addL, cp_eq, cp_ne, cp_ltI, cp_leI, cp_gtI, cp_geI, cp_ltS, cp_leS, cp_gtS, cp_geS, cp_ltT, cp_gtT, cp_in, cp_nin, cp_is, cp_isn, ix_l, ix_t, ix_s, ixs_tp, ixs_pd, ixs_rf, ixs_fz, cel_d, cel_r, mkLst, clsOf, clOf_d, clOf_r, wp_reprB, revS, isi2S, Bool.or_false, Bool.or_true, Bool.false_or, Bool.true_or, bi_lenL, bi_lenT, bi_lenS, bi_listL, bi_listT, bi_tupL, bi_tupT, bi_intI, bi_intB, bi_strI, bi_strS, bi_abs, bi_max, bi_min, bi_all, bi_any, bi_sum, in_l, in_t, in_s, tr_b, tr_i, tr_n, tr_l, tr_t, so_l, so_t, so_s, so_f, io_t, ng_i, pt_i, ag_a, ag_s, rv_l, rv_t, ap_d, rk_l, rk_t, rk_s, rg_1, rg_2, sl_l, sl_t, sl_s, mt_ixS, wp_mkT0, wp_mkT1, wp_mkT2, wp_mkT3, wp_mkT4, wp_mkT5, wp_mkT6, wp_mkT7, wp_mkT8, wp_datR, wp_idxR, wp_setR, wp_appR, set_last, get_last, le_line, lt_line, wp_newM, lg9, meth_words, wp_mkTR, not_true_eq_false, not_false_eq_true, eq_self, ofString_inj, String.reduceEq, wipeS, wp_inS, false_and, and_false, cD, wordD]
      exact ⟨by omega, hJ _ _ ⟨_, by rw [List.map_append, List.map_append]; rfl, rfl⟩⟩
  · rintro σ h' ⟨y2, rfl, rfl⟩
    rw [snoc_fold, List.nil_append]
    have hz : ((cs.map kc).map colD).length ≤ 1000000 := by rw [List.length_map, List.length_map]; omega
    simp only [wp_ret, wp_bnd, wp_some, wp_grd, wp_no, wp_dat_pd, wp_dat_fz,  ev, evs, evO, evI, evC, evTs, AI.ex, asgG, asgGs, getV, wp_exs, wp_exs_nil, goS_nx, goS_rt, goS_bk, goS_ct, turnE_nx, turnE_ct, turnE_bk, turnE_rt, endD_rt, endD_nx, back_pd, binS, isFz, cmpS, biS, dats, truth, isiS, allPd, isiD, rkOf, join_some, Option.map, List.map, List.length_cons, List.length_nil, List.getElem?_cons_zero, List.getElem?_cons_succ, List.set_cons_zero, List.set_cons_succ, startS, atI_pos, atI_cast, Int.toNat_natCast, wp_newL1, wp_newL2, wp_newT1, List.length_set, List.set_set, decide_eq_true_eq, decide_eq_false_iff_not, Bool.not_eq_true', true_and, and_true,  ixN_pos, Int.reduceLE, Int.reduceLT, Int.reduceToNat, Int.reduceAdd, Int.reduceSub, Int.reduceMul, Int.reduceMod, Int.reduceNeg, Int.reducePow, Nat.reduceAdd, Nat.reduceLT, Nat.reduceLeDiff, Nat.reduceSub, reduceIte, Int.reduceEq, List.isEmpty_nil, Bool.false_eq_true, Bool.true_eq_false, decide_true, decide_false, ge_iff_le, gt_iff_lt,  wp_eq_int, wp_eq_str, wp_eq_bool, List.length_map, List.replicate, List.cons_append, List.nil_append, Bool.not_false, Bool.not_true, Bool.and_true, Bool.true_and, Bool.and_self, Bool.and_false, Bool.false_and, Option.bind, bn_add, bn_sub, bn_mul, bn_div, bn_mod, bn_pow, bn_addS, bn_addT, bn_addL, cp_eq, cp_ne, cp_ltI, cp_leI, cp_gtI, cp_geI, cp_ltS, cp_leS, cp_gtS, cp_geS, cp_ltT, cp_gtT, cp_in, cp_nin, cp_is, cp_isn, ix_l, ix_t, ix_s, ixs_tp, ixs_pd, ixs_rf, ixs_fz, cel_d, cel_r, mkLst, clsOf, clOf_d, clOf_r, wp_reprB, revS, isi2S, Bool.or_false, Bool.or_true, Bool.false_or, Bool.true_or, bi_lenL, bi_lenT, bi_lenS, bi_listL, bi_listT, bi_tupL, bi_tupT, bi_intI, bi_intB, bi_strI, bi_strS, bi_abs, bi_max, bi_min, bi_all, bi_any, bi_sum, in_l, in_t, in_s, tr_b, tr_i, tr_n, tr_l, tr_t, so_l, so_t, so_s, so_f, io_t, ng_i, pt_i, ag_a, ag_s, rv_l, rv_t, ap_d, rk_l, rk_t, rk_s, rg_1, rg_2, sl_l, sl_t, sl_s, mt_ixS, wp_mkT0, wp_mkT1, wp_mkT2, wp_mkT3, wp_mkT4, wp_mkT5, wp_mkT6, wp_mkT7, wp_mkT8, wp_datR, wp_idxR, wp_setR, wp_appR, set_last, get_last, le_line, lt_line, wp_newM, lg9, meth_words, wp_mkTR, not_true_eq_false, not_false_eq_true, eq_self, ofString_inj, String.reduceEq, wipeS, wp_inS, false_and, and_false, wp_newT1 hz]
    exact ret _
theorem row17 {cs : List (Str × Bool)} (hl : cs.length ≤ 8) (t : TapeB B b) (hB : B + 200 ≤ 16000000)
    (q : ∀ row b', TapeB (B + 200) b' → (∀ v ∈ row, Val v) → row.length ≤ 8 → Q (.pd (.tuple row)) (b' :: hs)) : wp ((TM (k + 4)).call false "_law_row" [.rf 0, .pd (.tuple ((cs.map kc).map colD))]) Q (b :: hs) := by
  refine wp_call (r_law_row _) (wp_def rfl ?_)
  have ret : ∀ row b', TapeB (B + 200) b' → (∀ v ∈ row, Val v) → row.length ≤ 8 → back (b :: hs).length false Q (.pd (.tuple row)) (b' :: hs) := fun row b' g1 g2 g3 => by rw [back_pd, List.take_of_length_le (by simp)]; exact q row b' g1 g2 g3
  generalize back (b :: hs).length false Q = Q' at *
  clear q
  simp only [wp_ret, wp_bnd, wp_some, wp_grd, wp_no, wp_dat_pd, wp_dat_fz,  ev, evs, evO, evI, evC, evTs, AI.ex, asgG, asgGs, getV, wp_exs, wp_exs_nil, goS_nx, goS_rt, goS_bk, goS_ct, turnE_nx, turnE_ct, turnE_bk, turnE_rt, endD_rt, endD_nx, back_pd, binS, isFz, cmpS, biS, dats, truth, isiS, allPd, isiD, rkOf, join_some, Option.map, List.map, List.length_cons, List.length_nil, List.getElem?_cons_zero, List.getElem?_cons_succ, List.set_cons_zero, List.set_cons_succ, startS, atI_pos, atI_cast, Int.toNat_natCast, wp_newL1, wp_newL2, wp_newT1, List.length_set, List.set_set, decide_eq_true_eq, decide_eq_false_iff_not, Bool.not_eq_true', true_and, and_true,  ixN_pos, Int.reduceLE, Int.reduceLT, Int.reduceToNat, Int.reduceAdd, Int.reduceSub, Int.reduceMul, Int.reduceMod, Int.reduceNeg, Int.reducePow, Nat.reduceAdd, Nat.reduceLT, Nat.reduceLeDiff, Nat.reduceSub, reduceIte, Int.reduceEq, List.isEmpty_nil, Bool.false_eq_true, Bool.true_eq_false, decide_true, decide_false, ge_iff_le, gt_iff_lt,  wp_eq_int, wp_eq_str, wp_eq_bool, List.length_map, List.replicate, List.cons_append, List.nil_append, Bool.not_false, Bool.not_true, Bool.and_true, Bool.true_and, Bool.and_self, Bool.and_false, Bool.false_and, Option.bind, bn_add, bn_sub, bn_mul, bn_div, bn_mod, bn_pow, bn_addS, bn_addT, bn_addL, cp_eq, cp_ne, cp_ltI, cp_leI, cp_gtI, cp_geI, cp_ltS, cp_leS, cp_gtS, cp_geS, cp_ltT, cp_gtT, cp_in, cp_nin, cp_is, cp_isn, ix_l, ix_t, ix_s, ixs_tp, ixs_pd, ixs_rf, ixs_fz, cel_d, cel_r, mkLst, clsOf, clOf_d, clOf_r, wp_reprB, revS, isi2S, Bool.or_false, Bool.or_true, Bool.false_or, Bool.true_or, bi_lenL, bi_lenT, bi_lenS, bi_listL, bi_listT, bi_tupL, bi_tupT, bi_intI, bi_intB, bi_strI, bi_strS, bi_abs, bi_max, bi_min, bi_all, bi_any, bi_sum, in_l, in_t, in_s, tr_b, tr_i, tr_n, tr_l, tr_t, so_l, so_t, so_s, so_f, io_t, ng_i, pt_i, ag_a, ag_s, rv_l, rv_t, ap_d, rk_l, rk_t, rk_s, rg_1, rg_2, sl_l, sl_t, sl_s, mt_ixS, wp_mkT0, wp_mkT1, wp_mkT2, wp_mkT3, wp_mkT4, wp_mkT5, wp_mkT6, wp_mkT7, wp_mkT8, wp_datR, wp_idxR, wp_setR, wp_appR, set_last, get_last, le_line, lt_line, wp_newM, lg9, meth_words, wp_mkTR, not_true_eq_false, not_false_eq_true, eq_self, ofString_inj, String.reduceEq, wipeS, wp_inS, false_and, and_false, b_law_row]
  refine wp_lcT1 (hs := hs) (fun i acc b' => (∀ v ∈ acc, Val v) ∧ acc.length = i ∧ TapeB (B + 21 * i) b') (by rw [List.length_map, List.length_map, sizeLine_eq]; omega) (fun i acc b' ⟨_, e, _⟩ => by omega) ⟨by simp, rfl, t⟩ ?_ ?_
  · rintro i hi acc b3 ⟨a1, a2, t3⟩ J hJ
    rw [List.length_map, List.length_map] at hi
    rw [List.getElem_map, List.getElem_map]
    generalize cs[i] = c
    obtain ⟨s, w⟩ := c
    simp only [wp_ret, wp_bnd, wp_some, wp_grd, wp_no, wp_dat_pd, wp_dat_fz,  ev, evs, evO, evI, evC, evTs, AI.ex, asgG, asgGs, getV, wp_exs, wp_exs_nil, goS_nx, goS_rt, goS_bk, goS_ct, turnE_nx, turnE_ct, turnE_bk, turnE_rt, endD_rt, endD_nx, back_pd, binS, isFz, cmpS, biS, dats, truth, isiS, allPd, isiD, rkOf, join_some, Option.map, List.map, List.length_cons, List.length_nil, List.getElem?_cons_zero, List.getElem?_cons_succ, List.set_cons_zero, List.set_cons_succ, startS, atI_pos, atI_cast, Int.toNat_natCast, wp_newL1, wp_newL2, wp_newT1, List.length_set, List.set_set, decide_eq_true_eq, decide_eq_false_iff_not, Bool.not_eq_true', true_and, and_true,  ixN_pos, Int.reduceLE, Int.reduceLT, Int.reduceToNat, Int.reduceAdd, Int.reduceSub, Int.reduceMul, Int.reduceMod, Int.reduceNeg, Int.reducePow, Nat.reduceAdd, Nat.reduceLT, Nat.reduceLeDiff, Nat.reduceSub, reduceIte, Int.reduceEq, List.isEmpty_nil, Bool.false_eq_true, Bool.true_eq_false, decide_true, decide_false, ge_iff_le, gt_iff_lt,  wp_eq_int, wp_eq_str, wp_eq_bool, List.length_map, List.replicate, List.cons_append, List.nil_append, Bool.not_false, Bool.not_true, Bool.and_true, Bool.true_and, Bool.and_self, Bool.and_false, Bool.false_and, Option.bind, bn_add, bn_sub, bn_mul, bn_div, bn_mod, bn_pow, bn_addS, bn_addT, bn_addL, cp_eq, cp_ne, cp_ltI, cp_leI, cp_gtI, cp_geI, cp_ltS, cp_leS, cp_gtS, cp_geS, cp_ltT, cp_gtT, cp_in, cp_nin, cp_is, cp_isn, ix_l, ix_t, ix_s, ixs_tp, ixs_pd, ixs_rf, ixs_fz, cel_d, cel_r, mkLst, clsOf, clOf_d, clOf_r, wp_reprB, revS, isi2S, Bool.or_false, Bool.or_true, Bool.false_or, Bool.true_or, bi_lenL, bi_lenT, bi_lenS, bi_listL, bi_listT, bi_tupL, bi_tupT, bi_intI, bi_intB, bi_strI, bi_strS, bi_abs, bi_max, bi_min, bi_all, bi_any, bi_sum, in_l, in_t, in_s, tr_b, tr_i, tr_n, tr_l, tr_t, so_l, so_t, so_s, so_f, io_t, ng_i, pt_i, ag_a, ag_s, rv_l, rv_t, ap_d, rk_l, rk_t, rk_s, rg_1, rg_2, sl_l, sl_t, sl_s, mt_ixS, wp_mkT0, wp_mkT1, wp_mkT2, wp_mkT3, wp_mkT4, wp_mkT5, wp_mkT6, wp_mkT7, wp_mkT8, wp_datR, wp_idxR, wp_setR, wp_appR, set_last, get_last, le_line, lt_line, wp_newM, lg9, meth_words, wp_mkTR, not_true_eq_false, not_false_eq_true, eq_self, ofString_inj, String.reduceEq, wipeS, wp_inS, false_and, and_false, kc, colD]
    refine value1 (T := TM) (k := k) r_law_value r_law_draw r_law_text r_law_signs ?_ t3 (by omega) fun d b4 t4 hd => ?_
    · cases w
      · exact trivial
      · show (1000000 : Nat) ≤ _; decide
    have hv : Val d := by
      cases w
      · obtain ⟨s, e, _⟩ := hd; exact .inr ⟨s, e⟩
      · obtain ⟨i, e, _⟩ := hd; exact .inl ⟨i, e⟩
    simp only [wp_ret, wp_bnd, wp_some, wp_grd, wp_no, wp_dat_pd, wp_dat_fz,  ev, evs, evO, evI, evC, evTs, AI.ex, asgG, asgGs, getV, wp_exs, wp_exs_nil, goS_nx, goS_rt, goS_bk, goS_ct, turnE_nx, turnE_ct, turnE_bk, turnE_rt, endD_rt, endD_nx, back_pd, binS, isFz, cmpS, biS, dats, truth, isiS, allPd, isiD, rkOf, join_some, Option.map, List.map, List.length_cons, List.length_nil, List.getElem?_cons_zero, List.getElem?_cons_succ, List.set_cons_zero, List.set_cons_succ, startS, atI_pos, atI_cast, Int.toNat_natCast, wp_newL1, wp_newL2, wp_newT1, List.length_set, List.set_set, decide_eq_true_eq, decide_eq_false_iff_not, Bool.not_eq_true', true_and, and_true,  ixN_pos, Int.reduceLE, Int.reduceLT, Int.reduceToNat, Int.reduceAdd, Int.reduceSub, Int.reduceMul, Int.reduceMod, Int.reduceNeg, Int.reducePow, Nat.reduceAdd, Nat.reduceLT, Nat.reduceLeDiff, Nat.reduceSub, reduceIte, Int.reduceEq, List.isEmpty_nil, Bool.false_eq_true, Bool.true_eq_false, decide_true, decide_false, ge_iff_le, gt_iff_lt,  wp_eq_int, wp_eq_str, wp_eq_bool, List.length_map, List.replicate, List.cons_append, List.nil_append, Bool.not_false, Bool.not_true, Bool.and_true, Bool.true_and, Bool.and_self, Bool.and_false, Bool.false_and, Option.bind, bn_add, bn_sub, bn_mul, bn_div, bn_mod, bn_pow, bn_addS, bn_addT, bn_addL, cp_eq, cp_ne, cp_ltI, cp_leI, cp_gtI, cp_geI, cp_ltS, cp_leS, cp_gtS, cp_geS, cp_ltT, cp_gtT, cp_in, cp_nin, cp_is, cp_isn, ix_l, ix_t, ix_s, ixs_tp, ixs_pd, ixs_rf, ixs_fz, cel_d, cel_r, mkLst, clsOf, clOf_d, clOf_r, wp_reprB, revS, isi2S, Bool.or_false, Bool.or_true, Bool.false_or, Bool.true_or, bi_lenL, bi_lenT, bi_lenS, bi_listL, bi_listT, bi_tupL, bi_tupT, bi_intI, bi_intB, bi_strI, bi_strS, bi_abs, bi_max, bi_min, bi_all, bi_any, bi_sum, in_l, in_t, in_s, tr_b, tr_i, tr_n, tr_l, tr_t, so_l, so_t, so_s, so_f, io_t, ng_i, pt_i, ag_a, ag_s, rv_l, rv_t, ap_d, rk_l, rk_t, rk_s, rg_1, rg_2, sl_l, sl_t, sl_s, mt_ixS, wp_mkT0, wp_mkT1, wp_mkT2, wp_mkT3, wp_mkT4, wp_mkT5, wp_mkT6, wp_mkT7, wp_mkT8, wp_datR, wp_idxR, wp_setR, wp_appR, set_last, get_last, le_line, lt_line, wp_newM, lg9, meth_words, wp_mkTR, not_true_eq_false, not_false_eq_true, eq_self, ofString_inj, String.reduceEq, wipeS, wp_inS, false_and, and_false]
    refine hJ _ _ ⟨fun v hv2 => ?_, by simp [a2], t4.up (by omega)⟩
    rcases List.mem_append.mp hv2 with hv2 | hv2
    · exact a1 v hv2
    · rw [List.mem_singleton.mp hv2]; exact hv
  · rintro row b3 ⟨a1, a2, t3⟩
    rw [List.length_map, List.length_map] at a2 t3
    have hz : row.length ≤ 1000000 := by omega
    simp only [wp_ret, wp_bnd, wp_some, wp_grd, wp_no, wp_dat_pd, wp_dat_fz,  ev, evs, evO, evI, evC, evTs, AI.ex, asgG, asgGs, getV, wp_exs, wp_exs_nil, goS_nx, goS_rt, goS_bk, goS_ct, turnE_nx, turnE_ct, turnE_bk, turnE_rt, endD_rt, endD_nx, back_pd, binS, isFz, cmpS, biS, dats, truth, isiS, allPd, isiD, rkOf, join_some, Option.map, List.map, List.length_cons, List.length_nil, List.getElem?_cons_zero, List.getElem?_cons_succ, List.set_cons_zero, List.set_cons_succ, startS, atI_pos, atI_cast, Int.toNat_natCast, wp_newL1, wp_newL2, wp_newT1, List.length_set, List.set_set, decide_eq_true_eq, decide_eq_false_iff_not, Bool.not_eq_true', true_and, and_true,  ixN_pos, Int.reduceLE, Int.reduceLT, Int.reduceToNat, Int.reduceAdd, Int.reduceSub, Int.reduceMul, Int.reduceMod, Int.reduceNeg, Int.reducePow, Nat.reduceAdd, Nat.reduceLT, Nat.reduceLeDiff, Nat.reduceSub, reduceIte, Int.reduceEq, List.isEmpty_nil, Bool.false_eq_true, Bool.true_eq_false, decide_true, decide_false, ge_iff_le, gt_iff_lt,  wp_eq_int, wp_eq_str, wp_eq_bool, List.length_map, List.replicate, List.cons_append, List.nil_append, Bool.not_false, Bool.not_true, Bool.and_true, Bool.true_and, Bool.and_self, Bool.and_false, Bool.false_and, Option.bind, bn_add, bn_sub, bn_mul, bn_div, bn_mod, bn_pow, bn_addS, bn_addT, bn_addL, cp_eq, cp_ne, cp_ltI, cp_leI, cp_gtI, cp_geI, cp_ltS, cp_leS, cp_gtS, cp_geS, cp_ltT, cp_gtT, cp_in, cp_nin, cp_is, cp_isn, ix_l, ix_t, ix_s, ixs_tp, ixs_pd, ixs_rf, ixs_fz, cel_d, cel_r, mkLst, clsOf, clOf_d, clOf_r, wp_reprB, revS, isi2S, Bool.or_false, Bool.or_true, Bool.false_or, Bool.true_or, bi_lenL, bi_lenT, bi_lenS, bi_listL, bi_listT, bi_tupL, bi_tupT, bi_intI, bi_intB, bi_strI, bi_strS, bi_abs, bi_max, bi_min, bi_all, bi_any, bi_sum, in_l, in_t, in_s, tr_b, tr_i, tr_n, tr_l, tr_t, so_l, so_t, so_s, so_f, io_t, ng_i, pt_i, ag_a, ag_s, rv_l, rv_t, ap_d, rk_l, rk_t, rk_s, rg_1, rg_2, sl_l, sl_t, sl_s, mt_ixS, wp_mkT0, wp_mkT1, wp_mkT2, wp_mkT3, wp_mkT4, wp_mkT5, wp_mkT6, wp_mkT7, wp_mkT8, wp_datR, wp_idxR, wp_setR, wp_appR, set_last, get_last, le_line, lt_line, wp_newM, lg9, meth_words, wp_mkTR, not_true_eq_false, not_false_eq_true, eq_self, ofString_inj, String.reduceEq, wipeS, wp_inS, false_and, and_false, wp_newT1 hz]
    exact ret _ _ (t3.up (by omega)) a1 (by omega)
theorem odd1 (t : TapeB B b) (hB : B + 30 ≤ 16000000) (q : ∀ d b', TapeB (B + 22) b' → Val d → Q (.pd d) (b' :: hs)) : wp ((TM (k + 3)).call false "_law_odd" [.rf 0]) Q (b :: hs) := by
  refine wp_call (r_law_odd _) (wp_def rfl ?_)
  have ret : ∀ d b', TapeB (B + 22) b' → Val d → back (b :: hs).length false Q (.pd d) (b' :: hs) := fun d b' g1 g2 => by rw [back_pd, List.take_of_length_le (by simp)]; exact q d b' g1 g2
  generalize back (b :: hs).length false Q = Q' at *
  clear q
  simp only [wp_ret, wp_bnd, wp_some, wp_grd, wp_no, wp_dat_pd, wp_dat_fz,  ev, evs, evO, evI, evC, evTs, AI.ex, asgG, asgGs, getV, wp_exs, wp_exs_nil, goS_nx, goS_rt, goS_bk, goS_ct, turnE_nx, turnE_ct, turnE_bk, turnE_rt, endD_rt, endD_nx, back_pd, binS, isFz, cmpS, biS, dats, truth, isiS, allPd, isiD, rkOf, join_some, Option.map, List.map, List.length_cons, List.length_nil, List.getElem?_cons_zero, List.getElem?_cons_succ, List.set_cons_zero, List.set_cons_succ, startS, atI_pos, atI_cast, Int.toNat_natCast, wp_newL1, wp_newL2, wp_newT1, List.length_set, List.set_set, decide_eq_true_eq, decide_eq_false_iff_not, Bool.not_eq_true', true_and, and_true,  ixN_pos, Int.reduceLE, Int.reduceLT, Int.reduceToNat, Int.reduceAdd, Int.reduceSub, Int.reduceMul, Int.reduceMod, Int.reduceNeg, Int.reducePow, Nat.reduceAdd, Nat.reduceLT, Nat.reduceLeDiff, Nat.reduceSub, reduceIte, Int.reduceEq, List.isEmpty_nil, Bool.false_eq_true, Bool.true_eq_false, decide_true, decide_false, ge_iff_le, gt_iff_lt,  wp_eq_int, wp_eq_str, wp_eq_bool, List.length_map, List.replicate, List.cons_append, List.nil_append, Bool.not_false, Bool.not_true, Bool.and_true, Bool.true_and, Bool.and_self, Bool.and_false, Bool.false_and, Option.bind, bn_add, bn_sub, bn_mul, bn_div, bn_mod, bn_pow, bn_addS, bn_addT, bn_addL, cp_eq, cp_ne, cp_ltI, cp_leI, cp_gtI, cp_geI, cp_ltS, cp_leS, cp_gtS, cp_geS, cp_ltT, cp_gtT, cp_in, cp_nin, cp_is, cp_isn, ix_l, ix_t, ix_s, ixs_tp, ixs_pd, ixs_rf, ixs_fz, cel_d, cel_r, mkLst, clsOf, clOf_d, clOf_r, wp_reprB, revS, isi2S, Bool.or_false, Bool.or_true, Bool.false_or, Bool.true_or, bi_lenL, bi_lenT, bi_lenS, bi_listL, bi_listT, bi_tupL, bi_tupT, bi_intI, bi_intB, bi_strI, bi_strS, bi_abs, bi_max, bi_min, bi_all, bi_any, bi_sum, in_l, in_t, in_s, tr_b, tr_i, tr_n, tr_l, tr_t, so_l, so_t, so_s, so_f, io_t, ng_i, pt_i, ag_a, ag_s, rv_l, rv_t, ap_d, rk_l, rk_t, rk_s, rg_1, rg_2, sl_l, sl_t, sl_s, mt_ixS, wp_mkT0, wp_mkT1, wp_mkT2, wp_mkT3, wp_mkT4, wp_mkT5, wp_mkT6, wp_mkT7, wp_mkT8, wp_datR, wp_idxR, wp_setR, wp_appR, set_last, get_last, le_line, lt_line, wp_newM, lg9, meth_words, wp_mkTR, not_true_eq_false, not_false_eq_true, eq_self, ofString_inj, String.reduceEq, wipeS, wp_inS, false_and, and_false, b_law_odd]
  refine draw1 (r_law_draw _) t (by omega) (by decide) fun v b1 t1 hv => ?_
  obtain ⟨v0, v1⟩ := hv.lt (by decide)
  have hlg : (v.natAbs.log2 < 1920) = True := eq_true (Nat.lt_trans (log_le v0 (show v < 2 ^ 400 from Int.lt_of_lt_of_le v1 (by decide))) (by decide))
  simp only [wp_ret, wp_bnd, wp_some, wp_grd, wp_no, wp_dat_pd, wp_dat_fz,  ev, evs, evO, evI, evC, evTs, AI.ex, asgG, asgGs, getV, wp_exs, wp_exs_nil, goS_nx, goS_rt, goS_bk, goS_ct, turnE_nx, turnE_ct, turnE_bk, turnE_rt, endD_rt, endD_nx, back_pd, binS, isFz, cmpS, biS, dats, truth, isiS, allPd, isiD, rkOf, join_some, Option.map, List.map, List.length_cons, List.length_nil, List.getElem?_cons_zero, List.getElem?_cons_succ, List.set_cons_zero, List.set_cons_succ, startS, atI_pos, atI_cast, Int.toNat_natCast, wp_newL1, wp_newL2, wp_newT1, List.length_set, List.set_set, decide_eq_true_eq, decide_eq_false_iff_not, Bool.not_eq_true', true_and, and_true,  ixN_pos, Int.reduceLE, Int.reduceLT, Int.reduceToNat, Int.reduceAdd, Int.reduceSub, Int.reduceMul, Int.reduceMod, Int.reduceNeg, Int.reducePow, Nat.reduceAdd, Nat.reduceLT, Nat.reduceLeDiff, Nat.reduceSub, reduceIte, Int.reduceEq, List.isEmpty_nil, Bool.false_eq_true, Bool.true_eq_false, decide_true, decide_false, ge_iff_le, gt_iff_lt,  wp_eq_int, wp_eq_str, wp_eq_bool, List.length_map, List.replicate, List.cons_append, List.nil_append, Bool.not_false, Bool.not_true, Bool.and_true, Bool.true_and, Bool.and_self, Bool.and_false, Bool.false_and, Option.bind, bn_add, bn_sub, bn_mul, bn_div, bn_mod, bn_pow, bn_addS, bn_addT, bn_addL, cp_eq, cp_ne, cp_ltI, cp_leI, cp_gtI, cp_geI, cp_ltS, cp_leS, cp_gtS, cp_geS, cp_ltT, cp_gtT, cp_in, cp_nin, cp_is, cp_isn, ix_l, ix_t, ix_s, ixs_tp, ixs_pd, ixs_rf, ixs_fz, cel_d, cel_r, mkLst, clsOf, clOf_d, clOf_r, wp_reprB, revS, isi2S, Bool.or_false, Bool.or_true, Bool.false_or, Bool.true_or, bi_lenL, bi_lenT, bi_lenS, bi_listL, bi_listT, bi_tupL, bi_tupT, bi_intI, bi_intB, bi_strI, bi_strS, bi_abs, bi_max, bi_min, bi_all, bi_any, bi_sum, in_l, in_t, in_s, tr_b, tr_i, tr_n, tr_l, tr_t, so_l, so_t, so_s, so_f, io_t, ng_i, pt_i, ag_a, ag_s, rv_l, rv_t, ap_d, rk_l, rk_t, rk_s, rg_1, rg_2, sl_l, sl_t, sl_s, mt_ixS, wp_mkT0, wp_mkT1, wp_mkT2, wp_mkT3, wp_mkT4, wp_mkT5, wp_mkT6, wp_mkT7, wp_mkT8, wp_datR, wp_idxR, wp_setR, wp_appR, set_last, get_last, le_line, lt_line, wp_newM, lg9, meth_words, wp_mkTR, not_true_eq_false, not_false_eq_true, eq_self, ofString_inj, String.reduceEq, wipeS, wp_inS, false_and, and_false]
  refine wp_if (fun c => ?_) (fun c => ?_)
  · simp only [wp_ret, wp_bnd, wp_some, wp_grd, wp_no, wp_dat_pd, wp_dat_fz,  ev, evs, evO, evI, evC, evTs, AI.ex, asgG, asgGs, getV, wp_exs, wp_exs_nil, goS_nx, goS_rt, goS_bk, goS_ct, turnE_nx, turnE_ct, turnE_bk, turnE_rt, endD_rt, endD_nx, back_pd, binS, isFz, cmpS, biS, dats, truth, isiS, allPd, isiD, rkOf, join_some, Option.map, List.map, List.length_cons, List.length_nil, List.getElem?_cons_zero, List.getElem?_cons_succ, List.set_cons_zero, List.set_cons_succ, startS, atI_pos, atI_cast, Int.toNat_natCast, wp_newL1, wp_newL2, wp_newT1, List.length_set, List.set_set, decide_eq_true_eq, decide_eq_false_iff_not, Bool.not_eq_true', true_and, and_true,  ixN_pos, Int.reduceLE, Int.reduceLT, Int.reduceToNat, Int.reduceAdd, Int.reduceSub, Int.reduceMul, Int.reduceMod, Int.reduceNeg, Int.reducePow, Nat.reduceAdd, Nat.reduceLT, Nat.reduceLeDiff, Nat.reduceSub, reduceIte, Int.reduceEq, List.isEmpty_nil, Bool.false_eq_true, Bool.true_eq_false, decide_true, decide_false, ge_iff_le, gt_iff_lt,  wp_eq_int, wp_eq_str, wp_eq_bool, List.length_map, List.replicate, List.cons_append, List.nil_append, Bool.not_false, Bool.not_true, Bool.and_true, Bool.true_and, Bool.and_self, Bool.and_false, Bool.false_and, Option.bind, bn_add, bn_sub, bn_mul, bn_div, bn_mod, bn_pow, bn_addS, bn_addT, bn_addL, cp_eq, cp_ne, cp_ltI, cp_leI, cp_gtI, cp_geI, cp_ltS, cp_leS, cp_gtS, cp_geS, cp_ltT, cp_gtT, cp_in, cp_nin, cp_is, cp_isn, ix_l, ix_t, ix_s, ixs_tp, ixs_pd, ixs_rf, ixs_fz, cel_d, cel_r, mkLst, clsOf, clOf_d, clOf_r, wp_reprB, revS, isi2S, Bool.or_false, Bool.or_true, Bool.false_or, Bool.true_or, bi_lenL, bi_lenT, bi_lenS, bi_listL, bi_listT, bi_tupL, bi_tupT, bi_intI, bi_intB, bi_strI, bi_strS, bi_abs, bi_max, bi_min, bi_all, bi_any, bi_sum, in_l, in_t, in_s, tr_b, tr_i, tr_n, tr_l, tr_t, so_l, so_t, so_s, so_f, io_t, ng_i, pt_i, ag_a, ag_s, rv_l, rv_t, ap_d, rk_l, rk_t, rk_s, rg_1, rg_2, sl_l, sl_t, sl_s, mt_ixS, wp_mkT0, wp_mkT1, wp_mkT2, wp_mkT3, wp_mkT4, wp_mkT5, wp_mkT6, wp_mkT7, wp_mkT8, wp_datR, wp_idxR, wp_setR, wp_appR, set_last, get_last, le_line, lt_line, wp_newM, lg9, meth_words, wp_mkTR, not_true_eq_false, not_false_eq_true, eq_self, ofString_inj, String.reduceEq, wipeS, wp_inS, false_and, and_false]
    refine text1 (T := TM) (k := k) r_law_text r_law_draw r_law_signs t1 (by omega) fun s b2 t2 _ => ?_
    simp only [wp_ret, wp_bnd, wp_some, wp_grd, wp_no, wp_dat_pd, wp_dat_fz,  ev, evs, evO, evI, evC, evTs, AI.ex, asgG, asgGs, getV, wp_exs, wp_exs_nil, goS_nx, goS_rt, goS_bk, goS_ct, turnE_nx, turnE_ct, turnE_bk, turnE_rt, endD_rt, endD_nx, back_pd, binS, isFz, cmpS, biS, dats, truth, isiS, allPd, isiD, rkOf, join_some, Option.map, List.map, List.length_cons, List.length_nil, List.getElem?_cons_zero, List.getElem?_cons_succ, List.set_cons_zero, List.set_cons_succ, startS, atI_pos, atI_cast, Int.toNat_natCast, wp_newL1, wp_newL2, wp_newT1, List.length_set, List.set_set, decide_eq_true_eq, decide_eq_false_iff_not, Bool.not_eq_true', true_and, and_true,  ixN_pos, Int.reduceLE, Int.reduceLT, Int.reduceToNat, Int.reduceAdd, Int.reduceSub, Int.reduceMul, Int.reduceMod, Int.reduceNeg, Int.reducePow, Nat.reduceAdd, Nat.reduceLT, Nat.reduceLeDiff, Nat.reduceSub, reduceIte, Int.reduceEq, List.isEmpty_nil, Bool.false_eq_true, Bool.true_eq_false, decide_true, decide_false, ge_iff_le, gt_iff_lt,  wp_eq_int, wp_eq_str, wp_eq_bool, List.length_map, List.replicate, List.cons_append, List.nil_append, Bool.not_false, Bool.not_true, Bool.and_true, Bool.true_and, Bool.and_self, Bool.and_false, Bool.false_and, Option.bind, bn_add, bn_sub, bn_mul, bn_div, bn_mod, bn_pow, bn_addS, bn_addT, bn_addL, cp_eq, cp_ne, cp_ltI, cp_leI, cp_gtI, cp_geI, cp_ltS, cp_leS, cp_gtS, cp_geS, cp_ltT, cp_gtT, cp_in, cp_nin, cp_is, cp_isn, ix_l, ix_t, ix_s, ixs_tp, ixs_pd, ixs_rf, ixs_fz, cel_d, cel_r, mkLst, clsOf, clOf_d, clOf_r, wp_reprB, revS, isi2S, Bool.or_false, Bool.or_true, Bool.false_or, Bool.true_or, bi_lenL, bi_lenT, bi_lenS, bi_listL, bi_listT, bi_tupL, bi_tupT, bi_intI, bi_intB, bi_strI, bi_strS, bi_abs, bi_max, bi_min, bi_all, bi_any, bi_sum, in_l, in_t, in_s, tr_b, tr_i, tr_n, tr_l, tr_t, so_l, so_t, so_s, so_f, io_t, ng_i, pt_i, ag_a, ag_s, rv_l, rv_t, ap_d, rk_l, rk_t, rk_s, rg_1, rg_2, sl_l, sl_t, sl_s, mt_ixS, wp_mkT0, wp_mkT1, wp_mkT2, wp_mkT3, wp_mkT4, wp_mkT5, wp_mkT6, wp_mkT7, wp_mkT8, wp_datR, wp_idxR, wp_setR, wp_appR, set_last, get_last, le_line, lt_line, wp_newM, lg9, meth_words, wp_mkTR, not_true_eq_false, not_false_eq_true, eq_self, ofString_inj, String.reduceEq, wipeS, wp_inS, false_and, and_false, hlg]
    obtain ⟨u0, u1⟩ := emod_rng (v / 4) (show (0 : Int) < 2 by decide)
    refine wp_atA Val u0 u1 ⟨.inr ⟨_, rfl⟩, .inr ⟨_, rfl⟩, trivial⟩ fun d hd => ?_
    try simp only [wp_ret, wp_bnd, wp_some, wp_grd, wp_no, wp_dat_pd, wp_dat_fz,  ev, evs, evO, evI, evC, evTs, AI.ex, asgG, asgGs, getV, wp_exs, wp_exs_nil, goS_nx, goS_rt, goS_bk, goS_ct, turnE_nx, turnE_ct, turnE_bk, turnE_rt, endD_rt, endD_nx, back_pd, binS, isFz, cmpS, biS, dats, truth, isiS, allPd, isiD, rkOf, join_some, Option.map, List.map, List.length_cons, List.length_nil, List.getElem?_cons_zero, List.getElem?_cons_succ, List.set_cons_zero, List.set_cons_succ, startS, atI_pos, atI_cast, Int.toNat_natCast, wp_newL1, wp_newL2, wp_newT1, List.length_set, List.set_set, decide_eq_true_eq, decide_eq_false_iff_not, Bool.not_eq_true', true_and, and_true,  ixN_pos, Int.reduceLE, Int.reduceLT, Int.reduceToNat, Int.reduceAdd, Int.reduceSub, Int.reduceMul, Int.reduceMod, Int.reduceNeg, Int.reducePow, Nat.reduceAdd, Nat.reduceLT, Nat.reduceLeDiff, Nat.reduceSub, reduceIte, Int.reduceEq, List.isEmpty_nil, Bool.false_eq_true, Bool.true_eq_false, decide_true, decide_false, ge_iff_le, gt_iff_lt,  wp_eq_int, wp_eq_str, wp_eq_bool, List.length_map, List.replicate, List.cons_append, List.nil_append, Bool.not_false, Bool.not_true, Bool.and_true, Bool.true_and, Bool.and_self, Bool.and_false, Bool.false_and, Option.bind, bn_add, bn_sub, bn_mul, bn_div, bn_mod, bn_pow, bn_addS, bn_addT, bn_addL, cp_eq, cp_ne, cp_ltI, cp_leI, cp_gtI, cp_geI, cp_ltS, cp_leS, cp_gtS, cp_geS, cp_ltT, cp_gtT, cp_in, cp_nin, cp_is, cp_isn, ix_l, ix_t, ix_s, ixs_tp, ixs_pd, ixs_rf, ixs_fz, cel_d, cel_r, mkLst, clsOf, clOf_d, clOf_r, wp_reprB, revS, isi2S, Bool.or_false, Bool.or_true, Bool.false_or, Bool.true_or, bi_lenL, bi_lenT, bi_lenS, bi_listL, bi_listT, bi_tupL, bi_tupT, bi_intI, bi_intB, bi_strI, bi_strS, bi_abs, bi_max, bi_min, bi_all, bi_any, bi_sum, in_l, in_t, in_s, tr_b, tr_i, tr_n, tr_l, tr_t, so_l, so_t, so_s, so_f, io_t, ng_i, pt_i, ag_a, ag_s, rv_l, rv_t, ap_d, rk_l, rk_t, rk_s, rg_1, rg_2, sl_l, sl_t, sl_s, mt_ixS, wp_mkT0, wp_mkT1, wp_mkT2, wp_mkT3, wp_mkT4, wp_mkT5, wp_mkT6, wp_mkT7, wp_mkT8, wp_datR, wp_idxR, wp_setR, wp_appR, set_last, get_last, le_line, lt_line, wp_newM, lg9, meth_words, wp_mkTR, not_true_eq_false, not_false_eq_true, eq_self, ofString_inj, String.reduceEq, wipeS, wp_inS, false_and, and_false]
    exact ret _ _ (t2.up (by omega)) hd
  · simp only [wp_ret, wp_bnd, wp_some, wp_grd, wp_no, wp_dat_pd, wp_dat_fz,  ev, evs, evO, evI, evC, evTs, AI.ex, asgG, asgGs, getV, wp_exs, wp_exs_nil, goS_nx, goS_rt, goS_bk, goS_ct, turnE_nx, turnE_ct, turnE_bk, turnE_rt, endD_rt, endD_nx, back_pd, binS, isFz, cmpS, biS, dats, truth, isiS, allPd, isiD, rkOf, join_some, Option.map, List.map, List.length_cons, List.length_nil, List.getElem?_cons_zero, List.getElem?_cons_succ, List.set_cons_zero, List.set_cons_succ, startS, atI_pos, atI_cast, Int.toNat_natCast, wp_newL1, wp_newL2, wp_newT1, List.length_set, List.set_set, decide_eq_true_eq, decide_eq_false_iff_not, Bool.not_eq_true', true_and, and_true,  ixN_pos, Int.reduceLE, Int.reduceLT, Int.reduceToNat, Int.reduceAdd, Int.reduceSub, Int.reduceMul, Int.reduceMod, Int.reduceNeg, Int.reducePow, Nat.reduceAdd, Nat.reduceLT, Nat.reduceLeDiff, Nat.reduceSub, reduceIte, Int.reduceEq, List.isEmpty_nil, Bool.false_eq_true, Bool.true_eq_false, decide_true, decide_false, ge_iff_le, gt_iff_lt,  wp_eq_int, wp_eq_str, wp_eq_bool, List.length_map, List.replicate, List.cons_append, List.nil_append, Bool.not_false, Bool.not_true, Bool.and_true, Bool.true_and, Bool.and_self, Bool.and_false, Bool.false_and, Option.bind, bn_add, bn_sub, bn_mul, bn_div, bn_mod, bn_pow, bn_addS, bn_addT, bn_addL, cp_eq, cp_ne, cp_ltI, cp_leI, cp_gtI, cp_geI, cp_ltS, cp_leS, cp_gtS, cp_geS, cp_ltT, cp_gtT, cp_in, cp_nin, cp_is, cp_isn, ix_l, ix_t, ix_s, ixs_tp, ixs_pd, ixs_rf, ixs_fz, cel_d, cel_r, mkLst, clsOf, clOf_d, clOf_r, wp_reprB, revS, isi2S, Bool.or_false, Bool.or_true, Bool.false_or, Bool.true_or, bi_lenL, bi_lenT, bi_lenS, bi_listL, bi_listT, bi_tupL, bi_tupT, bi_intI, bi_intB, bi_strI, bi_strS, bi_abs, bi_max, bi_min, bi_all, bi_any, bi_sum, in_l, in_t, in_s, tr_b, tr_i, tr_n, tr_l, tr_t, so_l, so_t, so_s, so_f, io_t, ng_i, pt_i, ag_a, ag_s, rv_l, rv_t, ap_d, rk_l, rk_t, rk_s, rg_1, rg_2, sl_l, sl_t, sl_s, mt_ixS, wp_mkT0, wp_mkT1, wp_mkT2, wp_mkT3, wp_mkT4, wp_mkT5, wp_mkT6, wp_mkT7, wp_mkT8, wp_datR, wp_idxR, wp_setR, wp_appR, set_last, get_last, le_line, lt_line, wp_newM, lg9, meth_words, wp_mkTR, not_true_eq_false, not_false_eq_true, eq_self, ofString_inj, String.reduceEq, wipeS, wp_inS, false_and, and_false]
    refine ⟨by decide, ?_⟩
    refine wp_atA Val (by omega) (by simp; omega) ⟨.inl ⟨_, rfl⟩, .inl ⟨_, rfl⟩, .inl ⟨_, rfl⟩, trivial⟩ fun d hd => ?_
    try simp only [wp_ret, wp_bnd, wp_some, wp_grd, wp_no, wp_dat_pd, wp_dat_fz,  ev, evs, evO, evI, evC, evTs, AI.ex, asgG, asgGs, getV, wp_exs, wp_exs_nil, goS_nx, goS_rt, goS_bk, goS_ct, turnE_nx, turnE_ct, turnE_bk, turnE_rt, endD_rt, endD_nx, back_pd, binS, isFz, cmpS, biS, dats, truth, isiS, allPd, isiD, rkOf, join_some, Option.map, List.map, List.length_cons, List.length_nil, List.getElem?_cons_zero, List.getElem?_cons_succ, List.set_cons_zero, List.set_cons_succ, startS, atI_pos, atI_cast, Int.toNat_natCast, wp_newL1, wp_newL2, wp_newT1, List.length_set, List.set_set, decide_eq_true_eq, decide_eq_false_iff_not, Bool.not_eq_true', true_and, and_true,  ixN_pos, Int.reduceLE, Int.reduceLT, Int.reduceToNat, Int.reduceAdd, Int.reduceSub, Int.reduceMul, Int.reduceMod, Int.reduceNeg, Int.reducePow, Nat.reduceAdd, Nat.reduceLT, Nat.reduceLeDiff, Nat.reduceSub, reduceIte, Int.reduceEq, List.isEmpty_nil, Bool.false_eq_true, Bool.true_eq_false, decide_true, decide_false, ge_iff_le, gt_iff_lt,  wp_eq_int, wp_eq_str, wp_eq_bool, List.length_map, List.replicate, List.cons_append, List.nil_append, Bool.not_false, Bool.not_true, Bool.and_true, Bool.true_and, Bool.and_self, Bool.and_false, Bool.false_and, Option.bind, bn_add, bn_sub, bn_mul, bn_div, bn_mod, bn_pow, bn_addS, bn_addT, bn_addL, cp_eq, cp_ne, cp_ltI, cp_leI, cp_gtI, cp_geI, cp_ltS, cp_leS, cp_gtS, cp_geS, cp_ltT, cp_gtT, cp_in, cp_nin, cp_is, cp_isn, ix_l, ix_t, ix_s, ixs_tp, ixs_pd, ixs_rf, ixs_fz, cel_d, cel_r, mkLst, clsOf, clOf_d, clOf_r, wp_reprB, revS, isi2S, Bool.or_false, Bool.or_true, Bool.false_or, Bool.true_or, bi_lenL, bi_lenT, bi_lenS, bi_listL, bi_listT, bi_tupL, bi_tupT, bi_intI, bi_intB, bi_strI, bi_strS, bi_abs, bi_max, bi_min, bi_all, bi_any, bi_sum, in_l, in_t, in_s, tr_b, tr_i, tr_n, tr_l, tr_t, so_l, so_t, so_s, so_f, io_t, ng_i, pt_i, ag_a, ag_s, rv_l, rv_t, ap_d, rk_l, rk_t, rk_s, rg_1, rg_2, sl_l, sl_t, sl_s, mt_ixS, wp_mkT0, wp_mkT1, wp_mkT2, wp_mkT3, wp_mkT4, wp_mkT5, wp_mkT6, wp_mkT7, wp_mkT8, wp_datR, wp_idxR, wp_setR, wp_appR, set_last, get_last, le_line, lt_line, wp_newM, lg9, meth_words, wp_mkTR, not_true_eq_false, not_false_eq_true, eq_self, ofString_inj, String.reduceEq, wipeS, wp_inS, false_and, and_false]
    exact ret _ _ (t1.up (by omega)) hd
end
def upB (vs : List D) (cs : List (Str × Bool)) (i : Nat) : Bool := decide ((vs.length : Int) = cs.length) && (List.range i).all (dueAt vs cs)
theorem upB_zero {vs : List D} {cs : List (Str × Bool)} : upB vs cs 0 = decide ((vs.length : Int) = cs.length) := by simp [upB]
theorem upB_succ {vs : List D} {cs : List (Str × Bool)} {i : Nat} : upB vs cs (i + 1) = (upB vs cs i && dueAt vs cs i) := by
  unfold upB
  rw [List.range_succ, List.all_append]
  simp [Bool.and_assoc]
theorem upB_end {vs : List D} {cs : List (Str × Bool)} {m : Nat} (h : (vs.length : Int) = cs.length → m = vs.length) : upB vs cs m = canB vs cs := by
  unfold upB canB
  by_cases e : (vs.length : Int) = cs.length
  · rw [h e]
  · rw [decide_eq_false e, Bool.false_and, Bool.false_and]
theorem plain (ns : List Int) (hl : ns.length ≤ 63) : ∃ b, (tab.mdl.tt 100).raw "law" [.fz (ns.map PyData.int)] [] = .ok (.pd (.bool true)) b := by
  suffices w : wp ((TM 100).raw "law" [.fz (ns.map PyData.int)]) (fun r _ => r = .pd (.bool true)) [] by
    obtain ⟨r, b, e, rfl⟩ := w
    exact ⟨b, e⟩
  rw [r_law 99]
  refine wp_def rfl ?_
  simp only [wp_ret, wp_bnd, wp_some, wp_grd, wp_no, wp_dat_pd, wp_dat_fz,  ev, evs, evO, evI, evC, evTs, AI.ex, asgG, asgGs, getV, wp_exs, wp_exs_nil, goS_nx, goS_rt, goS_bk, goS_ct, turnE_nx, turnE_ct, turnE_bk, turnE_rt, endD_rt, endD_nx, back_pd, binS, isFz, cmpS, biS, dats, truth, isiS, allPd, isiD, rkOf, join_some, Option.map, List.map, List.length_cons, List.length_nil, List.getElem?_cons_zero, List.getElem?_cons_succ, List.set_cons_zero, List.set_cons_succ, startS, atI_pos, atI_cast, Int.toNat_natCast, wp_newL1, wp_newL2, wp_newT1, List.length_set, List.set_set, decide_eq_true_eq, decide_eq_false_iff_not, Bool.not_eq_true', true_and, and_true,  ixN_pos, Int.reduceLE, Int.reduceLT, Int.reduceToNat, Int.reduceAdd, Int.reduceSub, Int.reduceMul, Int.reduceMod, Int.reduceNeg, Int.reducePow, Nat.reduceAdd, Nat.reduceLT, Nat.reduceLeDiff, Nat.reduceSub, reduceIte, Int.reduceEq, List.isEmpty_nil, Bool.false_eq_true, Bool.true_eq_false, decide_true, decide_false, ge_iff_le, gt_iff_lt,  wp_eq_int, wp_eq_str, wp_eq_bool, List.length_map, List.replicate, List.cons_append, List.nil_append, Bool.not_false, Bool.not_true, Bool.and_true, Bool.true_and, Bool.and_self, Bool.and_false, Bool.false_and, Option.bind, bn_add, bn_sub, bn_mul, bn_div, bn_mod, bn_pow, bn_addS, bn_addT, bn_addL, cp_eq, cp_ne, cp_ltI, cp_leI, cp_gtI, cp_geI, cp_ltS, cp_leS, cp_gtS, cp_geS, cp_ltT, cp_gtT, cp_in, cp_nin, cp_is, cp_isn, ix_l, ix_t, ix_s, ixs_tp, ixs_pd, ixs_rf, ixs_fz, cel_d, cel_r, mkLst, clsOf, clOf_d, clOf_r, wp_reprB, revS, isi2S, Bool.or_false, Bool.or_true, Bool.false_or, Bool.true_or, bi_lenL, bi_lenT, bi_lenS, bi_listL, bi_listT, bi_tupL, bi_tupT, bi_intI, bi_intB, bi_strI, bi_strS, bi_abs, bi_max, bi_min, bi_all, bi_any, bi_sum, in_l, in_t, in_s, tr_b, tr_i, tr_n, tr_l, tr_t, so_l, so_t, so_s, so_f, io_t, ng_i, pt_i, ag_a, ag_s, rv_l, rv_t, ap_d, rk_l, rk_t, rk_s, rg_1, rg_2, sl_l, sl_t, sl_s, mt_ixS, wp_mkT0, wp_mkT1, wp_mkT2, wp_mkT3, wp_mkT4, wp_mkT5, wp_mkT6, wp_mkT7, wp_mkT8, wp_datR, wp_idxR, wp_setR, wp_appR, set_last, get_last, le_line, lt_line, wp_newM, lg9, meth_words, wp_mkTR, not_true_eq_false, not_false_eq_true, eq_self, ofString_inj, String.reduceEq, wipeS, wp_inS, false_and, and_false, b_law]
  refine tape1 (r_law_tape 98) hl fun b0 t0 => ?_
  try simp only [wp_ret, wp_bnd, wp_some, wp_grd, wp_no, wp_dat_pd, wp_dat_fz,  ev, evs, evO, evI, evC, evTs, AI.ex, asgG, asgGs, getV, wp_exs, wp_exs_nil, goS_nx, goS_rt, goS_bk, goS_ct, turnE_nx, turnE_ct, turnE_bk, turnE_rt, endD_rt, endD_nx, back_pd, binS, isFz, cmpS, biS, dats, truth, isiS, allPd, isiD, rkOf, join_some, Option.map, List.map, List.length_cons, List.length_nil, List.getElem?_cons_zero, List.getElem?_cons_succ, List.set_cons_zero, List.set_cons_succ, startS, atI_pos, atI_cast, Int.toNat_natCast, wp_newL1, wp_newL2, wp_newT1, List.length_set, List.set_set, decide_eq_true_eq, decide_eq_false_iff_not, Bool.not_eq_true', true_and, and_true,  ixN_pos, Int.reduceLE, Int.reduceLT, Int.reduceToNat, Int.reduceAdd, Int.reduceSub, Int.reduceMul, Int.reduceMod, Int.reduceNeg, Int.reducePow, Nat.reduceAdd, Nat.reduceLT, Nat.reduceLeDiff, Nat.reduceSub, reduceIte, Int.reduceEq, List.isEmpty_nil, Bool.false_eq_true, Bool.true_eq_false, decide_true, decide_false, ge_iff_le, gt_iff_lt,  wp_eq_int, wp_eq_str, wp_eq_bool, List.length_map, List.replicate, List.cons_append, List.nil_append, Bool.not_false, Bool.not_true, Bool.and_true, Bool.true_and, Bool.and_self, Bool.and_false, Bool.false_and, Option.bind, bn_add, bn_sub, bn_mul, bn_div, bn_mod, bn_pow, bn_addS, bn_addT, bn_addL, cp_eq, cp_ne, cp_ltI, cp_leI, cp_gtI, cp_geI, cp_ltS, cp_leS, cp_gtS, cp_geS, cp_ltT, cp_gtT, cp_in, cp_nin, cp_is, cp_isn, ix_l, ix_t, ix_s, ixs_tp, ixs_pd, ixs_rf, ixs_fz, cel_d, cel_r, mkLst, clsOf, clOf_d, clOf_r, wp_reprB, revS, isi2S, Bool.or_false, Bool.or_true, Bool.false_or, Bool.true_or, bi_lenL, bi_lenT, bi_lenS, bi_listL, bi_listT, bi_tupL, bi_tupT, bi_intI, bi_intB, bi_strI, bi_strS, bi_abs, bi_max, bi_min, bi_all, bi_any, bi_sum, in_l, in_t, in_s, tr_b, tr_i, tr_n, tr_l, tr_t, so_l, so_t, so_s, so_f, io_t, ng_i, pt_i, ag_a, ag_s, rv_l, rv_t, ap_d, rk_l, rk_t, rk_s, rg_1, rg_2, sl_l, sl_t, sl_s, mt_ixS, wp_mkT0, wp_mkT1, wp_mkT2, wp_mkT3, wp_mkT4, wp_mkT5, wp_mkT6, wp_mkT7, wp_mkT8, wp_datR, wp_idxR, wp_setR, wp_appR, set_last, get_last, le_line, lt_line, wp_newM, lg9, meth_words, wp_mkTR, not_true_eq_false, not_false_eq_true, eq_self, ofString_inj, String.reduceEq, wipeS, wp_inS, false_and, and_false]
  refine draw1 (r_law_draw 98) t0 (by omega) (by decide) fun v b1 t1 hv => ?_
  obtain ⟨v0, v1⟩ := hv.lt (by decide)
  try simp only [wp_ret, wp_bnd, wp_some, wp_grd, wp_no, wp_dat_pd, wp_dat_fz,  ev, evs, evO, evI, evC, evTs, AI.ex, asgG, asgGs, getV, wp_exs, wp_exs_nil, goS_nx, goS_rt, goS_bk, goS_ct, turnE_nx, turnE_ct, turnE_bk, turnE_rt, endD_rt, endD_nx, back_pd, binS, isFz, cmpS, biS, dats, truth, isiS, allPd, isiD, rkOf, join_some, Option.map, List.map, List.length_cons, List.length_nil, List.getElem?_cons_zero, List.getElem?_cons_succ, List.set_cons_zero, List.set_cons_succ, startS, atI_pos, atI_cast, Int.toNat_natCast, wp_newL1, wp_newL2, wp_newT1, List.length_set, List.set_set, decide_eq_true_eq, decide_eq_false_iff_not, Bool.not_eq_true', true_and, and_true,  ixN_pos, Int.reduceLE, Int.reduceLT, Int.reduceToNat, Int.reduceAdd, Int.reduceSub, Int.reduceMul, Int.reduceMod, Int.reduceNeg, Int.reducePow, Nat.reduceAdd, Nat.reduceLT, Nat.reduceLeDiff, Nat.reduceSub, reduceIte, Int.reduceEq, List.isEmpty_nil, Bool.false_eq_true, Bool.true_eq_false, decide_true, decide_false, ge_iff_le, gt_iff_lt,  wp_eq_int, wp_eq_str, wp_eq_bool, List.length_map, List.replicate, List.cons_append, List.nil_append, Bool.not_false, Bool.not_true, Bool.and_true, Bool.true_and, Bool.and_self, Bool.and_false, Bool.false_and, Option.bind, bn_add, bn_sub, bn_mul, bn_div, bn_mod, bn_pow, bn_addS, bn_addT, bn_addL, cp_eq, cp_ne, cp_ltI, cp_leI, cp_gtI, cp_geI, cp_ltS, cp_leS, cp_gtS, cp_geS, cp_ltT, cp_gtT, cp_in, cp_nin, cp_is, cp_isn, ix_l, ix_t, ix_s, ixs_tp, ixs_pd, ixs_rf, ixs_fz, cel_d, cel_r, mkLst, clsOf, clOf_d, clOf_r, wp_reprB, revS, isi2S, Bool.or_false, Bool.or_true, Bool.false_or, Bool.true_or, bi_lenL, bi_lenT, bi_lenS, bi_listL, bi_listT, bi_tupL, bi_tupT, bi_intI, bi_intB, bi_strI, bi_strS, bi_abs, bi_max, bi_min, bi_all, bi_any, bi_sum, in_l, in_t, in_s, tr_b, tr_i, tr_n, tr_l, tr_t, so_l, so_t, so_s, so_f, io_t, ng_i, pt_i, ag_a, ag_s, rv_l, rv_t, ap_d, rk_l, rk_t, rk_s, rg_1, rg_2, sl_l, sl_t, sl_s, mt_ixS, wp_mkT0, wp_mkT1, wp_mkT2, wp_mkT3, wp_mkT4, wp_mkT5, wp_mkT6, wp_mkT7, wp_mkT8, wp_datR, wp_idxR, wp_setR, wp_appR, set_last, get_last, le_line, lt_line, wp_newM, lg9, meth_words, wp_mkTR, not_true_eq_false, not_false_eq_true, eq_self, ofString_inj, String.reduceEq, wipeS, wp_inS, false_and, and_false]
  refine wp_atA (fun d => ∃ n : Nat, d = .int n ∧ 1 ≤ n ∧ n ≤ 8) v0 v1 ⟨⟨3, rfl, by omega, by omega⟩, ⟨3, rfl, by omega, by omega⟩, ⟨8, rfl, by omega, by omega⟩, trivial⟩ fun d ⟨n, e, n0, n1⟩ => ?_
  subst e
  try simp only [wp_ret, wp_bnd, wp_some, wp_grd, wp_no, wp_dat_pd, wp_dat_fz,  ev, evs, evO, evI, evC, evTs, AI.ex, asgG, asgGs, getV, wp_exs, wp_exs_nil, goS_nx, goS_rt, goS_bk, goS_ct, turnE_nx, turnE_ct, turnE_bk, turnE_rt, endD_rt, endD_nx, back_pd, binS, isFz, cmpS, biS, dats, truth, isiS, allPd, isiD, rkOf, join_some, Option.map, List.map, List.length_cons, List.length_nil, List.getElem?_cons_zero, List.getElem?_cons_succ, List.set_cons_zero, List.set_cons_succ, startS, atI_pos, atI_cast, Int.toNat_natCast, wp_newL1, wp_newL2, wp_newT1, List.length_set, List.set_set, decide_eq_true_eq, decide_eq_false_iff_not, Bool.not_eq_true', true_and, and_true,  ixN_pos, Int.reduceLE, Int.reduceLT, Int.reduceToNat, Int.reduceAdd, Int.reduceSub, Int.reduceMul, Int.reduceMod, Int.reduceNeg, Int.reducePow, Nat.reduceAdd, Nat.reduceLT, Nat.reduceLeDiff, Nat.reduceSub, reduceIte, Int.reduceEq, List.isEmpty_nil, Bool.false_eq_true, Bool.true_eq_false, decide_true, decide_false, ge_iff_le, gt_iff_lt,  wp_eq_int, wp_eq_str, wp_eq_bool, List.length_map, List.replicate, List.cons_append, List.nil_append, Bool.not_false, Bool.not_true, Bool.and_true, Bool.true_and, Bool.and_self, Bool.and_false, Bool.false_and, Option.bind, bn_add, bn_sub, bn_mul, bn_div, bn_mod, bn_pow, bn_addS, bn_addT, bn_addL, cp_eq, cp_ne, cp_ltI, cp_leI, cp_gtI, cp_geI, cp_ltS, cp_leS, cp_gtS, cp_geS, cp_ltT, cp_gtT, cp_in, cp_nin, cp_is, cp_isn, ix_l, ix_t, ix_s, ixs_tp, ixs_pd, ixs_rf, ixs_fz, cel_d, cel_r, mkLst, clsOf, clOf_d, clOf_r, wp_reprB, revS, isi2S, Bool.or_false, Bool.or_true, Bool.false_or, Bool.true_or, bi_lenL, bi_lenT, bi_lenS, bi_listL, bi_listT, bi_tupL, bi_tupT, bi_intI, bi_intB, bi_strI, bi_strS, bi_abs, bi_max, bi_min, bi_all, bi_any, bi_sum, in_l, in_t, in_s, tr_b, tr_i, tr_n, tr_l, tr_t, so_l, so_t, so_s, so_f, io_t, ng_i, pt_i, ag_a, ag_s, rv_l, rv_t, ap_d, rk_l, rk_t, rk_s, rg_1, rg_2, sl_l, sl_t, sl_s, mt_ixS, wp_mkT0, wp_mkT1, wp_mkT2, wp_mkT3, wp_mkT4, wp_mkT5, wp_mkT6, wp_mkT7, wp_mkT8, wp_datR, wp_idxR, wp_setR, wp_appR, set_last, get_last, le_line, lt_line, wp_newM, lg9, meth_words, wp_mkTR, not_true_eq_false, not_false_eq_true, eq_self, ofString_inj, String.reduceEq, wipeS, wp_inS, false_and, and_false]
  refine names1 (T := TM) (k := 96) (m := n) r_law_names r_law_name r_law_draw t1 (by omega) (by omega) (by omega) fun ps b2 t2 hps => ?_
  try simp only [wp_ret, wp_bnd, wp_some, wp_grd, wp_no, wp_dat_pd, wp_dat_fz,  ev, evs, evO, evI, evC, evTs, AI.ex, asgG, asgGs, getV, wp_exs, wp_exs_nil, goS_nx, goS_rt, goS_bk, goS_ct, turnE_nx, turnE_ct, turnE_bk, turnE_rt, endD_rt, endD_nx, back_pd, binS, isFz, cmpS, biS, dats, truth, isiS, allPd, isiD, rkOf, join_some, Option.map, List.map, List.length_cons, List.length_nil, List.getElem?_cons_zero, List.getElem?_cons_succ, List.set_cons_zero, List.set_cons_succ, startS, atI_pos, atI_cast, Int.toNat_natCast, wp_newL1, wp_newL2, wp_newT1, List.length_set, List.set_set, decide_eq_true_eq, decide_eq_false_iff_not, Bool.not_eq_true', true_and, and_true,  ixN_pos, Int.reduceLE, Int.reduceLT, Int.reduceToNat, Int.reduceAdd, Int.reduceSub, Int.reduceMul, Int.reduceMod, Int.reduceNeg, Int.reducePow, Nat.reduceAdd, Nat.reduceLT, Nat.reduceLeDiff, Nat.reduceSub, reduceIte, Int.reduceEq, List.isEmpty_nil, Bool.false_eq_true, Bool.true_eq_false, decide_true, decide_false, ge_iff_le, gt_iff_lt,  wp_eq_int, wp_eq_str, wp_eq_bool, List.length_map, List.replicate, List.cons_append, List.nil_append, Bool.not_false, Bool.not_true, Bool.and_true, Bool.true_and, Bool.and_self, Bool.and_false, Bool.false_and, Option.bind, bn_add, bn_sub, bn_mul, bn_div, bn_mod, bn_pow, bn_addS, bn_addT, bn_addL, cp_eq, cp_ne, cp_ltI, cp_leI, cp_gtI, cp_geI, cp_ltS, cp_leS, cp_gtS, cp_geS, cp_ltT, cp_gtT, cp_in, cp_nin, cp_is, cp_isn, ix_l, ix_t, ix_s, ixs_tp, ixs_pd, ixs_rf, ixs_fz, cel_d, cel_r, mkLst, clsOf, clOf_d, clOf_r, wp_reprB, revS, isi2S, Bool.or_false, Bool.or_true, Bool.false_or, Bool.true_or, bi_lenL, bi_lenT, bi_lenS, bi_listL, bi_listT, bi_tupL, bi_tupT, bi_intI, bi_intB, bi_strI, bi_strS, bi_abs, bi_max, bi_min, bi_all, bi_any, bi_sum, in_l, in_t, in_s, tr_b, tr_i, tr_n, tr_l, tr_t, so_l, so_t, so_s, so_f, io_t, ng_i, pt_i, ag_a, ag_s, rv_l, rv_t, ap_d, rk_l, rk_t, rk_s, rg_1, rg_2, sl_l, sl_t, sl_s, mt_ixS, wp_mkT0, wp_mkT1, wp_mkT2, wp_mkT3, wp_mkT4, wp_mkT5, wp_mkT6, wp_mkT7, wp_mkT8, wp_datR, wp_idxR, wp_setR, wp_appR, set_last, get_last, le_line, lt_line, wp_newM, lg9, meth_words, wp_mkTR, not_true_eq_false, not_false_eq_true, eq_self, ofString_inj, String.reduceEq, wipeS, wp_inS, false_and, and_false]
  refine tables (k := 95) hps n1 t2 (by omega) fun ts b3 t3 nd tl tc => ?_
  have t3 := t3.up (show _ ≤ 1000 by omega)
  simp only [wp_ret, wp_bnd, wp_some, wp_grd, wp_no, wp_dat_pd, wp_dat_fz,  ev, evs, evO, evI, evC, evTs, AI.ex, asgG, asgGs, getV, wp_exs, wp_exs_nil, goS_nx, goS_rt, goS_bk, goS_ct, turnE_nx, turnE_ct, turnE_bk, turnE_rt, endD_rt, endD_nx, back_pd, binS, isFz, cmpS, biS, dats, truth, isiS, allPd, isiD, rkOf, join_some, Option.map, List.map, List.length_cons, List.length_nil, List.getElem?_cons_zero, List.getElem?_cons_succ, List.set_cons_zero, List.set_cons_succ, startS, atI_pos, atI_cast, Int.toNat_natCast, wp_newL1, wp_newL2, wp_newT1, List.length_set, List.set_set, decide_eq_true_eq, decide_eq_false_iff_not, Bool.not_eq_true', true_and, and_true,  ixN_pos, Int.reduceLE, Int.reduceLT, Int.reduceToNat, Int.reduceAdd, Int.reduceSub, Int.reduceMul, Int.reduceMod, Int.reduceNeg, Int.reducePow, Nat.reduceAdd, Nat.reduceLT, Nat.reduceLeDiff, Nat.reduceSub, reduceIte, Int.reduceEq, List.isEmpty_nil, Bool.false_eq_true, Bool.true_eq_false, decide_true, decide_false, ge_iff_le, gt_iff_lt,  wp_eq_int, wp_eq_str, wp_eq_bool, List.length_map, List.replicate, List.cons_append, List.nil_append, Bool.not_false, Bool.not_true, Bool.and_true, Bool.true_and, Bool.and_self, Bool.and_false, Bool.false_and, Option.bind, bn_add, bn_sub, bn_mul, bn_div, bn_mod, bn_pow, bn_addS, bn_addT, bn_addL, cp_eq, cp_ne, cp_ltI, cp_leI, cp_gtI, cp_geI, cp_ltS, cp_leS, cp_gtS, cp_geS, cp_ltT, cp_gtT, cp_in, cp_nin, cp_is, cp_isn, ix_l, ix_t, ix_s, ixs_tp, ixs_pd, ixs_rf, ixs_fz, cel_d, cel_r, mkLst, clsOf, clOf_d, clOf_r, wp_reprB, revS, isi2S, Bool.or_false, Bool.or_true, Bool.false_or, Bool.true_or, bi_lenL, bi_lenT, bi_lenS, bi_listL, bi_listT, bi_tupL, bi_tupT, bi_intI, bi_intB, bi_strI, bi_strS, bi_abs, bi_max, bi_min, bi_all, bi_any, bi_sum, in_l, in_t, in_s, tr_b, tr_i, tr_n, tr_l, tr_t, so_l, so_t, so_s, so_f, io_t, ng_i, pt_i, ag_a, ag_s, rv_l, rv_t, ap_d, rk_l, rk_t, rk_s, rg_1, rg_2, sl_l, sl_t, sl_s, mt_ixS, wp_mkT0, wp_mkT1, wp_mkT2, wp_mkT3, wp_mkT4, wp_mkT5, wp_mkT6, wp_mkT7, wp_mkT8, wp_datR, wp_idxR, wp_setR, wp_appR, set_last, get_last, le_line, lt_line, wp_newM, lg9, meth_words, wp_mkTR, not_true_eq_false, not_false_eq_true, eq_self, ofString_inj, String.reduceEq, wipeS, wp_inS, false_and, and_false]
  refine wp_forF (l := ts) (fun (a : List Tbl) s => a ++ [s]) [] (fun (a : List Tbl) σ h' => ∃ (b' : Box) (y3 y4 y5 y6 y7 y8 y9 y10 y11 : Option RV), TapeB (1000 + 300 * a.length) b' ∧ h' = [b'] ∧ σ = [some (.fz (ns.map .int)), some (.rf 0), some (.pd (schD ts)), y3, y4, y5, y6, y7, y8, y9, y10, y11]) ⟨b3, _, _, _, _, _, _, _, _, _, t3.up (by simp), rfl, rfl⟩ ?_ ?_
  · rintro pre t post e σ h' ⟨b4, y3, y4, y5, y6, y7, y8, y9, y10, y11, t4, rfl, rfl⟩ J hJ
    have ht : t ∈ ts := by rw [e]; simp
    have e4 := congrArg List.length e
    rw [List.length_append, List.length_cons] at e4
    rw [snoc_fold, List.nil_append] at *
    have hcl := tc t ht
    simp only [wp_ret, wp_bnd, wp_some, wp_grd, wp_no, wp_dat_pd, wp_dat_fz,  ev, evs, evO, evI, evC, evTs, AI.ex, asgG, asgGs, getV, wp_exs, wp_exs_nil, goS_nx, goS_rt, goS_bk, goS_ct, turnE_nx, turnE_ct, turnE_bk, turnE_rt, endD_rt, endD_nx, back_pd, binS, isFz, cmpS, biS, dats, truth, isiS, allPd, isiD, rkOf, join_some, Option.map, List.map, List.length_cons, List.length_nil, List.getElem?_cons_zero, List.getElem?_cons_succ, List.set_cons_zero, List.set_cons_succ, startS, atI_pos, atI_cast, Int.toNat_natCast, wp_newL1, wp_newL2, wp_newT1, List.length_set, List.set_set, decide_eq_true_eq, decide_eq_false_iff_not, Bool.not_eq_true', true_and, and_true,  ixN_pos, Int.reduceLE, Int.reduceLT, Int.reduceToNat, Int.reduceAdd, Int.reduceSub, Int.reduceMul, Int.reduceMod, Int.reduceNeg, Int.reducePow, Nat.reduceAdd, Nat.reduceLT, Nat.reduceLeDiff, Nat.reduceSub, reduceIte, Int.reduceEq, List.isEmpty_nil, Bool.false_eq_true, Bool.true_eq_false, decide_true, decide_false, ge_iff_le, gt_iff_lt,  wp_eq_int, wp_eq_str, wp_eq_bool, List.length_map, List.replicate, List.cons_append, List.nil_append, Bool.not_false, Bool.not_true, Bool.and_true, Bool.true_and, Bool.and_self, Bool.and_false, Bool.false_and, Option.bind, bn_add, bn_sub, bn_mul, bn_div, bn_mod, bn_pow, bn_addS, bn_addT, bn_addL, cp_eq, cp_ne, cp_ltI, cp_leI, cp_gtI, cp_geI, cp_ltS, cp_leS, cp_gtS, cp_geS, cp_ltT, cp_gtT, cp_in, cp_nin, cp_is, cp_isn, ix_l, ix_t, ix_s, ixs_tp, ixs_pd, ixs_rf, ixs_fz, cel_d, cel_r, mkLst, clsOf, clOf_d, clOf_r, wp_reprB, revS, isi2S, Bool.or_false, Bool.or_true, Bool.false_or, Bool.true_or, bi_lenL, bi_lenT, bi_lenS, bi_listL, bi_listT, bi_tupL, bi_tupT, bi_intI, bi_intB, bi_strI, bi_strS, bi_abs, bi_max, bi_min, bi_all, bi_any, bi_sum, in_l, in_t, in_s, tr_b, tr_i, tr_n, tr_l, tr_t, so_l, so_t, so_s, so_f, io_t, ng_i, pt_i, ag_a, ag_s, rv_l, rv_t, ap_d, rk_l, rk_t, rk_s, rg_1, rg_2, sl_l, sl_t, sl_s, mt_ixS, wp_mkT0, wp_mkT1, wp_mkT2, wp_mkT3, wp_mkT4, wp_mkT5, wp_mkT6, wp_mkT7, wp_mkT8, wp_datR, wp_idxR, wp_setR, wp_appR, set_last, get_last, le_line, lt_line, wp_newM, lg9, meth_words, wp_mkTR, not_true_eq_false, not_false_eq_true, eq_self, ofString_inj, String.reduceEq, wipeS, wp_inS, false_and, and_false, Tbl.toD]
    refine kinds1 (k := 98) (by omega) ?_
    try simp only [wp_ret, wp_bnd, wp_some, wp_grd, wp_no, wp_dat_pd, wp_dat_fz,  ev, evs, evO, evI, evC, evTs, AI.ex, asgG, asgGs, getV, wp_exs, wp_exs_nil, goS_nx, goS_rt, goS_bk, goS_ct, turnE_nx, turnE_ct, turnE_bk, turnE_rt, endD_rt, endD_nx, back_pd, binS, isFz, cmpS, biS, dats, truth, isiS, allPd, isiD, rkOf, join_some, Option.map, List.map, List.length_cons, List.length_nil, List.getElem?_cons_zero, List.getElem?_cons_succ, List.set_cons_zero, List.set_cons_succ, startS, atI_pos, atI_cast, Int.toNat_natCast, wp_newL1, wp_newL2, wp_newT1, List.length_set, List.set_set, decide_eq_true_eq, decide_eq_false_iff_not, Bool.not_eq_true', true_and, and_true,  ixN_pos, Int.reduceLE, Int.reduceLT, Int.reduceToNat, Int.reduceAdd, Int.reduceSub, Int.reduceMul, Int.reduceMod, Int.reduceNeg, Int.reducePow, Nat.reduceAdd, Nat.reduceLT, Nat.reduceLeDiff, Nat.reduceSub, reduceIte, Int.reduceEq, List.isEmpty_nil, Bool.false_eq_true, Bool.true_eq_false, decide_true, decide_false, ge_iff_le, gt_iff_lt,  wp_eq_int, wp_eq_str, wp_eq_bool, List.length_map, List.replicate, List.cons_append, List.nil_append, Bool.not_false, Bool.not_true, Bool.and_true, Bool.true_and, Bool.and_self, Bool.and_false, Bool.false_and, Option.bind, bn_add, bn_sub, bn_mul, bn_div, bn_mod, bn_pow, bn_addS, bn_addT, bn_addL, cp_eq, cp_ne, cp_ltI, cp_leI, cp_gtI, cp_geI, cp_ltS, cp_leS, cp_gtS, cp_geS, cp_ltT, cp_gtT, cp_in, cp_nin, cp_is, cp_isn, ix_l, ix_t, ix_s, ixs_tp, ixs_pd, ixs_rf, ixs_fz, cel_d, cel_r, mkLst, clsOf, clOf_d, clOf_r, wp_reprB, revS, isi2S, Bool.or_false, Bool.or_true, Bool.false_or, Bool.true_or, bi_lenL, bi_lenT, bi_lenS, bi_listL, bi_listT, bi_tupL, bi_tupT, bi_intI, bi_intB, bi_strI, bi_strS, bi_abs, bi_max, bi_min, bi_all, bi_any, bi_sum, in_l, in_t, in_s, tr_b, tr_i, tr_n, tr_l, tr_t, so_l, so_t, so_s, so_f, io_t, ng_i, pt_i, ag_a, ag_s, rv_l, rv_t, ap_d, rk_l, rk_t, rk_s, rg_1, rg_2, sl_l, sl_t, sl_s, mt_ixS, wp_mkT0, wp_mkT1, wp_mkT2, wp_mkT3, wp_mkT4, wp_mkT5, wp_mkT6, wp_mkT7, wp_mkT8, wp_datR, wp_idxR, wp_setR, wp_appR, set_last, get_last, le_line, lt_line, wp_newM, lg9, meth_words, wp_mkTR, not_true_eq_false, not_false_eq_true, eq_self, ofString_inj, String.reduceEq, wipeS, wp_inS, false_and, and_false]
    refine row17 (k := 95) hcl t4 (by omega) fun row b5 t5 hr rl => ?_
    try simp only [wp_ret, wp_bnd, wp_some, wp_grd, wp_no, wp_dat_pd, wp_dat_fz,  ev, evs, evO, evI, evC, evTs, AI.ex, asgG, asgGs, getV, wp_exs, wp_exs_nil, goS_nx, goS_rt, goS_bk, goS_ct, turnE_nx, turnE_ct, turnE_bk, turnE_rt, endD_rt, endD_nx, back_pd, binS, isFz, cmpS, biS, dats, truth, isiS, allPd, isiD, rkOf, join_some, Option.map, List.map, List.length_cons, List.length_nil, List.getElem?_cons_zero, List.getElem?_cons_succ, List.set_cons_zero, List.set_cons_succ, startS, atI_pos, atI_cast, Int.toNat_natCast, wp_newL1, wp_newL2, wp_newT1, List.length_set, List.set_set, decide_eq_true_eq, decide_eq_false_iff_not, Bool.not_eq_true', true_and, and_true,  ixN_pos, Int.reduceLE, Int.reduceLT, Int.reduceToNat, Int.reduceAdd, Int.reduceSub, Int.reduceMul, Int.reduceMod, Int.reduceNeg, Int.reducePow, Nat.reduceAdd, Nat.reduceLT, Nat.reduceLeDiff, Nat.reduceSub, reduceIte, Int.reduceEq, List.isEmpty_nil, Bool.false_eq_true, Bool.true_eq_false, decide_true, decide_false, ge_iff_le, gt_iff_lt,  wp_eq_int, wp_eq_str, wp_eq_bool, List.length_map, List.replicate, List.cons_append, List.nil_append, Bool.not_false, Bool.not_true, Bool.and_true, Bool.true_and, Bool.and_self, Bool.and_false, Bool.false_and, Option.bind, bn_add, bn_sub, bn_mul, bn_div, bn_mod, bn_pow, bn_addS, bn_addT, bn_addL, cp_eq, cp_ne, cp_ltI, cp_leI, cp_gtI, cp_geI, cp_ltS, cp_leS, cp_gtS, cp_geS, cp_ltT, cp_gtT, cp_in, cp_nin, cp_is, cp_isn, ix_l, ix_t, ix_s, ixs_tp, ixs_pd, ixs_rf, ixs_fz, cel_d, cel_r, mkLst, clsOf, clOf_d, clOf_r, wp_reprB, revS, isi2S, Bool.or_false, Bool.or_true, Bool.false_or, Bool.true_or, bi_lenL, bi_lenT, bi_lenS, bi_listL, bi_listT, bi_tupL, bi_tupT, bi_intI, bi_intB, bi_strI, bi_strS, bi_abs, bi_max, bi_min, bi_all, bi_any, bi_sum, in_l, in_t, in_s, tr_b, tr_i, tr_n, tr_l, tr_t, so_l, so_t, so_s, so_f, io_t, ng_i, pt_i, ag_a, ag_s, rv_l, rv_t, ap_d, rk_l, rk_t, rk_s, rg_1, rg_2, sl_l, sl_t, sl_s, mt_ixS, wp_mkT0, wp_mkT1, wp_mkT2, wp_mkT3, wp_mkT4, wp_mkT5, wp_mkT6, wp_mkT7, wp_mkT8, wp_datR, wp_idxR, wp_setR, wp_appR, set_last, get_last, le_line, lt_line, wp_newM, lg9, meth_words, wp_mkTR, not_true_eq_false, not_false_eq_true, eq_self, ofString_inj, String.reduceEq, wipeS, wp_inS, false_and, and_false]
    refine draw1 (r_law_draw 98) t5 (by omega) (by omega) fun u b6 t6 _ => ?_
    try simp only [wp_ret, wp_bnd, wp_some, wp_grd, wp_no, wp_dat_pd, wp_dat_fz,  ev, evs, evO, evI, evC, evTs, AI.ex, asgG, asgGs, getV, wp_exs, wp_exs_nil, goS_nx, goS_rt, goS_bk, goS_ct, turnE_nx, turnE_ct, turnE_bk, turnE_rt, endD_rt, endD_nx, back_pd, binS, isFz, cmpS, biS, dats, truth, isiS, allPd, isiD, rkOf, join_some, Option.map, List.map, List.length_cons, List.length_nil, List.getElem?_cons_zero, List.getElem?_cons_succ, List.set_cons_zero, List.set_cons_succ, startS, atI_pos, atI_cast, Int.toNat_natCast, wp_newL1, wp_newL2, wp_newT1, List.length_set, List.set_set, decide_eq_true_eq, decide_eq_false_iff_not, Bool.not_eq_true', true_and, and_true,  ixN_pos, Int.reduceLE, Int.reduceLT, Int.reduceToNat, Int.reduceAdd, Int.reduceSub, Int.reduceMul, Int.reduceMod, Int.reduceNeg, Int.reducePow, Nat.reduceAdd, Nat.reduceLT, Nat.reduceLeDiff, Nat.reduceSub, reduceIte, Int.reduceEq, List.isEmpty_nil, Bool.false_eq_true, Bool.true_eq_false, decide_true, decide_false, ge_iff_le, gt_iff_lt,  wp_eq_int, wp_eq_str, wp_eq_bool, List.length_map, List.replicate, List.cons_append, List.nil_append, Bool.not_false, Bool.not_true, Bool.and_true, Bool.true_and, Bool.and_self, Bool.and_false, Bool.false_and, Option.bind, bn_add, bn_sub, bn_mul, bn_div, bn_mod, bn_pow, bn_addS, bn_addT, bn_addL, cp_eq, cp_ne, cp_ltI, cp_leI, cp_gtI, cp_geI, cp_ltS, cp_leS, cp_gtS, cp_geS, cp_ltT, cp_gtT, cp_in, cp_nin, cp_is, cp_isn, ix_l, ix_t, ix_s, ixs_tp, ixs_pd, ixs_rf, ixs_fz, cel_d, cel_r, mkLst, clsOf, clOf_d, clOf_r, wp_reprB, revS, isi2S, Bool.or_false, Bool.or_true, Bool.false_or, Bool.true_or, bi_lenL, bi_lenT, bi_lenS, bi_listL, bi_listT, bi_tupL, bi_tupT, bi_intI, bi_intB, bi_strI, bi_strS, bi_abs, bi_max, bi_min, bi_all, bi_any, bi_sum, in_l, in_t, in_s, tr_b, tr_i, tr_n, tr_l, tr_t, so_l, so_t, so_s, so_f, io_t, ng_i, pt_i, ag_a, ag_s, rv_l, rv_t, ap_d, rk_l, rk_t, rk_s, rg_1, rg_2, sl_l, sl_t, sl_s, mt_ixS, wp_mkT0, wp_mkT1, wp_mkT2, wp_mkT3, wp_mkT4, wp_mkT5, wp_mkT6, wp_mkT7, wp_mkT8, wp_datR, wp_idxR, wp_setR, wp_appR, set_last, get_last, le_line, lt_line, wp_newM, lg9, meth_words, wp_mkTR, not_true_eq_false, not_false_eq_true, eq_self, ofString_inj, String.reduceEq, wipeS, wp_inS, false_and, and_false]
    refine odd1 (k := 96) t6 (by omega) fun od b7 t7 ho => ?_
    try simp only [wp_ret, wp_bnd, wp_some, wp_grd, wp_no, wp_dat_pd, wp_dat_fz,  ev, evs, evO, evI, evC, evTs, AI.ex, asgG, asgGs, getV, wp_exs, wp_exs_nil, goS_nx, goS_rt, goS_bk, goS_ct, turnE_nx, turnE_ct, turnE_bk, turnE_rt, endD_rt, endD_nx, back_pd, binS, isFz, cmpS, biS, dats, truth, isiS, allPd, isiD, rkOf, join_some, Option.map, List.map, List.length_cons, List.length_nil, List.getElem?_cons_zero, List.getElem?_cons_succ, List.set_cons_zero, List.set_cons_succ, startS, atI_pos, atI_cast, Int.toNat_natCast, wp_newL1, wp_newL2, wp_newT1, List.length_set, List.set_set, decide_eq_true_eq, decide_eq_false_iff_not, Bool.not_eq_true', true_and, and_true,  ixN_pos, Int.reduceLE, Int.reduceLT, Int.reduceToNat, Int.reduceAdd, Int.reduceSub, Int.reduceMul, Int.reduceMod, Int.reduceNeg, Int.reducePow, Nat.reduceAdd, Nat.reduceLT, Nat.reduceLeDiff, Nat.reduceSub, reduceIte, Int.reduceEq, List.isEmpty_nil, Bool.false_eq_true, Bool.true_eq_false, decide_true, decide_false, ge_iff_le, gt_iff_lt,  wp_eq_int, wp_eq_str, wp_eq_bool, List.length_map, List.replicate, List.cons_append, List.nil_append, Bool.not_false, Bool.not_true, Bool.and_true, Bool.true_and, Bool.and_self, Bool.and_false, Bool.false_and, Option.bind, bn_add, bn_sub, bn_mul, bn_div, bn_mod, bn_pow, bn_addS, bn_addT, bn_addL, cp_eq, cp_ne, cp_ltI, cp_leI, cp_gtI, cp_geI, cp_ltS, cp_leS, cp_gtS, cp_geS, cp_ltT, cp_gtT, cp_in, cp_nin, cp_is, cp_isn, ix_l, ix_t, ix_s, ixs_tp, ixs_pd, ixs_rf, ixs_fz, cel_d, cel_r, mkLst, clsOf, clOf_d, clOf_r, wp_reprB, revS, isi2S, Bool.or_false, Bool.or_true, Bool.false_or, Bool.true_or, bi_lenL, bi_lenT, bi_lenS, bi_listL, bi_listT, bi_tupL, bi_tupT, bi_intI, bi_intB, bi_strI, bi_strS, bi_abs, bi_max, bi_min, bi_all, bi_any, bi_sum, in_l, in_t, in_s, tr_b, tr_i, tr_n, tr_l, tr_t, so_l, so_t, so_s, so_f, io_t, ng_i, pt_i, ag_a, ag_s, rv_l, rv_t, ap_d, rk_l, rk_t, rk_s, rg_1, rg_2, sl_l, sl_t, sl_s, mt_ixS, wp_mkT0, wp_mkT1, wp_mkT2, wp_mkT3, wp_mkT4, wp_mkT5, wp_mkT6, wp_mkT7, wp_mkT8, wp_datR, wp_idxR, wp_setR, wp_appR, set_last, get_last, le_line, lt_line, wp_newM, lg9, meth_words, wp_mkTR, not_true_eq_false, not_false_eq_true, eq_self, ofString_inj, String.reduceEq, wipeS, wp_inS, false_and, and_false]
    refine wp_forF (l := [true, false]) (g := wordD) (fun (_ : Unit) _ => ()) () (fun _ σ h' => ∃ y7, h' = [b7] ∧ σ = [some (.fz (ns.map .int)), some (.rf 0), some (.pd (schD ts)), some (.pd t.toD), some (.pd (.tuple row)), some (.pd (.int u)), some (.pd od), y7, y8, y9, y10, y11]) ⟨_, rfl, rfl⟩ ?_ ?_
    · rintro _ w _ _ σ h' ⟨y7, rfl, rfl⟩ J2 hJ2
      simp only [wp_ret, wp_bnd, wp_some, wp_grd, wp_no, wp_dat_pd, wp_dat_fz,  ev, evs, evO, evI, evC, evTs, AI.ex, asgG, asgGs, getV, wp_exs, wp_exs_nil, goS_nx, goS_rt, goS_bk, goS_ct, turnE_nx, turnE_ct, turnE_bk, turnE_rt, endD_rt, endD_nx, back_pd, binS, isFz, cmpS, biS, dats, truth, isiS, allPd, isiD, rkOf, join_some, Option.map, List.map, List.length_cons, List.length_nil, List.getElem?_cons_zero, List.getElem?_cons_succ, List.set_cons_zero, List.set_cons_succ, startS, atI_pos, atI_cast, Int.toNat_natCast, wp_newL1, wp_newL2, wp_newT1, List.length_set, List.set_set, decide_eq_true_eq, decide_eq_false_iff_not, Bool.not_eq_true', true_and, and_true,  ixN_pos, Int.reduceLE, Int.reduceLT, Int.reduceToNat, Int.reduceAdd, Int.reduceSub, Int.reduceMul, Int.reduceMod, Int.reduceNeg, Int.reducePow, Nat.reduceAdd, Nat.reduceLT, Nat.reduceLeDiff, Nat.reduceSub, reduceIte, Int.reduceEq, List.isEmpty_nil, Bool.false_eq_true, Bool.true_eq_false, decide_true, decide_false, ge_iff_le, gt_iff_lt,  wp_eq_int, wp_eq_str, wp_eq_bool, List.length_map, List.replicate, List.cons_append, List.nil_append, Bool.not_false, Bool.not_true, Bool.and_true, Bool.true_and, Bool.and_self, Bool.and_false, Bool.false_and, Option.bind, bn_add, bn_sub, bn_mul, bn_div, bn_mod, bn_pow, bn_addS, bn_addT, bn_addL, cp_eq, cp_ne, cp_ltI, cp_leI, cp_gtI, cp_geI, cp_ltS, cp_leS, cp_gtS, cp_geS, cp_ltT, cp_gtT, cp_in, cp_nin, cp_is, cp_isn, ix_l, ix_t, ix_s, ixs_tp, ixs_pd, ixs_rf, ixs_fz, cel_d, cel_r, mkLst, clsOf, clOf_d, clOf_r, wp_reprB, revS, isi2S, Bool.or_false, Bool.or_true, Bool.false_or, Bool.true_or, bi_lenL, bi_lenT, bi_lenS, bi_listL, bi_listT, bi_tupL, bi_tupT, bi_intI, bi_intB, bi_strI, bi_strS, bi_abs, bi_max, bi_min, bi_all, bi_any, bi_sum, in_l, in_t, in_s, tr_b, tr_i, tr_n, tr_l, tr_t, so_l, so_t, so_s, so_f, io_t, ng_i, pt_i, ag_a, ag_s, rv_l, rv_t, ap_d, rk_l, rk_t, rk_s, rg_1, rg_2, sl_l, sl_t, sl_s, mt_ixS, wp_mkT0, wp_mkT1, wp_mkT2, wp_mkT3, wp_mkT4, wp_mkT5, wp_mkT6, wp_mkT7, wp_mkT8, wp_datR, wp_idxR, wp_setR, wp_appR, set_last, get_last, le_line, lt_line, wp_newM, lg9, meth_words, wp_mkTR, not_true_eq_false, not_false_eq_true, eq_self, ofString_inj, String.reduceEq, wipeS, wp_inS, false_and, and_false]
      refine stor (k := 98) ho ?_
      try simp only [wp_ret, wp_bnd, wp_some, wp_grd, wp_no, wp_dat_pd, wp_dat_fz,  ev, evs, evO, evI, evC, evTs, AI.ex, asgG, asgGs, getV, wp_exs, wp_exs_nil, goS_nx, goS_rt, goS_bk, goS_ct, turnE_nx, turnE_ct, turnE_bk, turnE_rt, endD_rt, endD_nx, back_pd, binS, isFz, cmpS, biS, dats, truth, isiS, allPd, isiD, rkOf, join_some, Option.map, List.map, List.length_cons, List.length_nil, List.getElem?_cons_zero, List.getElem?_cons_succ, List.set_cons_zero, List.set_cons_succ, startS, atI_pos, atI_cast, Int.toNat_natCast, wp_newL1, wp_newL2, wp_newT1, List.length_set, List.set_set, decide_eq_true_eq, decide_eq_false_iff_not, Bool.not_eq_true', true_and, and_true,  ixN_pos, Int.reduceLE, Int.reduceLT, Int.reduceToNat, Int.reduceAdd, Int.reduceSub, Int.reduceMul, Int.reduceMod, Int.reduceNeg, Int.reducePow, Nat.reduceAdd, Nat.reduceLT, Nat.reduceLeDiff, Nat.reduceSub, reduceIte, Int.reduceEq, List.isEmpty_nil, Bool.false_eq_true, Bool.true_eq_false, decide_true, decide_false, ge_iff_le, gt_iff_lt,  wp_eq_int, wp_eq_str, wp_eq_bool, List.length_map, List.replicate, List.cons_append, List.nil_append, Bool.not_false, Bool.not_true, Bool.and_true, Bool.true_and, Bool.and_self, Bool.and_false, Bool.false_and, Option.bind, bn_add, bn_sub, bn_mul, bn_div, bn_mod, bn_pow, bn_addS, bn_addT, bn_addL, cp_eq, cp_ne, cp_ltI, cp_leI, cp_gtI, cp_geI, cp_ltS, cp_leS, cp_gtS, cp_geS, cp_ltT, cp_gtT, cp_in, cp_nin, cp_is, cp_isn, ix_l, ix_t, ix_s, ixs_tp, ixs_pd, ixs_rf, ixs_fz, cel_d, cel_r, mkLst, clsOf, clOf_d, clOf_r, wp_reprB, revS, isi2S, Bool.or_false, Bool.or_true, Bool.false_or, Bool.true_or, bi_lenL, bi_lenT, bi_lenS, bi_listL, bi_listT, bi_tupL, bi_tupT, bi_intI, bi_intB, bi_strI, bi_strS, bi_abs, bi_max, bi_min, bi_all, bi_any, bi_sum, in_l, in_t, in_s, tr_b, tr_i, tr_n, tr_l, tr_t, so_l, so_t, so_s, so_f, io_t, ng_i, pt_i, ag_a, ag_s, rv_l, rv_t, ap_d, rk_l, rk_t, rk_s, rg_1, rg_2, sl_l, sl_t, sl_s, mt_ixS, wp_mkT0, wp_mkT1, wp_mkT2, wp_mkT3, wp_mkT4, wp_mkT5, wp_mkT6, wp_mkT7, wp_mkT8, wp_datR, wp_idxR, wp_setR, wp_appR, set_last, get_last, le_line, lt_line, wp_newM, lg9, meth_words, wp_mkTR, not_true_eq_false, not_false_eq_true, eq_self, ofString_inj, String.reduceEq, wipeS, wp_inS, false_and, and_false]
      refine fits1 (k := 98) ho ?_
      simp only [wp_ret, wp_bnd, wp_some, wp_grd, wp_no, wp_dat_pd, wp_dat_fz,  ev, evs, evO, evI, evC, evTs, AI.ex, asgG, asgGs, getV, wp_exs, wp_exs_nil, goS_nx, goS_rt, goS_bk, goS_ct, turnE_nx, turnE_ct, turnE_bk, turnE_rt, endD_rt, endD_nx, back_pd, binS, isFz, cmpS, biS, dats, truth, isiS, allPd, isiD, rkOf, join_some, Option.map, List.map, List.length_cons, List.length_nil, List.getElem?_cons_zero, List.getElem?_cons_succ, List.set_cons_zero, List.set_cons_succ, startS, atI_pos, atI_cast, Int.toNat_natCast, wp_newL1, wp_newL2, wp_newT1, List.length_set, List.set_set, decide_eq_true_eq, decide_eq_false_iff_not, Bool.not_eq_true', true_and, and_true,  ixN_pos, Int.reduceLE, Int.reduceLT, Int.reduceToNat, Int.reduceAdd, Int.reduceSub, Int.reduceMul, Int.reduceMod, Int.reduceNeg, Int.reducePow, Nat.reduceAdd, Nat.reduceLT, Nat.reduceLeDiff, Nat.reduceSub, reduceIte, Int.reduceEq, List.isEmpty_nil, Bool.false_eq_true, Bool.true_eq_false, decide_true, decide_false, ge_iff_le, gt_iff_lt,  wp_eq_int, wp_eq_str, wp_eq_bool, List.length_map, List.replicate, List.cons_append, List.nil_append, Bool.not_false, Bool.not_true, Bool.and_true, Bool.true_and, Bool.and_self, Bool.and_false, Bool.false_and, Option.bind, bn_add, bn_sub, bn_mul, bn_div, bn_mod, bn_pow, bn_addS, bn_addT, bn_addL, cp_eq, cp_ne, cp_ltI, cp_leI, cp_gtI, cp_geI, cp_ltS, cp_leS, cp_gtS, cp_geS, cp_ltT, cp_gtT, cp_in, cp_nin, cp_is, cp_isn, ix_l, ix_t, ix_s, ixs_tp, ixs_pd, ixs_rf, ixs_fz, cel_d, cel_r, mkLst, clsOf, clOf_d, clOf_r, wp_reprB, revS, isi2S, Bool.or_false, Bool.or_true, Bool.false_or, Bool.true_or, bi_lenL, bi_lenT, bi_lenS, bi_listL, bi_listT, bi_tupL, bi_tupT, bi_intI, bi_intB, bi_strI, bi_strS, bi_abs, bi_max, bi_min, bi_all, bi_any, bi_sum, in_l, in_t, in_s, tr_b, tr_i, tr_n, tr_l, tr_t, so_l, so_t, so_s, so_f, io_t, ng_i, pt_i, ag_a, ag_s, rv_l, rv_t, ap_d, rk_l, rk_t, rk_s, rg_1, rg_2, sl_l, sl_t, sl_s, mt_ixS, wp_mkT0, wp_mkT1, wp_mkT2, wp_mkT3, wp_mkT4, wp_mkT5, wp_mkT6, wp_mkT7, wp_mkT8, wp_datR, wp_idxR, wp_setR, wp_appR, set_last, get_last, le_line, lt_line, wp_newM, lg9, meth_words, wp_mkTR, not_true_eq_false, not_false_eq_true, eq_self, ofString_inj, String.reduceEq, wipeS, wp_inS, false_and, and_false]
      exact hJ2 _ _ ⟨_, rfl, rfl⟩
    rintro σ h' ⟨y7, rfl, rfl⟩
    have hA := cut_len (es := row) (lo := none) (hi := some u)
    have hB := cut_len (es := row) (lo := some (u + 1)) (hi := none)
    have hC := cut_len (es := row) (lo := some u) (hi := none)
    have mA : ∀ v ∈ cutL row none (some u), Val v := fun v hv => hr v (cut_mem v hv)
    have mB : ∀ v ∈ cutL row (some (u + 1)) none, Val v := fun v hv => hr v (cut_mem v hv)
    have mC : ∀ v ∈ cutL row (some u) none, Val v := fun v hv => hr v (cut_mem v hv)
    have hz1 : (cutL row none (some u)).length ≤ 1000000 := by omega
    have hz2 : (cutL row (some (u + 1)) none).length ≤ 1000000 := by omega
    have hz3 : (cutL row (some u) none).length ≤ 1000000 := by omega
    have hz4 : (cutL row none (some u) ++ [od]).length ≤ 1000000 := by rw [List.length_append, List.length_singleton]; omega
    have hz5 : (cutL row none (some u) ++ [od] ++ cutL row (some (u + 1)) none).length ≤ 1000000 := by rw [List.length_append, List.length_append, List.length_singleton]; omega
    have hz6 : (cutL row none (some u) ++ cutL row (some (u + 1)) none).length ≤ 1000000 := by rw [List.length_append]; omega
    have hz7 : (cutL row none (some u) ++ [od] ++ cutL row (some u) none).length ≤ 1000000 := by rw [List.length_append, List.length_append, List.length_singleton]; omega
    have hz8 : row.length ≤ 1000000 := by omega
    have hz9 : row.reverse.length ≤ 1000000 := by rw [List.length_reverse]; omega
    simp only [wp_ret, wp_bnd, wp_some, wp_grd, wp_no, wp_dat_pd, wp_dat_fz,  ev, evs, evO, evI, evC, evTs, AI.ex, asgG, asgGs, getV, wp_exs, wp_exs_nil, goS_nx, goS_rt, goS_bk, goS_ct, turnE_nx, turnE_ct, turnE_bk, turnE_rt, endD_rt, endD_nx, back_pd, binS, isFz, cmpS, biS, dats, truth, isiS, allPd, isiD, rkOf, join_some, Option.map, List.map, List.length_cons, List.length_nil, List.getElem?_cons_zero, List.getElem?_cons_succ, List.set_cons_zero, List.set_cons_succ, startS, atI_pos, atI_cast, Int.toNat_natCast, wp_newL1, wp_newL2, wp_newT1, List.length_set, List.set_set, decide_eq_true_eq, decide_eq_false_iff_not, Bool.not_eq_true', true_and, and_true,  ixN_pos, Int.reduceLE, Int.reduceLT, Int.reduceToNat, Int.reduceAdd, Int.reduceSub, Int.reduceMul, Int.reduceMod, Int.reduceNeg, Int.reducePow, Nat.reduceAdd, Nat.reduceLT, Nat.reduceLeDiff, Nat.reduceSub, reduceIte, Int.reduceEq, List.isEmpty_nil, Bool.false_eq_true, Bool.true_eq_false, decide_true, decide_false, ge_iff_le, gt_iff_lt,  wp_eq_int, wp_eq_str, wp_eq_bool, List.length_map, List.replicate, List.cons_append, List.nil_append, Bool.not_false, Bool.not_true, Bool.and_true, Bool.true_and, Bool.and_self, Bool.and_false, Bool.false_and, Option.bind, bn_add, bn_sub, bn_mul, bn_div, bn_mod, bn_pow, bn_addS, bn_addT, bn_addL, cp_eq, cp_ne, cp_ltI, cp_leI, cp_gtI, cp_geI, cp_ltS, cp_leS, cp_gtS, cp_geS, cp_ltT, cp_gtT, cp_in, cp_nin, cp_is, cp_isn, ix_l, ix_t, ix_s, ixs_tp, ixs_pd, ixs_rf, ixs_fz, cel_d, cel_r, mkLst, clsOf, clOf_d, clOf_r, wp_reprB, revS, isi2S, Bool.or_false, Bool.or_true, Bool.false_or, Bool.true_or, bi_lenL, bi_lenT, bi_lenS, bi_listL, bi_listT, bi_tupL, bi_tupT, bi_intI, bi_intB, bi_strI, bi_strS, bi_abs, bi_max, bi_min, bi_all, bi_any, bi_sum, in_l, in_t, in_s, tr_b, tr_i, tr_n, tr_l, tr_t, so_l, so_t, so_s, so_f, io_t, ng_i, pt_i, ag_a, ag_s, rv_l, rv_t, ap_d, rk_l, rk_t, rk_s, rg_1, rg_2, sl_l, sl_t, sl_s, mt_ixS, wp_mkT0, wp_mkT1, wp_mkT2, wp_mkT3, wp_mkT4, wp_mkT5, wp_mkT6, wp_mkT7, wp_mkT8, wp_datR, wp_idxR, wp_setR, wp_appR, set_last, get_last, le_line, lt_line, wp_newM, lg9, meth_words, wp_mkTR, not_true_eq_false, not_false_eq_true, eq_self, ofString_inj, String.reduceEq, wipeS, wp_inS, false_and, and_false, wp_newT1 hz1, wp_newT1 hz2, wp_newT1 hz3, wp_newT1 hz4, wp_newT1 hz5, wp_newT1 hz6, wp_newT1 hz7, wp_newL1 hz8, wp_newT1 hz9]
    generalize cutL row none (some u) = A at *
    generalize cutL row (some (u + 1)) none = Bq at *
    generalize cutL row (some u) none = C at *
    clear hz1 hz2 hz3 hz4 hz5 hz6 hz7 hz8 hz9
    refine wp_forF (l := [row, A ++ [od] ++ Bq, A ++ Bq, A ++ [od] ++ C, row.reverse, []]) (g := PyData.tuple) (fun (_ : Unit) _ => ()) () (fun _ σ h' => ∃ y7 y8 y9 y10 y11, h' = [b7] ∧ σ = [some (.fz (ns.map .int)), some (.rf 0), some (.pd (schD ts)), some (.pd t.toD), some (.pd (.tuple row)), some (.pd (.int u)), some (.pd od), y7, y8, y9, y10, y11]) ⟨_, _, _, _, _, rfl, rfl⟩ ?_ ?_
    · rintro pre2 vs post2 e2 σ h' ⟨y7, y8, y9, y10, y11, rfl, rfl⟩ J2 hJ2
      have hvs : (∀ v ∈ vs, Val v) ∧ vs.length ≤ 100 := by
        have hm : vs ∈ [row, A ++ [od] ++ Bq, A ++ Bq, A ++ [od] ++ C, row.reverse, []] := by rw [e2]; simp
        simp only [List.mem_cons, List.not_mem_nil, or_false] at hm
        rcases hm with rfl | rfl | rfl | rfl | rfl | rfl
        · exact ⟨hr, by omega⟩
        · refine ⟨fun v hv => ?_, by simp only [List.length_append, List.length_singleton]; omega⟩
          simp only [List.mem_append, List.mem_singleton] at hv
          rcases hv with (hv | hv) | hv
          · exact mA v hv
          · rw [hv]; exact ho
          · exact mB v hv
        · refine ⟨fun v hv => ?_, by simp only [List.length_append]; omega⟩
          simp only [List.mem_append] at hv
          rcases hv with hv | hv
          · exact mA v hv
          · exact mB v hv
        · refine ⟨fun v hv => ?_, by simp only [List.length_append, List.length_singleton]; omega⟩
          simp only [List.mem_append, List.mem_singleton] at hv
          rcases hv with (hv | hv) | hv
          · exact mA v hv
          · rw [hv]; exact ho
          · exact mC v hv
        · exact ⟨fun v hv => hr v (List.mem_reverse.mp hv), by rw [List.length_reverse]; omega⟩
        · exact ⟨by simp, by simp⟩
      obtain ⟨hvv, hvl⟩ := hvs
      clear e2
      simp only [wp_ret, wp_bnd, wp_some, wp_grd, wp_no, wp_dat_pd, wp_dat_fz,  ev, evs, evO, evI, evC, evTs, AI.ex, asgG, asgGs, getV, wp_exs, wp_exs_nil, goS_nx, goS_rt, goS_bk, goS_ct, turnE_nx, turnE_ct, turnE_bk, turnE_rt, endD_rt, endD_nx, back_pd, binS, isFz, cmpS, biS, dats, truth, isiS, allPd, isiD, rkOf, join_some, Option.map, List.map, List.length_cons, List.length_nil, List.getElem?_cons_zero, List.getElem?_cons_succ, List.set_cons_zero, List.set_cons_succ, startS, atI_pos, atI_cast, Int.toNat_natCast, wp_newL1, wp_newL2, wp_newT1, List.length_set, List.set_set, decide_eq_true_eq, decide_eq_false_iff_not, Bool.not_eq_true', true_and, and_true,  ixN_pos, Int.reduceLE, Int.reduceLT, Int.reduceToNat, Int.reduceAdd, Int.reduceSub, Int.reduceMul, Int.reduceMod, Int.reduceNeg, Int.reducePow, Nat.reduceAdd, Nat.reduceLT, Nat.reduceLeDiff, Nat.reduceSub, reduceIte, Int.reduceEq, List.isEmpty_nil, Bool.false_eq_true, Bool.true_eq_false, decide_true, decide_false, ge_iff_le, gt_iff_lt,  wp_eq_int, wp_eq_str, wp_eq_bool, List.length_map, List.replicate, List.cons_append, List.nil_append, Bool.not_false, Bool.not_true, Bool.and_true, Bool.true_and, Bool.and_self, Bool.and_false, Bool.false_and, Option.bind, bn_add, bn_sub, bn_mul, bn_div, bn_mod, bn_pow, bn_addS, bn_addT, bn_addL, cp_eq, cp_ne, cp_ltI, cp_leI, cp_gtI, cp_geI, cp_ltS, cp_leS, cp_gtS, cp_geS, cp_ltT, cp_gtT, cp_in, cp_nin, cp_is, cp_isn, ix_l, ix_t, ix_s, ixs_tp, ixs_pd, ixs_rf, ixs_fz, cel_d, cel_r, mkLst, clsOf, clOf_d, clOf_r, wp_reprB, revS, isi2S, Bool.or_false, Bool.or_true, Bool.false_or, Bool.true_or, bi_lenL, bi_lenT, bi_lenS, bi_listL, bi_listT, bi_tupL, bi_tupT, bi_intI, bi_intB, bi_strI, bi_strS, bi_abs, bi_max, bi_min, bi_all, bi_any, bi_sum, in_l, in_t, in_s, tr_b, tr_i, tr_n, tr_l, tr_t, so_l, so_t, so_s, so_f, io_t, ng_i, pt_i, ag_a, ag_s, rv_l, rv_t, ap_d, rk_l, rk_t, rk_s, rg_1, rg_2, sl_l, sl_t, sl_s, mt_ixS, wp_mkT0, wp_mkT1, wp_mkT2, wp_mkT3, wp_mkT4, wp_mkT5, wp_mkT6, wp_mkT7, wp_mkT8, wp_datR, wp_idxR, wp_setR, wp_appR, set_last, get_last, le_line, lt_line, wp_newM, lg9, meth_words, wp_mkTR, not_true_eq_false, not_false_eq_true, eq_self, ofString_inj, String.reduceEq, wipeS, wp_inS, false_and, and_false, Tbl.toD]
      refine ⟨⟨by split <;> omega, by split <;> omega⟩, ?_⟩
      refine wp_rngJ (fun i σ h' => ∃ y11, h' = [b7] ∧ σ = [some (.fz (ns.map .int)), some (.rf 0), some (.pd (schD ts)), some (.pd t.toD), some (.pd (.tuple row)), some (.pd (.int u)), some (.pd od), y7, y8, some (.pd (.tuple vs)), some (.pd (.bool (upB vs t.cs i))), y11]) ⟨_, rfl, by rw [upB_zero]; rfl⟩ ?_ ?_
      · rintro i hi σ h' ⟨y11, rfl, rfl⟩ J3 hJ3
        have hi1 : i < vs.length := by split at hi <;> omega
        have hi2 : i < t.cs.length := by split at hi <;> omega
        have e1 : vs[i]? = some vs[i] := List.getElem?_eq_getElem hi1
        have e2 : (t.cs.map cD)[i]? = some (cD t.cs[i]) := by rw [List.getElem?_map, List.getElem?_eq_getElem hi2]; rfl
        have e3 : dueAt vs t.cs i = fitsB vs[i] t.cs[i].2 := by
          unfold dueAt
          rw [List.getD_eq_getElem?_getD, List.getD_eq_getElem?_getD, e1, List.getElem?_eq_getElem hi2]; rfl
        rw [upB_succ, e3] at hJ3
        have hv3 := hvv _ (List.getElem_mem hi1)
        generalize vs[i] = v at *
        generalize t.cs[i] = c at *
        cases hb : upB vs t.cs i with
        | false =>
          rw [hb] at hJ3
          simp only [wp_ret, wp_bnd, wp_some, wp_grd, wp_no, wp_dat_pd, wp_dat_fz,  ev, evs, evO, evI, evC, evTs, AI.ex, asgG, asgGs, getV, wp_exs, wp_exs_nil, goS_nx, goS_rt, goS_bk, goS_ct, turnE_nx, turnE_ct, turnE_bk, turnE_rt, endD_rt, endD_nx, back_pd, binS, isFz, cmpS, biS, dats, truth, isiS, allPd, isiD, rkOf, join_some, Option.map, List.map, List.length_cons, List.length_nil, List.getElem?_cons_zero, List.getElem?_cons_succ, List.set_cons_zero, List.set_cons_succ, startS, atI_pos, atI_cast, Int.toNat_natCast, wp_newL1, wp_newL2, wp_newT1, List.length_set, List.set_set, decide_eq_true_eq, decide_eq_false_iff_not, Bool.not_eq_true', true_and, and_true,  ixN_pos, Int.reduceLE, Int.reduceLT, Int.reduceToNat, Int.reduceAdd, Int.reduceSub, Int.reduceMul, Int.reduceMod, Int.reduceNeg, Int.reducePow, Nat.reduceAdd, Nat.reduceLT, Nat.reduceLeDiff, Nat.reduceSub, reduceIte, Int.reduceEq, List.isEmpty_nil, Bool.false_eq_true, Bool.true_eq_false, decide_true, decide_false, ge_iff_le, gt_iff_lt,  wp_eq_int, wp_eq_str, wp_eq_bool, List.length_map, List.replicate, List.cons_append, List.nil_append, Bool.not_false, Bool.not_true, Bool.and_true, Bool.true_and, Bool.and_self, Bool.and_false, Bool.false_and, Option.bind, bn_add, bn_sub, bn_mul, bn_div, bn_mod, bn_pow, bn_addS, bn_addT, bn_addL, cp_eq, cp_ne, cp_ltI, cp_leI, cp_gtI, cp_geI, cp_ltS, cp_leS, cp_gtS, cp_geS, cp_ltT, cp_gtT, cp_in, cp_nin, cp_is, cp_isn, ix_l, ix_t, ix_s, ixs_tp, ixs_pd, ixs_rf, ixs_fz, cel_d, cel_r, mkLst, clsOf, clOf_d, clOf_r, wp_reprB, revS, isi2S, Bool.or_false, Bool.or_true, Bool.false_or, Bool.true_or, bi_lenL, bi_lenT, bi_lenS, bi_listL, bi_listT, bi_tupL, bi_tupT, bi_intI, bi_intB, bi_strI, bi_strS, bi_abs, bi_max, bi_min, bi_all, bi_any, bi_sum, in_l, in_t, in_s, tr_b, tr_i, tr_n, tr_l, tr_t, so_l, so_t, so_s, so_f, io_t, ng_i, pt_i, ag_a, ag_s, rv_l, rv_t, ap_d, rk_l, rk_t, rk_s, rg_1, rg_2, sl_l, sl_t, sl_s, mt_ixS, wp_mkT0, wp_mkT1, wp_mkT2, wp_mkT3, wp_mkT4, wp_mkT5, wp_mkT6, wp_mkT7, wp_mkT8, wp_datR, wp_idxR, wp_setR, wp_appR, set_last, get_last, le_line, lt_line, wp_newM, lg9, meth_words, wp_mkTR, not_true_eq_false, not_false_eq_true, eq_self, ofString_inj, String.reduceEq, wipeS, wp_inS, false_and, and_false, hb]
          exact hJ3 _ _ ⟨_, rfl, rfl⟩
        | true =>
          rw [hb] at hJ3
          simp only [wp_ret, wp_bnd, wp_some, wp_grd, wp_no, wp_dat_pd, wp_dat_fz,  ev, evs, evO, evI, evC, evTs, AI.ex, asgG, asgGs, getV, wp_exs, wp_exs_nil, goS_nx, goS_rt, goS_bk, goS_ct, turnE_nx, turnE_ct, turnE_bk, turnE_rt, endD_rt, endD_nx, back_pd, binS, isFz, cmpS, biS, dats, truth, isiS, allPd, isiD, rkOf, join_some, Option.map, List.map, List.length_cons, List.length_nil, List.getElem?_cons_zero, List.getElem?_cons_succ, List.set_cons_zero, List.set_cons_succ, startS, atI_pos, atI_cast, Int.toNat_natCast, wp_newL1, wp_newL2, wp_newT1, List.length_set, List.set_set, decide_eq_true_eq, decide_eq_false_iff_not, Bool.not_eq_true', true_and, and_true,  ixN_pos, Int.reduceLE, Int.reduceLT, Int.reduceToNat, Int.reduceAdd, Int.reduceSub, Int.reduceMul, Int.reduceMod, Int.reduceNeg, Int.reducePow, Nat.reduceAdd, Nat.reduceLT, Nat.reduceLeDiff, Nat.reduceSub, reduceIte, Int.reduceEq, List.isEmpty_nil, Bool.false_eq_true, Bool.true_eq_false, decide_true, decide_false, ge_iff_le, gt_iff_lt,  wp_eq_int, wp_eq_str, wp_eq_bool, List.length_map, List.replicate, List.cons_append, List.nil_append, Bool.not_false, Bool.not_true, Bool.and_true, Bool.true_and, Bool.and_self, Bool.and_false, Bool.false_and, Option.bind, bn_add, bn_sub, bn_mul, bn_div, bn_mod, bn_pow, bn_addS, bn_addT, bn_addL, cp_eq, cp_ne, cp_ltI, cp_leI, cp_gtI, cp_geI, cp_ltS, cp_leS, cp_gtS, cp_geS, cp_ltT, cp_gtT, cp_in, cp_nin, cp_is, cp_isn, ix_l, ix_t, ix_s, ixs_tp, ixs_pd, ixs_rf, ixs_fz, cel_d, cel_r, mkLst, clsOf, clOf_d, clOf_r, wp_reprB, revS, isi2S, Bool.or_false, Bool.or_true, Bool.false_or, Bool.true_or, bi_lenL, bi_lenT, bi_lenS, bi_listL, bi_listT, bi_tupL, bi_tupT, bi_intI, bi_intB, bi_strI, bi_strS, bi_abs, bi_max, bi_min, bi_all, bi_any, bi_sum, in_l, in_t, in_s, tr_b, tr_i, tr_n, tr_l, tr_t, so_l, so_t, so_s, so_f, io_t, ng_i, pt_i, ag_a, ag_s, rv_l, rv_t, ap_d, rk_l, rk_t, rk_s, rg_1, rg_2, sl_l, sl_t, sl_s, mt_ixS, wp_mkT0, wp_mkT1, wp_mkT2, wp_mkT3, wp_mkT4, wp_mkT5, wp_mkT6, wp_mkT7, wp_mkT8, wp_datR, wp_idxR, wp_setR, wp_appR, set_last, get_last, le_line, lt_line, wp_newM, lg9, meth_words, wp_mkTR, not_true_eq_false, not_false_eq_true, eq_self, ofString_inj, String.reduceEq, wipeS, wp_inS, false_and, and_false, hb, Int.zero_add, e1, e2, cD, Tbl.toD]
          refine fits1 (k := 98) hv3 ?_
          exact hJ3 _ _ ⟨_, rfl, by rw [Bool.true_and]; rfl⟩
      · rintro σ h' ⟨y11, rfl, rfl⟩
        rw [upB_end (by intro h; split <;> omega)]
        simp only [wp_ret, wp_bnd, wp_some, wp_grd, wp_no, wp_dat_pd, wp_dat_fz,  ev, evs, evO, evI, evC, evTs, AI.ex, asgG, asgGs, getV, wp_exs, wp_exs_nil, goS_nx, goS_rt, goS_bk, goS_ct, turnE_nx, turnE_ct, turnE_bk, turnE_rt, endD_rt, endD_nx, back_pd, binS, isFz, cmpS, biS, dats, truth, isiS, allPd, isiD, rkOf, join_some, Option.map, List.map, List.length_cons, List.length_nil, List.getElem?_cons_zero, List.getElem?_cons_succ, List.set_cons_zero, List.set_cons_succ, startS, atI_pos, atI_cast, Int.toNat_natCast, wp_newL1, wp_newL2, wp_newT1, List.length_set, List.set_set, decide_eq_true_eq, decide_eq_false_iff_not, Bool.not_eq_true', true_and, and_true,  ixN_pos, Int.reduceLE, Int.reduceLT, Int.reduceToNat, Int.reduceAdd, Int.reduceSub, Int.reduceMul, Int.reduceMod, Int.reduceNeg, Int.reducePow, Nat.reduceAdd, Nat.reduceLT, Nat.reduceLeDiff, Nat.reduceSub, reduceIte, Int.reduceEq, List.isEmpty_nil, Bool.false_eq_true, Bool.true_eq_false, decide_true, decide_false, ge_iff_le, gt_iff_lt,  wp_eq_int, wp_eq_str, wp_eq_bool, List.length_map, List.replicate, List.cons_append, List.nil_append, Bool.not_false, Bool.not_true, Bool.and_true, Bool.true_and, Bool.and_self, Bool.and_false, Bool.false_and, Option.bind, bn_add, bn_sub, bn_mul, bn_div, bn_mod, bn_pow, bn_addS, bn_addT, bn_addL, cp_eq, cp_ne, cp_ltI, cp_leI, cp_gtI, cp_geI, cp_ltS, cp_leS, cp_gtS, cp_geS, cp_ltT, cp_gtT, cp_in, cp_nin, cp_is, cp_isn, ix_l, ix_t, ix_s, ixs_tp, ixs_pd, ixs_rf, ixs_fz, cel_d, cel_r, mkLst, clsOf, clOf_d, clOf_r, wp_reprB, revS, isi2S, Bool.or_false, Bool.or_true, Bool.false_or, Bool.true_or, bi_lenL, bi_lenT, bi_lenS, bi_listL, bi_listT, bi_tupL, bi_tupT, bi_intI, bi_intB, bi_strI, bi_strS, bi_abs, bi_max, bi_min, bi_all, bi_any, bi_sum, in_l, in_t, in_s, tr_b, tr_i, tr_n, tr_l, tr_t, so_l, so_t, so_s, so_f, io_t, ng_i, pt_i, ag_a, ag_s, rv_l, rv_t, ap_d, rk_l, rk_t, rk_s, rg_1, rg_2, sl_l, sl_t, sl_s, mt_ixS, wp_mkT0, wp_mkT1, wp_mkT2, wp_mkT3, wp_mkT4, wp_mkT5, wp_mkT6, wp_mkT7, wp_mkT8, wp_datR, wp_idxR, wp_setR, wp_appR, set_last, get_last, le_line, lt_line, wp_newM, lg9, meth_words, wp_mkTR, not_true_eq_false, not_false_eq_true, eq_self, ofString_inj, String.reduceEq, wipeS, wp_inS, false_and, and_false, Tbl.toD]
        refine canst (k := 97) nd ht hvv (by omega) ?_
        simp only [wp_ret, wp_bnd, wp_some, wp_grd, wp_no, wp_dat_pd, wp_dat_fz,  ev, evs, evO, evI, evC, evTs, AI.ex, asgG, asgGs, getV, wp_exs, wp_exs_nil, goS_nx, goS_rt, goS_bk, goS_ct, turnE_nx, turnE_ct, turnE_bk, turnE_rt, endD_rt, endD_nx, back_pd, binS, isFz, cmpS, biS, dats, truth, isiS, allPd, isiD, rkOf, join_some, Option.map, List.map, List.length_cons, List.length_nil, List.getElem?_cons_zero, List.getElem?_cons_succ, List.set_cons_zero, List.set_cons_succ, startS, atI_pos, atI_cast, Int.toNat_natCast, wp_newL1, wp_newL2, wp_newT1, List.length_set, List.set_set, decide_eq_true_eq, decide_eq_false_iff_not, Bool.not_eq_true', true_and, and_true,  ixN_pos, Int.reduceLE, Int.reduceLT, Int.reduceToNat, Int.reduceAdd, Int.reduceSub, Int.reduceMul, Int.reduceMod, Int.reduceNeg, Int.reducePow, Nat.reduceAdd, Nat.reduceLT, Nat.reduceLeDiff, Nat.reduceSub, reduceIte, Int.reduceEq, List.isEmpty_nil, Bool.false_eq_true, Bool.true_eq_false, decide_true, decide_false, ge_iff_le, gt_iff_lt,  wp_eq_int, wp_eq_str, wp_eq_bool, List.length_map, List.replicate, List.cons_append, List.nil_append, Bool.not_false, Bool.not_true, Bool.and_true, Bool.true_and, Bool.and_self, Bool.and_false, Bool.false_and, Option.bind, bn_add, bn_sub, bn_mul, bn_div, bn_mod, bn_pow, bn_addS, bn_addT, bn_addL, cp_eq, cp_ne, cp_ltI, cp_leI, cp_gtI, cp_geI, cp_ltS, cp_leS, cp_gtS, cp_geS, cp_ltT, cp_gtT, cp_in, cp_nin, cp_is, cp_isn, ix_l, ix_t, ix_s, ixs_tp, ixs_pd, ixs_rf, ixs_fz, cel_d, cel_r, mkLst, clsOf, clOf_d, clOf_r, wp_reprB, revS, isi2S, Bool.or_false, Bool.or_true, Bool.false_or, Bool.true_or, bi_lenL, bi_lenT, bi_lenS, bi_listL, bi_listT, bi_tupL, bi_tupT, bi_intI, bi_intB, bi_strI, bi_strS, bi_abs, bi_max, bi_min, bi_all, bi_any, bi_sum, in_l, in_t, in_s, tr_b, tr_i, tr_n, tr_l, tr_t, so_l, so_t, so_s, so_f, io_t, ng_i, pt_i, ag_a, ag_s, rv_l, rv_t, ap_d, rk_l, rk_t, rk_s, rg_1, rg_2, sl_l, sl_t, sl_s, mt_ixS, wp_mkT0, wp_mkT1, wp_mkT2, wp_mkT3, wp_mkT4, wp_mkT5, wp_mkT6, wp_mkT7, wp_mkT8, wp_datR, wp_idxR, wp_setR, wp_appR, set_last, get_last, le_line, lt_line, wp_newM, lg9, meth_words, wp_mkTR, not_true_eq_false, not_false_eq_true, eq_self, ofString_inj, String.reduceEq, wipeS, wp_inS, false_and, and_false]
        exact hJ2 _ _ ⟨_, _, _, _, _, rfl, rfl⟩
    · rintro σ h' ⟨y7, y8, y9, y10, y11, rfl, rfl⟩
      try simp only [wp_ret, wp_bnd, wp_some, wp_grd, wp_no, wp_dat_pd, wp_dat_fz,  ev, evs, evO, evI, evC, evTs, AI.ex, asgG, asgGs, getV, wp_exs, wp_exs_nil, goS_nx, goS_rt, goS_bk, goS_ct, turnE_nx, turnE_ct, turnE_bk, turnE_rt, endD_rt, endD_nx, back_pd, binS, isFz, cmpS, biS, dats, truth, isiS, allPd, isiD, rkOf, join_some, Option.map, List.map, List.length_cons, List.length_nil, List.getElem?_cons_zero, List.getElem?_cons_succ, List.set_cons_zero, List.set_cons_succ, startS, atI_pos, atI_cast, Int.toNat_natCast, wp_newL1, wp_newL2, wp_newT1, List.length_set, List.set_set, decide_eq_true_eq, decide_eq_false_iff_not, Bool.not_eq_true', true_and, and_true,  ixN_pos, Int.reduceLE, Int.reduceLT, Int.reduceToNat, Int.reduceAdd, Int.reduceSub, Int.reduceMul, Int.reduceMod, Int.reduceNeg, Int.reducePow, Nat.reduceAdd, Nat.reduceLT, Nat.reduceLeDiff, Nat.reduceSub, reduceIte, Int.reduceEq, List.isEmpty_nil, Bool.false_eq_true, Bool.true_eq_false, decide_true, decide_false, ge_iff_le, gt_iff_lt,  wp_eq_int, wp_eq_str, wp_eq_bool, List.length_map, List.replicate, List.cons_append, List.nil_append, Bool.not_false, Bool.not_true, Bool.and_true, Bool.true_and, Bool.and_self, Bool.and_false, Bool.false_and, Option.bind, bn_add, bn_sub, bn_mul, bn_div, bn_mod, bn_pow, bn_addS, bn_addT, bn_addL, cp_eq, cp_ne, cp_ltI, cp_leI, cp_gtI, cp_geI, cp_ltS, cp_leS, cp_gtS, cp_geS, cp_ltT, cp_gtT, cp_in, cp_nin, cp_is, cp_isn, ix_l, ix_t, ix_s, ixs_tp, ixs_pd, ixs_rf, ixs_fz, cel_d, cel_r, mkLst, clsOf, clOf_d, clOf_r, wp_reprB, revS, isi2S, Bool.or_false, Bool.or_true, Bool.false_or, Bool.true_or, bi_lenL, bi_lenT, bi_lenS, bi_listL, bi_listT, bi_tupL, bi_tupT, bi_intI, bi_intB, bi_strI, bi_strS, bi_abs, bi_max, bi_min, bi_all, bi_any, bi_sum, in_l, in_t, in_s, tr_b, tr_i, tr_n, tr_l, tr_t, so_l, so_t, so_s, so_f, io_t, ng_i, pt_i, ag_a, ag_s, rv_l, rv_t, ap_d, rk_l, rk_t, rk_s, rg_1, rg_2, sl_l, sl_t, sl_s, mt_ixS, wp_mkT0, wp_mkT1, wp_mkT2, wp_mkT3, wp_mkT4, wp_mkT5, wp_mkT6, wp_mkT7, wp_mkT8, wp_datR, wp_idxR, wp_setR, wp_appR, set_last, get_last, le_line, lt_line, wp_newM, lg9, meth_words, wp_mkTR, not_true_eq_false, not_false_eq_true, eq_self, ofString_inj, String.reduceEq, wipeS, wp_inS, false_and, and_false]
      exact hJ _ _ ⟨b7, _, _, _, _, _, _, _, _, _, t7.up (by simp; omega), rfl, rfl⟩
  · rintro σ h' ⟨b4, y3, y4, y5, y6, y7, y8, y9, y10, y11, t4, rfl, rfl⟩
    try simp only [wp_ret, wp_bnd, wp_some, wp_grd, wp_no, wp_dat_pd, wp_dat_fz,  ev, evs, evO, evI, evC, evTs, AI.ex, asgG, asgGs, getV, wp_exs, wp_exs_nil, goS_nx, goS_rt, goS_bk, goS_ct, turnE_nx, turnE_ct, turnE_bk, turnE_rt, endD_rt, endD_nx, back_pd, binS, isFz, cmpS, biS, dats, truth, isiS, allPd, isiD, rkOf, join_some, Option.map, List.map, List.length_cons, List.length_nil, List.getElem?_cons_zero, List.getElem?_cons_succ, List.set_cons_zero, List.set_cons_succ, startS, atI_pos, atI_cast, Int.toNat_natCast, wp_newL1, wp_newL2, wp_newT1, List.length_set, List.set_set, decide_eq_true_eq, decide_eq_false_iff_not, Bool.not_eq_true', true_and, and_true,  ixN_pos, Int.reduceLE, Int.reduceLT, Int.reduceToNat, Int.reduceAdd, Int.reduceSub, Int.reduceMul, Int.reduceMod, Int.reduceNeg, Int.reducePow, Nat.reduceAdd, Nat.reduceLT, Nat.reduceLeDiff, Nat.reduceSub, reduceIte, Int.reduceEq, List.isEmpty_nil, Bool.false_eq_true, Bool.true_eq_false, decide_true, decide_false, ge_iff_le, gt_iff_lt,  wp_eq_int, wp_eq_str, wp_eq_bool, List.length_map, List.replicate, List.cons_append, List.nil_append, Bool.not_false, Bool.not_true, Bool.and_true, Bool.true_and, Bool.and_self, Bool.and_false, Bool.false_and, Option.bind, bn_add, bn_sub, bn_mul, bn_div, bn_mod, bn_pow, bn_addS, bn_addT, bn_addL, cp_eq, cp_ne, cp_ltI, cp_leI, cp_gtI, cp_geI, cp_ltS, cp_leS, cp_gtS, cp_geS, cp_ltT, cp_gtT, cp_in, cp_nin, cp_is, cp_isn, ix_l, ix_t, ix_s, ixs_tp, ixs_pd, ixs_rf, ixs_fz, cel_d, cel_r, mkLst, clsOf, clOf_d, clOf_r, wp_reprB, revS, isi2S, Bool.or_false, Bool.or_true, Bool.false_or, Bool.true_or, bi_lenL, bi_lenT, bi_lenS, bi_listL, bi_listT, bi_tupL, bi_tupT, bi_intI, bi_intB, bi_strI, bi_strS, bi_abs, bi_max, bi_min, bi_all, bi_any, bi_sum, in_l, in_t, in_s, tr_b, tr_i, tr_n, tr_l, tr_t, so_l, so_t, so_s, so_f, io_t, ng_i, pt_i, ag_a, ag_s, rv_l, rv_t, ap_d, rk_l, rk_t, rk_s, rg_1, rg_2, sl_l, sl_t, sl_s, mt_ixS, wp_mkT0, wp_mkT1, wp_mkT2, wp_mkT3, wp_mkT4, wp_mkT5, wp_mkT6, wp_mkT7, wp_mkT8, wp_datR, wp_idxR, wp_setR, wp_appR, set_last, get_last, le_line, lt_line, wp_newM, lg9, meth_words, wp_mkTR, not_true_eq_false, not_false_eq_true, eq_self, ofString_inj, String.reduceEq, wipeS, wp_inS, false_and, and_false]
end K17

namespace K17
open PySem AI
abbrev R : PySem.W.OpenRow := PySem.W.OpenLaw.row PySem.Challenge.rw_indoubt_k17_rows_that_can_be_stored
theorem run (w : World) : HandSHeadRun.RunEq R (PySem.W.view R.prog [20]) (hookA 4 tab) (obA 4 tab) 900 ["__name__", "MOST_IN_TABLES", "is_storable", "table_named", "can_store", "_law_tape", "_law_draw", "_law_name", "_law_names", "_law_signs", "_law_text", "_law_value", "_law_some", "_law_row", "_law_kinds", "_law_plain_tables", "_law_fits", "_law_odd"] w := by
  intro os
  kernel_rfl
end K17
open PySem PySem.W PySem.Calls PyProof.Rows AI
theorem PySem.Challenge.cw_indoubt_k17_rows_that_can_be_stored_holds : PySem.Challenge.rw_indoubt_k17_rows_that_can_be_stored.Holds := by
  w_on; o_law
  refine HandSHeadRun.head_any (r := K17.R) (q := view K17.R.prog [20]) (H := hookA 4 K17.tab) (ob := obA 4 K17.tab) (M := 900) (loose := ["__name__", "MOST_IN_TABLES", "is_storable", "table_named", "can_store", "_law_tape", "_law_draw", "_law_name", "_law_names", "_law_signs", "_law_text", "_law_value", "_law_some", "_law_row", "_law_kinds", "_law_plain_tables", "_law_fits", "_law_odd"]) (d := HandSHeadRun.topDef K17.R.prog 20) (kwd := []) (obA_eq 4 K17.tab)
    (by kernel_rfl) (fun s => by kernel_rfl) K17.run (by kernel_rfl) (by kernel_rfl) (by kernel_rfl) (by rfl) (by first | assumption | decide +kernel) (by decide +kernel) ⟨rfl, rfl, rfl, rfl, rfl, by decide +kernel⟩ ?hw ?hc
  case hw => w_witness2
  case hc => exact walk_ai K17.tab 100 K17.d_law "_law_script" rfl (by kernel_rfl) ⟨rfl, by decide, by decide⟩ (by kernel_rfl) (by kernel_rfl) rfl K17.allC K17.plain
