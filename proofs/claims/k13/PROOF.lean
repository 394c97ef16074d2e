import PyProof.Rows.All
import HandS.ForMost
import HandS.Flow
import HandS.TupAny
import HandS.TupMul
import HandS.Deep
import HandS.IsInst
import HandS.WideBits
import HandS.Zip
import HandS.TryOnly
import HandS.More
import HandS.Lambda
import HandS.TryMany
import HandS.ExcInit
import HandS.ExcField
import HandS.WordsExc
import HandS.DictTup
import KE.KItemsList
import HandS.EndOwn
import HandS.Style
import PySem.Challenge.RW_swornfilters_k13_sets_told_least
import HandS.ExcIs
set_option Elab.async false
set_option linter.all false
set_option maxRecDepth 100000
set_option maxHeartbeats 4000000
/-! The data level: values as trees, the slots of a frame as trees, expressions and statements over these alone. -/
namespace Dl
open PySem PySem.Spec PyProof.Rows L2

/-! ### what a value is, as a tree -/
mutual
inductive Rp (K : PySem.W.Frag) (H : Hp) : V → PyData → Prop
  | non : Rp K H .non .none
  | bl (b : Bool) : Rp K H (.bl b) (.bool b)
  | int (i : Int) : Rp K H (.int i) (.int i)
  | str (x : Str) : Rp K H (.str x) (.str x)
  | lst {a : Addr} {xs : List V} {ds : List PyData} : H a = some (.lst xs) → RpA K H xs ds → Rp K H (.ref a) (.list ds)
  | tup {a : Addr} {xs : List V} {ds : List PyData} : SqT K H a xs → RpA K H xs ds → Rp K H (.ref a) (.tuple ds)
  | dic {a : Addr} : H a = some (.dK []) → Rp K H (.ref a) (.dict [])
inductive RpA (K : PySem.W.Frag) (H : Hp) : List V → List PyData → Prop
  | nil : RpA K H [] []
  | cons {v : V} {vs : List V} {d : PyData} {ds : List PyData} : Rp K H v d → RpA K H vs ds → RpA K H (v :: vs) (d :: ds)
end
theorem same_t {K : PySem.W.Frag} {H H' : Hp} {a : Addr} {xs : List V} (e : Same H H') (h : SqT K H a xs) : SqT K H' a xs := by
  rcases h with (h | ⟨o, h⟩) | h
  · exact .inl (.inl (e _ _ h))
  · exact .inl (.inr ⟨o, e _ _ h⟩)
  · exact .inr h
section
variable {K : PySem.W.Frag} {H H' : Hp}
mutual
theorem Rp.mono (e : Same H H') : ∀ {v : V} {d : PyData}, Rp K H v d → Rp K H' v d
  | _, _, .non => .non
  | _, _, .bl b => .bl b
  | _, _, .int i => .int i
  | _, _, .str x => .str x
  | _, _, .lst h r => .lst (e _ _ h) (RpA.mono e r)
  | _, _, .tup h r => .tup (same_t e h) (RpA.mono e r)
  | _, _, .dic h => .dic (e _ _ h)
theorem RpA.mono (e : Same H H') : ∀ {vs : List V} {ds : List PyData}, RpA K H vs ds → RpA K H' vs ds
  | _, _, .nil => .nil
  | _, _, .cons h r => .cons (Rp.mono e h) (RpA.mono e r)
end
mutual
theorem Rp.dp : ∀ {v : V} {d : PyData}, Rp K H v d → PyData.canLay0 d = true → Dp K H v d
  | _, _, .non, _ => .non
  | _, _, .bl b, _ => .bl b
  | _, _, .int i, _ => .int i
  | _, _, .str x, _ => .str x
  | _, _, .lst h r, c => .lst (SqL.of h) (RpA.dp r (by simpa only [PyData.canLay0] using c))
  | _, _, .tup h r, c => .tup h (RpA.dp r (by simpa only [PyData.canLay0] using c))
  | _, _, .dic h, c => by simp [PyData.canLay0] at c
theorem RpA.dp : ∀ {vs : List V} {ds : List PyData}, RpA K H vs ds → PyData.canLayAll0 ds = true → DpAll K H vs ds
  | _, _, .nil, _ => .nil
  | _, _, .cons h r, c => by
    simp only [PyData.canLayAll0, Bool.and_eq_true] at c
    exact .cons (Rp.dp h c.1) (RpA.dp r c.2)
end
theorem RpA.length : ∀ {vs : List V} {ds : List PyData}, RpA K H vs ds → vs.length = ds.length
  | _, _, .nil => rfl
  | _, _, .cons _ r => by rw [List.length_cons, List.length_cons, RpA.length r]
theorem RpA.append : ∀ {vs : List V} {ds : List PyData} {us : List V} {es : List PyData}, RpA K H vs ds → RpA K H us es → RpA K H (vs ++ us) (ds ++ es)
  | _, _, _, _, .nil, s => s
  | _, _, _, _, .cons h r, s => .cons h (RpA.append r s)
theorem RpA.take : ∀ {vs : List V} {ds : List PyData} (n : Nat), RpA K H vs ds → RpA K H (vs.take n) (ds.take n)
  | _, _, 0, _ => .nil
  | _, _, _ + 1, .nil => .nil
  | _, _, n + 1, .cons h r => .cons h (RpA.take n r)
theorem RpA.drop : ∀ {vs : List V} {ds : List PyData} (n : Nat), RpA K H vs ds → RpA K H (vs.drop n) (ds.drop n)
  | _, _, 0, r => r
  | _, _, _ + 1, .nil => .nil
  | _, _, n + 1, .cons _ r => RpA.drop n r
theorem RpA.get : ∀ {vs : List V} {ds : List PyData} {i : Nat} {v : V}, RpA K H vs ds → vs[i]? = some v → ∃ d, ds[i]? = some d ∧ Rp K H v d
  | _, _, _, _, .nil, e => by simp at e
  | _, _, 0, _, .cons h _, e => by simp at e; subst e; exact ⟨_, rfl, h⟩
  | _, _, i + 1, v, .cons _ r, e => by
    obtain ⟨d, h1, h2⟩ := RpA.get (i := i) (v := v) r (by simpa using e)
    exact ⟨d, by simpa using h1, h2⟩
theorem RpA.getD : ∀ {vs : List V} {ds : List PyData} {i : Nat} {d : PyData}, RpA K H vs ds → ds[i]? = some d → ∃ v, vs[i]? = some v ∧ Rp K H v d
  | _, _, _, _, .nil, e => by simp at e
  | _, _, 0, _, .cons h _, e => by simp at e; subst e; exact ⟨_, rfl, h⟩
  | _, _, i + 1, d, .cons _ r, e => by
    obtain ⟨v, h1, h2⟩ := RpA.getD (i := i) (d := d) r (by simpa using e)
    exact ⟨v, by simpa using h1, h2⟩
theorem RpA.set : ∀ {vs : List V} {ds : List PyData} {v : V} {d : PyData} (i : Nat), Rp K H v d → RpA K H vs ds → RpA K H (vs.set i v) (ds.set i d)
  | _, _, _, _, _, _, .nil => .nil
  | _, _, _, _, 0, h, .cons _ r => .cons h r
  | _, _, _, _, i + 1, h, .cons q r => .cons q (RpA.set i h r)
theorem RpA.eraseIdx : ∀ {vs : List V} {ds : List PyData} (i : Nat), RpA K H vs ds → RpA K H (vs.eraseIdx i) (ds.eraseIdx i)
  | _, _, _, .nil => .nil
  | _, _, 0, .cons _ r => r
  | _, _, i + 1, .cons q r => .cons q (RpA.eraseIdx i r)
theorem RpA.rep {vs : List V} {ds : List PyData} (r : RpA K H vs ds) : ∀ n : Nat, RpA K H (List.replicate n vs).flatten (List.replicate n ds).flatten
  | 0 => .nil
  | n + 1 => by
    rw [List.replicate_succ, List.replicate_succ, List.flatten_cons, List.flatten_cons]
    exact r.append (RpA.rep r n)
theorem RpA.ints : ∀ (ns : List Int), RpA K H (ns.map V.int) (ns.map PyData.int)
  | [] => .nil
  | n :: r => .cons (.int n) (RpA.ints r)
theorem RpA.bls : ∀ (ns : List Bool), RpA K H (ns.map V.bl) (ns.map PyData.bool)
  | [] => .nil
  | n :: r => .cons (.bl n) (RpA.bls r)
theorem RpA.ints_inv : ∀ {ns : List Int} {vs : List V}, RpA K H vs (ns.map PyData.int) → vs = ns.map V.int
  | [], _, .nil => rfl
  | n :: r, _, .cons h q => by
    cases h
    rw [RpA.ints_inv q] <;> rfl
theorem RpA.bls_inv : ∀ {ns : List Bool} {vs : List V}, RpA K H vs (ns.map PyData.bool) → vs = ns.map V.bl
  | [], _, .nil => rfl
  | n :: r, _, .cons h q => by
    cases h
    rw [RpA.bls_inv q] <;> rfl
theorem RpA.strs_inv : ∀ {ns : List Str} {vs : List V}, RpA K H vs (ns.map PyData.str) → vs = ns.map V.str
  | [], _, .nil => rfl
  | n :: r, _, .cons h q => by
    cases h
    rw [RpA.strs_inv q] <;> rfl
theorem RpA.strs : ∀ (ns : List Str), RpA K H (ns.map V.str) (ns.map PyData.str)
  | [] => .nil
  | n :: r => .cons (.str n) (RpA.strs r)
end

/-! ### what is owned: an object (or several) that is written, by one place alone -/
structure Res where
  ok : Hp → Hp → V → List Addr → Prop
  loc : ∀ {B B' H H' : Hp} {v : V} {fp : List Addr}, ok B H v fp → Same B B' → (∀ a ∈ fp, H' a = H a) → ok B' H' v fp
inductive Slot where
  | no
  | dat (d : PyData)
  | raw (v : V)
  | own (r : Res)
/-- a list that is filled, its things so far -/
def accR (K : PySem.W.Frag) (ds : List PyData) : Res where
  ok := fun B H v fp => ∃ p xs, v = .ref p ∧ fp = [p] ∧ H p = some (.lst xs) ∧ RpA K B xs ds
  loc := fun {B B' H H' v fp} ⟨p, xs, h1, h2, h3, h4⟩ hb hh => ⟨p, xs, h1, h2, by rw [hh p (by rw [h2]; exact List.mem_singleton.mpr rfl)]; exact h3, h4.mono hb⟩
def SlotOk (K : PySem.W.Frag) (B H : Hp) : Option V → Slot → List Addr → Prop
  | _, .no, fp => fp = []
  | some v, .dat d, fp => fp = [] ∧ Rp K B v d
  | some v, .raw u, fp => fp = [] ∧ v = u
  | some v, .own r, fp => r.ok B H v fp
  | none, _, _ => False
theorem SlotOk.loc {K : PySem.W.Frag} {B B' H H' : Hp} {o : Option V} {s : Slot} {fp : List Addr} (h : SlotOk K B H o s fp) (hb : Same B B') (hh : ∀ a ∈ fp, H' a = H a) : SlotOk K B' H' o s fp := by
  cases s with
  | no => exact h
  | dat d =>
    cases o with
    | none => exact h
    | some v => exact ⟨h.1, h.2.mono hb⟩
  | raw u =>
    cases o with
    | none => exact h
    | some v => exact h
  | own r =>
    cases o with
    | none => exact h
    | some v => exact r.loc h hb hh
/-- what the frame's slots hold: B what never changes, H all; F what is written, by slot -/
structure Wf (K : PySem.W.Frag) (B H : Hp) (σ : L2.St) (δ : List Slot) (F : Nat → List Addr) : Prop where
  bh : Same B H
  len : δ.length = σ.length
  sl : ∀ i s, δ[i]? = some s → ∃ o, σ[i]? = some o ∧ SlotOk K B H o s (F i)
  out : ∀ i, δ.length ≤ i → F i = []
  dis : ∀ i j a, a ∈ F i → a ∈ F j → i = j
  own : ∀ i, ∀ a ∈ F i, B a = none ∧ ∃ o, H a = some o
/-- new objects alone -/
structure Grow (B H B2 H2 : Hp) : Prop where
  bb : Same B B2
  bh : Same B2 H2
  hh : Same H H2
  fr : ∀ b o, H b = some o → B2 b = B b
structure Step (B H : Hp) (F : Nat → List Addr) (B2 H2 : Hp) (F2 : Nat → List Addr) : Prop where
  bb : Same B B2
  keep : ∀ b o, H b = some o → (∀ i, b ∉ F i) → H2 b = some o
  fr : ∀ b o, H b = some o → (∀ i, b ∉ F i) → B2 b = B b
  there : ∀ b o, H b = some o → ∃ o', H2 b = some o'
  fn : ∀ i, ∀ b ∈ F2 i, (∃ j, b ∈ F j) ∨ H b = none
section
variable {K : PySem.W.Frag} {B H B1 H1 B2 H2 : Hp} {σ σ2 : L2.St} {δ δ2 : List Slot} {F F1 F2 : Nat → List Addr}
theorem Grow.refl (h : Same B H) : Grow B H B H := ⟨Same.refl B, h, Same.refl H, fun _ _ _ => rfl⟩
theorem Grow.trans (a : Grow B H B1 H1) (b : Grow B1 H1 B2 H2) : Grow B H B2 H2 :=
  ⟨a.bb.trans b.bb, b.bh, a.hh.trans b.hh, fun c o e => (b.fr c o (a.hh c o e)).trans (a.fr c o e)⟩
theorem same_upd {H : Hp} {p : Addr} {o : HO} (h : H p = none) : Same H (upd H p o) := fun b x e => by
  rw [upd_ne (ne_of_none e h)]
  exact e
theorem same_upd2 {B H : Hp} {p : Addr} {o : HO} (e : Same B H) : Same (upd B p o) (upd H p o) := fun b x h => by
  by_cases hb : b = p
  · subst hb
    rw [upd_same] at h ⊢
    exact h
  · rw [upd_ne hb] at h ⊢
    exact e b x h
theorem Grow.new {p : Addr} {o : HO} (h : Same B H) (hp : H p = none) : Grow B H (upd B p o) (upd H p o) :=
  ⟨same_upd (h.free hp), same_upd2 h, same_upd hp, fun b x e => upd_ne (ne_of_none e hp)⟩
theorem Grow.newH {p : Addr} {o : HO} (h : Same B H) (hp : H p = none) : Grow B H B (upd H p o) :=
  ⟨Same.refl B, h.trans (same_upd hp), same_upd hp, fun _ _ _ => rfl⟩
theorem Wf.grow (W : Wf K B H σ δ F) (g : Grow B H B2 H2) : Wf K B2 H2 σ δ F where
  bh := g.bh
  len := W.len
  sl := fun i s e => by
    obtain ⟨o, h1, h2⟩ := W.sl i s e
    refine ⟨o, h1, h2.loc g.bb fun a ha => ?_⟩
    obtain ⟨_, u, hu⟩ := W.own i a ha
    rw [hu]
    exact g.hh a u hu
  out := W.out
  dis := W.dis
  own := fun i a ha => by
    obtain ⟨h0, u, hu⟩ := W.own i a ha
    exact ⟨(g.fr a u hu).trans h0, u, g.hh a u hu⟩
theorem Step.refl : Step B H F B H F := ⟨Same.refl B, fun _ _ e _ => e, fun _ _ _ _ => rfl, fun _ o e => ⟨o, e⟩, fun i b hb => .inl ⟨i, hb⟩⟩
theorem Step.of (g : Grow B H B2 H2) : Step B H F B2 H2 F := ⟨g.bb, fun b o e _ => g.hh b o e, fun b o e _ => g.fr b o e, fun b o e => ⟨o, g.hh b o e⟩, fun i b hb => .inl ⟨i, hb⟩⟩
theorem Step.trans (a : Step B H F B1 H1 F1) (b : Step B1 H1 F1 B2 H2 F2) : Step B H F B2 H2 F2 where
  bb := a.bb.trans b.bb
  keep := fun c o e n => b.keep c o (a.keep c o e n) fun i hi => by
    rcases a.fn i c hi with ⟨j, hj⟩ | h
    · exact n j hj
    · rw [e] at h
      cases h
  fr := fun c o e n => by
    obtain ⟨o', e'⟩ := a.there c o e
    refine (b.fr c o' e' fun i hi => ?_).trans (a.fr c o e n)
    rcases a.fn i c hi with ⟨j, hj⟩ | h
    · exact n j hj
    · rw [e] at h
      cases h
  there := fun c o e => by
    obtain ⟨o', e'⟩ := a.there c o e
    exact b.there c o' e'
  fn := fun i c hc => by
    rcases b.fn i c hc with ⟨j, hj⟩ | h
    · exact a.fn j c hj
    · cases q : H c with
      | none => exact .inr rfl
      | some o =>
        obtain ⟨o', e'⟩ := a.there c o q
        rw [e'] at h
        cases h
theorem Step.sub (a : Step B H F B2 H2 F1) (h : ∀ i, ∀ b ∈ F2 i, ∃ j, b ∈ F1 j) : Step B H F B2 H2 F2 :=
  ⟨a.bb, a.keep, a.fr, a.there, fun i b hb => by
    obtain ⟨j, hj⟩ := h i b hb
    exact a.fn j b hj⟩
/-- a slot is given a value -/
theorem Wf.put (W : Wf K B H σ δ F) {i : Nat} {v : V} {s : Slot} (hs : SlotOk K B H (some v) s []) : Wf K B H (σ.set i (some v)) (δ.set i s) (fun j => if j = i then [] else F j) where
  bh := W.bh
  len := by rw [List.length_set, List.length_set]; exact W.len
  sl := fun j t e => by
    by_cases hj : j = i
    · subst hj
      have hlt : j < δ.length := by
        have := (List.getElem?_eq_some_iff.mp e).1
        rw [List.length_set] at this
        exact this
      rw [List.getElem?_set_self hlt] at e
      cases e
      refine ⟨some v, List.getElem?_set_self (by rw [← W.len]; exact hlt), ?_⟩
      rw [if_pos rfl]
      exact hs
    · rw [List.getElem?_set_ne (Ne.symm hj)] at e
      obtain ⟨o, h1, h2⟩ := W.sl j t e
      refine ⟨o, by rw [List.getElem?_set_ne (Ne.symm hj)]; exact h1, ?_⟩
      rw [if_neg hj]
      exact h2
  out := fun j hj => by
    rw [List.length_set] at hj
    by_cases h : j = i
    · rw [if_pos h]
    · rw [if_neg h]
      exact W.out j hj
  dis := fun j k a h1 h2 => by
    by_cases hj : j = i
    · rw [if_pos hj] at h1
      cases h1
    · by_cases hk : k = i
      · rw [if_pos hk] at h2
        cases h2
      · rw [if_neg hj] at h1
        rw [if_neg hk] at h2
        exact W.dis j k a h1 h2
  own := fun j a h => by
    by_cases hj : j = i
    · rw [if_pos hj] at h
      cases h
    · rw [if_neg hj] at h
      exact W.own j a h
theorem cut_sub {F : Nat → List Addr} {i : Nat} : ∀ j, ∀ b ∈ (fun j => if j = i then ([] : List Addr) else F j) j, ∃ k, b ∈ F k := fun j b hb => by
  by_cases hj : j = i
  · rw [show (fun j => if j = i then ([] : List Addr) else F j) j = [] from if_pos hj] at hb
    cases hb
  · rw [show (fun j => if j = i then ([] : List Addr) else F j) j = F j from if_neg hj] at hb
    exact ⟨j, hb⟩
/-- the slot of a datum -/
theorem Wf.dat (W : Wf K B H σ δ F) {i : Nat} {d : PyData} (h : δ[i]? = some (.dat d)) : ∃ v, σ[i]? = some (some v) ∧ Rp K B v d := by
  obtain ⟨o, h1, h2⟩ := W.sl i _ h
  cases o with
  | none => exact h2.elim
  | some v => exact ⟨v, h1, h2.2⟩
theorem Wf.raw (W : Wf K B H σ δ F) {i : Nat} {v : V} (h : δ[i]? = some (.raw v)) : σ[i]? = some (some v) := by
  obtain ⟨o, h1, h2⟩ := W.sl i _ h
  cases o with
  | none => exact h2.elim
  | some u =>
    obtain ⟨_, rfl⟩ := h2
    exact h1
end

/-! ### the readings -/
section
variable (K : PySem.W.Frag)
/-- a datum, new objects at most -/
def tD (δ : List Slot) (d : PyData) : TE := fun σ H Q => ∃ B F, Wf K B H σ δ F ∧ ∀ v B2 H2, Grow B H B2 H2 → Rp K B2 v d → Q v H2
/-- a new list -/
def tN (δ : List Slot) (ds : List PyData) : TE := fun σ H Q => ∃ B F, Wf K B H σ δ F ∧ ∀ p xs B2 H2, Grow B H B2 H2 → H p = none → B2 p = none → H2 p = some (.lst xs) → RpA K B2 xs ds → Q (.ref p) H2
/-- a value that is known -/
def tV (δ : List Slot) (u : V) : TE := fun σ H Q => ∃ B F, Wf K B H σ δ F ∧ ∀ B2 H2, Grow B H B2 H2 → Q u H2
def tBo (δ : List Slot) (b : Bool) : TT := fun σ H Q => ∃ B F, Wf K B H σ δ F ∧ ∀ B2 H2, Grow B H B2 H2 → Q b H2
def tA (δ : List Slot) (ds : List PyData) : TA := fun σ H Q => ∃ B F, Wf K B H σ δ F ∧ ∀ vs B2 H2, Grow B H B2 H2 → RpA K B2 vs ds → Q vs H2
def tO (δ : List Slot) (o : Option Int) : TO := fun σ H Q => ∃ B F, Wf K B H σ δ F ∧ ∀ B2 H2, Grow B H B2 H2 → Q o H2
/-- what may change the slots' objects -/
def tE (δ : List Slot) (P : PyData → List Slot → Prop) : TE := fun σ H Q => ∃ B F, Wf K B H σ δ F ∧ ∀ v d δ2 B2 H2 F2, Step B H F B2 H2 F2 → Wf K B2 H2 σ δ2 F2 → P d δ2 → Rp K B2 v d → Q v H2
structure Post where
  nx : List Slot → Prop := fun _ => False
  rt : PyData → List Slot → Prop := fun _ _ => False
  bk : List Slot → Prop := fun _ => False
  ct : List Slot → Prop := fun _ => False
  rr : V → Hp → Hp → Prop := fun _ _ _ => False
  gh : Option (Hp × Hp × (Nat → List Addr)) := none
/-- from the start on -/
def ghOk (g : Option (Hp × Hp × (Nat → List Addr))) (B H : Hp) (F : Nat → List Addr) : Prop := match g with
  | none => True
  | some z => Step z.1 z.2.1 z.2.2 B H F
def tS (δ : List Slot) (R : Post) : TS := fun D σ H => ∃ B F, Wf K B H σ δ F ∧
  (∀ σ2 δ2 B2 H2 F2, Step B H F B2 H2 F2 → Wf K B2 H2 σ2 δ2 F2 → R.nx δ2 → D.nx σ2 H2) ∧
  (∀ v d σ2 δ2 B2 H2 F2, Step B H F B2 H2 F2 → Wf K B2 H2 σ2 δ2 F2 → R.rt d δ2 → Rp K B2 v d → D.rt v H2) ∧
  (∀ σ2 δ2 B2 H2 F2, Step B H F B2 H2 F2 → Wf K B2 H2 σ2 δ2 F2 → R.bk δ2 → D.bk σ2 H2) ∧
  (∀ σ2 δ2 B2 H2 F2, Step B H F B2 H2 F2 → Wf K B2 H2 σ2 δ2 F2 → R.ct δ2 → D.ct σ2 H2) ∧
  (∀ v σ2 δ2 B2 H2 F2, Step B H F B2 H2 F2 → Wf K B2 H2 σ2 δ2 F2 → R.rr v B2 H2 → D.rt v H2) ∧ ghOk R.gh B H F
end
/-! ### the judgements -/
section
variable (X : Cx)
abbrev XE (δ : List Slot) (e : Expr) (d : PyData) : Prop := PE X e (tD X.K δ d)
abbrev XN (δ : List Slot) (e : Expr) (ds : List PyData) : Prop := PE X e (tN X.K δ ds)
abbrev XV (δ : List Slot) (e : Expr) (u : V) : Prop := PE X e (tV X.K δ u)
abbrev XT (δ : List Slot) (e : Expr) (b : Bool) : Prop := PT X e (tBo X.K δ b)
abbrev XW (δ : List Slot) (e : Expr) (b : Bool) : Prop := PW X e (tBo X.K δ b)
abbrev XA (δ : List Slot) (es : List Expr) (ds : List PyData) : Prop := PA X es (tA X.K δ ds)
abbrev XO (δ : List Slot) (e : Option Expr) (o : Option Int) : Prop := PO X e (tO X.K δ o)
abbrev XF (δ : List Slot) (e : Expr) (P : PyData → List Slot → Prop) : Prop := PE X e (tE X.K δ P)
abbrev XS (δ : List Slot) (st : Stmt) (R : Post) : Prop := PS X st (tS X.K δ R)
abbrev XB (δ : List Slot) (sts : List Stmt) (R : Post) : Prop := PSs X sts (tS X.K δ R)
end
section
variable {X : Cx} {e : Expr} {t t' : TE} {δ : List Slot}
theorem _root_.L2.PE.weak (h : PE X e t) (w : ∀ σ H Q, t' σ H Q → t σ H Q) : PE X e t' := ⟨fun pins s σ H Q I q => h.run pins s σ H Q I (w σ H Q q)⟩
theorem _root_.L2.PT.weak {t t' : TT} (h : PT X e t) (w : ∀ σ H Q, t' σ H Q → t σ H Q) : PT X e t' := ⟨fun pins s σ H Q I q => h.run pins s σ H Q I (w σ H Q q)⟩
theorem _root_.L2.PW.weak {t t' : TT} (h : PW X e t) (w : ∀ σ H Q, t' σ H Q → t σ H Q) : PW X e t' := ⟨fun wh pins s σ H Q I q => h.run wh pins s σ H Q I (w σ H Q q)⟩
theorem _root_.L2.PA.weak {es : List Expr} {t t' : TA} (h : PA X es t) (w : ∀ σ H Q, t' σ H Q → t σ H Q) : PA X es t' := ⟨fun p pins s σ H Q I q => h.run p pins s σ H Q I (w σ H Q q)⟩
theorem _root_.L2.PO.weak {o : Option Expr} {t t' : TO} (h : PO X o t) (w : ∀ σ H Q, t' σ H Q → t σ H Q) : PO X o t' := ⟨fun pins s σ H Q I q => h.run pins s σ H Q I (w σ H Q q)⟩
theorem _root_.L2.PS.weak {st : Stmt} {t t' : TS} (h : PS X st t) (w : ∀ D σ H, t' D σ H → t D σ H) : PS X st t' := ⟨fun pins s σ H D I q => h.run pins s σ H D I (w D σ H q)⟩
theorem _root_.L2.PSs.weak {st : List Stmt} {t t' : TS} (h : PSs X st t) (w : ∀ D σ H, t' D σ H → t D σ H) : PSs X st t' := ⟨fun pins s σ H D I q => h.run pins s σ H D I (w D σ H q)⟩
end
end Dl

set_option Elab.async false
set_option linter.all false
set_option maxRecDepth 100000
set_option maxHeartbeats 4000000
/-! The data level: expressions. -/
namespace Dl
open PySem PySem.Spec PyProof.Rows L2

theorem room65 {k : Nat} {A : Around} (hr : Room k A) : A.units + 65 < cLine := by
  have := hr.un
  omega
section
variable {X : Cx} {δ : List Slot} {a b c e : Expr} {pos : Pos} {d d1 d2 d3 : PyData} {ds : List PyData} {rest es : List Expr}
/-! ### names, constants -/
theorem xe_var (i : Nat) {x : Str} (h : δ[i]? = some (.dat d) := by rfl) (hN : X.N[i]? = some x := by rfl) (hv : Vis X.env.scope x := by first | exact Or.inl rfl | exact Or.inr (Or.inl rfl) | exact Or.inr (Or.inr rfl)) (hd : (x == ("__debug__" : Str)) = false := by decide)
    (hcd : (x == ("__classdict__" : Str)) = false := by decide) : XE X δ (.Name x pos) d :=
  (pe_var (i := i) hN hv hd hcd).weak fun σ H Q ⟨B, F, W, q⟩ => by
    obtain ⟨v, h1, h2⟩ := W.dat h
    exact ⟨v, h1, q v B H (Grow.refl W.bh) h2⟩
theorem xv_var (i : Nat) {x : Str} {v : V} (h : δ[i]? = some (.raw v) := by rfl) (hN : X.N[i]? = some x := by rfl) (hv : Vis X.env.scope x := by first | exact Or.inl rfl | exact Or.inr (Or.inl rfl) | exact Or.inr (Or.inr rfl)) (hd : (x == ("__debug__" : Str)) = false := by decide)
    (hcd : (x == ("__classdict__" : Str)) = false := by decide) : XV X δ (.Name x pos) v :=
  (pe_var (i := i) hN hv hd hcd).weak fun σ H Q ⟨B, F, W, q⟩ => ⟨v, W.raw h, q B H (Grow.refl W.bh)⟩
theorem xe_c {v : V} (h : PE X e (tC v)) (r : ∀ B, Rp X.K B v d) : XE X δ e d := h.weak fun σ H Q ⟨B, F, W, q⟩ => q v B H (Grow.refl W.bh) (r B)
theorem xe_int {i : Int} {j} : XE X δ (.Constant (.int i) j pos) (.int i) := xe_c pe_int fun _ => .int i
theorem xe_bl {i : Bool} {j} : XE X δ (.Constant (.bool i) j pos) (.bool i) := xe_c pe_bl fun _ => .bl i
theorem xe_non {j} : XE X δ (.Constant .none j pos) .none := xe_c pe_non fun _ => .non
theorem xe_str {i : Str} {j} : XE X δ (.Constant (.str i) j pos) (.str i) := xe_c pe_str fun _ => .str i
/-- a module's constant -/
theorem xe_gint {x : Str} {i : Int} {t : Tok} (hm : X.mg x = some (.int i t)) (hg : Gl X x := by rfl) (hd : (x == ("__debug__" : Str)) = false := by decide) : XE X δ (.Name x pos) (.int i) :=
  xe_c (pe_glob (v := .int i) hg hm ⟨t, rfl⟩ hd) fun _ => .int i
theorem xe_gstr {x : Str} {i : Str} {t : Tok} (hm : X.mg x = some (.str i t)) (hg : Gl X x := by rfl) (hd : (x == ("__debug__" : Str)) = false := by decide) : XE X δ (.Name x pos) (.str i) :=
  xe_c (pe_glob (v := .str i) hg hm ⟨t, rfl⟩ hd) fun _ => .str i
theorem xv_c {v : V} (h : PE X e (tC v)) : XV X δ e v := h.weak fun σ H Q ⟨B, F, W, q⟩ => q B H (Grow.refl W.bh)
theorem xe_eq (h : XE X δ e d1) (q : d1 = d) : XE X δ e d := by
  rw [← q]
  exact h
/-- what is never come to -/
theorem pe_bot : PE X e (fun _ _ _ => False) := ⟨fun _ _ _ _ _ _ h => h.elim⟩
theorem pt_bot : PT X e (fun _ _ _ => False) := ⟨fun _ _ _ _ _ _ h => h.elim⟩
theorem pw_bot : PW X e (fun _ _ _ => False) := ⟨fun _ _ _ _ _ _ _ h => h.elim⟩

/-! ### operators -/
def RD (K : PySem.W.Frag) (r : R2) (d1 d2 d : PyData) : Prop := ∀ (B H : Hp) (x y : V) (Q : VK), Same B H → Rp K B x d1 → Rp K B y d2 → (∀ v B2 H2, Grow B H B2 H2 → Rp K B2 v d → Q v H2) → r x y H Q
def RU (K : PySem.W.Frag) (r : V → Hp → VK → Prop) (d1 d : PyData) : Prop := ∀ (B H : Hp) (x : V) (Q : VK), Same B H → Rp K B x d1 → (∀ v B2 H2, Grow B H B2 H2 → Rp K B2 v d → Q v H2) → r x H Q
theorem op_weak {r : R2} (ha : XE X δ a d1) (hb : XE X δ b d2) (hr : RD X.K r d1 d2 d) : ∀ σ H Q, tD X.K δ d σ H Q → tOp r (tD X.K δ d1) (tD X.K δ d2) σ H Q := fun σ H Q ⟨B, F, W, q⟩ =>
  ⟨B, F, W, fun x B1 H1 g1 r1 => ⟨B1, F, W.grow g1, fun y B2 H2 g2 r2 => hr B2 H2 x y Q g2.bh (r1.mono g2.bb) r2 fun v B3 H3 g3 r3 => q v B3 H3 ((g1.trans g2).trans g3) r3⟩⟩
theorem xe_op {op : Operator} {r : R2} (ho : OpR X (binaryOp op) r) (ha : XE X δ a d1) (hb : XE X δ b d2) (hr : RD X.K r d1 d2 d) : XE X δ (.BinOp a op b pos) d := (pe_op ho ha hb).weak (op_weak ha hb hr)
theorem xe_un {op : UnaryOp} {r : V → Hp → VK → Prop} (ho : UnR X (unaryOp op) r) (ha : XE X δ a d1) (hr : RU X.K r d1 d) : XE X δ (.UnaryOp op a pos) d := (pe_un ho ha).weak fun σ H Q ⟨B, F, W, q⟩ =>
  ⟨B, F, W, fun x B1 H1 g1 r1 => hr B1 H1 x Q g1.bh r1 fun v B2 H2 g2 r2 => q v B2 H2 (g1.trans g2) r2⟩
theorem rd_I0 {K : PySem.W.Frag} {g : Int → Int → V} {i j : Int} (h : ∀ B, Rp K B (g i j) d) : RD K (rI0 g) (.int i) (.int j) d := fun B H x y Q s rx ry q => by
  cases rx
  cases ry
  exact ⟨i, j, rfl, rfl, q _ B H (Grow.refl s) (h B)⟩
theorem rd_I {K : PySem.W.Frag} {C : Int → Int → Prop} {g : Int → Int → V} {i j : Int} (hc : C i j) (h : ∀ B, Rp K B (g i j) d) : RD K (rI C g) (.int i) (.int j) d := fun B H x y Q s rx ry q => by
  cases rx
  cases ry
  exact ⟨i, j, rfl, rfl, hc, q _ B H (Grow.refl s) (h B)⟩
theorem sz_of {n : Nat} (h : n ≤ 1000000) : n ≤ sizeLine := by
  rw [sizeLine_eq]
  omega
theorem rd_cat {K : PySem.W.Frag} {xs ys : List PyData} (hz : xs.length + ys.length ≤ 1000000) : RD K rCat (.list xs) (.list ys) (.list (xs ++ ys)) := fun B H x y Q s rx ry q => by
  cases rx with
  | @lst a us _ h1 r1 =>
    cases ry with
    | @lst b ws _ h2 r2 =>
      refine ⟨_, _, _, _, rfl, rfl, s _ _ h1, s _ _ h2, sz_of (by rw [r1.length, r2.length]; exact hz), fun p hp => ?_⟩
      have g := Grow.new (o := .lst (us ++ ws)) s hp
      exact q _ _ _ g (.lst upd_same ((r1.append r2).mono g.bb))
theorem rd_catT {K : PySem.W.Frag} {xs ys : List PyData} (hz : xs.length + ys.length ≤ 1000000) : RD K (rCatA K) (.tuple xs) (.tuple ys) (.tuple (xs ++ ys)) := fun B H x y Q s rx ry q => by
  cases rx with
  | @tup a us _ h1 r1 =>
    cases ry with
    | @tup b ws _ h2 r2 =>
      refine ⟨_, _, _, _, rfl, rfl, same_t s h1, same_t s h2, sz_of (by rw [r1.length, r2.length]; exact hz), fun e => ?_, fun n e => ?_, fun n m p hp => ?_⟩
      · subst e
        cases r1
        exact q _ B H (Grow.refl s) (.tup h2 r2)
      · subst e
        cases r2
        rw [List.append_nil] at q
        exact q _ B H (Grow.refl s) (.tup h1 r1)
      · have g := Grow.new (o := .tup (us ++ ws)) s hp
        exact q _ _ _ g (.tup (.inl (.inl upd_same)) ((r1.append r2).mono g.bb))
theorem rd_rep {K : PySem.W.Frag} {xs : List PyData} {k : Int} (hk : 0 ≤ k) (hk2 : k ≤ 1000000) (hz : xs.length * k.toNat ≤ 1000000) : RD K rRep (.list xs) (.int k) (.list (List.replicate k.toNat xs).flatten) := fun B H x y Q s rx ry q => by
  cases ry
  cases rx with
  | @lst a us _ h1 r1 =>
    refine ⟨_, k, _, rfl, rfl, s _ _ h1, by omega, by omega, sz_of (by rw [r1.length]; exact hz), fun p hp => ?_⟩
    have g := Grow.new (o := .lst (List.replicate k.toNat us).flatten) s hp
    exact q _ _ _ g (.lst upd_same ((r1.rep _).mono g.bb))
theorem rd_repT {K : PySem.W.Frag} {xs : List PyData} {k : Int} (hk : 2 ≤ k) (hk2 : k ≤ 1000) (hn : xs ≠ []) (hz : xs.length ≤ 1000) : RD K (rRepT K) (.tuple xs) (.int k) (.tuple (List.replicate k.toNat xs).flatten) := fun B H x y Q s rx ry q => by
  cases ry
  cases rx with
  | @tup a us _ h1 r1 =>
    refine ⟨_, k, _, rfl, rfl, same_t s h1, fun e => hn ?_, hk, hk2, by rw [r1.length]; exact hz, fun p hp => ?_⟩
    · subst e
      cases r1
      rfl
    · have g := Grow.new (o := .tup (List.replicate k.toNat us).flatten) s hp
      exact q _ _ _ g (.tup (.inl (.inl upd_same)) ((r1.rep _).mono g.bb))
theorem xe_addI {i j : Int} (ha : XE X δ a (.int i)) (hb : XE X δ b (.int j)) : XE X δ (.BinOp a .Add b pos) (.int (i + j)) := xe_op op_add ha hb (rd_I0 fun _ => .int _)
theorem xe_subI {i j : Int} (ha : XE X δ a (.int i)) (hb : XE X δ b (.int j)) : XE X δ (.BinOp a .Sub b pos) (.int (i - j)) := xe_op op_sub ha hb (rd_I0 fun _ => .int _)
theorem xe_mulI {i j : Int} (ha : XE X δ a (.int i)) (hb : XE X δ b (.int j)) (hc : CMul i j) : XE X δ (.BinOp a .Mult b pos) (.int (i * j)) := xe_op op_mul ha hb (rd_I hc fun _ => .int _)
theorem xe_modI {i j : Int} (ha : XE X δ a (.int i)) (hb : XE X δ b (.int j)) (hc : 0 < j) : XE X δ (.BinOp a .Mod b pos) (.int (i % j)) := xe_op op_mod ha hb (rd_I hc fun _ => .int _)
theorem xe_divI {i j : Int} (ha : XE X δ a (.int i)) (hb : XE X δ b (.int j)) (hc : 0 < j ∧ j < 1073741824) : XE X δ (.BinOp a .FloorDiv b pos) (.int (i / j)) := xe_op op_fdiv ha hb (rd_I hc fun _ => .int _)
theorem xe_powI {i j : Int} (ha : XE X δ a (.int i)) (hb : XE X δ b (.int j)) (hc : CPow i j) : XE X δ (.BinOp a .Pow b pos) (.int (i ^ j.toNat)) := xe_op op_pow ha hb (rd_I hc fun _ => .int _)
theorem xe_shlI {i j : Int} (ha : XE X δ a (.int i)) (hb : XE X δ b (.int j)) (hc : CShl i j) : XE X δ (.BinOp a .LShift b pos) (.int (i * 2 ^ j.toNat)) := xe_op op_shlW ha hb (rd_I hc fun _ => .int _)
theorem xe_shrI {i j : Int} (ha : XE X δ a (.int i)) (hb : XE X δ b (.int j)) (hc : 0 ≤ j) : XE X δ (.BinOp a .RShift b pos) (.int (i / 2 ^ j.toNat)) := xe_op op_shr ha hb (rd_I hc fun _ => .int _)
theorem xe_andI {i j : Int} (ha : XE X δ a (.int i)) (hb : XE X δ b (.int j)) : XE X δ (.BinOp a .BitAnd b pos) (.int (Builtin.bitAnd i j)) := xe_op op_and ha hb (rd_I0 fun _ => .int _)
theorem xe_orI {i j : Int} (ha : XE X δ a (.int i)) (hb : XE X δ b (.int j)) : XE X δ (.BinOp a .BitOr b pos) (.int (Builtin.bitOr i j)) := xe_op op_or ha hb (rd_I0 fun _ => .int _)
theorem xe_cat {xs ys : List PyData} (ha : XE X δ a (.list xs)) (hb : XE X δ b (.list ys)) (hz : xs.length + ys.length ≤ 1000000) : XE X δ (.BinOp a .Add b pos) (.list (xs ++ ys)) := xe_op op_cat ha hb (rd_cat hz)
theorem xe_catT {xs ys : List PyData} (ha : XE X δ a (.tuple xs)) (hb : XE X δ b (.tuple ys)) (hz : xs.length + ys.length ≤ 1000000) : XE X δ (.BinOp a .Add b pos) (.tuple (xs ++ ys)) := xe_op op_catA ha hb (rd_catT hz)
theorem xe_rep {xs : List PyData} {k : Int} (ha : XE X δ a (.list xs)) (hb : XE X δ b (.int k)) (hk : 0 ≤ k) (hk2 : k ≤ 1000000) (hz : xs.length * k.toNat ≤ 1000000) : XE X δ (.BinOp a .Mult b pos) (.list (List.replicate k.toNat xs).flatten) := xe_op op_rep ha hb (rd_rep hk hk2 hz)
theorem xe_neg {i : Int} (ha : XE X δ a (.int i)) : XE X δ (.UnaryOp .USub a pos) (.int (-i)) := xe_un un_neg ha fun B H x Q s rx q => by
  cases rx
  exact ⟨i, rfl, q _ B H (Grow.refl s) (.int _)⟩

/-! ### truth -/
def truD : PyData → Bool
  | .none => false
  | .bool b => b
  | .int i => i != 0
  | .str x => (x.length : Int) != 0
  | .list ds => !ds.isEmpty
  | .tuple ds => !ds.isEmpty
  | .dict ds => !ds.isEmpty
def TruOk : PyData → Prop
  | .str x => x.length ≤ sizeLine
  | .dict _ => False
  | _ => True
theorem tru_of {K : PySem.W.Frag} {B H : Hp} {x : V} (s : Same B H) (r : Rp K B x d) (ok : TruOk d) : TruV K x H (truD d) := by
  cases r with
  | non => rfl
  | bl b => rfl
  | int i => rfl
  | str x => exact ⟨ok, rfl⟩
  | @lst a xs ds h q =>
    refine .inl ⟨xs, .inl (.inl (s _ _ h)), ?_⟩
    cases q <;> rfl
  | @tup a xs ds h q =>
    refine .inr (.inl ⟨xs, same_t s h, ?_⟩)
    cases q <;> rfl
  | dic h => exact ok.elim
theorem xe_not (ha : XE X δ a d1) (ok : TruOk d1 := by trivial) : XE X δ (.UnaryOp .Not a pos) (.bool (!truD d1)) := (pe_notT ha).weak fun σ H Q ⟨B, F, W, q⟩ =>
  ⟨B, F, W, fun x B1 H1 g1 r1 => ⟨_, tru_of g1.bh r1 ok, q _ B1 H1 g1 (.bl _)⟩⟩
theorem xt_tru (ha : XE X δ a d1) (ok : TruOk d1 := by trivial) (he : ∀ whole, isTrue a X.env whole = (do let v ← whole; standAt a.pos; holding [v] (truthy v)) := by intro _; rfl) : XT X δ a (truD d1) := (pt_truth ha he).weak fun σ H Q ⟨B, F, W, q⟩ =>
  ⟨B, F, W, fun x B1 H1 g1 r1 => ⟨_, tru_of g1.bh r1 ok, q B1 H1 g1⟩⟩
theorem xt_not {b : Bool} (ha : XT X δ a b) : XT X δ (.UnaryOp .Not a pos) (!b) := (pt_not ha).weak fun σ H Q ⟨B, F, W, q⟩ => ⟨B, F, W, fun B1 H1 g1 => q B1 H1 g1⟩
theorem xt_eq {b b' : Bool} (h : XT X δ a b) (q : b = b') : XT X δ a b' := by
  rw [← q]
  exact h
theorem XW.xt {b : Bool} (h : XW X δ e b) : XT X δ e b := PW.pt h
theorem xw_and1 {b : Bool} (ha : XT X δ a b) : XW X δ (.BoolOp .And [a] pos) b := pw_and1 ha
theorem xw_or1 {b : Bool} (ha : XT X δ a b) : XW X δ (.BoolOp .Or [a] pos) b := pw_or1 ha
theorem xw_and {k m : Bool} (ha : XT X δ a k) (hb : k = true → XW X δ (.BoolOp .And (b :: rest) pos) m) : XW X δ (.BoolOp .And (a :: b :: rest) pos) (k && m) := by
  cases k with
  | true => exact (pw_and ha (hb rfl)).weak fun σ H Q ⟨B, F, W, q⟩ => ⟨B, F, W, fun B1 H1 g1 => by
      show tBo X.K δ m σ H1 Q
      exact ⟨B1, F, W.grow g1, fun B2 H2 g2 => q B2 H2 (g1.trans g2)⟩⟩
  | false => exact (pw_and ha pw_bot).weak fun σ H Q ⟨B, F, W, q⟩ => ⟨B, F, W, fun B1 H1 g1 => by
      show Q false H1
      exact q B1 H1 g1⟩
theorem xw_or {k m : Bool} (ha : XT X δ a k) (hb : k = false → XW X δ (.BoolOp .Or (b :: rest) pos) m) : XW X δ (.BoolOp .Or (a :: b :: rest) pos) (k || m) := by
  cases k with
  | false => exact (pw_or ha (hb rfl)).weak fun σ H Q ⟨B, F, W, q⟩ => ⟨B, F, W, fun B1 H1 g1 => by
      show tBo X.K δ m σ H1 Q
      exact ⟨B1, F, W.grow g1, fun B2 H2 g2 => q B2 H2 (g1.trans g2)⟩⟩
  | true => exact (pw_or ha pw_bot).weak fun σ H Q ⟨B, F, W, q⟩ => ⟨B, F, W, fun B1 H1 g1 => by
      show Q true H1
      exact q B1 H1 g1⟩
/-! and, or as values (bools) -/
theorem xe_one {op} (h : XE X δ a d) : XE X δ (.BoolOp op [a] pos) d := pe_one h
theorem xe_and {k m : Bool} (ha : XE X δ a (.bool k)) (hb : k = true → XE X δ (.BoolOp .And (b :: rest) pos) (.bool m)) : XE X δ (.BoolOp .And (a :: b :: rest) pos) (.bool (k && m)) := by
  cases k with
  | true => exact (pe_and ha (hb rfl)).weak fun σ H Q ⟨B, F, W, q⟩ => ⟨B, F, W, fun x B1 H1 g1 r1 => by
      cases r1
      exact ⟨true, rfl, B1, F, W.grow g1, fun v B2 H2 g2 r2 => q v B2 H2 (g1.trans g2) r2⟩⟩
  | false => exact (pe_and ha pe_bot).weak fun σ H Q ⟨B, F, W, q⟩ => ⟨B, F, W, fun x B1 H1 g1 r1 => by
      cases r1
      exact ⟨false, rfl, q _ B1 H1 g1 (.bl _)⟩⟩
theorem xe_or {k m : Bool} (ha : XE X δ a (.bool k)) (hb : k = false → XE X δ (.BoolOp .Or (b :: rest) pos) (.bool m)) : XE X δ (.BoolOp .Or (a :: b :: rest) pos) (.bool (k || m)) := by
  cases k with
  | false => exact (pe_or ha (hb rfl)).weak fun σ H Q ⟨B, F, W, q⟩ => ⟨B, F, W, fun x B1 H1 g1 r1 => by
      cases r1
      exact ⟨false, rfl, B1, F, W.grow g1, fun v B2 H2 g2 r2 => q v B2 H2 (g1.trans g2) r2⟩⟩
  | true => exact (pe_or ha pe_bot).weak fun σ H Q ⟨B, F, W, q⟩ => ⟨B, F, W, fun x B1 H1 g1 r1 => by
      cases r1
      exact ⟨true, rfl, q _ B1 H1 g1 (.bl _)⟩⟩
theorem xe_if {k : Bool} (hc : XT X δ c k) (ha : k = true → XE X δ a d) (hb : k = false → XE X δ b d) : XE X δ (.IfExp c a b pos) d := by
  cases k with
  | true => exact (pe_ifExp hc (ha rfl) pe_bot).weak fun σ H Q ⟨B, F, W, q⟩ => ⟨B, F, W, fun B1 H1 g1 => by
      show tD X.K δ d σ H1 Q
      exact ⟨B1, F, W.grow g1, fun v B2 H2 g2 r2 => q v B2 H2 (g1.trans g2) r2⟩⟩
  | false => exact (pe_ifExp hc pe_bot (hb rfl)).weak fun σ H Q ⟨B, F, W, q⟩ => ⟨B, F, W, fun B1 H1 g1 => by
      show tD X.K δ d σ H1 Q
      exact ⟨B1, F, W.grow g1, fun v B2 H2 g2 r2 => q v B2 H2 (g1.trans g2) r2⟩⟩

/-! ### comparisons -/
inductive CmpD : CmpOp → PyData → PyData → Bool → Prop
  | ltI (i j : Int) : CmpD .Lt (.int i) (.int j) (decide (i < j))
  | leI (i j : Int) : CmpD .LtE (.int i) (.int j) (decide (i ≤ j))
  | gtI (i j : Int) : CmpD .Gt (.int i) (.int j) (decide (j < i))
  | geI (i j : Int) : CmpD .GtE (.int i) (.int j) (decide (j ≤ i))
  | eqI (i j : Int) : CmpD .Eq (.int i) (.int j) (decide (i = j))
  | neI (i j : Int) : CmpD .NotEq (.int i) (.int j) (!decide (i = j))
  | eqB (i j : Bool) : CmpD .Eq (.bool i) (.bool j) (i == j)
  | neB (i j : Bool) : CmpD .NotEq (.bool i) (.bool j) (!(i == j))
  | eqS (i j : Str) : CmpD .Eq (.str i) (.str j) (decide (i = j))
  | neS (i j : Str) : CmpD .NotEq (.str i) (.str j) (!decide (i = j))
  | eqD (d e : PyData) (h1 : SeqAt.shaped d = true) (h2 : SeqAt.shaped e = true) : CmpD .Eq d e (PyData.eqv d e)
  | neD (d e : PyData) (h1 : SeqAt.shaped d = true) (h2 : SeqAt.shaped e = true) : CmpD .NotEq d e (!PyData.eqv d e)
  | inD (d : PyData) (es : List PyData) (h1 : SeqAt.shaped d = true) (h2 : SeqAt.shaped (.list es) = true) : CmpD .In d (.list es) (es.any fun z => PyData.eqv z d)
  | notInD (d : PyData) (es : List PyData) (h1 : SeqAt.shaped d = true) (h2 : SeqAt.shaped (.list es) = true) : CmpD .NotIn d (.list es) (!es.any fun z => PyData.eqv z d)
  | isN (d : PyData) (b : Bool) (h : b = (match d with | .none => true | _ => false)) : CmpD .Is d .none b
  | notN (d : PyData) (b : Bool) (h : b = (match d with | .none => false | _ => true)) : CmpD .IsNot d .none b
def rCmp (K : PySem.W.Frag) (op : CmpOp) : R2 := fun x y H Q => ∃ B d e b, Same B H ∧ Rp K B x d ∧ Rp K B y e ∧ CmpD op d e b ∧ Q (.bl b) H
theorem lay_sh {d : PyData} (h : SeqAt.shaped d = true) : PyData.canLay0 d = true := by
  unfold SeqAt.shaped at h
  exact (Bool.and_eq_true_iff.mp h).1
theorem or_cmp (hu : X.A.units + 65 < cLine) (op : CmpOp) : OpR X (compareOp op) (rCmp X.K op) := by
  intro pins s σ H x y v u Q I rx ry h
  obtain ⟨B, d, e, b, sm, rd, re, c, q⟩ := h
  have hu' : X.A.units + 64 < cLine := by omega
  cases c with
  | ltI i j => cases rd; cases re; exact op_lt pins s σ H _ _ v u Q I rx ry ⟨i, j, rfl, rfl, q⟩
  | leI i j => cases rd; cases re; exact op_le pins s σ H _ _ v u Q I rx ry ⟨i, j, rfl, rfl, q⟩
  | gtI i j => cases rd; cases re; exact op_gt pins s σ H _ _ v u Q I rx ry ⟨i, j, rfl, rfl, q⟩
  | geI i j => cases rd; cases re; exact op_ge pins s σ H _ _ v u Q I rx ry ⟨i, j, rfl, rfl, q⟩
  | eqI i j => cases rd; cases re; exact op_eq pins s σ H _ _ v u Q I rx ry ⟨rfl, by simpa using q⟩
  | neI i j => cases rd; cases re; exact op_ne pins s σ H _ _ v u Q I rx ry ⟨rfl, by simpa using q⟩
  | eqB i j => cases rd; cases re; exact op_eq pins s σ H _ _ v u Q I rx ry ⟨rfl, by rw [dec_bl]; exact q⟩
  | neB i j => cases rd; cases re; exact op_ne pins s σ H _ _ v u Q I rx ry ⟨rfl, by rw [dec_bl]; exact q⟩
  | eqS i j => cases rd; cases re; exact op_eq pins s σ H _ _ v u Q I rx ry ⟨rfl, by simpa using q⟩
  | neS i j => cases rd; cases re; exact op_ne pins s σ H _ _ v u Q I rx ry ⟨rfl, by simpa using q⟩
  | eqD d e h1 h2 => exact op_eqD hu' pins s σ H _ _ v u Q I rx ry ⟨d, e, (rd.mono sm).dp (lay_sh h1), (re.mono sm).dp (lay_sh h2), h1, h2, q⟩
  | neD d e h1 h2 => exact op_neD hu' pins s σ H _ _ v u Q I rx ry ⟨d, e, (rd.mono sm).dp (lay_sh h1), (re.mono sm).dp (lay_sh h2), h1, h2, q⟩
  | inD d es h1 h2 => exact op_inD hu pins s σ H _ _ v u Q I rx ry ⟨d, es, (rd.mono sm).dp (lay_sh h1), (re.mono sm).dp (lay_sh h2), h1, h2, q⟩
  | notInD d es h1 h2 => exact op_notInD hu pins s σ H _ _ v u Q I rx ry ⟨d, es, (rd.mono sm).dp (lay_sh h1), (re.mono sm).dp (lay_sh h2), h1, h2, q⟩
  | isN d b h =>
    cases re
    refine op_isN pins s σ H _ _ v u Q I rx ry ⟨rfl, ?_⟩
    have e : decide (x = V.non) = b := by rw [h]; cases rd <;> simp
    rw [e]
    exact q
  | notN d b h =>
    cases re
    refine op_notN pins s σ H _ _ v u Q I rx ry ⟨rfl, ?_⟩
    have e : (!decide (x = V.non)) = b := by rw [h]; cases rd <;> simp
    rw [e]
    exact q
theorem xe_cmp {op : CmpOp} {k : Bool} (hu : X.A.units + 65 < cLine) (ha : XE X δ a d1) (hb : XE X δ b d2) (hc : CmpD op d1 d2 k) (hm : behindInMarks op b = false := by first | exact nomark _ | rfl) : XE X δ (.Compare a [op] [b] pos) (.bool k) :=
  (pe_cmpR (or_cmp hu op) ha hb hm).weak (op_weak ha hb fun B H x y Q s rx ry q => ⟨B, d1, d2, k, s, rx, ry, hc, q _ B H (Grow.refl s) (.bl k)⟩)
theorem xt_cmp {op : CmpOp} {k : Bool} (hu : X.A.units + 65 < cLine) (ha : XE X δ a d1) (hb : XE X δ b d2) (hc : CmpD op d1 d2 k) (hm : behindInMarks op b = false := by first | exact nomark _ | rfl) : XT X δ (.Compare a [op] [b] pos) k :=
  (pt_cmpR (or_cmp hu op) ha hb hm).weak fun σ H Q ⟨B, F, W, q⟩ => ⟨B, F, W, fun x B1 H1 g1 r1 => ⟨B1, F, W.grow g1, fun y B2 H2 g2 r2 =>
    ⟨B2, d1, d2, k, g2.bh, r1.mono g2.bb, r2, hc, k, rfl, q B2 H2 (g1.trans g2)⟩⟩⟩
/-- a op b op' c -/
theorem xe_chain {op op' : CmpOp} {k m : Bool} (hu : X.A.units + 65 < cLine) (ha : XE X δ a d1) (hb : XE X δ b d2) (hc : XE X δ c d3) (h1 : CmpD op d1 d2 k) (h2 : k = true → CmpD op' d2 d3 m) (hm : lastMarks [op, op'] [b, c] = false := by with_unfolding_all rfl) :
    XE X δ (.Compare a [op, op'] [b, c] pos) (.bool (k && m)) :=
  (pe_chain (or_cmp hu op) (or_cmp hu op') ha hb hc hm).weak fun σ H Q ⟨B, F, W, q⟩ => ⟨B, F, W, fun x B1 H1 g1 r1 => ⟨B1, F, W.grow g1, fun y B2 H2 g2 r2 =>
    ⟨B2, d1, d2, k, g2.bh, r1.mono g2.bb, r2, h1, k, rfl, by
      cases k with
      | false => exact q _ B2 H2 (g1.trans g2) (.bl _)
      | true => exact ⟨B2, F, (W.grow g1).grow g2, fun z B3 H3 g3 r3 => ⟨B3, d2, d3, m, g3.bh, r2.mono g3.bb, r3, h2 rfl, q _ B3 H3 ((g1.trans g2).trans g3) (.bl _)⟩⟩⟩⟩⟩
theorem xt_chain {op op' : CmpOp} {k m : Bool} (hu : X.A.units + 65 < cLine) (ha : XE X δ a d1) (hb : XE X δ b d2) (hc : XE X δ c d3) (h1 : CmpD op d1 d2 k) (h2 : k = true → CmpD op' d2 d3 m) (hm : lastMarks [op, op'] [b, c] = false := by with_unfolding_all rfl) :
    XT X δ (.Compare a [op, op'] [b, c] pos) (k && m) :=
  (pt_chain (or_cmp hu op) (or_cmp hu op') ha hb hc hm).weak fun σ H Q ⟨B, F, W, q⟩ => ⟨B, F, W, fun x B1 H1 g1 r1 => ⟨B1, F, W.grow g1, fun y B2 H2 g2 r2 =>
    ⟨B2, d1, d2, k, g2.bh, r1.mono g2.bb, r2, h1, k, rfl, by
      cases k with
      | false => exact ⟨false, rfl, q B2 H2 (g1.trans g2)⟩
      | true => exact ⟨B2, F, (W.grow g1).grow g2, fun z B3 H3 g3 r3 => ⟨B3, d2, d3, m, g3.bh, r2.mono g3.bb, r3, h2 rfl, m, rfl, q B3 H3 ((g1.trans g2).trans g3)⟩⟩⟩⟩⟩

/-! ### items, slices, displays -/
inductive IxD : PyData → Int → PyData → Prop
  | lst {ds : List PyData} {i : Int} {d : PyData} (h : atI ds i = some d) : IxD (.list ds) i d
  | tup {ds : List PyData} {i : Int} {d : PyData} (h : atI ds i = some d) : IxD (.tuple ds) i d
  | str {z : Str} {i : Int} {c : Nat} (hz : z.length ≤ sizeLine) (h : atI z.cps.toList i = some c) : IxD (.str z) i (.str ⟨#[c]⟩)
theorem atI_rp {K : PySem.W.Frag} {H : Hp} {vs : List V} {ds : List PyData} {i : Int} (r : RpA K H vs ds) (h : atI ds i = some d) : ∃ v, atI vs i = some v ∧ Rp K H v d := by
  unfold atI at h ⊢
  rw [r.length]
  cases e : ixN ds.length i with
  | none =>
    rw [e] at h
    simp at h
  | some j =>
    rw [e] at h
    simp only [Option.bind_some] at h ⊢
    exact r.getD h
theorem rd_ix {K : PySem.W.Frag} {i : Int} (h : IxD d1 i d) : RD K (rIx K) d1 (.int i) d := fun B H x y Q s rx ry q => by
  cases ry
  cases h with
  | lst h =>
    cases rx with
    | @lst a xs _ h1 r1 =>
      obtain ⟨v, e, r⟩ := atI_rp r1 h
      exact .inl ⟨a, xs, i, v, rfl, rfl, SqL.of (s _ _ h1), e, q v B H (Grow.refl s) r⟩
  | tup h =>
    cases rx with
    | @tup a xs _ h1 r1 =>
      obtain ⟨v, e, r⟩ := atI_rp r1 h
      exact .inr (.inl ⟨a, xs, i, v, rfl, rfl, same_t s h1, e, q v B H (Grow.refl s) r⟩)
  | @str z _ c hz h =>
    cases rx
    exact .inr (.inr ⟨z, i, c, rfl, rfl, hz, h, q _ B H (Grow.refl s) (.str _)⟩)
theorem xe_ix {i : Int} (ha : XE X δ a d1) (hb : XE X δ b (.int i)) (h : IxD d1 i d) (hs : PlainIx b := by exact fun _ _ => rfl) : XE X δ (.Subscript a b pos) d := (pe_ix ix_seq ha hb hs).weak (op_weak ha hb (rd_ix h))
theorem xo_none : XO X δ none none := po_none.weak fun σ H Q ⟨B, F, W, q⟩ => q B H (Grow.refl W.bh)
theorem xo_some {i : Int} (h : XE X δ e (.int i)) : XO X δ (some e) (some i) := (po_some h).weak fun σ H Q ⟨B, F, W, q⟩ => ⟨B, F, W, fun x B1 H1 g1 r1 => by
  cases r1
  exact ⟨i, rfl, q B1 H1 g1⟩⟩
def cutD {α : Type} (xs : List α) (lo hi : Option Int) : List α := (xs.drop (HT.sIx xs.length 0 lo)).take (HT.sIx xs.length xs.length hi - HT.sIx xs.length 0 lo)
inductive SlD : PyData → Option Int → Option Int → PyData → Prop
  | lst (ds : List PyData) (lo hi : Option Int) : SlD (.list ds) lo hi (.list (cutD ds lo hi))
  | tup (ds : List PyData) (lo hi : Option Int) : SlD (.tuple ds) lo hi (.tuple (cutD ds lo hi))
  | str (z : Str) (lo hi : Option Int) (hz : z.length ≤ sizeLine) : SlD (.str z) lo hi (.str (cutS z lo hi))
theorem RpA.cut {K : PySem.W.Frag} {H : Hp} {vs : List V} {ds : List PyData} (r : RpA K H vs ds) (lo hi : Option Int) : RpA K H (cutV vs lo hi) (cutD ds lo hi) := by
  unfold cutV cutD
  rw [r.length]
  exact (r.drop _).take _
theorem cut_whole {α : Type} {xs : List α} {lo hi : Option Int} (h : HT.sIx xs.length 0 lo = 0 ∧ HT.sIx xs.length xs.length hi = xs.length) : cutD xs lo hi = xs := by
  unfold cutD
  rw [h.1, h.2]
  simp
theorem or_sl : SlR X (fun x lo hi H Q => (rSlL X.K x lo hi H Q ∨ rSlA X.K x lo hi H Q) ∨ rSlS x lo hi H Q) := (sl_list.or sl_tupA).or sl_str
theorem xe_sl {lo hi : Option Expr} {i j : Option Int} {p2 : Pos} (ha : XE X δ a d1) (hl : XO X δ lo i) (hh : XO X δ hi j) (h : SlD d1 i j d) : XE X δ (.Subscript a (.Slice lo hi none p2) pos) d := (pe_slice or_sl ha hl hh).weak fun σ H Q ⟨B, F, W, q⟩ =>
  ⟨B, F, W, fun x B1 H1 g1 r1 => ⟨B1, F, W.grow g1, fun B2 H2 g2 => ⟨B2, F, (W.grow g1).grow g2, fun B3 H3 g3 => by
    have g := (g1.trans g2).trans g3
    have r := r1.mono (g2.trans g3).bb
    cases h with
    | lst ds =>
      cases r with
      | @lst p xs _ h1 r1 =>
        refine .inl (.inl ⟨p, xs, rfl, SqL.of (g3.bh _ _ h1), fun l hl => ?_⟩)
        have g4 := Grow.new (o := .lst (cutV xs i j)) g3.bh hl
        exact q _ _ _ (g.trans g4) (.lst upd_same ((r1.cut i j).mono g4.bb))
    | tup ds =>
      cases r with
      | @tup p xs _ h1 r1 =>
        refine .inl (.inr ⟨p, xs, rfl, same_t g3.bh h1, fun w => ?_, fun w l hl => ?_⟩)
        · rw [r1.length] at w
          rw [cut_whole w] at q
          exact q _ _ _ g (.tup h1 r1)
        · have g4 := Grow.new (o := .tup (cutV xs i j)) g3.bh hl
          exact q _ _ _ (g.trans g4) (.tup (.inl (.inl upd_same)) ((r1.cut i j).mono g4.bb))
    | str z _ _ hz =>
      cases r
      exact .inr ⟨z, rfl, hz, q _ _ _ g (.str _)⟩⟩⟩⟩
theorem xa_nil : XA X δ [] [] := pa_nil.weak fun σ H Q ⟨B, F, W, q⟩ => q [] B H (Grow.refl W.bh) .nil
theorem xa_cons (ha : XE X δ e d) (hr : XA X δ es ds) (hs : starEach (e :: es) X.env = (false, eval e X.env) :: starEach es X.env := by rfl) : XA X δ (e :: es) (d :: ds) := (pa_cons ha hr hs).weak fun σ H Q ⟨B, F, W, q⟩ =>
  ⟨B, F, W, fun x B1 H1 g1 r1 => ⟨B1, F, W.grow g1, fun vs B2 H2 g2 r2 => q _ B2 H2 (g1.trans g2) (.cons (r1.mono g2.bb) r2)⟩⟩
theorem xe_tup {x1} (h : XA X δ es ds) (hz : ds.length ≤ 1000000 := by exact Nat.le_of_ble_eq_true rfl) : XE X δ (.Tuple es x1 pos) (.tuple ds) := (pe_tup h).weak fun σ H Q ⟨B, F, W, q⟩ =>
  ⟨B, F, W, fun vs B1 H1 g1 r1 => ⟨sz_of (by rw [r1.length]; exact hz), fun p hp => by
    have g2 := Grow.new (o := .tup vs) g1.bh hp
    exact q _ _ _ (g1.trans g2) (.tup (.inl (.inl upd_same)) (r1.mono g2.bb))⟩⟩
theorem xn_lst (h : XA X δ es ds) (hz : ds.length ≤ 1000000 := by exact Nat.le_of_ble_eq_true rfl) : XN X δ (.List es pos) ds := (pe_lst h).weak fun σ H Q ⟨B, F, W, q⟩ =>
  ⟨B, F, W, fun vs B1 H1 g1 r1 => ⟨sz_of (by rw [r1.length]; exact hz), fun p hp => by
    have g2 := Grow.newH (o := .lst vs) g1.bh hp
    have hp0 : H p = none := g1.hh.free hp
    have hb : B1 p = none := g1.bh.free hp
    exact q _ _ _ _ (g1.trans g2) hp0 hb upd_same r1⟩⟩
theorem grow_froz {B H B2 H2 : Hp} {p : Addr} {xs : List V} (g : Grow B H B2 H2) (hp : H p = none) (hb : B2 p = none) (h : H2 p = some (.lst xs)) : Grow B H (upd B2 p (.lst xs)) H2 :=
  ⟨g.bb.trans (same_upd hb), fun b o e => by
    by_cases hh : b = p
    · subst hh
      rw [upd_same] at e
      cases e
      exact h
    · rw [upd_ne hh] at e
      exact g.bh b o e, g.hh, fun b o e => by
    rw [upd_ne (ne_of_none e hp)]
    exact g.fr b o e⟩
theorem xe_new (h : XN X δ e ds) : XE X δ e (.list ds) := L2.PE.weak h fun σ H Q ⟨B, F, W, q⟩ => ⟨B, F, W, fun p xs B2 H2 g hp hb h2 r => by
  have g2 := grow_froz g hp hb h2
  exact q _ _ _ g2 (.lst upd_same (r.mono (same_upd hb)))⟩
theorem xe_lst (h : XA X δ es ds) (hz : ds.length ≤ 1000000 := by exact Nat.le_of_ble_eq_true rfl) : XE X δ (.List es pos) (.list ds) := xe_new (xn_lst h hz)
end
end Dl

set_option Elab.async false
set_option linter.all false
set_option maxRecDepth 100000
set_option maxHeartbeats 4000000
/-! The data level: what is walked, comprehensions, statements, the promises of defs. -/
namespace Dl
open PySem PySem.Spec PyProof.Rows L2

/-! ### several readings at once -/
section
variable {X : Cx} {ι : Sort _}
theorem pe_ex {e : Expr} {t : ι → TE} (h : ∀ i, PE X e (t i)) : PE X e (fun σ H Q => ∃ i, t i σ H Q) := ⟨fun pins s σ H Q I ⟨i, q⟩ => (h i).run pins s σ H Q I q⟩
theorem pt_ex {e : Expr} {t : ι → TT} (h : ∀ i, PT X e (t i)) : PT X e (fun σ H Q => ∃ i, t i σ H Q) := ⟨fun pins s σ H Q I ⟨i, q⟩ => (h i).run pins s σ H Q I q⟩
theorem pts_ex {e : List Expr} {t : ι → TT} (h : ∀ i, PTs X e (t i)) : PTs X e (fun σ H Q => ∃ i, t i σ H Q) := ⟨fun pins s σ H Q I ⟨i, q⟩ => (h i).run pins s σ H Q I q⟩
theorem pa_ex {e : List Expr} {t : ι → TA} (h : ∀ i, PA X e (t i)) : PA X e (fun σ H Q => ∃ i, t i σ H Q) := ⟨fun p pins s σ H Q I ⟨i, q⟩ => (h i).run p pins s σ H Q I q⟩
theorem ps_ex {e : Stmt} {t : ι → TS} (h : ∀ i, PS X e (t i)) : PS X e (fun D σ H => ∃ i, t i D σ H) := ⟨fun pins s σ H D I ⟨i, q⟩ => (h i).run pins s σ H D I q⟩
theorem pss_ex {e : List Stmt} {t : ι → TS} (h : ∀ i, PSs X e (t i)) : PSs X e (fun D σ H => ∃ i, t i D σ H) := ⟨fun pins s σ H D I ⟨i, q⟩ => (h i).run pins s σ H D I q⟩
theorem pg_ex {e : Expr} {t : ι → TG} (h : ∀ i, PG X e (t i)) : PG X e (fun v σ H Q => ∃ i, t i v σ H Q) := ⟨fun pins s σ H v u Q I r ⟨i, q⟩ => (h i).run pins s σ H v u Q I r q⟩
end

/-! ### the frame's slots, forgotten in part -/
section
variable {K : PySem.W.Frag} {B H B2 H2 : Hp} {σ : L2.St} {δ : List Slot} {F : Nat → List Addr}
theorem Wf.wk (W : Wf K B H σ δ F) {σ2 : L2.St} {δ2 : List Slot} {F2 : Nat → List Addr} (hl : δ2.length = σ2.length) (hl2 : δ2.length = δ.length)
    (h : ∀ i s, δ2[i]? = some s → (F2 i = [] ∧ s = .no) ∨ (F2 i = F i ∧ δ[i]? = some s ∧ σ2[i]? = σ[i]?)) (ho : ∀ i, δ2.length ≤ i → F2 i = []) : Wf K B H σ2 δ2 F2 where
  bh := W.bh
  len := hl
  sl := fun i s e => by
    have hi : i < δ2.length := (List.getElem?_eq_some_iff.mp e).1
    rcases h i s e with ⟨h1, h2⟩ | ⟨h1, h2, h3⟩
    · subst h2
      refine ⟨σ2[i]'(by omega), List.getElem?_eq_getElem (by omega), ?_⟩
      show SlotOk K B H _ .no (F2 i)
      cases σ2[i]'(by omega) <;> exact h1
    · obtain ⟨o, a, b⟩ := W.sl i s h2
      exact ⟨o, h3.trans a, by rw [h1]; exact b⟩
  out := ho
  dis := fun i j a h1 h2 => by
    have key : ∀ k, a ∈ F2 k → a ∈ F k := fun k hk => by
      by_cases hlt : k < δ2.length
      · rcases h k _ (List.getElem?_eq_getElem hlt) with ⟨z, _⟩ | ⟨z, _⟩
        · rw [z] at hk; cases hk
        · rw [z] at hk; exact hk
      · rw [ho k (by omega)] at hk
        cases hk
    exact W.dis i j a (key i h1) (key j h2)
  own := fun i a ha => by
    have key : a ∈ F i := by
      by_cases hlt : i < δ2.length
      · rcases h i _ (List.getElem?_eq_getElem hlt) with ⟨z, _⟩ | ⟨z, _⟩
        · rw [z] at ha; cases ha
        · rw [z] at ha; exact ha
      · rw [ho i (by omega)] at ha
        cases ha
    exact W.own i a key
end
def wipeD (δ : List Slot) : List Nat → List Slot
  | [] => δ
  | v :: vs => (wipeD δ vs).set v .no
theorem wipeD_length (δ : List Slot) : ∀ vs : List Nat, (wipeD δ vs).length = δ.length
  | [] => rfl
  | v :: vs => by unfold wipeD; rw [List.length_set, wipeD_length δ vs]
def wipeF (F : Nat → List Addr) : List Nat → Nat → List Addr
  | [] => F
  | v :: vs => fun j => if j = v then [] else wipeF F vs j
theorem wipeF_sub {F : Nat → List Addr} : ∀ (vs : List Nat) (i : Nat), ∀ b ∈ wipeF F vs i, ∃ j, b ∈ F j
  | [], i, b, h => ⟨i, h⟩
  | v :: vs, i, b, h => by
    unfold wipeF at h
    by_cases e : i = v
    · rw [if_pos e] at h
      cases h
    · rw [if_neg e] at h
      exact wipeF_sub vs i b h
theorem Wf.no {K : PySem.W.Frag} {B H : Hp} {σ : L2.St} {δ : List Slot} {F : Nat → List Addr} (W : Wf K B H σ δ F) (i : Nat) (o : Option V) : Wf K B H (σ.set i o) (δ.set i .no) (fun j => if j = i then [] else F j) := by
  refine W.wk (by rw [List.length_set, List.length_set]; exact W.len) (List.length_set ..) (fun j s e => ?_) (fun j hj => ?_)
  · by_cases h : j = i
    · subst h
      have hlt : j < δ.length := by
        have := (List.getElem?_eq_some_iff.mp e).1
        rw [List.length_set] at this
        exact this
      rw [List.getElem?_set_self hlt] at e
      cases e
      exact .inl ⟨if_pos rfl, rfl⟩
    · rw [List.getElem?_set_ne (Ne.symm h)] at e
      exact .inr ⟨if_neg h, e, List.getElem?_set_ne (Ne.symm h)⟩
  · rw [List.length_set] at hj
    by_cases h : j = i
    · rw [if_pos h]
    · rw [if_neg h]
      exact W.out j hj
theorem Wf.wipe {K : PySem.W.Frag} {B H : Hp} {σ : L2.St} {δ : List Slot} {F : Nat → List Addr} (W : Wf K B H σ δ F) : ∀ vs : List Nat, Wf K B H (wipe σ vs) (wipeD δ vs) (wipeF F vs)
  | [] => W
  | v :: vs => (W.wipe vs).no v none

/-! ### what is walked -/
structure Wk (K : PySem.W.Frag) (J : It) (B : Hp) (ds : List PyData) : Prop where
  go : ∀ i H, Same B H → i < ds.length → J.go i H
  yld : ∀ i B1 H x H2, Same B B1 → Same B1 H → J.yld i H x H2 → ∀ d, ds[i]? = some d → ∃ B2, Grow B1 H B2 H2 ∧ Rp K B2 x d
  stop : ∀ H, Same B H → J.stop ds.length H
def tI (K : PySem.W.Frag) (δ : List Slot) (ds : List PyData) : TI := fun σ H R => ∃ B F, Wf K B H σ δ F ∧ ∀ J B2 H2, Grow B H B2 H2 → Wk K J B2 ds → R J H2
abbrev XI (X : Cx) (tg : Expr) (δ : List Slot) (iter : Expr) (ds : List PyData) : Prop := PI X tg iter (tI X.K δ ds)
theorem _root_.L2.PI.weak {X : Cx} {tg iter : Expr} {t t' : TI} (h : PI X tg iter t) (w : ∀ σ H Q, t' σ H Q → t σ H Q) : PI X tg iter t' := ⟨fun pins s σ H Q I q => h.run pins s σ H Q I (w σ H Q q)⟩
section
variable {X : Cx} {δ : List Slot} {a b c e tg iter : Expr} {pos p : Pos} {ds ds2 : List PyData} {es : List Expr} {d : PyData}
theorem wk_list {K : PySem.W.Frag} {B : Hp} {a : Addr} {xs : List V} (h : B a = some (.lst xs)) (r : RpA K B xs ds) : Wk K (Itl K a) B ds where
  go := fun i H s hi => by
    have hx : i < xs.length := by rw [r.length]; exact hi
    exact ⟨xs, xs[i], SqL.of (s _ _ h), List.getElem?_eq_getElem hx⟩
  yld := fun i B1 H x H2 s1 s2 hy d hd => by
    obtain ⟨rfl, hv⟩ := hy
    have e := hv xs (SqL.of (s2 _ _ (s1 _ _ h)))
    obtain ⟨d', h1, h2⟩ := r.get e
    rw [hd] at h1
    cases h1
    exact ⟨B1, Grow.refl s2, h2.mono s1⟩
  stop := fun H s => ⟨xs, SqL.of (s _ _ h), by rw [r.length]; exact Nat.le_refl _⟩
theorem wk_tup {K : PySem.W.Frag} {B : Hp} {a : Addr} {xs : List V} (h : SqT K B a xs) (r : RpA K B xs ds) : Wk K (Itt K a) B ds where
  go := fun i H s hi => by
    have hx : i < xs.length := by rw [r.length]; exact hi
    exact ⟨xs, xs[i], same_t s h, List.getElem?_eq_getElem hx⟩
  yld := fun i B1 H x H2 s1 s2 hy d hd => by
    obtain ⟨rfl, hv⟩ := hy
    have e := hv xs (same_t s2 (same_t s1 h))
    obtain ⟨d', h1, h2⟩ := r.get e
    rw [hd] at h1
    cases h1
    exact ⟨B1, Grow.refl s2, h2.mono s1⟩
  stop := fun H s => ⟨xs, same_t s h, by rw [r.length]; exact Nat.le_refl _⟩
theorem xi_list (h : XE X δ iter (.list ds)) : XI X tg δ iter ds := (pi_list h).weak fun σ H R ⟨B, F, W, q⟩ => ⟨B, F, W, fun v B2 H2 g r => by
  cases r with
  | @lst a xs _ h1 r1 => exact ⟨a, rfl, ⟨xs, SqL.of (g.bh _ _ h1)⟩, q _ B2 H2 g (wk_list h1 r1)⟩⟩
theorem xi_tup (h : XE X δ iter (.tuple ds)) : XI X tg δ iter ds := (pi_tup h).weak fun σ H R ⟨B, F, W, q⟩ => ⟨B, F, W, fun v B2 H2 g r => by
  cases r with
  | @tup a xs _ h1 r1 => exact ⟨a, rfl, ⟨xs, same_t g.bh h1⟩, q _ B2 H2 g (wk_tup h1 r1)⟩⟩
abbrev rangeD (lo : Int) (n : Nat) : List PyData := (List.range n).map fun i => PyData.int (lo + (i : Nat))
theorem rangeD_length (lo : Int) (n : Nat) : (rangeD lo n).length = n := by unfold rangeD; rw [List.length_map, List.length_range]
theorem rangeD_get {lo : Int} {n i : Nat} {d : PyData} (h : (rangeD lo n)[i]? = some d) : i < n ∧ d = .int (lo + (i : Nat)) := by
  have hi : i < n := by
    have := (List.getElem?_eq_some_iff.mp h).1
    rw [rangeD_length] at this
    exact this
  refine ⟨hi, ?_⟩
  unfold rangeD at h
  rw [List.getElem?_map, List.getElem?_range hi] at h
  exact (Option.some.inj h).symm
theorem wk_rng {K : PySem.W.Frag} {B : Hp} {lo : Int} {n : Nat} : Wk K (Itr lo n) B (rangeD lo n) where
  go := fun i H s hi => by rw [rangeD_length] at hi; exact hi
  yld := fun i B1 H x H2 s1 s2 hy d hd => by
    obtain ⟨rfl, rfl⟩ := hy
    obtain ⟨_, rfl⟩ := rangeD_get hd
    exact ⟨B1, Grow.refl s2, .int _⟩
  stop := fun H s => by
    show n ≤ (rangeD lo n).length
    rw [rangeD_length]
    exact Nat.le_refl _
theorem xi_rng1 {j : Int} (hm : X.mg "range" = none) (h : XE X δ a (.int j)) (hj : -(2 ^ 62) ≤ j ∧ j < 2 ^ 62) (hg : Gl X "range" := by rfl) (hs : starEach [a] X.env = [(false, eval a X.env)] := by rfl) : XI X tg δ (.Call (.Name "range" p) [a] [] pos) (rangeD 0 j.toNat) :=
  (pi_range1 hg hm (xa_cons h xa_nil hs) hs).weak fun σ H R ⟨B, F, W, q⟩ => ⟨B, F, W, fun vs B2 H2 g r => by
    cases r with
    | cons r1 r2 =>
      cases r2
      cases r1
      exact ⟨j, rfl, hj.1, hj.2, q _ B2 H2 g wk_rng⟩⟩
theorem xi_rng2 {i j : Int} (hm : X.mg "range" = none) (ha : XE X δ a (.int i)) (hb : XE X δ b (.int j)) (hi : -(2 ^ 62) ≤ i ∧ i < 2 ^ 62) (hj : -(2 ^ 62) ≤ j ∧ j < 2 ^ 62) (hg : Gl X "range" := by rfl)
    (hs : starEach [a, b] X.env = [(false, eval a X.env), (false, eval b X.env)] := by rfl) (hs2 : starEach [b] X.env = [(false, eval b X.env)] := by rfl) (hs3 : starEach [a, b] X.env = (false, eval a X.env) :: starEach [b] X.env := by rfl) : XI X tg δ (.Call (.Name "range" p) [a, b] [] pos) (rangeD i (j - i).toNat) :=
  (pi_range2 hg hm (xa_cons ha (xa_cons hb xa_nil hs2) hs3) hs hs2).weak fun σ H R ⟨B, F, W, q⟩ => ⟨B, F, W, fun vs B2 H2 g r => by
    cases r with
    | cons r1 r2 =>
      cases r2 with
      | cons r3 r4 =>
        cases r4
        cases r1
        cases r3
        exact ⟨i, j, rfl, ⟨hi.1, hi.2, hj.1, hj.2⟩, q _ B2 H2 g wk_rng⟩⟩
def enumD (ds : List PyData) : List PyData := ds.zipIdx.map fun p => .tuple [.int (p.2 : Nat), p.1]
theorem enumD_length (ds : List PyData) : (enumD ds).length = ds.length := by unfold enumD; rw [List.length_map, List.length_zipIdx]
theorem enumD_get {ds : List PyData} {i : Nat} {d : PyData} (h : (enumD ds)[i]? = some d) : ∃ z, ds[i]? = some z ∧ d = .tuple [.int (i : Nat), z] := by
  unfold enumD at h
  rw [List.getElem?_map, List.getElem?_zipIdx] at h
  cases e : ds[i]? with
  | none => rw [e] at h; simp at h
  | some z =>
    rw [e] at h
    simp only [Option.map_some, Nat.zero_add, Option.some.injEq] at h
    exact ⟨z, rfl, h.symm⟩
theorem wk_enum {K : PySem.W.Frag} {B : Hp} {a : Addr} {xs : List V} (h : B a = some (.lst xs)) (r : RpA K B xs ds) : Wk K (Ite K a) B (enumD ds) where
  go := fun i H s hi => by
    rw [enumD_length] at hi
    have hx : i < xs.length := by rw [r.length]; exact hi
    exact ⟨xs, xs[i], SqL.of (s _ _ h), List.getElem?_eq_getElem hx⟩
  yld := fun i B1 H x H2 s1 s2 hy d hd => by
    obtain ⟨T, y, rfl, hT, rfl, hv⟩ := hy
    have e := hv xs (SqL.of (s2 _ _ (s1 _ _ h)))
    obtain ⟨d', h1, h2⟩ := r.get e
    obtain ⟨z, h3, rfl⟩ := enumD_get hd
    rw [h3] at h1
    cases h1
    have g := Grow.new (o := .tup [.int (i : Nat), y]) s2 hT
    exact ⟨_, g, .tup (.inl (.inl upd_same)) (.cons (.int _) (.cons ((h2.mono s1).mono g.bb) .nil))⟩
  stop := fun H s => ⟨xs, SqL.of (s _ _ h), by rw [enumD_length, r.length]; exact Nat.le_refl _⟩
theorem xi_enum {elts : List Expr} {kk : Nat} {tpos : Pos} (hm : X.mg "enumerate" = none) (h : XE X δ a (.list ds)) (hg : Gl X "enumerate" := by rfl) (hs : starEach [a] X.env = [(false, eval a X.env)] := by rfl) :
    XI X (.Tuple elts kk tpos) δ (.Call (.Name "enumerate" p) [a] [] pos) (enumD ds) :=
  (pi_enum hg hm (xa_cons h xa_nil hs) hs).weak fun σ H R ⟨B, F, W, q⟩ => ⟨B, F, W, fun vs B2 H2 g r => by
    cases r with
    | cons r1 r2 =>
      cases r2
      cases r1 with
      | @lst a xs _ h1 r1 => exact ⟨a, xs, rfl, SqL.of (g.bh _ _ h1), q _ B2 H2 g (wk_enum h1 r1)⟩⟩
def zipD (ds es : List PyData) : List PyData := (ds.zip es).map fun p => .tuple [p.1, p.2]
theorem zipD_get {ds es : List PyData} {i : Nat} {d : PyData} (h : (zipD ds es)[i]? = some d) : ∃ y z, ds[i]? = some y ∧ es[i]? = some z ∧ d = .tuple [y, z] := by
  unfold zipD at h
  rw [List.getElem?_map] at h
  cases e : (ds.zip es)[i]? with
  | none => rw [e] at h; simp at h
  | some z =>
    rw [e] at h
    simp only [Option.map_some, Option.some.injEq] at h
    rw [List.getElem?_zip_eq_some] at e
    exact ⟨z.1, z.2, e.1, e.2, h.symm⟩
theorem zipD_length (ds es : List PyData) : (zipD ds es).length = min ds.length es.length := by unfold zipD; rw [List.length_map, List.length_zip]
theorem wk_zip {K : PySem.W.Frag} {B : Hp} {a b : Addr} {xs ys : List V} (h : B a = some (.lst xs)) (r : RpA K B xs ds) (h' : B b = some (.lst ys)) (r' : RpA K B ys ds2) : Wk K (Itz K a b) B (zipD ds ds2) where
  go := fun i H s hi => by
    rw [zipD_length] at hi
    have hx : i < xs.length := by rw [r.length]; omega
    have hy : i < ys.length := by rw [r'.length]; omega
    exact ⟨xs, ys, xs[i], ys[i], SqL.of (s _ _ h), SqL.of (s _ _ h'), List.getElem?_eq_getElem hx, List.getElem?_eq_getElem hy⟩
  yld := fun i B1 H x H2 s1 s2 hy d hd => by
    obtain ⟨T, y, z, rfl, hT, rfl, hv, hw⟩ := hy
    obtain ⟨d1, h1, h2⟩ := r.get (hv xs (SqL.of (s2 _ _ (s1 _ _ h))))
    obtain ⟨d2, h3, h4⟩ := r'.get (hw ys (SqL.of (s2 _ _ (s1 _ _ h'))))
    obtain ⟨u, w, h5, h6, rfl⟩ := zipD_get hd
    rw [h5] at h1
    rw [h6] at h3
    cases h1
    cases h3
    have g := Grow.new (o := .tup [y, z]) s2 hT
    exact ⟨_, g, .tup (.inl (.inl upd_same)) (.cons ((h2.mono s1).mono g.bb) (.cons ((h4.mono s1).mono g.bb) .nil))⟩
  stop := fun H s => ⟨xs, ys, SqL.of (s _ _ h), SqL.of (s _ _ h'), by rw [zipD_length, r.length, r'.length]; omega⟩
theorem xi_zip {elts : List Expr} {kk : Nat} {tpos : Pos} (hm : X.mg "zip" = none) (ha : XE X δ a (.list ds)) (hb : XE X δ b (.list ds2)) (hg : Gl X "zip" := by rfl)
    (hs : starEach [a, b] X.env = (false, eval a X.env) :: starEach [b] X.env := by rfl) (hs2 : starEach [b] X.env = (false, eval b X.env) :: starEach [] X.env := by rfl) (hpl : (backTo pos (starEach [b] X.env)).any (·.1) = false := by rfl) :
    XI X (.Tuple elts kk tpos) δ (.Call (.Name "zip" p) [a, b] [] pos) (zipD ds ds2) :=
  (pi_zip hg hm (xa_cons ha (xa_cons hb xa_nil hs2) hs) hs hpl).weak fun σ H R ⟨B, F, W, q⟩ => ⟨B, F, W, fun vs B2 H2 g r => by
    cases r with
    | cons r1 r2 =>
      cases r2 with
      | cons r3 r4 =>
        cases r4
        cases r1 with
        | @lst a xs _ h1 r1 =>
          cases r3 with
          | @lst b ys _ h3 r3 => exact ⟨a, b, xs, ys, rfl, SqL.of (g.bh _ _ h1), SqL.of (g.bh _ _ h3), q _ B2 H2 g (wk_zip h1 r1 h3 r3)⟩⟩

/-! ### targets -/
/-- the datum d is stored: the slots is turn, δ to δ2 -/
def tG (K : PySem.W.Frag) (is : List Nat) (d : PyData) (δ δ2 : List Slot) : TG := fun v σ H Q => ∃ B F, Wf K B H σ δ F ∧ Rp K B v d ∧ ∀ σ2 F2, Wf K B H σ2 δ2 F2 → (∀ i, ∀ b ∈ F2 i, ∃ j, b ∈ F j) → σ2.length = σ.length → (∀ k, k ∉ is → σ2[k]? = σ[k]?) → Q σ2 H
def tGs (K : PySem.W.Frag) (is : List Nat) (ds : List PyData) (δ δ2 : List Slot) : TGs := fun vs σ H Q => ∃ B F, Wf K B H σ δ F ∧ RpA K B vs ds ∧ ∀ σ2 F2, Wf K B H σ2 δ2 F2 → (∀ i, ∀ b ∈ F2 i, ∃ j, b ∈ F j) → σ2.length = σ.length → (∀ k, k ∉ is → σ2[k]? = σ[k]?) → Q σ2 H
abbrev XG (X : Cx) (tg : Expr) (is : List Nat) (d : PyData) (δ δ2 : List Slot) : Prop := PG X tg (tG X.K is d δ δ2)
abbrev XGs (X : Cx) (tgs : List Expr) (is : List Nat) (ds : List PyData) (δ δ2 : List Slot) : Prop := PGs X tgs (tGs X.K is ds δ δ2)
theorem _root_.L2.PG.weak {t t' : TG} (h : PG X tg t) (w : ∀ v σ H Q, t' v σ H Q → t v σ H Q) : PG X tg t' := ⟨fun pins s σ H v u Q I r q => h.run pins s σ H v u Q I r (w v σ H Q q)⟩
theorem _root_.L2.PGs.weak {t t' : TGs} (h : PGs X es t) (w : ∀ v σ H Q, t' v σ H Q → t v σ H Q) : PGs X es t' := ⟨fun pins s σ H v u Q I r q => h.run pins s σ H v u Q I r (w v σ H Q q)⟩
theorem xg_name (i : Nat) {x : Str} (hN : X.N.Nodup) (hi : X.N[i]? = some x := by rfl) (hx : Loc X.env.scope x := by first | exact Or.inl rfl | exact Or.inr rfl) (hf : X.fn x = true ∨ X.env.scope.names.lookup x = some .local := by first | exact .inl rfl | exact .inr rfl) :
    XG X (.Name x pos) [i] d δ (δ.set i (.dat d)) := (pg_name (i := i) hN hi hx hf).weak fun v σ H Q ⟨B, F, W, r, q⟩ =>
  q _ _ (W.put (s := .dat d) ⟨rfl, r⟩) cut_sub (List.length_set ..) fun k hk => List.getElem?_set_ne (fun e => hk (by rw [e]; exact List.mem_singleton.mpr rfl))
theorem xgs_nil : XGs X [] [] [] δ δ := pgs_nil.weak fun v σ H Q ⟨B, F, W, r, q⟩ => by
  cases r
  exact ⟨rfl, q σ F W (fun i b hb => ⟨i, hb⟩) rfl fun _ _ => rfl⟩
theorem xgs_cons {e : Expr} {is js : List Nat} {δ1 δ2 : List Slot} (h1 : XG X e is d δ δ1) (h2 : XGs X es js ds δ1 δ2) (hs : (assignEach (e :: es) X.env).map (·.2) = assign e X.env :: (assignEach es X.env).map (·.2) := by rfl) : XGs X (e :: es) (is ++ js) (d :: ds) δ δ2 :=
  (pgs_cons h1 h2 hs).weak fun vs σ H Q ⟨B, F, W, r, q⟩ => by
    cases r with
    | @cons v us _ _ r1 r2 =>
      exact ⟨v, us, rfl, B, F, W, r1, fun σ1 F1 W1 b1 l1 k1 => ⟨B, F1, W1, r2, fun σ2 F2 W2 b2 l2 k2 => q σ2 F2 W2 (fun i b hb => by
        obtain ⟨j, hj⟩ := b2 i b hb
        exact b1 j b hj) (l2.trans l1) fun k hk => (k2 k fun z => hk (List.mem_append_right _ z)).trans (k1 k fun z => hk (List.mem_append_left _ z))⟩⟩
theorem xg_tup {k : Nat} {is : List Nat} {δ2 : List Slot} (hc : X.calm = true) (h : XGs X es is ds δ δ2) (hl : ds.length = es.length) (hn : (assignEach es X.env).length = es.length := by rfl) (hst : (assignEach es X.env).findIdx? (·.1) = none := by rfl) : XG X (.Tuple es k pos) is (.tuple ds) δ δ2 :=
  (pg_tup hc h hn hst).weak fun v σ H Q ⟨B, F, W, r, q⟩ => by
    cases r with
    | @tup a xs _ h1 r1 => exact ⟨a, xs, rfl, same_t W.bh h1, by rw [r1.length, hl], B, F, W, r1, q⟩
end

/-! ### comprehensions -/
theorem wipe_get {σ : L2.St} : ∀ (vs : List Nat) (k : Nat), k < σ.length → (wipe σ vs)[k]? = if k ∈ vs then some none else σ[k]?
  | [], k, _ => by simp [wipe]
  | v :: vs, k, hk => by
    unfold wipe
    by_cases e : k = v
    · subst e
      rw [List.getElem?_set_self (by rw [wipe_length]; exact hk), if_pos List.mem_cons_self]
    · rw [List.getElem?_set_ne (Ne.symm e), wipe_get vs k hk]
      by_cases h : k ∈ vs
      · rw [if_pos h, if_pos (List.mem_cons_of_mem _ h)]
      · rw [if_neg h, if_neg (fun z => (List.mem_cons.mp z).elim e h)]
theorem wipe_same {σ σ2 : L2.St} {is vs : List Nat} (hl : σ2.length = (wipe σ vs).length) (h : ∀ k, k ∉ is → σ2[k]? = (wipe σ vs)[k]?) (hi : ∀ k ∈ is, k ∈ vs) : wipe σ2 vs = wipe σ vs := by
  rw [wipe_length] at hl
  apply List.ext_getElem?
  intro k
  by_cases hk : k < σ.length
  · rw [wipe_get vs k (by omega), wipe_get vs k hk]
    by_cases hv : k ∈ vs
    · rw [if_pos hv, if_pos hv]
    · rw [if_neg hv, if_neg hv, h k (fun z => hv (hi k z)), wipe_get vs k hk, if_neg hv]
  · rw [List.getElem?_eq_none (by rw [wipe_length]; omega), List.getElem?_eq_none (by rw [wipe_length]; omega)]
section
variable {X : Cx} {δ : List Slot} {a b c e tg iter elt : Expr} {pos p : Pos} {ds ds2 : List PyData} {es ifs : List Expr} {d : PyData}
/-- the block of a comprehension -/
abbrev Blk (X : Cx) (scope : Scope) (P : Cx → Prop) : Prop := ∀ (s : Shared) (H : Hp) (C : Addr) (cl : List (Str × Addr)) (fp : List Addr), P (X.blk s H scope (compEnvC scope cl C X.env) fp)
/-- [elt for tg in iter if test]: g of those that are good; the things that are walked are f of l's -/
theorem lc_turn {K : PySem.W.Frag} {ι : Type} {l : List ι} {f : ι → PyData} {vs is : List Nat} {wi : TI} (g : ι → PyData) (t : ι → Bool) (Δ : ι → List Slot) (hz : l.length ≤ 1000000) (hi : ∀ k ∈ is, k ∈ vs) (hwi : ∀ σ H R, tI K δ (l.map f) σ H R → wi σ H R)
    {tG' : TG} {tT : TT} {tE' : TE} (hG : ∀ v σ H Q, (∃ d : {d // d ∈ l}, tG K is (f d.1) (wipeD δ vs) (Δ d.1) v σ H Q) → tG' v σ H Q) (hT : ∀ σ H Q, (∃ d : {d // d ∈ l}, tBo K (Δ d.1) (t d.1) σ H Q) → tT σ H Q)
    (hE : ∀ σ H Q, (∃ d : {d // d ∈ l ∧ t d = true}, tD K (Δ d.1) (g d.1) σ H Q) → tE' σ H Q) :
    ∀ σ H Q, tN K δ ((l.filter t).map g) σ H Q → tLc wi tG' tT tE' vs σ H Q := fun σ H Q ⟨B, F, W, q⟩ => by
  refine hwi σ H _ ⟨B, F, W, fun J B1 H1 g1 wk D hD => ?_⟩
  have W1 := W.grow g1
  refine ⟨fun i m H' => m = l.length - i ∧ i ≤ l.length ∧ ∃ Bi xs, Grow B1 H1 Bi H' ∧ H' D = some (.lst xs) ∧ Bi D = none ∧ RpA K Bi xs (((l.take i).filter t).map g), ⟨l.length, by simp, Nat.zero_le _, B1, [], Grow.newH g1.bh hD, upd_same, g1.bh.free hD, .nil⟩, ?_⟩
  rintro i m H' ⟨rfl, hle, Bi, xs, gi, hx, hb, r⟩
  by_cases hlt : i < l.length
  · refine .inr ⟨wk.go i H' (gi.bb.trans gi.bh) (by rw [List.length_map]; exact hlt), fun H2 => ∃ Bi xs, Grow B1 H1 Bi H2 ∧ H2 D = some (.lst xs) ∧ Bi D = none ∧ RpA K Bi xs (((l.take (i + 1)).filter t).map g), fun H2 h2 => ⟨l.length - (i + 1), by omega, rfl, hlt, h2⟩, fun x H2 hy => ?_⟩
    have hget : l[i]? = some l[i] := List.getElem?_eq_getElem hlt
    have hmem : l[i] ∈ l := List.getElem_mem hlt
    generalize hd : l[i] = d at hget hmem
    obtain ⟨B2, g2, r2⟩ := wk.yld i Bi H' x H2 gi.bb gi.bh hy (f d) (by rw [List.getElem?_map, hget]; rfl)
    have hD2 : H2 D = some (.lst xs) := g2.hh _ _ hx
    have hB2 : B2 D = none := (g2.fr D _ hx).trans hb
    have gg := gi.trans g2
    have Wi : Wf K B2 H2 (wipe σ vs) (wipeD δ vs) (wipeF F vs) := (W1.grow gg).wipe vs
    have etake : l.take (i + 1) = l.take i ++ [d] := by rw [List.take_add_one, hget]; rfl
    refine hG x _ H2 _ ⟨⟨d, hmem⟩, B2, _, Wi, r2, fun σ2 F2 W2 sb hl hk => ⟨wipe_same hl hk hi, ?_⟩⟩
    refine hT σ2 H2 _ ⟨⟨d, hmem⟩, B2, F2, W2, fun B3 H3 g3 => ?_⟩
    have hD3 : H3 D = some (.lst xs) := g3.hh _ _ hD2
    have hB3 : B3 D = none := (g3.fr D _ hD2).trans hB2
    cases ht : t d with
    | false =>
      show ∃ Bi xs, Grow B1 H1 Bi H3 ∧ _
      refine ⟨B3, xs, gg.trans g3, hD3, hB3, ?_⟩
      rw [etake, List.filter_append, List.map_append, List.filter_cons, if_neg (by rw [ht]; decide)]
      show RpA K B3 xs (_ ++ [])
      rw [List.append_nil]
      exact (r.mono g2.bb).mono g3.bb
    | true =>
      show tE' σ2 H3 _
      refine hE σ2 H3 _ ⟨⟨d, hmem, ht⟩, B3, F2, W2.grow g3, fun y B4 H4 g4 r4 => ⟨xs, g4.hh _ _ hD3, ?_, ?_⟩⟩
      · have h1 := r.length
        rw [List.length_map] at h1
        have h2 := List.length_filter_le t (l.take i)
        rw [List.length_take] at h2
        have : xs.length < 1000000 := by omega
        exact Nat.lt_of_lt_of_le this (sz_of (Nat.le_refl _))
      · have hB4 : B4 D = none := (g4.fr D _ hD3).trans hB3
        have hD4 := g4.hh _ _ hD3
        have g5 : Grow B1 H1 B4 H4 := (gg.trans g3).trans g4
        have nD : H1 D = none := hD
        refine ⟨B4, xs ++ [y], ⟨g5.bb, fun b o hb => ?_, fun b o hb => ?_, fun b o hb => ?_⟩, upd_same, hB4, ?_⟩
        · have : b ≠ D := fun z => by rw [z, hB4] at hb; cases hb
          rw [upd_ne this]
          exact g5.bh b o hb
        · have : b ≠ D := fun z => by rw [z, nD] at hb; cases hb
          rw [upd_ne this]
          exact g5.hh b o hb
        · exact g5.fr b o hb
        · rw [etake, List.filter_append, List.map_append, List.filter_cons, if_pos ht]
          exact (((r.mono g2.bb).mono g3.bb).mono g4.bb).append (.cons r4 .nil)
  · have e : i = l.length := by omega
    subst e
    rw [List.take_length] at r
    refine .inl ⟨?_, q D xs Bi H' (g1.trans gi) (g1.hh.free hD) hb hx r⟩
    have := wk.stop H' (gi.bb.trans gi.bh)
    rw [List.length_map] at this
    exact this
/-- a list comprehension's value, and its statement -/
structure XL (X : Cx) (δ : List Slot) (e : Expr) (ys : List PyData) : Prop where
  val : XN X δ e ys
  set : ∀ (i : Nat) {y : Str} {py spos : Pos}, X.N.Nodup → X.N[i]? = some y → X.env.scope.names.lookup y = some .local → swapsWith e (some (.Name y py)) spos.line X.env = pure true → PS X (.Assign [.Name y py] e spos) (tAsg (tN X.K δ ys) (gName i))
theorem xl_G {ι : Type} {l : List ι} {f : ι → PyData} {scope : Scope} {own : List (Str × Nat)} {is : List Nat} (g : ι → PyData) (t : ι → Bool) (Δ : ι → List Slot) (hc : X.calm = true) (hN : X.N.Nodup) (hi : XI X tg δ iter (l.map f)) (ok : BlkOk X.N X.env.scope scope own)
    (hg : Blk X scope fun Y => ∀ d ∈ l, XG Y tg is (f d) (wipeD δ (own.map (·.2))) (Δ d)) (ht : Blk X scope fun Y => ∀ d ∈ l, PTs Y ifs (tBo X.K (Δ d) (t d))) (he : Blk X scope fun Y => ∀ d ∈ l, t d = true → XE Y (Δ d) elt (g d))
    (hz : l.length ≤ 1000000) (his : ∀ k ∈ is, k ∈ own.map (·.2)) (hs : ∀ x, foldedSetIterable iter X.env x = pure x := by intro _; rfl) : XL X δ (.ListComp elt [⟨tg, iter, ifs, 0⟩] scope pos) ((l.filter t).map g) :=
  ⟨(pe_lc hc hN hi ok (fun s H C cl fp => pg_ex fun d : {d // d ∈ l} => hg s H C cl fp d.1 d.2) (fun s H C cl fp => pts_ex fun d : {d // d ∈ l} => ht s H C cl fp d.1 d.2) (fun s H C cl fp => pe_ex fun d : {d // d ∈ l ∧ t d = true} => he s H C cl fp d.1 d.2.1 d.2.2) hs).weak
    (lc_turn g t Δ hz his (fun _ _ _ q => q) (fun _ _ _ _ q => q) (fun _ _ _ q => q) (fun _ _ _ q => q)),
   fun i y py spos _ hy hyl hsw => (ps_setLc hc hN hy hyl hsw hi ok (fun s H C cl fp => pg_ex fun d : {d // d ∈ l} => hg s H C cl fp d.1 d.2) (fun s H C cl fp => pts_ex fun d : {d // d ∈ l} => ht s H C cl fp d.1 d.2) (fun s H C cl fp => pe_ex fun d : {d // d ∈ l ∧ t d = true} => he s H C cl fp d.1 d.2.1 d.2.2) hs).weak
    fun D σ H q => lc_turn g t Δ hz his (fun _ _ _ q => q) (fun _ _ _ _ q => q) (fun _ _ _ q => q) (fun _ _ _ q => q) σ H _ q⟩
theorem xts_nil {Y : Cx} : PTs Y [] (tBo Y.K δ true) := ⟨fun pins s σ H Q I ⟨B, F, W, q⟩ => pts_nil.run pins s σ H Q I (q B H (Grow.refl W.bh))⟩
theorem xts_one {Y : Cx} {k : Bool} (h : XT Y δ c k) : PTs Y [c] (tBo Y.K δ k) := pts_one h
/-- [elt for x in iter], x in slot j -/
theorem xl_lc {ι : Type} {l : List ι} {f : ι → PyData} {scope : Scope} (j : Nat) {x : Str} (g : ι → PyData) (hN : X.N.Nodup) (hi : XI X (.Name x p) δ iter (l.map f))
    (he : Blk X scope fun Y => ∀ d ∈ l, XE Y ((δ.set j .no).set j (.dat (f d))) elt (g d)) (hz : l.length ≤ 1000000)
    (ok : BlkOk X.N X.env.scope scope [(x, j)] := by exact blkOk_by (by kernel_rfl)) (hj : X.N[j]? = some x := by rfl) (hx : Blk X scope fun Y => Loc Y.env.scope x := by first | exact fun _ _ _ _ _ => Or.inl rfl | exact fun _ _ _ _ _ => Or.inr rfl) (hf : Blk X scope fun Y => Y.fn x = true ∨ Y.env.scope.names.lookup x = some .local := by first | exact fun _ _ _ _ _ => Or.inr rfl | exact fun _ _ _ _ _ => Or.inl rfl)
    (hc : X.calm = true := by rfl) (hs : ∀ x, foldedSetIterable iter X.env x = pure x := by intro _; rfl) : XL X δ (.ListComp elt [⟨.Name x p, iter, [], 0⟩] scope pos) (l.map g) := by
  have h := xl_G (X := X) (ifs := []) (pos := pos) (l := l) (f := f) (own := [(x, j)]) (is := [j]) g (fun _ => true) (fun d => (δ.set j .no).set j (.dat (f d))) hc hN hi ok
    (fun s H C cl fp d _ => xg_name j hN hj (hx s H C cl fp) (hf s H C cl fp)) (fun s H C cl fp d _ => xts_nil) (fun s H C cl fp d hd _ => he s H C cl fp d hd) hz (fun k hk => hk) hs
  rw [List.filter_eq_self.mpr (fun _ _ => rfl)] at h
  exact h
/-- [elt for x in iter if c] -/
theorem xl_lcIf {ι : Type} {l : List ι} {f : ι → PyData} {scope : Scope} (j : Nat) {x : Str} (g : ι → PyData) (t : ι → Bool) (hN : X.N.Nodup) (hi : XI X (.Name x p) δ iter (l.map f))
    (ht : Blk X scope fun Y => ∀ d ∈ l, XT Y ((δ.set j .no).set j (.dat (f d))) c (t d)) (he : Blk X scope fun Y => ∀ d ∈ l, t d = true → XE Y ((δ.set j .no).set j (.dat (f d))) elt (g d)) (hz : l.length ≤ 1000000)
    (ok : BlkOk X.N X.env.scope scope [(x, j)] := by exact blkOk_by (by kernel_rfl)) (hj : X.N[j]? = some x := by rfl) (hx : Blk X scope fun Y => Loc Y.env.scope x := by first | exact fun _ _ _ _ _ => Or.inl rfl | exact fun _ _ _ _ _ => Or.inr rfl) (hf : Blk X scope fun Y => Y.fn x = true ∨ Y.env.scope.names.lookup x = some .local := by first | exact fun _ _ _ _ _ => Or.inr rfl | exact fun _ _ _ _ _ => Or.inl rfl)
    (hc : X.calm = true := by rfl) (hs : ∀ x, foldedSetIterable iter X.env x = pure x := by intro _; rfl) : XL X δ (.ListComp elt [⟨.Name x p, iter, [c], 0⟩] scope pos) ((l.filter t).map g) :=
  xl_G (X := X) (ifs := [c]) (pos := pos) (l := l) (f := f) (own := [(x, j)]) (is := [j]) g t (fun d => (δ.set j .no).set j (.dat (f d))) hc hN hi ok
    (fun s H C cl fp d _ => xg_name j hN hj (hx s H C cl fp) (hf s H C cl fp)) (fun s H C cl fp d hd => xts_one (ht s H C cl fp d hd)) (fun s H C cl fp d hd ht => he s H C cl fp d hd ht) hz (fun k hk => hk) hs
end
end Dl

set_option Elab.async false
set_option linter.all false
set_option maxRecDepth 100000
set_option maxHeartbeats 4000000
/-! The data level: statements, the promises of defs. -/
namespace Dl
open PySem PySem.Spec PyProof.Rows L2
section
variable {X : Cx} {δ δ2 : List Slot} {a b c e tg iter : Expr} {pos p : Pos} {ds : List PyData} {es : List Expr} {d : PyData} {st : Stmt} {rest body : List Stmt} {R R' : Post}
/-! ### what is wanted behind -/
/-- the ends' wishes, from a state on -/
structure Ok (K : PySem.W.Frag) (R : Post) (D : Ends) (B H : Hp) (F : Nat → List Addr) : Prop where
  nx : ∀ σ2 δ2 B2 H2 F2, Step B H F B2 H2 F2 → Wf K B2 H2 σ2 δ2 F2 → R.nx δ2 → D.nx σ2 H2
  rt : ∀ v d σ2 δ2 B2 H2 F2, Step B H F B2 H2 F2 → Wf K B2 H2 σ2 δ2 F2 → R.rt d δ2 → Rp K B2 v d → D.rt v H2
  bk : ∀ σ2 δ2 B2 H2 F2, Step B H F B2 H2 F2 → Wf K B2 H2 σ2 δ2 F2 → R.bk δ2 → D.bk σ2 H2
  ct : ∀ σ2 δ2 B2 H2 F2, Step B H F B2 H2 F2 → Wf K B2 H2 σ2 δ2 F2 → R.ct δ2 → D.ct σ2 H2
  rr : ∀ v σ2 δ2 B2 H2 F2, Step B H F B2 H2 F2 → Wf K B2 H2 σ2 δ2 F2 → R.rr v B2 H2 → D.rt v H2
  gh : ghOk R.gh B H F
theorem ts_iff {K : PySem.W.Frag} {D : Ends} {σ : L2.St} {H : Hp} : tS K δ R D σ H ↔ ∃ B F, Wf K B H σ δ F ∧ Ok K R D B H F :=
  ⟨fun ⟨B, F, W, h1, h2, h3, h4, h5, h6⟩ => ⟨B, F, W, h1, h2, h3, h4, h5, h6⟩, fun ⟨B, F, W, o⟩ => ⟨B, F, W, o.nx, o.rt, o.bk, o.ct, o.rr, o.gh⟩⟩
theorem ghOk.step {g : Option (Hp × Hp × (Nat → List Addr))} {B H B1 H1 : Hp} {F F1 : Nat → List Addr} (h : ghOk g B H F) (s : Step B H F B1 H1 F1) : ghOk g B1 H1 F1 := by
  cases g with
  | none => trivial
  | some z => exact Step.trans h s
theorem Ok.step {K : PySem.W.Frag} {D : Ends} {B H B1 H1 : Hp} {F F1 : Nat → List Addr} (o : Ok K R D B H F) (s : Step B H F B1 H1 F1) : Ok K R D B1 H1 F1 :=
  ⟨fun σ2 δ2 B2 H2 F2 s2 => o.nx σ2 δ2 B2 H2 F2 (s.trans s2), fun v d σ2 δ2 B2 H2 F2 s2 => o.rt v d σ2 δ2 B2 H2 F2 (s.trans s2), fun σ2 δ2 B2 H2 F2 s2 => o.bk σ2 δ2 B2 H2 F2 (s.trans s2), fun σ2 δ2 B2 H2 F2 s2 => o.ct σ2 δ2 B2 H2 F2 (s.trans s2), fun v σ2 δ2 B2 H2 F2 s2 => o.rr v σ2 δ2 B2 H2 F2 (s.trans s2), o.gh.step s⟩
theorem Ok.imp {K : PySem.W.Frag} {D : Ends} {B H : Hp} {F : Nat → List Addr} (o : Ok K R D B H F) (h1 : ∀ δ, R'.nx δ → R.nx δ) (h2 : ∀ d δ, R'.rt d δ → R.rt d δ) (h3 : ∀ δ, R'.bk δ → R.bk δ) (h4 : ∀ δ, R'.ct δ → R.ct δ) (h5 : ∀ v B H, R'.rr v B H → R.rr v B H) (h6 : R'.gh = R.gh) : Ok K R' D B H F :=
  ⟨fun σ2 δ2 B2 H2 F2 s W q => o.nx σ2 δ2 B2 H2 F2 s W (h1 _ q), fun v d σ2 δ2 B2 H2 F2 s W q => o.rt v d σ2 δ2 B2 H2 F2 s W (h2 _ _ q), fun σ2 δ2 B2 H2 F2 s W q => o.bk σ2 δ2 B2 H2 F2 s W (h3 _ q), fun σ2 δ2 B2 H2 F2 s W q => o.ct σ2 δ2 B2 H2 F2 s W (h4 _ q), fun v σ2 δ2 B2 H2 F2 s W q => o.rr v σ2 δ2 B2 H2 F2 s W (h5 _ _ _ q), by rw [h6]; exact o.gh⟩
theorem XB.imp {sts : List Stmt} (h : XB X δ sts R') (h1 : ∀ δ, R'.nx δ → R.nx δ) (h2 : ∀ d δ, R'.rt d δ → R.rt d δ) (h3 : ∀ δ, R'.bk δ → R.bk δ) (h4 : ∀ δ, R'.ct δ → R.ct δ) (h5 : ∀ v B H, R'.rr v B H → R.rr v B H) (h6 : R'.gh = R.gh) : XB X δ sts R := PSs.weak h fun D σ H q => by
  obtain ⟨B, F, W, o⟩ := ts_iff.mp q
  exact ts_iff.mpr ⟨B, F, W, o.imp h1 h2 h3 h4 h5 h6⟩
/-! ### blocks -/
theorem xb_nil (h : R.nx δ) : XB X δ [] R := pss_nil.weak fun D σ H q => by
  obtain ⟨B, F, W, o⟩ := ts_iff.mp q
  exact o.nx σ δ B H F Step.refl W h
/-- one statement by its own reading, then the rest -/
theorem xb_cons {t u : TS} (h1 : PS X st t) (h2 : PSs X rest u) (w : ∀ D σ H B F, Wf X.K B H σ δ F → Ok X.K R D B H F → t { D with nx := u D } σ H) : XB X δ (st :: rest) R := (pss_cons h1 h2).weak fun D σ H q => by
  obtain ⟨B, F, W, o⟩ := ts_iff.mp q
  exact w D σ H B F W o
theorem xb_ret (he : XE X δ e d) (h : R.rt d δ) : XB X δ (.Return (some e) pos :: rest) R := xb_cons (ps_ret he) pss_never fun D σ H B F W o =>
  ⟨B, F, W, fun v B2 H2 g r => o.rt v d σ δ B2 H2 F (Step.of g) (W.grow g) h r⟩
theorem xb_retN (h : R.rt .none δ) : XB X δ (.Return none pos :: rest) R := xb_cons ps_retN pss_never fun D σ H B F W o =>
  o.rt _ _ σ δ B H F Step.refl W h .non
theorem xb_doc {x j pos'} (h : XB X δ rest R) : XB X δ (.Expr (.Constant (.str x) j pos) pos' :: rest) R := xb_cons ps_doc h fun D σ H B F W o => ts_iff.mpr ⟨B, F, W, o⟩
theorem xb_pass (h : XB X δ rest R) : XB X δ (.Pass pos :: rest) R := xb_cons ps_pass h fun D σ H B F W o => ts_iff.mpr ⟨B, F, W, o⟩
theorem xb_break (h : R.bk δ) : XB X δ (.Break pos :: rest) R := xb_cons ps_break pss_never fun D σ H B F W o => o.bk σ δ B H F Step.refl W h
theorem xb_cont (h : R.ct δ) : XB X δ (.Continue pos :: rest) R := xb_cons ps_continue pss_never fun D σ H B F W o => o.ct σ δ B H F Step.refl W h
/-- x = e by the statement's own reading -/
theorem xb_set {i : Nat} (h : PS X st (tAsg (tD X.K δ d) (gName i))) (k : XB X (δ.set i (.dat d)) rest R) : XB X δ (st :: rest) R := xb_cons h k fun D σ H B F W o =>
  ⟨B, F, W, fun v B2 H2 g r => ts_iff.mpr ⟨B2, _, (W.grow g).put (s := .dat d) ⟨rfl, r⟩, o.step ((Step.of g).sub cut_sub)⟩⟩
/-- an owned object is put in a slot -/
theorem Wf.putO {K : PySem.W.Frag} {B H : Hp} {σ : L2.St} {F : Nat → List Addr} (W : Wf K B H σ δ F) {i : Nat} {v : V} {r : Res} {fp : List Addr} (hi : i < δ.length) (hs : r.ok B H v fp) (hn : ∀ a ∈ fp, (B a = none ∧ ∃ o, H a = some o) ∧ ∀ j, j ≠ i → a ∉ F j) :
    Wf K B H (σ.set i (some v)) (δ.set i (.own r)) (fun j => if j = i then fp else F j) where
  bh := W.bh
  len := by rw [List.length_set, List.length_set]; exact W.len
  sl := fun j t e => by
    by_cases hj : j = i
    · subst hj
      rw [List.getElem?_set_self hi] at e
      cases e
      refine ⟨some v, List.getElem?_set_self (by rw [← W.len]; exact hi), ?_⟩
      rw [if_pos rfl]
      exact hs
    · rw [List.getElem?_set_ne (Ne.symm hj)] at e
      obtain ⟨o, h1, h2⟩ := W.sl j t e
      refine ⟨o, by rw [List.getElem?_set_ne (Ne.symm hj)]; exact h1, ?_⟩
      rw [if_neg hj]
      exact h2
  out := fun j hj => by
    rw [List.length_set] at hj
    by_cases h : j = i
    · omega
    · rw [if_neg h]
      exact W.out j hj
  dis := fun j k a h1 h2 => by
    by_cases hj : j = i
    · by_cases hk : k = i
      · rw [hj, hk]
      · rw [if_pos hj] at h1
        rw [if_neg hk] at h2
        exact absurd h2 ((hn a h1).2 k hk)
    · by_cases hk : k = i
      · rw [if_neg hj] at h1
        rw [if_pos hk] at h2
        exact absurd h1 ((hn a h2).2 j hj)
      · rw [if_neg hj] at h1
        rw [if_neg hk] at h2
        exact W.dis j k a h1 h2
  own := fun j a h => by
    by_cases hj : j = i
    · rw [if_pos hj] at h
      exact (hn a h).1
    · rw [if_neg hj] at h
      exact W.own j a h
theorem xb_setA {i : Nat} (h : PS X st (tAsg (tN X.K δ ds) (gName i))) (hi : i < δ.length) (k : XB X (δ.set i (.own (accR X.K ds))) rest R) : XB X δ (st :: rest) R := xb_cons h k fun D σ H B F W o =>
  ⟨B, F, W, fun p xs B2 H2 g hp hb h2 r => by
    have W2 := W.grow g
    have np : ∀ j, p ∉ F j := fun j hj => by
      obtain ⟨_, u, hu⟩ := W.own j p hj
      rw [hp] at hu
      cases hu
    refine ts_iff.mpr ⟨B2, _, W2.putO (r := accR X.K ds) (fp := [p]) hi ⟨p, xs, rfl, rfl, h2, r⟩ (fun a ha => ?_), o.step ?_⟩
    · cases List.mem_singleton.mp ha
      exact ⟨⟨hb, _, h2⟩, fun j _ => np j⟩
    · exact ⟨g.bb, fun b o e _ => g.hh b o e, fun b o e _ => g.fr b o e, fun b o e => ⟨o, g.hh b o e⟩, fun j b hb => by
        by_cases hj : j = i
        · rw [if_pos hj] at hb
          cases List.mem_singleton.mp hb
          exact .inr hp
        · rw [if_neg hj] at hb
          exact .inl ⟨j, hb⟩⟩⟩
theorem xs_set {te : TE} (i : Nat) {x : Str} (he : PE X e te) (hN : X.N.Nodup) (hi : X.N[i]? = some x := by rfl) (hx : Loc X.env.scope x := by first | exact Or.inl rfl | exact Or.inr rfl) (hs : swapsWith e (some (.Name x p)) pos.line X.env = pure false := by rfl)
    (hf : X.fn x = true ∨ X.env.scope.names.lookup x = some .local := by first | exact .inl rfl | exact .inr rfl | assumption) : PS X (.Assign [.Name x p] e pos) (tAsg te (gName i)) := ps_set hN hi hx he hs hf
theorem xb_asg (i : Nat) {x : Str} (he : XE X δ e d) (k : XB X (δ.set i (.dat d)) rest R) (hN : X.N.Nodup) (hi : X.N[i]? = some x := by rfl) (hx : Loc X.env.scope x := by first | exact Or.inl rfl | exact Or.inr rfl) (hs : swapsWith e (some (.Name x p)) pos.line X.env = pure false := by rfl)
    (hf : X.fn x = true ∨ X.env.scope.names.lookup x = some .local := by first | exact .inl rfl | exact .inr rfl | assumption) : XB X δ (.Assign [.Name x p] e pos :: rest) R := xb_set (ps_set hN hi hx he hs hf) k
theorem xb_asgA (i : Nat) {x : Str} (he : XN X δ e ds) (k : XB X (δ.set i (.own (accR X.K ds))) rest R) (hN : X.N.Nodup) (hl : i < δ.length := by exact Nat.le_of_ble_eq_true rfl) (hi : X.N[i]? = some x := by rfl) (hx : Loc X.env.scope x := by first | exact Or.inl rfl | exact Or.inr rfl) (hs : swapsWith e (some (.Name x p)) pos.line X.env = pure false := by rfl)
    (hf : X.fn x = true ∨ X.env.scope.names.lookup x = some .local := by first | exact .inl rfl | exact .inr rfl | assumption) : XB X δ (.Assign [.Name x p] e pos :: rest) R := xb_setA (ps_set hN hi hx he hs hf) hl k
/-- a, b = e1, e2 -/
theorem xb_par {d1 d2 : PyData} {i j : Nat} {x y : Str} {px py pt : Pos} {kt k2 pt2} (ha : XE X δ a d1) (hb : XE X δ b d2) (k : XB X ((δ.set i (.dat d1)).set j (.dat d2)) rest R) (hN : X.N.Nodup) (hi : X.N[i]? = some x := by rfl) (hj : X.N[j]? = some y := by rfl) (hij : i ≠ j := by decide)
    (hx : X.env.scope.names.lookup x = some .local := by rfl) (hy : X.env.scope.names.lookup y = some .local := by rfl) (hc : X.calm = true := by rfl)
    (hw : swappedStores [.Tuple [.Name x px, .Name y py] kt pt] (.Tuple [a, b] k2 pt2) X.env = pure (some [x, y]) := by rfl)
    (hs : swapsWithSole [.Tuple [.Name x px, .Name y py] kt pt] (.Tuple [a, b] k2 pt2) pos.line X.env = pure false := by rfl) (h1 : starEach [a, b] X.env = (false, eval a X.env) :: starEach [b] X.env := by rfl) (h2 : starEach [b] X.env = (false, eval b X.env) :: starEach [] X.env := by rfl) :
    XB X δ (.Assign [.Tuple [.Name x px, .Name y py] kt pt] (.Tuple [a, b] k2 pt2) pos :: rest) R := xb_cons (ps_par hc hN hi hj hij hx hy (xa_cons ha (xa_cons hb xa_nil h2) h1) hw hs) k fun D σ H B F W o =>
  ⟨B, F, W, fun vs B2 H2 g r => by
    cases r with
    | @cons v us _ _ r1 r2 =>
      cases r2 with
      | @cons w us _ _ r2 r3 =>
        cases r3
        exact ⟨v, w, rfl, ts_iff.mpr ⟨B2, _, ((W.grow g).put (s := .dat d1) ⟨rfl, r1⟩).put (s := .dat d2) ⟨rfl, r2⟩, o.step (((Step.of g).sub cut_sub).sub cut_sub)⟩⟩⟩
/-- a, b, .. = e, any target -/
theorem xb_unp {is : List Nat} (he : XE X δ e d) (hg : XG X tg is d δ δ2) (k : XB X δ2 rest R) (hs : swapsWithSole [tg] e pos.line X.env = pure false := by rfl) (hw : swappedStores [tg] e X.env = pure none := by rfl)
    (h1 : (assignEach [tg] X.env).map (·.2) = [assign tg X.env] := by rfl) : XB X δ (.Assign [tg] e pos :: rest) R := xb_cons (ps_asg he hg hs hw h1) k fun D σ H B F W o =>
  ⟨B, F, W, fun v B2 H2 g r => ⟨B2, F, W.grow g, r, fun σ2 F2 W2 sb _ _ => ts_iff.mpr ⟨B2, F2, W2, o.step ((Step.of g).sub sb)⟩⟩⟩
/-! ### if, while, for -/
theorem xb_if {sts sts2 : List Stmt} {k : Bool} (M : List Slot → Prop) (hc : XT X δ c k) (h1 : k = true → XB X δ sts { R with nx := M }) (h2 : k = false → XB X δ sts2 { R with nx := M }) (h : ∀ δ', M δ' → XB X δ' rest R) : XB X δ (.If c sts sts2 pos :: rest) R := by
  have hr : PSs X rest (fun D σ H => ∃ z : {δ' // M δ'}, tS X.K z.1 R D σ H) := pss_ex fun z : {δ' // M δ'} => h z.1 z.2
  have fin : ∀ {D : Ends} {B H : Hp} {F : Nat → List Addr}, Ok X.K R D B H F → Ok X.K { R with nx := M } { D with nx := fun σ H => ∃ z : {δ' // M δ'}, tS X.K z.1 R D σ H } B H F := fun {D B H F} o =>
    ⟨fun σ2 δ2 B2 H2 F2 s W q => ⟨⟨δ2, q⟩, ts_iff.mpr ⟨B2, F2, W, o.step s⟩⟩, o.rt, o.bk, o.ct, o.rr, o.gh⟩
  cases k with
  | true => exact xb_cons (ps_if hc (h1 rfl) pss_never) hr fun D σ H B F W o => ⟨B, F, W, fun B2 H2 g => by
      show tS X.K δ { R with nx := M } _ σ H2
      exact ts_iff.mpr ⟨B2, F, W.grow g, (fin o).step (Step.of g)⟩⟩
  | false => exact xb_cons (ps_if hc pss_never (h2 rfl)) hr fun D σ H B F W o => ⟨B, F, W, fun B2 H2 g => by
      show tS X.K δ { R with nx := M } _ σ H2
      exact ts_iff.mpr ⟨B2, F, W.grow g, (fin o).step (Step.of g)⟩⟩
/-- an if that leaves -/
theorem xb_ifR {sts : List Stmt} {k : Bool} (hc : XT X δ c k) (h1 : k = true → XB X δ sts { R with nx := fun _ => False }) (h2 : k = false → XB X δ rest R) : XB X δ (.If c sts [] pos :: rest) R := by
  cases k with
  | true => exact xb_if (fun _ => False) hc (fun _ => h1 rfl) (fun h => nomatch h) (fun _ h => h.elim)
  | false => exact xb_if (fun δ' => δ' = δ) hc (fun h => nomatch h) (fun _ => xb_nil rfl) (fun _ h => by
      subst h
      exact h2 rfl)
theorem xb_while (J : Nat → List Slot → Prop) (M : List Slot → Prop) (m0 : Nat) (h0 : J m0 δ)
    (hs : ∀ m δ', J m δ' → ∃ k, XT X δ' c k ∧ (k = true → XB X δ' body { R with nx := fun δ2 => ∃ m', m' < m ∧ J m' δ2, ct := fun δ2 => ∃ m', m' < m ∧ J m' δ2, bk := M }) ∧ (k = false → M δ'))
    (h : ∀ δ', M δ' → XB X δ' rest R) (hp : PassesOwn (model X.prog X.w) X.A X.env X.xe := by exact PassesOwn.never) : XB X δ (.While c body [] pos :: rest) R := by
  let ι := {z : Nat × List Slot × Bool // J z.1 z.2.1 ∧ XT X z.2.1 c z.2.2 ∧ (z.2.2 = true → XB X z.2.1 body { R with nx := fun δ2 => ∃ m', m' < z.1 ∧ J m' δ2, ct := fun δ2 => ∃ m', m' < z.1 ∧ J m' δ2, bk := M }) ∧ (z.2.2 = false → M z.2.1)}
  have hC : PT X c (fun σ H Q => ∃ z : ι, tBo X.K z.1.2.1 z.1.2.2 σ H Q) := pt_ex fun z : ι => z.2.2.1
  have hB : PSs X body (fun D σ H => ∃ z : {z : ι // z.1.2.2 = true}, tS X.K z.1.1.2.1 { R with nx := fun δ2 => ∃ m', m' < z.1.1.1 ∧ J m' δ2, ct := fun δ2 => ∃ m', m' < z.1.1.1 ∧ J m' δ2, bk := M } D σ H) := pss_ex fun z : {z : ι // z.1.2.2 = true} => z.1.2.2.2.1 z.2
  have hr : PSs X rest (fun D σ H => ∃ z : {δ' // M δ'}, tS X.K z.1 R D σ H) := pss_ex fun z : {δ' // M δ'} => h z.1 z.2
  refine xb_cons (ps_while hp hC hB) hr fun D σ H B F W o => ?_
  refine ⟨fun m σ' H' => ∃ δ' B' F', J m δ' ∧ Wf X.K B' H' σ' δ' F' ∧ Step B H F B' H' F', ⟨m0, δ, B, F, h0, W, Step.refl⟩, ?_⟩
  rintro m σ' H' ⟨δ', B', F', hj, W', s'⟩
  obtain ⟨k, hk, hk1, hk2⟩ := hs m δ' hj
  refine ⟨⟨(m, δ', k), hj, hk, hk1, hk2⟩, B', F', W', fun B2 H2 g => ?_⟩
  cases k with
  | false =>
    show ∃ z : {δ' // M δ'}, tS X.K z.1 R D σ' H2
    exact ⟨⟨δ', hk2 rfl⟩, ts_iff.mpr ⟨B2, F', W'.grow g, o.step (s'.trans (Step.of g))⟩⟩
  | true =>
    have s2 := s'.trans (Step.of (F := F') g)
    refine ⟨fun σ3 H3 => ∃ m' δ3 B3 F3, m' < m ∧ J m' δ3 ∧ Wf X.K B3 H3 σ3 δ3 F3 ∧ Step B H F B3 H3 F3, fun σ3 H3 ⟨m', δ3, B3, F3, hm, hj3, W3, s3⟩ => ⟨m', hm, δ3, B3, F3, hj3, W3, s3⟩, ⟨⟨(m, δ', true), hj, hk, hk1, hk2⟩, rfl⟩, ?_⟩
    refine ts_iff.mpr ⟨B2, F', W'.grow g, ?_, ?_, ?_, ?_, fun v σ3 δ3 B3 H3 F3 s3 W3 q => o.rr v σ3 δ3 B3 H3 F3 (s2.trans s3) W3 q, o.gh.step s2⟩
    · exact fun σ3 δ3 B3 H3 F3 s3 W3 ⟨m', hm, hj3⟩ => ⟨m', δ3, B3, F3, hm, hj3, W3, s2.trans s3⟩
    · exact fun v d σ3 δ3 B3 H3 F3 s3 W3 q r => o.rt v d σ3 δ3 B3 H3 F3 (s2.trans s3) W3 q r
    · exact fun σ3 δ3 B3 H3 F3 s3 W3 q => ⟨⟨δ3, q⟩, ts_iff.mpr ⟨B3, F3, W3, o.step (s2.trans s3)⟩⟩
    · exact fun σ3 δ3 B3 H3 F3 s3 W3 ⟨m', hm, hj3⟩ => ⟨m', δ3, B3, F3, hm, hj3, W3, s2.trans s3⟩
/-- for tg in iter, ds what is walked; J i δ: ahead of the turn i -/
theorem xb_for {is : List Nat} (Δ : PyData → List Slot → List Slot) (J : Nat → List Slot → Prop) (M : List Slot → Prop) (hi : XI X tg δ iter ds) (h0 : J 0 δ)
    (hg : ∀ i δ' d, J i δ' → ds[i]? = some d → XG X tg is d δ' (Δ d δ'))
    (hs : ∀ i δ' d, J i δ' → ds[i]? = some d → XB X (Δ d δ') body { R with nx := J (i + 1), ct := J (i + 1), bk := M }) (hM : ∀ δ', J ds.length δ' → M δ')
    (h : ∀ δ', M δ' → XB X δ' rest R) (hp : PassesOwn (model X.prog X.w) X.A X.env X.xe := by exact PassesOwn.never) (hc : X.calm = true := by rfl) (hss : ∀ x, foldedSetIterable iter X.env x = pure x := by intro _; rfl) : XB X δ (.For tg iter body [] pos :: rest) R := by
  let ι := {z : Nat × List Slot × PyData // J z.1 z.2.1 ∧ ds[z.1]? = some z.2.2}
  have hG : PG X tg (fun v σ H Q => ∃ z : ι, tG X.K is z.1.2.2 z.1.2.1 (Δ z.1.2.2 z.1.2.1) v σ H Q) := pg_ex fun z : ι => hg z.1.1 z.1.2.1 z.1.2.2 z.2.1 z.2.2
  have hB : PSs X body (fun D σ H => ∃ z : ι, tS X.K (Δ z.1.2.2 z.1.2.1) { R with nx := J (z.1.1 + 1), ct := J (z.1.1 + 1), bk := M } D σ H) := pss_ex fun z : ι => hs z.1.1 z.1.2.1 z.1.2.2 z.2.1 z.2.2
  have hr : PSs X rest (fun D σ H => ∃ z : {δ' // M δ'}, tS X.K z.1 R D σ H) := pss_ex fun z : {δ' // M δ'} => h z.1 z.2
  refine xb_cons (ps_for hp hc hi hG hB hss) hr fun D σ H B F W o => ⟨B, F, W, fun It B1 H1 g1 wk => ?_⟩
  have s1 : Step B H F B1 H1 F := Step.of g1
  refine ⟨fun i m σ' H' => m = ds.length - i ∧ i ≤ ds.length ∧ ∃ δ' B' F', J i δ' ∧ Wf X.K B' H' σ' δ' F' ∧ Step B H F B' H' F' ∧ Same B1 B', ⟨ds.length, by simp, Nat.zero_le _, δ, B1, F, h0, W.grow g1, s1, Same.refl _⟩, ?_⟩
  rintro i m σ' H' ⟨rfl, hle, δ', B', F', hj, W', s', sm⟩
  by_cases hlt : i < ds.length
  · refine .inr ⟨wk.go i H' (sm.trans W'.bh) hlt, fun σ3 H3 => ∃ δ3 B3 F3, J (i + 1) δ3 ∧ Wf X.K B3 H3 σ3 δ3 F3 ∧ Step B H F B3 H3 F3 ∧ Same B1 B3, fun σ3 H3 ⟨δ3, B3, F3, q⟩ => ⟨ds.length - (i + 1), by omega, rfl, hlt, δ3, B3, F3, q⟩, fun x H2 hy => ?_⟩
    have hget : ds[i]? = some ds[i] := List.getElem?_eq_getElem hlt
    generalize ds[i] = d at hget
    obtain ⟨B2, g2, r2⟩ := wk.yld i B' H' x H2 sm W'.bh hy d hget
    have s2 := s'.trans (Step.of (F := F') g2)
    refine ⟨⟨(i, δ', d), hj, hget⟩, B2, F', W'.grow g2, r2, fun σ3 F3 W3 sb _ _ => ⟨⟨(i, δ', d), hj, hget⟩, ts_iff.mpr ⟨B2, F3, W3, ?_, ?_, ?_, ?_, fun v σ4 δ4 B4 H4 F4 s4 W4 q => o.rr v σ4 δ4 B4 H4 F4 ((s2.sub sb).trans s4) W4 q, o.gh.step (s2.sub sb)⟩⟩⟩
    all_goals have s3 := s2.sub sb
    · exact fun σ4 δ4 B4 H4 F4 s4 W4 q => ⟨δ4, B4, F4, q, W4, s3.trans s4, (sm.trans g2.bb).trans s4.bb⟩
    · exact fun v d σ4 δ4 B4 H4 F4 s4 W4 q r => o.rt v d σ4 δ4 B4 H4 F4 (s3.trans s4) W4 q r
    · exact fun σ4 δ4 B4 H4 F4 s4 W4 q => ⟨⟨δ4, q⟩, ts_iff.mpr ⟨B4, F4, W4, o.step (s3.trans s4)⟩⟩
    · exact fun σ4 δ4 B4 H4 F4 s4 W4 q => ⟨δ4, B4, F4, q, W4, s3.trans s4, (sm.trans g2.bb).trans s4.bb⟩
  · have e : i = ds.length := by omega
    subst e
    exact .inl ⟨wk.stop H' (sm.trans W'.bh), ⟨δ', hM δ' hj⟩, ts_iff.mpr ⟨B', F', W', o.step s'⟩⟩
end
end Dl

set_option Elab.async false
set_option linter.all false
set_option maxRecDepth 100000
set_option maxHeartbeats 4000000
/-! The data level: built-ins, the promises of defs that are functions of data. -/
namespace Dl
open PySem PySem.Spec PyProof.Rows L2
section
variable {X : Cx} {δ δ2 : List Slot} {a b c e tg iter : Expr} {pos p : Pos} {ds : List PyData} {es : List Expr} {d d1 d2 : PyData}
/-! ### built-ins by their names -/
def RC (K : PySem.W.Frag) (r : List V → Hp → VK → Prop) (ds : List PyData) (d : PyData) : Prop := ∀ (B H : Hp) (vs : List V) (Q : VK), Same B H → RpA K B vs ds → (∀ v B2 H2, Grow B H B2 H2 → Rp K B2 v d → Q v H2) → r vs H Q
def RCN (K : PySem.W.Frag) (r : List V → Hp → VK → Prop) (ds : List PyData) (ys : List PyData) : Prop := ∀ (B H : Hp) (vs : List V) (Q : VK), Same B H → RpA K B vs ds → (∀ p xs B2 H2, Grow B H B2 H2 → H p = none → B2 p = none → H2 p = some (.lst xs) → RpA K B2 xs ys → Q (.ref p) H2) → r vs H Q
theorem cb_weak {t : TA} {r : List V → Hp → VK → Prop} (ht : ∀ σ H Q, tA X.K δ ds σ H Q → t σ H Q) (hr : RC X.K r ds d) : ∀ σ H Q, tD X.K δ d σ H Q → tCB r t σ H Q := fun σ H Q ⟨B, F, W, q⟩ =>
  ht σ H _ ⟨B, F, W, fun vs B2 H2 g rr => hr B2 H2 vs Q g.bh rr fun v B3 H3 g3 r3 => q v B3 H3 (g.trans g3) r3⟩
theorem cbN_weak {ys : List PyData} {t : TA} {r : List V → Hp → VK → Prop} (ht : ∀ σ H Q, tA X.K δ ds σ H Q → t σ H Q) (hr : RCN X.K r ds ys) : ∀ σ H Q, tN X.K δ ys σ H Q → tCB r t σ H Q := fun σ H Q ⟨B, F, W, q⟩ =>
  ht σ H _ ⟨B, F, W, fun vs B2 H2 g rr => hr B2 H2 vs Q g.bh rr fun p xs B3 H3 g3 hp hb h3 r3 => q p xs B3 H3 (g.trans g3) (g.hh.free hp) hb h3 r3⟩
theorem xe_cb {x : Str} {id : String} {r : List V → Hp → VK → Prop} (hc : CallR X (.builtin id) r) (hm : X.mg x = none) (hv : bootBuiltins x = some (.builtin id)) (ha : XA X δ (e :: es) ds) (hr : RC X.K r ds d) (hg : Gl X x := by rfl) (hn : x ≠ "__name__" := by decide) (hdb : (x == ("__debug__" : Str)) = false := by decide)
    (he : starEach (e :: es) X.env = (false, eval e X.env) :: starEach es X.env := by rfl) (hpl : (backTo pos (starEach es X.env)).any (·.1) = false := by rfl) : XE X δ (.Call (.Name x p) (e :: es) [] pos) d :=
  (pe_callB hc hg hm hv ha hn hdb he hpl).weak (cb_weak (fun _ _ _ q => q) hr)
theorem xe_ct {x : Str} {id : String} {r : List V → Hp → VK → Prop} (hc : CallR X (.type id) r) (hm : X.mg x = none) (hv : bootBuiltins x = some (.type id)) (ha : XA X δ (e :: es) ds) (hr : RC X.K r ds d) (hg : Gl X x := by rfl) (hn : x ≠ "__name__" := by decide) (hdb : (x == ("__debug__" : Str)) = false := by decide)
    (he : starEach (e :: es) X.env = (false, eval e X.env) :: starEach es X.env := by rfl) (hpl : (backTo pos (starEach es X.env)).any (·.1) = false := by rfl) : XE X δ (.Call (.Name x p) (e :: es) [] pos) d :=
  (pe_callTy hc hg hm hv ha hn hdb he hpl).weak (cb_weak (fun _ _ _ q => q) hr)
theorem xn_ct {x : Str} {id : String} {ys : List PyData} {r : List V → Hp → VK → Prop} (hc : CallR X (.type id) r) (hm : X.mg x = none) (hv : bootBuiltins x = some (.type id)) (ha : XA X δ (e :: es) ds) (hr : RCN X.K r ds ys) (hg : Gl X x := by rfl) (hn : x ≠ "__name__" := by decide) (hdb : (x == ("__debug__" : Str)) = false := by decide)
    (he : starEach (e :: es) X.env = (false, eval e X.env) :: starEach es X.env := by rfl) (hpl : (backTo pos (starEach es X.env)).any (·.1) = false := by rfl) : XN X δ (.Call (.Name x p) (e :: es) [] pos) ys :=
  (pe_callTy hc hg hm hv ha hn hdb he hpl).weak (cbN_weak (fun _ _ _ q => q) hr)
inductive LenD : PyData → Nat → Prop
  | lst (ds : List PyData) : LenD (.list ds) ds.length
  | tup (ds : List PyData) : LenD (.tuple ds) ds.length
  | str (x : Str) (hz : x.length ≤ sizeLine) : LenD (.str x) x.length
theorem xe_len {n : Nat} (hm : X.mg "len" = none) (ha : XE X δ a d) (h : LenD d n) (hg : Gl X "len" := by rfl) (hs : starEach [a] X.env = (false, eval a X.env) :: starEach [] X.env := by rfl) : XE X δ (.Call (.Name "len" p) [a] [] pos) (.int n) :=
  xe_cb call_len hm PySem.boot_len (xa_cons ha xa_nil hs) (fun B H vs Q s r q => by
    cases r with
    | @cons v _ _ _ r1 r2 =>
      cases r2
      refine ⟨v, n, rfl, ?_, q _ B H (Grow.refl s) (.int _)⟩
      cases h with
      | lst ds =>
        cases r1 with
        | lst h1 r1 => exact .inl ⟨_, SqL.of (s _ _ h1), r1.length.symm⟩
      | tup ds =>
        cases r1 with
        | tup h1 r1 => exact .inr ⟨_, same_t s h1, r1.length.symm⟩
      | str x hz =>
        cases r1
        exact ⟨hz, rfl⟩) hg (he := hs)
theorem xe_max2 {i j : Int} (hm : X.mg "max" = none) (ha : XE X δ a (.int i)) (hb : XE X δ b (.int j)) (hc : X.calm = true := by rfl) (hg : Gl X "max" := by rfl) (hs : starEach [a, b] X.env = (false, eval a X.env) :: starEach [b] X.env := by rfl)
    (hs2 : starEach [b] X.env = (false, eval b X.env) :: starEach [] X.env := by rfl) (hpl : (backTo pos (starEach [b] X.env)).any (·.1) = false := by rfl) : XE X δ (.Call (.Name "max" p) [a, b] [] pos) (.int (if j > i then j else i)) :=
  xe_cb (call_max2 hc) hm boot_max (xa_cons ha (xa_cons hb xa_nil hs2) hs) (fun B H vs Q s r q => by
    cases r with
    | cons r1 r2 =>
      cases r2 with
      | cons r3 r4 =>
        cases r4
        cases r1
        cases r3
        exact ⟨i, j, rfl, q _ B H (Grow.refl s) (.int _)⟩) hg (he := hs) (hpl := hpl)
theorem xe_min2 {i j : Int} (hm : X.mg "min" = none) (ha : XE X δ a (.int i)) (hb : XE X δ b (.int j)) (hc : X.calm = true := by rfl) (hg : Gl X "min" := by rfl) (hs : starEach [a, b] X.env = (false, eval a X.env) :: starEach [b] X.env := by rfl)
    (hs2 : starEach [b] X.env = (false, eval b X.env) :: starEach [] X.env := by rfl) (hpl : (backTo pos (starEach [b] X.env)).any (·.1) = false := by rfl) : XE X δ (.Call (.Name "min" p) [a, b] [] pos) (.int (if j < i then j else i)) :=
  xe_cb (call_min2 hc) hm boot_min (xa_cons ha (xa_cons hb xa_nil hs2) hs) (fun B H vs Q s r q => by
    cases r with
    | cons r1 r2 =>
      cases r2 with
      | cons r3 r4 =>
        cases r4
        cases r1
        cases r3
        exact ⟨i, j, rfl, q _ B H (Grow.refl s) (.int _)⟩) hg (he := hs) (hpl := hpl)
inductive SeqD : PyData → List PyData → Prop
  | lst (ds : List PyData) : SeqD (.list ds) ds
  | tup (ds : List PyData) : SeqD (.tuple ds) ds
/-- list(x) -/
theorem xn_listOf {ys : List PyData} (hm : X.mg "list" = none) (ha : XE X δ a d) (h : SeqD d ys) (hg : Gl X "list" := by rfl) (hs : starEach [a] X.env = (false, eval a X.env) :: starEach [] X.env := by rfl) : XN X δ (.Call (.Name "list" p) [a] [] pos) ys :=
  xn_ct call_list_of hm boot_list (xa_cons ha xa_nil hs) (fun B H vs Q s r q => by
    cases r with
    | @cons v _ _ _ r1 r2 =>
      cases r2
      cases h with
      | lst ds =>
        cases r1 with
        | @lst a xs _ h1 r1 => exact ⟨a, xs, rfl, .inl (SqL.of (s _ _ h1)), fun l hl => q l xs _ _ (Grow.newH s hl) hl (s.free hl) upd_same r1⟩
      | tup ds =>
        cases r1 with
        | @tup a xs _ h1 r1 => exact ⟨a, xs, rfl, .inr (same_t s h1), fun l hl => q l xs _ _ (Grow.newH s hl) hl (s.free hl) upd_same r1⟩) hg (he := hs)
/-- tuple(x) -/
theorem xe_tupleOf {ys : List PyData} (hm : X.mg "tuple" = none) (ha : XE X δ a d) (h : SeqD d ys) (hg : Gl X "tuple" := by rfl) (hs : starEach [a] X.env = (false, eval a X.env) :: starEach [] X.env := by rfl) : XE X δ (.Call (.Name "tuple" p) [a] [] pos) (.tuple ys) :=
  xe_ct call_tuple_of hm boot_tuple (xa_cons ha xa_nil hs) (fun B H vs Q s r q => by
    cases r with
    | @cons v _ _ _ r1 r2 =>
      cases r2
      cases h with
      | lst ds =>
        cases r1 with
        | @lst a xs _ h1 r1 => exact ⟨a, xs, rfl, .inl ⟨SqL.of (s _ _ h1), fun l hl => q _ _ _ (Grow.new (o := .tup xs) s hl) (.tup (.inl (.inl upd_same)) (r1.mono (same_upd (s.free hl))))⟩⟩
      | tup ds =>
        cases r1 with
        | @tup a xs _ h1 r1 => exact ⟨a, xs, rfl, .inr ⟨same_t s h1, q _ B H (Grow.refl s) (.tup h1 r1)⟩⟩) hg (he := hs)
theorem xe_intI {i : Int} (hm : X.mg "int" = none) (ha : XE X δ a (.int i)) (hg : Gl X "int" := by rfl) (hs : starEach [a] X.env = (false, eval a X.env) :: starEach [] X.env := by rfl) : XE X δ (.Call (.Name "int" p) [a] [] pos) (.int i) :=
  xe_ct call_int1 hm boot_int (xa_cons ha xa_nil hs) (fun B H vs Q s r q => by
    cases r with
    | cons r1 r2 =>
      cases r2
      cases r1
      exact .inl ⟨i, rfl, q _ B H (Grow.refl s) (.int _)⟩) hg (he := hs)
theorem xe_sum {ns : List Int} (hm : X.mg "sum" = none) (ha : XE X δ a (.list (ns.map .int))) (hc : X.calm = true := by rfl) (hg : Gl X "sum" := by rfl) (hs : starEach [a] X.env = (false, eval a X.env) :: starEach [] X.env := by rfl) : XE X δ (.Call (.Name "sum" p) [a] [] pos) (.int ns.sum) :=
  xe_cb (cr_sum hc) hm boot_sum (xa_cons ha xa_nil hs) (fun B H vs Q s r q => by
    cases r with
    | cons r1 r2 =>
      cases r2
      cases r1 with
      | @lst a xs _ h1 r1 =>
        rw [r1.ints_inv] at h1
        exact ⟨a, ns, rfl, SqL.of (s _ _ h1), q _ B H (Grow.refl s) (.int _)⟩) hg (he := hs)
theorem xe_all {ns : List Bool} (hm : X.mg "all" = none) (ha : XE X δ a (.list (ns.map .bool))) (hc : X.calm = true := by rfl) (hg : Gl X "all" := by rfl) (hs : starEach [a] X.env = (false, eval a X.env) :: starEach [] X.env := by rfl) : XE X δ (.Call (.Name "all" p) [a] [] pos) (.bool (ns.all id)) :=
  xe_cb (cr_all hc) hm boot_all (xa_cons ha xa_nil hs) (fun B H vs Q s r q => by
    cases r with
    | cons r1 r2 =>
      cases r2
      cases r1 with
      | @lst a xs _ h1 r1 =>
        rw [r1.bls_inv] at h1
        exact ⟨a, ns, rfl, SqL.of (s _ _ h1), q _ B H (Grow.refl s) (.bl _)⟩) hg (he := hs)
theorem xe_any {ns : List Bool} (hm : X.mg "any" = none) (ha : XE X δ a (.list (ns.map .bool))) (hc : X.calm = true := by rfl) (hg : Gl X "any" := by rfl) (hs : starEach [a] X.env = (false, eval a X.env) :: starEach [] X.env := by rfl) : XE X δ (.Call (.Name "any" p) [a] [] pos) (.bool (ns.any id)) :=
  xe_cb (cr_any hc) hm boot_any (xa_cons ha xa_nil hs) (fun B H vs Q s r q => by
    cases r with
    | cons r1 r2 =>
      cases r2
      cases r1 with
      | @lst a xs _ h1 r1 =>
        rw [r1.bls_inv] at h1
        exact ⟨a, ns, rfl, SqL.of (s _ _ h1), q _ B H (Grow.refl s) (.bl _)⟩) hg (he := hs)
/-! ### isinstance of data -/
def tyD : PyData → String
  | .none => "NoneType"
  | .bool _ => "bool"
  | .int _ => "int"
  | .str _ => "str"
  | .list _ => "list"
  | .tuple _ => "tuple"
  | .dict _ => "dict"
theorem ty_of {K : PySem.W.Frag} {B H : Hp} {x : V} (s : Same B H) (r : Rp K B x d) : TyX K H x (.type (tyD d)) := by
  cases r with
  | non => exact .base .non
  | bl b => exact .base (.bl b)
  | int i => exact .base (.int i)
  | str x => exact .base (.str x)
  | @lst a xs ds h q => exact .base (.lst (s _ _ h))
  | @tup a xs ds h q =>
    rcases h with (h | ⟨o, h⟩) | ⟨o, _, _, h1, h2, _⟩
    · exact .base (.tup (s _ _ h))
    · exact .fTuple (s _ _ h)
    · exact .kTuple h1 h2
  | dic h => exact .base (.dK (s _ _ h))
theorem xe_isi {T : String} {x : Str} {k : Bool} (hm : X.mg "isinstance" = none) (ha : XE X δ a d) (hm2 : X.mg x = none) (hv : bootBuiltins x = some (.type T)) (hk : kitB (tyD d) T = some k) (hg : Gl X "isinstance" := by rfl) (hg2 : Gl X x := by rfl) {p2 : Pos}
    (hs : starEach [a, .Name x p2] X.env = (false, eval a X.env) :: starEach [.Name x p2] X.env := by rfl) (hs2 : starEach [.Name x p2] X.env = (false, eval (.Name x p2) X.env) :: starEach [] X.env := by rfl) (hpl : (backTo pos (starEach [.Name x p2] X.env)).any (·.1) = false := by rfl)
    (hn : x ≠ "__name__" := by decide) (hd : (x == ("__debug__" : Str)) = false := by decide) : XE X δ (.Call (.Name "isinstance" p) [a, .Name x p2] [] pos) (.bool k) :=
  (pe_callB call_isi hg hm boot_isinstance (pa_cons ha (pa_cons (pe_bltn (v := .ty T) hg2 hm2 hv rfl hn hd) pa_nil hs2) hs) (by decide) (by decide) hs hpl).weak fun σ H Q ⟨B, F, W, q⟩ => ⟨B, F, W, fun v B2 H2 g r =>
    ⟨v, .ty T, .type (tyD d), .type T, k, rfl, .ty T, ty_of g.bh r, kit_ty hk, q _ B2 H2 g (.bl _)⟩⟩
def isBoolD : PyData → Bool
  | .bool _ => true
  | _ => false
def isIntD : PyData → Bool
  | .bool _ => true
  | .int _ => true
  | _ => false
def isStrD : PyData → Bool
  | .str _ => true
  | _ => false
def isListD : PyData → Bool
  | .list _ => true
  | _ => false
def isTupleD : PyData → Bool
  | .tuple _ => true
  | _ => false
def isDictD : PyData → Bool
  | .dict _ => true
  | _ => false
def isRowD : PyData → Bool
  | .list _ => true
  | .tuple _ => true
  | _ => false
theorem kit_bool (d : PyData) : kitB (tyD d) "bool" = some (isBoolD d) := by cases d <;> kernel_rfl
theorem kit_int (d : PyData) : kitB (tyD d) "int" = some (isIntD d) := by cases d <;> kernel_rfl
theorem kit_str (d : PyData) : kitB (tyD d) "str" = some (isStrD d) := by cases d <;> kernel_rfl
theorem kit_list (d : PyData) : kitB (tyD d) "list" = some (isListD d) := by cases d <;> kernel_rfl
theorem kit_tuple (d : PyData) : kitB (tyD d) "tuple" = some (isTupleD d) := by cases d <;> kernel_rfl
theorem kit_dict (d : PyData) : kitB (tyD d) "dict" = some (isDictD d) := by cases d <;> kernel_rfl
def kitAnyB (t : String) : List String → Option Bool
  | [] => some false
  | c :: r => match kitB t c with
    | some true => some true
    | some false => kitAnyB t r
    | none => none
theorem kit_row (d : PyData) : kitAnyB (tyD d) ["list", "tuple"] = some (isRowD d) := by cases d <;> kernel_rfl
theorem kitAny_of {K : PySem.W.Frag} {t : String} : ∀ {cs : List String} {k : Bool}, kitAnyB t cs = some k → PySem.W.kitAny K (.type t) (cs.map Value.type) = some k
  | [], k, h => h
  | c :: r, k, h => by
    unfold kitAnyB at h
    rw [List.map_cons]
    cases e : kitB t c with
    | none => rw [e] at h; cases h
    | some m =>
      rw [e] at h
      refine kitAny_cons (kit_ty e) (fun hm => ?_) fun hm => ?_
      · subst hm
        exact kitAny_of h
      · subst hm
        exact (Option.some.inj h).symm
theorem xe_isi2 {T U : String} {x y : Str} {k : Bool} (hm : X.mg "isinstance" = none) (ha : XE X δ a d) (hm2 : X.mg x = none) (hv : bootBuiltins x = some (.type T)) (hm3 : X.mg y = none) (hv3 : bootBuiltins y = some (.type U)) (hk : kitAnyB (tyD d) [T, U] = some k) {p2 p3 p4 : Pos} {x1}
    (hg : Gl X "isinstance" := by rfl) (hg2 : Gl X x := by rfl) (hg3 : Gl X y := by rfl)
    (hs : starEach [a, .Tuple [.Name x p2, .Name y p3] x1 p4] X.env = (false, eval a X.env) :: starEach [.Tuple [.Name x p2, .Name y p3] x1 p4] X.env := by rfl) (hs2 : starEach [.Tuple [.Name x p2, .Name y p3] x1 p4] X.env = (false, eval (.Tuple [.Name x p2, .Name y p3] x1 p4) X.env) :: starEach [] X.env := by rfl)
    (hpl : (backTo pos (starEach [.Tuple [.Name x p2, .Name y p3] x1 p4] X.env)).any (·.1) = false := by rfl)
    (hs3 : starEach [.Name x p2, .Name y p3] X.env = (false, eval (.Name x p2) X.env) :: starEach [.Name y p3] X.env := by rfl) (hs4 : starEach [.Name y p3] X.env = (false, eval (.Name y p3) X.env) :: starEach [] X.env := by rfl)
    (hn : x ≠ "__name__" := by decide) (hd : (x == ("__debug__" : Str)) = false := by decide) (hn2 : y ≠ "__name__" := by decide) (hd2 : (y == ("__debug__" : Str)) = false := by decide) :
    XE X δ (.Call (.Name "isinstance" p) [a, .Tuple [.Name x p2, .Name y p3] x1 p4] [] pos) (.bool k) :=
  (pe_callB call_isiT hg hm boot_isinstance (pa_cons ha (pa_cons (pe_tup (pa_cons (pe_bltn (v := .ty T) hg2 hm2 hv rfl hn hd) (pa_cons (pe_bltn (v := .ty U) hg3 hm3 hv3 rfl hn2 hd2) pa_nil hs4) hs3)) pa_nil hs2) hs) (by decide) (by decide) hs hpl).weak fun σ H Q ⟨B, F, W, q⟩ =>
    ⟨B, F, W, fun v B2 H2 g r => ⟨sz_of (by show 2 ≤ 1000000; decide), fun l hl => by
      have g2 := Grow.newH (o := .tup [V.ty T, V.ty U]) g.bh hl
      exact ⟨v, l, [.ty T, .ty U], .type (tyD d), [.type T, .type U], k, rfl, upd_same, .cons (.ty T) (.cons (.ty U) .nil), ty_of g2.bh r, kitAny_of (cs := [T, U]) hk, q _ _ _ (g.trans g2) (.bl _)⟩⟩⟩

/-! ### the promise of a def that is a function of data -/
def SpP (K : PySem.W.Frag) (f : List PyData → PyData → Prop) : Sp := fun vs H Q _ => ∃ B ds d, Same B H ∧ RpA K B vs ds ∧ f ds d ∧ ∀ v B2 H2, Grow B H B2 H2 → Rp K B2 v d → Q v H2
/-- a def of the module that keeps a promise -/
structure Def (P : Program) (w : World) (K : PySem.W.Frag) (mg : Str → Option Value) (base : Heap) (k : Nat) (x : Str) (ps : List Str) (sp : Sp) : Prop where
  ex : ∃ f fd, mg x = some (.ref f) ∧ PySem.W.keepIn K (.ref f) = true ∧ Binds K fd ps [] ∧ FnOk P w K mg base CX0 k f fd ps sp
theorem Def.mono {P : Program} {w : World} {K : PySem.W.Frag} {mg : Str → Option Value} {base : Heap} {j k : Nat} {x : Str} {ps : List Str} {sp : Sp} (h : Def P w K mg base j x ps sp) (hk : j ≤ k) : Def P w K mg base k x ps sp := by
  obtain ⟨f, fd, h1, h2, h3, h4⟩ := h.ex
  exact ⟨f, fd, h1, h2, h3, h4.mono hk⟩
theorem xe_call {k : Nat} {x : Str} {ps : List Str} {f : List PyData → PyData → Prop} (G : Def X.prog X.w X.K X.mg X.base k x ps (SpP X.K f)) (hr : Room k X.A) (ha : XA X δ (e :: es) ds) (hf : f ds d) (hg : Gl X x := by rfl) (hdb : (x == ("__debug__" : Str)) = false := by decide)
    (he : starEach (e :: es) X.env = (false, eval e X.env) :: starEach es X.env := by rfl) (hpl : (backTo pos (starEach es X.env)).any (·.1) = false := by rfl) : XE X δ (.Call (.Name x p) (e :: es) [] pos) d := by
  obtain ⟨fa, fd, h1, h2, h3, h4⟩ := G.ex
  exact (pe_call h4 hr hg h1 h2 h3 .nil pass0 ha hdb he hpl).weak fun σ H Q ⟨B, F, W, q⟩ => ⟨B, F, W, fun vs B2 H2 g r => by
    show SpP X.K f (vs ++ []) H2 Q E0
    rw [List.append_nil]
    exact ⟨B2, ds, d, g.bh, r, hf, fun v B3 H3 g3 r3 => q v B3 H3 (g.trans g3) r3⟩⟩
/-- what the top has written of a def -/
structure At (K : PySem.W.Frag) (mg : Str → Option Value) (x : Str) (st : Stmt) (ps : List Str) : Prop where
  ex : ∃ f fd, mg x = some (.ref f) ∧ Fun K x x st f fd ∧ Binds K fd ps []
def startD (N : List Str) (δ : List Slot) : List Slot := δ ++ List.replicate (N.length - δ.length) .no
theorem envOk_dat {K : PySem.W.Frag} {B H : Hp} {vs : List V} (s : Same B H) (r : RpA K B vs ds) (N : List Str) : Wf K B H (L2.start N vs) (startD N (ds.map .dat)) (fun _ => []) where
  bh := s
  len := by
    unfold L2.start startD
    simp only [List.length_append, List.length_map, List.length_replicate, r.length]
  sl := fun i t e => by
    unfold startD at e
    unfold L2.start
    by_cases hi : i < ds.length
    · rw [List.getElem?_append_left (by rw [List.length_map]; exact hi), List.getElem?_map] at e
      rw [List.getElem?_append_left (by rw [List.length_map, r.length]; exact hi), List.getElem?_map]
      have hd : ds[i]? = some ds[i] := List.getElem?_eq_getElem hi
      rw [hd] at e
      cases e
      obtain ⟨v, h1, h2⟩ := r.getD hd
      rw [h1]
      exact ⟨some v, rfl, rfl, h2⟩
    · rw [List.getElem?_append_right (by rw [List.length_map]; omega)] at e
      rw [List.getElem?_append_right (by rw [List.length_map, r.length]; omega)]
      have h1 := (List.getElem?_eq_some_iff.mp e)
      obtain ⟨h2, h3⟩ := h1
      rw [List.getElem_replicate] at h3
      subst h3
      simp only [List.length_replicate, List.length_map] at h2
      refine ⟨none, ?_, rfl⟩
      have := r.length
      rw [List.getElem?_replicate, if_pos]
      simp only [List.length_map]
      omega
  out := fun _ _ => rfl
  dis := fun i j a h _ => nomatch h
  own := fun i a h => nomatch h
section
variable {P : Program} {w : World} {K : PySem.W.Frag} {mg : Str → Option Value} {base : Heap}
/-- THE RULE for a def that is a function of data -/
theorem def_pure {x : Str} {st : Stmt} {N ps : List Str} {k : Nat} {f : List PyData → PyData → Prop} (A : At K mg x st ps) (S : FnScope N ps (defScope st)) (len : ∀ ds d, f ds d → ds.length = ps.length)
    (body : ∀ (X : Cx), (∃ (fa : Addr) (cdv : Value) (A : Around) (outer : List Env) (s : Shared) (H : Hp) (E : XK), Room k (A.deeper (envOfC x (defScope st) s.heap.objs.size fa cdv)) ∧ X = (cxOf CX0 P w K mg base N x (defScope st) fa cdv A outer s H E).nox) → ∀ ds d, f ds d → XB X (startD N (ds.map .dat)) (defBody st) { rt := fun d' _ => d' = d, nx := fun _ => d = .none }) :
    Def P w K mg base (k + 1) x ps (SpP K f) := by
  obtain ⟨fa, fd, h1, h2, h3⟩ := A.ex
  refine ⟨fa, fd, h1, h2.kp, h3, h2.ok S (fun vs H Q E h => ?_) (fun cdv A outer s H vs Q E hr h => ?_)⟩
  · obtain ⟨B, ds, d, _, r, hf, _⟩ := h
    rw [r.length]
    exact len ds d hf
  · obtain ⟨B, ds, d, sm, r, hf, q⟩ := h
    refine ⟨_, body _ ⟨fa, cdv, A, outer, s, H, E, hr, rfl⟩ ds d hf, ?_⟩
    refine ts_iff.mpr ⟨B, _, envOk_dat sm r N, ?_, ?_, fun _ _ _ _ _ _ _ h => h.elim, fun _ _ _ _ _ _ _ h => h.elim, fun _ _ _ _ _ _ _ _ h => h.elim, trivial⟩
    · intro σ2 δ2 B2 H2 F2 s2 W2 e
      have e : d = .none := e
      subst e
      exact q .non B2 H2 ⟨s2.bb, W2.bh, fun b o hb => s2.keep b o hb (fun _ z => nomatch z), fun b o hb => s2.fr b o hb (fun _ z => nomatch z)⟩ .non
    · intro v d' σ2 δ2 B2 H2 F2 s2 W2 e r2
      have e : d' = d := e
      subst e
      exact q v B2 H2 ⟨s2.bb, W2.bh, fun b o hb => s2.keep b o hb (fun _ z => nomatch z), fun b o hb => s2.fr b o hb (fun _ z => nomatch z)⟩ r2
end
end
end Dl

set_option Elab.async false
set_option linter.all false
set_option maxRecDepth 100000
set_option maxHeartbeats 4000000
/-! The data level: further statements. -/
namespace Dl
open PySem PySem.Spec PyProof.Rows L2
section
variable {X : Cx} {δ δ2 : List Slot} {a b c e tg iter : Expr} {pos p : Pos} {ds ys : List PyData} {es : List Expr} {d d1 d2 : PyData} {rest : List Stmt} {R : Post} {st : Stmt}
theorem tn_td {K : PySem.W.Frag} {σ : L2.St} {H : Hp} {Q : VK} (h : tD K δ (.list ds) σ H Q) : tN K δ ds σ H Q := by
  obtain ⟨B, F, W, q⟩ := h
  exact ⟨B, F, W, fun p xs B2 H2 g hp hb h2 r => q _ _ _ (grow_froz g hp hb h2) (.lst upd_same (r.mono (same_upd hb)))⟩
theorem xs_frz {i : Nat} (h : PS X st (tAsg (tN X.K δ ds) (gName i))) : PS X st (tAsg (tD X.K δ (.list ds)) (gName i)) := PS.weak h fun D σ H q => tn_td q
/-- y = [.. for ..], y a local -/
theorem xb_lc (i : Nat) {y : Str} {py : Pos} (h : XL X δ e ys) (k : XB X (δ.set i (.dat (.list ys))) rest R) (hN : X.N.Nodup) (hy : X.N[i]? = some y := by rfl) (hyl : X.env.scope.names.lookup y = some .local := by rfl)
    (hsw : swapsWith e (some (.Name y py)) pos.line X.env = pure true := by exact sw_true rfl rfl rfl (by kernel_rfl)) : XB X δ (.Assign [.Name y py] e pos :: rest) R := xb_set (xs_frz (h.set i hN hy hyl hsw)) k
theorem xb_lcA (i : Nat) {y : Str} {py : Pos} (h : XL X δ e ys) (k : XB X (δ.set i (.own (accR X.K ys))) rest R) (hN : X.N.Nodup) (hl : i < δ.length := by exact Nat.le_of_ble_eq_true rfl) (hy : X.N[i]? = some y := by rfl) (hyl : X.env.scope.names.lookup y = some .local := by rfl)
    (hsw : swapsWith e (some (.Name y py)) pos.line X.env = pure true := by exact sw_true rfl rfl rfl (by kernel_rfl)) : XB X δ (.Assign [.Name y py] e pos :: rest) R := xb_setA (h.set i hN hy hyl hsw) hl k
/-- walked as it lies -/
theorem xi_id (h : XI X tg δ iter ds) : XI X tg δ iter (ds.map id) := by rw [List.map_id]; exact h
/-! ### x op= e -/
theorem pip_of {op : Operator} {r : R2} (h : OpR X (inplaceOp op) r) : PIp X op r := fun pins s σ H x y v u Q I rx ry q => h pins s σ H x y v u Q I rx ry q
theorem xb_aug {op : Operator} {r : R2} (i : Nat) {x : Str} (ho : OpR X (inplaceOp op) r) (hd : δ[i]? = some (.dat d1)) (he : XE X δ e d2) (hr : RD X.K r d1 d2 d) (k : XB X (δ.set i (.dat d)) rest R) (hN : X.N.Nodup) (hi : X.N[i]? = some x := by rfl)
    (hx : Loc X.env.scope x := by first | exact Or.inl rfl | exact Or.inr rfl) (hf : X.fn x = true ∨ X.env.scope.names.lookup x = some .local := by first | exact .inl rfl | exact .inr rfl) : XB X δ (.AugAssign (.Name x p) op e pos :: rest) R := xb_cons (ps_aug hN hi hx he (pip_of ho) hf) k fun D σ H B F W o => by
  obtain ⟨v, h1, r1⟩ := W.dat hd
  exact ⟨v, h1, B, F, W, fun y B2 H2 g r2 => hr B2 H2 v y _ g.bh (r1.mono g.bb) r2 fun z B3 H3 g3 r3 =>
    ts_iff.mpr ⟨B3, _, ((W.grow g).grow g3).put (s := .dat d) ⟨rfl, r3⟩, o.step ((Step.of (g.trans g3)).sub cut_sub)⟩⟩
theorem xb_augAdd (i : Nat) {x : Str} {n m : Int} (hd : δ[i]? = some (.dat (.int n))) (he : XE X δ e (.int m)) (k : XB X (δ.set i (.dat (.int (n + m)))) rest R) (hN : X.N.Nodup) (hi : X.N[i]? = some x := by rfl)
    (hx : Loc X.env.scope x := by first | exact Or.inl rfl | exact Or.inr rfl) (hf : X.fn x = true ∨ X.env.scope.names.lookup x = some .local := by first | exact .inl rfl | exact .inr rfl) : XB X δ (.AugAssign (.Name x p) .Add e pos :: rest) R := xb_aug i iop_add hd he (rd_I0 fun _ => .int _) k hN hi hx hf
theorem xb_augOr (i : Nat) {x : Str} {n m : Int} (hd : δ[i]? = some (.dat (.int n))) (he : XE X δ e (.int m)) (k : XB X (δ.set i (.dat (.int (Builtin.bitOr n m)))) rest R) (hN : X.N.Nodup) (hi : X.N[i]? = some x := by rfl)
    (hx : Loc X.env.scope x := by first | exact Or.inl rfl | exact Or.inr rfl) (hf : X.fn x = true ∨ X.env.scope.names.lookup x = some .local := by first | exact .inl rfl | exact .inr rfl) : XB X δ (.AugAssign (.Name x p) .BitOr e pos :: rest) R := xb_aug i iop_or hd he (rd_I0 fun _ => .int _) k hN hi hx hf
/-! ### owned lists -/
theorem Wf.acc {K : PySem.W.Frag} {B H : Hp} {σ : L2.St} {F : Nat → List Addr} (W : Wf K B H σ δ F) {i : Nat} (h : δ[i]? = some (.own (accR K ds))) : ∃ l xs, σ[i]? = some (some (.ref l)) ∧ F i = [l] ∧ H l = some (.lst xs) ∧ RpA K B xs ds ∧ B l = none := by
  obtain ⟨o, h1, h2⟩ := W.sl i _ h
  cases o with
  | none => exact h2.elim
  | some v =>
    obtain ⟨l, xs, rfl, h3, h4, h5⟩ := h2
    exact ⟨l, xs, h1, h3, h4, h5, (W.own i l (by rw [h3]; exact List.mem_singleton.mpr rfl)).1⟩
/-- the list of a slot is written -/
theorem Wf.accUpd {K : PySem.W.Frag} {B H : Hp} {σ : L2.St} {F : Nat → List Addr} (W : Wf K B H σ δ F) {i : Nat} {l : Addr} {xs : List V} (h : δ[i]? = some (.own (accR K ds))) (hs : σ[i]? = some (some (.ref l))) (hF : F i = [l]) (r : RpA K B xs ys) :
    Wf K B (upd H l (.lst xs)) σ (δ.set i (.own (accR K ys))) F ∧ Step B H F B (upd H l (.lst xs)) F := by
  have hl : i < δ.length := (List.getElem?_eq_some_iff.mp h).1
  have hb : B l = none := (W.own i l (by rw [hF]; exact List.mem_singleton.mpr rfl)).1
  have hne : ∀ j, j ≠ i → l ∉ F j := fun j hj hm => hj (W.dis j i l hm (by rw [hF]; exact List.mem_singleton.mpr rfl))
  refine ⟨⟨fun b o e => ?_, by rw [List.length_set]; exact W.len, fun j s e => ?_, fun j hj => W.out j (by rw [List.length_set] at hj; exact hj), W.dis, fun j a ha => ?_⟩, ⟨Same.refl B, fun b o e hn => ?_, fun _ _ _ _ => rfl, fun b o e => ?_, fun j b hb => .inl ⟨j, hb⟩⟩⟩
  · have : b ≠ l := fun z => by rw [z, hb] at e; cases e
    rw [upd_ne this]
    exact W.bh b o e
  · by_cases hj : j = i
    · subst hj
      rw [List.getElem?_set_self hl] at e
      cases e
      exact ⟨_, hs, l, xs, rfl, hF, upd_same, r⟩
    · rw [List.getElem?_set_ne (Ne.symm hj)] at e
      obtain ⟨o, h1, h2⟩ := W.sl j s e
      exact ⟨o, h1, h2.loc (Same.refl B) fun a ha => upd_ne fun z => hne j hj (z ▸ ha)⟩
  · obtain ⟨h1, o, h2⟩ := W.own j a ha
    refine ⟨h1, ?_⟩
    by_cases z : a = l
    · rw [z, upd_same]; exact ⟨_, rfl⟩
    · rw [upd_ne z]; exact ⟨o, h2⟩
  · have : b ≠ l := fun z => hn i (by rw [hF, z]; exact List.mem_singleton.mpr rfl)
    rw [upd_ne this]
    exact e
  · by_cases z : b = l
    · rw [z, upd_same]; exact ⟨_, rfl⟩
    · rw [upd_ne z]; exact ⟨o, e⟩
theorem tvar_acc {K : PySem.W.Frag} : True := trivial
/-- xs.append(e), xs a slot's own list -/
theorem xb_app (i : Nat) {x : Str} {p1 p2 : Pos} (h : δ[i]? = some (.own (accR X.K ds))) (he : XE X δ e d) (hz : ds.length < 1000000) (k : XB X (δ.set i (.own (accR X.K (ds ++ [d])))) rest R) (hi : X.N[i]? = some x := by rfl)
    (hv : Vis X.env.scope x := by first | exact Or.inl rfl | exact Or.inr (Or.inl rfl) | exact Or.inr (Or.inr rfl)) (hd : (x == ("__debug__" : Str)) = false := by decide) (hcd : (x == ("__classdict__" : Str)) = false := by decide)
    (hbase : attributeBase (.Name x p1) "append" X.env (eval (.Name x p1) X.env) = eval (.Name x p1) X.env := by rfl)
    (hfew : ((backTo p (starEach [e] X.env)).all (fun x => !x.1) && (backToKw p (keywordEach [] X.env)).all (fun x => x.1.isSome) && decide ([e].length + ([] : List Keyword).length + (if ([] : List Keyword).isEmpty then 0 else 1) < 30)) = true := by rfl)
    (hline : (p2.endLine == p.line) = true := by rfl) (hs : starEach [e] X.env = (false, eval e X.env) :: starEach [] X.env := by rfl) (hplain : (backTo p (starEach [] X.env)).any (·.1) = false := by rfl)
    (hsw : swapsWith (.Call (.Attribute (.Name x p1) "append" p2) [e] [] p) none pos.line X.env = pure false := by rfl) :
    XB X δ (.Expr (.Call (.Attribute (.Name x p1) "append" p2) [e] [] p) pos :: rest) R :=
  xb_cons (ps_expr (pe_bm PySem.F.plainAttrs_list PySem.F.slot_list_append PySem.F.type_list_append mt_append (pe_var (i := i) hi hv hd hcd) (pa_cons he pa_nil hs) hbase hfew hline hs hplain) hsw) k fun D σ H B F W o => by
    obtain ⟨l, xs, h1, h2, h3, h4, h5⟩ := W.acc h
    refine ⟨.ref l, h1, .inl ⟨rfl, xs, SqL.of h3⟩, B, F, W, fun v B2 H2 g r => ?_⟩
    refine ⟨l, xs, v, rfl, rfl, g.hh _ _ h3, Nat.lt_of_lt_of_le (by rw [h4.length]; exact hz) (sz_of (Nat.le_refl _)), ?_⟩
    obtain ⟨W2, s2⟩ := (W.grow g).accUpd h h1 h2 ((h4.mono g.bb).append (.cons r .nil))
    exact ts_iff.mpr ⟨B2, F, W2, o.step ((Step.of g).trans s2)⟩
/-- the slot's own list is given up: it stays as it is -/
theorem Wf.frz {K : PySem.W.Frag} {B H : Hp} {σ : L2.St} {F : Nat → List Addr} (W : Wf K B H σ δ F) {i : Nat} (h : δ[i]? = some (.own (accR K ds))) : ∃ B2 F2, Wf K B2 H σ (δ.set i (.dat (.list ds))) F2 ∧ Step B H F B2 H F2 := by
  obtain ⟨l, xs, h1, h2, h3, h4, h5⟩ := W.acc h
  have hl : i < δ.length := (List.getElem?_eq_some_iff.mp h).1
  have hne : ∀ j, j ≠ i → l ∉ F j := fun j hj hm => hj (W.dis j i l hm (by rw [h2]; exact List.mem_singleton.mpr rfl))
  have sb : Same B (upd B l (.lst xs)) := same_upd h5
  have W1 : Wf K (upd B l (.lst xs)) H σ (δ.set i .no) (fun j => if j = i then [] else F j) := by
    refine ⟨fun b o e => ?_, by rw [List.length_set]; exact W.len, fun j s e => ?_, fun j hj => ?_, fun j k a ha hb => ?_, fun j a ha => ?_⟩
    · by_cases z : b = l
      · rw [z, upd_same] at e
        cases e
        rw [z]
        exact h3
      · rw [upd_ne z] at e
        exact W.bh b o e
    · by_cases hj : j = i
      · subst hj
        rw [List.getElem?_set_self hl] at e
        cases e
        exact ⟨_, h1, if_pos rfl⟩
      · rw [List.getElem?_set_ne (Ne.symm hj)] at e
        obtain ⟨o, a1, a2⟩ := W.sl j s e
        refine ⟨o, a1, ?_⟩
        rw [if_neg hj]
        exact a2.loc sb fun _ _ => rfl
    · by_cases hj : j = i
      · exact if_pos hj
      · rw [if_neg hj]
        rw [List.length_set] at *
        exact W.out j (by assumption)
    · by_cases hj : j = i
      · rw [if_pos hj] at ha
        cases ha
      · by_cases hk : k = i
        · rw [if_pos hk] at hb
          cases hb
        · rw [if_neg hj] at ha
          rw [if_neg hk] at hb
          exact W.dis j k a ha hb
    · by_cases hj : j = i
      · rw [if_pos hj] at ha
        cases ha
      · rw [if_neg hj] at ha
        obtain ⟨a1, a2⟩ := W.own j a ha
        refine ⟨?_, a2⟩
        rw [upd_ne (show a ≠ l from fun z => hne j hj (by rw [← z]; exact ha))]
        exact a1
  have W2 := W1.put (i := i) (v := .ref l) (s := .dat (.list ds)) ⟨rfl, .lst upd_same (h4.mono sb)⟩
  have e1 : σ.set i (some (.ref l)) = σ := by
    apply List.ext_getElem?
    intro k
    by_cases hk : k = i
    · subst hk
      rw [List.getElem?_set_self (by rw [← W.len]; exact hl), h1]
    · rw [List.getElem?_set_ne (Ne.symm hk)]
  rw [e1, List.set_set] at W2
  refine ⟨_, _, W2, ⟨sb, fun b o e _ => e, fun b o e n => ?_, fun b o e => ⟨o, e⟩, fun j b hb => ?_⟩⟩
  · exact upd_ne fun z => n i (by rw [h2, z]; exact List.mem_singleton.mpr rfl)
  · by_cases hj : j = i
    · rw [if_pos hj] at hb
      cases hb
    · rw [if_neg hj, if_neg hj] at hb
      exact .inl ⟨j, hb⟩
theorem xb_frz (i : Nat) {sts : List Stmt} (h : δ[i]? = some (.own (accR X.K ds))) (k : XB X (δ.set i (.dat (.list ds))) sts R) : XB X δ sts R := PSs.weak k fun D σ H q => by
  obtain ⟨B, F, W, o⟩ := ts_iff.mp q
  obtain ⟨B2, F2, W2, s2⟩ := W.frz h
  exact ts_iff.mpr ⟨B2, F2, W2, o.step s2⟩
/-- len(xs), xs a slot's own list -/
theorem xe_lenA (i : Nat) {x : Str} {p1 : Pos} (hm : X.mg "len" = none) (h : δ[i]? = some (.own (accR X.K ds))) (hi : X.N[i]? = some x := by rfl) (hv : Vis X.env.scope x := by first | exact Or.inl rfl | exact Or.inr (Or.inl rfl) | exact Or.inr (Or.inr rfl)) (hd : (x == ("__debug__" : Str)) = false := by decide) (hcd : (x == ("__classdict__" : Str)) = false := by decide)
    (hg : Gl X "len" := by rfl) (hs : starEach [.Name x p1] X.env = (false, eval (.Name x p1) X.env) :: starEach [] X.env := by rfl) : XE X δ (.Call (.Name "len" p) [.Name x p1] [] pos) (.int ds.length) :=
  (pe_callB call_len hg hm PySem.boot_len (pa_cons (pe_var (i := i) hi hv hd hcd) pa_nil hs) (by decide) (by decide) hs (by rfl)).weak fun σ H Q ⟨B, F, W, q⟩ => by
    obtain ⟨l, xs, h1, h2, h3, h4, h5⟩ := W.acc h
    exact ⟨.ref l, h1, .ref l, ds.length, rfl, .inl ⟨xs, SqL.of h3, h4.length.symm⟩, q _ B H (Grow.refl W.bh) (.int _)⟩
/-- xs[k], xs a slot's own list -/
theorem xe_ixA (i : Nat) {x : Str} {p1 : Pos} {k : Int} (h : δ[i]? = some (.own (accR X.K ds))) (hb : XE X δ b (.int k)) (ha : atI ds k = some d) (hi : X.N[i]? = some x := by rfl) (hv : Vis X.env.scope x := by first | exact Or.inl rfl | exact Or.inr (Or.inl rfl) | exact Or.inr (Or.inr rfl)) (hd : (x == ("__debug__" : Str)) = false := by decide) (hcd : (x == ("__classdict__" : Str)) = false := by decide)
    (hs : PlainIx b := by exact fun _ _ => rfl) : XE X δ (.Subscript (.Name x p1) b pos) d :=
  (pe_ix ix_list (pe_var (i := i) hi hv hd hcd) hb hs).weak fun σ H Q ⟨B, F, W, q⟩ => by
    obtain ⟨l, xs, h1, h2, h3, h4, h5⟩ := W.acc h
    obtain ⟨v, e1, e2⟩ := atI_rp h4 ha
    refine ⟨.ref l, h1, B, F, W, fun y B2 H2 g r => ?_⟩
    cases r
    exact ⟨l, xs, k, v, rfl, rfl, SqL.of (g.hh _ _ h3), e1, q v B2 H2 g (e2.mono g.bb)⟩
/-- xs[k] = e, xs a slot's own list -/
theorem xb_setIx (i : Nat) {x : Str} {p1 p2 : Pos} {k : Int} {j : Nat} (h : δ[i]? = some (.own (accR X.K ds))) (he : XE X δ e d) (hb : XE X δ b (.int k)) (hj : ixN ds.length k = some j) (kk : XB X (δ.set i (.own (accR X.K (ds.set j d)))) rest R) (hi : X.N[i]? = some x := by rfl)
    (hv : Vis X.env.scope x := by first | exact Or.inl rfl | exact Or.inr (Or.inl rfl) | exact Or.inr (Or.inr rfl)) (hd : (x == ("__debug__" : Str)) = false := by decide) (hcd : (x == ("__classdict__" : Str)) = false := by decide)
    (hga : ∀ v, assign (.Subscript (.Name x p1) b p2) X.env v = (do let ov ← holding [v] (eval (.Name x p1) X.env); let iv ← holding [v, ov] (eval b X.env); standAt p2; holding [v, ov, iv] (setItem ov iv v); release [v, ov, iv] []) := by intro _; rfl)
    (hs : swapsWithSole [.Subscript (.Name x p1) b p2] e pos.line X.env = pure false := by rfl) (hw : swappedStores [.Subscript (.Name x p1) b p2] e X.env = pure none := by rfl)
    (h1 : (assignEach [.Subscript (.Name x p1) b p2] X.env).map (·.2) = [assign (.Subscript (.Name x p1) b p2) X.env] := by rfl) : XB X δ (.Assign [.Subscript (.Name x p1) b p2] e pos :: rest) R :=
  xb_cons (ps_asg he (pg_sub (pe_var (i := i) hi hv hd hcd) hb set_list hga) hs hw h1) kk fun D σ H B F W o => ⟨B, F, W, fun v B2 H2 g r => by
    have W2 := W.grow g
    obtain ⟨l, xs, h1, h2, h3, h4, h5⟩ := W2.acc h
    refine ⟨.ref l, h1, B2, F, W2, fun y B3 H3 g3 r3 => ?_⟩
    cases r3
    refine ⟨l, xs, k, j, rfl, rfl, g3.hh _ _ h3, by rw [h4.length]; exact hj, ?_⟩
    obtain ⟨W4, s4⟩ := (W2.grow g3).accUpd h h1 h2 ((h4.mono g3.bb).set j (r.mono g3.bb))
    exact ts_iff.mpr ⟨B3, F, W4, o.step ((Step.of (g.trans g3)).trans s4)⟩⟩
end
end Dl

set_option Elab.async false
set_option linter.all false
set_option maxRecDepth 100000
set_option maxHeartbeats 4000000
/-! Plain facts about trees: slices, items, what == tells. -/
namespace Dl
open PySem PySem.Spec PyProof.Rows L2
theorem cutD_init {α : Type} (l : List α) : cutD l none (some (-1)) = l.dropLast := by
  unfold cutD
  have h1 : HT.sIx l.length 0 none = 0 := rfl
  have h2 : HT.sIx l.length l.length (some (-1)) = l.length - 1 := by
    show (if (-1 : Int) < 0 then (-1 + (l.length : Int)).toNat else min (-1 : Int).toNat l.length) = _
    rw [if_pos (by decide)]
    omega
  rw [h1, h2, List.drop_zero, List.dropLast_eq_take]
  rfl
theorem cutD_last {α : Type} (l : List α) (a : α) : cutD (l ++ [a]) (some (-1)) none = [a] := by
  unfold cutD
  have h1 : HT.sIx (l ++ [a]).length 0 (some (-1)) = l.length := by
    show (if (-1 : Int) < 0 then (-1 + ((l ++ [a]).length : Int)).toNat else min (-1 : Int).toNat (l ++ [a]).length) = _
    rw [if_pos (by decide), List.length_append, List.length_singleton]
    omega
  have h2 : HT.sIx (l ++ [a]).length (l ++ [a]).length none = (l ++ [a]).length := rfl
  rw [h1, h2, List.drop_left, List.length_append, List.length_singleton, Nat.add_sub_cancel_left]
  rfl
theorem cutD_to {α : Type} (l : List α) (n : Nat) : cutD l none (some (n : Int)) = l.take n := by
  unfold cutD
  rw [HT.sIx_nat]
  have h1 : HT.sIx l.length 0 none = 0 := rfl
  rw [h1, List.drop_zero, Nat.sub_zero]
  by_cases h : n ≤ l.length
  · rw [Nat.min_eq_left h]
  · rw [Nat.min_eq_right (by omega), List.take_length, List.take_of_length_le (by omega)]
theorem cutD_from {α : Type} (l : List α) (n : Nat) : cutD l (some (n : Int)) none = l.drop n := by
  unfold cutD
  rw [HT.sIx_nat]
  have h1 : HT.sIx l.length l.length none = l.length := rfl
  rw [h1]
  by_cases h : n ≤ l.length
  · rw [Nat.min_eq_left h, List.take_of_length_le (by rw [List.length_drop]; exact Nat.le_refl _)]
  · rw [Nat.min_eq_right (by omega), List.drop_length, List.take_nil, List.drop_of_length_le (by omega)]
theorem cutD_map {α β : Type} (f : α → β) (l : List α) (lo hi : Option Int) : cutD (l.map f) lo hi = (cutD l lo hi).map f := by
  unfold cutD
  rw [List.map_take, List.map_drop, List.length_map]
theorem atI_map {α β : Type} (f : α → β) (l : List α) (i : Int) : atI (l.map f) i = (atI l i).map f := by
  unfold atI
  rw [List.length_map]
  cases ixN l.length i with
  | none => rfl
  | some j =>
    simp only [Option.bind_some]
    rw [List.getElem?_map]
mutual
/-- the trees that == is told of -/
def okD : PyData → Bool
  | .none | .bool _ | .int _ => true
  | .str x => PyData.canLay0 (.str x)
  | .list xs | .tuple xs => okA xs
  | .dict _ => false
def okA : List PyData → Bool
  | [] => true
  | x :: xs => okD x && okA xs
end
theorem lay_map {α : Type} (f : α → PyData) (h : ∀ a, PyData.canLay0 (f a) = true) : ∀ l : List α, PyData.canLayAll0 (l.map f) = true
  | [] => by simp [PyData.canLayAll0]
  | a :: r => by
    rw [List.map_cons]
    simp only [PyData.canLayAll0]
    rw [h a, lay_map f h r]
    rfl
theorem depth_map {α : Type} (f : α → PyData) (n : Nat) (h : ∀ a, PyData.depth (f a) ≤ n) : ∀ l : List α, PyData.depthAll (l.map f) ≤ n
  | [] => by simp [PyData.depthAll]
  | a :: r => by
    rw [List.map_cons]
    simp only [PyData.depthAll]
    have h1 := h a
    have h2 := depth_map f n h r
    omega
theorem shaped_bools (l : List Bool) : SeqAt.shaped (.list (l.map .bool)) = true := by
  unfold SeqAt.shaped
  have h1 : PyData.canLay0 (.list (l.map .bool)) = true := by
    simp only [PyData.canLay0]
    exact lay_map _ (fun _ => by simp [PyData.canLay0]) l
  have h2 := depth_map PyData.bool 0 (fun _ => by simp [PyData.depth]) l
  have h3 : PyData.depth (.list (l.map .bool)) = PyData.depthAll (l.map .bool) + 1 := by simp only [PyData.depth]
  rw [h1, h3, Bool.true_and, decide_eq_true_eq]
  omega
theorem shaped_boolsT (l : List Bool) : SeqAt.shaped (.tuple (l.map .bool)) = true := by
  unfold SeqAt.shaped
  have h1 : PyData.canLay0 (.tuple (l.map .bool)) = true := by
    simp only [PyData.canLay0]
    exact lay_map _ (fun _ => by simp [PyData.canLay0]) l
  have h2 := depth_map PyData.bool 0 (fun _ => by simp [PyData.depth]) l
  have h3 : PyData.depth (.tuple (l.map .bool)) = PyData.depthAll (l.map .bool) + 1 := by simp only [PyData.depth]
  rw [h1, h3, Bool.true_and, decide_eq_true_eq]
  omega
theorem eqv_bools : ∀ l m : List Bool, PyData.eqvAll (l.map .bool) (m.map .bool) = decide (l = m)
  | [], [] => by simp [PyData.eqvAll]
  | [], _ :: _ => by simp [PyData.eqvAll]
  | _ :: _, [] => by simp [PyData.eqvAll]
  | a :: l, b :: m => by
    rw [List.map_cons, List.map_cons]
    simp only [PyData.eqvAll, PyData.eqv]
    rw [eqv_bools l m]
    by_cases h : a = b <;> simp [h]
end Dl
namespace Dl
open PySem
theorem eqv_lb (l m : List Bool) : PyData.eqv (.list (l.map .bool)) (.list (m.map .bool)) = decide (l = m) := by simp only [PyData.eqv]; exact eqv_bools l m
theorem eqv_tb (l m : List Bool) : PyData.eqv (.tuple (l.map .bool)) (.tuple (m.map .bool)) = decide (l = m) := by simp only [PyData.eqv]; exact eqv_bools l m
theorem shaped_nil : SeqAt.shaped (.list []) = true := shaped_bools []
end Dl
namespace Dl
open PySem PySem.Spec PyProof.Rows L2
theorem intNe0 (k : Nat) : (((k : Nat) : Int) != 0) = !(k == 0) := by
  rw [bne]
  congr 1
  rw [Bool.eq_iff_iff]
  simp only [beq_iff_eq]
  omega
theorem xi_seq {X : Cx} {tg iter : Expr} {δ : List Slot} {d : PyData} {ds : List PyData} (h : XE X δ iter d) (hs : SeqD d ds) : XI X tg δ iter ds := by
  cases hs with
  | lst => exact xi_list h
  | tup => exact xi_tup h
end Dl
namespace Dl
open PySem PySem.Spec PyProof.Rows L2
theorem SeqD.ix {d e : PyData} {ds : List PyData} {i : Int} (h : SeqD d ds) (hi : atI ds i = some e) : IxD d i e := by
  cases h with
  | lst => exact .lst hi
  | tup => exact .tup hi
theorem SeqD.len {d : PyData} {ds : List PyData} (h : SeqD d ds) : LenD d ds.length := by
  cases h with
  | lst => exact .lst _
  | tup => exact .tup _
theorem SeqD.row {d : PyData} {ds : List PyData} (h : SeqD d ds) : isRowD d = true := by cases h <;> rfl
theorem SeqD.tru {d : PyData} {ds : List PyData} (h : SeqD d ds) : truD d = !ds.isEmpty := by cases h <;> rfl
theorem SeqD.truOk {d : PyData} {ds : List PyData} (h : SeqD d ds) : TruOk d := by cases h <;> trivial
theorem atI_bools (l : List Bool) {n : Nat} (h : n < l.length) : atI (l.map PyData.bool) (n : Int) = some (.bool (l.getD n false)) := by
  rw [atI_map, atI_nat (List.getElem?_eq_getElem h), List.getD_eq_getElem?_getD, List.getElem?_eq_getElem h]
  rfl
abbrev encPr (p : Bool × Bool) : PyData := .tuple [.bool p.1, .bool p.2]
theorem shaped_pair (p : Bool × Bool) : SeqAt.shaped (encPr p) = true := shaped_boolsT [p.1, p.2]
theorem shaped_pairs (l : List (Bool × Bool)) : SeqAt.shaped (.list (l.map encPr)) = true := by
  unfold SeqAt.shaped
  have h1 : PyData.canLay0 (.list (l.map encPr)) = true := by
    simp only [PyData.canLay0]
    exact lay_map _ (fun _ => by simp [PyData.canLay0, PyData.canLayAll0]) l
  have h2 := depth_map encPr 1 (fun _ => by simp [PyData.depth, PyData.depthAll]) l
  have h3 : PyData.depth (.list (l.map encPr)) = PyData.depthAll (l.map encPr) + 1 := by simp only [PyData.depth]
  rw [h1, h3, Bool.true_and, decide_eq_true_eq]
  omega
theorem any_pairs (l : List (Bool × Bool)) (p : Bool × Bool) : ((l.map encPr).any fun z => PyData.eqv z (encPr p)) = l.any fun z => z == p := by
  rw [List.any_map]
  congr 1
  funext z
  show PyData.eqv (encPr z) (encPr p) = (z == p)
  have := eqv_tb [z.1, z.2] [p.1, p.2]
  refine Eq.trans this ?_
  rw [Bool.eq_iff_iff]
  simp [Prod.ext_iff]
end Dl
namespace Dl
open PySem L2
theorem atI_hd {α : Type} (a : α) (l : List α) : atI (a :: l) 0 = some a := atI_nat (j := 0) rfl
end Dl

set_option Elab.async false
set_option linter.all false
set_option maxRecDepth 100000
set_option maxHeartbeats 4000000
/-! tuple * int, any small factor. -/
namespace Dl
open PySem PySem.Spec PyProof.Rows L2
/-- t * 1 is t itself -/
theorem tuple_mul1 (l : Addr) (items : Array Value) (n : Nat) (dd : Option Addr) (sl : Array (Option Value)) (u : Tok) (hc : items.isEmpty = false) :
    Meets (Builtin.«tuple.__mul__» ⟨[.ref l, .int 1 u], []⟩) (fun _ R s => s.heap.get? l = some { cls := .type "tuple", dict := dd, data := .seq items n, slots := sl } ∧ R (.ok (.ret (Value.ref l))) s) :=
  .of_wp fun prog w A R s h => by
    obtain ⟨hp, g, d, tk, os⟩ := s
    obtain ⟨hl, h⟩ := h
    have f1 := AutoSeq1.idx_int
    wp_walk using wpAny_loadPart' hl
    exact ⟨_, rfl, h⟩
theorem tuple_mul0 (l : Addr) (items : Array Value) (n : Nat) (dd : Option Addr) (sl : Array (Option Value)) (u : Tok) (hc : items.isEmpty = false) :
    Meets (Builtin.«tuple.__mul__» ⟨[.ref l, .int 0 u], []⟩) (fun _ R s => s.heap.get? l = some { cls := .type "tuple", dict := dd, data := .seq items n, slots := sl } ∧
      R (.ok (.ret (Value.ref s.heap.objs.size))) { s with heap := s.heap.push { cls := Value.type "tuple", data := Data.seq #[] }, toks := s.toks }) :=
  .of_wp fun prog w A R s h => by
    obtain ⟨hp, g, d, tk, os⟩ := s
    obtain ⟨hl, h⟩ := h
    have f1 := AutoSeq1.idx_int
    wp_walk using wpAny_loadPart' hl
    exact ⟨_, rfl, h⟩
def rRep1 (K : PySem.W.Frag) : R2 := fun x y H Q => ∃ l xs, x = .ref l ∧ y = .int 1 ∧ SqT K H l xs ∧ xs ≠ [] ∧ Q (.ref l) H
def rRep0 (K : PySem.W.Frag) : R2 := fun x y H Q => ∃ l xs, x = .ref l ∧ y = .int 0 ∧ SqT K H l xs ∧ xs ≠ [] ∧ ∀ p, H p = none → Q (.ref p) (upd H p (.tup []))
section
variable {X : Cx}
theorem its_ne {xs : List V} {its : List Value} (r : Vals xs its) (h : xs ≠ []) : its.toArray.isEmpty = false := by
  cases r with
  | nil => exact absurd rfl h
  | cons _ _ => rfl
theorem op_rep1 : OpR X (binaryOp .Mult) (rRep1 X.K) := by
  intro pins s σ H x y v u Q I rx ry h
  obtain ⟨l, xs, rfl, rfl, hT, hne, q⟩ := h
  cases rx
  obtain ⟨t, rfl⟩ := ry
  obtain ⟨its, r, ⟨⟨cls, dd, data, sl⟩, ho, hc, n, hd⟩, hs⟩ := I.tuple hT
  simp only at hc hd
  subst hc hd
  refine wpAny_binaryOp_repeat_ref (T := "tuple") (U := "int") (by decide) ⟨_, ho, rfl⟩ (fun s' => typeIs_int s' 1 t) noFill_tuple_mul F.fills_int_mul F.slot_int_rmul repeat_tuple F.slot_int_index.lookup
    (call_meets F.slot_int_rmul (typeIs_int s 1 t) F.entry_int_rmul (F.args_int_rmul_2 _ _) (int_rmul_tuple 1 t l its.toArray n dd sl)
      ⟨ho, rfl, ⟨_, ho, rfl⟩, call_meets F.slot_tuple_mul ⟨_, ho, rfl⟩ F.entry_tuple_mul (F.args_tuple_mul_2 _ _) (tuple_mul1 l its.toArray n dd sl t (its_ne r hne)) ⟨ho, ?_⟩⟩)
  exact ⟨.ref l, H, I, rfl, q⟩
theorem op_rep0 : OpR X (binaryOp .Mult) (rRep0 X.K) := by
  intro pins s σ H x y v u Q I rx ry h
  obtain ⟨l, xs, rfl, rfl, hT, hne, q⟩ := h
  cases rx
  obtain ⟨t, rfl⟩ := ry
  obtain ⟨its, r, ⟨⟨cls, dd, data, sl⟩, ho, hc, n, hd⟩, hs⟩ := I.tuple hT
  simp only at hc hd
  subst hc hd
  refine wpAny_binaryOp_repeat_ref (T := "tuple") (U := "int") (by decide) ⟨_, ho, rfl⟩ (fun s' => typeIs_int s' 0 t) noFill_tuple_mul F.fills_int_mul F.slot_int_rmul repeat_tuple F.slot_int_index.lookup
    (call_meets F.slot_int_rmul (typeIs_int s 0 t) F.entry_int_rmul (F.args_int_rmul_2 _ _) (int_rmul_tuple 0 t l its.toArray n dd sl)
      ⟨ho, rfl, ⟨_, ho, rfl⟩, call_meets F.slot_tuple_mul ⟨_, ho, rfl⟩ F.entry_tuple_mul (F.args_tuple_mul_2 _ _) (tuple_mul0 l its.toArray n dd sl t (its_ne r hne)) ⟨ho, ?_⟩⟩)
  refine ⟨.ref s.heap.objs.size, _, I.laid (t' := s.toks) (o := .tup []) (fun b ob q => Heap.get?_push_of_some _ q) (Nat.le_refl _) ?_, rfl, q _ (I.hok.fresh (Nat.le_refl _))⟩
  exact ⟨Nat.zero_le _, [], .nil, IsTup.new _ _⟩
/-- t * k, a tuple that is not empty, 0 ≤ k ≤ 1000 -/
theorem xe_repT {δ : List Slot} {a b : Expr} {pos : Pos} {xs : List PyData} {k : Nat} (ha : XE X δ a (.tuple xs)) (hb : XE X δ b (.int (k : Nat))) (hk : k ≤ 1000) (hn : xs ≠ []) (hz : xs.length ≤ 1000) : XE X δ (.BinOp a .Mult b pos) (.tuple (List.replicate k xs).flatten) := by
  by_cases k0 : k = 0
  · subst k0
    refine xe_op op_rep0 ha hb fun B H x y Q s rx ry q => ?_
    cases ry
    cases rx with
    | @tup a us _ h1 r1 => exact ⟨a, us, rfl, rfl, same_t s h1, fun e => hn (by subst e; cases r1; rfl), fun p hp => q _ _ _ (Grow.new (o := .tup []) s hp) (.tup (.inl (.inl upd_same)) .nil)⟩
  by_cases k1 : k = 1
  · subst k1
    refine xe_op op_rep1 ha hb fun B H x y Q s rx ry q => ?_
    cases ry
    cases rx with
    | @tup a us _ h1 r1 =>
      refine ⟨a, us, rfl, rfl, same_t s h1, fun e => hn (by subst e; cases r1; rfl), q _ B H (Grow.refl s) ?_⟩
      have e : (List.replicate 1 xs).flatten = xs := by simp
      rw [e]
      exact .tup h1 r1
  have e : (List.replicate k xs).flatten = (List.replicate ((k : Nat) : Int).toNat xs).flatten := by rw [Int.toNat_natCast]
  rw [e]
  exact xe_op op_repT ha hb (rd_repT (by omega) (by omega) hn hz)
end
end Dl

set_option Elab.async false
set_option linter.all false
set_option maxRecDepth 100000
set_option maxHeartbeats 4000000
/-! The data level: expressions that change the slots' objects; the spring of draws. -/
namespace Dl
open PySem PySem.Spec PyProof.Rows L2
section
variable {X : Cx} {δ δ2 : List Slot} {a b c e tg iter elt : Expr} {pos p0 : Pos} {ds ys : List PyData} {es rest' : List Expr} {d d1 d2 : PyData} {rest : List Stmt} {R : Post} {st : Stmt}
/-- arguments that change the slots' objects -/
def tAE (K : PySem.W.Frag) (δ : List Slot) (P : List PyData → List Slot → Prop) : TA := fun σ H Q => ∃ B F, Wf K B H σ δ F ∧ ∀ vs ds δ2 B2 H2 F2, Step B H F B2 H2 F2 → Wf K B2 H2 σ δ2 F2 → P ds δ2 → RpA K B2 vs ds → Q vs H2
abbrev XFA (X : Cx) (δ : List Slot) (es : List Expr) (P : List PyData → List Slot → Prop) : Prop := PA X es (tAE X.K δ P)
def tTE (K : PySem.W.Frag) (δ : List Slot) (P : Bool → List Slot → Prop) : TT := fun σ H Q => ∃ B F, Wf K B H σ δ F ∧ ∀ b δ2 B2 H2 F2, Step B H F B2 H2 F2 → Wf K B2 H2 σ δ2 F2 → P b δ2 → Q b H2
abbrev XFT (X : Cx) (δ : List Slot) (e : Expr) (P : Bool → List Slot → Prop) : Prop := PT X e (tTE X.K δ P)
variable {P P' : PyData → List Slot → Prop}
theorem xf_of (h : XE X δ e d) : XF X δ e (fun d' δ' => d' = d ∧ δ' = δ) := PE.weak h fun σ H Q ⟨B, F, W, q⟩ => ⟨B, F, W, fun v B2 H2 g r => q v d δ B2 H2 F (Step.of g) (W.grow g) ⟨rfl, rfl⟩ r⟩
theorem xf_imp (h : XF X δ e P) (w : ∀ d δ', P d δ' → P' d δ') : XF X δ e P' := PE.weak h fun σ H Q ⟨B, F, W, q⟩ => ⟨B, F, W, fun v d δ2 B2 H2 F2 s W2 hp r => q v d δ2 B2 H2 F2 s W2 (w _ _ hp) r⟩
theorem xf_op {op : Operator} {r : R2} {P1 : PyData → List Slot → Prop} (ho : OpR X (binaryOp op) r) (ha : XF X δ a P1) (hb : ∀ d1 δ1, P1 d1 δ1 → XF X δ1 b (fun d2 δ2 => ∃ d, RD X.K r d1 d2 d ∧ P d δ2)) : XF X δ (.BinOp a op b pos) P :=
  (pe_op ho ha (pe_ex fun z : {z : PyData × List Slot // P1 z.1 z.2} => hb z.1.1 z.1.2 z.2)).weak fun σ H Q ⟨B, F, W, q⟩ => ⟨B, F, W, fun x d1 δ1 B1 H1 F1 s1 W1 h1 r1 =>
    ⟨⟨(d1, δ1), h1⟩, B1, F1, W1, fun y d2 δ2 B2 H2 F2 s2 W2 ⟨d, hr, hp⟩ r2 => hr B2 H2 x y Q W2.bh (r1.mono s2.bb) r2 fun v B3 H3 g3 r3 => q v d δ2 B3 H3 F2 ((s1.trans s2).trans (Step.of g3)) (W2.grow g3) hp r3⟩⟩
theorem xf_cmp {op : CmpOp} {P1 : PyData → List Slot → Prop} (hu : X.A.units + 65 < cLine) (ha : XF X δ a P1) (hb : ∀ d1 δ1, P1 d1 δ1 → XF X δ1 b (fun d2 δ2 => ∃ k, CmpD op d1 d2 k ∧ P (.bool k) δ2)) (hm : behindInMarks op b = false := by first | exact nomark _ | rfl) : XF X δ (.Compare a [op] [b] pos) P :=
  (pe_cmpR (or_cmp hu op) ha (pe_ex fun z : {z : PyData × List Slot // P1 z.1 z.2} => hb z.1.1 z.1.2 z.2) hm).weak fun σ H Q ⟨B, F, W, q⟩ => ⟨B, F, W, fun x d1 δ1 B1 H1 F1 s1 W1 h1 r1 =>
    ⟨⟨(d1, δ1), h1⟩, B1, F1, W1, fun y d2 δ2 B2 H2 F2 s2 W2 ⟨k, hc, hp⟩ r2 => ⟨B2, d1, d2, k, W2.bh, r1.mono s2.bb, r2, hc, q _ _ δ2 B2 H2 F2 (s1.trans s2) W2 hp (.bl k)⟩⟩⟩
theorem xft_cmp {op : CmpOp} {P1 : PyData → List Slot → Prop} {PB : Bool → List Slot → Prop} (hu : X.A.units + 65 < cLine) (ha : XF X δ a P1) (hb : ∀ d1 δ1, P1 d1 δ1 → XF X δ1 b (fun d2 δ2 => ∃ k, CmpD op d1 d2 k ∧ PB k δ2)) (hm : behindInMarks op b = false := by first | exact nomark _ | rfl) : XFT X δ (.Compare a [op] [b] pos) PB :=
  (pt_cmpR (or_cmp hu op) ha (pe_ex fun z : {z : PyData × List Slot // P1 z.1 z.2} => hb z.1.1 z.1.2 z.2) hm).weak fun σ H Q ⟨B, F, W, q⟩ => ⟨B, F, W, fun x d1 δ1 B1 H1 F1 s1 W1 h1 r1 =>
    ⟨⟨(d1, δ1), h1⟩, B1, F1, W1, fun y d2 δ2 B2 H2 F2 s2 W2 ⟨k, hc, hp⟩ r2 => ⟨B2, d1, d2, k, W2.bh, r1.mono s2.bb, r2, hc, k, rfl, q k δ2 B2 H2 F2 (s1.trans s2) W2 hp⟩⟩⟩
theorem xft_tru {P1 : PyData → List Slot → Prop} {PB : Bool → List Slot → Prop} (ha : XF X δ a P1) (h : ∀ d δ1, P1 d δ1 → TruOk d ∧ PB (truD d) δ1) (he : ∀ whole, isTrue a X.env whole = (do let v ← whole; standAt a.pos; holding [v] (truthy v)) := by intro _; rfl) : XFT X δ a PB :=
  (pt_truth ha he).weak fun σ H Q ⟨B, F, W, q⟩ => ⟨B, F, W, fun x d1 δ1 B1 H1 F1 s1 W1 h1 r1 => ⟨_, tru_of W1.bh r1 (h d1 δ1 h1).1, q _ δ1 B1 H1 F1 s1 W1 (h d1 δ1 h1).2⟩⟩
theorem xfa_of (h : XA X δ es ds) : XFA X δ es (fun ds' δ' => ds' = ds ∧ δ' = δ) := PA.weak h fun σ H Q ⟨B, F, W, q⟩ => ⟨B, F, W, fun vs B2 H2 g r => q vs ds δ B2 H2 F (Step.of g) (W.grow g) ⟨rfl, rfl⟩ r⟩
theorem xfa_nil : XFA X δ [] (fun ds' δ' => ds' = [] ∧ δ' = δ) := xfa_of xa_nil
theorem xfa_cons {P1 : PyData → List Slot → Prop} {PA' : List PyData → List Slot → Prop} (ha : XF X δ e P1) (hr : ∀ d1 δ1, P1 d1 δ1 → XFA X δ1 es (fun ds δ2 => PA' (d1 :: ds) δ2)) (hs : starEach (e :: es) X.env = (false, eval e X.env) :: starEach es X.env := by rfl) : XFA X δ (e :: es) PA' :=
  (pa_cons ha (pa_ex fun z : {z : PyData × List Slot // P1 z.1 z.2} => hr z.1.1 z.1.2 z.2) hs).weak fun σ H Q ⟨B, F, W, q⟩ => ⟨B, F, W, fun x d1 δ1 B1 H1 F1 s1 W1 h1 r1 =>
    ⟨⟨(d1, δ1), h1⟩, B1, F1, W1, fun vs ds δ2 B2 H2 F2 s2 W2 hp r2 => q (x :: vs) (d1 :: ds) δ2 B2 H2 F2 (s1.trans s2) W2 hp (.cons (r1.mono s2.bb) r2)⟩⟩
theorem xf_tup {x1} {PA' : List PyData → List Slot → Prop} (h : XFA X δ es PA') (hp : ∀ ds δ1, PA' ds δ1 → ds.length ≤ 1000000 ∧ P (.tuple ds) δ1) : XF X δ (.Tuple es x1 pos) P := (pe_tup h).weak fun σ H Q ⟨B, F, W, q⟩ => ⟨B, F, W, fun vs ds δ2 B2 H2 F2 s2 W2 h2 r2 => ⟨by
    refine sz_of ?_
    rw [r2.length]
    exact (hp ds δ2 h2).1, fun l hl => by
    have g := Grow.new (o := .tup vs) W2.bh hl
    exact q _ _ δ2 _ _ F2 (s2.trans (Step.of g)) (W2.grow g) (hp ds δ2 h2).2 (.tup (.inl (.inl upd_same)) (r2.mono g.bb))⟩⟩
theorem xf_lst {PA' : List PyData → List Slot → Prop} (h : XFA X δ es PA') (hp : ∀ ds δ1, PA' ds δ1 → ds.length ≤ 1000000 ∧ P (.list ds) δ1) : XF X δ (.List es pos) P := (pe_lst h).weak fun σ H Q ⟨B, F, W, q⟩ => ⟨B, F, W, fun vs ds δ2 B2 H2 F2 s2 W2 h2 r2 => ⟨by
    refine sz_of ?_
    rw [r2.length]
    exact (hp ds δ2 h2).1, fun l hl => by
    have g := Grow.new (o := .lst vs) W2.bh hl
    exact q _ _ δ2 _ _ F2 (s2.trans (Step.of g)) (W2.grow g) (hp ds δ2 h2).2 (.lst upd_same (r2.mono g.bb))⟩⟩
/-- a def that is a function of data, its arguments changing the slots' objects -/
theorem xf_callP {k : Nat} {x : Str} {ps : List Str} {f : List PyData → PyData → Prop} {PA' : List PyData → List Slot → Prop} (G : Def X.prog X.w X.K X.mg X.base k x ps (SpP X.K f)) (hr : Room k X.A) (ha : XFA X δ (e :: es) PA') (hf : ∀ ds δ1, PA' ds δ1 → ∃ d, f ds d ∧ P d δ1) (hg : Gl X x := by rfl) (hdb : (x == ("__debug__" : Str)) = false := by decide)
    (he : starEach (e :: es) X.env = (false, eval e X.env) :: starEach es X.env := by rfl) (hpl : (backTo pos (starEach es X.env)).any (·.1) = false := by rfl) : XF X δ (.Call (.Name x p0) (e :: es) [] pos) P := by
  obtain ⟨fa, fd, h1, h2, h3, h4⟩ := G.ex
  exact (pe_call h4 hr hg h1 h2 h3 .nil pass0 ha hdb he hpl).weak fun σ H Q ⟨B, F, W, q⟩ => ⟨B, F, W, fun vs ds δ2 B2 H2 F2 s2 W2 hp r2 => by
    obtain ⟨d, hfd, hpd⟩ := hf ds δ2 hp
    show SpP X.K f (vs ++ []) H2 Q E0
    rw [List.append_nil]
    exact ⟨B2, ds, d, W2.bh, r2, hfd, fun v B3 H3 g3 r3 => q v d δ2 B3 H3 F2 (s2.trans (Step.of g3)) (W2.grow g3) hpd r3⟩⟩
/-! ### statements -/
theorem xb_setF {i : Nat} (h : PS X st (tAsg (tE X.K δ P) (gName i))) (k : ∀ d δ1, P d δ1 → XB X (δ1.set i (.dat d)) rest R) : XB X δ (st :: rest) R :=
  xb_cons h (pss_ex fun z : {z : PyData × List Slot // P z.1 z.2} => k z.1.1 z.1.2 z.2) fun D σ H B F W o =>
    ⟨B, F, W, fun v d δ1 B2 H2 F2 s W2 hp r => ⟨⟨(d, δ1), hp⟩, ts_iff.mpr ⟨B2, _, W2.put (s := .dat d) ⟨rfl, r⟩, o.step (s.sub cut_sub)⟩⟩⟩
theorem xb_asgF (i : Nat) {x : Str} (he : XF X δ e P) (k : ∀ d δ1, P d δ1 → XB X (δ1.set i (.dat d)) rest R) (hN : X.N.Nodup) (hi : X.N[i]? = some x := by rfl) (hx : Loc X.env.scope x := by first | exact Or.inl rfl | exact Or.inr rfl) (hs : swapsWith e (some (.Name x p0)) pos.line X.env = pure false := by rfl)
    (hf : X.fn x = true ∨ X.env.scope.names.lookup x = some .local := by first | exact .inl rfl | exact .inr rfl | assumption) : XB X δ (.Assign [.Name x p0] e pos :: rest) R := xb_setF (ps_set hN hi hx he hs hf) k
theorem xb_retF (he : XF X δ e P) (h : ∀ d δ1, P d δ1 → R.rt d δ1) : XB X δ (.Return (some e) pos :: rest) R := xb_cons (ps_ret he) pss_never fun D σ H B F W o =>
  ⟨B, F, W, fun v d δ1 B2 H2 F2 s W2 hp r => o.rt v d σ δ1 B2 H2 F2 s W2 (h d δ1 hp) r⟩
theorem xb_parF {PA' : List PyData → List Slot → Prop} {i j : Nat} {x y : Str} {px py pt : Pos} {kt k2 pt2} (ha : XFA X δ [a, b] PA') (k : ∀ ds δ1, PA' ds δ1 → ∃ d1 d2, ds = [d1, d2] ∧ XB X ((δ1.set i (.dat d1)).set j (.dat d2)) rest R) (hN : X.N.Nodup) (hi : X.N[i]? = some x := by rfl) (hj : X.N[j]? = some y := by rfl) (hij : i ≠ j := by decide)
    (hx : X.env.scope.names.lookup x = some .local := by rfl) (hy : X.env.scope.names.lookup y = some .local := by rfl) (hc : X.calm = true := by rfl)
    (hw : swappedStores [.Tuple [.Name x px, .Name y py] kt pt] (.Tuple [a, b] k2 pt2) X.env = pure (some [x, y]) := by rfl)
    (hs : swapsWithSole [.Tuple [.Name x px, .Name y py] kt pt] (.Tuple [a, b] k2 pt2) pos.line X.env = pure false := by rfl) :
    XB X δ (.Assign [.Tuple [.Name x px, .Name y py] kt pt] (.Tuple [a, b] k2 pt2) pos :: rest) R :=
  xb_cons (ps_par hc hN hi hj hij hx hy ha hw hs) (pss_ex fun z : {z : List PyData × List Slot × PyData × PyData // z.1 = [z.2.2.1, z.2.2.2] ∧ XB X ((z.2.1.set i (.dat z.2.2.1)).set j (.dat z.2.2.2)) rest R} => z.2.2) fun D σ H B F W o =>
  ⟨B, F, W, fun vs ds δ1 B2 H2 F2 s W2 hp r => by
    obtain ⟨d1, d2, rfl, hk⟩ := k ds δ1 hp
    cases r with
    | @cons v us _ _ r1 r2 =>
      cases r2 with
      | @cons w us _ _ r2 r3 =>
        cases r3
        exact ⟨v, w, rfl, ⟨([d1, d2], δ1, d1, d2), rfl, hk⟩, ts_iff.mpr ⟨B2, _, (W2.put (s := .dat d1) ⟨rfl, r1⟩).put (s := .dat d2) ⟨rfl, r2⟩, o.step ((s.sub cut_sub).sub cut_sub)⟩⟩⟩
theorem xb_unpF {is : List Nat} (he : XF X δ e P) (Δ : PyData → List Slot → List Slot) (hg : ∀ d δ1, P d δ1 → XG X tg is d δ1 (Δ d δ1)) (k : ∀ d δ1, P d δ1 → XB X (Δ d δ1) rest R) (hs : swapsWithSole [tg] e pos.line X.env = pure false := by rfl) (hw : swappedStores [tg] e X.env = pure none := by rfl)
    (h1 : (assignEach [tg] X.env).map (·.2) = [assign tg X.env] := by rfl) : XB X δ (.Assign [tg] e pos :: rest) R :=
  xb_cons (ps_asg he (pg_ex fun z : {z : PyData × List Slot // P z.1 z.2} => hg z.1.1 z.1.2 z.2) hs hw h1) (pss_ex fun z : {z : PyData × List Slot // P z.1 z.2} => k z.1.1 z.1.2 z.2) fun D σ H B F W o =>
  ⟨B, F, W, fun v d δ1 B2 H2 F2 s W2 hp r => ⟨⟨(d, δ1), hp⟩, B2, F2, W2, r, fun σ3 F3 W3 sb _ _ => ⟨⟨(d, δ1), hp⟩, ts_iff.mpr ⟨B2, F3, W3, o.step (s.sub sb)⟩⟩⟩⟩
theorem xb_ifF {sts sts2 : List Stmt} {PB : Bool → List Slot → Prop} (M : List Slot → Prop) (hc : XFT X δ c PB) (h1 : ∀ δ1, PB true δ1 → XB X δ1 sts { R with nx := M }) (h2 : ∀ δ1, PB false δ1 → XB X δ1 sts2 { R with nx := M }) (h : ∀ δ', M δ' → XB X δ' rest R) : XB X δ (.If c sts sts2 pos :: rest) R := by
  have hr : PSs X rest (fun D σ H => ∃ z : {δ' // M δ'}, tS X.K z.1 R D σ H) := pss_ex fun z : {δ' // M δ'} => h z.1 z.2
  have fin : ∀ {D : Ends} {B H : Hp} {F : Nat → List Addr}, Ok X.K R D B H F → Ok X.K { R with nx := M } { D with nx := fun σ H => ∃ z : {δ' // M δ'}, tS X.K z.1 R D σ H } B H F := fun {D B H F} o =>
    ⟨fun σ2 δ2 B2 H2 F2 s W q => ⟨⟨δ2, q⟩, ts_iff.mpr ⟨B2, F2, W, o.step s⟩⟩, o.rt, o.bk, o.ct, o.rr, o.gh⟩
  refine xb_cons (ps_if hc (pss_ex fun z : {δ' // PB true δ'} => h1 z.1 z.2) (pss_ex fun z : {δ' // PB false δ'} => h2 z.1 z.2)) hr fun D σ H B F W o => ⟨B, F, W, fun k δ1 B2 H2 F2 s W2 hp => ?_⟩
  cases k with
  | true => exact ⟨⟨δ1, hp⟩, ts_iff.mpr ⟨B2, F2, W2, (fin o).step s⟩⟩
  | false => exact ⟨⟨δ1, hp⟩, ts_iff.mpr ⟨B2, F2, W2, (fin o).step s⟩⟩
end
end Dl

set_option Elab.async false
set_option linter.all false
set_option maxRecDepth 100000
set_option maxHeartbeats 4000000
/-! The data level: the spring of draws, and comprehensions that draw. -/
namespace Dl
open PySem PySem.Spec PyProof.Rows L2
/-- the spring as it stands: the cells left, what is left of a great one, how many were drawn, the mix -/
def strmX (p q : Addr) (cells : List Int) (r c m : Int) : Res where
  ok := fun _ H v fp => v = .ref p ∧ fp = [p, q] ∧ H p = some (.lst [.ref q, .int r, .int c, .int m]) ∧ H q = some (.lst (cells.map V.int))
  loc := fun {B B' H H' v fp} ⟨h1, h2, h3, h4⟩ _ hh => ⟨h1, h2, by rw [hh p (by rw [h2]; exact List.mem_cons_self)]; exact h3, by rw [hh q (by rw [h2]; exact List.mem_cons_of_mem _ List.mem_cons_self)]; exact h4⟩
/-- what is known of a spring: at most n were drawn -/
structure StB (n : Nat) (cells : List Int) (r c m : Int) : Prop where
  len : cells.length ≤ 63
  r0 : 0 ≤ r
  c0 : 0 ≤ c
  cn : c ≤ n
  m0 : 0 ≤ m
  m1 : m < 2147483647
def strmR (p q : Addr) (n : Nat) : Res where
  ok := fun B H v fp => ∃ cells r c m, StB n cells r c m ∧ (strmX p q cells r c m).ok B H v fp
  loc := fun {B B' H H' v fp} ⟨cells, r, c, m, hb, h⟩ h1 h2 => ⟨cells, r, c, m, hb, (strmX p q cells r c m).loc h h1 h2⟩
def fpS (p q : Addr) : Nat → List Addr := fun i => if i = 0 then [p, q] else []
/-- the promise of a def that draws: pre of the number of draws so far and the data, post of both numbers, the data, the answer -/
def SpS (K : PySem.W.Frag) (pre : Nat → List PyData → Prop) (post : Nat → List PyData → Nat → PyData → Prop) : Sp := fun vs H Q _ => ∃ B p q us n ds, vs = .ref p :: us ∧ Same B H ∧ B p = none ∧ B q = none ∧ p ≠ q ∧ (strmR p q n).ok B H (.ref p) [p, q] ∧ RpA K B us ds ∧ pre n ds ∧
  ∀ v d n2 B2 H2, Step B H (fpS p q) B2 H2 (fpS p q) → Same B2 H2 → B2 p = none → B2 q = none → (strmR p q n2).ok B2 H2 (.ref p) [p, q] → post n ds n2 d → Rp K B2 v d → Q v H2
section
variable {X : Cx} {δ δ2 : List Slot} {a b c e tg iter elt : Expr} {pos p0 p1 : Pos} {ds ys : List PyData} {es : List Expr} {d d1 d2 : PyData} {rest : List Stmt} {R : Post} {st : Stmt} {P : PyData → List Slot → Prop}
theorem Wf.strm {K : PySem.W.Frag} {B H : Hp} {σ : L2.St} {F : Nat → List Addr} (W : Wf K B H σ δ F) {i n : Nat} {p q : Addr} (h : δ[i]? = some (.own (strmR p q n))) : σ[i]? = some (some (.ref p)) ∧ F i = [p, q] ∧ (strmR p q n).ok B H (.ref p) [p, q] ∧ B p = none ∧ B q = none ∧ p ≠ q := by
  obtain ⟨o, h1, h2⟩ := W.sl i _ h
  cases o with
  | none => exact h2.elim
  | some v =>
    have hx : (strmR p q n).ok B H v (F i) := h2
    obtain ⟨cells, r, c, m, hb, hv, hF, hp, hq⟩ := id hx
    subst hv
    rw [hF] at hx
    refine ⟨h1, hF, hx, (W.own i p (by rw [hF]; exact List.mem_cons_self)).1, (W.own i q (by rw [hF]; exact List.mem_cons_of_mem _ List.mem_cons_self)).1, fun e => ?_⟩
    subst e
    rw [hp] at hq
    cases cells with
    | nil => simp at hq
    | cons z zs =>
      have := HO.lst.inj (Option.some.inj hq)
      rw [List.map_cons] at this
      cases (List.cons.inj this).1
/-- behind a call that draws -/
theorem Wf.drawn {K : PySem.W.Frag} {B H B2 H2 : Hp} {σ : L2.St} {F : Nat → List Addr} (W : Wf K B H σ δ F) {i n n2 : Nat} {p q : Addr} (h : δ[i]? = some (.own (strmR p q n))) (s : Step B H (fpS p q) B2 H2 (fpS p q)) (sb : Same B2 H2) (hp : B2 p = none) (hq : B2 q = none) (ok : (strmR p q n2).ok B2 H2 (.ref p) [p, q]) :
    Wf K B2 H2 σ (δ.set i (.own (strmR p q n2))) F ∧ Step B H F B2 H2 F := by
  obtain ⟨h1, hF, _, _, _, _⟩ := W.strm h
  have hl : i < δ.length := (List.getElem?_eq_some_iff.mp h).1
  have nF : ∀ j, j ≠ i → ∀ a ∈ F j, ∀ k, a ∉ fpS p q k := fun j hj a ha k hk => by
    by_cases e : k = 0
    · subst e
      have hk : a ∈ [p, q] := hk
      rw [← hF] at hk
      exact hj (W.dis j i a ha hk)
    · have hk : a ∈ (if k = 0 then [p, q] else []) := hk
      rw [if_neg e] at hk
      cases hk
  have nS : ∀ b, (∀ j, b ∉ F j) → ∀ k, b ∉ fpS p q k := fun b hb k hk => by
    by_cases e : k = 0
    · subst e
      have hk : b ∈ [p, q] := hk
      rw [← hF] at hk
      exact hb i hk
    · have hk : b ∈ (if k = 0 then [p, q] else []) := hk
      rw [if_neg e] at hk
      cases hk
  refine ⟨⟨sb, by rw [List.length_set]; exact W.len, fun j t e => ?_, fun j hj => W.out j (by rw [List.length_set] at hj; exact hj), W.dis, fun j a ha => ?_⟩, ⟨s.bb, fun b o e hn => s.keep b o e (nS b hn), fun b o e hn => s.fr b o e (nS b hn), s.there, fun j b hb => .inl ⟨j, hb⟩⟩⟩
  · by_cases hj : j = i
    · subst hj
      rw [List.getElem?_set_self hl] at e
      cases e
      refine ⟨_, h1, ?_⟩
      show (strmR p q n2).ok B2 H2 (.ref p) (F j)
      rw [hF]
      exact ok
    · rw [List.getElem?_set_ne (Ne.symm hj)] at e
      obtain ⟨o, a1, a2⟩ := W.sl j t e
      refine ⟨o, a1, a2.loc s.bb fun a ha => ?_⟩
      obtain ⟨_, u, hu⟩ := W.own j a ha
      rw [hu]
      exact s.keep a u hu (nF j hj a ha)
  · by_cases hj : j = i
    · subst hj
      rw [hF] at ha
      obtain ⟨cells, r, c, m, _, _, _, k1, k2⟩ := ok
      rcases List.mem_cons.mp ha with e | e
      · rw [e]; exact ⟨hp, _, k1⟩
      · rw [List.mem_singleton.mp e]; exact ⟨hq, _, k2⟩
    · obtain ⟨a1, u, hu⟩ := W.own j a ha
      exact ⟨(s.fr a u hu (nF j hj a ha)).trans a1, u, s.keep a u hu (nF j hj a ha)⟩
/-- f(stream, ..): the spring in slot i -/
theorem xf_draw (i : Nat) {k n : Nat} {p q : Addr} {f x : Str} {ps : List Str} {pre : Nat → List PyData → Prop} {post : Nat → List PyData → Nat → PyData → Prop} {PA' : List PyData → List Slot → Prop} (G : Def X.prog X.w X.K X.mg X.base k f ps (SpS X.K pre post)) (hr : Room k X.A)
    (hi : δ[i]? = some (.own (strmR p q n))) (ha : XFA X δ es PA') (hp : ∀ ds δ1, PA' ds δ1 → ∃ n1, δ1[i]? = some (.own (strmR p q n1)) ∧ pre n1 ds ∧ ∀ n2 d, post n1 ds n2 d → P d (δ1.set i (.own (strmR p q n2))))
    (hN : X.N[i]? = some x := by rfl) (hv : Vis X.env.scope x := by first | exact Or.inl rfl | exact Or.inr (Or.inl rfl) | exact Or.inr (Or.inr rfl)) (hd : (x == ("__debug__" : Str)) = false := by decide) (hcd : (x == ("__classdict__" : Str)) = false := by decide)
    (hg : Gl X f := by rfl) (hdb : (f == ("__debug__" : Str)) = false := by decide) (he : starEach (.Name x p1 :: es) X.env = (false, eval (.Name x p1) X.env) :: starEach es X.env := by rfl) (hpl : (backTo pos (starEach es X.env)).any (·.1) = false := by rfl) :
    XF X δ (.Call (.Name f p0) (.Name x p1 :: es) [] pos) P := by
  obtain ⟨fa, fd, h1, h2, h3, h4⟩ := G.ex
  refine (pe_call h4 hr hg h1 h2 h3 .nil pass0 (pa_cons (pe_var (i := i) hN hv hd hcd) ha he) hdb he hpl).weak fun σ H Q ⟨B, F, W, q'⟩ => ?_
  obtain ⟨s1, _⟩ := W.strm hi
  refine ⟨.ref p, s1, B, F, W, fun vs ds δ1 B2 H2 F2 s2 W2 hpa r2 => ?_⟩
  obtain ⟨n1, hi1, hpre, hpost⟩ := hp ds δ1 hpa
  obtain ⟨_, _, ok, b1, b2, ne⟩ := W2.strm hi1
  show SpS X.K pre post ((V.ref p :: vs) ++ []) H2 Q E0
  rw [List.append_nil]
  refine ⟨B2, p, q, vs, n1, ds, rfl, W2.bh, b1, b2, ne, ok, r2, hpre, fun v d n2 B3 H3 s3 sb k1 k2 ok3 po r3 => ?_⟩
  obtain ⟨W3, s4⟩ := W2.drawn hi1 s3 sb k1 k2 ok3
  exact q' v d _ B3 H3 F2 (s2.trans s4) W3 (hpost n2 d po) r3
end
section
variable {P : Program} {w : World} {K : PySem.W.Frag} {mg : Str → Option Value} {base : Heap} {ds : List PyData}
theorem wf_strm {B H : Hp} {us : List V} {p q : Addr} {n : Nat} (s : Same B H) (hp : B p = none) (hq : B q = none) (ok : (strmR p q n).ok B H (.ref p) [p, q]) (r : RpA K B us ds) (N : List Str) :
    Wf K B H (L2.start N (.ref p :: us)) (startD N (.own (strmR p q n) :: ds.map .dat)) (fpS p q) where
  bh := s
  len := by
    unfold L2.start startD
    simp only [List.length_append, List.length_map, List.length_replicate, List.length_cons, r.length]
  sl := fun i t e => by
    cases i with
    | zero =>
      have e : some (Slot.own (strmR p q n)) = some t := e
      cases e
      exact ⟨some (.ref p), rfl, ok⟩
    | succ i =>
      have W := envOk_dat (K := K) s r (N.drop 1)
      have e1 : (startD N (.own (strmR p q n) :: ds.map .dat))[i + 1]? = (startD (N.drop 1) (ds.map .dat))[i]? := by
        unfold startD
        rw [List.cons_append, List.getElem?_cons_succ, List.length_drop, List.length_cons]
        congr 3
        omega
      rw [e1] at e
      obtain ⟨o, a1, a2⟩ := W.sl i t e
      refine ⟨o, ?_, a2⟩
      rw [← a1]
      unfold L2.start
      rw [List.map_cons, List.cons_append, List.getElem?_cons_succ, List.length_drop, List.length_cons]
      congr 3
      omega
  out := fun i hi => if_neg (by
    intro z
    subst z
    unfold startD at hi
    simp at hi)
  dis := fun i j a h1 h2 => by
    have : ∀ k, a ∈ fpS p q k → k = 0 := fun k hk => by
      by_cases e : k = 0
      · exact e
      · have hk : a ∈ (if k = 0 then [p, q] else []) := hk
        rw [if_neg e] at hk
        cases hk
    rw [this i h1, this j h2]
  own := fun i a ha => by
    by_cases e : i = 0
    · subst e
      have ha : a ∈ [p, q] := ha
      obtain ⟨cells, r, c, m, _, _, _, k1, k2⟩ := ok
      rcases List.mem_cons.mp ha with e | e
      · rw [e]; exact ⟨hp, _, k1⟩
      · rw [List.mem_singleton.mp e]; exact ⟨hq, _, k2⟩
    · have ha : a ∈ (if i = 0 then [p, q] else []) := ha
      rw [if_neg e] at ha
      cases ha
/-- THE RULE for a def that draws (the spring its first parameter) -/
theorem def_draw {x : Str} {st : Stmt} {N ps : List Str} {k : Nat} {pre : Nat → List PyData → Prop} {post : Nat → List PyData → Nat → PyData → Prop} (A : At K mg x st ps) (S : FnScope N ps (defScope st)) (len : ∀ n ds, pre n ds → ds.length + 1 = ps.length)
    (body : ∀ (X : Cx), (∃ (fa : Addr) (cdv : Value) (A : Around) (outer : List Env) (s : Shared) (H : Hp) (E : XK), Room k (A.deeper (envOfC x (defScope st) s.heap.objs.size fa cdv)) ∧ X = (cxOf CX0 P w K mg base N x (defScope st) fa cdv A outer s H E).nox) → ∀ p q n ds, pre n ds → XB X (startD N (.own (strmR p q n) :: ds.map .dat)) (defBody st) { rt := fun d δ2 => ∃ n2, δ2[0]? = some (.own (strmR p q n2)) ∧ post n ds n2 d }) :
    Def P w K mg base (k + 1) x ps (SpS K pre post) := by
  obtain ⟨fa, fd, h1, h2, h3⟩ := A.ex
  refine ⟨fa, fd, h1, h2.kp, h3, h2.ok S (fun vs H Q E h => ?_) (fun cdv A outer s H vs Q E hr h => ?_)⟩
  · obtain ⟨B, p, q, us, n, ds, rfl, _, _, _, _, _, r, hp, _⟩ := h
    rw [List.length_cons, r.length]
    exact len n ds hp
  · obtain ⟨B, p, q, us, n, ds, rfl, sm, b1, b2, ne, ok, r, hp, q'⟩ := h
    refine ⟨_, body _ ⟨fa, cdv, A, outer, s, H, E, hr, rfl⟩ p q n ds hp, ?_⟩
    refine ts_iff.mpr ⟨B, _, wf_strm sm b1 b2 ok r N, fun _ _ _ _ _ _ _ h => h.elim, ?_, fun _ _ _ _ _ _ _ h => h.elim, fun _ _ _ _ _ _ _ h => h.elim, fun _ _ _ _ _ _ _ _ h => h.elim, trivial⟩
    intro v d σ2 δ2 B2 H2 F2 s2 W2 ⟨n2, hs, hpo⟩ r2
    obtain ⟨_, hF, ok2, k1, k2, _⟩ := W2.strm hs
    exact q' v d n2 B2 H2 ⟨s2.bb, s2.keep, s2.fr, s2.there, fun i b hb => .inl ⟨i, hb⟩⟩ W2.bh k1 k2 ok2 hpo r2
end
end Dl

set_option Elab.async false
set_option linter.all false
set_option maxRecDepth 100000
set_option maxHeartbeats 4000000
/-! The data level: comprehensions that draw; the spring's own steps. -/
namespace Dl
open PySem PySem.Spec PyProof.Rows L2
section
variable {X : Cx} {δ δ2 : List Slot} {a b c e tg iter elt : Expr} {pos p0 p1 p : Pos} {ds ys : List PyData} {es : List Expr} {d d1 d2 : PyData} {rest : List Stmt} {R : Post} {st : Stmt} {P : PyData → List Slot → Prop}
structure XLF (X : Cx) (δ : List Slot) (e : Expr) (P : PyData → List Slot → Prop) : Prop where
  val : XF X δ e P
  set : ∀ (i : Nat) {y : Str} {py spos : Pos}, X.N.Nodup → X.N[i]? = some y → X.env.scope.names.lookup y = some .local → swapsWith e (some (.Name y py)) spos.line X.env = pure true → PS X (.Assign [.Name y py] e spos) (tAsg (tE X.K δ P) (gName i))
theorem lcF_turn {K : PySem.W.Frag} {ι : Type} {l : List ι} {f : ι → PyData} {j : Nat} {wi : TI} (J : Nat → List Slot → Prop) (Pd : Nat → PyData → Prop) (hj : j < δ.length) (hz : l.length ≤ 1000000) (h0 : J 0 (δ.set j .no)) (hlen : ∀ i δ', J i δ' → δ'[j]? = some .no) (hwi : ∀ σ H R, tI K δ (l.map f) σ H R → wi σ H R)
    {tG' : TG} {tE' : TE} (hG : ∀ v σ H Q, (∃ z : {z : ι × List Slot // z.1 ∈ l}, tG K [j] (f z.1.1) z.1.2 (z.1.2.set j (.dat (f z.1.1))) v σ H Q) → tG' v σ H Q)
    (hE : ∀ σ H Q, (∃ z : {z : Nat × ι × List Slot // l[z.1]? = some z.2.1 ∧ J z.1 z.2.2}, tE K (z.1.2.2.set j (.dat (f z.1.2.1))) (fun d δ2 => Pd z.1.1 d ∧ J (z.1.1 + 1) (δ2.set j .no)) σ H Q) → tE' σ H Q) :
    ∀ σ H Q, tE K δ (fun d δ2 => ∃ ds, d = .list ds ∧ ds.length = l.length ∧ (∀ i d, ds[i]? = some d → Pd i d) ∧ J l.length δ2) σ H Q → tLc wi tG' tYes tE' [j] σ H Q := fun σ H Q ⟨B, F, W, q⟩ => by
  refine hwi σ H _ ⟨B, F, W, fun It B1 H1 g1 wk D hD => ?_⟩
  have W1 := W.grow g1
  have jw : ∀ σ' : L2.St, wipe σ' [j] = σ'.set j none := fun _ => rfl
  refine ⟨fun i m H' => m = l.length - i ∧ i ≤ l.length ∧ ∃ Bi xs ds δi Fi, Step B1 H1 F Bi H' Fi ∧ Same B1 Bi ∧ Wf K Bi H' (wipe σ [j]) δi Fi ∧ J i δi ∧ H' D = some (.lst xs) ∧ Bi D = none ∧ (∀ k, D ∉ Fi k) ∧ RpA K Bi xs ds ∧ ds.length = i ∧ ∀ k d, ds[k]? = some d → Pd k d,
    ⟨l.length, by simp, Nat.zero_le _, B1, [], [], δ.set j .no, _, (Step.of (F := F) (Grow.newH g1.bh hD)).sub (F2 := fun k => if k = j then [] else F k) cut_sub, Same.refl _, (W1.grow (Grow.newH g1.bh hD)).no j none, h0, upd_same, g1.bh.free hD, fun k hk => ?_, .nil, rfl, fun k d h => by simp at h⟩, ?_⟩
  · have hk : D ∈ (if k = j then [] else F k) := hk
    by_cases e : k = j
    · rw [if_pos e] at hk
      cases hk
    · rw [if_neg e] at hk
      obtain ⟨_, o, ho⟩ := W1.own k D hk
      rw [hD] at ho
      cases ho
  rintro i m H' ⟨rfl, hle, Bi, xs, ds, δi, Fi, si, sm, Wi, hJ, hx, hb, hD2, r, hdl, hpd⟩
  by_cases hlt : i < l.length
  · refine .inr ⟨wk.go i H' (sm.trans Wi.bh) (by rw [List.length_map]; exact hlt), fun H2 => ∃ Bi xs ds δi Fi, Step B1 H1 F Bi H2 Fi ∧ Same B1 Bi ∧ Wf K Bi H2 (wipe σ [j]) δi Fi ∧ J (i + 1) δi ∧ H2 D = some (.lst xs) ∧ Bi D = none ∧ (∀ k, D ∉ Fi k) ∧ RpA K Bi xs ds ∧ ds.length = i + 1 ∧ ∀ k d, ds[k]? = some d → Pd k d, fun H2 h2 => ⟨l.length - (i + 1), by omega, rfl, hlt, h2⟩, fun x H2 hy => ?_⟩
    have hget : l[i]? = some l[i] := List.getElem?_eq_getElem hlt
    have hmem : l[i] ∈ l := List.getElem_mem hlt
    generalize hd : l[i] = y at hget hmem
    obtain ⟨B2, g2, r2⟩ := wk.yld i Bi H' x H2 sm Wi.bh hy (f y) (by rw [List.getElem?_map, hget]; rfl)
    have W2 := Wi.grow g2
    have h2D : H2 D = some (.lst xs) := g2.hh _ _ hx
    have b2D : B2 D = none := (g2.fr D _ hx).trans hb
    refine hG x _ H2 _ ⟨⟨(y, δi), hmem⟩, B2, Fi, W2, r2, fun σ3 F3 W3 sb hl hk => ⟨wipe_same hl hk (fun k hk => hk), ?_⟩⟩
    show tE' σ3 H2 _
    refine hE σ3 H2 _ ⟨⟨(i, y, δi), hget, hJ⟩, B2, F3, W3, fun v d δ4 B4 H4 F4 s4 W4 ⟨hpv, hJ4⟩ r4 => ?_⟩
    have nD3 : ∀ k, D ∉ F3 k := fun k hk => by
      obtain ⟨m, hm⟩ := sb k D hk
      exact hD2 m hm
    have h4D : H4 D = some (.lst xs) := s4.keep D _ h2D nD3
    have b4D : B4 D = none := (s4.fr D _ h2D nD3).trans b2D
    have nD4 : ∀ k, D ∉ F4 k := fun k hk => by
      rcases s4.fn k D hk with ⟨m, hm⟩ | h
      · exact nD3 m hm
      · rw [h2D] at h
        cases h
    have s5 : Step B1 H1 F B4 H4 F4 := (si.trans ((Step.of (F := Fi) g2).sub sb)).trans s4
    have W5 := W4.no j none
    have es : σ3.set j none = wipe σ [j] := by
      rw [← jw σ3]
      exact wipe_same hl hk (fun k hk => hk)
    rw [es] at W5
    refine ⟨xs, h4D, ?_, B4, xs ++ [v], ds ++ [d], δ4.set j .no, (fun k => if k = j then [] else F4 k), ?_, (sm.trans g2.bb).trans s4.bb, ?_, hJ4, upd_same, b4D, fun k hk => ?_, (((r.mono g2.bb).mono s4.bb)).append (.cons r4 .nil), by rw [List.length_append, hdl]; rfl, fun k d' hk => ?_⟩
    · have h1 := r.length
      have : xs.length < 1000000 := by omega
      exact Nat.lt_of_lt_of_le this (sz_of (Nat.le_refl _))
    · have s6 := s5.sub (F2 := fun k => if k = j then [] else F4 k) cut_sub
      have nH : H1 D = none := hD
      refine ⟨s6.bb, fun b o hb' hn => ?_, s6.fr, fun b o hb' => ?_, s6.fn⟩
      · rw [upd_ne (ne_of_none hb' nH)]
        exact s6.keep b o hb' hn
      · rw [upd_ne (ne_of_none hb' nH)]
        exact s6.there b o hb'
    · refine ⟨fun b o e => ?_, W5.len, fun k s e => ?_, W5.out, W5.dis, fun k a ha => ?_⟩
      · have : b ≠ D := fun z => by rw [z, b4D] at e; cases e
        rw [upd_ne this]
        exact W5.bh b o e
      · obtain ⟨o, a1, a2⟩ := W5.sl k s e
        refine ⟨o, a1, a2.loc (Same.refl _) fun a ha => ?_⟩
        rw [upd_ne]
        intro z
        obtain ⟨m, hm⟩ := cut_sub (F := F4) (i := j) k a ha
        rw [z] at hm
        exact nD4 m hm
      · obtain ⟨a1, o, a2⟩ := W5.own k a ha
        refine ⟨a1, o, ?_⟩
        rw [upd_ne]
        · exact a2
        intro z
        obtain ⟨m, hm⟩ := cut_sub (F := F4) (i := j) k a ha
        rw [z] at hm
        exact nD4 m hm
    · obtain ⟨m, hm⟩ := cut_sub (F := F4) (i := j) k D hk
      exact nD4 m hm
    · by_cases hki : k < ds.length
      · rw [List.getElem?_append_left hki] at hk
        exact hpd k d' hk
      · rw [List.getElem?_append_right (by omega)] at hk
        have : k - ds.length = 0 := by
          have := (List.getElem?_eq_some_iff.mp hk).1
          simp at this
          omega
        rw [this] at hk
        have : d = d' := by simpa using hk
        subst this
        have : k = i := by omega
        rw [this]
        exact hpv
  · have e : i = l.length := by omega
    subst e
    refine .inl ⟨by have := wk.stop H' (sm.trans Wi.bh); rw [List.length_map] at this; exact this, ?_⟩
    have hno := hlen _ _ hJ
    have ll : δi.length = σ.length := by rw [Wi.len, wipe_length]
    have W6 : Wf K Bi H' σ δi Fi := by
      refine Wi.wk ll rfl (fun k s hk => ?_) Wi.out
      by_cases ek : k = j
      · subst ek
        rw [hno] at hk
        cases hk
        left
        obtain ⟨o, _, a2⟩ := Wi.sl k _ hno
        refine ⟨?_, rfl⟩
        cases o <;> exact a2
      · right
        refine ⟨rfl, hk, ?_⟩
        rw [jw, List.getElem?_set_ne (Ne.symm ek)]
    have g7 : Grow Bi H' (upd Bi D (.lst xs)) H' → False ∨ True := fun _ => .inr trivial
    have sbb : Same Bi (upd Bi D (.lst xs)) := same_upd hb
    have W7 : Wf K (upd Bi D (.lst xs)) H' σ δi Fi := by
      refine ⟨fun b o e => ?_, W6.len, fun k s e => ?_, W6.out, W6.dis, fun k a ha => ?_⟩
      · by_cases z : b = D
        · rw [z, upd_same] at e
          cases e
          rw [z]
          exact hx
        · rw [upd_ne z] at e
          exact W6.bh b o e
      · obtain ⟨o, a1, a2⟩ := W6.sl k s e
        exact ⟨o, a1, a2.loc sbb fun _ _ => rfl⟩
      · obtain ⟨a1, a2⟩ := W6.own k a ha
        refine ⟨?_, a2⟩
        rw [upd_ne (show a ≠ D from fun z => hD2 k (by rw [← z]; exact ha))]
        exact a1
    have nH : H D = none := g1.hh.free hD
    have nH1 : H1 D = none := hD
    refine q (.ref D) (.list ds) δi (upd Bi D (.lst xs)) H' Fi ((Step.of (F := F) g1).trans ⟨si.bb.trans sbb, si.keep, fun b o e hn => ?_, si.there, si.fn⟩) W7 ⟨ds, rfl, hdl, hpd, hJ⟩ (.lst upd_same (r.mono sbb))
    rw [upd_ne (ne_of_none e nH1)]
    exact si.fr b o e hn
theorem xlF {ι : Type} {l : List ι} {f : ι → PyData} {scope : Scope} (j : Nat) {x : Str} (J : Nat → List Slot → Prop) (Pd : Nat → PyData → Prop) (hN : X.N.Nodup) (hi : XI X (.Name x p) δ iter (l.map f)) (hjl : j < δ.length) (hz : l.length ≤ 1000000) (h0 : J 0 (δ.set j .no)) (hlen : ∀ i δ', J i δ' → δ'[j]? = some .no)
    (he : Blk X scope fun Y => ∀ i y δ', l[i]? = some y → J i δ' → XF Y (δ'.set j (.dat (f y))) elt (fun d δ2 => Pd i d ∧ J (i + 1) (δ2.set j .no)))
    (ok : BlkOk X.N X.env.scope scope [(x, j)] := by exact blkOk_by (by kernel_rfl)) (hj : X.N[j]? = some x := by rfl) (hx : Blk X scope fun Y => Loc Y.env.scope x := by first | exact fun _ _ _ _ _ => Or.inl rfl | exact fun _ _ _ _ _ => Or.inr rfl) (hf : Blk X scope fun Y => Y.fn x = true ∨ Y.env.scope.names.lookup x = some .local := by first | exact fun _ _ _ _ _ => Or.inr rfl | exact fun _ _ _ _ _ => Or.inl rfl)
    (hc : X.calm = true := by rfl) (hs : ∀ x, foldedSetIterable iter X.env x = pure x := by intro _; rfl) : XLF X δ (.ListComp elt [⟨.Name x p, iter, [], 0⟩] scope pos) (fun d δ2 => ∃ ds, d = .list ds ∧ ds.length = l.length ∧ (∀ i d, ds[i]? = some d → Pd i d) ∧ J l.length δ2) := by
  have hG : Blk X scope fun Y => PG Y (.Name x p) (fun v σ H Q => ∃ z : {z : ι × List Slot // z.1 ∈ l}, tG X.K [j] (f z.1.1) z.1.2 (z.1.2.set j (.dat (f z.1.1))) v σ H Q) := fun s H C cl fp => pg_ex fun z : {z : ι × List Slot // z.1 ∈ l} => xg_name j hN hj (hx s H C cl fp) (hf s H C cl fp)
  have hE : Blk X scope fun Y => PE Y elt (fun σ H Q => ∃ z : {z : Nat × ι × List Slot // l[z.1]? = some z.2.1 ∧ J z.1 z.2.2}, tE X.K (z.1.2.2.set j (.dat (f z.1.2.1))) (fun d δ2 => Pd z.1.1 d ∧ J (z.1.1 + 1) (δ2.set j .no)) σ H Q) := fun s H C cl fp => pe_ex fun z : {z : Nat × ι × List Slot // l[z.1]? = some z.2.1 ∧ J z.1 z.2.2} => he s H C cl fp z.1.1 z.1.2.1 z.1.2.2 z.2.1 z.2.2
  exact ⟨(pe_lc (own := [(x, j)]) hc hN hi ok hG (fun _ _ _ _ _ => pts_nil) hE hs).weak (lcF_turn J Pd hjl hz h0 hlen (fun _ _ _ q => q) (fun _ _ _ _ q => q) (fun _ _ _ q => q)),
    fun i y py spos _ hy hyl hsw => (ps_setLc (own := [(x, j)]) hc hN hy hyl hsw hi ok hG (fun _ _ _ _ _ => pts_nil) hE hs).weak fun D σ H q => lcF_turn J Pd hjl hz h0 hlen (fun _ _ _ q => q) (fun _ _ _ _ q => q) (fun _ _ _ q => q) σ H _ q⟩
theorem xb_lcF (i : Nat) {y : Str} {py : Pos} (h : XLF X δ e P) (k : ∀ d δ1, P d δ1 → XB X (δ1.set i (.dat d)) rest R) (hN : X.N.Nodup) (hy : X.N[i]? = some y := by rfl) (hyl : X.env.scope.names.lookup y = some .local := by rfl)
    (hsw : swapsWith e (some (.Name y py)) pos.line X.env = pure true := by exact sw_true rfl rfl rfl (by kernel_rfl)) : XB X δ (.Assign [.Name y py] e pos :: rest) R := xb_setF (h.set i hN hy hyl hsw) k
end
end Dl

set_option Elab.async false
set_option linter.all false
set_option maxRecDepth 100000
set_option maxHeartbeats 4000000
/-! The data level: the spring's own steps; its start; the law itself. -/
namespace Dl
open PySem PySem.Spec PyProof.Rows L2
section
variable {X : Cx} {δ δ2 : List Slot} {a b c e tg iter elt : Expr} {pos p0 p1 p2 p3 p4 : Pos} {d d1 d2 : PyData} {rest sts : List Stmt} {R : Post} {P : PyData → List Slot → Prop} {p q : Addr} {cells : List Int} {r c m z : Int} {n : Nat}
theorem Wf.swap {K : PySem.W.Frag} {B H : Hp} {σ : L2.St} {F : Nat → List Addr} {r r' : Res} {i : Nat} (W : Wf K B H σ δ F) (h : δ[i]? = some (.own r)) (w : ∀ v, r.ok B H v (F i) → r'.ok B H v (F i)) : Wf K B H σ (δ.set i (.own r')) F where
  bh := W.bh
  len := by rw [List.length_set]; exact W.len
  sl := fun j s e => by
    by_cases hj : j = i
    · subst hj
      rw [List.getElem?_set_self (List.getElem?_eq_some_iff.mp h).1] at e
      cases e
      obtain ⟨o, h1, h2⟩ := W.sl j _ h
      cases o with
      | none => exact h2.elim
      | some v => exact ⟨_, h1, w v h2⟩
    · rw [List.getElem?_set_ne (Ne.symm hj)] at e
      exact W.sl j s e
  out := fun j hj => W.out j (by rw [List.length_set] at hj; exact hj)
  dis := W.dis
  own := W.own
theorem xb_openS (i : Nat) (h : δ[i]? = some (.own (strmR p q n))) (k : ∀ cells r c m, StB n cells r c m → XB X (δ.set i (.own (strmX p q cells r c m))) sts R) : XB X δ sts R := by
  have := pss_ex (X := X) (e := sts) (t := fun z : {z : List Int × Int × Int × Int // StB n z.1 z.2.1 z.2.2.1 z.2.2.2} => tS X.K (δ.set i (.own (strmX p q z.1.1 z.1.2.1 z.1.2.2.1 z.1.2.2.2))) R) fun z => k _ _ _ _ z.2
  refine PSs.weak this fun D σ H q' => ?_
  obtain ⟨B, F, W, o⟩ := ts_iff.mp q'
  obtain ⟨_, _, ⟨cells, r, c, m, hb, hx⟩, _⟩ := W.strm h
  refine ⟨⟨(cells, r, c, m), hb⟩, ts_iff.mpr ⟨B, F, W.swap h fun v hv => ?_, o⟩⟩
  obtain ⟨c2, r2, cc, m2, _, hx2⟩ := hv
  obtain ⟨_, _, a1, a2⟩ := hx
  obtain ⟨b1, b2, b3, b4⟩ := hx2
  exact ⟨b1, b2, a1, a2⟩
theorem xb_closeS (i n : Nat) (h : δ[i]? = some (.own (strmX p q cells r c m))) (hb : StB n cells r c m) (k : XB X (δ.set i (.own (strmR p q n))) sts R) : XB X δ sts R := PSs.weak k fun D σ H q' => by
  obtain ⟨B, F, W, o⟩ := ts_iff.mp q'
  exact ts_iff.mpr ⟨B, F, W.swap h fun v hv => ⟨cells, r, c, m, hb, hv⟩, o⟩
theorem xb_retS (i n : Nat) (he : XE X δ e d) (h : δ[i]? = some (.own (strmX p q cells r c m))) (hb : StB n cells r c m) (hr : R.rt d (δ.set i (.own (strmR p q n)))) : XB X δ (.Return (some e) pos :: rest) R := xb_cons (ps_ret he) pss_never fun D σ H B F W o =>
  ⟨B, F, W, fun v B2 H2 g r2 => o.rt v d σ _ B2 H2 F (Step.of g) ((W.grow g).swap (r' := strmR p q n) h fun v hv => ⟨cells, r, c, m, hb, hv⟩) hr r2⟩
theorem Wf.sx {K : PySem.W.Frag} {B H : Hp} {σ : L2.St} {F : Nat → List Addr} (W : Wf K B H σ δ F) {i : Nat} (h : δ[i]? = some (.own (strmX p q cells r c m))) : σ[i]? = some (some (.ref p)) ∧ F i = [p, q] ∧ H p = some (.lst [.ref q, .int r, .int c, .int m]) ∧ H q = some (.lst (cells.map V.int)) ∧ B p = none ∧ B q = none ∧ p ≠ q := by
  obtain ⟨o, h1, h2⟩ := W.sl i _ h
  cases o with
  | none => exact h2.elim
  | some v =>
    obtain ⟨hv, hF, hp, hq⟩ := h2
    subst hv
    refine ⟨h1, hF, hp, hq, (W.own i p (by rw [hF]; exact List.mem_cons_self)).1, (W.own i q (by rw [hF]; exact List.mem_cons_of_mem _ List.mem_cons_self)).1, fun e => ?_⟩
    subst e
    rw [hp] at hq
    cases cells with
    | nil => simp at hq
    | cons z zs =>
      have := HO.lst.inj (Option.some.inj hq)
      rw [List.map_cons] at this
      cases (List.cons.inj this).1
/-- the spring is written -/
theorem Wf.sxUpd {K : PySem.W.Frag} {B H H2 : Hp} {σ : L2.St} {F : Nat → List Addr} (W : Wf K B H σ δ F) {i : Nat} {cells2 : List Int} {r2 c2 m2 : Int} (h : δ[i]? = some (.own (strmX p q cells r c m))) (k1 : H2 p = some (.lst [.ref q, .int r2, .int c2, .int m2])) (k2 : H2 q = some (.lst (cells2.map V.int))) (hk : ∀ b, b ≠ p → b ≠ q → H2 b = H b) :
    Wf K B H2 σ (δ.set i (.own (strmX p q cells2 r2 c2 m2))) F ∧ Step B H F B H2 F := by
  obtain ⟨h1, hF, _, _, b1, b2, _⟩ := W.sx h
  have hl : i < δ.length := (List.getElem?_eq_some_iff.mp h).1
  have nF : ∀ j, j ≠ i → ∀ a ∈ F j, a ≠ p ∧ a ≠ q := fun j hj a ha => ⟨fun e => hj (W.dis j i a ha (by rw [hF, e]; exact List.mem_cons_self)), fun e => hj (W.dis j i a ha (by rw [hF, e]; exact List.mem_cons_of_mem _ List.mem_cons_self))⟩
  refine ⟨⟨fun b o e => ?_, by rw [List.length_set]; exact W.len, fun j s e => ?_, fun j hj => W.out j (by rw [List.length_set] at hj; exact hj), W.dis, fun j a ha => ?_⟩, ⟨Same.refl B, fun b o e hn => ?_, fun _ _ _ _ => rfl, fun b o e => ?_, fun j b hb => .inl ⟨j, hb⟩⟩⟩
  · rw [hk b (fun z => by rw [z, b1] at e; cases e) (fun z => by rw [z, b2] at e; cases e)]
    exact W.bh b o e
  · by_cases hj : j = i
    · subst hj
      rw [List.getElem?_set_self hl] at e
      cases e
      exact ⟨_, h1, rfl, hF, k1, k2⟩
    · rw [List.getElem?_set_ne (Ne.symm hj)] at e
      obtain ⟨o, a1, a2⟩ := W.sl j s e
      exact ⟨o, a1, a2.loc (Same.refl B) fun a ha => hk a (nF j hj a ha).1 (nF j hj a ha).2⟩
  · obtain ⟨a1, o, a2⟩ := W.own j a ha
    refine ⟨a1, ?_⟩
    by_cases e1 : a = p
    · rw [e1]; exact ⟨_, k1⟩
    · by_cases e2 : a = q
      · rw [e2]; exact ⟨_, k2⟩
      · rw [hk a e1 e2]; exact ⟨o, a2⟩
  · rw [hk b (fun z => hn i (by rw [hF, z]; exact List.mem_cons_self)) (fun z => hn i (by rw [hF, z]; exact List.mem_cons_of_mem _ List.mem_cons_self))]
    exact e
  · by_cases e1 : b = p
    · rw [e1]; exact ⟨_, k1⟩
    · by_cases e2 : b = q
      · rw [e2]; exact ⟨_, k2⟩
      · rw [hk b e1 e2]; exact ⟨o, e⟩
def sxAt (r c m : Int) : Nat → Int
  | 1 => r
  | 2 => c
  | _ => m
theorem xe_st (i k : Nat) {x : Str} {jj} (h : δ[i]? = some (.own (strmX p q cells r c m))) (hk : k = 1 ∨ k = 2 ∨ k = 3) (hi : X.N[i]? = some x := by rfl) (hv : Vis X.env.scope x := by first | exact Or.inl rfl | exact Or.inr (Or.inl rfl) | exact Or.inr (Or.inr rfl)) (hd : (x == ("__debug__" : Str)) = false := by decide) (hcd : (x == ("__classdict__" : Str)) = false := by decide) :
    XE X δ (.Subscript (.Name x p1) (.Constant (.int (k : Nat)) jj p2) pos) (.int (sxAt r c m k)) :=
  (pe_ix ix_list (pe_var (i := i) hi hv hd hcd) pe_int (fun _ _ => rfl)).weak fun σ H Q ⟨B, F, W, q'⟩ => by
    obtain ⟨h1, _, h3, _⟩ := W.sx h
    refine ⟨.ref p, h1, p, _, (k : Int), .int (sxAt r c m k), rfl, rfl, SqL.of h3, ?_, q' _ B H (Grow.refl W.bh) (.int _)⟩
    rcases hk with rfl | rfl | rfl
    · exact atI_nat (j := 1) rfl
    · exact atI_nat (j := 2) rfl
    · exact atI_nat (j := 3) rfl
def sxSet (r c m z : Int) : Nat → Int × Int × Int
  | 1 => (z, c, m)
  | 2 => (r, z, m)
  | _ => (r, c, z)
theorem xb_stSet (i k : Nat) {x : Str} {jj} (h : δ[i]? = some (.own (strmX p q cells r c m))) (hk : k = 1 ∨ k = 2 ∨ k = 3) (he : XE X δ e (.int z)) (kk : XB X (δ.set i (.own (strmX p q cells (sxSet r c m z k).1 (sxSet r c m z k).2.1 (sxSet r c m z k).2.2))) rest R) (hi : X.N[i]? = some x := by rfl) (hv : Vis X.env.scope x := by first | exact Or.inl rfl | exact Or.inr (Or.inl rfl) | exact Or.inr (Or.inr rfl)) (hd : (x == ("__debug__" : Str)) = false := by decide) (hcd : (x == ("__classdict__" : Str)) = false := by decide)
    (hs : swapsWithSole [.Subscript (.Name x p1) (.Constant (.int (k : Nat)) jj p2) p3] e pos.line X.env = pure false := by rfl) (hw : swappedStores [.Subscript (.Name x p1) (.Constant (.int (k : Nat)) jj p2) p3] e X.env = pure none := by rfl)
    (h1 : (assignEach [.Subscript (.Name x p1) (.Constant (.int (k : Nat)) jj p2) p3] X.env).map (·.2) = [assign (.Subscript (.Name x p1) (.Constant (.int (k : Nat)) jj p2) p3) X.env] := by rfl) : XB X δ (.Assign [.Subscript (.Name x p1) (.Constant (.int (k : Nat)) jj p2) p3] e pos :: rest) R :=
  xb_cons (ps_asg he (pg_sub (pe_var (i := i) hi hv hd hcd) pe_int set_list) hs hw h1) kk fun D σ H B F W o => ⟨B, F, W, fun v B2 H2 g rr => by
    cases rr
    have W2 := W.grow g
    obtain ⟨h1, _, h3, h4, _, _, ne⟩ := W2.sx h
    refine ⟨.ref p, h1, p, _, (k : Int), k, rfl, rfl, h3, ?_, ?_⟩
    · rcases hk with rfl | rfl | rfl <;> rfl
    · obtain ⟨W3, s3⟩ := W2.sxUpd (H2 := upd H2 p (.lst ([V.ref q, V.int r, V.int c, V.int m].set k (.int z)))) (cells2 := cells) (r2 := (sxSet r c m z k).1) (c2 := (sxSet r c m z k).2.1) (m2 := (sxSet r c m z k).2.2) h (by
        rw [upd_same]
        rcases hk with rfl | rfl | rfl <;> rfl) (by rw [upd_ne (Ne.symm ne)]; exact h4) (fun b hb _ => upd_ne hb)
      exact ts_iff.mpr ⟨B2, F, W3, o.step ((Step.of g).trans s3)⟩⟩
theorem dp_ints {K : PySem.W.Frag} {H : Hp} {q : Addr} (h : H q = some (.lst (cells.map V.int))) : Dp K H (.ref q) (.list (cells.map .int)) := .lst (SqL.of h) ((RpA.ints cells).dp (lay_map _ (fun _ => by simp [PyData.canLay0]) cells))
theorem shaped_ints (l : List Int) : SeqAt.shaped (.list (l.map .int)) = true := by
  unfold SeqAt.shaped
  have h1 : PyData.canLay0 (.list (l.map .int)) = true := by
    simp only [PyData.canLay0]
    exact lay_map _ (fun _ => by simp [PyData.canLay0]) l
  have h2 := depth_map PyData.int 0 (fun _ => by simp [PyData.depth]) l
  have h3 : PyData.depth (.list (l.map .int)) = PyData.depthAll (l.map .int) + 1 := by simp only [PyData.depth]
  rw [h1, h3, Bool.true_and, decide_eq_true_eq]
  omega
/-- stream[0] != [] -/
theorem xt_stNe (i : Nat) {x : Str} {jj} (hu : X.A.units + 65 < cLine) (h : δ[i]? = some (.own (strmX p q cells r c m))) (hi : X.N[i]? = some x := by rfl) (hv : Vis X.env.scope x := by first | exact Or.inl rfl | exact Or.inr (Or.inl rfl) | exact Or.inr (Or.inr rfl)) (hd : (x == ("__debug__" : Str)) = false := by decide) (hcd : (x == ("__classdict__" : Str)) = false := by decide) :
    XT X δ (.Compare (.Subscript (.Name x p1) (.Constant (.int 0) jj p2) p3) [.NotEq] [.List [] p4] pos) (!cells.isEmpty) :=
  (pt_cmpR (op_neD (by omega)) (pe_ix ix_list (pe_var (i := i) hi hv hd hcd) pe_int (fun _ _ => rfl)) (xn_lst (δ := δ) xa_nil) (nomark _)).weak fun σ H Q ⟨B, F, W, q'⟩ => by
    obtain ⟨h1, _, h3, h4, _⟩ := W.sx h
    refine ⟨.ref p, h1, p, _, 0, .ref q, rfl, rfl, SqL.of h3, atI_hd _ _, B, F, W, fun l xs B2 H2 g hl hb h2 rr => ?_⟩
    refine ⟨.list (cells.map .int), .list [], dp_ints (g.hh _ _ h4), .lst (SqL.of h2) (by cases rr; exact .nil), shaped_ints _, shaped_ints [], !PyData.eqv (.list (cells.map .int)) (.list []), rfl, ?_⟩
    have e : PyData.eqv (.list (cells.map .int)) (.list []) = cells.isEmpty := by
      cases cells <;> simp [PyData.eqv, PyData.eqvAll]
    rw [e]
    exact q' B2 H2 g
/-- cell = stream[0].pop(0) -/
theorem xf_stPop (i : Nat) {x : Str} {jj j2} {zs : List Int} (h : δ[i]? = some (.own (strmX p q (z :: zs) r c m))) (hi : X.N[i]? = some x := by rfl) (hv : Vis X.env.scope x := by first | exact Or.inl rfl | exact Or.inr (Or.inl rfl) | exact Or.inr (Or.inr rfl)) (hd : (x == ("__debug__" : Str)) = false := by decide) (hcd : (x == ("__classdict__" : Str)) = false := by decide)
    {p5 : Pos} (hbase : attributeBase (.Subscript (.Name x p1) (.Constant (.int 0) jj p2) p3) "pop" X.env (eval (.Subscript (.Name x p1) (.Constant (.int 0) jj p2) p3) X.env) = eval (.Subscript (.Name x p1) (.Constant (.int 0) jj p2) p3) X.env := by rfl)
    (hfew : ((backTo pos (starEach [.Constant (.int 0) j2 p5] X.env)).all (fun x => !x.1) && (backToKw pos (keywordEach [] X.env)).all (fun x => x.1.isSome) && decide ([(.Constant (.int 0) j2 p5 : Expr)].length + ([] : List Keyword).length + (if ([] : List Keyword).isEmpty then 0 else 1) < 30)) = true := by rfl)
    (hline : (p4.endLine == pos.line) = true := by rfl) (hs : starEach [.Constant (.int 0) j2 p5] X.env = (false, eval (.Constant (.int 0) j2 p5) X.env) :: starEach [] X.env := by rfl) (hplain : (backTo pos (starEach [] X.env)).any (·.1) = false := by rfl) :
    XF X δ (.Call (.Attribute (.Subscript (.Name x p1) (.Constant (.int 0) jj p2) p3) "pop" p4) [.Constant (.int 0) j2 p5] [] pos) (fun d δ2 => d = .int z ∧ δ2 = δ.set i (.own (strmX p q zs r c m))) :=
  (pe_bm PySem.F.plainAttrs_list PySem.F.slot_list_pop PySem.F.type_list_pop mt_popAt (pe_ix ix_list (pe_var (i := i) hi hv hd hcd) pe_int (fun _ _ => rfl)) (pa_cons pe_int pa_nil hs) hbase hfew hline hs hplain).weak fun σ H Q ⟨B, F, W, q'⟩ => by
    obtain ⟨h1, _, h3, h4, _, _, ne⟩ := W.sx h
    refine ⟨.ref p, h1, p, _, 0, .ref q, rfl, rfl, SqL.of h3, atI_hd _ _, .inl ⟨rfl, _, SqL.of h4⟩, ?_⟩
    refine ⟨q, _, 0, 0, .int z, rfl, rfl, h4, by decide, by decide, ?_, rfl, ?_⟩
    · rw [List.length_map, List.length_cons]
      have : seqIndex? 0 (zs.length + 1) = some 0 := by
        have := PySem.StrLaws.seqIndex_nonneg (i := 0) (n := zs.length + 1) (by decide) (by omega)
        exact this
      exact this
    · obtain ⟨W3, s3⟩ := W.sxUpd (H2 := upd H q (.lst (((z :: zs).map V.int).eraseIdx 0))) (cells2 := zs) (r2 := r) (c2 := c) (m2 := m) h (by rw [upd_ne ne]; exact h3) (by rw [upd_same]; rfl) (fun b _ hb => upd_ne hb)
      exact q' _ (.int z) _ B _ F s3 W3 ⟨rfl, rfl⟩ (.int z)
/-! ### the start -/
def scrR (K : PySem.W.Frag) (ns : List Int) : Res where
  ok := fun B _ v fp => ∃ a, v = .ref a ∧ fp = [] ∧ SqL K B a (ns.map V.int)
  loc := fun {B B' H H' v fp} ⟨a, h1, h2, h3⟩ hb _ => ⟨a, h1, h2, hb.seq h3⟩
def SpStart (K : PySem.W.Frag) : Sp := fun vs H Q _ => ∃ (a : Addr) (ns : List Int), vs = [.ref a] ∧ SqL K H a (ns.map V.int) ∧ ∀ p q H2, H p = none → H q = none → p ≠ q → Same H H2 → H2 p = some (.lst [.ref q, .int 0, .int 0, .int 43]) → H2 q = some (.lst (ns.map V.int)) → Q (.ref p) H2
theorem xb_start (i j : Nat) {k : Nat} {f x y : Str} {ps : List Str} {ns : List Int} (G : Def X.prog X.w X.K X.mg X.base k f ps (SpStart X.K)) (hr : Room k X.A) (hj : δ[j]? = some (.own (scrR X.K ns))) (hl : ns.length ≤ 63) (hil : i < δ.length) (kk : ∀ p q, XB X (δ.set i (.own (strmR p q 0))) rest R) (hNd : X.N.Nodup)
    (hNj : X.N[j]? = some y := by rfl) (hvj : Vis X.env.scope y := by first | exact Or.inl rfl | exact Or.inr (Or.inl rfl) | exact Or.inr (Or.inr rfl)) (hdj : (y == ("__debug__" : Str)) = false := by decide) (hcj : (y == ("__classdict__" : Str)) = false := by decide) (hN : X.N[i]? = some x := by rfl) (hx : Loc X.env.scope x := by first | exact Or.inl rfl | exact Or.inr rfl)
    (hs : swapsWith (.Call (.Name f p1) [.Name y p2] [] p3) (some (.Name x p0)) pos.line X.env = pure false := by rfl) (hf : X.fn x = true ∨ X.env.scope.names.lookup x = some .local := by first | exact .inl rfl | exact .inr rfl | assumption)
    (hg : Gl X f := by rfl) (hdb : (f == ("__debug__" : Str)) = false := by decide) (he : starEach [.Name y p2] X.env = (false, eval (.Name y p2) X.env) :: starEach [] X.env := by rfl) (hpl : (backTo p3 (starEach [] X.env)).any (·.1) = false := by rfl) : XB X δ (.Assign [.Name x p0] (.Call (.Name f p1) [.Name y p2] [] p3) pos :: rest) R := by
  obtain ⟨fa, fd, h1, h2, h3, h4⟩ := G.ex
  refine xb_cons (ps_set hNd hN hx (pe_call h4 hr hg h1 h2 h3 .nil pass0 (pa_cons (pe_var (i := j) hNj hvj hdj hcj) pa_nil he) hdb he hpl) hs hf) (pss_ex fun z : Addr × Addr => kk z.1 z.2) fun D σ H B F W o => ?_
  obtain ⟨ov, a1, a2⟩ := W.sl j _ hj
  cases ov with
  | none => exact a2.elim
  | some v =>
    obtain ⟨a, rfl, hF, hS⟩ := a2
    refine ⟨.ref a, a1, ?_⟩
    show ∃ (a : Addr) (ns : List Int), _
    refine ⟨a, ns, rfl, W.bh.seq hS, fun p q H2 hp hq ne sm k1 k2 => ⟨(p, q), ?_⟩⟩
    have g : Grow B H B H2 := ⟨Same.refl B, W.bh.trans sm, sm, fun _ _ _ => rfl⟩
    have W2 := W.grow g
    have nF : ∀ b, H b = none → ∀ k, b ∉ F k := fun b hb k hk => by
      obtain ⟨_, u, hu⟩ := W.own k b hk
      rw [hb] at hu
      cases hu
    refine ts_iff.mpr ⟨B, _, W2.putO (r := strmR p q 0) (fp := [p, q]) hil ⟨ns, 0, 0, 43, ⟨hl, by decide, by decide, by decide, by decide, by decide⟩, rfl, rfl, k1, k2⟩ (fun b hb => ?_), o.step ⟨g.bb, fun b o e _ => g.hh b o e, fun b o e _ => rfl, fun b o e => ⟨o, g.hh b o e⟩, fun k b hb => ?_⟩⟩
    · rcases List.mem_cons.mp hb with e | e
      · rw [e]; exact ⟨⟨W.bh.free hp, _, k1⟩, fun k _ => nF p hp k⟩
      · rw [List.mem_singleton.mp e]; exact ⟨⟨W.bh.free hq, _, k2⟩, fun k _ => nF q hq k⟩
    · by_cases hk : k = i
      · rw [if_pos hk] at hb
        right
        rcases List.mem_cons.mp hb with e | e
        · rw [e]; exact hp
        · rw [List.mem_singleton.mp e]; exact hq
      · rw [if_neg hk] at hb
        exact .inl ⟨k, hb⟩
end
/-! ### the law -/
def SpLaw (K : PySem.W.Frag) : Sp := fun vs H Q _ => ∃ (a : Addr) (ns : List Int), vs = [.ref a] ∧ SqL K H a (ns.map V.int) ∧ ns.length ≤ 63 ∧ ∀ H', Q (.bl true) H'
section
variable {P : Program} {w : World} {K : PySem.W.Frag} {mg : Str → Option Value} {base : Heap}
theorem fn_law {x : Str} {st : Stmt} {N ps : List Str} {k : Nat} {fa : Addr} {fd : FuncData} (Fu : Fun K x x st fa fd) (S : FnScope N ps (defScope st)) (len : ps.length = 1) (hN : 1 ≤ N.length)
    (body : ∀ (X : Cx), (∃ (fa : Addr) (cdv : Value) (A : Around) (outer : List Env) (s : Shared) (H : Hp) (E : XK), Room k (A.deeper (envOfC x (defScope st) s.heap.objs.size fa cdv)) ∧ X = (cxOf CX0 P w K mg base N x (defScope st) fa cdv A outer s H E).nox) → ∀ ns : List Int, ns.length ≤ 63 → XB X (startD N [.own (scrR K ns)]) (defBody st) { rt := fun d _ => d = .bool true }) :
    FnOk P w K mg base CX0 (k + 1) fa fd ps (SpLaw K) := by
  refine Fu.ok S (fun vs H Q E h => ?_) (fun cdv A outer s H vs Q E hr h => ?_)
  · obtain ⟨a, ns, rfl, _⟩ := h
    exact len.symm
  · obtain ⟨a, ns, rfl, hS, hl, q⟩ := h
    refine ⟨_, body _ ⟨fa, cdv, A, outer, s, H, E, hr, rfl⟩ ns hl, ?_⟩
    have W : Wf K H H (L2.start N [.ref a]) (startD N [.own (scrR K ns)]) (fun _ => []) := by
      refine ⟨Same.refl H, ?_, fun i t e => ?_, fun _ _ => rfl, fun i j a h _ => (nomatch h), fun i a h => (nomatch h)⟩
      · unfold L2.start startD
        simp only [List.length_append, List.length_map, List.length_replicate, List.length_cons, List.length_nil]
      · cases i with
        | zero =>
          have e : some (Slot.own (scrR K ns)) = some t := e
          cases e
          exact ⟨some (.ref a), rfl, a, rfl, rfl, hS⟩
        | succ i =>
          have e : (List.replicate (N.length - 1) Slot.no)[i]? = some t := e
          rw [List.getElem?_replicate] at e
          split at e
          · rename_i hi
            cases e
            refine ⟨none, ?_, rfl⟩
            show (List.replicate (N.length - 1) none)[i]? = _
            rw [List.getElem?_replicate, if_pos hi]
          · cases e
    refine ts_iff.mpr ⟨H, _, W, fun _ _ _ _ _ _ _ h => h.elim, ?_, fun _ _ _ _ _ _ _ h => h.elim, fun _ _ _ _ _ _ _ h => h.elim, fun _ _ _ _ _ _ _ _ h => h.elim, trivial⟩
    intro v d σ2 δ2 B2 H2 F2 s2 W2 e r2
    have e : d = .bool true := e
    subst e
    cases r2
    exact q H2
end
end Dl

set_option Elab.async false
set_option linter.all false
set_option maxRecDepth 100000
set_option maxHeartbeats 4000000
/-! The data level: zip of what is alike; trees without dicts. -/
namespace Dl
open PySem PySem.Spec PyProof.Rows L2
section
variable {X : Cx} {δ : List Slot} {a b c e tg iter : Expr} {pos p : Pos} {ds ds2 : List PyData} {es : List Expr} {d d1 d2 : PyData}
theorem wk_zipT {K : PySem.W.Frag} {B : Hp} {a b : Addr} {xs ys : List V} (h : SqT K B a xs) (r : RpA K B xs ds) (h' : SqT K B b ys) (r' : RpA K B ys ds2) : Wk K (RZ.ItzT K a b) B (zipD ds ds2) where
  go := fun i H s hi => by
    rw [zipD_length] at hi
    have hx : i < xs.length := by rw [r.length]; omega
    have hy : i < ys.length := by rw [r'.length]; omega
    exact ⟨xs, ys, xs[i], ys[i], same_t s h, same_t s h', List.getElem?_eq_getElem hx, List.getElem?_eq_getElem hy⟩
  yld := fun i B1 H x H2 s1 s2 hy d hd => by
    obtain ⟨T, y, z, rfl, hT, rfl, hv, hw⟩ := hy
    obtain ⟨d1, h1, h2⟩ := r.get (hv xs (same_t s2 (same_t s1 h)))
    obtain ⟨d2, h3, h4⟩ := r'.get (hw ys (same_t s2 (same_t s1 h')))
    obtain ⟨u, w, h5, h6, rfl⟩ := zipD_get hd
    rw [h5] at h1
    rw [h6] at h3
    cases h1
    cases h3
    have g := Grow.new (o := .tup [y, z]) s2 hT
    exact ⟨_, g, .tup (.inl (.inl upd_same)) (.cons ((h2.mono s1).mono g.bb) (.cons ((h4.mono s1).mono g.bb) .nil))⟩
  stop := fun H s => ⟨xs, ys, same_t s h, same_t s h', by rw [zipD_length, r.length, r'.length]; omega⟩
theorem xi_zipA {elts : List Expr} {kk : Nat} {tpos : Pos} (hm : X.mg "zip" = none) (ha : XE X δ a d1) (hb : XE X δ b d2) (h1 : SeqD d1 ds) (h2 : SeqD d2 ds2) (hk : isListD d1 = isListD d2) (hg : Gl X "zip" := by rfl)
    (hs : starEach [a, b] X.env = (false, eval a X.env) :: starEach [b] X.env := by rfl) (hs2 : starEach [b] X.env = (false, eval b X.env) :: starEach [] X.env := by rfl) (hpl : (backTo pos (starEach [b] X.env)).any (·.1) = false := by rfl) :
    XI X (.Tuple elts kk tpos) δ (.Call (.Name "zip" p) [a, b] [] pos) (zipD ds ds2) :=
  (RZ.pi_zipA hg hm (xa_cons ha (xa_cons hb xa_nil hs2) hs) hs hpl).weak fun σ H R ⟨B, F, W, q⟩ => ⟨B, F, W, fun vs B2 H2 g r => by
    cases r with
    | cons r1 r2 =>
      cases r2 with
      | cons r3 r4 =>
        cases r4
        cases h1 with
        | lst =>
          cases h2 with
          | lst =>
            cases r1 with
            | @lst a xs _ h1 r1 =>
              cases r3 with
              | @lst b ys _ h3 r3 => exact ⟨a, b, xs, ys, rfl, .inl ⟨SqL.of (g.bh _ _ h1), SqL.of (g.bh _ _ h3), q _ B2 H2 g (wk_zip h1 r1 h3 r3)⟩⟩
          | tup => cases hk
        | tup =>
          cases h2 with
          | lst => cases hk
          | tup =>
            cases r1 with
            | @tup a xs _ h1 r1 =>
              cases r3 with
              | @tup b ys _ h3 r3 => exact ⟨a, b, xs, ys, rfl, .inr ⟨same_t g.bh h1, same_t g.bh h3, q _ B2 H2 g (wk_zipT h1 r1 h3 r3)⟩⟩⟩
theorem xg_lst {k : Nat} {is : List Nat} {δ2 : List Slot} (hc : X.calm = true) (h : XGs X es is ds δ δ2) (hl : ds.length = es.length) (hn : (assignEach es X.env).length = es.length := by rfl) (hst : (assignEach es X.env).findIdx? (·.1) = none := by rfl) : XG X (.Tuple es k pos) is (.list ds) δ δ2 :=
  (pg_lst hc h hn hst).weak fun v σ H Q ⟨B, F, W, r, q⟩ => by
    cases r with
    | @lst a xs _ h1 r1 => exact ⟨a, xs, rfl, SqL.of (W.bh _ _ h1), by rw [r1.length, hl], B, F, W, r1, q⟩
theorem zipD_self : ∀ l : List PyData, zipD l l = l.map fun y => .tuple [y, y]
  | [] => rfl
  | a :: l => by
    have := zipD_self l
    unfold zipD at this ⊢
    rw [List.zip_cons_cons, List.map_cons, this]
    rfl
end
/-- data without dicts, of a depth -/
inductive Tree : Nat → PyData → Prop
  | non (m : Nat) : Tree m .none
  | bl (m : Nat) (b : Bool) : Tree m (.bool b)
  | int (m : Nat) (i : Int) : Tree m (.int i)
  | str (m : Nat) (x : Str) : Tree m (.str x)
  | lst {m : Nat} {l : List PyData} (hz : l.length ≤ 1000000) (h : ∀ y ∈ l, Tree m y) : Tree (m + 1) (.list l)
  | tup {m : Nat} {l : List PyData} (hz : l.length ≤ 1000000) (h : ∀ y ∈ l, Tree m y) : Tree (m + 1) (.tuple l)
def F_copied (m : Nat) (ds : List PyData) (d : PyData) : Prop := ∃ x, ds = [x] ∧ Tree m x ∧ d = x
def F_same (m : Nat) (ds : List PyData) (d : PyData) : Prop := ∃ x, ds = [x, x] ∧ Tree m x ∧ d = .bool true
theorem map_id' {ι : Type} (l : List ι) : (l.map fun d => d) = l := List.map_id' _
theorem Tree.bools (m : Nat) (l : List Bool) (hz : l.length ≤ 1000000) : Tree (m + 1) (.list (l.map .bool)) := .lst (by rw [List.length_map]; exact hz) fun y hy => by
  obtain ⟨b, _, rfl⟩ := List.mem_map.mp hy
  exact .bl m b
theorem Tree.boolsT (m : Nat) (l : List Bool) (hz : l.length ≤ 1000000) : Tree (m + 1) (.tuple (l.map .bool)) := .tup (by rw [List.length_map]; exact hz) fun y hy => by
  obtain ⟨b, _, rfl⟩ := List.mem_map.mp hy
  exact .bl m b
end Dl

set_option Elab.async false
set_option linter.all false
set_option maxRecDepth 100000
set_option maxHeartbeats 4000000
/-! The data level: sorted(dict(pairs)) of ints. -/
namespace Dl
open PySem PySem.Spec PyProof.Rows L2
theorem putK_old (kvs : List (Key × V)) (k : Key) (v : V) (h : k ∈ kvs.map (·.1)) : (putK kvs k v).map (·.1) = kvs.map (·.1) := by
  unfold putK
  rw [if_pos (by
      obtain ⟨x, hx, e⟩ := List.mem_map.mp h
      exact List.any_eq_true.mpr ⟨x, hx, decide_eq_true e⟩), List.map_map]
  refine List.map_congr_left fun x _ => ?_
  show (if x.1 = k then (x.1, v) else x).1 = x.1
  split <;> rfl
theorem putK_fresh (kvs : List (Key × V)) (k : Key) (v : V) (h : k ∉ kvs.map (·.1)) : (putK kvs k v).map (·.1) = kvs.map (·.1) ++ [k] := by
  unfold putK
  rw [if_neg (by
      intro hh
      obtain ⟨x, hx, e⟩ := List.any_eq_true.mp hh
      exact h (List.mem_map.mpr ⟨x, hx, of_decide_eq_true e⟩)), List.map_append]
  rfl
theorem mergeK_keys (v : V) : ∀ (ns : List Int) (kvs : List (Key × V)) (ks : List Int), kvs.map (·.1) = ks.map Sum.inl → ks.Nodup → ∃ ks2 : List Int, (mergeK kvs (ns.map fun n => (Sum.inl n, v))).map (·.1) = ks2.map Sum.inl ∧ ks2.Nodup ∧ ks2.length ≤ ks.length + ns.length ∧ ∀ n, n ∈ ks2 ↔ n ∈ ks ∨ n ∈ ns
  | [], kvs, ks, e, hn => ⟨ks, e, hn, Nat.le_refl _, fun n => by simp⟩
  | n :: ns, kvs, ks, e, hn => by
    by_cases h : n ∈ ks
    · have e1 := putK_old kvs (Sum.inl n) v (by rw [e]; exact List.mem_map.mpr ⟨n, h, rfl⟩)
      rw [e] at e1
      obtain ⟨ks2, a, b, c, d⟩ := mergeK_keys v ns (putK kvs (Sum.inl n) v) ks e1 hn
      refine ⟨ks2, a, b, by rw [List.length_cons]; omega, fun m => ?_⟩
      rw [d, List.mem_cons]
      constructor
      · rintro (h1 | h1)
        · exact .inl h1
        · exact .inr (.inr h1)
      · rintro (h1 | rfl | h1)
        · exact .inl h1
        · exact .inl h
        · exact .inr h1
    · have e1 := putK_fresh kvs (Sum.inl n) v (by
        rw [e]
        intro z
        obtain ⟨m, hm, em⟩ := List.mem_map.mp z
        cases em
        exact h hm)
      rw [e] at e1
      have e2 : (putK kvs (Sum.inl n) v).map (·.1) = (ks ++ [n]).map Sum.inl := by rw [e1, List.map_append]; rfl
      obtain ⟨ks2, a, b, c, d⟩ := mergeK_keys v ns (putK kvs (Sum.inl n) v) (ks ++ [n]) e2 (by
        rw [List.nodup_append]
        refine ⟨hn, List.nodup_cons.mpr ⟨by simp, List.nodup_nil⟩, fun x hx y hy => ?_⟩
        rw [List.mem_singleton.mp hy]
        exact fun z => h (by rw [← z]; exact hx))
      refine ⟨ks2, a, b, by rw [List.length_append] at c; rw [List.length_cons]; simp at c; omega, fun m => ?_⟩
      rw [d, List.mem_append, List.mem_singleton, List.mem_cons, or_assoc]
theorem paired_mono {α β : Type} {F G : α → β → Prop} (h : ∀ a b, F a b → G a b) : ∀ {l : List α} {r : List β}, Paired F l r → Paired G l r
  | _, _, .nil => .nil
  | _, _, .cons x y => .cons (h _ _ x) (paired_mono h y)
theorem pairs_rp {K : PySem.W.Frag} {H : Hp} {z : Int} : ∀ {ns : List Int} {vs : List V}, RpA K H vs (ns.map fun n => PyData.tuple [.int n, .int z]) → ∃ ps : List Addr, vs = ps.map V.ref ∧ Paired (fun p (kv : Key × V) => SqT K H p [kV kv.1, kv.2]) ps (ns.map fun n => (Sum.inl n, V.int z))
  | [], _, .nil => ⟨[], rfl, .nil⟩
  | n :: ns, _, .cons (.tup (a := a) hs r0) r => by
    obtain ⟨ps, e, hp⟩ := pairs_rp r
    have e0 := RpA.ints_inv (ns := [n, z]) r0
    subst e0
    exact ⟨a :: ps, by rw [e]; rfl, .cons hs hp⟩
section
variable {X : Cx} {δ : List Slot} {a : Expr} {p p1 pos pos1 : Pos}
theorem xn_sortedDict {ns ys : List Int} {z : Int} (hm : X.mg "sorted" = none) (hm2 : X.mg "dict" = none) (he : XE X δ a (.list (ns.map fun n => .tuple [.int n, .int z]))) (hl : ns.length < 64) (h1 : ys.Nodup) (h2 : ys.Pairwise (· ≤ ·)) (h3 : ∀ n, n ∈ ys ↔ n ∈ ns) (hc : X.calm = true := by rfl) (hg : Gl X "sorted" := by rfl) (hg2 : Gl X "dict" := by rfl)
    (hs : starEach [a] X.env = (false, eval a X.env) :: starEach [] X.env := by rfl) (hs2 : starEach [.Call (.Name "dict" p1) [a] [] pos1] X.env = (false, eval (.Call (.Name "dict" p1) [a] [] pos1) X.env) :: starEach [] X.env := by rfl) (hpl : (backTo pos1 (starEach [] X.env)).any (·.1) = false := by rfl) (hpl2 : (backTo pos (starEach [] X.env)).any (·.1) = false := by rfl) :
    XN X δ (.Call (.Name "sorted" p) [.Call (.Name "dict" p1) [a] [] pos1] [] pos) (ys.map .int) :=
  (pe_callB (call_sortedDI hc) hg hm boot_sorted (pa_cons (pe_callTy (call_dictP hc) hg2 hm2 boot_dict (pa_cons he pa_nil hs) (by decide) (by decide) hs hpl) pa_nil hs2) (by decide) (by decide) hs2 hpl2).weak fun σ H Q ⟨B, F, W, q⟩ => ⟨B, F, W, fun v B1 H1 g1 r1 => by
    cases r1 with
    | @lst l xs _ e1 r1 =>
      obtain ⟨ps, rfl, hp⟩ := pairs_rp r1
      obtain ⟨ks2, k1, k2, k3, k4⟩ := mergeK_keys (V.int z) ns [] [] rfl List.nodup_nil
      refine ⟨l, ps, ns.map fun n => (Sum.inl n, V.int z), rfl, SqL.of (g1.bh _ _ e1), ?_, fun d hd => ?_⟩
      · exact paired_mono (fun _ _ h => same_t g1.bh h) hp
      refine ⟨d, _, ks2, rfl, .inl upd_same, k1, by simp at k3; omega, fun ws t hperm hsrt ht => ?_⟩
      have e : ws = ys := by
        have hnd : ws.Nodup := hperm.nodup_iff.mpr k2
        have hpp : ws.Perm ys := (List.perm_ext_iff_of_nodup hnd h1).mpr fun n => by rw [hperm.mem_iff, k4, h3]; simp
        exact hpp.eq_of_pairwise (fun a b _ _ x y => Int.le_antisymm x y) hsrt h2
      subst e
      have g2 : Grow B1 H1 B1 (upd H1 d (.dK (mergeK [] (ns.map fun n => (Sum.inl n, V.int z))))) := Grow.newH g1.bh hd
      have g3 := Grow.newH (o := .lst (ws.map V.int)) g2.bh ht
      have g := (g1.trans g2).trans g3
      have ht1 : H1 t = none := g2.hh.free ht
      exact q t _ B1 _ g (g1.hh.free ht1) (g1.bh.free ht1) upd_same (RpA.ints ws)⟩
end
end Dl

set_option Elab.async false
set_option linter.all false
set_option maxRecDepth 100000
set_option maxHeartbeats 4000000
/-! Functions handed on: a lambda made in one frame, called in frames above it, however deep. -/
namespace Dl
open PySem PySem.Spec PyProof.Rows L2 LamX
/-- from the state (s, H) with the frames fs to the state (s2, H2) with the frames outer: the old frames' cells stand -/
structure Chain (fs : List Addr) (s : Shared) (H : Hp) (outer : List Env) (s2 : Shared) (H2 : Hp) : Prop where
  un : Un fs [] H H2 s.heap s2.heap
  nf : ∀ b ∈ frs outer, b ∈ fs ∨ s.heap.get? b = none
theorem Chain.refl {X : Cx} {s : Shared} {H : Hp} : Chain (frs X.stack) s H X.stack s H := ⟨Un.refl, fun _ hb => .inl hb⟩
theorem un_chain {fs gs : List Addr} {H H1 H2 : Hp} {h h1 h2 : Heap} (a : Un fs [] H H1 h h1) (b : Un gs [] H1 H2 h1 h2) (hn : ∀ x ∈ gs, x ∈ fs ∨ h.get? x = none) : Un fs [] H H2 h h2 where
  keep := fun c ob q n hc hx => b.keep c ob (a.keep c ob q n hc hx) (a.free c ob q n hx) (fun z => by
    rcases hn c z with y | y
    · exact hc y
    · rw [y] at q; cases q) hx
  slot := fun c ob q n hc hx => by
    obtain ⟨sl, e1⟩ := a.slot c ob q n hc hx
    obtain ⟨sl', e2⟩ := b.any e1 (a.free c ob q n hx) hx
    exact ⟨sl', e2⟩
  free := fun c ob q n hx => by
    obtain ⟨o', e1⟩ := a.there c ob q hx
    exact b.free c o' e1 (a.free c ob q n hx) hx
  there := fun c ob q hx => by
    obtain ⟨o', e1⟩ := a.there c ob q hx
    exact b.there c o' e1 hx
  tups := fun c xs q => b.tups c xs (a.tups c xs q)
  frzs := fun c o u q => b.frzs c o u (a.frzs c o u q)
  tbls := fun c ps q => by
    obtain ⟨m1, e1⟩ := a.tbls c ps q
    obtain ⟨m2, e2⟩ := b.tbls c _ e1
    exact ⟨m1 ++ m2, by rw [e2, Array.append_assoc]⟩
/-- the frame Y stands above -/
structure Deep (fs : List Addr) (s : Shared) (H : Hp) (Y : Cx) : Prop where
  ch : Chain fs s H Y.outer Y.s_0 Y.H_0
  ex : Y.ex = []
  st : ∀ b ∈ frs Y.stack, b ∈ frs Y.outer ∨ Y.s_0.heap.get? b = none
section
variable {X Y : Cx} {pins : List (Addr × Obj)} {σ : L2.St} {fs : List Addr} {H H1 H2 : Hp} {s s1 s2 : Shared}
theorem Deep.un (c : Deep fs s H Y) (I : Inv Y pins σ H2 s2) : Un fs [] H H2 s.heap s2.heap := by
  have u := I.base
  rw [c.ex] at u
  exact un_chain c.ch.un u c.ch.nf
/-- further frames above Y -/
theorem Deep.up (c : Deep fs s H Y) (I : Inv Y pins σ H2 s2) : Chain fs s H Y.stack s2 H2 :=
  ⟨c.un I, fun b hb => by
    rcases c.st b hb with e | e
    · exact c.ch.nf b e
    · cases q : s.heap.get? b with
      | none => exact .inr rfl
      | some o =>
        obtain ⟨o', e'⟩ := c.ch.un.there b o q (by simp)
        rw [e] at e'
        cases e'⟩
theorem Deep.tr (c : Deep fs s H Y) (pn : List (Addr × Obj)) (xe : Value → Shared → Prop) : Deep fs s H (Y.tr pn xe) := ⟨c.ch, c.ex, c.st⟩
theorem deep_cx {CX : CXT} {P : Program} {w : World} {K : PySem.W.Frag} {mg : Str → Option Value} {base : Heap} {N : List Str} {qual : Str} {scope : Scope} {f : Addr} {cd : Value} {A : Around} {outer : List Env} {E : XK} (c : Chain fs s H outer s2 H2) : Deep fs s H (cxOf CX P w K mg base N qual scope f cd A outer s2 H2 E) := ⟨c, rfl, fun b hb => by
  unfold frs at hb
  obtain ⟨e, he, q⟩ := List.mem_filterMap.mp hb
  rcases List.mem_cons.mp he with z | z
  · subst z
    right
    have q : some s2.heap.objs.size = some b := q
    cases q
    show s2.heap.get? s2.heap.objs.size = none
    cases h : s2.heap.get? s2.heap.objs.size with
    | none => rfl
    | some o => exact absurd (Heap.lt_size h) (Nat.lt_irrefl _)
  · exact .inl (List.mem_filterMap.mpr ⟨e, z, q⟩)⟩
theorem Deep.nox (c : Deep fs s H Y) : Deep fs s H Y.nox := ⟨c.ch, c.ex, c.st⟩
/-- f, called from wherever above, does as sp says -/
structure Runs (P : Program) (w : World) (K : PySem.W.Frag) (mg : Str → Option Value) (base : Heap) (fs : List Addr) (s : Shared) (H : Hp) (CXc : CXT) (k : Nat) (f : Addr) (sp : Hp → VK → XK → Prop) : Prop where
  fn : ∀ (outer : List Env) (s2 : Shared) (H2 : Hp), Chain fs s H outer s2 H2 → PySem.W.FnAt f s2.heap
  run : ∀ (A : Around) (outer : List Env) (s2 : Shared) (H2 : Hp) (Q : VK) (E : XK), Room k A → Env0 P w K mg base A outer s2 H2 → Chain fs s H outer s2 H2 → sp H2 Q E → codeAny (model P w) A (.call (.ref f) ⟨[], []⟩) (CR CXc outer P w H2 s2 Q E) s2
theorem Runs.imp {P : Program} {w : World} {K : PySem.W.Frag} {mg : Str → Option Value} {base : Heap} {CXc : CXT} {k : Nat} {f : Addr} {sp sp2 : Hp → VK → XK → Prop} (R : Runs P w K mg base fs s H CXc k f sp) (h : ∀ H Q E, sp2 H Q E → sp H Q E) : Runs P w K mg base fs s H CXc k f sp2 := ⟨R.fn, fun A outer s2 H2 Q E hr e c q => R.run A outer s2 H2 Q E hr e c (h _ _ _ q)⟩
/-- a lambda without parameters, made at (s, H) -/
theorem runs_lam {f c' : Addr} {pm ctv : Value} {params : Arguments} {body : Expr} {scope : Scope} {k : Nat} {tb : XK → TE}
    (I : Inv X pins σ H s) (L : LamS X.env.scope scope) (hf : s.heap.get? f = some (PySem.W.kla_obj "<lambda>" (X.env.qual ++ "<lambda>") params body scope (cloFrom X.env.cells scope.names []) pm c' ctv)) (hfn : H f = none) (hfr : f ∉ frs X.stack)
    (hbind : bindArgs (PySem.W.kla_fn "<lambda>" (X.env.qual ++ "<lambda>") params body scope (cloFrom X.env.cells scope.names []) pm (.ref c') ctv) ⟨[], []⟩ = pure [])
    (hbody : ∀ (A : Around) (outer : List Env) (s : Shared) (H : Hp) (E : XK), Room k (A.deeper (lamEnv X scope s.heap.objs.size f c')) → PE (lamCx X A outer s H E scope f c') body (tb E)) :
    Runs X.prog X.w X.K X.mg X.base (frs X.stack) s H (L2.CX X.prog X.w) (k + 1) f (fun H2 Q E => H2 c' = some (CodeO c' (X.env.qual ++ "<lambda>")) ∧ tb E σ H2 Q) := ⟨fun outer s2 H2 hc => ⟨_, _, _, _, hc.un.keep f _ hf hfn hfr (fun z => nomatch (show f ∈ ([] : List Addr) from z))⟩, fun A outer s2 H2 Q E hr e0 hc ⟨h1, h2⟩ => by
  have of2 : s2.heap.get? f = some (PySem.W.kla_obj "<lambda>" (X.env.qual ++ "<lambda>") params body scope (cloFrom X.env.cells scope.names []) pm c' ctv) := hc.un.keep f _ hf hfn hfr (fun z => nomatch (show f ∈ ([] : List Addr) from z))
  obtain ⟨⟨oc, vs, t, hoc, hdc, hvc⟩, _, _⟩ := e0.hok c' _ h1
  refine PySem.W.kla_callFunE hr.depth of2 rfl L.co L.gen rfl ⟨c', oc, vs, t, rfl, hoc, hdc, hvc⟩ ?_
  rw [hbind]
  have lim : s2.heap.NoLimit := e0.mod.nolimit.keeps fun b o e => (e0.bs b o e).1
  refine wpAny_pure (wpAny_newFunctionEnv (fun y hy => (L.own y hy).2) (fun y hy => absurd hy (by simp)) (fun h₁ hns hsb => ⟨lim.fresh _ hsb, ?_⟩) L.kind)
  show codeAny _ _ (.expr body (lamEnv X scope s2.heap.objs.size f c')) _ _
  have kp : ∀ b o, s2.heap.get? b = some o → h₁.get? b = some o := fun b o e => hsb.extBut b o (Nat.ne_of_lt (Heap.lt_size e)) (Heap.get?_push_of_some _ e)
  have J : Inv (lamCx X A outer s2 H2 E scope f c') [] σ H2 { s2 with heap := h₁, toks := s2.toks + ([] : List (Str × Value)).length } := lam_start2 I L e0 hr.hd hc.un hns kp
  refine PySem.W.kla_codeExpr (wpAny_mono ((hbody A outer s2 H2 E (hr.deeper _)).run [] _ _ H2 Q J h2) (fun v s' hq => ?_) fun e s' hq => hq)
  obtain ⟨w', H', J', rv, q⟩ := hq
  exact ⟨w', H', J'.os, J'.bare, J'.base, J'.hok, rv, q⟩⟩
/-- x(), x a local that holds such a one -/
theorem pe_run {CXc : CXT} {k i : Nat} {f : Addr} {a : Str} {E : XK} {sp : Hp → VK → XK → Prop} {p1 p2 : Pos} (R : Runs Y.prog Y.w Y.K Y.mg Y.base fs s H CXc k f sp) (D : Deep fs s H Y) (hr : Room k Y.A) (hx : Passes CXc Y E) (hN : Y.N[i]? = some a) (hv : Vis Y.env.scope a) (hd : (a == ("__debug__" : Str)) = false := by decide) (hcd : (a == ("__classdict__" : Str)) = false := by decide) :
    PE Y (.Call (.Name a p1) [] [] p2) (fun σ H2 Q => σ[i]? = some (some (.ref f)) ∧ sp H2 Q E) := by
  refine ⟨fun pins s1 σ H1 Q I h => ?_⟩
  obtain ⟨hs, hsp⟩ := h
  refine wpAny_Call_Name_kw (thn ((pe_var (pos := p1) (i := i) hN hv hd hcd).run pins s1 σ H1 (fun v H2 => v = .ref f ∧ H2 = H1) I ⟨.ref f, hs, rfl, rfl⟩) fun u s2 ⟨v, H2, I2, r2, q2⟩ => ?_)
  obtain ⟨ev, eH⟩ := q2
  subst ev
  rw [eH] at I2
  obtain rfl : u = Value.ref f := r2
  have ch := D.up I2
  refine PySem.W.callWith_F0 (R.fn _ _ _ ch) ?_
  refine wpAny_call (codeAny_mono (R.run Y.A Y.stack s2 H1 Q E hr I2.env0 ch hsp) fun r s' hq => ?_)
  cases r with
  | error e => exact hx pins σ H1 s2 e s' I2 hq
  | ok fl =>
    cases fl with
    | ret u => exact I2.after hq
    | next => exact False.elim hq
    | brk => exact False.elim hq
    | cont => exact False.elim hq
/-- a def that is called from above alone -/
structure FnC (P : Program) (w : World) (K : PySem.W.Frag) (mg : Str → Option Value) (base : Heap) (fs : List Addr) (s : Shared) (H : Hp) (CXc : CXT) (k : Nat) (f : Addr) (fd : FuncData) (ps : List Str) (sp : Sp) : Prop where
  len : ∀ vs H Q E, sp vs H Q E → vs.length = ps.length
  run : ∀ (A : Around) (outer : List Env) (s2 : Shared) (H2 : Hp) (args : Args) (us : List Value) (vs : List V) (Q : VK) (E : XK), Room k A → Env0 P w K mg base A outer s2 H2 → Chain fs s H outer s2 H2 → BindsTo s2 fd args (ps.zip us) → Vals vs us → sp vs H2 Q E →
    codeAny (model P w) A (.call (.ref f) args) (CR CXc outer P w H2 s2 Q E) s2
theorem run_fnC {CXc : CXT} {k : Nat} {f : Addr} {fd : FuncData} {ps : List Str} {sp : Sp} {E : XK} {Q : VK} {us : List Value} {vs : List V} (F : FnC Y.prog Y.w Y.K Y.mg Y.base fs s H CXc k f fd ps sp) (D : Deep fs s H Y) (hr : Room k Y.A) (hb : Binds Y.K fd ps []) (hx : Passes CXc Y E)
    (I : Inv Y pins σ H1 s1) (r : Vals vs us) (h : sp vs H1 Q E) : wpAny (model Y.prog Y.w) Y.A (call (.ref f) us) (EP Y pins σ Q) Y.xe s1 := by
  have hl : (us ++ []).length = ps.length := by rw [List.append_nil, ← r.length]; exact F.len _ _ _ _ h
  have hb2 := hb s1 us I.kIn hl
  rw [List.append_nil] at hb2
  refine wpAny_call (codeAny_mono (F.run Y.A Y.stack s1 H1 ⟨us, []⟩ us vs Q E hr I.env0 (D.up I) hb2 r h) fun r s' hq => ?_)
  cases r with
  | error e => exact hx pins σ H1 s1 e s' I hq
  | ok fl =>
    cases fl with
    | ret u => exact I.after hq
    | next => exact False.elim hq
    | brk => exact False.elim hq
    | cont => exact False.elim hq
theorem pe_callC {CXc : CXT} {k : Nat} {f : Addr} {fd : FuncData} {x : Str} {ps : List Str} {sp : Sp} {E : XK} {e : Expr} {es : List Expr} {t : TA} {p pos : Pos} (F : FnC Y.prog Y.w Y.K Y.mg Y.base fs s H CXc k f fd ps sp) (D : Deep fs s H Y) (hr : Room k Y.A) (hg : Gl Y x) (hm : Y.mg x = some (.ref f)) (hk : PySem.W.keepIn Y.K (.ref f) = true) (hb : Binds Y.K fd ps []) (hx : Passes CXc Y E)
    (ha : PA Y (e :: es) t) (hdb : (x == ("__debug__" : Str)) = false := by decide) (he : starEach (e :: es) Y.env = (false, eval e Y.env) :: starEach es Y.env := by rfl) (hpl : (backTo pos (starEach es Y.env)).any (·.1) = false := by rfl) :
    PE Y (.Call (.Name x p) (e :: es) [] pos) (fun σ H1 Q => t σ H1 fun vs H2 => sp vs H2 Q E) := by
  refine ⟨fun pins s σ H Q I h => ?_⟩
  refine wpAny_Call_Name_kw (ld_glob I hg hm ?_ hdb)
  refine PySem.W.callWith_K (h₀ := Y.base) I.ok.mod.kin hk (thn (ha.run pos pins s σ H _ I h) fun us s1 ⟨vs, H1, I1, r, q⟩ => ⟨I1.kIn, ?_⟩) he hpl
  exact run_fnC F D hr hb hx I1 r q
/-- the body of such a def -/
theorem fn_ofC {CXc : CXT} {P : Program} {w : World} {K : PySem.W.Frag} {mg : Str → Option Value} {base : Heap} {k : Nat} {x qual : Str} {st : Stmt} {f : Addr} {fd : FuncData} {N ps : List Str} {sp : Sp} (Fu : Fun K x qual st f fd) (S : FnScope N ps (defScope st)) (len : ∀ vs H Q E, sp vs H Q E → vs.length = ps.length)
    (hbody : ∀ (cdv : Value) (A : Around) (outer : List Env) (s2 : Shared) (H2 : Hp) (vs : List V) (Q : VK) (E : XK), Room k (A.deeper (envOfC qual (defScope st) s2.heap.objs.size f cdv)) → Chain fs s H outer s2 H2 → sp vs H2 Q E →
      ∃ t, PSs (cxOf CXc P w K mg base N qual (defScope st) f cdv A outer s2 H2 E) (defBody st) t ∧ t { nx := fun _ H' => Q .non H', rt := Q } (L2.start N vs) H2) : FnC P w K mg base fs s H CXc (k + 1) f fd ps sp := by
  obtain ⟨oc, od, kV, doc, pm, an, cdv, ct, osl, rfl, lk, hcd⟩ := Fu.ex
  exact ⟨len, fun A outer s2 H2 args us vs Q E hr e0 hc hb r hsp => run_ofS lk hcd S hr e0 hb r (len _ _ _ _ hsp) fun hr' => hbody cdv A outer s2 H2 vs Q E hr' hc hsp⟩
end
end Dl

set_option Elab.async false
set_option linter.all false
set_option maxRecDepth 100000
set_option maxHeartbeats 4000000
/-! A call to which a lambda is handed among other arguments. -/
namespace Dl
open PySem PySem.Spec PyProof.Rows L2 LamX
section
variable {X : Cx} {pins : List (Addr × Obj)} {σ : L2.St} {H : Hp} {s : Shared}
theorem Inv.addPin (I : Inv X pins σ H s) {p : Addr × Obj} (h1 : s.heap.get? p.1 = some p.2) (h2 : H p.1 = none) (h3 : p.1 ≠ X.env.locals) (h4 : p.1 ∉ X.fs) (h5 : ∀ v, p.2.data ≠ .cell v) : Inv X (p :: pins) σ H s :=
  ⟨I.ok, I.os, I.bare, I.base, I.loc, I.cell, I.free, I.freeC, fun q hq => by
    rcases List.mem_append.mp hq with e | e
    · exact I.pin q (List.mem_append_left _ e)
    · rcases List.mem_cons.mp e with e | e
      · rw [e]; exact ⟨h1, h2, h3, h4, h5⟩
      · exact I.pin q (List.mem_append_right _ e), I.hok, I.len⟩
theorem Inv.lessPin {p : Addr × Obj} (I : Inv X (p :: pins) σ H s) : Inv X pins σ H s :=
  ⟨I.ok, I.os, I.bare, I.base, I.loc, I.cell, I.free, I.freeC, fun q hq => by
    rcases List.mem_append.mp hq with e | e
    · exact I.pin q (List.mem_append_left _ e)
    · exact I.pin q (List.mem_append_right _ (List.mem_cons_of_mem _ e)), I.hok, I.len⟩
/-- the codes of a table, told by what is known of objects -/
def Codes (B : Hp) (q : Str) (ps : Array Value) : Prop := TriplesOk ps.toList ∧ ∀ (pos : Pos) (cv : Value), codeAmong pos ps.toList = some cv → ∃ c, cv = .ref c ∧ B c = some (CodeO c q)
/-- the heap behind a lambda's making, its table at P -/
def LamH (P : Addr) (q : Str) (c' : Addr) (H H1 : Hp) : Prop := (H1 = H ∧ H c' = some (CodeO c' q) ∧ ∃ (ps : Array Value) (pos : Pos), H P = some (.tbl ps) ∧ codeAmong pos ps.toList = some (.ref c')) ∨ (H c' = none ∧ ∃ (ps : Array Value) (pos : Pos), H P = some (.tbl ps) ∧ H1 = upd (upd H P (.tbl (ps ++ #[rawInt pos.line, rawInt pos.col, .ref c']))) c' (CodeO c' q))
abbrev lamObj (X : Cx) (params : Arguments) (body : Expr) (scope : Scope) (pm ctv : Value) (c' : Addr) : Obj := PySem.W.kla_obj "<lambda>" (X.env.qual ++ "<lambda>") params body scope (cloFrom X.env.cells scope.names []) pm c' ctv
theorem lam_make3 {c P : Addr} {q : Str} {params : Arguments} {body : Expr} {scope : Scope} {pos : Pos} {E : Value → Shared → Prop} {Q : Value → Shared → Prop} (I : Inv X pins σ H s) (TB : TabB X.base X.mg c P) (hcode : X.env.code = .ref c) (eq : q = X.env.qual ++ "<lambda>")
    (hT : ∃ ps, H P = some (.tbl ps) ∧ Codes H q ps) (hdef : defaultsOf params X.env = ([], [])) (hfree : ∀ y ∈ scope.names, y.2 = .free → ∃ c, X.env.cells.lookup y.1 = some c)
    (h : ∀ (f c' : Addr) (pm ctv : Value) (H1 : Hp) (s1 : Shared), Inv X pins σ H1 s1 → LamH P q c' H H1 → s1.heap.get? f = some (lamObj X params body scope pm ctv c') → H1 f = none → f ∉ frs X.stack → Q (.ref f) s1) :
    wpAny (model X.prog X.w) X.A (eval (.Lambda params body scope pos) X.env) Q E s := by
  subst eq
  obtain ⟨ps, hP, ht, ha⟩ := hT
  have hPs : s.heap.get? P = some { cls := .none, data := .fields ps } := I.hok P _ hP
  have bB : s.heap.BuiltinsAt X.mg P := TB.bm.keeps I.bk
  have away : ∀ f, s.heap.objs.size ≤ f → f ∉ frs X.stack := fun f hf z => (List.mem_cons.mp (I.stkSub _ z)).elim (fun e => by
    have := I.lt
    rw [← e] at this
    exact Nat.lt_irrefl _ (Nat.lt_of_lt_of_le this hf)) (fun e => I.nofs hf e)
  refine PySem.W.kla_eval hdef ?_
  cases hc : codeAmong pos ps.toList with
  | some cv =>
    obtain ⟨c', rfl, hco⟩ := ha pos cv hc
    refine PySem.W.kla_makeFunctionHit (mg := X.mg) (c := c) (P := P) (ps := ps) (closure_ok hfree) I.ok.glob (I.mod.glob.keeps I.bk) hcode (TB.code.keeps I.bk) hPs ht hc bB fun ctv h' tk hx hsz => ?_
    exact h h'.objs.size c' ((X.mg "__name__").getD .none) ctv H _ (I.kept (t' := tk) fun b o e => Heap.get?_push_of_some _ (hx b o e)) (.inl ⟨rfl, hco, ps, pos, hP, hc⟩) (Heap.get?_push_size _ rfl) (I.hok.fresh hsz) (away _ hsz)
  | none =>
    refine PySem.W.kla_makeFunction (mg := X.mg) (c := c) (P := P) (ps := ps) (closure_ok hfree) I.ok.glob (I.mod.glob.keeps I.bk) hcode (TB.code.keeps I.bk) hPs ht hc TB.gP bB fun c' ctv h' tk hx hge hlt hrec htb => ?_
    obtain ⟨c2, oc, vs, t, e2, hoc, hd, hv⟩ := hrec
    cases e2
    have big : s.heap.objs.size ≤ h'.objs.size := Nat.le_trans hge (Nat.le_of_lt hlt)
    have free : H c' = none := I.hok.fresh hge
    have J := inv_table (t' := tk) (more := #[rawInt pos.line, rawInt pos.col, .ref c']) (h' := h'.push (lamObj X params body scope ((X.mg "__name__").getD .none) ctv c')) I hP
      (fun b o hb e => Heap.get?_push_of_some _ (hx b o hb e)) (Heap.get?_push_of_some _ htb) hge ⟨oc, vs, t, Heap.get?_push_of_some _ hoc, hd, hv⟩
    refine h h'.objs.size c' ((X.mg "__name__").getD .none) ctv _ _ J (.inr ⟨free, ps, pos, hP, rfl⟩) (Heap.get?_push_size _ rfl) ?_ (away _ big)
    rw [upd_ne (Nat.ne_of_gt hlt), upd_ne (Nat.ne_of_gt (Nat.lt_of_lt_of_le (Heap.lt_size hPs) big))]
    exact I.hok.fresh big
/-- what a lambda's making asks of X -/
structure LamAt (X : Cx) (q : Str) (c P : Addr) : Prop where
  tb : TabB X.base X.mg c P
  code : X.env.code = .ref c
  eq : q = X.env.qual ++ "<lambda>"
  st : X.stack = X.env :: X.outer
/-- arguments, the state behind them in hand -/
structure PAS (X : Cx) (es : List Expr) (t : List (Addr × Obj) → L2.St → Hp → (List Value → Shared → Prop) → Prop) : Prop where
  run : ∀ (pos : Pos) (pins : List (Addr × Obj)) (s : Shared) (σ : L2.St) (H : Hp) (R : List Value → Shared → Prop), Inv X pins σ H s → t pins σ H R → wpAny (model X.prog X.w) X.A (spliced (backTo pos (starEach es X.env))) R X.xe s
theorem pas_of {es : List Expr} {t : TA} (h : PA X es t) : PAS X es (fun pins σ H R => t σ H fun vs H1 => ∀ us s1, Inv X pins σ H1 s1 → Vals vs us → R us s1) :=
  ⟨fun pos pins s σ H R I q => thn (h.run pos pins s σ H _ I q) fun us s1 ⟨vs, H1, I1, r, q1⟩ => q1 us s1 I1 r⟩
theorem pas_cons {e : Expr} {es : List Expr} {te : TE} {t : List (Addr × Obj) → L2.St → Hp → (List Value → Shared → Prop) → Prop} (ha : PE X e te) (hr : PAS X es t) (hs : starEach (e :: es) X.env = (false, eval e X.env) :: starEach es X.env := by rfl) :
    PAS X (e :: es) (fun pins σ H R => te σ H fun v H1 => ∀ u, L2.RelV v u → t pins σ H1 fun us s1 => R (u :: us) s1) := by
  refine ⟨fun pos pins s σ H R I q => ?_⟩
  rw [hs]
  show wpAny _ _ (spliced ((false, eval e X.env) :: backTo pos (starEach es X.env))) _ _ s
  exact Calls.spliced_cons (thn (ha.run pins s σ H _ I q) fun u s1 ⟨v, H1, I1, r1, q1⟩ => hr.run pos pins s1 σ H1 _ I1 (q1 u r1))
theorem pas_lam {q : Str} {c P : Addr} {params : Arguments} {body : Expr} {scope : Scope} {lpos : Pos} {es : List Expr} {t : List (Addr × Obj) → L2.St → Hp → (List Value → Shared → Prop) → Prop} (LA : LamAt X q c P) (L : LamS X.env.scope scope) (hdef : defaultsOf params X.env = ([], [])) (hr : PAS X es t)
    (hs : starEach (.Lambda params body scope lpos :: es) X.env = (false, eval (.Lambda params body scope lpos) X.env) :: starEach es X.env := by rfl) :
    PAS X (.Lambda params body scope lpos :: es) (fun pins σ H R => (∃ ps, H P = some (.tbl ps) ∧ Codes H q ps) ∧ ∀ f c' pm ctv H1, LamH P q c' H H1 → t ((f, lamObj X params body scope pm ctv c') :: pins) σ H1 fun us s1 => R (.ref f :: us) s1) := by
  refine ⟨fun pos pins s σ H R I ⟨hT, q⟩ => ?_⟩
  rw [hs]
  show wpAny _ _ (spliced ((false, eval (.Lambda params body scope lpos) X.env) :: backTo pos (starEach es X.env))) _ _ s
  refine Calls.spliced_cons (lam_make3 I LA.tb LA.code LA.eq hT hdef (L.has I.ok) fun f c' pm ctv H1 s1 I1 lh hf hfn hfr => ?_)
  have I2 : Inv X ((f, lamObj X params body scope pm ctv c') :: pins) σ H1 s1 := Inv.addPin I1 hf hfn (fun z => by
    have h1 := I1.loc
    obtain ⟨m, ⟨o, es', ep, ho, hd, _⟩, _⟩ := h1
    rw [← z] at ho
    have ho : s1.heap.get? f = some o := ho
    rw [hf] at ho
    cases ho
    cases hd) (fun z => by
    refine hfr ?_
    rw [LA.st]
    obtain ⟨e, he, q⟩ := List.mem_filterMap.mp z
    exact List.mem_filterMap.mpr ⟨e, List.mem_cons_of_mem _ he, q⟩) (fun v z => by cases z)
  exact hr.run pos _ s1 σ H1 _ I2 (q f c' pm ctv H1 lh)
theorem pe_callS {x : Str} {g : Addr} {p pos : Pos} {e : Expr} {es : List Expr} {t : List (Addr × Obj) → L2.St → Hp → (List Value → Shared → Prop) → Prop} (hg : Gl X x) (hm : X.mg x = some (.ref g)) (hk : PySem.W.keepIn X.K (.ref g) = true) (ha : PAS X (e :: es) t) (hdb : (x == ("__debug__" : Str)) = false := by decide)
    (he : starEach (e :: es) X.env = (false, eval e X.env) :: starEach es X.env := by rfl) (hpl : (backTo pos (starEach es X.env)).any (·.1) = false := by rfl) :
    PE X (.Call (.Name x p) (e :: es) [] pos) (fun σ H Q => ∀ pins, t pins σ H fun us s1 => X.K.In s1.heap ∧ wpAny (model X.prog X.w) X.A (call (.ref g) us) (EP X pins σ Q) X.xe s1) := by
  refine ⟨fun pins s σ H Q I h => ?_⟩
  refine wpAny_Call_Name_kw (ld_glob I hg hm ?_ hdb)
  exact PySem.W.callWith_K (h₀ := X.base) I.ok.mod.kin hk (ha.run pos pins s σ H _ I (h pins)) he hpl
/-- what the def g does, whatever the lambda -/
def GivesC (X : Cx) (q : Str) (kl : Nat) (tb : XK → TE) (k : Nat) (g : Addr) (fd : FuncData) (ps : List Str) (sp : L2.St → Addr → Addr → Sp) : Prop := ∀ (σ : L2.St) (s : Shared) (H : Hp) (f c' : Addr),
  Runs X.prog X.w X.K X.mg X.base (frs X.stack) s H (L2.CX X.prog X.w) kl f (fun H2 Q E => H2 c' = some (CodeO c' q) ∧ tb E σ H2 Q) → FnC X.prog X.w X.K X.mg X.base (frs X.stack) s H CX0 k g fd ps (sp σ f c')
theorem lam_end {q : Str} {kl k : Nat} {tb : XK → TE} {g f c' : Addr} {fd : FuncData} {ps : List Str} {sp : L2.St → Addr → Addr → Sp} {params : Arguments} {body : Expr} {scope : Scope} {pm ctv : Value} {Q : VK} {us : List Value} {vs : List V} (eq : q = X.env.qual ++ "<lambda>")
    (G : GivesC X q (kl + 1) tb k g fd ps sp) (L : LamS X.env.scope scope) (hst : X.stack = X.env :: X.outer) (hbind : bindArgs (PySem.W.kla_fn "<lambda>" (X.env.qual ++ "<lambda>") params body scope (cloFrom X.env.cells scope.names []) pm (.ref c') ctv) ⟨[], []⟩ = pure [])
    (hbody : ∀ (A : Around) (outer : List Env) (s : Shared) (H : Hp) (E : XK), Room kl (A.deeper (lamEnv X scope s.heap.objs.size f c')) → PE (lamCx X A outer s H E scope f c') body (tb E))
    (hr : Room k X.A) (hb : Binds X.K fd ps []) (I : Inv X ((f, lamObj X params body scope pm ctv c') :: pins) σ H s) (r : Vals vs us) (h : sp σ f c' vs H Q E0) : X.K.In s.heap ∧ wpAny (model X.prog X.w) X.A (call (.ref g) us) (EP X pins σ Q) X.xe s := by
  refine ⟨I.kIn, ?_⟩
  obtain ⟨hf, hfn, hL, hF, _⟩ := I.pin _ (List.mem_append_right _ List.mem_cons_self)
  have hfr : f ∉ frs X.stack := fun z => by
    rcases List.mem_cons.mp (I.stkSub f z) with e | e
    · exact hL e
    · exact hF e
  have R := runs_lam (X := X) I L hf hfn hfr hbind hbody
  rw [← eq] at R
  have F := G σ s H f c' R
  have hl : (us ++ []).length = ps.length := by rw [List.append_nil, ← r.length]; exact F.len _ _ _ _ h
  have hb2 := hb s us I.kIn hl
  rw [List.append_nil] at hb2
  refine wpAny_call (codeAny_mono (F.run X.A X.stack s H ⟨us, []⟩ us vs Q E0 hr I.env0 Chain.refl hb2 r h) fun r s' hq => ?_)
  cases r with
  | error e => exact (show False from hq).elim
  | ok fl =>
    cases fl with
    | ret u =>
      obtain ⟨v, H', I', rv, q⟩ := I.after hq
      exact ⟨v, H', Inv.lessPin I', rv, q⟩
    | next => exact False.elim hq
    | brk => exact False.elim hq
    | cont => exact False.elim hq
end
end Dl

set_option Elab.async false
set_option linter.all false
set_option maxRecDepth 100000
set_option maxHeartbeats 4000000
/-! try with several clauses, each with the same name. -/
namespace Dl
open PySem PySem.Spec PyProof.Rows L2
abbrev Clause := Value × (Addr → Value → Option Addr → TS)
/-- the ends of a suite: the clause's name (slot i) goes -/
abbrev offE (D : Ends) (i : Nat) : Ends := ⟨fun τ G => D.nx (τ.set i none) G, D.rt, fun τ G => D.bk (τ.set i none) G, fun τ G => D.ct (τ.set i none) G⟩
def wClauses (K : PySem.W.Frag) (i : Nat) (Wo : WX) (D : Ends) : List Clause → WX
  | [] => Wo
  | (c, ts) :: r => fun cls d τ G => ∃ b, PySem.W.exmOne K cls c = some b ∧ (b = true → ∀ a, G a = none → ts a cls d (offE D i) (τ.set i (some (.ref a))) G) ∧ (b = false → wClauses K i Wo D r cls d τ G)
inductive Clauses (X : Cx) (n : Str) : List ExceptHandler → List Clause → Prop
  | nil : Clauses X n [] []
  | cons {x : Str} {c : Value} {ts : Addr → Value → Option Addr → TS} {st : Stmt} {sts : List Stmt} {np ps : Pos} {hds : List ExceptHandler} {l : List Clause} (hc : Names X x c)
      (hsu : ∀ (a : Addr) (oe : Obj) (cls : Value) (d : Option Addr) (pn : List (Addr × Obj)), Zc cls d oe → (∃ vs, oe.data = .fields vs) → PSs (X.suite a ((a, oe) :: pn)) (st :: sts) (ts a cls d)) (r : Clauses X n hds l) :
      Clauses X n (.ExceptHandler (some (.Name x np)) (some n) (st :: sts) ps :: hds) ((c, ts) :: l)
section
variable {X : Cx} {n : Str} {i : Nat} {sts : List Stmt} {hd : ExceptHandler} {hds : List ExceptHandler} {l : List Clause} {pos : Pos} {tb : WX → TS} {Wo : WX}
theorem ps_try_all (hst : X.stack = X.env :: X.outer) (hfr : X.env.frame = some X.env.locals) (hN : X.N.Nodup) (hi : X.N[i]? = some n) (hln : X.env.kindOf n = some .local) (tk : Takes X Wo)
    (hb : ∀ (W : WX) (pn : List (Addr × Obj)) (xe : Value → Shared → Prop), Takes (X.tr pn xe) W → PassesOwn (model X.prog X.w) X.A X.env xe → PSs (X.tr pn xe) sts (tb W))
    (hh : Clauses X n (hd :: hds) l) : PS X (.Try sts (hd :: hds) [] [] pos) (fun D τ G => tb (wClauses X.K i Wo D l) D τ G) :=
  ⟨fun pins s σ H D I h => by
    have xok := I.ok
    have fr0 : X.A.frames = some (X.env :: X.outer) := by rw [xok.frames, hst]
    let nxt : Value → Shared → Prop := fun e sa => wpAny (model X.prog X.w) X.A (noteFrame e X.env) (fun _ sb => wpAny (model X.prog X.w) X.A (setFlight e none) (fun _ sc => wpAny (model X.prog X.w) X.A (handleBy e X.env (hd :: hds)) (SP X pins D) X.xe sc) X.xe sb) X.xe sa
    have run := (hb (wClauses X.K i Wo D l) (X.pn ++ pins) nxt (fun u sz w => by
      obtain ⟨a, B, sI, pq, τ, G, cls, d, rfl, Jq, nb, up, sky, na, os, ag, wsh⟩ := w
      have Ja : Inv X pins τ G sI := Jq.ofTry xok
      have sk : Sky B (X.env :: X.outer) a (Zc cls d) X.env.locals sz.heap := by rw [← hst]; exact sky
      refine Sky.land Zc.steady fr0 hfr sk fun g fl ug => ?_
      have Jg : Inv X pins τ G { sz with heap := g } := Ja.landed nb fl.1 (up.trans ug) os ag
      obtain ⟨ox, vx, ex, zx, dx⟩ := fl.there
      have far : a ∉ frs (X.env :: X.outer) := fun hm => by
        obtain ⟨_, oy, ey, ny⟩ := fl.2.2.1.mem hm
        rw [ex] at ey
        cases ey
        exact ny _ dx
      have n1 : a ≠ X.env.locals := fun z => far (List.mem_filterMap.mpr ⟨X.env, List.mem_cons_self, by rw [hfr, z]⟩)
      have n2 : a ∉ X.fs := fun hm => by
        obtain ⟨ev, hev, qv⟩ := List.mem_filterMap.mp hm
        exact far (List.mem_filterMap.mpr ⟨ev, List.mem_cons_of_mem _ hev, qv⟩)
      have Sg := Jg.suite ex dx na n1 n2
      have walk : ∀ {hs2 : List ExceptHandler} {l2 : List Clause}, Clauses X n hs2 l2 → wClauses X.K i Wo D l2 cls d τ G → wpAny (model X.prog X.w) X.A (handleBy (.ref a) X.env hs2) (SP X pins D) X.xe { sz with heap := g } := by
        intro hs2 l2 hk
        induction hk with
        | nil =>
          intro wo
          refine wpAny_handleBy_nil ?_
          obtain ⟨_, _, _, oq, vq, T, _, _, eq1, _, eq2, eq3, _⟩ := id fl
          unfold PySem.passOn
          refine wpAny_bind (wpAny_field eq1 eq2 eq3 ?_)
          rw [if_neg (by simp : ¬ ((Value.ref T == Value.none) = true))]
          have done : wpAny (model X.prog X.w) X.A (setFlight (.ref a) X.env.frame) (fun _ sd => wpAny (model X.prog X.w) X.A (throw (.ref a) : Sem Flow) (SP X pins D) X.xe sd) X.xe { sz with heap := g } := by
            rw [hfr]
            refine HandSPX.setFlight_upZ fl fun g2 hg2 ug2 => wpAny_throw (tk _ _ ⟨a, B, sI, pins, τ, G, cls, d, rfl, Ja, nb, (up.trans ug).trans ug2, .inr (.inr (by rw [hst]; exact hg2)), na, os, ag, wo⟩)
          first
            | exact wpAny_bind (wpAny_pure (wpAny_bind done))
            | exact wpAny_bind done
        | @cons x c ts st su np ps hd2 l3 hc hsu r ih =>
          rintro ⟨b, hb1, yes, no⟩
          refine wpAny_handleBy_cons (codeAny_handlers_test ?_) (by intro q; cases q)
          have lk : PySem.W.Looks (model X.prog X.w) g (typeOf (.ref a)) cls := fun A Q E s k q => wpAny_typeOf_ref (k _ _ ex) (by rw [zx.1]; exact q)
          have mt := PySem.W.exm_one (M := model X.prog X.w) (Jg.kIn) lk hb1
          have named : ∀ {Q : Value → Shared → Prop} {E : Value → Shared → Prop}, Q c { sz with heap := g } → wpAny (model X.prog X.w) (X.A.mark (some (.ref a))) (eval (.Name x np) X.env) Q E { sz with heap := g } := fun {Q E} q => by
            obtain ⟨g1, g2, e1 | ⟨e1, e2, e3⟩⟩ := hc
            · exact ld_glob (X := X.suite a ((a, ox) :: (X.pn ++ pins))) Sg g1 e1 q g2
            · exact ld_blt (X := X.suite a ((a, ox) :: (X.pn ++ pins))) Sg g1 e1 e2 q e3 g2
          refine named (mt.here ?_)
          cases b with
          | false =>
            show wpAny _ X.A (handleBy (.ref a) X.env hd2) _ _ _
            exact ih (no rfl)
          | true =>
            refine codeAny_handlers_suite_as (HandSPX.lands_againZ fl fun g4 fl4 u4 => ?_)
            have J4 : Inv X pins τ G { sz with heap := g4 } := Ja.landed nb fl4.1 ((up.trans ug).trans u4) os ag
            obtain ⟨o4, v4, e4, z4, d4⟩ := fl4.there
            have T4 := J4.suite e4 d4 na n1 n2
            refine store_ok (X := X.suite a ((a, o4) :: (X.pn ++ pins))) (v := .ref a) T4 hN hi (.inl hln) rfl (fun s5 T5 => ?_) (.inr hln)
            refine wpAny_mono ((hsu a o4 cls d (X.pn ++ pins) z4 ⟨_, d4⟩).run [] s5 _ G _ T5 (yes rfl a na)) (fun fl6 s6 q6 => ?_) (fun _ _ z => False.elim z)
            have fin : ∀ {τ6 : L2.St} {G6 : Hp} {Q : Shared → Prop}, Inv (X.suite a ((a, o4) :: (X.pn ++ pins))) [] τ6 G6 s6 → (∀ s7, Inv X pins (τ6.set i none) G6 s7 → Q s7) →
                wpAny (model X.prog X.w) X.A (do bindName X.env n .none; unbindBehindTheSuite X.env n ps) (fun _ s7 => Q s7) X.xe s6 := fun {τ6 G6 Q} T6 hq => gone_ok (T6.unsuite xok) hN hi hln hq
            cases fl6 with
            | ret u =>
              obtain ⟨v6, _, _, T6, r6, k6⟩ := q6
              exact fin T6 fun _ J7 => ⟨v6, _, _, J7, r6, k6⟩
            | next =>
              obtain ⟨_, _, T6, k6⟩ := q6
              exact fin T6 fun _ J7 => ⟨_, _, J7, k6⟩
            | brk =>
              obtain ⟨_, _, T6, k6⟩ := q6
              exact fin T6 fun _ J7 => ⟨_, _, J7, k6⟩
            | cont =>
              obtain ⟨_, _, T6, k6⟩ := q6
              exact fin T6 fun _ J7 => ⟨_, _, J7, k6⟩
      exact walk hh wsh) PassesOwn.looking).run [] s σ H D (I.toTry _) h
    refine wpAny_Try_except (wpAny_mono run (fun f sq hq => ?_) fun e sq he => he)
    cases f with
    | ret u =>
      obtain ⟨v, _, _, Jb, rb, qb⟩ := hq
      exact ⟨v, _, _, Jb.ofTry xok, rb, qb⟩
    | next =>
      obtain ⟨_, _, Jb, qb⟩ := hq
      exact wpAny_execs_nil ⟨_, _, Jb.ofTry xok, qb⟩
    | brk =>
      obtain ⟨_, _, Jb, qb⟩ := hq
      exact ⟨_, _, Jb.ofTry xok, qb⟩
    | cont =>
      obtain ⟨_, _, Jb, qb⟩ := hq
      exact ⟨_, _, Jb.ofTry xok, qb⟩⟩
end
end Dl

set_option Elab.async false
set_option linter.all false
set_option maxRecDepth 100000
set_option maxHeartbeats 4000000
/-! The data level: what raises. -/
namespace Dl
open PySem PySem.Spec PyProof.Rows L2
abbrev Gh := Option (Hp × Hp × (Nat → List Addr))
/-- X lets out an exception of the class at C whose one field fld holds y -/
structure WantE (X : Cx) (g : Gh) (C : Addr) (fld : Str) (y : PyData) : Prop where
  ex : ∃ E : XK, Takes X (fun cls d _ H => E cls d H) ∧ ∀ d v B H F, ghOk g B H F → Same B H → B d = none → H d = some (.xd [(fld, v)]) → (∀ z, g = some z → z.2.1 d = none) → Rp X.K B v y → E (.ref C) (some d) H
/-- the promise of a def that raises at such data -/
def SpE (K : PySem.W.Frag) (fe : List PyData → Addr → Str → PyData → Prop) : Sp := fun vs H _ E => ∃ B ds C fld y, Same B H ∧ RpA K B vs ds ∧ fe ds C fld y ∧ ∀ d v B2 H2, Grow B H B2 H2 → B2 d = none → H2 d = some (.xd [(fld, v)]) → H d = none → Rp K B2 v y → E (.ref C) (some d) H2
structure DefX (P : Program) (w : World) (K : PySem.W.Frag) (mg : Str → Option Value) (base : Heap) (k : Nat) (x : Str) (ps : List Str) (sp : Sp) : Prop where
  ex : ∃ f fd, mg x = some (.ref f) ∧ PySem.W.keepIn K (.ref f) = true ∧ Binds K fd ps [] ∧ FnOk P w K mg base (L2.CX P w) k f fd ps sp
def tR (K : PySem.W.Frag) (δ : List Slot) (g : Gh) : TE := fun σ H _ => ∃ B F, Wf K B H σ δ F ∧ ghOk g B H F
def tRA (K : PySem.W.Frag) (δ : List Slot) (g : Gh) : TA := fun σ H _ => ∃ B F, Wf K B H σ δ F ∧ ghOk g B H F
abbrev XR (X : Cx) (δ : List Slot) (e : Expr) (g : Gh) : Prop := PE X e (tR X.K δ g)
abbrev XRA (X : Cx) (δ : List Slot) (es : List Expr) (g : Gh) : Prop := PA X es (tRA X.K δ g)
section
variable {X : Cx} {δ : List Slot} {a b c e tg : Expr} {es : List Expr} {pos p p0 p1 p2 p3 : Pos} {ds : List PyData} {d y : PyData} {rest : List Stmt} {R : Post} {g : Gh} {C : Addr} {fld : Str}
theorem ghOk.none {B H : Hp} {F : Nat → List Addr} {dd : Addr} (h : ghOk g B H F) (n : H dd = none) : ∀ z, g = some z → z.2.1 dd = none := fun z e => by
  subst e
  cases q : z.2.1 dd with
  | none => rfl
  | some o =>
    obtain ⟨o', e'⟩ := Step.there h dd o q
    rw [n] at e'
    cases e'
theorem pa_bot : PA X es (fun _ _ _ => False) := ⟨fun _ _ _ _ _ _ _ h => h.elim⟩
theorem pg_bot : PG X tg (fun _ _ _ _ => False) := ⟨fun _ _ _ _ _ _ _ _ _ h => h.elim⟩
theorem xr_call {k : Nat} {x : Str} {ps : List Str} {fe : List PyData → Addr → Str → PyData → Prop} (G : DefX X.prog X.w X.K X.mg X.base k x ps (SpE X.K fe)) (hr : Room k X.A) (ha : XA X δ (e :: es) ds) (hf : fe ds C fld y) (hw : WantE X g C fld y) (hg : Gl X x := by rfl) (hdb : (x == ("__debug__" : Str)) = false := by decide)
    (he : starEach (e :: es) X.env = (false, eval e X.env) :: starEach es X.env := by rfl) (hpl : (backTo pos (starEach es X.env)).any (·.1) = false := by rfl) : XR X δ (.Call (.Name x p) (e :: es) [] pos) g := by
  obtain ⟨fa, fd, h1, h2, h3, h4⟩ := G.ex
  obtain ⟨E, tk, hE⟩ := hw.ex
  exact (pe_call (E := E) h4 hr hg h1 h2 h3 .nil (passes_call tk fun _ _ _ _ h => h) ha hdb he hpl).weak fun σ H Q ⟨B, F, W, gh⟩ => ⟨B, F, W, fun vs B2 H2 g2 r => by
    show SpE X.K fe (vs ++ []) H2 Q E
    rw [List.append_nil]
    exact ⟨B2, ds, C, fld, y, g2.bh, r, hf, fun d v B3 H3 g3 hb hd hn rv => hE d v B3 H3 F (gh.step (Step.of (g2.trans g3))) g3.bh hb hd ((gh.step (Step.of g2)).none hn) rv⟩⟩
/-- an argument raises -/
theorem xra_here (he : XR X δ e g) (hs : starEach (e :: es) X.env = (false, eval e X.env) :: starEach es X.env := by rfl) : XRA X δ (e :: es) g := (pa_cons he pa_bot hs).weak fun σ H Q ⟨B, F, W, gh⟩ => ⟨B, F, W, gh⟩
theorem xra_later (ha : XE X δ e d) (hr : XRA X δ es g) (hs : starEach (e :: es) X.env = (false, eval e X.env) :: starEach es X.env := by rfl) : XRA X δ (e :: es) g := (pa_cons ha hr hs).weak fun σ H Q ⟨B, F, W, gh⟩ => ⟨B, F, W, fun v B2 H2 g2 r => ⟨B2, F, W.grow g2, gh.step (Step.of g2)⟩⟩
theorem xr_arg {x : Str} {f : Addr} (h1 : X.mg x = some (.ref f)) (h2 : PySem.W.keepIn X.K (.ref f) = true) (ha : XRA X δ (e :: es) g) (hg : Gl X x := by rfl) (hdb : (x == ("__debug__" : Str)) = false := by decide)
    (he : starEach (e :: es) X.env = (false, eval e X.env) :: starEach es X.env := by rfl) (hpl : (backTo pos (starEach es X.env)).any (·.1) = false := by rfl) : XR X δ (.Call (.Name x p) (e :: es) [] pos) g := by
  refine ⟨fun pins s σ H Q I h => ?_⟩
  refine wpAny_Call_Name_kw (ld_glob I hg h1 ?_ hdb)
  exact PySem.W.callWith_K (h₀ := X.base) I.ok.mod.kin h2 (wpAny_mono (ha.run pos pins s σ H (fun _ _ => False) I h) (fun us s1 ⟨_, _, _, _, z⟩ => z.elim) fun _ _ z => z) he hpl
/-! statements -/
theorem xb_asgR (he : XR X δ e R.gh) (hs : swapsWithSole [tg] e pos.line X.env = pure false := by rfl) (hw : swappedStores [tg] e X.env = pure none := by rfl) (h1 : (assignEach [tg] X.env).map (·.2) = [assign tg X.env] := by rfl) : XB X δ (.Assign [tg] e pos :: rest) R :=
  xb_cons (ps_asg he pg_bot hs hw h1) pss_never fun D σ H B F W o => ⟨B, F, W, o.gh⟩
theorem xb_setR {x : Str} (he : XR X δ e R.gh) (hs : swapsWith e (some (.Name x p0)) pos.line X.env = pure false := by rfl) : XB X δ (.Assign [.Name x p0] e pos :: rest) R :=
  PSs.weak (pss_cons (t := fun D σ H => tR X.K δ R.gh σ H fun _ _ => False) ⟨fun pins s σ H D I h => wpAny_Assign_Name (wpAny_mono (he.run pins s σ H (fun _ _ => False) I h) (fun _ _ ⟨_, _, _, _, z⟩ => z.elim) fun _ _ z => z) hs⟩ pss_never) fun D σ H q => by
    obtain ⟨B, F, W, o⟩ := ts_iff.mp q
    exact ⟨B, F, W, o.gh⟩
theorem xb_retR (he : XR X δ e R.gh) : XB X δ (.Return (some e) pos :: rest) R := xb_cons (ps_ret he) pss_never fun D σ H B F W o => ⟨B, F, W, o.gh⟩
theorem xb_exprR (he : XR X δ e R.gh) (hs : swapsWith e none pos.line X.env = pure false := by rfl) : XB X δ (.Expr e pos :: rest) R := xb_cons (ps_expr he hs) pss_never fun D σ H B F W o => ⟨B, F, W, o.gh⟩
/-! ### own exception classes -/
def SpInit (C : Addr) (fld : Str) : Sp := fun vs H Q _ => ∃ (a : Addr) (v : V), vs = [.ref a, v] ∧ H a = some (exo a C none) ∧ ∀ dx, H dx = none → dx ≠ a → Q .non (upd (upd H dx (exd dx [(fld, v)])) a (exo a C (some dx)))
structure ErrC (P : Program) (w : World) (K : PySem.W.Frag) (mg : Str → Option Value) (base : Heap) (x : Str) (C : Addr) (fld : Str) : Prop where
  hm : mg x = some (.ref C)
  oc : OexC K C
  no : PySem.W.findIn K (.ref C) fld = some none
  ini : ∃ fI fd ps, PySem.W.findIn K (.ref C) "__init__" = some (some (.ref fI)) ∧ PySem.W.typeIn K (.ref fI) = some (.type "function") ∧ Binds K fd ps [] ∧ FnOk P w K mg base CX0 1 fI fd ps (SpInit C fld)
theorem xb_raise {x : Str} (T : ErrC X.prog X.w X.K X.mg X.base x C fld) (he : XE X δ e y) (hw : WantE X R.gh C fld y) (hr : Room 2 X.A) (hc : X.calm = true := by rfl) (hg : Gl X x := by rfl) (hdb : (x == ("__debug__" : Str)) = false := by decide)
    (hs : starEach [e] X.env = (false, eval e X.env) :: starEach [] X.env := by rfl) (hpl : (backTo p1 (starEach [] X.env)).any (·.1) = false := by rfl) : XB X δ (.Raise (some (.Call (.Name x p) [e] [] p1)) none pos :: rest) R := by
  obtain ⟨fI, fd, ps, i1, i2, i3, i4⟩ := T.ini
  obtain ⟨E, tk, hE⟩ := hw.ex
  refine xb_cons (ps_raise hc tk (pmk_oex T.oc i1 i2 i4 hr i3 .nil pass0 hg T.hm (xa_cons he xa_nil hs) hdb hs hpl)) pss_never fun D σ H B F W o => ?_
  refine ⟨B, F, W, fun vs B1 H1 g1 r1 => ?_⟩
  cases r1 with
  | @cons v _ _ _ r1 r2 =>
    cases r2
    refine ⟨by show 1 ≤ 1000; decide, fun a ha => ?_⟩
    refine ⟨a, v, rfl, upd_same, fun dx hdx ne => ?_⟩
    have h1 : H1 dx = none := by rw [upd_ne ne] at hdx; exact hdx
    refine ⟨rfl, dx, [(fld, v)], upd_same, by rw [upd_ne ne]; exact upd_same, h1, ?_⟩
    have eH : upd (del (upd (upd (upd H1 a (exo a C none)) dx (exd dx [(fld, v)])) a (exo a C (some dx))) a) dx (.xd [(fld, v)]) = upd H1 dx (.xd [(fld, v)]) := by
      funext b
      by_cases hb : b = dx
      · rw [hb, upd_same, upd_same]
      · rw [upd_ne hb, upd_ne hb]
        by_cases hb2 : b = a
        · rw [hb2, del_same, ha]
        · rw [del_ne hb2, upd_ne hb2, upd_ne hb, upd_ne hb2]
    rw [eH]
    have g2 : Grow B1 H1 B1 (upd H1 dx (.xd [(fld, v)])) := Grow.newH g1.bh h1
    exact hE dx v B1 _ F (o.gh.step (Step.of (g1.trans g2))) g2.bh (g1.bh.free h1) upd_same ((o.gh.step (Step.of g1)).none h1) r1
end
section
variable {P : Program} {w : World} {K : PySem.W.Frag} {mg : Str → Option Value} {base : Heap}
/-- THE RULE for a def at data at which it raises -/
theorem def_raise {x : Str} {st : Stmt} {N ps : List Str} {k : Nat} {fe : List PyData → Addr → Str → PyData → Prop} (A : At K mg x st ps) (S : FnScope N ps (defScope st)) (len : ∀ ds C fld y, fe ds C fld y → ds.length = ps.length)
    (body : ∀ (X : Cx), (∃ (fa : Addr) (cdv : Value) (A : Around) (outer : List Env) (s : Shared) (H : Hp) (E : XK), Room k (A.deeper (envOfC x (defScope st) s.heap.objs.size fa cdv)) ∧ X = cxOf (L2.CX P w) P w K mg base N x (defScope st) fa cdv A outer s H E) → ∀ g ds C fld y, fe ds C fld y → WantE X g C fld y → XB X (startD N (ds.map .dat)) (defBody st) { gh := g }) :
    DefX P w K mg base (k + 1) x ps (SpE K fe) := by
  obtain ⟨fa, fd, h1, h2, h3⟩ := A.ex
  refine ⟨fa, fd, h1, h2.kp, h3, h2.okX S (fun vs H Q E h => ?_) (fun cdv A outer s H vs Q E hr h => ?_)⟩
  · obtain ⟨B, ds, C, fld, y, _, r, hf, _⟩ := h
    rw [r.length]
    exact len ds C fld y hf
  · obtain ⟨B, ds, C, fld, y, sm, r, hf, q⟩ := h
    refine ⟨_, body _ ⟨fa, cdv, A, outer, s, H, E, hr, rfl⟩ (some (B, H, fun _ => [])) ds C fld y hf ⟨E, takes_of rfl rfl rfl rfl, fun d v B2 H2 F2 s2 sm2 hb hd hn rv => ?_⟩, ?_⟩
    · have s2 : Step B H (fun _ => []) B2 H2 F2 := s2
      exact q d v B2 H2 ⟨s2.bb, sm2, fun b o hb => s2.keep b o hb (fun _ z => nomatch z), fun b o hb => s2.fr b o hb (fun _ z => nomatch z)⟩ hb hd (hn _ rfl) rv
    · exact ts_iff.mpr ⟨B, _, envOk_dat sm r N, fun _ _ _ _ _ _ _ h => h.elim, fun _ _ _ _ _ _ _ _ _ h => h.elim, fun _ _ _ _ _ _ _ h => h.elim, fun _ _ _ _ _ _ _ h => h.elim, fun _ _ _ _ _ _ _ _ h => h.elim, Step.refl⟩
end
end Dl

set_option Elab.async false
set_option linter.all false
set_option maxRecDepth 100000
set_option maxHeartbeats 4000000
/-! The data level: functions handed on, called within try. -/
namespace Dl
open PySem PySem.Spec PyProof.Rows L2 LamX
theorem Codes.mono {B B2 : Hp} {q : Str} {ps : Array Value} (h : Codes B q ps) (s : Same B B2) : Codes B2 q ps := ⟨h.1, fun pos cv e => by
  obtain ⟨c, e1, e2⟩ := h.2 pos cv e
  exact ⟨c, e1, s _ _ e2⟩⟩
/-- the script, and the table of the codes made in this frame -/
def scrT (K : PySem.W.Frag) (ns : List Int) (P : Addr) (q : Str) : Res where
  ok := fun B H v fp => (∃ a, v = .ref a ∧ SqL K B a (ns.map V.int)) ∧ fp = [P] ∧ ∃ ps, H P = some (.tbl ps) ∧ Codes B q ps
  loc := fun {B B' H H' v fp} ⟨⟨a, h1, h2⟩, h3, ps, h4, h5⟩ hb hh => ⟨⟨a, h1, hb.seq h2⟩, h3, ps, by rw [hh P (by rw [h3]; exact List.mem_cons_self)]; exact h4, h5.mono hb⟩
/-- a function that was handed in: what it leans on is kept -/
def cloR (f : Addr) (Bc : Hp) : Res where
  ok := fun B _ v fp => v = .ref f ∧ fp = [] ∧ Same Bc B
  loc := fun {B B' H H' v fp} ⟨h1, h2, h3⟩ hb _ => ⟨h1, h2, h3.trans hb⟩
/-- an exception in hand: its one field -/
def errR (K : PySem.W.Frag) (a dd : Addr) (fld : Str) (y : PyData) : Res where
  ok := fun B H v fp => v = .ref a ∧ fp = [dd] ∧ ∃ u, H dd = some (.xd [(fld, u)]) ∧ Rp K B u y
  loc := fun {B B' H H' v fp} ⟨h1, h2, u, h3, h4⟩ hb hh => ⟨h1, h2, u, by rw [hh dd (by rw [h2]; exact List.mem_cons_self)]; exact h3, h4.mono hb⟩
/-- what one frame knows and what another does, put together -/
theorem grow_union {Bc B H B1 H1 : Hp} (h1 : Same Bc B) (h2 : Same B H) (g : Grow Bc H B1 H1) : ∃ B2, Grow B H B2 H1 ∧ Same B1 B2 ∧ ∀ b, B2 b = none ↔ B b = none ∧ B1 b = none := by
  refine ⟨fun b => match B b with | some o => some o | none => B1 b, ⟨fun b o e => by show (match B b with | some o => some o | none => B1 b) = some o; rw [e], fun b o e => ?_, g.hh, fun b o e => ?_⟩, fun b o e => ?_, fun b => ?_⟩
  · have e : (match B b with | some o => some o | none => B1 b) = some o := e
    cases hb : B b with
    | some u =>
      rw [hb] at e
      cases e
      exact g.hh _ _ (h2 _ _ hb)
    | none =>
      rw [hb] at e
      exact g.bh _ _ e
  · show (match B b with | some o => some o | none => B1 b) = B b
    cases hb : B b with
    | some u => rfl
    | none =>
      show B1 b = none
      rw [g.fr b o e]
      cases hc : Bc b with
      | none => rfl
      | some u => rw [h1 _ _ hc] at hb; cases hb
  · show (match B b with | some o => some o | none => B1 b) = some o
    cases hb : B b with
    | none => exact e
    | some u =>
      have a1 := g.hh _ _ (h2 _ _ hb)
      rw [g.bh _ _ e] at a1
      exact a1.symm
  · show (match B b with | some o => some o | none => B1 b) = none ↔ _
    cases hb : B b with
    | none => simp
    | some u => simp
/-- it comes back, whatever it tells -/
def clAny (Bc : Hp) : Hp → VK → XK → Prop := fun H Q _ => Same Bc H ∧ ∀ v H2, Same H H2 → Q v H2
/-- it raises -/
def clErr (K : PySem.W.Frag) (Bc : Hp) (C : Addr) (fld : Str) (y : PyData) : Hp → VK → XK → Prop := fun H _ E => Same Bc H ∧ ∀ d v B2 H2, Grow Bc H B2 H2 → B2 d = none → H2 d = some (.xd [(fld, v)]) → H d = none → Rp K B2 v y → E (.ref C) (some d) H2
section
variable {X Y : Cx} {fs : List Addr} {H : Hp} {s : Shared} {δ : List Slot} {rest : List Stmt} {R : Post} {pos p1 p2 p3 : Pos} {f : Addr} {Bc : Hp} {n a : Str} {i ir k : Nat} {hd : ExceptHandler} {hds : List ExceptHandler} {l : List Clause}
theorem pe_runW {sp : Hp → VK → XK → Prop} {W : WX} (Rn : Runs Y.prog Y.w Y.K Y.mg Y.base fs s H (L2.CX Y.prog Y.w) k f sp) (D : Deep fs s H Y) (hr : Room k Y.A) (tk : Takes Y W) (hN : Y.N[i]? = some a) (hv : Vis Y.env.scope a) (hd : (a == ("__debug__" : Str)) = false := by decide) (hcd : (a == ("__classdict__" : Str)) = false := by decide) :
    PE Y (.Call (.Name a p1) [] [] p2) (fun σ H2 Q => σ[i]? = some (some (.ref f)) ∧ ∃ E : XK, (∀ cls d H', E cls d H' → W cls d σ H') ∧ sp H2 Q E) := by
  refine ⟨fun pins s1 σ H1 Q I h => ?_⟩
  obtain ⟨hs, E, hE, hsp⟩ := h
  refine wpAny_Call_Name_kw (thn ((pe_var (pos := p1) (i := i) hN hv hd hcd).run pins s1 σ H1 (fun v H2 => v = .ref f ∧ H2 = H1) I ⟨.ref f, hs, rfl, rfl⟩) fun u s2 ⟨v, H2, I2, r2, q2⟩ => ?_)
  obtain ⟨ev, eH⟩ := q2
  subst ev
  rw [eH] at I2
  obtain rfl : u = Value.ref f := r2
  have ch := D.up I2
  refine PySem.W.callWith_F0 (Rn.fn _ _ _ ch) ?_
  refine wpAny_call (codeAny_mono (Rn.run Y.A Y.stack s2 H1 Q E hr I2.env0 ch hsp) fun r s' hq => ?_)
  cases r with
  | error e => exact tk e s' (XE.of_call (W := fun cls d τ G => ∃ _ : τ = σ, W cls d σ G) (E := E) I2 (fun cls d H' h => ⟨rfl, hE cls d H' h⟩) hq |> fun x => by
      obtain ⟨a, B, sI, pins', τ, G, cls, d, e1, e2, e3, e4, e5, e6, e7, e8, ⟨e9, w⟩⟩ := x
      exact ⟨a, B, sI, pins', τ, G, cls, d, e1, e2, e3, e4, e5, e6, e7, e8, by rw [e9]; exact w⟩)
  | ok fl =>
    cases fl with
    | ret u => exact I2.after hq
    | next => exact False.elim hq
    | brk => exact False.elim hq
    | cont => exact False.elim hq
inductive Hits (K : PySem.W.Frag) (cls : Value) (ts : Addr → Value → Option Addr → TS) : List Clause → Prop
  | here {c : Value} {l : List Clause} (h : PySem.W.exmOne K cls c = some true) : Hits K cls ts ((c, ts) :: l)
  | there {c : Value} {t2 : Addr → Value → Option Addr → TS} {l : List Clause} (h : PySem.W.exmOne K cls c = some false) (r : Hits K cls ts l) : Hits K cls ts ((c, t2) :: l)
theorem Hits.wish {K : PySem.W.Frag} {cls : Value} {ts : Addr → Value → Option Addr → TS} {i : Nat} {Wo : WX} {D : Ends} {d : Option Addr} {τ : L2.St} {G : Hp} (q : ∀ a, G a = none → ts a cls d (offE D i) (τ.set i (some (.ref a))) G) : ∀ {l : List Clause}, Hits K cls ts l → wClauses K i Wo D l cls d τ G
  | _, .here h => ⟨true, h, fun _ => q, fun z => (nomatch z)⟩
  | _, .there h r => ⟨false, h, fun z => (nomatch z), fun _ => r.wish q⟩
theorem Wf.slot {K : PySem.W.Frag} {B H : Hp} {σ : L2.St} {F : Nat → List Addr} (W : Wf K B H σ δ F) {i : Nat} (h : δ[i]? = some (.own (cloR f Bc))) : σ[i]? = some (some (.ref f)) ∧ Same Bc B := by
  obtain ⟨o, h1, h2⟩ := W.sl i _ h
  cases o with
  | none => exact h2.elim
  | some v =>
    obtain ⟨rfl, _, h3⟩ := h2
    exact ⟨h1, h3⟩
/-- try: run() / except ..: the call comes back -/
theorem xb_tryRet (Rn : Runs X.prog X.w X.K X.mg X.base fs s H (L2.CX X.prog X.w) k f (clAny Bc)) (Dp : Deep fs s H X) (hr : Room k X.A) (hs : δ[ir]? = some (.own (cloR f Bc))) (hc : Clauses X n (hd :: hds) l) (h : XB X δ rest R) (hNd : X.N.Nodup) (hi : X.N[i]? = some n) (hln : X.env.kindOf n = some .local) (tk : Takes X (fun _ _ _ _ => False))
    (hN : X.N[ir]? = some a := by rfl) (hv : Vis X.env.scope a := by first | exact Or.inl rfl | exact Or.inr (Or.inl rfl) | exact Or.inr (Or.inr rfl)) (hst : X.stack = X.env :: X.outer := by rfl) (hfr : X.env.frame = some X.env.locals := by rfl) (hda : (a == ("__debug__" : Str)) = false := by decide) (hca : (a == ("__classdict__" : Str)) = false := by decide)
    (hsw : swapsWith (.Call (.Name a p1) [] [] p2) none p3.line X.env = pure false := by rfl) : XB X δ (.Try [.Expr (.Call (.Name a p1) [] [] p2) p3] (hd :: hds) [] [] pos :: rest) R :=
  xb_cons (ps_try_all (tb := fun W D σ H2 => σ[ir]? = some (some (.ref f)) ∧ ∃ E : XK, (∀ cls d H', E cls d H' → W cls d σ H') ∧ clAny Bc H2 (fun _ H' => D.nx σ H') E) hst hfr hNd hi hln tk (fun W pn xe tk2 _ => pss_one (ps_expr (pe_runW (Y := X.tr pn xe) Rn (Dp.tr pn xe) hr tk2 hN hv hda hca) hsw)) hc) h fun D σ G B F W o => by
    obtain ⟨h1, h2⟩ := Wf.slot W hs
    refine ⟨h1, fun _ _ _ => False, fun _ _ _ z => z.elim, h2.trans W.bh, fun v G2 sm => ?_⟩
    have g : Grow B G B G2 := ⟨Same.refl B, W.bh.trans sm, sm, fun _ _ _ => rfl⟩
    exact ts_iff.mpr ⟨B, F, W.grow g, o.step (Step.of g)⟩
/-- .. it raises, the clause that fits ends with M -/
theorem xb_tryErr {C : Addr} {fld : Str} {y : PyData} (M : List Slot → Prop) (Rn : Runs X.prog X.w X.K X.mg X.base fs s H (L2.CX X.prog X.w) k f (clErr X.K Bc C fld y)) (Dp : Deep fs s H X) (hr : Room k X.A) (hs : δ[ir]? = some (.own (cloR f Bc))) (hc : Clauses X n (hd :: hds) l)
    (hit : Hits X.K (.ref C) (fun a cls d D σ G => ∃ dd, d = some dd ∧ cls = .ref C ∧ tS X.K (δ.set i (.own (errR X.K a dd fld y))) { nx := M } D σ G) l) (hil : i < δ.length) (h : ∀ δ', M δ' → ∃ δ2, δ2 = δ'.set i .no ∧ XB X δ2 rest R) (hNd : X.N.Nodup) (hi : X.N[i]? = some n) (hln : X.env.kindOf n = some .local) (tk : Takes X (fun _ _ _ _ => False))
    (hN : X.N[ir]? = some a := by rfl) (hv : Vis X.env.scope a := by first | exact Or.inl rfl | exact Or.inr (Or.inl rfl) | exact Or.inr (Or.inr rfl)) (hst : X.stack = X.env :: X.outer := by rfl) (hfr : X.env.frame = some X.env.locals := by rfl) (hda : (a == ("__debug__" : Str)) = false := by decide) (hca : (a == ("__classdict__" : Str)) = false := by decide)
    (hsw : swapsWith (.Call (.Name a p1) [] [] p2) none p3.line X.env = pure false := by rfl) : XB X δ (.Try [.Expr (.Call (.Name a p1) [] [] p2) p3] (hd :: hds) [] [] pos :: rest) R := by
  have hrest : PSs X rest (fun D σ G => ∃ z : {z : List Slot // M z}, tS X.K (z.1.set i .no) R D σ G) := pss_ex fun z : {z : List Slot // M z} => by
    obtain ⟨δ2, e, hx⟩ := h z.1 z.2
    rw [← e]
    exact hx
  refine xb_cons (ps_try_all (tb := fun W D σ H2 => σ[ir]? = some (some (.ref f)) ∧ ∃ E : XK, (∀ cls d H', E cls d H' → W cls d σ H') ∧ clErr X.K Bc C fld y H2 (fun _ H' => D.nx σ H') E) hst hfr hNd hi hln tk (fun W pn xe tk2 _ => pss_one (ps_expr (pe_runW (Y := X.tr pn xe) Rn (Dp.tr pn xe) hr tk2 hN hv hda hca) hsw)) hc) hrest fun D σ G B F W o => ?_
  obtain ⟨h1, h2⟩ := Wf.slot W hs
  refine ⟨h1, fun cls d H' => cls = .ref C ∧ ∃ dd v B2, d = some dd ∧ Grow Bc G B2 H' ∧ B2 dd = none ∧ H' dd = some (.xd [(fld, v)]) ∧ G dd = none ∧ Rp X.K B2 v y, fun cls d H' ⟨ec, dd, v, B2, ed, g, hb, hx, hg, rv⟩ => ?_, h2.trans W.bh, fun d v B2 H2 g hb hx hg rv => ⟨rfl, d, v, B2, rfl, g, hb, hx, hg, rv⟩⟩
  subst ec
  subst ed
  refine hit.wish fun ea hea => ⟨dd, rfl, rfl, ?_⟩
  obtain ⟨B3, g3, sm3, none3⟩ := grow_union h2 W.bh g
  have W3 := W.grow g3
  have b3 : B3 dd = none := (none3 dd).mpr ⟨W.bh.free hg, hb⟩
  have nF : ∀ k, dd ∉ F k := fun k hk => by
    obtain ⟨_, u, hu⟩ := W.own k dd hk
    rw [hg] at hu
    cases hu
  refine ts_iff.mpr ⟨B3, _, W3.putO (r := errR X.K ea dd fld y) (v := .ref ea) (fp := [dd]) hil ⟨rfl, rfl, v, hx, rv.mono sm3⟩ (fun b hb2 => ?_), ?_, fun _ _ _ _ _ _ _ _ _ z => z.elim, fun _ _ _ _ _ _ _ z => z.elim, fun _ _ _ _ _ _ _ z => z.elim, fun _ _ _ _ _ _ _ _ z => z.elim, trivial⟩
  · rw [List.mem_singleton.mp hb2]
    exact ⟨⟨b3, _, hx⟩, fun k _ => nF k⟩
  · intro σ4 δ4 B4 H4 F4 s4 W4 hm
    show ∃ z : {z : List Slot // M z}, tS X.K (z.1.set i .no) R D (σ4.set i none) H4
    have hfn : ∀ k b, b ∈ F4 k → (∃ j, b ∈ F j) ∨ G b = none := fun k b hb4 => by
      rcases s4.fn k b hb4 with ⟨j, hj⟩ | hj
      · by_cases hji : j = i
        · rw [if_pos hji, List.mem_singleton] at hj
          rw [hj]
          exact .inr hg
        · rw [if_neg hji] at hj
          exact .inl ⟨j, hj⟩
      · cases q : G b with
        | none => exact .inr rfl
        | some u =>
          rw [g3.hh _ _ q] at hj
          cases hj
    have ng : ∀ b o, G b = some o → (∀ k, b ∉ F k) → ∀ k, b ∉ (if k = i then [dd] else F k) := fun b o hb4 hn k hk => by
      by_cases hki : k = i
      · rw [if_pos hki, List.mem_singleton] at hk
        rw [hk, hg] at hb4
        cases hb4
      · rw [if_neg hki] at hk
        exact hn k hk
    have st : Step B G F B4 H4 F4 := ⟨g3.bb.trans s4.bb, fun b o hb4 hn => s4.keep b o (g3.hh _ _ hb4) (ng b o hb4 hn), fun b o hb4 hn => (s4.fr b o (g3.hh _ _ hb4) (ng b o hb4 hn)).trans (g3.fr b o hb4), fun b o hb4 => s4.there b o (g3.hh _ _ hb4), hfn⟩
    refine ⟨⟨δ4, hm⟩, ts_iff.mpr ⟨B4, _, W4.no i none, o.step (st.sub cut_sub)⟩⟩
end
end Dl

set_option Elab.async false
set_option linter.all false
set_option maxRecDepth 100000
set_option maxHeartbeats 4000000
/-! The data level: own exception classes, their fields read where they are caught. -/
namespace Dl
open PySem PySem.Spec PyProof.Rows L2 LamX
/-- what the written part says of an own exception class with one field -/
structure OwnErr (K : PySem.W.Frag) (C : Addr) (fld qual : Str) (st : Stmt) (ps : List Str) : Prop where
  oc : OexC K C
  xc : XfC K C
  no : PySem.W.findIn K (.ref C) fld = some none
  ini : ∃ fI fd, PySem.W.findIn K (.ref C) "__init__" = some (some (.ref fI)) ∧ PySem.W.typeIn K (.ref fI) = some (.type "function") ∧ Fun K "__init__" qual st fI fd ∧ Binds K fd ps []
section
variable {P : Program} {w : World} {K : PySem.W.Frag} {mg : Str → Option Value} {base : Heap} {C : Addr} {fld qual x : Str} {st : Stmt} {N ps : List Str}
theorem errC (T : OwnErr K C fld qual st ps) (hm : mg x = some (.ref C)) (S : FnScope ps ps (defScope st)) (hl : ps.length = 2)
    (body : ∀ (X : Cx), (∃ (fa : Addr) (cdv : Value) (A : Around) (outer : List Env) (s : Shared) (H : Hp) (E : XK), X = (cxOf CX0 P w K mg base ps qual (defScope st) fa cdv A outer s H E).nox) → PSs X (defBody st) (tOst K fld (tVar 0) (tVar 1))) : ErrC P w K mg base x C fld := by
  obtain ⟨fI, fd, h1, h2, h3, h4⟩ := T.ini
  refine ⟨hm, T.oc, T.no, fI, fd, ps, h1, h2, h4, h3.ok S (fun vs H Q E h => ?_) (fun cdv A outer s H vs Q E hr h => ?_)⟩
  · obtain ⟨a, v, rfl, _⟩ := h
    exact hl.symm
  · obtain ⟨a, v, rfl, ha, q⟩ := h
    refine ⟨_, body _ ⟨fI, cdv, A, outer, s, H, E, rfl⟩, ?_⟩
    have e0 : (L2.start ps [V.ref a, v])[0]? = some (some (.ref a)) := rfl
    have e1 : (L2.start ps [V.ref a, v])[1]? = some (some v) := rfl
    exact ⟨v, e1, .ref a, e0, a, C, rfl, T.oc, T.no, .inl ⟨ha, fun dx hd hne => q dx hd hne⟩⟩
end
section
variable {X : Cx} {δ : List Slot} {p pos : Pos} {C a dd : Addr} {fld : Str} {y : PyData} {oe : Obj} {pn : List (Addr × Obj)}
/-- e.fld, e the caught one -/
theorem xe_xf (i : Nat) {x : Str} (T : XfC X.K C) (hno : PySem.W.findIn X.K (.ref C) fld = some none) (hz : Zc (.ref C) (some dd) oe) (hf : ∃ vs, oe.data = .fields vs) (h : δ[i]? = some (.own (errR X.K a dd fld y)))
    (hi : X.N[i]? = some x := by rfl) (hv : Vis X.env.scope x := by first | exact Or.inl rfl | exact Or.inr (Or.inl rfl) | exact Or.inr (Or.inr rfl)) (hd : (x == ("__debug__" : Str)) = false := by decide) (hcd : (x == ("__classdict__" : Str)) = false := by decide)
    (hb : attributeBase (.Name x p) fld X.env (eval (.Name x p) X.env) = eval (.Name x p) X.env := by rfl) : XE (X.suite a ((a, oe) :: pn)) δ (.Attribute (.Name x p) fld pos) y :=
  (pe_xf (X := X) (pn := pn) T hno hz hf (pe_var (X := X.suite a ((a, oe) :: pn)) (i := i) hi hv hd hcd) hb).weak fun σ H Q ⟨B, F, W, q⟩ => by
    obtain ⟨o, h1, h2⟩ := W.sl i _ h
    cases o with
    | none => exact h2.elim
    | some v =>
      obtain ⟨rfl, _, u, h3, h4⟩ := h2
      exact ⟨.ref a, h1, rfl, rfl, dd, _, u, rfl, h3, by simp [List.lookup], q u B H (Grow.refl W.bh) h4⟩
end
end Dl

set_option Elab.async false
set_option linter.all false
set_option maxRecDepth 100000
set_option maxHeartbeats 4000000
/-! The data level: answers that are new: a pair of two lists of truths. -/
namespace Dl
open PySem PySem.Spec PyProof.Rows L2 LamX
/-- at t a pair of two lists of truths; none of the three was there in H -/
structure NewPair (H H2 : Hp) (t p q : Addr) (l1 l2 : List Bool) : Prop where
  ht : H t = none
  hp : H p = none
  hq : H q = none
  tp : t ≠ p
  tq : t ≠ q
  pq : p ≠ q
  at_ : H2 t = some (.tup [.ref p, .ref q])
  ap : H2 p = some (.lst (l1.map V.bl))
  aq : H2 q = some (.lst (l2.map V.bl))
def SpF (K : PySem.W.Frag) (f : List PyData → List Bool → List Bool → Prop) : Sp := fun vs H Q _ => ∃ B ds l1 l2, Same B H ∧ RpA K B vs ds ∧ f ds l1 l2 ∧ ∀ t p q H2, Same H H2 → NewPair H H2 t p q l1 l2 → Q (.ref t) H2
/-- the wish of such an answer -/
def frR (g : Gh) (l1 l2 : List Bool) : V → Hp → Hp → Prop := fun v _ H2 => ∃ t p q, v = .ref t ∧ ∀ z, g = some z → NewPair z.2.1 H2 t p q l1 l2
theorem NewPair.back {H0 H H2 : Hp} {t p q : Addr} {l1 l2 : List Bool} (n : NewPair H H2 t p q l1 l2) (h : ∀ b o, H0 b = some o → ∃ o', H b = some o') : NewPair H0 H2 t p q l1 l2 :=
  have go : ∀ b, H b = none → H0 b = none := fun b e => by
    cases e2 : H0 b with
    | none => rfl
    | some o =>
      obtain ⟨o', e3⟩ := h b o e2
      rw [e] at e3
      cases e3
  ⟨go t n.ht, go p n.hp, go q n.hq, n.tp, n.tq, n.pq, n.at_, n.ap, n.aq⟩
section
variable {X : Cx} {δ : List Slot} {a b e : Expr} {es : List Expr} {pos p p0 : Pos} {ds : List PyData} {d y : PyData} {rest : List Stmt} {R : Post} {l1 l2 : List Bool}
theorem frR_of {K : PySem.W.Frag} {D : Ends} {B H H2 : Hp} {F : Nat → List Addr} {σ : L2.St} {t pa qa : Addr} (o : Ok K R D B H F) (W : Wf K B H σ δ F) (sm : Same H H2) (n : NewPair H H2 t pa qa l1 l2) (hR : R.rr = frR R.gh l1 l2) : D.rt (.ref t) H2 := by
  have g : Grow B H B H2 := ⟨Same.refl B, W.bh.trans sm, sm, fun _ _ _ => rfl⟩
  refine o.rr (.ref t) σ δ B H2 F (Step.of g) (W.grow g) ?_
  rw [hR]
  refine ⟨t, pa, qa, rfl, fun z hz => n.back fun b u hb => ?_⟩
  have gh := o.gh
  rw [hz] at gh
  exact Step.there gh b u hb
theorem xb_retPair {x1} (h1 : XN X δ a (l1.map .bool)) (h2 : XN X δ b (l2.map .bool)) (hR : R.rr = frR R.gh l1 l2) (hs : starEach [a, b] X.env = (false, eval a X.env) :: starEach [b] X.env := by rfl) (hs2 : starEach [b] X.env = (false, eval b X.env) :: starEach [] X.env := by rfl) : XB X δ (.Return (some (.Tuple [a, b] x1 p)) pos :: rest) R :=
  xb_cons (ps_ret (pe_tup (pa_cons h1 (pa_cons h2 pa_nil hs2) hs))) pss_never fun D σ H B F W o => by
    refine ⟨B, F, W, fun pa xs B1 H1 g1 n1 nb1 e1 r1 => ?_⟩
    have W1 := W.grow g1
    refine ⟨B1, F, W1, fun qa ys B2 H2 g2 n2 nb2 e2 r2 => ?_⟩
    refine ⟨by show 2 ≤ sizeLine; decide, fun t ht => ?_⟩
    have ep := RpA.bls_inv r1
    have eq := RpA.bls_inv r2
    subst ep
    subst eq
    have h2p : H2 pa = some (.lst (l1.map V.bl)) := g2.hh _ _ e1
    have ntp : t ≠ pa := fun z => by rw [z, h2p] at ht; cases ht
    have ntq : t ≠ qa := fun z => by rw [z, e2] at ht; cases ht
    have npq : pa ≠ qa := fun z => by rw [← z, e1] at n2; cases n2
    have h2t : H t = none := by
      cases e : H t with
      | none => rfl
      | some u =>
        rw [g2.hh _ _ (g1.hh _ _ e)] at ht
        cases ht
    have hqH : H qa = none := by
      cases e : H qa with
      | none => rfl
      | some u =>
        rw [g1.hh _ _ e] at n2
        cases n2
    exact frR_of (D := D) o W (fun b u hb => by rw [upd_ne (fun z => by rw [z, h2t] at hb; cases hb)]; exact g2.hh _ _ (g1.hh _ _ hb)) ⟨h2t, n1, hqH, ntp, ntq, npq, upd_same, by rw [upd_ne (Ne.symm ntp)]; exact h2p, by rw [upd_ne (Ne.symm ntq)]; exact e2⟩ hR
theorem xb_retNew {k : Nat} {x : Str} {ps : List Str} {f : List PyData → List Bool → List Bool → Prop} (G : Def X.prog X.w X.K X.mg X.base k x ps (SpF X.K f)) (hr : Room k X.A) (ha : XA X δ (e :: es) ds) (hf : f ds l1 l2) (hR : R.rr = frR R.gh l1 l2) (hg : Gl X x := by rfl) (hdb : (x == ("__debug__" : Str)) = false := by decide)
    (he : starEach (e :: es) X.env = (false, eval e X.env) :: starEach es X.env := by rfl) (hpl : (backTo p0 (starEach es X.env)).any (·.1) = false := by rfl) : XB X δ (.Return (some (.Call (.Name x p) (e :: es) [] p0)) pos :: rest) R := by
  obtain ⟨fa, fd, h1, h2, h3, h4⟩ := G.ex
  refine xb_cons (ps_ret (pe_call h4 hr hg h1 h2 h3 .nil pass0 ha hdb he hpl)) pss_never fun D σ H B F W o => ⟨B, F, W, fun vs B1 H1 g1 r1 => ?_⟩
  show SpF X.K f (vs ++ []) H1 D.rt E0
  rw [List.append_nil]
  refine ⟨B1, ds, l1, l2, g1.bh, r1, hf, fun t pa qa H2 sm n => ?_⟩
  exact frR_of (D := D) (o.step (Step.of g1)) (W.grow g1) sm n hR
end
section
variable {P : Program} {w : World} {K : PySem.W.Frag} {mg : Str → Option Value} {base : Heap}
theorem def_fresh {x : Str} {st : Stmt} {N ps : List Str} {k : Nat} {f : List PyData → List Bool → List Bool → Prop} (A : At K mg x st ps) (S : FnScope N ps (defScope st)) (len : ∀ ds l1 l2, f ds l1 l2 → ds.length = ps.length)
    (body : ∀ (X : Cx), (∃ (fa : Addr) (cdv : Value) (A : Around) (outer : List Env) (s : Shared) (H : Hp) (E : XK), Room k (A.deeper (envOfC x (defScope st) s.heap.objs.size fa cdv)) ∧ X = (cxOf CX0 P w K mg base N x (defScope st) fa cdv A outer s H E).nox) → ∀ g ds l1 l2, f ds l1 l2 → XB X (startD N (ds.map .dat)) (defBody st) { gh := g, rr := frR g l1 l2 }) :
    Def P w K mg base (k + 1) x ps (SpF K f) := by
  obtain ⟨fa, fd, h1, h2, h3⟩ := A.ex
  refine ⟨fa, fd, h1, h2.kp, h3, h2.ok S (fun vs H Q E h => ?_) (fun cdv A outer s H vs Q E hr h => ?_)⟩
  · obtain ⟨B, ds, l1, l2, _, r, hf, _⟩ := h
    rw [r.length]
    exact len ds l1 l2 hf
  · obtain ⟨B, ds, l1, l2, sm, r, hf, q⟩ := h
    refine ⟨_, body _ ⟨fa, cdv, A, outer, s, H, E, hr, rfl⟩ (some (B, H, fun _ => [])) ds l1 l2 hf, ?_⟩
    refine ts_iff.mpr ⟨B, _, envOk_dat sm r N, fun _ _ _ _ _ _ _ h => h.elim, fun _ _ _ _ _ _ _ _ _ h => h.elim, fun _ _ _ _ _ _ _ h => h.elim, fun _ _ _ _ _ _ _ h => h.elim, fun v σ2 δ2 B2 H2 F2 s2 W2 ⟨t, pa, qa, e, n⟩ => ?_, Step.refl⟩
    subst e
    exact q t pa qa H2 (fun b o hb => s2.keep b o hb (fun _ z => nomatch z)) (n _ rfl)
end
end Dl

set_option Elab.async false
set_option linter.all false
set_option maxRecDepth 100000
set_option maxHeartbeats 4000000
/-! The data level: the empty dict. -/
namespace Dl
open PySem PySem.Spec PyProof.Rows L2 LamX L2.DX
section
variable {X : Cx} {δ : List Slot} {a e : Expr} {p p0 p1 p2 pos pos2 : Pos}
theorem kv_nil {vs : List (Key × Value)} (h : KV ([] : List (Key × V)) vs) : vs = [] := by
  cases h
  rfl
/-- d.items() of an empty dict, list(..) of it -/
theorem mt_items0 : MtR X "dict.items" (fun x xs H Q => ∃ a, x = .ref a ∧ xs = [] ∧ H a = some (.dK []) ∧ ∀ p, H p = none → Q (.ref p) (upd H p (itemsO p a))) := by
  intro pins s σ H x xs v us Q I rx rxs h
  obtain ⟨a, rfl, rfl, ha, q⟩ := h
  cases rx
  cases rxs
  obtain ⟨_, hd, vs, kv, dd⟩ := dk_of I.hok ha
  obtain ⟨o, es, ep, ho, hx, hdat, _⟩ := id dd
  refine DT.callItems (es := es) (ep := ep) hd ⟨o, ho, hx, hdat⟩ ?_
  exact ⟨.ref s.heap.objs.size, upd H s.heap.objs.size (itemsO s.heap.objs.size a), I.laid (t' := s.toks) (fun b u e => Heap.get?_push_of_some _ e) (Nat.le_refl _) (itemsO_ok (Heap.get?_push_size _ rfl)), rfl, q _ (I.hok.fresh (Nat.le_refl _))⟩
theorem call_listItems0 (hc : X.calm = true) : CallR X (.type "list") (fun xs H Q => ∃ v a, xs = [.ref v] ∧ H v = some (itemsO v a) ∧ H a = some (.dK []) ∧ ∀ l, H l = none → Q (.ref l) (upd H l (.lst []))) := by
  intro pins s σ H xs us Q I r h
  obtain ⟨v, a, rfl, hv, ha, q⟩ := h
  obtain rfl := Vals.ref1 r
  have view : s.heap.IsItemsView v a := (show ObjOk X.prog X.w H s.heap v (itemsO v a) from I.hok v _ hv).1
  obtain ⟨_, hd, vs, kv, dd⟩ := dk_of I.hok ha
  obtain rfl := kv_nil kv
  obtain ⟨ep, hat⟩ := dd.dictAt
  refine PySem.W.kdx_call (kvs := []) (ep := ep) (I.ok.hd hc) view hat (Nat.zero_le _) fun h' tk acc c as hk hS hl _ hacc => ?_
  have e0 : as = [] := List.length_eq_zero_iff.mp hl
  subst e0
  have e1 : acc = #[] := by
    apply Array.toList_inj.mp
    rw [hacc]
    rfl
  subst e1
  exact ⟨.ref s.heap.objs.size, upd H s.heap.objs.size (.lst []), I.laid (t' := tk) hk (Nat.le_refl _) (show ObjOk X.prog X.w _ _ _ (.lst []) from ⟨Nat.zero_le _, [], c, .nil, hS⟩), rfl, q _ (I.hok.fresh (Nat.le_refl _))⟩
theorem Wf.dic {K : PySem.W.Frag} {B H : Hp} {σ : L2.St} {F : Nat → List Addr} (W : Wf K B H σ δ F) {i : Nat} (h : δ[i]? = some (.dat (.dict []))) : ∃ a, σ[i]? = some (some (.ref a)) ∧ B a = some (.dK []) := by
  obtain ⟨o, h1, h2⟩ := W.sl i _ h
  cases o with
  | none => exact h2.elim
  | some v =>
    obtain ⟨_, r⟩ := h2
    cases r with
    | @dic a hb => exact ⟨a, h1, hb⟩
theorem xn_items0 (i : Nat) {x : Str} {p3 : Pos} (h : δ[i]? = some (.dat (.dict []))) (hm : X.mg "list" = none) (hc : X.calm = true := by rfl) (hg : Gl X "list" := by rfl) (hi : X.N[i]? = some x := by rfl) (hv : Vis X.env.scope x := by first | exact Or.inl rfl | exact Or.inr (Or.inl rfl) | exact Or.inr (Or.inr rfl)) (hd : (x == ("__debug__" : Str)) = false := by decide) (hcd : (x == ("__classdict__" : Str)) = false := by decide)
    (hbase : attributeBase (.Name x p1) "items" X.env (eval (.Name x p1) X.env) = eval (.Name x p1) X.env := by rfl) (hline : (p2.endLine == p3.line) = true := by rfl) (hs : starEach [.Call (.Attribute (.Name x p1) "items" p2) [] [] p3] X.env = (false, eval (.Call (.Attribute (.Name x p1) "items" p2) [] [] p3) X.env) :: starEach [] X.env := by rfl) (hpl : (backTo pos (starEach [] X.env)).any (·.1) = false := by rfl) :
    XN X δ (.Call (.Name "list" p) [.Call (.Attribute (.Name x p1) "items" p2) [] [] p3] [] pos) [] :=
  (pe_callTy (call_listItems0 hc) hg hm boot_list (pa_cons (pe_bm0 PySem.F.plainAttrs_dict PySem.F.slot_dict_items PySem.F.type_dict_items mt_items0 (pe_var (i := i) hi hv hd hcd) hbase hline) pa_nil hs) (by decide) (by decide) hs hpl).weak fun σ H Q ⟨B, F, W, q⟩ => by
    obtain ⟨a, h1, h2⟩ := Wf.dic W h
    have ha := W.bh _ _ h2
    refine ⟨.ref a, h1, .inr (.inr (.inl ⟨rfl, .inl ⟨_, ha⟩⟩)), a, rfl, rfl, ha, fun v hv2 => ?_⟩
    have g1 : Grow B H B (upd H v (itemsO v a)) := Grow.newH W.bh hv2
    refine ⟨v, a, rfl, upd_same, g1.hh _ _ ha, fun l hl => ?_⟩
    have g2 : Grow B (upd H v (itemsO v a)) B (upd (upd H v (itemsO v a)) l (.lst [])) := Grow.newH g1.bh hl
    have hl0 : H l = none := g1.hh.free hl
    exact q l [] B _ (g1.trans g2) hl0 (W.bh.free hl0) upd_same .nil
theorem xe_dict0 : XE X δ (.Dict [] [] pos) (.dict []) := pe_dnewK.weak fun σ H Q ⟨B, F, W, q⟩ => fun p hp => by
  have g := Grow.new (o := .dK []) W.bh hp
  exact q (.ref p) _ _ g (.dic upd_same)
theorem xe_dictLc0 (i : Nat) {x : Str} {p3 : Pos} {elt tg : Expr} {scope : Scope} {own : List (Str × Nat)} (h : δ[i]? = some (.dat (.dict []))) (hm : X.mg "dict" = none) (hN : X.N.Nodup) (ok : BlkOk X.N X.env.scope scope own) (hc : X.calm = true := by rfl) (hg : Gl X "dict" := by rfl) (hi : X.N[i]? = some x := by rfl) (hv : Vis X.env.scope x := by first | exact Or.inl rfl | exact Or.inr (Or.inl rfl) | exact Or.inr (Or.inr rfl)) (hd : (x == ("__debug__" : Str)) = false := by decide) (hcd : (x == ("__classdict__" : Str)) = false := by decide)
    (hfs : ∀ y, foldedSetIterable (.Name x p1) X.env y = pure y := by intro _; rfl) (hs : starEach [.ListComp elt [⟨tg, .Name x p1, [], 0⟩] scope p3] X.env = (false, eval (.ListComp elt [⟨tg, .Name x p1, [], 0⟩] scope p3) X.env) :: starEach [] X.env := by rfl) (hpl : (backTo pos (starEach [] X.env)).any (·.1) = false := by rfl) :
    XE X δ (.Call (.Name "dict" p) [.ListComp elt [⟨tg, .Name x p1, [], 0⟩] scope p3] [] pos) (.dict []) :=
  (pe_callTy (call_dictP hc) hg hm boot_dict (pa_cons (pe_lock (pe_lc (own := own) hc hN (pi_keys (pe_var (i := i) hi hv hd hcd)) ok (fun _ _ _ _ _ => pg_bot) (fun _ _ _ _ _ => pts_nil) (fun _ _ _ _ _ => pe_bot) hfs)) pa_nil hs) (by decide) (by decide) hs hpl).weak fun σ H Q ⟨B, F, W, q⟩ => by
    obtain ⟨a, h1, h2⟩ := Wf.dic W h
    have ha := W.bh _ _ h2
    refine ⟨a, .dK [], ha, trivial, fun od => ⟨.ref a, h1, a, od, rfl, .inl ⟨[], upd_same, fun D hD => ?_⟩⟩⟩
    have nD : D ≠ a := fun z => by rw [z, upd_same] at hD; cases hD
    have hD0 : H D = none := by rw [upd_ne nD] at hD; exact hD
    refine ⟨fun j m G => G = upd (upd H a (.frz od (.dK []))) D (.lst []), ⟨0, rfl⟩, fun j m G hG => .inl ⟨?_, ?_, ?_⟩⟩
    · subst hG
      exact ⟨by rw [upd_ne (Ne.symm nD)]; exact upd_same, Nat.zero_le _⟩
    · subst hG
      rw [upd_ne (Ne.symm nD)]
      exact upd_same
    · subst hG
      have e : upd (upd (upd H a (.frz od (.dK []))) D (.lst [])) a (.dK []) = upd H D (.lst []) := by
        funext b
        by_cases hb : b = a
        · rw [hb, upd_same, upd_ne (Ne.symm nD), ha]
        · rw [upd_ne hb]
          by_cases hb2 : b = D
          · rw [hb2, upd_same, upd_same]
          · rw [upd_ne hb2, upd_ne hb, upd_ne hb2]
      rw [e]
      have g1 : Grow B H B (upd H D (.lst [])) := Grow.newH W.bh hD0
      refine ⟨D, [], [], rfl, SqL.of upd_same, .nil, fun r hr => ?_⟩
      have g2 := Grow.new (o := .dK []) g1.bh hr
      exact q (.ref r) _ _ (g1.trans g2) (.dic upd_same)
end
/-- data of a depth, an empty dict among it -/
inductive TreeD : Nat → PyData → Prop
  | non (m : Nat) : TreeD m .none
  | bl (m : Nat) (b : Bool) : TreeD m (.bool b)
  | int (m : Nat) (i : Int) : TreeD m (.int i)
  | str (m : Nat) (x : Str) : TreeD m (.str x)
  | dic (m : Nat) : TreeD (m + 2) (.dict [])
  | lst {m : Nat} {l : List PyData} (hz : l.length ≤ 1000000) (h : ∀ y ∈ l, TreeD m y) : TreeD (m + 1) (.list l)
  | tup {m : Nat} {l : List PyData} (hz : l.length ≤ 1000000) (h : ∀ y ∈ l, TreeD m y) : TreeD (m + 1) (.tuple l)
def F_copiedD (m : Nat) (ds : List PyData) (d : PyData) : Prop := ∃ x, ds = [x] ∧ TreeD m x ∧ d = x
def F_sameD (m : Nat) (ds : List PyData) (d : PyData) : Prop := ∃ x, ds = [x, x] ∧ TreeD m x ∧ d = .bool true
theorem TreeD.bools (m : Nat) (l : List Bool) (hz : l.length ≤ 1000000) : TreeD (m + 1) (.list (l.map .bool)) := .lst (by rw [List.length_map]; exact hz) fun y hy => by
  obtain ⟨b, _, rfl⟩ := List.mem_map.mp hy
  exact .bl m b
theorem TreeD.boolsT (m : Nat) (l : List Bool) (hz : l.length ≤ 1000000) : TreeD (m + 1) (.tuple (l.map .bool)) := .tup (by rw [List.length_map]; exact hz) fun y hy => by
  obtain ⟨b, _, rfl⟩ := List.mem_map.mp hy
  exact .bl m b
theorem TreeD.mono {m : Nat} : ∀ {x : PyData}, TreeD m x → TreeD (m + 1) x := fun {x} h => by
  induction h with
  | non m => exact .non _
  | bl m b => exact .bl _ b
  | int m i => exact .int _ i
  | str m x => exact .str _ x
  | dic m => exact .dic _
  | lst hz _ ih => exact .lst hz ih
  | tup hz _ ih => exact .tup hz ih
end Dl

set_option Elab.async false
set_option linter.all false
set_option maxRecDepth 100000
set_option maxHeartbeats 4000000
/-! The data level: more expressions with effects. -/
namespace Dl
open PySem PySem.Spec PyProof.Rows L2 LamX
section
variable {X : Cx} {δ : List Slot} {a b c e : Expr} {pos : Pos} {P : PyData → List Slot → Prop}
theorem xn_cat {xs ys : List PyData} (ha : XE X δ a (.list xs)) (hb : XE X δ b (.list ys)) (hz : xs.length + ys.length ≤ 1000000) : XN X δ (.BinOp a .Add b pos) (xs ++ ys) := (pe_op op_cat ha hb).weak fun σ H Q ⟨B, F, W, q⟩ =>
  ⟨B, F, W, fun x B1 H1 g1 r1 => ⟨B1, F, W.grow g1, fun y B2 H2 g2 r2 => by
    cases r1 with
    | @lst u us _ h1 r1 =>
      cases r2 with
      | @lst v ws _ h2 r2 =>
        refine ⟨_, _, _, _, rfl, rfl, g2.hh _ _ (g1.bh _ _ h1), g2.bh _ _ h2, sz_of (by rw [r1.length, r2.length]; exact hz), fun p hp => ?_⟩
        have g3 : Grow B2 H2 B2 (upd H2 p (.lst (us ++ ws))) := Grow.newH g2.bh hp
        have g := (g1.trans g2).trans g3
        have hp0 : H p = none := g1.hh.free (g2.hh.free hp)
        exact q p _ B2 _ g hp0 (g2.bh.free hp) upd_same ((r1.mono g2.bb).append r2)⟩⟩
theorem xf_ix {P1 : PyData → List Slot → Prop} (ha : XF X δ a P1) (hb : ∀ d1 δ1, P1 d1 δ1 → XF X δ1 b (fun d2 δ2 => ∃ i d, d2 = .int i ∧ IxD d1 i d ∧ P d δ2)) (hs : PlainIx b := by exact fun _ _ => rfl) : XF X δ (.Subscript a b pos) P :=
  (pe_ix ix_seq ha (pe_ex fun z : {z : PyData × List Slot // P1 z.1 z.2} => hb z.1.1 z.1.2 z.2) hs).weak fun σ H Q ⟨B, F, W, q⟩ => ⟨B, F, W, fun x d1 δ1 B1 H1 F1 s1 W1 h1 r1 =>
    ⟨⟨(d1, δ1), h1⟩, B1, F1, W1, fun y d2 δ2 B2 H2 F2 s2 W2 ⟨i, d, e2, hr, hp⟩ r2 => by
      subst e2
      exact rd_ix hr B2 H2 x y Q W2.bh (r1.mono s2.bb) r2 fun v B3 H3 g3 r3 => q v d δ2 B3 H3 F2 ((s1.trans s2).trans (Step.of g3)) (W2.grow g3) hp r3⟩⟩
theorem xf_if {PB : Bool → List Slot → Prop} (hc : XFT X δ c PB) (ha : ∀ δ1, PB true δ1 → XF X δ1 a P) (hb : ∀ δ1, PB false δ1 → XF X δ1 b P) : XF X δ (.IfExp c a b pos) P :=
  (pe_ifExp hc (pe_ex fun z : {z : List Slot // PB true z} => ha z.1 z.2) (pe_ex fun z : {z : List Slot // PB false z} => hb z.1 z.2)).weak fun σ H Q ⟨B, F, W, q⟩ => ⟨B, F, W, fun k δ1 B1 H1 F1 s1 W1 hk => by
    cases k with
    | true => exact ⟨⟨δ1, hk⟩, B1, F1, W1, fun v d δ2 B2 H2 F2 s2 W2 hp r => q v d δ2 B2 H2 F2 (s1.trans s2) W2 hp r⟩
    | false => exact ⟨⟨δ1, hk⟩, B1, F1, W1, fun v d δ2 B2 H2 F2 s2 W2 hp r => q v d δ2 B2 H2 F2 (s1.trans s2) W2 hp r⟩⟩
end
/-- alike but for what is a list and what a tuple -/
inductive Loose : PyData → PyData → Prop
  | non : Loose .none .none
  | bl (b : Bool) : Loose (.bool b) (.bool b)
  | int (i : Int) : Loose (.int i) (.int i)
  | row {x y : PyData} {l r : List PyData} (hx : SeqD x l) (hy : SeqD y r) (hl : r.length = l.length) (h : ∀ (i : Nat) a b, l[i]? = some a → r[i]? = some b → Loose a b) : Loose x y
end Dl

set_option Elab.async false
set_option linter.all false
set_option maxRecDepth 100000
set_option maxHeartbeats 4000000
/-! The data level: defs that take a function. -/
namespace Dl
open PySem PySem.Spec PyProof.Rows L2 LamX
/-- arguments as slots, none of them owning -/
inductive ArgsOk (K : PySem.W.Frag) (B H : Hp) : List V → List Slot → Prop
  | nil : ArgsOk K B H [] []
  | cons {v : V} {vs : List V} {s : Slot} {ss : List Slot} (h : SlotOk K B H (some v) s []) (r : ArgsOk K B H vs ss) : ArgsOk K B H (v :: vs) (s :: ss)
theorem ArgsOk.length {K : PySem.W.Frag} {B H : Hp} : ∀ {vs : List V} {ss : List Slot}, ArgsOk K B H vs ss → vs.length = ss.length
  | _, _, .nil => rfl
  | _, _, .cons _ r => by rw [List.length_cons, List.length_cons, r.length]
theorem ArgsOk.mono {K : PySem.W.Frag} {B H B2 H2 : Hp} (hb : Same B B2) : ∀ {vs : List V} {ss : List Slot}, ArgsOk K B H vs ss → ArgsOk K B2 H2 vs ss
  | _, _, .nil => .nil
  | _, _, .cons h r => .cons (h.loc hb fun a ha => (nomatch ha)) (r.mono hb)
theorem ArgsOk.get {K : PySem.W.Frag} {B H : Hp} : ∀ {vs : List V} {ss : List Slot} {i : Nat} {s : Slot}, ArgsOk K B H vs ss → ss[i]? = some s → ∃ v, vs[i]? = some v ∧ SlotOk K B H (some v) s []
  | _, _, _, _, .nil, e => by simp at e
  | _, _, 0, _, .cons h _, e => by simp at e; subst e; exact ⟨_, rfl, h⟩
  | _, _, i + 1, _, .cons _ r, e => by
    obtain ⟨v, h1, h2⟩ := r.get (i := i) (by simpa using e)
    exact ⟨v, by simpa using h1, h2⟩
def SpC (K : PySem.W.Frag) (δ0 : List Slot) (d : PyData) : Sp := fun vs H Q _ => ∃ B, Same B H ∧ ArgsOk K B H vs δ0 ∧ ∀ v B2 H2, Grow B H B2 H2 → Rp K B2 v d → Q v H2
structure DefC (P : Program) (w : World) (K : PySem.W.Frag) (mg : Str → Option Value) (base : Heap) (fs : List Addr) (s : Shared) (H : Hp) (k : Nat) (x : Str) (ps : List Str) (sp : Sp) : Prop where
  ex : ∃ f fd, mg x = some (.ref f) ∧ PySem.W.keepIn K (.ref f) = true ∧ Binds K fd ps [] ∧ FnC P w K mg base fs s H CX0 k f fd ps sp
section
variable {P : Program} {w : World} {K : PySem.W.Frag} {mg : Str → Option Value} {base : Heap} {fs : List Addr} {s0 : Shared} {H0 : Hp}
theorem wf_args {B H : Hp} {vs : List V} {ss : List Slot} (sm : Same B H) (r : ArgsOk K B H vs ss) (N : List Str) : Wf K B H (L2.start N vs) (startD N ss) (fun _ => []) := by
  refine ⟨sm, ?_, fun i t e => ?_, fun _ _ => rfl, fun i j a h _ => (nomatch h), fun i a h => (nomatch h)⟩
  · unfold L2.start startD
    simp only [List.length_append, List.length_map, List.length_replicate, r.length]
  · unfold startD at e
    unfold L2.start
    by_cases hi : i < ss.length
    · rw [List.getElem?_append_left hi] at e
      obtain ⟨v, h1, h2⟩ := r.get e
      refine ⟨some v, ?_, h2⟩
      rw [List.getElem?_append_left (by rw [List.length_map, r.length]; exact hi), List.getElem?_map, h1]
      rfl
    · rw [List.getElem?_append_right (by omega), List.getElem?_replicate] at e
      split at e
      · rename_i h3
        cases e
        refine ⟨none, ?_, rfl⟩
        rw [List.getElem?_append_right (by rw [List.length_map, r.length]; omega), List.getElem?_replicate, List.length_map, r.length, if_pos h3]
      · cases e
theorem def_clo {x : Str} {st : Stmt} {N ps : List Str} {k : Nat} {δ0 : List Slot} {d : PyData} (A : At K mg x st ps) (S : FnScope N ps (defScope st)) (len : δ0.length = ps.length)
    (body : ∀ (X : Cx), (∃ (fa : Addr) (cdv : Value) (A : Around) (outer : List Env) (s : Shared) (H : Hp) (E : XK), Room k (A.deeper (envOfC x (defScope st) s.heap.objs.size fa cdv)) ∧ X = (cxOf CX0 P w K mg base N x (defScope st) fa cdv A outer s H E).nox) → Deep fs s0 H0 X → XB X (startD N δ0) (defBody st) { rt := fun d' _ => d' = d }) :
    DefC P w K mg base fs s0 H0 (k + 1) x ps (SpC K δ0 d) := by
  obtain ⟨fa, fd, h1, h2, h3⟩ := A.ex
  refine ⟨fa, fd, h1, h2.kp, h3, fn_ofC h2 S (fun vs H Q E h => ?_) (fun cdv A outer s H vs Q E hr hc h => ?_)⟩
  · obtain ⟨B, _, r, _⟩ := h
    rw [r.length, len]
  · obtain ⟨B, sm, r, q⟩ := h
    refine ⟨_, PSs.nox (body _ ⟨fa, cdv, A, outer, s, H, E, hr, rfl⟩ (deep_cx hc).nox), ?_⟩
    refine ts_iff.mpr ⟨B, _, wf_args sm r N, fun _ _ _ _ _ _ _ h => h.elim, fun v d' σ2 δ2 B2 H2 F2 s2 W2 e r2 => ?_, fun _ _ _ _ _ _ _ h => h.elim, fun _ _ _ _ _ _ _ h => h.elim, fun _ _ _ _ _ _ _ _ h => h.elim, trivial⟩
    have e : d' = d := e
    subst e
    exact q v B2 H2 ⟨s2.bb, W2.bh, fun b o hb => s2.keep b o hb (fun _ z => nomatch z), fun b o hb => s2.fr b o hb (fun _ z => nomatch z)⟩ r2
end
section
variable {X : Cx} {δ δ0 : List Slot} {e : Expr} {es : List Expr} {p pos : Pos} {d : PyData} {fs : List Addr} {s0 : Shared} {H0 : Hp}
def tAS (K : PySem.W.Frag) (δ δ0 : List Slot) : TA := fun σ H Q => ∃ B F, Wf K B H σ δ F ∧ ∀ vs B2 H2, Grow B H B2 H2 → ArgsOk K B2 H2 vs δ0 → Q vs H2
abbrev XAS (X : Cx) (δ : List Slot) (es : List Expr) (δ0 : List Slot) : Prop := PA X es (tAS X.K δ δ0)
theorem xas_nil : XAS X δ [] [] := pa_nil.weak fun σ H Q ⟨B, F, W, q⟩ => q [] B H (Grow.refl W.bh) .nil
theorem xas_dat (ha : XE X δ e d) (hr : XAS X δ es δ0) (hs : starEach (e :: es) X.env = (false, eval e X.env) :: starEach es X.env := by rfl) : XAS X δ (e :: es) (.dat d :: δ0) := (pa_cons ha hr hs).weak fun σ H Q ⟨B, F, W, q⟩ =>
  ⟨B, F, W, fun v B1 H1 g1 r1 => ⟨B1, F, W.grow g1, fun vs B2 H2 g2 r2 => q _ B2 H2 (g1.trans g2) (.cons ⟨rfl, r1.mono g2.bb⟩ r2)⟩⟩
theorem xas_clo (i : Nat) {x : Str} {f : Addr} {Bc : Hp} (h : δ[i]? = some (.own (cloR f Bc))) (hr : XAS X δ es δ0) (hi : X.N[i]? = some x := by rfl) (hv : Vis X.env.scope x := by first | exact Or.inl rfl | exact Or.inr (Or.inl rfl) | exact Or.inr (Or.inr rfl)) (hd : (x == ("__debug__" : Str)) = false := by decide) (hcd : (x == ("__classdict__" : Str)) = false := by decide)
    (hs : starEach (.Name x p :: es) X.env = (false, eval (.Name x p) X.env) :: starEach es X.env := by rfl) : XAS X δ (.Name x p :: es) (.own (cloR f Bc) :: δ0) := (pa_cons (pe_var (i := i) hi hv hd hcd) hr hs).weak fun σ H Q ⟨B, F, W, q⟩ => by
  obtain ⟨h1, h2⟩ := Wf.slot W h
  exact ⟨.ref f, h1, B, F, W, fun vs B2 H2 g2 r2 => q _ B2 H2 g2 (.cons ⟨rfl, rfl, h2.trans g2.bb⟩ r2)⟩
theorem xe_callC {k : Nat} {x : Str} {ps : List Str} (G : DefC X.prog X.w X.K X.mg X.base fs s0 H0 k x ps (SpC X.K δ0 d)) (D : Deep fs s0 H0 X) (hr : Room k X.A) (ha : XAS X δ (e :: es) δ0) (hg : Gl X x := by rfl) (hdb : (x == ("__debug__" : Str)) = false := by decide)
    (he : starEach (e :: es) X.env = (false, eval e X.env) :: starEach es X.env := by rfl) (hpl : (backTo pos (starEach es X.env)).any (·.1) = false := by rfl) : XE X δ (.Call (.Name x p) (e :: es) [] pos) d := by
  obtain ⟨f, fd, h1, h2, h3, h4⟩ := G.ex
  exact (pe_callC (E := E0) h4 D hr hg h1 h2 h3 pass0 ha hdb he hpl).weak fun σ H Q ⟨B, F, W, q⟩ => ⟨B, F, W, fun vs B2 H2 g2 r2 => ⟨B2, g2.bh, r2, fun v B3 H3 g3 r3 => q v B3 H3 (g2.trans g3) r3⟩⟩
end
end Dl

set_option Elab.async false
set_option linter.all false
set_option maxRecDepth 100000
set_option maxHeartbeats 4000000
/-! The data level: list.count; lists within lists that are written through and through. -/
namespace Dl
open PySem PySem.Spec PyProof.Rows L2
section
variable {X : Cx}
def rCountD (K : PySem.W.Frag) : V → List V → Hp → VK → Prop := fun x xs H Q => ∃ (a : Addr) (y : V) (d : PyData) (ds : List PyData), x = V.ref a ∧ xs = [y] ∧ Dp K H (V.ref a) (.list ds) ∧ Dp K H y d ∧
  SeqAt.shaped (.list ds) = true ∧ SeqAt.shaped d = true ∧ Q (.int ((ds.countP fun z => PyData.eqv z d : Nat) : Int)) H
theorem mt_countD (hu : X.A.units + 65 < cLine) : MtR X "list.count" (rCountD X.K) := by
  intro pins s σ H x xs v us Q I rx rxs h
  obtain ⟨a, y, d, ds, rfl, rfl, hl, hy, sl, sd, q⟩ := h
  cases rx
  cases rxs with
  | cons ry rt =>
    rename_i uy ut
    cases rt
    obtain ⟨bs, r1⟩ := Dp.reads I d y uy hy ry
    have hxs : PyData.canLayAll0 ds = true := SeqAt.canLay_of_shaped sl
    have hroom : X.A.units + 1 + min (PyData.depthAll ds) d.depth < cLine := room_in_shaped sd hu
    cases hl with
    | lst hs ha =>
      obtain ⟨its, rv, ⟨⟨cls, dd, data, sls⟩, n, ho, hc, hdn, hdt⟩, hlen⟩ := I.list hs
      simp only at hc hdt
      subst hc hdt
      obtain ⟨as, h4⟩ := Dp.readsAll I ds _ its ha rv
      have hmap : its.map (SeqAt.readOf s.heap) = ds := SeqAt.readsAll_map ds its as hxs h4
      refine call_meets PySem.F.slot_list_count ⟨_, ho, rfl⟩ PySem.F.entry_list_count (PySem.F.args_list_count_2 _ _)
        (SeqAt.list_countAt a its.toArray n dd sls uy (fun u => PyData.eqv (SeqAt.readOf s.heap u) d)) ⟨ho, SeqAt.items_eqAt (vs := its.toArray) (show ReadsAll s.heap its.toArray.toList ds as from h4) r1 hxs (SeqAt.canLay_of_shaped sd) hroom, ?_⟩
      have e : its.toArray.toList.countP (fun u => PyData.eqv (SeqAt.readOf s.heap u) d) = ds.countP fun z => PyData.eqv z d := by
        rw [← hmap, List.countP_map]
        rfl
      rw [e]
      exact ⟨.int _, H, I.tok _, ⟨_, rfl⟩, q⟩
end
section
variable {X : Cx} {δ : List Slot} {o e : Expr} {p p1 p2 p3 p4 pos : Pos} {ds : List PyData} {d2 : PyData}
theorem xe_count (hu : X.A.units + 65 < cLine) (ho : XE X δ o (.list ds)) (ha : XE X δ e d2) (h1 : SeqAt.shaped (.list ds) = true) (h2 : SeqAt.shaped d2 = true)
    (hbase : attributeBase o "count" X.env (eval o X.env) = eval o X.env := by rfl)
    (hfew : ((backTo p (starEach [e] X.env)).all (fun x => !x.1) && (backToKw p (keywordEach [] X.env)).all (fun x => x.1.isSome) && decide ([e].length + ([] : List Keyword).length + (if ([] : List Keyword).isEmpty then 0 else 1) < 30)) = true := by rfl)
    (hline : (p2.endLine == p.line) = true := by rfl) (hs : starEach [e] X.env = (false, eval e X.env) :: starEach [] X.env := by rfl) (hplain : (backTo p (starEach [] X.env)).any (·.1) = false := by rfl) :
    XE X δ (.Call (.Attribute o "count" p2) [e] [] p) (.int ((ds.countP fun z => PyData.eqv z d2 : Nat) : Int)) :=
  (pe_bm PySem.F.plainAttrs_list PySem.F.slot_list_count PySem.F.type_list_count (mt_countD hu) ho (pa_cons ha pa_nil hs) hbase hfew hline hs hplain).weak fun σ H Q ⟨B, F, W, q⟩ => ⟨B, F, W, fun v B1 H1 g1 r1 => by
    cases r1 with
    | @lst a xs _ hx rx =>
      refine ⟨.inl ⟨rfl, xs, SqL.of (g1.bh _ _ hx)⟩, B1, F, W.grow g1, fun w B2 H2 g2 r2 => ?_⟩
      have rl : Rp X.K H2 (.ref a) (.list ds) := (Rp.lst hx rx).mono (g2.bb.trans g2.bh)
      exact ⟨a, w, d2, ds, rfl, rfl, rl.dp (lay_sh h1), (r2.mono g2.bh).dp (lay_sh h2), h1, h2, q _ B2 H2 (g1.trans g2) (.int _)⟩⟩
theorem xe_intB {δ : List Slot} {a : Expr} {p pos : Pos} {k : Bool} (hm : X.mg "int" = none) (ha : XE X δ a (.bool k)) (hg : Gl X "int" := by rfl) (hs : starEach [a] X.env = (false, eval a X.env) :: starEach [] X.env := by rfl) : XE X δ (.Call (.Name "int" p) [a] [] pos) (.int (if k then 1 else 0)) :=
  xe_ct call_int1 hm boot_int (xa_cons ha xa_nil hs) (fun B H vs Q s r q => by
    cases r with
    | cons r1 r2 =>
      cases r2
      cases r1
      exact .inr ⟨k, rfl, q _ B H (Grow.refl s) (.int _)⟩) hg (he := hs)
/-! ### isinstance of a slot's value, whatever it is -/
theorem pe_isiV (i : Nat) {T : String} {x y : Str} (hm : X.mg "isinstance" = none) (hm2 : X.mg x = none) (hv : bootBuiltins x = some (.type T)) (hN : X.N[i]? = some y := by rfl) (hvs : Vis X.env.scope y := by first | exact Or.inl rfl | exact Or.inr (Or.inl rfl) | exact Or.inr (Or.inr rfl)) (hdy : (y == ("__debug__" : Str)) = false := by decide) (hcd : (y == ("__classdict__" : Str)) = false := by decide) (hg : Gl X "isinstance" := by rfl) (hg2 : Gl X x := by rfl)
    (hs : starEach [.Name y p1, .Name x p2] X.env = (false, eval (.Name y p1) X.env) :: starEach [.Name x p2] X.env := by rfl) (hs2 : starEach [.Name x p2] X.env = (false, eval (.Name x p2) X.env) :: starEach [] X.env := by rfl) (hpl : (backTo pos (starEach [.Name x p2] X.env)).any (·.1) = false := by rfl)
    (hn : x ≠ "__name__" := by decide) (hd : (x == ("__debug__" : Str)) = false := by decide) :
    PE X (.Call (.Name "isinstance" p) [.Name y p1, .Name x p2] [] pos) (fun σ H Q => ∃ v t k, σ[i]? = some (some v) ∧ TyX X.K H v (.type t) ∧ kitB t T = some k ∧ Q (.bl k) H) :=
  (pe_callB call_isi hg hm boot_isinstance (pa_cons (pe_var hN hvs hdy hcd) (pa_cons (pe_bltn (v := .ty T) hg2 hm2 hv rfl hn hd) pa_nil hs2) hs) (by decide) (by decide) hs hpl).weak fun σ H Q ⟨v, t, k, h1, h2, h3, q⟩ =>
    ⟨v, h1, v, .ty T, .type t, .type T, k, rfl, .ty T, h2, kit_ty h3, q⟩
theorem pe_isi2V (i : Nat) {T U : String} {x y z : Str} {x1} (hm : X.mg "isinstance" = none) (hm2 : X.mg x = none) (hv : bootBuiltins x = some (.type T)) (hm3 : X.mg z = none) (hv3 : bootBuiltins z = some (.type U)) (hN : X.N[i]? = some y := by rfl) (hvs : Vis X.env.scope y := by first | exact Or.inl rfl | exact Or.inr (Or.inl rfl) | exact Or.inr (Or.inr rfl)) (hdy : (y == ("__debug__" : Str)) = false := by decide) (hcd : (y == ("__classdict__" : Str)) = false := by decide)
    (hg : Gl X "isinstance" := by rfl) (hg2 : Gl X x := by rfl) (hg3 : Gl X z := by rfl)
    (hs : starEach [.Name y p1, .Tuple [.Name x p2, .Name z p3] x1 p4] X.env = (false, eval (.Name y p1) X.env) :: starEach [.Tuple [.Name x p2, .Name z p3] x1 p4] X.env := by rfl) (hs2 : starEach [.Tuple [.Name x p2, .Name z p3] x1 p4] X.env = (false, eval (.Tuple [.Name x p2, .Name z p3] x1 p4) X.env) :: starEach [] X.env := by rfl)
    (hpl : (backTo pos (starEach [.Tuple [.Name x p2, .Name z p3] x1 p4] X.env)).any (·.1) = false := by rfl)
    (hs3 : starEach [.Name x p2, .Name z p3] X.env = (false, eval (.Name x p2) X.env) :: starEach [.Name z p3] X.env := by rfl) (hs4 : starEach [.Name z p3] X.env = (false, eval (.Name z p3) X.env) :: starEach [] X.env := by rfl)
    (hn : x ≠ "__name__" := by decide) (hd : (x == ("__debug__" : Str)) = false := by decide) (hn2 : z ≠ "__name__" := by decide) (hd2 : (z == ("__debug__" : Str)) = false := by decide) :
    PE X (.Call (.Name "isinstance" p) [.Name y p1, .Tuple [.Name x p2, .Name z p3] x1 p4] [] pos) (fun σ H Q => ∃ v t k, σ[i]? = some (some v) ∧ kitAnyB t [T, U] = some k ∧ ∀ H2, Same H H2 → TyX X.K H2 v (.type t) ∧ Q (.bl k) H2) :=
  (pe_callB call_isiT hg hm boot_isinstance (pa_cons (pe_var hN hvs hdy hcd) (pa_cons (pe_tup (pa_cons (pe_bltn (v := .ty T) hg2 hm2 hv rfl hn hd) (pa_cons (pe_bltn (v := .ty U) hg3 hm3 hv3 rfl hn2 hd2) pa_nil hs4) hs3)) pa_nil hs2) hs) (by decide) (by decide) hs hpl).weak fun σ H Q ⟨v, t, k, h1, h3, q⟩ =>
    ⟨v, h1, sz_of (by show 2 ≤ 1000000; decide), fun l hl => by
      obtain ⟨ht, q⟩ := q (upd H l (.tup [V.ty T, V.ty U])) (same_upd hl)
      exact ⟨v, l, [.ty T, .ty U], .type t, [.type T, .type U], k, rfl, upd_same, .cons (.ty T) (.cons (.ty U) .nil), ht, kitAny_of (cs := [T, U]) h3, q⟩⟩
theorem ps_isi (i : Nat) {T : String} {x y : Str} {a b : List Stmt} {ta tb : TS} {pos2 : Pos} (hm : X.mg "isinstance" = none) (hm2 : X.mg x = none) (hv : bootBuiltins x = some (.type T)) (ha : PSs X a ta) (hb : PSs X b tb) (hN : X.N[i]? = some y := by rfl) (hvs : Vis X.env.scope y := by first | exact Or.inl rfl | exact Or.inr (Or.inl rfl) | exact Or.inr (Or.inr rfl)) (hdy : (y == ("__debug__" : Str)) = false := by decide) (hcd : (y == ("__classdict__" : Str)) = false := by decide) (hg : Gl X "isinstance" := by rfl) (hg2 : Gl X x := by rfl)
    (hs : starEach [.Name y p1, .Name x p2] X.env = (false, eval (.Name y p1) X.env) :: starEach [.Name x p2] X.env := by rfl) (hs2 : starEach [.Name x p2] X.env = (false, eval (.Name x p2) X.env) :: starEach [] X.env := by rfl) (hpl : (backTo pos (starEach [.Name x p2] X.env)).any (·.1) = false := by rfl)
    (hn : x ≠ "__name__" := by decide) (hd : (x == ("__debug__" : Str)) = false := by decide) (he : ∀ whole, isTrue (.Call (.Name "isinstance" p) [.Name y p1, .Name x p2] [] pos) X.env whole = (do let v ← whole; standAt (Expr.Call (.Name "isinstance" p) [.Name y p1, .Name x p2] [] pos).pos; holding [v] (truthy v)) := by intro _; rfl) :
    PS X (.If (.Call (.Name "isinstance" p) [.Name y p1, .Name x p2] [] pos) a b pos2) (fun D σ H => ∃ v t k, σ[i]? = some (some v) ∧ TyX X.K H v (.type t) ∧ kitB t T = some k ∧ (k = true → ta D σ H) ∧ (k = false → tb D σ H)) :=
  PS.weak (ps_if (pt_truth (pe_isiV i hm hm2 hv hN hvs hdy hcd hg hg2 hs hs2 hpl hn hd) he) ha hb) fun D σ H ⟨v, t, k, h1, h2, h3, h4, h5⟩ => ⟨v, t, k, h1, h2, h3, k, rfl, by
    cases k with
    | true => exact h4 rfl
    | false => exact h5 rfl⟩
theorem ps_isi2 (i : Nat) {T U : String} {x y z : Str} {a b : List Stmt} {ta tb : TS} {pos2 : Pos} {x1} (hm : X.mg "isinstance" = none) (hm2 : X.mg x = none) (hv : bootBuiltins x = some (.type T)) (hm3 : X.mg z = none) (hv3 : bootBuiltins z = some (.type U)) (ha : PSs X a ta) (hb : PSs X b tb) (hN : X.N[i]? = some y := by rfl) (hvs : Vis X.env.scope y := by first | exact Or.inl rfl | exact Or.inr (Or.inl rfl) | exact Or.inr (Or.inr rfl)) (hdy : (y == ("__debug__" : Str)) = false := by decide) (hcd : (y == ("__classdict__" : Str)) = false := by decide)
    (hg : Gl X "isinstance" := by rfl) (hg2 : Gl X x := by rfl) (hg3 : Gl X z := by rfl)
    (hs : starEach [.Name y p1, .Tuple [.Name x p2, .Name z p3] x1 p4] X.env = (false, eval (.Name y p1) X.env) :: starEach [.Tuple [.Name x p2, .Name z p3] x1 p4] X.env := by rfl) (hs2 : starEach [.Tuple [.Name x p2, .Name z p3] x1 p4] X.env = (false, eval (.Tuple [.Name x p2, .Name z p3] x1 p4) X.env) :: starEach [] X.env := by rfl)
    (hpl : (backTo pos (starEach [.Tuple [.Name x p2, .Name z p3] x1 p4] X.env)).any (·.1) = false := by rfl)
    (hs3 : starEach [.Name x p2, .Name z p3] X.env = (false, eval (.Name x p2) X.env) :: starEach [.Name z p3] X.env := by rfl) (hs4 : starEach [.Name z p3] X.env = (false, eval (.Name z p3) X.env) :: starEach [] X.env := by rfl)
    (hn : x ≠ "__name__" := by decide) (hd : (x == ("__debug__" : Str)) = false := by decide) (hn2 : z ≠ "__name__" := by decide) (hd2 : (z == ("__debug__" : Str)) = false := by decide)
    (he : ∀ whole, isTrue (.Call (.Name "isinstance" p) [.Name y p1, .Tuple [.Name x p2, .Name z p3] x1 p4] [] pos) X.env whole = (do let v ← whole; standAt (Expr.Call (.Name "isinstance" p) [.Name y p1, .Tuple [.Name x p2, .Name z p3] x1 p4] [] pos).pos; holding [v] (truthy v)) := by intro _; rfl) :
    PS X (.If (.Call (.Name "isinstance" p) [.Name y p1, .Tuple [.Name x p2, .Name z p3] x1 p4] [] pos) a b pos2) (fun D σ H => ∃ v t k, σ[i]? = some (some v) ∧ kitAnyB t [T, U] = some k ∧ ∀ H2, Same H H2 → TyX X.K H2 v (.type t) ∧ (k = true → ta D σ H2) ∧ (k = false → tb D σ H2)) :=
  PS.weak (ps_if (pt_truth (pe_isi2V i hm hm2 hv hm3 hv3 hN hvs hdy hcd hg hg2 hg3 hs hs2 hpl hs3 hs4 hn hd hn2 hd2) he) ha hb) fun D σ H ⟨v, t, k, h1, h3, h4⟩ => ⟨v, t, k, h1, h3, fun H2 sm => ⟨(h4 H2 sm).1, k, rfl, by
    cases k with
    | true => exact (h4 H2 sm).2.1 rfl
    | false => exact (h4 H2 sm).2.2 rfl⟩⟩
end
/-! ### what is written through and through -/
def lateO : Option HO → Option HO
  | some (.lst xs) => some (.lst (xs ++ [.str "LATE"]))
  | o => o
def spH (fp : List Addr) (H : Hp) : Hp := fun b => if b ∈ fp then lateO (H b) else H b
theorem lateO_some {o : HO} : ∃ o', lateO (some o) = some o' := by
  cases o <;> exact ⟨_, rfl⟩
theorem spH_some {fp : List Addr} {H : Hp} {b : Addr} {o : HO} (h : H b = some o) : ∃ o', spH fp H b = some o' := by
  unfold spH
  by_cases hb : b ∈ fp
  · rw [if_pos hb, h]
    exact lateO_some
  · rw [if_neg hb]
    exact ⟨o, h⟩
inductive AtomV : V → Prop
  | non : AtomV .non
  | bl (b : Bool) : AtomV (.bl b)
  | int (i : Int) : AtomV (.int i)
inductive OwL (P : V → List Addr → Prop) : List V → List Addr → Prop
  | nil : OwL P [] []
  | cons {v : V} {vs : List V} {f g : List Addr} (h : P v f) (r : OwL P vs g) : OwL P (v :: vs) (f ++ g)
def OwT : Nat → Hp → V → List Addr → Prop
  | 0, _, v, fp => AtomV v ∧ fp = []
  | n + 1, H, v, fp => (AtomV v ∧ fp = []) ∨ ∃ a xs g, v = .ref a ∧ H a = some (.lst xs) ∧ xs.length < 1000000 ∧ OwL (OwT n H) xs g ∧ fp = a :: g ∧ fp.Nodup
theorem OwL.imp {P P2 : V → List Addr → Prop} : ∀ {vs : List V} {g : List Addr}, OwL P vs g → (∀ v f, P v f → (∀ b ∈ f, b ∈ g) → P2 v f) → OwL P2 vs g
  | _, _, .nil, _ => .nil
  | _, _, .cons h r, w => .cons (w _ _ h fun b hb => List.mem_append_left _ hb) (r.imp fun v f hp hb => w v f hp fun b q => List.mem_append_right _ (hb b q))
theorem OwL.app {P : V → List Addr → Prop} : ∀ {vs us : List V} {g k : List Addr}, OwL P vs g → OwL P us k → OwL P (vs ++ us) (g ++ k)
  | _, _, _, _, .nil, s => s
  | _, _, _, _, .cons h r, s => by rw [List.cons_append, List.append_assoc]; exact .cons h (r.app s)
theorem OwT.loc : ∀ {n : Nat} {H H2 : Hp} {v : V} {fp : List Addr}, OwT n H v fp → (∀ b ∈ fp, H2 b = H b) → OwT n H2 v fp
  | 0, _, _, _, _, h, _ => h
  | n + 1, H, H2, v, fp, h, e => by
    rcases h with h | ⟨a, xs, g, h1, h2, h3, h4, h5, h6⟩
    · exact .inl h
    · subst h5
      exact .inr ⟨a, xs, g, h1, (e a List.mem_cons_self).trans h2, h3, h4.imp fun u f hu hb => hu.loc fun b hbf => e b (List.mem_cons_of_mem _ (hb b hbf)), rfl, h6⟩
theorem OwL.some {P : V → List Addr → Prop} {H : Hp} (hp : ∀ v f, P v f → ∀ b ∈ f, ∃ o, H b = some o) : ∀ {vs : List V} {g : List Addr}, OwL P vs g → ∀ b ∈ g, ∃ o, H b = some o
  | _, _, .nil, b, hb => nomatch hb
  | _, _, .cons h r, b, hb => by
    rcases List.mem_append.mp hb with q | q
    · exact hp _ _ h b q
    · exact r.some hp b q
theorem OwT.some : ∀ {n : Nat} {H : Hp} {v : V} {fp : List Addr}, OwT n H v fp → ∀ b ∈ fp, ∃ o, H b = some o
  | 0, _, _, _, h, b, hb => by rw [h.2] at hb; cases hb
  | n + 1, H, v, fp, h, b, hb => by
    rcases h with h | ⟨a, xs, g, h1, h2, h3, h4, h5, h6⟩
    · rw [h.2] at hb; cases hb
    · subst h5
      rcases List.mem_cons.mp hb with q | q
      · exact ⟨_, by rw [q]; exact h2⟩
      · exact h4.some (fun v f hv => hv.some) b q
theorem tyAtom {K : PySem.W.Frag} {H : Hp} {v : V} (h : AtomV v) : ∃ d : PyData, Rp K H v d ∧ isRowD d = false ∧ isDictD d = false ∧ isListD d = false := by
  cases h with
  | non => exact ⟨_, .non, rfl, rfl, rfl⟩
  | bl b => exact ⟨_, .bl b, rfl, rfl, rfl⟩
  | int i => exact ⟨_, .int i, rfl, rfl, rfl⟩
/-- f(thing) that writes a thing through and through -/
def SpSpoil (n : Nat) : Sp := fun vs H Q _ => ∃ v fp, vs = [v] ∧ OwT n H v fp ∧ ∀ H2, (∀ b o, H b = some o → H2 b = spH fp H b) → Q .non H2
/-! the data behind it -/
inductive OnceD : Nat → PyData → Prop
  | non (n : Nat) : OnceD n .none
  | bl (n : Nat) (b : Bool) : OnceD n (.bool b)
  | int (n : Nat) (i : Int) : OnceD n (.int i)
  | late (n : Nat) : OnceD n (.str "LATE")
  | lst {n : Nat} {ds : List PyData} (hz : ds.length < 1000000) (h : ∀ d ∈ ds, OnceD n d) (h2 : ∀ d ∈ ds, d ≠ .str "LATE") : OnceD (n + 1) (.list (ds ++ [.str "LATE"]))
theorem OnceD.up : ∀ {n : Nat} {d : PyData}, OnceD n d → OnceD (n + 1) d
  | _, _, .non n => .non _
  | _, _, .bl n b => .bl _ b
  | _, _, .int n i => .int _ i
  | _, _, .late n => .late _
  | _, _, .lst hz h h2 => .lst hz (fun d hd => (h d hd).up) h2
theorem OwL.once {K : PySem.W.Frag} {H2 : Hp} {n : Nat} {P : V → List Addr → Prop} (hp : ∀ v f, P v f → ∃ d, Rp K H2 v d ∧ OnceD n d ∧ d ≠ .str "LATE") : ∀ {vs : List V} {g : List Addr}, OwL P vs g → ∃ ds, RpA K H2 vs ds ∧ ∀ d ∈ ds, OnceD n d ∧ d ≠ .str "LATE"
  | _, _, .nil => ⟨[], .nil, fun d hd => nomatch hd⟩
  | _, _, .cons h r => by
    obtain ⟨d, h1, h2⟩ := hp _ _ h
    obtain ⟨ds, h3, h4⟩ := r.once hp
    refine ⟨d :: ds, .cons h1 h3, fun e he => ?_⟩
    rcases List.mem_cons.mp he with q | q
    · rw [q]; exact h2
    · exact h4 e q
theorem OwT.once {K : PySem.W.Frag} : ∀ {n : Nat} {H H2 : Hp} {v : V} {fp : List Addr}, OwT n H v fp → (∀ b ∈ fp, H2 b = lateO (H b)) → ∃ d, Rp K H2 v d ∧ OnceD n d ∧ d ≠ .str "LATE"
  | 0, H, H2, v, fp, h, e => by
    cases h.1 with
    | non => exact ⟨_, .non, .non _, by intro z; cases z⟩
    | bl b => exact ⟨_, .bl b, .bl _ b, by intro z; cases z⟩
    | int i => exact ⟨_, .int i, .int _ i, by intro z; cases z⟩
  | n + 1, H, H2, v, fp, h, e => by
    rcases h with h | ⟨a, xs, g, h1, h2, h3, h4, h5, h6⟩
    · cases h.1 with
      | non => exact ⟨_, .non, .non _, by intro z; cases z⟩
      | bl b => exact ⟨_, .bl b, .bl _ b, by intro z; cases z⟩
      | int i => exact ⟨_, .int i, .int _ i, by intro z; cases z⟩
    · subst h5
      subst h1
      have ea := e a List.mem_cons_self
      rw [h2] at ea
      have h4' : OwL (fun v f => OwT n H v f ∧ ∀ b ∈ f, b ∈ g) xs g := h4.imp fun v f a b => ⟨a, b⟩
      obtain ⟨ds, r1, r2⟩ := h4'.once (n := n) (K := K) (H2 := H2) fun v f hv => hv.1.once fun b hb => e b (List.mem_cons_of_mem _ (hv.2 b hb))
      refine ⟨.list (ds ++ [.str "LATE"]), .lst ea (r1.append (.cons (.str _) .nil)), .lst (by rw [← r1.length]; exact h3) (fun d hd => (r2 d hd).1) (fun d hd => (r2 d hd).2), by intro z; cases z⟩
theorem late_lay : PyData.canLay0 (.str "LATE") = true := by kernel_rfl
theorem OnceD.lay : ∀ {n : Nat} {d : PyData}, OnceD n d → PyData.canLay0 d = true ∧ d.depth ≤ n
  | _, _, .non n => ⟨by simp [PyData.canLay0], by simp [PyData.depth]⟩
  | _, _, .bl n b => ⟨by simp [PyData.canLay0], by simp [PyData.depth]⟩
  | _, _, .int n i => ⟨by simp [PyData.canLay0], by simp [PyData.depth]⟩
  | _, _, .late n => ⟨late_lay, by simp [PyData.depth]⟩
  | _, _, @OnceD.lst n ds hz h h2 => by
    have key : ∀ l : List PyData, (∀ d ∈ l, PyData.canLay0 d = true ∧ d.depth ≤ n) → PyData.canLayAll0 l = true ∧ PyData.depthAll l ≤ n := by
      intro l
      induction l with
      | nil => intro _; exact ⟨by simp [PyData.canLayAll0], by simp [PyData.depthAll]⟩
      | cons a r ih =>
        intro hl
        have h1 := hl a List.mem_cons_self
        have h2 := ih fun d hd => hl d (List.mem_cons_of_mem _ hd)
        refine ⟨by simp only [PyData.canLayAll0, h1.1, h2.1]; rfl, ?_⟩
        simp only [PyData.depthAll]
        have := h1.2
        have := h2.2
        omega
    have hk := key (ds ++ [.str "LATE"]) fun d hd => by
      rcases List.mem_append.mp hd with q | q
      · exact (h d q).lay
      · rw [List.mem_singleton.mp q]
        exact ⟨late_lay, by simp [PyData.depth]⟩
    refine ⟨by simp only [PyData.canLay0]; exact hk.1, ?_⟩
    simp only [PyData.depth]
    have := hk.2
    omega
theorem OnceD.shaped {n : Nat} {d : PyData} (h : OnceD n d) (hn : n ≤ 64) : SeqAt.shaped d = true := by
  unfold SeqAt.shaped
  rw [h.lay.1, Bool.true_and, decide_eq_true_eq]
  have := h.lay.2
  omega
def F_once (n : Nat) (ds : List PyData) (d : PyData) : Prop := ∃ x, ds = [x] ∧ OnceD n x ∧ d = .bool true
/-- f(thing): a thing all of whose lists stand in one place alone -/
def SpApart (n : Nat) : Sp := fun vs H Q _ => ∃ v fp, vs = [v] ∧ OwT n H v fp ∧ ∀ H2, (∀ b o, H b = some o → b ∉ fp → H2 b = some o) → (∀ b o, H b = some o → ∃ o', H2 b = some o') → Q (.bl true) H2
theorem late_not {n : Nat} {d : PyData} (h : OnceD n d) (hn : d ≠ .str "LATE") : PyData.eqv d (.str "LATE") = false := by
  cases h with
  | late => exact (hn rfl).elim
  | non => with_unfolding_all rfl
  | bl => with_unfolding_all rfl
  | int => with_unfolding_all rfl
  | lst => with_unfolding_all rfl
theorem late_is : PyData.eqv (.str "LATE") (.str "LATE") = true := by kernel_rfl
theorem late_count {n : Nat} {ds : List PyData} (h : ∀ d ∈ ds, OnceD n d) (h2 : ∀ d ∈ ds, d ≠ .str "LATE") : (ds ++ [PyData.str "LATE"]).countP (fun z => PyData.eqv z (.str "LATE")) = 1 := by
  rw [List.countP_append, List.countP_eq_zero.mpr fun d hd => by rw [late_not (h d hd) (h2 d hd)]; decide]
  rw [List.countP_cons, late_is]
  rfl
end Dl

set_option Elab.async false
set_option linter.all false
set_option maxRecDepth 100000
set_option maxHeartbeats 4000000
/-! The data level: calls to which a lambda is handed. -/
namespace Dl
open PySem PySem.Spec PyProof.Rows L2 LamX
/-- it tells a new pair -/
def clNew (l1 l2 : List Bool) (Bc : Hp) : Hp → VK → XK → Prop := fun H Q _ => Same Bc H ∧ ∀ t p q H2, Same H H2 → NewPair H H2 t p q l1 l2 → Q (.ref t) H2
/-! ### what a lambda captures -/
def capAt (is : List Nat) : Nat → List Slot → List Slot
  | _, [] => []
  | n, s :: r => (if is.contains n then (match s with | .dat d => .dat d | .raw v => .raw v | _ => .no) else .no) :: capAt is (n + 1) r
theorem capAt_length (is : List Nat) : ∀ (n : Nat) (δ : List Slot), (capAt is n δ).length = δ.length
  | _, [] => rfl
  | n, s :: r => by unfold capAt; rw [List.length_cons, List.length_cons, capAt_length is (n + 1) r]
theorem capAt_get (is : List Nat) : ∀ (n : Nat) (δ : List Slot) (i : Nat) (s : Slot), (capAt is n δ)[i]? = some s → s = .no ∨ (δ[i]? = some s ∧ ((∃ d, s = .dat d) ∨ ∃ v, s = .raw v))
  | _, [], i, s, h => by simp [capAt] at h
  | n, a :: r, 0, s, h => by
    unfold capAt at h
    simp only [List.getElem?_cons_zero, Option.some.injEq] at h
    subst h
    split
    · cases a with
      | dat d => exact .inr ⟨rfl, .inl ⟨d, rfl⟩⟩
      | raw v => exact .inr ⟨rfl, .inr ⟨v, rfl⟩⟩
      | no => exact .inl rfl
      | own r => exact .inl rfl
    · exact .inl rfl
  | n, a :: r, i + 1, s, h => by
    unfold capAt at h
    simp only [List.getElem?_cons_succ] at h ⊢
    exact capAt_get is (n + 1) r i s h
section
variable {K : PySem.W.Frag} {B H B1 H1 : Hp} {σ : L2.St} {δ : List Slot} {F : Nat → List Addr} {ns : List Int} {P : Addr} {q : Str} {c' : Addr}
/-- the captured slots alone, at what is known -/
theorem Wf.cap (W : Wf K B H σ δ F) (is : List Nat) : Wf K B B σ (capAt is 0 δ) (fun _ => []) where
  bh := Same.refl B
  len := by rw [capAt_length]; exact W.len
  sl := fun i s e => by
    rcases capAt_get is 0 δ i s e with h | ⟨h, hs⟩
    · subst h
      have hi : i < σ.length := by
        have := (List.getElem?_eq_some_iff.mp e).1
        rw [capAt_length, W.len] at this
        exact this
      refine ⟨σ[i], List.getElem?_eq_getElem hi, ?_⟩
      show SlotOk K B B _ .no []
      cases σ[i] <;> rfl
    · obtain ⟨o, h1, h2⟩ := W.sl i s h
      refine ⟨o, h1, ?_⟩
      cases o with
      | none =>
        rcases hs with ⟨d, rfl⟩ | ⟨v, rfl⟩
        · exact h2.elim
        · exact h2.elim
      | some u =>
        rcases hs with ⟨d, rfl⟩ | ⟨v, rfl⟩
        · exact ⟨rfl, h2.2⟩
        · exact ⟨rfl, h2.2⟩
  out := fun _ _ => rfl
  dis := fun i j a h _ => nomatch h
  own := fun i a h => nomatch h
theorem Wf.at_ (W : Wf K B B σ δ (fun _ => [])) (s : Same B H) : Wf K B H σ δ (fun _ => []) := W.grow ⟨Same.refl B, s, s, fun _ _ _ => rfl⟩
theorem codes_lam (W : Wf K B H σ δ F) (h0 : δ[0]? = some (.own (scrT K ns P q))) (lh : LamH P q c' H H1) : ∃ B1, Wf K B1 H1 σ δ F ∧ Step B H F B1 H1 F ∧ B1 c' = some (CodeO c' q) := by
  obtain ⟨o, a1, a2⟩ := W.sl 0 _ h0
  cases o with
  | none => exact a2.elim
  | some v =>
    obtain ⟨⟨a, e1, e2⟩, hF, ps, hP, hc⟩ := a2
    rcases lh with ⟨rfl, hcode, ps', pos, hP', hca⟩ | ⟨hn, ps', pos, hP', rfl⟩
    · rw [hP] at hP'
      cases hP'
      obtain ⟨c, ec, eB⟩ := hc.2 pos _ hca
      cases ec
      exact ⟨B, W, Step.refl, eB⟩
    · rw [hP] at hP'
      cases hP'
      have hcB : B c' = none := W.bh.free hn
      have ncF : ∀ k, c' ∉ F k := fun k hk => by
        obtain ⟨_, u, hu⟩ := W.own k c' hk
        rw [hn] at hu
        cases hu
      have hPF : P ∈ F 0 := by rw [hF]; exact List.mem_cons_self
      have hPB : B P = none := (W.own 0 P hPF).1
      have hPc : P ≠ c' := fun z => by rw [z, hn] at hP; cases hP
      have h1of : ∀ b, b ≠ P → b ≠ c' → upd (upd H P (.tbl (ps ++ #[rawInt pos.line, rawInt pos.col, .ref c']))) c' (CodeO c' q) b = H b := fun b h1 h2 => by rw [upd_ne h2, upd_ne h1]
      have sB : Same B (upd B c' (CodeO c' q)) := same_upd hcB
      refine ⟨upd B c' (CodeO c' q), ⟨fun b o e => ?_, W.len, fun i s e => ?_, W.out, W.dis, fun i a ha => ?_⟩, ⟨sB, fun b o hb hnF => ?_, fun b o hb hnF => ?_, fun b o hb => ?_, fun i b hb => .inl ⟨i, hb⟩⟩, upd_same⟩
      · by_cases hb : b = c'
        · rw [hb, upd_same] at e ⊢
          exact e
        · rw [upd_ne hb] at e
          rw [h1of b (fun z => by rw [z, hPB] at e; cases e) hb]
          exact W.bh _ _ e
      · by_cases hi : i = 0
        · subst hi
          rw [h0] at e
          cases e
          refine ⟨some v, a1, ⟨a, e1, sB.seq e2⟩, hF, _, by rw [upd_ne hPc]; exact upd_same, ?_, fun p' cv hcv => ?_⟩
          · rw [show (ps ++ #[rawInt pos.line, rawInt pos.col, Value.ref c']).toList = ps.toList ++ [rawInt pos.line, rawInt pos.col, .ref c'] by simp]
            exact PySem.TriplesOk_snoc _ _ _ _ hc.1
          · rw [show (ps ++ #[rawInt pos.line, rawInt pos.col, Value.ref c']).toList = ps.toList ++ [rawInt pos.line, rawInt pos.col, .ref c'] by simp] at hcv
            rcases among_app _ hc.1 hcv with k | k
            · obtain ⟨c, k1, k2⟩ := hc.2 p' cv k
              exact ⟨c, k1, sB _ _ k2⟩
            · exact ⟨c', k, upd_same⟩
        · obtain ⟨o, b1, b2⟩ := W.sl i s e
          exact ⟨o, b1, b2.loc sB fun a ha => h1of a (fun z => hi (W.dis i 0 a ha (by rw [z]; exact hPF))) (fun z => ncF i (z ▸ ha))⟩
      · obtain ⟨k1, o, k2⟩ := W.own i a ha
        have hac : a ≠ c' := fun z => ncF i (z ▸ ha)
        refine ⟨by rw [upd_ne hac]; exact k1, ?_⟩
        by_cases haP : a = P
        · exact ⟨_, by rw [haP, upd_ne hPc]; exact upd_same⟩
        · exact ⟨o, by rw [h1of a haP hac]; exact k2⟩
      · rw [h1of b (fun z => hnF 0 (by rw [z]; exact hPF)) (fun z => by rw [z, hn] at hb; cases hb)]
        exact hb
      · rw [upd_ne (fun z => by rw [z, hn] at hb; cases hb)]
      · by_cases hbP : b = P
        · exact ⟨_, by rw [hbP, upd_ne hPc]; exact upd_same⟩
        · exact ⟨o, by rw [h1of b hbP (fun z => by rw [z, hn] at hb; cases hb)]; exact hb⟩
end
section
variable {X : Cx} {pins : List (Addr × Obj)} {σ : L2.St} {H : Hp} {s : Shared}
theorem lam_endD {q x : Str} {kl k : Nat} {tb : XK → TE} {g f c' : Addr} {ps : List Str} {sp : Sp} {params : Arguments} {body : Expr} {scope : Scope} {pm ctv : Value} {Q : VK} {us : List Value} {vs : List V} (eq : q = X.env.qual ++ "<lambda>")
    (G : Runs X.prog X.w X.K X.mg X.base (frs X.stack) s H (L2.CX X.prog X.w) (kl + 1) f (fun H2 Q E => H2 c' = some (CodeO c' q) ∧ tb E σ H2 Q) → DefC X.prog X.w X.K X.mg X.base (frs X.stack) s H k x ps sp) (hm : X.mg x = some (.ref g))
    (L : LamS X.env.scope scope) (hst : X.stack = X.env :: X.outer) (hbind : bindArgs (PySem.W.kla_fn "<lambda>" (X.env.qual ++ "<lambda>") params body scope (cloFrom X.env.cells scope.names []) pm (.ref c') ctv) ⟨[], []⟩ = pure [])
    (hbody : ∀ (A : Around) (outer : List Env) (s : Shared) (H : Hp) (E : XK), Room kl (A.deeper (lamEnv X scope s.heap.objs.size f c')) → PE (lamCx X A outer s H E scope f c') body (tb E))
    (hr : Room k X.A) (I : Inv X ((f, lamObj X params body scope pm ctv c') :: pins) σ H s) (r : Vals vs us) (h : sp vs H Q E0) : X.K.In s.heap ∧ wpAny (model X.prog X.w) X.A (call (.ref g) us) (EP X pins σ Q) X.xe s := by
  refine ⟨I.kIn, ?_⟩
  obtain ⟨hf, hfn, hL, hF, _⟩ := I.pin _ (List.mem_append_right _ List.mem_cons_self)
  have hfr : f ∉ frs X.stack := fun z => by
    rcases List.mem_cons.mp (I.stkSub f z) with e | e
    · exact hL e
    · exact hF e
  have R := runs_lam (X := X) I L hf hfn hfr hbind hbody
  rw [← eq] at R
  obtain ⟨g2, fd, hm2, _, hb, F⟩ := (G R).ex
  rw [hm] at hm2
  cases hm2
  have hl : (us ++ []).length = ps.length := by rw [List.append_nil, ← r.length]; exact F.len _ _ _ _ h
  have hb2 := hb s us I.kIn hl
  rw [List.append_nil] at hb2
  refine wpAny_call (codeAny_mono (F.run X.A X.stack s H ⟨us, []⟩ us vs Q E0 hr I.env0 Chain.refl hb2 r h) fun r s' hq => ?_)
  cases r with
  | error e => exact (show False from hq).elim
  | ok fl =>
    cases fl with
    | ret u =>
      obtain ⟨v, H', I', rv, q⟩ := I.after hq
      exact ⟨v, H', Inv.lessPin I', rv, q⟩
    | next => exact False.elim hq
    | brk => exact False.elim hq
    | cont => exact False.elim hq
end
/-- the reading of a lambda's body over the captured slots -/
def lamTb (K : PySem.W.Frag) (δc : List Slot) (cl : Hp → Hp → VK → XK → Prop) (E : XK) : TE := fun σ H Q => ∃ Bc, Wf K Bc Bc σ δc (fun _ => []) ∧ cl Bc H Q E
/-- a lambda and what is asked of it -/
structure LamOk (X : Cx) (δ : List Slot) (q : Str) (kl : Nat) (params : Arguments) (body : Expr) (scope : Scope) (cl : Hp → Hp → VK → XK → Prop) : Prop where
  ls : LamS X.env.scope scope
  df : defaultsOf params X.env = ([], [])
  bind : ∀ (q : Str) (cls : List (Str × Addr)) (pm cv ctv : Value), bindArgs (PySem.W.kla_fn "<lambda>" q params body scope cls pm cv ctv) ⟨[], []⟩ = pure []
  body : ∃ is : List Nat, ∀ (A : Around) (outer : List Env) (s : Shared) (H : Hp) (E : XK) (f c' : Addr), Room kl (A.deeper (lamEnv X scope s.heap.objs.size f c')) → PE (lamCx X A outer s H E scope f c') body (lamTb X.K (capAt is 0 δ) cl E)
  same : ∀ Bc H Q E, cl Bc H Q E → Same Bc H
section
variable {X : Cx} {δ : List Slot} {q x : Str} {k kl : Nat} {ps : List Str} {c P : Addr} {params : Arguments} {body e e1 e2 : Expr} {scope : Scope} {lpos p pos : Pos} {d d1 d2 : PyData} {ns : List Int} {cl : Hp → Hp → VK → XK → Prop} {g : Addr}
/-- x(lambda: .., e) -/
theorem xf_lam1 (LA : LamAt X q c P) (L : LamOk X δ q kl params body scope cl) (h0 : δ[0]? = some (.own (scrT X.K ns P q))) (hm : X.mg x = some (.ref g)) (hk : PySem.W.keepIn X.K (.ref g) = true)
    (hG : ∀ (s : Shared) (H : Hp) (f : Addr) (Bc : Hp), Runs X.prog X.w X.K X.mg X.base (frs X.stack) s H (L2.CX X.prog X.w) (kl + 1) f (cl Bc) → DefC X.prog X.w X.K X.mg X.base (frs X.stack) s H k x ps (SpC X.K [.own (cloR f Bc), .dat d2] d))
    (hr : Room k X.A) (he : XE X δ e d2) (hg : Gl X x := by rfl) (hdb : (x == ("__debug__" : Str)) = false := by decide)
    (hs : starEach (.Lambda params body scope lpos :: [e]) X.env = (false, eval (.Lambda params body scope lpos) X.env) :: starEach [e] X.env := by rfl) (hs2 : starEach [e] X.env = (false, eval e X.env) :: starEach [] X.env := by rfl) (hpl : (backTo pos (starEach [e] X.env)).any (·.1) = false := by rfl) :
    XF X δ (.Call (.Name x p) [.Lambda params body scope lpos, e] [] pos) (fun d' δ' => d' = d ∧ δ' = δ) := by
  obtain ⟨is, hbody⟩ := L.body
  refine (pe_callS hg hm hk (pas_lam LA L.ls L.df (pas_of (xa_cons he xa_nil hs2)) hs) hdb hs hpl).weak fun σ H Q ⟨B, F, W, qq⟩ pins => ?_
  obtain ⟨o, a1, a2⟩ := W.sl 0 _ h0
  cases o with
  | none => exact a2.elim
  | some v0 =>
    obtain ⟨_, _, pt, hP, hc⟩ := a2
    refine ⟨⟨pt, hP, hc.mono W.bh⟩, fun f c' pm ctv H1 lh => ?_⟩
    obtain ⟨B1, W1, st1, hcB⟩ := codes_lam W h0 lh
    refine ⟨B1, F, W1, fun vs B2 H2 g2 r2 us s1 I1 rv => ?_⟩
    cases r2 with
    | @cons v2 _ _ _ r2 r3 =>
      cases r3
      have W2 := W1.grow g2
      refine lam_endD (kl := kl) (k := k) (x := x) (ps := ps) (tb := lamTb X.K (capAt is 0 δ) cl) (sp := SpC X.K [.own (cloR f B2), .dat d2] d) (vs := [.ref f, v2]) LA.eq (fun R => hG s1 H2 f B2 (R.imp fun H3 Q3 E3 hcl => ⟨?_, B2, W2.cap is, hcl⟩)) hm L.ls LA.st (L.bind _ _ _ _ _) (fun A outer s H E hrm => hbody A outer s H E f c' hrm) hr I1 (.cons rfl rv) ?_
      · exact L.same _ _ _ _ hcl _ _ (g2.bb _ _ hcB)
      · exact ⟨B2, g2.bh, .cons ⟨rfl, rfl, Same.refl _⟩ (.cons ⟨rfl, r2⟩ .nil), fun v B3 H3 g3 r3 => qq v d δ B3 H3 F (st1.trans (Step.of (g2.trans g3))) (W2.grow g3) ⟨rfl, rfl⟩ r3⟩
/-- x(e1, e2, lambda: ..) -/
theorem xf_lam3 (LA : LamAt X q c P) (L : LamOk X δ q kl params body scope cl) (h0 : δ[0]? = some (.own (scrT X.K ns P q))) (hm : X.mg x = some (.ref g)) (hk : PySem.W.keepIn X.K (.ref g) = true)
    (hG : ∀ (s : Shared) (H : Hp) (f : Addr) (Bc : Hp), Runs X.prog X.w X.K X.mg X.base (frs X.stack) s H (L2.CX X.prog X.w) (kl + 1) f (cl Bc) → DefC X.prog X.w X.K X.mg X.base (frs X.stack) s H k x ps (SpC X.K [.dat d1, .dat d2, .own (cloR f Bc)] d))
    (hr : Room k X.A) (he1 : XE X δ e1 d1) (he2 : XE X δ e2 d2) (hg : Gl X x := by rfl) (hdb : (x == ("__debug__" : Str)) = false := by decide)
    (hs1 : starEach (e1 :: [e2, .Lambda params body scope lpos]) X.env = (false, eval e1 X.env) :: starEach [e2, .Lambda params body scope lpos] X.env := by rfl) (hs2 : starEach (e2 :: [.Lambda params body scope lpos]) X.env = (false, eval e2 X.env) :: starEach [.Lambda params body scope lpos] X.env := by rfl)
    (hs3 : starEach (.Lambda params body scope lpos :: []) X.env = (false, eval (.Lambda params body scope lpos) X.env) :: starEach [] X.env := by rfl) (hpl : (backTo pos (starEach [e2, .Lambda params body scope lpos] X.env)).any (·.1) = false := by rfl) :
    XF X δ (.Call (.Name x p) [e1, e2, .Lambda params body scope lpos] [] pos) (fun d' δ' => d' = d ∧ δ' = δ) := by
  obtain ⟨is, hbody⟩ := L.body
  refine (pe_callS hg hm hk (pas_cons he1 (pas_cons he2 (pas_lam LA L.ls L.df (pas_of pa_nil) hs3) hs2) hs1) hdb hs1 hpl).weak fun σ H Q ⟨B, F, W, qq⟩ pins => ?_
  refine ⟨B, F, W, fun v1 B1 H1 g1 r1 u1 ru1 => ⟨B1, F, W.grow g1, fun v2 B2 H2 g2 r2 u2 ru2 => ?_⟩⟩
  have W2 := (W.grow g1).grow g2
  obtain ⟨o, a1, a2⟩ := W2.sl 0 _ h0
  cases o with
  | none => exact a2.elim
  | some v0 =>
    obtain ⟨_, _, pt, hP, hc⟩ := a2
    refine ⟨⟨pt, hP, hc.mono W2.bh⟩, fun f c' pm ctv H3 lh => ?_⟩
    obtain ⟨B3, W3, st3, hcB⟩ := codes_lam W2 h0 lh
    refine fun us s1 I1 rv => ?_
    cases rv
    refine lam_endD (kl := kl) (k := k) (x := x) (ps := ps) (tb := lamTb X.K (capAt is 0 δ) cl) (sp := SpC X.K [.dat d1, .dat d2, .own (cloR f B3)] d) (vs := [v1, v2, .ref f]) LA.eq (fun R => hG s1 H3 f B3 (R.imp fun H4 Q4 E4 hcl => ⟨?_, B3, W3.cap is, hcl⟩)) hm L.ls LA.st (L.bind _ _ _ _ _) (fun A outer s H E hrm => hbody A outer s H E f c' hrm) hr I1 (.cons ru1 (.cons ru2 (.cons rfl .nil))) ?_
    · exact L.same _ _ _ _ hcl _ _ hcB
    · exact ⟨B3, W3.bh, .cons ⟨rfl, r1.mono (g2.bb.trans st3.bb)⟩ (.cons ⟨rfl, r2.mono st3.bb⟩ (.cons ⟨rfl, rfl, Same.refl _⟩ .nil)), fun v B4 H4 g4 r4 => qq v d δ B4 H4 F ((Step.of (g1.trans g2)).trans (st3.trans (Step.of g4))) (W3.grow g4) ⟨rfl, rfl⟩ r4⟩
end
/-! ### what a lambda's body does -/
section
variable {Y : Cx} {δc : List Slot} {k i : Nat} {x a : Str} {ps : List Str} {e : Expr} {es : List Expr} {ds : List PyData} {l1 l2 : List Bool} {p pos : Pos} {E : XK} {C : Addr} {fld : Str} {y : PyData} {body : Expr} {g : Gh} {f : Addr}
theorem lam_new {fr : List PyData → List Bool → List Bool → Prop} (G : Def Y.prog Y.w Y.K Y.mg Y.base k x ps (SpF Y.K fr)) (hr : Room k Y.A) (ha : XA Y δc (e :: es) ds) (hf : fr ds l1 l2) (hg : Gl Y x := by rfl) (hdb : (x == ("__debug__" : Str)) = false := by decide)
    (he : starEach (e :: es) Y.env = (false, eval e Y.env) :: starEach es Y.env := by rfl) (hpl : (backTo pos (starEach es Y.env)).any (·.1) = false := by rfl) : PE Y (.Call (.Name x p) (e :: es) [] pos) (lamTb Y.K δc (clNew l1 l2) E) := by
  obtain ⟨fa, fd, h1, h2, h3, h4⟩ := G.ex
  refine (pe_call h4 hr hg h1 h2 h3 .nil pass0 ha hdb he hpl).weak fun σ H Q ⟨Bc, W, sm, q⟩ => ⟨Bc, _, W.at_ sm, fun vs B2 H2 g2 r2 => ?_⟩
  show SpF Y.K fr (vs ++ []) H2 Q _
  rw [List.append_nil]
  exact ⟨B2, ds, l1, l2, g2.bh, r2, hf, fun t pa qa H3 sm3 n => q t pa qa H3 (g2.hh.trans sm3) (n.back fun b o hb => ⟨o, g2.hh b o hb⟩)⟩
theorem lam_err (hY : Takes Y (fun cls d _ H => E cls d H)) (h : ∀ g, WantE Y g C fld y → XR Y δc body g) : PE Y body (lamTb Y.K δc (fun Bc => clErr Y.K Bc C fld y) E) := by
  let ι := {z : Hp × Hp // ∀ d v B2 H2, Grow z.1 z.2 B2 H2 → B2 d = none → H2 d = some (.xd [(fld, v)]) → z.2 d = none → Rp Y.K B2 v y → E (.ref C) (some d) H2}
  have hp : PE Y body (fun σ H Q => ∃ z : ι, tR Y.K δc (some (z.1.1, z.1.2, fun _ => [])) σ H Q) := pe_ex fun z : ι => h _ ⟨E, hY, fun d v B H F gh sm hb hd hn rv => by
    have s2 : Step z.1.1 z.1.2 (fun _ => []) B H F := gh
    exact z.2 d v B H ⟨s2.bb, sm, fun b o hb => s2.keep b o hb (fun _ z => nomatch z), fun b o hb => s2.fr b o hb (fun _ z => nomatch z)⟩ hb hd (hn _ rfl) rv⟩
  exact hp.weak fun σ H Q ⟨Bc, W, sm, q⟩ => ⟨⟨(Bc, H), q⟩, Bc, _, W.at_ sm, Step.refl⟩
theorem lam_takes {X : Cx} {A : Around} {outer : List Env} {s : Shared} {H : Hp} {scope : Scope} {f c' : Addr} : Takes (lamCx X A outer s H E scope f c') (fun cls d _ H => E cls d H) := takes_of rfl rfl rfl rfl
/-- a slot's def is called: it raises -/
theorem xr_callV {fe : List PyData → Addr → Str → PyData → Prop} (i : Nat) (G : DefX Y.prog Y.w Y.K Y.mg Y.base k x ps (SpE Y.K fe)) (hm : Y.mg x = some (.ref f)) (hr : Room k Y.A) (hi : δc[i]? = some (.raw (.ref f))) (ha : XA Y δc (e :: es) ds) (hf : fe ds C fld y) (hw : WantE Y g C fld y) (hN : Y.N[i]? = some a := by rfl) (hv : Vis Y.env.scope a := by first | exact Or.inl rfl | exact Or.inr (Or.inl rfl) | exact Or.inr (Or.inr rfl)) (hda : (a == ("__debug__" : Str)) = false := by decide) (hca : (a == ("__classdict__" : Str)) = false := by decide)
    (he : starEach (e :: es) Y.env = (false, eval e Y.env) :: starEach es Y.env := by rfl) (hpl : (backTo pos (starEach es Y.env)).any (·.1) = false := by rfl) : XR Y δc (.Call (.Name a p) (e :: es) [] pos) g := by
  obtain ⟨fa, fd, h1, h2, h3, h4⟩ := G.ex
  rw [hm] at h1
  cases h1
  obtain ⟨E, tk, hE⟩ := hw.ex
  refine ⟨fun pins s σ H Q I ⟨B, F, W, gh⟩ => ?_⟩
  refine wpAny_Call_Name_kw (thn ((pe_var (pos := p) (i := i) hN hv hda hca).run pins s σ H (fun v H2 => v = .ref f ∧ H2 = H) I ⟨.ref f, W.raw hi, rfl, rfl⟩) fun u s2 ⟨v, H2, I2, r2, q2⟩ => ?_)
  obtain ⟨ev, eH⟩ := q2
  subst ev
  rw [eH] at I2
  obtain rfl : u = Value.ref f := r2
  refine PySem.W.callWith_K (h₀ := Y.base) I2.ok.mod.kin h2 (thn (ha.run pos pins s2 σ H _ I2 ⟨B, F, W, fun vs B2 H2 g2 r => (?_ : SpE Y.K fe (vs ++ []) H2 Q E)⟩) fun us s3 ⟨vs, H3, I3, r3, q3⟩ => ⟨I3.kIn, run_fn h4 hr h3 .nil (passes_call tk fun _ _ _ _ h => h) I3 r3 q3⟩) he hpl
  rw [List.append_nil]
  exact ⟨B2, ds, C, fld, y, g2.bh, r, hf, fun d v B3 H3 g3 hb hd hn rv => hE d v B3 H3 F (gh.step (Step.of (g2.trans g3))) g3.bh hb hd ((gh.step (Step.of g2)).none hn) rv⟩
end
/-! ### not, with effects; calls with keywords alone; a walk over defs -/
section
variable {X : Cx} {δ : List Slot} {a e1 e2 tg : Expr} {pos p p0 kp1 kp2 : Pos} {ds : List PyData} {d d1 d2 : PyData} {x n1 n2 : Str} {rest body : List Stmt} {R : Post} {es : List Expr}
theorem xft_not {PB : Bool → List Slot → Prop} (ha : XFT X δ a PB) : XFT X δ (.UnaryOp .Not a pos) (fun b δ' => PB (!b) δ') := (pt_not ha).weak fun σ H Q ⟨B, F, W, q⟩ => ⟨B, F, W, fun b δ2 B2 H2 F2 s W2 hp => q (!b) δ2 B2 H2 F2 s W2 (show PB (!!b) δ2 by rw [Bool.not_not]; exact hp)⟩
theorem xft_imp {PB PB' : Bool → List Slot → Prop} (h : XFT X δ a PB) (w : ∀ b δ', PB b δ' → PB' b δ') : XFT X δ a PB' := L2.PT.weak h fun σ H Q ⟨B, F, W, q⟩ => ⟨B, F, W, fun b δ2 B2 H2 F2 s W2 hp => q b δ2 B2 H2 F2 s W2 (w _ _ hp)⟩
/-- if not e: .. with e true -/
theorem xb_ifNotT {sts : List Stmt} (he : XF X δ a (fun d' δ' => d' = .bool true ∧ δ' = δ)) (h : XB X δ rest R) (hT : ∀ whole, isTrue a X.env whole = (do let v ← whole; standAt a.pos; holding [v] (truthy v)) := by intro _; rfl) : XB X δ (.If (.UnaryOp .Not a p0) sts [] pos :: rest) R :=
  xb_ifF (PB := fun b δ' => b = false ∧ δ' = δ) (fun δ' => δ' = δ) (xft_imp (xft_not (xft_tru (PB := fun b δ' => b = true ∧ δ' = δ) he (fun d δ1 ⟨h1, h2⟩ => by subst h1; exact ⟨True.intro, rfl, h2⟩) hT)) fun b δ' ⟨h1, h2⟩ => ⟨(by cases b with | false => rfl | true => cases h1), h2⟩)
    (fun δ1 h1 => by cases h1.1) (fun δ1 ⟨_, h1⟩ => xb_nil h1) (fun δ' h' => by subst h'; exact h)
def swapK {α : Type} (us ws : List α) : List α := match us, ws with
  | [], [a, b] => [b, a]
  | _, _ => []
theorem swapK_rel : ∀ {vs : List V} {us : List Value} {zs : List V} {ws : List Value}, Vals vs us → Vals zs ws → Vals (swapK vs zs) (swapK us ws)
  | _, _, _, _, .cons _ _, _ => .nil
  | _, _, _, _, .nil, .nil => .nil
  | _, _, _, _, .nil, .cons _ .nil => .nil
  | _, _, _, _, .nil, .cons a (.cons b .nil) => .cons b (.cons a .nil)
  | _, _, _, _, .nil, .cons _ (.cons _ (.cons _ _)) => .nil
theorem swapK_len {us ws : List Value} (h : (swapK us ws).length = 2) : ∃ a b, us = [] ∧ ws = [a, b] := by
  match us, ws, h with
  | [], [a, b], _ => exact ⟨a, b, rfl, rfl⟩
  | [], [], h => cases h
  | [], [_], h => cases h
  | [], _ :: _ :: _ :: _, h => cases h
  | _ :: _, _, h => cases h
/-- f(n1 = e1, n2 = e2), the parameters the other way round -/
theorem xe_callK2 {k : Nat} {f : List PyData → PyData → Prop} (hr : Room k X.A)
    (hkb : ∃ g fd, X.mg x = some (.ref g) ∧ PySem.W.keepIn X.K (.ref g) = true ∧ FnOk X.prog X.w X.K X.mg X.base CX0 k g fd [n2, n1] (SpP X.K f) ∧ KBinds X.K fd [n2, n1] [n1, n2] swapK swapK)
    (h1 : XE X δ e1 d1) (h2 : XE X δ e2 d2) (hf : f [d2, d1] d) (hg : Gl X x := by rfl) (hdb : (x == ("__debug__" : Str)) = false := by decide)
    (hall : (backToKw pos (keywordEach [⟨some n1, e1, kp1⟩, ⟨some n2, e2, kp2⟩] X.env)).all (·.1.isSome) = true := by rfl) (hks : (backToKw pos (keywordEach [⟨some n1, e1, kp1⟩, ⟨some n2, e2, kp2⟩] X.env)).filterMap (·.1) = [n1, n2] := by rfl)
    (hpl : ((backTo pos (starEach [] X.env)).any (·.1) || (backToKw pos (keywordEach [⟨some n1, e1, kp1⟩, ⟨some n2, e2, kp2⟩] X.env)).any (·.1.isNone)) = false := by rfl) : XE X δ (.Call (.Name x p) [] [⟨some n1, e1, kp1⟩, ⟨some n2, e2, kp2⟩] pos) d := by
  obtain ⟨g, fd, m1, m2, m3, m4⟩ := hkb
  refine ⟨fun pins s σ H Q I ⟨B, F, W, q⟩ => ?_⟩
  refine wpAny_Call_Name_kw (ld_glob I hg m1 ?_ hdb)
  refine PySem.W.callWith_KW0 (h₀ := X.base) I.ok.mod.kin m2 hall (thn ((pk_cons h1 (pk_cons h2 pk_nil)).run pos pins s σ H (fun zs H3 => ∃ v1 v2 B3, zs = [v1, v2] ∧ Grow B H B3 H3 ∧ Rp X.K B3 v1 d1 ∧ Rp X.K B3 v2 d2) I ⟨B, F, W, fun v1 B1 H1 g1 r1 => ⟨B1, F, W.grow g1, fun v2 B2 H2 g2 r2 => ⟨v1, v2, B2, rfl, g1.trans g2, r1.mono g2.bb, r2⟩⟩⟩) fun ws s2 ⟨zs, H3, I3, rz, v1, v2, B3, ez, g3, r1, r2⟩ => ⟨I3.kIn, ?_⟩) hpl
  rw [hks]
  subst ez
  refine run_fnk (us := []) (vs := []) m3 hr m4 pass0 I3 .nil rz ⟨B3, [d2, d1], d, g3.bh, .cons r2 (.cons r1 .nil), hf, fun v B4 H4 g4 r4 => q v B4 H4 (g3.trans g4) r4⟩
theorem kbinds2 {K : PySem.W.Frag} {qual : Str} {st : Stmt} {f : Addr} {fd : FuncData} (F : Fun K x qual st f fd)
    (h : ∀ (kV doc pm : Value) (an : Option Addr) (cdv ct : Value) (a b : Value), bindArgs (PySem.W.fnOf x qual (defArgs st) (defBody st) (defScope st) .none kV doc pm an cdv ct) ⟨[], [n1, n2].zip [a, b]⟩ = pure ([n2, n1].zip [b, a])) : KBinds K fd [n2, n1] [n1, n2] swapK swapK := by
  obtain ⟨oc, od, kV, doc, pm, an, cdv, ct, osl, rfl, lk, hcd⟩ := F.ex
  refine ⟨fun s us ws _ hl => ?_, swapK_rel⟩
  obtain ⟨a, b, rfl, rfl⟩ := swapK_len hl
  exact .of_eq (h kV doc pm an cdv ct a b)
end
end Dl

set_option Elab.async false
set_option linter.all false
set_option maxRecDepth 100000
set_option maxHeartbeats 4000000
/-! The data level: a walk over defs; a law that makes lambdas. -/
namespace Dl
open PySem PySem.Spec PyProof.Rows L2 LamX
section
variable {X : Cx} {δ : List Slot} {es : List Expr} {p p2 pos : Pos} {rest body : List Stmt} {R : Post} {x : Str}
/-- for x in (g1, g2, ..): values that are known -/
theorem xb_forV {us : List V} {x1} (i : Nat) (J : Nat → List Slot → Prop) (M : List Slot → Prop) (ha : PA X es (fun σ H Q => Q us H)) (hz : us.length ≤ 1000000) (h0 : J 0 δ)
    (hs : ∀ j δ' u, J j δ' → us[j]? = some u → XB X (δ'.set i (.raw u)) body { R with nx := J (j + 1), ct := J (j + 1), bk := M }) (hM : ∀ δ', J us.length δ' → M δ')
    (h : ∀ δ', M δ' → XB X δ' rest R) (hN : X.N.Nodup) (hi : X.N[i]? = some x := by rfl) (hx : Loc X.env.scope x := by first | exact Or.inl rfl | exact Or.inr rfl) (hf : X.fn x = true ∨ X.env.scope.names.lookup x = some .local := by first | exact .inl rfl | exact .inr rfl)
    (hp : PassesOwn (model X.prog X.w) X.A X.env X.xe := by exact PassesOwn.never) (hc : X.calm = true := by rfl) (hss : ∀ y, foldedSetIterable (.Tuple es x1 p2) X.env y = pure y := by intro _; rfl) : XB X δ (.For (.Name x p) (.Tuple es x1 p2) body [] pos :: rest) R := by
  let ι := {z : Nat × List Slot × V // J z.1 z.2.1 ∧ us[z.1]? = some z.2.2}
  have hB : PSs X body (fun D σ H => ∃ z : ι, tS X.K (z.1.2.1.set i (.raw z.1.2.2)) { R with nx := J (z.1.1 + 1), ct := J (z.1.1 + 1), bk := M } D σ H) := pss_ex fun z : ι => hs z.1.1 z.1.2.1 z.1.2.2 z.2.1 z.2.2
  have hr : PSs X rest (fun D σ H => ∃ z : {δ' // M δ'}, tS X.K z.1 R D σ H) := pss_ex fun z : {δ' // M δ'} => h z.1 z.2
  refine xb_cons (ps_for hp hc (pi_tup (pe_tup ha)) (pg_name (i := i) hN hi hx hf) hB hss) hr fun D σ H B F W o => ⟨sz_of hz, fun a hpa => ⟨a, rfl, ⟨us, .inl (.inl upd_same)⟩, ?_⟩⟩
  have g1 : Grow B H (upd B a (.tup us)) (upd H a (.tup us)) := Grow.new W.bh hpa
  have s1 : Step B H F (upd B a (.tup us)) (upd H a (.tup us)) F := Step.of g1
  have ka : (upd B a (.tup us)) a = some (.tup us) := upd_same
  generalize upd B a (.tup us) = B1 at g1 s1 ka
  generalize upd H a (.tup us) = H1 at g1 s1
  have sq : ∀ {B' H' : Hp}, Same B1 B' → Same B' H' → SqT X.K H' a us := fun s1 s2 => .inl (.inl (s2 _ _ (s1 _ _ ka)))
  refine ⟨fun i m σ' H' => m = us.length - i ∧ i ≤ us.length ∧ ∃ δ' B' F', J i δ' ∧ Wf X.K B' H' σ' δ' F' ∧ Step B H F B' H' F' ∧ Same B1 B', ⟨us.length, by simp, Nat.zero_le _, δ, B1, F, h0, W.grow g1, s1, Same.refl _⟩, ?_⟩
  rintro j m σ' H' ⟨rfl, hle, δ', B', F', hj, W', s', sm⟩
  by_cases hlt : j < us.length
  · have hget : us[j]? = some us[j] := List.getElem?_eq_getElem hlt
    generalize us[j] = u at hget
    refine .inr ⟨⟨us, u, sq sm W'.bh, hget⟩, fun σ3 H3 => ∃ δ3 B3 F3, J (j + 1) δ3 ∧ Wf X.K B3 H3 σ3 δ3 F3 ∧ Step B H F B3 H3 F3 ∧ Same B1 B3, fun σ3 H3 ⟨δ3, B3, F3, q⟩ => ⟨us.length - (j + 1), by omega, rfl, hlt, δ3, B3, F3, q⟩, fun y H2 hy => ?_⟩
    obtain ⟨rfl, hv⟩ := hy
    have e := hv us (sq sm W'.bh)
    rw [hget] at e
    cases e
    have W3 := W'.put (i := i) (v := u) (s := .raw u) ⟨rfl, rfl⟩
    have s2 := s'.sub (F2 := fun j => if j = i then [] else F' j) cut_sub
    refine ⟨⟨(j, δ', u), hj, hget⟩, ts_iff.mpr ⟨B', _, W3, ?_, ?_, ?_, ?_, fun v σ4 δ4 B4 H4 F4 s4 W4 q => o.rr v σ4 δ4 B4 H4 F4 (s2.trans s4) W4 q, o.gh.step s2⟩⟩
    · exact fun σ4 δ4 B4 H4 F4 s4 W4 q => ⟨δ4, B4, F4, q, W4, s2.trans s4, sm.trans s4.bb⟩
    · exact fun v d σ4 δ4 B4 H4 F4 s4 W4 q r => o.rt v d σ4 δ4 B4 H4 F4 (s2.trans s4) W4 q r
    · exact fun σ4 δ4 B4 H4 F4 s4 W4 q => ⟨⟨δ4, q⟩, ts_iff.mpr ⟨B4, F4, W4, o.step (s2.trans s4)⟩⟩
    · exact fun σ4 δ4 B4 H4 F4 s4 W4 q => ⟨δ4, B4, F4, q, W4, s2.trans s4, sm.trans s4.bb⟩
  · have e : j = us.length := by omega
    subst e
    exact .inl ⟨⟨us, sq sm W'.bh, Nat.le_refl _⟩, ⟨δ', hM δ' hj⟩, ts_iff.mpr ⟨B', F', W', o.step s'⟩⟩
end
section
variable {X : Cx} {δ : List Slot} {rest : List Stmt} {R : Post} {p0 p1 p2 p3 pos : Pos}
theorem xb_startT (i j : Nat) {k : Nat} {f x y : Str} {ps : List Str} {ns : List Int} {Pt : Addr} {qq : Str} (G : Def X.prog X.w X.K X.mg X.base k f ps (SpStart X.K)) (hr : Room k X.A) (hj : δ[j]? = some (.own (scrT X.K ns Pt qq))) (hl : ns.length ≤ 63) (hil : i < δ.length) (kk : ∀ p q, XB X (δ.set i (.own (strmR p q 0))) rest R) (hNd : X.N.Nodup)
    (hNj : X.N[j]? = some y := by rfl) (hvj : Vis X.env.scope y := by first | exact Or.inl rfl | exact Or.inr (Or.inl rfl) | exact Or.inr (Or.inr rfl)) (hdj : (y == ("__debug__" : Str)) = false := by decide) (hcj : (y == ("__classdict__" : Str)) = false := by decide) (hN : X.N[i]? = some x := by rfl) (hx : Loc X.env.scope x := by first | exact Or.inl rfl | exact Or.inr rfl)
    (hs : swapsWith (.Call (.Name f p1) [.Name y p2] [] p3) (some (.Name x p0)) pos.line X.env = pure false := by rfl) (hf : X.fn x = true ∨ X.env.scope.names.lookup x = some .local := by first | exact .inl rfl | exact .inr rfl | assumption)
    (hg : Gl X f := by rfl) (hdb : (f == ("__debug__" : Str)) = false := by decide) (he : starEach [.Name y p2] X.env = (false, eval (.Name y p2) X.env) :: starEach [] X.env := by rfl) (hpl : (backTo p3 (starEach [] X.env)).any (·.1) = false := by rfl) : XB X δ (.Assign [.Name x p0] (.Call (.Name f p1) [.Name y p2] [] p3) pos :: rest) R := by
  obtain ⟨fa, fd, h1, h2, h3, h4⟩ := G.ex
  refine xb_cons (ps_set hNd hN hx (pe_call h4 hr hg h1 h2 h3 .nil pass0 (pa_cons (pe_var (i := j) hNj hvj hdj hcj) pa_nil he) hdb he hpl) hs hf) (pss_ex fun z : Addr × Addr => kk z.1 z.2) fun D σ H B F W o => ?_
  obtain ⟨ov, a1, a2⟩ := W.sl j _ hj
  cases ov with
  | none => exact a2.elim
  | some v =>
    obtain ⟨⟨a, rfl, hS⟩, hF, _⟩ := a2
    refine ⟨.ref a, a1, ?_⟩
    show ∃ (a : Addr) (ns : List Int), _
    refine ⟨a, ns, rfl, W.bh.seq hS, fun p q H2 hp hq ne sm k1 k2 => ⟨(p, q), ?_⟩⟩
    have g : Grow B H B H2 := ⟨Same.refl B, W.bh.trans sm, sm, fun _ _ _ => rfl⟩
    have W2 := W.grow g
    have nF : ∀ b, H b = none → ∀ k, b ∉ F k := fun b hb k hk => by
      obtain ⟨_, u, hu⟩ := W.own k b hk
      rw [hb] at hu
      cases hu
    refine ts_iff.mpr ⟨B, _, W2.putO (r := strmR p q 0) (fp := [p, q]) hil ⟨ns, 0, 0, 43, ⟨hl, by decide, by decide, by decide, by decide, by decide⟩, rfl, rfl, k1, k2⟩ (fun b hb => ?_), o.step ⟨g.bb, fun b o e _ => g.hh b o e, fun b o e _ => rfl, fun b o e => ⟨o, g.hh b o e⟩, fun k b hb => ?_⟩⟩
    · rcases List.mem_cons.mp hb with e | e
      · rw [e]; exact ⟨⟨W.bh.free hp, _, k1⟩, fun k _ => nF p hp k⟩
      · rw [List.mem_singleton.mp e]; exact ⟨⟨W.bh.free hq, _, k2⟩, fun k _ => nF q hq k⟩
    · by_cases hk : k = i
      · rw [if_pos hk] at hb
        rcases List.mem_cons.mp hb with e | e
        · rw [e]; exact .inr hp
        · rw [List.mem_singleton.mp e]; exact .inr hq
      · rw [if_neg hk] at hb
        exact .inl ⟨k, hb⟩
end
def SpLawT (K : PySem.W.Frag) (Pt : Addr) : Sp := fun vs H Q _ => ∃ (a : Addr) (ns : List Int), vs = [.ref a] ∧ SqL K H a (ns.map V.int) ∧ ns.length ≤ 63 ∧ H Pt = some (.tbl #[]) ∧ ∀ H', Q (.bl true) H'
section
variable {P : Program} {w : World} {K : PySem.W.Frag} {mg : Str → Option Value} {base : Heap}
theorem seq_less {H : Hp} {a Pt : Addr} {xs : List V} (h : SqL K H a xs) (hP : H Pt = some (.tbl #[])) : SqL K (fun b => if b = Pt then none else H b) a xs := by
  have ne : ∀ o : HO, H a = some o → o ≠ .tbl #[] → a ≠ Pt := fun o e n z => by
    rw [z, hP] at e
    cases e
    exact n rfl
  rcases h with (h | ⟨o, h⟩) | h
  · exact .inl (.inl ((if_neg (ne _ h (fun z => by cases z))).trans h))
  · exact .inl (.inr ⟨o, (if_neg (ne _ h (fun z => by cases z))).trans h⟩)
  · exact .inr h
theorem fn_lawT {x : Str} {st : Stmt} {N ps : List Str} {k : Nat} {fa c Pt : Addr} {oc : Value} {od an : Option Addr} {osl : Array (Option Value)} {kV doc pm ct : Value} {q : Str} (lk : K.lookup fa = some ⟨oc, od, .func (PySem.W.fnOf x x (defArgs st) (defBody st) (defScope st) .none kV doc pm an (.ref c) ct), osl⟩)
    (hcd : PySem.W.codeIn K (.ref c) x = true) (S : FnScope N ps (defScope st)) (len : ps.length = 1) (hN : 1 ≤ N.length)
    (body : ∀ (X : Cx), (∃ (A : Around) (outer : List Env) (s : Shared) (H : Hp) (E : XK), Room k (A.deeper (envOfC x (defScope st) s.heap.objs.size fa (.ref c))) ∧ X = (cxOf CX0 P w K mg base N x (defScope st) fa (.ref c) A outer s H E).nox) → ∀ ns : List Int, ns.length ≤ 63 → XB X (startD N [.own (scrT K ns Pt q)]) (defBody st) { rt := fun d _ => d = .bool true }) :
    FnOk P w K mg base CX0 (k + 1) fa (PySem.W.fnOf x x (defArgs st) (defBody st) (defScope st) .none kV doc pm an (.ref c) ct) ps (SpLawT K Pt) := by
  refine fn_of lk hcd S (fun vs H Q E h => ?_) fun A outer s H vs Q E hr h => ?_
  · obtain ⟨a, ns, rfl, _⟩ := h
    exact len.symm
  · obtain ⟨a, ns, rfl, hS, hl, hP, qq⟩ := h
    refine ⟨_, PSs.nox (body _ ⟨A, outer, s, H, E, hr, rfl⟩ ns hl), ?_⟩
    have hS2 := seq_less hS hP
    have sB : Same (fun b => if b = Pt then none else H b) H := fun b o e => by
      have e : (if b = Pt then none else H b) = some o := e
      split at e
      · cases e
      · exact e
    have W : Wf K (fun b => if b = Pt then none else H b) H (L2.start N [.ref a]) (startD N [.own (scrT K ns Pt q)]) (fun i => if i = 0 then [Pt] else []) := by
      refine ⟨sB, ?_, fun i t e => ?_, fun i hi => ?_, fun i j b h1 h2 => ?_, fun i b h1 => ?_⟩
      · unfold L2.start startD
        simp only [List.length_append, List.length_map, List.length_replicate, List.length_cons, List.length_nil]
      · cases i with
        | zero =>
          have e : some (Slot.own (scrT K ns Pt q)) = some t := e
          cases e
          exact ⟨some (.ref a), rfl, ⟨a, rfl, hS2⟩, rfl, #[], hP, trivial, fun pos cv hc => by
            have z : codeAmong pos [] = some cv := hc
            simp [codeAmong] at z⟩
        | succ i =>
          have e : (List.replicate (N.length - 1) Slot.no)[i]? = some t := e
          rw [List.getElem?_replicate] at e
          split at e
          · rename_i hi
            cases e
            refine ⟨none, ?_, rfl⟩
            show (List.replicate (N.length - 1) none)[i]? = _
            rw [List.getElem?_replicate, if_pos hi]
          · cases e
      · unfold startD at hi
        rw [if_neg]
        intro z
        simp only [List.length_append, List.length_cons, List.length_nil] at hi
        omega
      · by_cases hi : i = 0
        · by_cases hj : j = 0
          · rw [hi, hj]
          · rw [if_neg hj] at h2; cases h2
        · rw [if_neg hi] at h1; cases h1
      · by_cases hi : i = 0
        · rw [if_pos hi, List.mem_singleton] at h1
          rw [h1]
          exact ⟨if_pos rfl, _, hP⟩
        · rw [if_neg hi] at h1; cases h1
    refine ts_iff.mpr ⟨_, _, W, fun _ _ _ _ _ _ _ h => h.elim, ?_, fun _ _ _ _ _ _ _ h => h.elim, fun _ _ _ _ _ _ _ h => h.elim, fun _ _ _ _ _ _ _ _ h => h.elim, trivial⟩
    intro v d σ2 δ2 B2 H2 F2 s2 W2 e r2
    have e : d = .bool true := e
    subst e
    cases r2
    exact qq H2
end
/-- a def that keeps a promise, its record in hand -/
structure DefK (P : Program) (w : World) (K : PySem.W.Frag) (mg : Str → Option Value) (base : Heap) (k : Nat) (x : Str) (st : Stmt) (ps : List Str) (sp : Sp) : Prop where
  ex : ∃ f fd, mg x = some (.ref f) ∧ PySem.W.keepIn K (.ref f) = true ∧ Fun K x x st f fd ∧ FnOk P w K mg base CX0 k f fd ps sp
section
variable {P : Program} {w : World} {K : PySem.W.Frag} {mg : Str → Option Value} {base : Heap}
theorem def_pureK {x : Str} {st : Stmt} {N ps : List Str} {k : Nat} {f : List PyData → PyData → Prop} (A : At K mg x st ps) (S : FnScope N ps (defScope st)) (len : ∀ ds d, f ds d → ds.length = ps.length)
    (body : ∀ (X : Cx), (∃ (fa : Addr) (cdv : Value) (A : Around) (outer : List Env) (s : Shared) (H : Hp) (E : XK), Room k (A.deeper (envOfC x (defScope st) s.heap.objs.size fa cdv)) ∧ X = (cxOf CX0 P w K mg base N x (defScope st) fa cdv A outer s H E).nox) → ∀ ds d, f ds d → XB X (startD N (ds.map .dat)) (defBody st) { rt := fun d' _ => d' = d, nx := fun _ => d = .none }) :
    DefK P w K mg base (k + 1) x st ps (SpP K f) := by
  obtain ⟨fa, fd, h1, h2, h3⟩ := A.ex
  refine ⟨fa, fd, h1, h2.kp, h2, h2.ok S (fun vs H Q E h => ?_) (fun cdv A outer s H vs Q E hr h => ?_)⟩
  · obtain ⟨B, ds, d, _, r, hf, _⟩ := h
    rw [r.length]
    exact len ds d hf
  · obtain ⟨B, ds, d, sm, r, hf, q⟩ := h
    refine ⟨_, body _ ⟨fa, cdv, A, outer, s, H, E, hr, rfl⟩ ds d hf, ?_⟩
    refine ts_iff.mpr ⟨B, _, envOk_dat sm r N, ?_, ?_, fun _ _ _ _ _ _ _ h => h.elim, fun _ _ _ _ _ _ _ h => h.elim, fun _ _ _ _ _ _ _ _ h => h.elim, trivial⟩
    · intro σ2 δ2 B2 H2 F2 s2 W2 e
      have e : d = .none := e
      subst e
      exact q .non B2 H2 ⟨s2.bb, W2.bh, fun b o hb => s2.keep b o hb (fun _ z => nomatch z), fun b o hb => s2.fr b o hb (fun _ z => nomatch z)⟩ .non
    · intro v d' σ2 δ2 B2 H2 F2 s2 W2 e r2
      have e : d' = d := e
      subst e
      exact q v B2 H2 ⟨s2.bb, W2.bh, fun b o hb => s2.keep b o hb (fun _ z => nomatch z), fun b o hb => s2.fr b o hb (fun _ z => nomatch z)⟩ r2
end
section
variable {X : Cx} {δ : List Slot} {a b c : Expr} {d1 d2 d3 : PyData} {pos : Pos} {rest : List Stmt} {R : Post}
/-- a, b, c = e1, e2, e3 -/
theorem xb_par3 {i j l : Nat} {x y z : Str} {px py pz pt : Pos} {kt k2 pt2} (ha : XE X δ a d1) (hb : XE X δ b d2) (hc' : XE X δ c d3) (k : XB X (((δ.set i (.dat d1)).set j (.dat d2)).set l (.dat d3)) rest R) (hN : X.N.Nodup) (hi : X.N[i]? = some x := by rfl) (hj : X.N[j]? = some y := by rfl) (hl : X.N[l]? = some z := by rfl) (hij : i ≠ j := by decide) (hil : i ≠ l := by decide) (hjl : j ≠ l := by decide)
    (hx : X.env.scope.names.lookup x = some .local := by rfl) (hy : X.env.scope.names.lookup y = some .local := by rfl) (hz : X.env.scope.names.lookup z = some .local := by rfl) (hc : X.calm = true := by rfl)
    (hw : swappedStores [.Tuple [.Name x px, .Name y py, .Name z pz] kt pt] (.Tuple [a, b, c] k2 pt2) X.env = pure (some [x, y, z]) := by rfl)
    (hs : swapsWithSole [.Tuple [.Name x px, .Name y py, .Name z pz] kt pt] (.Tuple [a, b, c] k2 pt2) pos.line X.env = pure false := by rfl) (h1 : starEach [a, b, c] X.env = (false, eval a X.env) :: starEach [b, c] X.env := by rfl) (h2 : starEach [b, c] X.env = (false, eval b X.env) :: starEach [c] X.env := by rfl) (h3 : starEach [c] X.env = (false, eval c X.env) :: starEach [] X.env := by rfl) :
    XB X δ (.Assign [.Tuple [.Name x px, .Name y py, .Name z pz] kt pt] (.Tuple [a, b, c] k2 pt2) pos :: rest) R := xb_cons (ps_par3 hc hN hi hj hl hij hil hjl hx hy hz (xa_cons ha (xa_cons hb (xa_cons hc' xa_nil h3) h2) h1) hw hs) k fun D σ H B F W o =>
  ⟨B, F, W, fun vs B2 H2 g r => by
    cases r with
    | @cons u us _ _ r1 r2 =>
      cases r2 with
      | @cons v us _ _ r2 r3 =>
        cases r3 with
        | @cons w us _ _ r3 r4 =>
          cases r4
          exact ⟨u, v, w, rfl, ts_iff.mpr ⟨B2, _, (((W.grow g).put (s := .dat d1) ⟨rfl, r1⟩).put (s := .dat d2) ⟨rfl, r2⟩).put (s := .dat d3) ⟨rfl, r3⟩, o.step ((((Step.of g).sub cut_sub).sub cut_sub).sub cut_sub)⟩⟩⟩
end
section
variable {X : Cx} {δ : List Slot} {a b : Expr} {pos : Pos} {rest : List Stmt} {R : Post}
/-- a, b = e1, e2: one of them raises -/
theorem xb_parR {i j : Nat} {x y : Str} {px py pt : Pos} {kt k2 pt2} (ha : XRA X δ [a, b] R.gh) (hN : X.N.Nodup) (hi : X.N[i]? = some x := by rfl) (hj : X.N[j]? = some y := by rfl) (hij : i ≠ j := by decide)
    (hx : X.env.scope.names.lookup x = some .local := by rfl) (hy : X.env.scope.names.lookup y = some .local := by rfl) (hc : X.calm = true := by rfl)
    (hw : swappedStores [.Tuple [.Name x px, .Name y py] kt pt] (.Tuple [a, b] k2 pt2) X.env = pure (some [x, y]) := by rfl)
    (hs : swapsWithSole [.Tuple [.Name x px, .Name y py] kt pt] (.Tuple [a, b] k2 pt2) pos.line X.env = pure false := by rfl) :
    XB X δ (.Assign [.Tuple [.Name x px, .Name y py] kt pt] (.Tuple [a, b] k2 pt2) pos :: rest) R := xb_cons (ps_par hc hN hi hj hij hx hy ha hw hs) pss_never fun D σ H B F W o => ⟨B, F, W, o.gh⟩
end
end Dl

set_option Elab.async false
set_option linter.all false
set_option maxRecDepth 100000
set_option maxHeartbeats 4000000
/-! The data level: or, with effects; one keyword. -/
namespace Dl
open PySem PySem.Spec PyProof.Rows L2
section
variable {X : Cx} {δ : List Slot} {a b e : Expr} {pos p kp : Pos} {d : PyData} {k : Bool} {P : PyData → List Slot → Prop} {x n1 : Str}
theorem xf_or (ha : XE X δ a (.bool k)) (h1 : k = true → P (.bool true) δ) (hb : k = false → XF X δ b P) : XF X δ (.BoolOp .Or [a, b] pos) P := by
  cases k with
  | true => exact (pe_or ha pe_bot).weak fun σ H Q ⟨B, F, W, q⟩ => ⟨B, F, W, fun x B1 H1 g1 r1 => by
      cases r1
      exact ⟨true, rfl, q _ _ δ B1 H1 F (Step.of g1) (W.grow g1) (h1 rfl) (.bl true)⟩⟩
  | false => exact (pe_or ha (pe_one (hb rfl))).weak fun σ H Q ⟨B, F, W, q⟩ => ⟨B, F, W, fun x B1 H1 g1 r1 => by
      cases r1
      exact ⟨false, rfl, B1, F, W.grow g1, fun v d δ2 B2 H2 F2 s2 W2 hp r2 => q v d δ2 B2 H2 F2 ((Step.of g1).trans s2) W2 hp r2⟩⟩
/-- a or b, both false: a may change the slots' objects -/
theorem xft_or (ha : XFT X δ a (fun k δ' => k = false ∧ δ' = δ)) (hb : XT X δ b false) : XFT X δ (.BoolOp .Or [a, b] pos) (fun k δ' => k = false ∧ δ' = δ) :=
  PW.pt ((pw_or ha (pw_or1 hb)).weak fun σ H Q ⟨B, F, W, q⟩ => ⟨B, F, W, fun c δ2 B2 H2 F2 s2 W2 ⟨h1, h2⟩ => by
    subst h1
    subst h2
    show tBo X.K δ2 false σ H2 Q
    exact ⟨B2, F2, W2, fun B3 H3 g3 => q false δ2 B3 H3 F2 (s2.trans (Step.of g3)) (W2.grow g3) ⟨rfl, rfl⟩⟩⟩)
def oneK {α : Type} (us ws : List α) : List α := match us, ws with
  | [], [a] => [a]
  | _, _ => []
theorem oneK_rel : ∀ {vs : List V} {us : List Value} {zs : List V} {ws : List Value}, Vals vs us → Vals zs ws → Vals (oneK vs zs) (oneK us ws)
  | _, _, _, _, .cons _ _, _ => .nil
  | _, _, _, _, .nil, .nil => .nil
  | _, _, _, _, .nil, .cons a .nil => .cons a .nil
  | _, _, _, _, .nil, .cons _ (.cons _ _) => .nil
theorem oneK_len {us ws : List Value} (h : (oneK us ws).length = 1) : ∃ a, us = [] ∧ ws = [a] := by
  match us, ws, h with
  | [], [a], _ => exact ⟨a, rfl, rfl⟩
  | [], [], h => cases h
  | [], _ :: _ :: _, h => cases h
  | _ :: _, _, h => cases h
/-- f(n1 = e) -/
theorem xe_callK1 {k : Nat} {f : List PyData → PyData → Prop} {d1 : PyData} (hr : Room k X.A)
    (hkb : ∃ g fd, X.mg x = some (.ref g) ∧ PySem.W.keepIn X.K (.ref g) = true ∧ FnOk X.prog X.w X.K X.mg X.base CX0 k g fd [n1] (SpP X.K f) ∧ KBinds X.K fd [n1] [n1] oneK oneK)
    (h1 : XE X δ e d1) (hf : f [d1] d) (hg : Gl X x := by rfl) (hdb : (x == ("__debug__" : Str)) = false := by decide)
    (hall : (backToKw pos (keywordEach [⟨some n1, e, kp⟩] X.env)).all (·.1.isSome) = true := by rfl) (hks : (backToKw pos (keywordEach [⟨some n1, e, kp⟩] X.env)).filterMap (·.1) = [n1] := by rfl)
    (hpl : ((backTo pos (starEach [] X.env)).any (·.1) || (backToKw pos (keywordEach [⟨some n1, e, kp⟩] X.env)).any (·.1.isNone)) = false := by rfl) : XE X δ (.Call (.Name x p) [] [⟨some n1, e, kp⟩] pos) d := by
  obtain ⟨g, fd, m1, m2, m3, m4⟩ := hkb
  refine ⟨fun pins s σ H Q I ⟨B, F, W, q⟩ => ?_⟩
  refine wpAny_Call_Name_kw (ld_glob I hg m1 ?_ hdb)
  refine PySem.W.callWith_KW0 (h₀ := X.base) I.ok.mod.kin m2 hall (thn ((pk_cons h1 pk_nil).run pos pins s σ H (fun zs H3 => ∃ v1 B3, zs = [v1] ∧ Grow B H B3 H3 ∧ Rp X.K B3 v1 d1) I ⟨B, F, W, fun v1 B1 H1 g1 r1 => ⟨v1, B1, rfl, g1, r1⟩⟩) fun ws s2 ⟨zs, H3, I3, rz, v1, B3, ez, g3, r1⟩ => ⟨I3.kIn, ?_⟩) hpl
  rw [hks]
  subst ez
  refine run_fnk (us := []) (vs := []) m3 hr m4 pass0 I3 .nil rz ⟨B3, [d1], d, g3.bh, .cons r1 .nil, hf, fun v B4 H4 g4 r4 => q v B4 H4 (g3.trans g4) r4⟩
theorem kbinds1 {K : PySem.W.Frag} {qual : Str} {st : Stmt} {f : Addr} {fd : FuncData} (F : Fun K x qual st f fd)
    (h : ∀ (kV doc pm : Value) (an : Option Addr) (cdv ct : Value) (a : Value), bindArgs (PySem.W.fnOf x qual (defArgs st) (defBody st) (defScope st) .none kV doc pm an cdv ct) ⟨[], [n1].zip [a]⟩ = pure ([n1].zip [a])) : KBinds K fd [n1] [n1] oneK oneK := by
  obtain ⟨oc, od, kV, doc, pm, an, cdv, ct, osl, rfl, lk, hcd⟩ := F.ex
  refine ⟨fun s us ws _ hl => ?_, oneK_rel⟩
  obtain ⟨a, rfl, rfl⟩ := oneK_len hl
  exact .of_eq (h kV doc pm an cdv ct a)
end
section
variable {X : Cx} {δ : List Slot} {a c : Expr} {pos p0 : Pos} {sts rest : List Stmt} {R : Post}
theorem xft_notT (he : XF X δ a (fun d' δ' => d' = .bool true ∧ δ' = δ)) (hT : ∀ whole, isTrue a X.env whole = (do let v ← whole; standAt a.pos; holding [v] (truthy v)) := by intro _; rfl) : XFT X δ (.UnaryOp .Not a p0) (fun b δ' => b = false ∧ δ' = δ) :=
  xft_imp (xft_not (xft_tru (PB := fun b δ' => b = true ∧ δ' = δ) he (fun d δ1 ⟨h1, h2⟩ => by subst h1; exact ⟨True.intro, rfl, h2⟩) hT)) fun b δ' ⟨h1, h2⟩ => ⟨(by cases b with | false => rfl | true => cases h1), h2⟩
theorem xb_ifOff (hc : XFT X δ c (fun b δ' => b = false ∧ δ' = δ)) (h : XB X δ rest R) : XB X δ (.If c sts [] pos :: rest) R :=
  xb_ifF (PB := fun b δ' => b = false ∧ δ' = δ) (fun δ' => δ' = δ) hc (fun δ1 h1 => by cases h1.1) (fun δ1 ⟨_, h1⟩ => xb_nil h1) (fun δ' h' => by subst h'; exact h)
end
end Dl

set_option Elab.async false
set_option linter.all false
set_option maxRecDepth 100000
set_option maxHeartbeats 4000000
/-! The data level: a dict of numbers that is filled. -/
namespace Dl
open PySem PySem.Spec PyProof.Rows L2
section
variable {X : Cx} {pins : List (Addr × Obj)} {σ : L2.St} {H : Hp} {s : Shared} {a b : Addr} {kvs more : List (Key × V)} {A : Around} {E : Value → Shared → Prop}
theorem d_update {Q : Value → Shared → Prop} (I : Inv X pins σ H s) (e : H a = some (.dK kvs)) (e2 : H b = some (.dK more)) (hab : a ≠ b) (hl : kvs.length + more.length ≤ sizeLine) (h : ∀ s', Inv X pins σ (upd H a (.dK (mergeK kvs more))) s' → Q .none s') :
    wpAny (model X.prog X.w) A (call (.builtin "dict.update") [.ref a, .ref b]) Q E s := by
  obtain ⟨z, hd, vs, rel, dd⟩ := dk_of I.hok e
  obtain ⟨z2, hd2, vs2, rel2, dd2⟩ := dk_of I.hok e2
  refine call_meetsIn PySem.F.slot_dict_update dd.typeIs PySem.F.entry_dict_update (PySem.F.args_dict_update_2 _ _) (meets_dict_update (mixKind X.prog X.w) a b hab hd2)
    ⟨vs, vs2, dd, dd2, by rw [← rel.length, ← rel2.length]; exact hl, fun h' dd' _ hs => h _ ?_⟩
  have he : ∃ q, h'.get? a = some q := let ⟨q, _, _, hq, _⟩ := dd'; ⟨q, hq⟩
  exact d_write (t' := s.toks) I (by rw [e]; exact True.intro) hs he (dk_new (Nat.le_trans (length_mergeK more kvs) hl) hd (KV.merge rel2 rel) dd')
end
section
variable {X : Cx}
def rUpdate : V → List V → Hp → VK → Prop := fun x vs H Q => ∃ a b kvs more, x = .ref a ∧ vs = [.ref b] ∧ H a = some (.dK kvs) ∧ H b = some (.dK more) ∧ a ≠ b ∧ kvs.length + more.length ≤ sizeLine ∧ Q .non (upd H a (.dK (mergeK kvs more)))
theorem mt_update : MtM X "dict.update" rUpdate := by
  intro pins s σ H x vs v us Q I rx rv h
  obtain ⟨a, b, kvs, more, rfl, rfl, e, e2, hab, hl, q⟩ := h
  cases rx
  obtain ⟨u, rfl, ru⟩ := rv.one
  cases ru
  exact d_update I e e2 hab hl fun s' I' => ⟨.non, _, I', rfl, q⟩
end
/-- a dict of whole numbers: f tells which stand in it, m how many at most -/
def mapR (f : Int → Bool) (m : Nat) : Res where
  ok := fun _ H v fp => ∃ p kvs, v = .ref p ∧ fp = [p] ∧ H p = some (.dK kvs) ∧ (∀ i : Int, (valV kvs (Sum.inl i)).isSome = f i) ∧ kvs.length ≤ m
  loc := fun {B B' H H' v fp} ⟨p, kvs, h1, h2, h3, h4⟩ _ hh => ⟨p, kvs, h1, h2, by rw [hh p (by rw [h2]; exact List.mem_singleton.mpr rfl)]; exact h3, h4⟩
theorem find_mem (l : List (Key × V)) (j : Key) : (l.find? fun kv => decide (kv.1 = j)).isSome = true ↔ j ∈ l.map (·.1) := by
  rw [List.find?_isSome, List.mem_map]
  simp only [decide_eq_true_eq]
theorem valV_put (kvs : List (Key × V)) (k : Key) (v : V) (j : Key) : (valV (putK kvs k v) j).isSome = ((valV kvs j).isSome || decide (j = k)) := by
  unfold valV
  rw [Option.isSome_map, Option.isSome_map]
  rw [Bool.eq_iff_iff, Bool.or_eq_true, find_mem, find_mem, decide_eq_true_iff]
  by_cases h : k ∈ kvs.map (·.1)
  · rw [putK_old kvs k v h]
    exact ⟨.inl, fun z => z.elim id fun e => by rw [e]; exact h⟩
  · rw [putK_fresh kvs k v h, List.mem_append, List.mem_singleton]
theorem valV_merge (z : V) : ∀ (ns : List Int) (kvs : List (Key × V)) (i : Int), (valV (mergeK kvs (ns.map fun n => (Sum.inl n, z))) (Sum.inl i)).isSome = ((valV kvs (Sum.inl i)).isSome || ns.contains i)
  | [], kvs, i => by simp [mergeK]
  | n :: ns, kvs, i => by
    have e : mergeK kvs ((n :: ns).map fun n => ((Sum.inl n : Key), z)) = mergeK (putK kvs (Sum.inl n) z) (ns.map fun n => (Sum.inl n, z)) := rfl
    rw [e, valV_merge z ns, valV_put, List.contains_cons, Bool.or_assoc]
    congr 2
    rw [Bool.eq_iff_iff, decide_eq_true_iff, beq_iff_eq]
    exact ⟨fun h => by injection h, fun h => by rw [h]⟩
/-- the entries of a fresh dict, merged in -/
theorem valV_any : ∀ (more kvs : List (Key × V)) (i : Int), (valV (mergeK kvs more) (Sum.inl i)).isSome = ((valV kvs (Sum.inl i)).isSome || (valV more (Sum.inl i)).isSome)
  | [], kvs, i => by simp [mergeK, valV]
  | (k, v) :: more, kvs, i => by
    have e : mergeK kvs ((k, v) :: more) = mergeK (putK kvs k v) more := rfl
    rw [e, valV_any more, valV_put, Bool.or_assoc]
    congr 1
    unfold valV
    rw [Option.isSome_map, Option.isSome_map, List.find?_cons]
    by_cases h : k = Sum.inl i
    · rw [decide_eq_true h, decide_eq_true h.symm]
      rfl
    · rw [decide_eq_false h, decide_eq_false (fun z => h z.symm), Bool.false_or]
section
variable {K : PySem.W.Frag} {B H : Hp} {σ : L2.St} {δ : List Slot} {F : Nat → List Addr} {f : Int → Bool} {m : Nat}
theorem Wf.map (W : Wf K B H σ δ F) {i : Nat} (h : δ[i]? = some (.own (mapR f m))) : ∃ p kvs, σ[i]? = some (some (.ref p)) ∧ F i = [p] ∧ H p = some (.dK kvs) ∧ (∀ i : Int, (valV kvs (Sum.inl i)).isSome = f i) ∧ kvs.length ≤ m ∧ B p = none := by
  obtain ⟨o, h1, h2⟩ := W.sl i _ h
  cases o with
  | none => exact h2.elim
  | some v =>
    obtain ⟨p, kvs, rfl, h3, h4, h5, h6⟩ := h2
    exact ⟨p, kvs, h1, h3, h4, h5, h6, (W.own i p (by rw [h3]; exact List.mem_singleton.mpr rfl)).1⟩
theorem Wf.mapUpd (W : Wf K B H σ δ F) {i : Nat} {p : Addr} {kvs : List (Key × V)} {f2 : Int → Bool} {m2 : Nat} (h : δ[i]? = some (.own (mapR f m))) (hs : σ[i]? = some (some (.ref p))) (hF : F i = [p]) (r1 : ∀ i : Int, (valV kvs (Sum.inl i)).isSome = f2 i) (r2 : kvs.length ≤ m2) :
    Wf K B (upd H p (.dK kvs)) σ (δ.set i (.own (mapR f2 m2))) F ∧ Step B H F B (upd H p (.dK kvs)) F := by
  have hl : i < δ.length := (List.getElem?_eq_some_iff.mp h).1
  have hb : B p = none := (W.own i p (by rw [hF]; exact List.mem_singleton.mpr rfl)).1
  have hne : ∀ j, j ≠ i → p ∉ F j := fun j hj hm => hj (W.dis j i p hm (by rw [hF]; exact List.mem_singleton.mpr rfl))
  refine ⟨⟨fun b o e => ?_, by rw [List.length_set]; exact W.len, fun j s e => ?_, fun j hj => W.out j (by rw [List.length_set] at hj; exact hj), W.dis, fun j a ha => ?_⟩, ⟨Same.refl B, fun b o e hn => ?_, fun _ _ _ _ => rfl, fun b o e => ?_, fun j b hb => .inl ⟨j, hb⟩⟩⟩
  · have : b ≠ p := fun z => by rw [z, hb] at e; cases e
    rw [upd_ne this]
    exact W.bh b o e
  · by_cases hj : j = i
    · subst hj
      rw [List.getElem?_set_self hl] at e
      cases e
      exact ⟨_, hs, p, kvs, rfl, hF, upd_same, r1, r2⟩
    · rw [List.getElem?_set_ne (Ne.symm hj)] at e
      obtain ⟨o, h1, h2⟩ := W.sl j s e
      exact ⟨o, h1, h2.loc (Same.refl B) fun a ha => upd_ne fun z => hne j hj (z ▸ ha)⟩
  · obtain ⟨h1, o, h2⟩ := W.own j a ha
    refine ⟨h1, ?_⟩
    by_cases z : a = p
    · rw [z, upd_same]; exact ⟨_, rfl⟩
    · rw [upd_ne z]; exact ⟨o, h2⟩
  · have : b ≠ p := fun z => hn i (by rw [hF, z]; exact List.mem_singleton.mpr rfl)
    rw [upd_ne this]
    exact e
  · by_cases z : b = p
    · rw [z, upd_same]; exact ⟨_, rfl⟩
    · rw [upd_ne z]; exact ⟨o, e⟩
end
section
variable {X : Cx} {δ : List Slot} {a e : Expr} {p p1 p2 p3 p4 pos : Pos} {f : Int → Bool} {m : Nat} {rest : List Stmt} {R : Post} {k : Int}
/-- x = {} -/
theorem xb_dictNew (i : Nat) {x : Str} (kk : XB X (δ.set i (.own (mapR (fun _ => false) 0))) rest R) (hN : X.N.Nodup) (hl : i < δ.length := by exact Nat.le_of_ble_eq_true rfl) (hi : X.N[i]? = some x := by rfl) (hx : Loc X.env.scope x := by first | exact Or.inl rfl | exact Or.inr rfl) (hs : swapsWith (.Dict [] [] p1) (some (.Name x p)) pos.line X.env = pure false := by rfl)
    (hf : X.fn x = true ∨ X.env.scope.names.lookup x = some .local := by first | exact .inl rfl | exact .inr rfl) : XB X δ (.Assign [.Name x p] (.Dict [] [] p1) pos :: rest) R :=
  xb_cons (ps_set hN hi hx pe_dnewK hs hf) kk fun D σ H B F W o => fun q hq => by
    have g : Grow B H B (upd H q (.dK [])) := Grow.newH W.bh hq
    have np : ∀ j, q ∉ F j := fun j hj => by
      obtain ⟨_, u, hu⟩ := W.own j q hj
      rw [hq] at hu
      cases hu
    refine ts_iff.mpr ⟨B, _, (W.grow g).putO (r := mapR (fun _ => false) 0) (fp := [q]) hl ⟨q, [], rfl, rfl, upd_same, fun _ => rfl, Nat.le_refl _⟩ (fun b hb => ?_), o.step ⟨g.bb, fun b o e _ => g.hh b o e, fun b o e _ => g.fr b o e, fun b o e => ⟨o, g.hh b o e⟩, fun j b hb => ?_⟩⟩
    · rw [List.mem_singleton.mp hb]
      exact ⟨⟨W.bh.free hq, _, upd_same⟩, fun j _ => np j⟩
    · by_cases hj : j = i
      · rw [if_pos hj] at hb
        rw [List.mem_singleton.mp hb]
        exact .inr hq
      · rw [if_neg hj] at hb
        exact .inl ⟨j, hb⟩
/-- k in x -/
theorem xe_inMap (i : Nat) {x : Str} (hu : X.A.units + 65 < cLine) (h : δ[i]? = some (.own (mapR f m))) (ha : XE X δ a (.int k)) (hi : X.N[i]? = some x := by rfl) (hv : Vis X.env.scope x := by first | exact Or.inl rfl | exact Or.inr (Or.inl rfl) | exact Or.inr (Or.inr rfl)) (hd : (x == ("__debug__" : Str)) = false := by decide) (hcd : (x == ("__classdict__" : Str)) = false := by decide)
    (hm : behindInMarks .In (.Name x p) = false := by rfl) : XE X δ (.Compare a [.In] [.Name x p] pos) (.bool (f k)) :=
  (pe_cmp (pc_din (by omega) ha (pe_var (i := i) hi hv hd hcd)) hm).weak fun σ H Q ⟨B, F, W, q⟩ => ⟨B, F, W, fun y B1 H1 g1 r1 => by
    cases r1
    obtain ⟨p, kvs, h1, h2, h3, h4, h5, _⟩ := (W.grow g1).map h
    refine ⟨.ref p, h1, p, valV kvs (Sum.inl k), rfl, DGet.k (k := Sum.inl k) h3, ?_⟩
    rw [h4]
    exact q _ B1 H1 g1 (.bl _)⟩
/-- x.update(dict(pairs)) -/
theorem xb_updMap (i : Nat) {x : Str} {ns : List Int} {z : Int} (h : δ[i]? = some (.own (mapR f m))) (he : XE X δ e (.list (ns.map fun n => .tuple [.int n, .int z]))) (hz : m + ns.length ≤ 1000000) (hm2 : X.mg "dict" = none)
    (kk : XB X (δ.set i (.own (mapR (fun j => f j || ns.contains j) (m + ns.length)))) rest R) (hi : X.N[i]? = some x := by rfl)
    (hv : Vis X.env.scope x := by first | exact Or.inl rfl | exact Or.inr (Or.inl rfl) | exact Or.inr (Or.inr rfl)) (hd : (x == ("__debug__" : Str)) = false := by decide) (hcd : (x == ("__classdict__" : Str)) = false := by decide) (hc : X.calm = true := by rfl) (hg2 : Gl X "dict" := by rfl)
    (hs1 : starEach [e] X.env = (false, eval e X.env) :: starEach [] X.env := by rfl) (hpl1 : (backTo p4 (starEach [] X.env)).any (·.1) = false := by rfl)
    (hbase : attributeBase (.Name x p1) "update" X.env (eval (.Name x p1) X.env) = eval (.Name x p1) X.env := by rfl)
    (hfew : ((backTo p (starEach [.Call (.Name "dict" p3) [e] [] p4] X.env)).all (fun x => !x.1) && (backToKw p (keywordEach [] X.env)).all (fun x => x.1.isSome) && decide ([Expr.Call (.Name "dict" p3) [e] [] p4].length + ([] : List Keyword).length + (if ([] : List Keyword).isEmpty then 0 else 1) < 30)) = true := by rfl)
    (hline : (p2.endLine == p.line) = true := by rfl) (hs : starEach [.Call (.Name "dict" p3) [e] [] p4] X.env = (false, eval (.Call (.Name "dict" p3) [e] [] p4) X.env) :: starEach [] X.env := by rfl) (hplain : (backTo p (starEach [] X.env)).any (·.1) = false := by rfl)
    (hsw : swapsWith (.Call (.Attribute (.Name x p1) "update" p2) [.Call (.Name "dict" p3) [e] [] p4] [] p) none pos.line X.env = pure false := by rfl) :
    XB X δ (.Expr (.Call (.Attribute (.Name x p1) "update" p2) [.Call (.Name "dict" p3) [e] [] p4] [] p) pos :: rest) R :=
  xb_cons (ps_expr (pe_bm PySem.F.plainAttrs_dict PySem.F.slot_dict_update PySem.F.type_dict_update mt_update (pe_var (i := i) hi hv hd hcd) (pa_cons (pe_callTy (call_dictP hc) hg2 hm2 boot_dict (pa_cons he pa_nil hs1) (by decide) (by decide) hs1 hpl1) pa_nil hs) hbase hfew hline hs hplain) hsw) kk fun D σ H B F W o => by
    obtain ⟨p, kvs, h1, h2, h3, h4, h5, h6⟩ := W.map h
    refine ⟨.ref p, h1, .inr (.inr (.inl ⟨rfl, .inl ⟨kvs, h3⟩⟩)), B, F, W, fun v B1 H1 g1 r1 => ?_⟩
    cases r1 with
    | @lst l xs _ e1 r1 =>
      obtain ⟨ps, rfl, hp⟩ := pairs_rp r1
      refine ⟨l, ps, ns.map fun n => (Sum.inl n, V.int z), rfl, SqL.of (g1.bh _ _ e1), paired_mono (fun _ _ h => same_t g1.bh h) hp, fun d hdn => ?_⟩
      have hp1 : H1 p = some (.dK kvs) := g1.hh _ _ h3
      have npd : p ≠ d := fun z => by rw [← z, hp1] at hdn; cases hdn
      have hlen : (mergeK [] (ns.map fun n => ((Sum.inl n : Key), V.int z))).length ≤ ns.length := by
        have := length_mergeK (ns.map fun n => ((Sum.inl n : Key), V.int z)) []
        rw [List.length_nil, Nat.zero_add, List.length_map] at this
        exact this
      refine ⟨p, d, kvs, _, rfl, rfl, by rw [upd_ne npd]; exact hp1, upd_same, npd, Nat.le_trans (Nat.add_le_add h5 hlen) (sz_of hz), ?_⟩
      have g2 : Grow B1 H1 B1 (upd H1 d (.dK (mergeK [] (ns.map fun n => ((Sum.inl n : Key), V.int z))))) := Grow.newH g1.bh hdn
      have W2 := (W.grow g1).grow g2
      obtain ⟨W3, s3⟩ := W2.mapUpd (kvs := mergeK kvs (mergeK [] (ns.map fun n => ((Sum.inl n : Key), V.int z)))) (f2 := fun j => f j || ns.contains j) (m2 := m + ns.length) h h1 h2 (fun j => by
        rw [valV_any, h4, valV_merge]
        simp [valV]) (Nat.le_trans (length_mergeK _ _) (Nat.add_le_add h5 hlen))
      exact ts_iff.mpr ⟨B1, F, W3, o.step ((Step.of (g1.trans g2)).trans s3)⟩
end
end Dl

set_option Elab.async false
set_option linter.all false
set_option maxRecDepth 100000
set_option maxHeartbeats 4000000
/-! The data level: walks over what was drawn; in a tuple. -/
namespace Dl
open PySem PySem.Spec PyProof.Rows L2
/-- what is walked, after its own effects -/
def tIE (K : PySem.W.Frag) (δ : List Slot) (P : List PyData → List Slot → Prop) : TI := fun σ H R => ∃ B F, Wf K B H σ δ F ∧ ∀ J ds δ2 B2 H2 F2, Step B H F B2 H2 F2 → Wf K B2 H2 σ δ2 F2 → P ds δ2 → Wk K J B2 ds → R J H2
abbrev XIF (X : Cx) (tg : Expr) (δ : List Slot) (iter : Expr) (P : List PyData → List Slot → Prop) : Prop := PI X tg iter (tIE X.K δ P)
section
variable {X : Cx} {δ δ2 : List Slot} {a b c e tg iter elt : Expr} {pos p0 p1 p : Pos} {ds ys : List PyData} {es : List Expr} {d d1 d2 : PyData} {rest body : List Stmt} {R : Post} {st : Stmt} {P : PyData → List Slot → Prop} {P0 : List PyData → List Slot → Prop}
theorem xif_list (h : XF X δ iter (fun d δ' => ∃ ds, d = .list ds ∧ P0 ds δ')) : XIF X tg δ iter P0 := (pi_list h).weak fun σ H R ⟨B, F, W, q⟩ => ⟨B, F, W, fun v d δ2 B2 H2 F2 s2 W2 ⟨ds, e, hp⟩ r => by
  subst e
  cases r with
  | @lst a xs _ h1 r1 => exact ⟨a, rfl, ⟨xs, SqL.of (W2.bh _ _ h1)⟩, q _ ds δ2 B2 H2 F2 s2 W2 hp (wk_list h1 r1)⟩⟩
theorem xif_rng1 (hm : X.mg "range" = none) (h : XF X δ a (fun d δ' => ∃ j : Int, d = .int j ∧ (-(2 ^ 62) ≤ j ∧ j < 2 ^ 62) ∧ P0 (rangeD 0 j.toNat) δ')) (hg : Gl X "range" := by rfl) (hs : starEach [a] X.env = [(false, eval a X.env)] := by rfl) : XIF X tg δ (.Call (.Name "range" p) [a] [] pos) P0 :=
  (pi_range1 hg hm (pa_cons h pa_nil hs) hs).weak fun σ H R ⟨B, F, W, q⟩ => ⟨B, F, W, fun v d δ2 B2 H2 F2 s2 W2 ⟨j, e, hj, hp⟩ r => by
    subst e
    cases r
    exact ⟨j, rfl, hj.1, hj.2, q _ _ δ2 B2 H2 F2 s2 W2 hp wk_rng⟩⟩
theorem lcF_turnE {K : PySem.W.Frag} {j bd : Nat} {wi : TI} {P0 : List PyData → List Slot → Prop} (J : Nat → List Slot → Prop) (Pd : Nat → PyData → Prop) (hz0 : bd ≤ 1000000) (h00 : ∀ ds0 δ1, P0 ds0 δ1 → ds0.length ≤ bd ∧ J 0 (δ1.set j .no)) (hlen : ∀ i δ', J i δ' → δ'[j]? = some .no) (hwi : ∀ σ H R, tIE K δ P0 σ H R → wi σ H R)
    {tG' : TG} {tE' : TE} (hG : ∀ v σ H Q, (∃ z : PyData × List Slot, tG K [j] z.1 z.2 (z.2.set j (.dat z.1)) v σ H Q) → tG' v σ H Q)
    (hE : ∀ σ H Q, (∃ z : {z : Nat × PyData × List Slot // J z.1 z.2.2 ∧ z.1 < bd}, tE K (z.1.2.2.set j (.dat z.1.2.1)) (fun d δ2 => Pd z.1.1 d ∧ J (z.1.1 + 1) (δ2.set j .no)) σ H Q) → tE' σ H Q) :
    ∀ σ H Q, tE K δ (fun d δ2 => ∃ ds, d = .list ds ∧ ds.length ≤ bd ∧ (∀ i d, ds[i]? = some d → Pd i d) ∧ J ds.length δ2) σ H Q → tLc wi tG' tYes tE' [j] σ H Q := fun σ H Q ⟨B, F, W, q⟩ => by
  refine hwi σ H _ ⟨B, F, W, fun It l δ1 B1 H1 F1 s1 W1 hp0 wk D hD => ?_⟩
  obtain ⟨hlb, h0⟩ := h00 _ _ hp0
  have hz : l.length ≤ 1000000 := Nat.le_trans hlb hz0
  have jw : ∀ σ' : L2.St, wipe σ' [j] = σ'.set j none := fun _ => rfl
  refine ⟨fun i m H' => m = l.length - i ∧ i ≤ l.length ∧ ∃ Bi xs ds δi Fi, Step B1 H1 F1 Bi H' Fi ∧ Same B1 Bi ∧ Wf K Bi H' (wipe σ [j]) δi Fi ∧ J i δi ∧ H' D = some (.lst xs) ∧ Bi D = none ∧ (∀ k, D ∉ Fi k) ∧ RpA K Bi xs ds ∧ ds.length = i ∧ ∀ k d, ds[k]? = some d → Pd k d,
    ⟨l.length, by simp, Nat.zero_le _, B1, [], [], δ1.set j .no, _, (Step.of (F := F1) (Grow.newH W1.bh hD)).sub (F2 := fun k => if k = j then [] else F1 k) cut_sub, Same.refl _, (W1.grow (Grow.newH W1.bh hD)).no j none, h0, upd_same, W1.bh.free hD, fun k hk => ?_, .nil, rfl, fun k d h => by simp at h⟩, ?_⟩
  · have hk : D ∈ (if k = j then [] else F1 k) := hk
    by_cases e : k = j
    · rw [if_pos e] at hk
      cases hk
    · rw [if_neg e] at hk
      obtain ⟨_, o, ho⟩ := W1.own k D hk
      rw [hD] at ho
      cases ho
  rintro i m H' ⟨rfl, hle, Bi, xs, ds, δi, Fi, si, sm, Wi, hJ, hx, hb, hD2, r, hdl, hpd⟩
  by_cases hlt : i < l.length
  · refine .inr ⟨wk.go i H' (sm.trans Wi.bh) hlt, fun H2 => ∃ Bi xs ds δi Fi, Step B1 H1 F1 Bi H2 Fi ∧ Same B1 Bi ∧ Wf K Bi H2 (wipe σ [j]) δi Fi ∧ J (i + 1) δi ∧ H2 D = some (.lst xs) ∧ Bi D = none ∧ (∀ k, D ∉ Fi k) ∧ RpA K Bi xs ds ∧ ds.length = i + 1 ∧ ∀ k d, ds[k]? = some d → Pd k d, fun H2 h2 => ⟨l.length - (i + 1), by omega, rfl, hlt, h2⟩, fun x H2 hy => ?_⟩
    have hget : l[i]? = some l[i] := List.getElem?_eq_getElem hlt
    have hmem : l[i] ∈ l := List.getElem_mem hlt
    generalize hd : l[i] = y at hget hmem
    obtain ⟨B2, g2, r2⟩ := wk.yld i Bi H' x H2 sm Wi.bh hy y hget
    have W2 := Wi.grow g2
    have h2D : H2 D = some (.lst xs) := g2.hh _ _ hx
    have b2D : B2 D = none := (g2.fr D _ hx).trans hb
    refine hG x _ H2 _ ⟨(y, δi), B2, Fi, W2, r2, fun σ3 F3 W3 sb hl hk => ⟨wipe_same hl hk (fun k hk => hk), ?_⟩⟩
    show tE' σ3 H2 _
    refine hE σ3 H2 _ ⟨⟨(i, y, δi), hJ, Nat.lt_of_lt_of_le hlt hlb⟩, B2, F3, W3, fun v d δ4 B4 H4 F4 s4 W4 ⟨hpv, hJ4⟩ r4 => ?_⟩
    have nD3 : ∀ k, D ∉ F3 k := fun k hk => by
      obtain ⟨m, hm⟩ := sb k D hk
      exact hD2 m hm
    have h4D : H4 D = some (.lst xs) := s4.keep D _ h2D nD3
    have b4D : B4 D = none := (s4.fr D _ h2D nD3).trans b2D
    have nD4 : ∀ k, D ∉ F4 k := fun k hk => by
      rcases s4.fn k D hk with ⟨m, hm⟩ | h
      · exact nD3 m hm
      · rw [h2D] at h
        cases h
    have s5 : Step B1 H1 F1 B4 H4 F4 := (si.trans ((Step.of (F := Fi) g2).sub sb)).trans s4
    have W5 := W4.no j none
    have es : σ3.set j none = wipe σ [j] := by
      rw [← jw σ3]
      exact wipe_same hl hk (fun k hk => hk)
    rw [es] at W5
    refine ⟨xs, h4D, ?_, B4, xs ++ [v], ds ++ [d], δ4.set j .no, (fun k => if k = j then [] else F4 k), ?_, (sm.trans g2.bb).trans s4.bb, ?_, hJ4, upd_same, b4D, fun k hk => ?_, (((r.mono g2.bb).mono s4.bb)).append (.cons r4 .nil), by rw [List.length_append, hdl]; rfl, fun k d' hk => ?_⟩
    · have h1 := r.length
      have : xs.length < 1000000 := by omega
      exact Nat.lt_of_lt_of_le this (sz_of (Nat.le_refl _))
    · have s6 := s5.sub (F2 := fun k => if k = j then [] else F4 k) cut_sub
      have nH : H1 D = none := hD
      refine ⟨s6.bb, fun b o hb' hn => ?_, s6.fr, fun b o hb' => ?_, s6.fn⟩
      · rw [upd_ne (ne_of_none hb' nH)]
        exact s6.keep b o hb' hn
      · rw [upd_ne (ne_of_none hb' nH)]
        exact s6.there b o hb'
    · refine ⟨fun b o e => ?_, W5.len, fun k s e => ?_, W5.out, W5.dis, fun k a ha => ?_⟩
      · have : b ≠ D := fun z => by rw [z, b4D] at e; cases e
        rw [upd_ne this]
        exact W5.bh b o e
      · obtain ⟨o, a1, a2⟩ := W5.sl k s e
        refine ⟨o, a1, a2.loc (Same.refl _) fun a ha => ?_⟩
        rw [upd_ne]
        intro z
        obtain ⟨m, hm⟩ := cut_sub (F := F4) (i := j) k a ha
        rw [z] at hm
        exact nD4 m hm
      · obtain ⟨a1, o, a2⟩ := W5.own k a ha
        refine ⟨a1, o, ?_⟩
        rw [upd_ne]
        · exact a2
        intro z
        obtain ⟨m, hm⟩ := cut_sub (F := F4) (i := j) k a ha
        rw [z] at hm
        exact nD4 m hm
    · obtain ⟨m, hm⟩ := cut_sub (F := F4) (i := j) k D hk
      exact nD4 m hm
    · by_cases hki : k < ds.length
      · rw [List.getElem?_append_left hki] at hk
        exact hpd k d' hk
      · rw [List.getElem?_append_right (by omega)] at hk
        have : k - ds.length = 0 := by
          have := (List.getElem?_eq_some_iff.mp hk).1
          simp at this
          omega
        rw [this] at hk
        have : d = d' := by simpa using hk
        subst this
        have : k = i := by omega
        rw [this]
        exact hpv
  · have e : i = l.length := by omega
    subst e
    refine .inl ⟨wk.stop H' (sm.trans Wi.bh), ?_⟩
    have hno := hlen _ _ hJ
    have ll : δi.length = σ.length := by rw [Wi.len, wipe_length]
    have W6 : Wf K Bi H' σ δi Fi := by
      refine Wi.wk ll rfl (fun k s hk => ?_) Wi.out
      by_cases ek : k = j
      · subst ek
        rw [hno] at hk
        cases hk
        left
        obtain ⟨o, _, a2⟩ := Wi.sl k _ hno
        refine ⟨?_, rfl⟩
        cases o <;> exact a2
      · right
        refine ⟨rfl, hk, ?_⟩
        rw [jw, List.getElem?_set_ne (Ne.symm ek)]
    have g7 : Grow Bi H' (upd Bi D (.lst xs)) H' → False ∨ True := fun _ => .inr trivial
    have sbb : Same Bi (upd Bi D (.lst xs)) := same_upd hb
    have W7 : Wf K (upd Bi D (.lst xs)) H' σ δi Fi := by
      refine ⟨fun b o e => ?_, W6.len, fun k s e => ?_, W6.out, W6.dis, fun k a ha => ?_⟩
      · by_cases z : b = D
        · rw [z, upd_same] at e
          cases e
          rw [z]
          exact hx
        · rw [upd_ne z] at e
          exact W6.bh b o e
      · obtain ⟨o, a1, a2⟩ := W6.sl k s e
        exact ⟨o, a1, a2.loc sbb fun _ _ => rfl⟩
      · obtain ⟨a1, a2⟩ := W6.own k a ha
        refine ⟨?_, a2⟩
        rw [upd_ne (show a ≠ D from fun z => hD2 k (by rw [← z]; exact ha))]
        exact a1
    have nH1 : H1 D = none := hD
    refine q (.ref D) (.list ds) δi (upd Bi D (.lst xs)) H' Fi (s1.trans ⟨si.bb.trans sbb, si.keep, fun b o e hn => ?_, si.there, si.fn⟩) W7 ⟨ds, rfl, by rw [hdl]; exact hlb, hpd, by rw [hdl]; exact hJ⟩ (.lst upd_same (r.mono sbb))
    rw [upd_ne (ne_of_none e nH1)]
    exact si.fr b o e hn
/-- [elt for x in iter], iter and elt with effects -/
theorem xlE {scope : Scope} (j : Nat) {x : Str} {bd : Nat} (J : Nat → List Slot → Prop) (Pd : Nat → PyData → Prop) (hN : X.N.Nodup) (hi : XIF X (.Name x p) δ iter P0) (hz : bd ≤ 1000000) (h0 : ∀ ds0 δ1, P0 ds0 δ1 → ds0.length ≤ bd ∧ J 0 (δ1.set j .no)) (hlen : ∀ i δ', J i δ' → δ'[j]? = some .no)
    (he : Blk X scope fun Y => ∀ i y δ', i < bd → J i δ' → XF Y (δ'.set j (.dat y)) elt (fun d δ2 => Pd i d ∧ J (i + 1) (δ2.set j .no)))
    (ok : BlkOk X.N X.env.scope scope [(x, j)] := by exact blkOk_by (by kernel_rfl)) (hj : X.N[j]? = some x := by rfl) (hx : Blk X scope fun Y => Loc Y.env.scope x := by first | exact fun _ _ _ _ _ => Or.inl rfl | exact fun _ _ _ _ _ => Or.inr rfl) (hf : Blk X scope fun Y => Y.fn x = true ∨ Y.env.scope.names.lookup x = some .local := by first | exact fun _ _ _ _ _ => Or.inr rfl | exact fun _ _ _ _ _ => Or.inl rfl)
    (hc : X.calm = true := by rfl) (hs : ∀ x, foldedSetIterable iter X.env x = pure x := by intro _; rfl) : XF X δ (.ListComp elt [⟨.Name x p, iter, [], 0⟩] scope pos) (fun d δ2 => ∃ ds, d = .list ds ∧ ds.length ≤ bd ∧ (∀ i d, ds[i]? = some d → Pd i d) ∧ J ds.length δ2) := by
  have hG : Blk X scope fun Y => PG Y (.Name x p) (fun v σ H Q => ∃ z : PyData × List Slot, tG X.K [j] z.1 z.2 (z.2.set j (.dat z.1)) v σ H Q) := fun s H C cl fp => pg_ex fun z : PyData × List Slot => xg_name j hN hj (hx s H C cl fp) (hf s H C cl fp)
  have hE : Blk X scope fun Y => PE Y elt (fun σ H Q => ∃ z : {z : Nat × PyData × List Slot // J z.1 z.2.2 ∧ z.1 < bd}, tE X.K (z.1.2.2.set j (.dat z.1.2.1)) (fun d δ2 => Pd z.1.1 d ∧ J (z.1.1 + 1) (δ2.set j .no)) σ H Q) := fun s H C cl fp => pe_ex fun z : {z : Nat × PyData × List Slot // J z.1 z.2.2 ∧ z.1 < bd} => he s H C cl fp z.1.1 z.1.2.1 z.1.2.2 z.2.2 z.2.1
  exact (pe_lc (own := [(x, j)]) hc hN hi ok hG (fun _ _ _ _ _ => pts_nil) hE hs).weak (lcF_turnE J Pd hz h0 hlen (fun _ _ _ q => q) (fun _ _ _ _ q => q) (fun _ _ _ q => q))
/-- for x in iter, iter with effects -/
theorem xb_forE {is : List Nat} (Δ : PyData → List Slot → List Slot) (J : List PyData → Nat → List Slot → Prop) (M : List Slot → Prop) (hi : XIF X tg δ iter P0) (h0 : ∀ ds δ1, P0 ds δ1 → J ds 0 δ1)
    (hg : ∀ ds i δ' d, J ds i δ' → ds[i]? = some d → XG X tg is d δ' (Δ d δ'))
    (hs : ∀ ds i δ' d, J ds i δ' → ds[i]? = some d → XB X (Δ d δ') body { R with nx := J ds (i + 1), ct := J ds (i + 1), bk := M }) (hM : ∀ ds δ', J ds ds.length δ' → M δ')
    (h : ∀ δ', M δ' → XB X δ' rest R) (hp : PassesOwn (model X.prog X.w) X.A X.env X.xe := by exact PassesOwn.never) (hc : X.calm = true := by rfl) (hss : ∀ x, foldedSetIterable iter X.env x = pure x := by intro _; rfl) : XB X δ (.For tg iter body [] pos :: rest) R := by
  let ι := {z : List PyData × Nat × List Slot × PyData // J z.1 z.2.1 z.2.2.1 ∧ z.1[z.2.1]? = some z.2.2.2}
  have hG : PG X tg (fun v σ H Q => ∃ z : ι, tG X.K is z.1.2.2.2 z.1.2.2.1 (Δ z.1.2.2.2 z.1.2.2.1) v σ H Q) := pg_ex fun z : ι => hg z.1.1 z.1.2.1 z.1.2.2.1 z.1.2.2.2 z.2.1 z.2.2
  have hB : PSs X body (fun D σ H => ∃ z : ι, tS X.K (Δ z.1.2.2.2 z.1.2.2.1) { R with nx := J z.1.1 (z.1.2.1 + 1), ct := J z.1.1 (z.1.2.1 + 1), bk := M } D σ H) := pss_ex fun z : ι => hs z.1.1 z.1.2.1 z.1.2.2.1 z.1.2.2.2 z.2.1 z.2.2
  have hr : PSs X rest (fun D σ H => ∃ z : {δ' // M δ'}, tS X.K z.1 R D σ H) := pss_ex fun z : {δ' // M δ'} => h z.1 z.2
  refine xb_cons (ps_for hp hc hi hG hB hss) hr fun D σ H B F W o => ⟨B, F, W, fun It ds δ1 B1 H1 F1 s1 W1 hp1 wk => ?_⟩
  refine ⟨fun i m σ' H' => m = ds.length - i ∧ i ≤ ds.length ∧ ∃ δ' B' F', J ds i δ' ∧ Wf X.K B' H' σ' δ' F' ∧ Step B H F B' H' F' ∧ Same B1 B', ⟨ds.length, by simp, Nat.zero_le _, δ1, B1, F1, h0 _ _ hp1, W1, s1, Same.refl _⟩, ?_⟩
  rintro i m σ' H' ⟨rfl, hle, δ', B', F', hj, W', s', sm⟩
  by_cases hlt : i < ds.length
  · refine .inr ⟨wk.go i H' (sm.trans W'.bh) hlt, fun σ3 H3 => ∃ δ3 B3 F3, J ds (i + 1) δ3 ∧ Wf X.K B3 H3 σ3 δ3 F3 ∧ Step B H F B3 H3 F3 ∧ Same B1 B3, fun σ3 H3 ⟨δ3, B3, F3, q⟩ => ⟨ds.length - (i + 1), by omega, rfl, hlt, δ3, B3, F3, q⟩, fun x H2 hy => ?_⟩
    have hget : ds[i]? = some ds[i] := List.getElem?_eq_getElem hlt
    generalize ds[i] = d at hget
    obtain ⟨B2, g2, r2⟩ := wk.yld i B' H' x H2 sm W'.bh hy d hget
    have s2 := s'.trans (Step.of (F := F') g2)
    refine ⟨⟨(ds, i, δ', d), hj, hget⟩, B2, F', W'.grow g2, r2, fun σ3 F3 W3 sb _ _ => ⟨⟨(ds, i, δ', d), hj, hget⟩, ts_iff.mpr ⟨B2, F3, W3, ?_, ?_, ?_, ?_, fun v σ4 δ4 B4 H4 F4 s4 W4 q => o.rr v σ4 δ4 B4 H4 F4 ((s2.sub sb).trans s4) W4 q, o.gh.step (s2.sub sb)⟩⟩⟩
    all_goals have s3 := s2.sub sb
    · exact fun σ4 δ4 B4 H4 F4 s4 W4 q => ⟨δ4, B4, F4, q, W4, s3.trans s4, (sm.trans g2.bb).trans s4.bb⟩
    · exact fun v d σ4 δ4 B4 H4 F4 s4 W4 q r => o.rt v d σ4 δ4 B4 H4 F4 (s3.trans s4) W4 q r
    · exact fun σ4 δ4 B4 H4 F4 s4 W4 q => ⟨⟨δ4, q⟩, ts_iff.mpr ⟨B4, F4, W4, o.step (s3.trans s4)⟩⟩
    · exact fun σ4 δ4 B4 H4 F4 s4 W4 q => ⟨δ4, B4, F4, q, W4, s3.trans s4, (sm.trans g2.bb).trans s4.bb⟩
  · have e : i = ds.length := by omega
    subst e
    exact .inl ⟨wk.stop H' (sm.trans W'.bh), ⟨δ', hM _ _ hj⟩, ts_iff.mpr ⟨B', F', W', o.step s'⟩⟩
/-! ### in a tuple -/
def rInT (K : PySem.W.Frag) : R2 := fun x y H Q => ∃ d ds, Dp K H x d ∧ Dp K H y (.tuple ds) ∧ SeqAt.shaped d = true ∧ SeqAt.shaped (.tuple ds) = true ∧ Q (.bl (ds.any fun z => PyData.eqv z d)) H
theorem op_inT (hu : X.A.units + 65 < cLine) : OpR X (compareOp .In) (rInT X.K) := by
  intro pins s σ H x y v u Q I rx ry h
  obtain ⟨d, ds, hd, he, sd, se, q⟩ := h
  obtain ⟨as, r1⟩ := Dp.reads I d x v hd rx
  obtain ⟨bs, r2⟩ := Dp.reads I (.tuple ds) y u he ry
  exact SeqAt.in_tuple_reads r2 r1 (SeqAt.canLay_of_shaped se) (SeqAt.canLay_of_shaped sd) (room_in_shaped sd hu) ⟨.bl _, H, I, rfl, q⟩
theorem xe_inT (hu : X.A.units + 65 < cLine) (ha : XE X δ a d1) (hb : XE X δ b (.tuple ds)) (h1 : SeqAt.shaped d1 = true) (h2 : SeqAt.shaped (.tuple ds) = true) (hm : behindInMarks .In b = false := by first | exact nomark _ | rfl) : XE X δ (.Compare a [.In] [b] pos) (.bool (ds.any fun z => PyData.eqv z d1)) :=
  (pe_cmpR (op_inT hu) ha hb hm).weak (op_weak ha hb fun B H x y Q s rx ry q => ⟨d1, ds, (rx.mono s).dp (lay_sh h1), (ry.mono s).dp (lay_sh h2), h1, h2, q _ B H (Grow.refl s) (.bl _)⟩)
end
end Dl

set_option Elab.async false
set_option linter.all false
set_option maxRecDepth 100000
set_option maxHeartbeats 4000000
/-! The data level: answers that are owned: two new pairs, two new lists. -/
namespace Dl
open PySem PySem.Spec PyProof.Rows L2
/-- a list of two pairs of two lists of truths, all owned -/
def pairsR (l1 l2 : List Bool) : Res where
  ok := fun _ H v fp => ∃ z t1 p1 q1 t2 p2 q2, v = .ref z ∧ fp = [z, t1, p1, q1, t2, p2, q2] ∧ fp.Nodup ∧ H z = some (.lst [.ref t1, .ref t2]) ∧ H t1 = some (.tup [.ref p1, .ref q1]) ∧ H p1 = some (.lst (l1.map V.bl)) ∧ H q1 = some (.lst (l2.map V.bl)) ∧ H t2 = some (.tup [.ref p2, .ref q2]) ∧ H p2 = some (.lst (l1.map V.bl)) ∧ H q2 = some (.lst (l2.map V.bl))
  loc := fun {B B' H H' v fp} ⟨z, t1, p1, q1, t2, p2, q2, h1, h2, h3, a1, a2, a3, a4, a5, a6, a7⟩ _ hh => by
    subst h2
    exact ⟨z, t1, p1, q1, t2, p2, q2, h1, rfl, h3, by rw [hh z (by simp)]; exact a1, by rw [hh t1 (by simp)]; exact a2, by rw [hh p1 (by simp)]; exact a3, by rw [hh q1 (by simp)]; exact a4, by rw [hh t2 (by simp)]; exact a5, by rw [hh p2 (by simp)]; exact a6, by rw [hh q2 (by simp)]; exact a7⟩
/-- a list of two lists of whole numbers, all owned -/
def listsR (ns : List Int) : Res where
  ok := fun _ H v fp => ∃ z a b, v = .ref z ∧ fp = [z, a, b] ∧ fp.Nodup ∧ H z = some (.lst [.ref a, .ref b]) ∧ H a = some (.lst (ns.map V.int)) ∧ H b = some (.lst (ns.map V.int))
  loc := fun {B B' H H' v fp} ⟨z, a, b, h1, h2, h3, a1, a2, a3⟩ _ hh => by
    subst h2
    exact ⟨z, a, b, h1, rfl, h3, by rw [hh z (by simp)]; exact a1, by rw [hh a (by simp)]; exact a2, by rw [hh b (by simp)]; exact a3⟩
theorem pairsR.rp {K : PySem.W.Frag} {l1 l2 : List Bool} {B H : Hp} {v : V} {fp : List Addr} (h : (pairsR l1 l2).ok B H v fp) : Rp K H v (.list [.tuple [.list (l1.map .bool), .list (l2.map .bool)], .tuple [.list (l1.map .bool), .list (l2.map .bool)]]) := by
  obtain ⟨z, t1, p1, q1, t2, p2, q2, rfl, _, _, a1, a2, a3, a4, a5, a6, a7⟩ := h
  exact .lst a1 (.cons (.tup (.inl (.inl a2)) (.cons (.lst a3 (RpA.bls l1)) (.cons (.lst a4 (RpA.bls l2)) .nil))) (.cons (.tup (.inl (.inl a5)) (.cons (.lst a6 (RpA.bls l1)) (.cons (.lst a7 (RpA.bls l2)) .nil))) .nil))
theorem listsR.rp {K : PySem.W.Frag} {ns : List Int} {B H : Hp} {v : V} {fp : List Addr} (h : (listsR ns).ok B H v fp) : Rp K H v (.list [.list (ns.map .int), .list (ns.map .int)]) := by
  obtain ⟨z, a, b, rfl, _, _, a1, a2, a3⟩ := h
  exact .lst a1 (.cons (.lst a2 (RpA.ints ns)) (.cons (.lst a3 (RpA.ints ns)) .nil))
/-- an expression that tells a new pair -/
def tNew (K : PySem.W.Frag) (δ : List Slot) (l1 l2 : List Bool) : TE := fun σ H Q => ∃ B F, Wf K B H σ δ F ∧ ∀ t p q H2, Same H H2 → NewPair H H2 t p q l1 l2 → Q (.ref t) H2
abbrev XNew (X : Cx) (δ : List Slot) (e : Expr) (l1 l2 : List Bool) : Prop := PE X e (tNew X.K δ l1 l2)
theorem Wf.same {K : PySem.W.Frag} {B H H2 : Hp} {σ : L2.St} {δ : List Slot} {F : Nat → List Addr} (W : Wf K B H σ δ F) (s : Same H H2) : Wf K B H2 σ δ F := W.grow ⟨Same.refl B, W.bh.trans s, s, fun _ _ _ => rfl⟩
theorem Wf.fresh {K : PySem.W.Frag} {B H : Hp} {σ : L2.St} {δ : List Slot} {F : Nat → List Addr} (W : Wf K B H σ δ F) {p : Addr} (h : H p = none) : B p = none ∧ ∀ j, p ∉ F j := ⟨W.bh.free h, fun j hj => by
  obtain ⟨_, u, hu⟩ := W.own j p hj
  rw [h] at hu
  cases hu⟩
section
variable {X : Cx} {δ : List Slot} {e e1 e2 : Expr} {es : List Expr} {p p1 pos kp : Pos} {ds : List PyData} {d d1 d2 : PyData} {l1 l2 : List Bool} {rest : List Stmt} {R : Post} {x n1 : Str} {k : Bool}
theorem xnew_call {j : Nat} {ps : List Str} {f : List PyData → List Bool → List Bool → Prop} (G : Def X.prog X.w X.K X.mg X.base j x ps (SpF X.K f)) (hr : Room j X.A) (ha : XA X δ (e :: es) ds) (hf : f ds l1 l2) (hg : Gl X x := by rfl) (hdb : (x == ("__debug__" : Str)) = false := by decide)
    (he : starEach (e :: es) X.env = (false, eval e X.env) :: starEach es X.env := by rfl) (hpl : (backTo pos (starEach es X.env)).any (·.1) = false := by rfl) : XNew X δ (.Call (.Name x p) (e :: es) [] pos) l1 l2 := by
  obtain ⟨fa, fd, h1, h2, h3, h4⟩ := G.ex
  refine (pe_call h4 hr hg h1 h2 h3 .nil pass0 ha hdb he hpl).weak fun σ H Q ⟨B, F, W, q⟩ => ⟨B, F, W, fun vs B2 H2 g2 r2 => ?_⟩
  show SpF X.K f (vs ++ []) H2 Q _
  rw [List.append_nil]
  exact ⟨B2, ds, l1, l2, g2.bh, r2, hf, fun t pa qa H3 sm3 n => q t pa qa H3 (g2.hh.trans sm3) (n.back fun b o hb => ⟨o, g2.hh b o hb⟩)⟩
theorem xnew_callK1 {j : Nat} {f : List PyData → List Bool → List Bool → Prop} (hr : Room j X.A)
    (hkb : ∃ g fd, X.mg x = some (.ref g) ∧ PySem.W.keepIn X.K (.ref g) = true ∧ FnOk X.prog X.w X.K X.mg X.base CX0 j g fd [n1] (SpF X.K f) ∧ KBinds X.K fd [n1] [n1] oneK oneK)
    (h1 : XE X δ e d1) (hf : f [d1] l1 l2) (hg : Gl X x := by rfl) (hdb : (x == ("__debug__" : Str)) = false := by decide)
    (hall : (backToKw pos (keywordEach [⟨some n1, e, kp⟩] X.env)).all (·.1.isSome) = true := by rfl) (hks : (backToKw pos (keywordEach [⟨some n1, e, kp⟩] X.env)).filterMap (·.1) = [n1] := by rfl)
    (hpl : ((backTo pos (starEach [] X.env)).any (·.1) || (backToKw pos (keywordEach [⟨some n1, e, kp⟩] X.env)).any (·.1.isNone)) = false := by rfl) : XNew X δ (.Call (.Name x p) [] [⟨some n1, e, kp⟩] pos) l1 l2 := by
  obtain ⟨g, fd, m1, m2, m3, m4⟩ := hkb
  refine ⟨fun pins s σ H Q I ⟨B, F, W, q⟩ => ?_⟩
  refine wpAny_Call_Name_kw (ld_glob I hg m1 ?_ hdb)
  refine PySem.W.callWith_KW0 (h₀ := X.base) I.ok.mod.kin m2 hall (thn ((pk_cons h1 pk_nil).run pos pins s σ H (fun zs H3 => ∃ v1 B3, zs = [v1] ∧ Grow B H B3 H3 ∧ Rp X.K B3 v1 d1) I ⟨B, F, W, fun v1 B1 H1 g1 r1 => ⟨v1, B1, rfl, g1, r1⟩⟩) fun ws s2 ⟨zs, H3, I3, rz, v1, B3, ez, g3, r1⟩ => ⟨I3.kIn, ?_⟩) hpl
  rw [hks]
  subst ez
  exact run_fnk (us := []) (vs := []) m3 hr m4 pass0 I3 .nil rz ⟨B3, [d1], l1, l2, g3.bh, .cons r1 .nil, hf, fun t pa qa H4 sm4 n => q t pa qa H4 (g3.hh.trans sm4) (n.back fun b o hb => ⟨o, g3.hh b o hb⟩)⟩
/-- x = [e1, e2], each a new pair -/
theorem xb_toldPairs (i : Nat) (h1 : XNew X δ e1 l1 l2) (h2 : XNew X δ e2 l1 l2) (kk : XB X (δ.set i (.own (pairsR l1 l2))) rest R) (hN : X.N.Nodup) (hl : i < δ.length := by exact Nat.le_of_ble_eq_true rfl) (hi : X.N[i]? = some x := by rfl) (hx : Loc X.env.scope x := by first | exact Or.inl rfl | exact Or.inr rfl)
    (hs : swapsWith (.List [e1, e2] p1) (some (.Name x p)) pos.line X.env = pure false := by rfl) (hf : X.fn x = true ∨ X.env.scope.names.lookup x = some .local := by first | exact .inl rfl | exact .inr rfl)
    (hs1 : starEach [e1, e2] X.env = (false, eval e1 X.env) :: starEach [e2] X.env := by rfl) (hs2 : starEach [e2] X.env = (false, eval e2 X.env) :: starEach [] X.env := by rfl) : XB X δ (.Assign [.Name x p] (.List [e1, e2] p1) pos :: rest) R :=
  xb_cons (ps_set hN hi hx (pe_lst (pa_cons h1 (pa_cons h2 pa_nil hs2) hs1)) hs hf) kk fun D σ H B F W o => by
    refine ⟨B, F, W, fun t1 p1 q1 H1 sm1 n1 => ⟨B, F, W.same sm1, fun t2 p2 q2 H2 sm2 n2 => ⟨sz_of (by show 2 ≤ 1000000; decide), fun z hz => ?_⟩⟩⟩
    have s13 : Same H1 (upd H2 z (.lst [.ref t1, .ref t2])) := sm2.trans (same_upd hz)
    have s23 : Same H2 (upd H2 z (.lst [.ref t1, .ref t2])) := same_upd hz
    have sH : Same H (upd H2 z (.lst [.ref t1, .ref t2])) := sm1.trans s13
    have W3 := W.same sH
    have nz : ∀ b o, H2 b = some o → z ≠ b := fun b o h e => by rw [← e, hz] at h; cases h
    have n12 : ∀ b o, H1 b = some o → b ≠ t2 ∧ b ≠ p2 ∧ b ≠ q2 := fun b o h => ⟨fun z => (by rw [z, n2.ht] at h; cases h), fun z => (by rw [z, n2.hp] at h; cases h), fun z => (by rw [z, n2.hq] at h; cases h)⟩
    have a1 := n12 _ _ n1.at_
    have a2 := n12 _ _ n1.ap
    have a3 := n12 _ _ n1.aq
    have hz0 : H z = none := by
      cases q : H z with
      | none => rfl
      | some u => rw [sm2 _ _ (sm1 _ _ q)] at hz; cases hz
    have fr : ∀ b, b ∈ [z, t1, p1, q1, t2, p2, q2] → H b = none := fun b hb => by
      have back : ∀ b, H1 b = none → H b = none := fun b e => by
        cases q : H b with
        | none => rfl
        | some u => rw [sm1 _ _ q] at e; cases e
      simp only [List.mem_cons, List.not_mem_nil, or_false] at hb
      rcases hb with e | e | e | e | e | e | e
      · rw [e]; exact hz0
      · rw [e]; exact n1.ht
      · rw [e]; exact n1.hp
      · rw [e]; exact n1.hq
      · rw [e]; exact back _ n2.ht
      · rw [e]; exact back _ n2.hp
      · rw [e]; exact back _ n2.hq
    refine ts_iff.mpr ⟨B, _, W3.putO (r := pairsR l1 l2) (fp := [z, t1, p1, q1, t2, p2, q2]) hl ⟨z, t1, p1, q1, t2, p2, q2, rfl, rfl, ?_, upd_same, s13 _ _ n1.at_, s13 _ _ n1.ap, s13 _ _ n1.aq, s23 _ _ n2.at_, s23 _ _ n2.ap, s23 _ _ n2.aq⟩ (fun b hb => ?_), o.step ⟨Same.refl B, fun b u e _ => sH _ _ e, fun _ _ _ _ => rfl, fun b u e => ⟨u, sH _ _ e⟩, fun j b hb => ?_⟩⟩
    · simp only [List.nodup_cons, List.mem_cons, List.not_mem_nil, or_false, not_or, not_false_eq_true, List.nodup_nil, and_true]
      exact ⟨⟨nz _ _ (sm2 _ _ n1.at_), nz _ _ (sm2 _ _ n1.ap), nz _ _ (sm2 _ _ n1.aq), nz _ _ n2.at_, nz _ _ n2.ap, nz _ _ n2.aq⟩, ⟨n1.tp, n1.tq, a1.1, a1.2.1, a1.2.2⟩, ⟨n1.pq, a2.1, a2.2.1, a2.2.2⟩, ⟨a3.1, a3.2.1, a3.2.2⟩, ⟨n2.tp, n2.tq⟩, n2.pq⟩
    · have h0 := fr b hb
      refine ⟨⟨W.bh.free h0, ?_⟩, fun j _ => (W.fresh h0).2 j⟩
      simp only [List.mem_cons, List.not_mem_nil, or_false] at hb
      rcases hb with e | e | e | e | e | e | e
      · rw [e]; exact ⟨_, upd_same⟩
      · rw [e]; exact ⟨_, s13 _ _ n1.at_⟩
      · rw [e]; exact ⟨_, s13 _ _ n1.ap⟩
      · rw [e]; exact ⟨_, s13 _ _ n1.aq⟩
      · rw [e]; exact ⟨_, s23 _ _ n2.at_⟩
      · rw [e]; exact ⟨_, s23 _ _ n2.ap⟩
      · rw [e]; exact ⟨_, s23 _ _ n2.aq⟩
    · by_cases hj : j = i
      · rw [if_pos hj] at hb
        exact .inr (fr b hb)
      · rw [if_neg hj] at hb
        exact .inl ⟨j, hb⟩
/-- x = [e1, e2], each a new list of whole numbers -/
theorem xb_toldLists (i : Nat) {ns : List Int} (h1 : XN X δ e1 (ns.map .int)) (h2 : XN X δ e2 (ns.map .int)) (kk : XB X (δ.set i (.own (listsR ns))) rest R) (hN : X.N.Nodup) (hl : i < δ.length := by exact Nat.le_of_ble_eq_true rfl) (hi : X.N[i]? = some x := by rfl) (hx : Loc X.env.scope x := by first | exact Or.inl rfl | exact Or.inr rfl)
    (hs : swapsWith (.List [e1, e2] p1) (some (.Name x p)) pos.line X.env = pure false := by rfl) (hf : X.fn x = true ∨ X.env.scope.names.lookup x = some .local := by first | exact .inl rfl | exact .inr rfl)
    (hs1 : starEach [e1, e2] X.env = (false, eval e1 X.env) :: starEach [e2] X.env := by rfl) (hs2 : starEach [e2] X.env = (false, eval e2 X.env) :: starEach [] X.env := by rfl) : XB X δ (.Assign [.Name x p] (.List [e1, e2] p1) pos :: rest) R :=
  xb_cons (ps_set hN hi hx (pe_lst (pa_cons h1 (pa_cons h2 pa_nil hs2) hs1)) hs hf) kk fun D σ H B F W o => by
    refine ⟨B, F, W, fun a xs B1 H1 g1 na nb e1 r1 => ⟨B1, F, W.grow g1, fun b ys B2 H2 g2 na2 nb2 e2 r2 => ⟨sz_of (by show 2 ≤ 1000000; decide), fun z hz => ?_⟩⟩⟩
    have ex := r1.ints_inv
    have ey := r2.ints_inv
    subst ex
    subst ey
    have g := g1.trans g2
    have g3 : Grow B H B2 (upd H2 z (.lst [.ref a, .ref b])) := g.trans (Grow.newH g.bh hz)
    have h2a : H2 a = some (.lst (ns.map V.int)) := g2.hh _ _ e1
    have nza : z ≠ a := fun e => by rw [e, h2a] at hz; cases hz
    have nzb : z ≠ b := fun e => by rw [e, e2] at hz; cases hz
    have nab : a ≠ b := fun e => by rw [← e, e1] at na2; cases na2
    have hb0 : H b = none := g1.hh.free na2
    have hz0 : H z = none := g.hh.free hz
    have b2a : B2 a = none := (g2.fr a _ e1).trans nb
    have b2z : B2 z = none := g.bh.free hz
    have fr : ∀ c, c ∈ [z, a, b] → H c = none ∧ B2 c = none := fun c hc => by
      simp only [List.mem_cons, List.not_mem_nil, or_false] at hc
      rcases hc with e | e | e
      · rw [e]; exact ⟨hz0, b2z⟩
      · rw [e]; exact ⟨na, b2a⟩
      · rw [e]; exact ⟨hb0, nb2⟩
    refine ts_iff.mpr ⟨B2, _, (W.grow g3).putO (r := listsR ns) (fp := [z, a, b]) hl ⟨z, a, b, rfl, rfl, ?_, upd_same, by rw [upd_ne (Ne.symm nza)]; exact h2a, by rw [upd_ne (Ne.symm nzb)]; exact e2⟩ (fun c hc => ?_), o.step ⟨g3.bb, fun b u e _ => g3.hh _ _ e, fun b u e _ => g3.fr b u e, fun b u e => ⟨u, g3.hh _ _ e⟩, fun j c hc => ?_⟩⟩
    · simp only [List.nodup_cons, List.mem_cons, List.not_mem_nil, or_false, not_or, not_false_eq_true, List.nodup_nil, and_true]
      exact ⟨⟨nza, nzb⟩, nab⟩
    · refine ⟨⟨(fr c hc).2, ?_⟩, fun j _ => (W.fresh (fr c hc).1).2 j⟩
      simp only [List.mem_cons, List.not_mem_nil, or_false] at hc
      rcases hc with e | e | e
      · rw [e]; exact ⟨_, upd_same⟩
      · rw [e, upd_ne (Ne.symm nza)]; exact ⟨_, h2a⟩
      · rw [e, upd_ne (Ne.symm nzb)]; exact ⟨_, e2⟩
    · by_cases hj : j = i
      · rw [if_pos hj] at hc
        exact .inr (fr c hc).1
      · rw [if_neg hj] at hc
        exact .inl ⟨j, hc⟩
/-- f(x, e), x owned: it is read, the answer a truth -/
theorem xe_callOwn (i : Nat) {a : Str} {j : Nat} {ps : List Str} {r : Res} {f : List PyData → PyData → Prop} (G : Def X.prog X.w X.K X.mg X.base j x ps (SpP X.K f)) (hr : Room j X.A) (h : δ[i]? = some (.own r)) (hrd : ∀ B H v fp, r.ok B H v fp → Rp X.K H v d1) (he2 : XE X δ e d2) (hf : f [d1, d2] (.bool k)) (hi : X.N[i]? = some a := by rfl)
    (hv : Vis X.env.scope a := by first | exact Or.inl rfl | exact Or.inr (Or.inl rfl) | exact Or.inr (Or.inr rfl)) (hd : (a == ("__debug__" : Str)) = false := by decide) (hcd : (a == ("__classdict__" : Str)) = false := by decide) (hg : Gl X x := by rfl) (hdb : (x == ("__debug__" : Str)) = false := by decide)
    (hs1 : starEach [.Name a p1, e] X.env = (false, eval (.Name a p1) X.env) :: starEach [e] X.env := by rfl) (hs2 : starEach [e] X.env = (false, eval e X.env) :: starEach [] X.env := by rfl) (hpl : (backTo pos (starEach [e] X.env)).any (·.1) = false := by rfl) : XE X δ (.Call (.Name x p) [.Name a p1, e] [] pos) (.bool k) := by
  obtain ⟨fa, fd, m1, m2, m3, m4⟩ := G.ex
  refine (pe_call m4 hr hg m1 m2 m3 .nil pass0 (pa_cons (pe_var (i := i) hi hv hd hcd) (pa_cons he2 pa_nil hs2) hs1) hdb hs1 hpl).weak fun σ H Q ⟨B, F, W, q⟩ => ?_
  obtain ⟨o, a1, a2⟩ := W.sl i _ h
  cases o with
  | none => exact a2.elim
  | some v =>
    refine ⟨v, a1, B, F, W, fun u B2 H2 g2 r2 => ?_⟩
    obtain ⟨o', a3, a4⟩ := (W.grow g2).sl i _ h
    rw [a1] at a3
    cases a3
    refine ⟨H2, [d1, d2], .bool k, Same.refl _, .cons (hrd _ _ _ _ a4) (.cons (r2.mono g2.bh) .nil), hf, fun w B3 H3 g3 r3 => ?_⟩
    cases r3
    exact q _ B2 H3 ⟨g2.bb, g2.bh.trans g3.hh, g2.hh.trans g3.hh, g2.fr⟩ (.bl _)
theorem owl_bls' {H : Hp} {n : Nat} : ∀ l : List Bool, OwL (OwT n H) (l.map V.bl) []
  | [] => .nil
  | b :: r => .cons (f := []) (g := []) (by cases n with | zero => exact ⟨.bl b, rfl⟩ | succ n => exact .inl ⟨.bl b, rfl⟩) (owl_bls' r)
theorem owt_bls' {H : Hp} {p : Addr} {l : List Bool} (h : H p = some (.lst (l.map V.bl))) (hz : l.length < 1000000) : OwT 1 H (.ref p) [p] := .inr ⟨p, _, [], rfl, h, by rw [List.length_map]; exact hz, owl_bls' l, rfl, by simp⟩
theorem owl_ints {H : Hp} {n : Nat} : ∀ l : List Int, OwL (OwT n H) (l.map V.int) []
  | [] => .nil
  | b :: r => .cons (f := []) (g := []) (by cases n with | zero => exact ⟨.int b, rfl⟩ | succ n => exact .inl ⟨.int b, rfl⟩) (owl_ints r)
theorem owt_ints {H : Hp} {p : Addr} {l : List Int} (h : H p = some (.lst (l.map V.int))) (hz : l.length < 1000000) : OwT 1 H (.ref p) [p] := .inr ⟨p, _, [], rfl, h, by rw [List.length_map]; exact hz, owl_ints l, rfl, by simp⟩
/-- an owned thing was written and is given up -/
theorem Wf.spent {K : PySem.W.Frag} {B H H2 : Hp} {σ : L2.St} {F : Nat → List Addr} (W : Wf K B H σ δ F) {i : Nat} (hl : i < δ.length) (h1 : ∀ b o, H b = some o → b ∉ F i → H2 b = some o) (h2 : ∀ b o, H b = some o → ∃ o', H2 b = some o') :
    Wf K B H2 σ (δ.set i .no) (fun j => if j = i then [] else F j) ∧ Step B H F B H2 (fun j => if j = i then [] else F j) := by
  have kB : Same B H2 := fun b o e => h1 b o (W.bh _ _ e) fun hb => by rw [(W.own i b hb).1] at e; cases e
  refine ⟨⟨kB, by rw [List.length_set]; exact W.len, fun j s e => ?_, fun j hj => ?_, fun j k a ha hb => ?_, fun j a ha => ?_⟩, ⟨Same.refl B, fun b o e hn => h1 b o e (hn i), fun _ _ _ _ => rfl, h2, fun j b hb => .inl (cut_sub j b hb)⟩⟩
  · by_cases hj : j = i
    · subst hj
      rw [List.getElem?_set_self hl] at e
      cases e
      refine ⟨σ[j]'(by rw [← W.len]; exact hl), List.getElem?_eq_getElem _, ?_⟩
      show SlotOk K B H2 _ .no (if j = j then [] else F j)
      rw [if_pos rfl]
      cases σ[j]'(by rw [← W.len]; exact hl) <;> rfl
    · rw [List.getElem?_set_ne (Ne.symm hj)] at e
      obtain ⟨o, a1, a2⟩ := W.sl j s e
      refine ⟨o, a1, ?_⟩
      rw [if_neg hj]
      exact a2.loc (Same.refl B) fun a ha => by
        obtain ⟨_, u, hu⟩ := W.own j a ha
        rw [hu]
        exact h1 a u hu fun hi => hj (W.dis j i a ha hi)
  · by_cases hj2 : j = i
    · exact if_pos hj2
    · rw [if_neg hj2]
      rw [List.length_set] at hj
      exact W.out j hj
  · by_cases hj : j = i
    · rw [if_pos hj] at ha; cases ha
    · by_cases hk : k = i
      · rw [if_pos hk] at hb; cases hb
      · rw [if_neg hj] at ha
        rw [if_neg hk] at hb
        exact W.dis j k a ha hb
  · by_cases hj : j = i
    · rw [if_pos hj] at ha; cases ha
    · rw [if_neg hj] at ha
      obtain ⟨a1, u, a2⟩ := W.own j a ha
      exact ⟨a1, h2 a u a2⟩
/-- f(x), x two lists -/
theorem xf_apartL (i : Nat) {a : Str} {j : Nat} {ps : List Str} {ns : List Int} (G : Def X.prog X.w X.K X.mg X.base j x ps (SpApart 2)) (hr : Room j X.A) (h : δ[i]? = some (.own (listsR ns))) (hz : ns.length < 1000000) (hi : X.N[i]? = some a := by rfl)
    (hv : Vis X.env.scope a := by first | exact Or.inl rfl | exact Or.inr (Or.inl rfl) | exact Or.inr (Or.inr rfl)) (hd : (a == ("__debug__" : Str)) = false := by decide) (hcd : (a == ("__classdict__" : Str)) = false := by decide) (hg : Gl X x := by rfl) (hdb : (x == ("__debug__" : Str)) = false := by decide)
    (hs1 : starEach [.Name a p1] X.env = (false, eval (.Name a p1) X.env) :: starEach [] X.env := by rfl) (hpl : (backTo pos (starEach [] X.env)).any (·.1) = false := by rfl) : XF X δ (.Call (.Name x p) [.Name a p1] [] pos) (fun d' δ' => d' = .bool true ∧ δ' = δ.set i .no) := by
  obtain ⟨fa, fd, m1, m2, m3, m4⟩ := G.ex
  refine (pe_call m4 hr hg m1 m2 m3 .nil pass0 (pa_cons (pe_var (i := i) hi hv hd hcd) pa_nil hs1) hdb hs1 hpl).weak fun σ H Q ⟨B, F, W, q⟩ => ?_
  obtain ⟨o, a1, a2⟩ := W.sl i _ h
  cases o with
  | none => exact a2.elim
  | some v =>
    obtain ⟨z, b, c, rfl, hF, hnd, e1, e2, e3⟩ := a2
    rw [hF] at hnd
    refine ⟨.ref z, a1, .ref z, [z, b, c], rfl, .inr ⟨z, _, [b, c], rfl, e1, by exact Nat.le_of_ble_eq_true rfl, .cons (f := [b]) (g := [c]) (owt_ints e2 hz) (.cons (f := [c]) (g := []) (owt_ints e3 hz) .nil), rfl, hnd⟩, fun H2 k1 k2 => ?_⟩
    obtain ⟨W2, s2⟩ := W.spent (List.getElem?_eq_some_iff.mp h).1 (fun b o hb hn => k1 b o hb (by rw [← hF]; exact hn)) k2
    exact q _ _ _ B H2 _ s2 W2 ⟨rfl, rfl⟩ (.bl true)
/-- f([x[0][0], x[0][1], x[1][0], x[1][1]]), x two pairs -/
theorem xf_apart4 (i : Nat) {a : Str} {j : Nat} {ps : List Str} {lp : Pos} (G : Def X.prog X.w X.K X.mg X.base j x ps (SpApart 2)) (hr : Room j X.A) (h : δ[i]? = some (.own (pairsR l1 l2))) (hz1 : l1.length < 1000000) (hz2 : l2.length < 1000000) (hi : X.N[i]? = some a := by rfl)
    (hv : Vis X.env.scope a := by first | exact Or.inl rfl | exact Or.inr (Or.inl rfl) | exact Or.inr (Or.inr rfl)) (hd : (a == ("__debug__" : Str)) = false := by decide) (hcd : (a == ("__classdict__" : Str)) = false := by decide) (hg : Gl X x := by rfl) (hdb : (x == ("__debug__" : Str)) = false := by decide)
    {A0 A1 A2 A3 : Expr} (ht0 : PE X A0 (tOp (rIx X.K) (tOp (rIx X.K) (tVar i) (tC (.int 0))) (tC (.int 0)))) (ht1 : PE X A1 (tOp (rIx X.K) (tOp (rIx X.K) (tVar i) (tC (.int 0))) (tC (.int 1)))) (ht2 : PE X A2 (tOp (rIx X.K) (tOp (rIx X.K) (tVar i) (tC (.int 1))) (tC (.int 0)))) (ht3 : PE X A3 (tOp (rIx X.K) (tOp (rIx X.K) (tVar i) (tC (.int 1))) (tC (.int 1))))
    (h0 : starEach [A0, A1, A2, A3] X.env = (false, eval A0 X.env) :: starEach [A1, A2, A3] X.env := by rfl) (h1 : starEach [A1, A2, A3] X.env = (false, eval A1 X.env) :: starEach [A2, A3] X.env := by rfl) (h2 : starEach [A2, A3] X.env = (false, eval A2 X.env) :: starEach [A3] X.env := by rfl) (h3 : starEach [A3] X.env = (false, eval A3 X.env) :: starEach [] X.env := by rfl)
    (hs1 : starEach [.List [A0, A1, A2, A3] lp] X.env = (false, eval (.List [A0, A1, A2, A3] lp) X.env) :: starEach [] X.env := by rfl) (hpl : (backTo pos (starEach [] X.env)).any (·.1) = false := by rfl) : XF X δ (.Call (.Name x p) [.List [A0, A1, A2, A3] lp] [] pos) (fun d' δ' => d' = .bool true ∧ δ' = δ.set i .no) := by
  obtain ⟨fa, fd, m1, m2, m3, m4⟩ := G.ex
  refine (pe_call m4 hr hg m1 m2 m3 .nil pass0 (pa_cons (pe_lst (pa_cons ht0 (pa_cons ht1 (pa_cons ht2 (pa_cons ht3 pa_nil h3) h2) h1) h0)) pa_nil hs1) hdb hs1 hpl).weak fun σ H Q ⟨B, F, W, q⟩ => ?_
  obtain ⟨o, b1, b2⟩ := W.sl i _ h
  cases o with
  | none => exact b2.elim
  | some v =>
    obtain ⟨z, t1, p1, q1, t2, p2, q2, rfl, hF, hnd, a1, a2, a3, a4, a5, a6, a7⟩ := b2
    rw [hF] at hnd
    have st : ∀ (i j : Int) (t : Addr) (v : V) (Q : VK) (p q : Addr), atI [V.ref t1, .ref t2] i = some (.ref t) → H t = some (.tup [.ref p, .ref q]) → atI [V.ref p, .ref q] j = some v → Q v H → rIx X.K (.ref z) (.int i) H (fun x H' => rIx X.K x (.int j) H' Q) := fun i j t v Q p q c1 c2 c3 c4 =>
      .inl ⟨z, _, i, .ref t, rfl, rfl, SqL.of a1, c1, .inr (.inl ⟨t, _, j, v, rfl, rfl, .inl (.inl c2), c3, c4⟩)⟩
    refine ⟨.ref z, b1, st 0 0 t1 (.ref p1) _ p1 q1 rfl a2 rfl ?_⟩
    refine ⟨.ref z, b1, st 0 1 t1 (.ref q1) _ p1 q1 rfl a2 rfl ?_⟩
    refine ⟨.ref z, b1, st 1 0 t2 (.ref p2) _ p2 q2 rfl a5 rfl ?_⟩
    refine ⟨.ref z, b1, st 1 1 t2 (.ref q2) _ p2 q2 rfl a5 rfl ?_⟩
    refine ⟨sz_of (by show 4 ≤ 1000000; decide), fun z3 hz3 => ?_⟩
    have sm6 : Same H (upd H z3 (.lst [.ref p1, .ref q1, .ref p2, .ref q2])) := same_upd hz3
    have W6 := W.same sm6
    have e6 : (upd H z3 (.lst [.ref p1, .ref q1, .ref p2, .ref q2])) z3 = some (.lst [.ref p1, .ref q1, .ref p2, .ref q2]) := upd_same
    have nz : ∀ b o, H b = some o → z3 ≠ b := fun b o h z => by rw [← z, hz3] at h; cases h
    generalize upd H z3 (.lst [.ref p1, .ref q1, .ref p2, .ref q2]) = H6 at sm6 W6 e6
    simp only [List.nodup_cons, List.mem_cons, List.not_mem_nil, or_false, not_or, not_false_eq_true, List.nodup_nil, and_true] at hnd
    obtain ⟨_, _, ⟨c1, c2, c3, c4⟩, ⟨c5, c6, c7⟩, _, c8⟩ := hnd
    refine ⟨.ref z3, z3 :: [p1, q1, p2, q2], rfl, .inr ⟨z3, _, [p1, q1, p2, q2], rfl, e6, by exact Nat.le_of_ble_eq_true rfl, .cons (f := [p1]) (g := [q1, p2, q2]) (owt_bls' (sm6 _ _ a3) hz1) (.cons (f := [q1]) (g := [p2, q2]) (owt_bls' (sm6 _ _ a4) hz2) (.cons (f := [p2]) (g := [q2]) (owt_bls' (sm6 _ _ a6) hz1) (.cons (f := [q2]) (g := []) (owt_bls' (sm6 _ _ a7) hz2) .nil))), rfl, ?_⟩, fun H2 k1 k2 => ?_⟩
    · simp only [List.nodup_cons, List.mem_cons, List.not_mem_nil, or_false, not_or, not_false_eq_true, List.nodup_nil, and_true]
      exact ⟨⟨nz _ _ a3, nz _ _ a4, nz _ _ a6, nz _ _ a7⟩, ⟨c1, c3, c4⟩, ⟨c6, c7⟩, c8⟩
    · obtain ⟨W2, s2⟩ := W.spent (H2 := H2) (List.getElem?_eq_some_iff.mp h).1 (fun b o hb hn => k1 b o (sm6 _ _ hb) fun hm => by
        rw [hF] at hn
        simp only [List.mem_cons, List.not_mem_nil, or_false, not_or] at hm hn
        rcases hm with e | e | e | e | e
        · exact nz b o hb e.symm
        · exact hn.2.2.1 e
        · exact hn.2.2.2.1 e
        · exact hn.2.2.2.2.2.1 e
        · exact hn.2.2.2.2.2.2 e) (fun b o hb => k2 b o (sm6 _ _ hb))
      exact q _ _ _ B H2 _ s2 W2 ⟨rfl, rfl⟩ (.bl true)
end
end Dl

set_option Elab.async false
set_option linter.all false
set_option maxRecDepth 100000
set_option maxHeartbeats 4000000
/-! The data level: answers that are new lists of whole numbers; new pairs, the record in hand. -/
namespace Dl
open PySem PySem.Spec PyProof.Rows L2 LamX
def SpN (K : PySem.W.Frag) (f : List PyData → List Int → Prop) : Sp := fun vs H Q _ => ∃ B ds ns, Same B H ∧ RpA K B vs ds ∧ f ds ns ∧ ∀ p B2 H2, Grow B H B2 H2 → H p = none → B2 p = none → H2 p = some (.lst (ns.map V.int)) → Q (.ref p) H2
def frN (g : Gh) (ns : List Int) : V → Hp → Hp → Prop := fun v B2 H2 => ∃ p, v = .ref p ∧ B2 p = none ∧ H2 p = some (.lst (ns.map V.int)) ∧ ∀ z, g = some z → z.2.1 p = none
section
variable {X : Cx} {δ : List Slot} {e e1 e2 : Expr} {es : List Expr} {pos p kp1 kp2 : Pos} {ds : List PyData} {d1 d2 : PyData} {rest : List Stmt} {R : Post} {ns : List Int} {x n1 n2 : Str}
theorem xb_retL (h : XN X δ e (ns.map .int)) (hR : R.rr = frN R.gh ns) : XB X δ (.Return (some e) pos :: rest) R :=
  xb_cons (ps_ret h) pss_never fun D σ H B F W o => by
    refine ⟨B, F, W, fun a xs B1 H1 g1 n1 nb1 e1 r1 => ?_⟩
    have ex := r1.ints_inv
    subst ex
    refine o.rr (.ref a) σ δ B1 H1 F (Step.of g1) (W.grow g1) ?_
    rw [hR]
    refine ⟨a, rfl, nb1, e1, fun z hz => ?_⟩
    have gh := o.gh
    rw [hz] at gh
    cases q : z.2.1 a with
    | none => rfl
    | some u =>
      obtain ⟨o', h'⟩ := Step.there gh a u q
      rw [n1] at h'
      cases h'
theorem xn_callN {k : Nat} {ps : List Str} {f : List PyData → List Int → Prop} (G : Def X.prog X.w X.K X.mg X.base k x ps (SpN X.K f)) (hr : Room k X.A) (ha : XA X δ (e :: es) ds) (hf : f ds ns) (hg : Gl X x := by rfl) (hdb : (x == ("__debug__" : Str)) = false := by decide)
    (he : starEach (e :: es) X.env = (false, eval e X.env) :: starEach es X.env := by rfl) (hpl : (backTo pos (starEach es X.env)).any (·.1) = false := by rfl) : XN X δ (.Call (.Name x p) (e :: es) [] pos) (ns.map .int) := by
  obtain ⟨fa, fd, h1, h2, h3, h4⟩ := G.ex
  refine (pe_call h4 hr hg h1 h2 h3 .nil pass0 ha hdb he hpl).weak fun σ H Q ⟨B, F, W, q⟩ => ⟨B, F, W, fun vs B2 H2 g2 r2 => ?_⟩
  show SpN X.K f (vs ++ []) H2 Q _
  rw [List.append_nil]
  exact ⟨B2, ds, ns, g2.bh, r2, hf, fun a B3 H3 g3 n nb e => q a _ B3 H3 (g2.trans g3) (g2.hh.free n) nb e (RpA.ints ns)⟩
theorem xn_callNK2 {k : Nat} {f : List PyData → List Int → Prop} (hr : Room k X.A)
    (hkb : ∃ g fd, X.mg x = some (.ref g) ∧ PySem.W.keepIn X.K (.ref g) = true ∧ FnOk X.prog X.w X.K X.mg X.base CX0 k g fd [n2, n1] (SpN X.K f) ∧ KBinds X.K fd [n2, n1] [n1, n2] swapK swapK)
    (h1 : XE X δ e1 d1) (h2 : XE X δ e2 d2) (hf : f [d2, d1] ns) (hg : Gl X x := by rfl) (hdb : (x == ("__debug__" : Str)) = false := by decide)
    (hall : (backToKw pos (keywordEach [⟨some n1, e1, kp1⟩, ⟨some n2, e2, kp2⟩] X.env)).all (·.1.isSome) = true := by rfl) (hks : (backToKw pos (keywordEach [⟨some n1, e1, kp1⟩, ⟨some n2, e2, kp2⟩] X.env)).filterMap (·.1) = [n1, n2] := by rfl)
    (hpl : ((backTo pos (starEach [] X.env)).any (·.1) || (backToKw pos (keywordEach [⟨some n1, e1, kp1⟩, ⟨some n2, e2, kp2⟩] X.env)).any (·.1.isNone)) = false := by rfl) : XN X δ (.Call (.Name x p) [] [⟨some n1, e1, kp1⟩, ⟨some n2, e2, kp2⟩] pos) (ns.map .int) := by
  obtain ⟨g, fd, m1, m2, m3, m4⟩ := hkb
  refine ⟨fun pins s σ H Q I ⟨B, F, W, q⟩ => ?_⟩
  refine wpAny_Call_Name_kw (ld_glob I hg m1 ?_ hdb)
  refine PySem.W.callWith_KW0 (h₀ := X.base) I.ok.mod.kin m2 hall (thn ((pk_cons h1 (pk_cons h2 pk_nil)).run pos pins s σ H (fun zs H3 => ∃ v1 v2 B3, zs = [v1, v2] ∧ Grow B H B3 H3 ∧ Rp X.K B3 v1 d1 ∧ Rp X.K B3 v2 d2) I ⟨B, F, W, fun v1 B1 H1 g1 r1 => ⟨B1, F, W.grow g1, fun v2 B2 H2 g2 r2 => ⟨v1, v2, B2, rfl, g1.trans g2, r1.mono g2.bb, r2⟩⟩⟩) fun ws s2 ⟨zs, H3, I3, rz, v1, v2, B3, ez, g3, r1, r2⟩ => ⟨I3.kIn, ?_⟩) hpl
  rw [hks]
  subst ez
  exact run_fnk (us := []) (vs := []) m3 hr m4 pass0 I3 .nil rz ⟨B3, [d2, d1], ns, g3.bh, .cons r2 (.cons r1 .nil), hf, fun a B4 H4 g4 n nb e => q a _ B4 H4 (g3.trans g4) (g3.hh.free n) nb e (RpA.ints ns)⟩
end
theorem xn_eq {X : Cx} {δ : List Slot} {e : Expr} {ds ds' : List PyData} (h : XN X δ e ds) (q : ds = ds') : XN X δ e ds' := q ▸ h
section
variable {P : Program} {w : World} {K : PySem.W.Frag} {mg : Str → Option Value} {base : Heap}
theorem def_freshNK {x : Str} {st : Stmt} {N ps : List Str} {k : Nat} {f : List PyData → List Int → Prop} (A : At K mg x st ps) (S : FnScope N ps (defScope st)) (len : ∀ ds ns, f ds ns → ds.length = ps.length)
    (body : ∀ (X : Cx), (∃ (fa : Addr) (cdv : Value) (A : Around) (outer : List Env) (s : Shared) (H : Hp) (E : XK), Room k (A.deeper (envOfC x (defScope st) s.heap.objs.size fa cdv)) ∧ X = (cxOf CX0 P w K mg base N x (defScope st) fa cdv A outer s H E).nox) → ∀ g ds ns, f ds ns → XB X (startD N (ds.map .dat)) (defBody st) { gh := g, rr := frN g ns }) :
    Def P w K mg base (k + 1) x ps (SpN K f) ∧ DefK P w K mg base (k + 1) x st ps (SpN K f) := by
  obtain ⟨fa, fd, h1, h2, h3⟩ := A.ex
  have ok : FnOk P w K mg base CX0 (k + 1) fa fd ps (SpN K f) := by
    refine h2.ok S (fun vs H Q E h => ?_) (fun cdv A outer s H vs Q E hr h => ?_)
    · obtain ⟨B, ds, ns, _, r, hf, _⟩ := h
      rw [r.length]
      exact len ds ns hf
    · obtain ⟨B, ds, ns, sm, r, hf, q⟩ := h
      refine ⟨_, body _ ⟨fa, cdv, A, outer, s, H, E, hr, rfl⟩ (some (B, H, fun _ => [])) ds ns hf, ?_⟩
      refine ts_iff.mpr ⟨B, _, envOk_dat sm r N, fun _ _ _ _ _ _ _ h => h.elim, fun _ _ _ _ _ _ _ _ _ h => h.elim, fun _ _ _ _ _ _ _ h => h.elim, fun _ _ _ _ _ _ _ h => h.elim, fun v σ2 δ2 B2 H2 F2 s2 W2 ⟨a, e, nb, hh, n⟩ => ?_, Step.refl⟩
      subst e
      exact q a B2 H2 ⟨s2.bb, W2.bh, fun b o hb => s2.keep b o hb (fun _ z => nomatch z), fun b o hb => s2.fr b o hb (fun _ z => nomatch z)⟩ (n _ rfl) nb hh
  exact ⟨⟨fa, fd, h1, h2.kp, h3, ok⟩, ⟨fa, fd, h1, h2.kp, h2, ok⟩⟩
theorem def_freshK {x : Str} {st : Stmt} {N ps : List Str} {k : Nat} {f : List PyData → List Bool → List Bool → Prop} (A : At K mg x st ps) (S : FnScope N ps (defScope st)) (len : ∀ ds l1 l2, f ds l1 l2 → ds.length = ps.length)
    (body : ∀ (X : Cx), (∃ (fa : Addr) (cdv : Value) (A : Around) (outer : List Env) (s : Shared) (H : Hp) (E : XK), Room k (A.deeper (envOfC x (defScope st) s.heap.objs.size fa cdv)) ∧ X = (cxOf CX0 P w K mg base N x (defScope st) fa cdv A outer s H E).nox) → ∀ g ds l1 l2, f ds l1 l2 → XB X (startD N (ds.map .dat)) (defBody st) { gh := g, rr := frR g l1 l2 }) :
    Def P w K mg base (k + 1) x ps (SpF K f) ∧ DefK P w K mg base (k + 1) x st ps (SpF K f) := by
  obtain ⟨fa, fd, h1, h2, h3⟩ := A.ex
  have ok : FnOk P w K mg base CX0 (k + 1) fa fd ps (SpF K f) := by
    refine h2.ok S (fun vs H Q E h => ?_) (fun cdv A outer s H vs Q E hr h => ?_)
    · obtain ⟨B, ds, l1, l2, _, r, hf, _⟩ := h
      rw [r.length]
      exact len ds l1 l2 hf
    · obtain ⟨B, ds, l1, l2, sm, r, hf, q⟩ := h
      refine ⟨_, body _ ⟨fa, cdv, A, outer, s, H, E, hr, rfl⟩ (some (B, H, fun _ => [])) ds l1 l2 hf, ?_⟩
      refine ts_iff.mpr ⟨B, _, envOk_dat sm r N, fun _ _ _ _ _ _ _ h => h.elim, fun _ _ _ _ _ _ _ _ _ h => h.elim, fun _ _ _ _ _ _ _ h => h.elim, fun _ _ _ _ _ _ _ h => h.elim, fun v σ2 δ2 B2 H2 F2 s2 W2 ⟨t, pa, qa, e, n⟩ => ?_, Step.refl⟩
      subst e
      exact q t pa qa H2 (fun b o hb => s2.keep b o hb (fun _ z => nomatch z)) (n _ rfl)
  exact ⟨⟨fa, fd, h1, h2.kp, h3, ok⟩, ⟨fa, fd, h1, h2.kp, h2, ok⟩⟩
theorem DefK.def_ {x : Str} {st : Stmt} {ps : List Str} {k : Nat} {sp : Sp} (h : DefK P w K mg base k x st ps sp) (A : At K mg x st ps) : Def P w K mg base k x ps sp := by
  obtain ⟨f, fd, h1, h2, h3, h4⟩ := h.ex
  obtain ⟨f', fd', a1, a2, a3⟩ := A.ex
  rw [h1] at a1
  cases a1
  obtain ⟨oc, od, kV, doc, pm, an, cdv, ct, osl, e1, lk, hcd⟩ := h3.ex
  obtain ⟨oc', od', kV', doc', pm', an', cdv', ct', osl', e2, lk', hcd'⟩ := a2.ex
  have e : fd = fd' := by
    subst e1
    subst e2
    rw [lk] at lk'
    injection lk' with lk'
    injection lk' with q1 q2 q3 q4
    injection q3
  subst e
  exact ⟨f, fd, h1, h2, a3, h4⟩
end
end Dl

set_option Elab.async false
set_option linter.all false
set_option maxRecDepth 100000
set_option maxHeartbeats 4000000
/-! The data level: ifs not entered whose question gives up a slot; rows of draws. -/
namespace Dl
open PySem PySem.Spec PyProof.Rows L2
section
variable {X : Cx} {δ δ1 δ2 : List Slot} {a b c e : Expr} {es : List Expr} {pos p0 : Pos} {sts rest : List Stmt} {R : Post} {Pd : PyData → Prop} {m : Nat}
theorem xft_orS (ha : XT X δ a false) (hb : XFT X δ b (fun k δ' => k = false ∧ δ' = δ2)) : XFT X δ (.BoolOp .Or [a, b] pos) (fun k δ' => k = false ∧ δ' = δ2) :=
  PW.pt ((pw_or ha (pw_or1 hb)).weak fun σ H Q ⟨B, F, W, q⟩ => ⟨B, F, W, fun B1 H1 g1 => by
    show tTE X.K δ _ σ H1 Q
    exact ⟨B1, F, W.grow g1, fun k δ3 B3 H3 F3 s3 W3 hp => q k δ3 B3 H3 F3 ((Step.of g1).trans s3) W3 hp⟩⟩)
theorem xft_notS (he : XF X δ a (fun d' δ' => d' = .bool true ∧ δ' = δ2)) (hT : ∀ whole, isTrue a X.env whole = (do let v ← whole; standAt a.pos; holding [v] (truthy v)) := by intro _; rfl) : XFT X δ (.UnaryOp .Not a p0) (fun b δ' => b = false ∧ δ' = δ2) :=
  xft_imp (xft_not (xft_tru (PB := fun b δ' => b = true ∧ δ' = δ2) he (fun d δ1 ⟨h1, h2⟩ => by subst h1; exact ⟨True.intro, rfl, h2⟩) hT)) fun b δ' ⟨h1, h2⟩ => ⟨(by cases b with | false => rfl | true => cases h1), h2⟩
theorem xb_ifOffS (hc : XFT X δ c (fun b δ' => b = false ∧ δ' = δ2)) (h : XB X δ2 rest R) : XB X δ (.If c sts [] pos :: rest) R :=
  xb_ifF (PB := fun b δ' => b = false ∧ δ' = δ2) (fun δ' => δ' = δ2) hc (fun δ1 h1 => by cases h1.1) (fun δ1 ⟨_, h1⟩ => xb_nil h1) (fun δ' h' => by subst h'; exact h)
theorem xf_imp' {P P' : PyData → List Slot → Prop} (h : XF X δ e P) (w : ∀ d δ', P d δ' → P' d δ') : XF X δ e P' := L2.PE.weak h fun σ H Q ⟨B, F, W, q⟩ => ⟨B, F, W, fun v d δ2 B2 H2 F2 s2 W2 h2 r2 => q v d δ2 B2 H2 F2 s2 W2 (w _ _ h2) r2⟩
theorem xfa_nilG : XFA X δ [] (fun ds δ' => (∀ d ∈ ds, Pd d) ∧ ds.length = 0 ∧ δ' = δ) := PA.weak (xfa_of (X := X) (δ := δ) xa_nil) fun σ H Q ⟨B, F, W, q⟩ => ⟨B, F, W, fun vs ds δ2 B2 H2 F2 s2 W2 ⟨h1, h2⟩ r2 => q vs ds δ2 B2 H2 F2 s2 W2 ⟨fun d hd => (by rw [h1] at hd; cases hd), (by rw [h1]; rfl), h2⟩ r2⟩
theorem xfa_consG (ha : XF X δ e (fun d δ' => Pd d ∧ δ' = δ1)) (hr : XFA X δ1 es (fun ds δ' => (∀ d ∈ ds, Pd d) ∧ ds.length = m ∧ δ' = δ2)) (hs : starEach (e :: es) X.env = (false, eval e X.env) :: starEach es X.env := by rfl) : XFA X δ (e :: es) (fun ds δ' => (∀ d ∈ ds, Pd d) ∧ ds.length = m + 1 ∧ δ' = δ2) :=
  xfa_cons ha (fun d1 δ3 ⟨h1, h2⟩ => by
    subst h2
    exact PA.weak hr fun σ H Q ⟨B, F, W, q⟩ => ⟨B, F, W, fun vs ds δ2 B2 H2 F2 s2 W2 ⟨h3, h4, h5⟩ r2 => q vs ds δ2 B2 H2 F2 s2 W2 ⟨fun d hd => by
      rcases List.mem_cons.mp hd with e | e
      · rw [e]; exact h1
      · exact h3 d e, by rw [List.length_cons, h4], h5⟩ r2⟩) hs
theorem xf_ofG {d : PyData} (h : XE X δ e d) (hd : Pd d) : XF X δ e (fun d δ' => Pd d ∧ δ' = δ) := xf_imp' (xf_of h) fun d' δ' ⟨h1, h2⟩ => ⟨by rw [h1]; exact hd, h2⟩
end
end Dl

/-! The mathematics of sets of numbers that come round. -/
set_option linter.all false
namespace Sm
abbrev S := List Bool × List Bool
def roundOk (r : List Bool) (p : Nat) : Bool := r.length % p == 0 && decide (r.drop p = r.take (r.length - p))
/-- the least p from a on that is a round's size; n how many are still to be tried -/
def roundFrom (r : List Bool) : Nat → Nat → Nat
  | 0, p => p
  | n + 1, p => if roundOk r p then p else roundFrom r n (p + 1)
def roundSize (r : List Bool) : Nat := roundFrom r (r.length - 1) 1
def leastLoop : Nat → List Bool → List Bool → S
  | 0, f, r => (f, r)
  | n + 1, f, r => if f ≠ [] ∧ f.getLast? = r.getLast? then leastLoop n f.dropLast ((r.getLast?.toList) ++ r.dropLast) else (f, r)
def leastOf (f r : List Bool) : S := leastLoop f.length f (r.take (roundSize r))
def inS (s : S) (n : Nat) : Bool := if n < s.1.length then s.1.getD n false else s.2.getD ((n - s.1.length) % s.2.length) false
theorem roundOk_len {r : List Bool} : roundOk r r.length = true := by
  unfold roundOk
  simp
theorem roundFrom_spec (r : List Bool) (hr : r ≠ []) : ∀ (n p : Nat), 1 ≤ p → p + n = r.length → p ≤ roundFrom r n p ∧ roundFrom r n p ≤ r.length ∧ roundOk r (roundFrom r n p) = true ∧ ∀ q, p ≤ q → q < roundFrom r n p → roundOk r q = false
  | 0, p, h1, h2 => by
    have e : p = r.length := by omega
    subst e
    refine ⟨Nat.le_refl _, Nat.le_refl _, ?_, fun q h3 h4 => ?_⟩
    · show roundOk r r.length = true
      exact roundOk_len
    · exact absurd (Nat.lt_of_le_of_lt h3 h4) (Nat.lt_irrefl _)
  | n + 1, p, h1, h2 => by
    unfold roundFrom
    by_cases h : roundOk r p = true
    · rw [if_pos h]
      exact ⟨Nat.le_refl _, by omega, h, fun q h3 h4 => absurd (Nat.lt_of_le_of_lt h3 h4) (Nat.lt_irrefl _)⟩
    · rw [if_neg h]
      obtain ⟨a, b, c, d⟩ := roundFrom_spec r hr n (p + 1) (by omega) (by omega)
      refine ⟨by omega, b, c, fun q h3 h4 => ?_⟩
      by_cases e : q = p
      · rw [e]
        cases hp : roundOk r p with
        | true => exact absurd hp h
        | false => rfl
      · exact d q (by omega) h4
theorem roundSize_spec {r : List Bool} (hr : r ≠ []) : 1 ≤ roundSize r ∧ roundSize r ≤ r.length ∧ roundOk r (roundSize r) = true ∧ ∀ q, 1 ≤ q → q < roundSize r → roundOk r q = false := by
  have : 0 < r.length := List.length_pos_iff.mpr hr
  exact roundFrom_spec r hr (r.length - 1) 1 (Nat.le_refl _) (by omega)
/-- a size that is good, none below it being so, is the round's -/
theorem roundSize_eq {r : List Bool} {p : Nat} (hr : r ≠ []) (h1 : 1 ≤ p) (h2 : roundOk r p = true) (h3 : ∀ q, 1 ≤ q → q < p → roundOk r q = false) : roundSize r = p := by
  obtain ⟨a, b, c, d⟩ := roundSize_spec hr
  by_cases e : p < roundSize r
  · rw [d p h1 e] at h2
    cases h2
  · by_cases e2 : roundSize r < p
    · rw [h3 _ a e2] at c
      cases c
    · omega
end Sm
namespace Sm
def setBy (s t : S) (p : Bool → Bool → Bool) : S :=
  let b := max s.1.length t.1.length
  let z := Nat.lcm s.2.length t.2.length
  let row := (List.range (b + z)).map fun n => p (inS s n) (inS t n)
  leastOf (row.take b) (row.drop b)
def otherOf (s : S) : S := (s.1.map not, s.2.map not)
def firstOf (s : S) : Option Nat := ((List.range (s.1.length + s.2.length)).filter (inS s)).head?
def setOf (l : List Nat) : S := leastOf ((List.range 60).map fun n => l.contains n) [false]
def upBy (s : S) (k : Nat) : S := leastOf (List.replicate k false ++ s.1) s.2
def downBy (s : S) (k : Nat) : S :=
  let b := s.1.length - k
  let row := (List.range (b + s.2.length)).map fun n => inS s (n + k)
  leastOf (row.take b) (row.drop b)
def lowBy (s : S) (k : Nat) : S :=
  let t := downBy s k
  let b := max 1 t.1.length
  let row := ((List.range (b + t.2.length)).map (inS t)).set 0 ((List.range (k + 1)).any (inS s))
  leastOf (row.take b) (row.drop b)
def sumSet (s t : S) : S :=
  let z := Nat.lcm s.2.length t.2.length
  let b := s.1.length + t.1.length + z
  let row := (List.range (b + z)).map fun n => (List.range (n + 1)).any fun k => inS s k && inS t (n - k)
  leastOf (row.take b) (row.drop b)
end Sm
namespace Sm
def maskOf (s : S) (n : Nat) : Nat := (((List.range n).filter (inS s)).map fun k => 2 ^ k).sum
theorem maskOf_succ (s : S) (n : Nat) : maskOf s (n + 1) = maskOf s n + if inS s n then 2 ^ n else 0 := by
  unfold maskOf
  rw [List.range_succ, List.filter_append, List.map_append, List.sum_append]
  congr 1
  cases h : inS s n with
  | true => simp [h]
  | false => simp [h]
theorem maskOf_lt (s : S) : ∀ n : Nat, maskOf s n < 2 ^ n
  | 0 => by simp [maskOf]
  | n + 1 => by
    rw [maskOf_succ]
    have := maskOf_lt s n
    rw [Nat.pow_succ]
    split <;> omega
theorem maskOf_bit (s : S) : ∀ (n k : Nat), (maskOf s n).testBit k = (decide (k < n) && inS s k)
  | 0, k => by simp [maskOf]
  | n + 1, k => by
    rw [maskOf_succ]
    have hlt := maskOf_lt s n
    have ih := maskOf_bit s n k
    cases h : inS s n with
    | true =>
      rw [if_pos rfl, Nat.add_comm]
      by_cases hk : k < n
      · rw [Nat.testBit_two_pow_add_gt hk, ih, decide_eq_true hk, decide_eq_true (show k < n + 1 by omega)]
      · by_cases e : k = n
        · subst e
          rw [Nat.testBit_two_pow_add_eq, ih, decide_eq_false hk, h, decide_eq_true (Nat.lt_succ_self k)]
          rfl
        · have h2 : 2 ^ n + maskOf s n < 2 ^ k := by
            have : 2 ^ (n + 1) ≤ 2 ^ k := Nat.pow_le_pow_right (by decide) (by omega)
            rw [Nat.pow_succ] at this
            omega
          rw [Nat.testBit_lt_two_pow h2, decide_eq_false (show ¬ k < n + 1 by omega)]
          rfl
    | false =>
      rw [if_neg (by decide), Nat.add_zero, ih]
      by_cases hk : k < n
      · rw [decide_eq_true hk, decide_eq_true (show k < n + 1 by omega)]
      · by_cases e : k = n
        · subst e
          rw [h, Bool.and_false, Bool.and_false]
        · rw [decide_eq_false hk, decide_eq_false (show ¬ k < n + 1 by omega)]
/-- the or of the masks moved by the numbers below n -/
def bothOf (s t : S) (N : Nat) : Nat → Nat
  | 0 => 0
  | n + 1 => if inS s n then bothOf s t N n ||| (maskOf t N * 2 ^ n) else bothOf s t N n
theorem bothOf_succ (s t : S) (N n : Nat) : bothOf s t N (n + 1) = if inS s n then bothOf s t N n ||| (maskOf t N * 2 ^ n) else bothOf s t N n := rfl
theorem bothOf_bit (s t : S) (N : Nat) : ∀ (n k : Nat), (bothOf s t N n).testBit k = (List.range n).any fun j => inS s j && (decide (j ≤ k) && (decide (k - j < N) && inS t (k - j)))
  | 0, k => by simp [bothOf]
  | n + 1, k => by
    have ih := bothOf_bit s t N n k
    rw [List.range_succ, List.any_append, ← ih, bothOf_succ]
    cases h : inS s n with
    | true =>
      rw [if_pos rfl, Nat.testBit_or, ← Nat.shiftLeft_eq, Nat.testBit_shiftLeft, maskOf_bit]
      simp [h]
    | false =>
      rw [if_neg (by decide)]
      simp [h]
end Sm
namespace Sm
theorem roundSize_le {r : List Bool} {p : Nat} (hr : r ≠ []) (h1 : 1 ≤ p) (h2 : roundOk r p = true) : roundSize r ≤ p := by
  obtain ⟨a, b, c, d⟩ := roundSize_spec hr
  by_cases e : p < roundSize r
  · rw [d p h1 e] at h2
    cases h2
  · omega
theorem roundOk_double (r : List Bool) : roundOk (r ++ r) r.length = true := by
  unfold roundOk
  have : (r ++ r).length - r.length = r.length := by rw [List.length_append]; omega
  rw [this, List.drop_left, List.take_left, List.length_append]
  simp [← Nat.two_mul]
end Sm

set_option linter.all false
namespace Sm
def Per (f : Nat → Bool) (k p : Nat) : Prop := ∀ n, k ≤ n → f (n + p) = f n
theorem Per.mul {f : Nat → Bool} {k p : Nat} (h : Per f k p) : ∀ (c n : Nat), k ≤ n → f (n + p * c) = f n
  | 0, n, hn => by rw [Nat.mul_zero, Nat.add_zero]
  | c + 1, n, hn => by
    rw [Nat.mul_succ, ← Nat.add_assoc, h _ (by omega), h.mul c n hn]
theorem Per.dvd {f : Nat → Bool} {k p q : Nat} (h : Per f k p) (hd : p ∣ q) : Per f k q := fun n hn => by
  obtain ⟨c, rfl⟩ := hd
  exact h.mul c n hn
theorem Per.le {f : Nat → Bool} {k k' p : Nat} (h : Per f k p) (hk : k ≤ k') : Per f k' p := fun n hn => h n (Nat.le_trans hk hn)
theorem Per.mod {f : Nat → Bool} {k p : Nat} (h : Per f k p) (j : Nat) : f (k + j % p) = f (k + j) := by
  have h1 := h.mul (j / p) (k + j % p) (by omega)
  rw [← h1, Nat.add_assoc, Nat.mod_add_div]
/-- a length that comes round from any place on does so from the place of another such length -/
theorem Per.back {f : Nat → Bool} {k k' p q : Nat} (h : Per f k p) (hp : 1 ≤ p) (g : Per f k' q) : Per f k q := fun n hn => by
  have h1 := h.mul k' n hn
  have h2 := h.mul k' (n + q) (by omega)
  have h3 : k' ≤ n + p * k' := by
    have : 1 * k' ≤ p * k' := Nat.mul_le_mul_right _ hp
    omega
  have h4 := g (n + p * k') h3
  rw [← h1, ← h2, ← h4]
  congr 1
  omega
theorem Per.gcd {f : Nat → Bool} {k : Nat} : ∀ (a b : Nat), Per f k a → Per f k b → Per f k (Nat.gcd a b) := fun a b => by
  induction a, b using Nat.gcd.induction with
  | H0 n =>
    intro _ h
    rw [Nat.gcd_zero_left]
    exact h
  | H1 m n hm ih =>
    intro h1 h2
    rw [Nat.gcd_rec]
    refine ih (fun x hx => ?_) h1
    have := h1.mul (n / m) (x + n % m) (by omega)
    rw [← this, Nat.add_assoc, Nat.mod_add_div]
    exact h2 x hx
theorem inS_lt {s : S} {n : Nat} (h : n < s.1.length) : inS s n = s.1[n] := by
  unfold inS
  rw [if_pos h, List.getD_eq_getElem?_getD, List.getElem?_eq_getElem h]
  rfl
theorem inS_ge {s : S} {n : Nat} (h : s.1.length ≤ n) : inS s n = s.2.getD ((n - s.1.length) % s.2.length) false := by
  unfold inS
  rw [if_neg (by omega)]
theorem per_inS (s : S) : Per (inS s) s.1.length s.2.length := fun n hn => by
  rw [inS_ge hn, inS_ge (by omega), show n + s.2.length - s.1.length = (n - s.1.length) + s.2.length by omega, Nat.add_mod_right]
theorem few_eq (s : S) : s.1 = (List.range s.1.length).map (inS s) := by
  refine List.ext_getElem (by rw [List.length_map, List.length_range]) fun n h1 h2 => ?_
  rw [List.getElem_map, List.getElem_range, inS_lt h1]
theorem ring_eq (s : S) : s.2 = (List.range s.2.length).map fun j => inS s (s.1.length + j) := by
  refine List.ext_getElem (by rw [List.length_map, List.length_range]) fun n h1 h2 => ?_
  rw [List.getElem_map, List.getElem_range, inS_ge (by omega), show s.1.length + n - s.1.length = n by omega, Nat.mod_eq_of_lt h1, List.getD_eq_getElem?_getD, List.getElem?_eq_getElem h1]
  rfl
structure Canon (s : S) : Prop where
  ne : s.2 ≠ []
  per : ∀ q k, 1 ≤ q → Per (inS s) k q → s.2.length ≤ q
  few : ∀ k, Per (inS s) k s.2.length → s.1.length ≤ k
theorem Canon.pos {s : S} (h : Canon s) : 1 ≤ s.2.length := List.length_pos_iff.mpr h.ne
theorem Canon.eq {s t : S} (hs : Canon s) (ht : Canon t) (h : ∀ n, inS s n = inS t n) : s = t := by
  have hf : inS s = inS t := funext h
  have hp : s.2.length = t.2.length := by
    have h1 := hs.per _ _ ht.pos (by rw [hf]; exact per_inS t)
    have h2 := ht.per _ _ hs.pos (by rw [← hf]; exact per_inS s)
    omega
  have hk : s.1.length = t.1.length := by
    have h1 := hs.few t.1.length (by rw [hf, hp]; exact per_inS t)
    have h2 := ht.few s.1.length (by rw [← hf, ← hp]; exact per_inS s)
    omega
  have e1 : s.1 = t.1 := by rw [few_eq s, few_eq t, hk, hf]
  have e2 : s.2 = t.2 := by rw [ring_eq s, ring_eq t, hp, hk, hf]
  exact Prod.ext e1 e2
theorem Canon.iff {s t : S} (hs : Canon s) (ht : Canon t) : s = t ↔ ∀ n, inS s n = inS t n := ⟨fun h n => by rw [h], hs.eq ht⟩
/-! the row of a set -/
theorem inS_row {h : Nat → Bool} {b z : Nat} (hp : Per h b z) (hz : 0 < z) (n : Nat) : inS (((List.range (b + z)).map h).take b, ((List.range (b + z)).map h).drop b) n = h n := by
  have l1 : (((List.range (b + z)).map h).take b).length = b := by rw [List.length_take, List.length_map, List.length_range]; omega
  have l2 : (((List.range (b + z)).map h).drop b).length = z := by rw [List.length_drop, List.length_map, List.length_range]; omega
  by_cases hn : n < b
  · rw [inS_lt (by rw [l1]; exact hn)]
    show (((List.range (b + z)).map h).take b)[n]'(by rw [l1]; exact hn) = _
    rw [List.getElem_take, List.getElem_map, List.getElem_range]
  · rw [inS_ge (by rw [l1]; omega)]
    show (((List.range (b + z)).map h).drop b).getD ((n - (((List.range (b + z)).map h).take b).length) % (((List.range (b + z)).map h).drop b).length) false = _
    rw [l1, l2]
    have hm : (n - b) % z < z := Nat.mod_lt _ hz
    rw [List.getD_eq_getElem?_getD, List.getElem?_drop, List.getElem?_map, List.getElem?_range (by omega)]
    show h (b + (n - b) % z) = h n
    rw [hp.mod]
    congr 1
    omega
/-! the loop -/
theorem rot_get (a : Bool) (r : List Bool) (j : Nat) : (a :: r).getD ((j + 1) % (r.length + 1)) false = (r ++ [a]).getD (j % (r.length + 1)) false := by
  have hm : j % (r.length + 1) < r.length + 1 := Nat.mod_lt _ (Nat.succ_pos _)
  have e : (j + 1) % (r.length + 1) = if j % (r.length + 1) = r.length then 0 else j % (r.length + 1) + 1 := by
    rw [Nat.add_mod]
    by_cases h0 : r.length = 0
    · rw [h0]
      simp [Nat.mod_one]
    · have h1 : 1 % (r.length + 1) = 1 := Nat.mod_eq_of_lt (by omega)
      rw [h1]
      split
      · rename_i h2
        rw [h2, Nat.mod_self]
      · exact Nat.mod_eq_of_lt (by omega)
  rw [e]
  generalize j % (r.length + 1) = i at hm
  split
  · rename_i h2
    subst h2
    simp [List.getD_eq_getElem?_getD]
  · rename_i h2
    simp only [List.getD_eq_getElem?_getD]
    rw [List.getElem?_cons_succ, List.getElem?_append_left (by omega)]
theorem inS_rot (f r : List Bool) (a : Bool) (n : Nat) : inS (f, a :: r) n = inS (f ++ [a], r ++ [a]) n := by
  have la : (f ++ [a]).length = f.length + 1 := by rw [List.length_append]; rfl
  have lr : (r ++ [a]).length = r.length + 1 := by rw [List.length_append]; rfl
  by_cases h1 : n < f.length
  · rw [inS_lt (s := (f, a :: r)) h1, inS_lt (s := (f ++ [a], r ++ [a])) (show n < (f ++ [a]).length by omega)]
    show f[n] = (f ++ [a])[n]
    rw [List.getElem_append_left h1]
  · by_cases h2 : n = f.length
    · subst h2
      rw [inS_ge (s := (f, a :: r)) (Nat.le_refl _), inS_lt (s := (f ++ [a], r ++ [a])) (show f.length < (f ++ [a]).length by omega)]
      simp
    · rw [inS_ge (s := (f, a :: r)) (show f.length ≤ n by omega), inS_ge (s := (f ++ [a], r ++ [a])) (show (f ++ [a]).length ≤ n by omega)]
      show (a :: r).getD ((n - f.length) % (r.length + 1)) false = (r ++ [a]).getD ((n - (f ++ [a]).length) % (r ++ [a]).length) false
      rw [la, lr, show n - f.length = (n - (f.length + 1)) + 1 by omega, rot_get]
theorem leastLoop_spec : ∀ (n : Nat) (f r : List Bool), f.length = n → r ≠ [] → (∀ m, inS (leastLoop n f r) m = inS (f, r) m) ∧ (leastLoop n f r).2.length = r.length ∧ (leastLoop n f r).1.length ≤ f.length ∧ ((leastLoop n f r).1 = [] ∨ (leastLoop n f r).1.getLast? ≠ (leastLoop n f r).2.getLast?)
  | 0, f, r, hf, hr => ⟨fun _ => rfl, rfl, Nat.le_refl _, .inl (List.length_eq_zero_iff.mp hf)⟩
  | n + 1, f, r, hf, hr => by
    unfold leastLoop
    split
    · rename_i h
      obtain ⟨hne, hl⟩ := h
      obtain ⟨a, ha⟩ : ∃ a, r.getLast? = some a := ⟨_, List.getLast?_eq_some_getLast hr⟩
      obtain ⟨r', rfl⟩ := List.getLast?_eq_some_iff.mp ha
      rw [ha] at hl
      obtain ⟨f', rfl⟩ := List.getLast?_eq_some_iff.mp hl
      rw [ha, List.dropLast_concat, List.dropLast_concat]
      show (∀ m, inS (leastLoop n f' (a :: r')) m = _) ∧ _
      have hf' : f'.length = n := by
        rw [List.length_append] at hf
        simpa using hf
      obtain ⟨h1, h2, h3, h4⟩ := leastLoop_spec n f' (a :: r') hf' (List.cons_ne_nil _ _)
      refine ⟨fun m => by rw [h1, inS_rot], ?_, ?_, h4⟩
      · show (leastLoop n f' (a :: r')).2.length = _
        rw [h2, List.length_cons, List.length_append]
        rfl
      · show (leastLoop n f' (a :: r')).1.length ≤ _
        rw [List.length_append]
        omega
    · rename_i h
      refine ⟨fun _ => rfl, rfl, Nat.le_refl _, ?_⟩
      by_cases hne : f = []
      · exact .inl hne
      · exact .inr fun hl => h ⟨hne, hl⟩
theorem round_get {r : List Bool} {p : Nat} (h : roundOk r p = true) (hp : 1 ≤ p) (hl : p ≤ r.length) : p ∣ r.length ∧ ∀ j, j < r.length → r.getD j false = r.getD (j % p) false := by
  unfold roundOk at h
  rw [Bool.and_eq_true, beq_iff_eq, decide_eq_true_eq] at h
  refine ⟨Nat.dvd_of_mod_eq_zero h.1, fun j => ?_⟩
  induction j using Nat.strongRecOn with
  | ind j ih =>
    intro hj
    by_cases hjp : j < p
    · rw [Nat.mod_eq_of_lt hjp]
    · have e1 := congrArg (fun l : List Bool => l[j - p]?) h.2
      simp only [List.getElem?_drop, List.getElem?_take] at e1
      rw [if_pos (by omega), show p + (j - p) = j by omega] at e1
      rw [List.getD_eq_getElem?_getD, e1, ← List.getD_eq_getElem?_getD, ih (j - p) (by omega) (by omega)]
      congr 1
      exact (Nat.mod_eq_sub_mod (by omega)).symm
theorem inS_round (f : List Bool) {r : List Bool} (hr : r ≠ []) (n : Nat) : inS (f, r.take (roundSize r)) n = inS (f, r) n := by
  obtain ⟨h1, h2, h3, _⟩ := roundSize_spec hr
  obtain ⟨hd, hg⟩ := round_get h3 h1 h2
  have hl : (r.take (roundSize r)).length = roundSize r := by rw [List.length_take]; omega
  by_cases hn : n < f.length
  · rw [inS_lt (s := (f, r)) hn, inS_lt (s := (f, r.take (roundSize r))) hn]
  · rw [inS_ge (s := (f, r)) (by exact Nat.le_of_not_lt hn), inS_ge (s := (f, r.take (roundSize r))) (by exact Nat.le_of_not_lt hn)]
    show (r.take (roundSize r)).getD ((n - f.length) % (r.take (roundSize r)).length) false = r.getD ((n - f.length) % r.length) false
    have hpos : 0 < r.length := by omega
    rw [hl, hg _ (Nat.mod_lt _ hpos), Nat.mod_mod_of_dvd _ hd, List.getD_eq_getElem?_getD, List.getElem?_take, if_pos (Nat.mod_lt _ h1), ← List.getD_eq_getElem?_getD]
theorem leastOf_spec (f : List Bool) {r : List Bool} (hr : r ≠ []) : (∀ m, inS (leastOf f r) m = inS (f, r) m) ∧ (leastOf f r).2.length = roundSize r ∧ (leastOf f r).1.length ≤ f.length ∧ ((leastOf f r).1 = [] ∨ (leastOf f r).1.getLast? ≠ (leastOf f r).2.getLast?) := by
  obtain ⟨h1, h2, _⟩ := roundSize_spec hr
  have hl : (r.take (roundSize r)).length = roundSize r := by rw [List.length_take]; omega
  obtain ⟨a, b, c, d⟩ := leastLoop_spec f.length f (r.take (roundSize r)) rfl (fun z => by rw [z] at hl; simp at hl; omega)
  exact ⟨fun m => (a m).trans (inS_round f hr m), b.trans hl, c, d⟩
theorem inS_least (f : List Bool) {r : List Bool} (hr : r ≠ []) (m : Nat) : inS (leastOf f r) m = inS (f, r) m := (leastOf_spec f hr).1 m
theorem canon_least (f : List Bool) {r : List Bool} (hr : r ≠ []) : Canon (leastOf f r) := by
  obtain ⟨h1, h2, h3, h4⟩ := leastOf_spec f hr
  obtain ⟨g1, g2, g3, g4⟩ := roundSize_spec hr
  have hf : inS (leastOf f r) = inS (f, r) := funext h1
  refine ⟨fun z => by rw [z] at h2; simp at h2; omega, fun q k hq hp => ?_, fun k hp => ?_⟩
  · rw [h2]
    rw [hf] at hp
    have hN : 1 ≤ r.length := by omega
    have hp0 : Per (inS (f, r)) f.length r.length := per_inS (f, r)
    have hp1 : Per (inS (f, r)) f.length (Nat.gcd q r.length) := Per.gcd _ _ (hp0.back hN hp) hp0
    have hd0 : 0 < Nat.gcd q r.length := Nat.gcd_pos_of_pos_left _ hq
    have hd1 : Nat.gcd q r.length ∣ r.length := Nat.gcd_dvd_right _ _
    have hok : roundOk r (Nat.gcd q r.length) = true := by
      unfold roundOk
      rw [Bool.and_eq_true, beq_iff_eq, decide_eq_true_eq]
      refine ⟨Nat.mod_eq_zero_of_dvd hd1, ?_⟩
      have hdl := Nat.le_of_dvd (by omega) hd1
      refine List.ext_getElem (by rw [List.length_drop, List.length_take]; omega) fun i i1 i2 => ?_
      rw [List.length_drop] at i1
      rw [List.getElem_drop, List.getElem_take]
      have e1 := hp1 (f.length + i) (by omega)
      rw [inS_ge (s := (f, r)) (by show f.length ≤ _; omega), inS_ge (s := (f, r)) (by show f.length ≤ _; omega)] at e1
      have e1 : r.getD ((f.length + i + Nat.gcd q r.length - f.length) % r.length) false = r.getD ((f.length + i - f.length) % r.length) false := e1
      rw [show f.length + i + Nat.gcd q r.length - f.length = Nat.gcd q r.length + i by omega, show f.length + i - f.length = i by omega, Nat.mod_eq_of_lt (by omega), Nat.mod_eq_of_lt (by omega), List.getD_eq_getElem?_getD, List.getD_eq_getElem?_getD, List.getElem?_eq_getElem (by omega), List.getElem?_eq_getElem (by omega)] at e1
      exact e1
    have := roundSize_le hr hd0 hok
    exact Nat.le_trans this (Nat.gcd_le_left _ hq)
  · rcases h4 with h4 | h4
    · rw [h4]; exact Nat.zero_le _
    · by_cases hk : (leastOf f r).1.length ≤ k
      · exact hk
      · exfalso
        apply h4
        generalize leastOf f r = t at *
        have hl1 : 0 < t.1.length := by omega
        have hl2 : 0 < t.2.length := by omega
        have e := hp (t.1.length - 1) (by omega)
        rw [inS_lt (show t.1.length - 1 < t.1.length by omega), inS_ge (by omega), show t.1.length - 1 + t.2.length - t.1.length = t.2.length - 1 by omega, Nat.mod_eq_of_lt (by omega), List.getD_eq_getElem?_getD, List.getElem?_eq_getElem (by omega)] at e
        rw [List.getLast?_eq_getElem?, List.getLast?_eq_getElem?, List.getElem?_eq_getElem (by omega), List.getElem?_eq_getElem (by omega)]
        congr 1
        exact e.symm
/-- a set told by its row from a least length and a least beginning on -/
theorem canon_of {h : Nat → Bool} {k p : Nat} (hp : 1 ≤ p) (hP : Per h k p) (h1 : ∀ q k', 1 ≤ q → Per h k' q → p ≤ q) (h2 : ∀ k', Per h k' p → k ≤ k') : Canon ((List.range k).map h, (List.range p).map fun j => h (k + j)) ∧ ∀ n, inS ((List.range k).map h, (List.range p).map fun j => h (k + j)) n = h n := by
  have e : ((List.range k).map h, (List.range p).map fun j => h (k + j)) = (((List.range (k + p)).map h).take k, ((List.range (k + p)).map h).drop k) := by
    refine Prod.ext ?_ ?_
    · show (List.range k).map h = ((List.range (k + p)).map h).take k
      rw [← List.map_take, List.take_range, show min k (k + p) = k by omega]
    · show ((List.range p).map fun j => h (k + j)) = ((List.range (k + p)).map h).drop k
      refine List.ext_getElem (by simp) fun i i1 i2 => ?_
      simp
  have hi : ∀ n, inS ((List.range k).map h, (List.range p).map fun j => h (k + j)) n = h n := fun n => by
    rw [e]
    exact inS_row hP hp n
  have hf : inS ((List.range k).map h, (List.range p).map fun j => h (k + j)) = h := funext hi
  refine ⟨⟨fun z => ?_, fun q k' hq hk => ?_, fun k' hk => ?_⟩, hi⟩
  · have := congrArg List.length z
    simp at this
    omega
  · show ((List.range p).map fun j => h (k + j)).length ≤ q
    rw [List.length_map, List.length_range]
    rw [hf] at hk
    exact h1 q k' hq hk
  · show ((List.range k).map h).length ≤ k'
    rw [List.length_map, List.length_range]
    rw [hf] at hk
    have hk : Per h k' ((List.range p).map fun j => h (k + j)).length := hk
    rw [List.length_map, List.length_range] at hk
    exact h2 k' hk
end Sm

set_option linter.all false
namespace Sm
theorem ne_of_len {l : List Bool} (h : 0 < l.length) : l ≠ [] := List.length_pos_iff.mp h
theorem row_ne {h : Nat → Bool} {b z : Nat} (hz : 0 < z) : ((List.range (b + z)).map h).drop b ≠ [] := ne_of_len (by rw [List.length_drop, List.length_map, List.length_range]; omega)
/-- what is made of a row -/
theorem least_row {h : Nat → Bool} {b z : Nat} (hp : Per h b z) (hz : 0 < z) : Canon (leastOf (((List.range (b + z)).map h).take b) (((List.range (b + z)).map h).drop b)) ∧ (∀ n, inS (leastOf (((List.range (b + z)).map h).take b) (((List.range (b + z)).map h).drop b)) n = h n) ∧ (leastOf (((List.range (b + z)).map h).take b) (((List.range (b + z)).map h).drop b)).1.length ≤ b ∧ (leastOf (((List.range (b + z)).map h).take b) (((List.range (b + z)).map h).drop b)).2.length ≤ z := by
  have hne := row_ne (h := h) (b := b) hz
  refine ⟨canon_least _ hne, fun n => (inS_least _ hne n).trans (inS_row hp hz n), ?_, ?_⟩
  · refine Nat.le_trans (leastOf_spec _ hne).2.2.1 ?_
    rw [List.length_take]
    omega
  · rw [(leastOf_spec _ hne).2.1]
    refine Nat.le_trans (roundSize_spec hne).2.1 ?_
    rw [List.length_drop, List.length_map, List.length_range]
    omega
/-! one set by two -/
section
variable {s t : S} {p : Bool → Bool → Bool}
theorem lcm_pos' (h1 : s.2 ≠ []) (h2 : t.2 ≠ []) : 0 < Nat.lcm s.2.length t.2.length := Nat.lcm_pos (List.length_pos_iff.mpr h1) (List.length_pos_iff.mpr h2)
theorem per_two (s t : S) (p : Bool → Bool → Bool) : Per (fun n => p (inS s n) (inS t n)) (max s.1.length t.1.length) (Nat.lcm s.2.length t.2.length) := fun n hn => by
  show p (inS s (n + _)) (inS t (n + _)) = p (inS s n) (inS t n)
  rw [((per_inS s).dvd (Nat.dvd_lcm_left _ _)) n (by omega), ((per_inS t).dvd (Nat.dvd_lcm_right _ _)) n (by omega)]
theorem setBy_all (h1 : s.2 ≠ []) (h2 : t.2 ≠ []) (p : Bool → Bool → Bool) : Canon (setBy s t p) ∧ (∀ n, inS (setBy s t p) n = p (inS s n) (inS t n)) ∧ (setBy s t p).1.length ≤ max s.1.length t.1.length ∧ (setBy s t p).2.length ≤ Nat.lcm s.2.length t.2.length :=
  least_row (per_two s t p) (lcm_pos' h1 h2)
end
/-! the others -/
theorem inS_other {s : S} (h : s.2 ≠ []) (n : Nat) : inS (otherOf s) n = !inS s n := by
  have hp : 0 < s.2.length := List.length_pos_iff.mpr h
  by_cases hn : n < s.1.length
  · rw [inS_lt hn, inS_lt (show n < (s.1.map not).length by rw [List.length_map]; exact hn)]
    exact List.getElem_map _
  · have hm : (n - s.1.length) % s.2.length < s.2.length := Nat.mod_lt _ hp
    rw [inS_ge (Nat.le_of_not_lt hn), inS_ge (show (s.1.map not).length ≤ n by rw [List.length_map]; omega)]
    show (s.2.map not).getD ((n - (s.1.map not).length) % (s.2.map not).length) false = _
    rw [List.length_map, List.length_map, List.getD_eq_getElem?_getD, List.getD_eq_getElem?_getD, List.getElem?_map, List.getElem?_eq_getElem hm]
    rfl
theorem per_not {f : Nat → Bool} {k p : Nat} (h : Per (fun n => !f n) k p) : Per f k p := fun n hn => by
  have := h n hn
  have this : (!f (n + p)) = !f n := this
  cases h1 : f (n + p) <;> cases h2 : f n <;> rw [h1, h2] at this <;> first | rfl | cases this
theorem canon_other {s : S} (h : Canon s) : Canon (otherOf s) := by
  have hf : inS (otherOf s) = fun n => !inS s n := funext (inS_other h.ne)
  have l1 : (otherOf s).1.length = s.1.length := List.length_map _
  have l2 : (otherOf s).2.length = s.2.length := List.length_map _
  refine ⟨ne_of_len (by rw [l2]; exact h.pos), fun q k hq hp => ?_, fun k hp => ?_⟩
  · rw [l2]
    rw [hf] at hp
    exact h.per q k hq (per_not hp)
  · rw [l1]
    rw [hf, l2] at hp
    exact h.few k (per_not hp)
/-! the first -/
theorem inS_reduce {s : S} (h : s.2 ≠ []) {n : Nat} (hn : inS s n = true) : ∃ m, m < s.1.length + s.2.length ∧ m ≤ n ∧ inS s m = true := by
  have hp : 0 < s.2.length := List.length_pos_iff.mpr h
  by_cases h1 : n < s.1.length + s.2.length
  · exact ⟨n, h1, Nat.le_refl _, hn⟩
  · have hm : (n - s.1.length) % s.2.length < s.2.length := Nat.mod_lt _ hp
    have hle := Nat.mod_le (n - s.1.length) s.2.length
    refine ⟨s.1.length + (n - s.1.length) % s.2.length, by omega, by omega, ?_⟩
    rw [(per_inS s).mod, show s.1.length + (n - s.1.length) = n by omega]
    exact hn
theorem firstOf_none {s : S} (h : s.2 ≠ []) : firstOf s = none ↔ ∀ n, inS s n = false := by
  unfold firstOf
  rw [List.head?_eq_none_iff, List.filter_eq_nil_iff]
  constructor
  · intro hh n
    cases hn : inS s n with
    | false => rfl
    | true =>
      obtain ⟨m, h1, _, h2⟩ := inS_reduce h hn
      exact absurd h2 (hh m (List.mem_range.mpr h1))
  · intro hh a _
    rw [hh a]
    decide
theorem range_filter_head {f : Nat → Bool} {a : Nat} : ∀ {b : Nat}, (∀ n, f n = true → ∃ m, m < a ∧ m ≤ n ∧ f m = true) → ((List.range (a + b)).filter f).head? = ((List.range a).filter f).head? := fun {b} h => by
  rw [List.range_add, List.filter_append, List.head?_append]
  cases hh : (List.filter f (List.range a)).head? with
  | some x => rfl
  | none =>
    rw [List.head?_eq_none_iff, List.filter_eq_nil_iff] at hh
    have : (List.map (fun x => a + x) (List.range b)).filter f = [] := by
      rw [List.filter_eq_nil_iff]
      intro x _ hx
      obtain ⟨m, h1, _, h2⟩ := h x hx
      exact hh m (List.mem_range.mpr h1) h2
    rw [this]
    rfl
theorem firstOf_range {s : S} (h : s.2 ≠ []) {N : Nat} (hN : s.1.length + s.2.length ≤ N) : ((List.range N).filter (inS s)).head? = firstOf s := by
  obtain ⟨b, rfl⟩ : ∃ b, N = s.1.length + s.2.length + b := ⟨_, (Nat.add_sub_cancel' hN).symm⟩
  exact range_filter_head fun n hn => inS_reduce h hn
/-! up, down, low, sum, set -/
theorem inS_up (f r : List Bool) (k n : Nat) : inS (List.replicate k false ++ f, r) n = if n < k then false else inS (f, r) (n - k) := by
  have hl : (List.replicate k false ++ f).length = k + f.length := by rw [List.length_append, List.length_replicate]
  by_cases h1 : n < k
  · rw [if_pos h1, inS_lt (s := (List.replicate k false ++ f, r)) (by show n < (List.replicate k false ++ f).length; omega)]
    show (List.replicate k false ++ f)[n]'(by omega) = false
    rw [List.getElem_append_left (by rw [List.length_replicate]; exact h1), List.getElem_replicate]
  · rw [if_neg h1]
    by_cases h2 : n < k + f.length
    · rw [inS_lt (s := (List.replicate k false ++ f, r)) (by show n < (List.replicate k false ++ f).length; omega), inS_lt (s := (f, r)) (by show n - k < f.length; omega)]
      show (List.replicate k false ++ f)[n]'(by omega) = f[n - k]'(by omega)
      rw [List.getElem_append_right (by rw [List.length_replicate]; omega)]
      congr 1
      rw [List.length_replicate]
    · rw [inS_ge (s := (List.replicate k false ++ f, r)) (by show (List.replicate k false ++ f).length ≤ n; omega), inS_ge (s := (f, r)) (by show f.length ≤ n - k; omega)]
      show r.getD ((n - (List.replicate k false ++ f).length) % r.length) false = r.getD ((n - k - f.length) % r.length) false
      rw [hl, show n - (k + f.length) = n - k - f.length by omega]
theorem upBy_all {s : S} (h : s.2 ≠ []) (k : Nat) : Canon (upBy s k) ∧ (∀ n, inS (upBy s k) n = if n < k then false else inS s (n - k)) ∧ (upBy s k).1.length ≤ k + s.1.length ∧ (upBy s k).2.length ≤ s.2.length := by
  refine ⟨canon_least _ h, fun n => (inS_least _ h n).trans (inS_up _ _ _ _), ?_, ?_⟩
  · refine Nat.le_trans (leastOf_spec _ h).2.2.1 ?_
    rw [List.length_append, List.length_replicate]
    exact Nat.le_refl _
  · show (leastOf _ s.2).2.length ≤ _
    rw [(leastOf_spec _ h).2.1]
    exact (roundSize_spec h).2.1
theorem downBy_all {s : S} (h : s.2 ≠ []) (k : Nat) : Canon (downBy s k) ∧ (∀ n, inS (downBy s k) n = inS s (n + k)) ∧ (downBy s k).1.length ≤ s.1.length - k ∧ (downBy s k).2.length ≤ s.2.length :=
  least_row (h := fun n => inS s (n + k)) (fun n hn => by
    show inS s (n + s.2.length + k) = inS s (n + k)
    rw [show n + s.2.length + k = n + k + s.2.length by omega]
    exact per_inS s _ (by omega)) (List.length_pos_iff.mpr h)
theorem set0_row (h : Nat → Bool) (v : Bool) (n : Nat) : ((List.range n).map h).set 0 v = (List.range n).map fun i => if i = 0 then v else h i := by
  refine List.ext_getElem (by simp) fun i h1 h2 => ?_
  rw [List.getElem_set, List.getElem_map, List.getElem_map, List.getElem_range]
  by_cases hi : i = 0
  · subst hi
    simp
  · rw [if_neg (fun z => hi z.symm), if_neg hi]
theorem lowBy_all {s : S} (h : s.2 ≠ []) (k : Nat) : Canon (lowBy s k) ∧ (∀ n, inS (lowBy s k) n = if n = 0 then (List.range (k + 1)).any (inS s) else inS s (n + k)) ∧ (lowBy s k).1.length ≤ max 1 (s.1.length - k) ∧ (lowBy s k).2.length ≤ s.2.length := by
  obtain ⟨d1, d2, d3, d4⟩ := downBy_all h k
  have hr := least_row (h := fun i => if i = 0 then (List.range (k + 1)).any (inS s) else inS (downBy s k) i) (b := max 1 (downBy s k).1.length) (z := (downBy s k).2.length) (fun n hn => by
    show (if n + (downBy s k).2.length = 0 then _ else inS (downBy s k) (n + (downBy s k).2.length)) = if n = 0 then _ else inS (downBy s k) n
    rw [if_neg (by omega), if_neg (by omega)]
    exact per_inS _ _ (by omega)) d1.pos
  rw [← set0_row] at hr
  obtain ⟨a, b, c, d⟩ := hr
  refine ⟨a, fun n => ?_, ?_, Nat.le_trans d d4⟩
  · rw [← d2]
    exact b n
  · exact Nat.le_trans c (by omega)
theorem per_sum (s t : S) (h1 : s.2 ≠ []) (h2 : t.2 ≠ []) : Per (fun n => (List.range (n + 1)).any fun k => inS s k && inS t (n - k)) (s.1.length + t.1.length + Nat.lcm s.2.length t.2.length) (Nat.lcm s.2.length t.2.length) := fun n hn => by
  have hs : Per (inS s) s.1.length (Nat.lcm s.2.length t.2.length) := (per_inS s).dvd (Nat.dvd_lcm_left _ _)
  have ht : Per (inS t) t.1.length (Nat.lcm s.2.length t.2.length) := (per_inS t).dvd (Nat.dvd_lcm_right _ _)
  have hz := lcm_pos' h1 h2
  generalize Nat.lcm s.2.length t.2.length = z at *
  rw [Bool.eq_iff_iff]
  simp only [List.any_eq_true, List.mem_range, Bool.and_eq_true]
  constructor
  · rintro ⟨k, h0, h1, h2⟩
    by_cases hk : s.1.length + z ≤ k
    · refine ⟨k - z, by omega, ?_, ?_⟩
      · rw [← hs (k - z) (by omega), show k - z + z = k by omega]
        exact h1
      · rw [show n - (k - z) = n + z - k by omega]
        exact h2
    · refine ⟨k, by omega, h1, ?_⟩
      rw [← ht (n - k) (by omega), show n - k + z = n + z - k by omega]
      exact h2
  · rintro ⟨k, h0, h1, h2⟩
    by_cases hk : s.1.length ≤ k
    · refine ⟨k + z, by omega, ?_, ?_⟩
      · rw [hs k hk]
        exact h1
      · rw [show n + z - (k + z) = n - k by omega]
        exact h2
    · refine ⟨k, by omega, h1, ?_⟩
      rw [show n + z - k = n - k + z by omega, ht (n - k) (by omega)]
      exact h2
theorem sumSet_all {s t : S} (h1 : s.2 ≠ []) (h2 : t.2 ≠ []) : Canon (sumSet s t) ∧ (∀ n, inS (sumSet s t) n = (List.range (n + 1)).any fun k => inS s k && inS t (n - k)) ∧ (sumSet s t).1.length ≤ s.1.length + t.1.length + Nat.lcm s.2.length t.2.length ∧ (sumSet s t).2.length ≤ Nat.lcm s.2.length t.2.length :=
  least_row (per_sum s t h1 h2) (lcm_pos' h1 h2)
theorem setOf_all (l : List Nat) : Canon (setOf l) ∧ (∀ n, inS (setOf l) n = (decide (n < 60) && l.contains n)) ∧ (setOf l).1.length ≤ 60 ∧ (setOf l).2.length ≤ 1 := by
  have h : ([false] : List Bool) ≠ [] := List.cons_ne_nil _ _
  refine ⟨canon_least _ h, fun n => (inS_least _ h n).trans ?_, ?_, ?_⟩
  · have hl : ((List.range 60).map fun n => l.contains n).length = 60 := by rw [List.length_map, List.length_range]
    by_cases hn : n < 60
    · rw [inS_lt (s := ((List.range 60).map fun n => l.contains n, [false])) (by show n < ((List.range 60).map fun n => l.contains n).length; omega), decide_eq_true hn, Bool.true_and]
      show ((List.range 60).map fun n => l.contains n)[n]'(by omega) = _
      rw [List.getElem_map, List.getElem_range]
    · rw [inS_ge (s := ((List.range 60).map fun n => l.contains n, [false])) (by show ((List.range 60).map fun n => l.contains n).length ≤ n; omega), decide_eq_false hn]
      show ([false] : List Bool).getD (_ % 1) false = _
      rw [Nat.mod_one]
      rfl
  · refine Nat.le_trans (leastOf_spec _ h).2.2.1 ?_
    rw [List.length_map, List.length_range]
    exact Nat.le_refl _
  · show (leastOf _ [false]).2.length ≤ _
    rw [(leastOf_spec _ h).2.1]
    exact (roundSize_spec h).2.1
end Sm

set_option linter.all false
namespace Sm
structure G (k z : Nat) (s : S) : Prop where
  can : Canon s
  few : s.1.length ≤ k
  ring : s.2.length ≤ z
theorem G.mono {k k' z z' : Nat} {s : S} (h : G k z s) (hk : k ≤ k') (hz : z ≤ z') : G k' z' s := ⟨h.can, Nat.le_trans h.few hk, Nat.le_trans h.ring hz⟩
theorem Canon.lst {s : S} (h : Canon s) : leastOf s.1 s.2 = s := (canon_least s.1 h.ne).eq h fun n => inS_least s.1 h.ne n
theorem lcm_le {a b z z' : Nat} (ha : 0 < a) (hb : 0 < b) (h1 : a ≤ z) (h2 : b ≤ z') : Nat.lcm a b ≤ z * z' :=
  Nat.le_trans (Nat.le_of_dvd (Nat.mul_pos ha hb) (Nat.lcm_dvd_mul a b)) (Nat.mul_le_mul h1 h2)
theorem G.by {k z k' z' : Nat} {s t : S} (h : G k z s) (g : G k' z' t) (p : Bool → Bool → Bool) : G (max k k') (z * z') (setBy s t p) := by
  obtain ⟨a, _, c, d⟩ := setBy_all h.can.ne g.can.ne p
  have := lcm_le h.can.pos g.can.pos h.ring g.ring
  have h1 := h.few
  have h2 := g.few
  exact ⟨a, by omega, by omega⟩
theorem G.other {k z : Nat} {s : S} (h : G k z s) : G k z (otherOf s) :=
  ⟨canon_other h.can, by show (s.1.map not).length ≤ k; rw [List.length_map]; exact h.few, by show (s.2.map not).length ≤ z; rw [List.length_map]; exact h.ring⟩
theorem G.up {k z : Nat} {s : S} (h : G k z s) (j : Nat) : G (j + k) z (upBy s j) := by
  obtain ⟨a, _, c, d⟩ := upBy_all h.can.ne j
  have h1 := h.few
  have h2 := h.ring
  exact ⟨a, by omega, by omega⟩
theorem G.down {k z : Nat} {s : S} (h : G k z s) (j : Nat) : G k z (downBy s j) := by
  obtain ⟨a, _, c, d⟩ := downBy_all h.can.ne j
  have h1 := h.few
  have h2 := h.ring
  exact ⟨a, by omega, by omega⟩
theorem G.low {k z : Nat} {s : S} (h : G k z s) (j : Nat) : G (k + 1) z (lowBy s j) := by
  obtain ⟨a, _, c, d⟩ := lowBy_all h.can.ne j
  have h1 := h.few
  have h2 := h.ring
  exact ⟨a, by omega, by omega⟩
theorem G.sum {k z k' z' : Nat} {s t : S} (h : G k z s) (g : G k' z' t) : G (k + k' + z * z') (z * z') (sumSet s t) := by
  obtain ⟨a, _, c, d⟩ := sumSet_all h.can.ne g.can.ne
  have := lcm_le h.can.pos g.can.pos h.ring g.ring
  have h1 := h.few
  have h2 := g.few
  exact ⟨a, by omega, by omega⟩
theorem inS_by {s t : S} (h : Canon s) (g : Canon t) (p : Bool → Bool → Bool) (n : Nat) : inS (setBy s t p) n = p (inS s n) (inS t n) := (setBy_all h.ne g.ne p).2.1 n
theorem can_by {s t : S} (h : Canon s) (g : Canon t) (p : Bool → Bool → Bool) : Canon (setBy s t p) := (setBy_all h.ne g.ne p).1
/-- a set of few numbers below m -/
theorem setOf_G {l : List Nat} {m : Nat} (hm : m ≤ 60) (h : ∀ n ∈ l, n < m) : G m 1 (setOf l) := by
  obtain ⟨a, b, c, d⟩ := setOf_all l
  refine ⟨a, a.few m fun n hn => ?_, d⟩
  have e : ∀ j, m ≤ j → inS (setOf l) j = false := fun j hj => by
    rw [b]
    cases hc : l.contains j with
    | false => rw [Bool.and_false]
    | true =>
      have := h j (List.contains_iff_mem.mp hc)
      omega
  rw [e n hn, e (n + _) (by omega)]
theorem inS_set {l : List Nat} (h : ∀ n ∈ l, n < 60) (n : Nat) : inS (setOf l) n = l.contains n := by
  rw [(setOf_all l).2.1]
  cases hc : l.contains n with
  | false => rw [Bool.and_false]
  | true => rw [decide_eq_true (h n (List.contains_iff_mem.mp hc))]; rfl
/-! the law's checks -/
theorem law_rest {s t : S} (h : Canon s) (g : Canon t) : otherOf (setBy s t (· || ·)) = setBy (otherOf s) (otherOf t) (· && ·) := by
  refine (canon_other (can_by h g _)).eq (can_by (canon_other h) (canon_other g) _) fun n => ?_
  rw [inS_other (can_by h g _).ne, inS_by h g, inS_by (canon_other h) (canon_other g), inS_other h.ne, inS_other g.ne, Bool.not_or]
def insideOf (s t : S) : Bool := ((List.range 200).filter fun n => inS s n && !inS t n).isEmpty
theorem inside_iff {s t : S} {k z : Nat} (h : G k z s) (g : G k z t) (hz : k + z * z ≤ 200) : insideOf s t = true ↔ ∀ n, inS s n = true → inS t n = true := by
  have hG := h.by g (fun a b => a && !b)
  have hl := hG.few
  have hr := hG.ring
  have e := firstOf_range hG.can.ne (N := 200) (by omega)
  have hn := firstOf_none hG.can.ne
  rw [← e] at hn
  have ef : inS (setBy s t fun a b => a && !b) = fun n => inS s n && !inS t n := funext fun n => inS_by h.can g.can _ n
  rw [List.head?_eq_none_iff, ef] at hn
  unfold insideOf
  rw [List.isEmpty_iff, hn]
  constructor
  · intro hh n h1
    have := hh n
    have this : (inS s n && !inS t n) = false := this
    rw [h1] at this
    cases e : inS t n with
    | true => rfl
    | false => rw [e] at this; cases this
  · intro hh n
    show (inS s n && !inS t n) = false
    cases e : inS s n with
    | false => rfl
    | true => rw [hh n e]; rfl
theorem law_within {s t : S} {k z : Nat} (h : G k z s) (g : G k z t) (hz : k + z * z ≤ 200) : (firstOf (setBy s t (fun a b => a && !b))).isNone = insideOf s t := by
  have hG := h.by g (fun a b => a && !b)
  rw [Bool.eq_iff_iff, inside_iff h g hz, Option.isNone_iff_eq_none, firstOf_none hG.can.ne]
  constructor
  · intro hh n h1
    have := hh n
    rw [inS_by h.can g.can, h1] at this
    cases e : inS t n with
    | true => rfl
    | false => rw [e] at this; cases this
  · intro hh n
    rw [inS_by h.can g.can]
    cases e : inS s n with
    | false => rfl
    | true => rw [hh n e]; rfl
theorem law_meets {s t : S} {k z : Nat} (h : G k z s) (g : G k z t) (hz : k + z * z ≤ 200) : decide (setBy s t (· && ·) = s) = insideOf s t := by
  rw [Bool.eq_iff_iff, inside_iff h g hz, decide_eq_true_iff, (can_by h.can g.can _).iff h.can]
  constructor
  · intro hh n h1
    have := hh n
    rw [inS_by h.can g.can, h1, Bool.true_and] at this
    exact this
  · intro hh n
    rw [inS_by h.can g.can]
    cases e : inS s n with
    | false => rfl
    | true => rw [hh n e]; rfl
theorem law_joins {s t : S} {k z : Nat} (h : G k z s) (g : G k z t) (hz : k + z * z ≤ 200) : decide (setBy s t (· || ·) = t) = insideOf s t := by
  rw [Bool.eq_iff_iff, inside_iff h g hz, decide_eq_true_iff, (can_by h.can g.can _).iff g.can]
  constructor
  · intro hh n h1
    have := hh n
    rw [inS_by h.can g.can, h1, Bool.true_or] at this
    exact this.symm
  · intro hh n
    rw [inS_by h.can g.can]
    cases e : inS s n with
    | false => rfl
    | true => rw [hh n e]; rfl
theorem law_apart {s t : S} (h : Canon s) (g : Canon t) : (firstOf (setBy s t (fun a b => a != b))).isNone = decide (s = t) := by
  rw [Bool.eq_iff_iff, Option.isNone_iff_eq_none, firstOf_none (can_by h g _).ne, decide_eq_true_iff, h.iff g]
  constructor
  · intro hh n
    have := hh n
    rw [inS_by h g] at this
    exact eq_of_beq (by rw [bne, Bool.not_eq_false'] at this; exact this)
  · intro hh n
    rw [inS_by h g, hh n, bne_self_eq_false]
theorem filter_lt_range (m b : Nat) : (List.range (m + b)).filter (fun n => decide (n < m)) = List.range m := by
  rw [List.range_add, List.filter_append, List.filter_eq_self.mpr (fun a ha => decide_eq_true (List.mem_range.mp ha)), List.filter_eq_nil_iff.mpr (fun a ha => ?_), List.append_nil]
  obtain ⟨x, _, rfl⟩ := List.mem_map.mp ha
  rw [decide_eq_true_iff]
  omega
theorem law_up {s : S} (h : Canon s) {k N : Nat} (hk : k ≤ N) : (List.range N).filter (inS (upBy s k)) = (((List.range N).filter (inS s)).filter (fun n => decide (n + k < N))).map (fun n => n + k) := by
  obtain ⟨b, rfl⟩ : ∃ b, N = k + b := ⟨N - k, by omega⟩
  have hu := (upBy_all h.ne k).2.1
  rw [List.filter_filter, List.range_add, List.filter_append, List.filter_eq_nil_iff.mpr (fun a ha => ?_), List.nil_append, ← List.range_add, List.filter_map]
  · have e1 : (fun n => decide (n + k < k + b) && inS s n) = fun n => inS s n && decide (n < b) := by
      funext n
      rw [Bool.and_comm]
      congr 1
      rw [Bool.eq_iff_iff, decide_eq_true_iff, decide_eq_true_iff]
      omega
    rw [e1, ← List.filter_filter, show k + b = b + k by omega, filter_lt_range]
    have e2 : (inS (upBy s k) ∘ fun x => k + x) = inS s := by
      funext n
      show inS (upBy s k) (k + n) = _
      rw [hu, if_neg (by omega), show k + n - k = n by omega]
    rw [e2]
    exact List.map_congr_left fun n _ => Nat.add_comm _ _
  · rw [hu, if_pos (List.mem_range.mp ha)]
    decide
theorem law_down {s : S} (h : Canon s) (k : Nat) : downBy (upBy s k) k = s := by
  obtain ⟨a, b, _, _⟩ := upBy_all h.ne k
  obtain ⟨c, d, _, _⟩ := downBy_all a.ne k
  exact c.eq h fun n => by rw [d, b, if_neg (by omega), show n + k - k = n by omega]
theorem law_low {s : S} (h : Canon s) (k : Nat) : lowBy (upBy s k) k = s := by
  obtain ⟨a, b, _, _⟩ := upBy_all h.ne k
  obtain ⟨c, d, _, _⟩ := lowBy_all a.ne k
  refine c.eq h fun n => ?_
  rw [d]
  by_cases hn : n = 0
  · rw [if_pos hn, hn, List.range_succ, List.any_append, List.any_eq_false.mpr (fun i hi => ?_), Bool.false_or, List.any_cons, List.any_nil, Bool.or_false, b, if_neg (by omega), Nat.sub_self]
    rw [b, if_pos (List.mem_range.mp hi)]
    decide
  · rw [if_neg hn, b, if_neg (by omega), show n + k - k = n by omega]
theorem law_sum {s : S} (h : Canon s) {k : Nat} (hk : k < 60) : sumSet s (setOf [k]) = upBy s k := by
  obtain ⟨a, b, _, _⟩ := upBy_all h.ne k
  have hc := (setOf_all [k]).1
  have hi := inS_set (l := [k]) (fun n hn => by rw [List.mem_singleton.mp hn]; exact hk)
  obtain ⟨c, d, _, _⟩ := sumSet_all h.ne hc.ne
  refine c.eq a fun n => ?_
  rw [d, b, Bool.eq_iff_iff, List.any_eq_true]
  constructor
  · rintro ⟨i, hi1, hi2⟩
    rw [hi, Bool.and_eq_true, List.contains_iff_mem, List.mem_singleton] at hi2
    have := List.mem_range.mp hi1
    rw [if_neg (by omega), show n - k = i by omega]
    exact hi2.1
  · intro hh
    by_cases hn : n < k
    · rw [if_pos hn] at hh
      cases hh
    · rw [if_neg hn] at hh
      refine ⟨n - k, List.mem_range.mpr (by omega), ?_⟩
      rw [hi, hh, show n - (n - k) = k by omega]
      simp
theorem law_lows {f g : Nat → Bool} (h : ∀ n, 0 < n → f n = g n) (N : Nat) : ((List.range (N + 1)).filter f).drop (if f 0 then 1 else 0) = ((List.range (N + 1)).filter g).filter (fun n => decide (0 < n)) := by
  have e : ∀ p : Nat → Bool, ((List.range N).map Nat.succ).filter p = ((List.range N).filter (p ∘ Nat.succ)).map Nat.succ := fun p => List.filter_map
  have e3 : f ∘ Nat.succ = g ∘ Nat.succ := funext fun n => h _ (Nat.succ_pos n)
  rw [List.range_succ_eq_map, List.filter_cons, List.filter_cons, e, e, e3]
  have e4 : (((List.range N).filter (g ∘ Nat.succ)).map Nat.succ).filter (fun n => decide (0 < n)) = ((List.range N).filter (g ∘ Nat.succ)).map Nat.succ := List.filter_eq_self.mpr fun a ha => by
    obtain ⟨x, _, rfl⟩ := List.mem_map.mp ha
    exact decide_eq_true (Nat.succ_pos x)
  cases hf : f 0 <;> cases hg : g 0 <;> simp [e4]
theorem law_list {l : List Nat} (h : ∀ n ∈ l, n < 60) : ((List.range 200).filter (inS (setOf l))).Nodup ∧ ((List.range 200).filter (inS (setOf l))).Pairwise (· ≤ ·) ∧ ∀ n, n ∈ (List.range 200).filter (inS (setOf l)) ↔ n ∈ l := by
  refine ⟨List.Pairwise.filter _ List.nodup_range, List.Pairwise.filter _ (List.pairwise_lt_range.imp fun h => Nat.le_of_lt h), fun n => ?_⟩
  rw [List.mem_filter, inS_set h, List.contains_iff_mem, List.mem_range]
  constructor
  · exact fun h => h.2
  · intro hn
    have := h n hn
    exact ⟨by omega, hn⟩
theorem law_three {s : S} (h : Canon s) {k : Nat} (hk : k < 60) : sumSet s (setBy (setOf [0, k]) (setOf [1]) (· || ·)) = setBy (setBy (upBy s 0) (upBy s 1) (· || ·)) (upBy s k) (· || ·) := by
  have c1 := (setOf_all [0, k]).1
  have c2 := (setOf_all [1]).1
  have i1 := inS_set (l := [0, k]) (fun n hn => by
    rcases List.mem_cons.mp hn with e | e
    · omega
    · rw [List.mem_singleton.mp e]; exact hk)
  have i2 := inS_set (l := [1]) (fun n hn => by rw [List.mem_singleton.mp hn]; decide)
  obtain ⟨a0, b0, _, _⟩ := upBy_all h.ne 0
  obtain ⟨a1, b1, _, _⟩ := upBy_all h.ne 1
  obtain ⟨a2, b2, _, _⟩ := upBy_all h.ne k
  obtain ⟨c, d, _, _⟩ := sumSet_all h.ne (can_by c1 c2 (· || ·)).ne
  refine c.eq (can_by (can_by a0 a1 _) a2 _) fun n => ?_
  rw [d, inS_by (can_by a0 a1 _) a2, inS_by a0 a1, b0, b1, b2, Bool.eq_iff_iff, List.any_eq_true]
  constructor
  · rintro ⟨i, hi1, hi2⟩
    have := List.mem_range.mp hi1
    rw [inS_by c1 c2, i1, i2, Bool.and_eq_true, Bool.or_eq_true, List.contains_iff_mem, List.contains_iff_mem, List.mem_singleton, List.mem_cons, List.mem_singleton] at hi2
    obtain ⟨h1, (h2 | h2) | h2⟩ := hi2
    · rw [if_neg (by omega), show n - 0 = i by omega, h1]
      rfl
    · rw [if_neg (show ¬ n < k by omega), show n - k = i by omega, h1, Bool.or_true]
    · rw [if_neg (show ¬ n < 1 by omega), show n - 1 = i by omega, h1, Bool.or_true, Bool.true_or]
  · intro hh
    rw [Bool.or_eq_true, Bool.or_eq_true] at hh
    have fin : ∀ j, ¬ n < j → inS s (n - j) = true → (j = 0 ∨ j = k ∨ j = 1) → ∃ x, x ∈ List.range (n + 1) ∧ (inS s x && inS (setBy (setOf [0, k]) (setOf [1]) (· || ·)) (n - x)) = true := fun j h1 h2 h3 => by
      refine ⟨n - j, List.mem_range.mpr (by omega), ?_⟩
      rw [inS_by c1 c2, i1, i2, h2, show n - (n - j) = j by omega]
      rcases h3 with rfl | rfl | rfl <;> simp
    rcases hh with (hh | hh) | hh
    · rw [if_neg (by omega)] at hh
      exact fin 0 (by omega) hh (.inl rfl)
    · by_cases hn : n < 1
      · rw [if_pos hn] at hh; cases hh
      · rw [if_neg hn] at hh
        exact fin 1 hn hh (.inr (.inr rfl))
    · by_cases hn : n < k
      · rw [if_pos hn] at hh; cases hh
      · rw [if_neg hn] at hh
        exact fin k hn hh (.inr (.inl rfl))
end Sm

set_option Elab.async false
set_option linter.all false
set_option maxRecDepth 100000
set_option maxHeartbeats 4000000
namespace K13
open PySem PySem.Spec PyProof.Rows L2 Dl
def topS (i : Nat) : Stmt := PySem.Challenge.pw_swornfilters_k13_sets_told_least.main.body.getD i (.Pass ⟨0, 0, 0, 0⟩)
abbrev s_is_row : Stmt := topS 19
theorem sc_is_row : FnScope ["thing"] ["thing"] (defScope s_is_row) := ⟨rfl, rfl, rfl, by decide +kernel, rfl, by decide +kernel, by decide +kernel⟩
abbrev s_is_number : Stmt := topS 20
theorem sc_is_number : FnScope ["thing", "low", "high"] ["thing", "low", "high"] (defScope s_is_number) := ⟨rfl, rfl, rfl, by decide +kernel, rfl, by decide +kernel, by decide +kernel⟩
abbrev s_is_truths : Stmt := topS 23
theorem sc_is_truths : FnScope ["thing", "one"] ["thing"] (defScope s_is_truths) := ⟨rfl, rfl, rfl, by decide +kernel, rfl, by decide +kernel, by decide +kernel⟩
abbrev s_round_size : Stmt := topS 24
theorem sc_round_size : FnScope ["ring", "size"] ["ring"] (defScope s_round_size) := ⟨rfl, rfl, rfl, by decide +kernel, rfl, by decide +kernel, by decide +kernel⟩
abbrev s_least_of : Stmt := topS 25
theorem sc_least_of : FnScope ["few", "ring"] ["few", "ring"] (defScope s_least_of) := ⟨rfl, rfl, rfl, by decide +kernel, rfl, by decide +kernel, by decide +kernel⟩
abbrev s_set_in : Stmt := topS 26
theorem sc_set_in : FnScope ["thing"] ["thing"] (defScope s_set_in) := ⟨rfl, rfl, rfl, by decide +kernel, rfl, by decide +kernel, by decide +kernel⟩
abbrev s_need_set : Stmt := topS 27
theorem sc_need_set : FnScope ["numbers", "plain"] ["numbers"] (defScope s_need_set) := ⟨rfl, rfl, rfl, by decide +kernel, rfl, by decide +kernel, by decide +kernel⟩
abbrev s_told_set : Stmt := topS 28
theorem sc_told_set : FnScope ["plain", "many"] ["plain"] (defScope s_told_set) := ⟨rfl, rfl, rfl, by decide +kernel, rfl, by decide +kernel, by decide +kernel⟩
abbrev s_in_set : Stmt := topS 29
theorem sc_in_set : FnScope ["plain", "number", "few", "ring"] ["plain", "number"] (defScope s_in_set) := ⟨rfl, rfl, rfl, by decide +kernel, rfl, by decide +kernel, by decide +kernel⟩
abbrev s_first_of : Stmt := topS 30
theorem sc_first_of : FnScope ["plain", "row", "number"] ["plain"] (defScope s_first_of) := ⟨rfl, rfl, rfl, by decide +kernel, rfl, by decide +kernel, by decide +kernel⟩
abbrev s_least_set : Stmt := topS 31
theorem sc_least_set : FnScope ["thing", "plain"] ["thing"] (defScope s_least_set) := ⟨rfl, rfl, rfl, by decide +kernel, rfl, by decide +kernel, by decide +kernel⟩
abbrev s_is_set : Stmt := topS 32
theorem sc_is_set : FnScope ["thing"] ["thing"] (defScope s_is_set) := ⟨rfl, rfl, rfl, by decide +kernel, rfl, by decide +kernel, by decide +kernel⟩
abbrev s_has_number : Stmt := topS 33
theorem sc_has_number : FnScope ["numbers", "number", "plain"] ["numbers", "number"] (defScope s_has_number) := ⟨rfl, rfl, rfl, by decide +kernel, rfl, by decide +kernel, by decide +kernel⟩
abbrev s_set_of : Stmt := topS 34
theorem sc_set_of : FnScope ["listed", "one", "number"] ["listed"] (defScope s_set_of) := ⟨rfl, rfl, rfl, by decide +kernel, rfl, by decide +kernel, by decide +kernel⟩
abbrev s_numbers_below : Stmt := topS 35
theorem sc_numbers_below : FnScope ["numbers", "many", "plain", "number"] ["numbers", "many"] (defScope s_numbers_below) := ⟨rfl, rfl, rfl, by decide +kernel, rfl, by decide +kernel, by decide +kernel⟩
abbrev s_first_number : Stmt := topS 36
theorem sc_first_number : FnScope ["numbers"] ["numbers"] (defScope s_first_number) := ⟨rfl, rfl, rfl, by decide +kernel, rfl, by decide +kernel, by decide +kernel⟩
abbrev s_law_start : Stmt := topS 38
theorem sc_law_start : FnScope ["script"] ["script"] (defScope s_law_start) := ⟨rfl, rfl, rfl, by decide +kernel, rfl, by decide +kernel, by decide +kernel⟩
abbrev s_law_below : Stmt := topS 39
theorem sc_law_below : FnScope ["stream", "many", "cell", "digit", "mixed"] ["stream", "many"] (defScope s_law_below) := ⟨rfl, rfl, rfl, by decide +kernel, rfl, by decide +kernel, by decide +kernel⟩
abbrev s_law_chance : Stmt := topS 40
theorem sc_law_chance : FnScope ["stream", "many"] ["stream", "many"] (defScope s_law_chance) := ⟨rfl, rfl, rfl, by decide +kernel, rfl, by decide +kernel, by decide +kernel⟩
abbrev s_law_pick : Stmt := topS 41
theorem sc_law_pick : FnScope ["stream", "some"] ["stream", "some"] (defScope s_law_pick) := ⟨rfl, rfl, rfl, by decide +kernel, rfl, by decide +kernel, by decide +kernel⟩
abbrev s_law_mixed : Stmt := topS 42
theorem sc_law_mixed : FnScope ["stream", "some", "left", "k"] ["stream", "some"] (defScope s_law_mixed) := ⟨rfl, rfl, rfl, by decide +kernel, rfl, by decide +kernel, by decide +kernel⟩
abbrev s_law_copied : Stmt := topS 43
theorem sc_law_copied : FnScope ["thing", "found", "part", "key"] ["thing"] (defScope s_law_copied) := ⟨rfl, rfl, rfl, by decide +kernel, rfl, by decide +kernel, by decide +kernel⟩
abbrev s_law_same : Stmt := topS 44
theorem sc_law_same : FnScope ["found", "due", "x", "y"] ["found", "due"] (defScope s_law_same) := ⟨rfl, rfl, rfl, by decide +kernel, rfl, by decide +kernel, by decide +kernel⟩
abbrev s_law_loose : Stmt := topS 45
theorem sc_law_loose : FnScope ["stream", "thing", "found", "part", "key"] ["stream", "thing"] (defScope s_law_loose) := ⟨rfl, rfl, rfl, by decide +kernel, rfl, by decide +kernel, by decide +kernel⟩
abbrev s_law_spoilt : Stmt := topS 46
theorem sc_law_spoilt : FnScope ["thing", "key", "part"] ["thing"] (defScope s_law_spoilt) := ⟨rfl, rfl, rfl, by decide +kernel, rfl, by decide +kernel, by decide +kernel⟩
abbrev s_law_is_once : Stmt := topS 47
theorem sc_law_is_once : FnScope ["thing", "many", "key", "part"] ["thing"] (defScope s_law_is_once) := ⟨rfl, rfl, rfl, by decide +kernel, rfl, by decide +kernel, by decide +kernel⟩
abbrev s_law_apart : Stmt := topS 48
theorem sc_law_apart : FnScope ["thing"] ["thing"] (defScope s_law_apart) := ⟨rfl, rfl, rfl, by decide +kernel, rfl, by decide +kernel, by decide +kernel⟩
abbrev s_law_ktruths : Stmt := topS 49
theorem sc_law_ktruths : FnScope ["stream", "many", "turn"] ["stream", "many"] (defScope s_law_ktruths) := ⟨rfl, rfl, rfl, by decide +kernel, rfl, by decide +kernel, by decide +kernel⟩
abbrev s_law_kset : Stmt := topS 50
theorem sc_law_kset : FnScope ["stream", "most", "way", "few", "ring"] ["stream", "most"] (defScope s_law_kset) := ⟨rfl, rfl, rfl, by decide +kernel, rfl, by decide +kernel, by decide +kernel⟩
abbrev s_law_kset_in : Stmt := topS 51
theorem sc_law_kset_in : FnScope ["thing", "number", "few", "ring"] ["thing", "number"] (defScope s_law_kset_in) := ⟨rfl, rfl, rfl, by decide +kernel, rfl, by decide +kernel, by decide +kernel⟩
abbrev s_law_kset_form : Stmt := topS 52
theorem sc_law_kset_form : FnScope ["row", "begin", "size", "step", "good", "few", "at"] ["row", "begin", "size"] (defScope s_law_kset_form) := ⟨rfl, rfl, rfl, by decide +kernel, rfl, by decide +kernel, by decide +kernel⟩
abbrev s_law_kset_least : Stmt := topS 53
theorem sc_law_kset_least : FnScope ["thing", "begin", "size", "number"] ["thing"] (defScope s_law_kset_least) := ⟨rfl, rfl, rfl, by decide +kernel, rfl, by decide +kernel, by decide +kernel⟩
abbrev s_law_kno_set : Stmt := topS 54
theorem sc_law_kno_set : FnScope ["stream", "some"] ["stream"] (defScope s_law_kno_set) := ⟨rfl, rfl, rfl, by decide +kernel, rfl, by decide +kernel, by decide +kernel⟩
abbrev s_law_kraised : Stmt := topS 55
theorem sc_law_kraised : FnScope ["run", "found", "e"] ["run"] (defScope s_law_kraised) := ⟨rfl, rfl, rfl, by decide +kernel, rfl, by decide +kernel, by decide +kernel⟩
abbrev s_law_krefuses : Stmt := topS 56
theorem sc_law_krefuses : FnScope ["kind", "thing", "run", "found"] ["kind", "thing", "run"] (defScope s_law_krefuses) := ⟨rfl, rfl, rfl, by decide +kernel, rfl, by decide +kernel, by decide +kernel⟩
abbrev s_law : Stmt := topS 57
theorem sc_law : FnScope ["script", "stream", "turn", "thing", "due", "handed", "was", "told", "few", "ring", "many", "row", "first", "number", "truth", "no", "call", "odd", "listed", "passed", "found", "look"] ["script"] (defScope s_law) := ⟨rfl, rfl, rfl, by decide +kernel, rfl, by decide +kernel, by decide +kernel⟩
structure Txt (K : PySem.W.Frag) (mg : Str → Option Value) : Prop where
  a_is_row : At K mg "is_row" s_is_row ["thing"]
  a_is_number : At K mg "is_number" s_is_number ["thing", "low", "high"]
  a_is_truths : At K mg "is_truths" s_is_truths ["thing"]
  a_round_size : At K mg "round_size" s_round_size ["ring"]
  a_least_of : At K mg "least_of" s_least_of ["few", "ring"]
  a_set_in : At K mg "set_in" s_set_in ["thing"]
  a_need_set : At K mg "need_set" s_need_set ["numbers"]
  a_told_set : At K mg "told_set" s_told_set ["plain"]
  a_in_set : At K mg "in_set" s_in_set ["plain", "number"]
  a_first_of : At K mg "first_of" s_first_of ["plain"]
  a_least_set : At K mg "least_set" s_least_set ["thing"]
  a_is_set : At K mg "is_set" s_is_set ["thing"]
  a_has_number : At K mg "has_number" s_has_number ["numbers", "number"]
  a_set_of : At K mg "set_of" s_set_of ["listed"]
  a_numbers_below : At K mg "numbers_below" s_numbers_below ["numbers", "many"]
  a_first_number : At K mg "first_number" s_first_number ["numbers"]
  a_law_start : At K mg "_law_start" s_law_start ["script"]
  a_law_below : At K mg "_law_below" s_law_below ["stream", "many"]
  a_law_chance : At K mg "_law_chance" s_law_chance ["stream", "many"]
  a_law_pick : At K mg "_law_pick" s_law_pick ["stream", "some"]
  a_law_mixed : At K mg "_law_mixed" s_law_mixed ["stream", "some"]
  a_law_copied : At K mg "_law_copied" s_law_copied ["thing"]
  a_law_same : At K mg "_law_same" s_law_same ["found", "due"]
  a_law_loose : At K mg "_law_loose" s_law_loose ["stream", "thing"]
  a_law_spoilt : At K mg "_law_spoilt" s_law_spoilt ["thing"]
  a_law_is_once : At K mg "_law_is_once" s_law_is_once ["thing"]
  a_law_apart : At K mg "_law_apart" s_law_apart ["thing"]
  a_law_ktruths : At K mg "_law_ktruths" s_law_ktruths ["stream", "many"]
  a_law_kset : At K mg "_law_kset" s_law_kset ["stream", "most"]
  a_law_kset_in : At K mg "_law_kset_in" s_law_kset_in ["thing", "number"]
  a_law_kset_form : At K mg "_law_kset_form" s_law_kset_form ["row", "begin", "size"]
  a_law_kset_least : At K mg "_law_kset_least" s_law_kset_least ["thing"]
  a_law_kno_set : At K mg "_law_kno_set" s_law_kno_set ["stream"]
  a_law_kraised : At K mg "_law_kraised" s_law_kraised ["run"]
  a_law_krefuses : At K mg "_law_krefuses" s_law_krefuses ["kind", "thing", "run"]
  a_law : At K mg "law" s_law ["script"]
  g_all : mg "all" = none
  g_bool : mg "bool" = none
  g_dict : mg "dict" = none
  g_int : mg "int" = none
  g_isinstance : mg "isinstance" = none
  g_len : mg "len" = none
  g_list : mg "list" = none
  g_max : mg "max" = none
  g_range : mg "range" = none
  g_str : mg "str" = none
  g_tuple : mg "tuple" = none
  g_zip : mg "zip" = none
  c_MOST : ∃ t, mg "MOST" = some (.int 60 t)
def initOf : Stmt → Stmt
  | .ClassDef (body := b) .. => b.getD 0 (.Pass ⟨0, 0, 0, 0⟩)
  | _ => .Pass ⟨0, 0, 0, 0⟩
structure CA where
  BadBy : Addr
  BadLength : Addr
  BadListed : Addr
  BadMany : Addr
  BadName : Addr
  BadNumber : Addr
  BadOther : Addr
  BadPattern : Addr
  BadProgram : Addr
  BadSet : Addr
  BadSigns : Addr
  BadTable : Addr
  BadText : Addr
  BadWord : Addr
  NoKind : Addr
  TooMany : Addr
abbrev i_BadSet : Stmt := initOf (topS 11)
theorem sci_BadSet : FnScope ["self", "thing"] ["self", "thing"] (defScope i_BadSet) := ⟨rfl, rfl, rfl, by decide +kernel, rfl, by decide +kernel, by decide +kernel⟩
abbrev i_TooMany : Stmt := initOf (topS 17)
theorem sci_TooMany : FnScope ["self", "many"] ["self", "many"] (defScope i_TooMany) := ⟨rfl, rfl, rfl, by decide +kernel, rfl, by decide +kernel, by decide +kernel⟩
abbrev i_BadNumber : Stmt := initOf (topS 7)
theorem sci_BadNumber : FnScope ["self", "thing"] ["self", "thing"] (defScope i_BadNumber) := ⟨rfl, rfl, rfl, by decide +kernel, rfl, by decide +kernel, by decide +kernel⟩
abbrev i_BadListed : Stmt := initOf (topS 4)
theorem sci_BadListed : FnScope ["self", "thing"] ["self", "thing"] (defScope i_BadListed) := ⟨rfl, rfl, rfl, by decide +kernel, rfl, by decide +kernel, by decide +kernel⟩
abbrev i_BadMany : Stmt := initOf (topS 5)
theorem sci_BadMany : FnScope ["self", "thing"] ["self", "thing"] (defScope i_BadMany) := ⟨rfl, rfl, rfl, by decide +kernel, rfl, by decide +kernel, by decide +kernel⟩
structure Err (K : PySem.W.Frag) (mg : Str → Option Value) (ca : CA) : Prop where
  m_BadBy : mg "BadBy" = some (.ref ca.BadBy)
  m_BadLength : mg "BadLength" = some (.ref ca.BadLength)
  m_BadListed : mg "BadListed" = some (.ref ca.BadListed)
  m_BadMany : mg "BadMany" = some (.ref ca.BadMany)
  m_BadName : mg "BadName" = some (.ref ca.BadName)
  m_BadNumber : mg "BadNumber" = some (.ref ca.BadNumber)
  m_BadOther : mg "BadOther" = some (.ref ca.BadOther)
  m_BadPattern : mg "BadPattern" = some (.ref ca.BadPattern)
  m_BadProgram : mg "BadProgram" = some (.ref ca.BadProgram)
  m_BadSet : mg "BadSet" = some (.ref ca.BadSet)
  m_BadSigns : mg "BadSigns" = some (.ref ca.BadSigns)
  m_BadTable : mg "BadTable" = some (.ref ca.BadTable)
  m_BadText : mg "BadText" = some (.ref ca.BadText)
  m_BadWord : mg "BadWord" = some (.ref ca.BadWord)
  m_NoKind : mg "NoKind" = some (.ref ca.NoKind)
  m_TooMany : mg "TooMany" = some (.ref ca.TooMany)
  o_BadSet : OwnErr K ca.BadSet "thing" "BadSet.__init__" i_BadSet ["self", "thing"]
  e_BadSet_BadText : PySem.W.exmOne K (.ref ca.BadSet) (.ref ca.BadText) = some false
  e_BadSet_BadPattern : PySem.W.exmOne K (.ref ca.BadSet) (.ref ca.BadPattern) = some false
  e_BadSet_BadProgram : PySem.W.exmOne K (.ref ca.BadSet) (.ref ca.BadProgram) = some false
  e_BadSet_BadSigns : PySem.W.exmOne K (.ref ca.BadSet) (.ref ca.BadSigns) = some false
  e_BadSet_BadTable : PySem.W.exmOne K (.ref ca.BadSet) (.ref ca.BadTable) = some false
  e_BadSet_BadWord : PySem.W.exmOne K (.ref ca.BadSet) (.ref ca.BadWord) = some false
  e_BadSet_BadName : PySem.W.exmOne K (.ref ca.BadSet) (.ref ca.BadName) = some false
  e_BadSet_BadOther : PySem.W.exmOne K (.ref ca.BadSet) (.ref ca.BadOther) = some false
  e_BadSet_BadMany : PySem.W.exmOne K (.ref ca.BadSet) (.ref ca.BadMany) = some false
  e_BadSet_BadLength : PySem.W.exmOne K (.ref ca.BadSet) (.ref ca.BadLength) = some false
  e_BadSet_NoKind : PySem.W.exmOne K (.ref ca.BadSet) (.ref ca.NoKind) = some false
  e_BadSet_BadSet : PySem.W.exmOne K (.ref ca.BadSet) (.ref ca.BadSet) = some true
  o_TooMany : OwnErr K ca.TooMany "many" "TooMany.__init__" i_TooMany ["self", "many"]
  e_TooMany_BadText : PySem.W.exmOne K (.ref ca.TooMany) (.ref ca.BadText) = some false
  e_TooMany_BadPattern : PySem.W.exmOne K (.ref ca.TooMany) (.ref ca.BadPattern) = some false
  e_TooMany_BadProgram : PySem.W.exmOne K (.ref ca.TooMany) (.ref ca.BadProgram) = some false
  e_TooMany_BadSigns : PySem.W.exmOne K (.ref ca.TooMany) (.ref ca.BadSigns) = some false
  e_TooMany_BadTable : PySem.W.exmOne K (.ref ca.TooMany) (.ref ca.BadTable) = some false
  e_TooMany_BadWord : PySem.W.exmOne K (.ref ca.TooMany) (.ref ca.BadWord) = some false
  e_TooMany_BadName : PySem.W.exmOne K (.ref ca.TooMany) (.ref ca.BadName) = some false
  e_TooMany_BadOther : PySem.W.exmOne K (.ref ca.TooMany) (.ref ca.BadOther) = some false
  e_TooMany_BadMany : PySem.W.exmOne K (.ref ca.TooMany) (.ref ca.BadMany) = some false
  e_TooMany_BadLength : PySem.W.exmOne K (.ref ca.TooMany) (.ref ca.BadLength) = some false
  e_TooMany_NoKind : PySem.W.exmOne K (.ref ca.TooMany) (.ref ca.NoKind) = some false
  e_TooMany_BadSet : PySem.W.exmOne K (.ref ca.TooMany) (.ref ca.BadSet) = some false
  e_TooMany_BadNumber : PySem.W.exmOne K (.ref ca.TooMany) (.ref ca.BadNumber) = some false
  e_TooMany_BadListed : PySem.W.exmOne K (.ref ca.TooMany) (.ref ca.BadListed) = some false
  e_TooMany_BadBy : PySem.W.exmOne K (.ref ca.TooMany) (.ref ca.BadBy) = some false
  e_TooMany_TooMany : PySem.W.exmOne K (.ref ca.TooMany) (.ref ca.TooMany) = some true
  o_BadNumber : OwnErr K ca.BadNumber "thing" "BadNumber.__init__" i_BadNumber ["self", "thing"]
  e_BadNumber_BadText : PySem.W.exmOne K (.ref ca.BadNumber) (.ref ca.BadText) = some false
  e_BadNumber_BadPattern : PySem.W.exmOne K (.ref ca.BadNumber) (.ref ca.BadPattern) = some false
  e_BadNumber_BadProgram : PySem.W.exmOne K (.ref ca.BadNumber) (.ref ca.BadProgram) = some false
  e_BadNumber_BadSigns : PySem.W.exmOne K (.ref ca.BadNumber) (.ref ca.BadSigns) = some false
  e_BadNumber_BadTable : PySem.W.exmOne K (.ref ca.BadNumber) (.ref ca.BadTable) = some false
  e_BadNumber_BadWord : PySem.W.exmOne K (.ref ca.BadNumber) (.ref ca.BadWord) = some false
  e_BadNumber_BadName : PySem.W.exmOne K (.ref ca.BadNumber) (.ref ca.BadName) = some false
  e_BadNumber_BadOther : PySem.W.exmOne K (.ref ca.BadNumber) (.ref ca.BadOther) = some false
  e_BadNumber_BadMany : PySem.W.exmOne K (.ref ca.BadNumber) (.ref ca.BadMany) = some false
  e_BadNumber_BadLength : PySem.W.exmOne K (.ref ca.BadNumber) (.ref ca.BadLength) = some false
  e_BadNumber_NoKind : PySem.W.exmOne K (.ref ca.BadNumber) (.ref ca.NoKind) = some false
  e_BadNumber_BadSet : PySem.W.exmOne K (.ref ca.BadNumber) (.ref ca.BadSet) = some false
  e_BadNumber_BadNumber : PySem.W.exmOne K (.ref ca.BadNumber) (.ref ca.BadNumber) = some true
  o_BadListed : OwnErr K ca.BadListed "thing" "BadListed.__init__" i_BadListed ["self", "thing"]
  e_BadListed_BadText : PySem.W.exmOne K (.ref ca.BadListed) (.ref ca.BadText) = some false
  e_BadListed_BadPattern : PySem.W.exmOne K (.ref ca.BadListed) (.ref ca.BadPattern) = some false
  e_BadListed_BadProgram : PySem.W.exmOne K (.ref ca.BadListed) (.ref ca.BadProgram) = some false
  e_BadListed_BadSigns : PySem.W.exmOne K (.ref ca.BadListed) (.ref ca.BadSigns) = some false
  e_BadListed_BadTable : PySem.W.exmOne K (.ref ca.BadListed) (.ref ca.BadTable) = some false
  e_BadListed_BadWord : PySem.W.exmOne K (.ref ca.BadListed) (.ref ca.BadWord) = some false
  e_BadListed_BadName : PySem.W.exmOne K (.ref ca.BadListed) (.ref ca.BadName) = some false
  e_BadListed_BadOther : PySem.W.exmOne K (.ref ca.BadListed) (.ref ca.BadOther) = some false
  e_BadListed_BadMany : PySem.W.exmOne K (.ref ca.BadListed) (.ref ca.BadMany) = some false
  e_BadListed_BadLength : PySem.W.exmOne K (.ref ca.BadListed) (.ref ca.BadLength) = some false
  e_BadListed_NoKind : PySem.W.exmOne K (.ref ca.BadListed) (.ref ca.NoKind) = some false
  e_BadListed_BadSet : PySem.W.exmOne K (.ref ca.BadListed) (.ref ca.BadSet) = some false
  e_BadListed_BadNumber : PySem.W.exmOne K (.ref ca.BadListed) (.ref ca.BadNumber) = some false
  e_BadListed_BadListed : PySem.W.exmOne K (.ref ca.BadListed) (.ref ca.BadListed) = some true
  o_BadMany : OwnErr K ca.BadMany "thing" "BadMany.__init__" i_BadMany ["self", "thing"]
  e_BadMany_BadText : PySem.W.exmOne K (.ref ca.BadMany) (.ref ca.BadText) = some false
  e_BadMany_BadPattern : PySem.W.exmOne K (.ref ca.BadMany) (.ref ca.BadPattern) = some false
  e_BadMany_BadProgram : PySem.W.exmOne K (.ref ca.BadMany) (.ref ca.BadProgram) = some false
  e_BadMany_BadSigns : PySem.W.exmOne K (.ref ca.BadMany) (.ref ca.BadSigns) = some false
  e_BadMany_BadTable : PySem.W.exmOne K (.ref ca.BadMany) (.ref ca.BadTable) = some false
  e_BadMany_BadWord : PySem.W.exmOne K (.ref ca.BadMany) (.ref ca.BadWord) = some false
  e_BadMany_BadName : PySem.W.exmOne K (.ref ca.BadMany) (.ref ca.BadName) = some false
  e_BadMany_BadOther : PySem.W.exmOne K (.ref ca.BadMany) (.ref ca.BadOther) = some false
  e_BadMany_BadMany : PySem.W.exmOne K (.ref ca.BadMany) (.ref ca.BadMany) = some true
end K13

set_option Elab.async false
set_option linter.all false
set_option maxRecDepth 100000
set_option maxHeartbeats 4000000
namespace K13
open PySem PySem.Spec PyProof.Rows L2 Dl Sm
abbrev encP (s : S) : PyData := .tuple [.tuple (s.1.map .bool), .tuple (s.2.map .bool)]
abbrev encT (s : S) : PyData := .tuple [.list (s.1.map .bool), .list (s.2.map .bool)]
def F_is_row (ds : List PyData) (d : PyData) : Prop := ∃ x, ds = [x] ∧ d = .bool (isRowD x)
/-- a list or a tuple of truths -/
inductive Bs : PyData → List Bool → Prop
  | lst (l : List Bool) : Bs (.list (l.map .bool)) l
  | tup (l : List Bool) : Bs (.tuple (l.map .bool)) l
theorem Bs.row {x : PyData} {l : List Bool} (h : Bs x l) : isRowD x = true := by cases h <;> rfl
theorem Bs.len {x : PyData} {l : List Bool} (h : Bs x l) : LenD x l.length := by
  cases h with
  | lst => have := LenD.lst (l.map PyData.bool); rw [List.length_map] at this; exact this
  | tup => have := LenD.tup (l.map PyData.bool); rw [List.length_map] at this; exact this
theorem Bs.seq {x : PyData} {l : List Bool} (h : Bs x l) : SeqD x (l.map .bool) := by
  cases h with
  | lst => exact .lst _
  | tup => exact .tup _
def F_is_truths (ds : List PyData) (d : PyData) : Prop := ∃ x l, ds = [x] ∧ Bs x l ∧ l.length ≤ 60 ∧ d = .bool true
def F_round_size (ds : List PyData) (d : PyData) : Prop := ∃ r : List Bool, ds = [.tuple (r.map .bool)] ∧ r ≠ [] ∧ d = .int (roundSize r : Nat)
def F_least_of (ds : List PyData) (d : PyData) : Prop := ∃ x y f r, ds = [x, y] ∧ Bs x f ∧ Bs y r ∧ r ≠ [] ∧ r.length ≤ 100000 ∧ d = encP (leastOf f r)
section
variable {P : Program} {w : World} {K : PySem.W.Frag} {mg : Str → Option Value} {base : Heap}
theorem c_is_row (T : Txt K mg) : Def P w K mg base 1 "is_row" ["thing"] (SpP K F_is_row) := by
  refine def_pure T.a_is_row sc_is_row (fun ds d h => ?_) ?_
  · obtain ⟨x, rfl, _⟩ := h
    rfl
  rintro _ ⟨fa, cdv, A, outer, s, H, E, hr, rfl⟩ _ _ ⟨x, rfl, rfl⟩
  show XB _ [.dat _] _ _
  exact xb_ret (xe_isi2 T.g_isinstance (xe_var 0) T.g_list boot_list T.g_tuple boot_tuple (kit_row x)) rfl
theorem c_is_truths (T : Txt K mg) (c_is_row : Def P w K mg base 1 "is_row" ["thing"] (SpP K F_is_row)) : Def P w K mg base 2 "is_truths" ["thing"] (SpP K F_is_truths) := by
  refine def_pure T.a_is_truths sc_is_truths (fun ds d h => ?_) ?_
  · obtain ⟨x, l, rfl, _⟩ := h
    rfl
  rintro _ ⟨fa, cdv, A, outer, s, H, E, hr, rfl⟩ _ _ ⟨x, l, rfl, hb, hl, rfl⟩
  have hu := room65 hr
  obtain ⟨tM, hM⟩ := T.c_MOST
  show XB _ [.dat _, .no] _ _
  refine xb_ret (xe_and (xe_call c_is_row (hr.mono (by decide)) (xa_cons (xe_var 0) xa_nil) ⟨_, rfl, rfl⟩) (fun _ => (xe_and (xe_cmp hu (xe_len T.g_len (xe_var 0) hb.len) (xe_gint hM) (.leI _ _)) (fun _ => (xe_one (xe_cmp hu (xe_new (xl_lcIf (l := l) (f := .bool) 1 _ _ sc_is_truths.nd (xi_seq (xe_var 0) hb.seq) (fun _ _ _ _ _ d hd => (xt_not (xt_tru (xe_isi T.g_isinstance (xe_var 1) T.g_bool boot_bool (kit_bool _))))) (fun _ _ _ _ _ d hd ht => (xe_var 1)) (by omega)).val) (xe_lst xa_nil) (.eqD _ _ (shaped_bools _) shaped_nil))))))) ?_
  show PyData.bool (isRowD x && (decide ((l.length : Int) ≤ 60) && PyData.eqv (.list ((l.filter fun _ => false).map .bool)) (.list (([] : List Bool).map .bool)))) = .bool true
  rw [eqv_lb, hb.row, show l.filter (fun _ => false) = [] from List.filter_eq_nil_iff.mpr (fun _ _ => Bool.false_ne_true), decide_eq_true (show (l.length : Int) ≤ 60 by omega)]
  rfl
theorem c_round_size (T : Txt K mg) : Def P w K mg base 1 "round_size" ["ring"] (SpP K F_round_size) := by
  refine def_pure T.a_round_size sc_round_size (fun ds d h => ?_) ?_
  · obtain ⟨r, rfl, _⟩ := h
    rfl
  rintro _ ⟨fa, cdv, A, outer, s, H, E, hr, rfl⟩ _ _ ⟨r, rfl, hne, rfl⟩
  have hu := room65 hr
  show XB _ [.dat _, .no] _ _
  obtain ⟨hs1, hs2, hs3, hs4⟩ := roundSize_spec hne
  refine xb_asg 1 xe_int ?_ sc_round_size.nd
  refine xb_while (fun m δ => ∃ n : Nat, 1 ≤ n ∧ n + m = roundSize r ∧ δ = [.dat (.tuple (r.map .bool)), .dat (.int (n : Nat))]) (fun δ => δ = [.dat (.tuple (r.map .bool)), .dat (.int (roundSize r : Nat))]) (roundSize r - 1) ⟨1, Nat.le_refl _, by omega, rfl⟩ (fun m δ hJ => ?_) (fun δ hM => ?_)
  · obtain ⟨n, hn1, hn2, rfl⟩ := hJ
    refine ⟨_, ((xw_or (xt_tru (xe_modI (xe_len T.g_len (xe_var 0) (.tup _)) (xe_var 1) (by omega))) (fun _ => (xw_or1 (xt_cmp hu (xe_sl (xe_var 0) (xo_some (xe_var 1)) xo_none (.tup _ _ _)) (xe_sl (xe_var 0) xo_none (xo_some (xe_subI (xe_len T.g_len (xe_var 0) (.tup _)) (xe_var 1))) (.tup _ _ _)) (.neD _ _ ?s1 ?s2)))))).xt, fun h => ?_, fun h => ?_⟩
    case s1 => rw [cutD_map]; exact shaped_boolsT _
    case s2 => rw [cutD_map]; exact shaped_boolsT _
    all_goals
      have ht : (truD (.int (((r.map PyData.bool).length : Int) % (n : Int))) || !PyData.eqv (.tuple (cutD (r.map PyData.bool) (some (n : Int)) none)) (.tuple (cutD (r.map PyData.bool) none (some (((r.map PyData.bool).length : Int) - (n : Int)))))) = !roundOk r n := by
        have e1 : (((r.map PyData.bool).length : Int) - (n : Int)) = ((r.length - n : Nat) : Int) := by rw [List.length_map]; omega
        rw [e1, cutD_map, cutD_map, cutD_from, cutD_to, eqv_tb, List.length_map]
        show ((r.length : Int) % (n : Int) != 0 || !decide (List.drop n r = List.take (r.length - n) r)) = !roundOk r n
        unfold roundOk
        have e2 : ((r.length : Int) % (n : Int) != 0) = !(r.length % n == 0) := by
          have : ((r.length : Int) % (n : Int)) = ((r.length % n : Nat) : Int) := by omega
          rw [this, intNe0]
        rw [e2, Bool.not_and]
    · rw [ht] at h
      have hlt : n < roundSize r := by
        rcases Nat.lt_or_ge n (roundSize r) with h1 | h1
        · exact h1
        · have : n = roundSize r := by omega
          rw [this, hs3] at h
          cases h
      refine xb_augAdd 1 rfl xe_int (xb_nil ⟨m - 1, by omega, n + 1, by omega, by omega, ?_⟩) sc_round_size.nd
      rfl
    · rw [ht] at h
      have h' : roundOk r n = true := by
        cases hh : roundOk r n with
        | true => rfl
        | false => rw [hh] at h; cases h
      have : n = roundSize r := by
        rcases Nat.lt_or_ge n (roundSize r) with h1 | h1
        · rw [hs4 n hn1 h1] at h'
          cases h'
        · omega
      rw [this]
  · subst hM
    exact xb_ret (xe_var 1) rfl
theorem leastLoop_r : ∀ (n : Nat) (f r : List Bool), r ≠ [] → (leastLoop n f r).2 ≠ []
  | 0, f, r, h => h
  | n + 1, f, r, h => by
    unfold leastLoop
    split
    · refine leastLoop_r n _ _ ?_
      rw [List.getLast?_eq_some_getLast h]
      exact List.cons_ne_nil _ _
    · exact h
theorem c_least_of (T : Txt K mg) (c_round_size : Def P w K mg base 1 "round_size" ["ring"] (SpP K F_round_size)) : Def P w K mg base 2 "least_of" ["few", "ring"] (SpP K F_least_of) := by
  refine def_pure T.a_least_of sc_least_of (fun ds d h => ?_) ?_
  · obtain ⟨x, y, f, r, rfl, _⟩ := h
    rfl
  rintro _ ⟨fa, cdv, A, outer, s, H, E, hr, rfl⟩ _ _ ⟨x, y, f, r, rfl, hx, hy, hne, hl, rfl⟩
  have hu := room65 hr
  show XB _ [.dat _, .dat _] _ _
  refine xb_par (i := 0) (j := 1) (xe_tupleOf T.g_tuple (xe_var 0) hx.seq) (xe_sl (xe_tupleOf T.g_tuple (xe_var 1) hy.seq) xo_none (xo_some (xe_call c_round_size (hr.mono (by decide)) (xa_cons (xe_tupleOf T.g_tuple (xe_var 1) hy.seq) xa_nil) ⟨r, rfl, hne, rfl⟩)) (.tup _ _ _)) ?_ sc_least_of.nd
  rw [cutD_map, cutD_to]
  have hne1 : r.take (roundSize r) ≠ [] := by
    obtain ⟨h1, h2, _⟩ := roundSize_spec hne
    intro h
    have h3 : (r.take (roundSize r)).length = 0 := by rw [h]; rfl
    rw [List.length_take] at h3
    have := List.length_pos_iff.mpr hne
    omega
  have hl1 : (r.take (roundSize r)).length ≤ 100000 := by
    rw [List.length_take]
    omega
  refine xb_while (fun m δ => ∃ f' r', r' ≠ [] ∧ r'.length ≤ 100000 ∧ f'.length = m ∧ leastLoop m f' r' = leastOf f r ∧ δ = [.dat (.tuple (f'.map .bool)), .dat (.tuple (r'.map .bool))])
    (fun δ => δ = [.dat (.tuple ((leastOf f r).1.map .bool)), .dat (.tuple ((leastOf f r).2.map .bool))]) f.length ⟨f, r.take (roundSize r), hne1, hl1, rfl, rfl, rfl⟩ (fun m δ hJ => ?_) (fun δ hM => ?_)
  · obtain ⟨f', r', hn', hl', hm, he, rfl⟩ := hJ
    obtain ⟨rl, hrl⟩ : ∃ a, r'.getLast? = some a := ⟨_, List.getLast?_eq_some_getLast hn'⟩
    have hr' : r' = r'.dropLast ++ [rl] := by
      obtain ⟨ys, hys⟩ := List.getLast?_eq_some_iff.mp hrl
      rw [hys, List.dropLast_concat]
    have ax : atI (r'.map PyData.bool) (-1) = some (.bool rl) := by
      rw [hr', List.map_append]
      exact atI_last _ _
    cases hf : f'.getLast? with
    | none =>
      have hf0 : f' = [] := List.getLast?_eq_none_iff.mp hf
      subst hf0
      refine ⟨_, ((xw_and (k := false) (m := true) (xt_eq (xt_tru (xe_var 0)) rfl) (fun h => nomatch h))).xt, fun h => ?_, fun h => ?_⟩
      · cases h
      · have : m = 0 := hm.symm
        subst this
        have : leastOf f r = ([], r') := he.symm
        rw [this]
    | some fl =>
      have hf' : f' = f'.dropLast ++ [fl] := by
        obtain ⟨ys, hys⟩ := List.getLast?_eq_some_iff.mp hf
        rw [hys, List.dropLast_concat]
      have af : atI (f'.map PyData.bool) (-1) = some (.bool fl) := by
        rw [hf', List.map_append]
        exact atI_last _ _
      have hfn : f' ≠ [] := fun z => by rw [z] at hf; cases hf
      obtain ⟨n, rfl⟩ : ∃ n, m = n + 1 := ⟨m - 1, by
        have : 0 < f'.length := List.length_pos_iff.mpr hfn
        omega⟩
      have htr : truD (.tuple (f'.map PyData.bool)) = true := by
        cases f' with
        | nil => exact absurd rfl hfn
        | cons a l => rfl
      refine ⟨_, ((xw_and (xt_tru (xe_var 0)) (fun _ => (xw_and1 (xt_cmp hu (xe_ix (xe_var 0) (xe_neg xe_int) (.tup af)) (xe_ix (xe_var 1) (xe_neg xe_int) (.tup ax)) (.eqB _ _)))))).xt, fun h => ?_, fun h => ?_⟩
      · rw [htr, Bool.true_and, beq_iff_eq] at h
        have hcut : cutD (r'.map PyData.bool) (some (-1)) none = [.bool rl] := by
          rw [cutD_map, hr', cutD_last]
          rfl
        refine xb_par (i := 0) (j := 1) (xe_sl (xe_var 0) xo_none (xo_some (xe_neg xe_int)) (.tup _ _ _)) (xe_catT (xe_sl (xe_var 1) (xo_some (xe_neg xe_int)) xo_none (.tup _ _ _)) (xe_sl (xe_var 1) xo_none (xo_some (xe_neg xe_int)) (.tup _ _ _)) ?hz) (xb_nil ?_) sc_least_of.nd
        case hz =>
          show (cutD (r'.map PyData.bool) (some (-1)) none).length + (cutD (r'.map PyData.bool) none (some (-1))).length ≤ _
          rw [hcut, cutD_map, cutD_init, List.length_map, List.length_dropLast]
          show 1 + _ ≤ _
          omega
        refine ⟨n, Nat.lt_succ_self n, f'.dropLast, rl :: r'.dropLast, List.cons_ne_nil _ _, ?_, ?_, ?_, ?_⟩
        · rw [List.length_cons, List.length_dropLast]
          have : 0 < r'.length := List.length_pos_iff.mpr hn'
          omega
        · rw [List.length_dropLast, hm]
          rfl
        · rw [← he]
          conv => rhs; unfold leastLoop
          rw [if_pos ⟨hfn, by rw [hf, hrl, h]⟩, hrl]
          rfl
        · show [Slot.dat (PyData.tuple (cutD (f'.map PyData.bool) none (some (-1)))), Slot.dat (PyData.tuple (cutD (r'.map PyData.bool) (some (-1)) none ++ cutD (r'.map PyData.bool) none (some (-1))))] = _
          rw [hcut, cutD_map, cutD_init, cutD_map, cutD_init]
          rfl
      · rw [htr, Bool.true_and] at h
        have : leastOf f r = (f', r') := by
          rw [← he]
          unfold leastLoop
          rw [if_neg]
          rintro ⟨_, e⟩
          rw [hf, hrl] at e
          cases e
          simp at h
        rw [this]
  · subst hM
    exact xb_ret (xe_tup (xa_cons (xe_var 0) (xa_cons (xe_var 1) xa_nil))) rfl
end
end K13

set_option Elab.async false
set_option linter.all false
set_option maxRecDepth 100000
set_option maxHeartbeats 4000000
namespace K13
open PySem PySem.Spec PyProof.Rows L2 Dl Sm
/-- a set as it may be passed -/
def St (x : PyData) (s : S) : Prop := ∃ a b, SeqD x [a, b] ∧ Bs a s.1 ∧ Bs b s.2
theorem St.told (s : S) : St (encT s) s := ⟨_, _, .tup _, .lst _, .lst _⟩
def Sz (s : S) : Prop := s.1.length ≤ 60 ∧ s.2.length ≤ 60 ∧ s.2 ≠ []
def lst (s : S) : S := leastOf s.1 s.2
def F_set_in (ds : List PyData) (d : PyData) : Prop := ∃ x s, ds = [x] ∧ St x s ∧ Sz s ∧ d = encP (lst s)
def F_need_sets (ds : List PyData) (d : PyData) : Prop := ∃ x s y t, ds = [x, y] ∧ St x s ∧ Sz s ∧ St y t ∧ Sz t ∧ d = .tuple [encP (lst s), encP (lst t)]
def F_told_set (ds : List PyData) (d : PyData) : Prop := ∃ s : S, ds = [encP s] ∧ s.1.length ≤ 60 ∧ s.2.length ≤ 60 ∧ d = encT s
def F_in_set (ds : List PyData) (d : PyData) : Prop := ∃ (s : S) (n : Nat), ds = [encP s, .int (n : Nat)] ∧ s.2 ≠ [] ∧ d = .bool (inS s n)
def F_common_round (ds : List PyData) (d : PyData) : Prop := ∃ a b : List Bool, ds = [.tuple (a.map .bool), .tuple (b.map .bool)] ∧ a ≠ [] ∧ b ≠ [] ∧ d = .int (Nat.lcm a.length b.length : Nat)
section
variable {P : Program} {w : World} {K : PySem.W.Frag} {mg : Str → Option Value} {base : Heap}
theorem c_set_in (T : Txt K mg) (c_is_row : Def P w K mg base 1 "is_row" ["thing"] (SpP K F_is_row)) (c_is_truths : Def P w K mg base 2 "is_truths" ["thing"] (SpP K F_is_truths)) (c_least_of : Def P w K mg base 2 "least_of" ["few", "ring"] (SpP K F_least_of)) : Def P w K mg base 3 "set_in" ["thing"] (SpP K F_set_in) := by
  refine def_pure T.a_set_in sc_set_in (fun ds d h => ?_) ?_
  · obtain ⟨x, s, rfl, _⟩ := h
    rfl
  rintro _ ⟨fa, cdv, A, outer, s, H, E, hr, rfl⟩ _ _ ⟨x, s, rfl, ⟨a, b, hx, ha, hb⟩, ⟨h1, h2, h3⟩, rfl⟩
  have hu := room65 hr
  show XB _ [.dat _] _ _
  have ia : IxD x 0 a := hx.ix rfl
  have ib : IxD x 1 b := hx.ix rfl
  have tb : truD b = true := by
    rw [hb.seq.tru]
    cases hs : s.2 with
    | nil => exact absurd hs h3
    | cons => rfl
  refine xb_ifR (k := false) (xt_eq ((xw_or (xt_not (xt_tru (xe_call c_is_row (hr.mono (by decide)) (xa_cons (xe_var 0) xa_nil) ⟨_, rfl, rfl⟩))) (fun _ => (xw_or (xt_cmp hu (xe_len T.g_len (xe_var 0) hx.len) xe_int (.neI _ _)) (fun _ => (xw_or (xt_not (xt_tru (xe_call c_is_truths (hr.mono (by decide)) (xa_cons (xe_ix (xe_var 0) xe_int ia) xa_nil) ⟨_, _, rfl, ha, h1, rfl⟩))) (fun _ => (xw_or (xt_not (xt_tru (xe_call c_is_truths (hr.mono (by decide)) (xa_cons (xe_ix (xe_var 0) xe_int ib) xa_nil) ⟨_, _, rfl, hb, h2, rfl⟩))) (fun _ => (xw_or1 (xt_not (xt_tru (xe_ix (xe_var 0) xe_int ib) hb.seq.truOk)))))))))))).xt ?_) (fun h => nomatch h) (fun _ => ?_)
  · rw [tb, hx.row]
    rfl
  exact xb_ret (xe_call c_least_of (hr.mono (by decide)) (xa_cons (xe_ix (xe_var 0) xe_int ia) (xa_cons (xe_ix (xe_var 0) xe_int ib) xa_nil)) ⟨_, _, _, _, rfl, ha, hb, h3, by omega, rfl⟩) rfl
theorem c_need_set (T : Txt K mg) (c_set_in : Def P w K mg base 3 "set_in" ["thing"] (SpP K F_set_in)) : Def P w K mg base 4 "need_set" ["numbers"] (SpP K F_set_in) := by
  refine def_pure T.a_need_set sc_need_set (fun ds d h => ?_) ?_
  · obtain ⟨x, s, rfl, _⟩ := h
    rfl
  rintro _ ⟨fa, cdv, A, outer, s, H, E, hr, rfl⟩ _ _ ⟨x, s, rfl, hx, hz, rfl⟩
  have hu := room65 hr
  show XB _ [.dat _, .no] _ _
  refine xb_asg 1 (xe_call c_set_in (hr.mono (by decide)) (xa_cons (xe_var 0) xa_nil) ⟨_, _, rfl, hx, hz, rfl⟩) ?_ sc_need_set.nd
  refine xb_ifR (k := false) (xt_eq (xt_cmp hu (xe_var 1) xe_non (.isN _ _ rfl)) rfl) (fun h => nomatch h) (fun _ => ?_)
  exact xb_ret (xe_var 1) rfl
theorem c_told_set (T : Txt K mg) : Def P w K mg base 1 "told_set" ["plain"] (SpP K F_told_set) := by
  refine def_pure T.a_told_set sc_told_set (fun ds d h => ?_) ?_
  · obtain ⟨s, rfl, _⟩ := h
    rfl
  rintro _ ⟨fa, cdv, A, outer, s, H, E, hr, rfl⟩ _ _ ⟨s, rfl, h1, h2, rfl⟩
  have hu := room65 hr
  obtain ⟨tM, hM⟩ := T.c_MOST
  show XB _ [.dat _, .no] _ _
  refine xb_asg 1 (xe_max2 T.g_max (xe_len T.g_len (xe_ix (xe_var 0) xe_int (.tup rfl)) (.tup _)) (xe_len T.g_len (xe_ix (xe_var 0) xe_int (.tup rfl)) (.tup _))) ?_ sc_told_set.nd
  refine xb_ifR (k := false) (xt_eq (xt_cmp hu (xe_var 1) (xe_gint hM) (.gtI _ _)) ?_) (fun h => nomatch h) (fun _ => ?_)
  · rw [decide_eq_false]
    simp only [List.length_map]
    split <;> omega
  exact xb_ret (xe_tup (xa_cons (xe_new (xn_listOf T.g_list (xe_ix (xe_var 0) xe_int (.tup rfl)) (.tup _))) (xa_cons (xe_new (xn_listOf T.g_list (xe_ix (xe_var 0) xe_int (.tup rfl)) (.tup _))) xa_nil))) rfl
theorem c_in_set (T : Txt K mg) : Def P w K mg base 1 "in_set" ["plain", "number"] (SpP K F_in_set) := by
  refine def_pure T.a_in_set sc_in_set (fun ds d h => ?_) ?_
  · obtain ⟨s, n, rfl, _⟩ := h
    rfl
  rintro _ ⟨fa, cdv, A, outer, s, H, E, hr, rfl⟩ _ _ ⟨s, n, rfl, h3, rfl⟩
  have hu := room65 hr
  show XB _ [.dat _, .dat _, .no, .no] _ _
  have hp : 0 < s.2.length := List.length_pos_iff.mpr h3
  refine xb_unp (xe_var 0) (xg_tup rfl (xgs_cons (xg_name 2 sc_in_set.nd) (xgs_cons (xg_name 3 sc_in_set.nd) xgs_nil)) rfl) ?_
  refine xb_ret (xe_if (xt_cmp hu (xe_var 1) (xe_len T.g_len (xe_var 2) (.tup _)) (.ltI _ _)) (fun h => (xe_ix (xe_var 2) (xe_var 1) (.tup ?i1))) (fun h => (xe_ix (xe_var 3) (xe_modI (xe_subI (xe_var 1) (xe_len T.g_len (xe_var 2) (.tup _))) (xe_len T.g_len (xe_var 3) (.tup _)) ?i0) (.tup ?i2)))) rfl
  case i0 => rw [List.length_map]; omega
  case i1 =>
    have hn : n < s.1.length := by
      have := of_decide_eq_true h
      rw [List.length_map] at this
      omega
    rw [atI_bools _ hn]
    unfold inS
    rw [if_pos hn]
  case i2 =>
    have hn : ¬ n < s.1.length := by
      have := of_decide_eq_false h
      rw [List.length_map] at this
      omega
    have e : ((n : Int) - ((s.1.map PyData.bool).length : Int)) % ((s.2.map PyData.bool).length : Int) = (((n - s.1.length) % s.2.length : Nat) : Int) := by
      rw [List.length_map, List.length_map, show ((n : Int) - (s.1.length : Int)) = ((n - s.1.length : Nat) : Int) by omega]
      exact (Int.natCast_emod _ _).symm
    rw [e, atI_bools _ (Nat.mod_lt _ hp)]
    unfold inS
    rw [if_neg hn]
end
end K13

set_option Elab.async false
set_option linter.all false
set_option maxRecDepth 100000
set_option maxHeartbeats 4000000
namespace K13
open PySem PySem.Spec PyProof.Rows L2 Dl Sm
abbrev encN (l : List Nat) : PyData := .list (l.map fun (n : Nat) => .int (n : Nat))
abbrev encO : Option Nat → PyData
  | none => .none
  | some n => .int (n : Nat)
def Fits (s : S) : Prop := s.1.length ≤ 60 ∧ s.2.length ≤ 60
def F_is_number (ds : List PyData) (d : PyData) : Prop := ∃ i a b : Int, ds = [.int i, .int a, .int b] ∧ d = .bool (decide (a ≤ i) && decide (i ≤ b))
def F_set_by (ds : List PyData) (d : PyData) : Prop := ∃ (s t : S) (l : List (Bool × Bool)), ds = [encP s, encP t, .list (l.map encPr)] ∧ s.1.length ≤ 60 ∧ t.1.length ≤ 60 ∧ s.2.length ≤ 60 ∧ t.2.length ≤ 60 ∧ s.2 ≠ [] ∧ t.2 ≠ [] ∧ d = encP (setBy s t fun a b => l.any fun z => z == (a, b))
def F_either_set (ds : List PyData) (d : PyData) : Prop := ∃ s t : S, ds = [encP s, encP t] ∧ Sz s ∧ Sz t ∧ d = encP (setBy s t (· || ·))
def F_both_set (ds : List PyData) (d : PyData) : Prop := ∃ s t : S, ds = [encP s, encP t] ∧ Sz s ∧ Sz t ∧ d = encP (setBy s t (· && ·))
def F_other_set (ds : List PyData) (d : PyData) : Prop := ∃ s : S, ds = [encP s] ∧ s.1.length ≤ 60 ∧ s.2.length ≤ 60 ∧ d = encP (otherOf s)
def F_first_of (ds : List PyData) (d : PyData) : Prop := ∃ s : S, ds = [encP s] ∧ s.1.length ≤ 10000 ∧ s.2.length ≤ 10000 ∧ s.2 ≠ [] ∧ d = encO (firstOf s)
def F_has_number (ds : List PyData) (d : PyData) : Prop := ∃ x s, ∃ n : Nat, ds = [x, .int (n : Nat)] ∧ St x s ∧ Sz s ∧ n ≤ 10 ^ 18 ∧ d = .bool (inS (lst s) n)
def F_set_of (ds : List PyData) (d : PyData) : Prop := ∃ l : List Nat, ds = [encN l] ∧ l.length ≤ 1000 ∧ (∀ n ∈ l, n < 60) ∧ d = encT (setOf l)
def F_numbers_below (ds : List PyData) (d : PyData) : Prop := ∃ x s, ∃ n : Nat, ds = [x, .int (n : Nat)] ∧ St x s ∧ Sz s ∧ n ≤ 200 ∧ d = encN ((List.range n).filter (inS (lst s)))
def F_union_of (ds : List PyData) (d : PyData) : Prop := ∃ x s y t, ds = [x, y] ∧ St x s ∧ Sz s ∧ St y t ∧ Sz t ∧ Fits (setBy (lst s) (lst t) (· || ·)) ∧ d = encT (setBy (lst s) (lst t) (· || ·))
def F_meet_of (ds : List PyData) (d : PyData) : Prop := ∃ x s y t, ds = [x, y] ∧ St x s ∧ Sz s ∧ St y t ∧ Sz t ∧ Fits (setBy (lst s) (lst t) (· && ·)) ∧ d = encT (setBy (lst s) (lst t) (· && ·))
def F_rest_of (ds : List PyData) (d : PyData) : Prop := ∃ x s, ds = [x] ∧ St x s ∧ Sz s ∧ d = encT (otherOf (lst s))
def F_is_within (ds : List PyData) (d : PyData) : Prop := ∃ x s y t, ds = [x, y] ∧ St x s ∧ Sz s ∧ St y t ∧ Sz t ∧ d = .bool (firstOf (setBy (lst s) (lst t) (fun a b => a && !b))).isNone
def F_first_number (ds : List PyData) (d : PyData) : Prop := ∃ x s, ds = [x] ∧ St x s ∧ Sz s ∧ d = encO (firstOf (lst s))
def F_first_apart (ds : List PyData) (d : PyData) : Prop := ∃ x s y t, ds = [x, y] ∧ St x s ∧ Sz s ∧ St y t ∧ Sz t ∧ d = encO (firstOf (setBy (lst s) (lst t) (fun a b => a != b)))
theorem Sz.lst {s : S} (h : Sz s) : Sz (lst s) := by
  obtain ⟨_, a, b, _⟩ := leastOf_spec s.1 h.2.2
  have c := roundSize_spec h.2.2
  have h1 := h.1
  have h2 := h.2.1
  exact ⟨by unfold K13.lst; omega, by unfold K13.lst; omega, (canon_least s.1 h.2.2).ne⟩
theorem setBy_sz {s t : S} (h : Sz s) (g : Sz t) (p : Bool → Bool → Bool) : (setBy s t p).1.length ≤ 60 ∧ (setBy s t p).2.length ≤ 3600 ∧ (setBy s t p).2 ≠ [] := by
  obtain ⟨a, _, c, d⟩ := setBy_all h.2.2 g.2.2 p
  have p1 : 0 < s.2.length := List.length_pos_iff.mpr h.2.2
  have p2 : 0 < t.2.length := List.length_pos_iff.mpr g.2.2
  have h5 := Nat.le_of_dvd (Nat.mul_pos p1 p2) (Nat.lcm_dvd_mul s.2.length t.2.length)
  have h7 : s.2.length * t.2.length ≤ 60 * 60 := Nat.mul_le_mul h.2.1 g.2.1
  have h1 := h.1
  have g1 := g.1
  exact ⟨by omega, by omega, a.ne⟩
section
variable {P : Program} {w : World} {K : PySem.W.Frag} {mg : Str → Option Value} {base : Heap}
theorem c_is_number (T : Txt K mg) : Def P w K mg base 1 "is_number" ["thing", "low", "high"] (SpP K F_is_number) := by
  refine def_pure T.a_is_number sc_is_number (fun ds d h => ?_) ?_
  · obtain ⟨i, a, b, rfl, _⟩ := h
    rfl
  rintro _ ⟨fa, cdv, A, outer, s, H, E, hr, rfl⟩ _ _ ⟨i, a, b, rfl, rfl⟩
  have hu := room65 hr
  show XB _ [.dat _, .dat _, .dat _] _ _
  exact xb_ret (xe_and (xe_isi T.g_isinstance (xe_var 0) T.g_int boot_int (kit_int _)) (fun _ => (xe_and (xe_not (xe_isi T.g_isinstance (xe_var 0) T.g_bool boot_bool (kit_bool _))) (fun _ => (xe_one (xe_chain hu (xe_var 1) (xe_var 0) (xe_var 2) (.leI _ _) (fun _ => (.leI _ _)))))))) rfl
theorem c_first_of (T : Txt K mg) (c_in_set : Def P w K mg base 1 "in_set" ["plain", "number"] (SpP K F_in_set)) : Def P w K mg base 2 "first_of" ["plain"] (SpP K F_first_of) := by
  refine def_pure T.a_first_of sc_first_of (fun ds d h => ?_) ?_
  · obtain ⟨s, rfl, _⟩ := h
    rfl
  rintro _ ⟨fa, cdv, A, outer, s_, H, E, hr, rfl⟩ _ _ ⟨s, rfl, h1, h2, h3, rfl⟩
  show XB _ [.dat _, .no, .no] _ _
  refine xb_lc 1 (xl_lcIf 2 (fun n : Nat => PyData.int (0 + (n : Nat))) (inS s) sc_first_of.nd (xi_rng1 T.g_range (xe_addI (xe_len T.g_len (xe_ix (xe_var 0) xe_int (.tup rfl)) (.tup _)) (xe_len T.g_len (xe_ix (xe_var 0) xe_int (.tup rfl)) (.tup _))) (by simp only [List.length_map]; omega)) (fun _ _ _ _ _ d hd => (xt_eq (xt_tru (xe_call c_in_set (hr.mono (by decide)) (xa_cons (xe_var 0) (xa_cons (xe_var 2) xa_nil)) ⟨s, d, by rw [Int.zero_add], h3, rfl⟩)) rfl)) (fun _ _ _ _ _ d hd ht => (xe_var 2)) (by simp only [List.length_map, List.length_range]; omega)) ?_ sc_first_of.nd
  have er : ((List.range ((((s.1.map PyData.bool).length : Nat) : Int) + (((s.2.map PyData.bool).length : Nat) : Int)).toNat).filter (inS s)) = (List.range (s.1.length + s.2.length)).filter (inS s) := by
    simp only [List.length_map]
    congr 2
  rw [er]
  unfold firstOf
  cases hrow : (List.range (s.1.length + s.2.length)).filter (inS s) with
  | nil => exact xb_ret (xe_if (k := false) (xt_eq (xt_tru (xe_var 1)) rfl) (fun h => nomatch h) (fun _ => xe_non)) rfl
  | cons a l => exact xb_ret (xe_if (k := true) (xt_eq (xt_tru (xe_var 1)) rfl) (fun _ => (xe_ix (xe_var 1) xe_int (.lst (atI_hd _ _)))) (fun h => nomatch h)) (by show PyData.int (0 + (a : Int)) = .int a; rw [Int.zero_add])
theorem c_has_number (T : Txt K mg) (c_in_set : Def P w K mg base 1 "in_set" ["plain", "number"] (SpP K F_in_set)) (c_is_number : Def P w K mg base 1 "is_number" ["thing", "low", "high"] (SpP K F_is_number)) (c_need_set : Def P w K mg base 4 "need_set" ["numbers"] (SpP K F_set_in)) : Def P w K mg base 5 "has_number" ["numbers", "number"] (SpP K F_has_number) := by
  refine def_pure T.a_has_number sc_has_number (fun ds d h => ?_) ?_
  · obtain ⟨x, s, n, rfl, _⟩ := h
    rfl
  rintro _ ⟨fa, cdv, A, outer, s_, H, E, hr, rfl⟩ _ _ ⟨x, s, n, rfl, hx, hz, hn, rfl⟩
  show XB _ [.dat _, .dat _, .no] _ _
  refine xb_asg 2 (xe_call c_need_set (hr.mono (by decide)) (xa_cons (xe_var 0) xa_nil) ⟨_, _, rfl, hx, hz, rfl⟩) ?_ sc_has_number.nd
  refine xb_ifR (k := false) (xt_eq (xt_not (xt_tru (xe_call c_is_number (hr.mono (by decide)) (xa_cons (xe_var 1) (xa_cons xe_int (xa_cons (xe_powI xe_int xe_int ⟨by decide, by decide, by decide⟩) xa_nil))) ⟨_, _, _, rfl, rfl⟩))) ?_) (fun h => nomatch h) (fun _ => ?_)
  · have h2 : (n : Int) ≤ (10 : Int) ^ (18 : Int).toNat := by
      have : ((10 ^ 18 : Nat) : Int) = (10 : Int) ^ (18 : Int).toNat := by decide
      rw [← this]
      exact Int.ofNat_le.mpr hn
    show (!(decide ((0 : Int) ≤ (n : Int)) && decide ((n : Int) ≤ (10 : Int) ^ (18 : Int).toNat))) = false
    rw [decide_eq_true h2, decide_eq_true (Int.natCast_nonneg n)]
    rfl
  exact xb_ret (xe_call c_in_set (hr.mono (by decide)) (xa_cons (xe_var 2) (xa_cons (xe_var 1) xa_nil)) ⟨lst s, n, rfl, hz.lst.2.2, rfl⟩) rfl
theorem any_nat (l : List Nat) (n : Nat) : ((l.map fun (n : Nat) => PyData.int (n : Nat)).any fun z => PyData.eqv z (.int (n : Nat))) = l.contains n := by
  rw [List.any_map]
  induction l with
  | nil => rfl
  | cons a r ih =>
    rw [List.any_cons, ih, List.contains_cons]
    congr 1
    simp only [Function.comp, PyData.eqv]
    rw [Bool.eq_iff_iff]
    simp only [beq_iff_eq]
    omega
theorem shaped_nats (l : List Nat) : SeqAt.shaped (encN l) = true := by
  unfold SeqAt.shaped
  have h1 : PyData.canLay0 (encN l) = true := by
    simp only [PyData.canLay0]
    exact lay_map _ (fun _ => by simp [PyData.canLay0]) l
  have h2 := depth_map (fun (n : Nat) => PyData.int (n : Nat)) 0 (fun _ => by simp [PyData.depth]) l
  have h3 : PyData.depth (encN l) = PyData.depthAll (l.map fun (n : Nat) => PyData.int (n : Nat)) + 1 := by simp only [PyData.depth]
  rw [h1, h3, Bool.true_and, decide_eq_true_eq]
  omega
theorem shaped_int (i : Int) : SeqAt.shaped (.int i) = true := by
  unfold SeqAt.shaped
  simp [PyData.canLay0, PyData.depth]
theorem setOf_fits (l : List Nat) : Fits (setOf l) := by
  obtain ⟨_, _, a, b⟩ := setOf_all l
  exact ⟨a, by omega⟩
theorem c_set_of (T : Txt K mg) (c_is_number : Def P w K mg base 1 "is_number" ["thing", "low", "high"] (SpP K F_is_number)) (c_is_row : Def P w K mg base 1 "is_row" ["thing"] (SpP K F_is_row)) (c_least_of : Def P w K mg base 2 "least_of" ["few", "ring"] (SpP K F_least_of)) (c_told_set : Def P w K mg base 1 "told_set" ["plain"] (SpP K F_told_set)) : Def P w K mg base 3 "set_of" ["listed"] (SpP K F_set_of) := by
  refine def_pure T.a_set_of sc_set_of (fun ds d h => ?_) ?_
  · obtain ⟨l, rfl, _⟩ := h
    rfl
  rintro _ ⟨fa, cdv, A, outer, s_, H, E, hr, rfl⟩ _ _ ⟨l, rfl, hl, hb, rfl⟩
  have hu := room65 hr
  obtain ⟨tM, hM⟩ := T.c_MOST
  show XB _ [.dat _, .no, .no] _ _
  have hf : ∀ n ∈ l, (!(decide ((0 : Int) ≤ (n : Int)) && decide ((n : Int) ≤ 60 - 1))) = false := fun n hn => by
    have := hb n hn
    rw [decide_eq_true (Int.natCast_nonneg n), decide_eq_true (show (n : Int) ≤ 60 - 1 by omega)]
    rfl
  refine xb_ifR (k := false) (xt_eq ((xw_or (xt_not (xt_tru (xe_call c_is_row (hr.mono (by decide)) (xa_cons (xe_var 0) xa_nil) ⟨_, rfl, rfl⟩))) (fun _ => (xw_or1 (xt_tru (xe_new (xl_lcIf (l := l) (f := fun (n : Nat) => PyData.int (n : Nat)) 1 _ _ sc_set_of.nd (xi_list (xe_var 0)) (fun _ _ _ _ _ d hd => (xt_not (xt_tru (xe_call c_is_number (hr.mono (by decide)) (xa_cons (xe_var 1) (xa_cons xe_int (xa_cons (xe_subI (xe_gint hM) xe_int) xa_nil))) ⟨(d : Nat), _, _, rfl, rfl⟩)))) (fun _ _ _ _ _ d hd ht => (xe_var 1)) (by omega)).val)))))).xt ?_) (fun h => nomatch h) (fun _ => ?_)
  · show (false || !(((l.filter fun n : Nat => !(decide ((0 : Int) ≤ (n : Int)) && decide ((n : Int) ≤ 60 - 1))).map fun (n : Nat) => PyData.int (n : Nat)).isEmpty)) = false
    rw [List.filter_eq_nil_iff.mpr (fun n hn => by rw [hf n hn]; decide)]
    rfl
  refine xb_ret (xe_call c_told_set (hr.mono (by decide)) (xa_cons (xe_call c_least_of (hr.mono (by decide)) (xa_cons (xe_new (xl_lc 2 (fun n : Nat => PyData.bool (l.contains n)) sc_set_of.nd (xi_rng1 T.g_range (xe_gint hM) (by decide)) (fun _ _ _ _ _ d hd => xe_eq (xe_cmp hu (xe_var 2) (xe_var 0) (.inD _ _ (shaped_int _) (shaped_nats l))) (by rw [Int.zero_add, any_nat])) (by decide)).val) (xa_cons (xe_lst (xa_cons xe_bl xa_nil)) xa_nil)) ⟨_, _, (List.range 60).map fun n => l.contains n, [false], rfl, ?_, .lst [false], by decide, by decide, rfl⟩) xa_nil) ⟨setOf l, rfl, (setOf_fits l).1, (setOf_fits l).2, rfl⟩) rfl
  have := Bs.lst ((List.range 60).map fun n => l.contains n)
  rw [List.map_map] at this
  exact this
theorem c_numbers_below (T : Txt K mg) (c_in_set : Def P w K mg base 1 "in_set" ["plain", "number"] (SpP K F_in_set)) (c_is_number : Def P w K mg base 1 "is_number" ["thing", "low", "high"] (SpP K F_is_number)) (c_need_set : Def P w K mg base 4 "need_set" ["numbers"] (SpP K F_set_in)) : Def P w K mg base 5 "numbers_below" ["numbers", "many"] (SpP K F_numbers_below) := by
  refine def_pure T.a_numbers_below sc_numbers_below (fun ds d h => ?_) ?_
  · obtain ⟨x, s, n, rfl, _⟩ := h
    rfl
  rintro _ ⟨fa, cdv, A, outer, s_, H, E, hr, rfl⟩ _ _ ⟨x, s, n, rfl, hx, hz, hn, rfl⟩
  show XB _ [.dat _, .dat _, .no, .no] _ _
  refine xb_asg 2 (xe_call c_need_set (hr.mono (by decide)) (xa_cons (xe_var 0) xa_nil) ⟨_, _, rfl, hx, hz, rfl⟩) ?_ sc_numbers_below.nd
  refine xb_ifR (k := false) (xt_eq (xt_not (xt_tru (xe_call c_is_number (hr.mono (by decide)) (xa_cons (xe_var 1) (xa_cons xe_int (xa_cons xe_int xa_nil))) ⟨_, _, _, rfl, rfl⟩))) ?_) (fun h => nomatch h) (fun _ => ?_)
  · show (!(decide ((0 : Int) ≤ (n : Int)) && decide ((n : Int) ≤ 200))) = false
    rw [decide_eq_true (show (n : Int) ≤ 200 by omega), decide_eq_true (Int.natCast_nonneg n)]
    rfl
  refine xb_ret (xe_new (xl_lcIf 3 (fun n : Nat => PyData.int (0 + (n : Nat))) (inS (lst s)) sc_numbers_below.nd (xi_rng1 T.g_range (xe_var 1) (by omega)) (fun _ _ _ _ _ d hd => (xt_eq (xt_tru (xe_call c_in_set (hr.mono (by decide)) (xa_cons (xe_var 2) (xa_cons (xe_var 3) xa_nil)) ⟨lst s, d, by rw [Int.zero_add], hz.lst.2.2, rfl⟩)) rfl)) (fun _ _ _ _ _ d hd ht => (xe_var 3)) (by rw [List.length_range]; omega)).val) ?_
  show PyData.list _ = PyData.list _
  rw [Int.toNat_natCast]
  congr 1
  exact List.map_congr_left fun a _ => by rw [Int.zero_add]
theorem c_first_number (T : Txt K mg) (c_first_of : Def P w K mg base 2 "first_of" ["plain"] (SpP K F_first_of)) (c_need_set : Def P w K mg base 4 "need_set" ["numbers"] (SpP K F_set_in)) : Def P w K mg base 5 "first_number" ["numbers"] (SpP K F_first_number) := by
  refine def_pure T.a_first_number sc_first_number (fun ds d h => ?_) ?_
  · obtain ⟨x, s, rfl, _⟩ := h
    rfl
  rintro _ ⟨fa, cdv, A, outer, s_, H, E, hr, rfl⟩ _ _ ⟨x, s, rfl, hx, hz, rfl⟩
  show XB _ [.dat _] _ _
  obtain ⟨a1, a2, a3⟩ := hz.lst
  exact xb_ret (xe_call c_first_of (hr.mono (by decide)) (xa_cons (xe_call c_need_set (hr.mono (by decide)) (xa_cons (xe_var 0) xa_nil) ⟨_, _, rfl, hx, hz, rfl⟩) xa_nil) ⟨_, rfl, by omega, by omega, a3, rfl⟩) rfl
end
end K13

set_option Elab.async false
set_option linter.all false
set_option maxRecDepth 100000
set_option maxHeartbeats 4000000
namespace K13
open PySem PySem.Spec PyProof.Rows L2 Dl Sm
def F_need_by (ds : List PyData) (d : PyData) : Prop := ∃ k : Nat, ds = [.int (k : Nat)] ∧ k ≤ 60 ∧ d = .int (k : Nat)
def F_up_by (ds : List PyData) (d : PyData) : Prop := ∃ (s : S) (k : Nat), ds = [encP s, .int (k : Nat)] ∧ k ≤ 60 ∧ Sz s ∧ d = encP (upBy s k)
def F_down_by (ds : List PyData) (d : PyData) : Prop := ∃ (s : S) (k : Nat), ds = [encP s, .int (k : Nat)] ∧ k ≤ 60 ∧ Sz s ∧ d = encP (downBy s k)
def F_low_by (ds : List PyData) (d : PyData) : Prop := ∃ (s : S) (k : Nat), ds = [encP s, .int (k : Nat)] ∧ k ≤ 60 ∧ Sz s ∧ d = encP (lowBy s k)
def F_mask_of (ds : List PyData) (d : PyData) : Prop := ∃ (s : S) (n : Nat), ds = [encP s, .int (n : Nat)] ∧ n ≤ 10000 ∧ s.2 ≠ [] ∧ d = .int (maskOf s n : Nat)
def F_sum_set (ds : List PyData) (d : PyData) : Prop := ∃ s t : S, ds = [encP s, encP t] ∧ Sz s ∧ Sz t ∧ d = encP (sumSet s t)
def F_shifted_up (ds : List PyData) (d : PyData) : Prop := ∃ x s, ∃ k : Nat, ds = [x, .int (k : Nat)] ∧ St x s ∧ Sz s ∧ k ≤ 60 ∧ Fits (upBy (lst s) k) ∧ d = encT (upBy (lst s) k)
def F_shifted_down (ds : List PyData) (d : PyData) : Prop := ∃ x s, ∃ k : Nat, ds = [x, .int (k : Nat)] ∧ St x s ∧ Sz s ∧ k ≤ 60 ∧ Fits (downBy (lst s) k) ∧ d = encT (downBy (lst s) k)
def F_lowered (ds : List PyData) (d : PyData) : Prop := ∃ x s, ∃ k : Nat, ds = [x, .int (k : Nat)] ∧ St x s ∧ Sz s ∧ k ≤ 60 ∧ Fits (lowBy (lst s) k) ∧ d = encT (lowBy (lst s) k)
def F_sums_of (ds : List PyData) (d : PyData) : Prop := ∃ x s y t, ds = [x, y] ∧ St x s ∧ Sz s ∧ St y t ∧ Sz t ∧ Fits (sumSet (lst s) (lst t)) ∧ d = encT (sumSet (lst s) (lst t))
theorem downBy_sz {s : S} (h : Sz s) (k : Nat) : Sz (downBy s k) := by
  obtain ⟨a, _, b, c⟩ := downBy_all h.2.2 k
  have h1 := h.1
  have h2 := h.2.1
  exact ⟨by omega, by omega, a.ne⟩
section
variable {P : Program} {w : World} {K : PySem.W.Frag} {mg : Str → Option Value} {base : Heap}
end
end K13

set_option Elab.async false
set_option linter.all false
set_option maxRecDepth 100000
set_option maxHeartbeats 4000000
namespace K13
open PySem PySem.Spec PyProof.Rows L2 Dl Sm
theorem cast_sum (l : List Nat) : ((l.sum : Nat) : Int) = (l.map fun (n : Nat) => (n : Int)).sum := by
  induction l with
  | nil => rfl
  | cons a r ih => rw [List.sum_cons, List.map_cons, List.sum_cons, Int.natCast_add, ih]
theorem pow_cast (k : Nat) : ((2 ^ k : Nat) : Int) = (2 : Int) ^ k := by rw [Int.natCast_pow]; rfl
section
variable {P : Program} {w : World} {K : PySem.W.Frag} {mg : Str → Option Value} {base : Heap}
end
end K13

set_option Elab.async false
set_option linter.all false
set_option maxRecDepth 100000
set_option maxHeartbeats 4000000
namespace K13
open PySem PySem.Spec PyProof.Rows L2 Dl Sm
/-- what is no row of at most sixty truths -/
inductive NoTruths : PyData → Prop
  | row {x : PyData} (h : isRowD x = false) : NoTruths x
  | long {x : PyData} {l : List PyData} (h : SeqD x l) (h1 : 60 < l.length) (h2 : l.length ≤ 1000000) : NoTruths x
  | odd {x : PyData} {l : List PyData} (h : SeqD x l) (h1 : l.length ≤ 60) (h2 : l.filter (fun y => !isBoolD y) ≠ []) (h3 : SeqAt.shaped (.list (l.filter (fun y => !isBoolD y))) = true) : NoTruths x
/-- what is no set -/
inductive NoSet : PyData → Prop
  | row {x : PyData} (h : isRowD x = false) : NoSet x
  | len {x : PyData} {l : List PyData} (h : SeqD x l) (h1 : l.length ≠ 2) : NoSet x
  | fst {x a b : PyData} (h : SeqD x [a, b]) (h1 : NoTruths a) : NoSet x
  | snd {x a b : PyData} {l : List Bool} (h : SeqD x [a, b]) (h1 : Bs a l) (h2 : l.length ≤ 60) (h3 : NoTruths b) : NoSet x
  | emp {x a b : PyData} {l : List Bool} (h : SeqD x [a, b]) (h1 : Bs a l) (h2 : l.length ≤ 60) (h3 : Bs b []) : NoSet x
def N_is_truths (ds : List PyData) (d : PyData) : Prop := ∃ x, ds = [x] ∧ NoTruths x ∧ d = .bool false
def N_set_in (ds : List PyData) (d : PyData) : Prop := ∃ x, ds = [x] ∧ NoSet x ∧ d = .none
/-- what is no whole number, or none from low to high -/
inductive NoNum (low high : Int) : PyData → Prop
  | kind {x : PyData} (h : isIntD x = false) : NoNum low high x
  | bl (b : Bool) : NoNum low high (.bool b)
  | low (i : Int) (h : i < low) : NoNum low high (.int i)
  | high (i : Int) (h0 : low ≤ i) (h : high < i) : NoNum low high (.int i)
abbrev NoBy (x : PyData) : Prop := NoNum 0 60 x
def N_is_number (ds : List PyData) (d : PyData) : Prop := ∃ x, ∃ a b : Int, ds = [x, .int a, .int b] ∧ NoNum a b x ∧ d = .bool false
theorem eqv_ne {l : List PyData} (h : l ≠ []) : PyData.eqv (.list l) (.list []) = false := by
  cases l with
  | nil => exact absurd rfl h
  | cons a r => simp [PyData.eqv, PyData.eqvAll]
section
variable {P : Program} {w : World} {K : PySem.W.Frag} {mg : Str → Option Value} {base : Heap}
theorem n_is_truths (T : Txt K mg) (c_is_row : Def P w K mg base 1 "is_row" ["thing"] (SpP K F_is_row)) : Def P w K mg base 2 "is_truths" ["thing"] (SpP K N_is_truths) := by
  refine def_pure T.a_is_truths sc_is_truths (fun ds d h => ?_) ?_
  · obtain ⟨x, rfl, _⟩ := h
    rfl
  rintro _ ⟨fa, cdv, A, outer, s, H, E, hr, rfl⟩ _ _ ⟨x, rfl, hx, rfl⟩
  have hu := room65 hr
  obtain ⟨tM, hM⟩ := T.c_MOST
  show XB _ [.dat _, .no] _ _
  cases hx with
  | row h => exact xb_ret (xe_eq (xe_and (k := false) (m := true) (xe_eq (xe_call c_is_row (hr.mono (by decide)) (xa_cons (xe_var 0) xa_nil) ⟨_, rfl, rfl⟩) (by rw [h])) (fun z => (nomatch z))) rfl) rfl
  | @long l h h1 h2 =>
    refine xb_ret (xe_and (xe_call c_is_row (hr.mono (by decide)) (xa_cons (xe_var 0) xa_nil) ⟨_, rfl, rfl⟩) (fun _ => (xe_and (k := false) (m := true) (xe_eq (xe_cmp hu (xe_len T.g_len (xe_var 0) h.len) (xe_gint hM) (.leI _ _)) (by rw [decide_eq_false (by omega)])) (fun z => (nomatch z))))) ?_
    show PyData.bool (isRowD x && (false && true)) = .bool false
    rw [h.row]
    rfl
  | @odd l h h1 h2 h3 =>
    refine xb_ret (xe_and (xe_call c_is_row (hr.mono (by decide)) (xa_cons (xe_var 0) xa_nil) ⟨_, rfl, rfl⟩) (fun _ => (xe_and (xe_cmp hu (xe_len T.g_len (xe_var 0) h.len) (xe_gint hM) (.leI _ _)) (fun _ => (xe_one (xe_cmp hu (xe_new (xl_lcIf (l := l) (f := fun y => y) 1 (fun y => y) (fun y => !isBoolD y) sc_is_truths.nd (by rw [map_id']; exact xi_seq (xe_var 0) h) (fun _ _ _ _ _ d hd => (xt_not (xt_tru (xe_isi T.g_isinstance (xe_var 1) T.g_bool boot_bool (kit_bool _))))) (fun _ _ _ _ _ d hd ht => (xe_var 1)) (by omega)).val) (xe_lst xa_nil) (.eqD _ _ (by rw [map_id']; exact h3) shaped_nil))))))) ?_
    show PyData.bool (isRowD x && (decide ((l.length : Int) ≤ 60) && PyData.eqv (.list ((l.filter fun y => !isBoolD y).map fun y => y)) (.list []))) = .bool false
    rw [map_id', eqv_ne h2, h.row, Bool.and_false]
    rfl
theorem n_is_number (T : Txt K mg) : Def P w K mg base 1 "is_number" ["thing", "low", "high"] (SpP K N_is_number) := by
  refine def_pure T.a_is_number sc_is_number (fun ds d h => ?_) ?_
  · obtain ⟨x, a, b, rfl, _⟩ := h
    rfl
  rintro _ ⟨fa, cdv, A, outer, s, H, E, hr, rfl⟩ _ _ ⟨x, a, b, rfl, hx, rfl⟩
  have hu := room65 hr
  show XB _ [.dat _, .dat _, .dat _] _ _
  cases hx with
  | kind h => exact xb_ret (xe_eq (xe_and (k := false) (m := true) (xe_eq (xe_isi T.g_isinstance (xe_var 0) T.g_int boot_int (kit_int _)) (by rw [h])) (fun z => (nomatch z))) rfl) rfl
  | bl b => exact xb_ret (xe_and (xe_isi T.g_isinstance (xe_var 0) T.g_int boot_int (kit_int _)) (fun _ => (xe_and (k := false) (m := true) (xe_eq (xe_not (xe_isi T.g_isinstance (xe_var 0) T.g_bool boot_bool (kit_bool _))) rfl) (fun z => (nomatch z))))) rfl
  | low i h => exact xb_ret (xe_eq (xe_and (xe_isi T.g_isinstance (xe_var 0) T.g_int boot_int (kit_int _)) (fun _ => (xe_and (xe_not (xe_isi T.g_isinstance (xe_var 0) T.g_bool boot_bool (kit_bool _))) (fun _ => (xe_one (xe_chain hu (xe_var 1) (xe_var 0) (xe_var 2) (.leI _ _) (fun _ => (.leI _ _)))))))) (by rw [decide_eq_false (by omega)]; rfl)) rfl
  | high i h0 h => exact xb_ret (xe_eq (xe_and (xe_isi T.g_isinstance (xe_var 0) T.g_int boot_int (kit_int _)) (fun _ => (xe_and (xe_not (xe_isi T.g_isinstance (xe_var 0) T.g_bool boot_bool (kit_bool _))) (fun _ => (xe_one (xe_chain hu (xe_var 1) (xe_var 0) (xe_var 2) (.leI _ _) (fun _ => (.leI _ _)))))))) (by rw [decide_eq_true h0, decide_eq_false (by omega)]; rfl)) rfl
theorem n_set_in (T : Txt K mg) (c_is_row : Def P w K mg base 1 "is_row" ["thing"] (SpP K F_is_row)) (c_is_truths : Def P w K mg base 2 "is_truths" ["thing"] (SpP K F_is_truths)) (n_is_truths : Def P w K mg base 2 "is_truths" ["thing"] (SpP K N_is_truths)) : Def P w K mg base 3 "set_in" ["thing"] (SpP K N_set_in) := by
  refine def_pure T.a_set_in sc_set_in (fun ds d h => ?_) ?_
  · obtain ⟨x, rfl, _⟩ := h
    rfl
  rintro _ ⟨fa, cdv, A, outer, s, H, E, hr, rfl⟩ _ _ ⟨x, rfl, hx, rfl⟩
  have hu := room65 hr
  show XB _ [.dat _] _ _
  cases hx with
  | row h => exact xb_ifR (k := true) (xt_eq ((xw_or (k := true) (m := true) (xt_eq (xt_not (xt_tru (xe_call c_is_row (hr.mono (by decide)) (xa_cons (xe_var 0) xa_nil) ⟨_, rfl, rfl⟩))) (by show (!isRowD x) = true; rw [h]; rfl)) (fun z => (nomatch z)))).xt rfl) (fun _ => xb_ret xe_non rfl) (fun z => (nomatch z))
  | @len l h h1 => exact xb_ifR (k := true) (xt_eq ((xw_or (xt_not (xt_tru (xe_call c_is_row (hr.mono (by decide)) (xa_cons (xe_var 0) xa_nil) ⟨_, rfl, rfl⟩))) (fun _ => (xw_or (k := true) (m := true) (xt_eq (xt_cmp hu (xe_len T.g_len (xe_var 0) h.len) xe_int (.neI _ _)) (by rw [decide_eq_false (by omega)]; rfl)) (fun z => (nomatch z)))))).xt (Bool.or_true _)) (fun _ => xb_ret xe_non rfl) (fun z => (nomatch z))
  | @fst a b h h1 =>
    have ia : IxD x 0 a := h.ix rfl
    exact xb_ifR (k := true) (xt_eq ((xw_or (xt_not (xt_tru (xe_call c_is_row (hr.mono (by decide)) (xa_cons (xe_var 0) xa_nil) ⟨_, rfl, rfl⟩))) (fun _ => (xw_or (xt_cmp hu (xe_len T.g_len (xe_var 0) h.len) xe_int (.neI _ _)) (fun _ => (xw_or (k := true) (m := true) (xt_eq (xt_not (xt_tru (xe_call n_is_truths (hr.mono (by decide)) (xa_cons (xe_ix (xe_var 0) xe_int ia) xa_nil) ⟨_, rfl, h1, rfl⟩))) rfl) (fun z => (nomatch z)))))))).xt (by rw [h.row]; rfl)) (fun _ => xb_ret xe_non rfl) (fun z => (nomatch z))
  | @snd a b l h h1 h2 h3 =>
    have ia : IxD x 0 a := h.ix rfl
    have ib : IxD x 1 b := h.ix rfl
    exact xb_ifR (k := true) (xt_eq ((xw_or (xt_not (xt_tru (xe_call c_is_row (hr.mono (by decide)) (xa_cons (xe_var 0) xa_nil) ⟨_, rfl, rfl⟩))) (fun _ => (xw_or (xt_cmp hu (xe_len T.g_len (xe_var 0) h.len) xe_int (.neI _ _)) (fun _ => (xw_or (xt_not (xt_tru (xe_call c_is_truths (hr.mono (by decide)) (xa_cons (xe_ix (xe_var 0) xe_int ia) xa_nil) ⟨_, _, rfl, h1, h2, rfl⟩))) (fun _ => (xw_or (k := true) (m := true) (xt_eq (xt_not (xt_tru (xe_call n_is_truths (hr.mono (by decide)) (xa_cons (xe_ix (xe_var 0) xe_int ib) xa_nil) ⟨_, rfl, h3, rfl⟩))) rfl) (fun z => (nomatch z)))))))))).xt (by rw [h.row]; rfl)) (fun _ => xb_ret xe_non rfl) (fun z => (nomatch z))
  | @emp a b l h h1 h2 h3 =>
    have ia : IxD x 0 a := h.ix rfl
    have ib : IxD x 1 b := h.ix rfl
    exact xb_ifR (k := true) (xt_eq ((xw_or (xt_not (xt_tru (xe_call c_is_row (hr.mono (by decide)) (xa_cons (xe_var 0) xa_nil) ⟨_, rfl, rfl⟩))) (fun _ => (xw_or (xt_cmp hu (xe_len T.g_len (xe_var 0) h.len) xe_int (.neI _ _)) (fun _ => (xw_or (xt_not (xt_tru (xe_call c_is_truths (hr.mono (by decide)) (xa_cons (xe_ix (xe_var 0) xe_int ia) xa_nil) ⟨_, _, rfl, h1, h2, rfl⟩))) (fun _ => (xw_or (xt_not (xt_tru (xe_call c_is_truths (hr.mono (by decide)) (xa_cons (xe_ix (xe_var 0) xe_int ib) xa_nil) ⟨_, _, rfl, h3, by decide, rfl⟩))) (fun _ => (xw_or1 (xt_eq (xt_not (xt_tru (xe_ix (xe_var 0) xe_int ib) h3.seq.truOk)) (by rw [h3.seq.tru])))))))))))).xt (by rw [h.row]; rfl)) (fun _ => xb_ret xe_non rfl) (fun z => (nomatch z))
end
/-! what is raised -/
def E_need_set (ca : CA) (ds : List PyData) (C : Addr) (fld : Str) (y : PyData) : Prop := ∃ x, ds = [x] ∧ NoSet x ∧ C = ca.BadSet ∧ fld = "thing" ∧ y = x
def E_told_set (ca : CA) (ds : List PyData) (C : Addr) (fld : Str) (y : PyData) : Prop := ∃ s : S, ds = [encP s] ∧ 60 < max s.1.length s.2.length ∧ C = ca.TooMany ∧ fld = "many" ∧ y = .int (max s.1.length s.2.length : Nat)
def FF_told_set (ds : List PyData) (l1 l2 : List Bool) : Prop := ∃ s : S, ds = [encP s] ∧ Fits s ∧ l1 = s.1 ∧ l2 = s.2
theorem err_BadSet (P : Program) (w : World) (base : Heap) {K : PySem.W.Frag} {mg : Str → Option Value} {ca : CA} (Er : Err K mg ca) : ErrC P w K mg base "BadSet" ca.BadSet "thing" := errC Er.o_BadSet Er.m_BadSet sci_BadSet rfl fun X ⟨fa, cdv, A, outer, s, H, E, hX⟩ => by
  subst hX
  exact pss_one (ps_ost (pe_var (i := 0) rfl (Or.inl rfl)) (pe_var (i := 1) rfl (Or.inl rfl)))
theorem err_TooMany (P : Program) (w : World) (base : Heap) {K : PySem.W.Frag} {mg : Str → Option Value} {ca : CA} (Er : Err K mg ca) : ErrC P w K mg base "TooMany" ca.TooMany "many" := errC Er.o_TooMany Er.m_TooMany sci_TooMany rfl fun X ⟨fa, cdv, A, outer, s, H, E, hX⟩ => by
  subst hX
  exact pss_one (ps_ost (pe_var (i := 0) rfl (Or.inl rfl)) (pe_var (i := 1) rfl (Or.inl rfl)))
section
variable {P : Program} {w : World} {K : PySem.W.Frag} {mg : Str → Option Value} {base : Heap} {ca : CA}
theorem r_need_set (T : Txt K mg) (Er : Err K mg ca) (n_set_in : Def P w K mg base 3 "set_in" ["thing"] (SpP K N_set_in)) : DefX P w K mg base 4 "need_set" ["numbers"] (SpE K (E_need_set ca)) := by
  refine def_raise T.a_need_set sc_need_set (fun ds C fld y h => ?_) ?_
  · obtain ⟨x, rfl, _⟩ := h
    rfl
  rintro _ ⟨fa, cdv, A, outer, s, H, E, hr, rfl⟩ g _ _ _ _ ⟨x, rfl, hx, rfl, rfl, rfl⟩ hw
  have hu := room65 hr
  show XB _ [.dat _, .no] _ _
  refine xb_asg 1 (xe_call n_set_in (hr.mono (by decide)) (xa_cons (xe_var 0) xa_nil) ⟨_, rfl, hx, rfl⟩) ?_ sc_need_set.nd
  refine xb_ifR (k := true) (xt_eq (xt_cmp hu (xe_var 1) xe_non (.isN _ _ rfl)) rfl) (fun _ => ?_) (fun h => (nomatch h))
  exact xb_raise (err_BadSet P w base Er) (xe_var 0) hw (hr.mono (by decide))
theorem r_told_set (T : Txt K mg) (Er : Err K mg ca) : DefX P w K mg base 3 "told_set" ["plain"] (SpE K (E_told_set ca)) := by
  refine def_raise T.a_told_set sc_told_set (fun ds C fld y h => ?_) ?_
  · obtain ⟨s, rfl, _⟩ := h
    rfl
  rintro _ ⟨fa, cdv, A, outer, s_, H, E, hr, rfl⟩ g _ _ _ _ ⟨s, rfl, hs, rfl, rfl, rfl⟩ hw
  have hu := room65 hr
  obtain ⟨tM, hM⟩ := T.c_MOST
  show XB _ [.dat _, .no] _ _
  have e2 : (if (((s.2.map PyData.bool).length : Nat) : Int) > (((s.1.map PyData.bool).length : Nat) : Int) then (((s.2.map PyData.bool).length : Nat) : Int) else (((s.1.map PyData.bool).length : Nat) : Int)) = ((max s.1.length s.2.length : Nat) : Int) := by
    rw [List.length_map, List.length_map]
    split <;> omega
  refine xb_asg 1 (xe_eq (xe_max2 T.g_max (xe_len T.g_len (xe_ix (xe_var 0) xe_int (.tup rfl)) (.tup _)) (xe_len T.g_len (xe_ix (xe_var 0) xe_int (.tup rfl)) (.tup _))) (congrArg PyData.int e2)) ?_ sc_told_set.nd
  refine xb_ifR (k := true) (xt_eq (xt_cmp hu (xe_var 1) (xe_gint hM) (.gtI _ _)) (decide_eq_true (by omega))) (fun _ => ?_) (fun h => (nomatch h))
  exact xb_raise (err_TooMany P w base Er) (xe_var 1) hw (hr.mono (by decide))
theorem f_told_set (T : Txt K mg) : Def P w K mg base 1 "told_set" ["plain"] (SpF K FF_told_set) := by
  refine def_fresh T.a_told_set sc_told_set (fun ds l1 l2 h => ?_) ?_
  · obtain ⟨s, rfl, _⟩ := h
    rfl
  rintro _ ⟨fa, cdv, A, outer, s_, H, E, hr, rfl⟩ g _ _ _ ⟨s, rfl, ⟨h1, h2⟩, rfl, rfl⟩
  have hu := room65 hr
  obtain ⟨tM, hM⟩ := T.c_MOST
  show XB _ [.dat _, .no] _ _
  refine xb_asg 1 (xe_max2 T.g_max (xe_len T.g_len (xe_ix (xe_var 0) xe_int (.tup rfl)) (.tup _)) (xe_len T.g_len (xe_ix (xe_var 0) xe_int (.tup rfl)) (.tup _))) ?_ sc_told_set.nd
  refine xb_ifR (k := false) (xt_eq (xt_cmp hu (xe_var 1) (xe_gint hM) (.gtI _ _)) ?_) (fun h => (nomatch h)) (fun _ => ?_)
  · rw [decide_eq_false]
    simp only [List.length_map]
    split <;> omega
  exact xb_retPair (xn_listOf T.g_list (xe_ix (xe_var 0) xe_int (.tup rfl)) (.tup _)) (xn_listOf T.g_list (xe_ix (xe_var 0) xe_int (.tup rfl)) (.tup _)) rfl
end
end K13

set_option Elab.async false
set_option linter.all false
set_option maxRecDepth 100000
set_option maxHeartbeats 4000000
namespace K13
open PySem PySem.Spec PyProof.Rows L2 Dl Sm
def Pb (n : Nat) (ds : List PyData) : Prop := n ≤ 2 ^ 40 ∧ ∃ many : Int, ds = [.int many] ∧ 0 < many ∧ many ≤ 1000
def Qb (n : Nat) (ds : List PyData) (n2 : Nat) (d : PyData) : Prop := n2 = n + 1 ∧ ∃ j : Int, d = .int j ∧ 0 ≤ j ∧ ∀ many : Int, ds = [.int many] → j < many
section
variable {P : Program} {w : World} {K : PySem.W.Frag} {mg : Str → Option Value} {base : Heap}
theorem c_law_below (T : Txt K mg) : Def P w K mg base 1 "_law_below" ["stream", "many"] (SpS K Pb Qb) := by
  refine def_draw T.a_law_below sc_law_below (fun n ds h => ?_) ?_
  · obtain ⟨_, many, rfl, _⟩ := h
    rfl
  rintro _ ⟨fa, cdv, A, outer, s, H, E, hr, rfl⟩ p q n _ ⟨hn, many, rfl, hm0, hm1⟩
  have hu := room65 hr
  show XB _ [.own (strmR p q n), .dat (.int many), .no, .no, .no] _ _
  refine xb_openS 0 rfl fun cells r c m hb => ?_
  show XB _ [.own (strmX p q cells r c m), .dat (.int many), .no, .no, .no] _ _
  obtain ⟨b1, b2, b3, b4, b5, b6⟩ := hb
  have hmod : ∀ j : Int, 0 ≤ j % many ∧ j % many < many := fun j => ⟨Int.emod_nonneg _ (by omega), Int.emod_lt_of_pos _ hm0⟩
  refine xb_stSet 0 2 rfl (.inr (.inl rfl)) (xe_addI (xe_st 0 2 rfl (.inr (.inl rfl))) xe_int) ?_
  show XB _ [.own (strmX p q cells r (c + 1) m), .dat (.int many), .no, .no, .no] _ _
  refine xb_while (fun k δ => ∃ cells r m x, cells.length = k ∧ StB (n + 1) cells r (c + 1) m ∧ δ = [.own (strmX p q cells r (c + 1) m), .dat (.int many), x, .no, .no]) (fun δ => ∃ cells r m x, StB (n + 1) cells r (c + 1) m ∧ δ = [.own (strmX p q cells r (c + 1) m), .dat (.int many), x, .no, .no]) cells.length ⟨cells, r, m, .no, rfl, ⟨b1, b2, by omega, by omega, b5, b6⟩, rfl⟩ (fun k δ hJ => ?_) (fun δ hM => ?_)
  · obtain ⟨cells, r, m, x, hk, ⟨b1, b2, b3, b4, b5, b6⟩, rfl⟩ := hJ
    refine ⟨_, ((xw_and (xt_cmp hu (xe_st 0 1 rfl (.inl rfl)) xe_int (.eqI _ _)) (fun _ => (xw_and1 (xt_stNe 0 hu rfl))))).xt, fun h => ?_, fun h => ?_⟩
    · cases cells with
      | nil => rw [show (!([] : List Int).isEmpty) = false from rfl, Bool.and_false] at h; cases h
      | cons z zs =>
        refine xb_asgF 2 (xf_stPop 0 rfl) (fun d δ1 ⟨hd, hδ⟩ => ?_) sc_law_below.nd
        subst hd hδ
        show XB _ [.own (strmX p q zs r (c + 1) m), .dat (.int many), .dat (.int z), .no, .no] _ _
        refine xb_stSet 0 3 rfl (.inr (.inr rfl)) (xe_modI (xe_intI T.g_int (xe_addI (xe_addI (xe_mulI (xe_st 0 3 rfl (.inr (.inr rfl))) xe_int (.inr ⟨by decide, by decide⟩)) (xe_var 2)) xe_int)) xe_int (by decide)) ?_
        generalize hmx : (sxAt r (c + 1) m 3 * 69031 + z + 13) % 2147483647 = m2
        have hm2 : 0 ≤ m2 ∧ m2 < 2147483647 := by omega
        show XB _ [.own (strmX p q zs r (c + 1) m2), .dat (.int many), .dat (.int z), .no, .no] _ _
        refine xb_stSet (z := if z ≥ (10 : Int) ^ (18 : Int).toNat then z else 0) 0 1 rfl (.inl rfl) (xe_if (xt_cmp hu (xe_var 2) (xe_powI xe_int xe_int ⟨by decide, by decide, by decide⟩) (.geI _ _)) (fun h => xe_eq (xe_var 2) (congrArg PyData.int (if_pos (of_decide_eq_true h)).symm)) (fun h => xe_eq xe_int (congrArg PyData.int (if_neg (of_decide_eq_false h)).symm))) (xb_nil ⟨zs.length, ?_, zs, if z ≥ (10 : Int) ^ (18 : Int).toNat then z else 0, m2, .dat (.int z), rfl, ⟨?_, ?_, b3, b4, hm2.1, hm2.2⟩, rfl⟩)
        · rw [← hk]; exact Nat.lt_succ_self _
        · rw [List.length_cons] at b1
          omega
        · have h10 : (0 : Int) ≤ (10 : Int) ^ (18 : Int).toNat := by decide
          split <;> omega
    · exact ⟨cells, r, m, x, ⟨b1, b2, b3, b4, b5, b6⟩, rfl⟩
  · obtain ⟨cells, r, m, x, ⟨b1, b2, b3, b4, b5, b6⟩, rfl⟩ := hM
    refine xb_ifR (xt_cmp hu (xe_st 0 1 rfl (.inl rfl)) xe_int (.gtI _ _)) (fun h => ?_) (fun h => ?_)
    · refine xb_asg 3 (xe_modI (xe_intI T.g_int (xe_st 0 1 rfl (.inl rfl))) (xe_var 1) hm0) ?_ sc_law_below.nd
      show XB _ [.own (strmX p q cells r (c + 1) m), .dat (.int many), x, .dat (.int (r % many)), .no] _ _
      refine xb_stSet 0 1 rfl (.inl rfl) (xe_divI (xe_st 0 1 rfl (.inl rfl)) (xe_var 1) ⟨hm0, by omega⟩) ?_
      show XB _ [.own (strmX p q cells (r / many) (c + 1) m), .dat (.int many), x, .dat (.int (r % many)), .no] _ _
      refine xb_closeS 0 (n + 1) rfl ⟨b1, Int.ediv_nonneg b2 (by omega), b3, b4, b5, b6⟩ ?_
      refine xb_ret (xe_var 3) ⟨n + 1, rfl, rfl, r % many, rfl, (hmod r).1, fun m2 e => ?_⟩
      cases e
      exact (hmod r).2
    · have hp1 : CPow (m + 9049 * (c + 1) + 130073) 5 := ⟨by decide, by decide, by omega⟩
      refine xb_asg 4 (xe_modI (xe_intI T.g_int (xe_powI (xe_addI (xe_addI (xe_st 0 3 rfl (.inr (.inr rfl))) (xe_mulI xe_int (xe_st 0 2 rfl (.inr (.inl rfl))) (.inl ⟨by decide, by decide⟩))) xe_int) xe_int hp1)) xe_int (by decide)) ?_ sc_law_below.nd
      generalize hmx : (sxAt r (c + 1) m 3 + 9049 * sxAt r (c + 1) m 2 + 130073) ^ (5 : Int).toNat % 2147483629 = mx
      have hm2 : 0 ≤ mx ∧ mx < 2147483629 := by omega
      show XB _ [.own (strmX p q cells r (c + 1) m), .dat (.int many), x, .no, .dat (.int mx)] _ _
      have hp2 : CPow (mx * 44089 + 60077 * (c + 1) + 47) 3 := ⟨by decide, by decide, by omega⟩
      refine xb_retS 0 (n + 1) (xe_modI (xe_modI (xe_intI T.g_int (xe_powI (xe_addI (xe_addI (xe_mulI (xe_var 4) xe_int (.inr ⟨by decide, by decide⟩)) (xe_mulI xe_int (xe_st 0 2 rfl (.inr (.inl rfl))) (.inl ⟨by decide, by decide⟩))) xe_int) xe_int hp2)) xe_int (by decide)) (xe_var 1) hm0) rfl ⟨b1, b2, b3, b4, b5, b6⟩ ⟨n + 1, rfl, rfl, _, rfl, (hmod _).1, fun m2 e => ?_⟩
      cases e
      exact (hmod _).2
theorem c_law_start (T : Txt K mg) : Def P w K mg base 1 "_law_start" ["script"] (SpStart K) := by
  obtain ⟨fa, fd, h1, h2, h3⟩ := T.a_law_start.ex
  refine ⟨fa, fd, h1, h2.kp, h3, h2.ok sc_law_start (fun vs H Q E h => ?_) (fun cdv A outer s H vs Q E hr h => ?_)⟩
  · obtain ⟨a, ns, rfl, _⟩ := h
    rfl
  · obtain ⟨a, ns, rfl, hS, q⟩ := h
    refine ⟨_, pss_cons (ps_ret (pe_lst (pa_cons (pe_callTy call_list_of (by rfl) T.g_list boot_list (pa_cons (pe_var (i := 0) (by rfl) (by exact Or.inl rfl) (by decide) (by decide)) pa_nil (by rfl)) (by decide) (by decide) (by rfl) (by rfl)) (pa_cons pe_int (pa_cons pe_int (pa_cons pe_int pa_nil (by rfl)) (by rfl)) (by rfl)) (by rfl)))) pss_never, ?_⟩
    show ∃ v, _
    refine ⟨.ref a, rfl, ?_⟩
    show ∃ (p : Addr) (ys : List V), _
    refine ⟨a, ns.map V.int, rfl, .inl hS, fun l hl => ?_⟩
    refine ⟨by show 4 ≤ sizeLine; decide, fun l2 hl2 => ?_⟩
    have ne : l ≠ l2 := fun e => by rw [← e, upd_same] at hl2; cases hl2
    have h2 : H l2 = none := by rw [upd_ne (Ne.symm ne)] at hl2; exact hl2
    exact q l2 l _ h2 hl (Ne.symm ne) (fun b o e => by
      rw [upd_ne (fun z => by rw [z, h2] at e; cases e), upd_ne (fun z => by rw [z, hl] at e; cases e)]
      exact e) upd_same (by rw [upd_ne ne]; exact upd_same)
end
end K13

set_option Elab.async false
set_option linter.all false
set_option maxRecDepth 100000
set_option maxHeartbeats 4000000
namespace K13
open PySem PySem.Spec PyProof.Rows L2 Dl Sm
def Qc (n : Nat) (ds : List PyData) (n2 : Nat) (d : PyData) : Prop := n2 = n + 1 ∧ ∃ b : Bool, d = .bool b
def Pk (n : Nat) (ds : List PyData) : Prop := n ≤ 2 ^ 39 ∧ ∃ many : Nat, ds = [.int (many : Nat)] ∧ many ≤ 100
def Qk (n : Nat) (ds : List PyData) (n2 : Nat) (d : PyData) : Prop := ∃ l : List Bool, d = .list (l.map .bool) ∧ n2 = n + l.length ∧ ∀ many : Nat, ds = [.int (many : Nat)] → l.length = many
def Ps (n : Nat) (ds : List PyData) : Prop := n ≤ 2 ^ 38 ∧ ∃ most : Nat, ds = [.int (most : Nat)] ∧ 0 < most ∧ most ≤ 60
def Qs (n : Nat) (ds : List PyData) (n2 : Nat) (d : PyData) : Prop := n2 ≤ n + 130 ∧ ∃ s : S, d = encT s ∧ s.2 ≠ [] ∧ s.1.length ≤ 120 ∧ s.2.length ≤ 120 ∧ ∀ most : Nat, ds = [.int (most : Nat)] → s.1.length + 1 ≤ 2 * most ∧ roundSize s.2 ≤ most
theorem bools_of : ∀ {ds : List PyData}, (∀ (i : Nat) d, ds[i]? = some d → ∃ b : Bool, d = .bool b) → ∃ l : List Bool, ds = l.map .bool
  | [], _ => ⟨[], rfl⟩
  | d :: ds, h => by
    obtain ⟨b, hb⟩ := h 0 d rfl
    obtain ⟨l, hl⟩ := bools_of (ds := ds) fun i d hi => h (i + 1) d hi
    exact ⟨b :: l, by rw [hb, hl]; rfl⟩
theorem xfa_imp {X : Cx} {δ : List Dl.Slot} {es : List Expr} {P P' : List PyData → List Dl.Slot → Prop} (h : XFA X δ es P) (w : ∀ ds δ', P ds δ' → P' ds δ') : XFA X δ es P' := PA.weak h fun σ H Q ⟨B, F, W, q⟩ => ⟨B, F, W, fun vs ds δ2 B2 H2 F2 s2 W2 h2 r2 => q vs ds δ2 B2 H2 F2 s2 W2 (w _ _ h2) r2⟩
theorem map2_len (r : List Bool) : (r ++ r).length = 2 * r.length := by rw [List.length_append]; omega
section
variable {P : Program} {w : World} {K : PySem.W.Frag} {mg : Str → Option Value} {base : Heap}
theorem c_law_chance (T : Txt K mg) (c_law_below : Def P w K mg base 1 "_law_below" ["stream", "many"] (SpS K Pb Qb)) : Def P w K mg base 2 "_law_chance" ["stream", "many"] (SpS K Pb Qc) := by
  refine def_draw T.a_law_chance sc_law_chance (fun n ds h => ?_) ?_
  · obtain ⟨_, many, rfl, _⟩ := h
    rfl
  rintro _ ⟨fa, cdv, A, outer, s, H, E, hr, rfl⟩ p q n _ ⟨hn, many, rfl, hm0, hm1⟩
  have hu := room65 hr
  show XB _ [.own (strmR p q n), .dat (.int many)] _ _
  refine xb_retF (P := fun d δ => ∃ b : Bool, d = .bool b ∧ δ = [.own (strmR p q (n + 1)), .dat (.int many)]) (xf_cmp (P1 := fun d δ => ∃ j : Int, d = .int j ∧ δ = [.own (strmR p q (n + 1)), .dat (.int many)]) hu (xf_draw 0 c_law_below (hr.mono (by decide)) rfl (xfa_of (xa_cons (xe_var 1) xa_nil)) ?_) (fun d1 δ1 h1 => ?_)) (fun d δ1 h1 => ?_)
  · rintro _ _ ⟨rfl, rfl⟩
    refine ⟨n, rfl, ⟨hn, many, rfl, hm0, hm1⟩, fun n2 d hq => ?_⟩
    obtain ⟨rfl, j, rfl, _⟩ := hq
    exact ⟨j, rfl, rfl⟩
  · obtain ⟨j, rfl, rfl⟩ := h1
    refine xf_imp (xf_of xe_int) ?_
    rintro _ _ ⟨rfl, rfl⟩
    exact ⟨_, .eqI _ _, _, rfl, rfl⟩
  · obtain ⟨b, rfl, rfl⟩ := h1
    exact ⟨n + 1, rfl, rfl, b, rfl⟩
theorem c_law_ktruths (T : Txt K mg) (c_law_chance : Def P w K mg base 2 "_law_chance" ["stream", "many"] (SpS K Pb Qc)) : Def P w K mg base 3 "_law_ktruths" ["stream", "many"] (SpS K Pk Qk) := by
  refine def_draw T.a_law_ktruths sc_law_ktruths (fun n ds h => ?_) ?_
  · obtain ⟨_, many, rfl, _⟩ := h
    rfl
  rintro _ ⟨fa, cdv, A, outer, s, H, E, hr, rfl⟩ p q n _ ⟨hn, many, rfl, hm⟩
  have hu := room65 hr
  show XB _ [.own (strmR p q n), .dat (.int (many : Nat)), .no] _ _
  refine xb_retF (xlF (l := List.range ((many : Nat) : Int).toNat) 2 (fun i δ => δ = [.own (strmR p q (n + i)), .dat (.int (many : Nat)), .no]) (fun i d => ∃ b : Bool, d = .bool b) sc_law_ktruths.nd (xi_rng1 T.g_range (xe_var 1) (by omega)) (by exact Nat.lt_succ_self 2) (by rw [List.length_range]; omega) rfl (fun i δ' h => by subst h; rfl) (fun _ _ _ _ _ i y δ' hy hJ => ?_)).val (fun d δ1 h1 => ?_)
  · subst hJ
    refine xf_draw 0 c_law_chance (hr.mono (by decide)) rfl (xfa_of (xa_cons xe_int xa_nil)) ?_
    rintro _ _ ⟨rfl, rfl⟩
    have hi : i < many := by
      have := (List.getElem?_eq_some_iff.mp hy).1
      rw [List.length_range] at this
      omega
    refine ⟨n + i, rfl, ⟨by omega, 2, rfl, by decide, by decide⟩, fun n2 d hq => ?_⟩
    obtain ⟨rfl, b, rfl⟩ := hq
    exact ⟨⟨b, rfl⟩, rfl⟩
  · obtain ⟨ds, rfl, hl, hb, rfl⟩ := h1
    obtain ⟨l, rfl⟩ := bools_of hb
    rw [List.length_map, List.length_range] at hl
    have hl : l.length = many := by omega
    refine ⟨n + many, by rw [List.length_range]; rfl, l, rfl, by rw [hl], fun m2 e => ?_⟩
    have : (many : Int) = (m2 : Int) := by injection e with e1; injection e1
    omega
theorem c_law_kset (T : Txt K mg) (c_law_below : Def P w K mg base 1 "_law_below" ["stream", "many"] (SpS K Pb Qb)) (c_law_chance : Def P w K mg base 2 "_law_chance" ["stream", "many"] (SpS K Pb Qc)) (c_law_ktruths : Def P w K mg base 3 "_law_ktruths" ["stream", "many"] (SpS K Pk Qk)) : Def P w K mg base 4 "_law_kset" ["stream", "most"] (SpS K Ps Qs) := by
  refine def_draw T.a_law_kset sc_law_kset (fun n ds h => ?_) ?_
  · obtain ⟨_, many, rfl, _⟩ := h
    rfl
  rintro _ ⟨fa, cdv, A, outer, s, H, E, hr, rfl⟩ p q n _ ⟨hn, most, rfl, hm0, hm1⟩
  have hu := room65 hr
  show XB _ [.own (strmR p q n), .dat (.int (most : Nat)), .no, .no, .no] _ _
  refine xb_asgF (P := fun d δ => ∃ j : Int, d = .int j ∧ δ = [.own (strmR p q (n + 1)), .dat (.int (most : Nat)), .no, .no, .no]) 2 (xf_draw 0 c_law_below (hr.mono (by decide)) rfl (xfa_of (xa_cons xe_int xa_nil)) ?_) (fun d δ1 h1 => ?_) sc_law_kset.nd
  · rintro _ _ ⟨rfl, rfl⟩
    refine ⟨n, rfl, ⟨by omega, 6, rfl, by decide, by decide⟩, fun n2 d hq => ?_⟩
    obtain ⟨rfl, j, rfl, _⟩ := hq
    exact ⟨j, rfl, rfl⟩
  obtain ⟨way, rfl, rfl⟩ := h1
  show XB _ [.own (strmR p q (n + 1)), .dat (.int (most : Nat)), .dat (.int way), .no, .no] _ _
  refine xb_parF (i := 3) (j := 4) (PA' := fun ds δ => ∃ f r : List Bool, ds = [.list (f.map .bool), .list (r.map .bool)] ∧ f.length < most ∧ 0 < r.length ∧ r.length ≤ most ∧ δ = [.own (strmR p q (n + 3 + f.length + r.length)), .dat (.int (most : Nat)), .dat (.int way), .no, .no])
    (xfa_cons (P1 := fun d δ => ∃ f : List Bool, d = .list (f.map .bool) ∧ f.length < most ∧ δ = [.own (strmR p q (n + 2 + f.length)), .dat (.int (most : Nat)), .dat (.int way), .no, .no])
      (xf_draw 0 c_law_ktruths (hr.mono (by decide)) rfl (xfa_cons (P1 := fun d δ => ∃ j : Nat, d = .int (j : Nat) ∧ j < most ∧ δ = [.own (strmR p q (n + 2)), .dat (.int (most : Nat)), .dat (.int way), .no, .no]) (PA' := fun ds δ => ∃ j : Nat, ds = [.int (j : Nat)] ∧ j < most ∧ δ = [.own (strmR p q (n + 2)), .dat (.int (most : Nat)), .dat (.int way), .no, .no]) (xf_draw 0 c_law_below (hr.mono (by decide)) rfl (xfa_of (xa_cons (xe_var 1) xa_nil)) ?a1) (fun d1 δ1 h1 => ?a2)) ?a3)
      (fun d1 δ1 h1 => ?a4)) (fun ds δ1 h1 => ?a5) sc_law_kset.nd
  case a1 =>
    rintro _ _ ⟨rfl, rfl⟩
    refine ⟨n + 1, rfl, ⟨by omega, most, rfl, by omega, by omega⟩, fun n2 d hq => ?_⟩
    obtain ⟨rfl, j, rfl, h0, h1⟩ := hq
    have h2 := h1 most rfl
    exact ⟨j.toNat, by rw [Int.toNat_of_nonneg h0], by omega, rfl⟩
  case a2 =>
    obtain ⟨j, rfl, hj, rfl⟩ := h1
    refine xfa_imp xfa_nil ?_
    rintro _ _ ⟨rfl, rfl⟩
    exact ⟨j, rfl, hj, rfl⟩
  case a3 =>
    rintro _ _ ⟨j, rfl, hj, rfl⟩
    refine ⟨n + 2, rfl, ⟨by omega, j, rfl, by omega⟩, fun n2 d hq => ?_⟩
    obtain ⟨l, rfl, rfl, hl⟩ := hq
    have := hl j rfl
    exact ⟨l, rfl, by omega, rfl⟩
  case a4 =>
    obtain ⟨f, rfl, hf, rfl⟩ := h1
    refine xfa_cons (P1 := fun d δ => ∃ r : List Bool, d = .list (r.map .bool) ∧ 0 < r.length ∧ r.length ≤ most ∧ δ = [.own (strmR p q (n + 3 + f.length + r.length)), .dat (.int (most : Nat)), .dat (.int way), .no, .no])
      (xf_draw 0 c_law_ktruths (hr.mono (by decide)) rfl (xfa_cons (P1 := fun d δ => ∃ j : Nat, d = .int (j : Nat) ∧ 0 < j ∧ j ≤ most ∧ δ = [.own (strmR p q (n + 3 + f.length)), .dat (.int (most : Nat)), .dat (.int way), .no, .no]) (PA' := fun ds δ => ∃ j : Nat, ds = [.int (j : Nat)] ∧ 0 < j ∧ j ≤ most ∧ δ = [.own (strmR p q (n + 3 + f.length)), .dat (.int (most : Nat)), .dat (.int way), .no, .no])
        (xf_op op_add (xf_of xe_int) (fun d1 δ1 h1 => ?b1)) (fun d1 δ1 h1 => ?b2)) ?b3) (fun d1 δ1 h1 => ?b4)
    case b1 =>
      obtain ⟨rfl, rfl⟩ := h1
      refine xf_draw 0 c_law_below (hr.mono (by decide)) rfl (xfa_of (xa_cons (xe_var 1) xa_nil)) ?_
      rintro _ _ ⟨rfl, rfl⟩
      refine ⟨n + 2 + f.length, rfl, ⟨by omega, most, rfl, by omega, by omega⟩, fun n2 d hq => ?_⟩
      obtain ⟨rfl, j, rfl, h0, h1⟩ := hq
      have h2 := h1 most rfl
      refine ⟨.int (1 + j), rd_I0 fun _ => .int _, j.toNat + 1, ?_, by omega, by omega, ?_⟩
      · congr 1
        omega
      · rw [show n + 2 + f.length + 1 = n + 3 + f.length by omega]
        rfl
    case b2 =>
      obtain ⟨j, rfl, hj, hj2, rfl⟩ := h1
      refine xfa_imp xfa_nil ?_
      rintro _ _ ⟨rfl, rfl⟩
      exact ⟨j, rfl, hj, hj2, rfl⟩
    case b3 =>
      rintro _ _ ⟨j, rfl, hj, hj2, rfl⟩
      refine ⟨n + 3 + f.length, rfl, ⟨by omega, j, rfl, by omega⟩, fun n2 d hq => ?_⟩
      obtain ⟨l, rfl, rfl, hl⟩ := hq
      have := hl j rfl
      exact ⟨l, rfl, by omega, by omega, rfl⟩
    case b4 =>
      obtain ⟨r, rfl, h1, h2, rfl⟩ := h1
      refine xfa_imp xfa_nil ?_
      rintro _ _ ⟨rfl, rfl⟩
      exact ⟨f, r, rfl, hf, h1, h2, rfl⟩
  case a5 =>
    obtain ⟨f, r, rfl, hf, h1, h2, rfl⟩ := h1
    refine ⟨_, _, rfl, ?_⟩
    obtain ⟨N, hN⟩ : ∃ N, N = n + 3 + f.length + r.length := ⟨_, rfl⟩
    rw [← hN]
    have hN2 : N ≤ n + 122 := by omega
    show XB _ [.own (strmR p q N), .dat (.int (most : Nat)), .dat (.int way), .dat (.list (f.map .bool)), .dat (.list (r.map .bool))] _ _
    refine xb_if (fun δ => ∃ r : List Bool, 0 < r.length ∧ r.length ≤ 2 * most ∧ (way ≠ 0 → r.length ≤ most) ∧ roundSize r ≤ most ∧ δ = [.own (strmR p q N), .dat (.int (most : Nat)), .dat (.int way), .dat (.list (f.map .bool)), .dat (.list (r.map .bool))]) (xt_cmp hu (xe_var 2) xe_int (.eqI _ _)) (fun h => ?_) (fun h => ?_) (fun δ hM => ?_)
    · refine xb_asg 4 (xe_eq (xe_rep (xe_var 4) xe_int (by decide) (by decide) ?hz) ?he) (xb_nil ⟨r ++ r, ?_, ?_, fun hw => absurd (of_decide_eq_true h) hw, ?_, rfl⟩) sc_law_kset.nd
      case hz =>
        rw [List.length_map]
        show r.length * 2 ≤ _
        omega
      case he =>
        show PyData.list (List.replicate 2 (r.map PyData.bool)).flatten = .list ((r ++ r).map PyData.bool)
        rw [List.map_append]
        simp [List.replicate_succ]
      · rw [map2_len]; omega
      · rw [map2_len]; omega
      · exact Nat.le_trans (roundSize_le (List.length_pos_iff.mp (by rw [map2_len]; omega)) h1 (roundOk_double r)) h2
    · refine xb_nil ⟨r, h1, by omega, fun _ => h2, ?_, rfl⟩
      have := (roundSize_spec (List.length_pos_iff.mp h1)).2.1
      omega
    obtain ⟨r, h1, h2, h3, h4, rfl⟩ := hM
    refine xb_if (fun δ => ∃ n2, ∃ f r : List Bool, n2 ≤ N + 1 ∧ f.length < most ∧ 0 < r.length ∧ r.length ≤ 2 * most ∧ (way = 2 → r.length ≤ most) ∧ roundSize r ≤ most ∧ δ = [.own (strmR p q n2), .dat (.int (most : Nat)), .dat (.int way), .dat (.list (f.map .bool)), .dat (.list (r.map .bool))]) (xt_cmp hu (xe_var 2) xe_int (.eqI _ _)) (fun h => ?_) (fun h => ?_) (fun δ hM => ?_)
    · refine xb_parF (i := 3) (j := 4) (PA' := fun ds δ => ∃ b : Bool, ds = [.list [], .list [.bool b]] ∧ δ = [.own (strmR p q (N + 1)), .dat (.int (most : Nat)), .dat (.int way), .dat (.list (f.map .bool)), .dat (.list (r.map .bool))])
        (xfa_cons (xf_of (xe_lst xa_nil)) (fun d1 δ1 h1 => ?c1)) (fun ds δ1 h1 => ?c2) sc_law_kset.nd
      case c1 =>
        obtain ⟨rfl, rfl⟩ := h1
        refine xfa_cons (P1 := fun d δ => ∃ b : Bool, d = .list [.bool b] ∧ δ = [.own (strmR p q (N + 1)), .dat (.int (most : Nat)), .dat (.int way), .dat (.list (f.map .bool)), .dat (.list (r.map .bool))])
          (xf_lst (PA' := fun ds δ => ∃ b : Bool, ds = [.bool b] ∧ δ = [.own (strmR p q (N + 1)), .dat (.int (most : Nat)), .dat (.int way), .dat (.list (f.map .bool)), .dat (.list (r.map .bool))])
            (xfa_cons (P1 := fun d δ => ∃ b : Bool, d = .bool b ∧ δ = [.own (strmR p q (N + 1)), .dat (.int (most : Nat)), .dat (.int way), .dat (.list (f.map .bool)), .dat (.list (r.map .bool))]) (xf_draw 0 c_law_chance (hr.mono (by decide)) rfl (xfa_of (xa_cons xe_int xa_nil)) ?_) (fun d1 δ1 h1 => ?_)) (fun ds δ1 h1 => ?_)) (fun d1 δ1 h1 => ?_)
        · rintro _ _ ⟨rfl, rfl⟩
          refine ⟨N, rfl, ⟨by omega, 2, rfl, by decide, by decide⟩, fun n2 d hq => ?_⟩
          obtain ⟨rfl, b, rfl⟩ := hq
          exact ⟨b, rfl, rfl⟩
        · obtain ⟨b, rfl, rfl⟩ := h1
          refine xfa_imp xfa_nil ?_
          rintro _ _ ⟨rfl, rfl⟩
          exact ⟨b, rfl, rfl⟩
        · obtain ⟨b, rfl, rfl⟩ := h1
          exact ⟨Nat.le_of_ble_eq_true rfl, b, rfl, rfl⟩
        · obtain ⟨b, rfl, rfl⟩ := h1
          refine xfa_imp xfa_nil ?_
          rintro _ _ ⟨rfl, rfl⟩
          exact ⟨b, rfl, rfl⟩
      case c2 =>
        obtain ⟨b, rfl, rfl⟩ := h1
        exact ⟨_, _, rfl, xb_nil ⟨N + 1, [], [b], Nat.le_refl _, hm0, Nat.one_pos, by show 1 ≤ _; omega, fun _ => hm0, Nat.le_trans (roundSize_spec (List.cons_ne_nil _ _)).2.1 hm0, rfl⟩⟩
    · exact xb_nil ⟨N, f, r, Nat.le_succ _, hf, h1, h2, fun hw => h3 (by omega), h4, rfl⟩
    obtain ⟨n2, f, r, hn2, hf, h1, h2, h3, h4, rfl⟩ := hM
    refine xb_if (fun δ => ∃ f r : List Bool, f.length + 1 ≤ 2 * most ∧ 0 < r.length ∧ r.length ≤ 2 * most ∧ roundSize r ≤ most ∧ δ = [.own (strmR p q n2), .dat (.int (most : Nat)), .dat (.int way), .dat (.list (f.map .bool)), .dat (.list (r.map .bool))]) (xt_cmp hu (xe_var 2) xe_int (.eqI _ _)) (fun h => ?_) (fun h => ?_) (fun δ hM => ?_)
    · have hw := h3 (of_decide_eq_true h)
      refine xb_asg 3 (xe_eq (xe_cat (xe_var 3) (xe_var 4) ?hz) (congrArg PyData.list (List.map_append (l₁ := f)).symm)) (xb_nil ⟨f ++ r, r, ?_, h1, h2, h4, rfl⟩) sc_law_kset.nd
      case hz =>
        rw [List.length_map, List.length_map]
        omega
      · rw [List.length_append]; omega
    · exact xb_nil ⟨f, r, by omega, h1, h2, h4, rfl⟩
    obtain ⟨f, r, hf, h1, h2, h4, rfl⟩ := hM
    refine xb_ret (xe_tup (xa_cons (xe_var 3) (xa_cons (xe_var 4) xa_nil))) ⟨n2, rfl, ?_, (f, r), rfl, List.length_pos_iff.mp h1, ?_, ?_, fun m2 e => ?_⟩
    · omega
    · show f.length ≤ 120
      omega
    · show r.length ≤ 120
      omega
    · have : (most : Int) = (m2 : Int) := by injection e with e1; injection e1
      have : most = m2 := by omega
      subst this
      exact ⟨hf, h4⟩
end
end K13

set_option Elab.async false
set_option linter.all false
set_option maxRecDepth 100000
set_option maxHeartbeats 4000000
namespace K13
open PySem PySem.Spec PyProof.Rows L2 Dl Sm
theorem cutD_mid {α : Type} (l : List α) (a b : Nat) (h : b ≤ l.length) (hab : a ≤ b) : Dl.cutD l (some (a : Int)) (some (b : Int)) = (l.drop a).take (b - a) := by
  unfold Dl.cutD
  rw [HT.sIx_nat, HT.sIx_nat, Nat.min_eq_left h, Nat.min_eq_left (show a ≤ l.length by omega)]
def F_law_kset_in (ds : List PyData) (d : PyData) : Prop := ∃ (s : S) (n : Nat), ds = [encT s, .int (n : Nat)] ∧ s.2 ≠ [] ∧ d = .bool (inS s n)
def F_law_kset_form (ds : List PyData) (d : PyData) : Prop := ∃ (h : Nat → Bool) (b z : Nat) (s : S), ds = [.list (((List.range (b + 3 * z)).map h).map .bool), .int (b : Nat), .int (z : Nat)] ∧ b ≤ 100 ∧ z ≤ 100 ∧ 0 < z ∧ Per h b z ∧ Canon s ∧ (∀ n, inS s n = h n) ∧ d = encT s
def F_law_kset_least (ds : List PyData) (d : PyData) : Prop := ∃ s : S, ds = [encT s] ∧ s.1.length ≤ 60 ∧ s.2.length ≤ 60 ∧ s.2 ≠ [] ∧ d = encT (leastOf s.1 s.2)
section
variable {P : Program} {w : World} {K : PySem.W.Frag} {mg : Str → Option Value} {base : Heap}
theorem c_law_kset_in (T : Txt K mg) : Def P w K mg base 1 "_law_kset_in" ["thing", "number"] (SpP K F_law_kset_in) := by
  refine def_pure T.a_law_kset_in sc_law_kset_in (fun ds d h => ?_) ?_
  · obtain ⟨s, n, rfl, _⟩ := h
    rfl
  rintro _ ⟨fa, cdv, A, outer, s, H, E, hr, rfl⟩ _ _ ⟨s, n, rfl, h3, rfl⟩
  have hu := room65 hr
  show XB _ [.dat _, .dat _, .no, .no] _ _
  have hp : 0 < s.2.length := List.length_pos_iff.mpr h3
  refine xb_unp (xe_var 0) (xg_tup rfl (xgs_cons (xg_name 2 sc_law_kset_in.nd) (xgs_cons (xg_name 3 sc_law_kset_in.nd) xgs_nil)) rfl) ?_
  refine xb_ret (xe_if (xt_cmp hu (xe_var 1) (xe_len T.g_len (xe_var 2) (.lst _)) (.ltI _ _)) (fun h => (xe_ix (xe_var 2) (xe_var 1) (.lst ?i1))) (fun h => (xe_ix (xe_var 3) (xe_modI (xe_subI (xe_var 1) (xe_len T.g_len (xe_var 2) (.lst _))) (xe_len T.g_len (xe_var 3) (.lst _)) ?i0) (.lst ?i2)))) rfl
  case i0 => rw [List.length_map]; omega
  case i1 =>
    have hn : n < s.1.length := by
      have := of_decide_eq_true h
      rw [List.length_map] at this
      omega
    rw [atI_bools _ hn]
    unfold inS
    rw [if_pos hn]
  case i2 =>
    have hn : ¬ n < s.1.length := by
      have := of_decide_eq_false h
      rw [List.length_map] at this
      omega
    have e : ((n : Int) - ((s.1.map PyData.bool).length : Int)) % ((s.2.map PyData.bool).length : Int) = (((n - s.1.length) % s.2.length : Nat) : Int) := by
      rw [List.length_map, List.length_map, show ((n : Int) - (s.1.length : Int)) = ((n - s.1.length : Nat) : Int) by omega]
      exact (Int.natCast_emod _ _).symm
    rw [e, atI_bools _ (Nat.mod_lt _ hp)]
    unfold inS
    rw [if_neg hn]
theorem eqv_ints_nil (l : List Nat) (g : Nat → Int) : PyData.eqv (.list (l.map fun n => PyData.int (g n))) (.list []) = l.isEmpty := by
  cases l <;> simp [PyData.eqv, PyData.eqvAll]
theorem shaped_intsF {ι : Type} (l : List ι) (g : ι → Int) : SeqAt.shaped (.list (l.map fun n => PyData.int (g n))) = true := by
  have := shaped_ints (l.map g)
  rw [List.map_map] at this
  exact this
theorem row_at (h : Nat → Bool) (N n : Nat) (hn : n < N) : atI (((List.range N).map h).map PyData.bool) ((n : Nat) : Int) = some (.bool (h n)) := by
  rw [atI_bools _ (by rw [List.length_map, List.length_range]; exact hn), List.getD_eq_getElem?_getD, List.getElem?_map, List.getElem?_range hn]
  rfl
theorem good_iff {h : Nat → Bool} {b z q : Nat} (hP : Per h b z) (hz : 0 < z) : ((List.range (2 * z)).filter fun n => !(h (b + n) == h (b + n + q))).isEmpty = true ↔ Per h b q := by
  rw [List.isEmpty_iff, List.filter_eq_nil_iff]
  constructor
  · intro hh n hn
    have hm : (n - b) % z < z := Nat.mod_lt _ hz
    have h1 := hh ((n - b) % z) (List.mem_range.mpr (by omega))
    have h1 : h (b + (n - b) % z) = h (b + (n - b) % z + q) := by
      cases e : (h (b + (n - b) % z) == h (b + (n - b) % z + q)) with
      | true => exact eq_of_beq e
      | false => rw [e] at h1; exact absurd rfl h1
    have e1 : h (b + (n - b) % z) = h n := by
      rw [hP.mod, show b + (n - b) = n by omega]
    have e2 : h (b + (n - b) % z + q) = h (n + q) := by
      have := hP.mul ((n - b) / z) (b + (n - b) % z + q) (by omega)
      rw [← this]
      congr 1
      have := Nat.mod_add_div (n - b) z
      omega
    rw [← e1, ← e2]
    exact h1.symm
  · intro hp a _
    rw [hp (b + a) (by omega)]
    simp
theorem c_law_kset_form (T : Txt K mg) : Def P w K mg base 1 "_law_kset_form" ["row", "begin", "size"] (SpP K F_law_kset_form) := by
  refine def_pure T.a_law_kset_form sc_law_kset_form (fun ds d h => ?_) ?_
  · obtain ⟨_, _, _, _, rfl, _⟩ := h
    rfl
  rintro _ ⟨fa, cdv, A, outer, s_, H, E, hr, rfl⟩ _ _ ⟨h, b, z, s, rfl, hb, hz, hz0, hP, hC, hi, rfl⟩
  have hu := room65 hr
  obtain ⟨rw_, hrw⟩ : ∃ r, r = (((List.range (b + 3 * z)).map h).map PyData.bool) := ⟨_, rfl⟩
  rw [← hrw]
  show XB _ [.dat _, .dat _, .dat _, .no, .no, .no, .no] _ _
  have hf : inS s = h := funext hi
  have hp1 := hC.pos
  have hpz : s.2.length ≤ z := hC.per z b hz0 (by rw [hf]; exact hP)
  have hPs : Per h s.1.length s.2.length := by rw [← hf]; exact per_inS s
  have hPb : Per h b s.2.length := hP.back hz0 hPs
  have hkb : s.1.length ≤ b := hC.few b (by rw [hf]; exact hPb)
  have hlr : rw_.length = b + 3 * z := by rw [hrw, List.length_map, List.length_map, List.length_range]
  have eR : (((z : Nat) : Int) + 1 - 1).toNat = z := by omega
  refine xb_for (is := [3]) (fun d δ => δ.set 3 (.dat d))
    (fun i δ => i < s.2.length ∧ ∃ x y, δ = [.dat (.list rw_), .dat (.int (b : Nat)), .dat (.int (z : Nat)), x, y, .no, .no])
    (fun δ => False)
    (xi_rng2 T.g_range xe_int (xe_addI (xe_var 2) xe_int) (by decide) (by omega)) ⟨by omega, .no, .no, rfl⟩ (fun i δ d hJ hd => ?_) (fun i δ d hJ hd => ?_) (fun δ hJ => ?_) (fun δ hM => ?_)
  · exact xg_name 3 sc_law_kset_form.nd
  · obtain ⟨hlt, x, y, rfl⟩ := hJ
    obtain ⟨hi2, rfl⟩ := rangeD_get hd
    rw [eR] at hi2
    obtain ⟨q, hq⟩ : ∃ q, q = i + 1 := ⟨_, rfl⟩
    rw [show (1 : Int) + (i : Nat) = (q : Nat) by omega]
    show XB _ [.dat _, .dat _, .dat _, .dat (.int (q : Nat)), y, .no, .no] _ _
    have hint : ∀ n : Nat, n < 2 * z → atI rw_ ((b : Int) + (n : Int)) = some (.bool (h (b + n))) ∧ atI rw_ ((b : Int) + (n : Int) + (q : Int)) = some (.bool (h (b + n + q))) := fun n hn => by
      rw [hrw]
      exact ⟨by rw [← Int.natCast_add]; exact row_at _ _ _ (by omega), by rw [← Int.natCast_add, ← Int.natCast_add]; exact row_at _ _ _ (by omega)⟩
    have e2z : ((b : Int) + 2 * (z : Int) - (b : Int)).toNat = 2 * z := by omega
    refine xb_asg 4 (xe_eq (xe_cmp hu (xe_new (xl_lcIf 6 (fun n : Nat => PyData.int ((b : Int) + (n : Nat))) (fun n : Nat => !(h (b + n) == h (b + n + q))) sc_law_kset_form.nd (xi_rng2 T.g_range (xe_var 1) (xe_addI (xe_var 1) (xe_mulI xe_int (xe_var 2) (.inl ⟨by decide, by decide⟩))) (by omega) (by omega)) (fun _ _ _ _ _ d hd => (xt_cmp hu (xe_ix (xe_var 0) (xe_var 6) (.lst (hint d (by rw [← e2z]; exact List.mem_range.mp hd)).1)) (xe_ix (xe_var 0) (xe_addI (xe_var 6) (xe_var 3)) (.lst (hint d (by rw [← e2z]; exact List.mem_range.mp hd)).2)) (.neB _ _))) (fun _ _ _ _ _ d hd ht => (xe_var 6)) (by rw [List.length_range, e2z]; omega)).val) (xe_lst xa_nil) (.eqD _ _ (shaped_intsF _ _) shaped_nil)) (congrArg PyData.bool (eqv_ints_nil _ _))) ?_ sc_law_kset_form.nd
    rw [e2z]
    generalize hgd : ((List.range (2 * z)).filter fun n : Nat => !(h (b + n) == h (b + n + q))).isEmpty = gd
    have hgood : gd = true ↔ Per h b q := by rw [← hgd]; exact good_iff hP hz0
    show XB _ [.dat _, .dat _, .dat _, .dat _, .dat (.bool gd), .no, .no] _ _
    refine xb_ifR (xt_tru (xe_var 4)) (fun hg => ?_) (fun hg => ?_)
    · have hq2 : q = s.2.length := by
        have h1 := hC.per q b (by omega) (by rw [hf]; exact hgood.mp hg)
        omega
      rw [hq2]
      refine xb_asg 5 (xe_var 1) ?_ sc_law_kset_form.nd
      refine xb_while (fun m δ => ∃ k : Nat, k = s.1.length + m ∧ k ≤ b ∧ δ = [.dat (.list rw_), .dat (.int (b : Nat)), .dat (.int (z : Nat)), .dat (.int (s.2.length : Nat)), .dat (.bool gd), .dat (.int (k : Nat)), .no]) (fun δ => δ = [.dat (.list rw_), .dat (.int (b : Nat)), .dat (.int (z : Nat)), .dat (.int (s.2.length : Nat)), .dat (.bool gd), .dat (.int (s.1.length : Nat)), .no])
        (b - s.1.length) ⟨b, by omega, Nat.le_refl _, rfl⟩ (fun m δ hJ => ?_) (fun δ hM => ?_)
      · obtain ⟨k, hk, hkb2, rfl⟩ := hJ
        by_cases hk0 : k = 0
        · refine ⟨_, (xw_and (k := false) (m := true) (xt_eq (xt_cmp hu (xe_var 5) xe_int (.gtI _ _)) (by rw [hk0]; rfl)) (fun h => (nomatch h))).xt, fun h => (nomatch h), fun _ => ?_⟩
          have : s.1.length = 0 := by omega
          rw [this, hk0]
        · have a1 : atI rw_ ((k : Int) - 1) = some (.bool (h (k - 1))) := by
            rw [hrw, show (k : Int) - 1 = ((k - 1 : Nat) : Int) by omega]
            exact row_at _ _ _ (by omega)
          have a2 : atI rw_ ((k : Int) - 1 + (s.2.length : Int)) = some (.bool (h (k - 1 + s.2.length))) := by
            rw [hrw, show (k : Int) - 1 + (s.2.length : Int) = ((k - 1 + s.2.length : Nat) : Int) by omega]
            exact row_at _ _ _ (by omega)
          refine ⟨_, ((xw_and (xt_eq (xt_cmp hu (xe_var 5) xe_int (.gtI _ _)) (decide_eq_true (show (0 : Int) < (k : Int) by omega))) (fun _ => (xw_and1 (xt_cmp hu (xe_ix (xe_var 0) (xe_subI (xe_var 5) xe_int) (.lst a1)) (xe_ix (xe_var 0) (xe_addI (xe_subI (xe_var 5) xe_int) (xe_var 3)) (.lst a2)) (.eqB _ _)))))).xt, fun ht => ?_, fun ht => ?_⟩
          · rw [Bool.true_and, beq_iff_eq] at ht
            have hlt2 : s.1.length < k := by
              by_cases hlt2 : s.1.length < k
              · exact hlt2
              · have hke : s.1.length = k := by omega
                have := hC.few (k - 1) (by
                  rw [hf]
                  intro n hn
                  by_cases hn2 : n = k - 1
                  · rw [hn2]; exact ht.symm
                  · exact hPs n (by omega))
                omega
            refine xb_asg 5 (xe_subI (xe_var 5) xe_int) (xb_nil ⟨m - 1, by omega, k - 1, by omega, by omega, ?_⟩) sc_law_kset_form.nd
            rw [show (k : Int) - 1 = ((k - 1 : Nat) : Int) by omega]
            rfl
          · rw [Bool.true_and] at ht
            have hke : k = s.1.length := by
              by_cases hlt2 : s.1.length < k
              · rw [hPs (k - 1) (by omega), beq_self_eq_true] at ht
                cases ht
              · omega
            rw [hke]
      · subst hM
        refine xb_ret (xe_tup (xa_cons (xe_sl (xe_var 0) xo_none (xo_some (xe_var 5)) (.lst _ _ _)) (xa_cons (xe_sl (xe_var 0) (xo_some (xe_var 5)) (xo_some (xe_addI (xe_var 5) (xe_var 3))) (.lst _ _ _)) xa_nil))) ?_
        show PyData.tuple _ = PyData.tuple _
        rw [← Int.natCast_add, cutD_to, cutD_mid _ _ _ (by omega) (by omega), hrw]
        have e1 : (((List.range (b + 3 * z)).map h).map PyData.bool).take s.1.length = s.1.map .bool := by
          rw [← List.map_take, ← List.map_take, List.take_range, Nat.min_eq_left (by omega), ← hf, ← few_eq]
        have e2 : ((((List.range (b + 3 * z)).map h).map PyData.bool).drop s.1.length).take (s.1.length + s.2.length - s.1.length) = s.2.map .bool := by
          rw [← List.map_drop, ← List.map_take, ← List.map_drop, ← List.map_take, Nat.add_sub_cancel_left]
          congr 1
          conv => rhs; rw [ring_eq s]
          refine List.ext_getElem (by simp; omega) fun i i1 i2 => ?_
          simp [hf]
        rw [e1, e2]
    · refine xb_nil ⟨?_, _, _, rfl⟩
      by_cases hq2 : q = s.2.length
      · have : gd = true := hgood.mpr (by rw [hq2]; exact hPb)
        rw [this] at hg
        cases hg
      · omega
  · obtain ⟨h1, _⟩ := hJ
    rw [rangeD_length, eR] at h1
    omega
  · exact hM.elim
theorem c_law_kset_least (T : Txt K mg) (c_law_kset_form : Def P w K mg base 1 "_law_kset_form" ["row", "begin", "size"] (SpP K F_law_kset_form)) (c_law_kset_in : Def P w K mg base 1 "_law_kset_in" ["thing", "number"] (SpP K F_law_kset_in)) : Def P w K mg base 2 "_law_kset_least" ["thing"] (SpP K F_law_kset_least) := by
  refine def_pure T.a_law_kset_least sc_law_kset_least (fun ds d h => ?_) ?_
  · obtain ⟨s, rfl, _⟩ := h
    rfl
  rintro _ ⟨fa, cdv, A, outer, s_, H, E, hr, rfl⟩ _ _ ⟨s, rfl, h1, h2, h3, rfl⟩
  have hu := room65 hr
  show XB _ [.dat _, .no, .no, .no] _ _
  have hp : 0 < s.2.length := List.length_pos_iff.mpr h3
  refine xb_par (i := 1) (j := 2) (xe_len T.g_len (xe_ix (xe_var 0) xe_int (.tup rfl)) (.lst _)) (xe_len T.g_len (xe_ix (xe_var 0) xe_int (.tup rfl)) (.lst _)) ?_ sc_law_kset_least.nd
  rw [List.length_map, List.length_map]
  have eN : ((s.1.length : Int) + 3 * (s.2.length : Int)).toNat = s.1.length + 3 * s.2.length := by omega
  refine xb_ret (xe_call c_law_kset_form (hr.mono (by decide)) (xa_cons (xe_new (xl_lc 3 (fun n : Nat => PyData.bool (inS s n)) sc_law_kset_least.nd (xi_rng1 T.g_range (xe_addI (xe_var 1) (xe_mulI xe_int (xe_var 2) (.inl ⟨by decide, by decide⟩))) (by omega)) (fun _ _ _ _ _ d hd => (xe_call c_law_kset_in (hr.mono (by decide)) (xa_cons (xe_var 0) (xa_cons (xe_var 3) xa_nil)) ⟨s, d, by rw [Int.zero_add], h3, rfl⟩)) (by rw [List.length_range]; omega)).val) (xa_cons (xe_var 1) (xa_cons (xe_var 2) xa_nil))) ⟨inS s, s.1.length, s.2.length, leastOf s.1 s.2, ?_, by omega, by omega, hp, per_inS s, canon_least _ h3, fun n => inS_least _ h3 n, rfl⟩) rfl
  rw [eN, List.map_map]
  rfl
end
end K13

set_option Elab.async false
set_option linter.all false
set_option maxRecDepth 100000
set_option maxHeartbeats 4000000
namespace K13
open PySem PySem.Spec PyProof.Rows L2 Dl Sm
section
variable {P : Program} {w : World} {K : PySem.W.Frag} {mg : Str → Option Value} {base : Heap}
theorem copied_step (T : Txt K mg) (m : Nat) (rec : ∀ m', m = m' + 1 → Def P w K mg base m "_law_copied" ["thing"] (SpP K (F_copiedD m'))) : Def P w K mg base (m + 1) "_law_copied" ["thing"] (SpP K (F_copiedD m)) := by
  refine def_pure T.a_law_copied sc_law_copied (fun ds d h => ?_) ?_
  · obtain ⟨x, rfl, _⟩ := h
    rfl
  rintro _ ⟨fa, cdv, A, outer, s, H, E, hr, rfl⟩ _ x ⟨_, rfl, hx, rfl⟩
  have hu := room65 hr
  show XB _ [.dat _, .no, .no, .no] _ _
  have go : isDictD x = false → ∀ l m', m = m' + 1 → SeqD x l → l.length ≤ 1000000 → (∀ y ∈ l, TreeD m' y) → isRowD x = true → (if isListD x then PyData.list l else .tuple l) = x → XB (cxOf CX0 P w K mg base ["thing", "found", "part", "key"] "_law_copied" (defScope s_law_copied) fa cdv A outer s H E).nox [.dat x, .no, .no, .no] (defBody s_law_copied) { nx := fun _ => x = .none, rt := fun d' _ => d' = x } := fun hdict l m' hm hs hz hl hrow hback => by
    refine xb_ifR (k := false) (xt_eq (xt_tru (xe_isi T.g_isinstance (xe_var 0) T.g_dict boot_dict (kit_dict _))) hdict) (fun h => (nomatch h)) (fun _ => ?_)
    refine xb_ifR (k := false) (xt_eq (xt_not (xt_tru (xe_isi2 T.g_isinstance (xe_var 0) T.g_list boot_list T.g_tuple boot_tuple (kit_row _)))) (by show (!isRowD x) = false; rw [hrow]; rfl)) (fun h => (nomatch h)) (fun _ => ?_)
    refine xb_lc 1 (xl_lc (l := l) (f := fun y => y) 2 (fun y => y) sc_law_copied.nd (by rw [map_id']; exact xi_seq (xe_var 0) hs) (fun _ _ _ _ _ d hd => (xe_call (rec m' hm) (hr.mono (by omega)) (xa_cons (xe_var 2) xa_nil) ⟨d, rfl, hl d hd, rfl⟩)) hz) ?_ sc_law_copied.nd
    rw [map_id']
    refine xb_ret (xe_if (xt_tru (xe_isi T.g_isinstance (xe_var 0) T.g_list boot_list (kit_list _))) (fun h => xe_eq (xe_var 1) ?_) (fun h => xe_eq (xe_tupleOf T.g_tuple (xe_var 1) (.lst _)) ?_)) rfl
    · have h : isListD x = true := h
      rw [if_pos h] at hback
      exact hback
    · have h : isListD x = false := h
      rw [if_neg (by rw [h]; decide)] at hback
      exact hback
  have atom : isDictD x = false → isRowD x = false → XB (cxOf CX0 P w K mg base ["thing", "found", "part", "key"] "_law_copied" (defScope s_law_copied) fa cdv A outer s H E).nox [.dat x, .no, .no, .no] (defBody s_law_copied) { nx := fun _ => x = .none, rt := fun d' _ => d' = x } := fun hdict hrow => by
    refine xb_ifR (k := false) (xt_eq (xt_tru (xe_isi T.g_isinstance (xe_var 0) T.g_dict boot_dict (kit_dict _))) hdict) (fun h => (nomatch h)) (fun _ => ?_)
    refine xb_ifR (k := true) (xt_eq (xt_not (xt_tru (xe_isi2 T.g_isinstance (xe_var 0) T.g_list boot_list T.g_tuple boot_tuple (kit_row _)))) (by show (!isRowD x) = true; rw [hrow]; rfl)) (fun _ => ?_) (fun h => (nomatch h))
    exact xb_ret (xe_var 0) rfl
  cases hx with
  | non => exact atom rfl rfl
  | bl => exact atom rfl rfl
  | int => exact atom rfl rfl
  | str => exact atom rfl rfl
  | dic m => exact xb_ifR (k := true) (xt_eq (xt_tru (xe_isi T.g_isinstance (xe_var 0) T.g_dict boot_dict (kit_dict _))) rfl) (fun _ => xb_ret (xe_dictLc0 0 rfl T.g_dict sc_law_copied.nd (blkOk_by (own := [("key", 3)]) (by kernel_rfl))) rfl) (fun h => (nomatch h))
  | @lst m' l hz h => exact go rfl l m' rfl (.lst _) hz h rfl rfl
  | @tup m' l hz h => exact go rfl l m' rfl (.tup _) hz h rfl rfl
theorem c_law_copied (T : Txt K mg) : ∀ m, Def P w K mg base (m + 1) "_law_copied" ["thing"] (SpP K (F_copiedD m))
  | 0 => copied_step T 0 fun _ h => by omega
  | m + 1 => copied_step T (m + 1) fun m' h => by
    obtain rfl : m = m' := by omega
    exact c_law_copied T m
theorem same_step (T : Txt K mg) (m : Nat) (rec : ∀ m', m = m' + 1 → Def P w K mg base m "_law_same" ["found", "due"] (SpP K (F_sameD m'))) : Def P w K mg base (m + 1) "_law_same" ["found", "due"] (SpP K (F_sameD m)) := by
  refine def_pure T.a_law_same sc_law_same (fun ds d h => ?_) ?_
  · obtain ⟨x, rfl, _⟩ := h
    rfl
  rintro _ ⟨fa, cdv, A, outer, s, H, E, hr, rfl⟩ _ _ ⟨x, rfl, hx, rfl⟩
  have hu := room65 hr
  show XB _ [.dat _, .dat _, .no, .no] _ _
  have go : ∀ l m', m = m' + 1 → SeqD x l → l.length ≤ 1000000 → (∀ y ∈ l, TreeD m' y) → XB (cxOf CX0 P w K mg base ["found", "due", "x", "y"] "_law_same" (defScope s_law_same) fa cdv A outer s H E).nox [.dat x, .dat x, .no, .no] (defBody s_law_same) { nx := fun _ => PyData.bool true = .none, rt := fun d' _ => d' = .bool true } := fun l m' hm hs hz hl => by
    refine xb_ifR (k := true) (xt_eq (xt_tru (xe_isi2 T.g_isinstance (xe_var 1) T.g_list boot_list T.g_tuple boot_tuple (kit_row _))) hs.row) (fun _ => ?_) (fun h => (nomatch h))
    refine xb_ifR (k := false) (xt_eq ((xw_or (xt_cmp hu (xe_isi T.g_isinstance (xe_var 0) T.g_list boot_list (kit_list _)) (xe_isi T.g_isinstance (xe_var 1) T.g_list boot_list (kit_list _)) (.neB _ _)) (fun _ => (xw_or1 (xt_cmp hu (xe_isi T.g_isinstance (xe_var 0) T.g_tuple boot_tuple (kit_tuple _)) (xe_isi T.g_isinstance (xe_var 1) T.g_tuple boot_tuple (kit_tuple _)) (.neB _ _)))))).xt (by rw [beq_self_eq_true, beq_self_eq_true]; rfl)) (fun h => (nomatch h)) (fun _ => ?_)
    refine xb_ret (xe_and (xe_eq (d := .bool true) (xe_cmp hu (xe_len T.g_len (xe_var 0) hs.len) (xe_len T.g_len (xe_var 1) hs.len) (.eqI _ _)) (by rw [decide_eq_true rfl])) (fun _ => (xe_one (xe_all (ns := l.map fun _ => true) T.g_all (xe_eq (xe_new (xl_G (l := l) (f := fun y => .tuple [y, y]) (own := [("x", 2), ("y", 3)]) (is := [2, 3]) (fun _ => .bool true) (fun _ => true) (fun y => [.dat x, .dat x, .dat y, .dat y]) rfl sc_law_same.nd (by rw [← zipD_self]; exact xi_zipA T.g_zip (xe_var 0) (xe_var 1) hs hs rfl) (blkOk_by (by kernel_rfl)) (fun _ _ _ _ _ y hy => xg_tup rfl (xgs_cons (xg_name 2 sc_law_same.nd) (xgs_cons (xg_name 3 sc_law_same.nd) xgs_nil)) rfl) (fun _ _ _ _ _ y hy => xts_nil) (fun _ _ _ _ _ y hy _ => xe_call (rec m' hm) (hr.mono (by omega)) (xa_cons (xe_var 2) (xa_cons (xe_var 3) xa_nil)) ⟨y, rfl, hl y hy, rfl⟩) hz (by decide)).val) ?_))))) ?_
    · congr 1
      rw [List.filter_eq_self.mpr (fun _ _ => rfl), List.map_map]
      rfl
    · show PyData.bool (true && (List.map (fun _ => true) l).all id) = .bool true
      rw [Bool.true_and]
      congr 1
      rw [List.all_eq_true]
      intro z hz
      obtain ⟨_, _, rfl⟩ := List.mem_map.mp hz
      rfl
  have atom : isDictD x = false → isRowD x = false → XB (cxOf CX0 P w K mg base ["found", "due", "x", "y"] "_law_same" (defScope s_law_same) fa cdv A outer s H E).nox [.dat x, .dat x, .no, .no] (defBody s_law_same) { nx := fun _ => PyData.bool true = .none, rt := fun d' _ => d' = .bool true } := fun hdict hrow => by
    refine xb_ifR (k := false) (xt_eq (xt_tru (xe_isi2 T.g_isinstance (xe_var 1) T.g_list boot_list T.g_tuple boot_tuple (kit_row _))) hrow) (fun h => (nomatch h)) (fun _ => ?_)
    refine xb_ifR (k := false) (xt_eq (xt_tru (xe_isi T.g_isinstance (xe_var 1) T.g_dict boot_dict (kit_dict _))) hdict) (fun h => (nomatch h)) (fun _ => ?_)
    cases hx with
    | lst => cases hrow
    | tup => cases hrow
    | dic => cases hdict
    | int m i =>
      refine xb_ifR (k := true) (xt_eq (xt_tru (xe_isi T.g_isinstance (xe_var 1) T.g_int boot_int (kit_int _))) rfl) (fun _ => ?_) (fun h => (nomatch h))
      refine xb_ret (xe_and (xe_isi T.g_isinstance (xe_var 0) T.g_int boot_int (kit_int _)) (fun _ => (xe_and (xe_cmp hu (xe_isi T.g_isinstance (xe_var 0) T.g_bool boot_bool (kit_bool _)) (xe_isi T.g_isinstance (xe_var 1) T.g_bool boot_bool (kit_bool _)) (.eqB _ _)) (fun _ => (xe_one (xe_cmp hu (xe_var 0) (xe_var 1) (.eqI _ _))))))) ?_
      show PyData.bool (decide (i = i)) = _
      rw [decide_eq_true rfl]
    | bl m b =>
      refine xb_ifR (k := true) (xt_eq (xt_tru (xe_isi T.g_isinstance (xe_var 1) T.g_int boot_int (kit_int _))) rfl) (fun _ => ?_) (fun h => (nomatch h))
      refine xb_ret (xe_and (xe_isi T.g_isinstance (xe_var 0) T.g_int boot_int (kit_int _)) (fun _ => (xe_and (xe_cmp hu (xe_isi T.g_isinstance (xe_var 0) T.g_bool boot_bool (kit_bool _)) (xe_isi T.g_isinstance (xe_var 1) T.g_bool boot_bool (kit_bool _)) (.eqB _ _)) (fun _ => (xe_one (xe_cmp hu (xe_var 0) (xe_var 1) (.eqB _ _))))))) ?_
      show PyData.bool (b == b) = _
      rw [beq_self_eq_true]
    | non m =>
      refine xb_ifR (k := false) (xt_eq (xt_tru (xe_isi T.g_isinstance (xe_var 1) T.g_int boot_int (kit_int _))) rfl) (fun h => (nomatch h)) (fun _ => ?_)
      refine xb_ifR (k := true) (xt_eq (xt_cmp hu (xe_var 1) xe_non (.isN _ _ rfl)) rfl) (fun _ => ?_) (fun h => (nomatch h))
      exact xb_ret (xe_cmp hu (xe_var 0) xe_non (.isN _ _ rfl)) rfl
    | str m z =>
      refine xb_ifR (k := false) (xt_eq (xt_tru (xe_isi T.g_isinstance (xe_var 1) T.g_int boot_int (kit_int _))) rfl) (fun h => (nomatch h)) (fun _ => ?_)
      refine xb_ifR (k := false) (xt_eq (xt_cmp hu (xe_var 1) xe_non (.isN _ _ rfl)) rfl) (fun h => (nomatch h)) (fun _ => ?_)
      refine xb_ifR (k := true) (xt_eq (xt_tru (xe_isi T.g_isinstance (xe_var 1) T.g_str boot_str (kit_str _))) rfl) (fun _ => ?_) (fun h => (nomatch h))
      refine xb_ret (xe_and (xe_isi T.g_isinstance (xe_var 0) T.g_str boot_str (kit_str _)) (fun _ => (xe_one (xe_cmp hu (xe_var 0) (xe_var 1) (.eqS _ _))))) ?_
      show PyData.bool (decide (z = z)) = _
      rw [decide_eq_true rfl]
  cases id hx with
  | non => exact atom rfl rfl
  | bl => exact atom rfl rfl
  | int => exact atom rfl rfl
  | str => exact atom rfl rfl
  | dic m2 =>
    refine xb_ifR (k := false) (xt_eq (xt_tru (xe_isi2 T.g_isinstance (xe_var 1) T.g_list boot_list T.g_tuple boot_tuple (kit_row _))) rfl) (fun h => (nomatch h)) (fun _ => ?_)
    refine xb_ifR (k := true) (xt_eq (xt_tru (xe_isi T.g_isinstance (xe_var 1) T.g_dict boot_dict (kit_dict _))) rfl) (fun _ => ?_) (fun h => (nomatch h))
    exact xb_ret (xe_and (xe_isi T.g_isinstance (xe_var 0) T.g_dict boot_dict (kit_dict _)) (fun _ => (xe_one (xe_call (rec (m2 + 1) rfl) (hr.mono (by omega)) (xa_cons (xe_new (xn_items0 0 rfl T.g_list)) (xa_cons (xe_new (xn_items0 1 rfl T.g_list)) xa_nil)) ⟨.list [], rfl, .lst (Nat.zero_le _) (fun _ z => (nomatch z)), rfl⟩)))) rfl
  | @lst m' l hz h => exact go l m' rfl (.lst _) hz h
  | @tup m' l hz h => exact go l m' rfl (.tup _) hz h
theorem c_law_same (T : Txt K mg) : ∀ m, Def P w K mg base (m + 1) "_law_same" ["found", "due"] (SpP K (F_sameD m))
  | 0 => same_step T 0 fun _ h => by omega
  | m + 1 => same_step T (m + 1) fun m' h => by
    obtain rfl : m = m' := by omega
    exact c_law_same T m
end
end K13

set_option Elab.async false
set_option linter.all false
set_option maxRecDepth 100000
set_option maxHeartbeats 4000000
namespace K13
open PySem PySem.Spec PyProof.Rows L2 Dl Sm
def Pp (n : Nat) (ds : List PyData) : Prop := n ≤ 2 ^ 39 ∧ ∃ l : List PyData, ds = [.list l] ∧ 0 < l.length ∧ l.length ≤ 1000
def Qp (n : Nat) (ds : List PyData) (n2 : Nat) (d : PyData) : Prop := n2 = n + 1 ∧ ∃ l : List PyData, ds = [.list l] ∧ d ∈ l
/-- a tree of truths and rows, its size told by its depth -/
inductive Rows : Nat → PyData → Prop
  | non (m : Nat) : Rows m .none
  | bl (m : Nat) (b : Bool) : Rows m (.bool b)
  | int (m : Nat) (i : Int) : Rows m (.int i)
  | row {m : Nat} {x : PyData} {l : List PyData} (hx : SeqD x l) (hz : l.length ≤ 200) (h : ∀ y ∈ l, Rows m y) : Rows (m + 1) x
def costL : Nat → Nat
  | 0 => 0
  | m + 1 => 200 * costL m + 1
def Pl (m : Nat) (n : Nat) (ds : List PyData) : Prop := n + costL m ≤ 2 ^ 38 ∧ ∃ x, ds = [x] ∧ Rows m x
def Ql (m : Nat) (n : Nat) (ds : List PyData) (n2 : Nat) (d : PyData) : Prop := n2 ≤ n + costL m ∧ ∃ x, ds = [x] ∧ Loose x d
section
variable {P : Program} {w : World} {K : PySem.W.Frag} {mg : Str → Option Value} {base : Heap}
theorem c_law_pick (T : Txt K mg) (c_law_below : Def P w K mg base 1 "_law_below" ["stream", "many"] (SpS K Pb Qb)) : Def P w K mg base 2 "_law_pick" ["stream", "some"] (SpS K Pp Qp) := by
  refine def_draw T.a_law_pick sc_law_pick (fun n ds h => ?_) ?_
  · obtain ⟨_, l, rfl, _⟩ := h
    rfl
  rintro _ ⟨fa, cdv, A, outer, s, H, E, hr, rfl⟩ p q n _ ⟨hn, l, rfl, hl0, hl1⟩
  have hu := room65 hr
  show XB _ [.own (strmR p q n), .dat (.list l)] _ _
  refine xb_retF (P := fun d δ => d ∈ l ∧ δ = [.own (strmR p q (n + 1)), .dat (.list l)]) (xf_ix (P1 := fun d δ => d = .list l ∧ δ = [.own (strmR p q n), .dat (.list l)]) (xf_of (xe_var 1)) (fun d1 δ1 h1 => ?_)) (fun d δ1 h1 => ?_)
  · obtain ⟨rfl, rfl⟩ := h1
    refine xf_draw 0 c_law_below (hr.mono (by decide)) rfl (xfa_of (xa_cons (xe_len T.g_len (xe_var 1) (.lst _)) xa_nil)) ?_
    rintro _ _ ⟨rfl, rfl⟩
    refine ⟨n, rfl, ⟨by omega, _, rfl, by omega, by omega⟩, fun n2 d hq => ?_⟩
    obtain ⟨rfl, j, rfl, h0, h1⟩ := hq
    have h2 := h1 _ rfl
    have h3 : j.toNat < l.length := by omega
    refine ⟨j, l[j.toNat], rfl, .lst ?_, List.getElem_mem h3, rfl⟩
    conv => lhs; rw [show j = ((j.toNat : Nat) : Int) by omega]
    exact atI_nat (List.getElem?_eq_getElem h3)
  · obtain ⟨h1, rfl⟩ := h1
    exact ⟨n + 1, rfl, rfl, l, rfl, h1⟩
theorem loose_step (T : Txt K mg) (c_law_below : Def P w K mg base 1 "_law_below" ["stream", "many"] (SpS K Pb Qb)) (m : Nat) (hm3 : m ≤ 3) (rec : ∀ m', m = m' + 1 → Def P w K mg base (m + 1) "_law_loose" ["stream", "thing"] (SpS K (Pl m') (Ql m'))) : Def P w K mg base (m + 2) "_law_loose" ["stream", "thing"] (SpS K (Pl m) (Ql m)) := by
  refine def_draw T.a_law_loose sc_law_loose (fun n ds h => ?_) ?_
  · obtain ⟨_, x, rfl, _⟩ := h
    rfl
  rintro _ ⟨fa, cdv, A, outer, s, H, E, hr, rfl⟩ p q n _ ⟨hn, x, rfl, hx⟩
  have hu := room65 hr
  have hdict : isDictD x = false := by
    cases hx with
    | row hs => cases hs <;> rfl
    | _ => rfl
  show XB _ [.own (strmR p q n), .dat x, .no, .no, .no] _ _
  refine xb_ifR (k := false) (xt_eq (xt_tru (xe_isi T.g_isinstance (xe_var 1) T.g_dict boot_dict (kit_dict _))) hdict) (fun h => (nomatch h)) (fun _ => ?_)
  by_cases hrow : isRowD x = true
  · refine xb_ifR (k := false) (xt_eq (xt_not (xt_tru (xe_isi2 T.g_isinstance (xe_var 1) T.g_list boot_list T.g_tuple boot_tuple (kit_row _)))) (by show (!isRowD x) = false; rw [hrow]; rfl)) (fun h => (nomatch h)) (fun _ => ?_)
    cases hx with
    | non => cases hrow
    | bl => cases hrow
    | int => cases hrow
    | @row m' _ l hs hz hl =>
      have hcm : costL (m' + 1) = 200 * costL m' + 1 := rfl
      have hmul : ∀ i, i ≤ 200 → costL m' * i ≤ 200 * costL m' := fun i hi => by
        rw [Nat.mul_comm]
        exact Nat.mul_le_mul_right _ hi
      refine xb_lcF 2 (xlF (l := l) (f := fun y => y) 3 (fun i δ => ∃ n', n' ≤ n + costL m' * i ∧ δ = [.own (strmR p q n'), .dat x, .no, .no, .no]) (fun i d => ∃ a, l[i]? = some a ∧ Loose a d) sc_law_loose.nd (by rw [map_id']; exact xi_seq (xe_var 1) hs) (by exact Nat.le_of_ble_eq_true rfl) (by omega) ⟨n, Nat.le_add_right _ _, rfl⟩ (fun i δ' h => by obtain ⟨_, _, rfl⟩ := h; rfl) (fun _ _ _ _ _ i y δ' hy hJ => ?_)) (fun d δ1 h1 => ?_) sc_law_loose.nd
      · obtain ⟨n', hn', rfl⟩ := hJ
        have hi : i < l.length := (List.getElem?_eq_some_iff.mp hy).1
        have h5 := hmul (i + 1) (by omega)
        rw [Nat.mul_succ] at h5
        refine xf_draw 0 (rec m' rfl) (hr.mono (by omega)) rfl (xfa_of (xa_cons (xe_var 3) xa_nil)) ?_
        rintro _ _ ⟨rfl, rfl⟩
        refine ⟨n', rfl, ⟨by omega, y, rfl, hl y (List.mem_of_getElem? hy)⟩, fun n2 d hq => ?_⟩
        obtain ⟨h2, _, e, h3⟩ := hq
        cases e
        refine ⟨⟨y, hy, h3⟩, n2, ?_, rfl⟩
        rw [Nat.mul_succ]
        omega
      · obtain ⟨ds, rfl, hl2, hd2, n1, hn1, rfl⟩ := h1
        have h5 := hmul l.length hz
        show XB _ [.own (strmR p q n1), .dat x, .dat (.list ds), .no, .no] _ _
        have hlo : ∀ y, SeqD y ds → Loose x y := fun y hy => .row hs hy hl2 fun i a b ha hb => by
          obtain ⟨a', ha', h6⟩ := hd2 i b hb
          rw [ha] at ha'
          cases ha'
          exact h6
        refine xb_retF (P := fun d δ => SeqD d ds ∧ δ = [.own (strmR p q (n1 + 1)), .dat x, .dat (.list ds), .no, .no]) (xf_if (PB := fun _ δ => δ = [.own (strmR p q (n1 + 1)), .dat x, .dat (.list ds), .no, .no]) (xft_cmp (P1 := fun d δ => ∃ j : Int, d = .int j ∧ δ = [.own (strmR p q (n1 + 1)), .dat x, .dat (.list ds), .no, .no]) hu (xf_draw 0 c_law_below (hr.mono (by omega)) rfl (xfa_of (xa_cons xe_int xa_nil)) ?_) (fun d1 δ1 h1 => ?_)) (fun δ1 h1 => ?_) (fun δ1 h1 => ?_)) (fun d δ1 h1 => ?_)
        · rintro _ _ ⟨rfl, rfl⟩
          refine ⟨n1, rfl, ⟨by omega, 2, rfl, by decide, by decide⟩, fun n2 d hq => ?_⟩
          obtain ⟨rfl, j, rfl, _⟩ := hq
          exact ⟨j, rfl, rfl⟩
        · obtain ⟨j, rfl, rfl⟩ := h1
          refine xf_imp (xf_of xe_int) ?_
          rintro _ _ ⟨rfl, rfl⟩
          exact ⟨_, .eqI _ _, rfl⟩
        · subst h1
          refine xf_imp (xf_of (xe_var 2)) ?_
          rintro _ _ ⟨rfl, rfl⟩
          exact ⟨.lst _, rfl⟩
        · subst h1
          refine xf_imp (xf_of (xe_tupleOf T.g_tuple (xe_var 2) (.lst _))) ?_
          rintro _ _ ⟨rfl, rfl⟩
          exact ⟨.tup _, rfl⟩
        · obtain ⟨h7, rfl⟩ := h1
          exact ⟨n1 + 1, rfl, by omega, x, rfl, hlo d h7⟩
  · have hrow : isRowD x = false := by cases h : isRowD x with | true => exact absurd h hrow | false => rfl
    refine xb_ifR (k := true) (xt_eq (xt_not (xt_tru (xe_isi2 T.g_isinstance (xe_var 1) T.g_list boot_list T.g_tuple boot_tuple (kit_row _)))) (by show (!isRowD x) = true; rw [hrow]; rfl)) (fun _ => ?_) (fun h => (nomatch h))
    refine xb_ret (xe_var 1) ⟨n, rfl, by omega, x, rfl, ?_⟩
    cases hx with
    | non => exact .non
    | bl => exact .bl _
    | int => exact .int _
    | row hs => rw [hs.row] at hrow; cases hrow
theorem c_law_loose (T : Txt K mg) (c_law_below : Def P w K mg base 1 "_law_below" ["stream", "many"] (SpS K Pb Qb)) : ∀ m, m ≤ 3 → Def P w K mg base (m + 2) "_law_loose" ["stream", "thing"] (SpS K (Pl m) (Ql m))
  | 0, h => loose_step T c_law_below 0 h fun _ h => by omega
  | m + 1, h => loose_step T c_law_below (m + 1) h fun m' e => by
    obtain rfl : m = m' := by omega
    exact c_law_loose T c_law_below m (by omega)
end
end K13

set_option Elab.async false
set_option linter.all false
set_option maxRecDepth 100000
set_option maxHeartbeats 4000000
namespace K13
open PySem PySem.Spec PyProof.Rows L2 Dl Sm
def no0 : List PyData := [.none, .int 5, .str "set", .list [], .dict [], .tuple [.list [], .list []], .tuple [.list [.bool true]], .tuple [.list [], .list [.int 1]], .tuple [.list [.int 0], .list [.bool true]], .tuple [.list [], .list [.bool true], .list []], .tuple [.list [.bool true], .none]]
def no1 : List PyData := [.tuple [.none, .list [.bool true]], .tuple [.list [], .list [.none]], .tuple [.list (List.replicate 61 [PyData.bool false]).flatten, .list [.bool true]], .tuple [.list [], .list (List.replicate 61 [PyData.bool true]).flatten], .tuple [.list [], .list [.str "True"]]]
def no2 : PyData := .tuple [.list [.bool true], .tuple []]
def no3 : List PyData := [.tuple [.list [.bool true, .int 1], .list [.bool true]], .tuple [.list [], .list [.bool true, .int 0]], .tuple [.int 5, .list [.bool true]], .tuple [.list [], .int 5], .str "ab", .tuple [.dict [], .list [.bool true]]]
def noAll : List PyData := ((no0 ++ no1) ++ [no2]) ++ no3
def Pn (n : Nat) (ds : List PyData) : Prop := n ≤ 2 ^ 38 ∧ ds = []
def Qn (n : Nat) (_ : List PyData) (n2 : Nat) (d : PyData) : Prop := n2 = n + 1 ∧ d ∈ noAll
def rowB : PyData → Option (List PyData)
  | .list l => some l
  | .tuple l => some l
  | _ => none
theorem rowB_seq {x : PyData} {l : List PyData} (h : rowB x = some l) : SeqD x l := by
  cases x <;> simp [rowB] at h
  · subst h; exact .lst _
  · subst h; exact .tup _
theorem rowB_none {x : PyData} (h : rowB x = none) : isRowD x = false := by
  cases x <;> simp [rowB] at h <;> rfl
def treeB : Nat → PyData → Bool
  | _, .none => true
  | _, .bool _ => true
  | _, .int _ => true
  | _, .str _ => true
  | 0, _ => false
  | m + 1, .list l => decide (l.length ≤ 1000000) && l.all (treeB m)
  | m + 1, .tuple l => decide (l.length ≤ 1000000) && l.all (treeB m)
  | 1, .dict _ => false
  | _ + 2, .dict l => l.isEmpty
theorem treeB_ok : ∀ (m : Nat) (d : PyData), treeB m d = true → Dl.TreeD m d
  | _, .none, _ => .non _
  | _, .bool b, _ => .bl _ b
  | _, .int i, _ => .int _ i
  | _, .str x, _ => .str _ x
  | 0, .list l, h => by simp [treeB] at h
  | 0, .tuple l, h => by simp [treeB] at h
  | 0, .dict l, h => by simp [treeB] at h
  | 1, .dict l, h => by simp [treeB] at h
  | m + 2, .dict l, h => by
    have : l = [] := by simpa [treeB] using h
    subst this
    exact .dic m
  | m + 1, .list l, h => by
    simp only [treeB, Bool.and_eq_true, decide_eq_true_eq, List.all_eq_true] at h
    exact .lst h.1 fun y hy => treeB_ok m y (h.2 y hy)
  | m + 1, .tuple l, h => by
    simp only [treeB, Bool.and_eq_true, decide_eq_true_eq, List.all_eq_true] at h
    exact .tup h.1 fun y hy => treeB_ok m y (h.2 y hy)
theorem tree_noAll : ∀ d ∈ noAll, Dl.TreeD 3 d := fun d hd => treeB_ok 3 d (List.all_eq_true.mp (show noAll.all (treeB 3) = true by decide +kernel) d hd)
def noTruthsB (x : PyData) : Bool := match rowB x with
  | none => true
  | some l => (decide (60 < l.length) && decide (l.length ≤ 1000000)) || (decide (l.length ≤ 60) && (!(l.filter (fun y => !isBoolD y)).isEmpty && SeqAt.shaped (.list (l.filter (fun y => !isBoolD y)))))
theorem noTruthsB_ok {x : PyData} (h : noTruthsB x = true) : NoTruths x := by
  unfold noTruthsB at h
  cases e : rowB x with
  | none => exact .row (rowB_none e)
  | some l =>
    rw [e] at h
    simp only [Bool.or_eq_true, Bool.and_eq_true, decide_eq_true_eq, Bool.not_eq_true'] at h
    rcases h with ⟨h1, h2⟩ | ⟨h1, h2, h3⟩
    · exact .long (rowB_seq e) h1 h2
    · exact .odd (rowB_seq e) h1 (fun z => by rw [z] at h2; cases h2) h3
def boolsB : List PyData → Option (List Bool)
  | [] => some []
  | .bool b :: r => (boolsB r).map (b :: ·)
  | _ => none
theorem boolsB_ok : ∀ {l : List PyData} {r : List Bool}, boolsB l = some r → l = r.map .bool
  | [], r, h => by cases h; rfl
  | .bool b :: l, r, h => by
    simp only [boolsB, Option.map_eq_some_iff] at h
    obtain ⟨r', h1, rfl⟩ := h
    rw [boolsB_ok h1, List.map_cons]
def truthsB (x : PyData) : Option (List Bool) := (rowB x).bind boolsB
theorem truthsB_ok {x : PyData} {r : List Bool} (h : truthsB x = some r) : Bs x r := by
  cases x <;> simp [truthsB, rowB] at h
  · rw [boolsB_ok h]; exact .lst r
  · rw [boolsB_ok h]; exact .tup r
def noSetB (x : PyData) : Bool := match rowB x with
  | none => true
  | some [a, b] => noTruthsB a || (match truthsB a with
    | some l => decide (l.length ≤ 60) && (noTruthsB b || decide (truthsB b = some []))
    | none => false)
  | some _ => true
theorem noSetB_ok {x : PyData} (h : noSetB x = true) : NoSet x := by
  unfold noSetB at h
  cases e : rowB x with
  | none => exact .row (rowB_none e)
  | some l =>
    rw [e] at h
    have hs := rowB_seq e
    match l, h, hs with
    | [], _, hs => exact .len hs (by decide)
    | [_], _, hs => exact .len hs (Nat.ne_of_lt (Nat.lt_succ_self 1))
    | [a, b], h, hs =>
      simp only [Bool.or_eq_true] at h
      rcases h with h | h
      · exact .fst hs (noTruthsB_ok h)
      · cases e2 : truthsB a with
        | none => rw [e2] at h; cases h
        | some r =>
          rw [e2] at h
          simp only [Bool.and_eq_true, decide_eq_true_eq, Bool.or_eq_true] at h
          obtain ⟨h1, h2 | h2⟩ := h
          · exact .snd hs (truthsB_ok e2) h1 (noTruthsB_ok h2)
          · exact .emp hs (truthsB_ok e2) h1 (truthsB_ok h2)
    | _ :: _ :: _ :: r, _, hs => exact .len hs (by rw [List.length_cons, List.length_cons, List.length_cons]; omega)
theorem noset_noAll : ∀ d ∈ noAll, NoSet d := fun d hd => noSetB_ok (List.all_eq_true.mp (show noAll.all noSetB = true by decide +kernel) d hd)
section
variable {P : Program} {w : World} {K : PySem.W.Frag} {mg : Str → Option Value} {base : Heap}
theorem c_law_kno_set (T : Txt K mg) (c_law_pick : Def P w K mg base 2 "_law_pick" ["stream", "some"] (SpS K Pp Qp)) : Def P w K mg base 5 "_law_kno_set" ["stream"] (SpS K Pn Qn) := by
  have c_copied := c_law_copied (P := P) (w := w) (base := base) T 3
  refine def_draw T.a_law_kno_set sc_law_kno_set (fun n ds h => ?_) ?_
  · obtain ⟨_, rfl⟩ := h
    rfl
  rintro _ ⟨fa, cdv, A, outer, s, H, E, hr, rfl⟩ p q n _ ⟨hn, rfl⟩
  have hu := room65 hr
  show XB _ [.own (strmR p q n), .no] _ _
  refine xb_asg 1 (d := .list no0) (xe_lst (xa_cons xe_non (xa_cons xe_int (xa_cons xe_str (xa_cons (xe_lst xa_nil) (xa_cons xe_dict0 (xa_cons (xe_tup (xa_cons (xe_lst xa_nil) (xa_cons (xe_lst xa_nil) xa_nil))) (xa_cons (xe_tup (xa_cons (xe_lst (xa_cons xe_bl xa_nil)) xa_nil)) (xa_cons (xe_tup (xa_cons (xe_lst xa_nil) (xa_cons (xe_lst (xa_cons xe_int xa_nil)) xa_nil))) (xa_cons (xe_tup (xa_cons (xe_lst (xa_cons xe_int xa_nil)) (xa_cons (xe_lst (xa_cons xe_bl xa_nil)) xa_nil))) (xa_cons (xe_tup (xa_cons (xe_lst xa_nil) (xa_cons (xe_lst (xa_cons xe_bl xa_nil)) (xa_cons (xe_lst xa_nil) xa_nil)))) (xa_cons (xe_tup (xa_cons (xe_lst (xa_cons xe_bl xa_nil)) (xa_cons xe_non xa_nil))) xa_nil)))))))))))) ?_ sc_law_kno_set.nd
  refine xb_asgA 1 (ds := no0 ++ no1) (xn_cat (xe_var 1) (xe_lst (xa_cons (xe_tup (xa_cons xe_non (xa_cons (xe_lst (xa_cons xe_bl xa_nil)) xa_nil))) (xa_cons (xe_tup (xa_cons (xe_lst xa_nil) (xa_cons (xe_lst (xa_cons xe_non xa_nil)) xa_nil))) (xa_cons (xe_tup (xa_cons (xe_rep (xe_lst (xa_cons xe_bl xa_nil)) xe_int (by decide) (by decide) (by exact Nat.le_of_ble_eq_true rfl)) (xa_cons (xe_lst (xa_cons xe_bl xa_nil)) xa_nil))) (xa_cons (xe_tup (xa_cons (xe_lst xa_nil) (xa_cons (xe_rep (xe_lst (xa_cons xe_bl xa_nil)) xe_int (by decide) (by decide) (by exact Nat.le_of_ble_eq_true rfl)) xa_nil))) (xa_cons (xe_tup (xa_cons (xe_lst xa_nil) (xa_cons (xe_lst (xa_cons xe_str xa_nil)) xa_nil))) xa_nil)))))) (by exact Nat.le_of_ble_eq_true rfl)) ?_ sc_law_kno_set.nd
  refine xb_app 1 (d := no2) rfl (xe_tup (xa_cons (xe_lst (xa_cons xe_bl xa_nil)) (xa_cons (xe_tup xa_nil) xa_nil))) (by exact Nat.le_of_ble_eq_true rfl) ?_
  refine xb_frz 1 rfl ?_
  refine xb_asg 1 (d := .list noAll) (xe_cat (xe_var 1) (xe_lst (xa_cons (xe_tup (xa_cons (xe_lst (xa_cons xe_bl (xa_cons xe_int xa_nil))) (xa_cons (xe_lst (xa_cons xe_bl xa_nil)) xa_nil))) (xa_cons (xe_tup (xa_cons (xe_lst xa_nil) (xa_cons (xe_lst (xa_cons xe_bl (xa_cons xe_int xa_nil))) xa_nil))) (xa_cons (xe_tup (xa_cons xe_int (xa_cons (xe_lst (xa_cons xe_bl xa_nil)) xa_nil))) (xa_cons (xe_tup (xa_cons (xe_lst xa_nil) (xa_cons xe_int xa_nil))) (xa_cons xe_str (xa_cons (xe_tup (xa_cons xe_dict0 (xa_cons (xe_lst (xa_cons xe_bl xa_nil)) xa_nil))) xa_nil))))))) (by exact Nat.le_of_ble_eq_true rfl)) ?_ sc_law_kno_set.nd
  show XB _ [.own (strmR p q n), .dat (.list noAll)] _ _
  refine xb_retF (P := fun d δ => d ∈ noAll ∧ δ = [.own (strmR p q (n + 1)), .dat (.list noAll)]) (xf_callP c_copied (hr.mono (by decide)) (xfa_cons (P1 := fun d δ => d ∈ noAll ∧ δ = [.own (strmR p q (n + 1)), .dat (.list noAll)]) (PA' := fun ds δ => ∃ d, ds = [d] ∧ d ∈ noAll ∧ δ = [.own (strmR p q (n + 1)), .dat (.list noAll)]) (xf_draw 0 c_law_pick (hr.mono (by decide)) rfl (xfa_of (xa_cons (xe_var 1) xa_nil)) ?_) (fun d1 δ1 h1 => ?_)) (fun ds δ1 h1 => ?_)) (fun d δ1 h1 => ?_)
  · rintro _ _ ⟨rfl, rfl⟩
    refine ⟨n, rfl, ⟨by omega, noAll, rfl, by exact Nat.le_of_ble_eq_true rfl, by exact Nat.le_of_ble_eq_true rfl⟩, fun n2 d hq => ?_⟩
    obtain ⟨rfl, l, e, hm⟩ := hq
    cases e
    exact ⟨hm, rfl⟩
  · obtain ⟨h1, rfl⟩ := h1
    refine xfa_imp xfa_nil ?_
    rintro _ _ ⟨rfl, rfl⟩
    exact ⟨d1, rfl, h1, rfl⟩
  · obtain ⟨d, rfl, h1, rfl⟩ := h1
    exact ⟨d, ⟨d, rfl, tree_noAll d h1, rfl⟩, h1, rfl⟩
  · obtain ⟨h1, rfl⟩ := h1
    exact ⟨n + 1, rfl, rfl, h1⟩
end
end K13

set_option Elab.async false
set_option linter.all false
set_option maxRecDepth 100000
set_option maxHeartbeats 4000000
namespace K13
open PySem PySem.Spec PyProof.Rows L2 Dl Sm
theorem pss_no {X : Cx} {sts : List Stmt} : PSs X sts (fun _ _ _ => False) := ⟨fun _ _ _ _ _ _ h => h.elim⟩
abbrev noTs : Addr → Value → Option Addr → TS := fun _ _ _ _ _ _ => False
theorem takesN {X : Cx} : Takes X (fun _ _ _ _ => False) := LamX.takes0
theorem clause_ts {X : Cx} {C : Addr} {δe : Addr → Addr → List Dl.Slot} {suite : List Stmt} {M : List Dl.Slot → Prop} (h : ∀ a oe dd pn, Zc (.ref C) (some dd) oe → (∃ vs, oe.data = .fields vs) → XB (X.suite a ((a, oe) :: pn)) (δe a dd) suite { nx := M }) :
    ∀ (a : Addr) (oe : Obj) (cls : Value) (d : Option Addr) (pn : List (Addr × Obj)), Zc cls d oe → (∃ vs, oe.data = .fields vs) → PSs (X.suite a ((a, oe) :: pn)) suite (fun D σ G => ∃ dd, d = some dd ∧ cls = .ref C ∧ tS X.K (δe a dd) { nx := M } D σ G) := fun a oe cls d pn hz hf =>
  ⟨fun pins s σ H D I ⟨dd, e1, e2, q⟩ => by
    subst e1
    subst e2
    exact (h a oe dd pn hz hf).run pins s σ H D I q⟩
section
variable {P : Program} {w : World} {K : PySem.W.Frag} {mg : Str → Option Value} {base : Heap} {ca : CA} {fs : List Addr} {s0 : Shared} {H0 : Hp} {kl : Nat} {f : Addr} {Bc : Hp}
theorem kraised_ret (T : Txt K mg) (Er : Err K mg ca) (R : Runs P w K mg base fs s0 H0 (L2.CX P w) kl f (clAny Bc)) : DefC P w K mg base fs s0 H0 (kl + 1) "_law_kraised" ["run"] (SpC K [.own (cloR f Bc)] .none) := by
  refine def_clo T.a_law_kraised sc_law_kraised rfl ?_
  rintro _ ⟨fa, cdv, A, outer, s, H, E, hr, rfl⟩ D
  show XB _ [.own (cloR f Bc), .no, .no] _ _
  refine xb_asg 1 xe_non ?_ sc_law_kraised.nd
  refine xb_tryRet (i := 2) (ir := 0) R D hr rfl (.cons (ts := noTs) ⟨rfl, by decide, .inl Er.m_BadText⟩ (fun _ _ _ _ _ _ _ => pss_no) (.cons (ts := noTs) ⟨rfl, by decide, .inl Er.m_BadPattern⟩ (fun _ _ _ _ _ _ _ => pss_no) (.cons (ts := noTs) ⟨rfl, by decide, .inl Er.m_BadProgram⟩ (fun _ _ _ _ _ _ _ => pss_no) (.cons (ts := noTs) ⟨rfl, by decide, .inl Er.m_BadSigns⟩ (fun _ _ _ _ _ _ _ => pss_no) (.cons (ts := noTs) ⟨rfl, by decide, .inl Er.m_BadTable⟩ (fun _ _ _ _ _ _ _ => pss_no) (.cons (ts := noTs) ⟨rfl, by decide, .inl Er.m_BadWord⟩ (fun _ _ _ _ _ _ _ => pss_no) (.cons (ts := noTs) ⟨rfl, by decide, .inl Er.m_BadName⟩ (fun _ _ _ _ _ _ _ => pss_no) (.cons (ts := noTs) ⟨rfl, by decide, .inl Er.m_BadOther⟩ (fun _ _ _ _ _ _ _ => pss_no) (.cons (ts := noTs) ⟨rfl, by decide, .inl Er.m_BadMany⟩ (fun _ _ _ _ _ _ _ => pss_no) (.cons (ts := noTs) ⟨rfl, by decide, .inl Er.m_BadLength⟩ (fun _ _ _ _ _ _ _ => pss_no) (.cons (ts := noTs) ⟨rfl, by decide, .inl Er.m_NoKind⟩ (fun _ _ _ _ _ _ _ => pss_no) (.cons (ts := noTs) ⟨rfl, by decide, .inl Er.m_BadSet⟩ (fun _ _ _ _ _ _ _ => pss_no) (.cons (ts := noTs) ⟨rfl, by decide, .inl Er.m_BadNumber⟩ (fun _ _ _ _ _ _ _ => pss_no) (.cons (ts := noTs) ⟨rfl, by decide, .inl Er.m_BadListed⟩ (fun _ _ _ _ _ _ _ => pss_no) (.cons (ts := noTs) ⟨rfl, by decide, .inl Er.m_BadBy⟩ (fun _ _ _ _ _ _ _ => pss_no) (.cons (ts := noTs) ⟨rfl, by decide, .inl Er.m_TooMany⟩ (fun _ _ _ _ _ _ _ => pss_no) .nil)))))))))))))))) ?_ sc_law_kraised.nd rfl rfl takesN
  exact xb_ret (xe_var 1) rfl
theorem kraised_BadSet (T : Txt K mg) (Er : Err K mg ca) {y : PyData} (R : Runs P w K mg base fs s0 H0 (L2.CX P w) kl f (clErr K Bc ca.BadSet "thing" y)) : DefC P w K mg base fs s0 H0 (kl + 1) "_law_kraised" ["run"] (SpC K [.own (cloR f Bc)] (.tuple [.str "set", y])) := by
  refine def_clo T.a_law_kraised sc_law_kraised rfl ?_
  rintro _ ⟨fa, cdv, A, outer, s, H, E, hr, rfl⟩ D
  show XB _ [.own (cloR f Bc), .no, .no] _ _
  refine xb_asg 1 xe_non ?_ sc_law_kraised.nd
  refine xb_tryErr (i := 2) (ir := 0) (M := fun δ' => ∃ a dd, δ' = [.own (cloR f Bc), .dat (.tuple [.str "set", y]), .own (errR K a dd "thing" y)]) R D hr rfl (.cons (ts := noTs) ⟨rfl, by decide, .inl Er.m_BadText⟩ (fun _ _ _ _ _ _ _ => pss_no) (.cons (ts := noTs) ⟨rfl, by decide, .inl Er.m_BadPattern⟩ (fun _ _ _ _ _ _ _ => pss_no) (.cons (ts := noTs) ⟨rfl, by decide, .inl Er.m_BadProgram⟩ (fun _ _ _ _ _ _ _ => pss_no) (.cons (ts := noTs) ⟨rfl, by decide, .inl Er.m_BadSigns⟩ (fun _ _ _ _ _ _ _ => pss_no) (.cons (ts := noTs) ⟨rfl, by decide, .inl Er.m_BadTable⟩ (fun _ _ _ _ _ _ _ => pss_no) (.cons (ts := noTs) ⟨rfl, by decide, .inl Er.m_BadWord⟩ (fun _ _ _ _ _ _ _ => pss_no) (.cons (ts := noTs) ⟨rfl, by decide, .inl Er.m_BadName⟩ (fun _ _ _ _ _ _ _ => pss_no) (.cons (ts := noTs) ⟨rfl, by decide, .inl Er.m_BadOther⟩ (fun _ _ _ _ _ _ _ => pss_no) (.cons (ts := noTs) ⟨rfl, by decide, .inl Er.m_BadMany⟩ (fun _ _ _ _ _ _ _ => pss_no) (.cons (ts := noTs) ⟨rfl, by decide, .inl Er.m_BadLength⟩ (fun _ _ _ _ _ _ _ => pss_no) (.cons (ts := noTs) ⟨rfl, by decide, .inl Er.m_NoKind⟩ (fun _ _ _ _ _ _ _ => pss_no) (.cons ⟨rfl, by decide, .inl Er.m_BadSet⟩ (clause_ts ?cl) (.cons (ts := noTs) ⟨rfl, by decide, .inl Er.m_BadNumber⟩ (fun _ _ _ _ _ _ _ => pss_no) (.cons (ts := noTs) ⟨rfl, by decide, .inl Er.m_BadListed⟩ (fun _ _ _ _ _ _ _ => pss_no) (.cons (ts := noTs) ⟨rfl, by decide, .inl Er.m_BadBy⟩ (fun _ _ _ _ _ _ _ => pss_no) (.cons (ts := noTs) ⟨rfl, by decide, .inl Er.m_TooMany⟩ (fun _ _ _ _ _ _ _ => pss_no) .nil)))))))))))))))) (.there Er.e_BadSet_BadText (.there Er.e_BadSet_BadPattern (.there Er.e_BadSet_BadProgram (.there Er.e_BadSet_BadSigns (.there Er.e_BadSet_BadTable (.there Er.e_BadSet_BadWord (.there Er.e_BadSet_BadName (.there Er.e_BadSet_BadOther (.there Er.e_BadSet_BadMany (.there Er.e_BadSet_BadLength (.there Er.e_BadSet_NoKind (.here Er.e_BadSet_BadSet)))))))))))) (by exact Nat.le_of_ble_eq_true rfl) (fun δ' h => ?_) sc_law_kraised.nd rfl rfl takesN
  case cl =>
    intro a oe dd pn hz hf
    exact xb_asg 1 (xe_tup (xa_cons xe_str (xa_cons (xe_xf 2 Er.o_BadSet.xc Er.o_BadSet.no hz hf rfl) xa_nil))) (xb_nil ⟨a, dd, rfl⟩) sc_law_kraised.nd
  obtain ⟨a, dd, rfl⟩ := h
  exact ⟨_, rfl, xb_ret (xe_var 1) rfl⟩
theorem kraised_BadNumber (T : Txt K mg) (Er : Err K mg ca) {y : PyData} (R : Runs P w K mg base fs s0 H0 (L2.CX P w) kl f (clErr K Bc ca.BadNumber "thing" y)) : DefC P w K mg base fs s0 H0 (kl + 1) "_law_kraised" ["run"] (SpC K [.own (cloR f Bc)] (.tuple [.str "number", y])) := by
  refine def_clo T.a_law_kraised sc_law_kraised rfl ?_
  rintro _ ⟨fa, cdv, A, outer, s, H, E, hr, rfl⟩ D
  show XB _ [.own (cloR f Bc), .no, .no] _ _
  refine xb_asg 1 xe_non ?_ sc_law_kraised.nd
  refine xb_tryErr (i := 2) (ir := 0) (M := fun δ' => ∃ a dd, δ' = [.own (cloR f Bc), .dat (.tuple [.str "number", y]), .own (errR K a dd "thing" y)]) R D hr rfl (.cons (ts := noTs) ⟨rfl, by decide, .inl Er.m_BadText⟩ (fun _ _ _ _ _ _ _ => pss_no) (.cons (ts := noTs) ⟨rfl, by decide, .inl Er.m_BadPattern⟩ (fun _ _ _ _ _ _ _ => pss_no) (.cons (ts := noTs) ⟨rfl, by decide, .inl Er.m_BadProgram⟩ (fun _ _ _ _ _ _ _ => pss_no) (.cons (ts := noTs) ⟨rfl, by decide, .inl Er.m_BadSigns⟩ (fun _ _ _ _ _ _ _ => pss_no) (.cons (ts := noTs) ⟨rfl, by decide, .inl Er.m_BadTable⟩ (fun _ _ _ _ _ _ _ => pss_no) (.cons (ts := noTs) ⟨rfl, by decide, .inl Er.m_BadWord⟩ (fun _ _ _ _ _ _ _ => pss_no) (.cons (ts := noTs) ⟨rfl, by decide, .inl Er.m_BadName⟩ (fun _ _ _ _ _ _ _ => pss_no) (.cons (ts := noTs) ⟨rfl, by decide, .inl Er.m_BadOther⟩ (fun _ _ _ _ _ _ _ => pss_no) (.cons (ts := noTs) ⟨rfl, by decide, .inl Er.m_BadMany⟩ (fun _ _ _ _ _ _ _ => pss_no) (.cons (ts := noTs) ⟨rfl, by decide, .inl Er.m_BadLength⟩ (fun _ _ _ _ _ _ _ => pss_no) (.cons (ts := noTs) ⟨rfl, by decide, .inl Er.m_NoKind⟩ (fun _ _ _ _ _ _ _ => pss_no) (.cons (ts := noTs) ⟨rfl, by decide, .inl Er.m_BadSet⟩ (fun _ _ _ _ _ _ _ => pss_no) (.cons ⟨rfl, by decide, .inl Er.m_BadNumber⟩ (clause_ts ?cl) (.cons (ts := noTs) ⟨rfl, by decide, .inl Er.m_BadListed⟩ (fun _ _ _ _ _ _ _ => pss_no) (.cons (ts := noTs) ⟨rfl, by decide, .inl Er.m_BadBy⟩ (fun _ _ _ _ _ _ _ => pss_no) (.cons (ts := noTs) ⟨rfl, by decide, .inl Er.m_TooMany⟩ (fun _ _ _ _ _ _ _ => pss_no) .nil)))))))))))))))) (.there Er.e_BadNumber_BadText (.there Er.e_BadNumber_BadPattern (.there Er.e_BadNumber_BadProgram (.there Er.e_BadNumber_BadSigns (.there Er.e_BadNumber_BadTable (.there Er.e_BadNumber_BadWord (.there Er.e_BadNumber_BadName (.there Er.e_BadNumber_BadOther (.there Er.e_BadNumber_BadMany (.there Er.e_BadNumber_BadLength (.there Er.e_BadNumber_NoKind (.there Er.e_BadNumber_BadSet (.here Er.e_BadNumber_BadNumber))))))))))))) (by exact Nat.le_of_ble_eq_true rfl) (fun δ' h => ?_) sc_law_kraised.nd rfl rfl takesN
  case cl =>
    intro a oe dd pn hz hf
    exact xb_asg 1 (xe_tup (xa_cons xe_str (xa_cons (xe_xf 2 Er.o_BadNumber.xc Er.o_BadNumber.no hz hf rfl) xa_nil))) (xb_nil ⟨a, dd, rfl⟩) sc_law_kraised.nd
  obtain ⟨a, dd, rfl⟩ := h
  exact ⟨_, rfl, xb_ret (xe_var 1) rfl⟩
theorem kraised_BadListed (T : Txt K mg) (Er : Err K mg ca) {y : PyData} (R : Runs P w K mg base fs s0 H0 (L2.CX P w) kl f (clErr K Bc ca.BadListed "thing" y)) : DefC P w K mg base fs s0 H0 (kl + 1) "_law_kraised" ["run"] (SpC K [.own (cloR f Bc)] (.tuple [.str "listed", y])) := by
  refine def_clo T.a_law_kraised sc_law_kraised rfl ?_
  rintro _ ⟨fa, cdv, A, outer, s, H, E, hr, rfl⟩ D
  show XB _ [.own (cloR f Bc), .no, .no] _ _
  refine xb_asg 1 xe_non ?_ sc_law_kraised.nd
  refine xb_tryErr (i := 2) (ir := 0) (M := fun δ' => ∃ a dd, δ' = [.own (cloR f Bc), .dat (.tuple [.str "listed", y]), .own (errR K a dd "thing" y)]) R D hr rfl (.cons (ts := noTs) ⟨rfl, by decide, .inl Er.m_BadText⟩ (fun _ _ _ _ _ _ _ => pss_no) (.cons (ts := noTs) ⟨rfl, by decide, .inl Er.m_BadPattern⟩ (fun _ _ _ _ _ _ _ => pss_no) (.cons (ts := noTs) ⟨rfl, by decide, .inl Er.m_BadProgram⟩ (fun _ _ _ _ _ _ _ => pss_no) (.cons (ts := noTs) ⟨rfl, by decide, .inl Er.m_BadSigns⟩ (fun _ _ _ _ _ _ _ => pss_no) (.cons (ts := noTs) ⟨rfl, by decide, .inl Er.m_BadTable⟩ (fun _ _ _ _ _ _ _ => pss_no) (.cons (ts := noTs) ⟨rfl, by decide, .inl Er.m_BadWord⟩ (fun _ _ _ _ _ _ _ => pss_no) (.cons (ts := noTs) ⟨rfl, by decide, .inl Er.m_BadName⟩ (fun _ _ _ _ _ _ _ => pss_no) (.cons (ts := noTs) ⟨rfl, by decide, .inl Er.m_BadOther⟩ (fun _ _ _ _ _ _ _ => pss_no) (.cons (ts := noTs) ⟨rfl, by decide, .inl Er.m_BadMany⟩ (fun _ _ _ _ _ _ _ => pss_no) (.cons (ts := noTs) ⟨rfl, by decide, .inl Er.m_BadLength⟩ (fun _ _ _ _ _ _ _ => pss_no) (.cons (ts := noTs) ⟨rfl, by decide, .inl Er.m_NoKind⟩ (fun _ _ _ _ _ _ _ => pss_no) (.cons (ts := noTs) ⟨rfl, by decide, .inl Er.m_BadSet⟩ (fun _ _ _ _ _ _ _ => pss_no) (.cons (ts := noTs) ⟨rfl, by decide, .inl Er.m_BadNumber⟩ (fun _ _ _ _ _ _ _ => pss_no) (.cons ⟨rfl, by decide, .inl Er.m_BadListed⟩ (clause_ts ?cl) (.cons (ts := noTs) ⟨rfl, by decide, .inl Er.m_BadBy⟩ (fun _ _ _ _ _ _ _ => pss_no) (.cons (ts := noTs) ⟨rfl, by decide, .inl Er.m_TooMany⟩ (fun _ _ _ _ _ _ _ => pss_no) .nil)))))))))))))))) (.there Er.e_BadListed_BadText (.there Er.e_BadListed_BadPattern (.there Er.e_BadListed_BadProgram (.there Er.e_BadListed_BadSigns (.there Er.e_BadListed_BadTable (.there Er.e_BadListed_BadWord (.there Er.e_BadListed_BadName (.there Er.e_BadListed_BadOther (.there Er.e_BadListed_BadMany (.there Er.e_BadListed_BadLength (.there Er.e_BadListed_NoKind (.there Er.e_BadListed_BadSet (.there Er.e_BadListed_BadNumber (.here Er.e_BadListed_BadListed)))))))))))))) (by exact Nat.le_of_ble_eq_true rfl) (fun δ' h => ?_) sc_law_kraised.nd rfl rfl takesN
  case cl =>
    intro a oe dd pn hz hf
    exact xb_asg 1 (xe_tup (xa_cons xe_str (xa_cons (xe_xf 2 Er.o_BadListed.xc Er.o_BadListed.no hz hf rfl) xa_nil))) (xb_nil ⟨a, dd, rfl⟩) sc_law_kraised.nd
  obtain ⟨a, dd, rfl⟩ := h
  exact ⟨_, rfl, xb_ret (xe_var 1) rfl⟩
theorem kraised_BadMany (T : Txt K mg) (Er : Err K mg ca) {y : PyData} (R : Runs P w K mg base fs s0 H0 (L2.CX P w) kl f (clErr K Bc ca.BadMany "thing" y)) : DefC P w K mg base fs s0 H0 (kl + 1) "_law_kraised" ["run"] (SpC K [.own (cloR f Bc)] (.tuple [.str "many", y])) := by
  refine def_clo T.a_law_kraised sc_law_kraised rfl ?_
  rintro _ ⟨fa, cdv, A, outer, s, H, E, hr, rfl⟩ D
  show XB _ [.own (cloR f Bc), .no, .no] _ _
  refine xb_asg 1 xe_non ?_ sc_law_kraised.nd
  refine xb_tryErr (i := 2) (ir := 0) (M := fun δ' => ∃ a dd, δ' = [.own (cloR f Bc), .dat (.tuple [.str "many", y]), .own (errR K a dd "thing" y)]) R D hr rfl (.cons (ts := noTs) ⟨rfl, by decide, .inl Er.m_BadText⟩ (fun _ _ _ _ _ _ _ => pss_no) (.cons (ts := noTs) ⟨rfl, by decide, .inl Er.m_BadPattern⟩ (fun _ _ _ _ _ _ _ => pss_no) (.cons (ts := noTs) ⟨rfl, by decide, .inl Er.m_BadProgram⟩ (fun _ _ _ _ _ _ _ => pss_no) (.cons (ts := noTs) ⟨rfl, by decide, .inl Er.m_BadSigns⟩ (fun _ _ _ _ _ _ _ => pss_no) (.cons (ts := noTs) ⟨rfl, by decide, .inl Er.m_BadTable⟩ (fun _ _ _ _ _ _ _ => pss_no) (.cons (ts := noTs) ⟨rfl, by decide, .inl Er.m_BadWord⟩ (fun _ _ _ _ _ _ _ => pss_no) (.cons (ts := noTs) ⟨rfl, by decide, .inl Er.m_BadName⟩ (fun _ _ _ _ _ _ _ => pss_no) (.cons (ts := noTs) ⟨rfl, by decide, .inl Er.m_BadOther⟩ (fun _ _ _ _ _ _ _ => pss_no) (.cons ⟨rfl, by decide, .inl Er.m_BadMany⟩ (clause_ts ?cl) (.cons (ts := noTs) ⟨rfl, by decide, .inl Er.m_BadLength⟩ (fun _ _ _ _ _ _ _ => pss_no) (.cons (ts := noTs) ⟨rfl, by decide, .inl Er.m_NoKind⟩ (fun _ _ _ _ _ _ _ => pss_no) (.cons (ts := noTs) ⟨rfl, by decide, .inl Er.m_BadSet⟩ (fun _ _ _ _ _ _ _ => pss_no) (.cons (ts := noTs) ⟨rfl, by decide, .inl Er.m_BadNumber⟩ (fun _ _ _ _ _ _ _ => pss_no) (.cons (ts := noTs) ⟨rfl, by decide, .inl Er.m_BadListed⟩ (fun _ _ _ _ _ _ _ => pss_no) (.cons (ts := noTs) ⟨rfl, by decide, .inl Er.m_BadBy⟩ (fun _ _ _ _ _ _ _ => pss_no) (.cons (ts := noTs) ⟨rfl, by decide, .inl Er.m_TooMany⟩ (fun _ _ _ _ _ _ _ => pss_no) .nil)))))))))))))))) (.there Er.e_BadMany_BadText (.there Er.e_BadMany_BadPattern (.there Er.e_BadMany_BadProgram (.there Er.e_BadMany_BadSigns (.there Er.e_BadMany_BadTable (.there Er.e_BadMany_BadWord (.there Er.e_BadMany_BadName (.there Er.e_BadMany_BadOther (.here Er.e_BadMany_BadMany))))))))) (by exact Nat.le_of_ble_eq_true rfl) (fun δ' h => ?_) sc_law_kraised.nd rfl rfl takesN
  case cl =>
    intro a oe dd pn hz hf
    exact xb_asg 1 (xe_tup (xa_cons xe_str (xa_cons (xe_xf 2 Er.o_BadMany.xc Er.o_BadMany.no hz hf rfl) xa_nil))) (xb_nil ⟨a, dd, rfl⟩) sc_law_kraised.nd
  obtain ⟨a, dd, rfl⟩ := h
  exact ⟨_, rfl, xb_ret (xe_var 1) rfl⟩
end
end K13

set_option Elab.async false
set_option linter.all false
set_option maxRecDepth 100000
set_option maxHeartbeats 4000000
namespace K13
open PySem PySem.Spec PyProof.Rows L2 Dl Sm
section
variable {P : Program} {w : World} {K : PySem.W.Frag} {mg : Str → Option Value} {base : Heap} {fs : List Addr} {s0 : Shared} {H0 : Hp} {kl : Nat} {f : Addr} {Bc : Hp}
theorem c_krefuses (T : Txt K mg) {kd : Str} {y : PyData} (hy : Dl.TreeD 3 y) (hk : 4 ≤ kl) (kr : DefC P w K mg base fs s0 H0 (kl + 1) "_law_kraised" ["run"] (SpC K [.own (cloR f Bc)] (.tuple [.str kd, y]))) : DefC P w K mg base fs s0 H0 (kl + 2) "_law_krefuses" ["kind", "thing", "run"] (SpC K [.dat (.str kd), .dat y, .own (cloR f Bc)] (.bool true)) := by
  refine def_clo T.a_law_krefuses sc_law_krefuses rfl ?_
  rintro _ ⟨fa, cdv, A, outer, s, H, E, hr, rfl⟩ D
  have hu := room65 hr
  show XB _ [.dat (.str kd), .dat y, .own (cloR f Bc), .no] _ _
  refine xb_asg 3 (xe_callC kr D hr (xas_clo 2 rfl xas_nil)) ?_ sc_law_krefuses.nd
  show XB _ [.dat (.str kd), .dat y, .own (cloR f Bc), .dat (.tuple [.str kd, y])] _ _
  have i0 : IxD (.tuple [.str kd, y]) 0 (.str kd) := .tup rfl
  have i1 : IxD (.tuple [.str kd, y]) 1 y := .tup rfl
  refine xb_ret (xe_and (xe_cmp hu (xe_var 3) xe_non (.notN _ _ rfl)) (fun _ => (xe_and (xe_cmp hu (xe_ix (xe_var 3) xe_int i0) (xe_var 0) (.eqS _ _)) (fun _ => (xe_one (xe_call (c_law_same T 3) (hr.mono (by omega)) (xa_cons (xe_ix (xe_var 3) xe_int i1) (xa_cons (xe_var 1) xa_nil)) ⟨y, rfl, hy, rfl⟩)))))) ?_
  show PyData.bool (true && (decide (kd = kd) && true)) = .bool true
  rw [decide_eq_true rfl]
  rfl
end
end K13

set_option Elab.async false
set_option linter.all false
set_option maxRecDepth 100000
set_option maxHeartbeats 4000000
namespace K13
open PySem PySem.Spec PyProof.Rows L2 Dl Sm
section
variable {P : Program} {w : World} {K : PySem.W.Frag} {mg : Str → Option Value} {base : Heap}
theorem ty_rp {H : Hp} {v : V} {d : PyData} (r : Rp K H v d) : TyX K H v (.type (tyD d)) := ty_of (Same.refl H) r
theorem spoilt_step (T : Txt K mg) (n : Nat) (rec : ∀ m, n = m + 1 → Def P w K mg base n "_law_spoilt" ["thing"] (SpSpoil m)) : Def P w K mg base (n + 1) "_law_spoilt" ["thing"] (SpSpoil n) := by
  obtain ⟨fa, fd, h1, h2, h3⟩ := T.a_law_spoilt.ex
  refine ⟨fa, fd, h1, h2.kp, h3, h2.ok sc_law_spoilt (fun vs H Q E h => ?_) (fun cdv A outer s H vs Q E hr h => ?_)⟩
  · obtain ⟨v, fp, rfl, _⟩ := h
    rfl
  obtain ⟨v, fp, rfl, ho, q⟩ := h
  have atom : AtomV v → fp = [] → ∃ t, PSs (cxOf CX0 P w K mg base ["thing", "key", "part"] "_law_spoilt" (defScope s_law_spoilt) fa cdv A outer s H E).nox (defBody s_law_spoilt) t ∧ t { nx := fun _ H' => Q .non H', rt := Q } (L2.start ["thing", "key", "part"] [v]) H := fun hv hf => by
    refine ⟨_, pss_cons (ps_isi 0 T.g_isinstance T.g_dict boot_dict pss_never pss_nil) (pss_cons (ps_isi2 0 T.g_isinstance T.g_list boot_list T.g_tuple boot_tuple pss_never pss_nil) (pss_cons (ps_isi 0 T.g_isinstance T.g_list boot_list pss_never pss_nil) pss_nil)), ?_⟩
    obtain ⟨d, r, e1, e2, e3⟩ := tyAtom (K := K) (H := H) hv
    refine ⟨v, _, false, rfl, ty_rp r, by rw [kit_dict, e2], fun z => (nomatch z), fun _ => ?_⟩
    refine ⟨v, _, false, rfl, by rw [kit_row d, e1], fun H2 sm => ⟨ty_rp (r.mono sm), fun z => (nomatch z), fun _ => ?_⟩⟩
    refine ⟨v, _, false, rfl, ty_rp (r.mono sm), by rw [kit_list, e3], fun z => (nomatch z), fun _ => ?_⟩
    refine q H2 fun b o hb => ?_
    rw [hf, sm b o hb]
    unfold spH
    rw [if_neg (by intro z; cases z), hb]
  cases n with
  | zero => exact atom ho.1 ho.2
  | succ m =>
    rcases ho with ho | ⟨a, xs, g, rfl, ha, hz, hg, rfl, hnd⟩
    · exact atom ho.1 ho.2
    obtain ⟨fa2, fd2, k1, k2, k3, k4⟩ := (rec m rfl).ex
    have hna : a ∉ g := (List.nodup_cons.mp hnd).1
    have hgd : g.Nodup := (List.nodup_cons.mp hnd).2
    have hgs : ∀ b ∈ g, ∃ o, H b = some o := hg.some fun v f hv => hv.some
    refine ⟨_, pss_cons (ps_isi 0 T.g_isinstance T.g_dict boot_dict pss_never pss_nil) (pss_cons (ps_isi2 0 T.g_isinstance T.g_list boot_list T.g_tuple boot_tuple
      (pss_cons (ps_for (PassesOwn.never) rfl (pi_list (pe_var (i := 0) rfl (Or.inl rfl))) (pg_name (i := 2) sc_law_spoilt.nd rfl (Or.inl rfl)) (pss_cons (ps_expr (pe_call k4 (hr.mono (by omega)) rfl k1 k2 k3 .nil pass0 (pa_cons (pe_var (i := 2) rfl (Or.inl rfl)) pa_nil))) pss_nil)) pss_nil) pss_nil)
      (pss_cons (ps_isi 0 T.g_isinstance T.g_list boot_list (pss_cons (ps_expr (pe_bm PySem.F.plainAttrs_list PySem.F.slot_list_append PySem.F.type_list_append mt_append (pe_var (i := 0) rfl (Or.inl rfl)) (pa_cons pe_str pa_nil))) pss_nil) pss_nil) pss_nil)), ?_⟩
    refine ⟨.ref a, "list", false, rfl, .base (.lst ha), kit_dict (.list []), fun z => (nomatch z), fun _ => ?_⟩
    refine ⟨.ref a, "list", true, rfl, kit_row (.list []), fun H2 sm => ⟨.base (.lst (sm _ _ ha)), fun _ => ?_, fun z => (nomatch z)⟩⟩
    refine ⟨.ref a, rfl, a, rfl, ⟨xs, SqL.of (sm _ _ ha)⟩, ?_⟩
    refine for_list (K := K) (a := a) (xs := xs) (fun i σ Hi => σ[0]? = some (some (.ref a)) ∧ σ.length = 3 ∧ ∃ g1 g2, g = g1 ++ g2 ∧ OwL (OwT m H) (xs.drop i) g2 ∧ ∀ b o, H b = some o → Hi b = spH g1 H b) ⟨rfl, rfl, [], g, rfl, hg, fun b o hb => ?_⟩ (fun i σ Hi _ ⟨_, _, g1, g2, eg, _, hh⟩ => ?_) (fun i x σ Hi hx ⟨e0, el, g1, g2, eg, hg2, hh⟩ => ?_) (fun σ Hi ⟨e0, el, g1, g2, eg, hg2, hh⟩ => ?_)
    · rw [sm b o hb]
      unfold spH
      rw [if_neg (by intro z; cases z), hb]
    · refine SqL.of ?_
      rw [hh a _ ha]
      unfold spH
      rw [if_neg (fun z => hna (by rw [eg]; exact List.mem_append_left _ z)), ha]
    · have hi : i < xs.length := (List.getElem?_eq_some_iff.mp hx).1
      have ex : xs[i] = x := (List.getElem?_eq_some_iff.mp hx).2
      rw [List.drop_eq_getElem_cons hi, ex] at hg2
      cases hg2 with
      | @cons _ _ f g3 hxf hg3 =>
        subst eg
        have hdis : ∀ b ∈ f, b ∉ g1 := fun b hb hb1 => by
          rw [List.nodup_append] at hgd
          exact hgd.2.2 b hb1 b (List.mem_append_left _ hb) rfl
        have hloc : ∀ b ∈ f, Hi b = H b := fun b hb => by
          obtain ⟨o, ho⟩ := hgs b (List.mem_append_right _ (List.mem_append_left _ hb))
          rw [hh b o ho]
          unfold spH
          rw [if_neg (hdis b hb)]
        refine ⟨x, by rw [List.getElem?_set_self (by omega)], x, f, rfl, hxf.loc hloc, fun H3 h3 => ?_⟩
        refine ⟨by rw [List.getElem?_set_ne (by decide)]; exact e0, by rw [List.length_set]; exact el, g1 ++ f, g3, by rw [List.append_assoc], hg3, fun b o hb => ?_⟩
        obtain ⟨o1, ho1⟩ := spH_some (fp := g1) hb
        rw [h3 b o1 ((hh b o hb).trans ho1)]
        unfold spH
        by_cases hbf : b ∈ f
        · rw [if_pos hbf, if_pos (List.mem_append_right _ hbf), hloc b hbf]
        · rw [if_neg hbf, hh b o hb]
          unfold spH
          by_cases hb1 : b ∈ g1
          · rw [if_pos hb1, if_pos (List.mem_append_left _ hb1)]
          · rw [if_neg hb1, if_neg (fun z => (List.mem_append.mp z).elim hb1 hbf)]
    · have e2 : g2 = [] := by
        rw [List.drop_eq_nil_of_le (Nat.le_refl _)] at hg2
        cases hg2
        rfl
      subst e2
      rw [List.append_nil] at eg
      subst eg
      have hia : Hi a = some (.lst xs) := by
        rw [hh a _ ha]
        unfold spH
        rw [if_neg hna, ha]
      refine ⟨.ref a, "list", true, e0, .base (.lst hia), kit_list (.list []), fun _ => ?_, fun z => (nomatch z)⟩
      refine ⟨.ref a, e0, .inl ⟨rfl, xs, SqL.of hia⟩, a, xs, _, rfl, rfl, hia, Nat.lt_of_lt_of_le hz (sz_of (Nat.le_refl _)), ?_⟩
      refine q _ fun b o hb => ?_
      unfold spH
      by_cases hba : b = a
      · subst hba
        rw [upd_same, if_pos List.mem_cons_self, ha]
        rfl
      · rw [upd_ne hba, hh b o hb]
        unfold spH
        by_cases hbg : b ∈ g
        · rw [if_pos hbg, if_pos (List.mem_cons_of_mem _ hbg)]
        · rw [if_neg hbg, if_neg (fun z => (List.mem_cons.mp z).elim hba hbg)]
theorem c_law_spoilt (T : Txt K mg) : ∀ m, Def P w K mg base (m + 1) "_law_spoilt" ["thing"] (SpSpoil m)
  | 0 => spoilt_step T 0 fun _ h => by omega
  | m + 1 => spoilt_step T (m + 1) fun m' h => by
    obtain rfl : m = m' := by omega
    exact c_law_spoilt T m
end
end K13

set_option Elab.async false
set_option linter.all false
set_option maxRecDepth 100000
set_option maxHeartbeats 4000000
namespace K13
open PySem PySem.Spec PyProof.Rows L2 Dl Sm
section
variable {P : Program} {w : World} {K : PySem.W.Frag} {mg : Str → Option Value} {base : Heap}
theorem once_step (T : Txt K mg) (n : Nat) (hn : n ≤ 64) (rec : ∀ m, n = m + 1 → Def P w K mg base n "_law_is_once" ["thing"] (SpP K (F_once m))) : Def P w K mg base (n + 1) "_law_is_once" ["thing"] (SpP K (F_once n)) := by
  refine def_pure T.a_law_is_once sc_law_is_once (fun ds d h => ?_) ?_
  · obtain ⟨x, rfl, _⟩ := h
    rfl
  rintro _ ⟨fa, cdv, A, outer, s, H, E, hr, rfl⟩ _ _ ⟨x, rfl, hx, rfl⟩
  have hu := room65 hr
  show XB _ [.dat _, .no, .no, .no] _ _
  have hdict : isDictD x = false := by cases hx <;> rfl
  have atom : isRowD x = false → XB (cxOf CX0 P w K mg base ["thing", "many", "key", "part"] "_law_is_once" (defScope s_law_is_once) fa cdv A outer s H E).nox [.dat x, .no, .no, .no] (defBody s_law_is_once) { nx := fun _ => PyData.bool true = .none, rt := fun d' _ => d' = .bool true } := fun hrow => by
    refine xb_ifR (k := false) (xt_eq (xt_tru (xe_isi T.g_isinstance (xe_var 0) T.g_dict boot_dict (kit_dict _))) hdict) (fun h => (nomatch h)) (fun _ => ?_)
    refine xb_ifR (k := false) (xt_eq (xt_tru (xe_isi2 T.g_isinstance (xe_var 0) T.g_list boot_list T.g_tuple boot_tuple (kit_row _))) hrow) (fun h => (nomatch h)) (fun _ => ?_)
    exact xb_ret xe_bl rfl
  cases id hx with
  | non => exact atom rfl
  | bl => exact atom rfl
  | int => exact atom rfl
  | late => exact atom rfl
  | @lst m ds hz h h2 =>
    refine xb_ifR (k := false) (xt_eq (xt_tru (xe_isi T.g_isinstance (xe_var 0) T.g_dict boot_dict (kit_dict _))) rfl) (fun h => (nomatch h)) (fun _ => ?_)
    refine xb_ifR (k := true) (xt_eq (xt_tru (xe_isi2 T.g_isinstance (xe_var 0) T.g_list boot_list T.g_tuple boot_tuple (kit_row _))) rfl) (fun _ => ?_) (fun h => (nomatch h))
    refine xb_asg 1 (xe_intB T.g_int (xe_isi T.g_isinstance (xe_var 0) T.g_list boot_list (kit_list _))) ?_ sc_law_is_once.nd
    refine xb_ret (xe_and (k := true) (m := true) (xe_eq (xe_cmp hu (xe_count (d2 := PyData.str "LATE") hu (xe_new (xn_listOf T.g_list (xe_var 0) (.lst _))) xe_str (hx.shaped hn) ((OnceD.late 0).shaped (by decide))) (xe_var 1) (.eqI _ _)) ?_) (fun _ => xe_one (xe_eq (xe_all (ns := (ds ++ [PyData.str "LATE"]).map fun _ => true) T.g_all (xe_eq (xe_new (xl_lc (l := ds ++ [PyData.str "LATE"]) (f := fun y => y) 3 (fun _ => .bool true) sc_law_is_once.nd (by rw [map_id']; exact xi_list (xe_var 0)) (fun _ _ _ _ _ d hd => xe_call (rec m rfl) (hr.mono (by omega)) (xa_cons (xe_var 3) xa_nil) ⟨d, rfl, ?_, rfl⟩) (by rw [List.length_append]; show ds.length + 1 ≤ 1000000; omega)).val) ?_)) ?_))) rfl
    · rw [late_count h h2]
      rfl
    · rw [List.map_map]
      rfl
    · congr 1
      rw [List.all_eq_true]
      intro z hz
      obtain ⟨_, _, rfl⟩ := List.mem_map.mp hz
      rfl
    · rcases List.mem_append.mp hd with q | q
      · exact h d q
      · rw [List.mem_singleton.mp q]
        exact .late _
theorem c_law_is_once (T : Txt K mg) : ∀ m, m ≤ 64 → Def P w K mg base (m + 1) "_law_is_once" ["thing"] (SpP K (F_once m))
  | 0, hm => once_step T 0 hm fun _ h => by omega
  | m + 1, hm => once_step T (m + 1) hm fun m' h => by
    obtain rfl : m = m' := by omega
    exact c_law_is_once T m (by omega)
theorem c_law_apart (T : Txt K mg) (n : Nat) (hn : n ≤ 64) : Def P w K mg base (n + 2) "_law_apart" ["thing"] (SpApart n) := by
  obtain ⟨fa, fd, h1, h2, h3⟩ := T.a_law_apart.ex
  obtain ⟨fa2, fd2, k1, k2, k3, k4⟩ := (c_law_spoilt (P := P) (w := w) (base := base) T n).ex
  obtain ⟨fa3, fd3, l1, l2, l3, l4⟩ := (c_law_is_once (P := P) (w := w) (base := base) T n hn).ex
  refine ⟨fa, fd, h1, h2.kp, h3, h2.ok sc_law_apart (fun vs H Q E h => ?_) (fun cdv A outer s H vs Q E hr h => ?_)⟩
  · obtain ⟨v, fp, rfl, _⟩ := h
    rfl
  obtain ⟨v, fp, rfl, ho, q⟩ := h
  refine ⟨_, pss_cons (ps_expr (pe_call k4 hr rfl k1 k2 k3 .nil pass0 (pa_cons (pe_var (i := 0) rfl (Or.inl rfl)) pa_nil))) (pss_cons (ps_ret (pe_call l4 hr rfl l1 l2 l3 .nil pass0 (pa_cons (pe_var (i := 0) rfl (Or.inl rfl)) pa_nil))) pss_nil), ?_⟩
  refine ⟨v, rfl, v, fp, rfl, ho, fun H2 e2 => ?_⟩
  obtain ⟨d, rd, od, _⟩ := ho.once (K := K) (H2 := H2) fun b hb => by
    obtain ⟨o, hbo⟩ := ho.some b hb
    rw [e2 b o hbo]
    unfold spH
    rw [if_pos hb]
  refine ⟨v, rfl, H2, [d], .bool true, Same.refl _, .cons rd .nil, ⟨d, rfl, od, rfl⟩, fun u B2 H3 g3 r3 => ?_⟩
  cases r3
  refine q H3 (fun b o hb hnb => g3.hh _ _ ?_) fun b o hb => ?_
  · rw [e2 b o hb]
    unfold spH
    rw [if_neg hnb, hb]
  · obtain ⟨o', ho'⟩ := spH_some (fp := fp) hb
    exact ⟨o', g3.hh _ _ ((e2 b o hb).trans ho')⟩
end
end K13

set_option Elab.async false
set_option linter.all false
set_option maxRecDepth 100000
set_option maxHeartbeats 4000000
namespace K13
open PySem PySem.Spec PyProof.Rows L2 Dl Sm
def F_least_set (ds : List PyData) (d : PyData) : Prop := ∃ x s, ds = [x] ∧ St x s ∧ Sz s ∧ d = encT (lst s)
def FF_least (ds : List PyData) (l1 l2 : List Bool) : Prop := ∃ x s, ds = [x] ∧ St x s ∧ Sz s ∧ l1 = (lst s).1 ∧ l2 = (lst s).2
def F_is_set (ds : List PyData) (d : PyData) : Prop := ∃ x, ds = [x] ∧ ((∃ s, St x s ∧ Sz s ∧ d = .bool true) ∨ (NoSet x ∧ d = .bool false))
def FN_below (ds : List PyData) (ns : List Int) : Prop := ∃ x s, ∃ n : Nat, ds = [x, .int (n : Nat)] ∧ St x s ∧ Sz s ∧ n ≤ 200 ∧ ns = ((List.range n).filter (inS (lst s))).map fun n : Nat => (n : Int)
inductive E_has (ca : CA) : List PyData → Addr → Str → PyData → Prop
  | set {x z : PyData} (h : NoSet x) : E_has ca [x, z] ca.BadSet "thing" x
  | num {x z : PyData} {s : S} (h : St x s) (h1 : Sz s) (h2 : NoNum 0 (10 ^ 18) z) : E_has ca [x, z] ca.BadNumber "thing" z
inductive E_below (ca : CA) : List PyData → Addr → Str → PyData → Prop
  | set {x z : PyData} (h : NoSet x) : E_below ca [x, z] ca.BadSet "thing" x
  | many {x z : PyData} {s : S} (h : St x s) (h1 : Sz s) (h2 : NoNum 0 200 z) : E_below ca [x, z] ca.BadMany "thing" z
def numB (a b : Int) : PyData → Bool
  | .int i => decide (a ≤ i) && decide (i ≤ b)
  | _ => false
def G_is_number (ds : List PyData) (d : PyData) : Prop := ∃ x, ∃ a b : Int, ds = [x, .int a, .int b] ∧ d = .bool (numB a b x)
/-- what is no list of numbers below sixty -/
inductive NoListed : PyData → Prop
  | row {x : PyData} (h : isRowD x = false) : NoListed x
  | odd {x : PyData} {l : List PyData} (h : SeqD x l) (h1 : l.length ≤ 1000000) (h2 : l.filter (fun y => !numB 0 59 y) ≠ []) : NoListed x
def E_set_of (ca : CA) (ds : List PyData) (C : Addr) (fld : Str) (y : PyData) : Prop := ∃ x, ds = [x] ∧ NoListed x ∧ C = ca.BadListed ∧ fld = "thing" ∧ y = x
inductive Ns : PyData → List Nat → Prop
  | lst (l : List Nat) : Ns (encN l) l
  | tup (l : List Nat) : Ns (.tuple (l.map fun n : Nat => .int (n : Nat))) l
theorem Ns.seq {x : PyData} {l : List Nat} (h : Ns x l) : SeqD x (l.map fun n : Nat => .int (n : Nat)) := by
  cases h with
  | lst => exact .lst _
  | tup => exact .tup _
theorem Ns.row {x : PyData} {l : List Nat} (h : Ns x l) : isRowD x = true := by cases h <;> rfl
def G_set_of (ds : List PyData) (d : PyData) : Prop := ∃ x l, ds = [x] ∧ Ns x l ∧ l.length ≤ 1000 ∧ (∀ n ∈ l, n < 60) ∧ d = encT (setOf l)
theorem shaped_natsT (l : List Nat) : SeqAt.shaped (.tuple (l.map fun n : Nat => .int (n : Nat))) = true := by
  have h := shaped_nats l
  unfold SeqAt.shaped at *
  simpa [PyData.canLay0, PyData.depth] using h
theorem pow18 : (10 : Int) ^ (18 : Int).toNat = 10 ^ 18 := rfl
section
variable (P : Program) (w : World) (base : Heap) {K : PySem.W.Frag} {mg : Str → Option Value} {ca : CA}
theorem err_BadNumber (Er : Err K mg ca) : ErrC P w K mg base "BadNumber" ca.BadNumber "thing" := errC Er.o_BadNumber Er.m_BadNumber sci_BadNumber rfl fun X ⟨fa, cdv, A, outer, s, H, E, hX⟩ => by
  subst hX
  exact pss_one (ps_ost (pe_var (i := 0) rfl (Or.inl rfl)) (pe_var (i := 1) rfl (Or.inl rfl)))
theorem err_BadMany (Er : Err K mg ca) : ErrC P w K mg base "BadMany" ca.BadMany "thing" := errC Er.o_BadMany Er.m_BadMany sci_BadMany rfl fun X ⟨fa, cdv, A, outer, s, H, E, hX⟩ => by
  subst hX
  exact pss_one (ps_ost (pe_var (i := 0) rfl (Or.inl rfl)) (pe_var (i := 1) rfl (Or.inl rfl)))
theorem err_BadListed (Er : Err K mg ca) : ErrC P w K mg base "BadListed" ca.BadListed "thing" := errC Er.o_BadListed Er.m_BadListed sci_BadListed rfl fun X ⟨fa, cdv, A, outer, s, H, E, hX⟩ => by
  subst hX
  exact pss_one (ps_ost (pe_var (i := 0) rfl (Or.inl rfl)) (pe_var (i := 1) rfl (Or.inl rfl)))
end
section
variable {P : Program} {w : World} {K : PySem.W.Frag} {mg : Str → Option Value} {base : Heap} {ca : CA}
theorem c_least_set (T : Txt K mg) (c_set_in : Def P w K mg base 3 "set_in" ["thing"] (SpP K F_set_in)) (c_told_set : Def P w K mg base 1 "told_set" ["plain"] (SpP K F_told_set)) : Def P w K mg base 4 "least_set" ["thing"] (SpP K F_least_set) := by
  refine def_pure T.a_least_set sc_least_set (fun ds d h => ?_) ?_
  · obtain ⟨x, s, rfl, _⟩ := h
    rfl
  rintro _ ⟨fa, cdv, A, outer, s_, H, E, hr, rfl⟩ _ _ ⟨x, s, rfl, hx, hz, rfl⟩
  have hu := room65 hr
  show XB _ [.dat _, .no] _ _
  refine xb_asg 1 (xe_call c_set_in (hr.mono (by decide)) (xa_cons (xe_var 0) xa_nil) ⟨_, _, rfl, hx, hz, rfl⟩) ?_ sc_least_set.nd
  refine xb_ifR (k := false) (xt_eq (xt_cmp hu (xe_var 1) xe_non (.isN _ _ rfl)) rfl) (fun h => nomatch h) (fun _ => ?_)
  exact xb_ret (xe_call c_told_set (hr.mono (by decide)) (xa_cons (xe_var 1) xa_nil) ⟨_, rfl, hz.lst.1, hz.lst.2.1, rfl⟩) rfl
theorem fk_least_set (T : Txt K mg) (c_set_in : Def P w K mg base 3 "set_in" ["thing"] (SpP K F_set_in)) (f_told_set : Def P w K mg base 1 "told_set" ["plain"] (SpF K FF_told_set)) : Def P w K mg base 4 "least_set" ["thing"] (SpF K FF_least) ∧ DefK P w K mg base 4 "least_set" s_least_set ["thing"] (SpF K FF_least) := by
  refine def_freshK T.a_least_set sc_least_set (fun ds l1 l2 h => ?_) ?_
  · obtain ⟨x, s, rfl, _⟩ := h
    rfl
  rintro _ ⟨fa, cdv, A, outer, s_, H, E, hr, rfl⟩ g _ _ _ ⟨x, s, rfl, hx, hz, rfl, rfl⟩
  have hu := room65 hr
  show XB _ [.dat _, .no] _ _
  refine xb_asg 1 (xe_call c_set_in (hr.mono (by decide)) (xa_cons (xe_var 0) xa_nil) ⟨_, _, rfl, hx, hz, rfl⟩) ?_ sc_least_set.nd
  refine xb_ifR (k := false) (xt_eq (xt_cmp hu (xe_var 1) xe_non (.isN _ _ rfl)) rfl) (fun h => nomatch h) (fun _ => ?_)
  exact xb_retNew f_told_set (hr.mono (by decide)) (xa_cons (xe_var 1) xa_nil) ⟨_, rfl, ⟨hz.lst.1, hz.lst.2.1⟩, rfl, rfl⟩ rfl
theorem f_least_set (T : Txt K mg) (c_set_in : Def P w K mg base 3 "set_in" ["thing"] (SpP K F_set_in)) (f_told_set : Def P w K mg base 1 "told_set" ["plain"] (SpF K FF_told_set)) : Def P w K mg base 4 "least_set" ["thing"] (SpF K FF_least) := (fk_least_set T c_set_in f_told_set).1
theorem k_least_set (T : Txt K mg) (c_set_in : Def P w K mg base 3 "set_in" ["thing"] (SpP K F_set_in)) (f_told_set : Def P w K mg base 1 "told_set" ["plain"] (SpF K FF_told_set)) : DefK P w K mg base 4 "least_set" s_least_set ["thing"] (SpF K FF_least) := (fk_least_set T c_set_in f_told_set).2
theorem r_least_set (T : Txt K mg) (Er : Err K mg ca) (n_set_in : Def P w K mg base 3 "set_in" ["thing"] (SpP K N_set_in)) : DefX P w K mg base 4 "least_set" ["thing"] (SpE K (E_need_set ca)) := by
  refine def_raise T.a_least_set sc_least_set (fun ds C fld y h => ?_) ?_
  · obtain ⟨x, rfl, _⟩ := h
    rfl
  rintro _ ⟨fa, cdv, A, outer, s, H, E, hr, rfl⟩ g _ _ _ _ ⟨x, rfl, hx, rfl, rfl, rfl⟩ hw
  have hu := room65 hr
  show XB _ [.dat _, .no] _ _
  refine xb_asg 1 (xe_call n_set_in (hr.mono (by decide)) (xa_cons (xe_var 0) xa_nil) ⟨_, rfl, hx, rfl⟩) ?_ sc_least_set.nd
  refine xb_ifR (k := true) (xt_eq (xt_cmp hu (xe_var 1) xe_non (.isN _ _ rfl)) rfl) (fun _ => ?_) (fun h => (nomatch h))
  exact xb_raise (err_BadSet P w base Er) (xe_var 0) hw (hr.mono (by decide))
theorem k_is_set (T : Txt K mg) (c_set_in : Def P w K mg base 3 "set_in" ["thing"] (SpP K F_set_in)) (n_set_in : Def P w K mg base 3 "set_in" ["thing"] (SpP K N_set_in)) : DefK P w K mg base 4 "is_set" s_is_set ["thing"] (SpP K F_is_set) := by
  refine def_pureK T.a_is_set sc_is_set (fun ds d h => ?_) ?_
  · obtain ⟨x, rfl, _⟩ := h
    rfl
  rintro _ ⟨fa, cdv, A, outer, s_, H, E, hr, rfl⟩ _ _ ⟨x, rfl, h⟩
  have hu := room65 hr
  show XB _ [.dat _] _ _
  rcases h with ⟨s, hx, hz, rfl⟩ | ⟨hx, rfl⟩
  · exact xb_ret (xe_cmp hu (xe_call c_set_in (hr.mono (by decide)) (xa_cons (xe_var 0) xa_nil) ⟨_, _, rfl, hx, hz, rfl⟩) xe_non (.notN _ _ rfl)) rfl
  · exact xb_ret (xe_cmp hu (xe_call n_set_in (hr.mono (by decide)) (xa_cons (xe_var 0) xa_nil) ⟨_, rfl, hx, rfl⟩) xe_non (.notN _ _ rfl)) rfl
theorem c_is_set (T : Txt K mg) (k_is_set : DefK P w K mg base 4 "is_set" s_is_set ["thing"] (SpP K F_is_set)) : Def P w K mg base 4 "is_set" ["thing"] (SpP K F_is_set) := k_is_set.def_ T.a_is_set
theorem g_is_number (T : Txt K mg) : Def P w K mg base 1 "is_number" ["thing", "low", "high"] (SpP K G_is_number) := by
  refine def_pure T.a_is_number sc_is_number (fun ds d h => ?_) ?_
  · obtain ⟨x, a, b, rfl, _⟩ := h
    rfl
  rintro _ ⟨fa, cdv, A, outer, s, H, E, hr, rfl⟩ _ _ ⟨x, a, b, rfl, rfl⟩
  have hu := room65 hr
  show XB _ [.dat _, .dat _, .dat _] _ _
  cases x with
  | int i => exact xb_ret (xe_and (xe_isi T.g_isinstance (xe_var 0) T.g_int boot_int (kit_int _)) (fun _ => (xe_and (xe_not (xe_isi T.g_isinstance (xe_var 0) T.g_bool boot_bool (kit_bool _))) (fun _ => (xe_one (xe_chain hu (xe_var 1) (xe_var 0) (xe_var 2) (.leI _ _) (fun _ => (.leI _ _)))))))) rfl
  | bool b => exact xb_ret (xe_and (xe_isi T.g_isinstance (xe_var 0) T.g_int boot_int (kit_int _)) (fun _ => (xe_and (k := false) (m := true) (xe_eq (xe_not (xe_isi T.g_isinstance (xe_var 0) T.g_bool boot_bool (kit_bool _))) rfl) (fun z => (nomatch z))))) rfl
  | _ => exact xb_ret (xe_eq (xe_and (k := false) (m := true) (xe_eq (xe_isi T.g_isinstance (xe_var 0) T.g_int boot_int (kit_int _)) rfl) (fun z => (nomatch z))) rfl) rfl
theorem fk_numbers_below (T : Txt K mg) (c_in_set : Def P w K mg base 1 "in_set" ["plain", "number"] (SpP K F_in_set)) (c_is_number : Def P w K mg base 1 "is_number" ["thing", "low", "high"] (SpP K F_is_number)) (c_need_set : Def P w K mg base 4 "need_set" ["numbers"] (SpP K F_set_in)) : Def P w K mg base 5 "numbers_below" ["numbers", "many"] (SpN K FN_below) ∧ DefK P w K mg base 5 "numbers_below" s_numbers_below ["numbers", "many"] (SpN K FN_below) := by
  refine def_freshNK T.a_numbers_below sc_numbers_below (fun ds d h => ?_) ?_
  · obtain ⟨x, s, n, rfl, _⟩ := h
    rfl
  rintro _ ⟨fa, cdv, A, outer, s_, H, E, hr, rfl⟩ g _ _ ⟨x, s, n, rfl, hx, hz, hn, rfl⟩
  show XB _ [.dat _, .dat _, .no, .no] _ _
  refine xb_asg 2 (xe_call c_need_set (hr.mono (by decide)) (xa_cons (xe_var 0) xa_nil) ⟨_, _, rfl, hx, hz, rfl⟩) ?_ sc_numbers_below.nd
  refine xb_ifR (k := false) (xt_eq (xt_not (xt_tru (xe_call c_is_number (hr.mono (by decide)) (xa_cons (xe_var 1) (xa_cons xe_int (xa_cons xe_int xa_nil))) ⟨_, _, _, rfl, rfl⟩))) ?_) (fun h => nomatch h) (fun _ => ?_)
  · show (!(decide ((0 : Int) ≤ (n : Int)) && decide ((n : Int) ≤ 200))) = false
    rw [decide_eq_true (show (n : Int) ≤ 200 by omega), decide_eq_true (Int.natCast_nonneg n)]
    rfl
  refine xb_retL (xn_eq (xl_lcIf 3 (fun n : Nat => PyData.int (0 + (n : Nat))) (inS (lst s)) sc_numbers_below.nd (xi_rng1 T.g_range (xe_var 1) (by omega)) (fun _ _ _ _ _ d hd => (xt_eq (xt_tru (xe_call c_in_set (hr.mono (by decide)) (xa_cons (xe_var 2) (xa_cons (xe_var 3) xa_nil)) ⟨lst s, d, by rw [Int.zero_add], hz.lst.2.2, rfl⟩)) rfl)) (fun _ _ _ _ _ d hd ht => (xe_var 3)) (by rw [List.length_range]; omega)).val ?_) rfl
  rw [Int.toNat_natCast, List.map_map]
  exact List.map_congr_left fun a _ => by rw [Int.zero_add]; rfl
theorem f_numbers_below (T : Txt K mg) (c_in_set : Def P w K mg base 1 "in_set" ["plain", "number"] (SpP K F_in_set)) (c_is_number : Def P w K mg base 1 "is_number" ["thing", "low", "high"] (SpP K F_is_number)) (c_need_set : Def P w K mg base 4 "need_set" ["numbers"] (SpP K F_set_in)) : Def P w K mg base 5 "numbers_below" ["numbers", "many"] (SpN K FN_below) := (fk_numbers_below T c_in_set c_is_number c_need_set).1
theorem k_numbers_below (T : Txt K mg) (c_in_set : Def P w K mg base 1 "in_set" ["plain", "number"] (SpP K F_in_set)) (c_is_number : Def P w K mg base 1 "is_number" ["thing", "low", "high"] (SpP K F_is_number)) (c_need_set : Def P w K mg base 4 "need_set" ["numbers"] (SpP K F_set_in)) : DefK P w K mg base 5 "numbers_below" s_numbers_below ["numbers", "many"] (SpN K FN_below) := (fk_numbers_below T c_in_set c_is_number c_need_set).2
theorem r_numbers_below (T : Txt K mg) (Er : Err K mg ca) (c_need_set : Def P w K mg base 4 "need_set" ["numbers"] (SpP K F_set_in)) (n_is_number : Def P w K mg base 1 "is_number" ["thing", "low", "high"] (SpP K N_is_number)) (r_need_set : DefX P w K mg base 4 "need_set" ["numbers"] (SpE K (E_need_set ca))) : DefX P w K mg base 5 "numbers_below" ["numbers", "many"] (SpE K (E_below ca)) := by
  refine def_raise T.a_numbers_below sc_numbers_below (fun ds C fld y h => ?_) ?_
  · cases h <;> rfl
  rintro _ ⟨fa, cdv, A, outer, s_, H, E, hr, rfl⟩ g ds C fld y h hw
  have hu := room65 hr
  cases h with
  | set h =>
    show XB _ [.dat _, .dat _, .no, .no] _ _
    exact xb_asgR (xr_call r_need_set (hr.mono (by decide)) (xa_cons (xe_var 0) xa_nil) ⟨_, rfl, h, rfl, rfl, rfl⟩ hw)
  | many h h1 h2 =>
    show XB _ [.dat _, .dat _, .no, .no] _ _
    refine xb_asg 2 (xe_call c_need_set (hr.mono (by decide)) (xa_cons (xe_var 0) xa_nil) ⟨_, _, rfl, h, h1, rfl⟩) ?_ sc_numbers_below.nd
    refine xb_ifR (k := true) (xt_eq (xt_not (xt_tru (xe_call n_is_number (hr.mono (by decide)) (xa_cons (xe_var 1) (xa_cons xe_int (xa_cons xe_int xa_nil))) ⟨_, _, _, rfl, h2, rfl⟩))) rfl) (fun _ => ?_) (fun h => (nomatch h))
    exact xb_raise (err_BadMany P w base Er) (xe_var 1) hw (hr.mono (by decide))
theorem r_has_number (T : Txt K mg) (Er : Err K mg ca) (c_need_set : Def P w K mg base 4 "need_set" ["numbers"] (SpP K F_set_in)) (n_is_number : Def P w K mg base 1 "is_number" ["thing", "low", "high"] (SpP K N_is_number)) (r_need_set : DefX P w K mg base 4 "need_set" ["numbers"] (SpE K (E_need_set ca))) : DefX P w K mg base 5 "has_number" ["numbers", "number"] (SpE K (E_has ca)) := by
  refine def_raise T.a_has_number sc_has_number (fun ds C fld y h => ?_) ?_
  · cases h <;> rfl
  rintro _ ⟨fa, cdv, A, outer, s_, H, E, hr, rfl⟩ g ds C fld y h hw
  have hu := room65 hr
  cases h with
  | set h =>
    show XB _ [.dat _, .dat _, .no] _ _
    exact xb_asgR (xr_call r_need_set (hr.mono (by decide)) (xa_cons (xe_var 0) xa_nil) ⟨_, rfl, h, rfl, rfl, rfl⟩ hw)
  | num h h1 h2 =>
    show XB _ [.dat _, .dat _, .no] _ _
    refine xb_asg 2 (xe_call c_need_set (hr.mono (by decide)) (xa_cons (xe_var 0) xa_nil) ⟨_, _, rfl, h, h1, rfl⟩) ?_ sc_has_number.nd
    refine xb_ifR (k := true) (xt_eq (xt_not (xt_tru (xe_call n_is_number (hr.mono (by decide)) (xa_cons (xe_var 1) (xa_cons xe_int (xa_cons (xe_powI xe_int xe_int ⟨by decide, by decide, by decide⟩) xa_nil))) ⟨_, _, _, rfl, by rw [pow18]; exact h2, rfl⟩))) rfl) (fun _ => ?_) (fun h => (nomatch h))
    exact xb_raise (err_BadNumber P w base Er) (xe_var 1) hw (hr.mono (by decide))
theorem r_first_number (T : Txt K mg) (c_first_of : Def P w K mg base 2 "first_of" ["plain"] (SpP K F_first_of)) (r_need_set : DefX P w K mg base 4 "need_set" ["numbers"] (SpE K (E_need_set ca))) : DefX P w K mg base 5 "first_number" ["numbers"] (SpE K (E_need_set ca)) := by
  refine def_raise T.a_first_number sc_first_number (fun ds C fld y h => ?_) ?_
  · obtain ⟨x, rfl, _⟩ := h
    rfl
  rintro _ ⟨fa, cdv, A, outer, s_, H, E, hr, rfl⟩ g ds C fld y h hw
  have h0 := h
  obtain ⟨x, rfl, _⟩ := h0
  show XB _ [.dat _] _ _
  obtain ⟨f1, _, m1, k1, _⟩ := c_first_of.ex
  exact xb_retR (xr_arg m1 k1 (xra_here (xr_call r_need_set (hr.mono (by decide)) (xa_cons (xe_var 0) xa_nil) h hw)))
theorem k_set_of (T : Txt K mg) (c_is_number : Def P w K mg base 1 "is_number" ["thing", "low", "high"] (SpP K F_is_number)) (c_is_row : Def P w K mg base 1 "is_row" ["thing"] (SpP K F_is_row)) (c_least_of : Def P w K mg base 2 "least_of" ["few", "ring"] (SpP K F_least_of)) (c_told_set : Def P w K mg base 1 "told_set" ["plain"] (SpP K F_told_set)) : DefK P w K mg base 3 "set_of" s_set_of ["listed"] (SpP K G_set_of) := by
  refine def_pureK T.a_set_of sc_set_of (fun ds d h => ?_) ?_
  · obtain ⟨x, l, rfl, _⟩ := h
    rfl
  rintro _ ⟨fa, cdv, A, outer, s_, H, E, hr, rfl⟩ _ _ ⟨x, l, rfl, hx, hl, hb, rfl⟩
  have hu := room65 hr
  obtain ⟨tM, hM⟩ := T.c_MOST
  show XB _ [.dat _, .no, .no] _ _
  have hf : ∀ n ∈ l, (!(decide ((0 : Int) ≤ (n : Int)) && decide ((n : Int) ≤ 60 - 1))) = false := fun n hn => by
    have := hb n hn
    rw [decide_eq_true (Int.natCast_nonneg n), decide_eq_true (show (n : Int) ≤ 60 - 1 by omega)]
    rfl
  refine xb_ifR (k := false) (xt_eq ((xw_or (xt_not (xt_tru (xe_call c_is_row (hr.mono (by decide)) (xa_cons (xe_var 0) xa_nil) ⟨_, rfl, rfl⟩))) (fun _ => (xw_or1 (xt_tru (xe_new (xl_lcIf (l := l) (f := fun (n : Nat) => PyData.int (n : Nat)) 1 _ _ sc_set_of.nd (xi_seq (xe_var 0) hx.seq) (fun _ _ _ _ _ d hd => (xt_not (xt_tru (xe_call c_is_number (hr.mono (by decide)) (xa_cons (xe_var 1) (xa_cons xe_int (xa_cons (xe_subI (xe_gint hM) xe_int) xa_nil))) ⟨(d : Nat), _, _, rfl, rfl⟩)))) (fun _ _ _ _ _ d hd ht => (xe_var 1)) (by omega)).val)))))).xt ?_) (fun h => nomatch h) (fun _ => ?_)
  · show (!isRowD x || !(((l.filter fun n : Nat => !(decide ((0 : Int) ≤ (n : Int)) && decide ((n : Int) ≤ 60 - 1))).map fun (n : Nat) => PyData.int (n : Nat)).isEmpty)) = false
    rw [List.filter_eq_nil_iff.mpr (fun n hn => by rw [hf n hn]; decide), hx.row]
    rfl
  have key : Bs (.list ((List.range 60).map fun n : Nat => PyData.bool (l.contains n))) ((List.range 60).map fun n => l.contains n) := by
    have := Bs.lst ((List.range 60).map fun n => l.contains n)
    rw [List.map_map] at this
    exact this
  cases hx with
  | lst =>
    refine xb_ret (xe_call c_told_set (hr.mono (by decide)) (xa_cons (xe_call c_least_of (hr.mono (by decide)) (xa_cons (xe_new (xl_lc 2 (fun n : Nat => PyData.bool (l.contains n)) sc_set_of.nd (xi_rng1 T.g_range (xe_gint hM) (by decide)) (fun _ _ _ _ _ d hd => xe_eq (xe_cmp hu (xe_var 2) (xe_var 0) (.inD _ _ (shaped_int _) (shaped_nats l))) (by rw [Int.zero_add, any_nat])) (by decide)).val) (xa_cons (xe_lst (xa_cons xe_bl xa_nil)) xa_nil)) ⟨_, _, (List.range 60).map fun n => l.contains n, [false], rfl, ?_, .lst [false], by decide, by decide, rfl⟩) xa_nil) ⟨setOf l, rfl, (setOf_fits l).1, (setOf_fits l).2, rfl⟩) rfl
    exact key
  | tup =>
    refine xb_ret (xe_call c_told_set (hr.mono (by decide)) (xa_cons (xe_call c_least_of (hr.mono (by decide)) (xa_cons (xe_new (xl_lc 2 (fun n : Nat => PyData.bool (l.contains n)) sc_set_of.nd (xi_rng1 T.g_range (xe_gint hM) (by decide)) (fun _ _ _ _ _ d hd => xe_eq (xe_inT hu (xe_var 2) (xe_var 0) (shaped_int _) (shaped_natsT l)) (by rw [Int.zero_add, any_nat])) (by decide)).val) (xa_cons (xe_lst (xa_cons xe_bl xa_nil)) xa_nil)) ⟨_, _, (List.range 60).map fun n => l.contains n, [false], rfl, ?_, .lst [false], by decide, by decide, rfl⟩) xa_nil) ⟨setOf l, rfl, (setOf_fits l).1, (setOf_fits l).2, rfl⟩) rfl
    exact key
theorem g_set_of (T : Txt K mg) (k_set_of : DefK P w K mg base 3 "set_of" s_set_of ["listed"] (SpP K G_set_of)) : Def P w K mg base 3 "set_of" ["listed"] (SpP K G_set_of) := k_set_of.def_ T.a_set_of
theorem r_set_of (T : Txt K mg) (Er : Err K mg ca) (g_is_number : Def P w K mg base 1 "is_number" ["thing", "low", "high"] (SpP K G_is_number)) (c_is_row : Def P w K mg base 1 "is_row" ["thing"] (SpP K F_is_row)) : DefX P w K mg base 3 "set_of" ["listed"] (SpE K (E_set_of ca)) := by
  refine def_raise T.a_set_of sc_set_of (fun ds C fld y h => ?_) ?_
  · obtain ⟨x, rfl, _⟩ := h
    rfl
  rintro _ ⟨fa, cdv, A, outer, s_, H, E, hr, rfl⟩ g _ _ _ y ⟨x, rfl, hx, rfl, rfl, rfl⟩ hw
  have hu := room65 hr
  obtain ⟨tM, hM⟩ := T.c_MOST
  show XB _ [.dat _, .no, .no] _ _
  cases hx with
  | row h =>
    refine xb_ifR (k := true) (xt_eq ((xw_or (k := true) (m := true) (xt_eq (xt_not (xt_tru (xe_call c_is_row (hr.mono (by decide)) (xa_cons (xe_var 0) xa_nil) ⟨_, rfl, rfl⟩))) (by show (!isRowD y) = true; rw [h]; rfl)) (fun z => (nomatch z)))).xt rfl) (fun _ => ?_) (fun h => (nomatch h))
    exact xb_raise (err_BadListed P w base Er) (xe_var 0) hw (hr.mono (by decide))
  | @odd l h h1 h2 =>
    refine xb_ifR (k := true) (xt_eq ((xw_or (xt_not (xt_tru (xe_call c_is_row (hr.mono (by decide)) (xa_cons (xe_var 0) xa_nil) ⟨_, rfl, rfl⟩))) (fun _ => (xw_or1 (xt_tru (xe_new (xl_lcIf (l := l) (f := fun y => y) 1 (fun y => y) (fun y => !numB 0 59 y) sc_set_of.nd (by rw [map_id']; exact xi_seq (xe_var 0) h) (fun _ _ _ _ _ d hd => (xt_eq (xt_not (xt_tru (xe_call g_is_number (hr.mono (by decide)) (xa_cons (xe_var 1) (xa_cons xe_int (xa_cons (xe_subI (xe_gint hM) xe_int) xa_nil))) ⟨d, _, _, rfl, rfl⟩))) rfl)) (fun _ _ _ _ _ d hd ht => (xe_var 1)) (by omega)).val)))))).xt ?_) (fun _ => ?_) (fun h => (nomatch h))
    · show (!isRowD y || !((l.filter fun y => !numB 0 59 y).map fun y => y).isEmpty) = true
      rw [map_id', h.row]
      cases e : l.filter (fun y => !numB 0 59 y) with
      | nil => exact absurd e h2
      | cons a r => rfl
    · exact xb_raise (err_BadListed P w base Er) (xe_var 0) hw (hr.mono (by decide))
end
end K13

set_option Elab.async false
set_option linter.all false
set_option maxRecDepth 100000
set_option maxHeartbeats 4000000
namespace K13
open PySem PySem.Spec PyProof.Rows L2 Dl Sm
theorem inS_lst' {s : S} (h : s.2 ≠ []) (n : Nat) : inS (lst s) n = inS s n := inS_least s.1 h n
theorem can_lst' {s : S} (h : s.2 ≠ []) : Canon (lst s) := canon_least s.1 h
theorem eqv_nats_nil (l : List Nat) : PyData.eqv (encN l) (.list []) = l.isEmpty := by
  cases l <;> simp [PyData.eqv, PyData.eqvAll]
theorem row_hd {l : List Nat} {o : Option Nat} (e : l.head? = o) (h : (!PyData.eqv (encN l) (.list [])) = true) : atI (l.map fun n : Nat => PyData.int (n : Nat)) 0 = some (encO o) := by
  cases l with
  | nil => rw [eqv_nats_nil] at h; cases h
  | cons a l => rw [← e]; exact atI_hd _ _
theorem row_none {l : List Nat} {o : Option Nat} (e : l.head? = o) (h : (!PyData.eqv (encN l) (.list [])) = false) : PyData.none = encO o := by
  cases l with
  | nil => rw [← e]; rfl
  | cons a l => rw [eqv_nats_nil] at h; cases h
/-! ### what is handed -/
theorem loose_bools {l : List Bool} {y : PyData} (h : Loose (.list (l.map .bool)) y) : Bs y l := by
  cases h with
  | @row _ _ l2 r hx hy hl h =>
    cases hx
    have e : r = l.map .bool := by
      apply List.ext_getElem?
      intro i
      by_cases hi : i < r.length
      · have h1 := h i _ _ (List.getElem?_eq_getElem (by omega)) (List.getElem?_eq_getElem hi)
        rw [List.getElem?_eq_getElem hi, List.getElem?_eq_getElem (by omega)]
        congr 1
        rw [List.getElem_map] at h1 ⊢
        generalize r[i] = z at h1
        generalize l[i]'(by rw [List.length_map] at hl; omega) = b at h1
        cases h1 with
        | bl => rfl
        | row hx => cases hx
      · rw [List.getElem?_eq_none (by omega), List.getElem?_eq_none (by omega)]
    subst e
    cases hy
    · exact .lst l
    · exact .tup l
theorem loose_st {s : S} {x : PyData} (h : Loose (encT s) x) : St x s := by
  cases h with
  | @row _ _ l2 r hx hy hl h =>
    cases hx
    match r, hl, h, hy with
    | [a, b], _, h, hy => exact ⟨a, b, hy, loose_bools (h 0 _ _ rfl rfl), loose_bools (h 1 _ _ rfl rfl)⟩
    | [], hl, _, _ => exact absurd hl (by show ¬ 0 = 2; decide)
    | [_], hl, _, _ => exact absurd hl (by show ¬ 1 = 2; decide)
    | _ :: _ :: _ :: r, hl, _, _ => exact absurd hl (by show ¬ r.length + 3 = 2; omega)
theorem bs_tree {x : PyData} {l : List Bool} (h : Bs x l) (hl : l.length ≤ 1000000) : Dl.TreeD 1 x := by
  cases h with
  | lst => exact TreeD.bools 0 l hl
  | tup => exact TreeD.boolsT 0 l hl
theorem st_tree {x : PyData} {s : S} (h : St x s) (h1 : s.1.length ≤ 1000000) (h2 : s.2.length ≤ 1000000) : Dl.TreeD 2 x := by
  obtain ⟨a, b, hs, ha, hb⟩ := h
  have key : ∀ y ∈ [a, b], Dl.TreeD 1 y := fun y hy => by
    rcases List.mem_cons.mp hy with e | e
    · rw [e]; exact bs_tree ha h1
    · rw [List.mem_singleton.mp e]; exact bs_tree hb h2
  cases hs with
  | lst => exact .lst (by exact Nat.le_of_ble_eq_true rfl) key
  | tup => exact .tup (by exact Nat.le_of_ble_eq_true rfl) key
theorem tree_enc {s : S} (h1 : s.1.length ≤ 1000000) (h2 : s.2.length ≤ 1000000) : Dl.TreeD 2 (encT s) := st_tree (.told s) h1 h2
theorem rows_enc {s : S} (h1 : s.1.length ≤ 200) (h2 : s.2.length ≤ 200) : Rows 2 (encT s) := .row (.tup _) (by exact Nat.le_of_ble_eq_true rfl) fun y hy => by
  have key : ∀ l : List Bool, l.length ≤ 200 → Rows 1 (.list (l.map .bool)) := fun l hl => .row (.lst _) (by rw [List.length_map]; exact hl) fun z hz => by
    obtain ⟨b, _, rfl⟩ := List.mem_map.mp hz
    exact .bl _ b
  rcases List.mem_cons.mp hy with e | e
  · rw [e]; exact key _ h1
  · rw [List.mem_singleton.mp e]; exact key _ h2
theorem tree_rows {n : Nat} {l : List PyData} (hz : l.length ≤ 1000000) (h : ∀ y ∈ l, Dl.TreeD n y) : Dl.TreeD (n + 1) (.list l) := .lst hz h
theorem cut60 (l : List Bool) : cutD (l.map PyData.bool) none (some 60) = (l.take 60).map .bool := by
  rw [cutD_map]
  exact congrArg _ (cutD_to (α := Bool) l 60)
theorem inS_cat (f : List Bool) {r : List Bool} (hr : r ≠ []) (n : Nat) : inS (f ++ r, r) n = inS (f, r) n := by
  have hp : 0 < r.length := List.length_pos_iff.mpr hr
  unfold inS
  show (if n < (f ++ r).length then _ else r.getD ((n - (f ++ r).length) % r.length) false) = if n < f.length then _ else r.getD ((n - f.length) % r.length) false
  rw [List.length_append]
  by_cases h1 : n < f.length
  · rw [if_pos h1, if_pos (by omega)]
    simp [List.getD_eq_getElem?_getD, List.getElem?_append_left h1]
  · rw [if_neg h1]
    by_cases h2 : n < f.length + r.length
    · rw [if_pos h2, Nat.mod_eq_of_lt (show n - f.length < r.length by omega)]
      simp [List.getD_eq_getElem?_getD, List.getElem?_append_right (show f.length ≤ n by omega)]
    · rw [if_neg h2, show n - f.length = (n - (f.length + r.length)) + r.length by omega, Nat.add_mod_right]
theorem lst_cat (f : List Bool) {r : List Bool} (hr : r ≠ []) : lst (f ++ r, r) = lst (f, r) := (can_lst' (s := (f ++ r, r)) hr).eq (can_lst' (s := (f, r)) hr) fun n => by rw [inS_lst' (s := (f ++ r, r)) hr, inS_lst' (s := (f, r)) hr, inS_cat f hr]
theorem below_lst {s : S} (h : s.2 ≠ []) (N : Nat) : (List.range N).filter (inS (lst s)) = (List.range N).filter (inS s) := List.filter_congr fun n _ => inS_lst' h n
theorem nats_of : ∀ {ds : List PyData} {b : Nat}, (∀ (i : Nat) d, ds[i]? = some d → ∃ m : Nat, d = .int (m : Nat) ∧ m < b) → ∃ l : List Nat, ds = l.map (fun n : Nat => PyData.int (n : Nat)) ∧ ∀ n ∈ l, n < b
  | [], _, _ => ⟨[], rfl, fun n h => nomatch h⟩
  | d :: ds, b, h => by
    obtain ⟨m, hm, hb⟩ := h 0 d rfl
    obtain ⟨l, hl, hl2⟩ := nats_of (ds := ds) fun i d hi => h (i + 1) d hi
    refine ⟨m :: l, by rw [hm, hl]; rfl, fun n hn => ?_⟩
    rcases List.mem_cons.mp hn with e | e
    · rw [e]; exact hb
    · exact hl2 n e
theorem rep_59 {k : Int} (h : k = 0 ∨ k = 1) : ∃ l : List Nat, (List.replicate k.toNat [PyData.int 59]).flatten = l.map (fun n : Nat => PyData.int (n : Nat)) ∧ l.length ≤ 1 ∧ ∀ n ∈ l, n < 60 := by
  rcases h with rfl | rfl
  · exact ⟨[], rfl, by decide, fun n h => nomatch h⟩
  · exact ⟨[59], rfl, by decide, fun n h => by rw [List.mem_singleton.mp h]; decide⟩
theorem loose_nats {l : List Nat} {y : PyData} (h : Loose (encN l) y) : Ns y l := by
  cases h with
  | @row _ _ l2 r hx hy hl h =>
    cases hx
    have e : r = l.map fun n : Nat => PyData.int (n : Nat) := by
      apply List.ext_getElem?
      intro i
      by_cases hi : i < r.length
      · have h1 := h i _ _ (List.getElem?_eq_getElem (by omega)) (List.getElem?_eq_getElem hi)
        rw [List.getElem?_eq_getElem hi, List.getElem?_eq_getElem (by omega)]
        congr 1
        rw [List.getElem_map] at h1 ⊢
        generalize r[i] = z at h1
        generalize l[i]'(by rw [List.length_map] at hl; omega) = b at h1
        cases h1 with
        | int => rfl
        | row hx => cases hx
      · rw [List.getElem?_eq_none (by omega), List.getElem?_eq_none (by omega)]
    subst e
    cases hy
    · exact .lst l
    · exact .tup l
theorem rows_nats {l : List Nat} (h : l.length ≤ 200) : Rows 2 (encN l) := .row (.lst _) (by rw [List.length_map]; exact h) fun y hy => by
  obtain ⟨n, _, rfl⟩ := List.mem_map.mp hy
  exact .int _ _
theorem tree_nats {l : List Nat} (h : l.length ≤ 1000000) : Dl.TreeD 2 (encN l) := .lst (by rw [List.length_map]; exact h) fun y hy => by
  obtain ⟨n, _, rfl⟩ := List.mem_map.mp hy
  exact .int _ _
theorem tree_two {m : Nat} {a b : PyData} (ha : Dl.TreeD m a) (hb : Dl.TreeD m b) : Dl.TreeD (m + 1) (.list [a, b]) := .lst (by exact Nat.le_of_ble_eq_true rfl) fun y hy => by
  rcases List.mem_cons.mp hy with e | e
  · rw [e]; exact ha
  · rw [List.mem_singleton.mp e]; exact hb
theorem setOf_lst (l : List Nat) : lst ((List.range 60).map fun n => l.contains n, [false]) = setOf l := rfl
def oddN : List PyData := [.none, .int (-1), .int (10 ^ 18 + 1), .bool true, .str "1", .list [.int 1]]
def oddM : List PyData := [.none, .int (-1), .int 201, .bool true, .str "1", .list [.int 1]]
def oddL : List PyData := [.none, .int 5, .str "1", .dict [], .list [.int 60], .list [.int (-1)], .list [.bool true], .list [.none], .list [.int 0, .str "1"], .list [.int 0, .int 60]]
theorem tree_oddN : ∀ d ∈ oddN, Dl.TreeD 3 d := fun d hd => treeB_ok 3 d (List.all_eq_true.mp (show oddN.all (treeB 3) = true by decide +kernel) d hd)
theorem tree_oddM : ∀ d ∈ oddM, Dl.TreeD 3 d := fun d hd => treeB_ok 3 d (List.all_eq_true.mp (show oddM.all (treeB 3) = true by decide +kernel) d hd)
theorem tree_oddL : ∀ d ∈ oddL, Dl.TreeD 3 d := fun d hd => treeB_ok 3 d (List.all_eq_true.mp (show oddL.all (treeB 3) = true by decide +kernel) d hd)
theorem bad_oddN : ∀ d ∈ oddN, NoNum 0 (10 ^ 18) d := fun d hd => by
  simp only [oddN, List.mem_cons, List.not_mem_nil, or_false] at hd
  rcases hd with rfl | rfl | rfl | rfl | rfl | rfl
  · exact .kind rfl
  · exact .low _ (by decide)
  · exact .high _ (by decide) (by decide)
  · exact .bl _
  · exact .kind rfl
  · exact .kind rfl
theorem bad_oddM : ∀ d ∈ oddM, NoNum 0 200 d := fun d hd => by
  simp only [oddM, List.mem_cons, List.not_mem_nil, or_false] at hd
  rcases hd with rfl | rfl | rfl | rfl | rfl | rfl
  · exact .kind rfl
  · exact .low _ (by decide)
  · exact .high _ (by decide) (by decide)
  · exact .bl _
  · exact .kind rfl
  · exact .kind rfl
theorem ne_of_any {l : List PyData} {p : PyData → Bool} (h : l.any p = true) : l.filter p ≠ [] := fun e => by
  obtain ⟨a, ha, hp⟩ := List.any_eq_true.mp h
  have : a ∈ l.filter p := List.mem_filter.mpr ⟨ha, hp⟩
  rw [e] at this
  cases this
theorem bad_oddL : ∀ d ∈ oddL, NoListed d := fun d hd => by
  simp only [oddL, List.mem_cons, List.not_mem_nil, or_false] at hd
  rcases hd with rfl | rfl | rfl | rfl | rfl | rfl | rfl | rfl | rfl | rfl
  · exact .row rfl
  · exact .row rfl
  · exact .row rfl
  · exact .row rfl
  all_goals exact .odd (.lst _) (by decide) (ne_of_any (by decide))
theorem apart_of {s : S} (h : s.2 ≠ []) (h1 : s.1.length ≤ 60) (h2 : s.2.length ≤ 60) : ((List.range 121).filter (inS s)).head? = firstOf (lst s) := by
  have hz : Sz (lst s) := Sz.lst ⟨h1, h2, h⟩
  rw [← below_lst h]
  exact firstOf_range hz.2.2 (N := 121) (by have := hz.1; have := hz.2.1; omega)
end K13

set_option Elab.async false
set_option linter.all false
set_option maxRecDepth 100000
set_option maxHeartbeats 4000000
namespace K13
open PySem PySem.Spec PyProof.Rows L2 Dl Sm
section
variable {P : Program} {w : World} {K : PySem.W.Frag} {mg : Str → Option Value} {base : Heap}
theorem k_has_number (T : Txt K mg) (c_in_set : Def P w K mg base 1 "in_set" ["plain", "number"] (SpP K F_in_set)) (c_is_number : Def P w K mg base 1 "is_number" ["thing", "low", "high"] (SpP K F_is_number)) (c_need_set : Def P w K mg base 4 "need_set" ["numbers"] (SpP K F_set_in)) : DefK P w K mg base 5 "has_number" s_has_number ["numbers", "number"] (SpP K F_has_number) := by
  refine def_pureK T.a_has_number sc_has_number (fun ds d h => ?_) ?_
  · obtain ⟨x, s, n, rfl, _⟩ := h
    rfl
  rintro _ ⟨fa, cdv, A, outer, s_, H, E, hr, rfl⟩ _ _ ⟨x, s, n, rfl, hx, hz, hn, rfl⟩
  show XB _ [.dat _, .dat _, .no] _ _
  refine xb_asg 2 (xe_call c_need_set (hr.mono (by decide)) (xa_cons (xe_var 0) xa_nil) ⟨_, _, rfl, hx, hz, rfl⟩) ?_ sc_has_number.nd
  refine xb_ifR (k := false) (xt_eq (xt_not (xt_tru (xe_call c_is_number (hr.mono (by decide)) (xa_cons (xe_var 1) (xa_cons xe_int (xa_cons (xe_powI xe_int xe_int ⟨by decide, by decide, by decide⟩) xa_nil))) ⟨_, _, _, rfl, rfl⟩))) ?_) (fun h => nomatch h) (fun _ => ?_)
  · have h2 : (n : Int) ≤ (10 : Int) ^ (18 : Int).toNat := by
      have : ((10 ^ 18 : Nat) : Int) = (10 : Int) ^ (18 : Int).toNat := by decide
      rw [← this]
      exact Int.ofNat_le.mpr hn
    show (!(decide ((0 : Int) ≤ (n : Int)) && decide ((n : Int) ≤ (10 : Int) ^ (18 : Int).toNat))) = false
    rw [decide_eq_true h2, decide_eq_true (Int.natCast_nonneg n)]
    rfl
  exact xb_ret (xe_call c_in_set (hr.mono (by decide)) (xa_cons (xe_var 2) (xa_cons (xe_var 1) xa_nil)) ⟨lst s, n, rfl, hz.lst.2.2, rfl⟩) rfl
theorem k_first_number (T : Txt K mg) (c_first_of : Def P w K mg base 2 "first_of" ["plain"] (SpP K F_first_of)) (c_need_set : Def P w K mg base 4 "need_set" ["numbers"] (SpP K F_set_in)) : DefK P w K mg base 5 "first_number" s_first_number ["numbers"] (SpP K F_first_number) := by
  refine def_pureK T.a_first_number sc_first_number (fun ds d h => ?_) ?_
  · obtain ⟨x, s, rfl, _⟩ := h
    rfl
  rintro _ ⟨fa, cdv, A, outer, s_, H, E, hr, rfl⟩ _ _ ⟨x, s, rfl, hx, hz, rfl⟩
  show XB _ [.dat _] _ _
  obtain ⟨a1, a2, a3⟩ := hz.lst
  exact xb_ret (xe_call c_first_of (hr.mono (by decide)) (xa_cons (xe_call c_need_set (hr.mono (by decide)) (xa_cons (xe_var 0) xa_nil) ⟨_, _, rfl, hx, hz, rfl⟩) xa_nil) ⟨_, rfl, by omega, by omega, a3, rfl⟩) rfl
end
end K13

set_option Elab.async false
set_option linter.all false
set_option maxRecDepth 100000
set_option maxHeartbeats 40000000
namespace K13
open PySem PySem.Spec PyProof.Rows L2 Dl Sm
def setT2 (i j : Nat) (d : PyData) (δ : List Dl.Slot) : List Dl.Slot := match d with
  | .tuple [a, b] => (δ.set i (.dat a)).set j (.dat b)
  | _ => δ
def GoodN (d : PyData) : Prop := ∃ m : Nat, d = .int (m : Nat) ∧ m ≤ 10 ^ 18
theorem DefX.mono' {P : Program} {w : World} {K : PySem.W.Frag} {mg : Str → Option Value} {base : Heap} {j k : Nat} {x : Str} {ps : List Str} {sp : Sp} (h : DefX P w K mg base j x ps sp) (hk : j ≤ k) : DefX P w K mg base k x ps sp := by
  obtain ⟨f, fd, h1, h2, h3, h4⟩ := h.ex
  exact ⟨f, fd, h1, h2, h3, h4.mono hk⟩
structure Kt (P : Program) (w : World) (K : PySem.W.Frag) (mg : Str → Option Value) (base : Heap) (ca : CA) : Prop where
  start : Def P w K mg base 1 "_law_start" ["script"] (SpStart K)
  below : Def P w K mg base 1 "_law_below" ["stream", "many"] (SpS K Pb Qb)
  kset : Def P w K mg base 4 "_law_kset" ["stream", "most"] (SpS K Ps Qs)
  loose : Def P w K mg base 4 "_law_loose" ["stream", "thing"] (SpS K (Pl 2) (Ql 2))
  kno : Def P w K mg base 5 "_law_kno_set" ["stream"] (SpS K Pn Qn)
  pick : Def P w K mg base 2 "_law_pick" ["stream", "some"] (SpS K Pp Qp)
  kin : Def P w K mg base 1 "_law_kset_in" ["thing", "number"] (SpP K F_law_kset_in)
  least : Def P w K mg base 2 "_law_kset_least" ["thing"] (SpP K F_law_kset_least)
  cleast : Def P w K mg base 4 "least_set" ["thing"] (SpP K F_least_set)
  fleast : Def P w K mg base 4 "least_set" ["thing"] (SpF K FF_least)
  kleast : DefK P w K mg base 4 "least_set" s_least_set ["thing"] (SpF K FF_least)
  rleast : DefX P w K mg base 4 "least_set" ["thing"] (SpE K (E_need_set ca))
  kis : DefK P w K mg base 4 "is_set" s_is_set ["thing"] (SpP K F_is_set)
  cis : Def P w K mg base 4 "is_set" ["thing"] (SpP K F_is_set)
  fbelow : Def P w K mg base 5 "numbers_below" ["numbers", "many"] (SpN K FN_below)
  kbelow : DefK P w K mg base 5 "numbers_below" s_numbers_below ["numbers", "many"] (SpN K FN_below)
  rbelow : DefX P w K mg base 5 "numbers_below" ["numbers", "many"] (SpE K (E_below ca))
  chas : Def P w K mg base 5 "has_number" ["numbers", "number"] (SpP K F_has_number)
  khas : DefK P w K mg base 5 "has_number" s_has_number ["numbers", "number"] (SpP K F_has_number)
  rhas : DefX P w K mg base 5 "has_number" ["numbers", "number"] (SpE K (E_has ca))
  cfirst : Def P w K mg base 5 "first_number" ["numbers"] (SpP K F_first_number)
  kfirst : DefK P w K mg base 5 "first_number" s_first_number ["numbers"] (SpP K F_first_number)
  rfirst : DefX P w K mg base 5 "first_number" ["numbers"] (SpE K (E_need_set ca))
  kset_of : DefK P w K mg base 3 "set_of" s_set_of ["listed"] (SpP K G_set_of)
  gset_of : Def P w K mg base 3 "set_of" ["listed"] (SpP K G_set_of)
  rset_of : DefX P w K mg base 3 "set_of" ["listed"] (SpE K (E_set_of ca))
theorem kw_of {P : Program} {w : World} {K : PySem.W.Frag} {mg : Str → Option Value} {base : Heap} {k : Nat} {x n1 n2 : Str} {st : Stmt} {sp : Sp} (D : DefK P w K mg base k x st [n2, n1] sp)
    (h : ∀ (kV doc pm : Value) (an : Option Addr) (cdv ct : Value) (a b : Value), bindArgs (PySem.W.fnOf x x (defArgs st) (defBody st) (defScope st) .none kV doc pm an cdv ct) ⟨[], ([n1, n2]).zip [a, b]⟩ = pure (([n2, n1]).zip [b, a])) :
    ∃ g fd, mg x = some (.ref g) ∧ PySem.W.keepIn K (.ref g) = true ∧ FnOk P w K mg base CX0 k g fd [n2, n1] sp ∧ KBinds K fd [n2, n1] [n1, n2] swapK swapK := by
  obtain ⟨f, fd, h1, h2, h3, h4⟩ := D.ex
  exact ⟨f, fd, h1, h2, h4, kbinds2 h3 h⟩
theorem kw1_of {P : Program} {w : World} {K : PySem.W.Frag} {mg : Str → Option Value} {base : Heap} {k : Nat} {x n1 : Str} {st : Stmt} {sp : Sp} (D : DefK P w K mg base k x st [n1] sp)
    (h : ∀ (kV doc pm : Value) (an : Option Addr) (cdv ct : Value) (a : Value), bindArgs (PySem.W.fnOf x x (defArgs st) (defBody st) (defScope st) .none kV doc pm an cdv ct) ⟨[], ([n1]).zip [a]⟩ = pure (([n1]).zip [a])) :
    ∃ g fd, mg x = some (.ref g) ∧ PySem.W.keepIn K (.ref g) = true ∧ FnOk P w K mg base CX0 k g fd [n1] sp ∧ KBinds K fd [n1] [n1] oneK oneK := by
  obtain ⟨f, fd, h1, h2, h3, h4⟩ := D.ex
  exact ⟨f, fd, h1, h2, h4, kbinds1 h3 h⟩
section
variable {P : Program} {w : World} {K : PySem.W.Frag} {mg : Str → Option Value} {base : Heap} {ca : CA}
theorem law_body (T : Txt K mg) (Er : Err K mg ca) (D : Kt P w K mg base ca) {fa c Pt : Addr} {q : Str} (TB : LamX.TabB base mg c Pt) (eq : q = (envOfC "law" (defScope s_law) 0 fa (.ref c)).qual ++ "<lambda>")
    (X : Cx) (hX : ∃ (A : Around) (outer : List Env) (s : Shared) (H : Hp) (E : XK), Room 9 (A.deeper (envOfC "law" (defScope s_law) s.heap.objs.size fa (.ref c))) ∧ X = (cxOf CX0 P w K mg base ["script", "stream", "turn", "thing", "due", "handed", "was", "told", "few", "ring", "many", "row", "first", "number", "truth", "no", "call", "odd", "listed", "passed", "found", "look"] "law" (defScope s_law) fa (.ref c) A outer s H E).nox)
    (ns : List Int) (hl : ns.length ≤ 63) : XB X (startD ["script", "stream", "turn", "thing", "due", "handed", "was", "told", "few", "ring", "many", "row", "first", "number", "truth", "no", "call", "odd", "listed", "passed", "found", "look"] [.own (scrT K ns Pt q)]) (defBody s_law) { rt := fun d _ => d = .bool true } := by
  obtain ⟨A, outer, s, H, E, hr, rfl⟩ := hX
  have hu := room65 hr
  have LA : LamAt (cxOf CX0 P w K mg base ["script", "stream", "turn", "thing", "due", "handed", "was", "told", "few", "ring", "many", "row", "first", "number", "truth", "no", "call", "odd", "listed", "passed", "found", "look"] "law" (defScope s_law) fa (.ref c) A outer s H E).nox q c Pt := ⟨TB, rfl, eq, rfl⟩
  obtain ⟨gR, _, mR, FR, _⟩ := T.a_law_krefuses.ex
  have kR := FR.kp
  show XB _ [.own (scrT K ns Pt q), .no, .no, .no, .no, .no, .no, .no, .no, .no, .no, .no, .no, .no, .no, .no, .no, .no, .no, .no, .no, .no] _ _
  refine xb_startT 1 0 D.start (hr.mono (by decide)) rfl hl (by exact Nat.le_of_ble_eq_true rfl) (fun p_ q_ => ?_) sc_law.nd
  show XB _ [.own (scrT K ns Pt q), .own (strmR p_ q_ (0)), .no, .no, .no, .no, .no, .no, .no, .no, .no, .no, .no, .no, .no, .no, .no, .no, .no, .no, .no, .no] _ _
  refine xb_for (is := [2]) (fun d δ => δ.set 2 (.dat d)) (fun i δ => ∃ n x2 x3 x4 x5 x6 x7 x8 x9 x10 x11 x12 x13 x14 x15 x16 x17 x18 x19 x20 x21, n ≤ 600 * i ∧ δ = [.own (scrT K ns Pt q), .own (strmR p_ q_ (n)), x2, x3, x4, x5, x6, x7, x8, x9, x10, x11, x12, x13, x14, x15, x16, x17, x18, x19, x20, x21]) (fun δ => ∃ n x2 x3 x4 x5 x6 x7 x8 x9 x10 x11 x12 x13 x14 x15 x16 x17 x18 x19 x20 x21, δ = [.own (scrT K ns Pt q), .own (strmR p_ q_ (n)), x2, x3, x4, x5, x6, x7, x8, x9, x10, x11, x12, x13, x14, x15, x16, x17, x18, x19, x20, x21]) (xi_rng1 T.g_range xe_int (by decide)) ⟨0, _, _, _, _, _, _, _, _, _, _, _, _, _, _, _, _, _, _, _, _, Nat.le_refl _, rfl⟩ (fun i δ dT hJ hd => ?hg) (fun i δ dT hJ hd => ?turn) (fun δ hJ => ?hM) (fun δ hM => ?last)
  case hg => exact xg_name 2 sc_law.nd
  case hM =>
    obtain ⟨n, x2, x3, x4, x5, x6, x7, x8, x9, x10, x11, x12, x13, x14, x15, x16, x17, x18, x19, x20, x21, _, rfl⟩ := hJ
    exact ⟨n, x2, x3, x4, x5, x6, x7, x8, x9, x10, x11, x12, x13, x14, x15, x16, x17, x18, x19, x20, x21, rfl⟩
  case turn =>
    obtain ⟨n, x2, x3, x4, x5, x6, x7, x8, x9, x10, x11, x12, x13, x14, x15, x16, x17, x18, x19, x20, x21, hn, rfl⟩ := hJ
    obtain ⟨hi, rfl⟩ := rangeD_get hd
    have hi : i < 9 := hi
    have hn0 : n ≤ 5400 := by omega
    show XB _ [.own (scrT K ns Pt q), .own (strmR p_ q_ (n)), .dat (.int (0 + (i : Nat))), x3, x4, x5, x6, x7, x8, x9, x10, x11, x12, x13, x14, x15, x16, x17, x18, x19, x20, x21] _ _
    obtain ⟨ms, hms⟩ : ∃ m : Nat, m = if (0 + (i : Int)) > 0 then 7 else 60 := ⟨_, rfl⟩
    have hms1 : 0 < ms ∧ ms ≤ 60 := by rw [hms]; split <;> decide
    refine xb_asgF (P := fun d δ => ∃ (n1 : Nat) (s : S), n1 ≤ n + 130 ∧ s.2 ≠ [] ∧ d = encT s ∧ δ = [.own (scrT K ns Pt q), .own (strmR p_ q_ (n1)), .dat (.int (0 + (i : Nat))), x3, x4, x5, x6, x7, x8, x9, x10, x11, x12, x13, x14, x15, x16, x17, x18, x19, x20, x21]) 3 (xf_draw 1 D.kset (hr.mono (by decide)) rfl (xfa_of (ds := [.int (ms : Nat)]) (xa_cons (xe_if (xt_cmp hu (xe_var 2) xe_int (.gtI _ _)) (fun h => xe_eq xe_int (by rw [hms, if_pos (of_decide_eq_true h)]; rfl)) (fun h => xe_eq xe_int (by rw [hms, if_neg (of_decide_eq_false h)]; rfl))) xa_nil)) ?a1) (fun d δ1 h1 => ?_) sc_law.nd
    case a1 =>
      rintro _ _ ⟨rfl, rfl⟩
      refine ⟨n, rfl, ⟨by omega, ms, rfl, hms1.1, hms1.2⟩, fun n2 d hq => ?_⟩
      obtain ⟨h1, s, rfl, h2, h3, h4, h5⟩ := hq
      exact ⟨n2, s, h1, h2, rfl, rfl⟩
    obtain ⟨n1, sX, hn1, hX0, rfl, rfl⟩ := h1
    show XB _ [.own (scrT K ns Pt q), .own (strmR p_ q_ (n1)), .dat (.int (0 + (i : Nat))), .dat (encT sX), x4, x5, x6, x7, x8, x9, x10, x11, x12, x13, x14, x15, x16, x17, x18, x19, x20, x21] _ _
    have i0 : IxD (encT sX) 0 (.list (sX.1.map .bool)) := .tup rfl
    have i1 : IxD (encT sX) 1 (.list (sX.2.map .bool)) := .tup rfl
    obtain ⟨sA, eA⟩ : ∃ t : S, t = (sX.1.take 60, sX.2.take 60) := ⟨_, rfl⟩
    have sz : Sz sA := by
      rw [eA]
      refine ⟨by show (sX.1.take 60).length ≤ 60; rw [List.length_take]; omega, by show (sX.2.take 60).length ≤ 60; rw [List.length_take]; omega, fun z => ?_⟩
      have h1 : (sX.2.take 60).length = 0 := by rw [show sX.2.take 60 = [] from z]; rfl
      rw [List.length_take] at h1
      have := List.length_pos_iff.mpr hX0
      omega
    have l1 := sz.1
    have l2 := sz.2.1
    have hne := sz.2.2
    refine xb_asg 3 (d := encT sA) (xe_eq (xe_tup (xa_cons (xe_sl (xe_ix (xe_var 3) xe_int i0) xo_none (xo_some xe_int) (.lst _ _ _)) (xa_cons (xe_sl (xe_ix (xe_var 3) xe_int i1) xo_none (xo_some xe_int) (.lst _ _ _)) xa_nil))) (by rw [cut60, cut60, eA])) ?_ sc_law.nd
    show XB _ [.own (scrT K ns Pt q), .own (strmR p_ q_ (n1)), .dat (.int (0 + (i : Nat))), .dat (encT sA), x4, x5, x6, x7, x8, x9, x10, x11, x12, x13, x14, x15, x16, x17, x18, x19, x20, x21] _ _
    have j0 : IxD (encT sA) 0 (.list (sA.1.map .bool)) := .tup rfl
    have j1 : IxD (encT sA) 1 (.list (sA.2.map .bool)) := .tup rfl
    have zl := sz.lst
    have t2 : Dl.TreeD 2 (encT (lst sA)) := tree_enc (Nat.le_trans zl.1 (by decide)) (Nat.le_trans zl.2.1 (by decide))
    refine xb_unpF (is := [4, 5]) (P := fun d δ => ∃ (n2 : Nat) (dl : PyData), n2 ≤ n1 + 201 ∧ Loose (encT sA) dl ∧ d = .tuple [encT (lst sA), dl] ∧ δ = [.own (scrT K ns Pt q), .own (strmR p_ q_ (n2)), .dat (.int (0 + (i : Nat))), .dat (encT sA), x4, x5, x6, x7, x8, x9, x10, x11, x12, x13, x14, x15, x16, x17, x18, x19, x20, x21]) (xf_tup (PA' := fun ds δ => ∃ (n2 : Nat) (dl : PyData), n2 ≤ n1 + 201 ∧ Loose (encT sA) dl ∧ ds = [encT (lst sA), dl] ∧ δ = [.own (scrT K ns Pt q), .own (strmR p_ q_ (n2)), .dat (.int (0 + (i : Nat))), .dat (encT sA), x4, x5, x6, x7, x8, x9, x10, x11, x12, x13, x14, x15, x16, x17, x18, x19, x20, x21]) (xfa_cons (xf_of (xe_call D.least (hr.mono (by decide)) (xa_cons (xe_var 3) xa_nil) ⟨sA, rfl, l1, l2, hne, rfl⟩)) (fun d1 δ1 h1 => ?b1)) (fun ds δ1 h1 => ?b2)) (setT2 4 5) (fun d δ1 h1 => ?b3) (fun d δ1 h1 => ?_)
    case b1 =>
      obtain ⟨rfl, rfl⟩ := h1
      refine xfa_cons (P1 := fun d δ => ∃ n2 : Nat, n2 ≤ n1 + 201 ∧ Loose (encT sA) d ∧ δ = [.own (scrT K ns Pt q), .own (strmR p_ q_ (n2)), .dat (.int (0 + (i : Nat))), .dat (encT sA), x4, x5, x6, x7, x8, x9, x10, x11, x12, x13, x14, x15, x16, x17, x18, x19, x20, x21]) (xf_draw 1 D.loose (hr.mono (by decide)) rfl (xfa_of (xa_cons (xe_var 3) xa_nil)) ?c1) (fun d1 δ1 h1 => ?c2)
      case c1 =>
        rintro _ _ ⟨rfl, rfl⟩
        refine ⟨n1, rfl, ⟨by show n1 + 201 ≤ 2 ^ 38; omega, _, rfl, rows_enc (by omega) (by omega)⟩, fun n3 d hq => ?_⟩
        obtain ⟨h1, x, e, h2⟩ := hq
        cases e
        exact ⟨n3, h1, h2, rfl⟩
      case c2 =>
        obtain ⟨n2, hn2, h2, rfl⟩ := h1
        refine xfa_imp xfa_nil ?_
        rintro _ _ ⟨rfl, rfl⟩
        exact ⟨n2, _, hn2, h2, rfl, rfl⟩
    case b2 =>
      obtain ⟨n2, dl, h1, h2, rfl, rfl⟩ := h1
      exact ⟨by exact Nat.le_of_ble_eq_true rfl, n2, dl, h1, h2, rfl, rfl⟩
    case b3 =>
      obtain ⟨n2, dl, h1, h2, rfl, rfl⟩ := h1
      exact xg_tup rfl (xgs_cons (xg_name 4 sc_law.nd) (xgs_cons (xg_name 5 sc_law.nd) xgs_nil)) rfl
    obtain ⟨n2, dl, hn2, hlo, rfl, rfl⟩ := h1
    have sl := loose_st hlo
    clear hlo
    have tl : Dl.TreeD 2 dl := st_tree sl (by omega) (by omega)
    show XB _ [.own (scrT K ns Pt q), .own (strmR p_ q_ (n2)), .dat (.int (0 + (i : Nat))), .dat (encT sA), .dat (encT (lst sA)), .dat dl, x6, x7, x8, x9, x10, x11, x12, x13, x14, x15, x16, x17, x18, x19, x20, x21] _ _
    refine xb_asg 6 (xe_call (c_law_copied T 3) (hr.mono (by decide)) (xa_cons (xe_var 5) xa_nil) ⟨_, rfl, tl.mono, rfl⟩) ?_ sc_law.nd
    show XB _ [.own (scrT K ns Pt q), .own (strmR p_ q_ (n2)), .dat (.int (0 + (i : Nat))), .dat (encT sA), .dat (encT (lst sA)), .dat dl, .dat dl, x7, x8, x9, x10, x11, x12, x13, x14, x15, x16, x17, x18, x19, x20, x21] _ _
    refine xb_toldPairs 7 (l1 := (lst sA).1) (l2 := (lst sA).2) (xnew_call D.fleast (hr.mono (by decide)) (xa_cons (xe_var 5) xa_nil) ⟨_, sA, rfl, sl, sz, rfl, rfl⟩) (xnew_callK1 (hr.mono (by decide)) (kw1_of D.kleast (fun _ _ _ _ _ _ _ => rfl)) (xe_var 5) ⟨_, sA, rfl, sl, sz, rfl, rfl⟩) ?_ sc_law.nd
    show XB _ [.own (scrT K ns Pt q), .own (strmR p_ q_ (n2)), .dat (.int (0 + (i : Nat))), .dat (encT sA), .dat (encT (lst sA)), .dat dl, .dat dl, .own (pairsR (lst sA).1 (lst sA).2), x8, x9, x10, x11, x12, x13, x14, x15, x16, x17, x18, x19, x20, x21] _ _
    refine xb_ifR (k := false) (xt_eq ((xw_or (xt_not (xt_tru (xe_callOwn 7 (c_law_same T 3) (hr.mono (by decide)) rfl (fun B H v fp h => pairsR.rp h) (xe_lst (xa_cons (xe_var 4) (xa_cons (xe_var 4) xa_nil))) ⟨_, rfl, (tree_two t2 t2), rfl⟩))) (fun _ => xw_or1 (xt_not (xt_tru (xe_call (c_law_same T 3) (hr.mono (by decide)) (xa_cons (xe_var 5) (xa_cons (xe_var 6) xa_nil)) ⟨_, rfl, tl.mono, rfl⟩))))).xt) rfl) (fun h => (nomatch h)) (fun _ => ?_)
    refine xb_ifOffS (xft_notS (xf_apart4 7 (c_law_apart T 2 (by decide)) (hr.mono (by decide)) rfl (Nat.lt_of_le_of_lt zl.1 (by decide)) (Nat.lt_of_le_of_lt zl.2.1 (by decide)) (ht0 := (pe_ix ix_seq (pe_ix ix_seq (pe_var (i := 7) rfl (by first | exact Or.inl rfl | exact Or.inr (Or.inl rfl) | exact Or.inr (Or.inr rfl)) (by decide) (by decide)) pe_int (fun _ _ => rfl)) pe_int (fun _ _ => rfl))) (ht1 := (pe_ix ix_seq (pe_ix ix_seq (pe_var (i := 7) rfl (by first | exact Or.inl rfl | exact Or.inr (Or.inl rfl) | exact Or.inr (Or.inr rfl)) (by decide) (by decide)) pe_int (fun _ _ => rfl)) pe_int (fun _ _ => rfl))) (ht2 := (pe_ix ix_seq (pe_ix ix_seq (pe_var (i := 7) rfl (by first | exact Or.inl rfl | exact Or.inr (Or.inl rfl) | exact Or.inr (Or.inr rfl)) (by decide) (by decide)) pe_int (fun _ _ => rfl)) pe_int (fun _ _ => rfl))) (ht3 := (pe_ix ix_seq (pe_ix ix_seq (pe_var (i := 7) rfl (by first | exact Or.inl rfl | exact Or.inr (Or.inl rfl) | exact Or.inr (Or.inr rfl)) (by decide) (by decide)) pe_int (fun _ _ => rfl)) pe_int (fun _ _ => rfl))))) ?_
    show XB _ [.own (scrT K ns Pt q), .own (strmR p_ q_ (n2)), .dat (.int (0 + (i : Nat))), .dat (encT sA), .dat (encT (lst sA)), .dat dl, .dat dl, .no, x8, x9, x10, x11, x12, x13, x14, x15, x16, x17, x18, x19, x20, x21] _ _
    refine xb_par (i := 8) (j := 9) (d1 := .list ((sA.1 ++ sA.2).map .bool)) (d2 := .list (sA.2.map .bool)) (xe_eq (xe_cat (xe_ix (xe_var 3) xe_int j0) (xe_ix (xe_var 3) xe_int j1) (by rw [List.length_map, List.length_map]; omega)) (by rw [List.map_append])) (xe_ix (xe_var 3) xe_int j1) ?_ sc_law.nd
    show XB _ [.own (scrT K ns Pt q), .own (strmR p_ q_ (n2)), .dat (.int (0 + (i : Nat))), .dat (encT sA), .dat (encT (lst sA)), .dat dl, .dat dl, .no, .dat (.list ((sA.1 ++ sA.2).map .bool)), .dat (.list (sA.2.map .bool)), x10, x11, x12, x13, x14, x15, x16, x17, x18, x19, x20, x21] _ _
    refine xb_ifR (k := false) (xt_eq ((xw_and (xt_cmp hu (xe_len T.g_len (xe_var 8) (.lst _)) xe_int (.ltI _ _)) (fun h => (xw_and1 (xt_not (xt_tru (xe_call (c_law_same T 3) (hr.mono (by decide)) (xa_cons (xe_eq (d := encT (lst sA)) (xe_call D.cleast (hr.mono (by decide)) (xa_cons (xe_tup (xa_cons (xe_var 8) (xa_cons (xe_var 9) xa_nil))) xa_nil) ⟨_, (sA.1 ++ sA.2, sA.2), rfl, .told (sA.1 ++ sA.2, sA.2), ⟨by have h := of_decide_eq_true h; rw [List.length_map] at h; show (sA.1 ++ sA.2).length ≤ 60; omega, l2, hne⟩, congrArg encT (lst_cat sA.1 hne).symm⟩) rfl) (xa_cons (xe_var 4) xa_nil)) ⟨_, rfl, t2.mono, rfl⟩)))))).xt) (Bool.and_false _)) (fun h => (nomatch h)) (fun _ => ?_)
    refine xb_asgF (P := fun d δ => ∃ m : Nat, d = .int (m : Nat) ∧ m ≤ 200 ∧ δ = [.own (scrT K ns Pt q), .own (strmR p_ q_ (n2 + 1)), .dat (.int (0 + (i : Nat))), .dat (encT sA), .dat (encT (lst sA)), .dat dl, .dat dl, .no, .dat (.list ((sA.1 ++ sA.2).map .bool)), .dat (.list (sA.2.map .bool)), x10, x11, x12, x13, x14, x15, x16, x17, x18, x19, x20, x21]) 10 (xf_draw 1 D.below (hr.mono (by decide)) rfl (xfa_of (xa_cons xe_int xa_nil)) ?d1) (fun d δ1 h1 => ?_) sc_law.nd
    case d1 =>
      rintro _ _ ⟨rfl, rfl⟩
      refine ⟨n2, rfl, ⟨by omega, 201, rfl, by decide, by decide⟩, fun n3 d hq => ?_⟩
      obtain ⟨rfl, j, rfl, h0, h1⟩ := hq
      have h2 := h1 201 rfl
      exact ⟨j.toNat, by rw [Int.toNat_of_nonneg h0], by omega, rfl⟩
    obtain ⟨m, rfl, hm, rfl⟩ := h1
    show XB _ [.own (scrT K ns Pt q), .own (strmR p_ q_ (n2 + 1)), .dat (.int (0 + (i : Nat))), .dat (encT sA), .dat (encT (lst sA)), .dat dl, .dat dl, .no, .dat (.list ((sA.1 ++ sA.2).map .bool)), .dat (.list (sA.2.map .bool)), .dat (.int (m : Nat)), x11, x12, x13, x14, x15, x16, x17, x18, x19, x20, x21] _ _
    obtain ⟨rw_, eW⟩ : ∃ i, i = (List.range m).filter (inS sA) := ⟨_, rfl⟩
    have hrw : ((List.range (((m : Nat) : Int)).toNat).filter (inS sA)).map (fun n : Nat => PyData.int (0 + (n : Nat))) = rw_.map (fun n : Nat => PyData.int (n : Nat)) := by
      rw [eW, Int.toNat_natCast]
      exact List.map_congr_left fun n _ => by rw [Int.zero_add]
    have hrl : rw_.length ≤ 200 := by
      have := List.length_filter_le (inS sA) (List.range m)
      rw [List.length_range] at this
      rw [eW]
      omega
    refine xb_lc 11 (xl_lcIf 13 (fun n : Nat => PyData.int (0 + (n : Nat))) (inS sA) sc_law.nd (xi_rng1 T.g_range (xe_var 10) (by omega)) (fun _ _ _ _ _ d hd => (xt_eq (xt_tru (xe_call D.kin (hr.mono (by decide)) (xa_cons (xe_var 3) (xa_cons (xe_var 13) xa_nil)) ⟨sA, d, by rw [Int.zero_add], hne, rfl⟩)) rfl)) (fun _ _ _ _ _ d hd ht => (xe_var 13)) (by rw [List.length_range]; omega)) ?_ sc_law.nd
    rw [hrw]
    show XB _ [.own (scrT K ns Pt q), .own (strmR p_ q_ (n2 + 1)), .dat (.int (0 + (i : Nat))), .dat (encT sA), .dat (encT (lst sA)), .dat dl, .dat dl, .no, .dat (.list ((sA.1 ++ sA.2).map .bool)), .dat (.list (sA.2.map .bool)), .dat (.int (m : Nat)), .dat (encN rw_), x12, x13, x14, x15, x16, x17, x18, x19, x20, x21] _ _
    refine xb_toldLists 7 (ns := rw_.map fun n : Nat => (n : Int)) (xn_callN D.fbelow (hr.mono (by decide)) (xa_cons (xe_var 5) (xa_cons (xe_var 10) xa_nil)) ⟨_, sA, m, rfl, sl, sz, hm, by rw [below_lst hne, eW]⟩) (xn_callNK2 (hr.mono (by decide)) (kw_of D.kbelow (fun _ _ _ _ _ _ _ _ => rfl)) (xe_var 10) (xe_var 5) ⟨_, sA, m, rfl, sl, sz, hm, by rw [below_lst hne, eW]⟩) ?_ sc_law.nd
    show XB _ [.own (scrT K ns Pt q), .own (strmR p_ q_ (n2 + 1)), .dat (.int (0 + (i : Nat))), .dat (encT sA), .dat (encT (lst sA)), .dat dl, .dat dl, .own (listsR (rw_.map fun n : Nat => (n : Int))), .dat (.list ((sA.1 ++ sA.2).map .bool)), .dat (.list (sA.2.map .bool)), .dat (.int (m : Nat)), .dat (encN rw_), x12, x13, x14, x15, x16, x17, x18, x19, x20, x21] _ _
    have tN : Dl.TreeD 2 (encN rw_) := tree_nats (by omega)
    refine xb_ifOffS (xft_orS (xt_eq (xt_not (xt_tru (xe_callOwn 7 (c_law_same T 3) (hr.mono (by decide)) rfl (d1 := .list [encN rw_, encN rw_]) (fun B H v fp h => by have h := listsR.rp (K := K) h; rw [List.map_map] at h; exact h) (xe_lst (xa_cons (xe_var 11) (xa_cons (xe_var 11) xa_nil))) ⟨_, rfl, (tree_two tN tN), rfl⟩))) rfl) (xft_notS (xf_apartL 7 (c_law_apart T 2 (by decide)) (hr.mono (by decide)) rfl (by rw [List.length_map]; omega)))) ?_
    show XB _ [.own (scrT K ns Pt q), .own (strmR p_ q_ (n2 + 1)), .dat (.int (0 + (i : Nat))), .dat (encT sA), .dat (encT (lst sA)), .dat dl, .dat dl, .no, .dat (.list ((sA.1 ++ sA.2).map .bool)), .dat (.list (sA.2.map .bool)), .dat (.int (m : Nat)), .dat (encN rw_), x12, x13, x14, x15, x16, x17, x18, x19, x20, x21] _ _
    obtain ⟨f_, eF⟩ : ∃ i, i = (List.range 121).filter (inS sA) := ⟨_, rfl⟩
    have hrf : ((List.range ((121 : Int)).toNat).filter (inS sA)).map (fun n : Nat => PyData.int (0 + (n : Nat))) = f_.map (fun n : Nat => PyData.int (n : Nat)) := by
      rw [eF]
      exact List.map_congr_left fun n _ => by rw [Int.zero_add]
    refine xb_lc 12 (xl_lcIf 13 (fun n : Nat => PyData.int (0 + (n : Nat))) (inS sA) sc_law.nd (xi_rng1 T.g_range xe_int (by decide)) (fun _ _ _ _ _ d hd => (xt_eq (xt_tru (xe_call D.kin (hr.mono (by decide)) (xa_cons (xe_var 3) (xa_cons (xe_var 13) xa_nil)) ⟨sA, d, by rw [Int.zero_add], hne, rfl⟩)) rfl)) (fun _ _ _ _ _ d hd ht => (xe_var 13)) (by rw [List.length_range]; decide)) ?_ sc_law.nd
    rw [hrf]
    show XB _ [.own (scrT K ns Pt q), .own (strmR p_ q_ (n2 + 1)), .dat (.int (0 + (i : Nat))), .dat (encT sA), .dat (encT (lst sA)), .dat dl, .dat dl, .no, .dat (.list ((sA.1 ++ sA.2).map .bool)), .dat (.list (sA.2.map .bool)), .dat (.int (m : Nat)), .dat (encN rw_), .dat (encN f_), x13, x14, x15, x16, x17, x18, x19, x20, x21] _ _
    obtain ⟨A_, eO⟩ : ∃ o, o = firstOf (lst sA) := ⟨_, rfl⟩
    have e5 : f_.head? = A_ := by rw [eF, eO]; exact apart_of hne l1 l2
    refine xb_asg 12 (d := encO A_) (xe_if (xt_cmp hu (xe_var 12) (xe_lst xa_nil) (.neD _ _ (shaped_nats f_) shaped_nil)) (fun h => (xe_ix (xe_var 12) xe_int (.lst (row_hd e5 h)))) (fun h => xe_eq xe_non (row_none e5 h))) ?_ sc_law.nd
    show XB _ [.own (scrT K ns Pt q), .own (strmR p_ q_ (n2 + 1)), .dat (.int (0 + (i : Nat))), .dat (encT sA), .dat (encT (lst sA)), .dat dl, .dat dl, .no, .dat (.list ((sA.1 ++ sA.2).map .bool)), .dat (.list (sA.2.map .bool)), .dat (.int (m : Nat)), .dat (encN rw_), .dat (encO A_), x13, x14, x15, x16, x17, x18, x19, x20, x21] _ _
    have tA1 : Dl.TreeD 2 (encO A_) := by cases A_ <;> constructor
    refine xb_ifR (k := false) (xt_eq (xt_not (xt_tru (xe_call (c_law_same T 3) (hr.mono (by decide)) (xa_cons (xe_lst (xa_cons (xe_call D.cfirst (hr.mono (by decide)) (xa_cons (xe_var 5) xa_nil) ⟨_, sA, rfl, sl, sz, congrArg encO eO⟩) (xa_cons (xe_callK1 (hr.mono (by decide)) (kw1_of D.kfirst (fun _ _ _ _ _ _ _ => rfl)) (xe_var 5) ⟨_, sA, rfl, sl, sz, congrArg encO eO⟩) xa_nil))) (xa_cons (xe_lst (xa_cons (xe_var 12) (xa_cons (xe_var 12) xa_nil))) xa_nil)) ⟨_, rfl, (tree_two tA1 tA1), rfl⟩))) rfl) (fun h => (nomatch h)) (fun _ => ?_)
    refine xb_forE (is := [13]) (P0 := fun ds δ => (∀ d ∈ ds, GoodN d) ∧ ds.length = 6 ∧ δ = [.own (scrT K ns Pt q), .own (strmR p_ q_ (n2 + 3)), .dat (.int (0 + (i : Nat))), .dat (encT sA), .dat (encT (lst sA)), .dat dl, .dat dl, .no, .dat (.list ((sA.1 ++ sA.2).map .bool)), .dat (.list (sA.2.map .bool)), .dat (.int (m : Nat)), .dat (encN rw_), .dat (encO A_), x13, x14, x15, x16, x17, x18, x19, x20, x21]) (fun d δ => δ.set 13 (.dat d)) (fun ds _ δ => (∀ d ∈ ds, GoodN d) ∧ ∃ y13 y14, δ = [.own (scrT K ns Pt q), .own (strmR p_ q_ (n2 + 3)), .dat (.int (0 + (i : Nat))), .dat (encT sA), .dat (encT (lst sA)), .dat dl, .dat dl, .no, .dat (.list ((sA.1 ++ sA.2).map .bool)), .dat (.list (sA.2.map .bool)), .dat (.int (m : Nat)), .dat (encN rw_), .dat (encO A_), y13, y14, x15, x16, x17, x18, x19, x20, x21]) (fun δ => ∃ y13 y14, δ = [.own (scrT K ns Pt q), .own (strmR p_ q_ (n2 + 3)), .dat (.int (0 + (i : Nat))), .dat (encT sA), .dat (encT (lst sA)), .dat dl, .dat dl, .no, .dat (.list ((sA.1 ++ sA.2).map .bool)), .dat (.list (sA.2.map .bool)), .dat (.int (m : Nat)), .dat (encN rw_), .dat (encO A_), y13, y14, x15, x16, x17, x18, x19, x20, x21]) (xif_list (xf_lst (PA' := fun ds δ => (∀ d ∈ ds, GoodN d) ∧ ds.length = 6 ∧ δ = [.own (scrT K ns Pt q), .own (strmR p_ q_ (n2 + 3)), .dat (.int (0 + (i : Nat))), .dat (encT sA), .dat (encT (lst sA)), .dat dl, .dat dl, .no, .dat (.list ((sA.1 ++ sA.2).map .bool)), .dat (.list (sA.2.map .bool)), .dat (.int (m : Nat)), .dat (encN rw_), .dat (encO A_), x13, x14, x15, x16, x17, x18, x19, x20, x21])
      (xfa_consG (xf_ofG xe_int ⟨0, rfl, by decide⟩) (xfa_consG (xf_ofG xe_int ⟨59, rfl, by decide⟩) (xfa_consG (xf_ofG xe_int ⟨60, rfl, by decide⟩)
        (xfa_consG (δ1 := [.own (scrT K ns Pt q), .own (strmR p_ q_ (n2 + 2)), .dat (.int (0 + (i : Nat))), .dat (encT sA), .dat (encT (lst sA)), .dat dl, .dat dl, .no, .dat (.list ((sA.1 ++ sA.2).map .bool)), .dat (.list (sA.2.map .bool)), .dat (.int (m : Nat)), .dat (encN rw_), .dat (encO A_), x13, x14, x15, x16, x17, x18, x19, x20, x21]) (xf_op op_sub (xf_of (xe_powI xe_int xe_int ⟨by decide, by decide, by decide⟩)) (fun d1 δ1 h1 => ?e1)) (xfa_consG (xf_ofG (xe_powI xe_int xe_int ⟨by decide, by decide, by decide⟩) ⟨10 ^ 18, rfl, Nat.le_refl _⟩) (xfa_consG (δ1 := [.own (scrT K ns Pt q), .own (strmR p_ q_ (n2 + 3)), .dat (.int (0 + (i : Nat))), .dat (encT sA), .dat (encT (lst sA)), .dat dl, .dat dl, .no, .dat (.list ((sA.1 ++ sA.2).map .bool)), .dat (.list (sA.2.map .bool)), .dat (.int (m : Nat)), .dat (encN rw_), .dat (encO A_), x13, x14, x15, x16, x17, x18, x19, x20, x21]) (xf_draw 1 D.below (hr.mono (by decide)) rfl (xfa_of (xa_cons xe_int xa_nil)) ?e2) xfa_nilG))))))
      (fun ds δ h => ⟨by rw [h.2.1]; decide, ds, rfl, h⟩))) (fun ds δ1 h => ⟨h.1, _, _, h.2.2⟩) (fun ds j δ d hJ hd => xg_name 13 sc_law.nd) (fun ds j δ d hJ hd => ?e3) (fun ds δ h => h.2) (fun δ hM => ?e4)
    case e1 =>
      obtain ⟨rfl, rfl⟩ := h1
      refine xf_draw 1 D.below (hr.mono (by decide)) rfl (xfa_of (xa_cons xe_int xa_nil)) ?_
      rintro _ _ ⟨rfl, rfl⟩
      refine ⟨n2 + 1, rfl, ⟨by omega, 9, rfl, by decide, by decide⟩, fun n3 d hq => ?_⟩
      obtain ⟨rfl, j, rfl, h0, h1⟩ := hq
      have h2 := h1 9 rfl
      refine ⟨.int ((10 : Int) ^ (18 : Int).toNat - j), rd_I0 fun _ => .int _, ⟨10 ^ 18 - j.toNat, ?_, Nat.sub_le _ _⟩, rfl⟩
      rw [pow18]
      congr 1
      omega
    case e2 =>
      rintro _ _ ⟨rfl, rfl⟩
      refine ⟨n2 + 2, rfl, ⟨by omega, 200, rfl, by decide, by decide⟩, fun n3 d hq => ?_⟩
      obtain ⟨rfl, j, rfl, h0, h1⟩ := hq
      have h2 := h1 200 rfl
      exact ⟨⟨j.toNat, by rw [Int.toNat_of_nonneg h0], by omega⟩, rfl⟩
    case e3 =>
      obtain ⟨hg, y13, y14, rfl⟩ := hJ
      obtain ⟨m', rfl, hm'⟩ := hg d (List.mem_of_getElem? hd)
      show XB _ [.own (scrT K ns Pt q), .own (strmR p_ q_ (n2 + 3)), .dat (.int (0 + (i : Nat))), .dat (encT sA), .dat (encT (lst sA)), .dat dl, .dat dl, .no, .dat (.list ((sA.1 ++ sA.2).map .bool)), .dat (.list (sA.2.map .bool)), .dat (.int (m : Nat)), .dat (encN rw_), .dat (encO A_), .dat (.int (m' : Nat)), y14, x15, x16, x17, x18, x19, x20, x21] _ _
      have eT : inS sA m' = inS (lst sA) m' := (inS_lst' hne m').symm
      obtain ⟨tr, hT⟩ : ∃ b, b = inS sA m' := ⟨_, rfl⟩
      refine xb_asg 14 (d := .bool tr) (xe_call D.kin (hr.mono (by decide)) (xa_cons (xe_var 3) (xa_cons (xe_var 13) xa_nil)) ⟨sA, m', rfl, hne, by rw [hT]⟩) ?_ sc_law.nd
      show XB _ [.own (scrT K ns Pt q), .own (strmR p_ q_ (n2 + 3)), .dat (.int (0 + (i : Nat))), .dat (encT sA), .dat (encT (lst sA)), .dat dl, .dat dl, .no, .dat (.list ((sA.1 ++ sA.2).map .bool)), .dat (.list (sA.2.map .bool)), .dat (.int (m : Nat)), .dat (encN rw_), .dat (encO A_), .dat (.int (m' : Nat)), .dat (.bool tr), x15, x16, x17, x18, x19, x20, x21] _ _
      have fh : F_has_number [dl, .int (m' : Nat)] (.bool tr) := ⟨_, sA, m', rfl, sl, sz, hm', by rw [hT, eT]⟩
      refine xb_ifR (k := false) (xt_eq (xt_not (xt_tru (xe_call (c_law_same T 3) (hr.mono (by decide)) (xa_cons (xe_lst (xa_cons (xe_call D.chas (hr.mono (by decide)) (xa_cons (xe_var 5) (xa_cons (xe_var 13) xa_nil)) fh) (xa_cons (xe_callK2 (hr.mono (by decide)) (kw_of D.khas (fun _ _ _ _ _ _ _ _ => rfl)) (xe_var 13) (xe_var 5) fh) xa_nil))) (xa_cons (xe_lst (xa_cons (xe_var 14) (xa_cons (xe_var 14) xa_nil))) xa_nil)) ⟨_, rfl, (tree_two (.bl 2 tr) (.bl 2 tr)), rfl⟩))) rfl) (fun h => (nomatch h)) (fun _ => ?_)
      exact xb_nil ⟨hg, _, _, rfl⟩
    obtain ⟨y13, y14, rfl⟩ := hM
    show XB _ [.own (scrT K ns Pt q), .own (strmR p_ q_ (n2 + 3)), .dat (.int (0 + (i : Nat))), .dat (encT sA), .dat (encT (lst sA)), .dat dl, .dat dl, .no, .dat (.list ((sA.1 ++ sA.2).map .bool)), .dat (.list (sA.2.map .bool)), .dat (.int (m : Nat)), .dat (encN rw_), .dat (encO A_), y13, y14, x15, x16, x17, x18, x19, x20, x21] _ _
    refine xb_asgF (P := fun d δ => d ∈ noAll ∧ δ = [.own (scrT K ns Pt q), .own (strmR p_ q_ (n2 + 4)), .dat (.int (0 + (i : Nat))), .dat (encT sA), .dat (encT (lst sA)), .dat dl, .dat dl, .no, .dat (.list ((sA.1 ++ sA.2).map .bool)), .dat (.list (sA.2.map .bool)), .dat (.int (m : Nat)), .dat (encN rw_), .dat (encO A_), y13, y14, x15, x16, x17, x18, x19, x20, x21]) 15 (xf_draw 1 D.kno (hr.mono (by decide)) rfl xfa_nil ?h1) (fun no δ1 h1 => ?_) sc_law.nd
    case h1 =>
      rintro _ _ ⟨rfl, rfl⟩
      refine ⟨n2 + 3, rfl, ⟨by omega, rfl⟩, fun n4 d hq => ?_⟩
      obtain ⟨rfl, h1⟩ := hq
      exact ⟨h1, rfl⟩
    obtain ⟨hno, rfl⟩ := h1
    show XB _ [.own (scrT K ns Pt q), .own (strmR p_ q_ (n2 + 4)), .dat (.int (0 + (i : Nat))), .dat (encT sA), .dat (encT (lst sA)), .dat dl, .dat dl, .no, .dat (.list ((sA.1 ++ sA.2).map .bool)), .dat (.list (sA.2.map .bool)), .dat (.int (m : Nat)), .dat (encN rw_), .dat (encO A_), y13, y14, .dat no, x16, x17, x18, x19, x20, x21] _ _
    have tI : Dl.TreeD 3 (.list [.bool true, .bool true, .bool false, .bool true]) := treeB_ok 3 _ rfl
    refine xb_ifR (k := false) (xt_eq (xt_not (xt_tru (xe_call (c_law_same T 3) (hr.mono (by decide)) (xa_cons (xe_lst (xa_cons (xe_call D.cis (hr.mono (by decide)) (xa_cons (xe_var 5) xa_nil) ⟨_, rfl, .inl ⟨sA, sl, sz, rfl⟩⟩) (xa_cons (xe_callK1 (hr.mono (by decide)) (kw1_of D.kis (fun _ _ _ _ _ _ _ => rfl)) (xe_var 5) ⟨_, rfl, .inl ⟨sA, sl, sz, rfl⟩⟩) (xa_cons (xe_call D.cis (hr.mono (by decide)) (xa_cons (xe_var 15) xa_nil) ⟨_, rfl, .inr ⟨noset_noAll no hno, rfl⟩⟩) (xa_cons (xe_call D.cis (hr.mono (by decide)) (xa_cons (xe_var 4) xa_nil) ⟨_, rfl, .inl ⟨lst sA, .told _, zl, rfl⟩⟩) xa_nil))))) (xa_cons (xe_lst (xa_cons xe_bl (xa_cons xe_bl (xa_cons xe_bl (xa_cons xe_bl xa_nil))))) xa_nil)) ⟨_, rfl, tI, rfl⟩))) rfl) (fun h => (nomatch h)) (fun _ => ?_)
    obtain ⟨g1, _, m1, _⟩ := T.a_least_set.ex
    obtain ⟨g2, _, m2, _⟩ := T.a_first_number.ex
    refine xb_forV (us := [.ref g1, .ref g2]) 16 (fun _ δ => ∃ y16, δ = [.own (scrT K ns Pt q), .own (strmR p_ q_ (n2 + 4)), .dat (.int (0 + (i : Nat))), .dat (encT sA), .dat (encT (lst sA)), .dat dl, .dat dl, .no, .dat (.list ((sA.1 ++ sA.2).map .bool)), .dat (.list (sA.2.map .bool)), .dat (.int (m : Nat)), .dat (encN rw_), .dat (encO A_), y13, y14, .dat no, y16, x17, x18, x19, x20, x21]) (fun δ => ∃ y16, δ = [.own (scrT K ns Pt q), .own (strmR p_ q_ (n2 + 4)), .dat (.int (0 + (i : Nat))), .dat (encT sA), .dat (encT (lst sA)), .dat dl, .dat dl, .no, .dat (.list ((sA.1 ++ sA.2).map .bool)), .dat (.list (sA.2.map .bool)), .dat (.int (m : Nat)), .dat (encN rw_), .dat (encO A_), y13, y14, .dat no, y16, x17, x18, x19, x20, x21]) (L2.PA.weak (pa_cons (pe_glob (v := .ref g1) rfl m1 rfl) (pa_cons (pe_glob (v := .ref g2) rfl m2 rfl) pa_nil)) fun σ H Q q => q) (by exact Nat.le_of_ble_eq_true rfl) ⟨_, rfl⟩ (fun j δ u hJ hu_ => ?k1) (fun δ hJ => hJ) (fun δ hM => ?k2) sc_law.nd
    case k1 =>
      obtain ⟨y16, rfl⟩ := hJ
      obtain ⟨g_, x_, pp, rfl, hx, hmx⟩ : ∃ (g_ : Addr) (x_ pp : Str), u = .ref g_ ∧ DefX P w K mg base 5 x_ [pp] (SpE K (E_need_set ca)) ∧ mg x_ = some (.ref g_) := by
        match j, hu_ with
        | 0, h => cases h; exact ⟨g1, _, _, rfl, DefX.mono' D.rleast (by decide), m1⟩
        | 1, h => cases h; exact ⟨g2, _, _, rfl, D.rfirst, m2⟩
        | j + 2, h => exact absurd h (by simp)
      show XB _ [.own (scrT K ns Pt q), .own (strmR p_ q_ (n2 + 4)), .dat (.int (0 + (i : Nat))), .dat (encT sA), .dat (encT (lst sA)), .dat dl, .dat dl, .no, .dat (.list ((sA.1 ++ sA.2).map .bool)), .dat (.list (sA.2.map .bool)), .dat (.int (m : Nat)), .dat (encN rw_), .dat (encO A_), y13, y14, .dat no, .raw (.ref g_), x17, x18, x19, x20, x21] _ _
      refine xb_ifNotT (xf_lam3 (kl := 5) (k := 8) (ps := ["kind", "thing", "run"]) (d1 := .str "set") (d2 := no) (cl := fun Bc => clErr K Bc ca.BadSet "thing" no) LA ⟨LamX.lamS_by (by kernel_rfl), rfl, fun _ _ _ _ _ => rfl, ⟨[15, 16], fun A outer s H E f c' hrm => lam_err lam_takes (fun g hw => xr_callV 16 hx hmx hrm rfl (xa_cons (xe_var 15) xa_nil) ⟨_, rfl, noset_noAll no hno, rfl, rfl, rfl⟩ hw)⟩, fun _ _ _ _ h => h.1⟩ rfl mR kR (fun s H f Bc Rn => c_krefuses T (kl := 6) (tree_noAll no hno) (by decide) (kraised_BadSet T Er Rn)) (hr.mono (by decide)) xe_str (xe_var 15)) ?_
      exact xb_nil ⟨_, rfl⟩
    obtain ⟨y16, rfl⟩ := hM
    show XB _ [.own (scrT K ns Pt q), .own (strmR p_ q_ (n2 + 4)), .dat (.int (0 + (i : Nat))), .dat (encT sA), .dat (encT (lst sA)), .dat dl, .dat dl, .no, .dat (.list ((sA.1 ++ sA.2).map .bool)), .dat (.list (sA.2.map .bool)), .dat (.int (m : Nat)), .dat (encN rw_), .dat (encO A_), y13, y14, .dat no, y16, x17, x18, x19, x20, x21] _ _
    refine xb_ifNotT (xf_lam3 (kl := 5) (k := 8) (ps := ["kind", "thing", "run"]) (d1 := .str "set") (d2 := no) (cl := fun Bc => clErr K Bc ca.BadSet "thing" no) LA ⟨LamX.lamS_by (by kernel_rfl), rfl, fun _ _ _ _ _ => rfl, ⟨[15], fun A outer s H E f c' hrm => lam_err lam_takes (fun g hw => xr_call D.rhas hrm (xa_cons (xe_var 15) (xa_cons xe_non xa_nil)) (.set (noset_noAll no hno)) hw)⟩, fun _ _ _ _ h => h.1⟩ rfl mR kR (fun s H f Bc Rn => c_krefuses T (kl := 6) (tree_noAll no hno) (by decide) (kraised_BadSet T Er Rn)) (hr.mono (by decide)) xe_str (xe_var 15)) ?_
    refine xb_ifNotT (xf_lam3 (kl := 5) (k := 8) (ps := ["kind", "thing", "run"]) (d1 := .str "set") (d2 := no) (cl := fun Bc => clErr K Bc ca.BadSet "thing" no) LA ⟨LamX.lamS_by (by kernel_rfl), rfl, fun _ _ _ _ _ => rfl, ⟨[15], fun A outer s H E f c' hrm => lam_err lam_takes (fun g hw => xr_call D.rbelow hrm (xa_cons (xe_var 15) (xa_cons xe_non xa_nil)) (.set (noset_noAll no hno)) hw)⟩, fun _ _ _ _ h => h.1⟩ rfl mR kR (fun s H f Bc Rn => c_krefuses T (kl := 6) (tree_noAll no hno) (by decide) (kraised_BadSet T Er Rn)) (hr.mono (by decide)) xe_str (xe_var 15)) ?_
    refine xb_asgF (P := fun d δ => d ∈ oddN ∧ δ = [.own (scrT K ns Pt q), .own (strmR p_ q_ (n2 + 5)), .dat (.int (0 + (i : Nat))), .dat (encT sA), .dat (encT (lst sA)), .dat dl, .dat dl, .no, .dat (.list ((sA.1 ++ sA.2).map .bool)), .dat (.list (sA.2.map .bool)), .dat (.int (m : Nat)), .dat (encN rw_), .dat (encO A_), y13, y14, .dat no, y16, x17, x18, x19, x20, x21]) 17 (xf_callP (c_law_copied T 3) (hr.mono (by decide)) (xfa_cons (P1 := fun d δ => d ∈ oddN ∧ δ = [.own (scrT K ns Pt q), .own (strmR p_ q_ (n2 + 5)), .dat (.int (0 + (i : Nat))), .dat (encT sA), .dat (encT (lst sA)), .dat dl, .dat dl, .no, .dat (.list ((sA.1 ++ sA.2).map .bool)), .dat (.list (sA.2.map .bool)), .dat (.int (m : Nat)), .dat (encN rw_), .dat (encO A_), y13, y14, .dat no, y16, x17, x18, x19, x20, x21]) (PA' := fun ds δ => ∃ d, ds = [d] ∧ d ∈ oddN ∧ δ = [.own (scrT K ns Pt q), .own (strmR p_ q_ (n2 + 5)), .dat (.int (0 + (i : Nat))), .dat (encT sA), .dat (encT (lst sA)), .dat dl, .dat dl, .no, .dat (.list ((sA.1 ++ sA.2).map .bool)), .dat (.list (sA.2.map .bool)), .dat (.int (m : Nat)), .dat (encN rw_), .dat (encO A_), y13, y14, .dat no, y16, x17, x18, x19, x20, x21]) (xf_draw 1 D.pick (hr.mono (by decide)) rfl (xfa_of (ds := [.list oddN]) (xa_cons (xe_lst (xa_cons xe_non (xa_cons (xe_neg xe_int) (xa_cons (xe_eq (d := .int (10 ^ 18 + 1)) (xe_addI (xe_powI xe_int xe_int ⟨by decide, by decide, by decide⟩) xe_int) rfl) (xa_cons xe_bl (xa_cons xe_str (xa_cons (xe_lst (xa_cons xe_int xa_nil)) xa_nil))))))) xa_nil)) ?p1) (fun d1 δ1 h1 => ?p2)) (fun ds δ1 h1 => ?p3)) (fun d δ1 h1 => ?_) sc_law.nd
    case p1 =>
      rintro _ _ ⟨rfl, rfl⟩
      refine ⟨n2 + 4, rfl, ⟨by omega, oddN, rfl, by exact Nat.le_of_ble_eq_true rfl, by exact Nat.le_of_ble_eq_true rfl⟩, fun n3 d hq => ?_⟩
      obtain ⟨rfl, l, e, hm_⟩ := hq
      cases e
      exact ⟨hm_, rfl⟩
    case p2 =>
      obtain ⟨h2, rfl⟩ := h1
      refine xfa_imp xfa_nil ?_
      rintro _ _ ⟨rfl, rfl⟩
      exact ⟨d1, rfl, h2, rfl⟩
    case p3 =>
      obtain ⟨d, rfl, h2, rfl⟩ := h1
      exact ⟨d, ⟨d, rfl, tree_oddN d h2, rfl⟩, h2, rfl⟩
    obtain ⟨hop, rfl⟩ := h1
    show XB _ [.own (scrT K ns Pt q), .own (strmR p_ q_ (n2 + 5)), .dat (.int (0 + (i : Nat))), .dat (encT sA), .dat (encT (lst sA)), .dat dl, .dat dl, .no, .dat (.list ((sA.1 ++ sA.2).map .bool)), .dat (.list (sA.2.map .bool)), .dat (.int (m : Nat)), .dat (encN rw_), .dat (encO A_), y13, y14, .dat no, y16, .dat d, x18, x19, x20, x21] _ _
    refine xb_ifNotT (xf_lam3 (kl := 5) (k := 8) (ps := ["kind", "thing", "run"]) (d1 := .str "number") (d2 := d) (cl := fun Bc => clErr K Bc ca.BadNumber "thing" d) LA ⟨LamX.lamS_by (by kernel_rfl), rfl, fun _ _ _ _ _ => rfl, ⟨[5, 17], fun A outer s H E f c' hrm => lam_err lam_takes (fun g hw => xr_call D.rhas hrm (xa_cons (xe_var 5) (xa_cons (xe_var 17) xa_nil)) (.num sl sz (bad_oddN d hop)) hw)⟩, fun _ _ _ _ h => h.1⟩ rfl mR kR (fun s H f Bc Rn => c_krefuses T (kl := 6) (tree_oddN d hop) (by decide) (kraised_BadNumber T Er Rn)) (hr.mono (by decide)) xe_str (xe_var 17)) ?_
    clear hop
    obtain ⟨y17, e17⟩ : ∃ y, y = Dl.Slot.dat d := ⟨_, rfl⟩
    rw [← e17]
    clear e17 d
    show XB _ [.own (scrT K ns Pt q), .own (strmR p_ q_ (n2 + 5)), .dat (.int (0 + (i : Nat))), .dat (encT sA), .dat (encT (lst sA)), .dat dl, .dat dl, .no, .dat (.list ((sA.1 ++ sA.2).map .bool)), .dat (.list (sA.2.map .bool)), .dat (.int (m : Nat)), .dat (encN rw_), .dat (encO A_), y13, y14, .dat no, y16, y17, x18, x19, x20, x21] _ _
    refine xb_asgF (P := fun d δ => d ∈ oddM ∧ δ = [.own (scrT K ns Pt q), .own (strmR p_ q_ (n2 + 6)), .dat (.int (0 + (i : Nat))), .dat (encT sA), .dat (encT (lst sA)), .dat dl, .dat dl, .no, .dat (.list ((sA.1 ++ sA.2).map .bool)), .dat (.list (sA.2.map .bool)), .dat (.int (m : Nat)), .dat (encN rw_), .dat (encO A_), y13, y14, .dat no, y16, y17, x18, x19, x20, x21]) 17 (xf_callP (c_law_copied T 3) (hr.mono (by decide)) (xfa_cons (P1 := fun d δ => d ∈ oddM ∧ δ = [.own (scrT K ns Pt q), .own (strmR p_ q_ (n2 + 6)), .dat (.int (0 + (i : Nat))), .dat (encT sA), .dat (encT (lst sA)), .dat dl, .dat dl, .no, .dat (.list ((sA.1 ++ sA.2).map .bool)), .dat (.list (sA.2.map .bool)), .dat (.int (m : Nat)), .dat (encN rw_), .dat (encO A_), y13, y14, .dat no, y16, y17, x18, x19, x20, x21]) (PA' := fun ds δ => ∃ d, ds = [d] ∧ d ∈ oddM ∧ δ = [.own (scrT K ns Pt q), .own (strmR p_ q_ (n2 + 6)), .dat (.int (0 + (i : Nat))), .dat (encT sA), .dat (encT (lst sA)), .dat dl, .dat dl, .no, .dat (.list ((sA.1 ++ sA.2).map .bool)), .dat (.list (sA.2.map .bool)), .dat (.int (m : Nat)), .dat (encN rw_), .dat (encO A_), y13, y14, .dat no, y16, y17, x18, x19, x20, x21]) (xf_draw 1 D.pick (hr.mono (by decide)) rfl (xfa_of (ds := [.list oddM]) (xa_cons (xe_lst (xa_cons xe_non (xa_cons (xe_neg xe_int) (xa_cons xe_int (xa_cons xe_bl (xa_cons xe_str (xa_cons (xe_lst (xa_cons xe_int xa_nil)) xa_nil))))))) xa_nil)) ?r1) (fun d1 δ1 h1 => ?r2)) (fun ds δ1 h1 => ?r3)) (fun d δ1 h1 => ?_) sc_law.nd
    case r1 =>
      rintro _ _ ⟨rfl, rfl⟩
      refine ⟨n2 + 5, rfl, ⟨by omega, oddM, rfl, by exact Nat.le_of_ble_eq_true rfl, by exact Nat.le_of_ble_eq_true rfl⟩, fun n3 d hq => ?_⟩
      obtain ⟨rfl, l, e, hm_⟩ := hq
      cases e
      exact ⟨hm_, rfl⟩
    case r2 =>
      obtain ⟨h2, rfl⟩ := h1
      refine xfa_imp xfa_nil ?_
      rintro _ _ ⟨rfl, rfl⟩
      exact ⟨d1, rfl, h2, rfl⟩
    case r3 =>
      obtain ⟨d, rfl, h2, rfl⟩ := h1
      exact ⟨d, ⟨d, rfl, tree_oddM d h2, rfl⟩, h2, rfl⟩
    obtain ⟨hor, rfl⟩ := h1
    show XB _ [.own (scrT K ns Pt q), .own (strmR p_ q_ (n2 + 6)), .dat (.int (0 + (i : Nat))), .dat (encT sA), .dat (encT (lst sA)), .dat dl, .dat dl, .no, .dat (.list ((sA.1 ++ sA.2).map .bool)), .dat (.list (sA.2.map .bool)), .dat (.int (m : Nat)), .dat (encN rw_), .dat (encO A_), y13, y14, .dat no, y16, .dat d, x18, x19, x20, x21] _ _
    refine xb_ifNotT (xf_lam3 (kl := 5) (k := 8) (ps := ["kind", "thing", "run"]) (d1 := .str "many") (d2 := d) (cl := fun Bc => clErr K Bc ca.BadMany "thing" d) LA ⟨LamX.lamS_by (by kernel_rfl), rfl, fun _ _ _ _ _ => rfl, ⟨[5, 17], fun A outer s H E f c' hrm => lam_err lam_takes (fun g hw => xr_call D.rbelow hrm (xa_cons (xe_var 5) (xa_cons (xe_var 17) xa_nil)) (.many sl sz (bad_oddM d hor)) hw)⟩, fun _ _ _ _ h => h.1⟩ rfl mR kR (fun s H f Bc Rn => c_krefuses T (kl := 6) (tree_oddM d hor) (by decide) (kraised_BadMany T Er Rn)) (hr.mono (by decide)) xe_str (xe_var 17)) ?_
    clear hor
    obtain ⟨y17, e17⟩ : ∃ y, y = Dl.Slot.dat d := ⟨_, rfl⟩
    rw [← e17]
    clear e17 d
    show XB _ [.own (scrT K ns Pt q), .own (strmR p_ q_ (n2 + 6)), .dat (.int (0 + (i : Nat))), .dat (encT sA), .dat (encT (lst sA)), .dat dl, .dat dl, .no, .dat (.list ((sA.1 ++ sA.2).map .bool)), .dat (.list (sA.2.map .bool)), .dat (.int (m : Nat)), .dat (encN rw_), .dat (encO A_), y13, y14, .dat no, y16, y17, x18, x19, x20, x21] _ _
    have hk : (0 + (i : Int)) % 2 = 0 ∨ (0 + (i : Int)) % 2 = 1 := by omega
    obtain ⟨lb, elb, lb1, lb2⟩ := rep_59 hk
    refine xb_asgF (P := fun d δ => ∃ (l : List Nat) (n5 : Nat), d = encN l ∧ l.length ≤ 7 ∧ (∀ x ∈ l, x < 60) ∧ n5 ≤ n2 + 13 ∧ δ = [.own (scrT K ns Pt q), .own (strmR p_ q_ (n5)), .dat (.int (0 + (i : Nat))), .dat (encT sA), .dat (encT (lst sA)), .dat dl, .dat dl, .no, .dat (.list ((sA.1 ++ sA.2).map .bool)), .dat (.list (sA.2.map .bool)), .dat (.int (m : Nat)), .dat (encN rw_), .dat (encO A_), y13, y14, .dat no, y16, y17, x18, x19, x20, .no]) 18 (xf_op op_cat (xlE (bd := 6) 21 (fun i_ δ => δ = [.own (scrT K ns Pt q), .own (strmR p_ q_ (n2 + 7 + i_)), .dat (.int (0 + (i : Nat))), .dat (encT sA), .dat (encT (lst sA)), .dat dl, .dat dl, .no, .dat (.list ((sA.1 ++ sA.2).map .bool)), .dat (.list (sA.2.map .bool)), .dat (.int (m : Nat)), .dat (encN rw_), .dat (encO A_), y13, y14, .dat no, y16, y17, x18, x19, x20, .no]) (fun _ d => ∃ m : Nat, d = .int (m : Nat) ∧ m < 60) sc_law.nd (xif_rng1 (P0 := fun ds δ => ds.length ≤ 6 ∧ δ = [.own (scrT K ns Pt q), .own (strmR p_ q_ (n2 + 7)), .dat (.int (0 + (i : Nat))), .dat (encT sA), .dat (encT (lst sA)), .dat dl, .dat dl, .no, .dat (.list ((sA.1 ++ sA.2).map .bool)), .dat (.list (sA.2.map .bool)), .dat (.int (m : Nat)), .dat (encN rw_), .dat (encO A_), y13, y14, .dat no, y16, y17, x18, x19, x20, x21]) T.g_range (xf_draw 1 D.below (hr.mono (by decide)) rfl (xfa_of (xa_cons xe_int xa_nil)) ?l1)) (by decide) (fun ds0 δ1 h => ⟨h.1, by rw [h.2]; rfl⟩) (fun i_ δ' h => by subst h; rfl) (fun _ _ _ _ _ i_ y δ' hi_ hJ => ?l2)) (fun d1 δ1 h1 => ?l3)) (fun d δ1 h1 => ?_) sc_law.nd
    case l1 =>
      rintro _ _ ⟨rfl, rfl⟩
      refine ⟨n2 + 6, rfl, ⟨by omega, 6, rfl, by decide, by decide⟩, fun n3 d hq => ?_⟩
      obtain ⟨rfl, j, rfl, h0, h1⟩ := hq
      have h2 := h1 6 rfl
      refine ⟨j, rfl, by omega, ?_, rfl⟩
      unfold rangeD
      rw [List.length_map, List.length_range]
      omega
    case l2 =>
      subst hJ
      refine xf_draw 1 D.below (hr.mono (by decide)) rfl (xfa_of (xa_cons xe_int xa_nil)) ?_
      rintro _ _ ⟨rfl, rfl⟩
      refine ⟨n2 + 7 + i_, rfl, ⟨by omega, 60, rfl, by decide, by decide⟩, fun n3 d hq => ?_⟩
      obtain ⟨rfl, j, rfl, h0, h1⟩ := hq
      have h2 := h1 60 rfl
      exact ⟨⟨j.toNat, by rw [Int.toNat_of_nonneg h0], by omega⟩, rfl⟩
    case l3 =>
      obtain ⟨ds, rfl, hl1, hl2, rfl⟩ := h1
      obtain ⟨la, rfl, la2⟩ := nats_of hl2
      rw [List.length_map] at hl1
      refine xf_imp (xf_of (xe_rep (xe_lst (xa_cons xe_int xa_nil)) (xe_modI (xe_var 2) xe_int (by decide)) (by omega) (by omega) (by show 1 * _ ≤ 1000000; omega))) ?_
      rintro _ _ ⟨rfl, rfl⟩
      refine ⟨.list (la.map (fun n : Nat => PyData.int (n : Nat)) ++ lb.map (fun n : Nat => PyData.int (n : Nat))), ?_, la ++ lb, n2 + 7 + la.length, ?_, ?_, fun x hx => ?_, by omega, ?_⟩
      · rw [elb]
        exact rd_cat (by rw [List.length_map, List.length_map]; omega)
      · show PyData.list _ = PyData.list _
        rw [List.map_append]
      · rw [List.length_append]; omega
      · rcases List.mem_append.mp hx with e | e
        · exact la2 x e
        · exact lb2 x e
      · rw [List.length_map]
    obtain ⟨l, n5, rfl, ll, lq, hn5, rfl⟩ := h1
    show XB _ [.own (scrT K ns Pt q), .own (strmR p_ q_ (n5)), .dat (.int (0 + (i : Nat))), .dat (encT sA), .dat (encT (lst sA)), .dat dl, .dat dl, .no, .dat (.list ((sA.1 ++ sA.2).map .bool)), .dat (.list (sA.2.map .bool)), .dat (.int (m : Nat)), .dat (encN rw_), .dat (encO A_), y13, y14, .dat no, y16, y17, .dat (encN l), x19, x20, .no] _ _
    have tS : Dl.TreeD 2 (encT (setOf l)) := tree_enc (Nat.le_trans (setOf_fits l).1 (by decide)) (Nat.le_trans (setOf_fits l).2 (by decide))
    obtain ⟨sC, eC⟩ : ∃ t : S, t = ((List.range 60).map fun n => l.contains n, [false]) := ⟨_, rfl⟩
    have eC2 : encT (setOf l) = encT (leastOf sC.1 sC.2) := by rw [eC]; rfl
    have c1 : sC.1.length ≤ 60 := by rw [eC]; show ((List.range 60).map fun n => l.contains n).length ≤ 60; rw [List.length_map, List.length_range]; decide
    have c2 : sC.2.length ≤ 60 := by rw [eC]; show ([false] : List Bool).length ≤ 60; decide
    have c3 : sC.2 ≠ [] := by rw [eC]; exact List.cons_ne_nil _ _
    refine xb_parF (i := 4) (j := 19) (PA' := fun ds δ => ∃ (dp : PyData) (n6 : Nat), ds = [encT (setOf l), dp] ∧ Loose (encN l) dp ∧ n6 ≤ n5 + 201 ∧ δ = [.own (scrT K ns Pt q), .own (strmR p_ q_ (n6)), .dat (.int (0 + (i : Nat))), .dat (encT sA), .dat (encT (lst sA)), .dat dl, .dat dl, .no, .dat (.list ((sA.1 ++ sA.2).map .bool)), .dat (.list (sA.2.map .bool)), .dat (.int (m : Nat)), .dat (encN rw_), .dat (encO A_), y13, y14, .dat no, y16, y17, .dat (encN l), x19, x20, .no]) (xfa_cons (P1 := fun d δ => d = encT (setOf l) ∧ δ = [.own (scrT K ns Pt q), .own (strmR p_ q_ (n5)), .dat (.int (0 + (i : Nat))), .dat (encT sA), .dat (encT (lst sA)), .dat dl, .dat dl, .no, .dat (.list ((sA.1 ++ sA.2).map .bool)), .dat (.list (sA.2.map .bool)), .dat (.int (m : Nat)), .dat (encN rw_), .dat (encO A_), y13, y14, .dat no, y16, y17, .dat (encN l), x19, x20, .no]) (xf_of (xe_call D.least (hr.mono (by decide)) (xa_cons (xe_eq (d := encT sC) (xe_tup (xa_cons (xe_new (xl_lc 13 (fun n : Nat => PyData.bool (l.contains n)) sc_law.nd (xi_rng1 T.g_range xe_int (by decide)) (fun _ _ _ _ _ d hd => xe_eq (xe_cmp hu (xe_var 13) (xe_var 18) (.inD _ _ (shaped_int _) (shaped_nats l))) (by rw [Int.zero_add, any_nat])) (by decide)).val) (xa_cons (xe_lst (xa_cons xe_bl xa_nil)) xa_nil))) (by rw [eC]; show _ = PyData.tuple [.list (((List.range 60).map fun n => l.contains n).map .bool), _]; rw [List.map_map]; rfl)) xa_nil) ⟨sC, rfl, c1, c2, c3, eC2⟩)) (fun d1 δ1 h1 => ?q1)) (fun ds δ1 h1 => ?q2) sc_law.nd
    case q1 =>
      obtain ⟨rfl, rfl⟩ := h1
      refine xfa_cons (P1 := fun d δ => ∃ n6 : Nat, n6 ≤ n5 + 201 ∧ Loose (encN l) d ∧ δ = [.own (scrT K ns Pt q), .own (strmR p_ q_ (n6)), .dat (.int (0 + (i : Nat))), .dat (encT sA), .dat (encT (lst sA)), .dat dl, .dat dl, .no, .dat (.list ((sA.1 ++ sA.2).map .bool)), .dat (.list (sA.2.map .bool)), .dat (.int (m : Nat)), .dat (encN rw_), .dat (encO A_), y13, y14, .dat no, y16, y17, .dat (encN l), x19, x20, .no]) (xf_draw 1 D.loose (hr.mono (by decide)) rfl (xfa_of (xa_cons (xe_var 18) xa_nil)) ?q3) (fun d1 δ1 h1 => ?q4)
      case q3 =>
        rintro _ _ ⟨rfl, rfl⟩
        refine ⟨n5, rfl, ⟨by show n5 + 201 ≤ 2 ^ 38; omega, _, rfl, rows_nats (by omega)⟩, fun n3 d hq => ?_⟩
        obtain ⟨h1, x, e, h2⟩ := hq
        cases e
        exact ⟨n3, h1, h2, rfl⟩
      case q4 =>
        obtain ⟨n6, hn6, h2, rfl⟩ := h1
        refine xfa_imp xfa_nil ?_
        rintro _ _ ⟨rfl, rfl⟩
        exact ⟨_, n6, rfl, h2, hn6, rfl⟩
    case q2 =>
      obtain ⟨dp, n6, rfl, hlp, hn6, rfl⟩ := h1
      refine ⟨_, _, rfl, ?_⟩
      show XB _ [.own (scrT K ns Pt q), .own (strmR p_ q_ (n6)), .dat (.int (0 + (i : Nat))), .dat (encT sA), .dat (encT (setOf l)), .dat dl, .dat dl, .no, .dat (.list ((sA.1 ++ sA.2).map .bool)), .dat (.list (sA.2.map .bool)), .dat (.int (m : Nat)), .dat (encN rw_), .dat (encO A_), y13, y14, .dat no, y16, y17, .dat (encN l), .dat dp, x20, .no] _ _
      have np := loose_nats hlp
      refine xb_ifR (k := false) (xt_eq (xt_not (xt_tru (xe_call (c_law_same T 3) (hr.mono (by decide)) (xa_cons (xe_lst (xa_cons (xe_call D.gset_of (hr.mono (by decide)) (xa_cons (xe_var 19) xa_nil) ⟨_, l, rfl, np, by omega, lq, rfl⟩) (xa_cons (xe_callK1 (hr.mono (by decide)) (kw1_of D.kset_of (fun _ _ _ _ _ _ _ => rfl)) (xe_tupleOf T.g_tuple (xe_var 18) (.lst _)) ⟨_, l, rfl, .tup l, by omega, lq, rfl⟩) xa_nil))) (xa_cons (xe_lst (xa_cons (xe_var 4) (xa_cons (xe_var 4) xa_nil))) xa_nil)) ⟨_, rfl, (tree_two tS tS), rfl⟩))) rfl) (fun h => (nomatch h)) (fun _ => ?_)
      refine xb_asgF (P := fun d δ => d ∈ oddL ∧ δ = [.own (scrT K ns Pt q), .own (strmR p_ q_ (n6 + 1)), .dat (.int (0 + (i : Nat))), .dat (encT sA), .dat (encT (setOf l)), .dat dl, .dat dl, .no, .dat (.list ((sA.1 ++ sA.2).map .bool)), .dat (.list (sA.2.map .bool)), .dat (.int (m : Nat)), .dat (encN rw_), .dat (encO A_), y13, y14, .dat no, y16, y17, .dat (encN l), .dat dp, x20, .no]) 17 (xf_callP (c_law_copied T 3) (hr.mono (by decide)) (xfa_cons (P1 := fun d δ => d ∈ oddL ∧ δ = [.own (scrT K ns Pt q), .own (strmR p_ q_ (n6 + 1)), .dat (.int (0 + (i : Nat))), .dat (encT sA), .dat (encT (setOf l)), .dat dl, .dat dl, .no, .dat (.list ((sA.1 ++ sA.2).map .bool)), .dat (.list (sA.2.map .bool)), .dat (.int (m : Nat)), .dat (encN rw_), .dat (encO A_), y13, y14, .dat no, y16, y17, .dat (encN l), .dat dp, x20, .no]) (PA' := fun ds δ => ∃ d, ds = [d] ∧ d ∈ oddL ∧ δ = [.own (scrT K ns Pt q), .own (strmR p_ q_ (n6 + 1)), .dat (.int (0 + (i : Nat))), .dat (encT sA), .dat (encT (setOf l)), .dat dl, .dat dl, .no, .dat (.list ((sA.1 ++ sA.2).map .bool)), .dat (.list (sA.2.map .bool)), .dat (.int (m : Nat)), .dat (encN rw_), .dat (encO A_), y13, y14, .dat no, y16, y17, .dat (encN l), .dat dp, x20, .no]) (xf_draw 1 D.pick (hr.mono (by decide)) rfl (xfa_of (ds := [.list oddL]) (xa_cons (xe_lst (xa_cons xe_non (xa_cons xe_int (xa_cons xe_str (xa_cons xe_dict0 (xa_cons (xe_lst (xa_cons xe_int xa_nil)) (xa_cons (xe_lst (xa_cons (xe_neg xe_int) xa_nil)) (xa_cons (xe_lst (xa_cons xe_bl xa_nil)) (xa_cons (xe_lst (xa_cons xe_non xa_nil)) (xa_cons (xe_lst (xa_cons xe_int (xa_cons xe_str xa_nil))) (xa_cons (xe_lst (xa_cons xe_int (xa_cons xe_int xa_nil))) xa_nil))))))))))) xa_nil)) ?s1) (fun d1 δ1 h1 => ?s2)) (fun ds δ1 h1 => ?s3)) (fun d δ1 h1 => ?_) sc_law.nd
      case s1 =>
        rintro _ _ ⟨rfl, rfl⟩
        refine ⟨n6, rfl, ⟨by omega, oddL, rfl, by exact Nat.le_of_ble_eq_true rfl, by exact Nat.le_of_ble_eq_true rfl⟩, fun n3 d hq => ?_⟩
        obtain ⟨rfl, l, e, hm_⟩ := hq
        cases e
        exact ⟨hm_, rfl⟩
      case s2 =>
        obtain ⟨h2, rfl⟩ := h1
        refine xfa_imp xfa_nil ?_
        rintro _ _ ⟨rfl, rfl⟩
        exact ⟨d1, rfl, h2, rfl⟩
      case s3 =>
        obtain ⟨d, rfl, h2, rfl⟩ := h1
        exact ⟨d, ⟨d, rfl, tree_oddL d h2, rfl⟩, h2, rfl⟩
      obtain ⟨hos, rfl⟩ := h1
      show XB _ [.own (scrT K ns Pt q), .own (strmR p_ q_ (n6 + 1)), .dat (.int (0 + (i : Nat))), .dat (encT sA), .dat (encT (setOf l)), .dat dl, .dat dl, .no, .dat (.list ((sA.1 ++ sA.2).map .bool)), .dat (.list (sA.2.map .bool)), .dat (.int (m : Nat)), .dat (encN rw_), .dat (encO A_), y13, y14, .dat no, y16, .dat d, .dat (encN l), .dat dp, x20, .no] _ _
      refine xb_ifNotT (xf_lam3 (kl := 5) (k := 8) (ps := ["kind", "thing", "run"]) (d1 := .str "listed") (d2 := d) (cl := fun Bc => clErr K Bc ca.BadListed "thing" d) LA ⟨LamX.lamS_by (by kernel_rfl), rfl, fun _ _ _ _ _ => rfl, ⟨[17], fun A outer s H E f c' hrm => lam_err lam_takes (fun g hw => xr_call D.rset_of (hrm.mono (by decide)) (xa_cons (xe_var 17) xa_nil) ⟨_, rfl, bad_oddL d hos, rfl, rfl, rfl⟩ hw)⟩, fun _ _ _ _ h => h.1⟩ rfl mR kR (fun s H f Bc Rn => c_krefuses T (kl := 6) (tree_oddL d hos) (by decide) (kraised_BadListed T Er Rn)) (hr.mono (by decide)) xe_str (xe_var 17)) ?_
      exact xb_nil ⟨n6 + 1, _, _, _, _, _, _, _, _, _, _, _, _, _, _, _, _, _, _, _, _, by omega, rfl⟩
  case last =>
  obtain ⟨n, x2, x3, x4, x5, x6, x7, x8, x9, x10, x11, x12, x13, x14, x15, x16, x17, x18, x19, x20, x21, rfl⟩ := hM
  have g1 : (([], [true, false]) : S) = lst ([true, false], [true, false]) := by decide +kernel
  have g2 : (([true, true], [true, false]) : S) = lst ([true, true], [true, false]) := by decide +kernel
  have g3 : (([], [false]) : S) = setOf [] := by decide +kernel
  have z1 : Sz ([true, false], [true, false]) := ⟨by decide, by decide, by decide⟩
  have z2 : Sz ([true, true], [true, false]) := ⟨by decide, by decide, by decide⟩
  refine xb_asg 20 (d := .list [encT ([], [true, false]), encT ([true, true], [true, false]), encT ([], [false])]) (xe_lst (xa_cons (xe_call D.cleast (hr.mono (by decide)) (xa_cons (xe_tup (xa_cons (xe_lst (xa_cons xe_bl (xa_cons xe_bl xa_nil))) (xa_cons (xe_lst (xa_cons xe_bl (xa_cons xe_bl xa_nil))) xa_nil))) xa_nil) ⟨_, ([true, false], [true, false]), rfl, .told ([true, false], [true, false]), z1, congrArg encT g1⟩) (xa_cons (xe_call D.cleast (hr.mono (by decide)) (xa_cons (xe_tup (xa_cons (xe_lst (xa_cons xe_bl (xa_cons xe_bl xa_nil))) (xa_cons (xe_lst (xa_cons xe_bl (xa_cons xe_bl xa_nil))) xa_nil))) xa_nil) ⟨_, ([true, true], [true, false]), rfl, .told ([true, true], [true, false]), z2, congrArg encT g2⟩) (xa_cons (xe_call D.gset_of (hr.mono (by decide)) (xa_cons (xe_lst xa_nil) xa_nil) ⟨_, [], rfl, .lst [], by decide, fun n h => (nomatch h), congrArg encT g3⟩) xa_nil)))) ?_ sc_law.nd
  show XB _ [.own (scrT K ns Pt q), .own (strmR p_ q_ (n)), x2, x3, x4, x5, x6, x7, x8, x9, x10, x11, x12, x13, x14, x15, x16, x17, x18, x19, .dat (.list [encT ([], [true, false]), encT ([true, true], [true, false]), encT ([], [false])]), x21] _ _
  have tF : Dl.TreeD 3 (.list [encT ([], [true, false]), encT ([true, true], [true, false]), encT ([], [false])]) := treeB_ok 3 _ (by decide +kernel)
  exact xb_ret (xe_call (c_law_same T 3) (hr.mono (by decide)) (xa_cons (xe_var 20) (xa_cons (xe_lst (xa_cons (xe_tup (xa_cons (xe_lst xa_nil) (xa_cons (xe_lst (xa_cons xe_bl (xa_cons xe_bl xa_nil))) xa_nil))) (xa_cons (xe_tup (xa_cons (xe_lst (xa_cons xe_bl (xa_cons xe_bl xa_nil))) (xa_cons (xe_lst (xa_cons xe_bl (xa_cons xe_bl xa_nil))) xa_nil))) (xa_cons (xe_tup (xa_cons (xe_lst xa_nil) (xa_cons (xe_lst (xa_cons xe_bl xa_nil)) xa_nil))) xa_nil)))) xa_nil)) ⟨_, rfl, tF, rfl⟩) rfl
end
end K13

set_option Elab.async false
set_option linter.all false
set_option maxRecDepth 100000
set_option maxHeartbeats 4000000
namespace K13
open PySem PySem.Spec PyProof.Rows L2 Dl Sm
theorem kt_all {P : Program} {w : World} {K : PySem.W.Frag} {mg : Str → Option Value} {base : Heap} {ca : CA} (T : Txt K mg) (Er : Err K mg ca) : Kt P w K mg base ca := by
  have c_is_row := K13.c_is_row (P := P) (w := w) (base := base) T
  have c_is_truths := K13.c_is_truths (P := P) (w := w) (base := base) T c_is_row
  have c_round_size := K13.c_round_size (P := P) (w := w) (base := base) T
  have c_least_of := K13.c_least_of (P := P) (w := w) (base := base) T c_round_size
  have c_set_in := K13.c_set_in (P := P) (w := w) (base := base) T c_is_row c_is_truths c_least_of
  have c_need_set := K13.c_need_set (P := P) (w := w) (base := base) T c_set_in
  have c_told_set := K13.c_told_set (P := P) (w := w) (base := base) T
  have c_in_set := K13.c_in_set (P := P) (w := w) (base := base) T
  have c_is_number := K13.c_is_number (P := P) (w := w) (base := base) T
  have c_first_of := K13.c_first_of (P := P) (w := w) (base := base) T c_in_set
  have c_has_number := K13.c_has_number (P := P) (w := w) (base := base) T c_in_set c_is_number c_need_set
  have c_set_of := K13.c_set_of (P := P) (w := w) (base := base) T c_is_number c_is_row c_least_of c_told_set
  have c_numbers_below := K13.c_numbers_below (P := P) (w := w) (base := base) T c_in_set c_is_number c_need_set
  have c_first_number := K13.c_first_number (P := P) (w := w) (base := base) T c_first_of c_need_set
  have n_is_truths := K13.n_is_truths (P := P) (w := w) (base := base) T c_is_row
  have n_is_number := K13.n_is_number (P := P) (w := w) (base := base) T
  have n_set_in := K13.n_set_in (P := P) (w := w) (base := base) T c_is_row c_is_truths n_is_truths
  have r_need_set := K13.r_need_set (P := P) (w := w) (base := base) T Er n_set_in
  have r_told_set := K13.r_told_set (P := P) (w := w) (base := base) T Er
  have f_told_set := K13.f_told_set (P := P) (w := w) (base := base) T
  have c_least_set := K13.c_least_set (P := P) (w := w) (base := base) T c_set_in c_told_set
  have f_least_set := K13.f_least_set (P := P) (w := w) (base := base) T c_set_in f_told_set
  have k_least_set := K13.k_least_set (P := P) (w := w) (base := base) T c_set_in f_told_set
  have r_least_set := K13.r_least_set (P := P) (w := w) (base := base) T Er n_set_in
  have k_is_set := K13.k_is_set (P := P) (w := w) (base := base) T c_set_in n_set_in
  have c_is_set := K13.c_is_set (P := P) (w := w) (base := base) T k_is_set
  have g_is_number := K13.g_is_number (P := P) (w := w) (base := base) T
  have f_numbers_below := K13.f_numbers_below (P := P) (w := w) (base := base) T c_in_set c_is_number c_need_set
  have k_numbers_below := K13.k_numbers_below (P := P) (w := w) (base := base) T c_in_set c_is_number c_need_set
  have r_numbers_below := K13.r_numbers_below (P := P) (w := w) (base := base) T Er c_need_set n_is_number r_need_set
  have r_has_number := K13.r_has_number (P := P) (w := w) (base := base) T Er c_need_set n_is_number r_need_set
  have r_first_number := K13.r_first_number (P := P) (w := w) (base := base) T c_first_of r_need_set
  have k_set_of := K13.k_set_of (P := P) (w := w) (base := base) T c_is_number c_is_row c_least_of c_told_set
  have g_set_of := K13.g_set_of (P := P) (w := w) (base := base) T k_set_of
  have r_set_of := K13.r_set_of (P := P) (w := w) (base := base) T Er g_is_number c_is_row
  have k_has_number := K13.k_has_number (P := P) (w := w) (base := base) T c_in_set c_is_number c_need_set
  have k_first_number := K13.k_first_number (P := P) (w := w) (base := base) T c_first_of c_need_set
  have c_law_below := K13.c_law_below (P := P) (w := w) (base := base) T
  have c_law_start := K13.c_law_start (P := P) (w := w) (base := base) T
  have c_law_chance := K13.c_law_chance (P := P) (w := w) (base := base) T c_law_below
  have c_law_ktruths := K13.c_law_ktruths (P := P) (w := w) (base := base) T c_law_chance
  have c_law_kset := K13.c_law_kset (P := P) (w := w) (base := base) T c_law_below c_law_chance c_law_ktruths
  have c_law_kset_in := K13.c_law_kset_in (P := P) (w := w) (base := base) T
  have c_law_kset_form := K13.c_law_kset_form (P := P) (w := w) (base := base) T
  have c_law_kset_least := K13.c_law_kset_least (P := P) (w := w) (base := base) T c_law_kset_form c_law_kset_in
  have c_law_pick := K13.c_law_pick (P := P) (w := w) (base := base) T c_law_below
  have c_law_kno_set := K13.c_law_kno_set (P := P) (w := w) (base := base) T c_law_pick
  exact ⟨c_law_start, c_law_below, c_law_kset, c_law_loose T c_law_below 2 (by decide), c_law_kno_set, c_law_pick, c_law_kset_in, c_law_kset_least, c_least_set, f_least_set, k_least_set, r_least_set, k_is_set, c_is_set, f_numbers_below, k_numbers_below, r_numbers_below, c_has_number, k_has_number, r_has_number, c_first_number, k_first_number, r_first_number, k_set_of, g_set_of, r_set_of⟩
end K13

set_option Elab.async false
set_option linter.all false
set_option maxRecDepth 100000
set_option maxHeartbeats 4000000
namespace K13
open PySem PySem.Spec PyProof.Rows L2 Dl
theorem at_mk {K : PySem.W.Frag} {h : Heap} {mg : Str → Option Value} {x : Str} {st : Stmt} {ps : List Str} {f : Addr} {oc : Value} {od an : Option Addr} {osl : Array (Option Value)} {kV doc pm cdv ct : Value} (X : K.In h) (G : h.Ns mainGlobals mg)
    (hb : ∀ (kV doc pm : Value) (an : Option Addr) (cdv ct : Value) (us : List Value), us.length = ps.length → bindArgs (PySem.W.fnOf x x (defArgs st) (defBody st) (defScope st) .none kV doc pm an cdv ct) ⟨us, []⟩ = pure (ps.zip us))
    (a : PySem.W.nsIn K mainGlobals x = some (some (.ref f))) (l : K.lookup f = some ⟨oc, od, .func (PySem.W.fnOf x x (defArgs st) (defBody st) (defScope st) .none kV doc pm an cdv ct), osl⟩) (c : PySem.W.codeIn K cdv x = true) (k : PySem.W.keepIn K (.ref f) = true) : At K mg x st ps :=
  ⟨f, _, PySem.W.mg_of X G a, fun_mk l c k, (fun_mk l c k).binds hb⟩
theorem int_mk {K : PySem.W.Frag} {h : Heap} {mg : Str → Option Value} {x : Str} {i : Int} {t : Tok} (X : K.In h) (G : h.Ns mainGlobals mg) (a : PySem.W.nsIn K mainGlobals x = some (some (.int i t))) : ∃ t, mg x = some (.int i t) := ⟨t, PySem.W.mg_of X G a⟩
theorem own_mk {K : PySem.W.Frag} {C f : Addr} {fld qual : Str} {st : Stmt} {ps : List Str} {nm q : Str} {N : Addr} {bs bm sub : List Value} {sn : List Str} {ab : Bool} {col : Option Bool} {dd : Option Addr} {m0 m1 m2 m3 m5 : Option Value} {oc kV doc pm cdv ct : Value} {od an : Option Addr} {osl : Array (Option Value)}
    (hb : ∀ (kV doc pm : Value) (an : Option Addr) (cdv ct : Value) (us : List Value), us.length = ps.length → bindArgs (PySem.W.fnOf "__init__" qual (defArgs st) (defBody st) (defScope st) .none kV doc pm an cdv ct) ⟨us, []⟩ = pure (ps.zip us))
    (xL : K.lookup C = some (excClassObj nm q C N bs bm true sn sub ab col dd m0 m1 m2 m3 m5 "ValueError.__new__")) (bV : PySem.HandSPX.refsVE bm = true)
    (sa : PySem.W.findIn K (.ref C) "__setattr__" = some (some (.builtin "object.__setattr__"))) (ga : PySem.W.findIn K (.ref C) "__getattribute__" = some (some (.builtin "BaseException.__getattribute__"))) (gg : PySem.W.findIn K (.ref C) "__getattr__" = some none) (nb : PySem.W.findIn K (.ref C) fld = some none)
    (a1 : PySem.W.findIn K (.ref C) "__init__" = some (some (.ref f))) (t1 : PySem.W.typeIn K (.ref f) = some (.type "function"))
    (l1 : K.lookup f = some ⟨oc, od, .func (PySem.W.fnOf "__init__" qual (defArgs st) (defBody st) (defScope st) .none kV doc pm an cdv ct), osl⟩) (c1 : PySem.W.codeIn K cdv qual = true) (k1 : PySem.W.keepIn K (.ref f) = true)
    (kC : PySem.W.keepIn K (.ref C) = true) (eC : PySem.W.subIn K (.ref C) (.type "BaseException") = some true) (tC : PySem.W.typeIn K (.ref C) = some (.type "type")) (hC : PySem.W.hasDictIn K C = true) : OwnErr K C fld qual st ps :=
  ⟨⟨⟨nm, q, N, bs, bm, sn, sub, ab, col, dd, m0, m1, m2, m3, m5, xL, bV⟩, sa, eC, tC, kC⟩, ⟨ga, gg, eC, hC⟩, nb, f, _, a1, t1, fun_mk l1 c1 k1, (fun_mk l1 c1 k1).binds hb⟩
theorem err_mk {K : PySem.W.Frag} {h : Heap} {mg : Str → Option Value} {CBadBy CBadLength CBadListed CBadMany CBadName CBadNumber CBadOther CBadPattern CBadProgram CBadSet CBadSigns CBadTable CBadText CBadWord CNoKind CTooMany : Addr} (X : K.In h) (G : h.Ns mainGlobals mg)
    (aBadBy : PySem.W.nsIn K mainGlobals "BadBy" = some (some (.ref CBadBy))) (bBadBy : PySem.W.subIn K (.ref CBadBy) (.type "BaseException") = some true) (hBadBy : PySem.W.hasDictIn K CBadBy = true) (tBadBy : PySem.W.typeIn K (.ref CBadBy) = some (.type "type")) (aBadLength : PySem.W.nsIn K mainGlobals "BadLength" = some (some (.ref CBadLength))) (bBadLength : PySem.W.subIn K (.ref CBadLength) (.type "BaseException") = some true) (hBadLength : PySem.W.hasDictIn K CBadLength = true) (tBadLength : PySem.W.typeIn K (.ref CBadLength) = some (.type "type")) (aBadListed : PySem.W.nsIn K mainGlobals "BadListed" = some (some (.ref CBadListed))) (bBadListed : PySem.W.subIn K (.ref CBadListed) (.type "BaseException") = some true) (hBadListed : PySem.W.hasDictIn K CBadListed = true) (tBadListed : PySem.W.typeIn K (.ref CBadListed) = some (.type "type")) (aBadMany : PySem.W.nsIn K mainGlobals "BadMany" = some (some (.ref CBadMany))) (bBadMany : PySem.W.subIn K (.ref CBadMany) (.type "BaseException") = some true) (hBadMany : PySem.W.hasDictIn K CBadMany = true) (tBadMany : PySem.W.typeIn K (.ref CBadMany) = some (.type "type")) (aBadName : PySem.W.nsIn K mainGlobals "BadName" = some (some (.ref CBadName))) (bBadName : PySem.W.subIn K (.ref CBadName) (.type "BaseException") = some true) (hBadName : PySem.W.hasDictIn K CBadName = true) (tBadName : PySem.W.typeIn K (.ref CBadName) = some (.type "type")) (aBadNumber : PySem.W.nsIn K mainGlobals "BadNumber" = some (some (.ref CBadNumber))) (bBadNumber : PySem.W.subIn K (.ref CBadNumber) (.type "BaseException") = some true) (hBadNumber : PySem.W.hasDictIn K CBadNumber = true) (tBadNumber : PySem.W.typeIn K (.ref CBadNumber) = some (.type "type")) (aBadOther : PySem.W.nsIn K mainGlobals "BadOther" = some (some (.ref CBadOther))) (bBadOther : PySem.W.subIn K (.ref CBadOther) (.type "BaseException") = some true) (hBadOther : PySem.W.hasDictIn K CBadOther = true) (tBadOther : PySem.W.typeIn K (.ref CBadOther) = some (.type "type")) (aBadPattern : PySem.W.nsIn K mainGlobals "BadPattern" = some (some (.ref CBadPattern))) (bBadPattern : PySem.W.subIn K (.ref CBadPattern) (.type "BaseException") = some true) (hBadPattern : PySem.W.hasDictIn K CBadPattern = true) (tBadPattern : PySem.W.typeIn K (.ref CBadPattern) = some (.type "type")) (aBadProgram : PySem.W.nsIn K mainGlobals "BadProgram" = some (some (.ref CBadProgram))) (bBadProgram : PySem.W.subIn K (.ref CBadProgram) (.type "BaseException") = some true) (hBadProgram : PySem.W.hasDictIn K CBadProgram = true) (tBadProgram : PySem.W.typeIn K (.ref CBadProgram) = some (.type "type")) (aBadSet : PySem.W.nsIn K mainGlobals "BadSet" = some (some (.ref CBadSet))) (bBadSet : PySem.W.subIn K (.ref CBadSet) (.type "BaseException") = some true) (hBadSet : PySem.W.hasDictIn K CBadSet = true) (tBadSet : PySem.W.typeIn K (.ref CBadSet) = some (.type "type")) (aBadSigns : PySem.W.nsIn K mainGlobals "BadSigns" = some (some (.ref CBadSigns))) (bBadSigns : PySem.W.subIn K (.ref CBadSigns) (.type "BaseException") = some true) (hBadSigns : PySem.W.hasDictIn K CBadSigns = true) (tBadSigns : PySem.W.typeIn K (.ref CBadSigns) = some (.type "type")) (aBadTable : PySem.W.nsIn K mainGlobals "BadTable" = some (some (.ref CBadTable))) (bBadTable : PySem.W.subIn K (.ref CBadTable) (.type "BaseException") = some true) (hBadTable : PySem.W.hasDictIn K CBadTable = true) (tBadTable : PySem.W.typeIn K (.ref CBadTable) = some (.type "type")) (aBadText : PySem.W.nsIn K mainGlobals "BadText" = some (some (.ref CBadText))) (bBadText : PySem.W.subIn K (.ref CBadText) (.type "BaseException") = some true) (hBadText : PySem.W.hasDictIn K CBadText = true) (tBadText : PySem.W.typeIn K (.ref CBadText) = some (.type "type")) (aBadWord : PySem.W.nsIn K mainGlobals "BadWord" = some (some (.ref CBadWord))) (bBadWord : PySem.W.subIn K (.ref CBadWord) (.type "BaseException") = some true) (hBadWord : PySem.W.hasDictIn K CBadWord = true) (tBadWord : PySem.W.typeIn K (.ref CBadWord) = some (.type "type")) (aNoKind : PySem.W.nsIn K mainGlobals "NoKind" = some (some (.ref CNoKind))) (bNoKind : PySem.W.subIn K (.ref CNoKind) (.type "BaseException") = some true) (hNoKind : PySem.W.hasDictIn K CNoKind = true) (tNoKind : PySem.W.typeIn K (.ref CNoKind) = some (.type "type")) (aTooMany : PySem.W.nsIn K mainGlobals "TooMany" = some (some (.ref CTooMany))) (bTooMany : PySem.W.subIn K (.ref CTooMany) (.type "BaseException") = some true) (hTooMany : PySem.W.hasDictIn K CTooMany = true) (tTooMany : PySem.W.typeIn K (.ref CTooMany) = some (.type "type")) (oBadSet : OwnErr K CBadSet "thing" "BadSet.__init__" i_BadSet ["self", "thing"]) (oTooMany : OwnErr K CTooMany "many" "TooMany.__init__" i_TooMany ["self", "many"]) (oBadNumber : OwnErr K CBadNumber "thing" "BadNumber.__init__" i_BadNumber ["self", "thing"]) (oBadListed : OwnErr K CBadListed "thing" "BadListed.__init__" i_BadListed ["self", "thing"]) (oBadMany : OwnErr K CBadMany "thing" "BadMany.__init__" i_BadMany ["self", "thing"]) (sBadSet_BadText : PySem.W.subIn K (.ref CBadSet) (.ref CBadText) = some false) (sBadSet_BadPattern : PySem.W.subIn K (.ref CBadSet) (.ref CBadPattern) = some false) (sBadSet_BadProgram : PySem.W.subIn K (.ref CBadSet) (.ref CBadProgram) = some false) (sBadSet_BadSigns : PySem.W.subIn K (.ref CBadSet) (.ref CBadSigns) = some false) (sBadSet_BadTable : PySem.W.subIn K (.ref CBadSet) (.ref CBadTable) = some false) (sBadSet_BadWord : PySem.W.subIn K (.ref CBadSet) (.ref CBadWord) = some false) (sBadSet_BadName : PySem.W.subIn K (.ref CBadSet) (.ref CBadName) = some false) (sBadSet_BadOther : PySem.W.subIn K (.ref CBadSet) (.ref CBadOther) = some false) (sBadSet_BadMany : PySem.W.subIn K (.ref CBadSet) (.ref CBadMany) = some false) (sBadSet_BadLength : PySem.W.subIn K (.ref CBadSet) (.ref CBadLength) = some false) (sBadSet_NoKind : PySem.W.subIn K (.ref CBadSet) (.ref CNoKind) = some false) (sBadSet_BadSet : PySem.W.subIn K (.ref CBadSet) (.ref CBadSet) = some true) (sTooMany_BadText : PySem.W.subIn K (.ref CTooMany) (.ref CBadText) = some false) (sTooMany_BadPattern : PySem.W.subIn K (.ref CTooMany) (.ref CBadPattern) = some false) (sTooMany_BadProgram : PySem.W.subIn K (.ref CTooMany) (.ref CBadProgram) = some false) (sTooMany_BadSigns : PySem.W.subIn K (.ref CTooMany) (.ref CBadSigns) = some false) (sTooMany_BadTable : PySem.W.subIn K (.ref CTooMany) (.ref CBadTable) = some false) (sTooMany_BadWord : PySem.W.subIn K (.ref CTooMany) (.ref CBadWord) = some false) (sTooMany_BadName : PySem.W.subIn K (.ref CTooMany) (.ref CBadName) = some false) (sTooMany_BadOther : PySem.W.subIn K (.ref CTooMany) (.ref CBadOther) = some false) (sTooMany_BadMany : PySem.W.subIn K (.ref CTooMany) (.ref CBadMany) = some false) (sTooMany_BadLength : PySem.W.subIn K (.ref CTooMany) (.ref CBadLength) = some false) (sTooMany_NoKind : PySem.W.subIn K (.ref CTooMany) (.ref CNoKind) = some false) (sTooMany_BadSet : PySem.W.subIn K (.ref CTooMany) (.ref CBadSet) = some false) (sTooMany_BadNumber : PySem.W.subIn K (.ref CTooMany) (.ref CBadNumber) = some false) (sTooMany_BadListed : PySem.W.subIn K (.ref CTooMany) (.ref CBadListed) = some false) (sTooMany_BadBy : PySem.W.subIn K (.ref CTooMany) (.ref CBadBy) = some false) (sTooMany_TooMany : PySem.W.subIn K (.ref CTooMany) (.ref CTooMany) = some true) (sBadNumber_BadText : PySem.W.subIn K (.ref CBadNumber) (.ref CBadText) = some false) (sBadNumber_BadPattern : PySem.W.subIn K (.ref CBadNumber) (.ref CBadPattern) = some false) (sBadNumber_BadProgram : PySem.W.subIn K (.ref CBadNumber) (.ref CBadProgram) = some false) (sBadNumber_BadSigns : PySem.W.subIn K (.ref CBadNumber) (.ref CBadSigns) = some false) (sBadNumber_BadTable : PySem.W.subIn K (.ref CBadNumber) (.ref CBadTable) = some false) (sBadNumber_BadWord : PySem.W.subIn K (.ref CBadNumber) (.ref CBadWord) = some false) (sBadNumber_BadName : PySem.W.subIn K (.ref CBadNumber) (.ref CBadName) = some false) (sBadNumber_BadOther : PySem.W.subIn K (.ref CBadNumber) (.ref CBadOther) = some false) (sBadNumber_BadMany : PySem.W.subIn K (.ref CBadNumber) (.ref CBadMany) = some false) (sBadNumber_BadLength : PySem.W.subIn K (.ref CBadNumber) (.ref CBadLength) = some false) (sBadNumber_NoKind : PySem.W.subIn K (.ref CBadNumber) (.ref CNoKind) = some false) (sBadNumber_BadSet : PySem.W.subIn K (.ref CBadNumber) (.ref CBadSet) = some false) (sBadNumber_BadNumber : PySem.W.subIn K (.ref CBadNumber) (.ref CBadNumber) = some true) (sBadListed_BadText : PySem.W.subIn K (.ref CBadListed) (.ref CBadText) = some false) (sBadListed_BadPattern : PySem.W.subIn K (.ref CBadListed) (.ref CBadPattern) = some false) (sBadListed_BadProgram : PySem.W.subIn K (.ref CBadListed) (.ref CBadProgram) = some false) (sBadListed_BadSigns : PySem.W.subIn K (.ref CBadListed) (.ref CBadSigns) = some false) (sBadListed_BadTable : PySem.W.subIn K (.ref CBadListed) (.ref CBadTable) = some false) (sBadListed_BadWord : PySem.W.subIn K (.ref CBadListed) (.ref CBadWord) = some false) (sBadListed_BadName : PySem.W.subIn K (.ref CBadListed) (.ref CBadName) = some false) (sBadListed_BadOther : PySem.W.subIn K (.ref CBadListed) (.ref CBadOther) = some false) (sBadListed_BadMany : PySem.W.subIn K (.ref CBadListed) (.ref CBadMany) = some false) (sBadListed_BadLength : PySem.W.subIn K (.ref CBadListed) (.ref CBadLength) = some false) (sBadListed_NoKind : PySem.W.subIn K (.ref CBadListed) (.ref CNoKind) = some false) (sBadListed_BadSet : PySem.W.subIn K (.ref CBadListed) (.ref CBadSet) = some false) (sBadListed_BadNumber : PySem.W.subIn K (.ref CBadListed) (.ref CBadNumber) = some false) (sBadListed_BadListed : PySem.W.subIn K (.ref CBadListed) (.ref CBadListed) = some true) (sBadMany_BadText : PySem.W.subIn K (.ref CBadMany) (.ref CBadText) = some false) (sBadMany_BadPattern : PySem.W.subIn K (.ref CBadMany) (.ref CBadPattern) = some false) (sBadMany_BadProgram : PySem.W.subIn K (.ref CBadMany) (.ref CBadProgram) = some false) (sBadMany_BadSigns : PySem.W.subIn K (.ref CBadMany) (.ref CBadSigns) = some false) (sBadMany_BadTable : PySem.W.subIn K (.ref CBadMany) (.ref CBadTable) = some false) (sBadMany_BadWord : PySem.W.subIn K (.ref CBadMany) (.ref CBadWord) = some false) (sBadMany_BadName : PySem.W.subIn K (.ref CBadMany) (.ref CBadName) = some false) (sBadMany_BadOther : PySem.W.subIn K (.ref CBadMany) (.ref CBadOther) = some false) (sBadMany_BadMany : PySem.W.subIn K (.ref CBadMany) (.ref CBadMany) = some true) : Err K mg ⟨CBadBy, CBadLength, CBadListed, CBadMany, CBadName, CBadNumber, CBadOther, CBadPattern, CBadProgram, CBadSet, CBadSigns, CBadTable, CBadText, CBadWord, CNoKind, CTooMany⟩ where
  m_BadBy := PySem.W.mg_of X G aBadBy
  m_BadLength := PySem.W.mg_of X G aBadLength
  m_BadListed := PySem.W.mg_of X G aBadListed
  m_BadMany := PySem.W.mg_of X G aBadMany
  m_BadName := PySem.W.mg_of X G aBadName
  m_BadNumber := PySem.W.mg_of X G aBadNumber
  m_BadOther := PySem.W.mg_of X G aBadOther
  m_BadPattern := PySem.W.mg_of X G aBadPattern
  m_BadProgram := PySem.W.mg_of X G aBadProgram
  m_BadSet := PySem.W.mg_of X G aBadSet
  m_BadSigns := PySem.W.mg_of X G aBadSigns
  m_BadTable := PySem.W.mg_of X G aBadTable
  m_BadText := PySem.W.mg_of X G aBadText
  m_BadWord := PySem.W.mg_of X G aBadWord
  m_NoKind := PySem.W.mg_of X G aNoKind
  m_TooMany := PySem.W.mg_of X G aTooMany
  o_BadSet := oBadSet
  e_BadSet_BadText := PySem.W.exm_ref bBadText hBadText tBadText sBadSet_BadText
  e_BadSet_BadPattern := PySem.W.exm_ref bBadPattern hBadPattern tBadPattern sBadSet_BadPattern
  e_BadSet_BadProgram := PySem.W.exm_ref bBadProgram hBadProgram tBadProgram sBadSet_BadProgram
  e_BadSet_BadSigns := PySem.W.exm_ref bBadSigns hBadSigns tBadSigns sBadSet_BadSigns
  e_BadSet_BadTable := PySem.W.exm_ref bBadTable hBadTable tBadTable sBadSet_BadTable
  e_BadSet_BadWord := PySem.W.exm_ref bBadWord hBadWord tBadWord sBadSet_BadWord
  e_BadSet_BadName := PySem.W.exm_ref bBadName hBadName tBadName sBadSet_BadName
  e_BadSet_BadOther := PySem.W.exm_ref bBadOther hBadOther tBadOther sBadSet_BadOther
  e_BadSet_BadMany := PySem.W.exm_ref bBadMany hBadMany tBadMany sBadSet_BadMany
  e_BadSet_BadLength := PySem.W.exm_ref bBadLength hBadLength tBadLength sBadSet_BadLength
  e_BadSet_NoKind := PySem.W.exm_ref bNoKind hNoKind tNoKind sBadSet_NoKind
  e_BadSet_BadSet := PySem.W.exm_ref bBadSet hBadSet tBadSet sBadSet_BadSet
  o_TooMany := oTooMany
  e_TooMany_BadText := PySem.W.exm_ref bBadText hBadText tBadText sTooMany_BadText
  e_TooMany_BadPattern := PySem.W.exm_ref bBadPattern hBadPattern tBadPattern sTooMany_BadPattern
  e_TooMany_BadProgram := PySem.W.exm_ref bBadProgram hBadProgram tBadProgram sTooMany_BadProgram
  e_TooMany_BadSigns := PySem.W.exm_ref bBadSigns hBadSigns tBadSigns sTooMany_BadSigns
  e_TooMany_BadTable := PySem.W.exm_ref bBadTable hBadTable tBadTable sTooMany_BadTable
  e_TooMany_BadWord := PySem.W.exm_ref bBadWord hBadWord tBadWord sTooMany_BadWord
  e_TooMany_BadName := PySem.W.exm_ref bBadName hBadName tBadName sTooMany_BadName
  e_TooMany_BadOther := PySem.W.exm_ref bBadOther hBadOther tBadOther sTooMany_BadOther
  e_TooMany_BadMany := PySem.W.exm_ref bBadMany hBadMany tBadMany sTooMany_BadMany
  e_TooMany_BadLength := PySem.W.exm_ref bBadLength hBadLength tBadLength sTooMany_BadLength
  e_TooMany_NoKind := PySem.W.exm_ref bNoKind hNoKind tNoKind sTooMany_NoKind
  e_TooMany_BadSet := PySem.W.exm_ref bBadSet hBadSet tBadSet sTooMany_BadSet
  e_TooMany_BadNumber := PySem.W.exm_ref bBadNumber hBadNumber tBadNumber sTooMany_BadNumber
  e_TooMany_BadListed := PySem.W.exm_ref bBadListed hBadListed tBadListed sTooMany_BadListed
  e_TooMany_BadBy := PySem.W.exm_ref bBadBy hBadBy tBadBy sTooMany_BadBy
  e_TooMany_TooMany := PySem.W.exm_ref bTooMany hTooMany tTooMany sTooMany_TooMany
  o_BadNumber := oBadNumber
  e_BadNumber_BadText := PySem.W.exm_ref bBadText hBadText tBadText sBadNumber_BadText
  e_BadNumber_BadPattern := PySem.W.exm_ref bBadPattern hBadPattern tBadPattern sBadNumber_BadPattern
  e_BadNumber_BadProgram := PySem.W.exm_ref bBadProgram hBadProgram tBadProgram sBadNumber_BadProgram
  e_BadNumber_BadSigns := PySem.W.exm_ref bBadSigns hBadSigns tBadSigns sBadNumber_BadSigns
  e_BadNumber_BadTable := PySem.W.exm_ref bBadTable hBadTable tBadTable sBadNumber_BadTable
  e_BadNumber_BadWord := PySem.W.exm_ref bBadWord hBadWord tBadWord sBadNumber_BadWord
  e_BadNumber_BadName := PySem.W.exm_ref bBadName hBadName tBadName sBadNumber_BadName
  e_BadNumber_BadOther := PySem.W.exm_ref bBadOther hBadOther tBadOther sBadNumber_BadOther
  e_BadNumber_BadMany := PySem.W.exm_ref bBadMany hBadMany tBadMany sBadNumber_BadMany
  e_BadNumber_BadLength := PySem.W.exm_ref bBadLength hBadLength tBadLength sBadNumber_BadLength
  e_BadNumber_NoKind := PySem.W.exm_ref bNoKind hNoKind tNoKind sBadNumber_NoKind
  e_BadNumber_BadSet := PySem.W.exm_ref bBadSet hBadSet tBadSet sBadNumber_BadSet
  e_BadNumber_BadNumber := PySem.W.exm_ref bBadNumber hBadNumber tBadNumber sBadNumber_BadNumber
  o_BadListed := oBadListed
  e_BadListed_BadText := PySem.W.exm_ref bBadText hBadText tBadText sBadListed_BadText
  e_BadListed_BadPattern := PySem.W.exm_ref bBadPattern hBadPattern tBadPattern sBadListed_BadPattern
  e_BadListed_BadProgram := PySem.W.exm_ref bBadProgram hBadProgram tBadProgram sBadListed_BadProgram
  e_BadListed_BadSigns := PySem.W.exm_ref bBadSigns hBadSigns tBadSigns sBadListed_BadSigns
  e_BadListed_BadTable := PySem.W.exm_ref bBadTable hBadTable tBadTable sBadListed_BadTable
  e_BadListed_BadWord := PySem.W.exm_ref bBadWord hBadWord tBadWord sBadListed_BadWord
  e_BadListed_BadName := PySem.W.exm_ref bBadName hBadName tBadName sBadListed_BadName
  e_BadListed_BadOther := PySem.W.exm_ref bBadOther hBadOther tBadOther sBadListed_BadOther
  e_BadListed_BadMany := PySem.W.exm_ref bBadMany hBadMany tBadMany sBadListed_BadMany
  e_BadListed_BadLength := PySem.W.exm_ref bBadLength hBadLength tBadLength sBadListed_BadLength
  e_BadListed_NoKind := PySem.W.exm_ref bNoKind hNoKind tNoKind sBadListed_NoKind
  e_BadListed_BadSet := PySem.W.exm_ref bBadSet hBadSet tBadSet sBadListed_BadSet
  e_BadListed_BadNumber := PySem.W.exm_ref bBadNumber hBadNumber tBadNumber sBadListed_BadNumber
  e_BadListed_BadListed := PySem.W.exm_ref bBadListed hBadListed tBadListed sBadListed_BadListed
  o_BadMany := oBadMany
  e_BadMany_BadText := PySem.W.exm_ref bBadText hBadText tBadText sBadMany_BadText
  e_BadMany_BadPattern := PySem.W.exm_ref bBadPattern hBadPattern tBadPattern sBadMany_BadPattern
  e_BadMany_BadProgram := PySem.W.exm_ref bBadProgram hBadProgram tBadProgram sBadMany_BadProgram
  e_BadMany_BadSigns := PySem.W.exm_ref bBadSigns hBadSigns tBadSigns sBadMany_BadSigns
  e_BadMany_BadTable := PySem.W.exm_ref bBadTable hBadTable tBadTable sBadMany_BadTable
  e_BadMany_BadWord := PySem.W.exm_ref bBadWord hBadWord tBadWord sBadMany_BadWord
  e_BadMany_BadName := PySem.W.exm_ref bBadName hBadName tBadName sBadMany_BadName
  e_BadMany_BadOther := PySem.W.exm_ref bBadOther hBadOther tBadOther sBadMany_BadOther
  e_BadMany_BadMany := PySem.W.exm_ref bBadMany hBadMany tBadMany sBadMany_BadMany
theorem fin_ {l : PySem.W.OpenLaw} {w : World} {K : PySem.W.Frag} {h : Heap} {mg : Str → Option Value} {ca : CA} (X : K.In h) (G : h.Ns mainGlobals mg) (T : Txt K mg) (Er : Err K mg ca) {fa c Pt : Addr} {oc kV doc pm ct : Value} {od an : Option Addr} {osl : Array (Option Value)}
    {cd : Option Addr} {vs : Array Value} {csl : Array (Option Value)} {file : Str} {flags text : Int} {tf tg tt : Tok} {inF : Bool}
    (aL : PySem.W.nsIn K mainGlobals "law" = some (some (.ref fa))) (lL : K.lookup fa = some ⟨oc, od, .func (PySem.W.fnOf "law" "law" (defArgs s_law) (defBody s_law) (defScope s_law) .none kV doc pm an (.ref c) ct), osl⟩) (cL : PySem.W.codeIn K (.ref c) "law" = true)
    (lc : K.lookup c = some ⟨.type "code", cd, .fields vs, csl⟩) (v11 : vs[11]? = some (.ref Pt)) (v18 : vs.getD 18 .none = .str file tf) (v7 : vs.getD 7 .none = .int flags tg) (v9 : vs.getD 9 .none = .bool inF) (v10 : vs.getD 10 .none = .int text tt) (ne : c ≠ Pt) (nP : K.lookup Pt = none) :
    ∃ fL, mg "law" = some (.ref fL) ∧ (LamX.OwnTab K fL h → LamX.LawAtS l w K CX0 10 63 "script" mg fL h) := by
  refine ⟨fa, PySem.W.mg_of X G aL, fun own => ⟨_, [(c, Pt)], SpLawT K Pt, fun p hp => ?_, fun p hp => ?_, fun p hp => ?_, fun s u => .of_eq rfl, fun H a ns hl _ hH hS => ⟨a, ns, rfl, hS, hl, hH _ List.mem_cons_self, fun _ => rfl⟩, fun base _ _ TB => fn_lawT lL cL sc_law rfl (by decide) fun Y hY ns hl => law_body T Er (kt_all T Er) (TB _ List.mem_cons_self) rfl Y hY ns hl⟩⟩
  · rw [List.mem_singleton.mp hp]
    exact own c Pt _ _ _ _ vs csl lL rfl rfl lc v11
  · rw [List.mem_singleton.mp hp]
    exact nP
  · rw [List.mem_singleton.mp hp]
    exact ⟨_, vs, file, tf, flags, tg, inF, text, tt, X _ _ lc, rfl, rfl, v11, by rw [Array.getD_eq_getD_getElem?, v11]; rfl, v18, v7, v9, v10, ne⟩
theorem walkT {l : PySem.W.OpenLaw} {q : Program} {loose : List Str} {XP : (Str → Option Value) → Heap → Prop} {YP : World → Heap → Prop} {d : DefRec} {K : Params → PySem.W.Frag} (hn : l.most = some 63) (hdf : d.params.defaults = []) (hd : d.name = "law") (hrec : ((recsOf q).any fun e => e.name == d.name) = true)
    (hY : ∀ (w : World) (h : Heap), YP w h → (K w.params).In h)
    (F : ∀ (w : World) (mg : Str → Option Value) (h : Heap), (K w.params).In h → h.Ns mainGlobals mg → ∃ fL, mg "law" = some (.ref fL) ∧ (LamX.OwnTab (K w.params) fL h → LamX.LawAtS l w (K w.params) CX0 10 63 "script" mg fL h)) :
    PySem.W.WalkO q loose XP YP l.row.toRowW d [] (fun f vs => PySem.call f vs) :=
  LamX.walk_ofOwn (n := 63) (k := 10) (x := "script") (CX := fun _ => CX0) hn (by decide) hdf ⟨rfl, by decide, by decide⟩ hrec hY (fun w mg fa h Y X G hfa own => by
    obtain ⟨fL, h1, h2⟩ := F w mg h X G
    rw [hd, h1] at hfa
    cases hfa
    exact h2 own) fun _ _ _ _ _ z => z
end K13
open PySem PySem.W PyProof.Rows
set_option maxRecDepth 100000 in
set_option maxHeartbeats 0 in
theorem PySem.Challenge.cw_swornfilters_k13_sets_told_least_holds : PySem.Challenge.rw_swornfilters_k13_sets_told_least.Holds := by
  w_on; o_law; k_head; (case hw => w_witness2)
  k_fill
  refine K13.walkT (l := PySem.Challenge.rw_swornfilters_k13_sets_told_least) rfl rfl rfl ?hrec (fun w h Y => PySem.W.km_in_of Y) ?F
  case hrec => decide +kernel
  case F =>
    intro w mg h KX G
    refine' K13.fin_ KX G (K13.Txt.mk (K13.at_mk (st := K13.s_is_row) KX G (fun _ _ _ _ _ _ us hl => match us, hl with | [_], _ => rfl) ?a0 ?l0 ?c0 ?k0)
      (K13.at_mk (st := K13.s_is_number) KX G (fun _ _ _ _ _ _ us hl => match us, hl with | [_, _, _], _ => rfl) ?a1 ?l1 ?c1 ?k1)
      (K13.at_mk (st := K13.s_is_truths) KX G (fun _ _ _ _ _ _ us hl => match us, hl with | [_], _ => rfl) ?a2 ?l2 ?c2 ?k2)
      (K13.at_mk (st := K13.s_round_size) KX G (fun _ _ _ _ _ _ us hl => match us, hl with | [_], _ => rfl) ?a3 ?l3 ?c3 ?k3)
      (K13.at_mk (st := K13.s_least_of) KX G (fun _ _ _ _ _ _ us hl => match us, hl with | [_, _], _ => rfl) ?a4 ?l4 ?c4 ?k4)
      (K13.at_mk (st := K13.s_set_in) KX G (fun _ _ _ _ _ _ us hl => match us, hl with | [_], _ => rfl) ?a5 ?l5 ?c5 ?k5)
      (K13.at_mk (st := K13.s_need_set) KX G (fun _ _ _ _ _ _ us hl => match us, hl with | [_], _ => rfl) ?a6 ?l6 ?c6 ?k6)
      (K13.at_mk (st := K13.s_told_set) KX G (fun _ _ _ _ _ _ us hl => match us, hl with | [_], _ => rfl) ?a7 ?l7 ?c7 ?k7)
      (K13.at_mk (st := K13.s_in_set) KX G (fun _ _ _ _ _ _ us hl => match us, hl with | [_, _], _ => rfl) ?a8 ?l8 ?c8 ?k8)
      (K13.at_mk (st := K13.s_first_of) KX G (fun _ _ _ _ _ _ us hl => match us, hl with | [_], _ => rfl) ?a9 ?l9 ?c9 ?k9)
      (K13.at_mk (st := K13.s_least_set) KX G (fun _ _ _ _ _ _ us hl => match us, hl with | [_], _ => rfl) ?a10 ?l10 ?c10 ?k10)
      (K13.at_mk (st := K13.s_is_set) KX G (fun _ _ _ _ _ _ us hl => match us, hl with | [_], _ => rfl) ?a11 ?l11 ?c11 ?k11)
      (K13.at_mk (st := K13.s_has_number) KX G (fun _ _ _ _ _ _ us hl => match us, hl with | [_, _], _ => rfl) ?a12 ?l12 ?c12 ?k12)
      (K13.at_mk (st := K13.s_set_of) KX G (fun _ _ _ _ _ _ us hl => match us, hl with | [_], _ => rfl) ?a13 ?l13 ?c13 ?k13)
      (K13.at_mk (st := K13.s_numbers_below) KX G (fun _ _ _ _ _ _ us hl => match us, hl with | [_, _], _ => rfl) ?a14 ?l14 ?c14 ?k14)
      (K13.at_mk (st := K13.s_first_number) KX G (fun _ _ _ _ _ _ us hl => match us, hl with | [_], _ => rfl) ?a15 ?l15 ?c15 ?k15)
      (K13.at_mk (st := K13.s_law_start) KX G (fun _ _ _ _ _ _ us hl => match us, hl with | [_], _ => rfl) ?a16 ?l16 ?c16 ?k16)
      (K13.at_mk (st := K13.s_law_below) KX G (fun _ _ _ _ _ _ us hl => match us, hl with | [_, _], _ => rfl) ?a17 ?l17 ?c17 ?k17)
      (K13.at_mk (st := K13.s_law_chance) KX G (fun _ _ _ _ _ _ us hl => match us, hl with | [_, _], _ => rfl) ?a18 ?l18 ?c18 ?k18)
      (K13.at_mk (st := K13.s_law_pick) KX G (fun _ _ _ _ _ _ us hl => match us, hl with | [_, _], _ => rfl) ?a19 ?l19 ?c19 ?k19)
      (K13.at_mk (st := K13.s_law_mixed) KX G (fun _ _ _ _ _ _ us hl => match us, hl with | [_, _], _ => rfl) ?a20 ?l20 ?c20 ?k20)
      (K13.at_mk (st := K13.s_law_copied) KX G (fun _ _ _ _ _ _ us hl => match us, hl with | [_], _ => rfl) ?a21 ?l21 ?c21 ?k21)
      (K13.at_mk (st := K13.s_law_same) KX G (fun _ _ _ _ _ _ us hl => match us, hl with | [_, _], _ => rfl) ?a22 ?l22 ?c22 ?k22)
      (K13.at_mk (st := K13.s_law_loose) KX G (fun _ _ _ _ _ _ us hl => match us, hl with | [_, _], _ => rfl) ?a23 ?l23 ?c23 ?k23)
      (K13.at_mk (st := K13.s_law_spoilt) KX G (fun _ _ _ _ _ _ us hl => match us, hl with | [_], _ => rfl) ?a24 ?l24 ?c24 ?k24)
      (K13.at_mk (st := K13.s_law_is_once) KX G (fun _ _ _ _ _ _ us hl => match us, hl with | [_], _ => rfl) ?a25 ?l25 ?c25 ?k25)
      (K13.at_mk (st := K13.s_law_apart) KX G (fun _ _ _ _ _ _ us hl => match us, hl with | [_], _ => rfl) ?a26 ?l26 ?c26 ?k26)
      (K13.at_mk (st := K13.s_law_ktruths) KX G (fun _ _ _ _ _ _ us hl => match us, hl with | [_, _], _ => rfl) ?a27 ?l27 ?c27 ?k27)
      (K13.at_mk (st := K13.s_law_kset) KX G (fun _ _ _ _ _ _ us hl => match us, hl with | [_, _], _ => rfl) ?a28 ?l28 ?c28 ?k28)
      (K13.at_mk (st := K13.s_law_kset_in) KX G (fun _ _ _ _ _ _ us hl => match us, hl with | [_, _], _ => rfl) ?a29 ?l29 ?c29 ?k29)
      (K13.at_mk (st := K13.s_law_kset_form) KX G (fun _ _ _ _ _ _ us hl => match us, hl with | [_, _, _], _ => rfl) ?a30 ?l30 ?c30 ?k30)
      (K13.at_mk (st := K13.s_law_kset_least) KX G (fun _ _ _ _ _ _ us hl => match us, hl with | [_], _ => rfl) ?a31 ?l31 ?c31 ?k31)
      (K13.at_mk (st := K13.s_law_kno_set) KX G (fun _ _ _ _ _ _ us hl => match us, hl with | [_], _ => rfl) ?a32 ?l32 ?c32 ?k32)
      (K13.at_mk (st := K13.s_law_kraised) KX G (fun _ _ _ _ _ _ us hl => match us, hl with | [_], _ => rfl) ?a33 ?l33 ?c33 ?k33)
      (K13.at_mk (st := K13.s_law_krefuses) KX G (fun _ _ _ _ _ _ us hl => match us, hl with | [_, _, _], _ => rfl) ?a34 ?l34 ?c34 ?k34)
      (K13.at_mk (st := K13.s_law) KX G (fun _ _ _ _ _ _ us hl => match us, hl with | [_], _ => rfl) ?a35 ?l35 ?c35 ?k35)
      (PySem.W.mg_none_of KX G ?zg0)
      (PySem.W.mg_none_of KX G ?zg1)
      (PySem.W.mg_none_of KX G ?zg2)
      (PySem.W.mg_none_of KX G ?zg3)
      (PySem.W.mg_none_of KX G ?zg4)
      (PySem.W.mg_none_of KX G ?zg5)
      (PySem.W.mg_none_of KX G ?zg6)
      (PySem.W.mg_none_of KX G ?zg7)
      (PySem.W.mg_none_of KX G ?zg8)
      (PySem.W.mg_none_of KX G ?zg9)
      (PySem.W.mg_none_of KX G ?zg10)
      (PySem.W.mg_none_of KX G ?zg11)
      (K13.int_mk KX G ?m0))
      (K13.err_mk KX G ?eaBadBy ?ebBadBy ?ehBadBy ?etBadBy ?eaBadLength ?ebBadLength ?ehBadLength ?etBadLength ?eaBadListed ?ebBadListed ?ehBadListed ?etBadListed ?eaBadMany ?ebBadMany ?ehBadMany ?etBadMany ?eaBadName ?ebBadName ?ehBadName ?etBadName ?eaBadNumber ?ebBadNumber ?ehBadNumber ?etBadNumber ?eaBadOther ?ebBadOther ?ehBadOther ?etBadOther ?eaBadPattern ?ebBadPattern ?ehBadPattern ?etBadPattern ?eaBadProgram ?ebBadProgram ?ehBadProgram ?etBadProgram ?eaBadSet ?ebBadSet ?ehBadSet ?etBadSet ?eaBadSigns ?ebBadSigns ?ehBadSigns ?etBadSigns ?eaBadTable ?ebBadTable ?ehBadTable ?etBadTable ?eaBadText ?ebBadText ?ehBadText ?etBadText ?eaBadWord ?ebBadWord ?ehBadWord ?etBadWord ?eaNoKind ?ebNoKind ?ehNoKind ?etNoKind ?eaTooMany ?ebTooMany ?ehTooMany ?etTooMany (K13.own_mk (st := K13.i_BadSet) (fun _ _ _ _ _ _ us hl => match us, hl with | [_, _], _ => rfl) ?wxLBadSet ?wbVBadSet ?wsaBadSet ?wgaBadSet ?wggBadSet ?wnbBadSet ?wa1BadSet ?wt1BadSet ?wl1BadSet ?wc1BadSet ?wk1BadSet ?wkCBadSet ?weCBadSet ?wtCBadSet ?whCBadSet) (K13.own_mk (st := K13.i_TooMany) (fun _ _ _ _ _ _ us hl => match us, hl with | [_, _], _ => rfl) ?wxLTooMany ?wbVTooMany ?wsaTooMany ?wgaTooMany ?wggTooMany ?wnbTooMany ?wa1TooMany ?wt1TooMany ?wl1TooMany ?wc1TooMany ?wk1TooMany ?wkCTooMany ?weCTooMany ?wtCTooMany ?whCTooMany) (K13.own_mk (st := K13.i_BadNumber) (fun _ _ _ _ _ _ us hl => match us, hl with | [_, _], _ => rfl) ?wxLBadNumber ?wbVBadNumber ?wsaBadNumber ?wgaBadNumber ?wggBadNumber ?wnbBadNumber ?wa1BadNumber ?wt1BadNumber ?wl1BadNumber ?wc1BadNumber ?wk1BadNumber ?wkCBadNumber ?weCBadNumber ?wtCBadNumber ?whCBadNumber) (K13.own_mk (st := K13.i_BadListed) (fun _ _ _ _ _ _ us hl => match us, hl with | [_, _], _ => rfl) ?wxLBadListed ?wbVBadListed ?wsaBadListed ?wgaBadListed ?wggBadListed ?wnbBadListed ?wa1BadListed ?wt1BadListed ?wl1BadListed ?wc1BadListed ?wk1BadListed ?wkCBadListed ?weCBadListed ?wtCBadListed ?whCBadListed) (K13.own_mk (st := K13.i_BadMany) (fun _ _ _ _ _ _ us hl => match us, hl with | [_, _], _ => rfl) ?wxLBadMany ?wbVBadMany ?wsaBadMany ?wgaBadMany ?wggBadMany ?wnbBadMany ?wa1BadMany ?wt1BadMany ?wl1BadMany ?wc1BadMany ?wk1BadMany ?wkCBadMany ?weCBadMany ?wtCBadMany ?whCBadMany) ?sBadSet_BadText ?sBadSet_BadPattern ?sBadSet_BadProgram ?sBadSet_BadSigns ?sBadSet_BadTable ?sBadSet_BadWord ?sBadSet_BadName ?sBadSet_BadOther ?sBadSet_BadMany ?sBadSet_BadLength ?sBadSet_NoKind ?sBadSet_BadSet ?sTooMany_BadText ?sTooMany_BadPattern ?sTooMany_BadProgram ?sTooMany_BadSigns ?sTooMany_BadTable ?sTooMany_BadWord ?sTooMany_BadName ?sTooMany_BadOther ?sTooMany_BadMany ?sTooMany_BadLength ?sTooMany_NoKind ?sTooMany_BadSet ?sTooMany_BadNumber ?sTooMany_BadListed ?sTooMany_BadBy ?sTooMany_TooMany ?sBadNumber_BadText ?sBadNumber_BadPattern ?sBadNumber_BadProgram ?sBadNumber_BadSigns ?sBadNumber_BadTable ?sBadNumber_BadWord ?sBadNumber_BadName ?sBadNumber_BadOther ?sBadNumber_BadMany ?sBadNumber_BadLength ?sBadNumber_NoKind ?sBadNumber_BadSet ?sBadNumber_BadNumber ?sBadListed_BadText ?sBadListed_BadPattern ?sBadListed_BadProgram ?sBadListed_BadSigns ?sBadListed_BadTable ?sBadListed_BadWord ?sBadListed_BadName ?sBadListed_BadOther ?sBadListed_BadMany ?sBadListed_BadLength ?sBadListed_NoKind ?sBadListed_BadSet ?sBadListed_BadNumber ?sBadListed_BadListed ?sBadMany_BadText ?sBadMany_BadPattern ?sBadMany_BadProgram ?sBadMany_BadSigns ?sBadMany_BadTable ?sBadMany_BadWord ?sBadMany_BadName ?sBadMany_BadOther ?sBadMany_BadMany)
      ?aL ?lL ?cL ?lc ?v11 ?v18 ?v7 ?v9 ?v10 ?ne ?nP
    (case a0 => k_is); (case l0 => k_is); (case c0 => k_is); (case k0 => k_is)
    (case a1 => k_is); (case l1 => k_is); (case c1 => k_is); (case k1 => k_is)
    (case a2 => k_is); (case l2 => k_is); (case c2 => k_is); (case k2 => k_is)
    (case a3 => k_is); (case l3 => k_is); (case c3 => k_is); (case k3 => k_is)
    (case a4 => k_is); (case l4 => k_is); (case c4 => k_is); (case k4 => k_is)
    (case a5 => k_is); (case l5 => k_is); (case c5 => k_is); (case k5 => k_is)
    (case a6 => k_is); (case l6 => k_is); (case c6 => k_is); (case k6 => k_is)
    (case a7 => k_is); (case l7 => k_is); (case c7 => k_is); (case k7 => k_is)
    (case a8 => k_is); (case l8 => k_is); (case c8 => k_is); (case k8 => k_is)
    (case a9 => k_is); (case l9 => k_is); (case c9 => k_is); (case k9 => k_is)
    (case a10 => k_is); (case l10 => k_is); (case c10 => k_is); (case k10 => k_is)
    (case a11 => k_is); (case l11 => k_is); (case c11 => k_is); (case k11 => k_is)
    (case a12 => k_is); (case l12 => k_is); (case c12 => k_is); (case k12 => k_is)
    (case a13 => k_is); (case l13 => k_is); (case c13 => k_is); (case k13 => k_is)
    (case a14 => k_is); (case l14 => k_is); (case c14 => k_is); (case k14 => k_is)
    (case a15 => k_is); (case l15 => k_is); (case c15 => k_is); (case k15 => k_is)
    (case a16 => k_is); (case l16 => k_is); (case c16 => k_is); (case k16 => k_is)
    (case a17 => k_is); (case l17 => k_is); (case c17 => k_is); (case k17 => k_is)
    (case a18 => k_is); (case l18 => k_is); (case c18 => k_is); (case k18 => k_is)
    (case a19 => k_is); (case l19 => k_is); (case c19 => k_is); (case k19 => k_is)
    (case a20 => k_is); (case l20 => k_is); (case c20 => k_is); (case k20 => k_is)
    (case a21 => k_is); (case l21 => k_is); (case c21 => k_is); (case k21 => k_is)
    (case a22 => k_is); (case l22 => k_is); (case c22 => k_is); (case k22 => k_is)
    (case a23 => k_is); (case l23 => k_is); (case c23 => k_is); (case k23 => k_is)
    (case a24 => k_is); (case l24 => k_is); (case c24 => k_is); (case k24 => k_is)
    (case a25 => k_is); (case l25 => k_is); (case c25 => k_is); (case k25 => k_is)
    (case a26 => k_is); (case l26 => k_is); (case c26 => k_is); (case k26 => k_is)
    (case a27 => k_is); (case l27 => k_is); (case c27 => k_is); (case k27 => k_is)
    (case a28 => k_is); (case l28 => k_is); (case c28 => k_is); (case k28 => k_is)
    (case a29 => k_is); (case l29 => k_is); (case c29 => k_is); (case k29 => k_is)
    (case a30 => k_is); (case l30 => k_is); (case c30 => k_is); (case k30 => k_is)
    (case a31 => k_is); (case l31 => k_is); (case c31 => k_is); (case k31 => k_is)
    (case a32 => k_is); (case l32 => k_is); (case c32 => k_is); (case k32 => k_is)
    (case a33 => k_is); (case l33 => k_is); (case c33 => k_is); (case k33 => k_is)
    (case a34 => k_is); (case l34 => k_is); (case c34 => k_is); (case k34 => k_is)
    (case a35 => k_is); (case l35 => k_is); (case c35 => k_is); (case k35 => k_is)
    (case zg0 => k_is)
    (case zg1 => k_is)
    (case zg2 => k_is)
    (case zg3 => k_is)
    (case zg4 => k_is)
    (case zg5 => k_is)
    (case zg6 => k_is)
    (case zg7 => k_is)
    (case zg8 => k_is)
    (case zg9 => k_is)
    (case zg10 => k_is)
    (case zg11 => k_is)
    (case m0 => k_is)
    (case eaBadBy => k_is); (case ebBadBy => k_is); (case ehBadBy => k_is); (case etBadBy => k_is)
    (case eaBadLength => k_is); (case ebBadLength => k_is); (case ehBadLength => k_is); (case etBadLength => k_is)
    (case eaBadListed => k_is); (case ebBadListed => k_is); (case ehBadListed => k_is); (case etBadListed => k_is)
    (case eaBadMany => k_is); (case ebBadMany => k_is); (case ehBadMany => k_is); (case etBadMany => k_is)
    (case eaBadName => k_is); (case ebBadName => k_is); (case ehBadName => k_is); (case etBadName => k_is)
    (case eaBadNumber => k_is); (case ebBadNumber => k_is); (case ehBadNumber => k_is); (case etBadNumber => k_is)
    (case eaBadOther => k_is); (case ebBadOther => k_is); (case ehBadOther => k_is); (case etBadOther => k_is)
    (case eaBadPattern => k_is); (case ebBadPattern => k_is); (case ehBadPattern => k_is); (case etBadPattern => k_is)
    (case eaBadProgram => k_is); (case ebBadProgram => k_is); (case ehBadProgram => k_is); (case etBadProgram => k_is)
    (case eaBadSet => k_is); (case ebBadSet => k_is); (case ehBadSet => k_is); (case etBadSet => k_is)
    (case eaBadSigns => k_is); (case ebBadSigns => k_is); (case ehBadSigns => k_is); (case etBadSigns => k_is)
    (case eaBadTable => k_is); (case ebBadTable => k_is); (case ehBadTable => k_is); (case etBadTable => k_is)
    (case eaBadText => k_is); (case ebBadText => k_is); (case ehBadText => k_is); (case etBadText => k_is)
    (case eaBadWord => k_is); (case ebBadWord => k_is); (case ehBadWord => k_is); (case etBadWord => k_is)
    (case eaNoKind => k_is); (case ebNoKind => k_is); (case ehNoKind => k_is); (case etNoKind => k_is)
    (case eaTooMany => k_is); (case ebTooMany => k_is); (case ehTooMany => k_is); (case etTooMany => k_is)
    (case wxLBadSet => k_is); (case wbVBadSet => decide +kernel); (case wsaBadSet => k_is); (case wgaBadSet => k_is); (case wggBadSet => k_is); (case wnbBadSet => k_is); (case wa1BadSet => k_is); (case wt1BadSet => k_is); (case wl1BadSet => k_is); (case wc1BadSet => k_is); (case wk1BadSet => k_is); (case wkCBadSet => k_is); (case weCBadSet => k_is); (case wtCBadSet => k_is); (case whCBadSet => k_is)
    (case wxLTooMany => k_is); (case wbVTooMany => decide +kernel); (case wsaTooMany => k_is); (case wgaTooMany => k_is); (case wggTooMany => k_is); (case wnbTooMany => k_is); (case wa1TooMany => k_is); (case wt1TooMany => k_is); (case wl1TooMany => k_is); (case wc1TooMany => k_is); (case wk1TooMany => k_is); (case wkCTooMany => k_is); (case weCTooMany => k_is); (case wtCTooMany => k_is); (case whCTooMany => k_is)
    (case wxLBadNumber => k_is); (case wbVBadNumber => decide +kernel); (case wsaBadNumber => k_is); (case wgaBadNumber => k_is); (case wggBadNumber => k_is); (case wnbBadNumber => k_is); (case wa1BadNumber => k_is); (case wt1BadNumber => k_is); (case wl1BadNumber => k_is); (case wc1BadNumber => k_is); (case wk1BadNumber => k_is); (case wkCBadNumber => k_is); (case weCBadNumber => k_is); (case wtCBadNumber => k_is); (case whCBadNumber => k_is)
    (case wxLBadListed => k_is); (case wbVBadListed => decide +kernel); (case wsaBadListed => k_is); (case wgaBadListed => k_is); (case wggBadListed => k_is); (case wnbBadListed => k_is); (case wa1BadListed => k_is); (case wt1BadListed => k_is); (case wl1BadListed => k_is); (case wc1BadListed => k_is); (case wk1BadListed => k_is); (case wkCBadListed => k_is); (case weCBadListed => k_is); (case wtCBadListed => k_is); (case whCBadListed => k_is)
    (case wxLBadMany => k_is); (case wbVBadMany => decide +kernel); (case wsaBadMany => k_is); (case wgaBadMany => k_is); (case wggBadMany => k_is); (case wnbBadMany => k_is); (case wa1BadMany => k_is); (case wt1BadMany => k_is); (case wl1BadMany => k_is); (case wc1BadMany => k_is); (case wk1BadMany => k_is); (case wkCBadMany => k_is); (case weCBadMany => k_is); (case wtCBadMany => k_is); (case whCBadMany => k_is)
    (case sBadSet_BadText => k_is)
    (case sBadSet_BadPattern => k_is)
    (case sBadSet_BadProgram => k_is)
    (case sBadSet_BadSigns => k_is)
    (case sBadSet_BadTable => k_is)
    (case sBadSet_BadWord => k_is)
    (case sBadSet_BadName => k_is)
    (case sBadSet_BadOther => k_is)
    (case sBadSet_BadMany => k_is)
    (case sBadSet_BadLength => k_is)
    (case sBadSet_NoKind => k_is)
    (case sBadSet_BadSet => k_is)
    (case sTooMany_BadText => k_is)
    (case sTooMany_BadPattern => k_is)
    (case sTooMany_BadProgram => k_is)
    (case sTooMany_BadSigns => k_is)
    (case sTooMany_BadTable => k_is)
    (case sTooMany_BadWord => k_is)
    (case sTooMany_BadName => k_is)
    (case sTooMany_BadOther => k_is)
    (case sTooMany_BadMany => k_is)
    (case sTooMany_BadLength => k_is)
    (case sTooMany_NoKind => k_is)
    (case sTooMany_BadSet => k_is)
    (case sTooMany_BadNumber => k_is)
    (case sTooMany_BadListed => k_is)
    (case sTooMany_BadBy => k_is)
    (case sTooMany_TooMany => k_is)
    (case sBadNumber_BadText => k_is)
    (case sBadNumber_BadPattern => k_is)
    (case sBadNumber_BadProgram => k_is)
    (case sBadNumber_BadSigns => k_is)
    (case sBadNumber_BadTable => k_is)
    (case sBadNumber_BadWord => k_is)
    (case sBadNumber_BadName => k_is)
    (case sBadNumber_BadOther => k_is)
    (case sBadNumber_BadMany => k_is)
    (case sBadNumber_BadLength => k_is)
    (case sBadNumber_NoKind => k_is)
    (case sBadNumber_BadSet => k_is)
    (case sBadNumber_BadNumber => k_is)
    (case sBadListed_BadText => k_is)
    (case sBadListed_BadPattern => k_is)
    (case sBadListed_BadProgram => k_is)
    (case sBadListed_BadSigns => k_is)
    (case sBadListed_BadTable => k_is)
    (case sBadListed_BadWord => k_is)
    (case sBadListed_BadName => k_is)
    (case sBadListed_BadOther => k_is)
    (case sBadListed_BadMany => k_is)
    (case sBadListed_BadLength => k_is)
    (case sBadListed_NoKind => k_is)
    (case sBadListed_BadSet => k_is)
    (case sBadListed_BadNumber => k_is)
    (case sBadListed_BadListed => k_is)
    (case sBadMany_BadText => k_is)
    (case sBadMany_BadPattern => k_is)
    (case sBadMany_BadProgram => k_is)
    (case sBadMany_BadSigns => k_is)
    (case sBadMany_BadTable => k_is)
    (case sBadMany_BadWord => k_is)
    (case sBadMany_BadName => k_is)
    (case sBadMany_BadOther => k_is)
    (case sBadMany_BadMany => k_is)
    (case aL => k_is); (case lL => k_is); (case cL => k_is); (case lc => k_is)
    (case v11 => exact rfl)
    (case v18 => exact rfl)
    (case v7 => exact rfl)
    (case v9 => exact rfl)
    (case v10 => exact rfl)
    (case ne => decide)
    (case nP => kernel_rfl)
#print axioms PySem.Challenge.cw_swornfilters_k13_sets_told_least_holds

