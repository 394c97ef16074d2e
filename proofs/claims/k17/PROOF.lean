import PyProof.Rows.All
import HandS.ForMost
import HandS.Flow
import HandS.TupAny
import HandS.TupMul
import HandS.Deep
import HandS.IsInst
import HandS.WideBits
import HandS.Zip
import HandS.TryOnly
import HandS.More
import PySem.Challenge.RW_swornfilters_k17_whole_sets_hang_togethe
set_option Elab.async false
set_option linter.all false
set_option maxRecDepth 100000
set_option maxHeartbeats 4000000
/-! The data level: values as trees, the slots of a frame as trees, expressions and statements over these alone. -/
namespace Dl
open PySem PySem.Spec PyProof.Rows L2

/-! ### what a value is, as a tree -/
mutual
inductive Rp (K : PySem.W.Frag) (H : Hp) : V → PyData → Prop
  | non : Rp K H .non .none
  | bl (b : Bool) : Rp K H (.bl b) (.bool b)
  | int (i : Int) : Rp K H (.int i) (.int i)
  | str (x : Str) : Rp K H (.str x) (.str x)
  | lst {a : Addr} {xs : List V} {ds : List PyData} : H a = some (.lst xs) → RpA K H xs ds → Rp K H (.ref a) (.list ds)
  | tup {a : Addr} {xs : List V} {ds : List PyData} : SqT K H a xs → RpA K H xs ds → Rp K H (.ref a) (.tuple ds)
inductive RpA (K : PySem.W.Frag) (H : Hp) : List V → List PyData → Prop
  | nil : RpA K H [] []
  | cons {v : V} {vs : List V} {d : PyData} {ds : List PyData} : Rp K H v d → RpA K H vs ds → RpA K H (v :: vs) (d :: ds)
end
theorem same_t {K : PySem.W.Frag} {H H' : Hp} {a : Addr} {xs : List V} (e : Same H H') (h : SqT K H a xs) : SqT K H' a xs := by
  rcases h with (h | ⟨o, h⟩) | h
  · exact .inl (.inl (e _ _ h))
  · exact .inl (.inr ⟨o, e _ _ h⟩)
  · exact .inr h
section
variable {K : PySem.W.Frag} {H H' : Hp}
mutual
theorem Rp.mono (e : Same H H') : ∀ {v : V} {d : PyData}, Rp K H v d → Rp K H' v d
  | _, _, .non => .non
  | _, _, .bl b => .bl b
  | _, _, .int i => .int i
  | _, _, .str x => .str x
  | _, _, .lst h r => .lst (e _ _ h) (RpA.mono e r)
  | _, _, .tup h r => .tup (same_t e h) (RpA.mono e r)
theorem RpA.mono (e : Same H H') : ∀ {vs : List V} {ds : List PyData}, RpA K H vs ds → RpA K H' vs ds
  | _, _, .nil => .nil
  | _, _, .cons h r => .cons (Rp.mono e h) (RpA.mono e r)
end
mutual
theorem Rp.dp : ∀ {v : V} {d : PyData}, Rp K H v d → Dp K H v d
  | _, _, .non => .non
  | _, _, .bl b => .bl b
  | _, _, .int i => .int i
  | _, _, .str x => .str x
  | _, _, .lst h r => .lst (SqL.of h) (RpA.dp r)
  | _, _, .tup h r => .tup h (RpA.dp r)
theorem RpA.dp : ∀ {vs : List V} {ds : List PyData}, RpA K H vs ds → DpAll K H vs ds
  | _, _, .nil => .nil
  | _, _, .cons h r => .cons (Rp.dp h) (RpA.dp r)
end
theorem RpA.length : ∀ {vs : List V} {ds : List PyData}, RpA K H vs ds → vs.length = ds.length
  | _, _, .nil => rfl
  | _, _, .cons _ r => by rw [List.length_cons, List.length_cons, RpA.length r]
theorem RpA.append : ∀ {vs : List V} {ds : List PyData} {us : List V} {es : List PyData}, RpA K H vs ds → RpA K H us es → RpA K H (vs ++ us) (ds ++ es)
  | _, _, _, _, .nil, s => s
  | _, _, _, _, .cons h r, s => .cons h (RpA.append r s)
theorem RpA.take : ∀ {vs : List V} {ds : List PyData} (n : Nat), RpA K H vs ds → RpA K H (vs.take n) (ds.take n)
  | _, _, 0, _ => .nil
  | _, _, _ + 1, .nil => .nil
  | _, _, n + 1, .cons h r => .cons h (RpA.take n r)
theorem RpA.drop : ∀ {vs : List V} {ds : List PyData} (n : Nat), RpA K H vs ds → RpA K H (vs.drop n) (ds.drop n)
  | _, _, 0, r => r
  | _, _, _ + 1, .nil => .nil
  | _, _, n + 1, .cons _ r => RpA.drop n r
theorem RpA.get : ∀ {vs : List V} {ds : List PyData} {i : Nat} {v : V}, RpA K H vs ds → vs[i]? = some v → ∃ d, ds[i]? = some d ∧ Rp K H v d
  | _, _, _, _, .nil, e => by simp at e
  | _, _, 0, _, .cons h _, e => by simp at e; subst e; exact ⟨_, rfl, h⟩
  | _, _, i + 1, v, .cons _ r, e => by
    obtain ⟨d, h1, h2⟩ := RpA.get (i := i) (v := v) r (by simpa using e)
    exact ⟨d, by simpa using h1, h2⟩
theorem RpA.getD : ∀ {vs : List V} {ds : List PyData} {i : Nat} {d : PyData}, RpA K H vs ds → ds[i]? = some d → ∃ v, vs[i]? = some v ∧ Rp K H v d
  | _, _, _, _, .nil, e => by simp at e
  | _, _, 0, _, .cons h _, e => by simp at e; subst e; exact ⟨_, rfl, h⟩
  | _, _, i + 1, d, .cons _ r, e => by
    obtain ⟨v, h1, h2⟩ := RpA.getD (i := i) (d := d) r (by simpa using e)
    exact ⟨v, by simpa using h1, h2⟩
theorem RpA.set : ∀ {vs : List V} {ds : List PyData} {v : V} {d : PyData} (i : Nat), Rp K H v d → RpA K H vs ds → RpA K H (vs.set i v) (ds.set i d)
  | _, _, _, _, _, _, .nil => .nil
  | _, _, _, _, 0, h, .cons _ r => .cons h r
  | _, _, _, _, i + 1, h, .cons q r => .cons q (RpA.set i h r)
theorem RpA.eraseIdx : ∀ {vs : List V} {ds : List PyData} (i : Nat), RpA K H vs ds → RpA K H (vs.eraseIdx i) (ds.eraseIdx i)
  | _, _, _, .nil => .nil
  | _, _, 0, .cons _ r => r
  | _, _, i + 1, .cons q r => .cons q (RpA.eraseIdx i r)
theorem RpA.rep {vs : List V} {ds : List PyData} (r : RpA K H vs ds) : ∀ n : Nat, RpA K H (List.replicate n vs).flatten (List.replicate n ds).flatten
  | 0 => .nil
  | n + 1 => by
    rw [List.replicate_succ, List.replicate_succ, List.flatten_cons, List.flatten_cons]
    exact r.append (RpA.rep r n)
theorem RpA.ints : ∀ (ns : List Int), RpA K H (ns.map V.int) (ns.map PyData.int)
  | [] => .nil
  | n :: r => .cons (.int n) (RpA.ints r)
theorem RpA.bls : ∀ (ns : List Bool), RpA K H (ns.map V.bl) (ns.map PyData.bool)
  | [] => .nil
  | n :: r => .cons (.bl n) (RpA.bls r)
theorem RpA.ints_inv : ∀ {ns : List Int} {vs : List V}, RpA K H vs (ns.map PyData.int) → vs = ns.map V.int
  | [], _, .nil => rfl
  | n :: r, _, .cons h q => by
    cases h
    rw [RpA.ints_inv q] <;> rfl
theorem RpA.bls_inv : ∀ {ns : List Bool} {vs : List V}, RpA K H vs (ns.map PyData.bool) → vs = ns.map V.bl
  | [], _, .nil => rfl
  | n :: r, _, .cons h q => by
    cases h
    rw [RpA.bls_inv q] <;> rfl
theorem RpA.strs_inv : ∀ {ns : List Str} {vs : List V}, RpA K H vs (ns.map PyData.str) → vs = ns.map V.str
  | [], _, .nil => rfl
  | n :: r, _, .cons h q => by
    cases h
    rw [RpA.strs_inv q] <;> rfl
theorem RpA.strs : ∀ (ns : List Str), RpA K H (ns.map V.str) (ns.map PyData.str)
  | [] => .nil
  | n :: r => .cons (.str n) (RpA.strs r)
end

/-! ### what is owned: an object (or several) that is written, by one place alone -/
structure Res where
  ok : Hp → Hp → V → List Addr → Prop
  loc : ∀ {B B' H H' : Hp} {v : V} {fp : List Addr}, ok B H v fp → Same B B' → (∀ a ∈ fp, H' a = H a) → ok B' H' v fp
inductive Slot where
  | no
  | dat (d : PyData)
  | raw (v : V)
  | own (r : Res)
/-- a list that is filled, its things so far -/
def accR (K : PySem.W.Frag) (ds : List PyData) : Res where
  ok := fun B H v fp => ∃ p xs, v = .ref p ∧ fp = [p] ∧ H p = some (.lst xs) ∧ RpA K B xs ds
  loc := fun {B B' H H' v fp} ⟨p, xs, h1, h2, h3, h4⟩ hb hh => ⟨p, xs, h1, h2, by rw [hh p (by rw [h2]; exact List.mem_singleton.mpr rfl)]; exact h3, h4.mono hb⟩
def SlotOk (K : PySem.W.Frag) (B H : Hp) : Option V → Slot → List Addr → Prop
  | _, .no, fp => fp = []
  | some v, .dat d, fp => fp = [] ∧ Rp K B v d
  | some v, .raw u, fp => fp = [] ∧ v = u
  | some v, .own r, fp => r.ok B H v fp
  | none, _, _ => False
theorem SlotOk.loc {K : PySem.W.Frag} {B B' H H' : Hp} {o : Option V} {s : Slot} {fp : List Addr} (h : SlotOk K B H o s fp) (hb : Same B B') (hh : ∀ a ∈ fp, H' a = H a) : SlotOk K B' H' o s fp := by
  cases s with
  | no => exact h
  | dat d =>
    cases o with
    | none => exact h
    | some v => exact ⟨h.1, h.2.mono hb⟩
  | raw u =>
    cases o with
    | none => exact h
    | some v => exact h
  | own r =>
    cases o with
    | none => exact h
    | some v => exact r.loc h hb hh
/-- what the frame's slots hold: B what never changes, H all; F what is written, by slot -/
structure Wf (K : PySem.W.Frag) (B H : Hp) (σ : L2.St) (δ : List Slot) (F : Nat → List Addr) : Prop where
  bh : Same B H
  len : δ.length = σ.length
  sl : ∀ i s, δ[i]? = some s → ∃ o, σ[i]? = some o ∧ SlotOk K B H o s (F i)
  out : ∀ i, δ.length ≤ i → F i = []
  dis : ∀ i j a, a ∈ F i → a ∈ F j → i = j
  own : ∀ i, ∀ a ∈ F i, B a = none ∧ ∃ o, H a = some o
/-- new objects alone -/
structure Grow (B H B2 H2 : Hp) : Prop where
  bb : Same B B2
  bh : Same B2 H2
  hh : Same H H2
  fr : ∀ b o, H b = some o → B2 b = B b
structure Step (B H : Hp) (F : Nat → List Addr) (B2 H2 : Hp) (F2 : Nat → List Addr) : Prop where
  bb : Same B B2
  keep : ∀ b o, H b = some o → (∀ i, b ∉ F i) → H2 b = some o
  fr : ∀ b o, H b = some o → (∀ i, b ∉ F i) → B2 b = B b
  there : ∀ b o, H b = some o → ∃ o', H2 b = some o'
  fn : ∀ i, ∀ b ∈ F2 i, (∃ j, b ∈ F j) ∨ H b = none
section
variable {K : PySem.W.Frag} {B H B1 H1 B2 H2 : Hp} {σ σ2 : L2.St} {δ δ2 : List Slot} {F F1 F2 : Nat → List Addr}
theorem Grow.refl (h : Same B H) : Grow B H B H := ⟨Same.refl B, h, Same.refl H, fun _ _ _ => rfl⟩
theorem Grow.trans (a : Grow B H B1 H1) (b : Grow B1 H1 B2 H2) : Grow B H B2 H2 :=
  ⟨a.bb.trans b.bb, b.bh, a.hh.trans b.hh, fun c o e => (b.fr c o (a.hh c o e)).trans (a.fr c o e)⟩
theorem same_upd {H : Hp} {p : Addr} {o : HO} (h : H p = none) : Same H (upd H p o) := fun b x e => by
  rw [upd_ne (ne_of_none e h)]
  exact e
theorem same_upd2 {B H : Hp} {p : Addr} {o : HO} (e : Same B H) : Same (upd B p o) (upd H p o) := fun b x h => by
  by_cases hb : b = p
  · subst hb
    rw [upd_same] at h ⊢
    exact h
  · rw [upd_ne hb] at h ⊢
    exact e b x h
theorem Grow.new {p : Addr} {o : HO} (h : Same B H) (hp : H p = none) : Grow B H (upd B p o) (upd H p o) :=
  ⟨same_upd (h.free hp), same_upd2 h, same_upd hp, fun b x e => upd_ne (ne_of_none e hp)⟩
theorem Grow.newH {p : Addr} {o : HO} (h : Same B H) (hp : H p = none) : Grow B H B (upd H p o) :=
  ⟨Same.refl B, h.trans (same_upd hp), same_upd hp, fun _ _ _ => rfl⟩
theorem Wf.grow (W : Wf K B H σ δ F) (g : Grow B H B2 H2) : Wf K B2 H2 σ δ F where
  bh := g.bh
  len := W.len
  sl := fun i s e => by
    obtain ⟨o, h1, h2⟩ := W.sl i s e
    refine ⟨o, h1, h2.loc g.bb fun a ha => ?_⟩
    obtain ⟨_, u, hu⟩ := W.own i a ha
    rw [hu]
    exact g.hh a u hu
  out := W.out
  dis := W.dis
  own := fun i a ha => by
    obtain ⟨h0, u, hu⟩ := W.own i a ha
    exact ⟨(g.fr a u hu).trans h0, u, g.hh a u hu⟩
theorem Step.refl : Step B H F B H F := ⟨Same.refl B, fun _ _ e _ => e, fun _ _ _ _ => rfl, fun _ o e => ⟨o, e⟩, fun i b hb => .inl ⟨i, hb⟩⟩
theorem Step.of (g : Grow B H B2 H2) : Step B H F B2 H2 F := ⟨g.bb, fun b o e _ => g.hh b o e, fun b o e _ => g.fr b o e, fun b o e => ⟨o, g.hh b o e⟩, fun i b hb => .inl ⟨i, hb⟩⟩
theorem Step.trans (a : Step B H F B1 H1 F1) (b : Step B1 H1 F1 B2 H2 F2) : Step B H F B2 H2 F2 where
  bb := a.bb.trans b.bb
  keep := fun c o e n => b.keep c o (a.keep c o e n) fun i hi => by
    rcases a.fn i c hi with ⟨j, hj⟩ | h
    · exact n j hj
    · rw [e] at h
      cases h
  fr := fun c o e n => by
    obtain ⟨o', e'⟩ := a.there c o e
    refine (b.fr c o' e' fun i hi => ?_).trans (a.fr c o e n)
    rcases a.fn i c hi with ⟨j, hj⟩ | h
    · exact n j hj
    · rw [e] at h
      cases h
  there := fun c o e => by
    obtain ⟨o', e'⟩ := a.there c o e
    exact b.there c o' e'
  fn := fun i c hc => by
    rcases b.fn i c hc with ⟨j, hj⟩ | h
    · exact a.fn j c hj
    · cases q : H c with
      | none => exact .inr rfl
      | some o =>
        obtain ⟨o', e'⟩ := a.there c o q
        rw [e'] at h
        cases h
theorem Step.sub (a : Step B H F B2 H2 F1) (h : ∀ i, ∀ b ∈ F2 i, ∃ j, b ∈ F1 j) : Step B H F B2 H2 F2 :=
  ⟨a.bb, a.keep, a.fr, a.there, fun i b hb => by
    obtain ⟨j, hj⟩ := h i b hb
    exact a.fn j b hj⟩
/-- a slot is given a value -/
theorem Wf.put (W : Wf K B H σ δ F) {i : Nat} {v : V} {s : Slot} (hs : SlotOk K B H (some v) s []) : Wf K B H (σ.set i (some v)) (δ.set i s) (fun j => if j = i then [] else F j) where
  bh := W.bh
  len := by rw [List.length_set, List.length_set]; exact W.len
  sl := fun j t e => by
    by_cases hj : j = i
    · subst hj
      have hlt : j < δ.length := by
        have := (List.getElem?_eq_some_iff.mp e).1
        rw [List.length_set] at this
        exact this
      rw [List.getElem?_set_self hlt] at e
      cases e
      refine ⟨some v, List.getElem?_set_self (by rw [← W.len]; exact hlt), ?_⟩
      rw [if_pos rfl]
      exact hs
    · rw [List.getElem?_set_ne (Ne.symm hj)] at e
      obtain ⟨o, h1, h2⟩ := W.sl j t e
      refine ⟨o, by rw [List.getElem?_set_ne (Ne.symm hj)]; exact h1, ?_⟩
      rw [if_neg hj]
      exact h2
  out := fun j hj => by
    rw [List.length_set] at hj
    by_cases h : j = i
    · rw [if_pos h]
    · rw [if_neg h]
      exact W.out j hj
  dis := fun j k a h1 h2 => by
    by_cases hj : j = i
    · rw [if_pos hj] at h1
      cases h1
    · by_cases hk : k = i
      · rw [if_pos hk] at h2
        cases h2
      · rw [if_neg hj] at h1
        rw [if_neg hk] at h2
        exact W.dis j k a h1 h2
  own := fun j a h => by
    by_cases hj : j = i
    · rw [if_pos hj] at h
      cases h
    · rw [if_neg hj] at h
      exact W.own j a h
theorem cut_sub {F : Nat → List Addr} {i : Nat} : ∀ j, ∀ b ∈ (fun j => if j = i then ([] : List Addr) else F j) j, ∃ k, b ∈ F k := fun j b hb => by
  by_cases hj : j = i
  · rw [show (fun j => if j = i then ([] : List Addr) else F j) j = [] from if_pos hj] at hb
    cases hb
  · rw [show (fun j => if j = i then ([] : List Addr) else F j) j = F j from if_neg hj] at hb
    exact ⟨j, hb⟩
/-- the slot of a datum -/
theorem Wf.dat (W : Wf K B H σ δ F) {i : Nat} {d : PyData} (h : δ[i]? = some (.dat d)) : ∃ v, σ[i]? = some (some v) ∧ Rp K B v d := by
  obtain ⟨o, h1, h2⟩ := W.sl i _ h
  cases o with
  | none => exact h2.elim
  | some v => exact ⟨v, h1, h2.2⟩
theorem Wf.raw (W : Wf K B H σ δ F) {i : Nat} {v : V} (h : δ[i]? = some (.raw v)) : σ[i]? = some (some v) := by
  obtain ⟨o, h1, h2⟩ := W.sl i _ h
  cases o with
  | none => exact h2.elim
  | some u =>
    obtain ⟨_, rfl⟩ := h2
    exact h1
end

/-! ### the readings -/
section
variable (K : PySem.W.Frag)
/-- a datum, new objects at most -/
def tD (δ : List Slot) (d : PyData) : TE := fun σ H Q => ∃ B F, Wf K B H σ δ F ∧ ∀ v B2 H2, Grow B H B2 H2 → Rp K B2 v d → Q v H2
/-- a new list -/
def tN (δ : List Slot) (ds : List PyData) : TE := fun σ H Q => ∃ B F, Wf K B H σ δ F ∧ ∀ p xs B2 H2, Grow B H B2 H2 → H p = none → B2 p = none → H2 p = some (.lst xs) → RpA K B2 xs ds → Q (.ref p) H2
/-- a value that is known -/
def tV (δ : List Slot) (u : V) : TE := fun σ H Q => ∃ B F, Wf K B H σ δ F ∧ ∀ B2 H2, Grow B H B2 H2 → Q u H2
def tBo (δ : List Slot) (b : Bool) : TT := fun σ H Q => ∃ B F, Wf K B H σ δ F ∧ ∀ B2 H2, Grow B H B2 H2 → Q b H2
def tA (δ : List Slot) (ds : List PyData) : TA := fun σ H Q => ∃ B F, Wf K B H σ δ F ∧ ∀ vs B2 H2, Grow B H B2 H2 → RpA K B2 vs ds → Q vs H2
def tO (δ : List Slot) (o : Option Int) : TO := fun σ H Q => ∃ B F, Wf K B H σ δ F ∧ ∀ B2 H2, Grow B H B2 H2 → Q o H2
/-- what may change the slots' objects -/
def tE (δ : List Slot) (P : PyData → List Slot → Prop) : TE := fun σ H Q => ∃ B F, Wf K B H σ δ F ∧ ∀ v d δ2 B2 H2 F2, Step B H F B2 H2 F2 → Wf K B2 H2 σ δ2 F2 → P d δ2 → Rp K B2 v d → Q v H2
structure Post where
  nx : List Slot → Prop := fun _ => False
  rt : PyData → List Slot → Prop := fun _ _ => False
  bk : List Slot → Prop := fun _ => False
  ct : List Slot → Prop := fun _ => False
def tS (δ : List Slot) (R : Post) : TS := fun D σ H => ∃ B F, Wf K B H σ δ F ∧
  (∀ σ2 δ2 B2 H2 F2, Step B H F B2 H2 F2 → Wf K B2 H2 σ2 δ2 F2 → R.nx δ2 → D.nx σ2 H2) ∧
  (∀ v d σ2 δ2 B2 H2 F2, Step B H F B2 H2 F2 → Wf K B2 H2 σ2 δ2 F2 → R.rt d δ2 → Rp K B2 v d → D.rt v H2) ∧
  (∀ σ2 δ2 B2 H2 F2, Step B H F B2 H2 F2 → Wf K B2 H2 σ2 δ2 F2 → R.bk δ2 → D.bk σ2 H2) ∧
  (∀ σ2 δ2 B2 H2 F2, Step B H F B2 H2 F2 → Wf K B2 H2 σ2 δ2 F2 → R.ct δ2 → D.ct σ2 H2)
end
/-! ### the judgements -/
section
variable (X : Cx)
abbrev XE (δ : List Slot) (e : Expr) (d : PyData) : Prop := PE X e (tD X.K δ d)
abbrev XN (δ : List Slot) (e : Expr) (ds : List PyData) : Prop := PE X e (tN X.K δ ds)
abbrev XV (δ : List Slot) (e : Expr) (u : V) : Prop := PE X e (tV X.K δ u)
abbrev XT (δ : List Slot) (e : Expr) (b : Bool) : Prop := PT X e (tBo X.K δ b)
abbrev XW (δ : List Slot) (e : Expr) (b : Bool) : Prop := PW X e (tBo X.K δ b)
abbrev XA (δ : List Slot) (es : List Expr) (ds : List PyData) : Prop := PA X es (tA X.K δ ds)
abbrev XO (δ : List Slot) (e : Option Expr) (o : Option Int) : Prop := PO X e (tO X.K δ o)
abbrev XF (δ : List Slot) (e : Expr) (P : PyData → List Slot → Prop) : Prop := PE X e (tE X.K δ P)
abbrev XS (δ : List Slot) (st : Stmt) (R : Post) : Prop := PS X st (tS X.K δ R)
abbrev XB (δ : List Slot) (sts : List Stmt) (R : Post) : Prop := PSs X sts (tS X.K δ R)
end
section
variable {X : Cx} {e : Expr} {t t' : TE} {δ : List Slot}
theorem _root_.L2.PE.weak (h : PE X e t) (w : ∀ σ H Q, t' σ H Q → t σ H Q) : PE X e t' := ⟨fun pins s σ H Q I q => h.run pins s σ H Q I (w σ H Q q)⟩
theorem _root_.L2.PT.weak {t t' : TT} (h : PT X e t) (w : ∀ σ H Q, t' σ H Q → t σ H Q) : PT X e t' := ⟨fun pins s σ H Q I q => h.run pins s σ H Q I (w σ H Q q)⟩
theorem _root_.L2.PW.weak {t t' : TT} (h : PW X e t) (w : ∀ σ H Q, t' σ H Q → t σ H Q) : PW X e t' := ⟨fun wh pins s σ H Q I q => h.run wh pins s σ H Q I (w σ H Q q)⟩
theorem _root_.L2.PA.weak {es : List Expr} {t t' : TA} (h : PA X es t) (w : ∀ σ H Q, t' σ H Q → t σ H Q) : PA X es t' := ⟨fun p pins s σ H Q I q => h.run p pins s σ H Q I (w σ H Q q)⟩
theorem _root_.L2.PO.weak {o : Option Expr} {t t' : TO} (h : PO X o t) (w : ∀ σ H Q, t' σ H Q → t σ H Q) : PO X o t' := ⟨fun pins s σ H Q I q => h.run pins s σ H Q I (w σ H Q q)⟩
theorem _root_.L2.PS.weak {st : Stmt} {t t' : TS} (h : PS X st t) (w : ∀ D σ H, t' D σ H → t D σ H) : PS X st t' := ⟨fun pins s σ H D I q => h.run pins s σ H D I (w D σ H q)⟩
theorem _root_.L2.PSs.weak {st : List Stmt} {t t' : TS} (h : PSs X st t) (w : ∀ D σ H, t' D σ H → t D σ H) : PSs X st t' := ⟨fun pins s σ H D I q => h.run pins s σ H D I (w D σ H q)⟩
end
end Dl

set_option Elab.async false
set_option linter.all false
set_option maxRecDepth 100000
set_option maxHeartbeats 4000000
/-! The data level: expressions. -/
namespace Dl
open PySem PySem.Spec PyProof.Rows L2

theorem room65 {k : Nat} {A : Around} (hr : Room k A) : A.units + 65 < cLine := by
  have := hr.un
  omega
section
variable {X : Cx} {δ : List Slot} {a b c e : Expr} {pos : Pos} {d d1 d2 d3 : PyData} {ds : List PyData} {rest es : List Expr}
/-! ### names, constants -/
theorem xe_var (i : Nat) {x : Str} (h : δ[i]? = some (.dat d) := by rfl) (hN : X.N[i]? = some x := by rfl) (hv : Vis X.env.scope x := by first | exact Or.inl rfl | exact Or.inr (Or.inl rfl) | exact Or.inr (Or.inr rfl)) (hd : (x == ("__debug__" : Str)) = false := by decide)
    (hcd : (x == ("__classdict__" : Str)) = false := by decide) : XE X δ (.Name x pos) d :=
  (pe_var (i := i) hN hv hd hcd).weak fun σ H Q ⟨B, F, W, q⟩ => by
    obtain ⟨v, h1, h2⟩ := W.dat h
    exact ⟨v, h1, q v B H (Grow.refl W.bh) h2⟩
theorem xv_var (i : Nat) {x : Str} {v : V} (h : δ[i]? = some (.raw v) := by rfl) (hN : X.N[i]? = some x := by rfl) (hv : Vis X.env.scope x := by first | exact Or.inl rfl | exact Or.inr (Or.inl rfl) | exact Or.inr (Or.inr rfl)) (hd : (x == ("__debug__" : Str)) = false := by decide)
    (hcd : (x == ("__classdict__" : Str)) = false := by decide) : XV X δ (.Name x pos) v :=
  (pe_var (i := i) hN hv hd hcd).weak fun σ H Q ⟨B, F, W, q⟩ => ⟨v, W.raw h, q B H (Grow.refl W.bh)⟩
theorem xe_c {v : V} (h : PE X e (tC v)) (r : ∀ B, Rp X.K B v d) : XE X δ e d := h.weak fun σ H Q ⟨B, F, W, q⟩ => q v B H (Grow.refl W.bh) (r B)
theorem xe_int {i : Int} {j} : XE X δ (.Constant (.int i) j pos) (.int i) := xe_c pe_int fun _ => .int i
theorem xe_bl {i : Bool} {j} : XE X δ (.Constant (.bool i) j pos) (.bool i) := xe_c pe_bl fun _ => .bl i
theorem xe_non {j} : XE X δ (.Constant .none j pos) .none := xe_c pe_non fun _ => .non
theorem xe_str {i : Str} {j} : XE X δ (.Constant (.str i) j pos) (.str i) := xe_c pe_str fun _ => .str i
/-- a module's constant -/
theorem xe_gint {x : Str} {i : Int} {t : Tok} (hm : X.mg x = some (.int i t)) (hg : Gl X x := by rfl) (hd : (x == ("__debug__" : Str)) = false := by decide) : XE X δ (.Name x pos) (.int i) :=
  xe_c (pe_glob (v := .int i) hg hm ⟨t, rfl⟩ hd) fun _ => .int i
theorem xe_gstr {x : Str} {i : Str} {t : Tok} (hm : X.mg x = some (.str i t)) (hg : Gl X x := by rfl) (hd : (x == ("__debug__" : Str)) = false := by decide) : XE X δ (.Name x pos) (.str i) :=
  xe_c (pe_glob (v := .str i) hg hm ⟨t, rfl⟩ hd) fun _ => .str i
theorem xv_c {v : V} (h : PE X e (tC v)) : XV X δ e v := h.weak fun σ H Q ⟨B, F, W, q⟩ => q B H (Grow.refl W.bh)
theorem xe_eq (h : XE X δ e d1) (q : d1 = d) : XE X δ e d := by
  rw [← q]
  exact h
/-- what is never come to -/
theorem pe_bot : PE X e (fun _ _ _ => False) := ⟨fun _ _ _ _ _ _ h => h.elim⟩
theorem pt_bot : PT X e (fun _ _ _ => False) := ⟨fun _ _ _ _ _ _ h => h.elim⟩
theorem pw_bot : PW X e (fun _ _ _ => False) := ⟨fun _ _ _ _ _ _ _ h => h.elim⟩

/-! ### operators -/
def RD (K : PySem.W.Frag) (r : R2) (d1 d2 d : PyData) : Prop := ∀ (B H : Hp) (x y : V) (Q : VK), Same B H → Rp K B x d1 → Rp K B y d2 → (∀ v B2 H2, Grow B H B2 H2 → Rp K B2 v d → Q v H2) → r x y H Q
def RU (K : PySem.W.Frag) (r : V → Hp → VK → Prop) (d1 d : PyData) : Prop := ∀ (B H : Hp) (x : V) (Q : VK), Same B H → Rp K B x d1 → (∀ v B2 H2, Grow B H B2 H2 → Rp K B2 v d → Q v H2) → r x H Q
theorem op_weak {r : R2} (ha : XE X δ a d1) (hb : XE X δ b d2) (hr : RD X.K r d1 d2 d) : ∀ σ H Q, tD X.K δ d σ H Q → tOp r (tD X.K δ d1) (tD X.K δ d2) σ H Q := fun σ H Q ⟨B, F, W, q⟩ =>
  ⟨B, F, W, fun x B1 H1 g1 r1 => ⟨B1, F, W.grow g1, fun y B2 H2 g2 r2 => hr B2 H2 x y Q g2.bh (r1.mono g2.bb) r2 fun v B3 H3 g3 r3 => q v B3 H3 ((g1.trans g2).trans g3) r3⟩⟩
theorem xe_op {op : Operator} {r : R2} (ho : OpR X (binaryOp op) r) (ha : XE X δ a d1) (hb : XE X δ b d2) (hr : RD X.K r d1 d2 d) : XE X δ (.BinOp a op b pos) d := (pe_op ho ha hb).weak (op_weak ha hb hr)
theorem xe_un {op : UnaryOp} {r : V → Hp → VK → Prop} (ho : UnR X (unaryOp op) r) (ha : XE X δ a d1) (hr : RU X.K r d1 d) : XE X δ (.UnaryOp op a pos) d := (pe_un ho ha).weak fun σ H Q ⟨B, F, W, q⟩ =>
  ⟨B, F, W, fun x B1 H1 g1 r1 => hr B1 H1 x Q g1.bh r1 fun v B2 H2 g2 r2 => q v B2 H2 (g1.trans g2) r2⟩
theorem rd_I0 {K : PySem.W.Frag} {g : Int → Int → V} {i j : Int} (h : ∀ B, Rp K B (g i j) d) : RD K (rI0 g) (.int i) (.int j) d := fun B H x y Q s rx ry q => by
  cases rx
  cases ry
  exact ⟨i, j, rfl, rfl, q _ B H (Grow.refl s) (h B)⟩
theorem rd_I {K : PySem.W.Frag} {C : Int → Int → Prop} {g : Int → Int → V} {i j : Int} (hc : C i j) (h : ∀ B, Rp K B (g i j) d) : RD K (rI C g) (.int i) (.int j) d := fun B H x y Q s rx ry q => by
  cases rx
  cases ry
  exact ⟨i, j, rfl, rfl, hc, q _ B H (Grow.refl s) (h B)⟩
theorem sz_of {n : Nat} (h : n ≤ 1000000) : n ≤ sizeLine := by
  rw [sizeLine_eq]
  omega
theorem rd_cat {K : PySem.W.Frag} {xs ys : List PyData} (hz : xs.length + ys.length ≤ 1000000) : RD K rCat (.list xs) (.list ys) (.list (xs ++ ys)) := fun B H x y Q s rx ry q => by
  cases rx with
  | @lst a us _ h1 r1 =>
    cases ry with
    | @lst b ws _ h2 r2 =>
      refine ⟨_, _, _, _, rfl, rfl, s _ _ h1, s _ _ h2, sz_of (by rw [r1.length, r2.length]; exact hz), fun p hp => ?_⟩
      have g := Grow.new (o := .lst (us ++ ws)) s hp
      exact q _ _ _ g (.lst upd_same ((r1.append r2).mono g.bb))
theorem rd_catT {K : PySem.W.Frag} {xs ys : List PyData} (hz : xs.length + ys.length ≤ 1000000) : RD K (rCatA K) (.tuple xs) (.tuple ys) (.tuple (xs ++ ys)) := fun B H x y Q s rx ry q => by
  cases rx with
  | @tup a us _ h1 r1 =>
    cases ry with
    | @tup b ws _ h2 r2 =>
      refine ⟨_, _, _, _, rfl, rfl, same_t s h1, same_t s h2, sz_of (by rw [r1.length, r2.length]; exact hz), fun e => ?_, fun n e => ?_, fun n m p hp => ?_⟩
      · subst e
        cases r1
        exact q _ B H (Grow.refl s) (.tup h2 r2)
      · subst e
        cases r2
        rw [List.append_nil] at q
        exact q _ B H (Grow.refl s) (.tup h1 r1)
      · have g := Grow.new (o := .tup (us ++ ws)) s hp
        exact q _ _ _ g (.tup (.inl (.inl upd_same)) ((r1.append r2).mono g.bb))
theorem rd_rep {K : PySem.W.Frag} {xs : List PyData} {k : Int} (hk : 0 ≤ k) (hk2 : k ≤ 1000000) (hz : xs.length * k.toNat ≤ 1000000) : RD K rRep (.list xs) (.int k) (.list (List.replicate k.toNat xs).flatten) := fun B H x y Q s rx ry q => by
  cases ry
  cases rx with
  | @lst a us _ h1 r1 =>
    refine ⟨_, k, _, rfl, rfl, s _ _ h1, by omega, by omega, sz_of (by rw [r1.length]; exact hz), fun p hp => ?_⟩
    have g := Grow.new (o := .lst (List.replicate k.toNat us).flatten) s hp
    exact q _ _ _ g (.lst upd_same ((r1.rep _).mono g.bb))
theorem rd_repT {K : PySem.W.Frag} {xs : List PyData} {k : Int} (hk : 2 ≤ k) (hk2 : k ≤ 1000) (hn : xs ≠ []) (hz : xs.length ≤ 1000) : RD K (rRepT K) (.tuple xs) (.int k) (.tuple (List.replicate k.toNat xs).flatten) := fun B H x y Q s rx ry q => by
  cases ry
  cases rx with
  | @tup a us _ h1 r1 =>
    refine ⟨_, k, _, rfl, rfl, same_t s h1, fun e => hn ?_, hk, hk2, by rw [r1.length]; exact hz, fun p hp => ?_⟩
    · subst e
      cases r1
      rfl
    · have g := Grow.new (o := .tup (List.replicate k.toNat us).flatten) s hp
      exact q _ _ _ g (.tup (.inl (.inl upd_same)) ((r1.rep _).mono g.bb))
theorem xe_addI {i j : Int} (ha : XE X δ a (.int i)) (hb : XE X δ b (.int j)) : XE X δ (.BinOp a .Add b pos) (.int (i + j)) := xe_op op_add ha hb (rd_I0 fun _ => .int _)
theorem xe_subI {i j : Int} (ha : XE X δ a (.int i)) (hb : XE X δ b (.int j)) : XE X δ (.BinOp a .Sub b pos) (.int (i - j)) := xe_op op_sub ha hb (rd_I0 fun _ => .int _)
theorem xe_mulI {i j : Int} (ha : XE X δ a (.int i)) (hb : XE X δ b (.int j)) (hc : CMul i j) : XE X δ (.BinOp a .Mult b pos) (.int (i * j)) := xe_op op_mul ha hb (rd_I hc fun _ => .int _)
theorem xe_modI {i j : Int} (ha : XE X δ a (.int i)) (hb : XE X δ b (.int j)) (hc : 0 < j) : XE X δ (.BinOp a .Mod b pos) (.int (i % j)) := xe_op op_mod ha hb (rd_I hc fun _ => .int _)
theorem xe_divI {i j : Int} (ha : XE X δ a (.int i)) (hb : XE X δ b (.int j)) (hc : 0 < j ∧ j < 1073741824) : XE X δ (.BinOp a .FloorDiv b pos) (.int (i / j)) := xe_op op_fdiv ha hb (rd_I hc fun _ => .int _)
theorem xe_powI {i j : Int} (ha : XE X δ a (.int i)) (hb : XE X δ b (.int j)) (hc : CPow i j) : XE X δ (.BinOp a .Pow b pos) (.int (i ^ j.toNat)) := xe_op op_pow ha hb (rd_I hc fun _ => .int _)
theorem xe_shlI {i j : Int} (ha : XE X δ a (.int i)) (hb : XE X δ b (.int j)) (hc : CShl i j) : XE X δ (.BinOp a .LShift b pos) (.int (i * 2 ^ j.toNat)) := xe_op op_shlW ha hb (rd_I hc fun _ => .int _)
theorem xe_shrI {i j : Int} (ha : XE X δ a (.int i)) (hb : XE X δ b (.int j)) (hc : 0 ≤ j) : XE X δ (.BinOp a .RShift b pos) (.int (i / 2 ^ j.toNat)) := xe_op op_shr ha hb (rd_I hc fun _ => .int _)
theorem xe_andI {i j : Int} (ha : XE X δ a (.int i)) (hb : XE X δ b (.int j)) : XE X δ (.BinOp a .BitAnd b pos) (.int (Builtin.bitAnd i j)) := xe_op op_and ha hb (rd_I0 fun _ => .int _)
theorem xe_orI {i j : Int} (ha : XE X δ a (.int i)) (hb : XE X δ b (.int j)) : XE X δ (.BinOp a .BitOr b pos) (.int (Builtin.bitOr i j)) := xe_op op_or ha hb (rd_I0 fun _ => .int _)
theorem xe_cat {xs ys : List PyData} (ha : XE X δ a (.list xs)) (hb : XE X δ b (.list ys)) (hz : xs.length + ys.length ≤ 1000000) : XE X δ (.BinOp a .Add b pos) (.list (xs ++ ys)) := xe_op op_cat ha hb (rd_cat hz)
theorem xe_catT {xs ys : List PyData} (ha : XE X δ a (.tuple xs)) (hb : XE X δ b (.tuple ys)) (hz : xs.length + ys.length ≤ 1000000) : XE X δ (.BinOp a .Add b pos) (.tuple (xs ++ ys)) := xe_op op_catA ha hb (rd_catT hz)
theorem xe_rep {xs : List PyData} {k : Int} (ha : XE X δ a (.list xs)) (hb : XE X δ b (.int k)) (hk : 0 ≤ k) (hk2 : k ≤ 1000000) (hz : xs.length * k.toNat ≤ 1000000) : XE X δ (.BinOp a .Mult b pos) (.list (List.replicate k.toNat xs).flatten) := xe_op op_rep ha hb (rd_rep hk hk2 hz)
theorem xe_neg {i : Int} (ha : XE X δ a (.int i)) : XE X δ (.UnaryOp .USub a pos) (.int (-i)) := xe_un un_neg ha fun B H x Q s rx q => by
  cases rx
  exact ⟨i, rfl, q _ B H (Grow.refl s) (.int _)⟩

/-! ### truth -/
def truD : PyData → Bool
  | .none => false
  | .bool b => b
  | .int i => i != 0
  | .str x => (x.length : Int) != 0
  | .list ds => !ds.isEmpty
  | .tuple ds => !ds.isEmpty
  | .dict ds => !ds.isEmpty
def TruOk : PyData → Prop
  | .str x => x.length ≤ sizeLine
  | .dict _ => False
  | _ => True
theorem tru_of {K : PySem.W.Frag} {B H : Hp} {x : V} (s : Same B H) (r : Rp K B x d) (ok : TruOk d) : TruV K x H (truD d) := by
  cases r with
  | non => rfl
  | bl b => rfl
  | int i => rfl
  | str x => exact ⟨ok, rfl⟩
  | @lst a xs ds h q =>
    refine .inl ⟨xs, .inl (.inl (s _ _ h)), ?_⟩
    cases q <;> rfl
  | @tup a xs ds h q =>
    refine .inr (.inl ⟨xs, same_t s h, ?_⟩)
    cases q <;> rfl
theorem xe_not (ha : XE X δ a d1) (ok : TruOk d1 := by trivial) : XE X δ (.UnaryOp .Not a pos) (.bool (!truD d1)) := (pe_notT ha).weak fun σ H Q ⟨B, F, W, q⟩ =>
  ⟨B, F, W, fun x B1 H1 g1 r1 => ⟨_, tru_of g1.bh r1 ok, q _ B1 H1 g1 (.bl _)⟩⟩
theorem xt_tru (ha : XE X δ a d1) (ok : TruOk d1 := by trivial) (he : ∀ whole, isTrue a X.env whole = (do let v ← whole; standAt a.pos; holding [v] (truthy v)) := by intro _; rfl) : XT X δ a (truD d1) := (pt_truth ha he).weak fun σ H Q ⟨B, F, W, q⟩ =>
  ⟨B, F, W, fun x B1 H1 g1 r1 => ⟨_, tru_of g1.bh r1 ok, q B1 H1 g1⟩⟩
theorem xt_not {b : Bool} (ha : XT X δ a b) : XT X δ (.UnaryOp .Not a pos) (!b) := (pt_not ha).weak fun σ H Q ⟨B, F, W, q⟩ => ⟨B, F, W, fun B1 H1 g1 => q B1 H1 g1⟩
theorem xt_eq {b b' : Bool} (h : XT X δ a b) (q : b = b') : XT X δ a b' := by
  rw [← q]
  exact h
theorem XW.xt {b : Bool} (h : XW X δ e b) : XT X δ e b := PW.pt h
theorem xw_and1 {b : Bool} (ha : XT X δ a b) : XW X δ (.BoolOp .And [a] pos) b := pw_and1 ha
theorem xw_or1 {b : Bool} (ha : XT X δ a b) : XW X δ (.BoolOp .Or [a] pos) b := pw_or1 ha
theorem xw_and {k m : Bool} (ha : XT X δ a k) (hb : k = true → XW X δ (.BoolOp .And (b :: rest) pos) m) : XW X δ (.BoolOp .And (a :: b :: rest) pos) (k && m) := by
  cases k with
  | true => exact (pw_and ha (hb rfl)).weak fun σ H Q ⟨B, F, W, q⟩ => ⟨B, F, W, fun B1 H1 g1 => by
      show tBo X.K δ m σ H1 Q
      exact ⟨B1, F, W.grow g1, fun B2 H2 g2 => q B2 H2 (g1.trans g2)⟩⟩
  | false => exact (pw_and ha pw_bot).weak fun σ H Q ⟨B, F, W, q⟩ => ⟨B, F, W, fun B1 H1 g1 => by
      show Q false H1
      exact q B1 H1 g1⟩
theorem xw_or {k m : Bool} (ha : XT X δ a k) (hb : k = false → XW X δ (.BoolOp .Or (b :: rest) pos) m) : XW X δ (.BoolOp .Or (a :: b :: rest) pos) (k || m) := by
  cases k with
  | false => exact (pw_or ha (hb rfl)).weak fun σ H Q ⟨B, F, W, q⟩ => ⟨B, F, W, fun B1 H1 g1 => by
      show tBo X.K δ m σ H1 Q
      exact ⟨B1, F, W.grow g1, fun B2 H2 g2 => q B2 H2 (g1.trans g2)⟩⟩
  | true => exact (pw_or ha pw_bot).weak fun σ H Q ⟨B, F, W, q⟩ => ⟨B, F, W, fun B1 H1 g1 => by
      show Q true H1
      exact q B1 H1 g1⟩
/-! and, or as values (bools) -/
theorem xe_one {op} (h : XE X δ a d) : XE X δ (.BoolOp op [a] pos) d := pe_one h
theorem xe_and {k m : Bool} (ha : XE X δ a (.bool k)) (hb : k = true → XE X δ (.BoolOp .And (b :: rest) pos) (.bool m)) : XE X δ (.BoolOp .And (a :: b :: rest) pos) (.bool (k && m)) := by
  cases k with
  | true => exact (pe_and ha (hb rfl)).weak fun σ H Q ⟨B, F, W, q⟩ => ⟨B, F, W, fun x B1 H1 g1 r1 => by
      cases r1
      exact ⟨true, rfl, B1, F, W.grow g1, fun v B2 H2 g2 r2 => q v B2 H2 (g1.trans g2) r2⟩⟩
  | false => exact (pe_and ha pe_bot).weak fun σ H Q ⟨B, F, W, q⟩ => ⟨B, F, W, fun x B1 H1 g1 r1 => by
      cases r1
      exact ⟨false, rfl, q _ B1 H1 g1 (.bl _)⟩⟩
theorem xe_or {k m : Bool} (ha : XE X δ a (.bool k)) (hb : k = false → XE X δ (.BoolOp .Or (b :: rest) pos) (.bool m)) : XE X δ (.BoolOp .Or (a :: b :: rest) pos) (.bool (k || m)) := by
  cases k with
  | false => exact (pe_or ha (hb rfl)).weak fun σ H Q ⟨B, F, W, q⟩ => ⟨B, F, W, fun x B1 H1 g1 r1 => by
      cases r1
      exact ⟨false, rfl, B1, F, W.grow g1, fun v B2 H2 g2 r2 => q v B2 H2 (g1.trans g2) r2⟩⟩
  | true => exact (pe_or ha pe_bot).weak fun σ H Q ⟨B, F, W, q⟩ => ⟨B, F, W, fun x B1 H1 g1 r1 => by
      cases r1
      exact ⟨true, rfl, q _ B1 H1 g1 (.bl _)⟩⟩
theorem xe_if {k : Bool} (hc : XT X δ c k) (ha : k = true → XE X δ a d) (hb : k = false → XE X δ b d) : XE X δ (.IfExp c a b pos) d := by
  cases k with
  | true => exact (pe_ifExp hc (ha rfl) pe_bot).weak fun σ H Q ⟨B, F, W, q⟩ => ⟨B, F, W, fun B1 H1 g1 => by
      show tD X.K δ d σ H1 Q
      exact ⟨B1, F, W.grow g1, fun v B2 H2 g2 r2 => q v B2 H2 (g1.trans g2) r2⟩⟩
  | false => exact (pe_ifExp hc pe_bot (hb rfl)).weak fun σ H Q ⟨B, F, W, q⟩ => ⟨B, F, W, fun B1 H1 g1 => by
      show tD X.K δ d σ H1 Q
      exact ⟨B1, F, W.grow g1, fun v B2 H2 g2 r2 => q v B2 H2 (g1.trans g2) r2⟩⟩

/-! ### comparisons -/
inductive CmpD : CmpOp → PyData → PyData → Bool → Prop
  | ltI (i j : Int) : CmpD .Lt (.int i) (.int j) (decide (i < j))
  | leI (i j : Int) : CmpD .LtE (.int i) (.int j) (decide (i ≤ j))
  | gtI (i j : Int) : CmpD .Gt (.int i) (.int j) (decide (j < i))
  | geI (i j : Int) : CmpD .GtE (.int i) (.int j) (decide (j ≤ i))
  | eqI (i j : Int) : CmpD .Eq (.int i) (.int j) (decide (i = j))
  | neI (i j : Int) : CmpD .NotEq (.int i) (.int j) (!decide (i = j))
  | eqB (i j : Bool) : CmpD .Eq (.bool i) (.bool j) (i == j)
  | neB (i j : Bool) : CmpD .NotEq (.bool i) (.bool j) (!(i == j))
  | eqS (i j : Str) : CmpD .Eq (.str i) (.str j) (decide (i = j))
  | neS (i j : Str) : CmpD .NotEq (.str i) (.str j) (!decide (i = j))
  | eqD (d e : PyData) (h1 : SeqAt.shaped d = true) (h2 : SeqAt.shaped e = true) : CmpD .Eq d e (PyData.eqv d e)
  | neD (d e : PyData) (h1 : SeqAt.shaped d = true) (h2 : SeqAt.shaped e = true) : CmpD .NotEq d e (!PyData.eqv d e)
  | inD (d : PyData) (es : List PyData) (h1 : SeqAt.shaped d = true) (h2 : SeqAt.shaped (.list es) = true) : CmpD .In d (.list es) (es.any fun z => PyData.eqv z d)
  | notInD (d : PyData) (es : List PyData) (h1 : SeqAt.shaped d = true) (h2 : SeqAt.shaped (.list es) = true) : CmpD .NotIn d (.list es) (!es.any fun z => PyData.eqv z d)
  | isN (d : PyData) (b : Bool) (h : b = (match d with | .none => true | _ => false)) : CmpD .Is d .none b
  | notN (d : PyData) (b : Bool) (h : b = (match d with | .none => false | _ => true)) : CmpD .IsNot d .none b
def rCmp (K : PySem.W.Frag) (op : CmpOp) : R2 := fun x y H Q => ∃ B d e b, Same B H ∧ Rp K B x d ∧ Rp K B y e ∧ CmpD op d e b ∧ Q (.bl b) H
theorem or_cmp (hu : X.A.units + 65 < cLine) (op : CmpOp) : OpR X (compareOp op) (rCmp X.K op) := by
  intro pins s σ H x y v u Q I rx ry h
  obtain ⟨B, d, e, b, sm, rd, re, c, q⟩ := h
  have hu' : X.A.units + 64 < cLine := by omega
  cases c with
  | ltI i j => cases rd; cases re; exact op_lt pins s σ H _ _ v u Q I rx ry ⟨i, j, rfl, rfl, q⟩
  | leI i j => cases rd; cases re; exact op_le pins s σ H _ _ v u Q I rx ry ⟨i, j, rfl, rfl, q⟩
  | gtI i j => cases rd; cases re; exact op_gt pins s σ H _ _ v u Q I rx ry ⟨i, j, rfl, rfl, q⟩
  | geI i j => cases rd; cases re; exact op_ge pins s σ H _ _ v u Q I rx ry ⟨i, j, rfl, rfl, q⟩
  | eqI i j => cases rd; cases re; exact op_eq pins s σ H _ _ v u Q I rx ry ⟨rfl, by simpa using q⟩
  | neI i j => cases rd; cases re; exact op_ne pins s σ H _ _ v u Q I rx ry ⟨rfl, by simpa using q⟩
  | eqB i j => cases rd; cases re; exact op_eq pins s σ H _ _ v u Q I rx ry ⟨rfl, by rw [dec_bl]; exact q⟩
  | neB i j => cases rd; cases re; exact op_ne pins s σ H _ _ v u Q I rx ry ⟨rfl, by rw [dec_bl]; exact q⟩
  | eqS i j => cases rd; cases re; exact op_eq pins s σ H _ _ v u Q I rx ry ⟨rfl, by simpa using q⟩
  | neS i j => cases rd; cases re; exact op_ne pins s σ H _ _ v u Q I rx ry ⟨rfl, by simpa using q⟩
  | eqD d e h1 h2 => exact op_eqD hu' pins s σ H _ _ v u Q I rx ry ⟨d, e, (rd.mono sm).dp, (re.mono sm).dp, h1, h2, q⟩
  | neD d e h1 h2 => exact op_neD hu' pins s σ H _ _ v u Q I rx ry ⟨d, e, (rd.mono sm).dp, (re.mono sm).dp, h1, h2, q⟩
  | inD d es h1 h2 => exact op_inD hu pins s σ H _ _ v u Q I rx ry ⟨d, es, (rd.mono sm).dp, (re.mono sm).dp, h1, h2, q⟩
  | notInD d es h1 h2 => exact op_notInD hu pins s σ H _ _ v u Q I rx ry ⟨d, es, (rd.mono sm).dp, (re.mono sm).dp, h1, h2, q⟩
  | isN d b h =>
    cases re
    refine op_isN pins s σ H _ _ v u Q I rx ry ⟨rfl, ?_⟩
    have e : decide (x = V.non) = b := by rw [h]; cases rd <;> simp
    rw [e]
    exact q
  | notN d b h =>
    cases re
    refine op_notN pins s σ H _ _ v u Q I rx ry ⟨rfl, ?_⟩
    have e : (!decide (x = V.non)) = b := by rw [h]; cases rd <;> simp
    rw [e]
    exact q
theorem xe_cmp {op : CmpOp} {k : Bool} (hu : X.A.units + 65 < cLine) (ha : XE X δ a d1) (hb : XE X δ b d2) (hc : CmpD op d1 d2 k) (hm : behindInMarks op b = false := by first | exact nomark _ | rfl) : XE X δ (.Compare a [op] [b] pos) (.bool k) :=
  (pe_cmpR (or_cmp hu op) ha hb hm).weak (op_weak ha hb fun B H x y Q s rx ry q => ⟨B, d1, d2, k, s, rx, ry, hc, q _ B H (Grow.refl s) (.bl k)⟩)
theorem xt_cmp {op : CmpOp} {k : Bool} (hu : X.A.units + 65 < cLine) (ha : XE X δ a d1) (hb : XE X δ b d2) (hc : CmpD op d1 d2 k) (hm : behindInMarks op b = false := by first | exact nomark _ | rfl) : XT X δ (.Compare a [op] [b] pos) k :=
  (pt_cmpR (or_cmp hu op) ha hb hm).weak fun σ H Q ⟨B, F, W, q⟩ => ⟨B, F, W, fun x B1 H1 g1 r1 => ⟨B1, F, W.grow g1, fun y B2 H2 g2 r2 =>
    ⟨B2, d1, d2, k, g2.bh, r1.mono g2.bb, r2, hc, k, rfl, q B2 H2 (g1.trans g2)⟩⟩⟩
/-- a op b op' c -/
theorem xe_chain {op op' : CmpOp} {k m : Bool} (hu : X.A.units + 65 < cLine) (ha : XE X δ a d1) (hb : XE X δ b d2) (hc : XE X δ c d3) (h1 : CmpD op d1 d2 k) (h2 : k = true → CmpD op' d2 d3 m) (hm : lastMarks [op, op'] [b, c] = false := by with_unfolding_all rfl) :
    XE X δ (.Compare a [op, op'] [b, c] pos) (.bool (k && m)) :=
  (pe_chain (or_cmp hu op) (or_cmp hu op') ha hb hc hm).weak fun σ H Q ⟨B, F, W, q⟩ => ⟨B, F, W, fun x B1 H1 g1 r1 => ⟨B1, F, W.grow g1, fun y B2 H2 g2 r2 =>
    ⟨B2, d1, d2, k, g2.bh, r1.mono g2.bb, r2, h1, k, rfl, by
      cases k with
      | false => exact q _ B2 H2 (g1.trans g2) (.bl _)
      | true => exact ⟨B2, F, (W.grow g1).grow g2, fun z B3 H3 g3 r3 => ⟨B3, d2, d3, m, g3.bh, r2.mono g3.bb, r3, h2 rfl, q _ B3 H3 ((g1.trans g2).trans g3) (.bl _)⟩⟩⟩⟩⟩
theorem xt_chain {op op' : CmpOp} {k m : Bool} (hu : X.A.units + 65 < cLine) (ha : XE X δ a d1) (hb : XE X δ b d2) (hc : XE X δ c d3) (h1 : CmpD op d1 d2 k) (h2 : k = true → CmpD op' d2 d3 m) (hm : lastMarks [op, op'] [b, c] = false := by with_unfolding_all rfl) :
    XT X δ (.Compare a [op, op'] [b, c] pos) (k && m) :=
  (pt_chain (or_cmp hu op) (or_cmp hu op') ha hb hc hm).weak fun σ H Q ⟨B, F, W, q⟩ => ⟨B, F, W, fun x B1 H1 g1 r1 => ⟨B1, F, W.grow g1, fun y B2 H2 g2 r2 =>
    ⟨B2, d1, d2, k, g2.bh, r1.mono g2.bb, r2, h1, k, rfl, by
      cases k with
      | false => exact ⟨false, rfl, q B2 H2 (g1.trans g2)⟩
      | true => exact ⟨B2, F, (W.grow g1).grow g2, fun z B3 H3 g3 r3 => ⟨B3, d2, d3, m, g3.bh, r2.mono g3.bb, r3, h2 rfl, m, rfl, q B3 H3 ((g1.trans g2).trans g3)⟩⟩⟩⟩⟩

/-! ### items, slices, displays -/
inductive IxD : PyData → Int → PyData → Prop
  | lst {ds : List PyData} {i : Int} {d : PyData} (h : atI ds i = some d) : IxD (.list ds) i d
  | tup {ds : List PyData} {i : Int} {d : PyData} (h : atI ds i = some d) : IxD (.tuple ds) i d
  | str {z : Str} {i : Int} {c : Nat} (hz : z.length ≤ sizeLine) (h : atI z.cps.toList i = some c) : IxD (.str z) i (.str ⟨#[c]⟩)
theorem atI_rp {K : PySem.W.Frag} {H : Hp} {vs : List V} {ds : List PyData} {i : Int} (r : RpA K H vs ds) (h : atI ds i = some d) : ∃ v, atI vs i = some v ∧ Rp K H v d := by
  unfold atI at h ⊢
  rw [r.length]
  cases e : ixN ds.length i with
  | none =>
    rw [e] at h
    simp at h
  | some j =>
    rw [e] at h
    simp only [Option.bind_some] at h ⊢
    exact r.getD h
theorem rd_ix {K : PySem.W.Frag} {i : Int} (h : IxD d1 i d) : RD K (rIx K) d1 (.int i) d := fun B H x y Q s rx ry q => by
  cases ry
  cases h with
  | lst h =>
    cases rx with
    | @lst a xs _ h1 r1 =>
      obtain ⟨v, e, r⟩ := atI_rp r1 h
      exact .inl ⟨a, xs, i, v, rfl, rfl, SqL.of (s _ _ h1), e, q v B H (Grow.refl s) r⟩
  | tup h =>
    cases rx with
    | @tup a xs _ h1 r1 =>
      obtain ⟨v, e, r⟩ := atI_rp r1 h
      exact .inr (.inl ⟨a, xs, i, v, rfl, rfl, same_t s h1, e, q v B H (Grow.refl s) r⟩)
  | @str z _ c hz h =>
    cases rx
    exact .inr (.inr ⟨z, i, c, rfl, rfl, hz, h, q _ B H (Grow.refl s) (.str _)⟩)
theorem xe_ix {i : Int} (ha : XE X δ a d1) (hb : XE X δ b (.int i)) (h : IxD d1 i d) (hs : PlainIx b := by exact fun _ _ => rfl) : XE X δ (.Subscript a b pos) d := (pe_ix ix_seq ha hb hs).weak (op_weak ha hb (rd_ix h))
theorem xo_none : XO X δ none none := po_none.weak fun σ H Q ⟨B, F, W, q⟩ => q B H (Grow.refl W.bh)
theorem xo_some {i : Int} (h : XE X δ e (.int i)) : XO X δ (some e) (some i) := (po_some h).weak fun σ H Q ⟨B, F, W, q⟩ => ⟨B, F, W, fun x B1 H1 g1 r1 => by
  cases r1
  exact ⟨i, rfl, q B1 H1 g1⟩⟩
def cutD {α : Type} (xs : List α) (lo hi : Option Int) : List α := (xs.drop (HT.sIx xs.length 0 lo)).take (HT.sIx xs.length xs.length hi - HT.sIx xs.length 0 lo)
inductive SlD : PyData → Option Int → Option Int → PyData → Prop
  | lst (ds : List PyData) (lo hi : Option Int) : SlD (.list ds) lo hi (.list (cutD ds lo hi))
  | tup (ds : List PyData) (lo hi : Option Int) : SlD (.tuple ds) lo hi (.tuple (cutD ds lo hi))
  | str (z : Str) (lo hi : Option Int) (hz : z.length ≤ sizeLine) : SlD (.str z) lo hi (.str (cutS z lo hi))
theorem RpA.cut {K : PySem.W.Frag} {H : Hp} {vs : List V} {ds : List PyData} (r : RpA K H vs ds) (lo hi : Option Int) : RpA K H (cutV vs lo hi) (cutD ds lo hi) := by
  unfold cutV cutD
  rw [r.length]
  exact (r.drop _).take _
theorem cut_whole {α : Type} {xs : List α} {lo hi : Option Int} (h : HT.sIx xs.length 0 lo = 0 ∧ HT.sIx xs.length xs.length hi = xs.length) : cutD xs lo hi = xs := by
  unfold cutD
  rw [h.1, h.2]
  simp
theorem or_sl : SlR X (fun x lo hi H Q => (rSlL X.K x lo hi H Q ∨ rSlA X.K x lo hi H Q) ∨ rSlS x lo hi H Q) := (sl_list.or sl_tupA).or sl_str
theorem xe_sl {lo hi : Option Expr} {i j : Option Int} {p2 : Pos} (ha : XE X δ a d1) (hl : XO X δ lo i) (hh : XO X δ hi j) (h : SlD d1 i j d) : XE X δ (.Subscript a (.Slice lo hi none p2) pos) d := (pe_slice or_sl ha hl hh).weak fun σ H Q ⟨B, F, W, q⟩ =>
  ⟨B, F, W, fun x B1 H1 g1 r1 => ⟨B1, F, W.grow g1, fun B2 H2 g2 => ⟨B2, F, (W.grow g1).grow g2, fun B3 H3 g3 => by
    have g := (g1.trans g2).trans g3
    have r := r1.mono (g2.trans g3).bb
    cases h with
    | lst ds =>
      cases r with
      | @lst p xs _ h1 r1 =>
        refine .inl (.inl ⟨p, xs, rfl, SqL.of (g3.bh _ _ h1), fun l hl => ?_⟩)
        have g4 := Grow.new (o := .lst (cutV xs i j)) g3.bh hl
        exact q _ _ _ (g.trans g4) (.lst upd_same ((r1.cut i j).mono g4.bb))
    | tup ds =>
      cases r with
      | @tup p xs _ h1 r1 =>
        refine .inl (.inr ⟨p, xs, rfl, same_t g3.bh h1, fun w => ?_, fun w l hl => ?_⟩)
        · rw [r1.length] at w
          rw [cut_whole w] at q
          exact q _ _ _ g (.tup h1 r1)
        · have g4 := Grow.new (o := .tup (cutV xs i j)) g3.bh hl
          exact q _ _ _ (g.trans g4) (.tup (.inl (.inl upd_same)) ((r1.cut i j).mono g4.bb))
    | str z _ _ hz =>
      cases r
      exact .inr ⟨z, rfl, hz, q _ _ _ g (.str _)⟩⟩⟩⟩
theorem xa_nil : XA X δ [] [] := pa_nil.weak fun σ H Q ⟨B, F, W, q⟩ => q [] B H (Grow.refl W.bh) .nil
theorem xa_cons (ha : XE X δ e d) (hr : XA X δ es ds) (hs : starEach (e :: es) X.env = (false, eval e X.env) :: starEach es X.env := by rfl) : XA X δ (e :: es) (d :: ds) := (pa_cons ha hr hs).weak fun σ H Q ⟨B, F, W, q⟩ =>
  ⟨B, F, W, fun x B1 H1 g1 r1 => ⟨B1, F, W.grow g1, fun vs B2 H2 g2 r2 => q _ B2 H2 (g1.trans g2) (.cons (r1.mono g2.bb) r2)⟩⟩
theorem xe_tup {x1} (h : XA X δ es ds) (hz : ds.length ≤ 1000000 := by exact Nat.le_of_ble_eq_true rfl) : XE X δ (.Tuple es x1 pos) (.tuple ds) := (pe_tup h).weak fun σ H Q ⟨B, F, W, q⟩ =>
  ⟨B, F, W, fun vs B1 H1 g1 r1 => ⟨sz_of (by rw [r1.length]; exact hz), fun p hp => by
    have g2 := Grow.new (o := .tup vs) g1.bh hp
    exact q _ _ _ (g1.trans g2) (.tup (.inl (.inl upd_same)) (r1.mono g2.bb))⟩⟩
theorem xn_lst (h : XA X δ es ds) (hz : ds.length ≤ 1000000 := by exact Nat.le_of_ble_eq_true rfl) : XN X δ (.List es pos) ds := (pe_lst h).weak fun σ H Q ⟨B, F, W, q⟩ =>
  ⟨B, F, W, fun vs B1 H1 g1 r1 => ⟨sz_of (by rw [r1.length]; exact hz), fun p hp => by
    have g2 := Grow.newH (o := .lst vs) g1.bh hp
    have hp0 : H p = none := g1.hh.free hp
    have hb : B1 p = none := g1.bh.free hp
    exact q _ _ _ _ (g1.trans g2) hp0 hb upd_same r1⟩⟩
theorem grow_froz {B H B2 H2 : Hp} {p : Addr} {xs : List V} (g : Grow B H B2 H2) (hp : H p = none) (hb : B2 p = none) (h : H2 p = some (.lst xs)) : Grow B H (upd B2 p (.lst xs)) H2 :=
  ⟨g.bb.trans (same_upd hb), fun b o e => by
    by_cases hh : b = p
    · subst hh
      rw [upd_same] at e
      cases e
      exact h
    · rw [upd_ne hh] at e
      exact g.bh b o e, g.hh, fun b o e => by
    rw [upd_ne (ne_of_none e hp)]
    exact g.fr b o e⟩
theorem xe_new (h : XN X δ e ds) : XE X δ e (.list ds) := L2.PE.weak h fun σ H Q ⟨B, F, W, q⟩ => ⟨B, F, W, fun p xs B2 H2 g hp hb h2 r => by
  have g2 := grow_froz g hp hb h2
  exact q _ _ _ g2 (.lst upd_same (r.mono (same_upd hb)))⟩
theorem xe_lst (h : XA X δ es ds) (hz : ds.length ≤ 1000000 := by exact Nat.le_of_ble_eq_true rfl) : XE X δ (.List es pos) (.list ds) := xe_new (xn_lst h hz)
end
end Dl

set_option Elab.async false
set_option linter.all false
set_option maxRecDepth 100000
set_option maxHeartbeats 4000000
/-! The data level: what is walked, comprehensions, statements, the promises of defs. -/
namespace Dl
open PySem PySem.Spec PyProof.Rows L2

/-! ### several readings at once -/
section
variable {X : Cx} {ι : Sort _}
theorem pe_ex {e : Expr} {t : ι → TE} (h : ∀ i, PE X e (t i)) : PE X e (fun σ H Q => ∃ i, t i σ H Q) := ⟨fun pins s σ H Q I ⟨i, q⟩ => (h i).run pins s σ H Q I q⟩
theorem pt_ex {e : Expr} {t : ι → TT} (h : ∀ i, PT X e (t i)) : PT X e (fun σ H Q => ∃ i, t i σ H Q) := ⟨fun pins s σ H Q I ⟨i, q⟩ => (h i).run pins s σ H Q I q⟩
theorem pts_ex {e : List Expr} {t : ι → TT} (h : ∀ i, PTs X e (t i)) : PTs X e (fun σ H Q => ∃ i, t i σ H Q) := ⟨fun pins s σ H Q I ⟨i, q⟩ => (h i).run pins s σ H Q I q⟩
theorem pa_ex {e : List Expr} {t : ι → TA} (h : ∀ i, PA X e (t i)) : PA X e (fun σ H Q => ∃ i, t i σ H Q) := ⟨fun p pins s σ H Q I ⟨i, q⟩ => (h i).run p pins s σ H Q I q⟩
theorem ps_ex {e : Stmt} {t : ι → TS} (h : ∀ i, PS X e (t i)) : PS X e (fun D σ H => ∃ i, t i D σ H) := ⟨fun pins s σ H D I ⟨i, q⟩ => (h i).run pins s σ H D I q⟩
theorem pss_ex {e : List Stmt} {t : ι → TS} (h : ∀ i, PSs X e (t i)) : PSs X e (fun D σ H => ∃ i, t i D σ H) := ⟨fun pins s σ H D I ⟨i, q⟩ => (h i).run pins s σ H D I q⟩
theorem pg_ex {e : Expr} {t : ι → TG} (h : ∀ i, PG X e (t i)) : PG X e (fun v σ H Q => ∃ i, t i v σ H Q) := ⟨fun pins s σ H v u Q I r ⟨i, q⟩ => (h i).run pins s σ H v u Q I r q⟩
end

/-! ### the frame's slots, forgotten in part -/
section
variable {K : PySem.W.Frag} {B H B2 H2 : Hp} {σ : L2.St} {δ : List Slot} {F : Nat → List Addr}
theorem Wf.wk (W : Wf K B H σ δ F) {σ2 : L2.St} {δ2 : List Slot} {F2 : Nat → List Addr} (hl : δ2.length = σ2.length) (hl2 : δ2.length = δ.length)
    (h : ∀ i s, δ2[i]? = some s → (F2 i = [] ∧ s = .no) ∨ (F2 i = F i ∧ δ[i]? = some s ∧ σ2[i]? = σ[i]?)) (ho : ∀ i, δ2.length ≤ i → F2 i = []) : Wf K B H σ2 δ2 F2 where
  bh := W.bh
  len := hl
  sl := fun i s e => by
    have hi : i < δ2.length := (List.getElem?_eq_some_iff.mp e).1
    rcases h i s e with ⟨h1, h2⟩ | ⟨h1, h2, h3⟩
    · subst h2
      refine ⟨σ2[i]'(by omega), List.getElem?_eq_getElem (by omega), ?_⟩
      show SlotOk K B H _ .no (F2 i)
      cases σ2[i]'(by omega) <;> exact h1
    · obtain ⟨o, a, b⟩ := W.sl i s h2
      exact ⟨o, h3.trans a, by rw [h1]; exact b⟩
  out := ho
  dis := fun i j a h1 h2 => by
    have key : ∀ k, a ∈ F2 k → a ∈ F k := fun k hk => by
      by_cases hlt : k < δ2.length
      · rcases h k _ (List.getElem?_eq_getElem hlt) with ⟨z, _⟩ | ⟨z, _⟩
        · rw [z] at hk; cases hk
        · rw [z] at hk; exact hk
      · rw [ho k (by omega)] at hk
        cases hk
    exact W.dis i j a (key i h1) (key j h2)
  own := fun i a ha => by
    have key : a ∈ F i := by
      by_cases hlt : i < δ2.length
      · rcases h i _ (List.getElem?_eq_getElem hlt) with ⟨z, _⟩ | ⟨z, _⟩
        · rw [z] at ha; cases ha
        · rw [z] at ha; exact ha
      · rw [ho i (by omega)] at ha
        cases ha
    exact W.own i a key
end
def wipeD (δ : List Slot) : List Nat → List Slot
  | [] => δ
  | v :: vs => (wipeD δ vs).set v .no
theorem wipeD_length (δ : List Slot) : ∀ vs : List Nat, (wipeD δ vs).length = δ.length
  | [] => rfl
  | v :: vs => by unfold wipeD; rw [List.length_set, wipeD_length δ vs]
def wipeF (F : Nat → List Addr) : List Nat → Nat → List Addr
  | [] => F
  | v :: vs => fun j => if j = v then [] else wipeF F vs j
theorem wipeF_sub {F : Nat → List Addr} : ∀ (vs : List Nat) (i : Nat), ∀ b ∈ wipeF F vs i, ∃ j, b ∈ F j
  | [], i, b, h => ⟨i, h⟩
  | v :: vs, i, b, h => by
    unfold wipeF at h
    by_cases e : i = v
    · rw [if_pos e] at h
      cases h
    · rw [if_neg e] at h
      exact wipeF_sub vs i b h
theorem Wf.no {K : PySem.W.Frag} {B H : Hp} {σ : L2.St} {δ : List Slot} {F : Nat → List Addr} (W : Wf K B H σ δ F) (i : Nat) (o : Option V) : Wf K B H (σ.set i o) (δ.set i .no) (fun j => if j = i then [] else F j) := by
  refine W.wk (by rw [List.length_set, List.length_set]; exact W.len) (List.length_set ..) (fun j s e => ?_) (fun j hj => ?_)
  · by_cases h : j = i
    · subst h
      have hlt : j < δ.length := by
        have := (List.getElem?_eq_some_iff.mp e).1
        rw [List.length_set] at this
        exact this
      rw [List.getElem?_set_self hlt] at e
      cases e
      exact .inl ⟨if_pos rfl, rfl⟩
    · rw [List.getElem?_set_ne (Ne.symm h)] at e
      exact .inr ⟨if_neg h, e, List.getElem?_set_ne (Ne.symm h)⟩
  · rw [List.length_set] at hj
    by_cases h : j = i
    · rw [if_pos h]
    · rw [if_neg h]
      exact W.out j hj
theorem Wf.wipe {K : PySem.W.Frag} {B H : Hp} {σ : L2.St} {δ : List Slot} {F : Nat → List Addr} (W : Wf K B H σ δ F) : ∀ vs : List Nat, Wf K B H (wipe σ vs) (wipeD δ vs) (wipeF F vs)
  | [] => W
  | v :: vs => (W.wipe vs).no v none

/-! ### what is walked -/
structure Wk (K : PySem.W.Frag) (J : It) (B : Hp) (ds : List PyData) : Prop where
  go : ∀ i H, Same B H → i < ds.length → J.go i H
  yld : ∀ i B1 H x H2, Same B B1 → Same B1 H → J.yld i H x H2 → ∀ d, ds[i]? = some d → ∃ B2, Grow B1 H B2 H2 ∧ Rp K B2 x d
  stop : ∀ H, Same B H → J.stop ds.length H
def tI (K : PySem.W.Frag) (δ : List Slot) (ds : List PyData) : TI := fun σ H R => ∃ B F, Wf K B H σ δ F ∧ ∀ J B2 H2, Grow B H B2 H2 → Wk K J B2 ds → R J H2
abbrev XI (X : Cx) (tg : Expr) (δ : List Slot) (iter : Expr) (ds : List PyData) : Prop := PI X tg iter (tI X.K δ ds)
theorem _root_.L2.PI.weak {X : Cx} {tg iter : Expr} {t t' : TI} (h : PI X tg iter t) (w : ∀ σ H Q, t' σ H Q → t σ H Q) : PI X tg iter t' := ⟨fun pins s σ H Q I q => h.run pins s σ H Q I (w σ H Q q)⟩
section
variable {X : Cx} {δ : List Slot} {a b c e tg iter : Expr} {pos p : Pos} {ds ds2 : List PyData} {es : List Expr} {d : PyData}
theorem wk_list {K : PySem.W.Frag} {B : Hp} {a : Addr} {xs : List V} (h : B a = some (.lst xs)) (r : RpA K B xs ds) : Wk K (Itl K a) B ds where
  go := fun i H s hi => by
    have hx : i < xs.length := by rw [r.length]; exact hi
    exact ⟨xs, xs[i], SqL.of (s _ _ h), List.getElem?_eq_getElem hx⟩
  yld := fun i B1 H x H2 s1 s2 hy d hd => by
    obtain ⟨rfl, hv⟩ := hy
    have e := hv xs (SqL.of (s2 _ _ (s1 _ _ h)))
    obtain ⟨d', h1, h2⟩ := r.get e
    rw [hd] at h1
    cases h1
    exact ⟨B1, Grow.refl s2, h2.mono s1⟩
  stop := fun H s => ⟨xs, SqL.of (s _ _ h), by rw [r.length]; exact Nat.le_refl _⟩
theorem wk_tup {K : PySem.W.Frag} {B : Hp} {a : Addr} {xs : List V} (h : SqT K B a xs) (r : RpA K B xs ds) : Wk K (Itt K a) B ds where
  go := fun i H s hi => by
    have hx : i < xs.length := by rw [r.length]; exact hi
    exact ⟨xs, xs[i], same_t s h, List.getElem?_eq_getElem hx⟩
  yld := fun i B1 H x H2 s1 s2 hy d hd => by
    obtain ⟨rfl, hv⟩ := hy
    have e := hv xs (same_t s2 (same_t s1 h))
    obtain ⟨d', h1, h2⟩ := r.get e
    rw [hd] at h1
    cases h1
    exact ⟨B1, Grow.refl s2, h2.mono s1⟩
  stop := fun H s => ⟨xs, same_t s h, by rw [r.length]; exact Nat.le_refl _⟩
theorem xi_list (h : XE X δ iter (.list ds)) : XI X tg δ iter ds := (pi_list h).weak fun σ H R ⟨B, F, W, q⟩ => ⟨B, F, W, fun v B2 H2 g r => by
  cases r with
  | @lst a xs _ h1 r1 => exact ⟨a, rfl, ⟨xs, SqL.of (g.bh _ _ h1)⟩, q _ B2 H2 g (wk_list h1 r1)⟩⟩
theorem xi_tup (h : XE X δ iter (.tuple ds)) : XI X tg δ iter ds := (pi_tup h).weak fun σ H R ⟨B, F, W, q⟩ => ⟨B, F, W, fun v B2 H2 g r => by
  cases r with
  | @tup a xs _ h1 r1 => exact ⟨a, rfl, ⟨xs, same_t g.bh h1⟩, q _ B2 H2 g (wk_tup h1 r1)⟩⟩
abbrev rangeD (lo : Int) (n : Nat) : List PyData := (List.range n).map fun i => PyData.int (lo + (i : Nat))
theorem rangeD_length (lo : Int) (n : Nat) : (rangeD lo n).length = n := by unfold rangeD; rw [List.length_map, List.length_range]
theorem rangeD_get {lo : Int} {n i : Nat} {d : PyData} (h : (rangeD lo n)[i]? = some d) : i < n ∧ d = .int (lo + (i : Nat)) := by
  have hi : i < n := by
    have := (List.getElem?_eq_some_iff.mp h).1
    rw [rangeD_length] at this
    exact this
  refine ⟨hi, ?_⟩
  unfold rangeD at h
  rw [List.getElem?_map, List.getElem?_range hi] at h
  exact (Option.some.inj h).symm
theorem wk_rng {K : PySem.W.Frag} {B : Hp} {lo : Int} {n : Nat} : Wk K (Itr lo n) B (rangeD lo n) where
  go := fun i H s hi => by rw [rangeD_length] at hi; exact hi
  yld := fun i B1 H x H2 s1 s2 hy d hd => by
    obtain ⟨rfl, rfl⟩ := hy
    obtain ⟨_, rfl⟩ := rangeD_get hd
    exact ⟨B1, Grow.refl s2, .int _⟩
  stop := fun H s => by
    show n ≤ (rangeD lo n).length
    rw [rangeD_length]
    exact Nat.le_refl _
theorem xi_rng1 {j : Int} (hm : X.mg "range" = none) (h : XE X δ a (.int j)) (hj : -(2 ^ 62) ≤ j ∧ j < 2 ^ 62) (hg : Gl X "range" := by rfl) (hs : starEach [a] X.env = [(false, eval a X.env)] := by rfl) : XI X tg δ (.Call (.Name "range" p) [a] [] pos) (rangeD 0 j.toNat) :=
  (pi_range1 hg hm (xa_cons h xa_nil hs) hs).weak fun σ H R ⟨B, F, W, q⟩ => ⟨B, F, W, fun vs B2 H2 g r => by
    cases r with
    | cons r1 r2 =>
      cases r2
      cases r1
      exact ⟨j, rfl, hj.1, hj.2, q _ B2 H2 g wk_rng⟩⟩
theorem xi_rng2 {i j : Int} (hm : X.mg "range" = none) (ha : XE X δ a (.int i)) (hb : XE X δ b (.int j)) (hi : -(2 ^ 62) ≤ i ∧ i < 2 ^ 62) (hj : -(2 ^ 62) ≤ j ∧ j < 2 ^ 62) (hg : Gl X "range" := by rfl)
    (hs : starEach [a, b] X.env = [(false, eval a X.env), (false, eval b X.env)] := by rfl) (hs2 : starEach [b] X.env = [(false, eval b X.env)] := by rfl) (hs3 : starEach [a, b] X.env = (false, eval a X.env) :: starEach [b] X.env := by rfl) : XI X tg δ (.Call (.Name "range" p) [a, b] [] pos) (rangeD i (j - i).toNat) :=
  (pi_range2 hg hm (xa_cons ha (xa_cons hb xa_nil hs2) hs3) hs hs2).weak fun σ H R ⟨B, F, W, q⟩ => ⟨B, F, W, fun vs B2 H2 g r => by
    cases r with
    | cons r1 r2 =>
      cases r2 with
      | cons r3 r4 =>
        cases r4
        cases r1
        cases r3
        exact ⟨i, j, rfl, ⟨hi.1, hi.2, hj.1, hj.2⟩, q _ B2 H2 g wk_rng⟩⟩
def enumD (ds : List PyData) : List PyData := ds.zipIdx.map fun p => .tuple [.int (p.2 : Nat), p.1]
theorem enumD_length (ds : List PyData) : (enumD ds).length = ds.length := by unfold enumD; rw [List.length_map, List.length_zipIdx]
theorem enumD_get {ds : List PyData} {i : Nat} {d : PyData} (h : (enumD ds)[i]? = some d) : ∃ z, ds[i]? = some z ∧ d = .tuple [.int (i : Nat), z] := by
  unfold enumD at h
  rw [List.getElem?_map, List.getElem?_zipIdx] at h
  cases e : ds[i]? with
  | none => rw [e] at h; simp at h
  | some z =>
    rw [e] at h
    simp only [Option.map_some, Nat.zero_add, Option.some.injEq] at h
    exact ⟨z, rfl, h.symm⟩
theorem wk_enum {K : PySem.W.Frag} {B : Hp} {a : Addr} {xs : List V} (h : B a = some (.lst xs)) (r : RpA K B xs ds) : Wk K (Ite K a) B (enumD ds) where
  go := fun i H s hi => by
    rw [enumD_length] at hi
    have hx : i < xs.length := by rw [r.length]; exact hi
    exact ⟨xs, xs[i], SqL.of (s _ _ h), List.getElem?_eq_getElem hx⟩
  yld := fun i B1 H x H2 s1 s2 hy d hd => by
    obtain ⟨T, y, rfl, hT, rfl, hv⟩ := hy
    have e := hv xs (SqL.of (s2 _ _ (s1 _ _ h)))
    obtain ⟨d', h1, h2⟩ := r.get e
    obtain ⟨z, h3, rfl⟩ := enumD_get hd
    rw [h3] at h1
    cases h1
    have g := Grow.new (o := .tup [.int (i : Nat), y]) s2 hT
    exact ⟨_, g, .tup (.inl (.inl upd_same)) (.cons (.int _) (.cons ((h2.mono s1).mono g.bb) .nil))⟩
  stop := fun H s => ⟨xs, SqL.of (s _ _ h), by rw [enumD_length, r.length]; exact Nat.le_refl _⟩
theorem xi_enum {elts : List Expr} {kk : Nat} {tpos : Pos} (hm : X.mg "enumerate" = none) (h : XE X δ a (.list ds)) (hg : Gl X "enumerate" := by rfl) (hs : starEach [a] X.env = [(false, eval a X.env)] := by rfl) :
    XI X (.Tuple elts kk tpos) δ (.Call (.Name "enumerate" p) [a] [] pos) (enumD ds) :=
  (pi_enum hg hm (xa_cons h xa_nil hs) hs).weak fun σ H R ⟨B, F, W, q⟩ => ⟨B, F, W, fun vs B2 H2 g r => by
    cases r with
    | cons r1 r2 =>
      cases r2
      cases r1 with
      | @lst a xs _ h1 r1 => exact ⟨a, xs, rfl, SqL.of (g.bh _ _ h1), q _ B2 H2 g (wk_enum h1 r1)⟩⟩
def zipD (ds es : List PyData) : List PyData := (ds.zip es).map fun p => .tuple [p.1, p.2]
theorem zipD_get {ds es : List PyData} {i : Nat} {d : PyData} (h : (zipD ds es)[i]? = some d) : ∃ y z, ds[i]? = some y ∧ es[i]? = some z ∧ d = .tuple [y, z] := by
  unfold zipD at h
  rw [List.getElem?_map] at h
  cases e : (ds.zip es)[i]? with
  | none => rw [e] at h; simp at h
  | some z =>
    rw [e] at h
    simp only [Option.map_some, Option.some.injEq] at h
    rw [List.getElem?_zip_eq_some] at e
    exact ⟨z.1, z.2, e.1, e.2, h.symm⟩
theorem zipD_length (ds es : List PyData) : (zipD ds es).length = min ds.length es.length := by unfold zipD; rw [List.length_map, List.length_zip]
theorem wk_zip {K : PySem.W.Frag} {B : Hp} {a b : Addr} {xs ys : List V} (h : B a = some (.lst xs)) (r : RpA K B xs ds) (h' : B b = some (.lst ys)) (r' : RpA K B ys ds2) : Wk K (Itz K a b) B (zipD ds ds2) where
  go := fun i H s hi => by
    rw [zipD_length] at hi
    have hx : i < xs.length := by rw [r.length]; omega
    have hy : i < ys.length := by rw [r'.length]; omega
    exact ⟨xs, ys, xs[i], ys[i], SqL.of (s _ _ h), SqL.of (s _ _ h'), List.getElem?_eq_getElem hx, List.getElem?_eq_getElem hy⟩
  yld := fun i B1 H x H2 s1 s2 hy d hd => by
    obtain ⟨T, y, z, rfl, hT, rfl, hv, hw⟩ := hy
    obtain ⟨d1, h1, h2⟩ := r.get (hv xs (SqL.of (s2 _ _ (s1 _ _ h))))
    obtain ⟨d2, h3, h4⟩ := r'.get (hw ys (SqL.of (s2 _ _ (s1 _ _ h'))))
    obtain ⟨u, w, h5, h6, rfl⟩ := zipD_get hd
    rw [h5] at h1
    rw [h6] at h3
    cases h1
    cases h3
    have g := Grow.new (o := .tup [y, z]) s2 hT
    exact ⟨_, g, .tup (.inl (.inl upd_same)) (.cons ((h2.mono s1).mono g.bb) (.cons ((h4.mono s1).mono g.bb) .nil))⟩
  stop := fun H s => ⟨xs, ys, SqL.of (s _ _ h), SqL.of (s _ _ h'), by rw [zipD_length, r.length, r'.length]; omega⟩
theorem xi_zip {elts : List Expr} {kk : Nat} {tpos : Pos} (hm : X.mg "zip" = none) (ha : XE X δ a (.list ds)) (hb : XE X δ b (.list ds2)) (hg : Gl X "zip" := by rfl)
    (hs : starEach [a, b] X.env = (false, eval a X.env) :: starEach [b] X.env := by rfl) (hs2 : starEach [b] X.env = (false, eval b X.env) :: starEach [] X.env := by rfl) (hpl : (backTo pos (starEach [b] X.env)).any (·.1) = false := by rfl) :
    XI X (.Tuple elts kk tpos) δ (.Call (.Name "zip" p) [a, b] [] pos) (zipD ds ds2) :=
  (pi_zip hg hm (xa_cons ha (xa_cons hb xa_nil hs2) hs) hs hpl).weak fun σ H R ⟨B, F, W, q⟩ => ⟨B, F, W, fun vs B2 H2 g r => by
    cases r with
    | cons r1 r2 =>
      cases r2 with
      | cons r3 r4 =>
        cases r4
        cases r1 with
        | @lst a xs _ h1 r1 =>
          cases r3 with
          | @lst b ys _ h3 r3 => exact ⟨a, b, xs, ys, rfl, SqL.of (g.bh _ _ h1), SqL.of (g.bh _ _ h3), q _ B2 H2 g (wk_zip h1 r1 h3 r3)⟩⟩

/-! ### targets -/
/-- the datum d is stored: the slots is turn, δ to δ2 -/
def tG (K : PySem.W.Frag) (is : List Nat) (d : PyData) (δ δ2 : List Slot) : TG := fun v σ H Q => ∃ B F, Wf K B H σ δ F ∧ Rp K B v d ∧ ∀ σ2 F2, Wf K B H σ2 δ2 F2 → (∀ i, ∀ b ∈ F2 i, ∃ j, b ∈ F j) → σ2.length = σ.length → (∀ k, k ∉ is → σ2[k]? = σ[k]?) → Q σ2 H
def tGs (K : PySem.W.Frag) (is : List Nat) (ds : List PyData) (δ δ2 : List Slot) : TGs := fun vs σ H Q => ∃ B F, Wf K B H σ δ F ∧ RpA K B vs ds ∧ ∀ σ2 F2, Wf K B H σ2 δ2 F2 → (∀ i, ∀ b ∈ F2 i, ∃ j, b ∈ F j) → σ2.length = σ.length → (∀ k, k ∉ is → σ2[k]? = σ[k]?) → Q σ2 H
abbrev XG (X : Cx) (tg : Expr) (is : List Nat) (d : PyData) (δ δ2 : List Slot) : Prop := PG X tg (tG X.K is d δ δ2)
abbrev XGs (X : Cx) (tgs : List Expr) (is : List Nat) (ds : List PyData) (δ δ2 : List Slot) : Prop := PGs X tgs (tGs X.K is ds δ δ2)
theorem _root_.L2.PG.weak {t t' : TG} (h : PG X tg t) (w : ∀ v σ H Q, t' v σ H Q → t v σ H Q) : PG X tg t' := ⟨fun pins s σ H v u Q I r q => h.run pins s σ H v u Q I r (w v σ H Q q)⟩
theorem _root_.L2.PGs.weak {t t' : TGs} (h : PGs X es t) (w : ∀ v σ H Q, t' v σ H Q → t v σ H Q) : PGs X es t' := ⟨fun pins s σ H v u Q I r q => h.run pins s σ H v u Q I r (w v σ H Q q)⟩
theorem xg_name (i : Nat) {x : Str} (hN : X.N.Nodup) (hi : X.N[i]? = some x := by rfl) (hx : Loc X.env.scope x := by first | exact Or.inl rfl | exact Or.inr rfl) (hf : X.fn x = true ∨ X.env.scope.names.lookup x = some .local := by first | exact .inl rfl | exact .inr rfl) :
    XG X (.Name x pos) [i] d δ (δ.set i (.dat d)) := (pg_name (i := i) hN hi hx hf).weak fun v σ H Q ⟨B, F, W, r, q⟩ =>
  q _ _ (W.put (s := .dat d) ⟨rfl, r⟩) cut_sub (List.length_set ..) fun k hk => List.getElem?_set_ne (fun e => hk (by rw [e]; exact List.mem_singleton.mpr rfl))
theorem xgs_nil : XGs X [] [] [] δ δ := pgs_nil.weak fun v σ H Q ⟨B, F, W, r, q⟩ => by
  cases r
  exact ⟨rfl, q σ F W (fun i b hb => ⟨i, hb⟩) rfl fun _ _ => rfl⟩
theorem xgs_cons {e : Expr} {is js : List Nat} {δ1 δ2 : List Slot} (h1 : XG X e is d δ δ1) (h2 : XGs X es js ds δ1 δ2) (hs : (assignEach (e :: es) X.env).map (·.2) = assign e X.env :: (assignEach es X.env).map (·.2) := by rfl) : XGs X (e :: es) (is ++ js) (d :: ds) δ δ2 :=
  (pgs_cons h1 h2 hs).weak fun vs σ H Q ⟨B, F, W, r, q⟩ => by
    cases r with
    | @cons v us _ _ r1 r2 =>
      exact ⟨v, us, rfl, B, F, W, r1, fun σ1 F1 W1 b1 l1 k1 => ⟨B, F1, W1, r2, fun σ2 F2 W2 b2 l2 k2 => q σ2 F2 W2 (fun i b hb => by
        obtain ⟨j, hj⟩ := b2 i b hb
        exact b1 j b hj) (l2.trans l1) fun k hk => (k2 k fun z => hk (List.mem_append_right _ z)).trans (k1 k fun z => hk (List.mem_append_left _ z))⟩⟩
theorem xg_tup {k : Nat} {is : List Nat} {δ2 : List Slot} (hc : X.calm = true) (h : XGs X es is ds δ δ2) (hl : ds.length = es.length) (hn : (assignEach es X.env).length = es.length := by rfl) (hst : (assignEach es X.env).findIdx? (·.1) = none := by rfl) : XG X (.Tuple es k pos) is (.tuple ds) δ δ2 :=
  (pg_tup hc h hn hst).weak fun v σ H Q ⟨B, F, W, r, q⟩ => by
    cases r with
    | @tup a xs _ h1 r1 => exact ⟨a, xs, rfl, same_t W.bh h1, by rw [r1.length, hl], B, F, W, r1, q⟩
end

/-! ### comprehensions -/
theorem wipe_get {σ : L2.St} : ∀ (vs : List Nat) (k : Nat), k < σ.length → (wipe σ vs)[k]? = if k ∈ vs then some none else σ[k]?
  | [], k, _ => by simp [wipe]
  | v :: vs, k, hk => by
    unfold wipe
    by_cases e : k = v
    · subst e
      rw [List.getElem?_set_self (by rw [wipe_length]; exact hk), if_pos List.mem_cons_self]
    · rw [List.getElem?_set_ne (Ne.symm e), wipe_get vs k hk]
      by_cases h : k ∈ vs
      · rw [if_pos h, if_pos (List.mem_cons_of_mem _ h)]
      · rw [if_neg h, if_neg (fun z => (List.mem_cons.mp z).elim e h)]
theorem wipe_same {σ σ2 : L2.St} {is vs : List Nat} (hl : σ2.length = (wipe σ vs).length) (h : ∀ k, k ∉ is → σ2[k]? = (wipe σ vs)[k]?) (hi : ∀ k ∈ is, k ∈ vs) : wipe σ2 vs = wipe σ vs := by
  rw [wipe_length] at hl
  apply List.ext_getElem?
  intro k
  by_cases hk : k < σ.length
  · rw [wipe_get vs k (by omega), wipe_get vs k hk]
    by_cases hv : k ∈ vs
    · rw [if_pos hv, if_pos hv]
    · rw [if_neg hv, if_neg hv, h k (fun z => hv (hi k z)), wipe_get vs k hk, if_neg hv]
  · rw [List.getElem?_eq_none (by rw [wipe_length]; omega), List.getElem?_eq_none (by rw [wipe_length]; omega)]
section
variable {X : Cx} {δ : List Slot} {a b c e tg iter elt : Expr} {pos p : Pos} {ds ds2 : List PyData} {es ifs : List Expr} {d : PyData}
/-- the block of a comprehension -/
abbrev Blk (X : Cx) (scope : Scope) (P : Cx → Prop) : Prop := ∀ (s : Shared) (H : Hp) (C : Addr) (cl : List (Str × Addr)) (fp : List Addr), P (X.blk s H scope (compEnvC scope cl C X.env) fp)
/-- [elt for tg in iter if test]: g of those that are good; the things that are walked are f of l's -/
theorem lc_turn {K : PySem.W.Frag} {ι : Type} {l : List ι} {f : ι → PyData} {vs is : List Nat} {wi : TI} (g : ι → PyData) (t : ι → Bool) (Δ : ι → List Slot) (hz : l.length ≤ 1000000) (hi : ∀ k ∈ is, k ∈ vs) (hwi : ∀ σ H R, tI K δ (l.map f) σ H R → wi σ H R)
    {tG' : TG} {tT : TT} {tE' : TE} (hG : ∀ v σ H Q, (∃ d : {d // d ∈ l}, tG K is (f d.1) (wipeD δ vs) (Δ d.1) v σ H Q) → tG' v σ H Q) (hT : ∀ σ H Q, (∃ d : {d // d ∈ l}, tBo K (Δ d.1) (t d.1) σ H Q) → tT σ H Q)
    (hE : ∀ σ H Q, (∃ d : {d // d ∈ l ∧ t d = true}, tD K (Δ d.1) (g d.1) σ H Q) → tE' σ H Q) :
    ∀ σ H Q, tN K δ ((l.filter t).map g) σ H Q → tLc wi tG' tT tE' vs σ H Q := fun σ H Q ⟨B, F, W, q⟩ => by
  refine hwi σ H _ ⟨B, F, W, fun J B1 H1 g1 wk D hD => ?_⟩
  have W1 := W.grow g1
  refine ⟨fun i m H' => m = l.length - i ∧ i ≤ l.length ∧ ∃ Bi xs, Grow B1 H1 Bi H' ∧ H' D = some (.lst xs) ∧ Bi D = none ∧ RpA K Bi xs (((l.take i).filter t).map g), ⟨l.length, by simp, Nat.zero_le _, B1, [], Grow.newH g1.bh hD, upd_same, g1.bh.free hD, .nil⟩, ?_⟩
  rintro i m H' ⟨rfl, hle, Bi, xs, gi, hx, hb, r⟩
  by_cases hlt : i < l.length
  · refine .inr ⟨wk.go i H' (gi.bb.trans gi.bh) (by rw [List.length_map]; exact hlt), fun H2 => ∃ Bi xs, Grow B1 H1 Bi H2 ∧ H2 D = some (.lst xs) ∧ Bi D = none ∧ RpA K Bi xs (((l.take (i + 1)).filter t).map g), fun H2 h2 => ⟨l.length - (i + 1), by omega, rfl, hlt, h2⟩, fun x H2 hy => ?_⟩
    have hget : l[i]? = some l[i] := List.getElem?_eq_getElem hlt
    have hmem : l[i] ∈ l := List.getElem_mem hlt
    generalize hd : l[i] = d at hget hmem
    obtain ⟨B2, g2, r2⟩ := wk.yld i Bi H' x H2 gi.bb gi.bh hy (f d) (by rw [List.getElem?_map, hget]; rfl)
    have hD2 : H2 D = some (.lst xs) := g2.hh _ _ hx
    have hB2 : B2 D = none := (g2.fr D _ hx).trans hb
    have gg := gi.trans g2
    have Wi : Wf K B2 H2 (wipe σ vs) (wipeD δ vs) (wipeF F vs) := (W1.grow gg).wipe vs
    have etake : l.take (i + 1) = l.take i ++ [d] := by rw [List.take_add_one, hget]; rfl
    refine hG x _ H2 _ ⟨⟨d, hmem⟩, B2, _, Wi, r2, fun σ2 F2 W2 sb hl hk => ⟨wipe_same hl hk hi, ?_⟩⟩
    refine hT σ2 H2 _ ⟨⟨d, hmem⟩, B2, F2, W2, fun B3 H3 g3 => ?_⟩
    have hD3 : H3 D = some (.lst xs) := g3.hh _ _ hD2
    have hB3 : B3 D = none := (g3.fr D _ hD2).trans hB2
    cases ht : t d with
    | false =>
      show ∃ Bi xs, Grow B1 H1 Bi H3 ∧ _
      refine ⟨B3, xs, gg.trans g3, hD3, hB3, ?_⟩
      rw [etake, List.filter_append, List.map_append, List.filter_cons, if_neg (by rw [ht]; decide)]
      show RpA K B3 xs (_ ++ [])
      rw [List.append_nil]
      exact (r.mono g2.bb).mono g3.bb
    | true =>
      show tE' σ2 H3 _
      refine hE σ2 H3 _ ⟨⟨d, hmem, ht⟩, B3, F2, W2.grow g3, fun y B4 H4 g4 r4 => ⟨xs, g4.hh _ _ hD3, ?_, ?_⟩⟩
      · have h1 := r.length
        rw [List.length_map] at h1
        have h2 := List.length_filter_le t (l.take i)
        rw [List.length_take] at h2
        have : xs.length < 1000000 := by omega
        exact Nat.lt_of_lt_of_le this (sz_of (Nat.le_refl _))
      · have hB4 : B4 D = none := (g4.fr D _ hD3).trans hB3
        have hD4 := g4.hh _ _ hD3
        have g5 : Grow B1 H1 B4 H4 := (gg.trans g3).trans g4
        have nD : H1 D = none := hD
        refine ⟨B4, xs ++ [y], ⟨g5.bb, fun b o hb => ?_, fun b o hb => ?_, fun b o hb => ?_⟩, upd_same, hB4, ?_⟩
        · have : b ≠ D := fun z => by rw [z, hB4] at hb; cases hb
          rw [upd_ne this]
          exact g5.bh b o hb
        · have : b ≠ D := fun z => by rw [z, nD] at hb; cases hb
          rw [upd_ne this]
          exact g5.hh b o hb
        · exact g5.fr b o hb
        · rw [etake, List.filter_append, List.map_append, List.filter_cons, if_pos ht]
          exact (((r.mono g2.bb).mono g3.bb).mono g4.bb).append (.cons r4 .nil)
  · have e : i = l.length := by omega
    subst e
    rw [List.take_length] at r
    refine .inl ⟨?_, q D xs Bi H' (g1.trans gi) (g1.hh.free hD) hb hx r⟩
    have := wk.stop H' (gi.bb.trans gi.bh)
    rw [List.length_map] at this
    exact this
/-- a list comprehension's value, and its statement -/
structure XL (X : Cx) (δ : List Slot) (e : Expr) (ys : List PyData) : Prop where
  val : XN X δ e ys
  set : ∀ (i : Nat) {y : Str} {py spos : Pos}, X.N.Nodup → X.N[i]? = some y → X.env.scope.names.lookup y = some .local → swapsWith e (some (.Name y py)) spos.line X.env = pure true → PS X (.Assign [.Name y py] e spos) (tAsg (tN X.K δ ys) (gName i))
theorem xl_G {ι : Type} {l : List ι} {f : ι → PyData} {scope : Scope} {own : List (Str × Nat)} {is : List Nat} (g : ι → PyData) (t : ι → Bool) (Δ : ι → List Slot) (hc : X.calm = true) (hN : X.N.Nodup) (hi : XI X tg δ iter (l.map f)) (ok : BlkOk X.N X.env.scope scope own)
    (hg : Blk X scope fun Y => ∀ d ∈ l, XG Y tg is (f d) (wipeD δ (own.map (·.2))) (Δ d)) (ht : Blk X scope fun Y => ∀ d ∈ l, PTs Y ifs (tBo X.K (Δ d) (t d))) (he : Blk X scope fun Y => ∀ d ∈ l, t d = true → XE Y (Δ d) elt (g d))
    (hz : l.length ≤ 1000000) (his : ∀ k ∈ is, k ∈ own.map (·.2)) (hs : ∀ x, foldedSetIterable iter X.env x = pure x := by intro _; rfl) : XL X δ (.ListComp elt [⟨tg, iter, ifs, 0⟩] scope pos) ((l.filter t).map g) :=
  ⟨(pe_lc hc hN hi ok (fun s H C cl fp => pg_ex fun d : {d // d ∈ l} => hg s H C cl fp d.1 d.2) (fun s H C cl fp => pts_ex fun d : {d // d ∈ l} => ht s H C cl fp d.1 d.2) (fun s H C cl fp => pe_ex fun d : {d // d ∈ l ∧ t d = true} => he s H C cl fp d.1 d.2.1 d.2.2) hs).weak
    (lc_turn g t Δ hz his (fun _ _ _ q => q) (fun _ _ _ _ q => q) (fun _ _ _ q => q) (fun _ _ _ q => q)),
   fun i y py spos _ hy hyl hsw => (ps_setLc hc hN hy hyl hsw hi ok (fun s H C cl fp => pg_ex fun d : {d // d ∈ l} => hg s H C cl fp d.1 d.2) (fun s H C cl fp => pts_ex fun d : {d // d ∈ l} => ht s H C cl fp d.1 d.2) (fun s H C cl fp => pe_ex fun d : {d // d ∈ l ∧ t d = true} => he s H C cl fp d.1 d.2.1 d.2.2) hs).weak
    fun D σ H q => lc_turn g t Δ hz his (fun _ _ _ q => q) (fun _ _ _ _ q => q) (fun _ _ _ q => q) (fun _ _ _ q => q) σ H _ q⟩
theorem xts_nil {Y : Cx} : PTs Y [] (tBo Y.K δ true) := ⟨fun pins s σ H Q I ⟨B, F, W, q⟩ => pts_nil.run pins s σ H Q I (q B H (Grow.refl W.bh))⟩
theorem xts_one {Y : Cx} {k : Bool} (h : XT Y δ c k) : PTs Y [c] (tBo Y.K δ k) := pts_one h
/-- [elt for x in iter], x in slot j -/
theorem xl_lc {ι : Type} {l : List ι} {f : ι → PyData} {scope : Scope} (j : Nat) {x : Str} (g : ι → PyData) (hN : X.N.Nodup) (hi : XI X (.Name x p) δ iter (l.map f))
    (he : Blk X scope fun Y => ∀ d ∈ l, XE Y ((δ.set j .no).set j (.dat (f d))) elt (g d)) (hz : l.length ≤ 1000000)
    (ok : BlkOk X.N X.env.scope scope [(x, j)] := by exact blkOk_by (by kernel_rfl)) (hj : X.N[j]? = some x := by rfl) (hx : Blk X scope fun Y => Loc Y.env.scope x := by first | exact fun _ _ _ _ _ => Or.inl rfl | exact fun _ _ _ _ _ => Or.inr rfl) (hf : Blk X scope fun Y => Y.fn x = true ∨ Y.env.scope.names.lookup x = some .local := by first | exact fun _ _ _ _ _ => Or.inr rfl | exact fun _ _ _ _ _ => Or.inl rfl)
    (hc : X.calm = true := by rfl) (hs : ∀ x, foldedSetIterable iter X.env x = pure x := by intro _; rfl) : XL X δ (.ListComp elt [⟨.Name x p, iter, [], 0⟩] scope pos) (l.map g) := by
  have h := xl_G (X := X) (ifs := []) (pos := pos) (l := l) (f := f) (own := [(x, j)]) (is := [j]) g (fun _ => true) (fun d => (δ.set j .no).set j (.dat (f d))) hc hN hi ok
    (fun s H C cl fp d _ => xg_name j hN hj (hx s H C cl fp) (hf s H C cl fp)) (fun s H C cl fp d _ => xts_nil) (fun s H C cl fp d hd _ => he s H C cl fp d hd) hz (fun k hk => hk) hs
  rw [List.filter_eq_self.mpr (fun _ _ => rfl)] at h
  exact h
/-- [elt for x in iter if c] -/
theorem xl_lcIf {ι : Type} {l : List ι} {f : ι → PyData} {scope : Scope} (j : Nat) {x : Str} (g : ι → PyData) (t : ι → Bool) (hN : X.N.Nodup) (hi : XI X (.Name x p) δ iter (l.map f))
    (ht : Blk X scope fun Y => ∀ d ∈ l, XT Y ((δ.set j .no).set j (.dat (f d))) c (t d)) (he : Blk X scope fun Y => ∀ d ∈ l, t d = true → XE Y ((δ.set j .no).set j (.dat (f d))) elt (g d)) (hz : l.length ≤ 1000000)
    (ok : BlkOk X.N X.env.scope scope [(x, j)] := by exact blkOk_by (by kernel_rfl)) (hj : X.N[j]? = some x := by rfl) (hx : Blk X scope fun Y => Loc Y.env.scope x := by first | exact fun _ _ _ _ _ => Or.inl rfl | exact fun _ _ _ _ _ => Or.inr rfl) (hf : Blk X scope fun Y => Y.fn x = true ∨ Y.env.scope.names.lookup x = some .local := by first | exact fun _ _ _ _ _ => Or.inr rfl | exact fun _ _ _ _ _ => Or.inl rfl)
    (hc : X.calm = true := by rfl) (hs : ∀ x, foldedSetIterable iter X.env x = pure x := by intro _; rfl) : XL X δ (.ListComp elt [⟨.Name x p, iter, [c], 0⟩] scope pos) ((l.filter t).map g) :=
  xl_G (X := X) (ifs := [c]) (pos := pos) (l := l) (f := f) (own := [(x, j)]) (is := [j]) g t (fun d => (δ.set j .no).set j (.dat (f d))) hc hN hi ok
    (fun s H C cl fp d _ => xg_name j hN hj (hx s H C cl fp) (hf s H C cl fp)) (fun s H C cl fp d hd => xts_one (ht s H C cl fp d hd)) (fun s H C cl fp d hd ht => he s H C cl fp d hd ht) hz (fun k hk => hk) hs
end
end Dl

set_option Elab.async false
set_option linter.all false
set_option maxRecDepth 100000
set_option maxHeartbeats 4000000
/-! The data level: statements, the promises of defs. -/
namespace Dl
open PySem PySem.Spec PyProof.Rows L2
section
variable {X : Cx} {δ δ2 : List Slot} {a b c e tg iter : Expr} {pos p : Pos} {ds : List PyData} {es : List Expr} {d : PyData} {st : Stmt} {rest body : List Stmt} {R R' : Post}
/-! ### what is wanted behind -/
/-- the ends' wishes, from a state on -/
structure Ok (K : PySem.W.Frag) (R : Post) (D : Ends) (B H : Hp) (F : Nat → List Addr) : Prop where
  nx : ∀ σ2 δ2 B2 H2 F2, Step B H F B2 H2 F2 → Wf K B2 H2 σ2 δ2 F2 → R.nx δ2 → D.nx σ2 H2
  rt : ∀ v d σ2 δ2 B2 H2 F2, Step B H F B2 H2 F2 → Wf K B2 H2 σ2 δ2 F2 → R.rt d δ2 → Rp K B2 v d → D.rt v H2
  bk : ∀ σ2 δ2 B2 H2 F2, Step B H F B2 H2 F2 → Wf K B2 H2 σ2 δ2 F2 → R.bk δ2 → D.bk σ2 H2
  ct : ∀ σ2 δ2 B2 H2 F2, Step B H F B2 H2 F2 → Wf K B2 H2 σ2 δ2 F2 → R.ct δ2 → D.ct σ2 H2
theorem ts_iff {K : PySem.W.Frag} {D : Ends} {σ : L2.St} {H : Hp} : tS K δ R D σ H ↔ ∃ B F, Wf K B H σ δ F ∧ Ok K R D B H F :=
  ⟨fun ⟨B, F, W, h1, h2, h3, h4⟩ => ⟨B, F, W, h1, h2, h3, h4⟩, fun ⟨B, F, W, o⟩ => ⟨B, F, W, o.nx, o.rt, o.bk, o.ct⟩⟩
theorem Ok.step {K : PySem.W.Frag} {D : Ends} {B H B1 H1 : Hp} {F F1 : Nat → List Addr} (o : Ok K R D B H F) (s : Step B H F B1 H1 F1) : Ok K R D B1 H1 F1 :=
  ⟨fun σ2 δ2 B2 H2 F2 s2 => o.nx σ2 δ2 B2 H2 F2 (s.trans s2), fun v d σ2 δ2 B2 H2 F2 s2 => o.rt v d σ2 δ2 B2 H2 F2 (s.trans s2), fun σ2 δ2 B2 H2 F2 s2 => o.bk σ2 δ2 B2 H2 F2 (s.trans s2), fun σ2 δ2 B2 H2 F2 s2 => o.ct σ2 δ2 B2 H2 F2 (s.trans s2)⟩
theorem Ok.imp {K : PySem.W.Frag} {D : Ends} {B H : Hp} {F : Nat → List Addr} (o : Ok K R D B H F) (h1 : ∀ δ, R'.nx δ → R.nx δ) (h2 : ∀ d δ, R'.rt d δ → R.rt d δ) (h3 : ∀ δ, R'.bk δ → R.bk δ) (h4 : ∀ δ, R'.ct δ → R.ct δ) : Ok K R' D B H F :=
  ⟨fun σ2 δ2 B2 H2 F2 s W q => o.nx σ2 δ2 B2 H2 F2 s W (h1 _ q), fun v d σ2 δ2 B2 H2 F2 s W q => o.rt v d σ2 δ2 B2 H2 F2 s W (h2 _ _ q), fun σ2 δ2 B2 H2 F2 s W q => o.bk σ2 δ2 B2 H2 F2 s W (h3 _ q), fun σ2 δ2 B2 H2 F2 s W q => o.ct σ2 δ2 B2 H2 F2 s W (h4 _ q)⟩
theorem XB.imp {sts : List Stmt} (h : XB X δ sts R') (h1 : ∀ δ, R'.nx δ → R.nx δ) (h2 : ∀ d δ, R'.rt d δ → R.rt d δ) (h3 : ∀ δ, R'.bk δ → R.bk δ) (h4 : ∀ δ, R'.ct δ → R.ct δ) : XB X δ sts R := PSs.weak h fun D σ H q => by
  obtain ⟨B, F, W, o⟩ := ts_iff.mp q
  exact ts_iff.mpr ⟨B, F, W, o.imp h1 h2 h3 h4⟩
/-! ### blocks -/
theorem xb_nil (h : R.nx δ) : XB X δ [] R := pss_nil.weak fun D σ H q => by
  obtain ⟨B, F, W, o⟩ := ts_iff.mp q
  exact o.nx σ δ B H F Step.refl W h
/-- one statement by its own reading, then the rest -/
theorem xb_cons {t u : TS} (h1 : PS X st t) (h2 : PSs X rest u) (w : ∀ D σ H B F, Wf X.K B H σ δ F → Ok X.K R D B H F → t { D with nx := u D } σ H) : XB X δ (st :: rest) R := (pss_cons h1 h2).weak fun D σ H q => by
  obtain ⟨B, F, W, o⟩ := ts_iff.mp q
  exact w D σ H B F W o
theorem xb_ret (he : XE X δ e d) (h : R.rt d δ) : XB X δ (.Return (some e) pos :: rest) R := xb_cons (ps_ret he) pss_never fun D σ H B F W o =>
  ⟨B, F, W, fun v B2 H2 g r => o.rt v d σ δ B2 H2 F (Step.of g) (W.grow g) h r⟩
theorem xb_retN (h : R.rt .none δ) : XB X δ (.Return none pos :: rest) R := xb_cons ps_retN pss_never fun D σ H B F W o =>
  o.rt _ _ σ δ B H F Step.refl W h .non
theorem xb_doc {x j pos'} (h : XB X δ rest R) : XB X δ (.Expr (.Constant (.str x) j pos) pos' :: rest) R := xb_cons ps_doc h fun D σ H B F W o => ts_iff.mpr ⟨B, F, W, o⟩
theorem xb_pass (h : XB X δ rest R) : XB X δ (.Pass pos :: rest) R := xb_cons ps_pass h fun D σ H B F W o => ts_iff.mpr ⟨B, F, W, o⟩
theorem xb_break (h : R.bk δ) : XB X δ (.Break pos :: rest) R := xb_cons ps_break pss_never fun D σ H B F W o => o.bk σ δ B H F Step.refl W h
theorem xb_cont (h : R.ct δ) : XB X δ (.Continue pos :: rest) R := xb_cons ps_continue pss_never fun D σ H B F W o => o.ct σ δ B H F Step.refl W h
/-- x = e by the statement's own reading -/
theorem xb_set {i : Nat} (h : PS X st (tAsg (tD X.K δ d) (gName i))) (k : XB X (δ.set i (.dat d)) rest R) : XB X δ (st :: rest) R := xb_cons h k fun D σ H B F W o =>
  ⟨B, F, W, fun v B2 H2 g r => ts_iff.mpr ⟨B2, _, (W.grow g).put (s := .dat d) ⟨rfl, r⟩, o.step ((Step.of g).sub cut_sub)⟩⟩
/-- an owned object is put in a slot -/
theorem Wf.putO {K : PySem.W.Frag} {B H : Hp} {σ : L2.St} {F : Nat → List Addr} (W : Wf K B H σ δ F) {i : Nat} {v : V} {r : Res} {fp : List Addr} (hi : i < δ.length) (hs : r.ok B H v fp) (hn : ∀ a ∈ fp, (B a = none ∧ ∃ o, H a = some o) ∧ ∀ j, j ≠ i → a ∉ F j) :
    Wf K B H (σ.set i (some v)) (δ.set i (.own r)) (fun j => if j = i then fp else F j) where
  bh := W.bh
  len := by rw [List.length_set, List.length_set]; exact W.len
  sl := fun j t e => by
    by_cases hj : j = i
    · subst hj
      rw [List.getElem?_set_self hi] at e
      cases e
      refine ⟨some v, List.getElem?_set_self (by rw [← W.len]; exact hi), ?_⟩
      rw [if_pos rfl]
      exact hs
    · rw [List.getElem?_set_ne (Ne.symm hj)] at e
      obtain ⟨o, h1, h2⟩ := W.sl j t e
      refine ⟨o, by rw [List.getElem?_set_ne (Ne.symm hj)]; exact h1, ?_⟩
      rw [if_neg hj]
      exact h2
  out := fun j hj => by
    rw [List.length_set] at hj
    by_cases h : j = i
    · omega
    · rw [if_neg h]
      exact W.out j hj
  dis := fun j k a h1 h2 => by
    by_cases hj : j = i
    · by_cases hk : k = i
      · rw [hj, hk]
      · rw [if_pos hj] at h1
        rw [if_neg hk] at h2
        exact absurd h2 ((hn a h1).2 k hk)
    · by_cases hk : k = i
      · rw [if_neg hj] at h1
        rw [if_pos hk] at h2
        exact absurd h1 ((hn a h2).2 j hj)
      · rw [if_neg hj] at h1
        rw [if_neg hk] at h2
        exact W.dis j k a h1 h2
  own := fun j a h => by
    by_cases hj : j = i
    · rw [if_pos hj] at h
      exact (hn a h).1
    · rw [if_neg hj] at h
      exact W.own j a h
theorem xb_setA {i : Nat} (h : PS X st (tAsg (tN X.K δ ds) (gName i))) (hi : i < δ.length) (k : XB X (δ.set i (.own (accR X.K ds))) rest R) : XB X δ (st :: rest) R := xb_cons h k fun D σ H B F W o =>
  ⟨B, F, W, fun p xs B2 H2 g hp hb h2 r => by
    have W2 := W.grow g
    have np : ∀ j, p ∉ F j := fun j hj => by
      obtain ⟨_, u, hu⟩ := W.own j p hj
      rw [hp] at hu
      cases hu
    refine ts_iff.mpr ⟨B2, _, W2.putO (r := accR X.K ds) (fp := [p]) hi ⟨p, xs, rfl, rfl, h2, r⟩ (fun a ha => ?_), o.step ?_⟩
    · cases List.mem_singleton.mp ha
      exact ⟨⟨hb, _, h2⟩, fun j _ => np j⟩
    · exact ⟨g.bb, fun b o e _ => g.hh b o e, fun b o e _ => g.fr b o e, fun b o e => ⟨o, g.hh b o e⟩, fun j b hb => by
        by_cases hj : j = i
        · rw [if_pos hj] at hb
          cases List.mem_singleton.mp hb
          exact .inr hp
        · rw [if_neg hj] at hb
          exact .inl ⟨j, hb⟩⟩⟩
theorem xs_set {te : TE} (i : Nat) {x : Str} (he : PE X e te) (hN : X.N.Nodup) (hi : X.N[i]? = some x := by rfl) (hx : Loc X.env.scope x := by first | exact Or.inl rfl | exact Or.inr rfl) (hs : swapsWith e (some (.Name x p)) pos.line X.env = pure false := by rfl)
    (hf : X.fn x = true ∨ X.env.scope.names.lookup x = some .local := by first | exact .inl rfl | exact .inr rfl | assumption) : PS X (.Assign [.Name x p] e pos) (tAsg te (gName i)) := ps_set hN hi hx he hs hf
theorem xb_asg (i : Nat) {x : Str} (he : XE X δ e d) (k : XB X (δ.set i (.dat d)) rest R) (hN : X.N.Nodup) (hi : X.N[i]? = some x := by rfl) (hx : Loc X.env.scope x := by first | exact Or.inl rfl | exact Or.inr rfl) (hs : swapsWith e (some (.Name x p)) pos.line X.env = pure false := by rfl)
    (hf : X.fn x = true ∨ X.env.scope.names.lookup x = some .local := by first | exact .inl rfl | exact .inr rfl | assumption) : XB X δ (.Assign [.Name x p] e pos :: rest) R := xb_set (ps_set hN hi hx he hs hf) k
theorem xb_asgA (i : Nat) {x : Str} (he : XN X δ e ds) (k : XB X (δ.set i (.own (accR X.K ds))) rest R) (hN : X.N.Nodup) (hl : i < δ.length := by exact Nat.le_of_ble_eq_true rfl) (hi : X.N[i]? = some x := by rfl) (hx : Loc X.env.scope x := by first | exact Or.inl rfl | exact Or.inr rfl) (hs : swapsWith e (some (.Name x p)) pos.line X.env = pure false := by rfl)
    (hf : X.fn x = true ∨ X.env.scope.names.lookup x = some .local := by first | exact .inl rfl | exact .inr rfl | assumption) : XB X δ (.Assign [.Name x p] e pos :: rest) R := xb_setA (ps_set hN hi hx he hs hf) hl k
/-- a, b = e1, e2 -/
theorem xb_par {d1 d2 : PyData} {i j : Nat} {x y : Str} {px py pt : Pos} {kt k2 pt2} (ha : XE X δ a d1) (hb : XE X δ b d2) (k : XB X ((δ.set i (.dat d1)).set j (.dat d2)) rest R) (hN : X.N.Nodup) (hi : X.N[i]? = some x := by rfl) (hj : X.N[j]? = some y := by rfl) (hij : i ≠ j := by decide)
    (hx : X.env.scope.names.lookup x = some .local := by rfl) (hy : X.env.scope.names.lookup y = some .local := by rfl) (hc : X.calm = true := by rfl)
    (hw : swappedStores [.Tuple [.Name x px, .Name y py] kt pt] (.Tuple [a, b] k2 pt2) X.env = pure (some [x, y]) := by rfl)
    (hs : swapsWithSole [.Tuple [.Name x px, .Name y py] kt pt] (.Tuple [a, b] k2 pt2) pos.line X.env = pure false := by rfl) (h1 : starEach [a, b] X.env = (false, eval a X.env) :: starEach [b] X.env := by rfl) (h2 : starEach [b] X.env = (false, eval b X.env) :: starEach [] X.env := by rfl) :
    XB X δ (.Assign [.Tuple [.Name x px, .Name y py] kt pt] (.Tuple [a, b] k2 pt2) pos :: rest) R := xb_cons (ps_par hc hN hi hj hij hx hy (xa_cons ha (xa_cons hb xa_nil h2) h1) hw hs) k fun D σ H B F W o =>
  ⟨B, F, W, fun vs B2 H2 g r => by
    cases r with
    | @cons v us _ _ r1 r2 =>
      cases r2 with
      | @cons w us _ _ r2 r3 =>
        cases r3
        exact ⟨v, w, rfl, ts_iff.mpr ⟨B2, _, ((W.grow g).put (s := .dat d1) ⟨rfl, r1⟩).put (s := .dat d2) ⟨rfl, r2⟩, o.step (((Step.of g).sub cut_sub).sub cut_sub)⟩⟩⟩
/-- a, b, .. = e, any target -/
theorem xb_unp {is : List Nat} (he : XE X δ e d) (hg : XG X tg is d δ δ2) (k : XB X δ2 rest R) (hs : swapsWithSole [tg] e pos.line X.env = pure false := by rfl) (hw : swappedStores [tg] e X.env = pure none := by rfl)
    (h1 : (assignEach [tg] X.env).map (·.2) = [assign tg X.env] := by rfl) : XB X δ (.Assign [tg] e pos :: rest) R := xb_cons (ps_asg he hg hs hw h1) k fun D σ H B F W o =>
  ⟨B, F, W, fun v B2 H2 g r => ⟨B2, F, W.grow g, r, fun σ2 F2 W2 sb _ _ => ts_iff.mpr ⟨B2, F2, W2, o.step ((Step.of g).sub sb)⟩⟩⟩
/-! ### if, while, for -/
theorem xb_if {sts sts2 : List Stmt} {k : Bool} (M : List Slot → Prop) (hc : XT X δ c k) (h1 : k = true → XB X δ sts { R with nx := M }) (h2 : k = false → XB X δ sts2 { R with nx := M }) (h : ∀ δ', M δ' → XB X δ' rest R) : XB X δ (.If c sts sts2 pos :: rest) R := by
  have hr : PSs X rest (fun D σ H => ∃ z : {δ' // M δ'}, tS X.K z.1 R D σ H) := pss_ex fun z : {δ' // M δ'} => h z.1 z.2
  have fin : ∀ {D : Ends} {B H : Hp} {F : Nat → List Addr}, Ok X.K R D B H F → Ok X.K { R with nx := M } { D with nx := fun σ H => ∃ z : {δ' // M δ'}, tS X.K z.1 R D σ H } B H F := fun {D B H F} o =>
    ⟨fun σ2 δ2 B2 H2 F2 s W q => ⟨⟨δ2, q⟩, ts_iff.mpr ⟨B2, F2, W, o.step s⟩⟩, o.rt, o.bk, o.ct⟩
  cases k with
  | true => exact xb_cons (ps_if hc (h1 rfl) pss_never) hr fun D σ H B F W o => ⟨B, F, W, fun B2 H2 g => by
      show tS X.K δ { R with nx := M } _ σ H2
      exact ts_iff.mpr ⟨B2, F, W.grow g, (fin o).step (Step.of g)⟩⟩
  | false => exact xb_cons (ps_if hc pss_never (h2 rfl)) hr fun D σ H B F W o => ⟨B, F, W, fun B2 H2 g => by
      show tS X.K δ { R with nx := M } _ σ H2
      exact ts_iff.mpr ⟨B2, F, W.grow g, (fin o).step (Step.of g)⟩⟩
/-- an if that leaves -/
theorem xb_ifR {sts : List Stmt} {k : Bool} (hc : XT X δ c k) (h1 : k = true → XB X δ sts { R with nx := fun _ => False }) (h2 : k = false → XB X δ rest R) : XB X δ (.If c sts [] pos :: rest) R := by
  cases k with
  | true => exact xb_if (fun _ => False) hc (fun _ => h1 rfl) (fun h => nomatch h) (fun _ h => h.elim)
  | false => exact xb_if (fun δ' => δ' = δ) hc (fun h => nomatch h) (fun _ => xb_nil rfl) (fun _ h => by
      subst h
      exact h2 rfl)
theorem xb_while (J : Nat → List Slot → Prop) (M : List Slot → Prop) (m0 : Nat) (h0 : J m0 δ)
    (hs : ∀ m δ', J m δ' → ∃ k, XT X δ' c k ∧ (k = true → XB X δ' body { R with nx := fun δ2 => ∃ m', m' < m ∧ J m' δ2, ct := fun δ2 => ∃ m', m' < m ∧ J m' δ2, bk := M }) ∧ (k = false → M δ'))
    (h : ∀ δ', M δ' → XB X δ' rest R) (hp : PassesOwn (model X.prog X.w) X.A X.env X.xe := by exact PassesOwn.never) : XB X δ (.While c body [] pos :: rest) R := by
  let ι := {z : Nat × List Slot × Bool // J z.1 z.2.1 ∧ XT X z.2.1 c z.2.2 ∧ (z.2.2 = true → XB X z.2.1 body { R with nx := fun δ2 => ∃ m', m' < z.1 ∧ J m' δ2, ct := fun δ2 => ∃ m', m' < z.1 ∧ J m' δ2, bk := M }) ∧ (z.2.2 = false → M z.2.1)}
  have hC : PT X c (fun σ H Q => ∃ z : ι, tBo X.K z.1.2.1 z.1.2.2 σ H Q) := pt_ex fun z : ι => z.2.2.1
  have hB : PSs X body (fun D σ H => ∃ z : {z : ι // z.1.2.2 = true}, tS X.K z.1.1.2.1 { R with nx := fun δ2 => ∃ m', m' < z.1.1.1 ∧ J m' δ2, ct := fun δ2 => ∃ m', m' < z.1.1.1 ∧ J m' δ2, bk := M } D σ H) := pss_ex fun z : {z : ι // z.1.2.2 = true} => z.1.2.2.2.1 z.2
  have hr : PSs X rest (fun D σ H => ∃ z : {δ' // M δ'}, tS X.K z.1 R D σ H) := pss_ex fun z : {δ' // M δ'} => h z.1 z.2
  refine xb_cons (ps_while hp hC hB) hr fun D σ H B F W o => ?_
  refine ⟨fun m σ' H' => ∃ δ' B' F', J m δ' ∧ Wf X.K B' H' σ' δ' F' ∧ Step B H F B' H' F', ⟨m0, δ, B, F, h0, W, Step.refl⟩, ?_⟩
  rintro m σ' H' ⟨δ', B', F', hj, W', s'⟩
  obtain ⟨k, hk, hk1, hk2⟩ := hs m δ' hj
  refine ⟨⟨(m, δ', k), hj, hk, hk1, hk2⟩, B', F', W', fun B2 H2 g => ?_⟩
  cases k with
  | false =>
    show ∃ z : {δ' // M δ'}, tS X.K z.1 R D σ' H2
    exact ⟨⟨δ', hk2 rfl⟩, ts_iff.mpr ⟨B2, F', W'.grow g, o.step (s'.trans (Step.of g))⟩⟩
  | true =>
    have s2 := s'.trans (Step.of (F := F') g)
    refine ⟨fun σ3 H3 => ∃ m' δ3 B3 F3, m' < m ∧ J m' δ3 ∧ Wf X.K B3 H3 σ3 δ3 F3 ∧ Step B H F B3 H3 F3, fun σ3 H3 ⟨m', δ3, B3, F3, hm, hj3, W3, s3⟩ => ⟨m', hm, δ3, B3, F3, hj3, W3, s3⟩, ⟨⟨(m, δ', true), hj, hk, hk1, hk2⟩, rfl⟩, ?_⟩
    refine ts_iff.mpr ⟨B2, F', W'.grow g, ?_, ?_, ?_, ?_⟩
    · exact fun σ3 δ3 B3 H3 F3 s3 W3 ⟨m', hm, hj3⟩ => ⟨m', δ3, B3, F3, hm, hj3, W3, s2.trans s3⟩
    · exact fun v d σ3 δ3 B3 H3 F3 s3 W3 q r => o.rt v d σ3 δ3 B3 H3 F3 (s2.trans s3) W3 q r
    · exact fun σ3 δ3 B3 H3 F3 s3 W3 q => ⟨⟨δ3, q⟩, ts_iff.mpr ⟨B3, F3, W3, o.step (s2.trans s3)⟩⟩
    · exact fun σ3 δ3 B3 H3 F3 s3 W3 ⟨m', hm, hj3⟩ => ⟨m', δ3, B3, F3, hm, hj3, W3, s2.trans s3⟩
/-- for tg in iter, ds what is walked; J i δ: ahead of the turn i -/
theorem xb_for {is : List Nat} (Δ : PyData → List Slot → List Slot) (J : Nat → List Slot → Prop) (M : List Slot → Prop) (hi : XI X tg δ iter ds) (h0 : J 0 δ)
    (hg : ∀ i δ' d, J i δ' → ds[i]? = some d → XG X tg is d δ' (Δ d δ'))
    (hs : ∀ i δ' d, J i δ' → ds[i]? = some d → XB X (Δ d δ') body { R with nx := J (i + 1), ct := J (i + 1), bk := M }) (hM : ∀ δ', J ds.length δ' → M δ')
    (h : ∀ δ', M δ' → XB X δ' rest R) (hp : PassesOwn (model X.prog X.w) X.A X.env X.xe := by exact PassesOwn.never) (hc : X.calm = true := by rfl) (hss : ∀ x, foldedSetIterable iter X.env x = pure x := by intro _; rfl) : XB X δ (.For tg iter body [] pos :: rest) R := by
  let ι := {z : Nat × List Slot × PyData // J z.1 z.2.1 ∧ ds[z.1]? = some z.2.2}
  have hG : PG X tg (fun v σ H Q => ∃ z : ι, tG X.K is z.1.2.2 z.1.2.1 (Δ z.1.2.2 z.1.2.1) v σ H Q) := pg_ex fun z : ι => hg z.1.1 z.1.2.1 z.1.2.2 z.2.1 z.2.2
  have hB : PSs X body (fun D σ H => ∃ z : ι, tS X.K (Δ z.1.2.2 z.1.2.1) { R with nx := J (z.1.1 + 1), ct := J (z.1.1 + 1), bk := M } D σ H) := pss_ex fun z : ι => hs z.1.1 z.1.2.1 z.1.2.2 z.2.1 z.2.2
  have hr : PSs X rest (fun D σ H => ∃ z : {δ' // M δ'}, tS X.K z.1 R D σ H) := pss_ex fun z : {δ' // M δ'} => h z.1 z.2
  refine xb_cons (ps_for hp hc hi hG hB hss) hr fun D σ H B F W o => ⟨B, F, W, fun It B1 H1 g1 wk => ?_⟩
  have s1 : Step B H F B1 H1 F := Step.of g1
  refine ⟨fun i m σ' H' => m = ds.length - i ∧ i ≤ ds.length ∧ ∃ δ' B' F', J i δ' ∧ Wf X.K B' H' σ' δ' F' ∧ Step B H F B' H' F' ∧ Same B1 B', ⟨ds.length, by simp, Nat.zero_le _, δ, B1, F, h0, W.grow g1, s1, Same.refl _⟩, ?_⟩
  rintro i m σ' H' ⟨rfl, hle, δ', B', F', hj, W', s', sm⟩
  by_cases hlt : i < ds.length
  · refine .inr ⟨wk.go i H' (sm.trans W'.bh) hlt, fun σ3 H3 => ∃ δ3 B3 F3, J (i + 1) δ3 ∧ Wf X.K B3 H3 σ3 δ3 F3 ∧ Step B H F B3 H3 F3 ∧ Same B1 B3, fun σ3 H3 ⟨δ3, B3, F3, q⟩ => ⟨ds.length - (i + 1), by omega, rfl, hlt, δ3, B3, F3, q⟩, fun x H2 hy => ?_⟩
    have hget : ds[i]? = some ds[i] := List.getElem?_eq_getElem hlt
    generalize ds[i] = d at hget
    obtain ⟨B2, g2, r2⟩ := wk.yld i B' H' x H2 sm W'.bh hy d hget
    have s2 := s'.trans (Step.of (F := F') g2)
    refine ⟨⟨(i, δ', d), hj, hget⟩, B2, F', W'.grow g2, r2, fun σ3 F3 W3 sb _ _ => ⟨⟨(i, δ', d), hj, hget⟩, ts_iff.mpr ⟨B2, F3, W3, ?_, ?_, ?_, ?_⟩⟩⟩
    all_goals have s3 := s2.sub sb
    · exact fun σ4 δ4 B4 H4 F4 s4 W4 q => ⟨δ4, B4, F4, q, W4, s3.trans s4, (sm.trans g2.bb).trans s4.bb⟩
    · exact fun v d σ4 δ4 B4 H4 F4 s4 W4 q r => o.rt v d σ4 δ4 B4 H4 F4 (s3.trans s4) W4 q r
    · exact fun σ4 δ4 B4 H4 F4 s4 W4 q => ⟨⟨δ4, q⟩, ts_iff.mpr ⟨B4, F4, W4, o.step (s3.trans s4)⟩⟩
    · exact fun σ4 δ4 B4 H4 F4 s4 W4 q => ⟨δ4, B4, F4, q, W4, s3.trans s4, (sm.trans g2.bb).trans s4.bb⟩
  · have e : i = ds.length := by omega
    subst e
    exact .inl ⟨wk.stop H' (sm.trans W'.bh), ⟨δ', hM δ' hj⟩, ts_iff.mpr ⟨B', F', W', o.step s'⟩⟩
end
end Dl

set_option Elab.async false
set_option linter.all false
set_option maxRecDepth 100000
set_option maxHeartbeats 4000000
/-! The data level: built-ins, the promises of defs that are functions of data. -/
namespace Dl
open PySem PySem.Spec PyProof.Rows L2
section
variable {X : Cx} {δ δ2 : List Slot} {a b c e tg iter : Expr} {pos p : Pos} {ds : List PyData} {es : List Expr} {d d1 d2 : PyData}
/-! ### built-ins by their names -/
def RC (K : PySem.W.Frag) (r : List V → Hp → VK → Prop) (ds : List PyData) (d : PyData) : Prop := ∀ (B H : Hp) (vs : List V) (Q : VK), Same B H → RpA K B vs ds → (∀ v B2 H2, Grow B H B2 H2 → Rp K B2 v d → Q v H2) → r vs H Q
def RCN (K : PySem.W.Frag) (r : List V → Hp → VK → Prop) (ds : List PyData) (ys : List PyData) : Prop := ∀ (B H : Hp) (vs : List V) (Q : VK), Same B H → RpA K B vs ds → (∀ p xs B2 H2, Grow B H B2 H2 → H p = none → B2 p = none → H2 p = some (.lst xs) → RpA K B2 xs ys → Q (.ref p) H2) → r vs H Q
theorem cb_weak {t : TA} {r : List V → Hp → VK → Prop} (ht : ∀ σ H Q, tA X.K δ ds σ H Q → t σ H Q) (hr : RC X.K r ds d) : ∀ σ H Q, tD X.K δ d σ H Q → tCB r t σ H Q := fun σ H Q ⟨B, F, W, q⟩ =>
  ht σ H _ ⟨B, F, W, fun vs B2 H2 g rr => hr B2 H2 vs Q g.bh rr fun v B3 H3 g3 r3 => q v B3 H3 (g.trans g3) r3⟩
theorem cbN_weak {ys : List PyData} {t : TA} {r : List V → Hp → VK → Prop} (ht : ∀ σ H Q, tA X.K δ ds σ H Q → t σ H Q) (hr : RCN X.K r ds ys) : ∀ σ H Q, tN X.K δ ys σ H Q → tCB r t σ H Q := fun σ H Q ⟨B, F, W, q⟩ =>
  ht σ H _ ⟨B, F, W, fun vs B2 H2 g rr => hr B2 H2 vs Q g.bh rr fun p xs B3 H3 g3 hp hb h3 r3 => q p xs B3 H3 (g.trans g3) (g.hh.free hp) hb h3 r3⟩
theorem xe_cb {x : Str} {id : String} {r : List V → Hp → VK → Prop} (hc : CallR X (.builtin id) r) (hm : X.mg x = none) (hv : bootBuiltins x = some (.builtin id)) (ha : XA X δ (e :: es) ds) (hr : RC X.K r ds d) (hg : Gl X x := by rfl) (hn : x ≠ "__name__" := by decide) (hdb : (x == ("__debug__" : Str)) = false := by decide)
    (he : starEach (e :: es) X.env = (false, eval e X.env) :: starEach es X.env := by rfl) (hpl : (backTo pos (starEach es X.env)).any (·.1) = false := by rfl) : XE X δ (.Call (.Name x p) (e :: es) [] pos) d :=
  (pe_callB hc hg hm hv ha hn hdb he hpl).weak (cb_weak (fun _ _ _ q => q) hr)
theorem xe_ct {x : Str} {id : String} {r : List V → Hp → VK → Prop} (hc : CallR X (.type id) r) (hm : X.mg x = none) (hv : bootBuiltins x = some (.type id)) (ha : XA X δ (e :: es) ds) (hr : RC X.K r ds d) (hg : Gl X x := by rfl) (hn : x ≠ "__name__" := by decide) (hdb : (x == ("__debug__" : Str)) = false := by decide)
    (he : starEach (e :: es) X.env = (false, eval e X.env) :: starEach es X.env := by rfl) (hpl : (backTo pos (starEach es X.env)).any (·.1) = false := by rfl) : XE X δ (.Call (.Name x p) (e :: es) [] pos) d :=
  (pe_callTy hc hg hm hv ha hn hdb he hpl).weak (cb_weak (fun _ _ _ q => q) hr)
theorem xn_ct {x : Str} {id : String} {ys : List PyData} {r : List V → Hp → VK → Prop} (hc : CallR X (.type id) r) (hm : X.mg x = none) (hv : bootBuiltins x = some (.type id)) (ha : XA X δ (e :: es) ds) (hr : RCN X.K r ds ys) (hg : Gl X x := by rfl) (hn : x ≠ "__name__" := by decide) (hdb : (x == ("__debug__" : Str)) = false := by decide)
    (he : starEach (e :: es) X.env = (false, eval e X.env) :: starEach es X.env := by rfl) (hpl : (backTo pos (starEach es X.env)).any (·.1) = false := by rfl) : XN X δ (.Call (.Name x p) (e :: es) [] pos) ys :=
  (pe_callTy hc hg hm hv ha hn hdb he hpl).weak (cbN_weak (fun _ _ _ q => q) hr)
inductive LenD : PyData → Nat → Prop
  | lst (ds : List PyData) : LenD (.list ds) ds.length
  | tup (ds : List PyData) : LenD (.tuple ds) ds.length
  | str (x : Str) (hz : x.length ≤ sizeLine) : LenD (.str x) x.length
theorem xe_len {n : Nat} (hm : X.mg "len" = none) (ha : XE X δ a d) (h : LenD d n) (hg : Gl X "len" := by rfl) (hs : starEach [a] X.env = (false, eval a X.env) :: starEach [] X.env := by rfl) : XE X δ (.Call (.Name "len" p) [a] [] pos) (.int n) :=
  xe_cb call_len hm PySem.boot_len (xa_cons ha xa_nil hs) (fun B H vs Q s r q => by
    cases r with
    | @cons v _ _ _ r1 r2 =>
      cases r2
      refine ⟨v, n, rfl, ?_, q _ B H (Grow.refl s) (.int _)⟩
      cases h with
      | lst ds =>
        cases r1 with
        | lst h1 r1 => exact .inl ⟨_, SqL.of (s _ _ h1), r1.length.symm⟩
      | tup ds =>
        cases r1 with
        | tup h1 r1 => exact .inr ⟨_, same_t s h1, r1.length.symm⟩
      | str x hz =>
        cases r1
        exact ⟨hz, rfl⟩) hg (he := hs)
theorem xe_max2 {i j : Int} (hm : X.mg "max" = none) (ha : XE X δ a (.int i)) (hb : XE X δ b (.int j)) (hc : X.calm = true := by rfl) (hg : Gl X "max" := by rfl) (hs : starEach [a, b] X.env = (false, eval a X.env) :: starEach [b] X.env := by rfl)
    (hs2 : starEach [b] X.env = (false, eval b X.env) :: starEach [] X.env := by rfl) (hpl : (backTo pos (starEach [b] X.env)).any (·.1) = false := by rfl) : XE X δ (.Call (.Name "max" p) [a, b] [] pos) (.int (if j > i then j else i)) :=
  xe_cb (call_max2 hc) hm boot_max (xa_cons ha (xa_cons hb xa_nil hs2) hs) (fun B H vs Q s r q => by
    cases r with
    | cons r1 r2 =>
      cases r2 with
      | cons r3 r4 =>
        cases r4
        cases r1
        cases r3
        exact ⟨i, j, rfl, q _ B H (Grow.refl s) (.int _)⟩) hg (he := hs) (hpl := hpl)
theorem xe_min2 {i j : Int} (hm : X.mg "min" = none) (ha : XE X δ a (.int i)) (hb : XE X δ b (.int j)) (hc : X.calm = true := by rfl) (hg : Gl X "min" := by rfl) (hs : starEach [a, b] X.env = (false, eval a X.env) :: starEach [b] X.env := by rfl)
    (hs2 : starEach [b] X.env = (false, eval b X.env) :: starEach [] X.env := by rfl) (hpl : (backTo pos (starEach [b] X.env)).any (·.1) = false := by rfl) : XE X δ (.Call (.Name "min" p) [a, b] [] pos) (.int (if j < i then j else i)) :=
  xe_cb (call_min2 hc) hm boot_min (xa_cons ha (xa_cons hb xa_nil hs2) hs) (fun B H vs Q s r q => by
    cases r with
    | cons r1 r2 =>
      cases r2 with
      | cons r3 r4 =>
        cases r4
        cases r1
        cases r3
        exact ⟨i, j, rfl, q _ B H (Grow.refl s) (.int _)⟩) hg (he := hs) (hpl := hpl)
inductive SeqD : PyData → List PyData → Prop
  | lst (ds : List PyData) : SeqD (.list ds) ds
  | tup (ds : List PyData) : SeqD (.tuple ds) ds
/-- list(x) -/
theorem xn_listOf {ys : List PyData} (hm : X.mg "list" = none) (ha : XE X δ a d) (h : SeqD d ys) (hg : Gl X "list" := by rfl) (hs : starEach [a] X.env = (false, eval a X.env) :: starEach [] X.env := by rfl) : XN X δ (.Call (.Name "list" p) [a] [] pos) ys :=
  xn_ct call_list_of hm boot_list (xa_cons ha xa_nil hs) (fun B H vs Q s r q => by
    cases r with
    | @cons v _ _ _ r1 r2 =>
      cases r2
      cases h with
      | lst ds =>
        cases r1 with
        | @lst a xs _ h1 r1 => exact ⟨a, xs, rfl, .inl (SqL.of (s _ _ h1)), fun l hl => q l xs _ _ (Grow.newH s hl) hl (s.free hl) upd_same r1⟩
      | tup ds =>
        cases r1 with
        | @tup a xs _ h1 r1 => exact ⟨a, xs, rfl, .inr (same_t s h1), fun l hl => q l xs _ _ (Grow.newH s hl) hl (s.free hl) upd_same r1⟩) hg (he := hs)
/-- tuple(x) -/
theorem xe_tupleOf {ys : List PyData} (hm : X.mg "tuple" = none) (ha : XE X δ a d) (h : SeqD d ys) (hg : Gl X "tuple" := by rfl) (hs : starEach [a] X.env = (false, eval a X.env) :: starEach [] X.env := by rfl) : XE X δ (.Call (.Name "tuple" p) [a] [] pos) (.tuple ys) :=
  xe_ct call_tuple_of hm boot_tuple (xa_cons ha xa_nil hs) (fun B H vs Q s r q => by
    cases r with
    | @cons v _ _ _ r1 r2 =>
      cases r2
      cases h with
      | lst ds =>
        cases r1 with
        | @lst a xs _ h1 r1 => exact ⟨a, xs, rfl, .inl ⟨SqL.of (s _ _ h1), fun l hl => q _ _ _ (Grow.new (o := .tup xs) s hl) (.tup (.inl (.inl upd_same)) (r1.mono (same_upd (s.free hl))))⟩⟩
      | tup ds =>
        cases r1 with
        | @tup a xs _ h1 r1 => exact ⟨a, xs, rfl, .inr ⟨same_t s h1, q _ B H (Grow.refl s) (.tup h1 r1)⟩⟩) hg (he := hs)
theorem xe_intI {i : Int} (hm : X.mg "int" = none) (ha : XE X δ a (.int i)) (hg : Gl X "int" := by rfl) (hs : starEach [a] X.env = (false, eval a X.env) :: starEach [] X.env := by rfl) : XE X δ (.Call (.Name "int" p) [a] [] pos) (.int i) :=
  xe_ct call_int1 hm boot_int (xa_cons ha xa_nil hs) (fun B H vs Q s r q => by
    cases r with
    | cons r1 r2 =>
      cases r2
      cases r1
      exact .inl ⟨i, rfl, q _ B H (Grow.refl s) (.int _)⟩) hg (he := hs)
theorem xe_sum {ns : List Int} (hm : X.mg "sum" = none) (ha : XE X δ a (.list (ns.map .int))) (hc : X.calm = true := by rfl) (hg : Gl X "sum" := by rfl) (hs : starEach [a] X.env = (false, eval a X.env) :: starEach [] X.env := by rfl) : XE X δ (.Call (.Name "sum" p) [a] [] pos) (.int ns.sum) :=
  xe_cb (cr_sum hc) hm boot_sum (xa_cons ha xa_nil hs) (fun B H vs Q s r q => by
    cases r with
    | cons r1 r2 =>
      cases r2
      cases r1 with
      | @lst a xs _ h1 r1 =>
        rw [r1.ints_inv] at h1
        exact ⟨a, ns, rfl, SqL.of (s _ _ h1), q _ B H (Grow.refl s) (.int _)⟩) hg (he := hs)
theorem xe_all {ns : List Bool} (hm : X.mg "all" = none) (ha : XE X δ a (.list (ns.map .bool))) (hc : X.calm = true := by rfl) (hg : Gl X "all" := by rfl) (hs : starEach [a] X.env = (false, eval a X.env) :: starEach [] X.env := by rfl) : XE X δ (.Call (.Name "all" p) [a] [] pos) (.bool (ns.all id)) :=
  xe_cb (cr_all hc) hm boot_all (xa_cons ha xa_nil hs) (fun B H vs Q s r q => by
    cases r with
    | cons r1 r2 =>
      cases r2
      cases r1 with
      | @lst a xs _ h1 r1 =>
        rw [r1.bls_inv] at h1
        exact ⟨a, ns, rfl, SqL.of (s _ _ h1), q _ B H (Grow.refl s) (.bl _)⟩) hg (he := hs)
theorem xe_any {ns : List Bool} (hm : X.mg "any" = none) (ha : XE X δ a (.list (ns.map .bool))) (hc : X.calm = true := by rfl) (hg : Gl X "any" := by rfl) (hs : starEach [a] X.env = (false, eval a X.env) :: starEach [] X.env := by rfl) : XE X δ (.Call (.Name "any" p) [a] [] pos) (.bool (ns.any id)) :=
  xe_cb (cr_any hc) hm boot_any (xa_cons ha xa_nil hs) (fun B H vs Q s r q => by
    cases r with
    | cons r1 r2 =>
      cases r2
      cases r1 with
      | @lst a xs _ h1 r1 =>
        rw [r1.bls_inv] at h1
        exact ⟨a, ns, rfl, SqL.of (s _ _ h1), q _ B H (Grow.refl s) (.bl _)⟩) hg (he := hs)
/-! ### isinstance of data -/
def tyD : PyData → String
  | .none => "NoneType"
  | .bool _ => "bool"
  | .int _ => "int"
  | .str _ => "str"
  | .list _ => "list"
  | .tuple _ => "tuple"
  | .dict _ => "dict"
theorem ty_of {K : PySem.W.Frag} {B H : Hp} {x : V} (s : Same B H) (r : Rp K B x d) : TyX K H x (.type (tyD d)) := by
  cases r with
  | non => exact .base .non
  | bl b => exact .base (.bl b)
  | int i => exact .base (.int i)
  | str x => exact .base (.str x)
  | @lst a xs ds h q => exact .base (.lst (s _ _ h))
  | @tup a xs ds h q =>
    rcases h with (h | ⟨o, h⟩) | ⟨o, _, _, h1, h2, _⟩
    · exact .base (.tup (s _ _ h))
    · exact .fTuple (s _ _ h)
    · exact .kTuple h1 h2
theorem xe_isi {T : String} {x : Str} {k : Bool} (hm : X.mg "isinstance" = none) (ha : XE X δ a d) (hm2 : X.mg x = none) (hv : bootBuiltins x = some (.type T)) (hk : kitB (tyD d) T = some k) (hg : Gl X "isinstance" := by rfl) (hg2 : Gl X x := by rfl) {p2 : Pos}
    (hs : starEach [a, .Name x p2] X.env = (false, eval a X.env) :: starEach [.Name x p2] X.env := by rfl) (hs2 : starEach [.Name x p2] X.env = (false, eval (.Name x p2) X.env) :: starEach [] X.env := by rfl) (hpl : (backTo pos (starEach [.Name x p2] X.env)).any (·.1) = false := by rfl)
    (hn : x ≠ "__name__" := by decide) (hd : (x == ("__debug__" : Str)) = false := by decide) : XE X δ (.Call (.Name "isinstance" p) [a, .Name x p2] [] pos) (.bool k) :=
  (pe_callB call_isi hg hm boot_isinstance (pa_cons ha (pa_cons (pe_bltn (v := .ty T) hg2 hm2 hv rfl hn hd) pa_nil hs2) hs) (by decide) (by decide) hs hpl).weak fun σ H Q ⟨B, F, W, q⟩ => ⟨B, F, W, fun v B2 H2 g r =>
    ⟨v, .ty T, .type (tyD d), .type T, k, rfl, .ty T, ty_of g.bh r, kit_ty hk, q _ B2 H2 g (.bl _)⟩⟩
def isBoolD : PyData → Bool
  | .bool _ => true
  | _ => false
def isIntD : PyData → Bool
  | .bool _ => true
  | .int _ => true
  | _ => false
def isStrD : PyData → Bool
  | .str _ => true
  | _ => false
def isListD : PyData → Bool
  | .list _ => true
  | _ => false
def isTupleD : PyData → Bool
  | .tuple _ => true
  | _ => false
def isDictD : PyData → Bool
  | .dict _ => true
  | _ => false
def isRowD : PyData → Bool
  | .list _ => true
  | .tuple _ => true
  | _ => false
theorem kit_bool (d : PyData) : kitB (tyD d) "bool" = some (isBoolD d) := by cases d <;> kernel_rfl
theorem kit_int (d : PyData) : kitB (tyD d) "int" = some (isIntD d) := by cases d <;> kernel_rfl
theorem kit_str (d : PyData) : kitB (tyD d) "str" = some (isStrD d) := by cases d <;> kernel_rfl
theorem kit_list (d : PyData) : kitB (tyD d) "list" = some (isListD d) := by cases d <;> kernel_rfl
theorem kit_tuple (d : PyData) : kitB (tyD d) "tuple" = some (isTupleD d) := by cases d <;> kernel_rfl
theorem kit_dict (d : PyData) : kitB (tyD d) "dict" = some (isDictD d) := by cases d <;> kernel_rfl
def kitAnyB (t : String) : List String → Option Bool
  | [] => some false
  | c :: r => match kitB t c with
    | some true => some true
    | some false => kitAnyB t r
    | none => none
theorem kit_row (d : PyData) : kitAnyB (tyD d) ["list", "tuple"] = some (isRowD d) := by cases d <;> kernel_rfl
theorem kitAny_of {K : PySem.W.Frag} {t : String} : ∀ {cs : List String} {k : Bool}, kitAnyB t cs = some k → PySem.W.kitAny K (.type t) (cs.map Value.type) = some k
  | [], k, h => h
  | c :: r, k, h => by
    unfold kitAnyB at h
    rw [List.map_cons]
    cases e : kitB t c with
    | none => rw [e] at h; cases h
    | some m =>
      rw [e] at h
      refine kitAny_cons (kit_ty e) (fun hm => ?_) fun hm => ?_
      · subst hm
        exact kitAny_of h
      · subst hm
        exact (Option.some.inj h).symm
theorem xe_isi2 {T U : String} {x y : Str} {k : Bool} (hm : X.mg "isinstance" = none) (ha : XE X δ a d) (hm2 : X.mg x = none) (hv : bootBuiltins x = some (.type T)) (hm3 : X.mg y = none) (hv3 : bootBuiltins y = some (.type U)) (hk : kitAnyB (tyD d) [T, U] = some k) {p2 p3 p4 : Pos} {x1}
    (hg : Gl X "isinstance" := by rfl) (hg2 : Gl X x := by rfl) (hg3 : Gl X y := by rfl)
    (hs : starEach [a, .Tuple [.Name x p2, .Name y p3] x1 p4] X.env = (false, eval a X.env) :: starEach [.Tuple [.Name x p2, .Name y p3] x1 p4] X.env := by rfl) (hs2 : starEach [.Tuple [.Name x p2, .Name y p3] x1 p4] X.env = (false, eval (.Tuple [.Name x p2, .Name y p3] x1 p4) X.env) :: starEach [] X.env := by rfl)
    (hpl : (backTo pos (starEach [.Tuple [.Name x p2, .Name y p3] x1 p4] X.env)).any (·.1) = false := by rfl)
    (hs3 : starEach [.Name x p2, .Name y p3] X.env = (false, eval (.Name x p2) X.env) :: starEach [.Name y p3] X.env := by rfl) (hs4 : starEach [.Name y p3] X.env = (false, eval (.Name y p3) X.env) :: starEach [] X.env := by rfl)
    (hn : x ≠ "__name__" := by decide) (hd : (x == ("__debug__" : Str)) = false := by decide) (hn2 : y ≠ "__name__" := by decide) (hd2 : (y == ("__debug__" : Str)) = false := by decide) :
    XE X δ (.Call (.Name "isinstance" p) [a, .Tuple [.Name x p2, .Name y p3] x1 p4] [] pos) (.bool k) :=
  (pe_callB call_isiT hg hm boot_isinstance (pa_cons ha (pa_cons (pe_tup (pa_cons (pe_bltn (v := .ty T) hg2 hm2 hv rfl hn hd) (pa_cons (pe_bltn (v := .ty U) hg3 hm3 hv3 rfl hn2 hd2) pa_nil hs4) hs3)) pa_nil hs2) hs) (by decide) (by decide) hs hpl).weak fun σ H Q ⟨B, F, W, q⟩ =>
    ⟨B, F, W, fun v B2 H2 g r => ⟨sz_of (by show 2 ≤ 1000000; decide), fun l hl => by
      have g2 := Grow.newH (o := .tup [V.ty T, V.ty U]) g.bh hl
      exact ⟨v, l, [.ty T, .ty U], .type (tyD d), [.type T, .type U], k, rfl, upd_same, .cons (.ty T) (.cons (.ty U) .nil), ty_of g2.bh r, kitAny_of (cs := [T, U]) hk, q _ _ _ (g.trans g2) (.bl _)⟩⟩⟩

/-! ### the promise of a def that is a function of data -/
def SpP (K : PySem.W.Frag) (f : List PyData → PyData → Prop) : Sp := fun vs H Q _ => ∃ B ds d, Same B H ∧ RpA K B vs ds ∧ f ds d ∧ ∀ v B2 H2, Grow B H B2 H2 → Rp K B2 v d → Q v H2
/-- a def of the module that keeps a promise -/
structure Def (P : Program) (w : World) (K : PySem.W.Frag) (mg : Str → Option Value) (base : Heap) (k : Nat) (x : Str) (ps : List Str) (sp : Sp) : Prop where
  ex : ∃ f fd, mg x = some (.ref f) ∧ PySem.W.keepIn K (.ref f) = true ∧ Binds K fd ps [] ∧ FnOk P w K mg base CX0 k f fd ps sp
theorem Def.mono {P : Program} {w : World} {K : PySem.W.Frag} {mg : Str → Option Value} {base : Heap} {j k : Nat} {x : Str} {ps : List Str} {sp : Sp} (h : Def P w K mg base j x ps sp) (hk : j ≤ k) : Def P w K mg base k x ps sp := by
  obtain ⟨f, fd, h1, h2, h3, h4⟩ := h.ex
  exact ⟨f, fd, h1, h2, h3, h4.mono hk⟩
theorem xe_call {k : Nat} {x : Str} {ps : List Str} {f : List PyData → PyData → Prop} (G : Def X.prog X.w X.K X.mg X.base k x ps (SpP X.K f)) (hr : Room k X.A) (ha : XA X δ (e :: es) ds) (hf : f ds d) (hg : Gl X x := by rfl) (hdb : (x == ("__debug__" : Str)) = false := by decide)
    (he : starEach (e :: es) X.env = (false, eval e X.env) :: starEach es X.env := by rfl) (hpl : (backTo pos (starEach es X.env)).any (·.1) = false := by rfl) : XE X δ (.Call (.Name x p) (e :: es) [] pos) d := by
  obtain ⟨fa, fd, h1, h2, h3, h4⟩ := G.ex
  exact (pe_call h4 hr hg h1 h2 h3 .nil pass0 ha hdb he hpl).weak fun σ H Q ⟨B, F, W, q⟩ => ⟨B, F, W, fun vs B2 H2 g r => by
    show SpP X.K f (vs ++ []) H2 Q E0
    rw [List.append_nil]
    exact ⟨B2, ds, d, g.bh, r, hf, fun v B3 H3 g3 r3 => q v B3 H3 (g.trans g3) r3⟩⟩
/-- what the top has written of a def -/
structure At (K : PySem.W.Frag) (mg : Str → Option Value) (x : Str) (st : Stmt) (ps : List Str) : Prop where
  ex : ∃ f fd, mg x = some (.ref f) ∧ Fun K x x st f fd ∧ Binds K fd ps []
def startD (N : List Str) (δ : List Slot) : List Slot := δ ++ List.replicate (N.length - δ.length) .no
theorem envOk_dat {K : PySem.W.Frag} {B H : Hp} {vs : List V} (s : Same B H) (r : RpA K B vs ds) (N : List Str) : Wf K B H (L2.start N vs) (startD N (ds.map .dat)) (fun _ => []) where
  bh := s
  len := by
    unfold L2.start startD
    simp only [List.length_append, List.length_map, List.length_replicate, r.length]
  sl := fun i t e => by
    unfold startD at e
    unfold L2.start
    by_cases hi : i < ds.length
    · rw [List.getElem?_append_left (by rw [List.length_map]; exact hi), List.getElem?_map] at e
      rw [List.getElem?_append_left (by rw [List.length_map, r.length]; exact hi), List.getElem?_map]
      have hd : ds[i]? = some ds[i] := List.getElem?_eq_getElem hi
      rw [hd] at e
      cases e
      obtain ⟨v, h1, h2⟩ := r.getD hd
      rw [h1]
      exact ⟨some v, rfl, rfl, h2⟩
    · rw [List.getElem?_append_right (by rw [List.length_map]; omega)] at e
      rw [List.getElem?_append_right (by rw [List.length_map, r.length]; omega)]
      have h1 := (List.getElem?_eq_some_iff.mp e)
      obtain ⟨h2, h3⟩ := h1
      rw [List.getElem_replicate] at h3
      subst h3
      simp only [List.length_replicate, List.length_map] at h2
      refine ⟨none, ?_, rfl⟩
      have := r.length
      rw [List.getElem?_replicate, if_pos]
      simp only [List.length_map]
      omega
  out := fun _ _ => rfl
  dis := fun i j a h _ => nomatch h
  own := fun i a h => nomatch h
section
variable {P : Program} {w : World} {K : PySem.W.Frag} {mg : Str → Option Value} {base : Heap}
/-- THE RULE for a def that is a function of data -/
theorem def_pure {x : Str} {st : Stmt} {N ps : List Str} {k : Nat} {f : List PyData → PyData → Prop} (A : At K mg x st ps) (S : FnScope N ps (defScope st)) (len : ∀ ds d, f ds d → ds.length = ps.length)
    (body : ∀ (X : Cx), (∃ (fa : Addr) (cdv : Value) (A : Around) (outer : List Env) (s : Shared) (H : Hp) (E : XK), Room k (A.deeper (envOfC x (defScope st) s.heap.objs.size fa cdv)) ∧ X = (cxOf CX0 P w K mg base N x (defScope st) fa cdv A outer s H E).nox) → ∀ ds d, f ds d → XB X (startD N (ds.map .dat)) (defBody st) { rt := fun d' _ => d' = d, nx := fun _ => d = .none }) :
    Def P w K mg base (k + 1) x ps (SpP K f) := by
  obtain ⟨fa, fd, h1, h2, h3⟩ := A.ex
  refine ⟨fa, fd, h1, h2.kp, h3, h2.ok S (fun vs H Q E h => ?_) (fun cdv A outer s H vs Q E hr h => ?_)⟩
  · obtain ⟨B, ds, d, _, r, hf, _⟩ := h
    rw [r.length]
    exact len ds d hf
  · obtain ⟨B, ds, d, sm, r, hf, q⟩ := h
    refine ⟨_, body _ ⟨fa, cdv, A, outer, s, H, E, hr, rfl⟩ ds d hf, ?_⟩
    refine ts_iff.mpr ⟨B, _, envOk_dat sm r N, ?_, ?_, fun _ _ _ _ _ _ _ h => h.elim, fun _ _ _ _ _ _ _ h => h.elim⟩
    · intro σ2 δ2 B2 H2 F2 s2 W2 e
      have e : d = .none := e
      subst e
      exact q .non B2 H2 ⟨s2.bb, W2.bh, fun b o hb => s2.keep b o hb (fun _ z => nomatch z), fun b o hb => s2.fr b o hb (fun _ z => nomatch z)⟩ .non
    · intro v d' σ2 δ2 B2 H2 F2 s2 W2 e r2
      have e : d' = d := e
      subst e
      exact q v B2 H2 ⟨s2.bb, W2.bh, fun b o hb => s2.keep b o hb (fun _ z => nomatch z), fun b o hb => s2.fr b o hb (fun _ z => nomatch z)⟩ r2
end
end
end Dl

set_option Elab.async false
set_option linter.all false
set_option maxRecDepth 100000
set_option maxHeartbeats 4000000
/-! The data level: further statements. -/
namespace Dl
open PySem PySem.Spec PyProof.Rows L2
section
variable {X : Cx} {δ δ2 : List Slot} {a b c e tg iter : Expr} {pos p : Pos} {ds ys : List PyData} {es : List Expr} {d d1 d2 : PyData} {rest : List Stmt} {R : Post} {st : Stmt}
theorem tn_td {K : PySem.W.Frag} {σ : L2.St} {H : Hp} {Q : VK} (h : tD K δ (.list ds) σ H Q) : tN K δ ds σ H Q := by
  obtain ⟨B, F, W, q⟩ := h
  exact ⟨B, F, W, fun p xs B2 H2 g hp hb h2 r => q _ _ _ (grow_froz g hp hb h2) (.lst upd_same (r.mono (same_upd hb)))⟩
theorem xs_frz {i : Nat} (h : PS X st (tAsg (tN X.K δ ds) (gName i))) : PS X st (tAsg (tD X.K δ (.list ds)) (gName i)) := PS.weak h fun D σ H q => tn_td q
/-- y = [.. for ..], y a local -/
theorem xb_lc (i : Nat) {y : Str} {py : Pos} (h : XL X δ e ys) (k : XB X (δ.set i (.dat (.list ys))) rest R) (hN : X.N.Nodup) (hy : X.N[i]? = some y := by rfl) (hyl : X.env.scope.names.lookup y = some .local := by rfl)
    (hsw : swapsWith e (some (.Name y py)) pos.line X.env = pure true := by exact sw_true rfl rfl rfl (by kernel_rfl)) : XB X δ (.Assign [.Name y py] e pos :: rest) R := xb_set (xs_frz (h.set i hN hy hyl hsw)) k
theorem xb_lcA (i : Nat) {y : Str} {py : Pos} (h : XL X δ e ys) (k : XB X (δ.set i (.own (accR X.K ys))) rest R) (hN : X.N.Nodup) (hl : i < δ.length := by exact Nat.le_of_ble_eq_true rfl) (hy : X.N[i]? = some y := by rfl) (hyl : X.env.scope.names.lookup y = some .local := by rfl)
    (hsw : swapsWith e (some (.Name y py)) pos.line X.env = pure true := by exact sw_true rfl rfl rfl (by kernel_rfl)) : XB X δ (.Assign [.Name y py] e pos :: rest) R := xb_setA (h.set i hN hy hyl hsw) hl k
/-- walked as it lies -/
theorem xi_id (h : XI X tg δ iter ds) : XI X tg δ iter (ds.map id) := by rw [List.map_id]; exact h
/-! ### x op= e -/
theorem pip_of {op : Operator} {r : R2} (h : OpR X (inplaceOp op) r) : PIp X op r := fun pins s σ H x y v u Q I rx ry q => h pins s σ H x y v u Q I rx ry q
theorem xb_aug {op : Operator} {r : R2} (i : Nat) {x : Str} (ho : OpR X (inplaceOp op) r) (hd : δ[i]? = some (.dat d1)) (he : XE X δ e d2) (hr : RD X.K r d1 d2 d) (k : XB X (δ.set i (.dat d)) rest R) (hN : X.N.Nodup) (hi : X.N[i]? = some x := by rfl)
    (hx : Loc X.env.scope x := by first | exact Or.inl rfl | exact Or.inr rfl) (hf : X.fn x = true ∨ X.env.scope.names.lookup x = some .local := by first | exact .inl rfl | exact .inr rfl) : XB X δ (.AugAssign (.Name x p) op e pos :: rest) R := xb_cons (ps_aug hN hi hx he (pip_of ho) hf) k fun D σ H B F W o => by
  obtain ⟨v, h1, r1⟩ := W.dat hd
  exact ⟨v, h1, B, F, W, fun y B2 H2 g r2 => hr B2 H2 v y _ g.bh (r1.mono g.bb) r2 fun z B3 H3 g3 r3 =>
    ts_iff.mpr ⟨B3, _, ((W.grow g).grow g3).put (s := .dat d) ⟨rfl, r3⟩, o.step ((Step.of (g.trans g3)).sub cut_sub)⟩⟩
theorem xb_augAdd (i : Nat) {x : Str} {n m : Int} (hd : δ[i]? = some (.dat (.int n))) (he : XE X δ e (.int m)) (k : XB X (δ.set i (.dat (.int (n + m)))) rest R) (hN : X.N.Nodup) (hi : X.N[i]? = some x := by rfl)
    (hx : Loc X.env.scope x := by first | exact Or.inl rfl | exact Or.inr rfl) (hf : X.fn x = true ∨ X.env.scope.names.lookup x = some .local := by first | exact .inl rfl | exact .inr rfl) : XB X δ (.AugAssign (.Name x p) .Add e pos :: rest) R := xb_aug i iop_add hd he (rd_I0 fun _ => .int _) k hN hi hx hf
theorem xb_augOr (i : Nat) {x : Str} {n m : Int} (hd : δ[i]? = some (.dat (.int n))) (he : XE X δ e (.int m)) (k : XB X (δ.set i (.dat (.int (Builtin.bitOr n m)))) rest R) (hN : X.N.Nodup) (hi : X.N[i]? = some x := by rfl)
    (hx : Loc X.env.scope x := by first | exact Or.inl rfl | exact Or.inr rfl) (hf : X.fn x = true ∨ X.env.scope.names.lookup x = some .local := by first | exact .inl rfl | exact .inr rfl) : XB X δ (.AugAssign (.Name x p) .BitOr e pos :: rest) R := xb_aug i iop_or hd he (rd_I0 fun _ => .int _) k hN hi hx hf
/-! ### owned lists -/
theorem Wf.acc {K : PySem.W.Frag} {B H : Hp} {σ : L2.St} {F : Nat → List Addr} (W : Wf K B H σ δ F) {i : Nat} (h : δ[i]? = some (.own (accR K ds))) : ∃ l xs, σ[i]? = some (some (.ref l)) ∧ F i = [l] ∧ H l = some (.lst xs) ∧ RpA K B xs ds ∧ B l = none := by
  obtain ⟨o, h1, h2⟩ := W.sl i _ h
  cases o with
  | none => exact h2.elim
  | some v =>
    obtain ⟨l, xs, rfl, h3, h4, h5⟩ := h2
    exact ⟨l, xs, h1, h3, h4, h5, (W.own i l (by rw [h3]; exact List.mem_singleton.mpr rfl)).1⟩
/-- the list of a slot is written -/
theorem Wf.accUpd {K : PySem.W.Frag} {B H : Hp} {σ : L2.St} {F : Nat → List Addr} (W : Wf K B H σ δ F) {i : Nat} {l : Addr} {xs : List V} (h : δ[i]? = some (.own (accR K ds))) (hs : σ[i]? = some (some (.ref l))) (hF : F i = [l]) (r : RpA K B xs ys) :
    Wf K B (upd H l (.lst xs)) σ (δ.set i (.own (accR K ys))) F ∧ Step B H F B (upd H l (.lst xs)) F := by
  have hl : i < δ.length := (List.getElem?_eq_some_iff.mp h).1
  have hb : B l = none := (W.own i l (by rw [hF]; exact List.mem_singleton.mpr rfl)).1
  have hne : ∀ j, j ≠ i → l ∉ F j := fun j hj hm => hj (W.dis j i l hm (by rw [hF]; exact List.mem_singleton.mpr rfl))
  refine ⟨⟨fun b o e => ?_, by rw [List.length_set]; exact W.len, fun j s e => ?_, fun j hj => W.out j (by rw [List.length_set] at hj; exact hj), W.dis, fun j a ha => ?_⟩, ⟨Same.refl B, fun b o e hn => ?_, fun _ _ _ _ => rfl, fun b o e => ?_, fun j b hb => .inl ⟨j, hb⟩⟩⟩
  · have : b ≠ l := fun z => by rw [z, hb] at e; cases e
    rw [upd_ne this]
    exact W.bh b o e
  · by_cases hj : j = i
    · subst hj
      rw [List.getElem?_set_self hl] at e
      cases e
      exact ⟨_, hs, l, xs, rfl, hF, upd_same, r⟩
    · rw [List.getElem?_set_ne (Ne.symm hj)] at e
      obtain ⟨o, h1, h2⟩ := W.sl j s e
      exact ⟨o, h1, h2.loc (Same.refl B) fun a ha => upd_ne fun z => hne j hj (z ▸ ha)⟩
  · obtain ⟨h1, o, h2⟩ := W.own j a ha
    refine ⟨h1, ?_⟩
    by_cases z : a = l
    · rw [z, upd_same]; exact ⟨_, rfl⟩
    · rw [upd_ne z]; exact ⟨o, h2⟩
  · have : b ≠ l := fun z => hn i (by rw [hF, z]; exact List.mem_singleton.mpr rfl)
    rw [upd_ne this]
    exact e
  · by_cases z : b = l
    · rw [z, upd_same]; exact ⟨_, rfl⟩
    · rw [upd_ne z]; exact ⟨o, e⟩
theorem tvar_acc {K : PySem.W.Frag} : True := trivial
/-- xs.append(e), xs a slot's own list -/
theorem xb_app (i : Nat) {x : Str} {p1 p2 : Pos} (h : δ[i]? = some (.own (accR X.K ds))) (he : XE X δ e d) (hz : ds.length < 1000000) (k : XB X (δ.set i (.own (accR X.K (ds ++ [d])))) rest R) (hi : X.N[i]? = some x := by rfl)
    (hv : Vis X.env.scope x := by first | exact Or.inl rfl | exact Or.inr (Or.inl rfl) | exact Or.inr (Or.inr rfl)) (hd : (x == ("__debug__" : Str)) = false := by decide) (hcd : (x == ("__classdict__" : Str)) = false := by decide)
    (hbase : attributeBase (.Name x p1) "append" X.env (eval (.Name x p1) X.env) = eval (.Name x p1) X.env := by rfl)
    (hfew : ((backTo p (starEach [e] X.env)).all (fun x => !x.1) && (backToKw p (keywordEach [] X.env)).all (fun x => x.1.isSome) && decide ([e].length + ([] : List Keyword).length + (if ([] : List Keyword).isEmpty then 0 else 1) < 30)) = true := by rfl)
    (hline : (p2.endLine == p.line) = true := by rfl) (hs : starEach [e] X.env = (false, eval e X.env) :: starEach [] X.env := by rfl) (hplain : (backTo p (starEach [] X.env)).any (·.1) = false := by rfl)
    (hsw : swapsWith (.Call (.Attribute (.Name x p1) "append" p2) [e] [] p) none pos.line X.env = pure false := by rfl) :
    XB X δ (.Expr (.Call (.Attribute (.Name x p1) "append" p2) [e] [] p) pos :: rest) R :=
  xb_cons (ps_expr (pe_bm PySem.F.plainAttrs_list PySem.F.slot_list_append PySem.F.type_list_append mt_append (pe_var (i := i) hi hv hd hcd) (pa_cons he pa_nil hs) hbase hfew hline hs hplain) hsw) k fun D σ H B F W o => by
    obtain ⟨l, xs, h1, h2, h3, h4, h5⟩ := W.acc h
    refine ⟨.ref l, h1, .inl ⟨rfl, xs, SqL.of h3⟩, B, F, W, fun v B2 H2 g r => ?_⟩
    refine ⟨l, xs, v, rfl, rfl, g.hh _ _ h3, Nat.lt_of_lt_of_le (by rw [h4.length]; exact hz) (sz_of (Nat.le_refl _)), ?_⟩
    obtain ⟨W2, s2⟩ := (W.grow g).accUpd h h1 h2 ((h4.mono g.bb).append (.cons r .nil))
    exact ts_iff.mpr ⟨B2, F, W2, o.step ((Step.of g).trans s2)⟩
/-- the slot's own list is given up: it stays as it is -/
theorem Wf.frz {K : PySem.W.Frag} {B H : Hp} {σ : L2.St} {F : Nat → List Addr} (W : Wf K B H σ δ F) {i : Nat} (h : δ[i]? = some (.own (accR K ds))) : ∃ B2 F2, Wf K B2 H σ (δ.set i (.dat (.list ds))) F2 ∧ Step B H F B2 H F2 := by
  obtain ⟨l, xs, h1, h2, h3, h4, h5⟩ := W.acc h
  have hl : i < δ.length := (List.getElem?_eq_some_iff.mp h).1
  have hne : ∀ j, j ≠ i → l ∉ F j := fun j hj hm => hj (W.dis j i l hm (by rw [h2]; exact List.mem_singleton.mpr rfl))
  have sb : Same B (upd B l (.lst xs)) := same_upd h5
  have W1 : Wf K (upd B l (.lst xs)) H σ (δ.set i .no) (fun j => if j = i then [] else F j) := by
    refine ⟨fun b o e => ?_, by rw [List.length_set]; exact W.len, fun j s e => ?_, fun j hj => ?_, fun j k a ha hb => ?_, fun j a ha => ?_⟩
    · by_cases z : b = l
      · rw [z, upd_same] at e
        cases e
        rw [z]
        exact h3
      · rw [upd_ne z] at e
        exact W.bh b o e
    · by_cases hj : j = i
      · subst hj
        rw [List.getElem?_set_self hl] at e
        cases e
        exact ⟨_, h1, if_pos rfl⟩
      · rw [List.getElem?_set_ne (Ne.symm hj)] at e
        obtain ⟨o, a1, a2⟩ := W.sl j s e
        refine ⟨o, a1, ?_⟩
        rw [if_neg hj]
        exact a2.loc sb fun _ _ => rfl
    · by_cases hj : j = i
      · exact if_pos hj
      · rw [if_neg hj]
        rw [List.length_set] at *
        exact W.out j (by assumption)
    · by_cases hj : j = i
      · rw [if_pos hj] at ha
        cases ha
      · by_cases hk : k = i
        · rw [if_pos hk] at hb
          cases hb
        · rw [if_neg hj] at ha
          rw [if_neg hk] at hb
          exact W.dis j k a ha hb
    · by_cases hj : j = i
      · rw [if_pos hj] at ha
        cases ha
      · rw [if_neg hj] at ha
        obtain ⟨a1, a2⟩ := W.own j a ha
        refine ⟨?_, a2⟩
        rw [upd_ne (show a ≠ l from fun z => hne j hj (by rw [← z]; exact ha))]
        exact a1
  have W2 := W1.put (i := i) (v := .ref l) (s := .dat (.list ds)) ⟨rfl, .lst upd_same (h4.mono sb)⟩
  have e1 : σ.set i (some (.ref l)) = σ := by
    apply List.ext_getElem?
    intro k
    by_cases hk : k = i
    · subst hk
      rw [List.getElem?_set_self (by rw [← W.len]; exact hl), h1]
    · rw [List.getElem?_set_ne (Ne.symm hk)]
  rw [e1, List.set_set] at W2
  refine ⟨_, _, W2, ⟨sb, fun b o e _ => e, fun b o e n => ?_, fun b o e => ⟨o, e⟩, fun j b hb => ?_⟩⟩
  · exact upd_ne fun z => n i (by rw [h2, z]; exact List.mem_singleton.mpr rfl)
  · by_cases hj : j = i
    · rw [if_pos hj] at hb
      cases hb
    · rw [if_neg hj, if_neg hj] at hb
      exact .inl ⟨j, hb⟩
theorem xb_frz (i : Nat) {sts : List Stmt} (h : δ[i]? = some (.own (accR X.K ds))) (k : XB X (δ.set i (.dat (.list ds))) sts R) : XB X δ sts R := PSs.weak k fun D σ H q => by
  obtain ⟨B, F, W, o⟩ := ts_iff.mp q
  obtain ⟨B2, F2, W2, s2⟩ := W.frz h
  exact ts_iff.mpr ⟨B2, F2, W2, o.step s2⟩
/-- len(xs), xs a slot's own list -/
theorem xe_lenA (i : Nat) {x : Str} {p1 : Pos} (hm : X.mg "len" = none) (h : δ[i]? = some (.own (accR X.K ds))) (hi : X.N[i]? = some x := by rfl) (hv : Vis X.env.scope x := by first | exact Or.inl rfl | exact Or.inr (Or.inl rfl) | exact Or.inr (Or.inr rfl)) (hd : (x == ("__debug__" : Str)) = false := by decide) (hcd : (x == ("__classdict__" : Str)) = false := by decide)
    (hg : Gl X "len" := by rfl) (hs : starEach [.Name x p1] X.env = (false, eval (.Name x p1) X.env) :: starEach [] X.env := by rfl) : XE X δ (.Call (.Name "len" p) [.Name x p1] [] pos) (.int ds.length) :=
  (pe_callB call_len hg hm PySem.boot_len (pa_cons (pe_var (i := i) hi hv hd hcd) pa_nil hs) (by decide) (by decide) hs (by rfl)).weak fun σ H Q ⟨B, F, W, q⟩ => by
    obtain ⟨l, xs, h1, h2, h3, h4, h5⟩ := W.acc h
    exact ⟨.ref l, h1, .ref l, ds.length, rfl, .inl ⟨xs, SqL.of h3, h4.length.symm⟩, q _ B H (Grow.refl W.bh) (.int _)⟩
/-- xs[k], xs a slot's own list -/
theorem xe_ixA (i : Nat) {x : Str} {p1 : Pos} {k : Int} (h : δ[i]? = some (.own (accR X.K ds))) (hb : XE X δ b (.int k)) (ha : atI ds k = some d) (hi : X.N[i]? = some x := by rfl) (hv : Vis X.env.scope x := by first | exact Or.inl rfl | exact Or.inr (Or.inl rfl) | exact Or.inr (Or.inr rfl)) (hd : (x == ("__debug__" : Str)) = false := by decide) (hcd : (x == ("__classdict__" : Str)) = false := by decide)
    (hs : PlainIx b := by exact fun _ _ => rfl) : XE X δ (.Subscript (.Name x p1) b pos) d :=
  (pe_ix ix_list (pe_var (i := i) hi hv hd hcd) hb hs).weak fun σ H Q ⟨B, F, W, q⟩ => by
    obtain ⟨l, xs, h1, h2, h3, h4, h5⟩ := W.acc h
    obtain ⟨v, e1, e2⟩ := atI_rp h4 ha
    refine ⟨.ref l, h1, B, F, W, fun y B2 H2 g r => ?_⟩
    cases r
    exact ⟨l, xs, k, v, rfl, rfl, SqL.of (g.hh _ _ h3), e1, q v B2 H2 g (e2.mono g.bb)⟩
/-- xs[k] = e, xs a slot's own list -/
theorem xb_setIx (i : Nat) {x : Str} {p1 p2 : Pos} {k : Int} {j : Nat} (h : δ[i]? = some (.own (accR X.K ds))) (he : XE X δ e d) (hb : XE X δ b (.int k)) (hj : ixN ds.length k = some j) (kk : XB X (δ.set i (.own (accR X.K (ds.set j d)))) rest R) (hi : X.N[i]? = some x := by rfl)
    (hv : Vis X.env.scope x := by first | exact Or.inl rfl | exact Or.inr (Or.inl rfl) | exact Or.inr (Or.inr rfl)) (hd : (x == ("__debug__" : Str)) = false := by decide) (hcd : (x == ("__classdict__" : Str)) = false := by decide)
    (hga : ∀ v, assign (.Subscript (.Name x p1) b p2) X.env v = (do let ov ← holding [v] (eval (.Name x p1) X.env); let iv ← holding [v, ov] (eval b X.env); standAt p2; holding [v, ov, iv] (setItem ov iv v); release [v, ov, iv] []) := by intro _; rfl)
    (hs : swapsWithSole [.Subscript (.Name x p1) b p2] e pos.line X.env = pure false := by rfl) (hw : swappedStores [.Subscript (.Name x p1) b p2] e X.env = pure none := by rfl)
    (h1 : (assignEach [.Subscript (.Name x p1) b p2] X.env).map (·.2) = [assign (.Subscript (.Name x p1) b p2) X.env] := by rfl) : XB X δ (.Assign [.Subscript (.Name x p1) b p2] e pos :: rest) R :=
  xb_cons (ps_asg he (pg_sub (pe_var (i := i) hi hv hd hcd) hb set_list hga) hs hw h1) kk fun D σ H B F W o => ⟨B, F, W, fun v B2 H2 g r => by
    have W2 := W.grow g
    obtain ⟨l, xs, h1, h2, h3, h4, h5⟩ := W2.acc h
    refine ⟨.ref l, h1, B2, F, W2, fun y B3 H3 g3 r3 => ?_⟩
    cases r3
    refine ⟨l, xs, k, j, rfl, rfl, g3.hh _ _ h3, by rw [h4.length]; exact hj, ?_⟩
    obtain ⟨W4, s4⟩ := (W2.grow g3).accUpd h h1 h2 ((h4.mono g3.bb).set j (r.mono g3.bb))
    exact ts_iff.mpr ⟨B3, F, W4, o.step ((Step.of (g.trans g3)).trans s4)⟩⟩
end
end Dl

set_option Elab.async false
set_option linter.all false
set_option maxRecDepth 100000
set_option maxHeartbeats 4000000
/-! Plain facts about trees: slices, items, what == tells. -/
namespace Dl
open PySem PySem.Spec PyProof.Rows L2
theorem cutD_init {α : Type} (l : List α) : cutD l none (some (-1)) = l.dropLast := by
  unfold cutD
  have h1 : HT.sIx l.length 0 none = 0 := rfl
  have h2 : HT.sIx l.length l.length (some (-1)) = l.length - 1 := by
    show (if (-1 : Int) < 0 then (-1 + (l.length : Int)).toNat else min (-1 : Int).toNat l.length) = _
    rw [if_pos (by decide)]
    omega
  rw [h1, h2, List.drop_zero, List.dropLast_eq_take]
  rfl
theorem cutD_last {α : Type} (l : List α) (a : α) : cutD (l ++ [a]) (some (-1)) none = [a] := by
  unfold cutD
  have h1 : HT.sIx (l ++ [a]).length 0 (some (-1)) = l.length := by
    show (if (-1 : Int) < 0 then (-1 + ((l ++ [a]).length : Int)).toNat else min (-1 : Int).toNat (l ++ [a]).length) = _
    rw [if_pos (by decide), List.length_append, List.length_singleton]
    omega
  have h2 : HT.sIx (l ++ [a]).length (l ++ [a]).length none = (l ++ [a]).length := rfl
  rw [h1, h2, List.drop_left, List.length_append, List.length_singleton, Nat.add_sub_cancel_left]
  rfl
theorem cutD_to {α : Type} (l : List α) (n : Nat) : cutD l none (some (n : Int)) = l.take n := by
  unfold cutD
  rw [HT.sIx_nat]
  have h1 : HT.sIx l.length 0 none = 0 := rfl
  rw [h1, List.drop_zero, Nat.sub_zero]
  by_cases h : n ≤ l.length
  · rw [Nat.min_eq_left h]
  · rw [Nat.min_eq_right (by omega), List.take_length, List.take_of_length_le (by omega)]
theorem cutD_from {α : Type} (l : List α) (n : Nat) : cutD l (some (n : Int)) none = l.drop n := by
  unfold cutD
  rw [HT.sIx_nat]
  have h1 : HT.sIx l.length l.length none = l.length := rfl
  rw [h1]
  by_cases h : n ≤ l.length
  · rw [Nat.min_eq_left h, List.take_of_length_le (by rw [List.length_drop]; exact Nat.le_refl _)]
  · rw [Nat.min_eq_right (by omega), List.drop_length, List.take_nil, List.drop_of_length_le (by omega)]
theorem cutD_map {α β : Type} (f : α → β) (l : List α) (lo hi : Option Int) : cutD (l.map f) lo hi = (cutD l lo hi).map f := by
  unfold cutD
  rw [List.map_take, List.map_drop, List.length_map]
theorem atI_map {α β : Type} (f : α → β) (l : List α) (i : Int) : atI (l.map f) i = (atI l i).map f := by
  unfold atI
  rw [List.length_map]
  cases ixN l.length i with
  | none => rfl
  | some j =>
    simp only [Option.bind_some]
    rw [List.getElem?_map]
mutual
/-- the trees that == is told of -/
def okD : PyData → Bool
  | .none | .bool _ | .int _ => true
  | .str x => PyData.canLay0 (.str x)
  | .list xs | .tuple xs => okA xs
  | .dict _ => false
def okA : List PyData → Bool
  | [] => true
  | x :: xs => okD x && okA xs
end
theorem lay_map {α : Type} (f : α → PyData) (h : ∀ a, PyData.canLay0 (f a) = true) : ∀ l : List α, PyData.canLayAll0 (l.map f) = true
  | [] => by simp [PyData.canLayAll0]
  | a :: r => by
    rw [List.map_cons]
    simp only [PyData.canLayAll0]
    rw [h a, lay_map f h r]
    rfl
theorem depth_map {α : Type} (f : α → PyData) (n : Nat) (h : ∀ a, PyData.depth (f a) ≤ n) : ∀ l : List α, PyData.depthAll (l.map f) ≤ n
  | [] => by simp [PyData.depthAll]
  | a :: r => by
    rw [List.map_cons]
    simp only [PyData.depthAll]
    have h1 := h a
    have h2 := depth_map f n h r
    omega
theorem shaped_bools (l : List Bool) : SeqAt.shaped (.list (l.map .bool)) = true := by
  unfold SeqAt.shaped
  have h1 : PyData.canLay0 (.list (l.map .bool)) = true := by
    simp only [PyData.canLay0]
    exact lay_map _ (fun _ => by simp [PyData.canLay0]) l
  have h2 := depth_map PyData.bool 0 (fun _ => by simp [PyData.depth]) l
  have h3 : PyData.depth (.list (l.map .bool)) = PyData.depthAll (l.map .bool) + 1 := by simp only [PyData.depth]
  rw [h1, h3, Bool.true_and, decide_eq_true_eq]
  omega
theorem shaped_boolsT (l : List Bool) : SeqAt.shaped (.tuple (l.map .bool)) = true := by
  unfold SeqAt.shaped
  have h1 : PyData.canLay0 (.tuple (l.map .bool)) = true := by
    simp only [PyData.canLay0]
    exact lay_map _ (fun _ => by simp [PyData.canLay0]) l
  have h2 := depth_map PyData.bool 0 (fun _ => by simp [PyData.depth]) l
  have h3 : PyData.depth (.tuple (l.map .bool)) = PyData.depthAll (l.map .bool) + 1 := by simp only [PyData.depth]
  rw [h1, h3, Bool.true_and, decide_eq_true_eq]
  omega
theorem eqv_bools : ∀ l m : List Bool, PyData.eqvAll (l.map .bool) (m.map .bool) = decide (l = m)
  | [], [] => by simp [PyData.eqvAll]
  | [], _ :: _ => by simp [PyData.eqvAll]
  | _ :: _, [] => by simp [PyData.eqvAll]
  | a :: l, b :: m => by
    rw [List.map_cons, List.map_cons]
    simp only [PyData.eqvAll, PyData.eqv]
    rw [eqv_bools l m]
    by_cases h : a = b <;> simp [h]
end Dl
namespace Dl
open PySem
theorem eqv_lb (l m : List Bool) : PyData.eqv (.list (l.map .bool)) (.list (m.map .bool)) = decide (l = m) := by simp only [PyData.eqv]; exact eqv_bools l m
theorem eqv_tb (l m : List Bool) : PyData.eqv (.tuple (l.map .bool)) (.tuple (m.map .bool)) = decide (l = m) := by simp only [PyData.eqv]; exact eqv_bools l m
theorem shaped_nil : SeqAt.shaped (.list []) = true := shaped_bools []
end Dl
namespace Dl
open PySem PySem.Spec PyProof.Rows L2
theorem intNe0 (k : Nat) : (((k : Nat) : Int) != 0) = !(k == 0) := by
  rw [bne]
  congr 1
  rw [Bool.eq_iff_iff]
  simp only [beq_iff_eq]
  omega
theorem xi_seq {X : Cx} {tg iter : Expr} {δ : List Slot} {d : PyData} {ds : List PyData} (h : XE X δ iter d) (hs : SeqD d ds) : XI X tg δ iter ds := by
  cases hs with
  | lst => exact xi_list h
  | tup => exact xi_tup h
end Dl
namespace Dl
open PySem PySem.Spec PyProof.Rows L2
theorem SeqD.ix {d e : PyData} {ds : List PyData} {i : Int} (h : SeqD d ds) (hi : atI ds i = some e) : IxD d i e := by
  cases h with
  | lst => exact .lst hi
  | tup => exact .tup hi
theorem SeqD.len {d : PyData} {ds : List PyData} (h : SeqD d ds) : LenD d ds.length := by
  cases h with
  | lst => exact .lst _
  | tup => exact .tup _
theorem SeqD.row {d : PyData} {ds : List PyData} (h : SeqD d ds) : isRowD d = true := by cases h <;> rfl
theorem SeqD.tru {d : PyData} {ds : List PyData} (h : SeqD d ds) : truD d = !ds.isEmpty := by cases h <;> rfl
theorem SeqD.truOk {d : PyData} {ds : List PyData} (h : SeqD d ds) : TruOk d := by cases h <;> trivial
theorem atI_bools (l : List Bool) {n : Nat} (h : n < l.length) : atI (l.map PyData.bool) (n : Int) = some (.bool (l.getD n false)) := by
  rw [atI_map, atI_nat (List.getElem?_eq_getElem h), List.getD_eq_getElem?_getD, List.getElem?_eq_getElem h]
  rfl
abbrev encPr (p : Bool × Bool) : PyData := .tuple [.bool p.1, .bool p.2]
theorem shaped_pair (p : Bool × Bool) : SeqAt.shaped (encPr p) = true := shaped_boolsT [p.1, p.2]
theorem shaped_pairs (l : List (Bool × Bool)) : SeqAt.shaped (.list (l.map encPr)) = true := by
  unfold SeqAt.shaped
  have h1 : PyData.canLay0 (.list (l.map encPr)) = true := by
    simp only [PyData.canLay0]
    exact lay_map _ (fun _ => by simp [PyData.canLay0, PyData.canLayAll0]) l
  have h2 := depth_map encPr 1 (fun _ => by simp [PyData.depth, PyData.depthAll]) l
  have h3 : PyData.depth (.list (l.map encPr)) = PyData.depthAll (l.map encPr) + 1 := by simp only [PyData.depth]
  rw [h1, h3, Bool.true_and, decide_eq_true_eq]
  omega
theorem any_pairs (l : List (Bool × Bool)) (p : Bool × Bool) : ((l.map encPr).any fun z => PyData.eqv z (encPr p)) = l.any fun z => z == p := by
  rw [List.any_map]
  congr 1
  funext z
  show PyData.eqv (encPr z) (encPr p) = (z == p)
  have := eqv_tb [z.1, z.2] [p.1, p.2]
  refine Eq.trans this ?_
  rw [Bool.eq_iff_iff]
  simp [Prod.ext_iff]
end Dl
namespace Dl
open PySem L2
theorem atI_hd {α : Type} (a : α) (l : List α) : atI (a :: l) 0 = some a := atI_nat (j := 0) rfl
end Dl

set_option Elab.async false
set_option linter.all false
set_option maxRecDepth 100000
set_option maxHeartbeats 4000000
/-! tuple * int, any small factor. -/
namespace Dl
open PySem PySem.Spec PyProof.Rows L2
/-- t * 1 is t itself -/
theorem tuple_mul1 (l : Addr) (items : Array Value) (n : Nat) (dd : Option Addr) (sl : Array (Option Value)) (u : Tok) (hc : items.isEmpty = false) :
    Meets (Builtin.«tuple.__mul__» ⟨[.ref l, .int 1 u], []⟩) (fun _ R s => s.heap.get? l = some { cls := .type "tuple", dict := dd, data := .seq items n, slots := sl } ∧ R (.ok (.ret (Value.ref l))) s) :=
  .of_wp fun prog w A R s h => by
    obtain ⟨hp, g, d, tk, os⟩ := s
    obtain ⟨hl, h⟩ := h
    have f1 := AutoSeq1.idx_int
    wp_walk using wpAny_loadPart' hl
    exact ⟨_, rfl, h⟩
theorem tuple_mul0 (l : Addr) (items : Array Value) (n : Nat) (dd : Option Addr) (sl : Array (Option Value)) (u : Tok) (hc : items.isEmpty = false) :
    Meets (Builtin.«tuple.__mul__» ⟨[.ref l, .int 0 u], []⟩) (fun _ R s => s.heap.get? l = some { cls := .type "tuple", dict := dd, data := .seq items n, slots := sl } ∧
      R (.ok (.ret (Value.ref s.heap.objs.size))) { s with heap := s.heap.push { cls := Value.type "tuple", data := Data.seq #[] }, toks := s.toks }) :=
  .of_wp fun prog w A R s h => by
    obtain ⟨hp, g, d, tk, os⟩ := s
    obtain ⟨hl, h⟩ := h
    have f1 := AutoSeq1.idx_int
    wp_walk using wpAny_loadPart' hl
    exact ⟨_, rfl, h⟩
def rRep1 (K : PySem.W.Frag) : R2 := fun x y H Q => ∃ l xs, x = .ref l ∧ y = .int 1 ∧ SqT K H l xs ∧ xs ≠ [] ∧ Q (.ref l) H
def rRep0 (K : PySem.W.Frag) : R2 := fun x y H Q => ∃ l xs, x = .ref l ∧ y = .int 0 ∧ SqT K H l xs ∧ xs ≠ [] ∧ ∀ p, H p = none → Q (.ref p) (upd H p (.tup []))
section
variable {X : Cx}
theorem its_ne {xs : List V} {its : List Value} (r : Vals xs its) (h : xs ≠ []) : its.toArray.isEmpty = false := by
  cases r with
  | nil => exact absurd rfl h
  | cons _ _ => rfl
theorem op_rep1 : OpR X (binaryOp .Mult) (rRep1 X.K) := by
  intro pins s σ H x y v u Q I rx ry h
  obtain ⟨l, xs, rfl, rfl, hT, hne, q⟩ := h
  cases rx
  obtain ⟨t, rfl⟩ := ry
  obtain ⟨its, r, ⟨⟨cls, dd, data, sl⟩, ho, hc, n, hd⟩, hs⟩ := I.tuple hT
  simp only at hc hd
  subst hc hd
  refine wpAny_binaryOp_repeat_ref (T := "tuple") (U := "int") (by decide) ⟨_, ho, rfl⟩ (fun s' => typeIs_int s' 1 t) noFill_tuple_mul F.fills_int_mul F.slot_int_rmul repeat_tuple F.slot_int_index.lookup
    (call_meets F.slot_int_rmul (typeIs_int s 1 t) F.entry_int_rmul (F.args_int_rmul_2 _ _) (int_rmul_tuple 1 t l its.toArray n dd sl)
      ⟨ho, rfl, ⟨_, ho, rfl⟩, call_meets F.slot_tuple_mul ⟨_, ho, rfl⟩ F.entry_tuple_mul (F.args_tuple_mul_2 _ _) (tuple_mul1 l its.toArray n dd sl t (its_ne r hne)) ⟨ho, ?_⟩⟩)
  exact ⟨.ref l, H, I, rfl, q⟩
theorem op_rep0 : OpR X (binaryOp .Mult) (rRep0 X.K) := by
  intro pins s σ H x y v u Q I rx ry h
  obtain ⟨l, xs, rfl, rfl, hT, hne, q⟩ := h
  cases rx
  obtain ⟨t, rfl⟩ := ry
  obtain ⟨its, r, ⟨⟨cls, dd, data, sl⟩, ho, hc, n, hd⟩, hs⟩ := I.tuple hT
  simp only at hc hd
  subst hc hd
  refine wpAny_binaryOp_repeat_ref (T := "tuple") (U := "int") (by decide) ⟨_, ho, rfl⟩ (fun s' => typeIs_int s' 0 t) noFill_tuple_mul F.fills_int_mul F.slot_int_rmul repeat_tuple F.slot_int_index.lookup
    (call_meets F.slot_int_rmul (typeIs_int s 0 t) F.entry_int_rmul (F.args_int_rmul_2 _ _) (int_rmul_tuple 0 t l its.toArray n dd sl)
      ⟨ho, rfl, ⟨_, ho, rfl⟩, call_meets F.slot_tuple_mul ⟨_, ho, rfl⟩ F.entry_tuple_mul (F.args_tuple_mul_2 _ _) (tuple_mul0 l its.toArray n dd sl t (its_ne r hne)) ⟨ho, ?_⟩⟩)
  refine ⟨.ref s.heap.objs.size, _, I.laid (t' := s.toks) (o := .tup []) (fun b ob q => Heap.get?_push_of_some _ q) (Nat.le_refl _) ?_, rfl, q _ (I.hok.fresh (Nat.le_refl _))⟩
  exact ⟨Nat.zero_le _, [], .nil, IsTup.new _ _⟩
/-- t * k, a tuple that is not empty, 0 ≤ k ≤ 1000 -/
theorem xe_repT {δ : List Slot} {a b : Expr} {pos : Pos} {xs : List PyData} {k : Nat} (ha : XE X δ a (.tuple xs)) (hb : XE X δ b (.int (k : Nat))) (hk : k ≤ 1000) (hn : xs ≠ []) (hz : xs.length ≤ 1000) : XE X δ (.BinOp a .Mult b pos) (.tuple (List.replicate k xs).flatten) := by
  by_cases k0 : k = 0
  · subst k0
    refine xe_op op_rep0 ha hb fun B H x y Q s rx ry q => ?_
    cases ry
    cases rx with
    | @tup a us _ h1 r1 => exact ⟨a, us, rfl, rfl, same_t s h1, fun e => hn (by subst e; cases r1; rfl), fun p hp => q _ _ _ (Grow.new (o := .tup []) s hp) (.tup (.inl (.inl upd_same)) .nil)⟩
  by_cases k1 : k = 1
  · subst k1
    refine xe_op op_rep1 ha hb fun B H x y Q s rx ry q => ?_
    cases ry
    cases rx with
    | @tup a us _ h1 r1 =>
      refine ⟨a, us, rfl, rfl, same_t s h1, fun e => hn (by subst e; cases r1; rfl), q _ B H (Grow.refl s) ?_⟩
      have e : (List.replicate 1 xs).flatten = xs := by simp
      rw [e]
      exact .tup h1 r1
  have e : (List.replicate k xs).flatten = (List.replicate ((k : Nat) : Int).toNat xs).flatten := by rw [Int.toNat_natCast]
  rw [e]
  exact xe_op op_repT ha hb (rd_repT (by omega) (by omega) hn hz)
end
end Dl

set_option Elab.async false
set_option linter.all false
set_option maxRecDepth 100000
set_option maxHeartbeats 4000000
/-! The data level: expressions that change the slots' objects; the spring of draws. -/
namespace Dl
open PySem PySem.Spec PyProof.Rows L2
section
variable {X : Cx} {δ δ2 : List Slot} {a b c e tg iter elt : Expr} {pos p0 : Pos} {ds ys : List PyData} {es rest' : List Expr} {d d1 d2 : PyData} {rest : List Stmt} {R : Post} {st : Stmt}
/-- arguments that change the slots' objects -/
def tAE (K : PySem.W.Frag) (δ : List Slot) (P : List PyData → List Slot → Prop) : TA := fun σ H Q => ∃ B F, Wf K B H σ δ F ∧ ∀ vs ds δ2 B2 H2 F2, Step B H F B2 H2 F2 → Wf K B2 H2 σ δ2 F2 → P ds δ2 → RpA K B2 vs ds → Q vs H2
abbrev XFA (X : Cx) (δ : List Slot) (es : List Expr) (P : List PyData → List Slot → Prop) : Prop := PA X es (tAE X.K δ P)
def tTE (K : PySem.W.Frag) (δ : List Slot) (P : Bool → List Slot → Prop) : TT := fun σ H Q => ∃ B F, Wf K B H σ δ F ∧ ∀ b δ2 B2 H2 F2, Step B H F B2 H2 F2 → Wf K B2 H2 σ δ2 F2 → P b δ2 → Q b H2
abbrev XFT (X : Cx) (δ : List Slot) (e : Expr) (P : Bool → List Slot → Prop) : Prop := PT X e (tTE X.K δ P)
variable {P P' : PyData → List Slot → Prop}
theorem xf_of (h : XE X δ e d) : XF X δ e (fun d' δ' => d' = d ∧ δ' = δ) := PE.weak h fun σ H Q ⟨B, F, W, q⟩ => ⟨B, F, W, fun v B2 H2 g r => q v d δ B2 H2 F (Step.of g) (W.grow g) ⟨rfl, rfl⟩ r⟩
theorem xf_imp (h : XF X δ e P) (w : ∀ d δ', P d δ' → P' d δ') : XF X δ e P' := PE.weak h fun σ H Q ⟨B, F, W, q⟩ => ⟨B, F, W, fun v d δ2 B2 H2 F2 s W2 hp r => q v d δ2 B2 H2 F2 s W2 (w _ _ hp) r⟩
theorem xf_op {op : Operator} {r : R2} {P1 : PyData → List Slot → Prop} (ho : OpR X (binaryOp op) r) (ha : XF X δ a P1) (hb : ∀ d1 δ1, P1 d1 δ1 → XF X δ1 b (fun d2 δ2 => ∃ d, RD X.K r d1 d2 d ∧ P d δ2)) : XF X δ (.BinOp a op b pos) P :=
  (pe_op ho ha (pe_ex fun z : {z : PyData × List Slot // P1 z.1 z.2} => hb z.1.1 z.1.2 z.2)).weak fun σ H Q ⟨B, F, W, q⟩ => ⟨B, F, W, fun x d1 δ1 B1 H1 F1 s1 W1 h1 r1 =>
    ⟨⟨(d1, δ1), h1⟩, B1, F1, W1, fun y d2 δ2 B2 H2 F2 s2 W2 ⟨d, hr, hp⟩ r2 => hr B2 H2 x y Q W2.bh (r1.mono s2.bb) r2 fun v B3 H3 g3 r3 => q v d δ2 B3 H3 F2 ((s1.trans s2).trans (Step.of g3)) (W2.grow g3) hp r3⟩⟩
theorem xf_cmp {op : CmpOp} {P1 : PyData → List Slot → Prop} (hu : X.A.units + 65 < cLine) (ha : XF X δ a P1) (hb : ∀ d1 δ1, P1 d1 δ1 → XF X δ1 b (fun d2 δ2 => ∃ k, CmpD op d1 d2 k ∧ P (.bool k) δ2)) (hm : behindInMarks op b = false := by first | exact nomark _ | rfl) : XF X δ (.Compare a [op] [b] pos) P :=
  (pe_cmpR (or_cmp hu op) ha (pe_ex fun z : {z : PyData × List Slot // P1 z.1 z.2} => hb z.1.1 z.1.2 z.2) hm).weak fun σ H Q ⟨B, F, W, q⟩ => ⟨B, F, W, fun x d1 δ1 B1 H1 F1 s1 W1 h1 r1 =>
    ⟨⟨(d1, δ1), h1⟩, B1, F1, W1, fun y d2 δ2 B2 H2 F2 s2 W2 ⟨k, hc, hp⟩ r2 => ⟨B2, d1, d2, k, W2.bh, r1.mono s2.bb, r2, hc, q _ _ δ2 B2 H2 F2 (s1.trans s2) W2 hp (.bl k)⟩⟩⟩
theorem xft_cmp {op : CmpOp} {P1 : PyData → List Slot → Prop} {PB : Bool → List Slot → Prop} (hu : X.A.units + 65 < cLine) (ha : XF X δ a P1) (hb : ∀ d1 δ1, P1 d1 δ1 → XF X δ1 b (fun d2 δ2 => ∃ k, CmpD op d1 d2 k ∧ PB k δ2)) (hm : behindInMarks op b = false := by first | exact nomark _ | rfl) : XFT X δ (.Compare a [op] [b] pos) PB :=
  (pt_cmpR (or_cmp hu op) ha (pe_ex fun z : {z : PyData × List Slot // P1 z.1 z.2} => hb z.1.1 z.1.2 z.2) hm).weak fun σ H Q ⟨B, F, W, q⟩ => ⟨B, F, W, fun x d1 δ1 B1 H1 F1 s1 W1 h1 r1 =>
    ⟨⟨(d1, δ1), h1⟩, B1, F1, W1, fun y d2 δ2 B2 H2 F2 s2 W2 ⟨k, hc, hp⟩ r2 => ⟨B2, d1, d2, k, W2.bh, r1.mono s2.bb, r2, hc, k, rfl, q k δ2 B2 H2 F2 (s1.trans s2) W2 hp⟩⟩⟩
theorem xft_tru {P1 : PyData → List Slot → Prop} {PB : Bool → List Slot → Prop} (ha : XF X δ a P1) (h : ∀ d δ1, P1 d δ1 → TruOk d ∧ PB (truD d) δ1) (he : ∀ whole, isTrue a X.env whole = (do let v ← whole; standAt a.pos; holding [v] (truthy v)) := by intro _; rfl) : XFT X δ a PB :=
  (pt_truth ha he).weak fun σ H Q ⟨B, F, W, q⟩ => ⟨B, F, W, fun x d1 δ1 B1 H1 F1 s1 W1 h1 r1 => ⟨_, tru_of W1.bh r1 (h d1 δ1 h1).1, q _ δ1 B1 H1 F1 s1 W1 (h d1 δ1 h1).2⟩⟩
theorem xfa_of (h : XA X δ es ds) : XFA X δ es (fun ds' δ' => ds' = ds ∧ δ' = δ) := PA.weak h fun σ H Q ⟨B, F, W, q⟩ => ⟨B, F, W, fun vs B2 H2 g r => q vs ds δ B2 H2 F (Step.of g) (W.grow g) ⟨rfl, rfl⟩ r⟩
theorem xfa_nil : XFA X δ [] (fun ds' δ' => ds' = [] ∧ δ' = δ) := xfa_of xa_nil
theorem xfa_cons {P1 : PyData → List Slot → Prop} {PA' : List PyData → List Slot → Prop} (ha : XF X δ e P1) (hr : ∀ d1 δ1, P1 d1 δ1 → XFA X δ1 es (fun ds δ2 => PA' (d1 :: ds) δ2)) (hs : starEach (e :: es) X.env = (false, eval e X.env) :: starEach es X.env := by rfl) : XFA X δ (e :: es) PA' :=
  (pa_cons ha (pa_ex fun z : {z : PyData × List Slot // P1 z.1 z.2} => hr z.1.1 z.1.2 z.2) hs).weak fun σ H Q ⟨B, F, W, q⟩ => ⟨B, F, W, fun x d1 δ1 B1 H1 F1 s1 W1 h1 r1 =>
    ⟨⟨(d1, δ1), h1⟩, B1, F1, W1, fun vs ds δ2 B2 H2 F2 s2 W2 hp r2 => q (x :: vs) (d1 :: ds) δ2 B2 H2 F2 (s1.trans s2) W2 hp (.cons (r1.mono s2.bb) r2)⟩⟩
theorem xf_tup {x1} {PA' : List PyData → List Slot → Prop} (h : XFA X δ es PA') (hp : ∀ ds δ1, PA' ds δ1 → ds.length ≤ 1000000 ∧ P (.tuple ds) δ1) : XF X δ (.Tuple es x1 pos) P := (pe_tup h).weak fun σ H Q ⟨B, F, W, q⟩ => ⟨B, F, W, fun vs ds δ2 B2 H2 F2 s2 W2 h2 r2 => ⟨by
    refine sz_of ?_
    rw [r2.length]
    exact (hp ds δ2 h2).1, fun l hl => by
    have g := Grow.new (o := .tup vs) W2.bh hl
    exact q _ _ δ2 _ _ F2 (s2.trans (Step.of g)) (W2.grow g) (hp ds δ2 h2).2 (.tup (.inl (.inl upd_same)) (r2.mono g.bb))⟩⟩
theorem xf_lst {PA' : List PyData → List Slot → Prop} (h : XFA X δ es PA') (hp : ∀ ds δ1, PA' ds δ1 → ds.length ≤ 1000000 ∧ P (.list ds) δ1) : XF X δ (.List es pos) P := (pe_lst h).weak fun σ H Q ⟨B, F, W, q⟩ => ⟨B, F, W, fun vs ds δ2 B2 H2 F2 s2 W2 h2 r2 => ⟨by
    refine sz_of ?_
    rw [r2.length]
    exact (hp ds δ2 h2).1, fun l hl => by
    have g := Grow.new (o := .lst vs) W2.bh hl
    exact q _ _ δ2 _ _ F2 (s2.trans (Step.of g)) (W2.grow g) (hp ds δ2 h2).2 (.lst upd_same (r2.mono g.bb))⟩⟩
/-- a def that is a function of data, its arguments changing the slots' objects -/
theorem xf_callP {k : Nat} {x : Str} {ps : List Str} {f : List PyData → PyData → Prop} {PA' : List PyData → List Slot → Prop} (G : Def X.prog X.w X.K X.mg X.base k x ps (SpP X.K f)) (hr : Room k X.A) (ha : XFA X δ (e :: es) PA') (hf : ∀ ds δ1, PA' ds δ1 → ∃ d, f ds d ∧ P d δ1) (hg : Gl X x := by rfl) (hdb : (x == ("__debug__" : Str)) = false := by decide)
    (he : starEach (e :: es) X.env = (false, eval e X.env) :: starEach es X.env := by rfl) (hpl : (backTo pos (starEach es X.env)).any (·.1) = false := by rfl) : XF X δ (.Call (.Name x p0) (e :: es) [] pos) P := by
  obtain ⟨fa, fd, h1, h2, h3, h4⟩ := G.ex
  exact (pe_call h4 hr hg h1 h2 h3 .nil pass0 ha hdb he hpl).weak fun σ H Q ⟨B, F, W, q⟩ => ⟨B, F, W, fun vs ds δ2 B2 H2 F2 s2 W2 hp r2 => by
    obtain ⟨d, hfd, hpd⟩ := hf ds δ2 hp
    show SpP X.K f (vs ++ []) H2 Q E0
    rw [List.append_nil]
    exact ⟨B2, ds, d, W2.bh, r2, hfd, fun v B3 H3 g3 r3 => q v d δ2 B3 H3 F2 (s2.trans (Step.of g3)) (W2.grow g3) hpd r3⟩⟩
/-! ### statements -/
theorem xb_setF {i : Nat} (h : PS X st (tAsg (tE X.K δ P) (gName i))) (k : ∀ d δ1, P d δ1 → XB X (δ1.set i (.dat d)) rest R) : XB X δ (st :: rest) R :=
  xb_cons h (pss_ex fun z : {z : PyData × List Slot // P z.1 z.2} => k z.1.1 z.1.2 z.2) fun D σ H B F W o =>
    ⟨B, F, W, fun v d δ1 B2 H2 F2 s W2 hp r => ⟨⟨(d, δ1), hp⟩, ts_iff.mpr ⟨B2, _, W2.put (s := .dat d) ⟨rfl, r⟩, o.step (s.sub cut_sub)⟩⟩⟩
theorem xb_asgF (i : Nat) {x : Str} (he : XF X δ e P) (k : ∀ d δ1, P d δ1 → XB X (δ1.set i (.dat d)) rest R) (hN : X.N.Nodup) (hi : X.N[i]? = some x := by rfl) (hx : Loc X.env.scope x := by first | exact Or.inl rfl | exact Or.inr rfl) (hs : swapsWith e (some (.Name x p0)) pos.line X.env = pure false := by rfl)
    (hf : X.fn x = true ∨ X.env.scope.names.lookup x = some .local := by first | exact .inl rfl | exact .inr rfl | assumption) : XB X δ (.Assign [.Name x p0] e pos :: rest) R := xb_setF (ps_set hN hi hx he hs hf) k
theorem xb_retF (he : XF X δ e P) (h : ∀ d δ1, P d δ1 → R.rt d δ1) : XB X δ (.Return (some e) pos :: rest) R := xb_cons (ps_ret he) pss_never fun D σ H B F W o =>
  ⟨B, F, W, fun v d δ1 B2 H2 F2 s W2 hp r => o.rt v d σ δ1 B2 H2 F2 s W2 (h d δ1 hp) r⟩
theorem xb_parF {PA' : List PyData → List Slot → Prop} {i j : Nat} {x y : Str} {px py pt : Pos} {kt k2 pt2} (ha : XFA X δ [a, b] PA') (k : ∀ ds δ1, PA' ds δ1 → ∃ d1 d2, ds = [d1, d2] ∧ XB X ((δ1.set i (.dat d1)).set j (.dat d2)) rest R) (hN : X.N.Nodup) (hi : X.N[i]? = some x := by rfl) (hj : X.N[j]? = some y := by rfl) (hij : i ≠ j := by decide)
    (hx : X.env.scope.names.lookup x = some .local := by rfl) (hy : X.env.scope.names.lookup y = some .local := by rfl) (hc : X.calm = true := by rfl)
    (hw : swappedStores [.Tuple [.Name x px, .Name y py] kt pt] (.Tuple [a, b] k2 pt2) X.env = pure (some [x, y]) := by rfl)
    (hs : swapsWithSole [.Tuple [.Name x px, .Name y py] kt pt] (.Tuple [a, b] k2 pt2) pos.line X.env = pure false := by rfl) :
    XB X δ (.Assign [.Tuple [.Name x px, .Name y py] kt pt] (.Tuple [a, b] k2 pt2) pos :: rest) R :=
  xb_cons (ps_par hc hN hi hj hij hx hy ha hw hs) (pss_ex fun z : {z : List PyData × List Slot × PyData × PyData // z.1 = [z.2.2.1, z.2.2.2] ∧ XB X ((z.2.1.set i (.dat z.2.2.1)).set j (.dat z.2.2.2)) rest R} => z.2.2) fun D σ H B F W o =>
  ⟨B, F, W, fun vs ds δ1 B2 H2 F2 s W2 hp r => by
    obtain ⟨d1, d2, rfl, hk⟩ := k ds δ1 hp
    cases r with
    | @cons v us _ _ r1 r2 =>
      cases r2 with
      | @cons w us _ _ r2 r3 =>
        cases r3
        exact ⟨v, w, rfl, ⟨([d1, d2], δ1, d1, d2), rfl, hk⟩, ts_iff.mpr ⟨B2, _, (W2.put (s := .dat d1) ⟨rfl, r1⟩).put (s := .dat d2) ⟨rfl, r2⟩, o.step ((s.sub cut_sub).sub cut_sub)⟩⟩⟩
theorem xb_unpF {is : List Nat} (he : XF X δ e P) (Δ : PyData → List Slot → List Slot) (hg : ∀ d δ1, P d δ1 → XG X tg is d δ1 (Δ d δ1)) (k : ∀ d δ1, P d δ1 → XB X (Δ d δ1) rest R) (hs : swapsWithSole [tg] e pos.line X.env = pure false := by rfl) (hw : swappedStores [tg] e X.env = pure none := by rfl)
    (h1 : (assignEach [tg] X.env).map (·.2) = [assign tg X.env] := by rfl) : XB X δ (.Assign [tg] e pos :: rest) R :=
  xb_cons (ps_asg he (pg_ex fun z : {z : PyData × List Slot // P z.1 z.2} => hg z.1.1 z.1.2 z.2) hs hw h1) (pss_ex fun z : {z : PyData × List Slot // P z.1 z.2} => k z.1.1 z.1.2 z.2) fun D σ H B F W o =>
  ⟨B, F, W, fun v d δ1 B2 H2 F2 s W2 hp r => ⟨⟨(d, δ1), hp⟩, B2, F2, W2, r, fun σ3 F3 W3 sb _ _ => ⟨⟨(d, δ1), hp⟩, ts_iff.mpr ⟨B2, F3, W3, o.step (s.sub sb)⟩⟩⟩⟩
theorem xb_ifF {sts sts2 : List Stmt} {PB : Bool → List Slot → Prop} (M : List Slot → Prop) (hc : XFT X δ c PB) (h1 : ∀ δ1, PB true δ1 → XB X δ1 sts { R with nx := M }) (h2 : ∀ δ1, PB false δ1 → XB X δ1 sts2 { R with nx := M }) (h : ∀ δ', M δ' → XB X δ' rest R) : XB X δ (.If c sts sts2 pos :: rest) R := by
  have hr : PSs X rest (fun D σ H => ∃ z : {δ' // M δ'}, tS X.K z.1 R D σ H) := pss_ex fun z : {δ' // M δ'} => h z.1 z.2
  have fin : ∀ {D : Ends} {B H : Hp} {F : Nat → List Addr}, Ok X.K R D B H F → Ok X.K { R with nx := M } { D with nx := fun σ H => ∃ z : {δ' // M δ'}, tS X.K z.1 R D σ H } B H F := fun {D B H F} o =>
    ⟨fun σ2 δ2 B2 H2 F2 s W q => ⟨⟨δ2, q⟩, ts_iff.mpr ⟨B2, F2, W, o.step s⟩⟩, o.rt, o.bk, o.ct⟩
  refine xb_cons (ps_if hc (pss_ex fun z : {δ' // PB true δ'} => h1 z.1 z.2) (pss_ex fun z : {δ' // PB false δ'} => h2 z.1 z.2)) hr fun D σ H B F W o => ⟨B, F, W, fun k δ1 B2 H2 F2 s W2 hp => ?_⟩
  cases k with
  | true => exact ⟨⟨δ1, hp⟩, ts_iff.mpr ⟨B2, F2, W2, (fin o).step s⟩⟩
  | false => exact ⟨⟨δ1, hp⟩, ts_iff.mpr ⟨B2, F2, W2, (fin o).step s⟩⟩
end
end Dl

set_option Elab.async false
set_option linter.all false
set_option maxRecDepth 100000
set_option maxHeartbeats 4000000
/-! The data level: the spring of draws, and comprehensions that draw. -/
namespace Dl
open PySem PySem.Spec PyProof.Rows L2
/-- the spring as it stands: the cells left, what is left of a great one, how many were drawn, the mix -/
def strmX (p q : Addr) (cells : List Int) (r c m : Int) : Res where
  ok := fun _ H v fp => v = .ref p ∧ fp = [p, q] ∧ H p = some (.lst [.ref q, .int r, .int c, .int m]) ∧ H q = some (.lst (cells.map V.int))
  loc := fun {B B' H H' v fp} ⟨h1, h2, h3, h4⟩ _ hh => ⟨h1, h2, by rw [hh p (by rw [h2]; exact List.mem_cons_self)]; exact h3, by rw [hh q (by rw [h2]; exact List.mem_cons_of_mem _ List.mem_cons_self)]; exact h4⟩
/-- what is known of a spring: at most n were drawn -/
structure StB (n : Nat) (cells : List Int) (r c m : Int) : Prop where
  len : cells.length ≤ 63
  r0 : 0 ≤ r
  c0 : 0 ≤ c
  cn : c ≤ n
  m0 : 0 ≤ m
  m1 : m < 2147483647
def strmR (p q : Addr) (n : Nat) : Res where
  ok := fun B H v fp => ∃ cells r c m, StB n cells r c m ∧ (strmX p q cells r c m).ok B H v fp
  loc := fun {B B' H H' v fp} ⟨cells, r, c, m, hb, h⟩ h1 h2 => ⟨cells, r, c, m, hb, (strmX p q cells r c m).loc h h1 h2⟩
def fpS (p q : Addr) : Nat → List Addr := fun i => if i = 0 then [p, q] else []
/-- the promise of a def that draws: pre of the number of draws so far and the data, post of both numbers, the data, the answer -/
def SpS (K : PySem.W.Frag) (pre : Nat → List PyData → Prop) (post : Nat → List PyData → Nat → PyData → Prop) : Sp := fun vs H Q _ => ∃ B p q us n ds, vs = .ref p :: us ∧ Same B H ∧ B p = none ∧ B q = none ∧ p ≠ q ∧ (strmR p q n).ok B H (.ref p) [p, q] ∧ RpA K B us ds ∧ pre n ds ∧
  ∀ v d n2 B2 H2, Step B H (fpS p q) B2 H2 (fpS p q) → Same B2 H2 → B2 p = none → B2 q = none → (strmR p q n2).ok B2 H2 (.ref p) [p, q] → post n ds n2 d → Rp K B2 v d → Q v H2
section
variable {X : Cx} {δ δ2 : List Slot} {a b c e tg iter elt : Expr} {pos p0 p1 : Pos} {ds ys : List PyData} {es : List Expr} {d d1 d2 : PyData} {rest : List Stmt} {R : Post} {st : Stmt} {P : PyData → List Slot → Prop}
theorem Wf.strm {K : PySem.W.Frag} {B H : Hp} {σ : L2.St} {F : Nat → List Addr} (W : Wf K B H σ δ F) {i n : Nat} {p q : Addr} (h : δ[i]? = some (.own (strmR p q n))) : σ[i]? = some (some (.ref p)) ∧ F i = [p, q] ∧ (strmR p q n).ok B H (.ref p) [p, q] ∧ B p = none ∧ B q = none ∧ p ≠ q := by
  obtain ⟨o, h1, h2⟩ := W.sl i _ h
  cases o with
  | none => exact h2.elim
  | some v =>
    have hx : (strmR p q n).ok B H v (F i) := h2
    obtain ⟨cells, r, c, m, hb, hv, hF, hp, hq⟩ := id hx
    subst hv
    rw [hF] at hx
    refine ⟨h1, hF, hx, (W.own i p (by rw [hF]; exact List.mem_cons_self)).1, (W.own i q (by rw [hF]; exact List.mem_cons_of_mem _ List.mem_cons_self)).1, fun e => ?_⟩
    subst e
    rw [hp] at hq
    cases cells with
    | nil => simp at hq
    | cons z zs =>
      have := HO.lst.inj (Option.some.inj hq)
      rw [List.map_cons] at this
      cases (List.cons.inj this).1
/-- behind a call that draws -/
theorem Wf.drawn {K : PySem.W.Frag} {B H B2 H2 : Hp} {σ : L2.St} {F : Nat → List Addr} (W : Wf K B H σ δ F) {i n n2 : Nat} {p q : Addr} (h : δ[i]? = some (.own (strmR p q n))) (s : Step B H (fpS p q) B2 H2 (fpS p q)) (sb : Same B2 H2) (hp : B2 p = none) (hq : B2 q = none) (ok : (strmR p q n2).ok B2 H2 (.ref p) [p, q]) :
    Wf K B2 H2 σ (δ.set i (.own (strmR p q n2))) F ∧ Step B H F B2 H2 F := by
  obtain ⟨h1, hF, _, _, _, _⟩ := W.strm h
  have hl : i < δ.length := (List.getElem?_eq_some_iff.mp h).1
  have nF : ∀ j, j ≠ i → ∀ a ∈ F j, ∀ k, a ∉ fpS p q k := fun j hj a ha k hk => by
    by_cases e : k = 0
    · subst e
      have hk : a ∈ [p, q] := hk
      rw [← hF] at hk
      exact hj (W.dis j i a ha hk)
    · have hk : a ∈ (if k = 0 then [p, q] else []) := hk
      rw [if_neg e] at hk
      cases hk
  have nS : ∀ b, (∀ j, b ∉ F j) → ∀ k, b ∉ fpS p q k := fun b hb k hk => by
    by_cases e : k = 0
    · subst e
      have hk : b ∈ [p, q] := hk
      rw [← hF] at hk
      exact hb i hk
    · have hk : b ∈ (if k = 0 then [p, q] else []) := hk
      rw [if_neg e] at hk
      cases hk
  refine ⟨⟨sb, by rw [List.length_set]; exact W.len, fun j t e => ?_, fun j hj => W.out j (by rw [List.length_set] at hj; exact hj), W.dis, fun j a ha => ?_⟩, ⟨s.bb, fun b o e hn => s.keep b o e (nS b hn), fun b o e hn => s.fr b o e (nS b hn), s.there, fun j b hb => .inl ⟨j, hb⟩⟩⟩
  · by_cases hj : j = i
    · subst hj
      rw [List.getElem?_set_self hl] at e
      cases e
      refine ⟨_, h1, ?_⟩
      show (strmR p q n2).ok B2 H2 (.ref p) (F j)
      rw [hF]
      exact ok
    · rw [List.getElem?_set_ne (Ne.symm hj)] at e
      obtain ⟨o, a1, a2⟩ := W.sl j t e
      refine ⟨o, a1, a2.loc s.bb fun a ha => ?_⟩
      obtain ⟨_, u, hu⟩ := W.own j a ha
      rw [hu]
      exact s.keep a u hu (nF j hj a ha)
  · by_cases hj : j = i
    · subst hj
      rw [hF] at ha
      obtain ⟨cells, r, c, m, _, _, _, k1, k2⟩ := ok
      rcases List.mem_cons.mp ha with e | e
      · rw [e]; exact ⟨hp, _, k1⟩
      · rw [List.mem_singleton.mp e]; exact ⟨hq, _, k2⟩
    · obtain ⟨a1, u, hu⟩ := W.own j a ha
      exact ⟨(s.fr a u hu (nF j hj a ha)).trans a1, u, s.keep a u hu (nF j hj a ha)⟩
/-- f(stream, ..): the spring in slot i -/
theorem xf_draw (i : Nat) {k n : Nat} {p q : Addr} {f x : Str} {ps : List Str} {pre : Nat → List PyData → Prop} {post : Nat → List PyData → Nat → PyData → Prop} {PA' : List PyData → List Slot → Prop} (G : Def X.prog X.w X.K X.mg X.base k f ps (SpS X.K pre post)) (hr : Room k X.A)
    (hi : δ[i]? = some (.own (strmR p q n))) (ha : XFA X δ es PA') (hp : ∀ ds δ1, PA' ds δ1 → ∃ n1, δ1[i]? = some (.own (strmR p q n1)) ∧ pre n1 ds ∧ ∀ n2 d, post n1 ds n2 d → P d (δ1.set i (.own (strmR p q n2))))
    (hN : X.N[i]? = some x := by rfl) (hv : Vis X.env.scope x := by first | exact Or.inl rfl | exact Or.inr (Or.inl rfl) | exact Or.inr (Or.inr rfl)) (hd : (x == ("__debug__" : Str)) = false := by decide) (hcd : (x == ("__classdict__" : Str)) = false := by decide)
    (hg : Gl X f := by rfl) (hdb : (f == ("__debug__" : Str)) = false := by decide) (he : starEach (.Name x p1 :: es) X.env = (false, eval (.Name x p1) X.env) :: starEach es X.env := by rfl) (hpl : (backTo pos (starEach es X.env)).any (·.1) = false := by rfl) :
    XF X δ (.Call (.Name f p0) (.Name x p1 :: es) [] pos) P := by
  obtain ⟨fa, fd, h1, h2, h3, h4⟩ := G.ex
  refine (pe_call h4 hr hg h1 h2 h3 .nil pass0 (pa_cons (pe_var (i := i) hN hv hd hcd) ha he) hdb he hpl).weak fun σ H Q ⟨B, F, W, q'⟩ => ?_
  obtain ⟨s1, _⟩ := W.strm hi
  refine ⟨.ref p, s1, B, F, W, fun vs ds δ1 B2 H2 F2 s2 W2 hpa r2 => ?_⟩
  obtain ⟨n1, hi1, hpre, hpost⟩ := hp ds δ1 hpa
  obtain ⟨_, _, ok, b1, b2, ne⟩ := W2.strm hi1
  show SpS X.K pre post ((V.ref p :: vs) ++ []) H2 Q E0
  rw [List.append_nil]
  refine ⟨B2, p, q, vs, n1, ds, rfl, W2.bh, b1, b2, ne, ok, r2, hpre, fun v d n2 B3 H3 s3 sb k1 k2 ok3 po r3 => ?_⟩
  obtain ⟨W3, s4⟩ := W2.drawn hi1 s3 sb k1 k2 ok3
  exact q' v d _ B3 H3 F2 (s2.trans s4) W3 (hpost n2 d po) r3
end
section
variable {P : Program} {w : World} {K : PySem.W.Frag} {mg : Str → Option Value} {base : Heap} {ds : List PyData}
theorem wf_strm {B H : Hp} {us : List V} {p q : Addr} {n : Nat} (s : Same B H) (hp : B p = none) (hq : B q = none) (ok : (strmR p q n).ok B H (.ref p) [p, q]) (r : RpA K B us ds) (N : List Str) :
    Wf K B H (L2.start N (.ref p :: us)) (startD N (.own (strmR p q n) :: ds.map .dat)) (fpS p q) where
  bh := s
  len := by
    unfold L2.start startD
    simp only [List.length_append, List.length_map, List.length_replicate, List.length_cons, r.length]
  sl := fun i t e => by
    cases i with
    | zero =>
      have e : some (Slot.own (strmR p q n)) = some t := e
      cases e
      exact ⟨some (.ref p), rfl, ok⟩
    | succ i =>
      have W := envOk_dat (K := K) s r (N.drop 1)
      have e1 : (startD N (.own (strmR p q n) :: ds.map .dat))[i + 1]? = (startD (N.drop 1) (ds.map .dat))[i]? := by
        unfold startD
        rw [List.cons_append, List.getElem?_cons_succ, List.length_drop, List.length_cons]
        congr 3
        omega
      rw [e1] at e
      obtain ⟨o, a1, a2⟩ := W.sl i t e
      refine ⟨o, ?_, a2⟩
      rw [← a1]
      unfold L2.start
      rw [List.map_cons, List.cons_append, List.getElem?_cons_succ, List.length_drop, List.length_cons]
      congr 3
      omega
  out := fun i hi => if_neg (by
    intro z
    subst z
    unfold startD at hi
    simp at hi)
  dis := fun i j a h1 h2 => by
    have : ∀ k, a ∈ fpS p q k → k = 0 := fun k hk => by
      by_cases e : k = 0
      · exact e
      · have hk : a ∈ (if k = 0 then [p, q] else []) := hk
        rw [if_neg e] at hk
        cases hk
    rw [this i h1, this j h2]
  own := fun i a ha => by
    by_cases e : i = 0
    · subst e
      have ha : a ∈ [p, q] := ha
      obtain ⟨cells, r, c, m, _, _, _, k1, k2⟩ := ok
      rcases List.mem_cons.mp ha with e | e
      · rw [e]; exact ⟨hp, _, k1⟩
      · rw [List.mem_singleton.mp e]; exact ⟨hq, _, k2⟩
    · have ha : a ∈ (if i = 0 then [p, q] else []) := ha
      rw [if_neg e] at ha
      cases ha
/-- THE RULE for a def that draws (the spring its first parameter) -/
theorem def_draw {x : Str} {st : Stmt} {N ps : List Str} {k : Nat} {pre : Nat → List PyData → Prop} {post : Nat → List PyData → Nat → PyData → Prop} (A : At K mg x st ps) (S : FnScope N ps (defScope st)) (len : ∀ n ds, pre n ds → ds.length + 1 = ps.length)
    (body : ∀ (X : Cx), (∃ (fa : Addr) (cdv : Value) (A : Around) (outer : List Env) (s : Shared) (H : Hp) (E : XK), Room k (A.deeper (envOfC x (defScope st) s.heap.objs.size fa cdv)) ∧ X = (cxOf CX0 P w K mg base N x (defScope st) fa cdv A outer s H E).nox) → ∀ p q n ds, pre n ds → XB X (startD N (.own (strmR p q n) :: ds.map .dat)) (defBody st) { rt := fun d δ2 => ∃ n2, δ2[0]? = some (.own (strmR p q n2)) ∧ post n ds n2 d }) :
    Def P w K mg base (k + 1) x ps (SpS K pre post) := by
  obtain ⟨fa, fd, h1, h2, h3⟩ := A.ex
  refine ⟨fa, fd, h1, h2.kp, h3, h2.ok S (fun vs H Q E h => ?_) (fun cdv A outer s H vs Q E hr h => ?_)⟩
  · obtain ⟨B, p, q, us, n, ds, rfl, _, _, _, _, _, r, hp, _⟩ := h
    rw [List.length_cons, r.length]
    exact len n ds hp
  · obtain ⟨B, p, q, us, n, ds, rfl, sm, b1, b2, ne, ok, r, hp, q'⟩ := h
    refine ⟨_, body _ ⟨fa, cdv, A, outer, s, H, E, hr, rfl⟩ p q n ds hp, ?_⟩
    refine ts_iff.mpr ⟨B, _, wf_strm sm b1 b2 ok r N, fun _ _ _ _ _ _ _ h => h.elim, ?_, fun _ _ _ _ _ _ _ h => h.elim, fun _ _ _ _ _ _ _ h => h.elim⟩
    intro v d σ2 δ2 B2 H2 F2 s2 W2 ⟨n2, hs, hpo⟩ r2
    obtain ⟨_, hF, ok2, k1, k2, _⟩ := W2.strm hs
    exact q' v d n2 B2 H2 ⟨s2.bb, s2.keep, s2.fr, s2.there, fun i b hb => .inl ⟨i, hb⟩⟩ W2.bh k1 k2 ok2 hpo r2
end
end Dl

set_option Elab.async false
set_option linter.all false
set_option maxRecDepth 100000
set_option maxHeartbeats 4000000
/-! The data level: comprehensions that draw; the spring's own steps. -/
namespace Dl
open PySem PySem.Spec PyProof.Rows L2
section
variable {X : Cx} {δ δ2 : List Slot} {a b c e tg iter elt : Expr} {pos p0 p1 p : Pos} {ds ys : List PyData} {es : List Expr} {d d1 d2 : PyData} {rest : List Stmt} {R : Post} {st : Stmt} {P : PyData → List Slot → Prop}
structure XLF (X : Cx) (δ : List Slot) (e : Expr) (P : PyData → List Slot → Prop) : Prop where
  val : XF X δ e P
  set : ∀ (i : Nat) {y : Str} {py spos : Pos}, X.N.Nodup → X.N[i]? = some y → X.env.scope.names.lookup y = some .local → swapsWith e (some (.Name y py)) spos.line X.env = pure true → PS X (.Assign [.Name y py] e spos) (tAsg (tE X.K δ P) (gName i))
theorem lcF_turn {K : PySem.W.Frag} {ι : Type} {l : List ι} {f : ι → PyData} {j : Nat} {wi : TI} (J : Nat → List Slot → Prop) (Pd : Nat → PyData → Prop) (hj : j < δ.length) (hz : l.length ≤ 1000000) (h0 : J 0 (δ.set j .no)) (hlen : ∀ i δ', J i δ' → δ'[j]? = some .no) (hwi : ∀ σ H R, tI K δ (l.map f) σ H R → wi σ H R)
    {tG' : TG} {tE' : TE} (hG : ∀ v σ H Q, (∃ z : {z : ι × List Slot // z.1 ∈ l}, tG K [j] (f z.1.1) z.1.2 (z.1.2.set j (.dat (f z.1.1))) v σ H Q) → tG' v σ H Q)
    (hE : ∀ σ H Q, (∃ z : {z : Nat × ι × List Slot // l[z.1]? = some z.2.1 ∧ J z.1 z.2.2}, tE K (z.1.2.2.set j (.dat (f z.1.2.1))) (fun d δ2 => Pd z.1.1 d ∧ J (z.1.1 + 1) (δ2.set j .no)) σ H Q) → tE' σ H Q) :
    ∀ σ H Q, tE K δ (fun d δ2 => ∃ ds, d = .list ds ∧ ds.length = l.length ∧ (∀ i d, ds[i]? = some d → Pd i d) ∧ J l.length δ2) σ H Q → tLc wi tG' tYes tE' [j] σ H Q := fun σ H Q ⟨B, F, W, q⟩ => by
  refine hwi σ H _ ⟨B, F, W, fun It B1 H1 g1 wk D hD => ?_⟩
  have W1 := W.grow g1
  have jw : ∀ σ' : L2.St, wipe σ' [j] = σ'.set j none := fun _ => rfl
  refine ⟨fun i m H' => m = l.length - i ∧ i ≤ l.length ∧ ∃ Bi xs ds δi Fi, Step B1 H1 F Bi H' Fi ∧ Same B1 Bi ∧ Wf K Bi H' (wipe σ [j]) δi Fi ∧ J i δi ∧ H' D = some (.lst xs) ∧ Bi D = none ∧ (∀ k, D ∉ Fi k) ∧ RpA K Bi xs ds ∧ ds.length = i ∧ ∀ k d, ds[k]? = some d → Pd k d,
    ⟨l.length, by simp, Nat.zero_le _, B1, [], [], δ.set j .no, _, (Step.of (F := F) (Grow.newH g1.bh hD)).sub (F2 := fun k => if k = j then [] else F k) cut_sub, Same.refl _, (W1.grow (Grow.newH g1.bh hD)).no j none, h0, upd_same, g1.bh.free hD, fun k hk => ?_, .nil, rfl, fun k d h => by simp at h⟩, ?_⟩
  · have hk : D ∈ (if k = j then [] else F k) := hk
    by_cases e : k = j
    · rw [if_pos e] at hk
      cases hk
    · rw [if_neg e] at hk
      obtain ⟨_, o, ho⟩ := W1.own k D hk
      rw [hD] at ho
      cases ho
  rintro i m H' ⟨rfl, hle, Bi, xs, ds, δi, Fi, si, sm, Wi, hJ, hx, hb, hD2, r, hdl, hpd⟩
  by_cases hlt : i < l.length
  · refine .inr ⟨wk.go i H' (sm.trans Wi.bh) (by rw [List.length_map]; exact hlt), fun H2 => ∃ Bi xs ds δi Fi, Step B1 H1 F Bi H2 Fi ∧ Same B1 Bi ∧ Wf K Bi H2 (wipe σ [j]) δi Fi ∧ J (i + 1) δi ∧ H2 D = some (.lst xs) ∧ Bi D = none ∧ (∀ k, D ∉ Fi k) ∧ RpA K Bi xs ds ∧ ds.length = i + 1 ∧ ∀ k d, ds[k]? = some d → Pd k d, fun H2 h2 => ⟨l.length - (i + 1), by omega, rfl, hlt, h2⟩, fun x H2 hy => ?_⟩
    have hget : l[i]? = some l[i] := List.getElem?_eq_getElem hlt
    have hmem : l[i] ∈ l := List.getElem_mem hlt
    generalize hd : l[i] = y at hget hmem
    obtain ⟨B2, g2, r2⟩ := wk.yld i Bi H' x H2 sm Wi.bh hy (f y) (by rw [List.getElem?_map, hget]; rfl)
    have W2 := Wi.grow g2
    have h2D : H2 D = some (.lst xs) := g2.hh _ _ hx
    have b2D : B2 D = none := (g2.fr D _ hx).trans hb
    refine hG x _ H2 _ ⟨⟨(y, δi), hmem⟩, B2, Fi, W2, r2, fun σ3 F3 W3 sb hl hk => ⟨wipe_same hl hk (fun k hk => hk), ?_⟩⟩
    show tE' σ3 H2 _
    refine hE σ3 H2 _ ⟨⟨(i, y, δi), hget, hJ⟩, B2, F3, W3, fun v d δ4 B4 H4 F4 s4 W4 ⟨hpv, hJ4⟩ r4 => ?_⟩
    have nD3 : ∀ k, D ∉ F3 k := fun k hk => by
      obtain ⟨m, hm⟩ := sb k D hk
      exact hD2 m hm
    have h4D : H4 D = some (.lst xs) := s4.keep D _ h2D nD3
    have b4D : B4 D = none := (s4.fr D _ h2D nD3).trans b2D
    have nD4 : ∀ k, D ∉ F4 k := fun k hk => by
      rcases s4.fn k D hk with ⟨m, hm⟩ | h
      · exact nD3 m hm
      · rw [h2D] at h
        cases h
    have s5 : Step B1 H1 F B4 H4 F4 := (si.trans ((Step.of (F := Fi) g2).sub sb)).trans s4
    have W5 := W4.no j none
    have es : σ3.set j none = wipe σ [j] := by
      rw [← jw σ3]
      exact wipe_same hl hk (fun k hk => hk)
    rw [es] at W5
    refine ⟨xs, h4D, ?_, B4, xs ++ [v], ds ++ [d], δ4.set j .no, (fun k => if k = j then [] else F4 k), ?_, (sm.trans g2.bb).trans s4.bb, ?_, hJ4, upd_same, b4D, fun k hk => ?_, (((r.mono g2.bb).mono s4.bb)).append (.cons r4 .nil), by rw [List.length_append, hdl]; rfl, fun k d' hk => ?_⟩
    · have h1 := r.length
      have : xs.length < 1000000 := by omega
      exact Nat.lt_of_lt_of_le this (sz_of (Nat.le_refl _))
    · have s6 := s5.sub (F2 := fun k => if k = j then [] else F4 k) cut_sub
      have nH : H1 D = none := hD
      refine ⟨s6.bb, fun b o hb' hn => ?_, s6.fr, fun b o hb' => ?_, s6.fn⟩
      · rw [upd_ne (ne_of_none hb' nH)]
        exact s6.keep b o hb' hn
      · rw [upd_ne (ne_of_none hb' nH)]
        exact s6.there b o hb'
    · refine ⟨fun b o e => ?_, W5.len, fun k s e => ?_, W5.out, W5.dis, fun k a ha => ?_⟩
      · have : b ≠ D := fun z => by rw [z, b4D] at e; cases e
        rw [upd_ne this]
        exact W5.bh b o e
      · obtain ⟨o, a1, a2⟩ := W5.sl k s e
        refine ⟨o, a1, a2.loc (Same.refl _) fun a ha => ?_⟩
        rw [upd_ne]
        intro z
        obtain ⟨m, hm⟩ := cut_sub (F := F4) (i := j) k a ha
        rw [z] at hm
        exact nD4 m hm
      · obtain ⟨a1, o, a2⟩ := W5.own k a ha
        refine ⟨a1, o, ?_⟩
        rw [upd_ne]
        · exact a2
        intro z
        obtain ⟨m, hm⟩ := cut_sub (F := F4) (i := j) k a ha
        rw [z] at hm
        exact nD4 m hm
    · obtain ⟨m, hm⟩ := cut_sub (F := F4) (i := j) k D hk
      exact nD4 m hm
    · by_cases hki : k < ds.length
      · rw [List.getElem?_append_left hki] at hk
        exact hpd k d' hk
      · rw [List.getElem?_append_right (by omega)] at hk
        have : k - ds.length = 0 := by
          have := (List.getElem?_eq_some_iff.mp hk).1
          simp at this
          omega
        rw [this] at hk
        have : d = d' := by simpa using hk
        subst this
        have : k = i := by omega
        rw [this]
        exact hpv
  · have e : i = l.length := by omega
    subst e
    refine .inl ⟨by have := wk.stop H' (sm.trans Wi.bh); rw [List.length_map] at this; exact this, ?_⟩
    have hno := hlen _ _ hJ
    have ll : δi.length = σ.length := by rw [Wi.len, wipe_length]
    have W6 : Wf K Bi H' σ δi Fi := by
      refine Wi.wk ll rfl (fun k s hk => ?_) Wi.out
      by_cases ek : k = j
      · subst ek
        rw [hno] at hk
        cases hk
        left
        obtain ⟨o, _, a2⟩ := Wi.sl k _ hno
        refine ⟨?_, rfl⟩
        cases o <;> exact a2
      · right
        refine ⟨rfl, hk, ?_⟩
        rw [jw, List.getElem?_set_ne (Ne.symm ek)]
    have g7 : Grow Bi H' (upd Bi D (.lst xs)) H' → False ∨ True := fun _ => .inr trivial
    have sbb : Same Bi (upd Bi D (.lst xs)) := same_upd hb
    have W7 : Wf K (upd Bi D (.lst xs)) H' σ δi Fi := by
      refine ⟨fun b o e => ?_, W6.len, fun k s e => ?_, W6.out, W6.dis, fun k a ha => ?_⟩
      · by_cases z : b = D
        · rw [z, upd_same] at e
          cases e
          rw [z]
          exact hx
        · rw [upd_ne z] at e
          exact W6.bh b o e
      · obtain ⟨o, a1, a2⟩ := W6.sl k s e
        exact ⟨o, a1, a2.loc sbb fun _ _ => rfl⟩
      · obtain ⟨a1, a2⟩ := W6.own k a ha
        refine ⟨?_, a2⟩
        rw [upd_ne (show a ≠ D from fun z => hD2 k (by rw [← z]; exact ha))]
        exact a1
    have nH : H D = none := g1.hh.free hD
    have nH1 : H1 D = none := hD
    refine q (.ref D) (.list ds) δi (upd Bi D (.lst xs)) H' Fi ((Step.of (F := F) g1).trans ⟨si.bb.trans sbb, si.keep, fun b o e hn => ?_, si.there, si.fn⟩) W7 ⟨ds, rfl, hdl, hpd, hJ⟩ (.lst upd_same (r.mono sbb))
    rw [upd_ne (ne_of_none e nH1)]
    exact si.fr b o e hn
theorem xlF {ι : Type} {l : List ι} {f : ι → PyData} {scope : Scope} (j : Nat) {x : Str} (J : Nat → List Slot → Prop) (Pd : Nat → PyData → Prop) (hN : X.N.Nodup) (hi : XI X (.Name x p) δ iter (l.map f)) (hjl : j < δ.length) (hz : l.length ≤ 1000000) (h0 : J 0 (δ.set j .no)) (hlen : ∀ i δ', J i δ' → δ'[j]? = some .no)
    (he : Blk X scope fun Y => ∀ i y δ', l[i]? = some y → J i δ' → XF Y (δ'.set j (.dat (f y))) elt (fun d δ2 => Pd i d ∧ J (i + 1) (δ2.set j .no)))
    (ok : BlkOk X.N X.env.scope scope [(x, j)] := by exact blkOk_by (by kernel_rfl)) (hj : X.N[j]? = some x := by rfl) (hx : Blk X scope fun Y => Loc Y.env.scope x := by first | exact fun _ _ _ _ _ => Or.inl rfl | exact fun _ _ _ _ _ => Or.inr rfl) (hf : Blk X scope fun Y => Y.fn x = true ∨ Y.env.scope.names.lookup x = some .local := by first | exact fun _ _ _ _ _ => Or.inr rfl | exact fun _ _ _ _ _ => Or.inl rfl)
    (hc : X.calm = true := by rfl) (hs : ∀ x, foldedSetIterable iter X.env x = pure x := by intro _; rfl) : XLF X δ (.ListComp elt [⟨.Name x p, iter, [], 0⟩] scope pos) (fun d δ2 => ∃ ds, d = .list ds ∧ ds.length = l.length ∧ (∀ i d, ds[i]? = some d → Pd i d) ∧ J l.length δ2) := by
  have hG : Blk X scope fun Y => PG Y (.Name x p) (fun v σ H Q => ∃ z : {z : ι × List Slot // z.1 ∈ l}, tG X.K [j] (f z.1.1) z.1.2 (z.1.2.set j (.dat (f z.1.1))) v σ H Q) := fun s H C cl fp => pg_ex fun z : {z : ι × List Slot // z.1 ∈ l} => xg_name j hN hj (hx s H C cl fp) (hf s H C cl fp)
  have hE : Blk X scope fun Y => PE Y elt (fun σ H Q => ∃ z : {z : Nat × ι × List Slot // l[z.1]? = some z.2.1 ∧ J z.1 z.2.2}, tE X.K (z.1.2.2.set j (.dat (f z.1.2.1))) (fun d δ2 => Pd z.1.1 d ∧ J (z.1.1 + 1) (δ2.set j .no)) σ H Q) := fun s H C cl fp => pe_ex fun z : {z : Nat × ι × List Slot // l[z.1]? = some z.2.1 ∧ J z.1 z.2.2} => he s H C cl fp z.1.1 z.1.2.1 z.1.2.2 z.2.1 z.2.2
  exact ⟨(pe_lc (own := [(x, j)]) hc hN hi ok hG (fun _ _ _ _ _ => pts_nil) hE hs).weak (lcF_turn J Pd hjl hz h0 hlen (fun _ _ _ q => q) (fun _ _ _ _ q => q) (fun _ _ _ q => q)),
    fun i y py spos _ hy hyl hsw => (ps_setLc (own := [(x, j)]) hc hN hy hyl hsw hi ok hG (fun _ _ _ _ _ => pts_nil) hE hs).weak fun D σ H q => lcF_turn J Pd hjl hz h0 hlen (fun _ _ _ q => q) (fun _ _ _ _ q => q) (fun _ _ _ q => q) σ H _ q⟩
theorem xb_lcF (i : Nat) {y : Str} {py : Pos} (h : XLF X δ e P) (k : ∀ d δ1, P d δ1 → XB X (δ1.set i (.dat d)) rest R) (hN : X.N.Nodup) (hy : X.N[i]? = some y := by rfl) (hyl : X.env.scope.names.lookup y = some .local := by rfl)
    (hsw : swapsWith e (some (.Name y py)) pos.line X.env = pure true := by exact sw_true rfl rfl rfl (by kernel_rfl)) : XB X δ (.Assign [.Name y py] e pos :: rest) R := xb_setF (h.set i hN hy hyl hsw) k
end
end Dl

set_option Elab.async false
set_option linter.all false
set_option maxRecDepth 100000
set_option maxHeartbeats 4000000
/-! The data level: the spring's own steps; its start; the law itself. -/
namespace Dl
open PySem PySem.Spec PyProof.Rows L2
section
variable {X : Cx} {δ δ2 : List Slot} {a b c e tg iter elt : Expr} {pos p0 p1 p2 p3 p4 : Pos} {d d1 d2 : PyData} {rest sts : List Stmt} {R : Post} {P : PyData → List Slot → Prop} {p q : Addr} {cells : List Int} {r c m z : Int} {n : Nat}
theorem Wf.swap {K : PySem.W.Frag} {B H : Hp} {σ : L2.St} {F : Nat → List Addr} {r r' : Res} {i : Nat} (W : Wf K B H σ δ F) (h : δ[i]? = some (.own r)) (w : ∀ v, r.ok B H v (F i) → r'.ok B H v (F i)) : Wf K B H σ (δ.set i (.own r')) F where
  bh := W.bh
  len := by rw [List.length_set]; exact W.len
  sl := fun j s e => by
    by_cases hj : j = i
    · subst hj
      rw [List.getElem?_set_self (List.getElem?_eq_some_iff.mp h).1] at e
      cases e
      obtain ⟨o, h1, h2⟩ := W.sl j _ h
      cases o with
      | none => exact h2.elim
      | some v => exact ⟨_, h1, w v h2⟩
    · rw [List.getElem?_set_ne (Ne.symm hj)] at e
      exact W.sl j s e
  out := fun j hj => W.out j (by rw [List.length_set] at hj; exact hj)
  dis := W.dis
  own := W.own
theorem xb_openS (i : Nat) (h : δ[i]? = some (.own (strmR p q n))) (k : ∀ cells r c m, StB n cells r c m → XB X (δ.set i (.own (strmX p q cells r c m))) sts R) : XB X δ sts R := by
  have := pss_ex (X := X) (e := sts) (t := fun z : {z : List Int × Int × Int × Int // StB n z.1 z.2.1 z.2.2.1 z.2.2.2} => tS X.K (δ.set i (.own (strmX p q z.1.1 z.1.2.1 z.1.2.2.1 z.1.2.2.2))) R) fun z => k _ _ _ _ z.2
  refine PSs.weak this fun D σ H q' => ?_
  obtain ⟨B, F, W, o⟩ := ts_iff.mp q'
  obtain ⟨_, _, ⟨cells, r, c, m, hb, hx⟩, _⟩ := W.strm h
  refine ⟨⟨(cells, r, c, m), hb⟩, ts_iff.mpr ⟨B, F, W.swap h fun v hv => ?_, o⟩⟩
  obtain ⟨c2, r2, cc, m2, _, hx2⟩ := hv
  obtain ⟨_, _, a1, a2⟩ := hx
  obtain ⟨b1, b2, b3, b4⟩ := hx2
  exact ⟨b1, b2, a1, a2⟩
theorem xb_closeS (i n : Nat) (h : δ[i]? = some (.own (strmX p q cells r c m))) (hb : StB n cells r c m) (k : XB X (δ.set i (.own (strmR p q n))) sts R) : XB X δ sts R := PSs.weak k fun D σ H q' => by
  obtain ⟨B, F, W, o⟩ := ts_iff.mp q'
  exact ts_iff.mpr ⟨B, F, W.swap h fun v hv => ⟨cells, r, c, m, hb, hv⟩, o⟩
theorem xb_retS (i n : Nat) (he : XE X δ e d) (h : δ[i]? = some (.own (strmX p q cells r c m))) (hb : StB n cells r c m) (hr : R.rt d (δ.set i (.own (strmR p q n)))) : XB X δ (.Return (some e) pos :: rest) R := xb_cons (ps_ret he) pss_never fun D σ H B F W o =>
  ⟨B, F, W, fun v B2 H2 g r2 => o.rt v d σ _ B2 H2 F (Step.of g) ((W.grow g).swap (r' := strmR p q n) h fun v hv => ⟨cells, r, c, m, hb, hv⟩) hr r2⟩
theorem Wf.sx {K : PySem.W.Frag} {B H : Hp} {σ : L2.St} {F : Nat → List Addr} (W : Wf K B H σ δ F) {i : Nat} (h : δ[i]? = some (.own (strmX p q cells r c m))) : σ[i]? = some (some (.ref p)) ∧ F i = [p, q] ∧ H p = some (.lst [.ref q, .int r, .int c, .int m]) ∧ H q = some (.lst (cells.map V.int)) ∧ B p = none ∧ B q = none ∧ p ≠ q := by
  obtain ⟨o, h1, h2⟩ := W.sl i _ h
  cases o with
  | none => exact h2.elim
  | some v =>
    obtain ⟨hv, hF, hp, hq⟩ := h2
    subst hv
    refine ⟨h1, hF, hp, hq, (W.own i p (by rw [hF]; exact List.mem_cons_self)).1, (W.own i q (by rw [hF]; exact List.mem_cons_of_mem _ List.mem_cons_self)).1, fun e => ?_⟩
    subst e
    rw [hp] at hq
    cases cells with
    | nil => simp at hq
    | cons z zs =>
      have := HO.lst.inj (Option.some.inj hq)
      rw [List.map_cons] at this
      cases (List.cons.inj this).1
/-- the spring is written -/
theorem Wf.sxUpd {K : PySem.W.Frag} {B H H2 : Hp} {σ : L2.St} {F : Nat → List Addr} (W : Wf K B H σ δ F) {i : Nat} {cells2 : List Int} {r2 c2 m2 : Int} (h : δ[i]? = some (.own (strmX p q cells r c m))) (k1 : H2 p = some (.lst [.ref q, .int r2, .int c2, .int m2])) (k2 : H2 q = some (.lst (cells2.map V.int))) (hk : ∀ b, b ≠ p → b ≠ q → H2 b = H b) :
    Wf K B H2 σ (δ.set i (.own (strmX p q cells2 r2 c2 m2))) F ∧ Step B H F B H2 F := by
  obtain ⟨h1, hF, _, _, b1, b2, _⟩ := W.sx h
  have hl : i < δ.length := (List.getElem?_eq_some_iff.mp h).1
  have nF : ∀ j, j ≠ i → ∀ a ∈ F j, a ≠ p ∧ a ≠ q := fun j hj a ha => ⟨fun e => hj (W.dis j i a ha (by rw [hF, e]; exact List.mem_cons_self)), fun e => hj (W.dis j i a ha (by rw [hF, e]; exact List.mem_cons_of_mem _ List.mem_cons_self))⟩
  refine ⟨⟨fun b o e => ?_, by rw [List.length_set]; exact W.len, fun j s e => ?_, fun j hj => W.out j (by rw [List.length_set] at hj; exact hj), W.dis, fun j a ha => ?_⟩, ⟨Same.refl B, fun b o e hn => ?_, fun _ _ _ _ => rfl, fun b o e => ?_, fun j b hb => .inl ⟨j, hb⟩⟩⟩
  · rw [hk b (fun z => by rw [z, b1] at e; cases e) (fun z => by rw [z, b2] at e; cases e)]
    exact W.bh b o e
  · by_cases hj : j = i
    · subst hj
      rw [List.getElem?_set_self hl] at e
      cases e
      exact ⟨_, h1, rfl, hF, k1, k2⟩
    · rw [List.getElem?_set_ne (Ne.symm hj)] at e
      obtain ⟨o, a1, a2⟩ := W.sl j s e
      exact ⟨o, a1, a2.loc (Same.refl B) fun a ha => hk a (nF j hj a ha).1 (nF j hj a ha).2⟩
  · obtain ⟨a1, o, a2⟩ := W.own j a ha
    refine ⟨a1, ?_⟩
    by_cases e1 : a = p
    · rw [e1]; exact ⟨_, k1⟩
    · by_cases e2 : a = q
      · rw [e2]; exact ⟨_, k2⟩
      · rw [hk a e1 e2]; exact ⟨o, a2⟩
  · rw [hk b (fun z => hn i (by rw [hF, z]; exact List.mem_cons_self)) (fun z => hn i (by rw [hF, z]; exact List.mem_cons_of_mem _ List.mem_cons_self))]
    exact e
  · by_cases e1 : b = p
    · rw [e1]; exact ⟨_, k1⟩
    · by_cases e2 : b = q
      · rw [e2]; exact ⟨_, k2⟩
      · rw [hk b e1 e2]; exact ⟨o, e⟩
def sxAt (r c m : Int) : Nat → Int
  | 1 => r
  | 2 => c
  | _ => m
theorem xe_st (i k : Nat) {x : Str} {jj} (h : δ[i]? = some (.own (strmX p q cells r c m))) (hk : k = 1 ∨ k = 2 ∨ k = 3) (hi : X.N[i]? = some x := by rfl) (hv : Vis X.env.scope x := by first | exact Or.inl rfl | exact Or.inr (Or.inl rfl) | exact Or.inr (Or.inr rfl)) (hd : (x == ("__debug__" : Str)) = false := by decide) (hcd : (x == ("__classdict__" : Str)) = false := by decide) :
    XE X δ (.Subscript (.Name x p1) (.Constant (.int (k : Nat)) jj p2) pos) (.int (sxAt r c m k)) :=
  (pe_ix ix_list (pe_var (i := i) hi hv hd hcd) pe_int (fun _ _ => rfl)).weak fun σ H Q ⟨B, F, W, q'⟩ => by
    obtain ⟨h1, _, h3, _⟩ := W.sx h
    refine ⟨.ref p, h1, p, _, (k : Int), .int (sxAt r c m k), rfl, rfl, SqL.of h3, ?_, q' _ B H (Grow.refl W.bh) (.int _)⟩
    rcases hk with rfl | rfl | rfl
    · exact atI_nat (j := 1) rfl
    · exact atI_nat (j := 2) rfl
    · exact atI_nat (j := 3) rfl
def sxSet (r c m z : Int) : Nat → Int × Int × Int
  | 1 => (z, c, m)
  | 2 => (r, z, m)
  | _ => (r, c, z)
theorem xb_stSet (i k : Nat) {x : Str} {jj} (h : δ[i]? = some (.own (strmX p q cells r c m))) (hk : k = 1 ∨ k = 2 ∨ k = 3) (he : XE X δ e (.int z)) (kk : XB X (δ.set i (.own (strmX p q cells (sxSet r c m z k).1 (sxSet r c m z k).2.1 (sxSet r c m z k).2.2))) rest R) (hi : X.N[i]? = some x := by rfl) (hv : Vis X.env.scope x := by first | exact Or.inl rfl | exact Or.inr (Or.inl rfl) | exact Or.inr (Or.inr rfl)) (hd : (x == ("__debug__" : Str)) = false := by decide) (hcd : (x == ("__classdict__" : Str)) = false := by decide)
    (hs : swapsWithSole [.Subscript (.Name x p1) (.Constant (.int (k : Nat)) jj p2) p3] e pos.line X.env = pure false := by rfl) (hw : swappedStores [.Subscript (.Name x p1) (.Constant (.int (k : Nat)) jj p2) p3] e X.env = pure none := by rfl)
    (h1 : (assignEach [.Subscript (.Name x p1) (.Constant (.int (k : Nat)) jj p2) p3] X.env).map (·.2) = [assign (.Subscript (.Name x p1) (.Constant (.int (k : Nat)) jj p2) p3) X.env] := by rfl) : XB X δ (.Assign [.Subscript (.Name x p1) (.Constant (.int (k : Nat)) jj p2) p3] e pos :: rest) R :=
  xb_cons (ps_asg he (pg_sub (pe_var (i := i) hi hv hd hcd) pe_int set_list) hs hw h1) kk fun D σ H B F W o => ⟨B, F, W, fun v B2 H2 g rr => by
    cases rr
    have W2 := W.grow g
    obtain ⟨h1, _, h3, h4, _, _, ne⟩ := W2.sx h
    refine ⟨.ref p, h1, p, _, (k : Int), k, rfl, rfl, h3, ?_, ?_⟩
    · rcases hk with rfl | rfl | rfl <;> rfl
    · obtain ⟨W3, s3⟩ := W2.sxUpd (H2 := upd H2 p (.lst ([V.ref q, V.int r, V.int c, V.int m].set k (.int z)))) (cells2 := cells) (r2 := (sxSet r c m z k).1) (c2 := (sxSet r c m z k).2.1) (m2 := (sxSet r c m z k).2.2) h (by
        rw [upd_same]
        rcases hk with rfl | rfl | rfl <;> rfl) (by rw [upd_ne (Ne.symm ne)]; exact h4) (fun b hb _ => upd_ne hb)
      exact ts_iff.mpr ⟨B2, F, W3, o.step ((Step.of g).trans s3)⟩⟩
theorem dp_ints {K : PySem.W.Frag} {H : Hp} {q : Addr} (h : H q = some (.lst (cells.map V.int))) : Dp K H (.ref q) (.list (cells.map .int)) := .lst (SqL.of h) (RpA.ints cells).dp
theorem shaped_ints (l : List Int) : SeqAt.shaped (.list (l.map .int)) = true := by
  unfold SeqAt.shaped
  have h1 : PyData.canLay0 (.list (l.map .int)) = true := by
    simp only [PyData.canLay0]
    exact lay_map _ (fun _ => by simp [PyData.canLay0]) l
  have h2 := depth_map PyData.int 0 (fun _ => by simp [PyData.depth]) l
  have h3 : PyData.depth (.list (l.map .int)) = PyData.depthAll (l.map .int) + 1 := by simp only [PyData.depth]
  rw [h1, h3, Bool.true_and, decide_eq_true_eq]
  omega
/-- stream[0] != [] -/
theorem xt_stNe (i : Nat) {x : Str} {jj} (hu : X.A.units + 65 < cLine) (h : δ[i]? = some (.own (strmX p q cells r c m))) (hi : X.N[i]? = some x := by rfl) (hv : Vis X.env.scope x := by first | exact Or.inl rfl | exact Or.inr (Or.inl rfl) | exact Or.inr (Or.inr rfl)) (hd : (x == ("__debug__" : Str)) = false := by decide) (hcd : (x == ("__classdict__" : Str)) = false := by decide) :
    XT X δ (.Compare (.Subscript (.Name x p1) (.Constant (.int 0) jj p2) p3) [.NotEq] [.List [] p4] pos) (!cells.isEmpty) :=
  (pt_cmpR (op_neD (by omega)) (pe_ix ix_list (pe_var (i := i) hi hv hd hcd) pe_int (fun _ _ => rfl)) (xn_lst (δ := δ) xa_nil) (nomark _)).weak fun σ H Q ⟨B, F, W, q'⟩ => by
    obtain ⟨h1, _, h3, h4, _⟩ := W.sx h
    refine ⟨.ref p, h1, p, _, 0, .ref q, rfl, rfl, SqL.of h3, atI_hd _ _, B, F, W, fun l xs B2 H2 g hl hb h2 rr => ?_⟩
    refine ⟨.list (cells.map .int), .list [], dp_ints (g.hh _ _ h4), .lst (SqL.of h2) (by cases rr; exact .nil), shaped_ints _, shaped_ints [], !PyData.eqv (.list (cells.map .int)) (.list []), rfl, ?_⟩
    have e : PyData.eqv (.list (cells.map .int)) (.list []) = cells.isEmpty := by
      cases cells <;> simp [PyData.eqv, PyData.eqvAll]
    rw [e]
    exact q' B2 H2 g
/-- cell = stream[0].pop(0) -/
theorem xf_stPop (i : Nat) {x : Str} {jj j2} {zs : List Int} (h : δ[i]? = some (.own (strmX p q (z :: zs) r c m))) (hi : X.N[i]? = some x := by rfl) (hv : Vis X.env.scope x := by first | exact Or.inl rfl | exact Or.inr (Or.inl rfl) | exact Or.inr (Or.inr rfl)) (hd : (x == ("__debug__" : Str)) = false := by decide) (hcd : (x == ("__classdict__" : Str)) = false := by decide)
    {p5 : Pos} (hbase : attributeBase (.Subscript (.Name x p1) (.Constant (.int 0) jj p2) p3) "pop" X.env (eval (.Subscript (.Name x p1) (.Constant (.int 0) jj p2) p3) X.env) = eval (.Subscript (.Name x p1) (.Constant (.int 0) jj p2) p3) X.env := by rfl)
    (hfew : ((backTo pos (starEach [.Constant (.int 0) j2 p5] X.env)).all (fun x => !x.1) && (backToKw pos (keywordEach [] X.env)).all (fun x => x.1.isSome) && decide ([(.Constant (.int 0) j2 p5 : Expr)].length + ([] : List Keyword).length + (if ([] : List Keyword).isEmpty then 0 else 1) < 30)) = true := by rfl)
    (hline : (p4.endLine == pos.line) = true := by rfl) (hs : starEach [.Constant (.int 0) j2 p5] X.env = (false, eval (.Constant (.int 0) j2 p5) X.env) :: starEach [] X.env := by rfl) (hplain : (backTo pos (starEach [] X.env)).any (·.1) = false := by rfl) :
    XF X δ (.Call (.Attribute (.Subscript (.Name x p1) (.Constant (.int 0) jj p2) p3) "pop" p4) [.Constant (.int 0) j2 p5] [] pos) (fun d δ2 => d = .int z ∧ δ2 = δ.set i (.own (strmX p q zs r c m))) :=
  (pe_bm PySem.F.plainAttrs_list PySem.F.slot_list_pop PySem.F.type_list_pop mt_popAt (pe_ix ix_list (pe_var (i := i) hi hv hd hcd) pe_int (fun _ _ => rfl)) (pa_cons pe_int pa_nil hs) hbase hfew hline hs hplain).weak fun σ H Q ⟨B, F, W, q'⟩ => by
    obtain ⟨h1, _, h3, h4, _, _, ne⟩ := W.sx h
    refine ⟨.ref p, h1, p, _, 0, .ref q, rfl, rfl, SqL.of h3, atI_hd _ _, .inl ⟨rfl, _, SqL.of h4⟩, ?_⟩
    refine ⟨q, _, 0, 0, .int z, rfl, rfl, h4, by decide, by decide, ?_, rfl, ?_⟩
    · rw [List.length_map, List.length_cons]
      have : seqIndex? 0 (zs.length + 1) = some 0 := by
        have := PySem.StrLaws.seqIndex_nonneg (i := 0) (n := zs.length + 1) (by decide) (by omega)
        exact this
      exact this
    · obtain ⟨W3, s3⟩ := W.sxUpd (H2 := upd H q (.lst (((z :: zs).map V.int).eraseIdx 0))) (cells2 := zs) (r2 := r) (c2 := c) (m2 := m) h (by rw [upd_ne ne]; exact h3) (by rw [upd_same]; rfl) (fun b _ hb => upd_ne hb)
      exact q' _ (.int z) _ B _ F s3 W3 ⟨rfl, rfl⟩ (.int z)
/-! ### the start -/
def scrR (K : PySem.W.Frag) (ns : List Int) : Res where
  ok := fun B _ v fp => ∃ a, v = .ref a ∧ fp = [] ∧ SqL K B a (ns.map V.int)
  loc := fun {B B' H H' v fp} ⟨a, h1, h2, h3⟩ hb _ => ⟨a, h1, h2, hb.seq h3⟩
def SpStart (K : PySem.W.Frag) : Sp := fun vs H Q _ => ∃ (a : Addr) (ns : List Int), vs = [.ref a] ∧ SqL K H a (ns.map V.int) ∧ ∀ p q H2, H p = none → H q = none → p ≠ q → Same H H2 → H2 p = some (.lst [.ref q, .int 0, .int 0, .int 43]) → H2 q = some (.lst (ns.map V.int)) → Q (.ref p) H2
theorem xb_start (i j : Nat) {k : Nat} {f x y : Str} {ps : List Str} {ns : List Int} (G : Def X.prog X.w X.K X.mg X.base k f ps (SpStart X.K)) (hr : Room k X.A) (hj : δ[j]? = some (.own (scrR X.K ns))) (hl : ns.length ≤ 63) (hil : i < δ.length) (kk : ∀ p q, XB X (δ.set i (.own (strmR p q 0))) rest R) (hNd : X.N.Nodup)
    (hNj : X.N[j]? = some y := by rfl) (hvj : Vis X.env.scope y := by first | exact Or.inl rfl | exact Or.inr (Or.inl rfl) | exact Or.inr (Or.inr rfl)) (hdj : (y == ("__debug__" : Str)) = false := by decide) (hcj : (y == ("__classdict__" : Str)) = false := by decide) (hN : X.N[i]? = some x := by rfl) (hx : Loc X.env.scope x := by first | exact Or.inl rfl | exact Or.inr rfl)
    (hs : swapsWith (.Call (.Name f p1) [.Name y p2] [] p3) (some (.Name x p0)) pos.line X.env = pure false := by rfl) (hf : X.fn x = true ∨ X.env.scope.names.lookup x = some .local := by first | exact .inl rfl | exact .inr rfl | assumption)
    (hg : Gl X f := by rfl) (hdb : (f == ("__debug__" : Str)) = false := by decide) (he : starEach [.Name y p2] X.env = (false, eval (.Name y p2) X.env) :: starEach [] X.env := by rfl) (hpl : (backTo p3 (starEach [] X.env)).any (·.1) = false := by rfl) : XB X δ (.Assign [.Name x p0] (.Call (.Name f p1) [.Name y p2] [] p3) pos :: rest) R := by
  obtain ⟨fa, fd, h1, h2, h3, h4⟩ := G.ex
  refine xb_cons (ps_set hNd hN hx (pe_call h4 hr hg h1 h2 h3 .nil pass0 (pa_cons (pe_var (i := j) hNj hvj hdj hcj) pa_nil he) hdb he hpl) hs hf) (pss_ex fun z : Addr × Addr => kk z.1 z.2) fun D σ H B F W o => ?_
  obtain ⟨ov, a1, a2⟩ := W.sl j _ hj
  cases ov with
  | none => exact a2.elim
  | some v =>
    obtain ⟨a, rfl, hF, hS⟩ := a2
    refine ⟨.ref a, a1, ?_⟩
    show ∃ (a : Addr) (ns : List Int), _
    refine ⟨a, ns, rfl, W.bh.seq hS, fun p q H2 hp hq ne sm k1 k2 => ⟨(p, q), ?_⟩⟩
    have g : Grow B H B H2 := ⟨Same.refl B, W.bh.trans sm, sm, fun _ _ _ => rfl⟩
    have W2 := W.grow g
    have nF : ∀ b, H b = none → ∀ k, b ∉ F k := fun b hb k hk => by
      obtain ⟨_, u, hu⟩ := W.own k b hk
      rw [hb] at hu
      cases hu
    refine ts_iff.mpr ⟨B, _, W2.putO (r := strmR p q 0) (fp := [p, q]) hil ⟨ns, 0, 0, 43, ⟨hl, by decide, by decide, by decide, by decide, by decide⟩, rfl, rfl, k1, k2⟩ (fun b hb => ?_), o.step ⟨g.bb, fun b o e _ => g.hh b o e, fun b o e _ => rfl, fun b o e => ⟨o, g.hh b o e⟩, fun k b hb => ?_⟩⟩
    · rcases List.mem_cons.mp hb with e | e
      · rw [e]; exact ⟨⟨W.bh.free hp, _, k1⟩, fun k _ => nF p hp k⟩
      · rw [List.mem_singleton.mp e]; exact ⟨⟨W.bh.free hq, _, k2⟩, fun k _ => nF q hq k⟩
    · by_cases hk : k = i
      · rw [if_pos hk] at hb
        right
        rcases List.mem_cons.mp hb with e | e
        · rw [e]; exact hp
        · rw [List.mem_singleton.mp e]; exact hq
      · rw [if_neg hk] at hb
        exact .inl ⟨k, hb⟩
end
/-! ### the law -/
def SpLaw (K : PySem.W.Frag) : Sp := fun vs H Q _ => ∃ (a : Addr) (ns : List Int), vs = [.ref a] ∧ SqL K H a (ns.map V.int) ∧ ns.length ≤ 63 ∧ ∀ H', Q (.bl true) H'
section
variable {P : Program} {w : World} {K : PySem.W.Frag} {mg : Str → Option Value} {base : Heap}
theorem fn_law {x : Str} {st : Stmt} {N ps : List Str} {k : Nat} {fa : Addr} {fd : FuncData} (Fu : Fun K x x st fa fd) (S : FnScope N ps (defScope st)) (len : ps.length = 1) (hN : 1 ≤ N.length)
    (body : ∀ (X : Cx), (∃ (fa : Addr) (cdv : Value) (A : Around) (outer : List Env) (s : Shared) (H : Hp) (E : XK), Room k (A.deeper (envOfC x (defScope st) s.heap.objs.size fa cdv)) ∧ X = (cxOf CX0 P w K mg base N x (defScope st) fa cdv A outer s H E).nox) → ∀ ns : List Int, ns.length ≤ 63 → XB X (startD N [.own (scrR K ns)]) (defBody st) { rt := fun d _ => d = .bool true }) :
    FnOk P w K mg base CX0 (k + 1) fa fd ps (SpLaw K) := by
  refine Fu.ok S (fun vs H Q E h => ?_) (fun cdv A outer s H vs Q E hr h => ?_)
  · obtain ⟨a, ns, rfl, _⟩ := h
    exact len.symm
  · obtain ⟨a, ns, rfl, hS, hl, q⟩ := h
    refine ⟨_, body _ ⟨fa, cdv, A, outer, s, H, E, hr, rfl⟩ ns hl, ?_⟩
    have W : Wf K H H (L2.start N [.ref a]) (startD N [.own (scrR K ns)]) (fun _ => []) := by
      refine ⟨Same.refl H, ?_, fun i t e => ?_, fun _ _ => rfl, fun i j a h _ => (nomatch h), fun i a h => (nomatch h)⟩
      · unfold L2.start startD
        simp only [List.length_append, List.length_map, List.length_replicate, List.length_cons, List.length_nil]
      · cases i with
        | zero =>
          have e : some (Slot.own (scrR K ns)) = some t := e
          cases e
          exact ⟨some (.ref a), rfl, a, rfl, rfl, hS⟩
        | succ i =>
          have e : (List.replicate (N.length - 1) Slot.no)[i]? = some t := e
          rw [List.getElem?_replicate] at e
          split at e
          · rename_i hi
            cases e
            refine ⟨none, ?_, rfl⟩
            show (List.replicate (N.length - 1) none)[i]? = _
            rw [List.getElem?_replicate, if_pos hi]
          · cases e
    refine ts_iff.mpr ⟨H, _, W, fun _ _ _ _ _ _ _ h => h.elim, ?_, fun _ _ _ _ _ _ _ h => h.elim, fun _ _ _ _ _ _ _ h => h.elim⟩
    intro v d σ2 δ2 B2 H2 F2 s2 W2 e r2
    have e : d = .bool true := e
    subst e
    cases r2
    exact q H2
end
end Dl

set_option Elab.async false
set_option linter.all false
set_option maxRecDepth 100000
set_option maxHeartbeats 4000000
/-! The data level: zip of what is alike; trees without dicts. -/
namespace Dl
open PySem PySem.Spec PyProof.Rows L2
section
variable {X : Cx} {δ : List Slot} {a b c e tg iter : Expr} {pos p : Pos} {ds ds2 : List PyData} {es : List Expr} {d d1 d2 : PyData}
theorem wk_zipT {K : PySem.W.Frag} {B : Hp} {a b : Addr} {xs ys : List V} (h : SqT K B a xs) (r : RpA K B xs ds) (h' : SqT K B b ys) (r' : RpA K B ys ds2) : Wk K (RZ.ItzT K a b) B (zipD ds ds2) where
  go := fun i H s hi => by
    rw [zipD_length] at hi
    have hx : i < xs.length := by rw [r.length]; omega
    have hy : i < ys.length := by rw [r'.length]; omega
    exact ⟨xs, ys, xs[i], ys[i], same_t s h, same_t s h', List.getElem?_eq_getElem hx, List.getElem?_eq_getElem hy⟩
  yld := fun i B1 H x H2 s1 s2 hy d hd => by
    obtain ⟨T, y, z, rfl, hT, rfl, hv, hw⟩ := hy
    obtain ⟨d1, h1, h2⟩ := r.get (hv xs (same_t s2 (same_t s1 h)))
    obtain ⟨d2, h3, h4⟩ := r'.get (hw ys (same_t s2 (same_t s1 h')))
    obtain ⟨u, w, h5, h6, rfl⟩ := zipD_get hd
    rw [h5] at h1
    rw [h6] at h3
    cases h1
    cases h3
    have g := Grow.new (o := .tup [y, z]) s2 hT
    exact ⟨_, g, .tup (.inl (.inl upd_same)) (.cons ((h2.mono s1).mono g.bb) (.cons ((h4.mono s1).mono g.bb) .nil))⟩
  stop := fun H s => ⟨xs, ys, same_t s h, same_t s h', by rw [zipD_length, r.length, r'.length]; omega⟩
theorem xi_zipA {elts : List Expr} {kk : Nat} {tpos : Pos} (hm : X.mg "zip" = none) (ha : XE X δ a d1) (hb : XE X δ b d2) (h1 : SeqD d1 ds) (h2 : SeqD d2 ds2) (hk : isListD d1 = isListD d2) (hg : Gl X "zip" := by rfl)
    (hs : starEach [a, b] X.env = (false, eval a X.env) :: starEach [b] X.env := by rfl) (hs2 : starEach [b] X.env = (false, eval b X.env) :: starEach [] X.env := by rfl) (hpl : (backTo pos (starEach [b] X.env)).any (·.1) = false := by rfl) :
    XI X (.Tuple elts kk tpos) δ (.Call (.Name "zip" p) [a, b] [] pos) (zipD ds ds2) :=
  (RZ.pi_zipA hg hm (xa_cons ha (xa_cons hb xa_nil hs2) hs) hs hpl).weak fun σ H R ⟨B, F, W, q⟩ => ⟨B, F, W, fun vs B2 H2 g r => by
    cases r with
    | cons r1 r2 =>
      cases r2 with
      | cons r3 r4 =>
        cases r4
        cases h1 with
        | lst =>
          cases h2 with
          | lst =>
            cases r1 with
            | @lst a xs _ h1 r1 =>
              cases r3 with
              | @lst b ys _ h3 r3 => exact ⟨a, b, xs, ys, rfl, .inl ⟨SqL.of (g.bh _ _ h1), SqL.of (g.bh _ _ h3), q _ B2 H2 g (wk_zip h1 r1 h3 r3)⟩⟩
          | tup => cases hk
        | tup =>
          cases h2 with
          | lst => cases hk
          | tup =>
            cases r1 with
            | @tup a xs _ h1 r1 =>
              cases r3 with
              | @tup b ys _ h3 r3 => exact ⟨a, b, xs, ys, rfl, .inr ⟨same_t g.bh h1, same_t g.bh h3, q _ B2 H2 g (wk_zipT h1 r1 h3 r3)⟩⟩⟩
theorem xg_lst {k : Nat} {is : List Nat} {δ2 : List Slot} (hc : X.calm = true) (h : XGs X es is ds δ δ2) (hl : ds.length = es.length) (hn : (assignEach es X.env).length = es.length := by rfl) (hst : (assignEach es X.env).findIdx? (·.1) = none := by rfl) : XG X (.Tuple es k pos) is (.list ds) δ δ2 :=
  (pg_lst hc h hn hst).weak fun v σ H Q ⟨B, F, W, r, q⟩ => by
    cases r with
    | @lst a xs _ h1 r1 => exact ⟨a, xs, rfl, SqL.of (W.bh _ _ h1), by rw [r1.length, hl], B, F, W, r1, q⟩
theorem zipD_self : ∀ l : List PyData, zipD l l = l.map fun y => .tuple [y, y]
  | [] => rfl
  | a :: l => by
    have := zipD_self l
    unfold zipD at this ⊢
    rw [List.zip_cons_cons, List.map_cons, this]
    rfl
end
/-- data without dicts, of a depth -/
inductive Tree : Nat → PyData → Prop
  | non (m : Nat) : Tree m .none
  | bl (m : Nat) (b : Bool) : Tree m (.bool b)
  | int (m : Nat) (i : Int) : Tree m (.int i)
  | str (m : Nat) (x : Str) : Tree m (.str x)
  | lst {m : Nat} {l : List PyData} (hz : l.length ≤ 1000000) (h : ∀ y ∈ l, Tree m y) : Tree (m + 1) (.list l)
  | tup {m : Nat} {l : List PyData} (hz : l.length ≤ 1000000) (h : ∀ y ∈ l, Tree m y) : Tree (m + 1) (.tuple l)
def F_copied (m : Nat) (ds : List PyData) (d : PyData) : Prop := ∃ x, ds = [x] ∧ Tree m x ∧ d = x
def F_same (m : Nat) (ds : List PyData) (d : PyData) : Prop := ∃ x, ds = [x, x] ∧ Tree m x ∧ d = .bool true
theorem map_id' {ι : Type} (l : List ι) : (l.map fun d => d) = l := List.map_id' _
theorem Tree.bools (m : Nat) (l : List Bool) (hz : l.length ≤ 1000000) : Tree (m + 1) (.list (l.map .bool)) := .lst (by rw [List.length_map]; exact hz) fun y hy => by
  obtain ⟨b, _, rfl⟩ := List.mem_map.mp hy
  exact .bl m b
theorem Tree.boolsT (m : Nat) (l : List Bool) (hz : l.length ≤ 1000000) : Tree (m + 1) (.tuple (l.map .bool)) := .tup (by rw [List.length_map]; exact hz) fun y hy => by
  obtain ⟨b, _, rfl⟩ := List.mem_map.mp hy
  exact .bl m b
end Dl

set_option Elab.async false
set_option linter.all false
set_option maxRecDepth 100000
set_option maxHeartbeats 4000000
/-! The data level: sorted(dict(pairs)) of ints. -/
namespace Dl
open PySem PySem.Spec PyProof.Rows L2
theorem putK_old (kvs : List (Key × V)) (k : Key) (v : V) (h : k ∈ kvs.map (·.1)) : (putK kvs k v).map (·.1) = kvs.map (·.1) := by
  unfold putK
  rw [if_pos (by
      obtain ⟨x, hx, e⟩ := List.mem_map.mp h
      exact List.any_eq_true.mpr ⟨x, hx, decide_eq_true e⟩), List.map_map]
  refine List.map_congr_left fun x _ => ?_
  show (if x.1 = k then (x.1, v) else x).1 = x.1
  split <;> rfl
theorem putK_fresh (kvs : List (Key × V)) (k : Key) (v : V) (h : k ∉ kvs.map (·.1)) : (putK kvs k v).map (·.1) = kvs.map (·.1) ++ [k] := by
  unfold putK
  rw [if_neg (by
      intro hh
      obtain ⟨x, hx, e⟩ := List.any_eq_true.mp hh
      exact h (List.mem_map.mpr ⟨x, hx, of_decide_eq_true e⟩)), List.map_append]
  rfl
theorem mergeK_keys (v : V) : ∀ (ns : List Int) (kvs : List (Key × V)) (ks : List Int), kvs.map (·.1) = ks.map Sum.inl → ks.Nodup → ∃ ks2 : List Int, (mergeK kvs (ns.map fun n => (Sum.inl n, v))).map (·.1) = ks2.map Sum.inl ∧ ks2.Nodup ∧ ks2.length ≤ ks.length + ns.length ∧ ∀ n, n ∈ ks2 ↔ n ∈ ks ∨ n ∈ ns
  | [], kvs, ks, e, hn => ⟨ks, e, hn, Nat.le_refl _, fun n => by simp⟩
  | n :: ns, kvs, ks, e, hn => by
    by_cases h : n ∈ ks
    · have e1 := putK_old kvs (Sum.inl n) v (by rw [e]; exact List.mem_map.mpr ⟨n, h, rfl⟩)
      rw [e] at e1
      obtain ⟨ks2, a, b, c, d⟩ := mergeK_keys v ns (putK kvs (Sum.inl n) v) ks e1 hn
      refine ⟨ks2, a, b, by rw [List.length_cons]; omega, fun m => ?_⟩
      rw [d, List.mem_cons]
      constructor
      · rintro (h1 | h1)
        · exact .inl h1
        · exact .inr (.inr h1)
      · rintro (h1 | rfl | h1)
        · exact .inl h1
        · exact .inl h
        · exact .inr h1
    · have e1 := putK_fresh kvs (Sum.inl n) v (by
        rw [e]
        intro z
        obtain ⟨m, hm, em⟩ := List.mem_map.mp z
        cases em
        exact h hm)
      rw [e] at e1
      have e2 : (putK kvs (Sum.inl n) v).map (·.1) = (ks ++ [n]).map Sum.inl := by rw [e1, List.map_append]; rfl
      obtain ⟨ks2, a, b, c, d⟩ := mergeK_keys v ns (putK kvs (Sum.inl n) v) (ks ++ [n]) e2 (by
        rw [List.nodup_append]
        refine ⟨hn, List.nodup_cons.mpr ⟨by simp, List.nodup_nil⟩, fun x hx y hy => ?_⟩
        rw [List.mem_singleton.mp hy]
        exact fun z => h (by rw [← z]; exact hx))
      refine ⟨ks2, a, b, by rw [List.length_append] at c; rw [List.length_cons]; simp at c; omega, fun m => ?_⟩
      rw [d, List.mem_append, List.mem_singleton, List.mem_cons, or_assoc]
theorem paired_mono {α β : Type} {F G : α → β → Prop} (h : ∀ a b, F a b → G a b) : ∀ {l : List α} {r : List β}, Paired F l r → Paired G l r
  | _, _, .nil => .nil
  | _, _, .cons x y => .cons (h _ _ x) (paired_mono h y)
theorem pairs_rp {K : PySem.W.Frag} {H : Hp} {z : Int} : ∀ {ns : List Int} {vs : List V}, RpA K H vs (ns.map fun n => PyData.tuple [.int n, .int z]) → ∃ ps : List Addr, vs = ps.map V.ref ∧ Paired (fun p (kv : Key × V) => SqT K H p [kV kv.1, kv.2]) ps (ns.map fun n => (Sum.inl n, V.int z))
  | [], _, .nil => ⟨[], rfl, .nil⟩
  | n :: ns, _, .cons (.tup (a := a) hs r0) r => by
    obtain ⟨ps, e, hp⟩ := pairs_rp r
    have e0 := RpA.ints_inv (ns := [n, z]) r0
    subst e0
    exact ⟨a :: ps, by rw [e]; rfl, .cons hs hp⟩
section
variable {X : Cx} {δ : List Slot} {a : Expr} {p p1 pos pos1 : Pos}
theorem xn_sortedDict {ns ys : List Int} {z : Int} (hm : X.mg "sorted" = none) (hm2 : X.mg "dict" = none) (he : XE X δ a (.list (ns.map fun n => .tuple [.int n, .int z]))) (hl : ns.length < 64) (h1 : ys.Nodup) (h2 : ys.Pairwise (· ≤ ·)) (h3 : ∀ n, n ∈ ys ↔ n ∈ ns) (hc : X.calm = true := by rfl) (hg : Gl X "sorted" := by rfl) (hg2 : Gl X "dict" := by rfl)
    (hs : starEach [a] X.env = (false, eval a X.env) :: starEach [] X.env := by rfl) (hs2 : starEach [.Call (.Name "dict" p1) [a] [] pos1] X.env = (false, eval (.Call (.Name "dict" p1) [a] [] pos1) X.env) :: starEach [] X.env := by rfl) (hpl : (backTo pos1 (starEach [] X.env)).any (·.1) = false := by rfl) (hpl2 : (backTo pos (starEach [] X.env)).any (·.1) = false := by rfl) :
    XN X δ (.Call (.Name "sorted" p) [.Call (.Name "dict" p1) [a] [] pos1] [] pos) (ys.map .int) :=
  (pe_callB (call_sortedDI hc) hg hm boot_sorted (pa_cons (pe_callTy (call_dictP hc) hg2 hm2 boot_dict (pa_cons he pa_nil hs) (by decide) (by decide) hs hpl) pa_nil hs2) (by decide) (by decide) hs2 hpl2).weak fun σ H Q ⟨B, F, W, q⟩ => ⟨B, F, W, fun v B1 H1 g1 r1 => by
    cases r1 with
    | @lst l xs _ e1 r1 =>
      obtain ⟨ps, rfl, hp⟩ := pairs_rp r1
      obtain ⟨ks2, k1, k2, k3, k4⟩ := mergeK_keys (V.int z) ns [] [] rfl List.nodup_nil
      refine ⟨l, ps, ns.map fun n => (Sum.inl n, V.int z), rfl, SqL.of (g1.bh _ _ e1), ?_, fun d hd => ?_⟩
      · exact paired_mono (fun _ _ h => same_t g1.bh h) hp
      refine ⟨d, _, ks2, rfl, .inl upd_same, k1, by simp at k3; omega, fun ws t hperm hsrt ht => ?_⟩
      have e : ws = ys := by
        have hnd : ws.Nodup := hperm.nodup_iff.mpr k2
        have hpp : ws.Perm ys := (List.perm_ext_iff_of_nodup hnd h1).mpr fun n => by rw [hperm.mem_iff, k4, h3]; simp
        exact hpp.eq_of_pairwise (fun a b _ _ x y => Int.le_antisymm x y) hsrt h2
      subst e
      have g2 : Grow B1 H1 B1 (upd H1 d (.dK (mergeK [] (ns.map fun n => (Sum.inl n, V.int z))))) := Grow.newH g1.bh hd
      have g3 := Grow.newH (o := .lst (ws.map V.int)) g2.bh ht
      have g := (g1.trans g2).trans g3
      have ht1 : H1 t = none := g2.hh.free ht
      exact q t _ B1 _ g (g1.hh.free ht1) (g1.bh.free ht1) upd_same (RpA.ints ws)⟩
end
end Dl

/-! The mathematics of sets of numbers that come round. -/
set_option linter.all false
namespace Sm
abbrev S := List Bool × List Bool
def roundOk (r : List Bool) (p : Nat) : Bool := r.length % p == 0 && decide (r.drop p = r.take (r.length - p))
/-- the least p from a on that is a round's size; n how many are still to be tried -/
def roundFrom (r : List Bool) : Nat → Nat → Nat
  | 0, p => p
  | n + 1, p => if roundOk r p then p else roundFrom r n (p + 1)
def roundSize (r : List Bool) : Nat := roundFrom r (r.length - 1) 1
def leastLoop : Nat → List Bool → List Bool → S
  | 0, f, r => (f, r)
  | n + 1, f, r => if f ≠ [] ∧ f.getLast? = r.getLast? then leastLoop n f.dropLast ((r.getLast?.toList) ++ r.dropLast) else (f, r)
def leastOf (f r : List Bool) : S := leastLoop f.length f (r.take (roundSize r))
def inS (s : S) (n : Nat) : Bool := if n < s.1.length then s.1.getD n false else s.2.getD ((n - s.1.length) % s.2.length) false
theorem roundOk_len {r : List Bool} : roundOk r r.length = true := by
  unfold roundOk
  simp
theorem roundFrom_spec (r : List Bool) (hr : r ≠ []) : ∀ (n p : Nat), 1 ≤ p → p + n = r.length → p ≤ roundFrom r n p ∧ roundFrom r n p ≤ r.length ∧ roundOk r (roundFrom r n p) = true ∧ ∀ q, p ≤ q → q < roundFrom r n p → roundOk r q = false
  | 0, p, h1, h2 => by
    have e : p = r.length := by omega
    subst e
    refine ⟨Nat.le_refl _, Nat.le_refl _, ?_, fun q h3 h4 => ?_⟩
    · show roundOk r r.length = true
      exact roundOk_len
    · exact absurd (Nat.lt_of_le_of_lt h3 h4) (Nat.lt_irrefl _)
  | n + 1, p, h1, h2 => by
    unfold roundFrom
    by_cases h : roundOk r p = true
    · rw [if_pos h]
      exact ⟨Nat.le_refl _, by omega, h, fun q h3 h4 => absurd (Nat.lt_of_le_of_lt h3 h4) (Nat.lt_irrefl _)⟩
    · rw [if_neg h]
      obtain ⟨a, b, c, d⟩ := roundFrom_spec r hr n (p + 1) (by omega) (by omega)
      refine ⟨by omega, b, c, fun q h3 h4 => ?_⟩
      by_cases e : q = p
      · rw [e]
        cases hp : roundOk r p with
        | true => exact absurd hp h
        | false => rfl
      · exact d q (by omega) h4
theorem roundSize_spec {r : List Bool} (hr : r ≠ []) : 1 ≤ roundSize r ∧ roundSize r ≤ r.length ∧ roundOk r (roundSize r) = true ∧ ∀ q, 1 ≤ q → q < roundSize r → roundOk r q = false := by
  have : 0 < r.length := List.length_pos_iff.mpr hr
  exact roundFrom_spec r hr (r.length - 1) 1 (Nat.le_refl _) (by omega)
/-- a size that is good, none below it being so, is the round's -/
theorem roundSize_eq {r : List Bool} {p : Nat} (hr : r ≠ []) (h1 : 1 ≤ p) (h2 : roundOk r p = true) (h3 : ∀ q, 1 ≤ q → q < p → roundOk r q = false) : roundSize r = p := by
  obtain ⟨a, b, c, d⟩ := roundSize_spec hr
  by_cases e : p < roundSize r
  · rw [d p h1 e] at h2
    cases h2
  · by_cases e2 : roundSize r < p
    · rw [h3 _ a e2] at c
      cases c
    · omega
end Sm
namespace Sm
def setBy (s t : S) (p : Bool → Bool → Bool) : S :=
  let b := max s.1.length t.1.length
  let z := Nat.lcm s.2.length t.2.length
  let row := (List.range (b + z)).map fun n => p (inS s n) (inS t n)
  leastOf (row.take b) (row.drop b)
def otherOf (s : S) : S := (s.1.map not, s.2.map not)
def firstOf (s : S) : Option Nat := ((List.range (s.1.length + s.2.length)).filter (inS s)).head?
def setOf (l : List Nat) : S := leastOf ((List.range 60).map fun n => l.contains n) [false]
def upBy (s : S) (k : Nat) : S := leastOf (List.replicate k false ++ s.1) s.2
def downBy (s : S) (k : Nat) : S :=
  let b := s.1.length - k
  let row := (List.range (b + s.2.length)).map fun n => inS s (n + k)
  leastOf (row.take b) (row.drop b)
def lowBy (s : S) (k : Nat) : S :=
  let t := downBy s k
  let b := max 1 t.1.length
  let row := ((List.range (b + t.2.length)).map (inS t)).set 0 ((List.range (k + 1)).any (inS s))
  leastOf (row.take b) (row.drop b)
def sumSet (s t : S) : S :=
  let z := Nat.lcm s.2.length t.2.length
  let b := s.1.length + t.1.length + z
  let row := (List.range (b + z)).map fun n => (List.range (n + 1)).any fun k => inS s k && inS t (n - k)
  leastOf (row.take b) (row.drop b)
end Sm
namespace Sm
def maskOf (s : S) (n : Nat) : Nat := (((List.range n).filter (inS s)).map fun k => 2 ^ k).sum
theorem maskOf_succ (s : S) (n : Nat) : maskOf s (n + 1) = maskOf s n + if inS s n then 2 ^ n else 0 := by
  unfold maskOf
  rw [List.range_succ, List.filter_append, List.map_append, List.sum_append]
  congr 1
  cases h : inS s n with
  | true => simp [h]
  | false => simp [h]
theorem maskOf_lt (s : S) : ∀ n : Nat, maskOf s n < 2 ^ n
  | 0 => by simp [maskOf]
  | n + 1 => by
    rw [maskOf_succ]
    have := maskOf_lt s n
    rw [Nat.pow_succ]
    split <;> omega
theorem maskOf_bit (s : S) : ∀ (n k : Nat), (maskOf s n).testBit k = (decide (k < n) && inS s k)
  | 0, k => by simp [maskOf]
  | n + 1, k => by
    rw [maskOf_succ]
    have hlt := maskOf_lt s n
    have ih := maskOf_bit s n k
    cases h : inS s n with
    | true =>
      rw [if_pos rfl, Nat.add_comm]
      by_cases hk : k < n
      · rw [Nat.testBit_two_pow_add_gt hk, ih, decide_eq_true hk, decide_eq_true (show k < n + 1 by omega)]
      · by_cases e : k = n
        · subst e
          rw [Nat.testBit_two_pow_add_eq, ih, decide_eq_false hk, h, decide_eq_true (Nat.lt_succ_self k)]
          rfl
        · have h2 : 2 ^ n + maskOf s n < 2 ^ k := by
            have : 2 ^ (n + 1) ≤ 2 ^ k := Nat.pow_le_pow_right (by decide) (by omega)
            rw [Nat.pow_succ] at this
            omega
          rw [Nat.testBit_lt_two_pow h2, decide_eq_false (show ¬ k < n + 1 by omega)]
          rfl
    | false =>
      rw [if_neg (by decide), Nat.add_zero, ih]
      by_cases hk : k < n
      · rw [decide_eq_true hk, decide_eq_true (show k < n + 1 by omega)]
      · by_cases e : k = n
        · subst e
          rw [h, Bool.and_false, Bool.and_false]
        · rw [decide_eq_false hk, decide_eq_false (show ¬ k < n + 1 by omega)]
/-- the or of the masks moved by the numbers below n -/
def bothOf (s t : S) (N : Nat) : Nat → Nat
  | 0 => 0
  | n + 1 => if inS s n then bothOf s t N n ||| (maskOf t N * 2 ^ n) else bothOf s t N n
theorem bothOf_succ (s t : S) (N n : Nat) : bothOf s t N (n + 1) = if inS s n then bothOf s t N n ||| (maskOf t N * 2 ^ n) else bothOf s t N n := rfl
theorem bothOf_bit (s t : S) (N : Nat) : ∀ (n k : Nat), (bothOf s t N n).testBit k = (List.range n).any fun j => inS s j && (decide (j ≤ k) && (decide (k - j < N) && inS t (k - j)))
  | 0, k => by simp [bothOf]
  | n + 1, k => by
    have ih := bothOf_bit s t N n k
    rw [List.range_succ, List.any_append, ← ih, bothOf_succ]
    cases h : inS s n with
    | true =>
      rw [if_pos rfl, Nat.testBit_or, ← Nat.shiftLeft_eq, Nat.testBit_shiftLeft, maskOf_bit]
      simp [h]
    | false =>
      rw [if_neg (by decide)]
      simp [h]
end Sm
namespace Sm
theorem roundSize_le {r : List Bool} {p : Nat} (hr : r ≠ []) (h1 : 1 ≤ p) (h2 : roundOk r p = true) : roundSize r ≤ p := by
  obtain ⟨a, b, c, d⟩ := roundSize_spec hr
  by_cases e : p < roundSize r
  · rw [d p h1 e] at h2
    cases h2
  · omega
theorem roundOk_double (r : List Bool) : roundOk (r ++ r) r.length = true := by
  unfold roundOk
  have : (r ++ r).length - r.length = r.length := by rw [List.length_append]; omega
  rw [this, List.drop_left, List.take_left, List.length_append]
  simp [← Nat.two_mul]
end Sm

set_option linter.all false
namespace Sm
def Per (f : Nat → Bool) (k p : Nat) : Prop := ∀ n, k ≤ n → f (n + p) = f n
theorem Per.mul {f : Nat → Bool} {k p : Nat} (h : Per f k p) : ∀ (c n : Nat), k ≤ n → f (n + p * c) = f n
  | 0, n, hn => by rw [Nat.mul_zero, Nat.add_zero]
  | c + 1, n, hn => by
    rw [Nat.mul_succ, ← Nat.add_assoc, h _ (by omega), h.mul c n hn]
theorem Per.dvd {f : Nat → Bool} {k p q : Nat} (h : Per f k p) (hd : p ∣ q) : Per f k q := fun n hn => by
  obtain ⟨c, rfl⟩ := hd
  exact h.mul c n hn
theorem Per.le {f : Nat → Bool} {k k' p : Nat} (h : Per f k p) (hk : k ≤ k') : Per f k' p := fun n hn => h n (Nat.le_trans hk hn)
theorem Per.mod {f : Nat → Bool} {k p : Nat} (h : Per f k p) (j : Nat) : f (k + j % p) = f (k + j) := by
  have h1 := h.mul (j / p) (k + j % p) (by omega)
  rw [← h1, Nat.add_assoc, Nat.mod_add_div]
/-- a length that comes round from any place on does so from the place of another such length -/
theorem Per.back {f : Nat → Bool} {k k' p q : Nat} (h : Per f k p) (hp : 1 ≤ p) (g : Per f k' q) : Per f k q := fun n hn => by
  have h1 := h.mul k' n hn
  have h2 := h.mul k' (n + q) (by omega)
  have h3 : k' ≤ n + p * k' := by
    have : 1 * k' ≤ p * k' := Nat.mul_le_mul_right _ hp
    omega
  have h4 := g (n + p * k') h3
  rw [← h1, ← h2, ← h4]
  congr 1
  omega
theorem Per.gcd {f : Nat → Bool} {k : Nat} : ∀ (a b : Nat), Per f k a → Per f k b → Per f k (Nat.gcd a b) := fun a b => by
  induction a, b using Nat.gcd.induction with
  | H0 n =>
    intro _ h
    rw [Nat.gcd_zero_left]
    exact h
  | H1 m n hm ih =>
    intro h1 h2
    rw [Nat.gcd_rec]
    refine ih (fun x hx => ?_) h1
    have := h1.mul (n / m) (x + n % m) (by omega)
    rw [← this, Nat.add_assoc, Nat.mod_add_div]
    exact h2 x hx
theorem inS_lt {s : S} {n : Nat} (h : n < s.1.length) : inS s n = s.1[n] := by
  unfold inS
  rw [if_pos h, List.getD_eq_getElem?_getD, List.getElem?_eq_getElem h]
  rfl
theorem inS_ge {s : S} {n : Nat} (h : s.1.length ≤ n) : inS s n = s.2.getD ((n - s.1.length) % s.2.length) false := by
  unfold inS
  rw [if_neg (by omega)]
theorem per_inS (s : S) : Per (inS s) s.1.length s.2.length := fun n hn => by
  rw [inS_ge hn, inS_ge (by omega), show n + s.2.length - s.1.length = (n - s.1.length) + s.2.length by omega, Nat.add_mod_right]
theorem few_eq (s : S) : s.1 = (List.range s.1.length).map (inS s) := by
  refine List.ext_getElem (by rw [List.length_map, List.length_range]) fun n h1 h2 => ?_
  rw [List.getElem_map, List.getElem_range, inS_lt h1]
theorem ring_eq (s : S) : s.2 = (List.range s.2.length).map fun j => inS s (s.1.length + j) := by
  refine List.ext_getElem (by rw [List.length_map, List.length_range]) fun n h1 h2 => ?_
  rw [List.getElem_map, List.getElem_range, inS_ge (by omega), show s.1.length + n - s.1.length = n by omega, Nat.mod_eq_of_lt h1, List.getD_eq_getElem?_getD, List.getElem?_eq_getElem h1]
  rfl
structure Canon (s : S) : Prop where
  ne : s.2 ≠ []
  per : ∀ q k, 1 ≤ q → Per (inS s) k q → s.2.length ≤ q
  few : ∀ k, Per (inS s) k s.2.length → s.1.length ≤ k
theorem Canon.pos {s : S} (h : Canon s) : 1 ≤ s.2.length := List.length_pos_iff.mpr h.ne
theorem Canon.eq {s t : S} (hs : Canon s) (ht : Canon t) (h : ∀ n, inS s n = inS t n) : s = t := by
  have hf : inS s = inS t := funext h
  have hp : s.2.length = t.2.length := by
    have h1 := hs.per _ _ ht.pos (by rw [hf]; exact per_inS t)
    have h2 := ht.per _ _ hs.pos (by rw [← hf]; exact per_inS s)
    omega
  have hk : s.1.length = t.1.length := by
    have h1 := hs.few t.1.length (by rw [hf, hp]; exact per_inS t)
    have h2 := ht.few s.1.length (by rw [← hf, ← hp]; exact per_inS s)
    omega
  have e1 : s.1 = t.1 := by rw [few_eq s, few_eq t, hk, hf]
  have e2 : s.2 = t.2 := by rw [ring_eq s, ring_eq t, hp, hk, hf]
  exact Prod.ext e1 e2
theorem Canon.iff {s t : S} (hs : Canon s) (ht : Canon t) : s = t ↔ ∀ n, inS s n = inS t n := ⟨fun h n => by rw [h], hs.eq ht⟩
/-! the row of a set -/
theorem inS_row {h : Nat → Bool} {b z : Nat} (hp : Per h b z) (hz : 0 < z) (n : Nat) : inS (((List.range (b + z)).map h).take b, ((List.range (b + z)).map h).drop b) n = h n := by
  have l1 : (((List.range (b + z)).map h).take b).length = b := by rw [List.length_take, List.length_map, List.length_range]; omega
  have l2 : (((List.range (b + z)).map h).drop b).length = z := by rw [List.length_drop, List.length_map, List.length_range]; omega
  by_cases hn : n < b
  · rw [inS_lt (by rw [l1]; exact hn)]
    show (((List.range (b + z)).map h).take b)[n]'(by rw [l1]; exact hn) = _
    rw [List.getElem_take, List.getElem_map, List.getElem_range]
  · rw [inS_ge (by rw [l1]; omega)]
    show (((List.range (b + z)).map h).drop b).getD ((n - (((List.range (b + z)).map h).take b).length) % (((List.range (b + z)).map h).drop b).length) false = _
    rw [l1, l2]
    have hm : (n - b) % z < z := Nat.mod_lt _ hz
    rw [List.getD_eq_getElem?_getD, List.getElem?_drop, List.getElem?_map, List.getElem?_range (by omega)]
    show h (b + (n - b) % z) = h n
    rw [hp.mod]
    congr 1
    omega
/-! the loop -/
theorem rot_get (a : Bool) (r : List Bool) (j : Nat) : (a :: r).getD ((j + 1) % (r.length + 1)) false = (r ++ [a]).getD (j % (r.length + 1)) false := by
  have hm : j % (r.length + 1) < r.length + 1 := Nat.mod_lt _ (Nat.succ_pos _)
  have e : (j + 1) % (r.length + 1) = if j % (r.length + 1) = r.length then 0 else j % (r.length + 1) + 1 := by
    rw [Nat.add_mod]
    by_cases h0 : r.length = 0
    · rw [h0]
      simp [Nat.mod_one]
    · have h1 : 1 % (r.length + 1) = 1 := Nat.mod_eq_of_lt (by omega)
      rw [h1]
      split
      · rename_i h2
        rw [h2, Nat.mod_self]
      · exact Nat.mod_eq_of_lt (by omega)
  rw [e]
  generalize j % (r.length + 1) = i at hm
  split
  · rename_i h2
    subst h2
    simp [List.getD_eq_getElem?_getD]
  · rename_i h2
    simp only [List.getD_eq_getElem?_getD]
    rw [List.getElem?_cons_succ, List.getElem?_append_left (by omega)]
theorem inS_rot (f r : List Bool) (a : Bool) (n : Nat) : inS (f, a :: r) n = inS (f ++ [a], r ++ [a]) n := by
  have la : (f ++ [a]).length = f.length + 1 := by rw [List.length_append]; rfl
  have lr : (r ++ [a]).length = r.length + 1 := by rw [List.length_append]; rfl
  by_cases h1 : n < f.length
  · rw [inS_lt (s := (f, a :: r)) h1, inS_lt (s := (f ++ [a], r ++ [a])) (show n < (f ++ [a]).length by omega)]
    show f[n] = (f ++ [a])[n]
    rw [List.getElem_append_left h1]
  · by_cases h2 : n = f.length
    · subst h2
      rw [inS_ge (s := (f, a :: r)) (Nat.le_refl _), inS_lt (s := (f ++ [a], r ++ [a])) (show f.length < (f ++ [a]).length by omega)]
      simp
    · rw [inS_ge (s := (f, a :: r)) (show f.length ≤ n by omega), inS_ge (s := (f ++ [a], r ++ [a])) (show (f ++ [a]).length ≤ n by omega)]
      show (a :: r).getD ((n - f.length) % (r.length + 1)) false = (r ++ [a]).getD ((n - (f ++ [a]).length) % (r ++ [a]).length) false
      rw [la, lr, show n - f.length = (n - (f.length + 1)) + 1 by omega, rot_get]
theorem leastLoop_spec : ∀ (n : Nat) (f r : List Bool), f.length = n → r ≠ [] → (∀ m, inS (leastLoop n f r) m = inS (f, r) m) ∧ (leastLoop n f r).2.length = r.length ∧ (leastLoop n f r).1.length ≤ f.length ∧ ((leastLoop n f r).1 = [] ∨ (leastLoop n f r).1.getLast? ≠ (leastLoop n f r).2.getLast?)
  | 0, f, r, hf, hr => ⟨fun _ => rfl, rfl, Nat.le_refl _, .inl (List.length_eq_zero_iff.mp hf)⟩
  | n + 1, f, r, hf, hr => by
    unfold leastLoop
    split
    · rename_i h
      obtain ⟨hne, hl⟩ := h
      obtain ⟨a, ha⟩ : ∃ a, r.getLast? = some a := ⟨_, List.getLast?_eq_some_getLast hr⟩
      obtain ⟨r', rfl⟩ := List.getLast?_eq_some_iff.mp ha
      rw [ha] at hl
      obtain ⟨f', rfl⟩ := List.getLast?_eq_some_iff.mp hl
      rw [ha, List.dropLast_concat, List.dropLast_concat]
      show (∀ m, inS (leastLoop n f' (a :: r')) m = _) ∧ _
      have hf' : f'.length = n := by
        rw [List.length_append] at hf
        simpa using hf
      obtain ⟨h1, h2, h3, h4⟩ := leastLoop_spec n f' (a :: r') hf' (List.cons_ne_nil _ _)
      refine ⟨fun m => by rw [h1, inS_rot], ?_, ?_, h4⟩
      · show (leastLoop n f' (a :: r')).2.length = _
        rw [h2, List.length_cons, List.length_append]
        rfl
      · show (leastLoop n f' (a :: r')).1.length ≤ _
        rw [List.length_append]
        omega
    · rename_i h
      refine ⟨fun _ => rfl, rfl, Nat.le_refl _, ?_⟩
      by_cases hne : f = []
      · exact .inl hne
      · exact .inr fun hl => h ⟨hne, hl⟩
theorem round_get {r : List Bool} {p : Nat} (h : roundOk r p = true) (hp : 1 ≤ p) (hl : p ≤ r.length) : p ∣ r.length ∧ ∀ j, j < r.length → r.getD j false = r.getD (j % p) false := by
  unfold roundOk at h
  rw [Bool.and_eq_true, beq_iff_eq, decide_eq_true_eq] at h
  refine ⟨Nat.dvd_of_mod_eq_zero h.1, fun j => ?_⟩
  induction j using Nat.strongRecOn with
  | ind j ih =>
    intro hj
    by_cases hjp : j < p
    · rw [Nat.mod_eq_of_lt hjp]
    · have e1 := congrArg (fun l : List Bool => l[j - p]?) h.2
      simp only [List.getElem?_drop, List.getElem?_take] at e1
      rw [if_pos (by omega), show p + (j - p) = j by omega] at e1
      rw [List.getD_eq_getElem?_getD, e1, ← List.getD_eq_getElem?_getD, ih (j - p) (by omega) (by omega)]
      congr 1
      exact (Nat.mod_eq_sub_mod (by omega)).symm
theorem inS_round (f : List Bool) {r : List Bool} (hr : r ≠ []) (n : Nat) : inS (f, r.take (roundSize r)) n = inS (f, r) n := by
  obtain ⟨h1, h2, h3, _⟩ := roundSize_spec hr
  obtain ⟨hd, hg⟩ := round_get h3 h1 h2
  have hl : (r.take (roundSize r)).length = roundSize r := by rw [List.length_take]; omega
  by_cases hn : n < f.length
  · rw [inS_lt (s := (f, r)) hn, inS_lt (s := (f, r.take (roundSize r))) hn]
  · rw [inS_ge (s := (f, r)) (by exact Nat.le_of_not_lt hn), inS_ge (s := (f, r.take (roundSize r))) (by exact Nat.le_of_not_lt hn)]
    show (r.take (roundSize r)).getD ((n - f.length) % (r.take (roundSize r)).length) false = r.getD ((n - f.length) % r.length) false
    have hpos : 0 < r.length := by omega
    rw [hl, hg _ (Nat.mod_lt _ hpos), Nat.mod_mod_of_dvd _ hd, List.getD_eq_getElem?_getD, List.getElem?_take, if_pos (Nat.mod_lt _ h1), ← List.getD_eq_getElem?_getD]
theorem leastOf_spec (f : List Bool) {r : List Bool} (hr : r ≠ []) : (∀ m, inS (leastOf f r) m = inS (f, r) m) ∧ (leastOf f r).2.length = roundSize r ∧ (leastOf f r).1.length ≤ f.length ∧ ((leastOf f r).1 = [] ∨ (leastOf f r).1.getLast? ≠ (leastOf f r).2.getLast?) := by
  obtain ⟨h1, h2, _⟩ := roundSize_spec hr
  have hl : (r.take (roundSize r)).length = roundSize r := by rw [List.length_take]; omega
  obtain ⟨a, b, c, d⟩ := leastLoop_spec f.length f (r.take (roundSize r)) rfl (fun z => by rw [z] at hl; simp at hl; omega)
  exact ⟨fun m => (a m).trans (inS_round f hr m), b.trans hl, c, d⟩
theorem inS_least (f : List Bool) {r : List Bool} (hr : r ≠ []) (m : Nat) : inS (leastOf f r) m = inS (f, r) m := (leastOf_spec f hr).1 m
theorem canon_least (f : List Bool) {r : List Bool} (hr : r ≠ []) : Canon (leastOf f r) := by
  obtain ⟨h1, h2, h3, h4⟩ := leastOf_spec f hr
  obtain ⟨g1, g2, g3, g4⟩ := roundSize_spec hr
  have hf : inS (leastOf f r) = inS (f, r) := funext h1
  refine ⟨fun z => by rw [z] at h2; simp at h2; omega, fun q k hq hp => ?_, fun k hp => ?_⟩
  · rw [h2]
    rw [hf] at hp
    have hN : 1 ≤ r.length := by omega
    have hp0 : Per (inS (f, r)) f.length r.length := per_inS (f, r)
    have hp1 : Per (inS (f, r)) f.length (Nat.gcd q r.length) := Per.gcd _ _ (hp0.back hN hp) hp0
    have hd0 : 0 < Nat.gcd q r.length := Nat.gcd_pos_of_pos_left _ hq
    have hd1 : Nat.gcd q r.length ∣ r.length := Nat.gcd_dvd_right _ _
    have hok : roundOk r (Nat.gcd q r.length) = true := by
      unfold roundOk
      rw [Bool.and_eq_true, beq_iff_eq, decide_eq_true_eq]
      refine ⟨Nat.mod_eq_zero_of_dvd hd1, ?_⟩
      have hdl := Nat.le_of_dvd (by omega) hd1
      refine List.ext_getElem (by rw [List.length_drop, List.length_take]; omega) fun i i1 i2 => ?_
      rw [List.length_drop] at i1
      rw [List.getElem_drop, List.getElem_take]
      have e1 := hp1 (f.length + i) (by omega)
      rw [inS_ge (s := (f, r)) (by show f.length ≤ _; omega), inS_ge (s := (f, r)) (by show f.length ≤ _; omega)] at e1
      have e1 : r.getD ((f.length + i + Nat.gcd q r.length - f.length) % r.length) false = r.getD ((f.length + i - f.length) % r.length) false := e1
      rw [show f.length + i + Nat.gcd q r.length - f.length = Nat.gcd q r.length + i by omega, show f.length + i - f.length = i by omega, Nat.mod_eq_of_lt (by omega), Nat.mod_eq_of_lt (by omega), List.getD_eq_getElem?_getD, List.getD_eq_getElem?_getD, List.getElem?_eq_getElem (by omega), List.getElem?_eq_getElem (by omega)] at e1
      exact e1
    have := roundSize_le hr hd0 hok
    exact Nat.le_trans this (Nat.gcd_le_left _ hq)
  · rcases h4 with h4 | h4
    · rw [h4]; exact Nat.zero_le _
    · by_cases hk : (leastOf f r).1.length ≤ k
      · exact hk
      · exfalso
        apply h4
        generalize leastOf f r = t at *
        have hl1 : 0 < t.1.length := by omega
        have hl2 : 0 < t.2.length := by omega
        have e := hp (t.1.length - 1) (by omega)
        rw [inS_lt (show t.1.length - 1 < t.1.length by omega), inS_ge (by omega), show t.1.length - 1 + t.2.length - t.1.length = t.2.length - 1 by omega, Nat.mod_eq_of_lt (by omega), List.getD_eq_getElem?_getD, List.getElem?_eq_getElem (by omega)] at e
        rw [List.getLast?_eq_getElem?, List.getLast?_eq_getElem?, List.getElem?_eq_getElem (by omega), List.getElem?_eq_getElem (by omega)]
        congr 1
        exact e.symm
/-- a set told by its row from a least length and a least beginning on -/
theorem canon_of {h : Nat → Bool} {k p : Nat} (hp : 1 ≤ p) (hP : Per h k p) (h1 : ∀ q k', 1 ≤ q → Per h k' q → p ≤ q) (h2 : ∀ k', Per h k' p → k ≤ k') : Canon ((List.range k).map h, (List.range p).map fun j => h (k + j)) ∧ ∀ n, inS ((List.range k).map h, (List.range p).map fun j => h (k + j)) n = h n := by
  have e : ((List.range k).map h, (List.range p).map fun j => h (k + j)) = (((List.range (k + p)).map h).take k, ((List.range (k + p)).map h).drop k) := by
    refine Prod.ext ?_ ?_
    · show (List.range k).map h = ((List.range (k + p)).map h).take k
      rw [← List.map_take, List.take_range, show min k (k + p) = k by omega]
    · show ((List.range p).map fun j => h (k + j)) = ((List.range (k + p)).map h).drop k
      refine List.ext_getElem (by simp) fun i i1 i2 => ?_
      simp
  have hi : ∀ n, inS ((List.range k).map h, (List.range p).map fun j => h (k + j)) n = h n := fun n => by
    rw [e]
    exact inS_row hP hp n
  have hf : inS ((List.range k).map h, (List.range p).map fun j => h (k + j)) = h := funext hi
  refine ⟨⟨fun z => ?_, fun q k' hq hk => ?_, fun k' hk => ?_⟩, hi⟩
  · have := congrArg List.length z
    simp at this
    omega
  · show ((List.range p).map fun j => h (k + j)).length ≤ q
    rw [List.length_map, List.length_range]
    rw [hf] at hk
    exact h1 q k' hq hk
  · show ((List.range k).map h).length ≤ k'
    rw [List.length_map, List.length_range]
    rw [hf] at hk
    have hk : Per h k' ((List.range p).map fun j => h (k + j)).length := hk
    rw [List.length_map, List.length_range] at hk
    exact h2 k' hk
end Sm

set_option linter.all false
namespace Sm
theorem ne_of_len {l : List Bool} (h : 0 < l.length) : l ≠ [] := List.length_pos_iff.mp h
theorem row_ne {h : Nat → Bool} {b z : Nat} (hz : 0 < z) : ((List.range (b + z)).map h).drop b ≠ [] := ne_of_len (by rw [List.length_drop, List.length_map, List.length_range]; omega)
/-- what is made of a row -/
theorem least_row {h : Nat → Bool} {b z : Nat} (hp : Per h b z) (hz : 0 < z) : Canon (leastOf (((List.range (b + z)).map h).take b) (((List.range (b + z)).map h).drop b)) ∧ (∀ n, inS (leastOf (((List.range (b + z)).map h).take b) (((List.range (b + z)).map h).drop b)) n = h n) ∧ (leastOf (((List.range (b + z)).map h).take b) (((List.range (b + z)).map h).drop b)).1.length ≤ b ∧ (leastOf (((List.range (b + z)).map h).take b) (((List.range (b + z)).map h).drop b)).2.length ≤ z := by
  have hne := row_ne (h := h) (b := b) hz
  refine ⟨canon_least _ hne, fun n => (inS_least _ hne n).trans (inS_row hp hz n), ?_, ?_⟩
  · refine Nat.le_trans (leastOf_spec _ hne).2.2.1 ?_
    rw [List.length_take]
    omega
  · rw [(leastOf_spec _ hne).2.1]
    refine Nat.le_trans (roundSize_spec hne).2.1 ?_
    rw [List.length_drop, List.length_map, List.length_range]
    omega
/-! one set by two -/
section
variable {s t : S} {p : Bool → Bool → Bool}
theorem lcm_pos' (h1 : s.2 ≠ []) (h2 : t.2 ≠ []) : 0 < Nat.lcm s.2.length t.2.length := Nat.lcm_pos (List.length_pos_iff.mpr h1) (List.length_pos_iff.mpr h2)
theorem per_two (s t : S) (p : Bool → Bool → Bool) : Per (fun n => p (inS s n) (inS t n)) (max s.1.length t.1.length) (Nat.lcm s.2.length t.2.length) := fun n hn => by
  show p (inS s (n + _)) (inS t (n + _)) = p (inS s n) (inS t n)
  rw [((per_inS s).dvd (Nat.dvd_lcm_left _ _)) n (by omega), ((per_inS t).dvd (Nat.dvd_lcm_right _ _)) n (by omega)]
theorem setBy_all (h1 : s.2 ≠ []) (h2 : t.2 ≠ []) (p : Bool → Bool → Bool) : Canon (setBy s t p) ∧ (∀ n, inS (setBy s t p) n = p (inS s n) (inS t n)) ∧ (setBy s t p).1.length ≤ max s.1.length t.1.length ∧ (setBy s t p).2.length ≤ Nat.lcm s.2.length t.2.length :=
  least_row (per_two s t p) (lcm_pos' h1 h2)
end
/-! the others -/
theorem inS_other {s : S} (h : s.2 ≠ []) (n : Nat) : inS (otherOf s) n = !inS s n := by
  have hp : 0 < s.2.length := List.length_pos_iff.mpr h
  by_cases hn : n < s.1.length
  · rw [inS_lt hn, inS_lt (show n < (s.1.map not).length by rw [List.length_map]; exact hn)]
    exact List.getElem_map _
  · have hm : (n - s.1.length) % s.2.length < s.2.length := Nat.mod_lt _ hp
    rw [inS_ge (Nat.le_of_not_lt hn), inS_ge (show (s.1.map not).length ≤ n by rw [List.length_map]; omega)]
    show (s.2.map not).getD ((n - (s.1.map not).length) % (s.2.map not).length) false = _
    rw [List.length_map, List.length_map, List.getD_eq_getElem?_getD, List.getD_eq_getElem?_getD, List.getElem?_map, List.getElem?_eq_getElem hm]
    rfl
theorem per_not {f : Nat → Bool} {k p : Nat} (h : Per (fun n => !f n) k p) : Per f k p := fun n hn => by
  have := h n hn
  have this : (!f (n + p)) = !f n := this
  cases h1 : f (n + p) <;> cases h2 : f n <;> rw [h1, h2] at this <;> first | rfl | cases this
theorem canon_other {s : S} (h : Canon s) : Canon (otherOf s) := by
  have hf : inS (otherOf s) = fun n => !inS s n := funext (inS_other h.ne)
  have l1 : (otherOf s).1.length = s.1.length := List.length_map _
  have l2 : (otherOf s).2.length = s.2.length := List.length_map _
  refine ⟨ne_of_len (by rw [l2]; exact h.pos), fun q k hq hp => ?_, fun k hp => ?_⟩
  · rw [l2]
    rw [hf] at hp
    exact h.per q k hq (per_not hp)
  · rw [l1]
    rw [hf, l2] at hp
    exact h.few k (per_not hp)
/-! the first -/
theorem inS_reduce {s : S} (h : s.2 ≠ []) {n : Nat} (hn : inS s n = true) : ∃ m, m < s.1.length + s.2.length ∧ m ≤ n ∧ inS s m = true := by
  have hp : 0 < s.2.length := List.length_pos_iff.mpr h
  by_cases h1 : n < s.1.length + s.2.length
  · exact ⟨n, h1, Nat.le_refl _, hn⟩
  · have hm : (n - s.1.length) % s.2.length < s.2.length := Nat.mod_lt _ hp
    have hle := Nat.mod_le (n - s.1.length) s.2.length
    refine ⟨s.1.length + (n - s.1.length) % s.2.length, by omega, by omega, ?_⟩
    rw [(per_inS s).mod, show s.1.length + (n - s.1.length) = n by omega]
    exact hn
theorem firstOf_none {s : S} (h : s.2 ≠ []) : firstOf s = none ↔ ∀ n, inS s n = false := by
  unfold firstOf
  rw [List.head?_eq_none_iff, List.filter_eq_nil_iff]
  constructor
  · intro hh n
    cases hn : inS s n with
    | false => rfl
    | true =>
      obtain ⟨m, h1, _, h2⟩ := inS_reduce h hn
      exact absurd h2 (hh m (List.mem_range.mpr h1))
  · intro hh a _
    rw [hh a]
    decide
theorem range_filter_head {f : Nat → Bool} {a : Nat} : ∀ {b : Nat}, (∀ n, f n = true → ∃ m, m < a ∧ m ≤ n ∧ f m = true) → ((List.range (a + b)).filter f).head? = ((List.range a).filter f).head? := fun {b} h => by
  rw [List.range_add, List.filter_append, List.head?_append]
  cases hh : (List.filter f (List.range a)).head? with
  | some x => rfl
  | none =>
    rw [List.head?_eq_none_iff, List.filter_eq_nil_iff] at hh
    have : (List.map (fun x => a + x) (List.range b)).filter f = [] := by
      rw [List.filter_eq_nil_iff]
      intro x _ hx
      obtain ⟨m, h1, _, h2⟩ := h x hx
      exact hh m (List.mem_range.mpr h1) h2
    rw [this]
    rfl
theorem firstOf_range {s : S} (h : s.2 ≠ []) {N : Nat} (hN : s.1.length + s.2.length ≤ N) : ((List.range N).filter (inS s)).head? = firstOf s := by
  obtain ⟨b, rfl⟩ : ∃ b, N = s.1.length + s.2.length + b := ⟨_, (Nat.add_sub_cancel' hN).symm⟩
  exact range_filter_head fun n hn => inS_reduce h hn
/-! up, down, low, sum, set -/
theorem inS_up (f r : List Bool) (k n : Nat) : inS (List.replicate k false ++ f, r) n = if n < k then false else inS (f, r) (n - k) := by
  have hl : (List.replicate k false ++ f).length = k + f.length := by rw [List.length_append, List.length_replicate]
  by_cases h1 : n < k
  · rw [if_pos h1, inS_lt (s := (List.replicate k false ++ f, r)) (by show n < (List.replicate k false ++ f).length; omega)]
    show (List.replicate k false ++ f)[n]'(by omega) = false
    rw [List.getElem_append_left (by rw [List.length_replicate]; exact h1), List.getElem_replicate]
  · rw [if_neg h1]
    by_cases h2 : n < k + f.length
    · rw [inS_lt (s := (List.replicate k false ++ f, r)) (by show n < (List.replicate k false ++ f).length; omega), inS_lt (s := (f, r)) (by show n - k < f.length; omega)]
      show (List.replicate k false ++ f)[n]'(by omega) = f[n - k]'(by omega)
      rw [List.getElem_append_right (by rw [List.length_replicate]; omega)]
      congr 1
      rw [List.length_replicate]
    · rw [inS_ge (s := (List.replicate k false ++ f, r)) (by show (List.replicate k false ++ f).length ≤ n; omega), inS_ge (s := (f, r)) (by show f.length ≤ n - k; omega)]
      show r.getD ((n - (List.replicate k false ++ f).length) % r.length) false = r.getD ((n - k - f.length) % r.length) false
      rw [hl, show n - (k + f.length) = n - k - f.length by omega]
theorem upBy_all {s : S} (h : s.2 ≠ []) (k : Nat) : Canon (upBy s k) ∧ (∀ n, inS (upBy s k) n = if n < k then false else inS s (n - k)) ∧ (upBy s k).1.length ≤ k + s.1.length ∧ (upBy s k).2.length ≤ s.2.length := by
  refine ⟨canon_least _ h, fun n => (inS_least _ h n).trans (inS_up _ _ _ _), ?_, ?_⟩
  · refine Nat.le_trans (leastOf_spec _ h).2.2.1 ?_
    rw [List.length_append, List.length_replicate]
    exact Nat.le_refl _
  · show (leastOf _ s.2).2.length ≤ _
    rw [(leastOf_spec _ h).2.1]
    exact (roundSize_spec h).2.1
theorem downBy_all {s : S} (h : s.2 ≠ []) (k : Nat) : Canon (downBy s k) ∧ (∀ n, inS (downBy s k) n = inS s (n + k)) ∧ (downBy s k).1.length ≤ s.1.length - k ∧ (downBy s k).2.length ≤ s.2.length :=
  least_row (h := fun n => inS s (n + k)) (fun n hn => by
    show inS s (n + s.2.length + k) = inS s (n + k)
    rw [show n + s.2.length + k = n + k + s.2.length by omega]
    exact per_inS s _ (by omega)) (List.length_pos_iff.mpr h)
theorem set0_row (h : Nat → Bool) (v : Bool) (n : Nat) : ((List.range n).map h).set 0 v = (List.range n).map fun i => if i = 0 then v else h i := by
  refine List.ext_getElem (by simp) fun i h1 h2 => ?_
  rw [List.getElem_set, List.getElem_map, List.getElem_map, List.getElem_range]
  by_cases hi : i = 0
  · subst hi
    simp
  · rw [if_neg (fun z => hi z.symm), if_neg hi]
theorem lowBy_all {s : S} (h : s.2 ≠ []) (k : Nat) : Canon (lowBy s k) ∧ (∀ n, inS (lowBy s k) n = if n = 0 then (List.range (k + 1)).any (inS s) else inS s (n + k)) ∧ (lowBy s k).1.length ≤ max 1 (s.1.length - k) ∧ (lowBy s k).2.length ≤ s.2.length := by
  obtain ⟨d1, d2, d3, d4⟩ := downBy_all h k
  have hr := least_row (h := fun i => if i = 0 then (List.range (k + 1)).any (inS s) else inS (downBy s k) i) (b := max 1 (downBy s k).1.length) (z := (downBy s k).2.length) (fun n hn => by
    show (if n + (downBy s k).2.length = 0 then _ else inS (downBy s k) (n + (downBy s k).2.length)) = if n = 0 then _ else inS (downBy s k) n
    rw [if_neg (by omega), if_neg (by omega)]
    exact per_inS _ _ (by omega)) d1.pos
  rw [← set0_row] at hr
  obtain ⟨a, b, c, d⟩ := hr
  refine ⟨a, fun n => ?_, ?_, Nat.le_trans d d4⟩
  · rw [← d2]
    exact b n
  · exact Nat.le_trans c (by omega)
theorem per_sum (s t : S) (h1 : s.2 ≠ []) (h2 : t.2 ≠ []) : Per (fun n => (List.range (n + 1)).any fun k => inS s k && inS t (n - k)) (s.1.length + t.1.length + Nat.lcm s.2.length t.2.length) (Nat.lcm s.2.length t.2.length) := fun n hn => by
  have hs : Per (inS s) s.1.length (Nat.lcm s.2.length t.2.length) := (per_inS s).dvd (Nat.dvd_lcm_left _ _)
  have ht : Per (inS t) t.1.length (Nat.lcm s.2.length t.2.length) := (per_inS t).dvd (Nat.dvd_lcm_right _ _)
  have hz := lcm_pos' h1 h2
  generalize Nat.lcm s.2.length t.2.length = z at *
  rw [Bool.eq_iff_iff]
  simp only [List.any_eq_true, List.mem_range, Bool.and_eq_true]
  constructor
  · rintro ⟨k, h0, h1, h2⟩
    by_cases hk : s.1.length + z ≤ k
    · refine ⟨k - z, by omega, ?_, ?_⟩
      · rw [← hs (k - z) (by omega), show k - z + z = k by omega]
        exact h1
      · rw [show n - (k - z) = n + z - k by omega]
        exact h2
    · refine ⟨k, by omega, h1, ?_⟩
      rw [← ht (n - k) (by omega), show n - k + z = n + z - k by omega]
      exact h2
  · rintro ⟨k, h0, h1, h2⟩
    by_cases hk : s.1.length ≤ k
    · refine ⟨k + z, by omega, ?_, ?_⟩
      · rw [hs k hk]
        exact h1
      · rw [show n + z - (k + z) = n - k by omega]
        exact h2
    · refine ⟨k, by omega, h1, ?_⟩
      rw [show n + z - k = n - k + z by omega, ht (n - k) (by omega)]
      exact h2
theorem sumSet_all {s t : S} (h1 : s.2 ≠ []) (h2 : t.2 ≠ []) : Canon (sumSet s t) ∧ (∀ n, inS (sumSet s t) n = (List.range (n + 1)).any fun k => inS s k && inS t (n - k)) ∧ (sumSet s t).1.length ≤ s.1.length + t.1.length + Nat.lcm s.2.length t.2.length ∧ (sumSet s t).2.length ≤ Nat.lcm s.2.length t.2.length :=
  least_row (per_sum s t h1 h2) (lcm_pos' h1 h2)
theorem setOf_all (l : List Nat) : Canon (setOf l) ∧ (∀ n, inS (setOf l) n = (decide (n < 60) && l.contains n)) ∧ (setOf l).1.length ≤ 60 ∧ (setOf l).2.length ≤ 1 := by
  have h : ([false] : List Bool) ≠ [] := List.cons_ne_nil _ _
  refine ⟨canon_least _ h, fun n => (inS_least _ h n).trans ?_, ?_, ?_⟩
  · have hl : ((List.range 60).map fun n => l.contains n).length = 60 := by rw [List.length_map, List.length_range]
    by_cases hn : n < 60
    · rw [inS_lt (s := ((List.range 60).map fun n => l.contains n, [false])) (by show n < ((List.range 60).map fun n => l.contains n).length; omega), decide_eq_true hn, Bool.true_and]
      show ((List.range 60).map fun n => l.contains n)[n]'(by omega) = _
      rw [List.getElem_map, List.getElem_range]
    · rw [inS_ge (s := ((List.range 60).map fun n => l.contains n, [false])) (by show ((List.range 60).map fun n => l.contains n).length ≤ n; omega), decide_eq_false hn]
      show ([false] : List Bool).getD (_ % 1) false = _
      rw [Nat.mod_one]
      rfl
  · refine Nat.le_trans (leastOf_spec _ h).2.2.1 ?_
    rw [List.length_map, List.length_range]
    exact Nat.le_refl _
  · show (leastOf _ [false]).2.length ≤ _
    rw [(leastOf_spec _ h).2.1]
    exact (roundSize_spec h).2.1
end Sm

set_option linter.all false
namespace Sm
structure G (k z : Nat) (s : S) : Prop where
  can : Canon s
  few : s.1.length ≤ k
  ring : s.2.length ≤ z
theorem G.mono {k k' z z' : Nat} {s : S} (h : G k z s) (hk : k ≤ k') (hz : z ≤ z') : G k' z' s := ⟨h.can, Nat.le_trans h.few hk, Nat.le_trans h.ring hz⟩
theorem Canon.lst {s : S} (h : Canon s) : leastOf s.1 s.2 = s := (canon_least s.1 h.ne).eq h fun n => inS_least s.1 h.ne n
theorem lcm_le {a b z z' : Nat} (ha : 0 < a) (hb : 0 < b) (h1 : a ≤ z) (h2 : b ≤ z') : Nat.lcm a b ≤ z * z' :=
  Nat.le_trans (Nat.le_of_dvd (Nat.mul_pos ha hb) (Nat.lcm_dvd_mul a b)) (Nat.mul_le_mul h1 h2)
theorem G.by {k z k' z' : Nat} {s t : S} (h : G k z s) (g : G k' z' t) (p : Bool → Bool → Bool) : G (max k k') (z * z') (setBy s t p) := by
  obtain ⟨a, _, c, d⟩ := setBy_all h.can.ne g.can.ne p
  have := lcm_le h.can.pos g.can.pos h.ring g.ring
  have h1 := h.few
  have h2 := g.few
  exact ⟨a, by omega, by omega⟩
theorem G.other {k z : Nat} {s : S} (h : G k z s) : G k z (otherOf s) :=
  ⟨canon_other h.can, by show (s.1.map not).length ≤ k; rw [List.length_map]; exact h.few, by show (s.2.map not).length ≤ z; rw [List.length_map]; exact h.ring⟩
theorem G.up {k z : Nat} {s : S} (h : G k z s) (j : Nat) : G (j + k) z (upBy s j) := by
  obtain ⟨a, _, c, d⟩ := upBy_all h.can.ne j
  have h1 := h.few
  have h2 := h.ring
  exact ⟨a, by omega, by omega⟩
theorem G.down {k z : Nat} {s : S} (h : G k z s) (j : Nat) : G k z (downBy s j) := by
  obtain ⟨a, _, c, d⟩ := downBy_all h.can.ne j
  have h1 := h.few
  have h2 := h.ring
  exact ⟨a, by omega, by omega⟩
theorem G.low {k z : Nat} {s : S} (h : G k z s) (j : Nat) : G (k + 1) z (lowBy s j) := by
  obtain ⟨a, _, c, d⟩ := lowBy_all h.can.ne j
  have h1 := h.few
  have h2 := h.ring
  exact ⟨a, by omega, by omega⟩
theorem G.sum {k z k' z' : Nat} {s t : S} (h : G k z s) (g : G k' z' t) : G (k + k' + z * z') (z * z') (sumSet s t) := by
  obtain ⟨a, _, c, d⟩ := sumSet_all h.can.ne g.can.ne
  have := lcm_le h.can.pos g.can.pos h.ring g.ring
  have h1 := h.few
  have h2 := g.few
  exact ⟨a, by omega, by omega⟩
theorem inS_by {s t : S} (h : Canon s) (g : Canon t) (p : Bool → Bool → Bool) (n : Nat) : inS (setBy s t p) n = p (inS s n) (inS t n) := (setBy_all h.ne g.ne p).2.1 n
theorem can_by {s t : S} (h : Canon s) (g : Canon t) (p : Bool → Bool → Bool) : Canon (setBy s t p) := (setBy_all h.ne g.ne p).1
/-- a set of few numbers below m -/
theorem setOf_G {l : List Nat} {m : Nat} (hm : m ≤ 60) (h : ∀ n ∈ l, n < m) : G m 1 (setOf l) := by
  obtain ⟨a, b, c, d⟩ := setOf_all l
  refine ⟨a, a.few m fun n hn => ?_, d⟩
  have e : ∀ j, m ≤ j → inS (setOf l) j = false := fun j hj => by
    rw [b]
    cases hc : l.contains j with
    | false => rw [Bool.and_false]
    | true =>
      have := h j (List.contains_iff_mem.mp hc)
      omega
  rw [e n hn, e (n + _) (by omega)]
theorem inS_set {l : List Nat} (h : ∀ n ∈ l, n < 60) (n : Nat) : inS (setOf l) n = l.contains n := by
  rw [(setOf_all l).2.1]
  cases hc : l.contains n with
  | false => rw [Bool.and_false]
  | true => rw [decide_eq_true (h n (List.contains_iff_mem.mp hc))]; rfl
/-! the law's checks -/
theorem law_rest {s t : S} (h : Canon s) (g : Canon t) : otherOf (setBy s t (· || ·)) = setBy (otherOf s) (otherOf t) (· && ·) := by
  refine (canon_other (can_by h g _)).eq (can_by (canon_other h) (canon_other g) _) fun n => ?_
  rw [inS_other (can_by h g _).ne, inS_by h g, inS_by (canon_other h) (canon_other g), inS_other h.ne, inS_other g.ne, Bool.not_or]
def insideOf (s t : S) : Bool := ((List.range 200).filter fun n => inS s n && !inS t n).isEmpty
theorem inside_iff {s t : S} {k z : Nat} (h : G k z s) (g : G k z t) (hz : k + z * z ≤ 200) : insideOf s t = true ↔ ∀ n, inS s n = true → inS t n = true := by
  have hG := h.by g (fun a b => a && !b)
  have hl := hG.few
  have hr := hG.ring
  have e := firstOf_range hG.can.ne (N := 200) (by omega)
  have hn := firstOf_none hG.can.ne
  rw [← e] at hn
  have ef : inS (setBy s t fun a b => a && !b) = fun n => inS s n && !inS t n := funext fun n => inS_by h.can g.can _ n
  rw [List.head?_eq_none_iff, ef] at hn
  unfold insideOf
  rw [List.isEmpty_iff, hn]
  constructor
  · intro hh n h1
    have := hh n
    have this : (inS s n && !inS t n) = false := this
    rw [h1] at this
    cases e : inS t n with
    | true => rfl
    | false => rw [e] at this; cases this
  · intro hh n
    show (inS s n && !inS t n) = false
    cases e : inS s n with
    | false => rfl
    | true => rw [hh n e]; rfl
theorem law_within {s t : S} {k z : Nat} (h : G k z s) (g : G k z t) (hz : k + z * z ≤ 200) : (firstOf (setBy s t (fun a b => a && !b))).isNone = insideOf s t := by
  have hG := h.by g (fun a b => a && !b)
  rw [Bool.eq_iff_iff, inside_iff h g hz, Option.isNone_iff_eq_none, firstOf_none hG.can.ne]
  constructor
  · intro hh n h1
    have := hh n
    rw [inS_by h.can g.can, h1] at this
    cases e : inS t n with
    | true => rfl
    | false => rw [e] at this; cases this
  · intro hh n
    rw [inS_by h.can g.can]
    cases e : inS s n with
    | false => rfl
    | true => rw [hh n e]; rfl
theorem law_meets {s t : S} {k z : Nat} (h : G k z s) (g : G k z t) (hz : k + z * z ≤ 200) : decide (setBy s t (· && ·) = s) = insideOf s t := by
  rw [Bool.eq_iff_iff, inside_iff h g hz, decide_eq_true_iff, (can_by h.can g.can _).iff h.can]
  constructor
  · intro hh n h1
    have := hh n
    rw [inS_by h.can g.can, h1, Bool.true_and] at this
    exact this
  · intro hh n
    rw [inS_by h.can g.can]
    cases e : inS s n with
    | false => rfl
    | true => rw [hh n e]; rfl
theorem law_joins {s t : S} {k z : Nat} (h : G k z s) (g : G k z t) (hz : k + z * z ≤ 200) : decide (setBy s t (· || ·) = t) = insideOf s t := by
  rw [Bool.eq_iff_iff, inside_iff h g hz, decide_eq_true_iff, (can_by h.can g.can _).iff g.can]
  constructor
  · intro hh n h1
    have := hh n
    rw [inS_by h.can g.can, h1, Bool.true_or] at this
    exact this.symm
  · intro hh n
    rw [inS_by h.can g.can]
    cases e : inS s n with
    | false => rfl
    | true => rw [hh n e]; rfl
theorem law_apart {s t : S} (h : Canon s) (g : Canon t) : (firstOf (setBy s t (fun a b => a != b))).isNone = decide (s = t) := by
  rw [Bool.eq_iff_iff, Option.isNone_iff_eq_none, firstOf_none (can_by h g _).ne, decide_eq_true_iff, h.iff g]
  constructor
  · intro hh n
    have := hh n
    rw [inS_by h g] at this
    exact eq_of_beq (by rw [bne, Bool.not_eq_false'] at this; exact this)
  · intro hh n
    rw [inS_by h g, hh n, bne_self_eq_false]
theorem filter_lt_range (m b : Nat) : (List.range (m + b)).filter (fun n => decide (n < m)) = List.range m := by
  rw [List.range_add, List.filter_append, List.filter_eq_self.mpr (fun a ha => decide_eq_true (List.mem_range.mp ha)), List.filter_eq_nil_iff.mpr (fun a ha => ?_), List.append_nil]
  obtain ⟨x, _, rfl⟩ := List.mem_map.mp ha
  rw [decide_eq_true_iff]
  omega
theorem law_up {s : S} (h : Canon s) {k N : Nat} (hk : k ≤ N) : (List.range N).filter (inS (upBy s k)) = (((List.range N).filter (inS s)).filter (fun n => decide (n + k < N))).map (fun n => n + k) := by
  obtain ⟨b, rfl⟩ : ∃ b, N = k + b := ⟨N - k, by omega⟩
  have hu := (upBy_all h.ne k).2.1
  rw [List.filter_filter, List.range_add, List.filter_append, List.filter_eq_nil_iff.mpr (fun a ha => ?_), List.nil_append, ← List.range_add, List.filter_map]
  · have e1 : (fun n => decide (n + k < k + b) && inS s n) = fun n => inS s n && decide (n < b) := by
      funext n
      rw [Bool.and_comm]
      congr 1
      rw [Bool.eq_iff_iff, decide_eq_true_iff, decide_eq_true_iff]
      omega
    rw [e1, ← List.filter_filter, show k + b = b + k by omega, filter_lt_range]
    have e2 : (inS (upBy s k) ∘ fun x => k + x) = inS s := by
      funext n
      show inS (upBy s k) (k + n) = _
      rw [hu, if_neg (by omega), show k + n - k = n by omega]
    rw [e2]
    exact List.map_congr_left fun n _ => Nat.add_comm _ _
  · rw [hu, if_pos (List.mem_range.mp ha)]
    decide
theorem law_down {s : S} (h : Canon s) (k : Nat) : downBy (upBy s k) k = s := by
  obtain ⟨a, b, _, _⟩ := upBy_all h.ne k
  obtain ⟨c, d, _, _⟩ := downBy_all a.ne k
  exact c.eq h fun n => by rw [d, b, if_neg (by omega), show n + k - k = n by omega]
theorem law_low {s : S} (h : Canon s) (k : Nat) : lowBy (upBy s k) k = s := by
  obtain ⟨a, b, _, _⟩ := upBy_all h.ne k
  obtain ⟨c, d, _, _⟩ := lowBy_all a.ne k
  refine c.eq h fun n => ?_
  rw [d]
  by_cases hn : n = 0
  · rw [if_pos hn, hn, List.range_succ, List.any_append, List.any_eq_false.mpr (fun i hi => ?_), Bool.false_or, List.any_cons, List.any_nil, Bool.or_false, b, if_neg (by omega), Nat.sub_self]
    rw [b, if_pos (List.mem_range.mp hi)]
    decide
  · rw [if_neg hn, b, if_neg (by omega), show n + k - k = n by omega]
theorem law_sum {s : S} (h : Canon s) {k : Nat} (hk : k < 60) : sumSet s (setOf [k]) = upBy s k := by
  obtain ⟨a, b, _, _⟩ := upBy_all h.ne k
  have hc := (setOf_all [k]).1
  have hi := inS_set (l := [k]) (fun n hn => by rw [List.mem_singleton.mp hn]; exact hk)
  obtain ⟨c, d, _, _⟩ := sumSet_all h.ne hc.ne
  refine c.eq a fun n => ?_
  rw [d, b, Bool.eq_iff_iff, List.any_eq_true]
  constructor
  · rintro ⟨i, hi1, hi2⟩
    rw [hi, Bool.and_eq_true, List.contains_iff_mem, List.mem_singleton] at hi2
    have := List.mem_range.mp hi1
    rw [if_neg (by omega), show n - k = i by omega]
    exact hi2.1
  · intro hh
    by_cases hn : n < k
    · rw [if_pos hn] at hh
      cases hh
    · rw [if_neg hn] at hh
      refine ⟨n - k, List.mem_range.mpr (by omega), ?_⟩
      rw [hi, hh, show n - (n - k) = k by omega]
      simp
theorem law_lows {f g : Nat → Bool} (h : ∀ n, 0 < n → f n = g n) (N : Nat) : ((List.range (N + 1)).filter f).drop (if f 0 then 1 else 0) = ((List.range (N + 1)).filter g).filter (fun n => decide (0 < n)) := by
  have e : ∀ p : Nat → Bool, ((List.range N).map Nat.succ).filter p = ((List.range N).filter (p ∘ Nat.succ)).map Nat.succ := fun p => List.filter_map
  have e3 : f ∘ Nat.succ = g ∘ Nat.succ := funext fun n => h _ (Nat.succ_pos n)
  rw [List.range_succ_eq_map, List.filter_cons, List.filter_cons, e, e, e3]
  have e4 : (((List.range N).filter (g ∘ Nat.succ)).map Nat.succ).filter (fun n => decide (0 < n)) = ((List.range N).filter (g ∘ Nat.succ)).map Nat.succ := List.filter_eq_self.mpr fun a ha => by
    obtain ⟨x, _, rfl⟩ := List.mem_map.mp ha
    exact decide_eq_true (Nat.succ_pos x)
  cases hf : f 0 <;> cases hg : g 0 <;> simp [e4]
theorem law_list {l : List Nat} (h : ∀ n ∈ l, n < 60) : ((List.range 200).filter (inS (setOf l))).Nodup ∧ ((List.range 200).filter (inS (setOf l))).Pairwise (· ≤ ·) ∧ ∀ n, n ∈ (List.range 200).filter (inS (setOf l)) ↔ n ∈ l := by
  refine ⟨List.Pairwise.filter _ List.nodup_range, List.Pairwise.filter _ (List.pairwise_lt_range.imp fun h => Nat.le_of_lt h), fun n => ?_⟩
  rw [List.mem_filter, inS_set h, List.contains_iff_mem, List.mem_range]
  constructor
  · exact fun h => h.2
  · intro hn
    have := h n hn
    exact ⟨by omega, hn⟩
theorem law_three {s : S} (h : Canon s) {k : Nat} (hk : k < 60) : sumSet s (setBy (setOf [0, k]) (setOf [1]) (· || ·)) = setBy (setBy (upBy s 0) (upBy s 1) (· || ·)) (upBy s k) (· || ·) := by
  have c1 := (setOf_all [0, k]).1
  have c2 := (setOf_all [1]).1
  have i1 := inS_set (l := [0, k]) (fun n hn => by
    rcases List.mem_cons.mp hn with e | e
    · omega
    · rw [List.mem_singleton.mp e]; exact hk)
  have i2 := inS_set (l := [1]) (fun n hn => by rw [List.mem_singleton.mp hn]; decide)
  obtain ⟨a0, b0, _, _⟩ := upBy_all h.ne 0
  obtain ⟨a1, b1, _, _⟩ := upBy_all h.ne 1
  obtain ⟨a2, b2, _, _⟩ := upBy_all h.ne k
  obtain ⟨c, d, _, _⟩ := sumSet_all h.ne (can_by c1 c2 (· || ·)).ne
  refine c.eq (can_by (can_by a0 a1 _) a2 _) fun n => ?_
  rw [d, inS_by (can_by a0 a1 _) a2, inS_by a0 a1, b0, b1, b2, Bool.eq_iff_iff, List.any_eq_true]
  constructor
  · rintro ⟨i, hi1, hi2⟩
    have := List.mem_range.mp hi1
    rw [inS_by c1 c2, i1, i2, Bool.and_eq_true, Bool.or_eq_true, List.contains_iff_mem, List.contains_iff_mem, List.mem_singleton, List.mem_cons, List.mem_singleton] at hi2
    obtain ⟨h1, (h2 | h2) | h2⟩ := hi2
    · rw [if_neg (by omega), show n - 0 = i by omega, h1]
      rfl
    · rw [if_neg (show ¬ n < k by omega), show n - k = i by omega, h1, Bool.or_true]
    · rw [if_neg (show ¬ n < 1 by omega), show n - 1 = i by omega, h1, Bool.or_true, Bool.true_or]
  · intro hh
    rw [Bool.or_eq_true, Bool.or_eq_true] at hh
    have fin : ∀ j, ¬ n < j → inS s (n - j) = true → (j = 0 ∨ j = k ∨ j = 1) → ∃ x, x ∈ List.range (n + 1) ∧ (inS s x && inS (setBy (setOf [0, k]) (setOf [1]) (· || ·)) (n - x)) = true := fun j h1 h2 h3 => by
      refine ⟨n - j, List.mem_range.mpr (by omega), ?_⟩
      rw [inS_by c1 c2, i1, i2, h2, show n - (n - j) = j by omega]
      rcases h3 with rfl | rfl | rfl <;> simp
    rcases hh with (hh | hh) | hh
    · rw [if_neg (by omega)] at hh
      exact fin 0 (by omega) hh (.inl rfl)
    · by_cases hn : n < 1
      · rw [if_pos hn] at hh; cases hh
      · rw [if_neg hn] at hh
        exact fin 1 hn hh (.inr (.inr rfl))
    · by_cases hn : n < k
      · rw [if_pos hn] at hh; cases hh
      · rw [if_neg hn] at hh
        exact fin k hn hh (.inr (.inl rfl))
end Sm

set_option Elab.async false
set_option linter.all false
set_option maxRecDepth 100000
set_option maxHeartbeats 4000000
namespace K17
open PySem PySem.Spec PyProof.Rows L2 Dl
def topS (i : Nat) : Stmt := PySem.Challenge.pw_swornfilters_k17_whole_sets_hang_togethe.main.body.getD i (.Pass ⟨0, 0, 0, 0⟩)
abbrev s_is_row : Stmt := topS 10
theorem sc_is_row : FnScope ["thing"] ["thing"] (defScope s_is_row) := ⟨rfl, rfl, rfl, by decide +kernel, rfl, by decide +kernel, by decide +kernel⟩
abbrev s_is_number : Stmt := topS 11
theorem sc_is_number : FnScope ["thing", "low", "high"] ["thing", "low", "high"] (defScope s_is_number) := ⟨rfl, rfl, rfl, by decide +kernel, rfl, by decide +kernel, by decide +kernel⟩
abbrev s_is_truths : Stmt := topS 14
theorem sc_is_truths : FnScope ["thing", "one"] ["thing"] (defScope s_is_truths) := ⟨rfl, rfl, rfl, by decide +kernel, rfl, by decide +kernel, by decide +kernel⟩
abbrev s_round_size : Stmt := topS 15
theorem sc_round_size : FnScope ["ring", "size"] ["ring"] (defScope s_round_size) := ⟨rfl, rfl, rfl, by decide +kernel, rfl, by decide +kernel, by decide +kernel⟩
abbrev s_least_of : Stmt := topS 16
theorem sc_least_of : FnScope ["few", "ring"] ["few", "ring"] (defScope s_least_of) := ⟨rfl, rfl, rfl, by decide +kernel, rfl, by decide +kernel, by decide +kernel⟩
abbrev s_set_in : Stmt := topS 17
theorem sc_set_in : FnScope ["thing"] ["thing"] (defScope s_set_in) := ⟨rfl, rfl, rfl, by decide +kernel, rfl, by decide +kernel, by decide +kernel⟩
abbrev s_need_set : Stmt := topS 18
theorem sc_need_set : FnScope ["numbers", "plain"] ["numbers"] (defScope s_need_set) := ⟨rfl, rfl, rfl, by decide +kernel, rfl, by decide +kernel, by decide +kernel⟩
abbrev s_need_sets : Stmt := topS 19
theorem sc_need_sets : FnScope ["numbers", "other", "plain", "second"] ["numbers", "other"] (defScope s_need_sets) := ⟨rfl, rfl, rfl, by decide +kernel, rfl, by decide +kernel, by decide +kernel⟩
abbrev s_told_set : Stmt := topS 20
theorem sc_told_set : FnScope ["plain", "many"] ["plain"] (defScope s_told_set) := ⟨rfl, rfl, rfl, by decide +kernel, rfl, by decide +kernel, by decide +kernel⟩
abbrev s_in_set : Stmt := topS 21
theorem sc_in_set : FnScope ["plain", "number", "few", "ring"] ["plain", "number"] (defScope s_in_set) := ⟨rfl, rfl, rfl, by decide +kernel, rfl, by decide +kernel, by decide +kernel⟩
abbrev s_common_round : Stmt := topS 22
theorem sc_common_round : FnScope ["one", "two", "size"] ["one", "two"] (defScope s_common_round) := ⟨rfl, rfl, rfl, by decide +kernel, rfl, by decide +kernel, by decide +kernel⟩
abbrev s_set_by : Stmt := topS 23
theorem sc_set_by : FnScope ["one", "two", "truths", "begin", "size", "row", "number"] ["one", "two", "truths"] (defScope s_set_by) := ⟨rfl, rfl, rfl, by decide +kernel, rfl, by decide +kernel, by decide +kernel⟩
abbrev s_either_set : Stmt := topS 24
theorem sc_either_set : FnScope ["one", "two"] ["one", "two"] (defScope s_either_set) := ⟨rfl, rfl, rfl, by decide +kernel, rfl, by decide +kernel, by decide +kernel⟩
abbrev s_both_set : Stmt := topS 25
theorem sc_both_set : FnScope ["one", "two"] ["one", "two"] (defScope s_both_set) := ⟨rfl, rfl, rfl, by decide +kernel, rfl, by decide +kernel, by decide +kernel⟩
abbrev s_other_set : Stmt := topS 26
theorem sc_other_set : FnScope ["plain", "one"] ["plain"] (defScope s_other_set) := ⟨rfl, rfl, rfl, by decide +kernel, rfl, by decide +kernel, by decide +kernel⟩
abbrev s_first_of : Stmt := topS 27
theorem sc_first_of : FnScope ["plain", "row", "number"] ["plain"] (defScope s_first_of) := ⟨rfl, rfl, rfl, by decide +kernel, rfl, by decide +kernel, by decide +kernel⟩
abbrev s_has_number : Stmt := topS 28
theorem sc_has_number : FnScope ["numbers", "number", "plain"] ["numbers", "number"] (defScope s_has_number) := ⟨rfl, rfl, rfl, by decide +kernel, rfl, by decide +kernel, by decide +kernel⟩
abbrev s_set_of : Stmt := topS 29
theorem sc_set_of : FnScope ["listed", "one", "number"] ["listed"] (defScope s_set_of) := ⟨rfl, rfl, rfl, by decide +kernel, rfl, by decide +kernel, by decide +kernel⟩
abbrev s_numbers_below : Stmt := topS 30
theorem sc_numbers_below : FnScope ["numbers", "many", "plain", "number"] ["numbers", "many"] (defScope s_numbers_below) := ⟨rfl, rfl, rfl, by decide +kernel, rfl, by decide +kernel, by decide +kernel⟩
abbrev s_union_of : Stmt := topS 31
theorem sc_union_of : FnScope ["numbers", "other", "one", "two"] ["numbers", "other"] (defScope s_union_of) := ⟨rfl, rfl, rfl, by decide +kernel, rfl, by decide +kernel, by decide +kernel⟩
abbrev s_meet_of : Stmt := topS 32
theorem sc_meet_of : FnScope ["numbers", "other", "one", "two"] ["numbers", "other"] (defScope s_meet_of) := ⟨rfl, rfl, rfl, by decide +kernel, rfl, by decide +kernel, by decide +kernel⟩
abbrev s_rest_of : Stmt := topS 33
theorem sc_rest_of : FnScope ["numbers"] ["numbers"] (defScope s_rest_of) := ⟨rfl, rfl, rfl, by decide +kernel, rfl, by decide +kernel, by decide +kernel⟩
abbrev s_is_within : Stmt := topS 34
theorem sc_is_within : FnScope ["numbers", "other", "one", "two"] ["numbers", "other"] (defScope s_is_within) := ⟨rfl, rfl, rfl, by decide +kernel, rfl, by decide +kernel, by decide +kernel⟩
abbrev s_first_number : Stmt := topS 35
theorem sc_first_number : FnScope ["numbers"] ["numbers"] (defScope s_first_number) := ⟨rfl, rfl, rfl, by decide +kernel, rfl, by decide +kernel, by decide +kernel⟩
abbrev s_first_apart : Stmt := topS 36
theorem sc_first_apart : FnScope ["numbers", "other", "one", "two"] ["numbers", "other"] (defScope s_first_apart) := ⟨rfl, rfl, rfl, by decide +kernel, rfl, by decide +kernel, by decide +kernel⟩
abbrev s_need_by : Stmt := topS 38
theorem sc_need_by : FnScope ["by"] ["by"] (defScope s_need_by) := ⟨rfl, rfl, rfl, by decide +kernel, rfl, by decide +kernel, by decide +kernel⟩
abbrev s_up_by : Stmt := topS 39
theorem sc_up_by : FnScope ["plain", "by"] ["plain", "by"] (defScope s_up_by) := ⟨rfl, rfl, rfl, by decide +kernel, rfl, by decide +kernel, by decide +kernel⟩
abbrev s_down_by : Stmt := topS 40
theorem sc_down_by : FnScope ["plain", "by", "begin", "size", "row", "number"] ["plain", "by"] (defScope s_down_by) := ⟨rfl, rfl, rfl, by decide +kernel, rfl, by decide +kernel, by decide +kernel⟩
abbrev s_low_by : Stmt := topS 41
theorem sc_low_by : FnScope ["plain", "by", "few", "ring", "begin", "row", "number"] ["plain", "by"] (defScope s_low_by) := ⟨rfl, rfl, rfl, by decide +kernel, rfl, by decide +kernel, by decide +kernel⟩
abbrev s_mask_of : Stmt := topS 42
theorem sc_mask_of : FnScope ["plain", "size", "number"] ["plain", "size"] (defScope s_mask_of) := ⟨rfl, rfl, rfl, by decide +kernel, rfl, by decide +kernel, by decide +kernel⟩
abbrev s_sum_set : Stmt := topS 43
theorem sc_sum_set : FnScope ["one", "two", "size", "begin", "mask", "both", "number", "row"] ["one", "two"] (defScope s_sum_set) := ⟨rfl, rfl, rfl, by decide +kernel, rfl, by decide +kernel, by decide +kernel⟩
abbrev s_shifted_up : Stmt := topS 44
theorem sc_shifted_up : FnScope ["numbers", "by", "plain"] ["numbers", "by"] (defScope s_shifted_up) := ⟨rfl, rfl, rfl, by decide +kernel, rfl, by decide +kernel, by decide +kernel⟩
abbrev s_shifted_down : Stmt := topS 45
theorem sc_shifted_down : FnScope ["numbers", "by", "plain"] ["numbers", "by"] (defScope s_shifted_down) := ⟨rfl, rfl, rfl, by decide +kernel, rfl, by decide +kernel, by decide +kernel⟩
abbrev s_lowered : Stmt := topS 46
theorem sc_lowered : FnScope ["numbers", "by", "plain"] ["numbers", "by"] (defScope s_lowered) := ⟨rfl, rfl, rfl, by decide +kernel, rfl, by decide +kernel, by decide +kernel⟩
abbrev s_sums_of : Stmt := topS 47
theorem sc_sums_of : FnScope ["numbers", "other", "one", "two"] ["numbers", "other"] (defScope s_sums_of) := ⟨rfl, rfl, rfl, by decide +kernel, rfl, by decide +kernel, by decide +kernel⟩
abbrev s_law_start : Stmt := topS 49
theorem sc_law_start : FnScope ["script"] ["script"] (defScope s_law_start) := ⟨rfl, rfl, rfl, by decide +kernel, rfl, by decide +kernel, by decide +kernel⟩
abbrev s_law_below : Stmt := topS 50
theorem sc_law_below : FnScope ["stream", "many", "cell", "digit", "mixed"] ["stream", "many"] (defScope s_law_below) := ⟨rfl, rfl, rfl, by decide +kernel, rfl, by decide +kernel, by decide +kernel⟩
abbrev s_law_chance : Stmt := topS 51
theorem sc_law_chance : FnScope ["stream", "many"] ["stream", "many"] (defScope s_law_chance) := ⟨rfl, rfl, rfl, by decide +kernel, rfl, by decide +kernel, by decide +kernel⟩
abbrev s_law_copied : Stmt := topS 52
theorem sc_law_copied : FnScope ["thing", "found", "part", "key"] ["thing"] (defScope s_law_copied) := ⟨rfl, rfl, rfl, by decide +kernel, rfl, by decide +kernel, by decide +kernel⟩
abbrev s_law_same : Stmt := topS 53
theorem sc_law_same : FnScope ["found", "due", "x", "y"] ["found", "due"] (defScope s_law_same) := ⟨rfl, rfl, rfl, by decide +kernel, rfl, by decide +kernel, by decide +kernel⟩
abbrev s_law_ktruths : Stmt := topS 54
theorem sc_law_ktruths : FnScope ["stream", "many", "turn"] ["stream", "many"] (defScope s_law_ktruths) := ⟨rfl, rfl, rfl, by decide +kernel, rfl, by decide +kernel, by decide +kernel⟩
abbrev s_law_kset : Stmt := topS 55
theorem sc_law_kset : FnScope ["stream", "most", "way", "few", "ring"] ["stream", "most"] (defScope s_law_kset) := ⟨rfl, rfl, rfl, by decide +kernel, rfl, by decide +kernel, by decide +kernel⟩
abbrev s_law_kset_in : Stmt := topS 56
theorem sc_law_kset_in : FnScope ["thing", "number", "few", "ring"] ["thing", "number"] (defScope s_law_kset_in) := ⟨rfl, rfl, rfl, by decide +kernel, rfl, by decide +kernel, by decide +kernel⟩
abbrev s_law_kset_form : Stmt := topS 57
theorem sc_law_kset_form : FnScope ["row", "begin", "size", "step", "good", "few", "at"] ["row", "begin", "size"] (defScope s_law_kset_form) := ⟨rfl, rfl, rfl, by decide +kernel, rfl, by decide +kernel, by decide +kernel⟩
abbrev s_law_kset_least : Stmt := topS 58
theorem sc_law_kset_least : FnScope ["thing", "begin", "size", "number"] ["thing"] (defScope s_law_kset_least) := ⟨rfl, rfl, rfl, by decide +kernel, rfl, by decide +kernel, by decide +kernel⟩
abbrev s_law : Stmt := topS 59
theorem sc_law : FnScope ["script", "stream", "turn", "one", "two", "by", "joins", "meets", "number", "truths", "due", "found", "others", "inside", "high", "row", "low", "down", "listed", "three", "left", "parts", "look", "thing", "more"] ["script"] (defScope s_law) := ⟨rfl, rfl, rfl, by decide +kernel, rfl, by decide +kernel, by decide +kernel⟩
structure Txt (K : PySem.W.Frag) (mg : Str → Option Value) : Prop where
  a_is_row : At K mg "is_row" s_is_row ["thing"]
  a_is_number : At K mg "is_number" s_is_number ["thing", "low", "high"]
  a_is_truths : At K mg "is_truths" s_is_truths ["thing"]
  a_round_size : At K mg "round_size" s_round_size ["ring"]
  a_least_of : At K mg "least_of" s_least_of ["few", "ring"]
  a_set_in : At K mg "set_in" s_set_in ["thing"]
  a_need_set : At K mg "need_set" s_need_set ["numbers"]
  a_need_sets : At K mg "need_sets" s_need_sets ["numbers", "other"]
  a_told_set : At K mg "told_set" s_told_set ["plain"]
  a_in_set : At K mg "in_set" s_in_set ["plain", "number"]
  a_common_round : At K mg "common_round" s_common_round ["one", "two"]
  a_set_by : At K mg "set_by" s_set_by ["one", "two", "truths"]
  a_either_set : At K mg "either_set" s_either_set ["one", "two"]
  a_both_set : At K mg "both_set" s_both_set ["one", "two"]
  a_other_set : At K mg "other_set" s_other_set ["plain"]
  a_first_of : At K mg "first_of" s_first_of ["plain"]
  a_has_number : At K mg "has_number" s_has_number ["numbers", "number"]
  a_set_of : At K mg "set_of" s_set_of ["listed"]
  a_numbers_below : At K mg "numbers_below" s_numbers_below ["numbers", "many"]
  a_union_of : At K mg "union_of" s_union_of ["numbers", "other"]
  a_meet_of : At K mg "meet_of" s_meet_of ["numbers", "other"]
  a_rest_of : At K mg "rest_of" s_rest_of ["numbers"]
  a_is_within : At K mg "is_within" s_is_within ["numbers", "other"]
  a_first_number : At K mg "first_number" s_first_number ["numbers"]
  a_first_apart : At K mg "first_apart" s_first_apart ["numbers", "other"]
  a_need_by : At K mg "need_by" s_need_by ["by"]
  a_up_by : At K mg "up_by" s_up_by ["plain", "by"]
  a_down_by : At K mg "down_by" s_down_by ["plain", "by"]
  a_low_by : At K mg "low_by" s_low_by ["plain", "by"]
  a_mask_of : At K mg "mask_of" s_mask_of ["plain", "size"]
  a_sum_set : At K mg "sum_set" s_sum_set ["one", "two"]
  a_shifted_up : At K mg "shifted_up" s_shifted_up ["numbers", "by"]
  a_shifted_down : At K mg "shifted_down" s_shifted_down ["numbers", "by"]
  a_lowered : At K mg "lowered" s_lowered ["numbers", "by"]
  a_sums_of : At K mg "sums_of" s_sums_of ["numbers", "other"]
  a_law_start : At K mg "_law_start" s_law_start ["script"]
  a_law_below : At K mg "_law_below" s_law_below ["stream", "many"]
  a_law_chance : At K mg "_law_chance" s_law_chance ["stream", "many"]
  a_law_copied : At K mg "_law_copied" s_law_copied ["thing"]
  a_law_same : At K mg "_law_same" s_law_same ["found", "due"]
  a_law_ktruths : At K mg "_law_ktruths" s_law_ktruths ["stream", "many"]
  a_law_kset : At K mg "_law_kset" s_law_kset ["stream", "most"]
  a_law_kset_in : At K mg "_law_kset_in" s_law_kset_in ["thing", "number"]
  a_law_kset_form : At K mg "_law_kset_form" s_law_kset_form ["row", "begin", "size"]
  a_law_kset_least : At K mg "_law_kset_least" s_law_kset_least ["thing"]
  a_law : At K mg "law" s_law ["script"]
  g_all : mg "all" = none
  g_bool : mg "bool" = none
  g_dict : mg "dict" = none
  g_int : mg "int" = none
  g_isinstance : mg "isinstance" = none
  g_len : mg "len" = none
  g_list : mg "list" = none
  g_max : mg "max" = none
  g_range : mg "range" = none
  g_sorted : mg "sorted" = none
  g_str : mg "str" = none
  g_sum : mg "sum" = none
  g_tuple : mg "tuple" = none
  g_zip : mg "zip" = none
  c_MOST : ∃ t, mg "MOST" = some (.int 60 t)
end K17

set_option Elab.async false
set_option linter.all false
set_option maxRecDepth 100000
set_option maxHeartbeats 4000000
namespace K17
open PySem PySem.Spec PyProof.Rows L2 Dl Sm
abbrev encP (s : S) : PyData := .tuple [.tuple (s.1.map .bool), .tuple (s.2.map .bool)]
abbrev encT (s : S) : PyData := .tuple [.list (s.1.map .bool), .list (s.2.map .bool)]
def F_is_row (ds : List PyData) (d : PyData) : Prop := ∃ x, ds = [x] ∧ d = .bool (isRowD x)
/-- a list or a tuple of truths -/
inductive Bs : PyData → List Bool → Prop
  | lst (l : List Bool) : Bs (.list (l.map .bool)) l
  | tup (l : List Bool) : Bs (.tuple (l.map .bool)) l
theorem Bs.row {x : PyData} {l : List Bool} (h : Bs x l) : isRowD x = true := by cases h <;> rfl
theorem Bs.len {x : PyData} {l : List Bool} (h : Bs x l) : LenD x l.length := by
  cases h with
  | lst => have := LenD.lst (l.map PyData.bool); rw [List.length_map] at this; exact this
  | tup => have := LenD.tup (l.map PyData.bool); rw [List.length_map] at this; exact this
theorem Bs.seq {x : PyData} {l : List Bool} (h : Bs x l) : SeqD x (l.map .bool) := by
  cases h with
  | lst => exact .lst _
  | tup => exact .tup _
def F_is_truths (ds : List PyData) (d : PyData) : Prop := ∃ x l, ds = [x] ∧ Bs x l ∧ l.length ≤ 60 ∧ d = .bool true
def F_round_size (ds : List PyData) (d : PyData) : Prop := ∃ r : List Bool, ds = [.tuple (r.map .bool)] ∧ r ≠ [] ∧ d = .int (roundSize r : Nat)
def F_least_of (ds : List PyData) (d : PyData) : Prop := ∃ x y f r, ds = [x, y] ∧ Bs x f ∧ Bs y r ∧ r ≠ [] ∧ r.length ≤ 100000 ∧ d = encP (leastOf f r)
section
variable {P : Program} {w : World} {K : PySem.W.Frag} {mg : Str → Option Value} {base : Heap}
theorem c_is_row (T : Txt K mg) : Def P w K mg base 1 "is_row" ["thing"] (SpP K F_is_row) := by
  refine def_pure T.a_is_row sc_is_row (fun ds d h => ?_) ?_
  · obtain ⟨x, rfl, _⟩ := h
    rfl
  rintro _ ⟨fa, cdv, A, outer, s, H, E, hr, rfl⟩ _ _ ⟨x, rfl, rfl⟩
  show XB _ [.dat _] _ _
  exact xb_ret (xe_isi2 T.g_isinstance (xe_var 0) T.g_list boot_list T.g_tuple boot_tuple (kit_row x)) rfl
theorem c_is_truths (T : Txt K mg) (c_is_row : Def P w K mg base 1 "is_row" ["thing"] (SpP K F_is_row)) : Def P w K mg base 2 "is_truths" ["thing"] (SpP K F_is_truths) := by
  refine def_pure T.a_is_truths sc_is_truths (fun ds d h => ?_) ?_
  · obtain ⟨x, l, rfl, _⟩ := h
    rfl
  rintro _ ⟨fa, cdv, A, outer, s, H, E, hr, rfl⟩ _ _ ⟨x, l, rfl, hb, hl, rfl⟩
  have hu := room65 hr
  obtain ⟨tM, hM⟩ := T.c_MOST
  show XB _ [.dat _, .no] _ _
  refine xb_ret (xe_and (xe_call c_is_row (hr.mono (by decide)) (xa_cons (xe_var 0) xa_nil) ⟨_, rfl, rfl⟩) (fun _ => (xe_and (xe_cmp hu (xe_len T.g_len (xe_var 0) hb.len) (xe_gint hM) (.leI _ _)) (fun _ => (xe_one (xe_cmp hu (xe_new (xl_lcIf (l := l) (f := .bool) 1 _ _ sc_is_truths.nd (xi_seq (xe_var 0) hb.seq) (fun _ _ _ _ _ d hd => (xt_not (xt_tru (xe_isi T.g_isinstance (xe_var 1) T.g_bool boot_bool (kit_bool _))))) (fun _ _ _ _ _ d hd ht => (xe_var 1)) (by omega)).val) (xe_lst xa_nil) (.eqD _ _ (shaped_bools _) shaped_nil))))))) ?_
  show PyData.bool (isRowD x && (decide ((l.length : Int) ≤ 60) && PyData.eqv (.list ((l.filter fun _ => false).map .bool)) (.list (([] : List Bool).map .bool)))) = .bool true
  rw [eqv_lb, hb.row, show l.filter (fun _ => false) = [] from List.filter_eq_nil_iff.mpr (fun _ _ => Bool.false_ne_true), decide_eq_true (show (l.length : Int) ≤ 60 by omega)]
  rfl
theorem c_round_size (T : Txt K mg) : Def P w K mg base 1 "round_size" ["ring"] (SpP K F_round_size) := by
  refine def_pure T.a_round_size sc_round_size (fun ds d h => ?_) ?_
  · obtain ⟨r, rfl, _⟩ := h
    rfl
  rintro _ ⟨fa, cdv, A, outer, s, H, E, hr, rfl⟩ _ _ ⟨r, rfl, hne, rfl⟩
  have hu := room65 hr
  show XB _ [.dat _, .no] _ _
  obtain ⟨hs1, hs2, hs3, hs4⟩ := roundSize_spec hne
  refine xb_asg 1 xe_int ?_ sc_round_size.nd
  refine xb_while (fun m δ => ∃ n : Nat, 1 ≤ n ∧ n + m = roundSize r ∧ δ = [.dat (.tuple (r.map .bool)), .dat (.int (n : Nat))]) (fun δ => δ = [.dat (.tuple (r.map .bool)), .dat (.int (roundSize r : Nat))]) (roundSize r - 1) ⟨1, Nat.le_refl _, by omega, rfl⟩ (fun m δ hJ => ?_) (fun δ hM => ?_)
  · obtain ⟨n, hn1, hn2, rfl⟩ := hJ
    refine ⟨_, ((xw_or (xt_tru (xe_modI (xe_len T.g_len (xe_var 0) (.tup _)) (xe_var 1) (by omega))) (fun _ => (xw_or1 (xt_cmp hu (xe_sl (xe_var 0) (xo_some (xe_var 1)) xo_none (.tup _ _ _)) (xe_sl (xe_var 0) xo_none (xo_some (xe_subI (xe_len T.g_len (xe_var 0) (.tup _)) (xe_var 1))) (.tup _ _ _)) (.neD _ _ ?s1 ?s2)))))).xt, fun h => ?_, fun h => ?_⟩
    case s1 => rw [cutD_map]; exact shaped_boolsT _
    case s2 => rw [cutD_map]; exact shaped_boolsT _
    all_goals
      have ht : (truD (.int (((r.map PyData.bool).length : Int) % (n : Int))) || !PyData.eqv (.tuple (cutD (r.map PyData.bool) (some (n : Int)) none)) (.tuple (cutD (r.map PyData.bool) none (some (((r.map PyData.bool).length : Int) - (n : Int)))))) = !roundOk r n := by
        have e1 : (((r.map PyData.bool).length : Int) - (n : Int)) = ((r.length - n : Nat) : Int) := by rw [List.length_map]; omega
        rw [e1, cutD_map, cutD_map, cutD_from, cutD_to, eqv_tb, List.length_map]
        show ((r.length : Int) % (n : Int) != 0 || !decide (List.drop n r = List.take (r.length - n) r)) = !roundOk r n
        unfold roundOk
        have e2 : ((r.length : Int) % (n : Int) != 0) = !(r.length % n == 0) := by
          have : ((r.length : Int) % (n : Int)) = ((r.length % n : Nat) : Int) := by omega
          rw [this, intNe0]
        rw [e2, Bool.not_and]
    · rw [ht] at h
      have hlt : n < roundSize r := by
        rcases Nat.lt_or_ge n (roundSize r) with h1 | h1
        · exact h1
        · have : n = roundSize r := by omega
          rw [this, hs3] at h
          cases h
      refine xb_augAdd 1 rfl xe_int (xb_nil ⟨m - 1, by omega, n + 1, by omega, by omega, ?_⟩) sc_round_size.nd
      rfl
    · rw [ht] at h
      have h' : roundOk r n = true := by
        cases hh : roundOk r n with
        | true => rfl
        | false => rw [hh] at h; cases h
      have : n = roundSize r := by
        rcases Nat.lt_or_ge n (roundSize r) with h1 | h1
        · rw [hs4 n hn1 h1] at h'
          cases h'
        · omega
      rw [this]
  · subst hM
    exact xb_ret (xe_var 1) rfl
theorem leastLoop_r : ∀ (n : Nat) (f r : List Bool), r ≠ [] → (leastLoop n f r).2 ≠ []
  | 0, f, r, h => h
  | n + 1, f, r, h => by
    unfold leastLoop
    split
    · refine leastLoop_r n _ _ ?_
      rw [List.getLast?_eq_some_getLast h]
      exact List.cons_ne_nil _ _
    · exact h
theorem c_least_of (T : Txt K mg) (c_round_size : Def P w K mg base 1 "round_size" ["ring"] (SpP K F_round_size)) : Def P w K mg base 2 "least_of" ["few", "ring"] (SpP K F_least_of) := by
  refine def_pure T.a_least_of sc_least_of (fun ds d h => ?_) ?_
  · obtain ⟨x, y, f, r, rfl, _⟩ := h
    rfl
  rintro _ ⟨fa, cdv, A, outer, s, H, E, hr, rfl⟩ _ _ ⟨x, y, f, r, rfl, hx, hy, hne, hl, rfl⟩
  have hu := room65 hr
  show XB _ [.dat _, .dat _] _ _
  refine xb_par (i := 0) (j := 1) (xe_tupleOf T.g_tuple (xe_var 0) hx.seq) (xe_sl (xe_tupleOf T.g_tuple (xe_var 1) hy.seq) xo_none (xo_some (xe_call c_round_size (hr.mono (by decide)) (xa_cons (xe_tupleOf T.g_tuple (xe_var 1) hy.seq) xa_nil) ⟨r, rfl, hne, rfl⟩)) (.tup _ _ _)) ?_ sc_least_of.nd
  rw [cutD_map, cutD_to]
  have hne1 : r.take (roundSize r) ≠ [] := by
    obtain ⟨h1, h2, _⟩ := roundSize_spec hne
    intro h
    have h3 : (r.take (roundSize r)).length = 0 := by rw [h]; rfl
    rw [List.length_take] at h3
    have := List.length_pos_iff.mpr hne
    omega
  have hl1 : (r.take (roundSize r)).length ≤ 100000 := by
    rw [List.length_take]
    omega
  refine xb_while (fun m δ => ∃ f' r', r' ≠ [] ∧ r'.length ≤ 100000 ∧ f'.length = m ∧ leastLoop m f' r' = leastOf f r ∧ δ = [.dat (.tuple (f'.map .bool)), .dat (.tuple (r'.map .bool))])
    (fun δ => δ = [.dat (.tuple ((leastOf f r).1.map .bool)), .dat (.tuple ((leastOf f r).2.map .bool))]) f.length ⟨f, r.take (roundSize r), hne1, hl1, rfl, rfl, rfl⟩ (fun m δ hJ => ?_) (fun δ hM => ?_)
  · obtain ⟨f', r', hn', hl', hm, he, rfl⟩ := hJ
    obtain ⟨rl, hrl⟩ : ∃ a, r'.getLast? = some a := ⟨_, List.getLast?_eq_some_getLast hn'⟩
    have hr' : r' = r'.dropLast ++ [rl] := by
      obtain ⟨ys, hys⟩ := List.getLast?_eq_some_iff.mp hrl
      rw [hys, List.dropLast_concat]
    have ax : atI (r'.map PyData.bool) (-1) = some (.bool rl) := by
      rw [hr', List.map_append]
      exact atI_last _ _
    cases hf : f'.getLast? with
    | none =>
      have hf0 : f' = [] := List.getLast?_eq_none_iff.mp hf
      subst hf0
      refine ⟨_, ((xw_and (k := false) (m := true) (xt_eq (xt_tru (xe_var 0)) rfl) (fun h => nomatch h))).xt, fun h => ?_, fun h => ?_⟩
      · cases h
      · have : m = 0 := hm.symm
        subst this
        have : leastOf f r = ([], r') := he.symm
        rw [this]
    | some fl =>
      have hf' : f' = f'.dropLast ++ [fl] := by
        obtain ⟨ys, hys⟩ := List.getLast?_eq_some_iff.mp hf
        rw [hys, List.dropLast_concat]
      have af : atI (f'.map PyData.bool) (-1) = some (.bool fl) := by
        rw [hf', List.map_append]
        exact atI_last _ _
      have hfn : f' ≠ [] := fun z => by rw [z] at hf; cases hf
      obtain ⟨n, rfl⟩ : ∃ n, m = n + 1 := ⟨m - 1, by
        have : 0 < f'.length := List.length_pos_iff.mpr hfn
        omega⟩
      have htr : truD (.tuple (f'.map PyData.bool)) = true := by
        cases f' with
        | nil => exact absurd rfl hfn
        | cons a l => rfl
      refine ⟨_, ((xw_and (xt_tru (xe_var 0)) (fun _ => (xw_and1 (xt_cmp hu (xe_ix (xe_var 0) (xe_neg xe_int) (.tup af)) (xe_ix (xe_var 1) (xe_neg xe_int) (.tup ax)) (.eqB _ _)))))).xt, fun h => ?_, fun h => ?_⟩
      · rw [htr, Bool.true_and, beq_iff_eq] at h
        have hcut : cutD (r'.map PyData.bool) (some (-1)) none = [.bool rl] := by
          rw [cutD_map, hr', cutD_last]
          rfl
        refine xb_par (i := 0) (j := 1) (xe_sl (xe_var 0) xo_none (xo_some (xe_neg xe_int)) (.tup _ _ _)) (xe_catT (xe_sl (xe_var 1) (xo_some (xe_neg xe_int)) xo_none (.tup _ _ _)) (xe_sl (xe_var 1) xo_none (xo_some (xe_neg xe_int)) (.tup _ _ _)) ?hz) (xb_nil ?_) sc_least_of.nd
        case hz =>
          show (cutD (r'.map PyData.bool) (some (-1)) none).length + (cutD (r'.map PyData.bool) none (some (-1))).length ≤ _
          rw [hcut, cutD_map, cutD_init, List.length_map, List.length_dropLast]
          show 1 + _ ≤ _
          omega
        refine ⟨n, Nat.lt_succ_self n, f'.dropLast, rl :: r'.dropLast, List.cons_ne_nil _ _, ?_, ?_, ?_, ?_⟩
        · rw [List.length_cons, List.length_dropLast]
          have : 0 < r'.length := List.length_pos_iff.mpr hn'
          omega
        · rw [List.length_dropLast, hm]
          rfl
        · rw [← he]
          conv => rhs; unfold leastLoop
          rw [if_pos ⟨hfn, by rw [hf, hrl, h]⟩, hrl]
          rfl
        · show [Slot.dat (PyData.tuple (cutD (f'.map PyData.bool) none (some (-1)))), Slot.dat (PyData.tuple (cutD (r'.map PyData.bool) (some (-1)) none ++ cutD (r'.map PyData.bool) none (some (-1))))] = _
          rw [hcut, cutD_map, cutD_init, cutD_map, cutD_init]
          rfl
      · rw [htr, Bool.true_and] at h
        have : leastOf f r = (f', r') := by
          rw [← he]
          unfold leastLoop
          rw [if_neg]
          rintro ⟨_, e⟩
          rw [hf, hrl] at e
          cases e
          simp at h
        rw [this]
  · subst hM
    exact xb_ret (xe_tup (xa_cons (xe_var 0) (xa_cons (xe_var 1) xa_nil))) rfl
end
end K17

set_option Elab.async false
set_option linter.all false
set_option maxRecDepth 100000
set_option maxHeartbeats 4000000
namespace K17
open PySem PySem.Spec PyProof.Rows L2 Dl Sm
/-- a set as it may be passed -/
def St (x : PyData) (s : S) : Prop := ∃ a b, SeqD x [a, b] ∧ Bs a s.1 ∧ Bs b s.2
theorem St.told (s : S) : St (encT s) s := ⟨_, _, .tup _, .lst _, .lst _⟩
def Sz (s : S) : Prop := s.1.length ≤ 60 ∧ s.2.length ≤ 60 ∧ s.2 ≠ []
def lst (s : S) : S := leastOf s.1 s.2
def F_set_in (ds : List PyData) (d : PyData) : Prop := ∃ x s, ds = [x] ∧ St x s ∧ Sz s ∧ d = encP (lst s)
def F_need_sets (ds : List PyData) (d : PyData) : Prop := ∃ x s y t, ds = [x, y] ∧ St x s ∧ Sz s ∧ St y t ∧ Sz t ∧ d = .tuple [encP (lst s), encP (lst t)]
def F_told_set (ds : List PyData) (d : PyData) : Prop := ∃ s : S, ds = [encP s] ∧ s.1.length ≤ 60 ∧ s.2.length ≤ 60 ∧ d = encT s
def F_in_set (ds : List PyData) (d : PyData) : Prop := ∃ (s : S) (n : Nat), ds = [encP s, .int (n : Nat)] ∧ s.2 ≠ [] ∧ d = .bool (inS s n)
def F_common_round (ds : List PyData) (d : PyData) : Prop := ∃ a b : List Bool, ds = [.tuple (a.map .bool), .tuple (b.map .bool)] ∧ a ≠ [] ∧ b ≠ [] ∧ d = .int (Nat.lcm a.length b.length : Nat)
section
variable {P : Program} {w : World} {K : PySem.W.Frag} {mg : Str → Option Value} {base : Heap}
theorem c_set_in (T : Txt K mg) (c_is_row : Def P w K mg base 1 "is_row" ["thing"] (SpP K F_is_row)) (c_is_truths : Def P w K mg base 2 "is_truths" ["thing"] (SpP K F_is_truths)) (c_least_of : Def P w K mg base 2 "least_of" ["few", "ring"] (SpP K F_least_of)) : Def P w K mg base 3 "set_in" ["thing"] (SpP K F_set_in) := by
  refine def_pure T.a_set_in sc_set_in (fun ds d h => ?_) ?_
  · obtain ⟨x, s, rfl, _⟩ := h
    rfl
  rintro _ ⟨fa, cdv, A, outer, s, H, E, hr, rfl⟩ _ _ ⟨x, s, rfl, ⟨a, b, hx, ha, hb⟩, ⟨h1, h2, h3⟩, rfl⟩
  have hu := room65 hr
  show XB _ [.dat _] _ _
  have ia : IxD x 0 a := hx.ix rfl
  have ib : IxD x 1 b := hx.ix rfl
  have tb : truD b = true := by
    rw [hb.seq.tru]
    cases hs : s.2 with
    | nil => exact absurd hs h3
    | cons => rfl
  refine xb_ifR (k := false) (xt_eq ((xw_or (xt_not (xt_tru (xe_call c_is_row (hr.mono (by decide)) (xa_cons (xe_var 0) xa_nil) ⟨_, rfl, rfl⟩))) (fun _ => (xw_or (xt_cmp hu (xe_len T.g_len (xe_var 0) hx.len) xe_int (.neI _ _)) (fun _ => (xw_or (xt_not (xt_tru (xe_call c_is_truths (hr.mono (by decide)) (xa_cons (xe_ix (xe_var 0) xe_int ia) xa_nil) ⟨_, _, rfl, ha, h1, rfl⟩))) (fun _ => (xw_or (xt_not (xt_tru (xe_call c_is_truths (hr.mono (by decide)) (xa_cons (xe_ix (xe_var 0) xe_int ib) xa_nil) ⟨_, _, rfl, hb, h2, rfl⟩))) (fun _ => (xw_or1 (xt_not (xt_tru (xe_ix (xe_var 0) xe_int ib) hb.seq.truOk)))))))))))).xt ?_) (fun h => nomatch h) (fun _ => ?_)
  · rw [tb, hx.row]
    rfl
  exact xb_ret (xe_call c_least_of (hr.mono (by decide)) (xa_cons (xe_ix (xe_var 0) xe_int ia) (xa_cons (xe_ix (xe_var 0) xe_int ib) xa_nil)) ⟨_, _, _, _, rfl, ha, hb, h3, by omega, rfl⟩) rfl
theorem c_need_set (T : Txt K mg) (c_set_in : Def P w K mg base 3 "set_in" ["thing"] (SpP K F_set_in)) : Def P w K mg base 4 "need_set" ["numbers"] (SpP K F_set_in) := by
  refine def_pure T.a_need_set sc_need_set (fun ds d h => ?_) ?_
  · obtain ⟨x, s, rfl, _⟩ := h
    rfl
  rintro _ ⟨fa, cdv, A, outer, s, H, E, hr, rfl⟩ _ _ ⟨x, s, rfl, hx, hz, rfl⟩
  have hu := room65 hr
  show XB _ [.dat _, .no] _ _
  refine xb_asg 1 (xe_call c_set_in (hr.mono (by decide)) (xa_cons (xe_var 0) xa_nil) ⟨_, _, rfl, hx, hz, rfl⟩) ?_ sc_need_set.nd
  refine xb_ifR (k := false) (xt_eq (xt_cmp hu (xe_var 1) xe_non (.isN _ _ rfl)) rfl) (fun h => nomatch h) (fun _ => ?_)
  exact xb_ret (xe_var 1) rfl
theorem c_need_sets (T : Txt K mg) (c_need_set : Def P w K mg base 4 "need_set" ["numbers"] (SpP K F_set_in)) (c_set_in : Def P w K mg base 3 "set_in" ["thing"] (SpP K F_set_in)) : Def P w K mg base 5 "need_sets" ["numbers", "other"] (SpP K F_need_sets) := by
  refine def_pure T.a_need_sets sc_need_sets (fun ds d h => ?_) ?_
  · obtain ⟨x, s, y, t, rfl, _⟩ := h
    rfl
  rintro _ ⟨fa, cdv, A, outer, s, H, E, hr, rfl⟩ _ _ ⟨x, s, y, t, rfl, hx, hz, hy, hz2, rfl⟩
  have hu := room65 hr
  show XB _ [.dat _, .dat _, .no, .no] _ _
  refine xb_par (i := 2) (j := 3) (xe_call c_need_set (hr.mono (by decide)) (xa_cons (xe_var 0) xa_nil) ⟨_, _, rfl, hx, hz, rfl⟩) (xe_call c_set_in (hr.mono (by decide)) (xa_cons (xe_var 1) xa_nil) ⟨_, _, rfl, hy, hz2, rfl⟩) ?_ sc_need_sets.nd
  refine xb_ifR (k := false) (xt_eq (xt_cmp hu (xe_var 3) xe_non (.isN _ _ rfl)) rfl) (fun h => nomatch h) (fun _ => ?_)
  exact xb_ret (xe_tup (xa_cons (xe_var 2) (xa_cons (xe_var 3) xa_nil))) rfl
theorem c_told_set (T : Txt K mg) : Def P w K mg base 1 "told_set" ["plain"] (SpP K F_told_set) := by
  refine def_pure T.a_told_set sc_told_set (fun ds d h => ?_) ?_
  · obtain ⟨s, rfl, _⟩ := h
    rfl
  rintro _ ⟨fa, cdv, A, outer, s, H, E, hr, rfl⟩ _ _ ⟨s, rfl, h1, h2, rfl⟩
  have hu := room65 hr
  obtain ⟨tM, hM⟩ := T.c_MOST
  show XB _ [.dat _, .no] _ _
  refine xb_asg 1 (xe_max2 T.g_max (xe_len T.g_len (xe_ix (xe_var 0) xe_int (.tup rfl)) (.tup _)) (xe_len T.g_len (xe_ix (xe_var 0) xe_int (.tup rfl)) (.tup _))) ?_ sc_told_set.nd
  refine xb_ifR (k := false) (xt_eq (xt_cmp hu (xe_var 1) (xe_gint hM) (.gtI _ _)) ?_) (fun h => nomatch h) (fun _ => ?_)
  · rw [decide_eq_false]
    simp only [List.length_map]
    split <;> omega
  exact xb_ret (xe_tup (xa_cons (xe_new (xn_listOf T.g_list (xe_ix (xe_var 0) xe_int (.tup rfl)) (.tup _))) (xa_cons (xe_new (xn_listOf T.g_list (xe_ix (xe_var 0) xe_int (.tup rfl)) (.tup _))) xa_nil))) rfl
theorem c_in_set (T : Txt K mg) : Def P w K mg base 1 "in_set" ["plain", "number"] (SpP K F_in_set) := by
  refine def_pure T.a_in_set sc_in_set (fun ds d h => ?_) ?_
  · obtain ⟨s, n, rfl, _⟩ := h
    rfl
  rintro _ ⟨fa, cdv, A, outer, s, H, E, hr, rfl⟩ _ _ ⟨s, n, rfl, h3, rfl⟩
  have hu := room65 hr
  show XB _ [.dat _, .dat _, .no, .no] _ _
  have hp : 0 < s.2.length := List.length_pos_iff.mpr h3
  refine xb_unp (xe_var 0) (xg_tup rfl (xgs_cons (xg_name 2 sc_in_set.nd) (xgs_cons (xg_name 3 sc_in_set.nd) xgs_nil)) rfl) ?_
  refine xb_ret (xe_if (xt_cmp hu (xe_var 1) (xe_len T.g_len (xe_var 2) (.tup _)) (.ltI _ _)) (fun h => (xe_ix (xe_var 2) (xe_var 1) (.tup ?i1))) (fun h => (xe_ix (xe_var 3) (xe_modI (xe_subI (xe_var 1) (xe_len T.g_len (xe_var 2) (.tup _))) (xe_len T.g_len (xe_var 3) (.tup _)) ?i0) (.tup ?i2)))) rfl
  case i0 => rw [List.length_map]; omega
  case i1 =>
    have hn : n < s.1.length := by
      have := of_decide_eq_true h
      rw [List.length_map] at this
      omega
    rw [atI_bools _ hn]
    unfold inS
    rw [if_pos hn]
  case i2 =>
    have hn : ¬ n < s.1.length := by
      have := of_decide_eq_false h
      rw [List.length_map] at this
      omega
    have e : ((n : Int) - ((s.1.map PyData.bool).length : Int)) % ((s.2.map PyData.bool).length : Int) = (((n - s.1.length) % s.2.length : Nat) : Int) := by
      rw [List.length_map, List.length_map, show ((n : Int) - (s.1.length : Int)) = ((n - s.1.length : Nat) : Int) by omega]
      exact (Int.natCast_emod _ _).symm
    rw [e, atI_bools _ (Nat.mod_lt _ hp)]
    unfold inS
    rw [if_neg hn]
theorem c_common_round (T : Txt K mg) : Def P w K mg base 1 "common_round" ["one", "two"] (SpP K F_common_round) := by
  refine def_pure T.a_common_round sc_common_round (fun ds d h => ?_) ?_
  · obtain ⟨a, b, rfl, _⟩ := h
    rfl
  rintro _ ⟨fa, cdv, A, outer, s, H, E, hr, rfl⟩ _ _ ⟨a, b, rfl, ha, hb, rfl⟩
  have hu := room65 hr
  show XB _ [.dat _, .dat _, .no] _ _
  have ha : 0 < a.length := List.length_pos_iff.mpr ha
  have hb : 0 < b.length := List.length_pos_iff.mpr hb
  have hL : 0 < Nat.lcm a.length b.length := Nat.lcm_pos ha hb
  refine xb_asg 2 (xe_len T.g_len (xe_var 0) (.tup _)) ?_ sc_common_round.nd
  refine xb_while (fun m δ => ∃ n : Nat, 0 < n ∧ a.length ∣ n ∧ n + m = Nat.lcm a.length b.length ∧ δ = [.dat (.tuple (a.map .bool)), .dat (.tuple (b.map .bool)), .dat (.int (n : Nat))]) (fun δ => δ = [.dat (.tuple (a.map .bool)), .dat (.tuple (b.map .bool)), .dat (.int (Nat.lcm a.length b.length : Nat))])
    (Nat.lcm a.length b.length - a.length) ⟨a.length, ha, Nat.dvd_refl _, by have := Nat.le_of_dvd hL (Nat.dvd_lcm_left a.length b.length); omega, by rw [List.length_map]; rfl⟩ (fun m δ hJ => ?_) (fun δ hM => ?_)
  · obtain ⟨n, hn0, hd, hn, rfl⟩ := hJ
    refine ⟨_, (xt_tru (xe_modI (xe_var 2) (xe_len T.g_len (xe_var 1) (.tup _)) (by rw [List.length_map]; omega))), fun h => ?_, fun h => ?_⟩
    all_goals
      have ht : truD (.int ((n : Int) % (((b.map PyData.bool).length : Nat) : Int))) = !(n % b.length == 0) := by
        rw [List.length_map, show ((n : Int) % (b.length : Int)) = ((n % b.length : Nat) : Int) by omega]
        exact intNe0 _
      rw [ht] at h
    · have hne : n ≠ Nat.lcm a.length b.length := fun e => by
        have : n % b.length = 0 := Nat.mod_eq_zero_of_dvd (by rw [e]; exact Nat.dvd_lcm_right _ _)
        rw [this] at h
        cases h
      have hdl : a.length ∣ Nat.lcm a.length b.length := Nat.dvd_lcm_left _ _
      have hle : n + a.length ≤ Nat.lcm a.length b.length := by
        obtain ⟨u, hu⟩ := hd
        obtain ⟨v, hv⟩ := hdl
        rw [hu, hv] at hn hne ⊢
        have h1 : u < v := by
          rcases Nat.lt_or_ge u v with h | h
          · exact h
          · have : a.length * v ≤ a.length * u := Nat.mul_le_mul_left _ h
            omega
        have : a.length * (u + 1) ≤ a.length * v := Nat.mul_le_mul_left _ h1
        rw [Nat.mul_succ] at this
        exact this
      refine xb_augAdd 2 rfl (xe_len T.g_len (xe_var 0) (.tup _)) (xb_nil ⟨m - a.length, by omega, n + a.length, by omega, Nat.dvd_add hd (Nat.dvd_refl _), by omega, ?_⟩) sc_common_round.nd
      rw [List.length_map]
      rfl
    · have h0 : n % b.length = 0 := by
        cases hh : (n % b.length == 0) with
        | true => exact eq_of_beq hh
        | false => rw [hh] at h; cases h
      have : Nat.lcm a.length b.length ∣ n := Nat.lcm_dvd hd (Nat.dvd_of_mod_eq_zero h0)
      have := Nat.le_of_dvd hn0 this
      have : n = Nat.lcm a.length b.length := by omega
      rw [this]
  · subst hM
    exact xb_ret (xe_var 2) rfl
end
end K17

set_option Elab.async false
set_option linter.all false
set_option maxRecDepth 100000
set_option maxHeartbeats 4000000
namespace K17
open PySem PySem.Spec PyProof.Rows L2 Dl Sm
abbrev encN (l : List Nat) : PyData := .list (l.map fun (n : Nat) => .int (n : Nat))
abbrev encO : Option Nat → PyData
  | none => .none
  | some n => .int (n : Nat)
def Fits (s : S) : Prop := s.1.length ≤ 60 ∧ s.2.length ≤ 60
def F_is_number (ds : List PyData) (d : PyData) : Prop := ∃ i a b : Int, ds = [.int i, .int a, .int b] ∧ d = .bool (decide (a ≤ i) && decide (i ≤ b))
def F_set_by (ds : List PyData) (d : PyData) : Prop := ∃ (s t : S) (l : List (Bool × Bool)), ds = [encP s, encP t, .list (l.map encPr)] ∧ s.1.length ≤ 60 ∧ t.1.length ≤ 60 ∧ s.2.length ≤ 60 ∧ t.2.length ≤ 60 ∧ s.2 ≠ [] ∧ t.2 ≠ [] ∧ d = encP (setBy s t fun a b => l.any fun z => z == (a, b))
def F_either_set (ds : List PyData) (d : PyData) : Prop := ∃ s t : S, ds = [encP s, encP t] ∧ Sz s ∧ Sz t ∧ d = encP (setBy s t (· || ·))
def F_both_set (ds : List PyData) (d : PyData) : Prop := ∃ s t : S, ds = [encP s, encP t] ∧ Sz s ∧ Sz t ∧ d = encP (setBy s t (· && ·))
def F_other_set (ds : List PyData) (d : PyData) : Prop := ∃ s : S, ds = [encP s] ∧ s.1.length ≤ 60 ∧ s.2.length ≤ 60 ∧ d = encP (otherOf s)
def F_first_of (ds : List PyData) (d : PyData) : Prop := ∃ s : S, ds = [encP s] ∧ s.1.length ≤ 10000 ∧ s.2.length ≤ 10000 ∧ s.2 ≠ [] ∧ d = encO (firstOf s)
def F_has_number (ds : List PyData) (d : PyData) : Prop := ∃ x s, ∃ n : Nat, ds = [x, .int (n : Nat)] ∧ St x s ∧ Sz s ∧ n ≤ 10 ^ 18 ∧ d = .bool (inS (lst s) n)
def F_set_of (ds : List PyData) (d : PyData) : Prop := ∃ l : List Nat, ds = [encN l] ∧ l.length ≤ 1000 ∧ (∀ n ∈ l, n < 60) ∧ d = encT (setOf l)
def F_numbers_below (ds : List PyData) (d : PyData) : Prop := ∃ x s, ∃ n : Nat, ds = [x, .int (n : Nat)] ∧ St x s ∧ Sz s ∧ n ≤ 200 ∧ d = encN ((List.range n).filter (inS (lst s)))
def F_union_of (ds : List PyData) (d : PyData) : Prop := ∃ x s y t, ds = [x, y] ∧ St x s ∧ Sz s ∧ St y t ∧ Sz t ∧ Fits (setBy (lst s) (lst t) (· || ·)) ∧ d = encT (setBy (lst s) (lst t) (· || ·))
def F_meet_of (ds : List PyData) (d : PyData) : Prop := ∃ x s y t, ds = [x, y] ∧ St x s ∧ Sz s ∧ St y t ∧ Sz t ∧ Fits (setBy (lst s) (lst t) (· && ·)) ∧ d = encT (setBy (lst s) (lst t) (· && ·))
def F_rest_of (ds : List PyData) (d : PyData) : Prop := ∃ x s, ds = [x] ∧ St x s ∧ Sz s ∧ d = encT (otherOf (lst s))
def F_is_within (ds : List PyData) (d : PyData) : Prop := ∃ x s y t, ds = [x, y] ∧ St x s ∧ Sz s ∧ St y t ∧ Sz t ∧ d = .bool (firstOf (setBy (lst s) (lst t) (fun a b => a && !b))).isNone
def F_first_number (ds : List PyData) (d : PyData) : Prop := ∃ x s, ds = [x] ∧ St x s ∧ Sz s ∧ d = encO (firstOf (lst s))
def F_first_apart (ds : List PyData) (d : PyData) : Prop := ∃ x s y t, ds = [x, y] ∧ St x s ∧ Sz s ∧ St y t ∧ Sz t ∧ d = encO (firstOf (setBy (lst s) (lst t) (fun a b => a != b)))
theorem Sz.lst {s : S} (h : Sz s) : Sz (lst s) := by
  obtain ⟨_, a, b, _⟩ := leastOf_spec s.1 h.2.2
  have c := roundSize_spec h.2.2
  have h1 := h.1
  have h2 := h.2.1
  exact ⟨by unfold K17.lst; omega, by unfold K17.lst; omega, (canon_least s.1 h.2.2).ne⟩
theorem setBy_sz {s t : S} (h : Sz s) (g : Sz t) (p : Bool → Bool → Bool) : (setBy s t p).1.length ≤ 60 ∧ (setBy s t p).2.length ≤ 3600 ∧ (setBy s t p).2 ≠ [] := by
  obtain ⟨a, _, c, d⟩ := setBy_all h.2.2 g.2.2 p
  have p1 : 0 < s.2.length := List.length_pos_iff.mpr h.2.2
  have p2 : 0 < t.2.length := List.length_pos_iff.mpr g.2.2
  have h5 := Nat.le_of_dvd (Nat.mul_pos p1 p2) (Nat.lcm_dvd_mul s.2.length t.2.length)
  have h7 : s.2.length * t.2.length ≤ 60 * 60 := Nat.mul_le_mul h.2.1 g.2.1
  have h1 := h.1
  have g1 := g.1
  exact ⟨by omega, by omega, a.ne⟩
section
variable {P : Program} {w : World} {K : PySem.W.Frag} {mg : Str → Option Value} {base : Heap}
theorem c_is_number (T : Txt K mg) : Def P w K mg base 1 "is_number" ["thing", "low", "high"] (SpP K F_is_number) := by
  refine def_pure T.a_is_number sc_is_number (fun ds d h => ?_) ?_
  · obtain ⟨i, a, b, rfl, _⟩ := h
    rfl
  rintro _ ⟨fa, cdv, A, outer, s, H, E, hr, rfl⟩ _ _ ⟨i, a, b, rfl, rfl⟩
  have hu := room65 hr
  show XB _ [.dat _, .dat _, .dat _] _ _
  exact xb_ret (xe_and (xe_isi T.g_isinstance (xe_var 0) T.g_int boot_int (kit_int _)) (fun _ => (xe_and (xe_not (xe_isi T.g_isinstance (xe_var 0) T.g_bool boot_bool (kit_bool _))) (fun _ => (xe_one (xe_chain hu (xe_var 1) (xe_var 0) (xe_var 2) (.leI _ _) (fun _ => (.leI _ _)))))))) rfl
theorem c_set_by (T : Txt K mg) (c_common_round : Def P w K mg base 1 "common_round" ["one", "two"] (SpP K F_common_round)) (c_in_set : Def P w K mg base 1 "in_set" ["plain", "number"] (SpP K F_in_set)) (c_least_of : Def P w K mg base 2 "least_of" ["few", "ring"] (SpP K F_least_of)) : Def P w K mg base 3 "set_by" ["one", "two", "truths"] (SpP K F_set_by) := by
  refine def_pure T.a_set_by sc_set_by (fun ds d h => ?_) ?_
  · obtain ⟨s, t, l, rfl, _⟩ := h
    rfl
  rintro _ ⟨fa, cdv, A, outer, s_, H, E, hr, rfl⟩ _ _ ⟨s, t, l, rfl, h1, h2, h3, h4, h5, h6, rfl⟩
  have hu := room65 hr
  show XB _ [.dat _, .dat _, .dat _, .no, .no, .no, .no] _ _
  have p1 : 0 < s.2.length := List.length_pos_iff.mpr h5
  have p2 : 0 < t.2.length := List.length_pos_iff.mpr h6
  have hlc : Nat.lcm s.2.length t.2.length ≤ 3600 := by
    have := Nat.le_of_dvd (Nat.mul_pos p1 p2) (Nat.lcm_dvd_mul s.2.length t.2.length)
    have h7 : s.2.length * t.2.length ≤ 60 * 60 := Nat.mul_le_mul h3 h4
    omega
  have hlp : 0 < Nat.lcm s.2.length t.2.length := Nat.lcm_pos p1 p2
  have e2 : ∀ a b : List Bool, (if (((b.map PyData.bool).length : Nat) : Int) > (((a.map PyData.bool).length : Nat) : Int) then (((b.map PyData.bool).length : Nat) : Int) else (((a.map PyData.bool).length : Nat) : Int)) = ((max a.length b.length : Nat) : Int) := fun a b => by
    rw [List.length_map, List.length_map]
    split <;> omega
  refine xb_par (i := 3) (j := 4) (xe_eq (xe_max2 T.g_max (xe_len T.g_len (xe_ix (xe_var 0) xe_int (.tup rfl)) (.tup _)) (xe_len T.g_len (xe_ix (xe_var 1) xe_int (.tup rfl)) (.tup _))) (congrArg PyData.int (e2 s.1 t.1))) (xe_call c_common_round (hr.mono (by decide)) (xa_cons (xe_ix (xe_var 0) xe_int (.tup rfl)) (xa_cons (xe_ix (xe_var 1) xe_int (.tup rfl)) xa_nil)) ⟨_, _, rfl, h5, h6, rfl⟩) ?_ sc_set_by.nd
  refine xb_lc 5 (xl_lc 6 (fun n : Nat => PyData.bool (l.any fun z => z == (inS s n, inS t n))) sc_set_by.nd (xi_rng1 T.g_range (xe_addI (xe_var 3) (xe_var 4)) (by omega)) (fun _ _ _ _ _ d hd => xe_eq (xe_cmp hu (xe_tup (xa_cons (xe_call c_in_set (hr.mono (by decide)) (xa_cons (xe_var 0) (xa_cons (xe_var 6) xa_nil)) ⟨s, d, by rw [Int.zero_add], h5, rfl⟩) (xa_cons (xe_call c_in_set (hr.mono (by decide)) (xa_cons (xe_var 1) (xa_cons (xe_var 6) xa_nil)) ⟨t, d, by rw [Int.zero_add], h6, rfl⟩) xa_nil))) (xe_var 2) (.inD _ _ (shaped_pair (inS s d, inS t d)) (shaped_pairs l))) (congrArg PyData.bool (any_pairs l (inS s d, inS t d)))) (by rw [List.length_range]; omega)) ?_ sc_set_by.nd
  have eN : ((max s.1.length t.1.length : Nat) : Int) + ((Nat.lcm s.2.length t.2.length : Nat) : Int) = ((max s.1.length t.1.length + Nat.lcm s.2.length t.2.length : Nat) : Int) := by omega
  let row := (List.range (max s.1.length t.1.length + Nat.lcm s.2.length t.2.length)).map fun n => l.any fun z => z == (inS s n, inS t n)
  have er : (List.range (((max s.1.length t.1.length : Nat) : Int) + ((Nat.lcm s.2.length t.2.length : Nat) : Int)).toNat).map (fun n : Nat => PyData.bool (l.any fun z => z == (inS s n, inS t n))) = row.map PyData.bool := by
    rw [eN, Int.toNat_natCast, List.map_map]
    rfl
  have hrl : row.length = max s.1.length t.1.length + Nat.lcm s.2.length t.2.length := by rw [List.length_map, List.length_range]
  rw [er]
  refine xb_ret (xe_call c_least_of (hr.mono (by decide)) (xa_cons (xe_sl (xe_var 5) xo_none (xo_some (xe_var 3)) (.lst _ _ _)) (xa_cons (xe_sl (xe_var 5) (xo_some (xe_var 3)) xo_none (.lst _ _ _)) xa_nil)) ⟨_, _, row.take (max s.1.length t.1.length), row.drop (max s.1.length t.1.length), rfl, ?_, ?_, ?_, ?_, rfl⟩) rfl
  · rw [cutD_map, cutD_to]
    exact .lst _
  · rw [cutD_map, cutD_from]
    exact .lst _
  · intro z
    have h8 : (row.drop (max s.1.length t.1.length)).length = 0 := by rw [z]; rfl
    rw [List.length_drop, hrl] at h8
    omega
  · rw [List.length_drop]
    omega
theorem c_either_set (T : Txt K mg) (c_set_by : Def P w K mg base 3 "set_by" ["one", "two", "truths"] (SpP K F_set_by)) : Def P w K mg base 4 "either_set" ["one", "two"] (SpP K F_either_set) := by
  refine def_pure T.a_either_set sc_either_set (fun ds d h => ?_) ?_
  · obtain ⟨s, t, rfl, _⟩ := h
    rfl
  rintro _ ⟨fa, cdv, A, outer, s_, H, E, hr, rfl⟩ _ _ ⟨s, t, rfl, ⟨h1, h2, h3⟩, ⟨h4, h5, h6⟩, rfl⟩
  show XB _ [.dat _, .dat _] _ _
  refine xb_ret (xe_call c_set_by (hr.mono (by decide)) (xa_cons (xe_var 0) (xa_cons (xe_var 1) (xa_cons (xe_lst (xa_cons (xe_tup (xa_cons xe_bl (xa_cons xe_bl xa_nil))) (xa_cons (xe_tup (xa_cons xe_bl (xa_cons xe_bl xa_nil))) (xa_cons (xe_tup (xa_cons xe_bl (xa_cons xe_bl xa_nil))) xa_nil)))) xa_nil))) ⟨s, t, [(true, true), (true, false), (false, true)], rfl, h1, h4, h2, h5, h3, h6, rfl⟩) ?_
  show encP _ = encP _
  congr 3 <;> (congr 1; congr 1; funext a b; cases a <;> cases b <;> rfl)
theorem c_both_set (T : Txt K mg) (c_set_by : Def P w K mg base 3 "set_by" ["one", "two", "truths"] (SpP K F_set_by)) : Def P w K mg base 4 "both_set" ["one", "two"] (SpP K F_both_set) := by
  refine def_pure T.a_both_set sc_both_set (fun ds d h => ?_) ?_
  · obtain ⟨s, t, rfl, _⟩ := h
    rfl
  rintro _ ⟨fa, cdv, A, outer, s_, H, E, hr, rfl⟩ _ _ ⟨s, t, rfl, ⟨h1, h2, h3⟩, ⟨h4, h5, h6⟩, rfl⟩
  show XB _ [.dat _, .dat _] _ _
  refine xb_ret (xe_call c_set_by (hr.mono (by decide)) (xa_cons (xe_var 0) (xa_cons (xe_var 1) (xa_cons (xe_lst (xa_cons (xe_tup (xa_cons xe_bl (xa_cons xe_bl xa_nil))) xa_nil)) xa_nil))) ⟨s, t, [(true, true)], rfl, h1, h4, h2, h5, h3, h6, rfl⟩) ?_
  show encP _ = encP _
  congr 3 <;> (congr 1; congr 1; funext a b; cases a <;> cases b <;> rfl)
theorem c_other_set (T : Txt K mg) : Def P w K mg base 1 "other_set" ["plain"] (SpP K F_other_set) := by
  refine def_pure T.a_other_set sc_other_set (fun ds d h => ?_) ?_
  · obtain ⟨s, rfl, _⟩ := h
    rfl
  rintro _ ⟨fa, cdv, A, outer, s_, H, E, hr, rfl⟩ _ _ ⟨s, rfl, h1, h2, rfl⟩
  show XB _ [.dat _, .no] _ _
  refine xb_ret (xe_tup (xa_cons (xe_tupleOf T.g_tuple (xe_new (xl_lc (l := s.1) (f := .bool) 1 _ sc_other_set.nd (xi_tup (xe_ix (xe_var 0) xe_int (.tup rfl))) (fun _ _ _ _ _ d hd => (xe_not (xe_var 1))) (by omega)).val) (.lst _)) (xa_cons (xe_tupleOf T.g_tuple (xe_new (xl_lc (l := s.2) (f := .bool) 1 _ sc_other_set.nd (xi_tup (xe_ix (xe_var 0) xe_int (.tup rfl))) (fun _ _ _ _ _ d hd => (xe_not (xe_var 1))) (by omega)).val) (.lst _)) xa_nil))) ?_
  show PyData.tuple _ = PyData.tuple [.tuple ((s.1.map not).map .bool), .tuple ((s.2.map not).map .bool)]
  rw [List.map_map, List.map_map]
  rfl
theorem c_first_of (T : Txt K mg) (c_in_set : Def P w K mg base 1 "in_set" ["plain", "number"] (SpP K F_in_set)) : Def P w K mg base 2 "first_of" ["plain"] (SpP K F_first_of) := by
  refine def_pure T.a_first_of sc_first_of (fun ds d h => ?_) ?_
  · obtain ⟨s, rfl, _⟩ := h
    rfl
  rintro _ ⟨fa, cdv, A, outer, s_, H, E, hr, rfl⟩ _ _ ⟨s, rfl, h1, h2, h3, rfl⟩
  show XB _ [.dat _, .no, .no] _ _
  refine xb_lc 1 (xl_lcIf 2 (fun n : Nat => PyData.int (0 + (n : Nat))) (inS s) sc_first_of.nd (xi_rng1 T.g_range (xe_addI (xe_len T.g_len (xe_ix (xe_var 0) xe_int (.tup rfl)) (.tup _)) (xe_len T.g_len (xe_ix (xe_var 0) xe_int (.tup rfl)) (.tup _))) (by simp only [List.length_map]; omega)) (fun _ _ _ _ _ d hd => (xt_eq (xt_tru (xe_call c_in_set (hr.mono (by decide)) (xa_cons (xe_var 0) (xa_cons (xe_var 2) xa_nil)) ⟨s, d, by rw [Int.zero_add], h3, rfl⟩)) rfl)) (fun _ _ _ _ _ d hd ht => (xe_var 2)) (by simp only [List.length_map, List.length_range]; omega)) ?_ sc_first_of.nd
  have er : ((List.range ((((s.1.map PyData.bool).length : Nat) : Int) + (((s.2.map PyData.bool).length : Nat) : Int)).toNat).filter (inS s)) = (List.range (s.1.length + s.2.length)).filter (inS s) := by
    simp only [List.length_map]
    congr 2
  rw [er]
  unfold firstOf
  cases hrow : (List.range (s.1.length + s.2.length)).filter (inS s) with
  | nil => exact xb_ret (xe_if (k := false) (xt_eq (xt_tru (xe_var 1)) rfl) (fun h => nomatch h) (fun _ => xe_non)) rfl
  | cons a l => exact xb_ret (xe_if (k := true) (xt_eq (xt_tru (xe_var 1)) rfl) (fun _ => (xe_ix (xe_var 1) xe_int (.lst (atI_hd _ _)))) (fun h => nomatch h)) (by show PyData.int (0 + (a : Int)) = .int a; rw [Int.zero_add])
theorem c_has_number (T : Txt K mg) (c_in_set : Def P w K mg base 1 "in_set" ["plain", "number"] (SpP K F_in_set)) (c_is_number : Def P w K mg base 1 "is_number" ["thing", "low", "high"] (SpP K F_is_number)) (c_need_set : Def P w K mg base 4 "need_set" ["numbers"] (SpP K F_set_in)) : Def P w K mg base 5 "has_number" ["numbers", "number"] (SpP K F_has_number) := by
  refine def_pure T.a_has_number sc_has_number (fun ds d h => ?_) ?_
  · obtain ⟨x, s, n, rfl, _⟩ := h
    rfl
  rintro _ ⟨fa, cdv, A, outer, s_, H, E, hr, rfl⟩ _ _ ⟨x, s, n, rfl, hx, hz, hn, rfl⟩
  show XB _ [.dat _, .dat _, .no] _ _
  refine xb_asg 2 (xe_call c_need_set (hr.mono (by decide)) (xa_cons (xe_var 0) xa_nil) ⟨_, _, rfl, hx, hz, rfl⟩) ?_ sc_has_number.nd
  refine xb_ifR (k := false) (xt_eq (xt_not (xt_tru (xe_call c_is_number (hr.mono (by decide)) (xa_cons (xe_var 1) (xa_cons xe_int (xa_cons (xe_powI xe_int xe_int ⟨by decide, by decide, by decide⟩) xa_nil))) ⟨_, _, _, rfl, rfl⟩))) ?_) (fun h => nomatch h) (fun _ => ?_)
  · have h2 : (n : Int) ≤ (10 : Int) ^ (18 : Int).toNat := by
      have : ((10 ^ 18 : Nat) : Int) = (10 : Int) ^ (18 : Int).toNat := by decide
      rw [← this]
      exact Int.ofNat_le.mpr hn
    show (!(decide ((0 : Int) ≤ (n : Int)) && decide ((n : Int) ≤ (10 : Int) ^ (18 : Int).toNat))) = false
    rw [decide_eq_true h2, decide_eq_true (Int.natCast_nonneg n)]
    rfl
  exact xb_ret (xe_call c_in_set (hr.mono (by decide)) (xa_cons (xe_var 2) (xa_cons (xe_var 1) xa_nil)) ⟨lst s, n, rfl, hz.lst.2.2, rfl⟩) rfl
theorem any_nat (l : List Nat) (n : Nat) : ((l.map fun (n : Nat) => PyData.int (n : Nat)).any fun z => PyData.eqv z (.int (n : Nat))) = l.contains n := by
  rw [List.any_map]
  induction l with
  | nil => rfl
  | cons a r ih =>
    rw [List.any_cons, ih, List.contains_cons]
    congr 1
    simp only [Function.comp, PyData.eqv]
    rw [Bool.eq_iff_iff]
    simp only [beq_iff_eq]
    omega
theorem shaped_nats (l : List Nat) : SeqAt.shaped (encN l) = true := by
  unfold SeqAt.shaped
  have h1 : PyData.canLay0 (encN l) = true := by
    simp only [PyData.canLay0]
    exact lay_map _ (fun _ => by simp [PyData.canLay0]) l
  have h2 := depth_map (fun (n : Nat) => PyData.int (n : Nat)) 0 (fun _ => by simp [PyData.depth]) l
  have h3 : PyData.depth (encN l) = PyData.depthAll (l.map fun (n : Nat) => PyData.int (n : Nat)) + 1 := by simp only [PyData.depth]
  rw [h1, h3, Bool.true_and, decide_eq_true_eq]
  omega
theorem shaped_int (i : Int) : SeqAt.shaped (.int i) = true := by
  unfold SeqAt.shaped
  simp [PyData.canLay0, PyData.depth]
theorem setOf_fits (l : List Nat) : Fits (setOf l) := by
  obtain ⟨_, _, a, b⟩ := setOf_all l
  exact ⟨a, by omega⟩
theorem c_set_of (T : Txt K mg) (c_is_number : Def P w K mg base 1 "is_number" ["thing", "low", "high"] (SpP K F_is_number)) (c_is_row : Def P w K mg base 1 "is_row" ["thing"] (SpP K F_is_row)) (c_least_of : Def P w K mg base 2 "least_of" ["few", "ring"] (SpP K F_least_of)) (c_told_set : Def P w K mg base 1 "told_set" ["plain"] (SpP K F_told_set)) : Def P w K mg base 3 "set_of" ["listed"] (SpP K F_set_of) := by
  refine def_pure T.a_set_of sc_set_of (fun ds d h => ?_) ?_
  · obtain ⟨l, rfl, _⟩ := h
    rfl
  rintro _ ⟨fa, cdv, A, outer, s_, H, E, hr, rfl⟩ _ _ ⟨l, rfl, hl, hb, rfl⟩
  have hu := room65 hr
  obtain ⟨tM, hM⟩ := T.c_MOST
  show XB _ [.dat _, .no, .no] _ _
  have hf : ∀ n ∈ l, (!(decide ((0 : Int) ≤ (n : Int)) && decide ((n : Int) ≤ 60 - 1))) = false := fun n hn => by
    have := hb n hn
    rw [decide_eq_true (Int.natCast_nonneg n), decide_eq_true (show (n : Int) ≤ 60 - 1 by omega)]
    rfl
  refine xb_ifR (k := false) (xt_eq ((xw_or (xt_not (xt_tru (xe_call c_is_row (hr.mono (by decide)) (xa_cons (xe_var 0) xa_nil) ⟨_, rfl, rfl⟩))) (fun _ => (xw_or1 (xt_tru (xe_new (xl_lcIf (l := l) (f := fun (n : Nat) => PyData.int (n : Nat)) 1 _ _ sc_set_of.nd (xi_list (xe_var 0)) (fun _ _ _ _ _ d hd => (xt_not (xt_tru (xe_call c_is_number (hr.mono (by decide)) (xa_cons (xe_var 1) (xa_cons xe_int (xa_cons (xe_subI (xe_gint hM) xe_int) xa_nil))) ⟨(d : Nat), _, _, rfl, rfl⟩)))) (fun _ _ _ _ _ d hd ht => (xe_var 1)) (by omega)).val)))))).xt ?_) (fun h => nomatch h) (fun _ => ?_)
  · show (false || !(((l.filter fun n : Nat => !(decide ((0 : Int) ≤ (n : Int)) && decide ((n : Int) ≤ 60 - 1))).map fun (n : Nat) => PyData.int (n : Nat)).isEmpty)) = false
    rw [List.filter_eq_nil_iff.mpr (fun n hn => by rw [hf n hn]; decide)]
    rfl
  refine xb_ret (xe_call c_told_set (hr.mono (by decide)) (xa_cons (xe_call c_least_of (hr.mono (by decide)) (xa_cons (xe_new (xl_lc 2 (fun n : Nat => PyData.bool (l.contains n)) sc_set_of.nd (xi_rng1 T.g_range (xe_gint hM) (by decide)) (fun _ _ _ _ _ d hd => xe_eq (xe_cmp hu (xe_var 2) (xe_var 0) (.inD _ _ (shaped_int _) (shaped_nats l))) (by rw [Int.zero_add, any_nat])) (by decide)).val) (xa_cons (xe_lst (xa_cons xe_bl xa_nil)) xa_nil)) ⟨_, _, (List.range 60).map fun n => l.contains n, [false], rfl, ?_, .lst [false], by decide, by decide, rfl⟩) xa_nil) ⟨setOf l, rfl, (setOf_fits l).1, (setOf_fits l).2, rfl⟩) rfl
  have := Bs.lst ((List.range 60).map fun n => l.contains n)
  rw [List.map_map] at this
  exact this
theorem c_numbers_below (T : Txt K mg) (c_in_set : Def P w K mg base 1 "in_set" ["plain", "number"] (SpP K F_in_set)) (c_is_number : Def P w K mg base 1 "is_number" ["thing", "low", "high"] (SpP K F_is_number)) (c_need_set : Def P w K mg base 4 "need_set" ["numbers"] (SpP K F_set_in)) : Def P w K mg base 5 "numbers_below" ["numbers", "many"] (SpP K F_numbers_below) := by
  refine def_pure T.a_numbers_below sc_numbers_below (fun ds d h => ?_) ?_
  · obtain ⟨x, s, n, rfl, _⟩ := h
    rfl
  rintro _ ⟨fa, cdv, A, outer, s_, H, E, hr, rfl⟩ _ _ ⟨x, s, n, rfl, hx, hz, hn, rfl⟩
  show XB _ [.dat _, .dat _, .no, .no] _ _
  refine xb_asg 2 (xe_call c_need_set (hr.mono (by decide)) (xa_cons (xe_var 0) xa_nil) ⟨_, _, rfl, hx, hz, rfl⟩) ?_ sc_numbers_below.nd
  refine xb_ifR (k := false) (xt_eq (xt_not (xt_tru (xe_call c_is_number (hr.mono (by decide)) (xa_cons (xe_var 1) (xa_cons xe_int (xa_cons xe_int xa_nil))) ⟨_, _, _, rfl, rfl⟩))) ?_) (fun h => nomatch h) (fun _ => ?_)
  · show (!(decide ((0 : Int) ≤ (n : Int)) && decide ((n : Int) ≤ 200))) = false
    rw [decide_eq_true (show (n : Int) ≤ 200 by omega), decide_eq_true (Int.natCast_nonneg n)]
    rfl
  refine xb_ret (xe_new (xl_lcIf 3 (fun n : Nat => PyData.int (0 + (n : Nat))) (inS (lst s)) sc_numbers_below.nd (xi_rng1 T.g_range (xe_var 1) (by omega)) (fun _ _ _ _ _ d hd => (xt_eq (xt_tru (xe_call c_in_set (hr.mono (by decide)) (xa_cons (xe_var 2) (xa_cons (xe_var 3) xa_nil)) ⟨lst s, d, by rw [Int.zero_add], hz.lst.2.2, rfl⟩)) rfl)) (fun _ _ _ _ _ d hd ht => (xe_var 3)) (by rw [List.length_range]; omega)).val) ?_
  show PyData.list _ = PyData.list _
  rw [Int.toNat_natCast]
  congr 1
  exact List.map_congr_left fun a _ => by rw [Int.zero_add]
theorem c_union_of (T : Txt K mg) (c_either_set : Def P w K mg base 4 "either_set" ["one", "two"] (SpP K F_either_set)) (c_need_sets : Def P w K mg base 5 "need_sets" ["numbers", "other"] (SpP K F_need_sets)) (c_told_set : Def P w K mg base 1 "told_set" ["plain"] (SpP K F_told_set)) : Def P w K mg base 6 "union_of" ["numbers", "other"] (SpP K F_union_of) := by
  refine def_pure T.a_union_of sc_union_of (fun ds d h => ?_) ?_
  · obtain ⟨x, s, y, t, rfl, _⟩ := h
    rfl
  rintro _ ⟨fa, cdv, A, outer, s_, H, E, hr, rfl⟩ _ _ ⟨x, s, y, t, rfl, hx, hz, hy, hz2, hf, rfl⟩
  show XB _ [.dat _, .dat _, .no, .no] _ _
  refine xb_unp (xe_call c_need_sets (hr.mono (by decide)) (xa_cons (xe_var 0) (xa_cons (xe_var 1) xa_nil)) ⟨_, _, _, _, rfl, hx, hz, hy, hz2, rfl⟩) (xg_tup rfl (xgs_cons (xg_name 2 sc_union_of.nd) (xgs_cons (xg_name 3 sc_union_of.nd) xgs_nil)) rfl) ?_
  exact xb_ret (xe_call c_told_set (hr.mono (by decide)) (xa_cons (xe_call c_either_set (hr.mono (by decide)) (xa_cons (xe_var 2) (xa_cons (xe_var 3) xa_nil)) ⟨_, _, rfl, hz.lst, hz2.lst, rfl⟩) xa_nil) ⟨_, rfl, hf.1, hf.2, rfl⟩) rfl
theorem c_meet_of (T : Txt K mg) (c_both_set : Def P w K mg base 4 "both_set" ["one", "two"] (SpP K F_both_set)) (c_need_sets : Def P w K mg base 5 "need_sets" ["numbers", "other"] (SpP K F_need_sets)) (c_told_set : Def P w K mg base 1 "told_set" ["plain"] (SpP K F_told_set)) : Def P w K mg base 6 "meet_of" ["numbers", "other"] (SpP K F_meet_of) := by
  refine def_pure T.a_meet_of sc_meet_of (fun ds d h => ?_) ?_
  · obtain ⟨x, s, y, t, rfl, _⟩ := h
    rfl
  rintro _ ⟨fa, cdv, A, outer, s_, H, E, hr, rfl⟩ _ _ ⟨x, s, y, t, rfl, hx, hz, hy, hz2, hf, rfl⟩
  show XB _ [.dat _, .dat _, .no, .no] _ _
  refine xb_unp (xe_call c_need_sets (hr.mono (by decide)) (xa_cons (xe_var 0) (xa_cons (xe_var 1) xa_nil)) ⟨_, _, _, _, rfl, hx, hz, hy, hz2, rfl⟩) (xg_tup rfl (xgs_cons (xg_name 2 sc_meet_of.nd) (xgs_cons (xg_name 3 sc_meet_of.nd) xgs_nil)) rfl) ?_
  exact xb_ret (xe_call c_told_set (hr.mono (by decide)) (xa_cons (xe_call c_both_set (hr.mono (by decide)) (xa_cons (xe_var 2) (xa_cons (xe_var 3) xa_nil)) ⟨_, _, rfl, hz.lst, hz2.lst, rfl⟩) xa_nil) ⟨_, rfl, hf.1, hf.2, rfl⟩) rfl
theorem c_rest_of (T : Txt K mg) (c_need_set : Def P w K mg base 4 "need_set" ["numbers"] (SpP K F_set_in)) (c_other_set : Def P w K mg base 1 "other_set" ["plain"] (SpP K F_other_set)) (c_told_set : Def P w K mg base 1 "told_set" ["plain"] (SpP K F_told_set)) : Def P w K mg base 5 "rest_of" ["numbers"] (SpP K F_rest_of) := by
  refine def_pure T.a_rest_of sc_rest_of (fun ds d h => ?_) ?_
  · obtain ⟨x, s, rfl, _⟩ := h
    rfl
  rintro _ ⟨fa, cdv, A, outer, s_, H, E, hr, rfl⟩ _ _ ⟨x, s, rfl, hx, hz, rfl⟩
  show XB _ [.dat _] _ _
  have h1 : (otherOf (lst s)).1.length ≤ 60 := by show ((lst s).1.map not).length ≤ 60; rw [List.length_map]; exact hz.lst.1
  have h2 : (otherOf (lst s)).2.length ≤ 60 := by show ((lst s).2.map not).length ≤ 60; rw [List.length_map]; exact hz.lst.2.1
  exact xb_ret (xe_call c_told_set (hr.mono (by decide)) (xa_cons (xe_call c_other_set (hr.mono (by decide)) (xa_cons (xe_call c_need_set (hr.mono (by decide)) (xa_cons (xe_var 0) xa_nil) ⟨_, _, rfl, hx, hz, rfl⟩) xa_nil) ⟨_, rfl, hz.lst.1, hz.lst.2.1, rfl⟩) xa_nil) ⟨_, rfl, h1, h2, rfl⟩) rfl
theorem c_is_within (T : Txt K mg) (c_first_of : Def P w K mg base 2 "first_of" ["plain"] (SpP K F_first_of)) (c_need_sets : Def P w K mg base 5 "need_sets" ["numbers", "other"] (SpP K F_need_sets)) (c_set_by : Def P w K mg base 3 "set_by" ["one", "two", "truths"] (SpP K F_set_by)) : Def P w K mg base 6 "is_within" ["numbers", "other"] (SpP K F_is_within) := by
  refine def_pure T.a_is_within sc_is_within (fun ds d h => ?_) ?_
  · obtain ⟨x, s, y, t, rfl, _⟩ := h
    rfl
  rintro _ ⟨fa, cdv, A, outer, s_, H, E, hr, rfl⟩ _ _ ⟨x, s, y, t, rfl, hx, hz, hy, hz2, rfl⟩
  have hu := room65 hr
  show XB _ [.dat _, .dat _, .no, .no] _ _
  refine xb_unp (xe_call c_need_sets (hr.mono (by decide)) (xa_cons (xe_var 0) (xa_cons (xe_var 1) xa_nil)) ⟨_, _, _, _, rfl, hx, hz, hy, hz2, rfl⟩) (xg_tup rfl (xgs_cons (xg_name 2 sc_is_within.nd) (xgs_cons (xg_name 3 sc_is_within.nd) xgs_nil)) rfl) ?_
  obtain ⟨a1, a2, a3⟩ := hz.lst
  obtain ⟨b1, b2, b3⟩ := hz2.lst
  have ep : (fun a b : Bool => ([(true, false)] : List (Bool × Bool)).any fun z => z == (a, b)) = fun a b => a && !b := by
    funext a b
    cases a <;> cases b <;> rfl
  obtain ⟨k1, k2, k3⟩ := setBy_sz hz.lst hz2.lst (fun a b => a && !b)
  refine xb_ret (xe_cmp hu (xe_call c_first_of (hr.mono (by decide)) (xa_cons (xe_call c_set_by (hr.mono (by decide)) (xa_cons (xe_var 2) (xa_cons (xe_var 3) (xa_cons (xe_lst (xa_cons (xe_tup (xa_cons xe_bl (xa_cons xe_bl xa_nil))) xa_nil)) xa_nil))) ⟨_, _, [(true, false)], rfl, a1, b1, a2, b2, a3, b3, rfl⟩) xa_nil) ⟨setBy (lst s) (lst t) (fun a b => a && !b), by rw [ep], by omega, by omega, k3, rfl⟩) xe_non (.isN _ _ rfl)) ?_
  cases firstOf (setBy (lst s) (lst t) (fun a b => a && !b)) <;> rfl
theorem c_first_number (T : Txt K mg) (c_first_of : Def P w K mg base 2 "first_of" ["plain"] (SpP K F_first_of)) (c_need_set : Def P w K mg base 4 "need_set" ["numbers"] (SpP K F_set_in)) : Def P w K mg base 5 "first_number" ["numbers"] (SpP K F_first_number) := by
  refine def_pure T.a_first_number sc_first_number (fun ds d h => ?_) ?_
  · obtain ⟨x, s, rfl, _⟩ := h
    rfl
  rintro _ ⟨fa, cdv, A, outer, s_, H, E, hr, rfl⟩ _ _ ⟨x, s, rfl, hx, hz, rfl⟩
  show XB _ [.dat _] _ _
  obtain ⟨a1, a2, a3⟩ := hz.lst
  exact xb_ret (xe_call c_first_of (hr.mono (by decide)) (xa_cons (xe_call c_need_set (hr.mono (by decide)) (xa_cons (xe_var 0) xa_nil) ⟨_, _, rfl, hx, hz, rfl⟩) xa_nil) ⟨_, rfl, by omega, by omega, a3, rfl⟩) rfl
theorem c_first_apart (T : Txt K mg) (c_first_of : Def P w K mg base 2 "first_of" ["plain"] (SpP K F_first_of)) (c_need_sets : Def P w K mg base 5 "need_sets" ["numbers", "other"] (SpP K F_need_sets)) (c_set_by : Def P w K mg base 3 "set_by" ["one", "two", "truths"] (SpP K F_set_by)) : Def P w K mg base 6 "first_apart" ["numbers", "other"] (SpP K F_first_apart) := by
  refine def_pure T.a_first_apart sc_first_apart (fun ds d h => ?_) ?_
  · obtain ⟨x, s, y, t, rfl, _⟩ := h
    rfl
  rintro _ ⟨fa, cdv, A, outer, s_, H, E, hr, rfl⟩ _ _ ⟨x, s, y, t, rfl, hx, hz, hy, hz2, rfl⟩
  have hu := room65 hr
  show XB _ [.dat _, .dat _, .no, .no] _ _
  refine xb_unp (xe_call c_need_sets (hr.mono (by decide)) (xa_cons (xe_var 0) (xa_cons (xe_var 1) xa_nil)) ⟨_, _, _, _, rfl, hx, hz, hy, hz2, rfl⟩) (xg_tup rfl (xgs_cons (xg_name 2 sc_first_apart.nd) (xgs_cons (xg_name 3 sc_first_apart.nd) xgs_nil)) rfl) ?_
  obtain ⟨a1, a2, a3⟩ := hz.lst
  obtain ⟨b1, b2, b3⟩ := hz2.lst
  have ep : (fun a b : Bool => ([(true, false), (false, true)] : List (Bool × Bool)).any fun z => z == (a, b)) = fun a b => a != b := by
    funext a b
    cases a <;> cases b <;> rfl
  obtain ⟨k1, k2, k3⟩ := setBy_sz hz.lst hz2.lst (fun a b => a != b)
  exact xb_ret (xe_call c_first_of (hr.mono (by decide)) (xa_cons (xe_call c_set_by (hr.mono (by decide)) (xa_cons (xe_var 2) (xa_cons (xe_var 3) (xa_cons (xe_lst (xa_cons (xe_tup (xa_cons xe_bl (xa_cons xe_bl xa_nil))) (xa_cons (xe_tup (xa_cons xe_bl (xa_cons xe_bl xa_nil))) xa_nil))) xa_nil))) ⟨_, _, [(true, false), (false, true)], rfl, a1, b1, a2, b2, a3, b3, rfl⟩) xa_nil) ⟨setBy (lst s) (lst t) (fun a b => a != b), by rw [ep], by omega, by omega, k3, rfl⟩) rfl
end
end K17

set_option Elab.async false
set_option linter.all false
set_option maxRecDepth 100000
set_option maxHeartbeats 4000000
namespace K17
open PySem PySem.Spec PyProof.Rows L2 Dl Sm
def F_need_by (ds : List PyData) (d : PyData) : Prop := ∃ k : Nat, ds = [.int (k : Nat)] ∧ k ≤ 60 ∧ d = .int (k : Nat)
def F_up_by (ds : List PyData) (d : PyData) : Prop := ∃ (s : S) (k : Nat), ds = [encP s, .int (k : Nat)] ∧ k ≤ 60 ∧ Sz s ∧ d = encP (upBy s k)
def F_down_by (ds : List PyData) (d : PyData) : Prop := ∃ (s : S) (k : Nat), ds = [encP s, .int (k : Nat)] ∧ k ≤ 60 ∧ Sz s ∧ d = encP (downBy s k)
def F_low_by (ds : List PyData) (d : PyData) : Prop := ∃ (s : S) (k : Nat), ds = [encP s, .int (k : Nat)] ∧ k ≤ 60 ∧ Sz s ∧ d = encP (lowBy s k)
def F_mask_of (ds : List PyData) (d : PyData) : Prop := ∃ (s : S) (n : Nat), ds = [encP s, .int (n : Nat)] ∧ n ≤ 10000 ∧ s.2 ≠ [] ∧ d = .int (maskOf s n : Nat)
def F_sum_set (ds : List PyData) (d : PyData) : Prop := ∃ s t : S, ds = [encP s, encP t] ∧ Sz s ∧ Sz t ∧ d = encP (sumSet s t)
def F_shifted_up (ds : List PyData) (d : PyData) : Prop := ∃ x s, ∃ k : Nat, ds = [x, .int (k : Nat)] ∧ St x s ∧ Sz s ∧ k ≤ 60 ∧ Fits (upBy (lst s) k) ∧ d = encT (upBy (lst s) k)
def F_shifted_down (ds : List PyData) (d : PyData) : Prop := ∃ x s, ∃ k : Nat, ds = [x, .int (k : Nat)] ∧ St x s ∧ Sz s ∧ k ≤ 60 ∧ Fits (downBy (lst s) k) ∧ d = encT (downBy (lst s) k)
def F_lowered (ds : List PyData) (d : PyData) : Prop := ∃ x s, ∃ k : Nat, ds = [x, .int (k : Nat)] ∧ St x s ∧ Sz s ∧ k ≤ 60 ∧ Fits (lowBy (lst s) k) ∧ d = encT (lowBy (lst s) k)
def F_sums_of (ds : List PyData) (d : PyData) : Prop := ∃ x s y t, ds = [x, y] ∧ St x s ∧ Sz s ∧ St y t ∧ Sz t ∧ Fits (sumSet (lst s) (lst t)) ∧ d = encT (sumSet (lst s) (lst t))
theorem downBy_sz {s : S} (h : Sz s) (k : Nat) : Sz (downBy s k) := by
  obtain ⟨a, _, b, c⟩ := downBy_all h.2.2 k
  have h1 := h.1
  have h2 := h.2.1
  exact ⟨by omega, by omega, a.ne⟩
section
variable {P : Program} {w : World} {K : PySem.W.Frag} {mg : Str → Option Value} {base : Heap}
theorem c_need_by (T : Txt K mg) (c_is_number : Def P w K mg base 1 "is_number" ["thing", "low", "high"] (SpP K F_is_number)) : Def P w K mg base 2 "need_by" ["by"] (SpP K F_need_by) := by
  refine def_pure T.a_need_by sc_need_by (fun ds d h => ?_) ?_
  · obtain ⟨k, rfl, _⟩ := h
    rfl
  rintro _ ⟨fa, cdv, A, outer, s_, H, E, hr, rfl⟩ _ _ ⟨k, rfl, hk, rfl⟩
  obtain ⟨tM, hM⟩ := T.c_MOST
  show XB _ [.dat _] _ _
  refine xb_ifR (k := false) (xt_eq (xt_not (xt_tru (xe_call c_is_number (hr.mono (by decide)) (xa_cons (xe_var 0) (xa_cons xe_int (xa_cons (xe_gint hM) xa_nil))) ⟨_, _, _, rfl, rfl⟩))) ?_) (fun h => nomatch h) (fun _ => ?_)
  · show (!(decide ((0 : Int) ≤ (k : Int)) && decide ((k : Int) ≤ 60))) = false
    rw [decide_eq_true (show (k : Int) ≤ 60 by omega), decide_eq_true (Int.natCast_nonneg k)]
    rfl
  exact xb_ret (xe_var 0) rfl
theorem c_up_by (T : Txt K mg) (c_least_of : Def P w K mg base 2 "least_of" ["few", "ring"] (SpP K F_least_of)) : Def P w K mg base 3 "up_by" ["plain", "by"] (SpP K F_up_by) := by
  refine def_pure T.a_up_by sc_up_by (fun ds d h => ?_) ?_
  · obtain ⟨s, k, rfl, _⟩ := h
    rfl
  rintro _ ⟨fa, cdv, A, outer, s_, H, E, hr, rfl⟩ _ _ ⟨s, k, rfl, hk, ⟨h1, h2, h3⟩, rfl⟩
  show XB _ [.dat _, .dat _] _ _
  have e0 : ∀ k : Nat, (List.replicate k [PyData.bool false]).flatten = (List.replicate k false).map PyData.bool := fun k => by
    induction k with
    | zero => rfl
    | succ k ih => rw [List.replicate_succ, List.flatten_cons, ih, List.replicate_succ, List.map_cons]; rfl
  refine xb_ret (xe_call c_least_of (hr.mono (by decide)) (xa_cons (xe_catT (xe_repT (xe_tup (xa_cons xe_bl xa_nil)) (xe_var 1) (by omega) (List.cons_ne_nil _ _) (by decide)) (xe_ix (xe_var 0) xe_int (.tup rfl)) ?hz) (xa_cons (xe_ix (xe_var 0) xe_int (.tup rfl)) xa_nil)) ⟨_, _, List.replicate k false ++ s.1, s.2, rfl, ?_, .tup _, h3, by omega, rfl⟩) rfl
  case hz =>
    rw [e0, List.length_map, List.length_replicate, List.length_map]
    omega
  have := Bs.tup (List.replicate k false ++ s.1)
  rw [List.map_append] at this
  rw [e0]
  exact this
theorem c_down_by (T : Txt K mg) (c_in_set : Def P w K mg base 1 "in_set" ["plain", "number"] (SpP K F_in_set)) (c_least_of : Def P w K mg base 2 "least_of" ["few", "ring"] (SpP K F_least_of)) : Def P w K mg base 3 "down_by" ["plain", "by"] (SpP K F_down_by) := by
  refine def_pure T.a_down_by sc_down_by (fun ds d h => ?_) ?_
  · obtain ⟨s, k, rfl, _⟩ := h
    rfl
  rintro _ ⟨fa, cdv, A, outer, s_, H, E, hr, rfl⟩ _ _ ⟨s, k, rfl, hk, ⟨h1, h2, h3⟩, rfl⟩
  have hp : 0 < s.2.length := List.length_pos_iff.mpr h3
  show XB _ [.dat _, .dat _, .no, .no, .no, .no] _ _
  have e1 : (if (((s.1.map PyData.bool).length : Nat) : Int) - (k : Int) > 0 then (((s.1.map PyData.bool).length : Nat) : Int) - (k : Int) else 0) = ((s.1.length - k : Nat) : Int) := by
    rw [List.length_map]
    split <;> omega
  refine xb_par (i := 2) (j := 3) (xe_eq (xe_max2 T.g_max xe_int (xe_subI (xe_len T.g_len (xe_ix (xe_var 0) xe_int (.tup rfl)) (.tup _)) (xe_var 1))) (congrArg PyData.int e1)) (xe_len T.g_len (xe_ix (xe_var 0) xe_int (.tup rfl)) (.tup _)) ?_ sc_down_by.nd
  rw [List.length_map]
  refine xb_lc 4 (xl_lc 5 (fun n : Nat => PyData.bool (inS s (n + k))) sc_down_by.nd (xi_rng1 T.g_range (xe_addI (xe_var 2) (xe_var 3)) (by omega)) (fun _ _ _ _ _ d hd => (xe_call c_in_set (hr.mono (by decide)) (xa_cons (xe_var 0) (xa_cons (xe_addI (xe_var 5) (xe_var 1)) xa_nil)) ⟨s, d + k, by rw [Int.zero_add, Int.natCast_add], h3, rfl⟩)) (by rw [List.length_range]; omega)) ?_ sc_down_by.nd
  let row := (List.range (s.1.length - k + s.2.length)).map fun n => inS s (n + k)
  have er : (List.range (((s.1.length - k : Nat) : Int) + (s.2.length : Int)).toNat).map (fun n : Nat => PyData.bool (inS s (n + k))) = row.map PyData.bool := by
    rw [show ((s.1.length - k : Nat) : Int) + (s.2.length : Int) = ((s.1.length - k + s.2.length : Nat) : Int) by omega, Int.toNat_natCast, List.map_map]
    rfl
  have hrl : row.length = s.1.length - k + s.2.length := by rw [List.length_map, List.length_range]
  rw [er]
  refine xb_ret (xe_call c_least_of (hr.mono (by decide)) (xa_cons (xe_sl (xe_var 4) xo_none (xo_some (xe_var 2)) (.lst _ _ _)) (xa_cons (xe_sl (xe_var 4) (xo_some (xe_var 2)) xo_none (.lst _ _ _)) xa_nil)) ⟨_, _, row.take (s.1.length - k), row.drop (s.1.length - k), rfl, ?_, ?_, ?_, ?_, rfl⟩) rfl
  · rw [cutD_map, cutD_to]
    exact .lst _
  · rw [cutD_map, cutD_from]
    exact .lst _
  · intro z
    have h8 : (row.drop (s.1.length - k)).length = 0 := by rw [z]; rfl
    rw [List.length_drop, hrl] at h8
    omega
  · rw [List.length_drop]
    omega
theorem c_low_by (T : Txt K mg) (c_down_by : Def P w K mg base 3 "down_by" ["plain", "by"] (SpP K F_down_by)) (c_in_set : Def P w K mg base 1 "in_set" ["plain", "number"] (SpP K F_in_set)) (c_least_of : Def P w K mg base 2 "least_of" ["few", "ring"] (SpP K F_least_of)) : Def P w K mg base 4 "low_by" ["plain", "by"] (SpP K F_low_by) := by
  refine def_pure T.a_low_by sc_low_by (fun ds d h => ?_) ?_
  · obtain ⟨s, k, rfl, _⟩ := h
    rfl
  rintro _ ⟨fa, cdv, A, outer, s_, H, E, hr, rfl⟩ _ _ ⟨s, k, rfl, hk, hz, rfl⟩
  have hu := room65 hr
  show XB _ [.dat _, .dat _, .no, .no, .no, .no, .no] _ _
  have hd := downBy_sz hz k
  obtain ⟨t, ht⟩ : ∃ t, t = downBy s k := ⟨_, rfl⟩
  rw [← ht] at hd
  obtain ⟨d1, d2, d3⟩ := id hd
  have hp : 0 < t.2.length := List.length_pos_iff.mpr d3
  refine xb_unp (xe_call c_down_by (hr.mono (by decide)) (xa_cons (xe_var 0) (xa_cons (xe_var 1) xa_nil)) ⟨s, k, rfl, hk, hz, rfl⟩) (xg_tup rfl (xgs_cons (xg_name 2 sc_low_by.nd) (xgs_cons (xg_name 3 sc_low_by.nd) xgs_nil)) rfl) ?_
  rw [← ht]
  have e1 : (if (((t.1.map PyData.bool).length : Nat) : Int) > 1 then (((t.1.map PyData.bool).length : Nat) : Int) else 1) = ((max 1 t.1.length : Nat) : Int) := by
    rw [List.length_map]
    split <;> omega
  refine xb_asg 4 (xe_eq (xe_max2 T.g_max xe_int (xe_len T.g_len (xe_var 2) (.tup _))) (congrArg PyData.int e1)) ?_ sc_low_by.nd
  refine xb_lcA 5 (xl_lc 6 (fun n : Nat => PyData.bool (inS t n)) sc_low_by.nd (xi_rng1 T.g_range (xe_addI (xe_var 4) (xe_len T.g_len (xe_var 3) (.tup _))) (by rw [List.length_map]; omega)) (fun _ _ _ _ _ d hd => (xe_call c_in_set (hr.mono (by decide)) (xa_cons (xe_tup (xa_cons (xe_var 2) (xa_cons (xe_var 3) xa_nil))) (xa_cons (xe_var 6) xa_nil)) ⟨t, d, by rw [Int.zero_add], d3, rfl⟩)) (by rw [List.length_range, List.length_map]; omega)) ?_ sc_low_by.nd
  let row := (List.range (max 1 t.1.length + t.2.length)).map (inS t)
  have er : (List.range (((max 1 t.1.length : Nat) : Int) + (((t.2.map PyData.bool).length : Nat) : Int)).toNat).map (fun n : Nat => PyData.bool (inS t n)) = row.map PyData.bool := by
    rw [List.length_map, show ((max 1 t.1.length : Nat) : Int) + (t.2.length : Int) = ((max 1 t.1.length + t.2.length : Nat) : Int) by omega, Int.toNat_natCast, List.map_map]
    rfl
  have hrl : row.length = max 1 t.1.length + t.2.length := by rw [List.length_map, List.length_range]
  rw [er]
  have hix : ixN (row.map PyData.bool).length 0 = some 0 := by
    rw [List.length_map, hrl]
    unfold ixN
    rw [if_pos (by decide), if_pos (by omega)]
    rfl
  have h1s : ∀ l : List Nat, PyData.eqv (.list (l.map fun _ => PyData.int 1)) (.list []) = l.isEmpty := fun l => by
    cases l <;> simp [PyData.eqv, PyData.eqvAll]
  have hsh : ∀ l : List Nat, SeqAt.shaped (.list (l.map fun _ => PyData.int 1)) = true := fun l => by
    unfold SeqAt.shaped
    have a1 : PyData.canLay0 (.list (l.map fun _ => PyData.int 1)) = true := by
      simp only [PyData.canLay0]
      exact lay_map _ (fun _ => by simp [PyData.canLay0]) l
    have a2 := depth_map (fun _ : Nat => PyData.int 1) 0 (fun _ => by simp [PyData.depth]) l
    have a3 : PyData.depth (.list (l.map fun _ => PyData.int 1)) = PyData.depthAll (l.map fun _ => PyData.int 1) + 1 := by simp only [PyData.depth]
    rw [a1, a3, Bool.true_and, decide_eq_true_eq]
    omega
  refine xb_setIx 5 (d := .bool ((List.range (k + 1)).any (inS s))) rfl (xe_eq (xe_cmp hu (xe_new (xl_lcIf 6 (fun _ : Nat => PyData.int 1) (inS s) sc_low_by.nd (xi_rng1 T.g_range (xe_addI (xe_var 1) xe_int) (by omega)) (fun _ _ _ _ _ d hd => (xt_eq (xt_tru (xe_call c_in_set (hr.mono (by decide)) (xa_cons (xe_var 0) (xa_cons (xe_var 6) xa_nil)) ⟨s, d, by rw [Int.zero_add], hz.2.2, rfl⟩)) rfl)) (fun _ _ _ _ _ d hd ht => xe_int) (by rw [List.length_range]; omega)).val) (xe_lst xa_nil) (.neD _ _ (hsh _) shaped_nil)) ?ev) xe_int hix ?_
  case ev =>
    rw [h1s, show ((k : Int) + 1).toNat = k + 1 by omega]
    congr 1
    rw [Bool.eq_iff_iff]
    cases hh : ((List.range (k + 1)).filter (inS s)) with
    | nil =>
      have := List.filter_eq_nil_iff.mp hh
      simp only [List.isEmpty_nil, Bool.not_true, Bool.false_eq_true, List.any_eq_true, false_iff, not_exists, not_and]
      exact fun x hx => this x hx
    | cons a l =>
      have : a ∈ (List.range (k + 1)).filter (inS s) := by rw [hh]; exact List.mem_cons_self
      have := List.mem_filter.mp this
      simp only [List.isEmpty_cons, Bool.not_false, List.any_eq_true, true_iff]
      exact ⟨a, this.1, this.2⟩
  have es : (row.map PyData.bool).set 0 (.bool ((List.range (k + 1)).any (inS s))) = (row.set 0 ((List.range (k + 1)).any (inS s))).map PyData.bool := List.map_set.symm
  rw [es]
  refine xb_frz 5 rfl ?_
  refine xb_ret (xe_call c_least_of (hr.mono (by decide)) (xa_cons (xe_sl (xe_var 5) xo_none (xo_some (xe_var 4)) (.lst _ _ _)) (xa_cons (xe_sl (xe_var 5) (xo_some (xe_var 4)) xo_none (.lst _ _ _)) xa_nil)) ⟨_, _, (row.set 0 ((List.range (k + 1)).any (inS s))).take (max 1 t.1.length), (row.set 0 ((List.range (k + 1)).any (inS s))).drop (max 1 t.1.length), rfl, ?_, ?_, ?_, ?_, rfl⟩) ?_
  · rw [cutD_map, cutD_to]
    exact .lst _
  · rw [cutD_map, cutD_from]
    exact .lst _
  · intro z
    have h8 : ((row.set 0 ((List.range (k + 1)).any (inS s))).drop (max 1 t.1.length)).length = 0 := by rw [z]; rfl
    rw [List.length_drop, List.length_set, hrl] at h8
    omega
  · rw [List.length_drop, List.length_set, hrl]
    omega
  · show encP _ = encP (lowBy s k)
    unfold lowBy
    rw [← ht]
end
end K17

set_option Elab.async false
set_option linter.all false
set_option maxRecDepth 100000
set_option maxHeartbeats 4000000
namespace K17
open PySem PySem.Spec PyProof.Rows L2 Dl Sm
theorem cast_sum (l : List Nat) : ((l.sum : Nat) : Int) = (l.map fun (n : Nat) => (n : Int)).sum := by
  induction l with
  | nil => rfl
  | cons a r ih => rw [List.sum_cons, List.map_cons, List.sum_cons, Int.natCast_add, ih]
theorem pow_cast (k : Nat) : ((2 ^ k : Nat) : Int) = (2 : Int) ^ k := by rw [Int.natCast_pow]; rfl
section
variable {P : Program} {w : World} {K : PySem.W.Frag} {mg : Str → Option Value} {base : Heap}
theorem c_mask_of (T : Txt K mg) (c_in_set : Def P w K mg base 1 "in_set" ["plain", "number"] (SpP K F_in_set)) : Def P w K mg base 2 "mask_of" ["plain", "size"] (SpP K F_mask_of) := by
  refine def_pure T.a_mask_of sc_mask_of (fun ds d h => ?_) ?_
  · obtain ⟨s, n, rfl, _⟩ := h
    rfl
  rintro _ ⟨fa, cdv, A, outer, s_, H, E, hr, rfl⟩ _ _ ⟨s, n, rfl, hn, h3, rfl⟩
  show XB _ [.dat _, .dat _, .no] _ _
  have e : (((List.range ((n : Nat) : Int).toNat).filter (inS s)).map fun k : Nat => PyData.int (1 * 2 ^ (0 + (k : Int)).toNat)) = (((List.range n).filter (inS s)).map fun k : Nat => (2 : Int) ^ k).map PyData.int := by
    rw [Int.toNat_natCast, List.map_map]
    refine List.map_congr_left fun k _ => ?_
    show PyData.int (1 * 2 ^ (0 + (k : Int)).toNat) = PyData.int (2 ^ k)
    rw [Int.zero_add, Int.toNat_natCast, Int.one_mul]
  have es : (((List.range n).filter (inS s)).map fun k : Nat => (2 : Int) ^ k).sum = ((maskOf s n : Nat) : Int) := by
    unfold maskOf
    rw [cast_sum, List.map_map]
    congr 1
  refine xb_ret (xe_sum (ns := ((List.range n).filter (inS s)).map fun k : Nat => (2 : Int) ^ k) T.g_sum (xe_eq (xe_new (xl_lcIf 2 (fun k : Nat => PyData.int (1 * 2 ^ (0 + (k : Int)).toNat)) (inS s) sc_mask_of.nd (xi_rng1 T.g_range (xe_var 1) (by omega)) (fun _ _ _ _ _ d hd => (xt_eq (xt_tru (xe_call c_in_set (hr.mono (by decide)) (xa_cons (xe_var 0) (xa_cons (xe_var 2) xa_nil)) ⟨s, d, by rw [Int.zero_add], h3, rfl⟩)) rfl)) (fun _ _ _ _ _ d hd ht => (xe_shlI xe_int (xe_var 2) (by rw [Int.zero_add]; exact shl_ok (n := 1) (by decide) (by have := List.mem_range.mp hd; omega)))) (by rw [List.length_range]; omega)).val) (congrArg PyData.list e))) (congrArg PyData.int es)
theorem c_sum_set (T : Txt K mg) (c_common_round : Def P w K mg base 1 "common_round" ["one", "two"] (SpP K F_common_round)) (c_in_set : Def P w K mg base 1 "in_set" ["plain", "number"] (SpP K F_in_set)) (c_least_of : Def P w K mg base 2 "least_of" ["few", "ring"] (SpP K F_least_of)) (c_mask_of : Def P w K mg base 2 "mask_of" ["plain", "size"] (SpP K F_mask_of)) : Def P w K mg base 3 "sum_set" ["one", "two"] (SpP K F_sum_set) := by
  refine def_pure T.a_sum_set sc_sum_set (fun ds d h => ?_) ?_
  · obtain ⟨s, t, rfl, _⟩ := h
    rfl
  rintro _ ⟨fa, cdv, A, outer, s_, H, E, hr, rfl⟩ _ _ ⟨s, t, rfl, ⟨h1, h2, h3⟩, ⟨h4, h5, h6⟩, rfl⟩
  have hu := room65 hr
  show XB _ [.dat _, .dat _, .no, .no, .no, .no, .no, .no] _ _
  have p1 : 0 < s.2.length := List.length_pos_iff.mpr h3
  have p2 : 0 < t.2.length := List.length_pos_iff.mpr h6
  have hlc : Nat.lcm s.2.length t.2.length ≤ 3600 := by
    have := Nat.le_of_dvd (Nat.mul_pos p1 p2) (Nat.lcm_dvd_mul s.2.length t.2.length)
    have h7 : s.2.length * t.2.length ≤ 60 * 60 := Nat.mul_le_mul h2 h5
    omega
  have hlp : 0 < Nat.lcm s.2.length t.2.length := Nat.lcm_pos p1 p2
  obtain ⟨z, hz⟩ : ∃ z, z = Nat.lcm s.2.length t.2.length := ⟨_, rfl⟩
  obtain ⟨b, hb⟩ : ∃ b, b = s.1.length + t.1.length + z := ⟨_, rfl⟩
  rw [← hz] at hlc hlp
  refine xb_asg 2 (xe_call c_common_round (hr.mono (by decide)) (xa_cons (xe_ix (xe_var 0) xe_int (.tup rfl)) (xa_cons (xe_ix (xe_var 1) xe_int (.tup rfl)) xa_nil)) ⟨_, _, rfl, h3, h6, rfl⟩) ?_ sc_sum_set.nd
  rw [← hz]
  have eb : (((s.1.map PyData.bool).length : Nat) : Int) + (((t.1.map PyData.bool).length : Nat) : Int) + (z : Int) = (b : Int) := by
    rw [List.length_map, List.length_map]
    omega
  refine xb_asg 3 (xe_eq (xe_addI (xe_addI (xe_len T.g_len (xe_ix (xe_var 0) xe_int (.tup rfl)) (.tup _)) (xe_len T.g_len (xe_ix (xe_var 1) xe_int (.tup rfl)) (.tup _))) (xe_var 2)) (congrArg PyData.int eb)) ?_ sc_sum_set.nd
  refine xb_unp (xe_tup (xa_cons (xe_call c_mask_of (hr.mono (by decide)) (xa_cons (xe_var 1) (xa_cons (xe_addI (xe_var 3) (xe_var 2)) xa_nil)) ⟨t, b + z, by rw [Int.natCast_add], by omega, h6, rfl⟩) (xa_cons xe_int xa_nil))) (xg_tup rfl (xgs_cons (xg_name 4 sc_sum_set.nd) (xgs_cons (xg_name 5 sc_sum_set.nd) xgs_nil)) rfl) ?_
  have eR : ((b : Int) + (z : Int)).toNat = b + z := by omega
  refine xb_for (is := [6]) (fun d δ => δ.set 6 (.dat d))
    (fun i δ => ∃ x, δ = [.dat (encP s), .dat (encP t), .dat (.int (z : Nat)), .dat (.int (b : Nat)), .dat (.int (maskOf t (b + z) : Nat)), .dat (.int (bothOf s t (b + z) i : Nat)), x, .no])
    (fun δ => ∃ x, δ = [.dat (encP s), .dat (encP t), .dat (.int (z : Nat)), .dat (.int (b : Nat)), .dat (.int (maskOf t (b + z) : Nat)), .dat (.int (bothOf s t (b + z) (b + z) : Nat)), x, .no])
    (xi_rng1 T.g_range (xe_addI (xe_var 3) (xe_var 2)) (by omega)) ⟨.no, rfl⟩ (fun i δ d hJ hd => ?_) (fun i δ d hJ hd => ?_) (fun δ hJ => ?_) (fun δ hM => ?_)
  · exact xg_name 6 sc_sum_set.nd
  · obtain ⟨x, rfl⟩ := hJ
    obtain ⟨hi, rfl⟩ := rangeD_get hd
    rw [eR] at hi
    rw [Int.zero_add]
    refine xb_if (fun δ => ∃ x, δ = [.dat (encP s), .dat (encP t), .dat (.int (z : Nat)), .dat (.int (b : Nat)), .dat (.int (maskOf t (b + z) : Nat)), .dat (.int (bothOf s t (b + z) (i + 1) : Nat)), x, .no]) (xt_tru (xe_call c_in_set (hr.mono (by decide)) (xa_cons (xe_var 0) (xa_cons (xe_var 6) xa_nil)) ⟨s, i, rfl, h3, rfl⟩)) (fun h => ?_) (fun h => ?_) (fun δ hM => xb_nil hM)
    · have h : inS s i = true := h
      have e2 : Builtin.bitOr ((bothOf s t (b + z) i : Nat) : Int) (((maskOf t (b + z) : Nat) : Int) * 2 ^ ((i : Nat) : Int).toNat) = ((bothOf s t (b + z) (i + 1) : Nat) : Int) := by
        rw [Int.toNat_natCast, ← pow_cast, ← Int.natCast_mul, bitOr_nn (Int.natCast_nonneg _) (Int.natCast_nonneg _), Int.toNat_natCast, Int.toNat_natCast, bothOf_succ, if_pos h]
      refine xb_augOr 5 rfl (xe_shlI (xe_var 4) (xe_var 6) ?sh) (xb_nil ?_) sc_sum_set.nd
      case sh =>
        have hm := maskOf_lt t (b + z)
        exact shl_ok (n := b + z) (by rw [Int.natAbs_natCast]; exact hm) (by omega)
      rw [e2]
      exact ⟨_, rfl⟩
    · have h : inS s i = false := h
      refine xb_nil ?_
      show ∃ x, _ = _
      rw [bothOf_succ, if_neg (by rw [h]; decide)]
      exact ⟨_, rfl⟩
  · rw [rangeD_length, eR] at hJ
    exact hJ
  · obtain ⟨x, rfl⟩ := hM
    let row := (List.range (b + z)).map fun n => (List.range (n + 1)).any fun k => inS s k && inS t (n - k)
    have hbit : ∀ n, n < b + z → (bothOf s t (b + z) (b + z)).testBit n = (List.range (n + 1)).any fun k => inS s k && inS t (n - k) := fun n hn => by
      rw [bothOf_bit, Bool.eq_iff_iff]
      simp only [List.any_eq_true, List.mem_range, Bool.and_eq_true, decide_eq_true_eq]
      constructor
      · rintro ⟨j, _, h1, h2, _, h3⟩
        exact ⟨j, by omega, h1, h3⟩
      · rintro ⟨j, h0, h1, h2⟩
        exact ⟨j, by omega, h1, by omega, by omega, h2⟩
    refine xb_lc 7 (xl_lc 6 (fun n : Nat => PyData.bool ((bothOf s t (b + z) (b + z)).testBit n)) sc_sum_set.nd (xi_rng1 T.g_range (xe_addI (xe_var 3) (xe_var 2)) (by omega)) (fun _ _ _ _ _ d hd => xe_eq (xe_cmp hu (xe_andI (xe_shrI (xe_var 5) (xe_var 6) (by omega)) xe_int) xe_int (.eqI _ _)) ?eb) (by rw [List.length_range]; omega)) ?_ sc_sum_set.nd
    case eb =>
      congr 1
      rw [Int.zero_add, Int.toNat_natCast, ← pow_cast, ← Int.natCast_ediv, bitAnd_m1, Nat.testBit_eq_decide_div_mod_eq]
      congr 1
      apply propext
      omega
    have er : (List.range ((b : Int) + (z : Int)).toNat).map (fun n : Nat => PyData.bool ((bothOf s t (b + z) (b + z)).testBit n)) = row.map PyData.bool := by
      rw [eR, List.map_map]
      exact List.map_congr_left fun n hn => congrArg PyData.bool (hbit n (List.mem_range.mp hn))
    have hrl : row.length = b + z := by rw [List.length_map, List.length_range]
    rw [er]
    refine xb_ret (xe_call c_least_of (hr.mono (by decide)) (xa_cons (xe_sl (xe_var 7) xo_none (xo_some (xe_var 3)) (.lst _ _ _)) (xa_cons (xe_sl (xe_var 7) (xo_some (xe_var 3)) xo_none (.lst _ _ _)) xa_nil)) ⟨_, _, row.take b, row.drop b, rfl, ?_, ?_, ?_, ?_, rfl⟩) ?_
    · rw [cutD_map, cutD_to]
      exact .lst _
    · rw [cutD_map, cutD_from]
      exact .lst _
    · intro zz
      have h8 : (row.drop b).length = 0 := by rw [zz]; rfl
      rw [List.length_drop, hrl] at h8
      omega
    · rw [List.length_drop]
      omega
    · show encP _ = encP (sumSet s t)
      have key : ∀ z b : Nat, z = Nat.lcm s.2.length t.2.length → b = s.1.length + t.1.length + z → sumSet s t = leastOf (((List.range (b + z)).map fun n => (List.range (n + 1)).any fun k => inS s k && inS t (n - k)).take b) (((List.range (b + z)).map fun n => (List.range (n + 1)).any fun k => inS s k && inS t (n - k)).drop b) := by
        rintro _ _ rfl rfl
        rfl
      rw [key z b hz hb]
theorem c_shifted_up (T : Txt K mg) (c_need_by : Def P w K mg base 2 "need_by" ["by"] (SpP K F_need_by)) (c_need_set : Def P w K mg base 4 "need_set" ["numbers"] (SpP K F_set_in)) (c_told_set : Def P w K mg base 1 "told_set" ["plain"] (SpP K F_told_set)) (c_up_by : Def P w K mg base 3 "up_by" ["plain", "by"] (SpP K F_up_by)) : Def P w K mg base 5 "shifted_up" ["numbers", "by"] (SpP K F_shifted_up) := by
  refine def_pure T.a_shifted_up sc_shifted_up (fun ds d h => ?_) ?_
  · obtain ⟨x, s, k, rfl, _⟩ := h
    rfl
  rintro _ ⟨fa, cdv, A, outer, s_, H, E, hr, rfl⟩ _ _ ⟨x, s, k, rfl, hx, hz, hk, hf, rfl⟩
  show XB _ [.dat _, .dat _, .no] _ _
  refine xb_asg 2 (xe_call c_need_set (hr.mono (by decide)) (xa_cons (xe_var 0) xa_nil) ⟨_, _, rfl, hx, hz, rfl⟩) ?_ sc_shifted_up.nd
  exact xb_ret (xe_call c_told_set (hr.mono (by decide)) (xa_cons (xe_call c_up_by (hr.mono (by decide)) (xa_cons (xe_var 2) (xa_cons (xe_call c_need_by (hr.mono (by decide)) (xa_cons (xe_var 1) xa_nil) ⟨k, rfl, hk, rfl⟩) xa_nil)) ⟨_, _, rfl, hk, hz.lst, rfl⟩) xa_nil) ⟨_, rfl, hf.1, hf.2, rfl⟩) rfl
theorem c_shifted_down (T : Txt K mg) (c_need_by : Def P w K mg base 2 "need_by" ["by"] (SpP K F_need_by)) (c_need_set : Def P w K mg base 4 "need_set" ["numbers"] (SpP K F_set_in)) (c_told_set : Def P w K mg base 1 "told_set" ["plain"] (SpP K F_told_set)) (c_down_by : Def P w K mg base 3 "down_by" ["plain", "by"] (SpP K F_down_by)) : Def P w K mg base 5 "shifted_down" ["numbers", "by"] (SpP K F_shifted_down) := by
  refine def_pure T.a_shifted_down sc_shifted_down (fun ds d h => ?_) ?_
  · obtain ⟨x, s, k, rfl, _⟩ := h
    rfl
  rintro _ ⟨fa, cdv, A, outer, s_, H, E, hr, rfl⟩ _ _ ⟨x, s, k, rfl, hx, hz, hk, hf, rfl⟩
  show XB _ [.dat _, .dat _, .no] _ _
  refine xb_asg 2 (xe_call c_need_set (hr.mono (by decide)) (xa_cons (xe_var 0) xa_nil) ⟨_, _, rfl, hx, hz, rfl⟩) ?_ sc_shifted_down.nd
  exact xb_ret (xe_call c_told_set (hr.mono (by decide)) (xa_cons (xe_call c_down_by (hr.mono (by decide)) (xa_cons (xe_var 2) (xa_cons (xe_call c_need_by (hr.mono (by decide)) (xa_cons (xe_var 1) xa_nil) ⟨k, rfl, hk, rfl⟩) xa_nil)) ⟨_, _, rfl, hk, hz.lst, rfl⟩) xa_nil) ⟨_, rfl, hf.1, hf.2, rfl⟩) rfl
theorem c_lowered (T : Txt K mg) (c_need_by : Def P w K mg base 2 "need_by" ["by"] (SpP K F_need_by)) (c_need_set : Def P w K mg base 4 "need_set" ["numbers"] (SpP K F_set_in)) (c_told_set : Def P w K mg base 1 "told_set" ["plain"] (SpP K F_told_set)) (c_low_by : Def P w K mg base 4 "low_by" ["plain", "by"] (SpP K F_low_by)) : Def P w K mg base 5 "lowered" ["numbers", "by"] (SpP K F_lowered) := by
  refine def_pure T.a_lowered sc_lowered (fun ds d h => ?_) ?_
  · obtain ⟨x, s, k, rfl, _⟩ := h
    rfl
  rintro _ ⟨fa, cdv, A, outer, s_, H, E, hr, rfl⟩ _ _ ⟨x, s, k, rfl, hx, hz, hk, hf, rfl⟩
  show XB _ [.dat _, .dat _, .no] _ _
  refine xb_asg 2 (xe_call c_need_set (hr.mono (by decide)) (xa_cons (xe_var 0) xa_nil) ⟨_, _, rfl, hx, hz, rfl⟩) ?_ sc_lowered.nd
  exact xb_ret (xe_call c_told_set (hr.mono (by decide)) (xa_cons (xe_call c_low_by (hr.mono (by decide)) (xa_cons (xe_var 2) (xa_cons (xe_call c_need_by (hr.mono (by decide)) (xa_cons (xe_var 1) xa_nil) ⟨k, rfl, hk, rfl⟩) xa_nil)) ⟨_, _, rfl, hk, hz.lst, rfl⟩) xa_nil) ⟨_, rfl, hf.1, hf.2, rfl⟩) rfl
theorem c_sums_of (T : Txt K mg) (c_need_sets : Def P w K mg base 5 "need_sets" ["numbers", "other"] (SpP K F_need_sets)) (c_sum_set : Def P w K mg base 3 "sum_set" ["one", "two"] (SpP K F_sum_set)) (c_told_set : Def P w K mg base 1 "told_set" ["plain"] (SpP K F_told_set)) : Def P w K mg base 6 "sums_of" ["numbers", "other"] (SpP K F_sums_of) := by
  refine def_pure T.a_sums_of sc_sums_of (fun ds d h => ?_) ?_
  · obtain ⟨x, s, y, t, rfl, _⟩ := h
    rfl
  rintro _ ⟨fa, cdv, A, outer, s_, H, E, hr, rfl⟩ _ _ ⟨x, s, y, t, rfl, hx, hz, hy, hz2, hf, rfl⟩
  show XB _ [.dat _, .dat _, .no, .no] _ _
  refine xb_unp (xe_call c_need_sets (hr.mono (by decide)) (xa_cons (xe_var 0) (xa_cons (xe_var 1) xa_nil)) ⟨_, _, _, _, rfl, hx, hz, hy, hz2, rfl⟩) (xg_tup rfl (xgs_cons (xg_name 2 sc_sums_of.nd) (xgs_cons (xg_name 3 sc_sums_of.nd) xgs_nil)) rfl) ?_
  exact xb_ret (xe_call c_told_set (hr.mono (by decide)) (xa_cons (xe_call c_sum_set (hr.mono (by decide)) (xa_cons (xe_var 2) (xa_cons (xe_var 3) xa_nil)) ⟨_, _, rfl, hz.lst, hz2.lst, rfl⟩) xa_nil) ⟨_, rfl, hf.1, hf.2, rfl⟩) rfl
end
end K17

set_option Elab.async false
set_option linter.all false
set_option maxRecDepth 100000
set_option maxHeartbeats 4000000
namespace K17
open PySem PySem.Spec PyProof.Rows L2 Dl Sm
def Pb (n : Nat) (ds : List PyData) : Prop := n ≤ 2 ^ 40 ∧ ∃ many : Int, ds = [.int many] ∧ 0 < many ∧ many ≤ 1000
def Qb (n : Nat) (ds : List PyData) (n2 : Nat) (d : PyData) : Prop := n2 = n + 1 ∧ ∃ j : Int, d = .int j ∧ 0 ≤ j ∧ ∀ many : Int, ds = [.int many] → j < many
section
variable {P : Program} {w : World} {K : PySem.W.Frag} {mg : Str → Option Value} {base : Heap}
theorem c_law_below (T : Txt K mg) : Def P w K mg base 1 "_law_below" ["stream", "many"] (SpS K Pb Qb) := by
  refine def_draw T.a_law_below sc_law_below (fun n ds h => ?_) ?_
  · obtain ⟨_, many, rfl, _⟩ := h
    rfl
  rintro _ ⟨fa, cdv, A, outer, s, H, E, hr, rfl⟩ p q n _ ⟨hn, many, rfl, hm0, hm1⟩
  have hu := room65 hr
  show XB _ [.own (strmR p q n), .dat (.int many), .no, .no, .no] _ _
  refine xb_openS 0 rfl fun cells r c m hb => ?_
  show XB _ [.own (strmX p q cells r c m), .dat (.int many), .no, .no, .no] _ _
  obtain ⟨b1, b2, b3, b4, b5, b6⟩ := hb
  have hmod : ∀ j : Int, 0 ≤ j % many ∧ j % many < many := fun j => ⟨Int.emod_nonneg _ (by omega), Int.emod_lt_of_pos _ hm0⟩
  refine xb_stSet 0 2 rfl (.inr (.inl rfl)) (xe_addI (xe_st 0 2 rfl (.inr (.inl rfl))) xe_int) ?_
  show XB _ [.own (strmX p q cells r (c + 1) m), .dat (.int many), .no, .no, .no] _ _
  refine xb_while (fun k δ => ∃ cells r m x, cells.length = k ∧ StB (n + 1) cells r (c + 1) m ∧ δ = [.own (strmX p q cells r (c + 1) m), .dat (.int many), x, .no, .no]) (fun δ => ∃ cells r m x, StB (n + 1) cells r (c + 1) m ∧ δ = [.own (strmX p q cells r (c + 1) m), .dat (.int many), x, .no, .no]) cells.length ⟨cells, r, m, .no, rfl, ⟨b1, b2, by omega, by omega, b5, b6⟩, rfl⟩ (fun k δ hJ => ?_) (fun δ hM => ?_)
  · obtain ⟨cells, r, m, x, hk, ⟨b1, b2, b3, b4, b5, b6⟩, rfl⟩ := hJ
    refine ⟨_, ((xw_and (xt_cmp hu (xe_st 0 1 rfl (.inl rfl)) xe_int (.eqI _ _)) (fun _ => (xw_and1 (xt_stNe 0 hu rfl))))).xt, fun h => ?_, fun h => ?_⟩
    · cases cells with
      | nil => rw [show (!([] : List Int).isEmpty) = false from rfl, Bool.and_false] at h; cases h
      | cons z zs =>
        refine xb_asgF 2 (xf_stPop 0 rfl) (fun d δ1 ⟨hd, hδ⟩ => ?_) sc_law_below.nd
        subst hd hδ
        show XB _ [.own (strmX p q zs r (c + 1) m), .dat (.int many), .dat (.int z), .no, .no] _ _
        refine xb_stSet 0 3 rfl (.inr (.inr rfl)) (xe_modI (xe_intI T.g_int (xe_addI (xe_addI (xe_mulI (xe_st 0 3 rfl (.inr (.inr rfl))) xe_int (.inr ⟨by decide, by decide⟩)) (xe_var 2)) xe_int)) xe_int (by decide)) ?_
        generalize hmx : (sxAt r (c + 1) m 3 * 69031 + z + 13) % 2147483647 = m2
        have hm2 : 0 ≤ m2 ∧ m2 < 2147483647 := by omega
        show XB _ [.own (strmX p q zs r (c + 1) m2), .dat (.int many), .dat (.int z), .no, .no] _ _
        refine xb_stSet (z := if z ≥ (10 : Int) ^ (18 : Int).toNat then z else 0) 0 1 rfl (.inl rfl) (xe_if (xt_cmp hu (xe_var 2) (xe_powI xe_int xe_int ⟨by decide, by decide, by decide⟩) (.geI _ _)) (fun h => xe_eq (xe_var 2) (congrArg PyData.int (if_pos (of_decide_eq_true h)).symm)) (fun h => xe_eq xe_int (congrArg PyData.int (if_neg (of_decide_eq_false h)).symm))) (xb_nil ⟨zs.length, ?_, zs, if z ≥ (10 : Int) ^ (18 : Int).toNat then z else 0, m2, .dat (.int z), rfl, ⟨?_, ?_, b3, b4, hm2.1, hm2.2⟩, rfl⟩)
        · rw [← hk]; exact Nat.lt_succ_self _
        · rw [List.length_cons] at b1
          omega
        · have h10 : (0 : Int) ≤ (10 : Int) ^ (18 : Int).toNat := by decide
          split <;> omega
    · exact ⟨cells, r, m, x, ⟨b1, b2, b3, b4, b5, b6⟩, rfl⟩
  · obtain ⟨cells, r, m, x, ⟨b1, b2, b3, b4, b5, b6⟩, rfl⟩ := hM
    refine xb_ifR (xt_cmp hu (xe_st 0 1 rfl (.inl rfl)) xe_int (.gtI _ _)) (fun h => ?_) (fun h => ?_)
    · refine xb_asg 3 (xe_modI (xe_intI T.g_int (xe_st 0 1 rfl (.inl rfl))) (xe_var 1) hm0) ?_ sc_law_below.nd
      show XB _ [.own (strmX p q cells r (c + 1) m), .dat (.int many), x, .dat (.int (r % many)), .no] _ _
      refine xb_stSet 0 1 rfl (.inl rfl) (xe_divI (xe_st 0 1 rfl (.inl rfl)) (xe_var 1) ⟨hm0, by omega⟩) ?_
      show XB _ [.own (strmX p q cells (r / many) (c + 1) m), .dat (.int many), x, .dat (.int (r % many)), .no] _ _
      refine xb_closeS 0 (n + 1) rfl ⟨b1, Int.ediv_nonneg b2 (by omega), b3, b4, b5, b6⟩ ?_
      refine xb_ret (xe_var 3) ⟨n + 1, rfl, rfl, r % many, rfl, (hmod r).1, fun m2 e => ?_⟩
      cases e
      exact (hmod r).2
    · have hp1 : CPow (m + 9049 * (c + 1) + 130073) 5 := ⟨by decide, by decide, by omega⟩
      refine xb_asg 4 (xe_modI (xe_intI T.g_int (xe_powI (xe_addI (xe_addI (xe_st 0 3 rfl (.inr (.inr rfl))) (xe_mulI xe_int (xe_st 0 2 rfl (.inr (.inl rfl))) (.inl ⟨by decide, by decide⟩))) xe_int) xe_int hp1)) xe_int (by decide)) ?_ sc_law_below.nd
      generalize hmx : (sxAt r (c + 1) m 3 + 9049 * sxAt r (c + 1) m 2 + 130073) ^ (5 : Int).toNat % 2147483629 = mx
      have hm2 : 0 ≤ mx ∧ mx < 2147483629 := by omega
      show XB _ [.own (strmX p q cells r (c + 1) m), .dat (.int many), x, .no, .dat (.int mx)] _ _
      have hp2 : CPow (mx * 44089 + 60077 * (c + 1) + 47) 3 := ⟨by decide, by decide, by omega⟩
      refine xb_retS 0 (n + 1) (xe_modI (xe_modI (xe_intI T.g_int (xe_powI (xe_addI (xe_addI (xe_mulI (xe_var 4) xe_int (.inr ⟨by decide, by decide⟩)) (xe_mulI xe_int (xe_st 0 2 rfl (.inr (.inl rfl))) (.inl ⟨by decide, by decide⟩))) xe_int) xe_int hp2)) xe_int (by decide)) (xe_var 1) hm0) rfl ⟨b1, b2, b3, b4, b5, b6⟩ ⟨n + 1, rfl, rfl, _, rfl, (hmod _).1, fun m2 e => ?_⟩
      cases e
      exact (hmod _).2
theorem c_law_start (T : Txt K mg) : Def P w K mg base 1 "_law_start" ["script"] (SpStart K) := by
  obtain ⟨fa, fd, h1, h2, h3⟩ := T.a_law_start.ex
  refine ⟨fa, fd, h1, h2.kp, h3, h2.ok sc_law_start (fun vs H Q E h => ?_) (fun cdv A outer s H vs Q E hr h => ?_)⟩
  · obtain ⟨a, ns, rfl, _⟩ := h
    rfl
  · obtain ⟨a, ns, rfl, hS, q⟩ := h
    refine ⟨_, pss_cons (ps_ret (pe_lst (pa_cons (pe_callTy call_list_of (by rfl) T.g_list boot_list (pa_cons (pe_var (i := 0) (by rfl) (by exact Or.inl rfl) (by decide) (by decide)) pa_nil (by rfl)) (by decide) (by decide) (by rfl) (by rfl)) (pa_cons pe_int (pa_cons pe_int (pa_cons pe_int pa_nil (by rfl)) (by rfl)) (by rfl)) (by rfl)))) pss_never, ?_⟩
    show ∃ v, _
    refine ⟨.ref a, rfl, ?_⟩
    show ∃ (p : Addr) (ys : List V), _
    refine ⟨a, ns.map V.int, rfl, .inl hS, fun l hl => ?_⟩
    refine ⟨by show 4 ≤ sizeLine; decide, fun l2 hl2 => ?_⟩
    have ne : l ≠ l2 := fun e => by rw [← e, upd_same] at hl2; cases hl2
    have h2 : H l2 = none := by rw [upd_ne (Ne.symm ne)] at hl2; exact hl2
    exact q l2 l _ h2 hl (Ne.symm ne) (fun b o e => by
      rw [upd_ne (fun z => by rw [z, h2] at e; cases e), upd_ne (fun z => by rw [z, hl] at e; cases e)]
      exact e) upd_same (by rw [upd_ne ne]; exact upd_same)
end
end K17

set_option Elab.async false
set_option linter.all false
set_option maxRecDepth 100000
set_option maxHeartbeats 4000000
namespace K17
open PySem PySem.Spec PyProof.Rows L2 Dl Sm
def Qc (n : Nat) (ds : List PyData) (n2 : Nat) (d : PyData) : Prop := n2 = n + 1 ∧ ∃ b : Bool, d = .bool b
def Pk (n : Nat) (ds : List PyData) : Prop := n ≤ 2 ^ 39 ∧ ∃ many : Nat, ds = [.int (many : Nat)] ∧ many ≤ 100
def Qk (n : Nat) (ds : List PyData) (n2 : Nat) (d : PyData) : Prop := ∃ l : List Bool, d = .list (l.map .bool) ∧ n2 = n + l.length ∧ ∀ many : Nat, ds = [.int (many : Nat)] → l.length = many
def Ps (n : Nat) (ds : List PyData) : Prop := n ≤ 2 ^ 38 ∧ ∃ most : Nat, ds = [.int (most : Nat)] ∧ 0 < most ∧ most ≤ 6
def Qs (n : Nat) (ds : List PyData) (n2 : Nat) (d : PyData) : Prop := n2 ≤ n + 20 ∧ ∃ s : S, d = encT s ∧ s.2 ≠ [] ∧ s.1.length ≤ 12 ∧ s.2.length ≤ 12 ∧ ∀ most : Nat, ds = [.int (most : Nat)] → s.1.length + 1 ≤ 2 * most ∧ roundSize s.2 ≤ most
theorem bools_of : ∀ {ds : List PyData}, (∀ (i : Nat) d, ds[i]? = some d → ∃ b : Bool, d = .bool b) → ∃ l : List Bool, ds = l.map .bool
  | [], _ => ⟨[], rfl⟩
  | d :: ds, h => by
    obtain ⟨b, hb⟩ := h 0 d rfl
    obtain ⟨l, hl⟩ := bools_of (ds := ds) fun i d hi => h (i + 1) d hi
    exact ⟨b :: l, by rw [hb, hl]; rfl⟩
theorem xfa_imp {X : Cx} {δ : List Dl.Slot} {es : List Expr} {P P' : List PyData → List Dl.Slot → Prop} (h : XFA X δ es P) (w : ∀ ds δ', P ds δ' → P' ds δ') : XFA X δ es P' := PA.weak h fun σ H Q ⟨B, F, W, q⟩ => ⟨B, F, W, fun vs ds δ2 B2 H2 F2 s2 W2 h2 r2 => q vs ds δ2 B2 H2 F2 s2 W2 (w _ _ h2) r2⟩
theorem map2_len (r : List Bool) : (r ++ r).length = 2 * r.length := by rw [List.length_append]; omega
section
variable {P : Program} {w : World} {K : PySem.W.Frag} {mg : Str → Option Value} {base : Heap}
theorem c_law_chance (T : Txt K mg) (c_law_below : Def P w K mg base 1 "_law_below" ["stream", "many"] (SpS K Pb Qb)) : Def P w K mg base 2 "_law_chance" ["stream", "many"] (SpS K Pb Qc) := by
  refine def_draw T.a_law_chance sc_law_chance (fun n ds h => ?_) ?_
  · obtain ⟨_, many, rfl, _⟩ := h
    rfl
  rintro _ ⟨fa, cdv, A, outer, s, H, E, hr, rfl⟩ p q n _ ⟨hn, many, rfl, hm0, hm1⟩
  have hu := room65 hr
  show XB _ [.own (strmR p q n), .dat (.int many)] _ _
  refine xb_retF (P := fun d δ => ∃ b : Bool, d = .bool b ∧ δ = [.own (strmR p q (n + 1)), .dat (.int many)]) (xf_cmp (P1 := fun d δ => ∃ j : Int, d = .int j ∧ δ = [.own (strmR p q (n + 1)), .dat (.int many)]) hu (xf_draw 0 c_law_below (hr.mono (by decide)) rfl (xfa_of (xa_cons (xe_var 1) xa_nil)) ?_) (fun d1 δ1 h1 => ?_)) (fun d δ1 h1 => ?_)
  · rintro _ _ ⟨rfl, rfl⟩
    refine ⟨n, rfl, ⟨hn, many, rfl, hm0, hm1⟩, fun n2 d hq => ?_⟩
    obtain ⟨rfl, j, rfl, _⟩ := hq
    exact ⟨j, rfl, rfl⟩
  · obtain ⟨j, rfl, rfl⟩ := h1
    refine xf_imp (xf_of xe_int) ?_
    rintro _ _ ⟨rfl, rfl⟩
    exact ⟨_, .eqI _ _, _, rfl, rfl⟩
  · obtain ⟨b, rfl, rfl⟩ := h1
    exact ⟨n + 1, rfl, rfl, b, rfl⟩
theorem c_law_ktruths (T : Txt K mg) (c_law_chance : Def P w K mg base 2 "_law_chance" ["stream", "many"] (SpS K Pb Qc)) : Def P w K mg base 3 "_law_ktruths" ["stream", "many"] (SpS K Pk Qk) := by
  refine def_draw T.a_law_ktruths sc_law_ktruths (fun n ds h => ?_) ?_
  · obtain ⟨_, many, rfl, _⟩ := h
    rfl
  rintro _ ⟨fa, cdv, A, outer, s, H, E, hr, rfl⟩ p q n _ ⟨hn, many, rfl, hm⟩
  have hu := room65 hr
  show XB _ [.own (strmR p q n), .dat (.int (many : Nat)), .no] _ _
  refine xb_retF (xlF (l := List.range ((many : Nat) : Int).toNat) 2 (fun i δ => δ = [.own (strmR p q (n + i)), .dat (.int (many : Nat)), .no]) (fun i d => ∃ b : Bool, d = .bool b) sc_law_ktruths.nd (xi_rng1 T.g_range (xe_var 1) (by omega)) (by exact Nat.lt_succ_self 2) (by rw [List.length_range]; omega) rfl (fun i δ' h => by subst h; rfl) (fun _ _ _ _ _ i y δ' hy hJ => ?_)).val (fun d δ1 h1 => ?_)
  · subst hJ
    refine xf_draw 0 c_law_chance (hr.mono (by decide)) rfl (xfa_of (xa_cons xe_int xa_nil)) ?_
    rintro _ _ ⟨rfl, rfl⟩
    have hi : i < many := by
      have := (List.getElem?_eq_some_iff.mp hy).1
      rw [List.length_range] at this
      omega
    refine ⟨n + i, rfl, ⟨by omega, 2, rfl, by decide, by decide⟩, fun n2 d hq => ?_⟩
    obtain ⟨rfl, b, rfl⟩ := hq
    exact ⟨⟨b, rfl⟩, rfl⟩
  · obtain ⟨ds, rfl, hl, hb, rfl⟩ := h1
    obtain ⟨l, rfl⟩ := bools_of hb
    rw [List.length_map, List.length_range] at hl
    have hl : l.length = many := by omega
    refine ⟨n + many, by rw [List.length_range]; rfl, l, rfl, by rw [hl], fun m2 e => ?_⟩
    have : (many : Int) = (m2 : Int) := by injection e with e1; injection e1
    omega
theorem c_law_kset (T : Txt K mg) (c_law_below : Def P w K mg base 1 "_law_below" ["stream", "many"] (SpS K Pb Qb)) (c_law_chance : Def P w K mg base 2 "_law_chance" ["stream", "many"] (SpS K Pb Qc)) (c_law_ktruths : Def P w K mg base 3 "_law_ktruths" ["stream", "many"] (SpS K Pk Qk)) : Def P w K mg base 4 "_law_kset" ["stream", "most"] (SpS K Ps Qs) := by
  refine def_draw T.a_law_kset sc_law_kset (fun n ds h => ?_) ?_
  · obtain ⟨_, many, rfl, _⟩ := h
    rfl
  rintro _ ⟨fa, cdv, A, outer, s, H, E, hr, rfl⟩ p q n _ ⟨hn, most, rfl, hm0, hm1⟩
  have hu := room65 hr
  show XB _ [.own (strmR p q n), .dat (.int (most : Nat)), .no, .no, .no] _ _
  refine xb_asgF (P := fun d δ => ∃ j : Int, d = .int j ∧ δ = [.own (strmR p q (n + 1)), .dat (.int (most : Nat)), .no, .no, .no]) 2 (xf_draw 0 c_law_below (hr.mono (by decide)) rfl (xfa_of (xa_cons xe_int xa_nil)) ?_) (fun d δ1 h1 => ?_) sc_law_kset.nd
  · rintro _ _ ⟨rfl, rfl⟩
    refine ⟨n, rfl, ⟨by omega, 6, rfl, by decide, by decide⟩, fun n2 d hq => ?_⟩
    obtain ⟨rfl, j, rfl, _⟩ := hq
    exact ⟨j, rfl, rfl⟩
  obtain ⟨way, rfl, rfl⟩ := h1
  show XB _ [.own (strmR p q (n + 1)), .dat (.int (most : Nat)), .dat (.int way), .no, .no] _ _
  refine xb_parF (i := 3) (j := 4) (PA' := fun ds δ => ∃ f r : List Bool, ds = [.list (f.map .bool), .list (r.map .bool)] ∧ f.length < most ∧ 0 < r.length ∧ r.length ≤ most ∧ δ = [.own (strmR p q (n + 3 + f.length + r.length)), .dat (.int (most : Nat)), .dat (.int way), .no, .no])
    (xfa_cons (P1 := fun d δ => ∃ f : List Bool, d = .list (f.map .bool) ∧ f.length < most ∧ δ = [.own (strmR p q (n + 2 + f.length)), .dat (.int (most : Nat)), .dat (.int way), .no, .no])
      (xf_draw 0 c_law_ktruths (hr.mono (by decide)) rfl (xfa_cons (P1 := fun d δ => ∃ j : Nat, d = .int (j : Nat) ∧ j < most ∧ δ = [.own (strmR p q (n + 2)), .dat (.int (most : Nat)), .dat (.int way), .no, .no]) (PA' := fun ds δ => ∃ j : Nat, ds = [.int (j : Nat)] ∧ j < most ∧ δ = [.own (strmR p q (n + 2)), .dat (.int (most : Nat)), .dat (.int way), .no, .no]) (xf_draw 0 c_law_below (hr.mono (by decide)) rfl (xfa_of (xa_cons (xe_var 1) xa_nil)) ?a1) (fun d1 δ1 h1 => ?a2)) ?a3)
      (fun d1 δ1 h1 => ?a4)) (fun ds δ1 h1 => ?a5) sc_law_kset.nd
  case a1 =>
    rintro _ _ ⟨rfl, rfl⟩
    refine ⟨n + 1, rfl, ⟨by omega, most, rfl, by omega, by omega⟩, fun n2 d hq => ?_⟩
    obtain ⟨rfl, j, rfl, h0, h1⟩ := hq
    have h2 := h1 most rfl
    exact ⟨j.toNat, by rw [Int.toNat_of_nonneg h0], by omega, rfl⟩
  case a2 =>
    obtain ⟨j, rfl, hj, rfl⟩ := h1
    refine xfa_imp xfa_nil ?_
    rintro _ _ ⟨rfl, rfl⟩
    exact ⟨j, rfl, hj, rfl⟩
  case a3 =>
    rintro _ _ ⟨j, rfl, hj, rfl⟩
    refine ⟨n + 2, rfl, ⟨by omega, j, rfl, by omega⟩, fun n2 d hq => ?_⟩
    obtain ⟨l, rfl, rfl, hl⟩ := hq
    have := hl j rfl
    exact ⟨l, rfl, by omega, rfl⟩
  case a4 =>
    obtain ⟨f, rfl, hf, rfl⟩ := h1
    refine xfa_cons (P1 := fun d δ => ∃ r : List Bool, d = .list (r.map .bool) ∧ 0 < r.length ∧ r.length ≤ most ∧ δ = [.own (strmR p q (n + 3 + f.length + r.length)), .dat (.int (most : Nat)), .dat (.int way), .no, .no])
      (xf_draw 0 c_law_ktruths (hr.mono (by decide)) rfl (xfa_cons (P1 := fun d δ => ∃ j : Nat, d = .int (j : Nat) ∧ 0 < j ∧ j ≤ most ∧ δ = [.own (strmR p q (n + 3 + f.length)), .dat (.int (most : Nat)), .dat (.int way), .no, .no]) (PA' := fun ds δ => ∃ j : Nat, ds = [.int (j : Nat)] ∧ 0 < j ∧ j ≤ most ∧ δ = [.own (strmR p q (n + 3 + f.length)), .dat (.int (most : Nat)), .dat (.int way), .no, .no])
        (xf_op op_add (xf_of xe_int) (fun d1 δ1 h1 => ?b1)) (fun d1 δ1 h1 => ?b2)) ?b3) (fun d1 δ1 h1 => ?b4)
    case b1 =>
      obtain ⟨rfl, rfl⟩ := h1
      refine xf_draw 0 c_law_below (hr.mono (by decide)) rfl (xfa_of (xa_cons (xe_var 1) xa_nil)) ?_
      rintro _ _ ⟨rfl, rfl⟩
      refine ⟨n + 2 + f.length, rfl, ⟨by omega, most, rfl, by omega, by omega⟩, fun n2 d hq => ?_⟩
      obtain ⟨rfl, j, rfl, h0, h1⟩ := hq
      have h2 := h1 most rfl
      refine ⟨.int (1 + j), rd_I0 fun _ => .int _, j.toNat + 1, ?_, by omega, by omega, ?_⟩
      · congr 1
        omega
      · rw [show n + 2 + f.length + 1 = n + 3 + f.length by omega]
        rfl
    case b2 =>
      obtain ⟨j, rfl, hj, hj2, rfl⟩ := h1
      refine xfa_imp xfa_nil ?_
      rintro _ _ ⟨rfl, rfl⟩
      exact ⟨j, rfl, hj, hj2, rfl⟩
    case b3 =>
      rintro _ _ ⟨j, rfl, hj, hj2, rfl⟩
      refine ⟨n + 3 + f.length, rfl, ⟨by omega, j, rfl, by omega⟩, fun n2 d hq => ?_⟩
      obtain ⟨l, rfl, rfl, hl⟩ := hq
      have := hl j rfl
      exact ⟨l, rfl, by omega, by omega, rfl⟩
    case b4 =>
      obtain ⟨r, rfl, h1, h2, rfl⟩ := h1
      refine xfa_imp xfa_nil ?_
      rintro _ _ ⟨rfl, rfl⟩
      exact ⟨f, r, rfl, hf, h1, h2, rfl⟩
  case a5 =>
    obtain ⟨f, r, rfl, hf, h1, h2, rfl⟩ := h1
    refine ⟨_, _, rfl, ?_⟩
    obtain ⟨N, hN⟩ : ∃ N, N = n + 3 + f.length + r.length := ⟨_, rfl⟩
    rw [← hN]
    have hN2 : N ≤ n + 15 := by omega
    show XB _ [.own (strmR p q N), .dat (.int (most : Nat)), .dat (.int way), .dat (.list (f.map .bool)), .dat (.list (r.map .bool))] _ _
    refine xb_if (fun δ => ∃ r : List Bool, 0 < r.length ∧ r.length ≤ 2 * most ∧ (way ≠ 0 → r.length ≤ most) ∧ roundSize r ≤ most ∧ δ = [.own (strmR p q N), .dat (.int (most : Nat)), .dat (.int way), .dat (.list (f.map .bool)), .dat (.list (r.map .bool))]) (xt_cmp hu (xe_var 2) xe_int (.eqI _ _)) (fun h => ?_) (fun h => ?_) (fun δ hM => ?_)
    · refine xb_asg 4 (xe_eq (xe_rep (xe_var 4) xe_int (by decide) (by decide) ?hz) ?he) (xb_nil ⟨r ++ r, ?_, ?_, fun hw => absurd (of_decide_eq_true h) hw, ?_, rfl⟩) sc_law_kset.nd
      case hz =>
        rw [List.length_map]
        show r.length * 2 ≤ _
        omega
      case he =>
        show PyData.list (List.replicate 2 (r.map PyData.bool)).flatten = .list ((r ++ r).map PyData.bool)
        rw [List.map_append]
        simp [List.replicate_succ]
      · rw [map2_len]; omega
      · rw [map2_len]; omega
      · exact Nat.le_trans (roundSize_le (List.length_pos_iff.mp (by rw [map2_len]; omega)) h1 (roundOk_double r)) h2
    · refine xb_nil ⟨r, h1, by omega, fun _ => h2, ?_, rfl⟩
      have := (roundSize_spec (List.length_pos_iff.mp h1)).2.1
      omega
    obtain ⟨r, h1, h2, h3, h4, rfl⟩ := hM
    refine xb_if (fun δ => ∃ n2, ∃ f r : List Bool, n2 ≤ N + 1 ∧ f.length < most ∧ 0 < r.length ∧ r.length ≤ 2 * most ∧ (way = 2 → r.length ≤ most) ∧ roundSize r ≤ most ∧ δ = [.own (strmR p q n2), .dat (.int (most : Nat)), .dat (.int way), .dat (.list (f.map .bool)), .dat (.list (r.map .bool))]) (xt_cmp hu (xe_var 2) xe_int (.eqI _ _)) (fun h => ?_) (fun h => ?_) (fun δ hM => ?_)
    · refine xb_parF (i := 3) (j := 4) (PA' := fun ds δ => ∃ b : Bool, ds = [.list [], .list [.bool b]] ∧ δ = [.own (strmR p q (N + 1)), .dat (.int (most : Nat)), .dat (.int way), .dat (.list (f.map .bool)), .dat (.list (r.map .bool))])
        (xfa_cons (xf_of (xe_lst xa_nil)) (fun d1 δ1 h1 => ?c1)) (fun ds δ1 h1 => ?c2) sc_law_kset.nd
      case c1 =>
        obtain ⟨rfl, rfl⟩ := h1
        refine xfa_cons (P1 := fun d δ => ∃ b : Bool, d = .list [.bool b] ∧ δ = [.own (strmR p q (N + 1)), .dat (.int (most : Nat)), .dat (.int way), .dat (.list (f.map .bool)), .dat (.list (r.map .bool))])
          (xf_lst (PA' := fun ds δ => ∃ b : Bool, ds = [.bool b] ∧ δ = [.own (strmR p q (N + 1)), .dat (.int (most : Nat)), .dat (.int way), .dat (.list (f.map .bool)), .dat (.list (r.map .bool))])
            (xfa_cons (P1 := fun d δ => ∃ b : Bool, d = .bool b ∧ δ = [.own (strmR p q (N + 1)), .dat (.int (most : Nat)), .dat (.int way), .dat (.list (f.map .bool)), .dat (.list (r.map .bool))]) (xf_draw 0 c_law_chance (hr.mono (by decide)) rfl (xfa_of (xa_cons xe_int xa_nil)) ?_) (fun d1 δ1 h1 => ?_)) (fun ds δ1 h1 => ?_)) (fun d1 δ1 h1 => ?_)
        · rintro _ _ ⟨rfl, rfl⟩
          refine ⟨N, rfl, ⟨by omega, 2, rfl, by decide, by decide⟩, fun n2 d hq => ?_⟩
          obtain ⟨rfl, b, rfl⟩ := hq
          exact ⟨b, rfl, rfl⟩
        · obtain ⟨b, rfl, rfl⟩ := h1
          refine xfa_imp xfa_nil ?_
          rintro _ _ ⟨rfl, rfl⟩
          exact ⟨b, rfl, rfl⟩
        · obtain ⟨b, rfl, rfl⟩ := h1
          exact ⟨Nat.le_of_ble_eq_true rfl, b, rfl, rfl⟩
        · obtain ⟨b, rfl, rfl⟩ := h1
          refine xfa_imp xfa_nil ?_
          rintro _ _ ⟨rfl, rfl⟩
          exact ⟨b, rfl, rfl⟩
      case c2 =>
        obtain ⟨b, rfl, rfl⟩ := h1
        exact ⟨_, _, rfl, xb_nil ⟨N + 1, [], [b], Nat.le_refl _, hm0, Nat.one_pos, by show 1 ≤ _; omega, fun _ => hm0, Nat.le_trans (roundSize_spec (List.cons_ne_nil _ _)).2.1 hm0, rfl⟩⟩
    · exact xb_nil ⟨N, f, r, Nat.le_succ _, hf, h1, h2, fun hw => h3 (by omega), h4, rfl⟩
    obtain ⟨n2, f, r, hn2, hf, h1, h2, h3, h4, rfl⟩ := hM
    refine xb_if (fun δ => ∃ f r : List Bool, f.length + 1 ≤ 2 * most ∧ 0 < r.length ∧ r.length ≤ 2 * most ∧ roundSize r ≤ most ∧ δ = [.own (strmR p q n2), .dat (.int (most : Nat)), .dat (.int way), .dat (.list (f.map .bool)), .dat (.list (r.map .bool))]) (xt_cmp hu (xe_var 2) xe_int (.eqI _ _)) (fun h => ?_) (fun h => ?_) (fun δ hM => ?_)
    · have hw := h3 (of_decide_eq_true h)
      refine xb_asg 3 (xe_eq (xe_cat (xe_var 3) (xe_var 4) ?hz) (congrArg PyData.list (List.map_append (l₁ := f)).symm)) (xb_nil ⟨f ++ r, r, ?_, h1, h2, h4, rfl⟩) sc_law_kset.nd
      case hz =>
        rw [List.length_map, List.length_map]
        omega
      · rw [List.length_append]; omega
    · exact xb_nil ⟨f, r, by omega, h1, h2, h4, rfl⟩
    obtain ⟨f, r, hf, h1, h2, h4, rfl⟩ := hM
    refine xb_ret (xe_tup (xa_cons (xe_var 3) (xa_cons (xe_var 4) xa_nil))) ⟨n2, rfl, ?_, (f, r), rfl, List.length_pos_iff.mp h1, ?_, ?_, fun m2 e => ?_⟩
    · omega
    · show f.length ≤ 12
      omega
    · show r.length ≤ 12
      omega
    · have : (most : Int) = (m2 : Int) := by injection e with e1; injection e1
      have : most = m2 := by omega
      subst this
      exact ⟨hf, h4⟩
end
end K17

set_option Elab.async false
set_option linter.all false
set_option maxRecDepth 100000
set_option maxHeartbeats 4000000
namespace K17
open PySem PySem.Spec PyProof.Rows L2 Dl Sm
theorem cutD_mid {α : Type} (l : List α) (a b : Nat) (h : b ≤ l.length) (hab : a ≤ b) : Dl.cutD l (some (a : Int)) (some (b : Int)) = (l.drop a).take (b - a) := by
  unfold Dl.cutD
  rw [HT.sIx_nat, HT.sIx_nat, Nat.min_eq_left h, Nat.min_eq_left (show a ≤ l.length by omega)]
def F_law_kset_in (ds : List PyData) (d : PyData) : Prop := ∃ (s : S) (n : Nat), ds = [encT s, .int (n : Nat)] ∧ s.2 ≠ [] ∧ d = .bool (inS s n)
def F_law_kset_form (ds : List PyData) (d : PyData) : Prop := ∃ (h : Nat → Bool) (b z : Nat) (s : S), ds = [.list (((List.range (b + 3 * z)).map h).map .bool), .int (b : Nat), .int (z : Nat)] ∧ b ≤ 100 ∧ z ≤ 100 ∧ 0 < z ∧ Per h b z ∧ Canon s ∧ (∀ n, inS s n = h n) ∧ d = encT s
def F_law_kset_least (ds : List PyData) (d : PyData) : Prop := ∃ s : S, ds = [encT s] ∧ s.1.length ≤ 60 ∧ s.2.length ≤ 60 ∧ s.2 ≠ [] ∧ d = encT (leastOf s.1 s.2)
section
variable {P : Program} {w : World} {K : PySem.W.Frag} {mg : Str → Option Value} {base : Heap}
theorem c_law_kset_in (T : Txt K mg) : Def P w K mg base 1 "_law_kset_in" ["thing", "number"] (SpP K F_law_kset_in) := by
  refine def_pure T.a_law_kset_in sc_law_kset_in (fun ds d h => ?_) ?_
  · obtain ⟨s, n, rfl, _⟩ := h
    rfl
  rintro _ ⟨fa, cdv, A, outer, s, H, E, hr, rfl⟩ _ _ ⟨s, n, rfl, h3, rfl⟩
  have hu := room65 hr
  show XB _ [.dat _, .dat _, .no, .no] _ _
  have hp : 0 < s.2.length := List.length_pos_iff.mpr h3
  refine xb_unp (xe_var 0) (xg_tup rfl (xgs_cons (xg_name 2 sc_law_kset_in.nd) (xgs_cons (xg_name 3 sc_law_kset_in.nd) xgs_nil)) rfl) ?_
  refine xb_ret (xe_if (xt_cmp hu (xe_var 1) (xe_len T.g_len (xe_var 2) (.lst _)) (.ltI _ _)) (fun h => (xe_ix (xe_var 2) (xe_var 1) (.lst ?i1))) (fun h => (xe_ix (xe_var 3) (xe_modI (xe_subI (xe_var 1) (xe_len T.g_len (xe_var 2) (.lst _))) (xe_len T.g_len (xe_var 3) (.lst _)) ?i0) (.lst ?i2)))) rfl
  case i0 => rw [List.length_map]; omega
  case i1 =>
    have hn : n < s.1.length := by
      have := of_decide_eq_true h
      rw [List.length_map] at this
      omega
    rw [atI_bools _ hn]
    unfold inS
    rw [if_pos hn]
  case i2 =>
    have hn : ¬ n < s.1.length := by
      have := of_decide_eq_false h
      rw [List.length_map] at this
      omega
    have e : ((n : Int) - ((s.1.map PyData.bool).length : Int)) % ((s.2.map PyData.bool).length : Int) = (((n - s.1.length) % s.2.length : Nat) : Int) := by
      rw [List.length_map, List.length_map, show ((n : Int) - (s.1.length : Int)) = ((n - s.1.length : Nat) : Int) by omega]
      exact (Int.natCast_emod _ _).symm
    rw [e, atI_bools _ (Nat.mod_lt _ hp)]
    unfold inS
    rw [if_neg hn]
theorem eqv_ints_nil (l : List Nat) (g : Nat → Int) : PyData.eqv (.list (l.map fun n => PyData.int (g n))) (.list []) = l.isEmpty := by
  cases l <;> simp [PyData.eqv, PyData.eqvAll]
theorem shaped_intsF {ι : Type} (l : List ι) (g : ι → Int) : SeqAt.shaped (.list (l.map fun n => PyData.int (g n))) = true := by
  have := shaped_ints (l.map g)
  rw [List.map_map] at this
  exact this
theorem row_at (h : Nat → Bool) (N n : Nat) (hn : n < N) : atI (((List.range N).map h).map PyData.bool) ((n : Nat) : Int) = some (.bool (h n)) := by
  rw [atI_bools _ (by rw [List.length_map, List.length_range]; exact hn), List.getD_eq_getElem?_getD, List.getElem?_map, List.getElem?_range hn]
  rfl
theorem good_iff {h : Nat → Bool} {b z q : Nat} (hP : Per h b z) (hz : 0 < z) : ((List.range (2 * z)).filter fun n => !(h (b + n) == h (b + n + q))).isEmpty = true ↔ Per h b q := by
  rw [List.isEmpty_iff, List.filter_eq_nil_iff]
  constructor
  · intro hh n hn
    have hm : (n - b) % z < z := Nat.mod_lt _ hz
    have h1 := hh ((n - b) % z) (List.mem_range.mpr (by omega))
    have h1 : h (b + (n - b) % z) = h (b + (n - b) % z + q) := by
      cases e : (h (b + (n - b) % z) == h (b + (n - b) % z + q)) with
      | true => exact eq_of_beq e
      | false => rw [e] at h1; exact absurd rfl h1
    have e1 : h (b + (n - b) % z) = h n := by
      rw [hP.mod, show b + (n - b) = n by omega]
    have e2 : h (b + (n - b) % z + q) = h (n + q) := by
      have := hP.mul ((n - b) / z) (b + (n - b) % z + q) (by omega)
      rw [← this]
      congr 1
      have := Nat.mod_add_div (n - b) z
      omega
    rw [← e1, ← e2]
    exact h1.symm
  · intro hp a _
    rw [hp (b + a) (by omega)]
    simp
theorem c_law_kset_form (T : Txt K mg) : Def P w K mg base 1 "_law_kset_form" ["row", "begin", "size"] (SpP K F_law_kset_form) := by
  refine def_pure T.a_law_kset_form sc_law_kset_form (fun ds d h => ?_) ?_
  · obtain ⟨_, _, _, _, rfl, _⟩ := h
    rfl
  rintro _ ⟨fa, cdv, A, outer, s_, H, E, hr, rfl⟩ _ _ ⟨h, b, z, s, rfl, hb, hz, hz0, hP, hC, hi, rfl⟩
  have hu := room65 hr
  obtain ⟨rw_, hrw⟩ : ∃ r, r = (((List.range (b + 3 * z)).map h).map PyData.bool) := ⟨_, rfl⟩
  rw [← hrw]
  show XB _ [.dat _, .dat _, .dat _, .no, .no, .no, .no] _ _
  have hf : inS s = h := funext hi
  have hp1 := hC.pos
  have hpz : s.2.length ≤ z := hC.per z b hz0 (by rw [hf]; exact hP)
  have hPs : Per h s.1.length s.2.length := by rw [← hf]; exact per_inS s
  have hPb : Per h b s.2.length := hP.back hz0 hPs
  have hkb : s.1.length ≤ b := hC.few b (by rw [hf]; exact hPb)
  have hlr : rw_.length = b + 3 * z := by rw [hrw, List.length_map, List.length_map, List.length_range]
  have eR : (((z : Nat) : Int) + 1 - 1).toNat = z := by omega
  refine xb_for (is := [3]) (fun d δ => δ.set 3 (.dat d))
    (fun i δ => i < s.2.length ∧ ∃ x y, δ = [.dat (.list rw_), .dat (.int (b : Nat)), .dat (.int (z : Nat)), x, y, .no, .no])
    (fun δ => False)
    (xi_rng2 T.g_range xe_int (xe_addI (xe_var 2) xe_int) (by decide) (by omega)) ⟨by omega, .no, .no, rfl⟩ (fun i δ d hJ hd => ?_) (fun i δ d hJ hd => ?_) (fun δ hJ => ?_) (fun δ hM => ?_)
  · exact xg_name 3 sc_law_kset_form.nd
  · obtain ⟨hlt, x, y, rfl⟩ := hJ
    obtain ⟨hi2, rfl⟩ := rangeD_get hd
    rw [eR] at hi2
    obtain ⟨q, hq⟩ : ∃ q, q = i + 1 := ⟨_, rfl⟩
    rw [show (1 : Int) + (i : Nat) = (q : Nat) by omega]
    show XB _ [.dat _, .dat _, .dat _, .dat (.int (q : Nat)), y, .no, .no] _ _
    have hint : ∀ n : Nat, n < 2 * z → atI rw_ ((b : Int) + (n : Int)) = some (.bool (h (b + n))) ∧ atI rw_ ((b : Int) + (n : Int) + (q : Int)) = some (.bool (h (b + n + q))) := fun n hn => by
      rw [hrw]
      exact ⟨by rw [← Int.natCast_add]; exact row_at _ _ _ (by omega), by rw [← Int.natCast_add, ← Int.natCast_add]; exact row_at _ _ _ (by omega)⟩
    have e2z : ((b : Int) + 2 * (z : Int) - (b : Int)).toNat = 2 * z := by omega
    refine xb_asg 4 (xe_eq (xe_cmp hu (xe_new (xl_lcIf 6 (fun n : Nat => PyData.int ((b : Int) + (n : Nat))) (fun n : Nat => !(h (b + n) == h (b + n + q))) sc_law_kset_form.nd (xi_rng2 T.g_range (xe_var 1) (xe_addI (xe_var 1) (xe_mulI xe_int (xe_var 2) (.inl ⟨by decide, by decide⟩))) (by omega) (by omega)) (fun _ _ _ _ _ d hd => (xt_cmp hu (xe_ix (xe_var 0) (xe_var 6) (.lst (hint d (by rw [← e2z]; exact List.mem_range.mp hd)).1)) (xe_ix (xe_var 0) (xe_addI (xe_var 6) (xe_var 3)) (.lst (hint d (by rw [← e2z]; exact List.mem_range.mp hd)).2)) (.neB _ _))) (fun _ _ _ _ _ d hd ht => (xe_var 6)) (by rw [List.length_range, e2z]; omega)).val) (xe_lst xa_nil) (.eqD _ _ (shaped_intsF _ _) shaped_nil)) (congrArg PyData.bool (eqv_ints_nil _ _))) ?_ sc_law_kset_form.nd
    rw [e2z]
    generalize hgd : ((List.range (2 * z)).filter fun n : Nat => !(h (b + n) == h (b + n + q))).isEmpty = gd
    have hgood : gd = true ↔ Per h b q := by rw [← hgd]; exact good_iff hP hz0
    show XB _ [.dat _, .dat _, .dat _, .dat _, .dat (.bool gd), .no, .no] _ _
    refine xb_ifR (xt_tru (xe_var 4)) (fun hg => ?_) (fun hg => ?_)
    · have hq2 : q = s.2.length := by
        have h1 := hC.per q b (by omega) (by rw [hf]; exact hgood.mp hg)
        omega
      rw [hq2]
      refine xb_asg 5 (xe_var 1) ?_ sc_law_kset_form.nd
      refine xb_while (fun m δ => ∃ k : Nat, k = s.1.length + m ∧ k ≤ b ∧ δ = [.dat (.list rw_), .dat (.int (b : Nat)), .dat (.int (z : Nat)), .dat (.int (s.2.length : Nat)), .dat (.bool gd), .dat (.int (k : Nat)), .no]) (fun δ => δ = [.dat (.list rw_), .dat (.int (b : Nat)), .dat (.int (z : Nat)), .dat (.int (s.2.length : Nat)), .dat (.bool gd), .dat (.int (s.1.length : Nat)), .no])
        (b - s.1.length) ⟨b, by omega, Nat.le_refl _, rfl⟩ (fun m δ hJ => ?_) (fun δ hM => ?_)
      · obtain ⟨k, hk, hkb2, rfl⟩ := hJ
        by_cases hk0 : k = 0
        · refine ⟨_, (xw_and (k := false) (m := true) (xt_eq (xt_cmp hu (xe_var 5) xe_int (.gtI _ _)) (by rw [hk0]; rfl)) (fun h => (nomatch h))).xt, fun h => (nomatch h), fun _ => ?_⟩
          have : s.1.length = 0 := by omega
          rw [this, hk0]
        · have a1 : atI rw_ ((k : Int) - 1) = some (.bool (h (k - 1))) := by
            rw [hrw, show (k : Int) - 1 = ((k - 1 : Nat) : Int) by omega]
            exact row_at _ _ _ (by omega)
          have a2 : atI rw_ ((k : Int) - 1 + (s.2.length : Int)) = some (.bool (h (k - 1 + s.2.length))) := by
            rw [hrw, show (k : Int) - 1 + (s.2.length : Int) = ((k - 1 + s.2.length : Nat) : Int) by omega]
            exact row_at _ _ _ (by omega)
          refine ⟨_, ((xw_and (xt_eq (xt_cmp hu (xe_var 5) xe_int (.gtI _ _)) (decide_eq_true (show (0 : Int) < (k : Int) by omega))) (fun _ => (xw_and1 (xt_cmp hu (xe_ix (xe_var 0) (xe_subI (xe_var 5) xe_int) (.lst a1)) (xe_ix (xe_var 0) (xe_addI (xe_subI (xe_var 5) xe_int) (xe_var 3)) (.lst a2)) (.eqB _ _)))))).xt, fun ht => ?_, fun ht => ?_⟩
          · rw [Bool.true_and, beq_iff_eq] at ht
            have hlt2 : s.1.length < k := by
              by_cases hlt2 : s.1.length < k
              · exact hlt2
              · have hke : s.1.length = k := by omega
                have := hC.few (k - 1) (by
                  rw [hf]
                  intro n hn
                  by_cases hn2 : n = k - 1
                  · rw [hn2]; exact ht.symm
                  · exact hPs n (by omega))
                omega
            refine xb_asg 5 (xe_subI (xe_var 5) xe_int) (xb_nil ⟨m - 1, by omega, k - 1, by omega, by omega, ?_⟩) sc_law_kset_form.nd
            rw [show (k : Int) - 1 = ((k - 1 : Nat) : Int) by omega]
            rfl
          · rw [Bool.true_and] at ht
            have hke : k = s.1.length := by
              by_cases hlt2 : s.1.length < k
              · rw [hPs (k - 1) (by omega), beq_self_eq_true] at ht
                cases ht
              · omega
            rw [hke]
      · subst hM
        refine xb_ret (xe_tup (xa_cons (xe_sl (xe_var 0) xo_none (xo_some (xe_var 5)) (.lst _ _ _)) (xa_cons (xe_sl (xe_var 0) (xo_some (xe_var 5)) (xo_some (xe_addI (xe_var 5) (xe_var 3))) (.lst _ _ _)) xa_nil))) ?_
        show PyData.tuple _ = PyData.tuple _
        rw [← Int.natCast_add, cutD_to, cutD_mid _ _ _ (by omega) (by omega), hrw]
        have e1 : (((List.range (b + 3 * z)).map h).map PyData.bool).take s.1.length = s.1.map .bool := by
          rw [← List.map_take, ← List.map_take, List.take_range, Nat.min_eq_left (by omega), ← hf, ← few_eq]
        have e2 : ((((List.range (b + 3 * z)).map h).map PyData.bool).drop s.1.length).take (s.1.length + s.2.length - s.1.length) = s.2.map .bool := by
          rw [← List.map_drop, ← List.map_take, ← List.map_drop, ← List.map_take, Nat.add_sub_cancel_left]
          congr 1
          conv => rhs; rw [ring_eq s]
          refine List.ext_getElem (by simp; omega) fun i i1 i2 => ?_
          simp [hf]
        rw [e1, e2]
    · refine xb_nil ⟨?_, _, _, rfl⟩
      by_cases hq2 : q = s.2.length
      · have : gd = true := hgood.mpr (by rw [hq2]; exact hPb)
        rw [this] at hg
        cases hg
      · omega
  · obtain ⟨h1, _⟩ := hJ
    rw [rangeD_length, eR] at h1
    omega
  · exact hM.elim
theorem c_law_kset_least (T : Txt K mg) (c_law_kset_form : Def P w K mg base 1 "_law_kset_form" ["row", "begin", "size"] (SpP K F_law_kset_form)) (c_law_kset_in : Def P w K mg base 1 "_law_kset_in" ["thing", "number"] (SpP K F_law_kset_in)) : Def P w K mg base 2 "_law_kset_least" ["thing"] (SpP K F_law_kset_least) := by
  refine def_pure T.a_law_kset_least sc_law_kset_least (fun ds d h => ?_) ?_
  · obtain ⟨s, rfl, _⟩ := h
    rfl
  rintro _ ⟨fa, cdv, A, outer, s_, H, E, hr, rfl⟩ _ _ ⟨s, rfl, h1, h2, h3, rfl⟩
  have hu := room65 hr
  show XB _ [.dat _, .no, .no, .no] _ _
  have hp : 0 < s.2.length := List.length_pos_iff.mpr h3
  refine xb_par (i := 1) (j := 2) (xe_len T.g_len (xe_ix (xe_var 0) xe_int (.tup rfl)) (.lst _)) (xe_len T.g_len (xe_ix (xe_var 0) xe_int (.tup rfl)) (.lst _)) ?_ sc_law_kset_least.nd
  rw [List.length_map, List.length_map]
  have eN : ((s.1.length : Int) + 3 * (s.2.length : Int)).toNat = s.1.length + 3 * s.2.length := by omega
  refine xb_ret (xe_call c_law_kset_form (hr.mono (by decide)) (xa_cons (xe_new (xl_lc 3 (fun n : Nat => PyData.bool (inS s n)) sc_law_kset_least.nd (xi_rng1 T.g_range (xe_addI (xe_var 1) (xe_mulI xe_int (xe_var 2) (.inl ⟨by decide, by decide⟩))) (by omega)) (fun _ _ _ _ _ d hd => (xe_call c_law_kset_in (hr.mono (by decide)) (xa_cons (xe_var 0) (xa_cons (xe_var 3) xa_nil)) ⟨s, d, by rw [Int.zero_add], h3, rfl⟩)) (by rw [List.length_range]; omega)).val) (xa_cons (xe_var 1) (xa_cons (xe_var 2) xa_nil))) ⟨inS s, s.1.length, s.2.length, leastOf s.1 s.2, ?_, by omega, by omega, hp, per_inS s, canon_least _ h3, fun n => inS_least _ h3 n, rfl⟩) rfl
  rw [eN, List.map_map]
  rfl
end
end K17

set_option Elab.async false
set_option linter.all false
set_option maxRecDepth 100000
set_option maxHeartbeats 4000000
namespace K17
open PySem PySem.Spec PyProof.Rows L2 Dl Sm
section
variable {P : Program} {w : World} {K : PySem.W.Frag} {mg : Str → Option Value} {base : Heap}
theorem copied_step (T : Txt K mg) (m : Nat) (rec : ∀ m', m = m' + 1 → Def P w K mg base m "_law_copied" ["thing"] (SpP K (F_copied m'))) : Def P w K mg base (m + 1) "_law_copied" ["thing"] (SpP K (F_copied m)) := by
  refine def_pure T.a_law_copied sc_law_copied (fun ds d h => ?_) ?_
  · obtain ⟨x, rfl, _⟩ := h
    rfl
  rintro _ ⟨fa, cdv, A, outer, s, H, E, hr, rfl⟩ _ x ⟨_, rfl, hx, rfl⟩
  have hu := room65 hr
  show XB _ [.dat _, .no, .no, .no] _ _
  have hdict : isDictD x = false := by cases hx <;> rfl
  have go : ∀ l m', m = m' + 1 → SeqD x l → l.length ≤ 1000000 → (∀ y ∈ l, Tree m' y) → isRowD x = true → (if isListD x then PyData.list l else .tuple l) = x → XB (cxOf CX0 P w K mg base ["thing", "found", "part", "key"] "_law_copied" (defScope s_law_copied) fa cdv A outer s H E).nox [.dat x, .no, .no, .no] (defBody s_law_copied) { nx := fun _ => x = .none, rt := fun d' _ => d' = x } := fun l m' hm hs hz hl hrow hback => by
    refine xb_ifR (k := false) (xt_eq (xt_tru (xe_isi T.g_isinstance (xe_var 0) T.g_dict boot_dict (kit_dict _))) hdict) (fun h => (nomatch h)) (fun _ => ?_)
    refine xb_ifR (k := false) (xt_eq (xt_not (xt_tru (xe_isi2 T.g_isinstance (xe_var 0) T.g_list boot_list T.g_tuple boot_tuple (kit_row _)))) (by show (!isRowD x) = false; rw [hrow]; rfl)) (fun h => (nomatch h)) (fun _ => ?_)
    refine xb_lc 1 (xl_lc (l := l) (f := fun y => y) 2 (fun y => y) sc_law_copied.nd (by rw [map_id']; exact xi_seq (xe_var 0) hs) (fun _ _ _ _ _ d hd => (xe_call (rec m' hm) (hr.mono (by omega)) (xa_cons (xe_var 2) xa_nil) ⟨d, rfl, hl d hd, rfl⟩)) hz) ?_ sc_law_copied.nd
    rw [map_id']
    refine xb_ret (xe_if (xt_tru (xe_isi T.g_isinstance (xe_var 0) T.g_list boot_list (kit_list _))) (fun h => xe_eq (xe_var 1) ?_) (fun h => xe_eq (xe_tupleOf T.g_tuple (xe_var 1) (.lst _)) ?_)) rfl
    · have h : isListD x = true := h
      rw [if_pos h] at hback
      exact hback
    · have h : isListD x = false := h
      rw [if_neg (by rw [h]; decide)] at hback
      exact hback
  have atom : isRowD x = false → XB (cxOf CX0 P w K mg base ["thing", "found", "part", "key"] "_law_copied" (defScope s_law_copied) fa cdv A outer s H E).nox [.dat x, .no, .no, .no] (defBody s_law_copied) { nx := fun _ => x = .none, rt := fun d' _ => d' = x } := fun hrow => by
    refine xb_ifR (k := false) (xt_eq (xt_tru (xe_isi T.g_isinstance (xe_var 0) T.g_dict boot_dict (kit_dict _))) hdict) (fun h => (nomatch h)) (fun _ => ?_)
    refine xb_ifR (k := true) (xt_eq (xt_not (xt_tru (xe_isi2 T.g_isinstance (xe_var 0) T.g_list boot_list T.g_tuple boot_tuple (kit_row _)))) (by show (!isRowD x) = true; rw [hrow]; rfl)) (fun _ => ?_) (fun h => (nomatch h))
    exact xb_ret (xe_var 0) rfl
  cases hx with
  | non => exact atom rfl
  | bl => exact atom rfl
  | int => exact atom rfl
  | str => exact atom rfl
  | @lst m' l hz h => exact go l m' rfl (.lst _) hz h rfl rfl
  | @tup m' l hz h => exact go l m' rfl (.tup _) hz h rfl rfl
theorem c_law_copied (T : Txt K mg) : ∀ m, Def P w K mg base (m + 1) "_law_copied" ["thing"] (SpP K (F_copied m))
  | 0 => copied_step T 0 fun _ h => by omega
  | m + 1 => copied_step T (m + 1) fun m' h => by
    obtain rfl : m = m' := by omega
    exact c_law_copied T m
theorem same_step (T : Txt K mg) (m : Nat) (rec : ∀ m', m = m' + 1 → Def P w K mg base m "_law_same" ["found", "due"] (SpP K (F_same m'))) : Def P w K mg base (m + 1) "_law_same" ["found", "due"] (SpP K (F_same m)) := by
  refine def_pure T.a_law_same sc_law_same (fun ds d h => ?_) ?_
  · obtain ⟨x, rfl, _⟩ := h
    rfl
  rintro _ ⟨fa, cdv, A, outer, s, H, E, hr, rfl⟩ _ _ ⟨x, rfl, hx, rfl⟩
  have hu := room65 hr
  show XB _ [.dat _, .dat _, .no, .no] _ _
  have go : ∀ l m', m = m' + 1 → SeqD x l → l.length ≤ 1000000 → (∀ y ∈ l, Tree m' y) → XB (cxOf CX0 P w K mg base ["found", "due", "x", "y"] "_law_same" (defScope s_law_same) fa cdv A outer s H E).nox [.dat x, .dat x, .no, .no] (defBody s_law_same) { nx := fun _ => PyData.bool true = .none, rt := fun d' _ => d' = .bool true } := fun l m' hm hs hz hl => by
    refine xb_ifR (k := true) (xt_eq (xt_tru (xe_isi2 T.g_isinstance (xe_var 1) T.g_list boot_list T.g_tuple boot_tuple (kit_row _))) hs.row) (fun _ => ?_) (fun h => (nomatch h))
    refine xb_ifR (k := false) (xt_eq ((xw_or (xt_cmp hu (xe_isi T.g_isinstance (xe_var 0) T.g_list boot_list (kit_list _)) (xe_isi T.g_isinstance (xe_var 1) T.g_list boot_list (kit_list _)) (.neB _ _)) (fun _ => (xw_or1 (xt_cmp hu (xe_isi T.g_isinstance (xe_var 0) T.g_tuple boot_tuple (kit_tuple _)) (xe_isi T.g_isinstance (xe_var 1) T.g_tuple boot_tuple (kit_tuple _)) (.neB _ _)))))).xt (by rw [beq_self_eq_true, beq_self_eq_true]; rfl)) (fun h => (nomatch h)) (fun _ => ?_)
    refine xb_ret (xe_and (xe_eq (d := .bool true) (xe_cmp hu (xe_len T.g_len (xe_var 0) hs.len) (xe_len T.g_len (xe_var 1) hs.len) (.eqI _ _)) (by rw [decide_eq_true rfl])) (fun _ => (xe_one (xe_all (ns := l.map fun _ => true) T.g_all (xe_eq (xe_new (xl_G (l := l) (f := fun y => .tuple [y, y]) (own := [("x", 2), ("y", 3)]) (is := [2, 3]) (fun _ => .bool true) (fun _ => true) (fun y => [.dat x, .dat x, .dat y, .dat y]) rfl sc_law_same.nd (by rw [← zipD_self]; exact xi_zipA T.g_zip (xe_var 0) (xe_var 1) hs hs rfl) (blkOk_by (by kernel_rfl)) (fun _ _ _ _ _ y hy => xg_tup rfl (xgs_cons (xg_name 2 sc_law_same.nd) (xgs_cons (xg_name 3 sc_law_same.nd) xgs_nil)) rfl) (fun _ _ _ _ _ y hy => xts_nil) (fun _ _ _ _ _ y hy _ => xe_call (rec m' hm) (hr.mono (by omega)) (xa_cons (xe_var 2) (xa_cons (xe_var 3) xa_nil)) ⟨y, rfl, hl y hy, rfl⟩) hz (by decide)).val) ?_))))) ?_
    · congr 1
      rw [List.filter_eq_self.mpr (fun _ _ => rfl), List.map_map]
      rfl
    · show PyData.bool (true && (List.map (fun _ => true) l).all id) = .bool true
      rw [Bool.true_and]
      congr 1
      rw [List.all_eq_true]
      intro z hz
      obtain ⟨_, _, rfl⟩ := List.mem_map.mp hz
      rfl
  have hdict : isDictD x = false := by cases hx <;> rfl
  have atom : isRowD x = false → XB (cxOf CX0 P w K mg base ["found", "due", "x", "y"] "_law_same" (defScope s_law_same) fa cdv A outer s H E).nox [.dat x, .dat x, .no, .no] (defBody s_law_same) { nx := fun _ => PyData.bool true = .none, rt := fun d' _ => d' = .bool true } := fun hrow => by
    refine xb_ifR (k := false) (xt_eq (xt_tru (xe_isi2 T.g_isinstance (xe_var 1) T.g_list boot_list T.g_tuple boot_tuple (kit_row _))) hrow) (fun h => (nomatch h)) (fun _ => ?_)
    refine xb_ifR (k := false) (xt_eq (xt_tru (xe_isi T.g_isinstance (xe_var 1) T.g_dict boot_dict (kit_dict _))) hdict) (fun h => (nomatch h)) (fun _ => ?_)
    cases hx with
    | lst => cases hrow
    | tup => cases hrow
    | int m i =>
      refine xb_ifR (k := true) (xt_eq (xt_tru (xe_isi T.g_isinstance (xe_var 1) T.g_int boot_int (kit_int _))) rfl) (fun _ => ?_) (fun h => (nomatch h))
      refine xb_ret (xe_and (xe_isi T.g_isinstance (xe_var 0) T.g_int boot_int (kit_int _)) (fun _ => (xe_and (xe_cmp hu (xe_isi T.g_isinstance (xe_var 0) T.g_bool boot_bool (kit_bool _)) (xe_isi T.g_isinstance (xe_var 1) T.g_bool boot_bool (kit_bool _)) (.eqB _ _)) (fun _ => (xe_one (xe_cmp hu (xe_var 0) (xe_var 1) (.eqI _ _))))))) ?_
      show PyData.bool (decide (i = i)) = _
      rw [decide_eq_true rfl]
    | bl m b =>
      refine xb_ifR (k := true) (xt_eq (xt_tru (xe_isi T.g_isinstance (xe_var 1) T.g_int boot_int (kit_int _))) rfl) (fun _ => ?_) (fun h => (nomatch h))
      refine xb_ret (xe_and (xe_isi T.g_isinstance (xe_var 0) T.g_int boot_int (kit_int _)) (fun _ => (xe_and (xe_cmp hu (xe_isi T.g_isinstance (xe_var 0) T.g_bool boot_bool (kit_bool _)) (xe_isi T.g_isinstance (xe_var 1) T.g_bool boot_bool (kit_bool _)) (.eqB _ _)) (fun _ => (xe_one (xe_cmp hu (xe_var 0) (xe_var 1) (.eqB _ _))))))) ?_
      show PyData.bool (b == b) = _
      rw [beq_self_eq_true]
    | non m =>
      refine xb_ifR (k := false) (xt_eq (xt_tru (xe_isi T.g_isinstance (xe_var 1) T.g_int boot_int (kit_int _))) rfl) (fun h => (nomatch h)) (fun _ => ?_)
      refine xb_ifR (k := true) (xt_eq (xt_cmp hu (xe_var 1) xe_non (.isN _ _ rfl)) rfl) (fun _ => ?_) (fun h => (nomatch h))
      exact xb_ret (xe_cmp hu (xe_var 0) xe_non (.isN _ _ rfl)) rfl
    | str m z =>
      refine xb_ifR (k := false) (xt_eq (xt_tru (xe_isi T.g_isinstance (xe_var 1) T.g_int boot_int (kit_int _))) rfl) (fun h => (nomatch h)) (fun _ => ?_)
      refine xb_ifR (k := false) (xt_eq (xt_cmp hu (xe_var 1) xe_non (.isN _ _ rfl)) rfl) (fun h => (nomatch h)) (fun _ => ?_)
      refine xb_ifR (k := true) (xt_eq (xt_tru (xe_isi T.g_isinstance (xe_var 1) T.g_str boot_str (kit_str _))) rfl) (fun _ => ?_) (fun h => (nomatch h))
      refine xb_ret (xe_and (xe_isi T.g_isinstance (xe_var 0) T.g_str boot_str (kit_str _)) (fun _ => (xe_one (xe_cmp hu (xe_var 0) (xe_var 1) (.eqS _ _))))) ?_
      show PyData.bool (decide (z = z)) = _
      rw [decide_eq_true rfl]
  cases id hx with
  | non => exact atom rfl
  | bl => exact atom rfl
  | int => exact atom rfl
  | str => exact atom rfl
  | @lst m' l hz h => exact go l m' rfl (.lst _) hz h
  | @tup m' l hz h => exact go l m' rfl (.tup _) hz h
theorem c_law_same (T : Txt K mg) : ∀ m, Def P w K mg base (m + 1) "_law_same" ["found", "due"] (SpP K (F_same m))
  | 0 => same_step T 0 fun _ h => by omega
  | m + 1 => same_step T (m + 1) fun m' h => by
    obtain rfl : m = m' := by omega
    exact c_law_same T m
end
end K17

set_option Elab.async false
set_option linter.all false
set_option maxRecDepth 100000
set_option maxHeartbeats 4000000
namespace K17
open PySem PySem.Spec PyProof.Rows L2 Dl Sm
theorem Gz {k z : Nat} {s : S} (h : G k z s) (hk : k ≤ 60) (hz : z ≤ 60) : Sz s := ⟨Nat.le_trans h.few hk, Nat.le_trans h.ring hz, h.can.ne⟩
theorem lst_can {s : S} (h : Canon s) : lst s = s := h.lst
theorem tree_enc (m : Nat) {k z : Nat} {s : S} (h : G k z s) (hk : k ≤ 60) (hz : z ≤ 60) : Dl.Tree (m + 2) (encT s) := .tup (Nat.le_of_ble_eq_true rfl) fun y hy => by
  have h1 := h.few
  have h2 := h.ring
  rcases List.mem_cons.mp hy with e | e
  · rw [e]; exact Tree.bools m _ (by omega)
  · rw [List.mem_singleton.mp e]; exact Tree.bools m _ (by omega)
section
variable {k z k' z' : Nat} {s t : S}
theorem f_copy (h : G k z s) (hk : k ≤ 60) (hz : z ≤ 60) : F_copied 2 [encT s] (encT s) := ⟨_, rfl, tree_enc 0 h hk hz, rfl⟩
theorem f_rest (h : G k z s) (hk : k ≤ 60) (hz : z ≤ 60) : F_rest_of [encT s] (encT (otherOf s)) := ⟨_, s, rfl, .told s, Gz h hk hz, by rw [lst_can h.can]⟩
theorem f_has (h : G k z s) (hk : k ≤ 60) (hz : z ≤ 60) (n : Nat) (hn : n ≤ 10 ^ 18) : F_has_number [encT s, .int (n : Nat)] (.bool (inS s n)) := ⟨_, s, n, rfl, .told s, Gz h hk hz, hn, by rw [lst_can h.can]⟩
theorem f_below (h : G k z s) (hk : k ≤ 60) (hz : z ≤ 60) (n : Nat) (hn : n ≤ 200) : F_numbers_below [encT s, .int (n : Nat)] (encN ((List.range n).filter (inS s))) := ⟨_, s, n, rfl, .told s, Gz h hk hz, hn, by rw [lst_can h.can]⟩
theorem f_first (h : G k z s) (hk : k ≤ 60) (hz : z ≤ 60) : F_first_number [encT s] (encO (firstOf s)) := ⟨_, s, rfl, .told s, Gz h hk hz, by rw [lst_can h.can]⟩
theorem Gf (h : G k z s) (hk : k ≤ 60) (hz : z ≤ 60) : Fits s := ⟨Nat.le_trans h.few hk, Nat.le_trans h.ring hz⟩
theorem f_union (h : G k z s) (g : G k' z' t) (hk : k ≤ 60) (hz : z ≤ 60) (hk' : k' ≤ 60) (hz' : z' ≤ 60) (h2 : z * z' ≤ 60) : F_union_of [encT s, encT t] (encT (setBy s t (· || ·))) := ⟨_, s, _, t, rfl, .told s, Gz h hk hz, .told t, Gz g hk' hz', by rw [lst_can h.can, lst_can g.can]; exact Gf (h.by g _) (by omega) h2, by rw [lst_can h.can, lst_can g.can]⟩
theorem f_meet (h : G k z s) (g : G k' z' t) (hk : k ≤ 60) (hz : z ≤ 60) (hk' : k' ≤ 60) (hz' : z' ≤ 60) (h2 : z * z' ≤ 60) : F_meet_of [encT s, encT t] (encT (setBy s t (· && ·))) := ⟨_, s, _, t, rfl, .told s, Gz h hk hz, .told t, Gz g hk' hz', by rw [lst_can h.can, lst_can g.can]; exact Gf (h.by g _) (by omega) h2, by rw [lst_can h.can, lst_can g.can]⟩
theorem f_within (h : G k z s) (g : G k' z' t) (hk : k ≤ 60) (hz : z ≤ 60) (hk' : k' ≤ 60) (hz' : z' ≤ 60) : F_is_within [encT s, encT t] (.bool (firstOf (setBy s t (fun a b => a && !b))).isNone) := ⟨_, s, _, t, rfl, .told s, Gz h hk hz, .told t, Gz g hk' hz', by rw [lst_can h.can, lst_can g.can]⟩
theorem f_apart (h : G k z s) (g : G k' z' t) (hk : k ≤ 60) (hz : z ≤ 60) (hk' : k' ≤ 60) (hz' : z' ≤ 60) : F_first_apart [encT s, encT t] (encO (firstOf (setBy s t (fun a b => a != b)))) := ⟨_, s, _, t, rfl, .told s, Gz h hk hz, .told t, Gz g hk' hz', by rw [lst_can h.can, lst_can g.can]⟩
theorem f_up (h : G k z s) (j : Nat) (hj : j + k ≤ 60) (hz : z ≤ 60) : F_shifted_up [encT s, .int (j : Nat)] (encT (upBy s j)) := ⟨_, s, j, rfl, .told s, Gz h (by omega) hz, by omega, by rw [lst_can h.can]; exact Gf (h.up j) hj hz, by rw [lst_can h.can]⟩
theorem f_down (h : G k z s) (j : Nat) (hj : j ≤ 60) (hk : k ≤ 60) (hz : z ≤ 60) : F_shifted_down [encT s, .int (j : Nat)] (encT (downBy s j)) := ⟨_, s, j, rfl, .told s, Gz h hk hz, hj, by rw [lst_can h.can]; exact Gf (h.down j) hk hz, by rw [lst_can h.can]⟩
theorem f_low (h : G k z s) (j : Nat) (hj : j ≤ 60) (hk : k + 1 ≤ 60) (hz : z ≤ 60) : F_lowered [encT s, .int (j : Nat)] (encT (lowBy s j)) := ⟨_, s, j, rfl, .told s, Gz h (by omega) hz, hj, by rw [lst_can h.can]; exact Gf (h.low j) hk hz, by rw [lst_can h.can]⟩
theorem f_sums (h : G k z s) (g : G k' z' t) (hk : k ≤ 60) (hz : z ≤ 60) (hk' : k' ≤ 60) (hz' : z' ≤ 60) (h2 : k + k' + z * z' ≤ 60) : F_sums_of [encT s, encT t] (encT (sumSet s t)) := ⟨_, s, _, t, rfl, .told s, Gz h hk hz, .told t, Gz g hk' hz', by rw [lst_can h.can, lst_can g.can]; exact Gf (h.sum g) h2 (by omega), by rw [lst_can h.can, lst_can g.can]⟩
theorem f_set (l : List Nat) (hl : l.length ≤ 1000) (h : ∀ n ∈ l, n < 60) : F_set_of [encN l] (encT (setOf l)) := ⟨l, rfl, hl, h, rfl⟩
theorem f_in (h : Canon s) (n : Nat) : F_law_kset_in [encT s, .int (n : Nat)] (.bool (inS s n)) := ⟨s, n, rfl, h.ne, rfl⟩
end
theorem f_same (m : Nat) {x y : PyData} (h : Dl.Tree m y) (e : x = y) : F_same m [x, y] (.bool true) := ⟨y, by rw [e], h, rfl⟩
theorem tree_bools (m : Nat) (l : List Bool) (h : l.length ≤ 1000000) : Dl.Tree (m + 1) (.list (l.map .bool)) := Tree.bools m l h
theorem tree_nats (m : Nat) (l : List Nat) (h : l.length ≤ 1000000) : Dl.Tree (m + 1) (encN l) := .lst (by rw [List.length_map]; exact h) fun y hy => by
  obtain ⟨n, _, rfl⟩ := List.mem_map.mp hy
  exact .int m _
theorem tree_two {k z : Nat} {s : S} (h : G k z s) (hk : k ≤ 60) (hz : z ≤ 60) : Dl.Tree 3 (.list [encT s, encT s]) := .lst (Nat.le_of_ble_eq_true rfl) fun y hy => by
  rcases List.mem_cons.mp hy with e | e
  · rw [e]; exact tree_enc 0 h hk hz
  · rw [List.mem_singleton.mp e]; exact tree_enc 0 h hk hz
theorem nats_of {b : Nat} : ∀ {ds : List PyData}, (∀ (i : Nat) d, ds[i]? = some d → ∃ j : Nat, j < b ∧ d = .int (j : Nat)) → ∃ l : List Nat, ds = l.map (fun n : Nat => .int (n : Nat)) ∧ ∀ n ∈ l, n < b
  | [], _ => ⟨[], rfl, fun _ h => (nomatch h)⟩
  | d :: ds, h => by
    obtain ⟨j, hj, hd⟩ := h 0 d rfl
    obtain ⟨l, hl, hb⟩ := nats_of (ds := ds) fun i d hi => h (i + 1) d hi
    refine ⟨j :: l, by rw [hd, hl]; rfl, fun n hn => ?_⟩
    rcases List.mem_cons.mp hn with e | e
    · rw [e]; exact hj
    · exact hb n e
theorem eqv_nats_nil (l : List Nat) : PyData.eqv (encN l) (.list []) = l.isEmpty := by
  cases l <;> simp [PyData.eqv, PyData.eqvAll]
theorem row_hd {l : List Nat} {o : Option Nat} (e : l.head? = o) (h : (!PyData.eqv (encN l) (.list [])) = true) : atI (l.map fun n : Nat => PyData.int (n : Nat)) 0 = some (encO o) := by
  cases l with
  | nil => rw [eqv_nats_nil] at h; cases h
  | cons a l => rw [← e]; exact atI_hd _ _
theorem row_none {l : List Nat} {o : Option Nat} (e : l.head? = o) (h : (!PyData.eqv (encN l) (.list [])) = false) : PyData.none = encO o := by
  cases l with
  | nil => rw [← e]; rfl
  | cons a l => rw [eqv_nats_nil] at h; cases h
theorem filter_len (p : Nat → Bool) (n : Nat) (h : n ≤ 1000) : ((List.range n).filter p).length ≤ 1000000 := by
  have := List.length_filter_le p (List.range n)
  rw [List.length_range] at this
  omega
theorem eqv_enc (s t : S) : PyData.eqv (encT s) (encT t) = decide (s = t) := by
  have h1 := eqv_lb s.1 t.1
  have h2 := eqv_lb s.2 t.2
  have e : PyData.eqv (encT s) (encT t) = (PyData.eqv (.list (s.1.map .bool)) (.list (t.1.map .bool)) && PyData.eqv (.list (s.2.map .bool)) (.list (t.2.map .bool))) := by
    simp [PyData.eqv, PyData.eqvAll]
  rw [e, h1, h2, Bool.eq_iff_iff]
  simp [Prod.ext_iff]
theorem shaped_enc (s : S) : SeqAt.shaped (encT s) = true := by
  have h1 := shaped_bools s.1
  have h2 := shaped_bools s.2
  have d1 := depth_map PyData.bool 0 (fun _ => by simp [PyData.depth]) s.1
  have d2 := depth_map PyData.bool 0 (fun _ => by simp [PyData.depth]) s.2
  unfold SeqAt.shaped at *
  rw [Bool.and_eq_true] at *
  refine ⟨?_, ?_⟩
  · simp only [PyData.canLay0, PyData.canLayAll0, Bool.and_true] at *
    simp [h1.1, h2.1]
  · rw [decide_eq_true_eq]
    simp only [PyData.depth, PyData.depthAll]
    omega
end K17

set_option Elab.async false
set_option linter.all false
set_option maxRecDepth 100000
set_option maxHeartbeats 40000000
namespace K17
open PySem PySem.Spec PyProof.Rows L2 Dl Sm
def setT (i j : Nat) (d : PyData) (δ : List Dl.Slot) : List Dl.Slot := match d with
  | .list [a, b] => (δ.set i (.dat a)).set j (.dat b)
  | _ => δ
section
variable {P : Program} {w : World} {K : PySem.W.Frag} {mg : Str → Option Value} {base : Heap}
theorem law_body (T : Txt K mg) (c_law_below : Def P w K mg base 1 "_law_below" ["stream", "many"] (SpS K Pb Qb)) (c_law_kset : Def P w K mg base 4 "_law_kset" ["stream", "most"] (SpS K Ps Qs)) (c_law_start : Def P w K mg base 1 "_law_start" ["script"] (SpStart K)) (c_law_kset_in : Def P w K mg base 1 "_law_kset_in" ["thing", "number"] (SpP K F_law_kset_in)) (c_law_kset_least : Def P w K mg base 2 "_law_kset_least" ["thing"] (SpP K F_law_kset_least)) (c_first_apart : Def P w K mg base 6 "first_apart" ["numbers", "other"] (SpP K F_first_apart)) (c_first_number : Def P w K mg base 5 "first_number" ["numbers"] (SpP K F_first_number)) (c_has_number : Def P w K mg base 5 "has_number" ["numbers", "number"] (SpP K F_has_number)) (c_is_within : Def P w K mg base 6 "is_within" ["numbers", "other"] (SpP K F_is_within)) (c_lowered : Def P w K mg base 5 "lowered" ["numbers", "by"] (SpP K F_lowered)) (c_meet_of : Def P w K mg base 6 "meet_of" ["numbers", "other"] (SpP K F_meet_of)) (c_numbers_below : Def P w K mg base 5 "numbers_below" ["numbers", "many"] (SpP K F_numbers_below)) (c_rest_of : Def P w K mg base 5 "rest_of" ["numbers"] (SpP K F_rest_of)) (c_set_of : Def P w K mg base 3 "set_of" ["listed"] (SpP K F_set_of)) (c_shifted_down : Def P w K mg base 5 "shifted_down" ["numbers", "by"] (SpP K F_shifted_down)) (c_shifted_up : Def P w K mg base 5 "shifted_up" ["numbers", "by"] (SpP K F_shifted_up)) (c_sums_of : Def P w K mg base 6 "sums_of" ["numbers", "other"] (SpP K F_sums_of)) (c_union_of : Def P w K mg base 6 "union_of" ["numbers", "other"] (SpP K F_union_of))
    (X : Cx) (hX : ∃ (fa : Addr) (cdv : Value) (A : Around) (outer : List Env) (s : Shared) (H : Hp) (E : XK), Room 6 (A.deeper (envOfC "law" (defScope s_law) s.heap.objs.size fa cdv)) ∧ X = (cxOf CX0 P w K mg base ["script", "stream", "turn", "one", "two", "by", "joins", "meets", "number", "truths", "due", "found", "others", "inside", "high", "row", "low", "down", "listed", "three", "left", "parts", "look", "thing", "more"] "law" (defScope s_law) fa cdv A outer s H E).nox)
    (ns : List Int) (hl : ns.length ≤ 63) : XB X (startD ["script", "stream", "turn", "one", "two", "by", "joins", "meets", "number", "truths", "due", "found", "others", "inside", "high", "row", "low", "down", "listed", "three", "left", "parts", "look", "thing", "more"] [.own (scrR K ns)]) (defBody s_law) { rt := fun d _ => d = .bool true } := by
  obtain ⟨fa, cdv, A, outer, s, H, E, hr, rfl⟩ := hX
  have hu := room65 hr
  show XB _ [.own (scrR K ns), .no, .no, .no, .no, .no, .no, .no, .no, .no, .no, .no, .no, .no, .no, .no, .no, .no, .no, .no, .no, .no, .no, .no, .no] _ _
  refine xb_start 1 0 c_law_start (hr.mono (by decide)) rfl hl (by exact Nat.le_of_ble_eq_true rfl) (fun p q => ?_) sc_law.nd
  show XB _ [.own (scrR K ns), .own (strmR p q (0)), .no, .no, .no, .no, .no, .no, .no, .no, .no, .no, .no, .no, .no, .no, .no, .no, .no, .no, .no, .no, .no, .no, .no] _ _
  refine xb_for (is := [2]) (fun d δ => δ.set 2 (.dat d)) (fun i δ => ∃ n x2 x3 x4 x5 x6 x7 x8 x9 x10 x11 x12 x13 x14 x15 x16 x17 x18 x19 x20 x21 x22 x23 x24, n ≤ 200 * i ∧ δ = [.own (scrR K ns), .own (strmR p q (n)), x2, x3, x4, x5, x6, x7, x8, x9, x10, x11, x12, x13, x14, x15, x16, x17, x18, x19, x20, x21, x22, x23, x24]) (fun δ => ∃ n x2 x3 x4 x5 x6 x7 x8 x9 x10 x11 x12 x13 x14 x15 x16 x17 x18 x19 x20 x21 x22 x23 x24, δ = [.own (scrR K ns), .own (strmR p q (n)), x2, x3, x4, x5, x6, x7, x8, x9, x10, x11, x12, x13, x14, x15, x16, x17, x18, x19, x20, x21, x22, x23, x24]) (xi_rng1 T.g_range xe_int (by decide)) ⟨0, _, _, _, _, _, _, _, _, _, _, _, _, _, _, _, _, _, _, _, _, _, _, _, Nat.le_refl _, rfl⟩ (fun i δ dT hJ hd => ?_) (fun i δ dT hJ hd => ?_) (fun δ hJ => ?_) (fun δ hM => ?_)
  · exact xg_name 2 sc_law.nd
  rotate_left
  · obtain ⟨n, x2, x3, x4, x5, x6, x7, x8, x9, x10, x11, x12, x13, x14, x15, x16, x17, x18, x19, x20, x21, x22, x23, x24, _, rfl⟩ := hJ
    exact ⟨n, x2, x3, x4, x5, x6, x7, x8, x9, x10, x11, x12, x13, x14, x15, x16, x17, x18, x19, x20, x21, x22, x23, x24, rfl⟩
  · exact xb_ret xe_bl rfl
  obtain ⟨n, x2, x3, x4, x5, x6, x7, x8, x9, x10, x11, x12, x13, x14, x15, x16, x17, x18, x19, x20, x21, x22, x23, x24, hn, rfl⟩ := hJ
  obtain ⟨hi, _⟩ := rangeD_get hd
  have hi : i < 8 := hi
  show XB _ [.own (scrR K ns), .own (strmR p q (n)), .dat dT, x3, x4, x5, x6, x7, x8, x9, x10, x11, x12, x13, x14, x15, x16, x17, x18, x19, x20, x21, x22, x23, x24] _ _
  refine xb_unpF (is := [3, 4]) (xlF (l := List.range (2 : Int).toNat) 22 (fun i δ => ∃ m, m ≤ n + 20 * i ∧ δ = [.own (scrR K ns), .own (strmR p q (m)), .dat dT, x3, x4, x5, x6, x7, x8, x9, x10, x11, x12, x13, x14, x15, x16, x17, x18, x19, x20, x21, .no, x23, x24]) (fun i d => ∃ s, G 11 6 s ∧ d = encT s) sc_law.nd (xi_rng1 T.g_range xe_int (by decide)) (by exact Nat.le_of_ble_eq_true rfl) (by rw [List.length_range]; decide) ⟨n, by omega, rfl⟩ (fun i δ' h => by obtain ⟨m, _, rfl⟩ := h; rfl) (fun _ _ _ _ _ i y δ' hy hJ => ?e1)).val (setT 3 4) (fun d δ1 h1 => ?e2) (fun d δ1 h1 => ?e3)
  case e1 =>
    obtain ⟨m, hm, rfl⟩ := hJ
    have hi2 := (List.getElem?_eq_some_iff.mp hy).1
    rw [List.length_range] at hi2
    have hi2 : i < 2 := hi2
    refine xf_callP c_law_kset_least (hr.mono (by decide)) (xfa_cons (P1 := fun d δ => ∃ m2 s, m2 ≤ m + 20 ∧ s.2 ≠ [] ∧ s.1.length ≤ 11 ∧ s.2.length ≤ 12 ∧ roundSize s.2 ≤ 6 ∧ d = encT s ∧ δ = [.own (scrR K ns), .own (strmR p q (m2)), .dat dT, x3, x4, x5, x6, x7, x8, x9, x10, x11, x12, x13, x14, x15, x16, x17, x18, x19, x20, x21, .dat (.int (0 + (y : Nat))), x23, x24]) (PA' := fun ds δ => ∃ m2 s, m2 ≤ m + 20 ∧ s.2 ≠ [] ∧ s.1.length ≤ 11 ∧ s.2.length ≤ 12 ∧ roundSize s.2 ≤ 6 ∧ ds = [encT s] ∧ δ = [.own (scrR K ns), .own (strmR p q (m2)), .dat dT, x3, x4, x5, x6, x7, x8, x9, x10, x11, x12, x13, x14, x15, x16, x17, x18, x19, x20, x21, .dat (.int (0 + (y : Nat))), x23, x24]) (xf_draw 1 c_law_kset (hr.mono (by decide)) rfl (xfa_of (xa_cons xe_int xa_nil)) ?_) (fun d1 δ1 h1 => ?_)) (fun ds δ1 h1 => ?_)
    · rintro _ _ ⟨rfl, rfl⟩
      refine ⟨m, rfl, ⟨by omega, 6, rfl, by decide, by decide⟩, fun n2 d hq => ?_⟩
      obtain ⟨h1, s, rfl, h2, h3, h4, h5⟩ := hq
      obtain ⟨h6, h7⟩ := h5 6 rfl
      exact ⟨n2, s, h1, h2, by omega, h4, h7, rfl, rfl⟩
    · obtain ⟨m2, s, a1, a2, a3, a4, a5, rfl, rfl⟩ := h1
      refine xfa_imp xfa_nil ?_
      rintro _ _ ⟨rfl, rfl⟩
      exact ⟨m2, s, a1, a2, a3, a4, a5, rfl, rfl⟩
    · obtain ⟨m2, s, a1, a2, a3, a4, a5, rfl, rfl⟩ := h1
      refine ⟨_, ⟨s, rfl, by omega, by omega, a2, rfl⟩, ⟨_, ⟨canon_least _ a2, ?_, ?_⟩, rfl⟩, m2, by omega, rfl⟩
      · exact Nat.le_trans (leastOf_spec _ a2).2.2.1 a3
      · rw [(leastOf_spec _ a2).2.1]
        exact a5
  case e2 =>
    obtain ⟨ds, rfl, hl2, hd2, m, hm, rfl⟩ := h1
    obtain ⟨a, b, rfl⟩ : ∃ a b, ds = [a, b] := by
      match ds, hl2 with
      | [a, b], _ => exact ⟨a, b, rfl⟩
    exact xg_lst rfl (xgs_cons (xg_name 3 sc_law.nd) (xgs_cons (xg_name 4 sc_law.nd) xgs_nil)) rfl
  obtain ⟨ds, rfl, hl2, hd2, n1, hn1, rfl⟩ := h1
  have hn1 : n1 ≤ n + 40 := hn1
  obtain ⟨a, b, rfl⟩ : ∃ a b, ds = [a, b] := by
    match ds, hl2 with
    | [a, b], _ => exact ⟨a, b, rfl⟩
  obtain ⟨A_, gA, rfl⟩ := hd2 0 a rfl
  obtain ⟨B_, gB, rfl⟩ := hd2 1 b rfl
  show XB _ [.own (scrR K ns), .own (strmR p q (n1)), .dat dT, .dat (encT A_), .dat (encT B_), x5, x6, x7, x8, x9, x10, x11, x12, x13, x14, x15, x16, x17, x18, x19, x20, x21, .no, x23, x24] _ _
  refine xb_asgF (P := fun d δ => ∃ k : Nat, k < 20 ∧ d = .int (k : Nat) ∧ δ = [.own (scrR K ns), .own (strmR p q (n1 + 1)), .dat dT, .dat (encT A_), .dat (encT B_), x5, x6, x7, x8, x9, x10, x11, x12, x13, x14, x15, x16, x17, x18, x19, x20, x21, .no, x23, x24]) 5 (xf_draw 1 c_law_below (hr.mono (by decide)) rfl (xfa_of (xa_cons xe_int xa_nil)) ?e4) (fun d δ1 h1 => ?_) sc_law.nd
  case e4 =>
    rintro _ _ ⟨rfl, rfl⟩
    refine ⟨n1, rfl, ⟨by omega, 20, rfl, by decide, by decide⟩, fun n2 d hq => ?_⟩
    obtain ⟨rfl, j, rfl, h0, h1⟩ := hq
    have h2 := h1 20 rfl
    exact ⟨j.toNat, by omega, by rw [Int.toNat_of_nonneg h0], rfl⟩
  obtain ⟨k, hk, rfl, rfl⟩ := h1
  show XB _ [.own (scrR K ns), .own (strmR p q (n1 + 1)), .dat dT, .dat (encT A_), .dat (encT B_), .dat (.int (k : Nat)), x6, x7, x8, x9, x10, x11, x12, x13, x14, x15, x16, x17, x18, x19, x20, x21, .no, x23, x24] _ _
  have hJ0 : ∀ i, i = setBy A_ B_ (· || ·) → G 11 36 i := fun i e => by rw [e]; exact (gA.by gB _).mono (by decide) (by decide)
  have hM0 : ∀ i, i = setBy A_ B_ (· && ·) → G 11 36 i := fun i e => by rw [e]; exact (gA.by gB _).mono (by decide) (by decide)
  obtain ⟨J_, eJ⟩ : ∃ i, i = setBy A_ B_ (· || ·) := ⟨_, rfl⟩
  obtain ⟨M_, eM⟩ : ∃ i, i = setBy A_ B_ (· && ·) := ⟨_, rfl⟩
  have gJ := hJ0 _ eJ
  have gM := hM0 _ eM
  have cA := gA.can
  have cB := gB.can
  have iJ : ∀ n, inS J_ n = (inS A_ n || inS B_ n) := fun n => by rw [eJ]; exact inS_by cA cB _ n
  have iM : ∀ n, inS M_ n = (inS A_ n && inS B_ n) := fun n => by rw [eM]; exact inS_by cA cB _ n
  refine xb_par (i := 6) (j := 7) (xe_call c_union_of (hr.mono (by decide)) (xa_cons (xe_call (c_law_copied T 2) (hr.mono (by decide)) (xa_cons (xe_var 3) xa_nil) (f_copy gA (by decide) (by decide))) (xa_cons (xe_call (c_law_copied T 2) (hr.mono (by decide)) (xa_cons (xe_var 4) xa_nil) (f_copy gB (by decide) (by decide))) xa_nil)) (f_union gA gB (by decide) (by decide) (by decide) (by decide) (by decide))) (xe_call c_meet_of (hr.mono (by decide)) (xa_cons (xe_call (c_law_copied T 2) (hr.mono (by decide)) (xa_cons (xe_var 3) xa_nil) (f_copy gA (by decide) (by decide))) (xa_cons (xe_call (c_law_copied T 2) (hr.mono (by decide)) (xa_cons (xe_var 4) xa_nil) (f_copy gB (by decide) (by decide))) xa_nil)) (f_meet gA gB (by decide) (by decide) (by decide) (by decide) (by decide))) ?_ sc_law.nd
  rw [← eJ, ← eM]
  show XB _ [.own (scrR K ns), .own (strmR p q (n1 + 1)), .dat dT, .dat (encT A_), .dat (encT B_), .dat (.int (k : Nat)), .dat (encT J_), .dat (encT M_), x8, x9, x10, x11, x12, x13, x14, x15, x16, x17, x18, x19, x20, x21, .no, x23, x24] _ _
  refine xb_for (is := [8]) (fun d δ => δ.set 8 (.dat d)) (fun _ δ => ∃ y8 y9 y10 y11, δ = [.own (scrR K ns), .own (strmR p q (n1 + 1)), .dat dT, .dat (encT A_), .dat (encT B_), .dat (.int (k : Nat)), .dat (encT J_), .dat (encT M_), y8, y9, y10, y11, x12, x13, x14, x15, x16, x17, x18, x19, x20, x21, .no, x23, x24]) (fun δ => ∃ y8 y9 y10 y11, δ = [.own (scrR K ns), .own (strmR p q (n1 + 1)), .dat dT, .dat (encT A_), .dat (encT B_), .dat (.int (k : Nat)), .dat (encT J_), .dat (encT M_), y8, y9, y10, y11, x12, x13, x14, x15, x16, x17, x18, x19, x20, x21, .no, x23, x24]) (xi_rng1 T.g_range xe_int (by decide)) ⟨_, _, _, _, rfl⟩ (fun i δ d hJ hd => ?f1) (fun j δ d hJ hd => ?f2) (fun δ hJ => ?f3) (fun δ hM => ?f4)
  case f1 => exact xg_name 8 sc_law.nd
  case f3 => exact hJ
  case f2 =>
    obtain ⟨y8, y9, y10, y11, rfl⟩ := hJ
    obtain ⟨hj, rfl⟩ := rangeD_get hd
    have hj : j < 90 := hj
    rw [Int.zero_add]
    show XB _ [.own (scrR K ns), .own (strmR p q (n1 + 1)), .dat dT, .dat (encT A_), .dat (encT B_), .dat (.int (k : Nat)), .dat (encT J_), .dat (encT M_), .dat (.int (j : Nat)), y9, y10, y11, x12, x13, x14, x15, x16, x17, x18, x19, x20, x21, .no, x23, x24] _ _
    refine xb_asg 9 (xe_lst (xa_cons (xe_call c_law_kset_in (hr.mono (by decide)) (xa_cons (xe_var 3) (xa_cons (xe_var 8) xa_nil)) (f_in cA j)) (xa_cons (xe_call c_law_kset_in (hr.mono (by decide)) (xa_cons (xe_var 4) (xa_cons (xe_var 8) xa_nil)) (f_in cB j)) xa_nil))) ?_ sc_law.nd
    show XB _ [.own (scrR K ns), .own (strmR p q (n1 + 1)), .dat dT, .dat (encT A_), .dat (encT B_), .dat (.int (k : Nat)), .dat (encT J_), .dat (encT M_), .dat (.int (j : Nat)), .dat (.list [.bool (inS A_ j), .bool (inS B_ j)]), y10, y11, x12, x13, x14, x15, x16, x17, x18, x19, x20, x21, .no, x23, x24] _ _
    have i0 : IxD (.list [.bool (inS A_ j), .bool (inS B_ j)]) 0 (.bool (inS A_ j)) := .lst rfl
    have i1 : IxD (.list [.bool (inS A_ j), .bool (inS B_ j)]) 1 (.bool (inS B_ j)) := .lst rfl
    refine xb_asg 10 (xe_lst (xa_cons (xe_or (xe_ix (xe_var 9) xe_int i0) (fun _ => (xe_one (xe_ix (xe_var 9) xe_int i1)))) (xa_cons (xe_and (xe_ix (xe_var 9) xe_int i0) (fun _ => (xe_one (xe_ix (xe_var 9) xe_int i1)))) (xa_cons (xe_not (xe_ix (xe_var 9) xe_int i0)) xa_nil)))) ?_ sc_law.nd
    show XB _ [.own (scrR K ns), .own (strmR p q (n1 + 1)), .dat dT, .dat (encT A_), .dat (encT B_), .dat (.int (k : Nat)), .dat (encT J_), .dat (encT M_), .dat (.int (j : Nat)), .dat (.list [.bool (inS A_ j), .bool (inS B_ j)]), .dat (.list ([inS A_ j || inS B_ j, inS A_ j && inS B_ j, !inS A_ j].map .bool)), y11, x12, x13, x14, x15, x16, x17, x18, x19, x20, x21, .no, x23, x24] _ _
    have hR : G 11 36 (otherOf A_) := gA.other.mono (by decide) (by decide)
    have hall : ∀ s ∈ [J_, M_, otherOf A_], G 11 36 s := fun s hs => by
      rcases List.mem_cons.mp hs with e | hs
      · rw [e]; exact gJ
      rcases List.mem_cons.mp hs with e | hs
      · rw [e]; exact gM
      · rw [List.mem_singleton.mp hs]; exact hR
    refine xb_lc 11 (xl_lc (l := [J_, M_, otherOf A_]) (f := encT) 23 (fun s => .bool (inS s j)) sc_law.nd (xi_tup (xe_tup (xa_cons (xe_var 6) (xa_cons (xe_var 7) (xa_cons (xe_call c_rest_of (hr.mono (by decide)) (xa_cons (xe_call (c_law_copied T 2) (hr.mono (by decide)) (xa_cons (xe_var 3) xa_nil) (f_copy gA (by decide) (by decide))) xa_nil) (f_rest gA (by decide) (by decide))) xa_nil))))) (fun _ _ _ _ _ s hs => (xe_call c_has_number (hr.mono (by decide)) (xa_cons (xe_var 23) (xa_cons (xe_var 8) xa_nil)) (f_has (hall s hs) (by decide) (by decide) j (by omega)))) (by exact Nat.le_of_ble_eq_true rfl)) ?_ sc_law.nd
    have ed : [J_, M_, otherOf A_].map (fun s => PyData.bool (inS s j)) = [inS A_ j || inS B_ j, inS A_ j && inS B_ j, !inS A_ j].map .bool := by
      show [PyData.bool _, .bool _, .bool _] = [PyData.bool _, .bool _, .bool _]
      rw [iJ, iM, inS_other cA.ne]
    rw [ed]
    refine xb_ifR (k := false) (xt_eq (xt_not (xt_tru (xe_call (c_law_same T 3) (hr.mono (by decide)) (xa_cons (xe_var 11) (xa_cons (xe_var 10) xa_nil)) (f_same 3 (tree_bools 2 _ (by exact Nat.le_of_ble_eq_true rfl)) rfl)))) rfl) (fun h => (nomatch h)) (fun _ => ?_)
    exact xb_nil ⟨_, _, _, _, rfl⟩
  obtain ⟨x8, x9, x10, x11, rfl⟩ := hM
  have gOA := gA.other
  have gOB := gB.other
  have hall2 : ∀ s ∈ [A_, B_], G 11 6 s := fun s hs => by
    rcases List.mem_cons.mp hs with e | hs
    · rw [e]; exact gA
    · rw [List.mem_singleton.mp hs]; exact gB
  refine xb_lc 12 (xl_lc (l := [A_, B_]) (f := encT) 23 (fun s => encT (otherOf s)) sc_law.nd (xi_tup (xe_tup (xa_cons (xe_var 3) (xa_cons (xe_var 4) xa_nil)))) (fun _ _ _ _ _ s hs => (xe_call c_rest_of (hr.mono (by decide)) (xa_cons (xe_call (c_law_copied T 2) (hr.mono (by decide)) (xa_cons (xe_var 23) xa_nil) (f_copy (hall2 s hs) (by decide) (by decide))) xa_nil) (f_rest (hall2 s hs) (by decide) (by decide)))) (by exact Nat.le_of_ble_eq_true rfl)) ?_ sc_law.nd
  show XB _ [.own (scrR K ns), .own (strmR p q (n1 + 1)), .dat dT, .dat (encT A_), .dat (encT B_), .dat (.int (k : Nat)), .dat (encT J_), .dat (encT M_), x8, x9, x10, x11, .dat (.list [encT (otherOf A_), encT (otherOf B_)]), x13, x14, x15, x16, x17, x18, x19, x20, x21, .no, x23, x24] _ _
  have j0 : IxD (.list [encT (otherOf A_), encT (otherOf B_)]) 0 (encT (otherOf A_)) := .lst rfl
  have j1 : IxD (.list [encT (otherOf A_), encT (otherOf B_)]) 1 (encT (otherOf B_)) := .lst rfl
  have eR : otherOf J_ = setBy (otherOf A_) (otherOf B_) (· && ·) := by rw [eJ]; exact law_rest cA cB
  have gR := (gOA.by gOB (· && ·)).mono (show max 11 11 ≤ 11 by decide) (Nat.le_refl _)
  refine xb_ifR (k := false) (xt_eq (xt_not (xt_tru (xe_call (c_law_same T 3) (hr.mono (by decide)) (xa_cons (xe_call c_rest_of (hr.mono (by decide)) (xa_cons (xe_call (c_law_copied T 2) (hr.mono (by decide)) (xa_cons (xe_var 6) xa_nil) (f_copy gJ (by decide) (by decide))) xa_nil) (f_rest gJ (by decide) (by decide))) (xa_cons (xe_call c_meet_of (hr.mono (by decide)) (xa_cons (xe_call (c_law_copied T 2) (hr.mono (by decide)) (xa_cons (xe_ix (xe_var 12) xe_int j0) xa_nil) (f_copy gOA (by decide) (by decide))) (xa_cons (xe_call (c_law_copied T 2) (hr.mono (by decide)) (xa_cons (xe_ix (xe_var 12) xe_int j1) xa_nil) (f_copy gOB (by decide) (by decide))) xa_nil)) (f_meet gOA gOB (by decide) (by decide) (by decide) (by decide) (by decide))) xa_nil)) (f_same 3 (tree_enc 1 gR (by decide) (by decide)) (by rw [eR]))))) rfl) (fun h => (nomatch h)) (fun _ => ?_)
  refine xb_asg 13 (xe_eq (xe_cmp hu (xe_new (xl_lcIf 8 (fun n : Nat => PyData.int (0 + (n : Nat))) (fun n : Nat => inS A_ n && !inS B_ n) sc_law.nd (xi_rng1 T.g_range xe_int (by decide)) (fun _ _ _ _ _ d hd => xt_eq ((xw_and (xt_tru (xe_call c_law_kset_in (hr.mono (by decide)) (xa_cons (xe_var 3) (xa_cons (xe_var 8) xa_nil)) ⟨A_, d, by rw [Int.zero_add], cA.ne, rfl⟩)) (fun _ => (xw_and1 (xt_not (xt_tru (xe_call c_law_kset_in (hr.mono (by decide)) (xa_cons (xe_var 4) (xa_cons (xe_var 8) xa_nil)) ⟨B_, d, by rw [Int.zero_add], cB.ne, rfl⟩))))))).xt rfl) (fun _ _ _ _ _ d hd ht => (xe_var 8)) (by rw [List.length_range]; decide)).val) (xe_lst xa_nil) (.eqD _ _ (shaped_intsF _ _) shaped_nil)) (congrArg PyData.bool (eqv_ints_nil _ _))) ?_ sc_law.nd
  show XB _ [.own (scrR K ns), .own (strmR p q (n1 + 1)), .dat dT, .dat (encT A_), .dat (encT B_), .dat (.int (k : Nat)), .dat (encT J_), .dat (encT M_), x8, x9, x10, x11, .dat (.list [encT (otherOf A_), encT (otherOf B_)]), .dat (.bool (insideOf A_ B_)), x14, x15, x16, x17, x18, x19, x20, x21, .no, x23, x24] _ _
  have w1 := law_within gA gB (by decide)
  have w2 := law_meets gA gB (by decide)
  have w3 := law_joins gA gB (by decide)
  rw [← eM] at w2
  rw [← eJ] at w3
  generalize hins : insideOf A_ B_ = ins at *
  refine xb_asg 11 (xe_lst (xa_cons (xe_eq (xe_call c_is_within (hr.mono (by decide)) (xa_cons (xe_call (c_law_copied T 2) (hr.mono (by decide)) (xa_cons (xe_var 3) xa_nil) (f_copy gA (by decide) (by decide))) (xa_cons (xe_call (c_law_copied T 2) (hr.mono (by decide)) (xa_cons (xe_var 4) xa_nil) (f_copy gB (by decide) (by decide))) xa_nil)) (f_within gA gB (by decide) (by decide) (by decide) (by decide))) (congrArg PyData.bool w1)) (xa_cons (xe_eq (xe_cmp hu (xe_var 7) (xe_var 3) (.eqD _ _ (shaped_enc _) (shaped_enc _))) (by rw [eqv_enc, w2])) (xa_cons (xe_eq (xe_cmp hu (xe_var 6) (xe_var 4) (.eqD _ _ (shaped_enc _) (shaped_enc _))) (by rw [eqv_enc, w3])) xa_nil)))) ?_ sc_law.nd
  show XB _ [.own (scrR K ns), .own (strmR p q (n1 + 1)), .dat dT, .dat (encT A_), .dat (encT B_), .dat (.int (k : Nat)), .dat (encT J_), .dat (encT M_), x8, x9, x10, .dat (.list ([ins, ins, ins].map .bool)), .dat (.list [encT (otherOf A_), encT (otherOf B_)]), .dat (.bool ins), x14, x15, x16, x17, x18, x19, x20, x21, .no, x23, x24] _ _
  refine xb_ifR (k := false) (xt_eq (xt_not (xt_tru (xe_call (c_law_same T 3) (hr.mono (by decide)) (xa_cons (xe_var 11) (xa_cons (xe_rep (xe_lst (xa_cons (xe_var 13) xa_nil)) xe_int (by decide) (by decide) (by exact Nat.le_of_ble_eq_true rfl)) xa_nil)) (f_same 3 (tree_bools 2 [ins, ins, ins] (by exact Nat.le_of_ble_eq_true rfl)) rfl)))) rfl) (fun h => (nomatch h)) (fun _ => ?_)
  have w4 := law_apart cA cB
  refine xb_ifR (k := false) (xt_eq (xt_cmp hu (xe_eq (d := .bool (decide (A_ = B_))) (xe_cmp hu (xe_call c_first_apart (hr.mono (by decide)) (xa_cons (xe_call (c_law_copied T 2) (hr.mono (by decide)) (xa_cons (xe_var 3) xa_nil) (f_copy gA (by decide) (by decide))) (xa_cons (xe_call (c_law_copied T 2) (hr.mono (by decide)) (xa_cons (xe_var 4) xa_nil) (f_copy gB (by decide) (by decide))) xa_nil)) (f_apart gA gB (by decide) (by decide) (by decide) (by decide))) xe_non (.isN _ _ rfl)) (by rw [← w4]; cases firstOf (setBy A_ B_ fun a b => a != b) <;> rfl)) (xe_eq (d := .bool (decide (A_ = B_))) (xe_cmp hu (xe_var 3) (xe_var 4) (.eqD _ _ (shaped_enc _) (shaped_enc _))) (by rw [eqv_enc])) (.neB _ _)) (by rw [beq_self_eq_true]; rfl)) (fun h => (nomatch h)) (fun _ => ?_)
  have gU := (gA.up k).mono (show k + 11 ≤ 31 by omega) (Nat.le_refl _)
  obtain ⟨U_, eU⟩ : ∃ i, i = upBy A_ k := ⟨_, rfl⟩
  obtain ⟨rw_, eW⟩ : ∃ i, i = (List.range 100).filter (inS A_) := ⟨_, rfl⟩
  rw [← eU] at gU
  have rwl : rw_.length ≤ 1000000 := by rw [eW]; exact filter_len _ _ (by decide)
  have hrw : ((List.range ((100 : Int)).toNat).filter (inS A_)).map (fun n : Nat => PyData.int (0 + (n : Nat))) = rw_.map (fun n : Nat => PyData.int (n : Nat)) := by
    rw [eW]
    exact List.map_congr_left fun n _ => by rw [Int.zero_add]
  refine xb_par (i := 14) (j := 15) (xe_eq (xe_call c_shifted_up (hr.mono (by decide)) (xa_cons (xe_call (c_law_copied T 2) (hr.mono (by decide)) (xa_cons (xe_var 3) xa_nil) (f_copy gA (by decide) (by decide))) (xa_cons (xe_var 5) xa_nil)) (f_up gA k (by omega) (by decide))) (by rw [← eU])) (xe_eq (xe_new (xl_lcIf 8 (fun n : Nat => PyData.int (0 + (n : Nat))) (inS A_) sc_law.nd (xi_rng1 T.g_range xe_int (by decide)) (fun _ _ _ _ _ d hd => xt_eq (xt_tru (xe_call c_law_kset_in (hr.mono (by decide)) (xa_cons (xe_var 3) (xa_cons (xe_var 8) xa_nil)) ⟨A_, d, by rw [Int.zero_add], cA.ne, rfl⟩)) rfl) (fun _ _ _ _ _ d hd ht => (xe_var 8)) (by rw [List.length_range]; decide)).val) (congrArg PyData.list hrw)) ?_ sc_law.nd
  show XB _ [.own (scrR K ns), .own (strmR p q (n1 + 1)), .dat dT, .dat (encT A_), .dat (encT B_), .dat (.int (k : Nat)), .dat (encT J_), .dat (encT M_), x8, x9, x10, .dat (.list ([ins, ins, ins].map .bool)), .dat (.list [encT (otherOf A_), encT (otherOf B_)]), .dat (.bool ins), .dat (encT U_), .dat (encN rw_), x16, x17, x18, x19, x20, x21, .no, x23, x24] _ _
  have eN1 : (List.range 100).filter (inS U_) = (rw_.filter (fun n => decide (n + k < 100))).map (fun n => n + k) := by rw [eU, eW]; exact law_up cA (by omega)
  have ef : ∀ d : Nat, decide ((d : Int) + (k : Int) < 100) = decide (d + k < 100) := fun d => by rw [Bool.eq_iff_iff, decide_eq_true_iff, decide_eq_true_iff]; omega
  have e1 : encN ((List.range 100).filter (inS U_)) = .list ((rw_.filter (fun n => decide (n + k < 100))).map fun n : Nat => PyData.int ((n : Int) + (k : Int))) := by
    rw [eN1]
    show PyData.list _ = PyData.list _
    rw [List.map_map]
    congr 1
  refine xb_ifR (k := false) (xt_eq (xt_not (xt_tru (xe_call (c_law_same T 3) (hr.mono (by decide)) (xa_cons (xe_call c_numbers_below (hr.mono (by decide)) (xa_cons (xe_call (c_law_copied T 2) (hr.mono (by decide)) (xa_cons (xe_var 14) xa_nil) (f_copy gU (by decide) (by decide))) (xa_cons xe_int xa_nil)) (f_below gU (by decide) (by decide) 100 (by decide))) (xa_cons (xe_new (xl_lcIf (l := rw_) (f := fun n : Nat => PyData.int (n : Nat)) 8 (fun n : Nat => PyData.int ((n : Int) + (k : Int))) (fun n : Nat => decide (n + k < 100)) sc_law.nd (xi_list (xe_var 15)) (fun _ _ _ _ _ d hd => xt_eq (xt_cmp hu (xe_addI (xe_var 8) (xe_var 5)) xe_int (.ltI _ _)) (ef d)) (fun _ _ _ _ _ d hd ht => (xe_addI (xe_var 8) (xe_var 5))) rwl).val) xa_nil)) (f_same 3 (e1 ▸ tree_nats 2 _ (filter_len _ 100 (by decide))) e1)))) rfl) (fun h => (nomatch h)) (fun _ => ?_)
  have eD : downBy U_ k = A_ := by rw [eU]; exact law_down cA k
  have eL : lowBy U_ k = A_ := by rw [eU]; exact law_low cA k
  refine xb_ifR (k := false) (xt_eq (xt_not (xt_tru (xe_call (c_law_same T 3) (hr.mono (by decide)) (xa_cons (xe_lst (xa_cons (xe_call c_shifted_down (hr.mono (by decide)) (xa_cons (xe_call (c_law_copied T 2) (hr.mono (by decide)) (xa_cons (xe_var 14) xa_nil) (f_copy gU (by decide) (by decide))) (xa_cons (xe_var 5) xa_nil)) (f_down gU k (by omega) (by decide) (by decide))) (xa_cons (xe_call c_lowered (hr.mono (by decide)) (xa_cons (xe_call (c_law_copied T 2) (hr.mono (by decide)) (xa_cons (xe_var 14) xa_nil) (f_copy gU (by decide) (by decide))) (xa_cons (xe_var 5) xa_nil)) (f_low gU k (by omega) (by decide) (by decide))) xa_nil))) (xa_cons (xe_lst (xa_cons (xe_var 3) (xa_cons (xe_var 3) xa_nil))) xa_nil)) (f_same 3 (tree_two gA (by decide) (by decide)) (by rw [eD, eL]))))) rfl) (fun h => (nomatch h)) (fun _ => ?_)
  have gK : G 20 1 (setOf [k]) := setOf_G (by decide) fun n hn => by rw [List.mem_singleton.mp hn]; exact hk
  have eS : sumSet A_ (setOf [k]) = U_ := by rw [eU]; exact law_sum cA (by omega)
  refine xb_ifR (k := false) (xt_eq (xt_not (xt_tru (xe_call (c_law_same T 3) (hr.mono (by decide)) (xa_cons (xe_call c_sums_of (hr.mono (by decide)) (xa_cons (xe_call (c_law_copied T 2) (hr.mono (by decide)) (xa_cons (xe_var 3) xa_nil) (f_copy gA (by decide) (by decide))) (xa_cons (xe_call c_set_of (hr.mono (by decide)) (xa_cons (xe_lst (xa_cons (xe_var 5) xa_nil)) xa_nil) (f_set [k] (by exact Nat.le_of_ble_eq_true rfl) (fun n hn => by rw [List.mem_singleton.mp hn]; omega))) xa_nil)) (f_sums gA gK (by decide) (by decide) (by decide) (by decide) (by decide))) (xa_cons (xe_var 14) xa_nil)) (f_same 3 (tree_enc 1 gU (by decide) (by decide)) (by rw [eS]))))) rfl) (fun h => (nomatch h)) (fun _ => ?_)
  have gL := gA.low k
  have gD := gA.down k
  obtain ⟨L_, eL_⟩ : ∃ i, i = lowBy A_ k := ⟨_, rfl⟩
  obtain ⟨D_, eD_⟩ : ∃ i, i = downBy A_ k := ⟨_, rfl⟩
  rw [← eL_] at gL
  rw [← eD_] at gD
  refine xb_par (i := 16) (j := 17) (xe_call c_lowered (hr.mono (by decide)) (xa_cons (xe_call (c_law_copied T 2) (hr.mono (by decide)) (xa_cons (xe_var 3) xa_nil) (f_copy gA (by decide) (by decide))) (xa_cons (xe_var 5) xa_nil)) (f_low gA k (by omega) (by decide) (by decide))) (xe_call c_shifted_down (hr.mono (by decide)) (xa_cons (xe_call (c_law_copied T 2) (hr.mono (by decide)) (xa_cons (xe_var 3) xa_nil) (f_copy gA (by decide) (by decide))) (xa_cons (xe_var 5) xa_nil)) (f_down gA k (by omega) (by decide) (by decide))) ?_ sc_law.nd
  rw [← eL_, ← eD_]
  show XB _ [.own (scrR K ns), .own (strmR p q (n1 + 1)), .dat dT, .dat (encT A_), .dat (encT B_), .dat (.int (k : Nat)), .dat (encT J_), .dat (encT M_), x8, x9, x10, .dat (.list ([ins, ins, ins].map .bool)), .dat (.list [encT (otherOf A_), encT (otherOf B_)]), .dat (.bool ins), .dat (encT U_), .dat (encN rw_), .dat (encT L_), .dat (encT D_), x18, x19, x20, x21, .no, x23, x24] _ _
  have iLD : ∀ n, 0 < n → inS L_ n = inS D_ n := fun n hn => by
    rw [eL_, eD_, (lowBy_all cA.ne k).2.1, (downBy_all cA.ne k).2.1, if_neg (by omega)]
  have e2 := law_lows iLD 79
  have e3 : PyData.list (Dl.cutD (((List.range 80).filter (inS L_)).map fun n : Nat => PyData.int (n : Nat)) (some (if inS L_ 0 then 1 else 0)) none) = .list ((((List.range 80).filter (inS D_)).filter (fun n => decide (0 < n))).map fun n : Nat => PyData.int (n : Nat)) := by
    have e4 : (if inS L_ 0 then (1 : Int) else 0) = (((if inS L_ 0 then 1 else 0) : Nat) : Int) := by cases inS L_ 0 <;> rfl
    rw [e4, cutD_map, cutD_from, e2]
  have h80 : ((List.range 80).filter (inS D_)).length ≤ 1000000 := filter_len _ _ (by decide)
  have h80b : (((List.range 80).filter (inS D_)).filter (fun n => decide (0 < n))).length ≤ 1000000 := Nat.le_trans (List.length_filter_le _ _) h80
  refine xb_ifR (k := false) (xt_eq (xt_not (xt_tru (xe_call (c_law_same T 3) (hr.mono (by decide)) (xa_cons (xe_sl (xe_call c_numbers_below (hr.mono (by decide)) (xa_cons (xe_call (c_law_copied T 2) (hr.mono (by decide)) (xa_cons (xe_var 16) xa_nil) (f_copy gL (by decide) (by decide))) (xa_cons xe_int xa_nil)) (f_below gL (by decide) (by decide) 80 (by decide))) (xo_some (xe_if (xt_tru (xe_call c_has_number (hr.mono (by decide)) (xa_cons (xe_call (c_law_copied T 2) (hr.mono (by decide)) (xa_cons (xe_var 16) xa_nil) (f_copy gL (by decide) (by decide))) (xa_cons xe_int xa_nil)) (f_has gL (by decide) (by decide) 0 (by decide)))) (fun h => xe_eq xe_int (congrArg PyData.int (if_pos h).symm)) (fun h => xe_eq xe_int (congrArg PyData.int (if_neg (by intro z; rw [show inS L_ 0 = false from h] at z; cases z)).symm)))) xo_none (.lst _ _ _)) (xa_cons (xe_new (xl_lcIf (l := (List.range 80).filter (inS D_)) (f := fun n : Nat => PyData.int (n : Nat)) 8 (fun n : Nat => PyData.int (n : Nat)) (fun n : Nat => decide (0 < n)) sc_law.nd (xi_list (xe_call c_numbers_below (hr.mono (by decide)) (xa_cons (xe_call (c_law_copied T 2) (hr.mono (by decide)) (xa_cons (xe_var 17) xa_nil) (f_copy gD (by decide) (by decide))) (xa_cons xe_int xa_nil)) (f_below gD (by decide) (by decide) 80 (by decide)))) (fun _ _ _ _ _ d hd => xt_eq (xt_cmp hu (xe_var 8) xe_int (.gtI _ _)) (by rw [Bool.eq_iff_iff, decide_eq_true_iff, decide_eq_true_iff]; omega)) (fun _ _ _ _ _ d hd ht => (xe_var 8)) h80).val) xa_nil)) (f_same 3 (tree_nats 2 _ h80b) e3)))) rfl) (fun h => (nomatch h)) (fun _ => ?_)
  have e5 : rw_.head? = firstOf A_ := by
    have h1 := gA.few
    have h2 := gA.ring
    rw [eW]
    exact firstOf_range cA.ne (by omega)
  have hO : Dl.Tree 3 (encO (firstOf A_)) := by cases firstOf A_ <;> constructor
  refine xb_ifR (k := false) (xt_eq (xt_not (xt_tru (xe_call (c_law_same T 3) (hr.mono (by decide)) (xa_cons (xe_call c_first_number (hr.mono (by decide)) (xa_cons (xe_call (c_law_copied T 2) (hr.mono (by decide)) (xa_cons (xe_var 3) xa_nil) (f_copy gA (by decide) (by decide))) xa_nil) (f_first gA (by decide) (by decide))) (xa_cons (xe_if (d := encO (firstOf A_)) (xt_cmp hu (xe_var 15) (xe_lst xa_nil) (.neD _ _ (shaped_nats rw_) shaped_nil)) (fun h => (xe_ix (xe_var 15) xe_int (.lst (row_hd e5 h)))) (fun h => xe_eq xe_non (row_none e5 h))) xa_nil)) (f_same 3 hO rfl)))) rfl) (fun h => (nomatch h)) (fun _ => ?_)
  refine xb_lcF 18 (xlF (l := List.range (4 : Int).toNat) 22 (fun i δ => δ = [.own (scrR K ns), .own (strmR p q (n1 + 1 + i)), .dat dT, .dat (encT A_), .dat (encT B_), .dat (.int (k : Nat)), .dat (encT J_), .dat (encT M_), x8, x9, x10, .dat (.list ([ins, ins, ins].map .bool)), .dat (.list [encT (otherOf A_), encT (otherOf B_)]), .dat (.bool ins), .dat (encT U_), .dat (encN rw_), .dat (encT L_), .dat (encT D_), x18, x19, x20, x21, .no, x23, x24]) (fun i d => ∃ j : Nat, j < 60 ∧ d = .int (j : Nat)) sc_law.nd (xi_rng1 T.g_range xe_int (by decide)) (by exact Nat.le_of_ble_eq_true rfl) (by rw [List.length_range]; decide) rfl (fun i δ' h => by subst h; rfl) (fun _ _ _ _ _ i y δ' hy hJ => ?g1)) (fun d δ1 h1 => ?_) sc_law.nd
  case g1 =>
    subst hJ
    have hi2 := (List.getElem?_eq_some_iff.mp hy).1
    rw [List.length_range] at hi2
    have hi2 : i < 4 := hi2
    refine xf_draw 1 c_law_below (hr.mono (by decide)) rfl (xfa_of (xa_cons xe_int xa_nil)) ?_
    rintro _ _ ⟨rfl, rfl⟩
    refine ⟨n1 + 1 + i, rfl, ⟨by omega, 60, rfl, by decide, by decide⟩, fun n2 d hq => ?_⟩
    obtain ⟨rfl, j, rfl, h0, h1⟩ := hq
    have h2 := h1 60 rfl
    exact ⟨⟨j.toNat, by omega, by rw [Int.toNat_of_nonneg h0]⟩, rfl⟩
  obtain ⟨ds, rfl, hl4, hd4, rfl⟩ := h1
  obtain ⟨ls, rfl, hls⟩ := nats_of hd4
  have hll : ls.length = 4 := by rw [List.length_map] at hl4; exact hl4
  show XB _ [.own (scrR K ns), .own (strmR p q (n1 + 1 + 4)), .dat dT, .dat (encT A_), .dat (encT B_), .dat (.int (k : Nat)), .dat (encT J_), .dat (encT M_), x8, x9, x10, .dat (.list ([ins, ins, ins].map .bool)), .dat (.list [encT (otherOf A_), encT (otherOf B_)]), .dat (.bool ins), .dat (encT U_), .dat (encN rw_), .dat (encT L_), .dat (encT D_), .dat (encN ls), x19, x20, x21, .no, x23, x24] _ _
  obtain ⟨o1, o2, o3⟩ := law_list hls
  have gI : G 60 1 (setOf ls) := setOf_G (Nat.le_refl _) hls
  obtain ⟨ys, eY⟩ : ∃ ys, ys = (List.range 200).filter (inS (setOf ls)) := ⟨_, rfl⟩
  rw [← eY] at o1 o2 o3
  have hyl : ys.length ≤ 1000000 := by rw [eY]; exact filter_len _ _ (by decide)
  have q1 : (ys.map fun n : Nat => (n : Int)).Nodup := List.pairwise_map.mpr (List.Pairwise.imp (fun h e => h (by omega)) o1)
  have q2 : (ys.map fun n : Nat => (n : Int)).Pairwise (· ≤ ·) := List.pairwise_map.mpr (o2.imp fun h => by omega)
  have q3 : ∀ n : Int, n ∈ ys.map (fun n : Nat => (n : Int)) ↔ n ∈ ls.map (fun n : Nat => (n : Int)) := fun n => by
    rw [List.mem_map, List.mem_map]
    constructor
    · rintro ⟨a, ha, e⟩; exact ⟨a, (o3 a).mp ha, e⟩
    · rintro ⟨a, ha, e⟩; exact ⟨a, (o3 a).mpr ha, e⟩
  have e6 : (ls.map fun n : Nat => PyData.tuple [.int (n : Nat), .int 0]) = (ls.map fun n : Nat => (n : Int)).map fun n => PyData.tuple [.int n, .int 0] := by rw [List.map_map]; rfl
  have e7 : (ys.map fun n : Nat => (n : Int)).map PyData.int = ys.map fun n : Nat => PyData.int (n : Nat) := by rw [List.map_map]; rfl
  refine xb_ifR (k := false) (xt_eq (xt_not (xt_tru (xe_call (c_law_same T 3) (hr.mono (by decide)) (xa_cons (xe_call c_numbers_below (hr.mono (by decide)) (xa_cons (xe_call c_set_of (hr.mono (by decide)) (xa_cons (xe_var 18) xa_nil) (f_set ls (by omega) hls)) (xa_cons xe_int xa_nil)) (f_below gI (by decide) (by decide) 200 (by decide))) (xa_cons (xe_eq (xe_new (xn_sortedDict (ns := ls.map fun n : Nat => (n : Int)) (ys := ys.map fun n : Nat => (n : Int)) (z := 0) T.g_sorted T.g_dict (xe_eq (xe_new (xl_lc (l := ls) (f := fun n : Nat => PyData.int (n : Nat)) 8 (fun n : Nat => PyData.tuple [.int (n : Nat), .int 0]) sc_law.nd (xi_list (xe_var 18)) (fun _ _ _ _ _ d hd => (xe_tup (xa_cons (xe_var 8) (xa_cons xe_int xa_nil)))) (by omega)).val) (congrArg PyData.list e6)) (by rw [List.length_map]; omega) q1 q2 q3)) (congrArg PyData.list e7)) xa_nil)) (f_same 3 (tree_nats 2 ys hyl) (by rw [eY]))))) rfl) (fun h => (nomatch h)) (fun _ => ?_)
  refine xb_asgF (P := fun d δ => ∃ m2 C_, m2 ≤ n1 + 25 ∧ G 5 3 C_ ∧ d = encT C_ ∧ δ = [.own (scrR K ns), .own (strmR p q (m2)), .dat dT, .dat (encT A_), .dat (encT B_), .dat (.int (k : Nat)), .dat (encT J_), .dat (encT M_), x8, x9, x10, .dat (.list ([ins, ins, ins].map .bool)), .dat (.list [encT (otherOf A_), encT (otherOf B_)]), .dat (.bool ins), .dat (encT U_), .dat (encN rw_), .dat (encT L_), .dat (encT D_), .dat (encN ls), x19, x20, x21, .no, x23, x24]) 19 (xf_callP c_law_kset_least (hr.mono (by decide)) (xfa_cons (P1 := fun d δ => ∃ m2 s, m2 ≤ n1 + 25 ∧ s.2 ≠ [] ∧ s.1.length ≤ 5 ∧ s.2.length ≤ 12 ∧ roundSize s.2 ≤ 3 ∧ d = encT s ∧ δ = [.own (scrR K ns), .own (strmR p q (m2)), .dat dT, .dat (encT A_), .dat (encT B_), .dat (.int (k : Nat)), .dat (encT J_), .dat (encT M_), x8, x9, x10, .dat (.list ([ins, ins, ins].map .bool)), .dat (.list [encT (otherOf A_), encT (otherOf B_)]), .dat (.bool ins), .dat (encT U_), .dat (encN rw_), .dat (encT L_), .dat (encT D_), .dat (encN ls), x19, x20, x21, .no, x23, x24]) (PA' := fun ds δ => ∃ m2 s, m2 ≤ n1 + 25 ∧ s.2 ≠ [] ∧ s.1.length ≤ 5 ∧ s.2.length ≤ 12 ∧ roundSize s.2 ≤ 3 ∧ ds = [encT s] ∧ δ = [.own (scrR K ns), .own (strmR p q (m2)), .dat dT, .dat (encT A_), .dat (encT B_), .dat (.int (k : Nat)), .dat (encT J_), .dat (encT M_), x8, x9, x10, .dat (.list ([ins, ins, ins].map .bool)), .dat (.list [encT (otherOf A_), encT (otherOf B_)]), .dat (.bool ins), .dat (encT U_), .dat (encN rw_), .dat (encT L_), .dat (encT D_), .dat (encN ls), x19, x20, x21, .no, x23, x24]) (xf_draw 1 c_law_kset (hr.mono (by decide)) rfl (xfa_of (xa_cons xe_int xa_nil)) ?g2) (fun d1 δ1 h1 => ?g3)) (fun ds δ1 h1 => ?g4)) (fun d δ1 h1 => ?_) sc_law.nd
  case g2 =>
    rintro _ _ ⟨rfl, rfl⟩
    refine ⟨n1 + 1 + 4, rfl, ⟨by omega, 3, rfl, by decide, by decide⟩, fun n2 d hq => ?_⟩
    obtain ⟨h1, s, rfl, h2, h3, h4, h5⟩ := hq
    obtain ⟨h6, h7⟩ := h5 3 rfl
    exact ⟨n2, s, by omega, h2, by omega, h4, h7, rfl, rfl⟩
  case g3 =>
    obtain ⟨m2, s, a1, a2, a3, a4, a5, rfl, rfl⟩ := h1
    refine xfa_imp xfa_nil ?_
    rintro _ _ ⟨rfl, rfl⟩
    exact ⟨m2, s, a1, a2, a3, a4, a5, rfl, rfl⟩
  case g4 =>
    obtain ⟨m2, s, a1, a2, a3, a4, a5, rfl, rfl⟩ := h1
    refine ⟨_, ⟨s, rfl, by omega, by omega, a2, rfl⟩, m2, _, a1, ⟨canon_least _ a2, ?_, ?_⟩, rfl, rfl⟩
    · exact Nat.le_trans (leastOf_spec _ a2).2.2.1 a3
    · rw [(leastOf_spec _ a2).2.1]
      exact a5
  obtain ⟨m2, C_, hm2, gC, rfl, rfl⟩ := h1
  have cC := gC.can
  show XB _ [.own (scrR K ns), .own (strmR p q (m2)), .dat dT, .dat (encT A_), .dat (encT B_), .dat (.int (k : Nat)), .dat (encT J_), .dat (encT M_), x8, x9, x10, .dat (.list ([ins, ins, ins].map .bool)), .dat (.list [encT (otherOf A_), encT (otherOf B_)]), .dat (.bool ins), .dat (encT U_), .dat (encN rw_), .dat (encT L_), .dat (encT D_), .dat (encN ls), .dat (encT C_), x20, x21, .no, x23, x24] _ _
  have h01 : ∀ n ∈ [0, k], n < 20 := fun n hn => by
    rcases List.mem_cons.mp hn with e | e
    · omega
    · rw [List.mem_singleton.mp e]; exact hk
  have h11 : ∀ n ∈ [1], n < 20 := fun n hn => by rw [List.mem_singleton.mp hn]; decide
  have g01 : G 20 1 (setOf [0, k]) := setOf_G (by decide) h01
  have g11 : G 20 1 (setOf [1]) := setOf_G (by decide) h11
  have gW := (g01.by g11 (· || ·)).mono (show max 20 20 ≤ 20 by decide) (show 1 * 1 ≤ 1 by decide)
  refine xb_asg 20 (xe_call c_sums_of (hr.mono (by decide)) (xa_cons (xe_call (c_law_copied T 2) (hr.mono (by decide)) (xa_cons (xe_var 19) xa_nil) (f_copy gC (by decide) (by decide))) (xa_cons (xe_call c_union_of (hr.mono (by decide)) (xa_cons (xe_call c_set_of (hr.mono (by decide)) (xa_cons (xe_lst (xa_cons xe_int (xa_cons (xe_var 5) xa_nil))) xa_nil) (f_set [0, k] (by exact Nat.le_of_ble_eq_true rfl) (fun n hn => Nat.lt_trans (h01 n hn) (by decide)))) (xa_cons (xe_call c_set_of (hr.mono (by decide)) (xa_cons (xe_lst (xa_cons xe_int xa_nil)) xa_nil) (f_set [1] (by exact Nat.le_of_ble_eq_true rfl) (fun n hn => Nat.lt_trans (h11 n hn) (by decide)))) xa_nil)) (f_union g01 g11 (by decide) (by decide) (by decide) (by decide) (by decide))) xa_nil)) (f_sums gC gW (by decide) (by decide) (by decide) (by decide) (by decide))) ?_ sc_law.nd
  rw [law_three cC (show k < 60 by omega)]
  obtain ⟨Z_, eZ⟩ : ∃ i, i = setBy (setBy (upBy C_ 0) (upBy C_ 1) (· || ·)) (upBy C_ k) (· || ·) := ⟨_, rfl⟩
  rw [← eZ]
  show XB _ [.own (scrR K ns), .own (strmR p q (m2)), .dat dT, .dat (encT A_), .dat (encT B_), .dat (.int (k : Nat)), .dat (encT J_), .dat (encT M_), x8, x9, x10, .dat (.list ([ins, ins, ins].map .bool)), .dat (.list [encT (otherOf A_), encT (otherOf B_)]), .dat (.bool ins), .dat (encT U_), .dat (encN rw_), .dat (encT L_), .dat (encT D_), .dat (encN ls), .dat (encT C_), .dat (encT Z_), x21, .no, x23, x24] _ _
  have g0 := (gC.up 0).mono (show 0 + 5 ≤ 25 by decide) (Nat.le_refl _)
  have g1 := (gC.up 1).mono (show 1 + 5 ≤ 25 by decide) (Nat.le_refl _)
  have g2 := (gC.up k).mono (show k + 5 ≤ 25 by omega) (Nat.le_refl _)
  have g3 := (g0.by g1 (· || ·)).mono (show max 25 25 ≤ 25 by decide) (show 3 * 3 ≤ 9 by decide)
  have g4 := (g3.by g2 (· || ·)).mono (show max 25 25 ≤ 25 by decide) (show 9 * 3 ≤ 27 by decide)
  have hk3 : ∀ j ∈ [0, 1, k], j ≤ 20 := fun j hj => by
    rcases List.mem_cons.mp hj with e | hj
    · omega
    rcases List.mem_cons.mp hj with e | hj
    · omega
    · rw [List.mem_singleton.mp hj]; omega
  refine xb_lc 21 (xl_lc (l := [0, 1, k]) (f := fun j : Nat => PyData.int (j : Nat)) 24 (fun j : Nat => encT (upBy C_ j)) sc_law.nd (xi_tup (xe_tup (xa_cons xe_int (xa_cons xe_int (xa_cons (xe_var 5) xa_nil))))) (fun _ _ _ _ _ j hj => (xe_call c_shifted_up (hr.mono (by decide)) (xa_cons (xe_call (c_law_copied T 2) (hr.mono (by decide)) (xa_cons (xe_var 19) xa_nil) (f_copy gC (by decide) (by decide))) (xa_cons (xe_var 24) xa_nil)) (f_up gC j (by have := hk3 j hj; omega) (by decide)))) (by exact Nat.le_of_ble_eq_true rfl)) ?_ sc_law.nd
  show XB _ [.own (scrR K ns), .own (strmR p q (m2)), .dat dT, .dat (encT A_), .dat (encT B_), .dat (.int (k : Nat)), .dat (encT J_), .dat (encT M_), x8, x9, x10, .dat (.list ([ins, ins, ins].map .bool)), .dat (.list [encT (otherOf A_), encT (otherOf B_)]), .dat (.bool ins), .dat (encT U_), .dat (encN rw_), .dat (encT L_), .dat (encT D_), .dat (encN ls), .dat (encT C_), .dat (encT Z_), .dat (.list [encT (upBy C_ 0), encT (upBy C_ 1), encT (upBy C_ k)]), .no, x23, x24] _ _
  have p0 : IxD (.list [encT (upBy C_ 0), encT (upBy C_ 1), encT (upBy C_ k)]) 0 (encT (upBy C_ 0)) := .lst rfl
  have p1 : IxD (.list [encT (upBy C_ 0), encT (upBy C_ 1), encT (upBy C_ k)]) 1 (encT (upBy C_ 1)) := .lst rfl
  have p2 : IxD (.list [encT (upBy C_ 0), encT (upBy C_ 1), encT (upBy C_ k)]) 2 (encT (upBy C_ k)) := .lst rfl
  refine xb_ifR (k := false) (xt_eq (xt_not (xt_tru (xe_call (c_law_same T 3) (hr.mono (by decide)) (xa_cons (xe_var 20) (xa_cons (xe_call c_union_of (hr.mono (by decide)) (xa_cons (xe_call c_union_of (hr.mono (by decide)) (xa_cons (xe_ix (xe_var 21) xe_int p0) (xa_cons (xe_ix (xe_var 21) xe_int p1) xa_nil)) (f_union g0 g1 (by decide) (by decide) (by decide) (by decide) (by decide))) (xa_cons (xe_ix (xe_var 21) xe_int p2) xa_nil)) (f_union g3 g2 (by decide) (by decide) (by decide) (by decide) (by decide))) xa_nil)) (f_same 3 (tree_enc 1 g4 (by decide) (by decide)) (by rw [eZ]))))) rfl) (fun h => (nomatch h)) (fun _ => ?_)
  exact xb_nil ⟨m2, _, _, _, _, _, _, _, _, _, _, _, _, _, _, _, _, _, _, _, _, _, _, _, by omega, rfl⟩
end
end K17

set_option Elab.async false
set_option linter.all false
set_option maxRecDepth 100000
set_option maxHeartbeats 4000000
namespace K17
open PySem PySem.Spec PyProof.Rows L2 Dl Sm
theorem ok_law {P : Program} {w : World} {K : PySem.W.Frag} {mg : Str → Option Value} {base : Heap} {fa : Addr} {fd : FuncData} (T : Txt K mg) (F : Fun K "law" "law" s_law fa fd) : FnOk P w K mg base CX0 7 fa fd ["script"] (SpLaw K) := by
  have is_row := c_is_row (P := P) (w := w) (base := base) T
  have is_truths := c_is_truths T is_row
  have round_size := c_round_size (P := P) (w := w) (base := base) T
  have least_of := c_least_of T round_size
  have set_in := c_set_in T is_row is_truths least_of
  have need_set := c_need_set T set_in
  have need_sets := c_need_sets T need_set set_in
  have told_set := c_told_set (P := P) (w := w) (base := base) T
  have in_set := c_in_set (P := P) (w := w) (base := base) T
  have common_round := c_common_round (P := P) (w := w) (base := base) T
  have is_number := c_is_number (P := P) (w := w) (base := base) T
  have set_by := c_set_by T common_round in_set least_of
  have either_set := c_either_set T set_by
  have both_set := c_both_set T set_by
  have other_set := c_other_set (P := P) (w := w) (base := base) T
  have first_of := c_first_of T in_set
  have has_number := c_has_number T in_set is_number need_set
  have set_of := c_set_of T is_number is_row least_of told_set
  have numbers_below := c_numbers_below T in_set is_number need_set
  have union_of := c_union_of T either_set need_sets told_set
  have meet_of := c_meet_of T both_set need_sets told_set
  have rest_of := c_rest_of T need_set other_set told_set
  have is_within := c_is_within T first_of need_sets set_by
  have first_number := c_first_number T first_of need_set
  have first_apart := c_first_apart T first_of need_sets set_by
  have need_by := c_need_by T is_number
  have up_by := c_up_by T least_of
  have down_by := c_down_by T in_set least_of
  have low_by := c_low_by T down_by in_set least_of
  have mask_of := c_mask_of T in_set
  have sum_set := c_sum_set T common_round in_set least_of mask_of
  have shifted_up := c_shifted_up T need_by need_set told_set up_by
  have shifted_down := c_shifted_down T need_by need_set told_set down_by
  have lowered := c_lowered T need_by need_set told_set low_by
  have sums_of := c_sums_of T need_sets sum_set told_set
  have below := c_law_below (P := P) (w := w) (base := base) T
  have start := c_law_start (P := P) (w := w) (base := base) T
  have chance := c_law_chance T below
  have ktruths := c_law_ktruths T chance
  have kset := c_law_kset T below chance ktruths
  have kset_in := c_law_kset_in (P := P) (w := w) (base := base) T
  have kset_form := c_law_kset_form (P := P) (w := w) (base := base) T
  have kset_least := c_law_kset_least T kset_form kset_in
  exact fn_law F sc_law rfl (by decide) fun X hX ns hl => law_body T below kset start kset_in kset_least first_apart first_number has_number is_within lowered meet_of numbers_below rest_of set_of shifted_down shifted_up sums_of union_of X hX ns hl
end K17

set_option Elab.async false
set_option linter.all false
set_option maxRecDepth 100000
set_option maxHeartbeats 4000000
namespace K17
open PySem PySem.Spec PyProof.Rows L2 Dl
theorem at_mk {K : PySem.W.Frag} {h : Heap} {mg : Str → Option Value} {x : Str} {st : Stmt} {ps : List Str} {f : Addr} {oc : Value} {od an : Option Addr} {osl : Array (Option Value)} {kV doc pm cdv ct : Value} (X : K.In h) (G : h.Ns mainGlobals mg)
    (hb : ∀ (kV doc pm : Value) (an : Option Addr) (cdv ct : Value) (us : List Value), us.length = ps.length → bindArgs (PySem.W.fnOf x x (defArgs st) (defBody st) (defScope st) .none kV doc pm an cdv ct) ⟨us, []⟩ = pure (ps.zip us))
    (a : PySem.W.nsIn K mainGlobals x = some (some (.ref f))) (l : K.lookup f = some ⟨oc, od, .func (PySem.W.fnOf x x (defArgs st) (defBody st) (defScope st) .none kV doc pm an cdv ct), osl⟩) (c : PySem.W.codeIn K cdv x = true) (k : PySem.W.keepIn K (.ref f) = true) : At K mg x st ps :=
  ⟨f, _, PySem.W.mg_of X G a, fun_mk l c k, (fun_mk l c k).binds hb⟩
theorem int_mk {K : PySem.W.Frag} {h : Heap} {mg : Str → Option Value} {x : Str} {i : Int} {t : Tok} (X : K.In h) (G : h.Ns mainGlobals mg) (a : PySem.W.nsIn K mainGlobals x = some (some (.int i t))) : ∃ t, mg x = some (.int i t) := ⟨t, PySem.W.mg_of X G a⟩
theorem walkL {l : PySem.W.OpenLaw} {q : Program} {loose : List Str} {XP : (Str → Option Value) → Heap → Prop} {YP : World → Heap → Prop} {d : DefRec} {K : Params → PySem.W.Frag} (hn : l.most = some 63) (hdf : d.params.defaults = []) (hd : d.name = "law")
    (hY : ∀ (w : World) (h : Heap), YP w h → (K w.params).In h)
    (F : ∀ (w : World) (mg : Str → Option Value) (h : Heap), (K w.params).In h → h.Ns mainGlobals mg → Txt (K w.params) mg) :
    PySem.W.WalkO q loose XP YP l.row.toRowW d [] (fun f vs => PySem.call f vs) :=
  L2.walk_of (n := 63) (k := 7) (x := "script") (CX := fun _ => CX0) (sp := fun w => SpLaw (K w.params)) hn (by decide) hdf ⟨rfl, by decide, by decide⟩ hY (fun w mg fa h X G hfa => by
    have T := F w mg h X G
    obtain ⟨f, fd, h1, h2, _⟩ := T.a_law.ex
    rw [hd, h1] at hfa
    cases hfa
    refine ⟨fd, ?_, fun base _ _ => ok_law T h2⟩
    obtain ⟨oc, od, kV, doc, pm, an, cdv, ct, osl, rfl, lk, hcd⟩ := h2.ex
    exact fun s v => .of_eq rfl) (fun _ _ a ns hl _ hS => ⟨a, ns, rfl, hS, hl, fun _ => rfl⟩) fun _ _ _ _ _ z => z
end K17
open PySem PySem.W PyProof.Rows
set_option maxRecDepth 100000 in
set_option maxHeartbeats 0 in
theorem PySem.Challenge.cw_swornfilters_k17_whole_sets_hang_togethe_holds : PySem.Challenge.rw_swornfilters_k17_whole_sets_hang_togethe.Holds := by
  w_on; o_law; k_head; (case hw => w_witness2)
  k_fill
  refine K17.walkL (l := PySem.Challenge.rw_swornfilters_k17_whole_sets_hang_togethe) rfl rfl rfl (fun w h Y => PySem.W.kIn_of Y) ?F
  case F =>
    intro w mg h KX G
    refine' K17.Txt.mk (K17.at_mk (st := K17.s_is_row) KX G (fun _ _ _ _ _ _ us hl => match us, hl with | [_], _ => rfl) ?a0 ?l0 ?c0 ?k0)
      (K17.at_mk (st := K17.s_is_number) KX G (fun _ _ _ _ _ _ us hl => match us, hl with | [_, _, _], _ => rfl) ?a1 ?l1 ?c1 ?k1)
      (K17.at_mk (st := K17.s_is_truths) KX G (fun _ _ _ _ _ _ us hl => match us, hl with | [_], _ => rfl) ?a2 ?l2 ?c2 ?k2)
      (K17.at_mk (st := K17.s_round_size) KX G (fun _ _ _ _ _ _ us hl => match us, hl with | [_], _ => rfl) ?a3 ?l3 ?c3 ?k3)
      (K17.at_mk (st := K17.s_least_of) KX G (fun _ _ _ _ _ _ us hl => match us, hl with | [_, _], _ => rfl) ?a4 ?l4 ?c4 ?k4)
      (K17.at_mk (st := K17.s_set_in) KX G (fun _ _ _ _ _ _ us hl => match us, hl with | [_], _ => rfl) ?a5 ?l5 ?c5 ?k5)
      (K17.at_mk (st := K17.s_need_set) KX G (fun _ _ _ _ _ _ us hl => match us, hl with | [_], _ => rfl) ?a6 ?l6 ?c6 ?k6)
      (K17.at_mk (st := K17.s_need_sets) KX G (fun _ _ _ _ _ _ us hl => match us, hl with | [_, _], _ => rfl) ?a7 ?l7 ?c7 ?k7)
      (K17.at_mk (st := K17.s_told_set) KX G (fun _ _ _ _ _ _ us hl => match us, hl with | [_], _ => rfl) ?a8 ?l8 ?c8 ?k8)
      (K17.at_mk (st := K17.s_in_set) KX G (fun _ _ _ _ _ _ us hl => match us, hl with | [_, _], _ => rfl) ?a9 ?l9 ?c9 ?k9)
      (K17.at_mk (st := K17.s_common_round) KX G (fun _ _ _ _ _ _ us hl => match us, hl with | [_, _], _ => rfl) ?a10 ?l10 ?c10 ?k10)
      (K17.at_mk (st := K17.s_set_by) KX G (fun _ _ _ _ _ _ us hl => match us, hl with | [_, _, _], _ => rfl) ?a11 ?l11 ?c11 ?k11)
      (K17.at_mk (st := K17.s_either_set) KX G (fun _ _ _ _ _ _ us hl => match us, hl with | [_, _], _ => rfl) ?a12 ?l12 ?c12 ?k12)
      (K17.at_mk (st := K17.s_both_set) KX G (fun _ _ _ _ _ _ us hl => match us, hl with | [_, _], _ => rfl) ?a13 ?l13 ?c13 ?k13)
      (K17.at_mk (st := K17.s_other_set) KX G (fun _ _ _ _ _ _ us hl => match us, hl with | [_], _ => rfl) ?a14 ?l14 ?c14 ?k14)
      (K17.at_mk (st := K17.s_first_of) KX G (fun _ _ _ _ _ _ us hl => match us, hl with | [_], _ => rfl) ?a15 ?l15 ?c15 ?k15)
      (K17.at_mk (st := K17.s_has_number) KX G (fun _ _ _ _ _ _ us hl => match us, hl with | [_, _], _ => rfl) ?a16 ?l16 ?c16 ?k16)
      (K17.at_mk (st := K17.s_set_of) KX G (fun _ _ _ _ _ _ us hl => match us, hl with | [_], _ => rfl) ?a17 ?l17 ?c17 ?k17)
      (K17.at_mk (st := K17.s_numbers_below) KX G (fun _ _ _ _ _ _ us hl => match us, hl with | [_, _], _ => rfl) ?a18 ?l18 ?c18 ?k18)
      (K17.at_mk (st := K17.s_union_of) KX G (fun _ _ _ _ _ _ us hl => match us, hl with | [_, _], _ => rfl) ?a19 ?l19 ?c19 ?k19)
      (K17.at_mk (st := K17.s_meet_of) KX G (fun _ _ _ _ _ _ us hl => match us, hl with | [_, _], _ => rfl) ?a20 ?l20 ?c20 ?k20)
      (K17.at_mk (st := K17.s_rest_of) KX G (fun _ _ _ _ _ _ us hl => match us, hl with | [_], _ => rfl) ?a21 ?l21 ?c21 ?k21)
      (K17.at_mk (st := K17.s_is_within) KX G (fun _ _ _ _ _ _ us hl => match us, hl with | [_, _], _ => rfl) ?a22 ?l22 ?c22 ?k22)
      (K17.at_mk (st := K17.s_first_number) KX G (fun _ _ _ _ _ _ us hl => match us, hl with | [_], _ => rfl) ?a23 ?l23 ?c23 ?k23)
      (K17.at_mk (st := K17.s_first_apart) KX G (fun _ _ _ _ _ _ us hl => match us, hl with | [_, _], _ => rfl) ?a24 ?l24 ?c24 ?k24)
      (K17.at_mk (st := K17.s_need_by) KX G (fun _ _ _ _ _ _ us hl => match us, hl with | [_], _ => rfl) ?a25 ?l25 ?c25 ?k25)
      (K17.at_mk (st := K17.s_up_by) KX G (fun _ _ _ _ _ _ us hl => match us, hl with | [_, _], _ => rfl) ?a26 ?l26 ?c26 ?k26)
      (K17.at_mk (st := K17.s_down_by) KX G (fun _ _ _ _ _ _ us hl => match us, hl with | [_, _], _ => rfl) ?a27 ?l27 ?c27 ?k27)
      (K17.at_mk (st := K17.s_low_by) KX G (fun _ _ _ _ _ _ us hl => match us, hl with | [_, _], _ => rfl) ?a28 ?l28 ?c28 ?k28)
      (K17.at_mk (st := K17.s_mask_of) KX G (fun _ _ _ _ _ _ us hl => match us, hl with | [_, _], _ => rfl) ?a29 ?l29 ?c29 ?k29)
      (K17.at_mk (st := K17.s_sum_set) KX G (fun _ _ _ _ _ _ us hl => match us, hl with | [_, _], _ => rfl) ?a30 ?l30 ?c30 ?k30)
      (K17.at_mk (st := K17.s_shifted_up) KX G (fun _ _ _ _ _ _ us hl => match us, hl with | [_, _], _ => rfl) ?a31 ?l31 ?c31 ?k31)
      (K17.at_mk (st := K17.s_shifted_down) KX G (fun _ _ _ _ _ _ us hl => match us, hl with | [_, _], _ => rfl) ?a32 ?l32 ?c32 ?k32)
      (K17.at_mk (st := K17.s_lowered) KX G (fun _ _ _ _ _ _ us hl => match us, hl with | [_, _], _ => rfl) ?a33 ?l33 ?c33 ?k33)
      (K17.at_mk (st := K17.s_sums_of) KX G (fun _ _ _ _ _ _ us hl => match us, hl with | [_, _], _ => rfl) ?a34 ?l34 ?c34 ?k34)
      (K17.at_mk (st := K17.s_law_start) KX G (fun _ _ _ _ _ _ us hl => match us, hl with | [_], _ => rfl) ?a35 ?l35 ?c35 ?k35)
      (K17.at_mk (st := K17.s_law_below) KX G (fun _ _ _ _ _ _ us hl => match us, hl with | [_, _], _ => rfl) ?a36 ?l36 ?c36 ?k36)
      (K17.at_mk (st := K17.s_law_chance) KX G (fun _ _ _ _ _ _ us hl => match us, hl with | [_, _], _ => rfl) ?a37 ?l37 ?c37 ?k37)
      (K17.at_mk (st := K17.s_law_copied) KX G (fun _ _ _ _ _ _ us hl => match us, hl with | [_], _ => rfl) ?a38 ?l38 ?c38 ?k38)
      (K17.at_mk (st := K17.s_law_same) KX G (fun _ _ _ _ _ _ us hl => match us, hl with | [_, _], _ => rfl) ?a39 ?l39 ?c39 ?k39)
      (K17.at_mk (st := K17.s_law_ktruths) KX G (fun _ _ _ _ _ _ us hl => match us, hl with | [_, _], _ => rfl) ?a40 ?l40 ?c40 ?k40)
      (K17.at_mk (st := K17.s_law_kset) KX G (fun _ _ _ _ _ _ us hl => match us, hl with | [_, _], _ => rfl) ?a41 ?l41 ?c41 ?k41)
      (K17.at_mk (st := K17.s_law_kset_in) KX G (fun _ _ _ _ _ _ us hl => match us, hl with | [_, _], _ => rfl) ?a42 ?l42 ?c42 ?k42)
      (K17.at_mk (st := K17.s_law_kset_form) KX G (fun _ _ _ _ _ _ us hl => match us, hl with | [_, _, _], _ => rfl) ?a43 ?l43 ?c43 ?k43)
      (K17.at_mk (st := K17.s_law_kset_least) KX G (fun _ _ _ _ _ _ us hl => match us, hl with | [_], _ => rfl) ?a44 ?l44 ?c44 ?k44)
      (K17.at_mk (st := K17.s_law) KX G (fun _ _ _ _ _ _ us hl => match us, hl with | [_], _ => rfl) ?a45 ?l45 ?c45 ?k45)
      (PySem.W.mg_none_of KX G ?zg0)
      (PySem.W.mg_none_of KX G ?zg1)
      (PySem.W.mg_none_of KX G ?zg2)
      (PySem.W.mg_none_of KX G ?zg3)
      (PySem.W.mg_none_of KX G ?zg4)
      (PySem.W.mg_none_of KX G ?zg5)
      (PySem.W.mg_none_of KX G ?zg6)
      (PySem.W.mg_none_of KX G ?zg7)
      (PySem.W.mg_none_of KX G ?zg8)
      (PySem.W.mg_none_of KX G ?zg9)
      (PySem.W.mg_none_of KX G ?zg10)
      (PySem.W.mg_none_of KX G ?zg11)
      (PySem.W.mg_none_of KX G ?zg12)
      (PySem.W.mg_none_of KX G ?zg13)
      (K17.int_mk KX G ?m0)
    (case a0 => k_is); (case l0 => k_is); (case c0 => k_is); (case k0 => k_is)
    (case a1 => k_is); (case l1 => k_is); (case c1 => k_is); (case k1 => k_is)
    (case a2 => k_is); (case l2 => k_is); (case c2 => k_is); (case k2 => k_is)
    (case a3 => k_is); (case l3 => k_is); (case c3 => k_is); (case k3 => k_is)
    (case a4 => k_is); (case l4 => k_is); (case c4 => k_is); (case k4 => k_is)
    (case a5 => k_is); (case l5 => k_is); (case c5 => k_is); (case k5 => k_is)
    (case a6 => k_is); (case l6 => k_is); (case c6 => k_is); (case k6 => k_is)
    (case a7 => k_is); (case l7 => k_is); (case c7 => k_is); (case k7 => k_is)
    (case a8 => k_is); (case l8 => k_is); (case c8 => k_is); (case k8 => k_is)
    (case a9 => k_is); (case l9 => k_is); (case c9 => k_is); (case k9 => k_is)
    (case a10 => k_is); (case l10 => k_is); (case c10 => k_is); (case k10 => k_is)
    (case a11 => k_is); (case l11 => k_is); (case c11 => k_is); (case k11 => k_is)
    (case a12 => k_is); (case l12 => k_is); (case c12 => k_is); (case k12 => k_is)
    (case a13 => k_is); (case l13 => k_is); (case c13 => k_is); (case k13 => k_is)
    (case a14 => k_is); (case l14 => k_is); (case c14 => k_is); (case k14 => k_is)
    (case a15 => k_is); (case l15 => k_is); (case c15 => k_is); (case k15 => k_is)
    (case a16 => k_is); (case l16 => k_is); (case c16 => k_is); (case k16 => k_is)
    (case a17 => k_is); (case l17 => k_is); (case c17 => k_is); (case k17 => k_is)
    (case a18 => k_is); (case l18 => k_is); (case c18 => k_is); (case k18 => k_is)
    (case a19 => k_is); (case l19 => k_is); (case c19 => k_is); (case k19 => k_is)
    (case a20 => k_is); (case l20 => k_is); (case c20 => k_is); (case k20 => k_is)
    (case a21 => k_is); (case l21 => k_is); (case c21 => k_is); (case k21 => k_is)
    (case a22 => k_is); (case l22 => k_is); (case c22 => k_is); (case k22 => k_is)
    (case a23 => k_is); (case l23 => k_is); (case c23 => k_is); (case k23 => k_is)
    (case a24 => k_is); (case l24 => k_is); (case c24 => k_is); (case k24 => k_is)
    (case a25 => k_is); (case l25 => k_is); (case c25 => k_is); (case k25 => k_is)
    (case a26 => k_is); (case l26 => k_is); (case c26 => k_is); (case k26 => k_is)
    (case a27 => k_is); (case l27 => k_is); (case c27 => k_is); (case k27 => k_is)
    (case a28 => k_is); (case l28 => k_is); (case c28 => k_is); (case k28 => k_is)
    (case a29 => k_is); (case l29 => k_is); (case c29 => k_is); (case k29 => k_is)
    (case a30 => k_is); (case l30 => k_is); (case c30 => k_is); (case k30 => k_is)
    (case a31 => k_is); (case l31 => k_is); (case c31 => k_is); (case k31 => k_is)
    (case a32 => k_is); (case l32 => k_is); (case c32 => k_is); (case k32 => k_is)
    (case a33 => k_is); (case l33 => k_is); (case c33 => k_is); (case k33 => k_is)
    (case a34 => k_is); (case l34 => k_is); (case c34 => k_is); (case k34 => k_is)
    (case a35 => k_is); (case l35 => k_is); (case c35 => k_is); (case k35 => k_is)
    (case a36 => k_is); (case l36 => k_is); (case c36 => k_is); (case k36 => k_is)
    (case a37 => k_is); (case l37 => k_is); (case c37 => k_is); (case k37 => k_is)
    (case a38 => k_is); (case l38 => k_is); (case c38 => k_is); (case k38 => k_is)
    (case a39 => k_is); (case l39 => k_is); (case c39 => k_is); (case k39 => k_is)
    (case a40 => k_is); (case l40 => k_is); (case c40 => k_is); (case k40 => k_is)
    (case a41 => k_is); (case l41 => k_is); (case c41 => k_is); (case k41 => k_is)
    (case a42 => k_is); (case l42 => k_is); (case c42 => k_is); (case k42 => k_is)
    (case a43 => k_is); (case l43 => k_is); (case c43 => k_is); (case k43 => k_is)
    (case a44 => k_is); (case l44 => k_is); (case c44 => k_is); (case k44 => k_is)
    (case a45 => k_is); (case l45 => k_is); (case c45 => k_is); (case k45 => k_is)
    (case zg0 => k_is)
    (case zg1 => k_is)
    (case zg2 => k_is)
    (case zg3 => k_is)
    (case zg4 => k_is)
    (case zg5 => k_is)
    (case zg6 => k_is)
    (case zg7 => k_is)
    (case zg8 => k_is)
    (case zg9 => k_is)
    (case zg10 => k_is)
    (case zg11 => k_is)
    (case zg12 => k_is)
    (case zg13 => k_is)
    (case m0 => k_is)
#print axioms PySem.Challenge.cw_swornfilters_k17_whole_sets_hang_togethe_holds

