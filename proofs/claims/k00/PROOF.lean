import PyProof.Rows.All
import HandS.ForMost
import HandS.Flow
import HandS.TupAny
import HandS.TupMul
import HandS.Deep
import HandS.IsInst
import HandS.WideBits
import HandS.ExcInit
import HandS.Lambda
import HandS.Zip
import HandS.TryOnly
import HandS.More
import HandS.TryMany
import HandS.ExcField
import HandS.WordsExc
import HandS.DictTup
import KE.KItemsList
import HandS.EndOwn
import HandS.Style
import KE.KExcIs
import HandS.ExcIs
import HandS.ExcValue
import HandS.MakeKw
import HandS.Nested
import PyProof.ReprRoads
import PySem.Challenge.RW_swornfilters_k00_errors_made
import HandS.Head0
import HandS.Head1
import HandS.Head2
import HandS.HeadHook1
import KE.KNestM
set_option Elab.async false
set_option linter.all false
set_option maxRecDepth 100000
set_option maxHeartbeats 4000000
/-! The data level: values as trees, the slots of a frame as trees, expressions and statements over these alone. -/
namespace Dl
open PySem PySem.Spec PyProof.Rows L2

/-! ### what a value is, as a tree -/
/-- a lambda of one parameter e that tells some of e's attributes in a list -/
structure LF where
  qual : Str
  params : Arguments
  body : Expr
  scope : Scope
/-- the object at f is such a function, its code object at c -/
def LamO (f c : Addr) (F : LF) : HO := .ext fun h => ∃ (od : Option Addr) (sl : Array (Option Value)) (pm ctv : Value), h.get? f = some (⟨.type "function", od, (PySem.W.kla_obj "<lambda>" F.qual F.params F.body F.scope [] pm c ctv).data, sl⟩ : Obj)
inductive AttrsOf : List Expr → List Str → Prop
  | nil : AttrsOf [] []
  | cons {n : Str} {es : List Expr} {ns : List Str} (p1 p2 : Pos) : AttrsOf es ns → AttrsOf (.Attribute (.Name "e" p1) n p2 :: es) (n :: ns)
structure LamWell (F : LF) (ns : List Str) : Prop where
  kind : F.scope.kind = .function
  co : F.scope.isCoroutine = false
  gen : F.scope.isGenerator = false
  loc : F.scope.names = [(("e" : Str), NameKind.local)]
  body : ∃ es pos, F.body = .List es pos ∧ AttrsOf es ns
  bind : ∀ (pm cv ctv u : Value), bindArgs (PySem.W.kla_fn "<lambda>" F.qual F.params F.body F.scope [] pm cv ctv) ⟨[u], []⟩ = pure [(("e" : Str), u)]
/-- how errors, lambdas and addresses are told in data -/
abbrev errD (C : Addr) (ns ds : List PyData) : PyData := .dict [(.none, .list [.int (Int.ofNat C), .list ns, .list ds])]
abbrev err0D (C : Addr) : PyData := .dict [(.none, .list [.int (Int.ofNat C)])]
abbrev lamD (ds : List PyData) : PyData := .dict [(.bool true, .list ds)]
abbrev adrD (a : Addr) : PyData := .dict [(.bool false, .int (Int.ofNat a))]
mutual
inductive Rp (K : PySem.W.Frag) (H : Hp) : V → PyData → Prop
  | non : Rp K H .non .none
  | bl (b : Bool) : Rp K H (.bl b) (.bool b)
  | int (i : Int) : Rp K H (.int i) (.int i)
  | str (x : Str) : Rp K H (.str x) (.str x)
  | lst {a : Addr} {xs : List V} {ds : List PyData} : H a = some (.lst xs) → RpA K H xs ds → Rp K H (.ref a) (.list ds)
  | tup {a : Addr} {xs : List V} {ds : List PyData} : SqT K H a xs → RpA K H xs ds → Rp K H (.ref a) (.tuple ds)
  | dic {a : Addr} : H a = some (.dK []) → Rp K H (.ref a) (.dict [])
  | dic1 {a : Addr} (x : Str) (i : Int) : H a = some (.dK [(.inr x, .int i)]) → Rp K H (.ref a) (.dict [(.str x, .int i)])
  | err {a dx C : Addr} {fs : List (Str × V)} {vs : List V} {ns ds : List PyData} : H a = some (exo a C (some dx)) → H dx = some (exd dx fs) → fs.map (fun p => PyData.str p.1) = ns → fs.map (fun p => p.2) = vs → RpA K H vs ds → Rp K H (.ref a) (errD C ns ds)
  | err0 {a C : Addr} : H a = some (exo a C none) → Rp K H (.ref a) (err0D C)
  | lam {f c : Addr} {F : LF} {ns : List Str} {ds : List PyData} : H f = some (LamO f c F) → H c = some (LamX.CodeO c F.qual) → LamWell F ns → ns.map PyData.str = ds → Rp K H (.ref f) (lamD ds)
  | adr (a : Addr) : Rp K H (.ref a) (adrD a)
inductive RpA (K : PySem.W.Frag) (H : Hp) : List V → List PyData → Prop
  | nil : RpA K H [] []
  | cons {v : V} {vs : List V} {d : PyData} {ds : List PyData} : Rp K H v d → RpA K H vs ds → RpA K H (v :: vs) (d :: ds)
end
theorem same_t {K : PySem.W.Frag} {H H' : Hp} {a : Addr} {xs : List V} (e : Same H H') (h : SqT K H a xs) : SqT K H' a xs := by
  rcases h with (h | ⟨o, h⟩) | h
  · exact .inl (.inl (e _ _ h))
  · exact .inl (.inr ⟨o, e _ _ h⟩)
  · exact .inr h
section
variable {K : PySem.W.Frag} {H H' : Hp}
mutual
theorem Rp.mono (e : Same H H') : ∀ {v : V} {d : PyData}, Rp K H v d → Rp K H' v d
  | _, _, .non => .non
  | _, _, .bl b => .bl b
  | _, _, .int i => .int i
  | _, _, .str x => .str x
  | _, _, .lst h r => .lst (e _ _ h) (RpA.mono e r)
  | _, _, .tup h r => .tup (same_t e h) (RpA.mono e r)
  | _, _, .dic h => .dic (e _ _ h)
  | _, _, .dic1 x i h => .dic1 x i (e _ _ h)
  | _, _, .err h1 h2 h3 h4 r => .err (e _ _ h1) (e _ _ h2) h3 h4 (RpA.mono e r)
  | _, _, .err0 h => .err0 (e _ _ h)
  | _, _, .lam h1 h2 h3 h4 => .lam (e _ _ h1) (e _ _ h2) h3 h4
  | _, _, .adr a => .adr a
theorem RpA.mono (e : Same H H') : ∀ {vs : List V} {ds : List PyData}, RpA K H vs ds → RpA K H' vs ds
  | _, _, .nil => .nil
  | _, _, .cons h r => .cons (Rp.mono e h) (RpA.mono e r)
end
mutual
theorem Rp.dp : ∀ {v : V} {d : PyData}, Rp K H v d → PyData.canLay0 d = true → Dp K H v d
  | _, _, .non, _ => .non
  | _, _, .bl b, _ => .bl b
  | _, _, .int i, _ => .int i
  | _, _, .str x, _ => .str x
  | _, _, .lst h r, c => .lst (SqL.of h) (RpA.dp r (by simpa only [PyData.canLay0] using c))
  | _, _, .tup h r, c => .tup h (RpA.dp r (by simpa only [PyData.canLay0] using c))
  | _, _, .dic h, c => by simp [PyData.canLay0] at c
  | _, _, .dic1 x i h, c => by simp [PyData.canLay0] at c
  | _, _, .err h1 h2 h3 h4 r, c => by simp [PyData.canLay0] at c
  | _, _, .err0 h, c => by simp [PyData.canLay0] at c
  | _, _, .lam h1 h2 h3 h4, c => by simp [PyData.canLay0] at c
  | _, _, .adr a, c => by simp [PyData.canLay0] at c
theorem RpA.dp : ∀ {vs : List V} {ds : List PyData}, RpA K H vs ds → PyData.canLayAll0 ds = true → DpAll K H vs ds
  | _, _, .nil, _ => .nil
  | _, _, .cons h r, c => by
    simp only [PyData.canLayAll0, Bool.and_eq_true] at c
    exact .cons (Rp.dp h c.1) (RpA.dp r c.2)
end
theorem RpA.length : ∀ {vs : List V} {ds : List PyData}, RpA K H vs ds → vs.length = ds.length
  | _, _, .nil => rfl
  | _, _, .cons _ r => by rw [List.length_cons, List.length_cons, RpA.length r]
theorem RpA.append : ∀ {vs : List V} {ds : List PyData} {us : List V} {es : List PyData}, RpA K H vs ds → RpA K H us es → RpA K H (vs ++ us) (ds ++ es)
  | _, _, _, _, .nil, s => s
  | _, _, _, _, .cons h r, s => .cons h (RpA.append r s)
theorem RpA.take : ∀ {vs : List V} {ds : List PyData} (n : Nat), RpA K H vs ds → RpA K H (vs.take n) (ds.take n)
  | _, _, 0, _ => .nil
  | _, _, _ + 1, .nil => .nil
  | _, _, n + 1, .cons h r => .cons h (RpA.take n r)
theorem RpA.drop : ∀ {vs : List V} {ds : List PyData} (n : Nat), RpA K H vs ds → RpA K H (vs.drop n) (ds.drop n)
  | _, _, 0, r => r
  | _, _, _ + 1, .nil => .nil
  | _, _, n + 1, .cons _ r => RpA.drop n r
theorem RpA.get : ∀ {vs : List V} {ds : List PyData} {i : Nat} {v : V}, RpA K H vs ds → vs[i]? = some v → ∃ d, ds[i]? = some d ∧ Rp K H v d
  | _, _, _, _, .nil, e => by simp at e
  | _, _, 0, _, .cons h _, e => by simp at e; subst e; exact ⟨_, rfl, h⟩
  | _, _, i + 1, v, .cons _ r, e => by
    obtain ⟨d, h1, h2⟩ := RpA.get (i := i) (v := v) r (by simpa using e)
    exact ⟨d, by simpa using h1, h2⟩
theorem RpA.getD : ∀ {vs : List V} {ds : List PyData} {i : Nat} {d : PyData}, RpA K H vs ds → ds[i]? = some d → ∃ v, vs[i]? = some v ∧ Rp K H v d
  | _, _, _, _, .nil, e => by simp at e
  | _, _, 0, _, .cons h _, e => by simp at e; subst e; exact ⟨_, rfl, h⟩
  | _, _, i + 1, d, .cons _ r, e => by
    obtain ⟨v, h1, h2⟩ := RpA.getD (i := i) (d := d) r (by simpa using e)
    exact ⟨v, by simpa using h1, h2⟩
theorem RpA.set : ∀ {vs : List V} {ds : List PyData} {v : V} {d : PyData} (i : Nat), Rp K H v d → RpA K H vs ds → RpA K H (vs.set i v) (ds.set i d)
  | _, _, _, _, _, _, .nil => .nil
  | _, _, _, _, 0, h, .cons _ r => .cons h r
  | _, _, _, _, i + 1, h, .cons q r => .cons q (RpA.set i h r)
theorem RpA.eraseIdx : ∀ {vs : List V} {ds : List PyData} (i : Nat), RpA K H vs ds → RpA K H (vs.eraseIdx i) (ds.eraseIdx i)
  | _, _, _, .nil => .nil
  | _, _, 0, .cons _ r => r
  | _, _, i + 1, .cons q r => .cons q (RpA.eraseIdx i r)
theorem RpA.rep {vs : List V} {ds : List PyData} (r : RpA K H vs ds) : ∀ n : Nat, RpA K H (List.replicate n vs).flatten (List.replicate n ds).flatten
  | 0 => .nil
  | n + 1 => by
    rw [List.replicate_succ, List.replicate_succ, List.flatten_cons, List.flatten_cons]
    exact r.append (RpA.rep r n)
theorem RpA.ints : ∀ (ns : List Int), RpA K H (ns.map V.int) (ns.map PyData.int)
  | [] => .nil
  | n :: r => .cons (.int n) (RpA.ints r)
theorem RpA.bls : ∀ (ns : List Bool), RpA K H (ns.map V.bl) (ns.map PyData.bool)
  | [] => .nil
  | n :: r => .cons (.bl n) (RpA.bls r)
theorem RpA.ints_inv : ∀ {ns : List Int} {vs : List V}, RpA K H vs (ns.map PyData.int) → vs = ns.map V.int
  | [], _, .nil => rfl
  | n :: r, _, .cons h q => by
    cases h
    rw [RpA.ints_inv q] <;> rfl
theorem RpA.bls_inv : ∀ {ns : List Bool} {vs : List V}, RpA K H vs (ns.map PyData.bool) → vs = ns.map V.bl
  | [], _, .nil => rfl
  | n :: r, _, .cons h q => by
    cases h
    rw [RpA.bls_inv q] <;> rfl
theorem RpA.strs_inv : ∀ {ns : List Str} {vs : List V}, RpA K H vs (ns.map PyData.str) → vs = ns.map V.str
  | [], _, .nil => rfl
  | n :: r, _, .cons h q => by
    cases h
    rw [RpA.strs_inv q] <;> rfl
theorem RpA.strs : ∀ (ns : List Str), RpA K H (ns.map V.str) (ns.map PyData.str)
  | [] => .nil
  | n :: r => .cons (.str n) (RpA.strs r)
end

/-! ### what is owned: an object (or several) that is written, by one place alone -/
structure Res where
  ok : Hp → Hp → V → List Addr → Prop
  loc : ∀ {B B' H H' : Hp} {v : V} {fp : List Addr}, ok B H v fp → Same B B' → (∀ a ∈ fp, H' a = H a) → ok B' H' v fp
inductive Slot where
  | no
  | dat (d : PyData)
  | raw (v : V)
  | own (r : Res)
/-- a list that is filled, its things so far -/
def accR (K : PySem.W.Frag) (ds : List PyData) : Res where
  ok := fun B H v fp => ∃ p xs, v = .ref p ∧ fp = [p] ∧ H p = some (.lst xs) ∧ RpA K B xs ds
  loc := fun {B B' H H' v fp} ⟨p, xs, h1, h2, h3, h4⟩ hb hh => ⟨p, xs, h1, h2, by rw [hh p (by rw [h2]; exact List.mem_singleton.mpr rfl)]; exact h3, h4.mono hb⟩
def SlotOk (K : PySem.W.Frag) (B H : Hp) : Option V → Slot → List Addr → Prop
  | _, .no, fp => fp = []
  | some v, .dat d, fp => fp = [] ∧ Rp K B v d
  | some v, .raw u, fp => fp = [] ∧ v = u
  | some v, .own r, fp => r.ok B H v fp
  | none, _, _ => False
theorem SlotOk.loc {K : PySem.W.Frag} {B B' H H' : Hp} {o : Option V} {s : Slot} {fp : List Addr} (h : SlotOk K B H o s fp) (hb : Same B B') (hh : ∀ a ∈ fp, H' a = H a) : SlotOk K B' H' o s fp := by
  cases s with
  | no => exact h
  | dat d =>
    cases o with
    | none => exact h
    | some v => exact ⟨h.1, h.2.mono hb⟩
  | raw u =>
    cases o with
    | none => exact h
    | some v => exact h
  | own r =>
    cases o with
    | none => exact h
    | some v => exact r.loc h hb hh
/-- what the frame's slots hold: B what never changes, H all; F what is written, by slot -/
structure Wf (K : PySem.W.Frag) (B H : Hp) (σ : L2.St) (δ : List Slot) (F : Nat → List Addr) : Prop where
  bh : Same B H
  len : δ.length = σ.length
  sl : ∀ i s, δ[i]? = some s → ∃ o, σ[i]? = some o ∧ SlotOk K B H o s (F i)
  out : ∀ i, δ.length ≤ i → F i = []
  dis : ∀ i j a, a ∈ F i → a ∈ F j → i = j
  own : ∀ i, ∀ a ∈ F i, B a = none ∧ ∃ o, H a = some o
/-- new objects alone -/
structure Grow (B H B2 H2 : Hp) : Prop where
  bb : Same B B2
  bh : Same B2 H2
  hh : Same H H2
  fr : ∀ b o, H b = some o → B2 b = B b
structure Step (B H : Hp) (F : Nat → List Addr) (B2 H2 : Hp) (F2 : Nat → List Addr) : Prop where
  bb : Same B B2
  keep : ∀ b o, H b = some o → (∀ i, b ∉ F i) → H2 b = some o
  fr : ∀ b o, H b = some o → (∀ i, b ∉ F i) → B2 b = B b
  there : ∀ b o, H b = some o → ∃ o', H2 b = some o'
  fn : ∀ i, ∀ b ∈ F2 i, (∃ j, b ∈ F j) ∨ H b = none
section
variable {K : PySem.W.Frag} {B H B1 H1 B2 H2 : Hp} {σ σ2 : L2.St} {δ δ2 : List Slot} {F F1 F2 : Nat → List Addr}
theorem Grow.refl (h : Same B H) : Grow B H B H := ⟨Same.refl B, h, Same.refl H, fun _ _ _ => rfl⟩
theorem Grow.trans (a : Grow B H B1 H1) (b : Grow B1 H1 B2 H2) : Grow B H B2 H2 :=
  ⟨a.bb.trans b.bb, b.bh, a.hh.trans b.hh, fun c o e => (b.fr c o (a.hh c o e)).trans (a.fr c o e)⟩
theorem same_upd {H : Hp} {p : Addr} {o : HO} (h : H p = none) : Same H (upd H p o) := fun b x e => by
  rw [upd_ne (ne_of_none e h)]
  exact e
theorem same_upd2 {B H : Hp} {p : Addr} {o : HO} (e : Same B H) : Same (upd B p o) (upd H p o) := fun b x h => by
  by_cases hb : b = p
  · subst hb
    rw [upd_same] at h ⊢
    exact h
  · rw [upd_ne hb] at h ⊢
    exact e b x h
theorem Grow.new {p : Addr} {o : HO} (h : Same B H) (hp : H p = none) : Grow B H (upd B p o) (upd H p o) :=
  ⟨same_upd (h.free hp), same_upd2 h, same_upd hp, fun b x e => upd_ne (ne_of_none e hp)⟩
theorem Grow.newH {p : Addr} {o : HO} (h : Same B H) (hp : H p = none) : Grow B H B (upd H p o) :=
  ⟨Same.refl B, h.trans (same_upd hp), same_upd hp, fun _ _ _ => rfl⟩
theorem Wf.grow (W : Wf K B H σ δ F) (g : Grow B H B2 H2) : Wf K B2 H2 σ δ F where
  bh := g.bh
  len := W.len
  sl := fun i s e => by
    obtain ⟨o, h1, h2⟩ := W.sl i s e
    refine ⟨o, h1, h2.loc g.bb fun a ha => ?_⟩
    obtain ⟨_, u, hu⟩ := W.own i a ha
    rw [hu]
    exact g.hh a u hu
  out := W.out
  dis := W.dis
  own := fun i a ha => by
    obtain ⟨h0, u, hu⟩ := W.own i a ha
    exact ⟨(g.fr a u hu).trans h0, u, g.hh a u hu⟩
theorem Step.refl : Step B H F B H F := ⟨Same.refl B, fun _ _ e _ => e, fun _ _ _ _ => rfl, fun _ o e => ⟨o, e⟩, fun i b hb => .inl ⟨i, hb⟩⟩
theorem Step.of (g : Grow B H B2 H2) : Step B H F B2 H2 F := ⟨g.bb, fun b o e _ => g.hh b o e, fun b o e _ => g.fr b o e, fun b o e => ⟨o, g.hh b o e⟩, fun i b hb => .inl ⟨i, hb⟩⟩
theorem Step.trans (a : Step B H F B1 H1 F1) (b : Step B1 H1 F1 B2 H2 F2) : Step B H F B2 H2 F2 where
  bb := a.bb.trans b.bb
  keep := fun c o e n => b.keep c o (a.keep c o e n) fun i hi => by
    rcases a.fn i c hi with ⟨j, hj⟩ | h
    · exact n j hj
    · rw [e] at h
      cases h
  fr := fun c o e n => by
    obtain ⟨o', e'⟩ := a.there c o e
    refine (b.fr c o' e' fun i hi => ?_).trans (a.fr c o e n)
    rcases a.fn i c hi with ⟨j, hj⟩ | h
    · exact n j hj
    · rw [e] at h
      cases h
  there := fun c o e => by
    obtain ⟨o', e'⟩ := a.there c o e
    exact b.there c o' e'
  fn := fun i c hc => by
    rcases b.fn i c hc with ⟨j, hj⟩ | h
    · exact a.fn j c hj
    · cases q : H c with
      | none => exact .inr rfl
      | some o =>
        obtain ⟨o', e'⟩ := a.there c o q
        rw [e'] at h
        cases h
theorem Step.sub (a : Step B H F B2 H2 F1) (h : ∀ i, ∀ b ∈ F2 i, ∃ j, b ∈ F1 j) : Step B H F B2 H2 F2 :=
  ⟨a.bb, a.keep, a.fr, a.there, fun i b hb => by
    obtain ⟨j, hj⟩ := h i b hb
    exact a.fn j b hj⟩
/-- a slot is given a value -/
theorem Wf.put (W : Wf K B H σ δ F) {i : Nat} {v : V} {s : Slot} (hs : SlotOk K B H (some v) s []) : Wf K B H (σ.set i (some v)) (δ.set i s) (fun j => if j = i then [] else F j) where
  bh := W.bh
  len := by rw [List.length_set, List.length_set]; exact W.len
  sl := fun j t e => by
    by_cases hj : j = i
    · subst hj
      have hlt : j < δ.length := by
        have := (List.getElem?_eq_some_iff.mp e).1
        rw [List.length_set] at this
        exact this
      rw [List.getElem?_set_self hlt] at e
      cases e
      refine ⟨some v, List.getElem?_set_self (by rw [← W.len]; exact hlt), ?_⟩
      rw [if_pos rfl]
      exact hs
    · rw [List.getElem?_set_ne (Ne.symm hj)] at e
      obtain ⟨o, h1, h2⟩ := W.sl j t e
      refine ⟨o, by rw [List.getElem?_set_ne (Ne.symm hj)]; exact h1, ?_⟩
      rw [if_neg hj]
      exact h2
  out := fun j hj => by
    rw [List.length_set] at hj
    by_cases h : j = i
    · rw [if_pos h]
    · rw [if_neg h]
      exact W.out j hj
  dis := fun j k a h1 h2 => by
    by_cases hj : j = i
    · rw [if_pos hj] at h1
      cases h1
    · by_cases hk : k = i
      · rw [if_pos hk] at h2
        cases h2
      · rw [if_neg hj] at h1
        rw [if_neg hk] at h2
        exact W.dis j k a h1 h2
  own := fun j a h => by
    by_cases hj : j = i
    · rw [if_pos hj] at h
      cases h
    · rw [if_neg hj] at h
      exact W.own j a h
theorem cut_sub {F : Nat → List Addr} {i : Nat} : ∀ j, ∀ b ∈ (fun j => if j = i then ([] : List Addr) else F j) j, ∃ k, b ∈ F k := fun j b hb => by
  by_cases hj : j = i
  · rw [show (fun j => if j = i then ([] : List Addr) else F j) j = [] from if_pos hj] at hb
    cases hb
  · rw [show (fun j => if j = i then ([] : List Addr) else F j) j = F j from if_neg hj] at hb
    exact ⟨j, hb⟩
/-- the slot of a datum -/
theorem Wf.dat (W : Wf K B H σ δ F) {i : Nat} {d : PyData} (h : δ[i]? = some (.dat d)) : ∃ v, σ[i]? = some (some v) ∧ Rp K B v d := by
  obtain ⟨o, h1, h2⟩ := W.sl i _ h
  cases o with
  | none => exact h2.elim
  | some v => exact ⟨v, h1, h2.2⟩
theorem Wf.raw (W : Wf K B H σ δ F) {i : Nat} {v : V} (h : δ[i]? = some (.raw v)) : σ[i]? = some (some v) := by
  obtain ⟨o, h1, h2⟩ := W.sl i _ h
  cases o with
  | none => exact h2.elim
  | some u =>
    obtain ⟨_, rfl⟩ := h2
    exact h1
end

/-! ### the readings -/
section
variable (K : PySem.W.Frag)
/-- a datum, new objects at most -/
def tD (δ : List Slot) (d : PyData) : TE := fun σ H Q => ∃ B F, Wf K B H σ δ F ∧ ∀ v B2 H2, Grow B H B2 H2 → Rp K B2 v d → Q v H2
/-- a new list -/
def tN (δ : List Slot) (ds : List PyData) : TE := fun σ H Q => ∃ B F, Wf K B H σ δ F ∧ ∀ p xs B2 H2, Grow B H B2 H2 → H p = none → B2 p = none → H2 p = some (.lst xs) → RpA K B2 xs ds → Q (.ref p) H2
/-- a value that is known -/
def tV (δ : List Slot) (u : V) : TE := fun σ H Q => ∃ B F, Wf K B H σ δ F ∧ ∀ B2 H2, Grow B H B2 H2 → Q u H2
def tBo (δ : List Slot) (b : Bool) : TT := fun σ H Q => ∃ B F, Wf K B H σ δ F ∧ ∀ B2 H2, Grow B H B2 H2 → Q b H2
def tA (δ : List Slot) (ds : List PyData) : TA := fun σ H Q => ∃ B F, Wf K B H σ δ F ∧ ∀ vs B2 H2, Grow B H B2 H2 → RpA K B2 vs ds → Q vs H2
def tO (δ : List Slot) (o : Option Int) : TO := fun σ H Q => ∃ B F, Wf K B H σ δ F ∧ ∀ B2 H2, Grow B H B2 H2 → Q o H2
/-- what may change the slots' objects -/
def tE (δ : List Slot) (P : PyData → List Slot → Prop) : TE := fun σ H Q => ∃ B F, Wf K B H σ δ F ∧ ∀ v d δ2 B2 H2 F2, Step B H F B2 H2 F2 → Wf K B2 H2 σ δ2 F2 → P d δ2 → Rp K B2 v d → Q v H2
structure Post where
  nx : List Slot → Prop := fun _ => False
  rt : PyData → List Slot → Prop := fun _ _ => False
  bk : List Slot → Prop := fun _ => False
  ct : List Slot → Prop := fun _ => False
  rr : V → Hp → Hp → Prop := fun _ _ _ => False
  gh : Option (Hp × Hp × (Nat → List Addr)) := none
/-- from the start on -/
def ghOk (g : Option (Hp × Hp × (Nat → List Addr))) (B H : Hp) (F : Nat → List Addr) : Prop := match g with
  | none => True
  | some z => Step z.1 z.2.1 z.2.2 B H F
def tS (δ : List Slot) (R : Post) : TS := fun D σ H => ∃ B F, Wf K B H σ δ F ∧
  (∀ σ2 δ2 B2 H2 F2, Step B H F B2 H2 F2 → Wf K B2 H2 σ2 δ2 F2 → R.nx δ2 → D.nx σ2 H2) ∧
  (∀ v d σ2 δ2 B2 H2 F2, Step B H F B2 H2 F2 → Wf K B2 H2 σ2 δ2 F2 → R.rt d δ2 → Rp K B2 v d → D.rt v H2) ∧
  (∀ σ2 δ2 B2 H2 F2, Step B H F B2 H2 F2 → Wf K B2 H2 σ2 δ2 F2 → R.bk δ2 → D.bk σ2 H2) ∧
  (∀ σ2 δ2 B2 H2 F2, Step B H F B2 H2 F2 → Wf K B2 H2 σ2 δ2 F2 → R.ct δ2 → D.ct σ2 H2) ∧
  (∀ v σ2 δ2 B2 H2 F2, Step B H F B2 H2 F2 → Wf K B2 H2 σ2 δ2 F2 → R.rr v B2 H2 → D.rt v H2) ∧ ghOk R.gh B H F
end
/-! ### the judgements -/
section
variable (X : Cx)
abbrev XE (δ : List Slot) (e : Expr) (d : PyData) : Prop := PE X e (tD X.K δ d)
abbrev XN (δ : List Slot) (e : Expr) (ds : List PyData) : Prop := PE X e (tN X.K δ ds)
abbrev XV (δ : List Slot) (e : Expr) (u : V) : Prop := PE X e (tV X.K δ u)
abbrev XT (δ : List Slot) (e : Expr) (b : Bool) : Prop := PT X e (tBo X.K δ b)
abbrev XW (δ : List Slot) (e : Expr) (b : Bool) : Prop := PW X e (tBo X.K δ b)
abbrev XA (δ : List Slot) (es : List Expr) (ds : List PyData) : Prop := PA X es (tA X.K δ ds)
abbrev XO (δ : List Slot) (e : Option Expr) (o : Option Int) : Prop := PO X e (tO X.K δ o)
abbrev XF (δ : List Slot) (e : Expr) (P : PyData → List Slot → Prop) : Prop := PE X e (tE X.K δ P)
abbrev XS (δ : List Slot) (st : Stmt) (R : Post) : Prop := PS X st (tS X.K δ R)
abbrev XB (δ : List Slot) (sts : List Stmt) (R : Post) : Prop := PSs X sts (tS X.K δ R)
end
section
variable {X : Cx} {e : Expr} {t t' : TE} {δ : List Slot}
theorem _root_.L2.PE.weak (h : PE X e t) (w : ∀ σ H Q, t' σ H Q → t σ H Q) : PE X e t' := ⟨fun pins s σ H Q I q => h.run pins s σ H Q I (w σ H Q q)⟩
theorem _root_.L2.PT.weak {t t' : TT} (h : PT X e t) (w : ∀ σ H Q, t' σ H Q → t σ H Q) : PT X e t' := ⟨fun pins s σ H Q I q => h.run pins s σ H Q I (w σ H Q q)⟩
theorem _root_.L2.PW.weak {t t' : TT} (h : PW X e t) (w : ∀ σ H Q, t' σ H Q → t σ H Q) : PW X e t' := ⟨fun wh pins s σ H Q I q => h.run wh pins s σ H Q I (w σ H Q q)⟩
theorem _root_.L2.PA.weak {es : List Expr} {t t' : TA} (h : PA X es t) (w : ∀ σ H Q, t' σ H Q → t σ H Q) : PA X es t' := ⟨fun p pins s σ H Q I q => h.run p pins s σ H Q I (w σ H Q q)⟩
theorem _root_.L2.PO.weak {o : Option Expr} {t t' : TO} (h : PO X o t) (w : ∀ σ H Q, t' σ H Q → t σ H Q) : PO X o t' := ⟨fun pins s σ H Q I q => h.run pins s σ H Q I (w σ H Q q)⟩
theorem _root_.L2.PS.weak {st : Stmt} {t t' : TS} (h : PS X st t) (w : ∀ D σ H, t' D σ H → t D σ H) : PS X st t' := ⟨fun pins s σ H D I q => h.run pins s σ H D I (w D σ H q)⟩
theorem _root_.L2.PSs.weak {st : List Stmt} {t t' : TS} (h : PSs X st t) (w : ∀ D σ H, t' D σ H → t D σ H) : PSs X st t' := ⟨fun pins s σ H D I q => h.run pins s σ H D I (w D σ H q)⟩
end
end Dl

set_option Elab.async false
set_option linter.all false
set_option maxRecDepth 100000
set_option maxHeartbeats 4000000
/-! The data level: expressions. -/
namespace Dl
open PySem PySem.Spec PyProof.Rows L2

theorem room65 {k : Nat} {A : Around} (hr : Room k A) : A.units + 65 < cLine := by
  have := hr.un
  omega
section
variable {X : Cx} {δ : List Slot} {a b c e : Expr} {pos : Pos} {d d1 d2 d3 : PyData} {ds : List PyData} {rest es : List Expr}
/-! ### names, constants -/
theorem xe_var (i : Nat) {x : Str} (h : δ[i]? = some (.dat d) := by rfl) (hN : X.N[i]? = some x := by rfl) (hv : Vis X.env.scope x := by first | exact Or.inl rfl | exact Or.inr (Or.inl rfl) | exact Or.inr (Or.inr rfl)) (hd : (x == ("__debug__" : Str)) = false := by decide)
    (hcd : (x == ("__classdict__" : Str)) = false := by decide) : XE X δ (.Name x pos) d :=
  (pe_var (i := i) hN hv hd hcd).weak fun σ H Q ⟨B, F, W, q⟩ => by
    obtain ⟨v, h1, h2⟩ := W.dat h
    exact ⟨v, h1, q v B H (Grow.refl W.bh) h2⟩
theorem xv_var (i : Nat) {x : Str} {v : V} (h : δ[i]? = some (.raw v) := by rfl) (hN : X.N[i]? = some x := by rfl) (hv : Vis X.env.scope x := by first | exact Or.inl rfl | exact Or.inr (Or.inl rfl) | exact Or.inr (Or.inr rfl)) (hd : (x == ("__debug__" : Str)) = false := by decide)
    (hcd : (x == ("__classdict__" : Str)) = false := by decide) : XV X δ (.Name x pos) v :=
  (pe_var (i := i) hN hv hd hcd).weak fun σ H Q ⟨B, F, W, q⟩ => ⟨v, W.raw h, q B H (Grow.refl W.bh)⟩
theorem xe_c {v : V} (h : PE X e (tC v)) (r : ∀ B, Rp X.K B v d) : XE X δ e d := h.weak fun σ H Q ⟨B, F, W, q⟩ => q v B H (Grow.refl W.bh) (r B)
theorem xe_int {i : Int} {j} : XE X δ (.Constant (.int i) j pos) (.int i) := xe_c pe_int fun _ => .int i
theorem xe_bl {i : Bool} {j} : XE X δ (.Constant (.bool i) j pos) (.bool i) := xe_c pe_bl fun _ => .bl i
theorem xe_non {j} : XE X δ (.Constant .none j pos) .none := xe_c pe_non fun _ => .non
theorem xe_str {i : Str} {j} : XE X δ (.Constant (.str i) j pos) (.str i) := xe_c pe_str fun _ => .str i
/-- a module's constant -/
theorem xe_gint {x : Str} {i : Int} {t : Tok} (hm : X.mg x = some (.int i t)) (hg : Gl X x := by rfl) (hd : (x == ("__debug__" : Str)) = false := by decide) : XE X δ (.Name x pos) (.int i) :=
  xe_c (pe_glob (v := .int i) hg hm ⟨t, rfl⟩ hd) fun _ => .int i
theorem xe_gstr {x : Str} {i : Str} {t : Tok} (hm : X.mg x = some (.str i t)) (hg : Gl X x := by rfl) (hd : (x == ("__debug__" : Str)) = false := by decide) : XE X δ (.Name x pos) (.str i) :=
  xe_c (pe_glob (v := .str i) hg hm ⟨t, rfl⟩ hd) fun _ => .str i
theorem xv_c {v : V} (h : PE X e (tC v)) : XV X δ e v := h.weak fun σ H Q ⟨B, F, W, q⟩ => q B H (Grow.refl W.bh)
theorem xe_eq (h : XE X δ e d1) (q : d1 = d) : XE X δ e d := by
  rw [← q]
  exact h
/-- what is never come to -/
theorem pe_bot : PE X e (fun _ _ _ => False) := ⟨fun _ _ _ _ _ _ h => h.elim⟩
theorem pt_bot : PT X e (fun _ _ _ => False) := ⟨fun _ _ _ _ _ _ h => h.elim⟩
theorem pw_bot : PW X e (fun _ _ _ => False) := ⟨fun _ _ _ _ _ _ _ h => h.elim⟩

/-! ### operators -/
def RD (K : PySem.W.Frag) (r : R2) (d1 d2 d : PyData) : Prop := ∀ (B H : Hp) (x y : V) (Q : VK), Same B H → Rp K B x d1 → Rp K B y d2 → (∀ v B2 H2, Grow B H B2 H2 → Rp K B2 v d → Q v H2) → r x y H Q
def RU (K : PySem.W.Frag) (r : V → Hp → VK → Prop) (d1 d : PyData) : Prop := ∀ (B H : Hp) (x : V) (Q : VK), Same B H → Rp K B x d1 → (∀ v B2 H2, Grow B H B2 H2 → Rp K B2 v d → Q v H2) → r x H Q
theorem op_weak {r : R2} (ha : XE X δ a d1) (hb : XE X δ b d2) (hr : RD X.K r d1 d2 d) : ∀ σ H Q, tD X.K δ d σ H Q → tOp r (tD X.K δ d1) (tD X.K δ d2) σ H Q := fun σ H Q ⟨B, F, W, q⟩ =>
  ⟨B, F, W, fun x B1 H1 g1 r1 => ⟨B1, F, W.grow g1, fun y B2 H2 g2 r2 => hr B2 H2 x y Q g2.bh (r1.mono g2.bb) r2 fun v B3 H3 g3 r3 => q v B3 H3 ((g1.trans g2).trans g3) r3⟩⟩
theorem xe_op {op : Operator} {r : R2} (ho : OpR X (binaryOp op) r) (ha : XE X δ a d1) (hb : XE X δ b d2) (hr : RD X.K r d1 d2 d) : XE X δ (.BinOp a op b pos) d := (pe_op ho ha hb).weak (op_weak ha hb hr)
theorem xe_un {op : UnaryOp} {r : V → Hp → VK → Prop} (ho : UnR X (unaryOp op) r) (ha : XE X δ a d1) (hr : RU X.K r d1 d) : XE X δ (.UnaryOp op a pos) d := (pe_un ho ha).weak fun σ H Q ⟨B, F, W, q⟩ =>
  ⟨B, F, W, fun x B1 H1 g1 r1 => hr B1 H1 x Q g1.bh r1 fun v B2 H2 g2 r2 => q v B2 H2 (g1.trans g2) r2⟩
theorem rd_I0 {K : PySem.W.Frag} {g : Int → Int → V} {i j : Int} (h : ∀ B, Rp K B (g i j) d) : RD K (rI0 g) (.int i) (.int j) d := fun B H x y Q s rx ry q => by
  cases rx
  cases ry
  exact ⟨i, j, rfl, rfl, q _ B H (Grow.refl s) (h B)⟩
theorem rd_I {K : PySem.W.Frag} {C : Int → Int → Prop} {g : Int → Int → V} {i j : Int} (hc : C i j) (h : ∀ B, Rp K B (g i j) d) : RD K (rI C g) (.int i) (.int j) d := fun B H x y Q s rx ry q => by
  cases rx
  cases ry
  exact ⟨i, j, rfl, rfl, hc, q _ B H (Grow.refl s) (h B)⟩
theorem sz_of {n : Nat} (h : n ≤ 1000000) : n ≤ sizeLine := by
  rw [sizeLine_eq]
  omega
theorem rd_cat {K : PySem.W.Frag} {xs ys : List PyData} (hz : xs.length + ys.length ≤ 1000000) : RD K rCat (.list xs) (.list ys) (.list (xs ++ ys)) := fun B H x y Q s rx ry q => by
  cases rx with
  | @lst a us _ h1 r1 =>
    cases ry with
    | @lst b ws _ h2 r2 =>
      refine ⟨_, _, _, _, rfl, rfl, s _ _ h1, s _ _ h2, sz_of (by rw [r1.length, r2.length]; exact hz), fun p hp => ?_⟩
      have g := Grow.new (o := .lst (us ++ ws)) s hp
      exact q _ _ _ g (.lst upd_same ((r1.append r2).mono g.bb))
theorem rd_catT {K : PySem.W.Frag} {xs ys : List PyData} (hz : xs.length + ys.length ≤ 1000000) : RD K (rCatA K) (.tuple xs) (.tuple ys) (.tuple (xs ++ ys)) := fun B H x y Q s rx ry q => by
  cases rx with
  | @tup a us _ h1 r1 =>
    cases ry with
    | @tup b ws _ h2 r2 =>
      refine ⟨_, _, _, _, rfl, rfl, same_t s h1, same_t s h2, sz_of (by rw [r1.length, r2.length]; exact hz), fun e => ?_, fun n e => ?_, fun n m p hp => ?_⟩
      · subst e
        cases r1
        exact q _ B H (Grow.refl s) (.tup h2 r2)
      · subst e
        cases r2
        rw [List.append_nil] at q
        exact q _ B H (Grow.refl s) (.tup h1 r1)
      · have g := Grow.new (o := .tup (us ++ ws)) s hp
        exact q _ _ _ g (.tup (.inl (.inl upd_same)) ((r1.append r2).mono g.bb))
theorem rd_rep {K : PySem.W.Frag} {xs : List PyData} {k : Int} (hk : 0 ≤ k) (hk2 : k ≤ 1000000) (hz : xs.length * k.toNat ≤ 1000000) : RD K rRep (.list xs) (.int k) (.list (List.replicate k.toNat xs).flatten) := fun B H x y Q s rx ry q => by
  cases ry
  cases rx with
  | @lst a us _ h1 r1 =>
    refine ⟨_, k, _, rfl, rfl, s _ _ h1, by omega, by omega, sz_of (by rw [r1.length]; exact hz), fun p hp => ?_⟩
    have g := Grow.new (o := .lst (List.replicate k.toNat us).flatten) s hp
    exact q _ _ _ g (.lst upd_same ((r1.rep _).mono g.bb))
theorem rd_repT {K : PySem.W.Frag} {xs : List PyData} {k : Int} (hk : 2 ≤ k) (hk2 : k ≤ 1000) (hn : xs ≠ []) (hz : xs.length ≤ 1000) : RD K (rRepT K) (.tuple xs) (.int k) (.tuple (List.replicate k.toNat xs).flatten) := fun B H x y Q s rx ry q => by
  cases ry
  cases rx with
  | @tup a us _ h1 r1 =>
    refine ⟨_, k, _, rfl, rfl, same_t s h1, fun e => hn ?_, hk, hk2, by rw [r1.length]; exact hz, fun p hp => ?_⟩
    · subst e
      cases r1
      rfl
    · have g := Grow.new (o := .tup (List.replicate k.toNat us).flatten) s hp
      exact q _ _ _ g (.tup (.inl (.inl upd_same)) ((r1.rep _).mono g.bb))
theorem xe_addI {i j : Int} (ha : XE X δ a (.int i)) (hb : XE X δ b (.int j)) : XE X δ (.BinOp a .Add b pos) (.int (i + j)) := xe_op op_add ha hb (rd_I0 fun _ => .int _)
theorem xe_subI {i j : Int} (ha : XE X δ a (.int i)) (hb : XE X δ b (.int j)) : XE X δ (.BinOp a .Sub b pos) (.int (i - j)) := xe_op op_sub ha hb (rd_I0 fun _ => .int _)
theorem xe_mulI {i j : Int} (ha : XE X δ a (.int i)) (hb : XE X δ b (.int j)) (hc : CMul i j) : XE X δ (.BinOp a .Mult b pos) (.int (i * j)) := xe_op op_mul ha hb (rd_I hc fun _ => .int _)
theorem xe_modI {i j : Int} (ha : XE X δ a (.int i)) (hb : XE X δ b (.int j)) (hc : 0 < j) : XE X δ (.BinOp a .Mod b pos) (.int (i % j)) := xe_op op_mod ha hb (rd_I hc fun _ => .int _)
theorem xe_divI {i j : Int} (ha : XE X δ a (.int i)) (hb : XE X δ b (.int j)) (hc : 0 < j ∧ j < 1073741824) : XE X δ (.BinOp a .FloorDiv b pos) (.int (i / j)) := xe_op op_fdiv ha hb (rd_I hc fun _ => .int _)
theorem xe_powI {i j : Int} (ha : XE X δ a (.int i)) (hb : XE X δ b (.int j)) (hc : CPow i j) : XE X δ (.BinOp a .Pow b pos) (.int (i ^ j.toNat)) := xe_op op_pow ha hb (rd_I hc fun _ => .int _)
theorem xe_shlI {i j : Int} (ha : XE X δ a (.int i)) (hb : XE X δ b (.int j)) (hc : CShl i j) : XE X δ (.BinOp a .LShift b pos) (.int (i * 2 ^ j.toNat)) := xe_op op_shlW ha hb (rd_I hc fun _ => .int _)
theorem xe_shrI {i j : Int} (ha : XE X δ a (.int i)) (hb : XE X δ b (.int j)) (hc : 0 ≤ j) : XE X δ (.BinOp a .RShift b pos) (.int (i / 2 ^ j.toNat)) := xe_op op_shr ha hb (rd_I hc fun _ => .int _)
theorem xe_andI {i j : Int} (ha : XE X δ a (.int i)) (hb : XE X δ b (.int j)) : XE X δ (.BinOp a .BitAnd b pos) (.int (Builtin.bitAnd i j)) := xe_op op_and ha hb (rd_I0 fun _ => .int _)
theorem xe_orI {i j : Int} (ha : XE X δ a (.int i)) (hb : XE X δ b (.int j)) : XE X δ (.BinOp a .BitOr b pos) (.int (Builtin.bitOr i j)) := xe_op op_or ha hb (rd_I0 fun _ => .int _)
theorem xe_cat {xs ys : List PyData} (ha : XE X δ a (.list xs)) (hb : XE X δ b (.list ys)) (hz : xs.length + ys.length ≤ 1000000) : XE X δ (.BinOp a .Add b pos) (.list (xs ++ ys)) := xe_op op_cat ha hb (rd_cat hz)
theorem xe_catT {xs ys : List PyData} (ha : XE X δ a (.tuple xs)) (hb : XE X δ b (.tuple ys)) (hz : xs.length + ys.length ≤ 1000000) : XE X δ (.BinOp a .Add b pos) (.tuple (xs ++ ys)) := xe_op op_catA ha hb (rd_catT hz)
theorem xe_rep {xs : List PyData} {k : Int} (ha : XE X δ a (.list xs)) (hb : XE X δ b (.int k)) (hk : 0 ≤ k) (hk2 : k ≤ 1000000) (hz : xs.length * k.toNat ≤ 1000000) : XE X δ (.BinOp a .Mult b pos) (.list (List.replicate k.toNat xs).flatten) := xe_op op_rep ha hb (rd_rep hk hk2 hz)
theorem xe_neg {i : Int} (ha : XE X δ a (.int i)) : XE X δ (.UnaryOp .USub a pos) (.int (-i)) := xe_un un_neg ha fun B H x Q s rx q => by
  cases rx
  exact ⟨i, rfl, q _ B H (Grow.refl s) (.int _)⟩

/-! ### truth -/
def truD : PyData → Bool
  | .none => false
  | .bool b => b
  | .int i => i != 0
  | .str x => (x.length : Int) != 0
  | .list ds => !ds.isEmpty
  | .tuple ds => !ds.isEmpty
  | .dict ds => !ds.isEmpty
def TruOk : PyData → Prop
  | .str x => x.length ≤ sizeLine
  | .dict _ => False
  | _ => True
theorem tru_of {K : PySem.W.Frag} {B H : Hp} {x : V} (s : Same B H) (r : Rp K B x d) (ok : TruOk d) : TruV K x H (truD d) := by
  cases r with
  | non => rfl
  | bl b => rfl
  | int i => rfl
  | str x => exact ⟨ok, rfl⟩
  | @lst a xs ds h q =>
    refine .inl ⟨xs, .inl (.inl (s _ _ h)), ?_⟩
    cases q <;> rfl
  | @tup a xs ds h q =>
    refine .inr (.inl ⟨xs, same_t s h, ?_⟩)
    cases q <;> rfl
  | dic h => exact ok.elim
  | dic1 x i h => exact ok.elim
  | err h1 h2 h3 h4 r => exact ok.elim
  | err0 h => exact ok.elim
  | lam h1 h2 h3 h4 => exact ok.elim
  | adr a => exact ok.elim
theorem xe_not (ha : XE X δ a d1) (ok : TruOk d1 := by trivial) : XE X δ (.UnaryOp .Not a pos) (.bool (!truD d1)) := (pe_notT ha).weak fun σ H Q ⟨B, F, W, q⟩ =>
  ⟨B, F, W, fun x B1 H1 g1 r1 => ⟨_, tru_of g1.bh r1 ok, q _ B1 H1 g1 (.bl _)⟩⟩
theorem xt_tru (ha : XE X δ a d1) (ok : TruOk d1 := by trivial) (he : ∀ whole, isTrue a X.env whole = (do let v ← whole; standAt a.pos; holding [v] (truthy v)) := by intro _; rfl) : XT X δ a (truD d1) := (pt_truth ha he).weak fun σ H Q ⟨B, F, W, q⟩ =>
  ⟨B, F, W, fun x B1 H1 g1 r1 => ⟨_, tru_of g1.bh r1 ok, q B1 H1 g1⟩⟩
theorem xt_not {b : Bool} (ha : XT X δ a b) : XT X δ (.UnaryOp .Not a pos) (!b) := (pt_not ha).weak fun σ H Q ⟨B, F, W, q⟩ => ⟨B, F, W, fun B1 H1 g1 => q B1 H1 g1⟩
theorem xt_eq {b b' : Bool} (h : XT X δ a b) (q : b = b') : XT X δ a b' := by
  rw [← q]
  exact h
theorem XW.xt {b : Bool} (h : XW X δ e b) : XT X δ e b := PW.pt h
theorem xw_and1 {b : Bool} (ha : XT X δ a b) : XW X δ (.BoolOp .And [a] pos) b := pw_and1 ha
theorem xw_or1 {b : Bool} (ha : XT X δ a b) : XW X δ (.BoolOp .Or [a] pos) b := pw_or1 ha
theorem xw_and {k m : Bool} (ha : XT X δ a k) (hb : k = true → XW X δ (.BoolOp .And (b :: rest) pos) m) : XW X δ (.BoolOp .And (a :: b :: rest) pos) (k && m) := by
  cases k with
  | true => exact (pw_and ha (hb rfl)).weak fun σ H Q ⟨B, F, W, q⟩ => ⟨B, F, W, fun B1 H1 g1 => by
      show tBo X.K δ m σ H1 Q
      exact ⟨B1, F, W.grow g1, fun B2 H2 g2 => q B2 H2 (g1.trans g2)⟩⟩
  | false => exact (pw_and ha pw_bot).weak fun σ H Q ⟨B, F, W, q⟩ => ⟨B, F, W, fun B1 H1 g1 => by
      show Q false H1
      exact q B1 H1 g1⟩
theorem xw_or {k m : Bool} (ha : XT X δ a k) (hb : k = false → XW X δ (.BoolOp .Or (b :: rest) pos) m) : XW X δ (.BoolOp .Or (a :: b :: rest) pos) (k || m) := by
  cases k with
  | false => exact (pw_or ha (hb rfl)).weak fun σ H Q ⟨B, F, W, q⟩ => ⟨B, F, W, fun B1 H1 g1 => by
      show tBo X.K δ m σ H1 Q
      exact ⟨B1, F, W.grow g1, fun B2 H2 g2 => q B2 H2 (g1.trans g2)⟩⟩
  | true => exact (pw_or ha pw_bot).weak fun σ H Q ⟨B, F, W, q⟩ => ⟨B, F, W, fun B1 H1 g1 => by
      show Q true H1
      exact q B1 H1 g1⟩
/-! and, or as values (bools) -/
theorem xe_one {op} (h : XE X δ a d) : XE X δ (.BoolOp op [a] pos) d := pe_one h
theorem xe_and {k m : Bool} (ha : XE X δ a (.bool k)) (hb : k = true → XE X δ (.BoolOp .And (b :: rest) pos) (.bool m)) : XE X δ (.BoolOp .And (a :: b :: rest) pos) (.bool (k && m)) := by
  cases k with
  | true => exact (pe_and ha (hb rfl)).weak fun σ H Q ⟨B, F, W, q⟩ => ⟨B, F, W, fun x B1 H1 g1 r1 => by
      cases r1
      exact ⟨true, rfl, B1, F, W.grow g1, fun v B2 H2 g2 r2 => q v B2 H2 (g1.trans g2) r2⟩⟩
  | false => exact (pe_and ha pe_bot).weak fun σ H Q ⟨B, F, W, q⟩ => ⟨B, F, W, fun x B1 H1 g1 r1 => by
      cases r1
      exact ⟨false, rfl, q _ B1 H1 g1 (.bl _)⟩⟩
theorem xe_or {k m : Bool} (ha : XE X δ a (.bool k)) (hb : k = false → XE X δ (.BoolOp .Or (b :: rest) pos) (.bool m)) : XE X δ (.BoolOp .Or (a :: b :: rest) pos) (.bool (k || m)) := by
  cases k with
  | false => exact (pe_or ha (hb rfl)).weak fun σ H Q ⟨B, F, W, q⟩ => ⟨B, F, W, fun x B1 H1 g1 r1 => by
      cases r1
      exact ⟨false, rfl, B1, F, W.grow g1, fun v B2 H2 g2 r2 => q v B2 H2 (g1.trans g2) r2⟩⟩
  | true => exact (pe_or ha pe_bot).weak fun σ H Q ⟨B, F, W, q⟩ => ⟨B, F, W, fun x B1 H1 g1 r1 => by
      cases r1
      exact ⟨true, rfl, q _ B1 H1 g1 (.bl _)⟩⟩
theorem xe_if {k : Bool} (hc : XT X δ c k) (ha : k = true → XE X δ a d) (hb : k = false → XE X δ b d) : XE X δ (.IfExp c a b pos) d := by
  cases k with
  | true => exact (pe_ifExp hc (ha rfl) pe_bot).weak fun σ H Q ⟨B, F, W, q⟩ => ⟨B, F, W, fun B1 H1 g1 => by
      show tD X.K δ d σ H1 Q
      exact ⟨B1, F, W.grow g1, fun v B2 H2 g2 r2 => q v B2 H2 (g1.trans g2) r2⟩⟩
  | false => exact (pe_ifExp hc pe_bot (hb rfl)).weak fun σ H Q ⟨B, F, W, q⟩ => ⟨B, F, W, fun B1 H1 g1 => by
      show tD X.K δ d σ H1 Q
      exact ⟨B1, F, W.grow g1, fun v B2 H2 g2 r2 => q v B2 H2 (g1.trans g2) r2⟩⟩

/-! ### comparisons -/
inductive CmpD : CmpOp → PyData → PyData → Bool → Prop
  | ltI (i j : Int) : CmpD .Lt (.int i) (.int j) (decide (i < j))
  | leI (i j : Int) : CmpD .LtE (.int i) (.int j) (decide (i ≤ j))
  | gtI (i j : Int) : CmpD .Gt (.int i) (.int j) (decide (j < i))
  | geI (i j : Int) : CmpD .GtE (.int i) (.int j) (decide (j ≤ i))
  | eqI (i j : Int) : CmpD .Eq (.int i) (.int j) (decide (i = j))
  | neI (i j : Int) : CmpD .NotEq (.int i) (.int j) (!decide (i = j))
  | eqB (i j : Bool) : CmpD .Eq (.bool i) (.bool j) (i == j)
  | neB (i j : Bool) : CmpD .NotEq (.bool i) (.bool j) (!(i == j))
  | eqS (i j : Str) : CmpD .Eq (.str i) (.str j) (decide (i = j))
  | neS (i j : Str) : CmpD .NotEq (.str i) (.str j) (!decide (i = j))
  | eqD (d e : PyData) (h1 : SeqAt.shaped d = true) (h2 : SeqAt.shaped e = true) : CmpD .Eq d e (PyData.eqv d e)
  | neD (d e : PyData) (h1 : SeqAt.shaped d = true) (h2 : SeqAt.shaped e = true) : CmpD .NotEq d e (!PyData.eqv d e)
  | inD (d : PyData) (es : List PyData) (h1 : SeqAt.shaped d = true) (h2 : SeqAt.shaped (.list es) = true) : CmpD .In d (.list es) (es.any fun z => PyData.eqv z d)
  | notInD (d : PyData) (es : List PyData) (h1 : SeqAt.shaped d = true) (h2 : SeqAt.shaped (.list es) = true) : CmpD .NotIn d (.list es) (!es.any fun z => PyData.eqv z d)
  | isN (d : PyData) (b : Bool) (h : b = (match d with | .none => true | _ => false)) : CmpD .Is d .none b
  | notN (d : PyData) (b : Bool) (h : b = (match d with | .none => false | _ => true)) : CmpD .IsNot d .none b
def rCmp (K : PySem.W.Frag) (op : CmpOp) : R2 := fun x y H Q => ∃ B d e b, Same B H ∧ Rp K B x d ∧ Rp K B y e ∧ CmpD op d e b ∧ Q (.bl b) H
theorem lay_sh {d : PyData} (h : SeqAt.shaped d = true) : PyData.canLay0 d = true := by
  unfold SeqAt.shaped at h
  exact (Bool.and_eq_true_iff.mp h).1
theorem or_cmp (hu : X.A.units + 65 < cLine) (op : CmpOp) : OpR X (compareOp op) (rCmp X.K op) := by
  intro pins s σ H x y v u Q I rx ry h
  obtain ⟨B, d, e, b, sm, rd, re, c, q⟩ := h
  have hu' : X.A.units + 64 < cLine := by omega
  cases c with
  | ltI i j => cases rd; cases re; exact op_lt pins s σ H _ _ v u Q I rx ry ⟨i, j, rfl, rfl, q⟩
  | leI i j => cases rd; cases re; exact op_le pins s σ H _ _ v u Q I rx ry ⟨i, j, rfl, rfl, q⟩
  | gtI i j => cases rd; cases re; exact op_gt pins s σ H _ _ v u Q I rx ry ⟨i, j, rfl, rfl, q⟩
  | geI i j => cases rd; cases re; exact op_ge pins s σ H _ _ v u Q I rx ry ⟨i, j, rfl, rfl, q⟩
  | eqI i j => cases rd; cases re; exact op_eq pins s σ H _ _ v u Q I rx ry ⟨rfl, by simpa using q⟩
  | neI i j => cases rd; cases re; exact op_ne pins s σ H _ _ v u Q I rx ry ⟨rfl, by simpa using q⟩
  | eqB i j => cases rd; cases re; exact op_eq pins s σ H _ _ v u Q I rx ry ⟨rfl, by rw [dec_bl]; exact q⟩
  | neB i j => cases rd; cases re; exact op_ne pins s σ H _ _ v u Q I rx ry ⟨rfl, by rw [dec_bl]; exact q⟩
  | eqS i j => cases rd; cases re; exact op_eq pins s σ H _ _ v u Q I rx ry ⟨rfl, by simpa using q⟩
  | neS i j => cases rd; cases re; exact op_ne pins s σ H _ _ v u Q I rx ry ⟨rfl, by simpa using q⟩
  | eqD d e h1 h2 => exact op_eqD hu' pins s σ H _ _ v u Q I rx ry ⟨d, e, (rd.mono sm).dp (lay_sh h1), (re.mono sm).dp (lay_sh h2), h1, h2, q⟩
  | neD d e h1 h2 => exact op_neD hu' pins s σ H _ _ v u Q I rx ry ⟨d, e, (rd.mono sm).dp (lay_sh h1), (re.mono sm).dp (lay_sh h2), h1, h2, q⟩
  | inD d es h1 h2 => exact op_inD hu pins s σ H _ _ v u Q I rx ry ⟨d, es, (rd.mono sm).dp (lay_sh h1), (re.mono sm).dp (lay_sh h2), h1, h2, q⟩
  | notInD d es h1 h2 => exact op_notInD hu pins s σ H _ _ v u Q I rx ry ⟨d, es, (rd.mono sm).dp (lay_sh h1), (re.mono sm).dp (lay_sh h2), h1, h2, q⟩
  | isN d b h =>
    cases re
    refine op_isN pins s σ H _ _ v u Q I rx ry ⟨rfl, ?_⟩
    have e : decide (x = V.non) = b := by rw [h]; cases rd <;> simp
    rw [e]
    exact q
  | notN d b h =>
    cases re
    refine op_notN pins s σ H _ _ v u Q I rx ry ⟨rfl, ?_⟩
    have e : (!decide (x = V.non)) = b := by rw [h]; cases rd <;> simp
    rw [e]
    exact q
theorem xe_cmp {op : CmpOp} {k : Bool} (hu : X.A.units + 65 < cLine) (ha : XE X δ a d1) (hb : XE X δ b d2) (hc : CmpD op d1 d2 k) (hm : behindInMarks op b = false := by first | exact nomark _ | rfl) : XE X δ (.Compare a [op] [b] pos) (.bool k) :=
  (pe_cmpR (or_cmp hu op) ha hb hm).weak (op_weak ha hb fun B H x y Q s rx ry q => ⟨B, d1, d2, k, s, rx, ry, hc, q _ B H (Grow.refl s) (.bl k)⟩)
theorem xt_cmp {op : CmpOp} {k : Bool} (hu : X.A.units + 65 < cLine) (ha : XE X δ a d1) (hb : XE X δ b d2) (hc : CmpD op d1 d2 k) (hm : behindInMarks op b = false := by first | exact nomark _ | rfl) : XT X δ (.Compare a [op] [b] pos) k :=
  (pt_cmpR (or_cmp hu op) ha hb hm).weak fun σ H Q ⟨B, F, W, q⟩ => ⟨B, F, W, fun x B1 H1 g1 r1 => ⟨B1, F, W.grow g1, fun y B2 H2 g2 r2 =>
    ⟨B2, d1, d2, k, g2.bh, r1.mono g2.bb, r2, hc, k, rfl, q B2 H2 (g1.trans g2)⟩⟩⟩
/-- a op b op' c -/
theorem xe_chain {op op' : CmpOp} {k m : Bool} (hu : X.A.units + 65 < cLine) (ha : XE X δ a d1) (hb : XE X δ b d2) (hc : XE X δ c d3) (h1 : CmpD op d1 d2 k) (h2 : k = true → CmpD op' d2 d3 m) (hm : lastMarks [op, op'] [b, c] = false := by with_unfolding_all rfl) :
    XE X δ (.Compare a [op, op'] [b, c] pos) (.bool (k && m)) :=
  (pe_chain (or_cmp hu op) (or_cmp hu op') ha hb hc hm).weak fun σ H Q ⟨B, F, W, q⟩ => ⟨B, F, W, fun x B1 H1 g1 r1 => ⟨B1, F, W.grow g1, fun y B2 H2 g2 r2 =>
    ⟨B2, d1, d2, k, g2.bh, r1.mono g2.bb, r2, h1, k, rfl, by
      cases k with
      | false => exact q _ B2 H2 (g1.trans g2) (.bl _)
      | true => exact ⟨B2, F, (W.grow g1).grow g2, fun z B3 H3 g3 r3 => ⟨B3, d2, d3, m, g3.bh, r2.mono g3.bb, r3, h2 rfl, q _ B3 H3 ((g1.trans g2).trans g3) (.bl _)⟩⟩⟩⟩⟩
theorem xt_chain {op op' : CmpOp} {k m : Bool} (hu : X.A.units + 65 < cLine) (ha : XE X δ a d1) (hb : XE X δ b d2) (hc : XE X δ c d3) (h1 : CmpD op d1 d2 k) (h2 : k = true → CmpD op' d2 d3 m) (hm : lastMarks [op, op'] [b, c] = false := by with_unfolding_all rfl) :
    XT X δ (.Compare a [op, op'] [b, c] pos) (k && m) :=
  (pt_chain (or_cmp hu op) (or_cmp hu op') ha hb hc hm).weak fun σ H Q ⟨B, F, W, q⟩ => ⟨B, F, W, fun x B1 H1 g1 r1 => ⟨B1, F, W.grow g1, fun y B2 H2 g2 r2 =>
    ⟨B2, d1, d2, k, g2.bh, r1.mono g2.bb, r2, h1, k, rfl, by
      cases k with
      | false => exact ⟨false, rfl, q B2 H2 (g1.trans g2)⟩
      | true => exact ⟨B2, F, (W.grow g1).grow g2, fun z B3 H3 g3 r3 => ⟨B3, d2, d3, m, g3.bh, r2.mono g3.bb, r3, h2 rfl, m, rfl, q B3 H3 ((g1.trans g2).trans g3)⟩⟩⟩⟩⟩

/-! ### items, slices, displays -/
inductive IxD : PyData → Int → PyData → Prop
  | lst {ds : List PyData} {i : Int} {d : PyData} (h : atI ds i = some d) : IxD (.list ds) i d
  | tup {ds : List PyData} {i : Int} {d : PyData} (h : atI ds i = some d) : IxD (.tuple ds) i d
  | str {z : Str} {i : Int} {c : Nat} (hz : z.length ≤ sizeLine) (h : atI z.cps.toList i = some c) : IxD (.str z) i (.str ⟨#[c]⟩)
theorem atI_rp {K : PySem.W.Frag} {H : Hp} {vs : List V} {ds : List PyData} {i : Int} (r : RpA K H vs ds) (h : atI ds i = some d) : ∃ v, atI vs i = some v ∧ Rp K H v d := by
  unfold atI at h ⊢
  rw [r.length]
  cases e : ixN ds.length i with
  | none =>
    rw [e] at h
    simp at h
  | some j =>
    rw [e] at h
    simp only [Option.bind_some] at h ⊢
    exact r.getD h
theorem rd_ix {K : PySem.W.Frag} {i : Int} (h : IxD d1 i d) : RD K (rIx K) d1 (.int i) d := fun B H x y Q s rx ry q => by
  cases ry
  cases h with
  | lst h =>
    cases rx with
    | @lst a xs _ h1 r1 =>
      obtain ⟨v, e, r⟩ := atI_rp r1 h
      exact .inl ⟨a, xs, i, v, rfl, rfl, SqL.of (s _ _ h1), e, q v B H (Grow.refl s) r⟩
  | tup h =>
    cases rx with
    | @tup a xs _ h1 r1 =>
      obtain ⟨v, e, r⟩ := atI_rp r1 h
      exact .inr (.inl ⟨a, xs, i, v, rfl, rfl, same_t s h1, e, q v B H (Grow.refl s) r⟩)
  | @str z _ c hz h =>
    cases rx
    exact .inr (.inr ⟨z, i, c, rfl, rfl, hz, h, q _ B H (Grow.refl s) (.str _)⟩)
theorem xe_ix {i : Int} (ha : XE X δ a d1) (hb : XE X δ b (.int i)) (h : IxD d1 i d) (hs : PlainIx b := by exact fun _ _ => rfl) : XE X δ (.Subscript a b pos) d := (pe_ix ix_seq ha hb hs).weak (op_weak ha hb (rd_ix h))
theorem xo_none : XO X δ none none := po_none.weak fun σ H Q ⟨B, F, W, q⟩ => q B H (Grow.refl W.bh)
theorem xo_some {i : Int} (h : XE X δ e (.int i)) : XO X δ (some e) (some i) := (po_some h).weak fun σ H Q ⟨B, F, W, q⟩ => ⟨B, F, W, fun x B1 H1 g1 r1 => by
  cases r1
  exact ⟨i, rfl, q B1 H1 g1⟩⟩
def cutD {α : Type} (xs : List α) (lo hi : Option Int) : List α := (xs.drop (HT.sIx xs.length 0 lo)).take (HT.sIx xs.length xs.length hi - HT.sIx xs.length 0 lo)
inductive SlD : PyData → Option Int → Option Int → PyData → Prop
  | lst (ds : List PyData) (lo hi : Option Int) : SlD (.list ds) lo hi (.list (cutD ds lo hi))
  | tup (ds : List PyData) (lo hi : Option Int) : SlD (.tuple ds) lo hi (.tuple (cutD ds lo hi))
  | str (z : Str) (lo hi : Option Int) (hz : z.length ≤ sizeLine) : SlD (.str z) lo hi (.str (cutS z lo hi))
theorem RpA.cut {K : PySem.W.Frag} {H : Hp} {vs : List V} {ds : List PyData} (r : RpA K H vs ds) (lo hi : Option Int) : RpA K H (cutV vs lo hi) (cutD ds lo hi) := by
  unfold cutV cutD
  rw [r.length]
  exact (r.drop _).take _
theorem cut_whole {α : Type} {xs : List α} {lo hi : Option Int} (h : HT.sIx xs.length 0 lo = 0 ∧ HT.sIx xs.length xs.length hi = xs.length) : cutD xs lo hi = xs := by
  unfold cutD
  rw [h.1, h.2]
  simp
theorem or_sl : SlR X (fun x lo hi H Q => (rSlL X.K x lo hi H Q ∨ rSlA X.K x lo hi H Q) ∨ rSlS x lo hi H Q) := (sl_list.or sl_tupA).or sl_str
theorem xe_sl {lo hi : Option Expr} {i j : Option Int} {p2 : Pos} (ha : XE X δ a d1) (hl : XO X δ lo i) (hh : XO X δ hi j) (h : SlD d1 i j d) : XE X δ (.Subscript a (.Slice lo hi none p2) pos) d := (pe_slice or_sl ha hl hh).weak fun σ H Q ⟨B, F, W, q⟩ =>
  ⟨B, F, W, fun x B1 H1 g1 r1 => ⟨B1, F, W.grow g1, fun B2 H2 g2 => ⟨B2, F, (W.grow g1).grow g2, fun B3 H3 g3 => by
    have g := (g1.trans g2).trans g3
    have r := r1.mono (g2.trans g3).bb
    cases h with
    | lst ds =>
      cases r with
      | @lst p xs _ h1 r1 =>
        refine .inl (.inl ⟨p, xs, rfl, SqL.of (g3.bh _ _ h1), fun l hl => ?_⟩)
        have g4 := Grow.new (o := .lst (cutV xs i j)) g3.bh hl
        exact q _ _ _ (g.trans g4) (.lst upd_same ((r1.cut i j).mono g4.bb))
    | tup ds =>
      cases r with
      | @tup p xs _ h1 r1 =>
        refine .inl (.inr ⟨p, xs, rfl, same_t g3.bh h1, fun w => ?_, fun w l hl => ?_⟩)
        · rw [r1.length] at w
          rw [cut_whole w] at q
          exact q _ _ _ g (.tup h1 r1)
        · have g4 := Grow.new (o := .tup (cutV xs i j)) g3.bh hl
          exact q _ _ _ (g.trans g4) (.tup (.inl (.inl upd_same)) ((r1.cut i j).mono g4.bb))
    | str z _ _ hz =>
      cases r
      exact .inr ⟨z, rfl, hz, q _ _ _ g (.str _)⟩⟩⟩⟩
theorem xa_nil : XA X δ [] [] := pa_nil.weak fun σ H Q ⟨B, F, W, q⟩ => q [] B H (Grow.refl W.bh) .nil
theorem xa_cons (ha : XE X δ e d) (hr : XA X δ es ds) (hs : starEach (e :: es) X.env = (false, eval e X.env) :: starEach es X.env := by rfl) : XA X δ (e :: es) (d :: ds) := (pa_cons ha hr hs).weak fun σ H Q ⟨B, F, W, q⟩ =>
  ⟨B, F, W, fun x B1 H1 g1 r1 => ⟨B1, F, W.grow g1, fun vs B2 H2 g2 r2 => q _ B2 H2 (g1.trans g2) (.cons (r1.mono g2.bb) r2)⟩⟩
theorem xe_tup {x1} (h : XA X δ es ds) (hz : ds.length ≤ 1000000 := by exact Nat.le_of_ble_eq_true rfl) : XE X δ (.Tuple es x1 pos) (.tuple ds) := (pe_tup h).weak fun σ H Q ⟨B, F, W, q⟩ =>
  ⟨B, F, W, fun vs B1 H1 g1 r1 => ⟨sz_of (by rw [r1.length]; exact hz), fun p hp => by
    have g2 := Grow.new (o := .tup vs) g1.bh hp
    exact q _ _ _ (g1.trans g2) (.tup (.inl (.inl upd_same)) (r1.mono g2.bb))⟩⟩
theorem xn_lst (h : XA X δ es ds) (hz : ds.length ≤ 1000000 := by exact Nat.le_of_ble_eq_true rfl) : XN X δ (.List es pos) ds := (pe_lst h).weak fun σ H Q ⟨B, F, W, q⟩ =>
  ⟨B, F, W, fun vs B1 H1 g1 r1 => ⟨sz_of (by rw [r1.length]; exact hz), fun p hp => by
    have g2 := Grow.newH (o := .lst vs) g1.bh hp
    have hp0 : H p = none := g1.hh.free hp
    have hb : B1 p = none := g1.bh.free hp
    exact q _ _ _ _ (g1.trans g2) hp0 hb upd_same r1⟩⟩
theorem grow_froz {B H B2 H2 : Hp} {p : Addr} {xs : List V} (g : Grow B H B2 H2) (hp : H p = none) (hb : B2 p = none) (h : H2 p = some (.lst xs)) : Grow B H (upd B2 p (.lst xs)) H2 :=
  ⟨g.bb.trans (same_upd hb), fun b o e => by
    by_cases hh : b = p
    · subst hh
      rw [upd_same] at e
      cases e
      exact h
    · rw [upd_ne hh] at e
      exact g.bh b o e, g.hh, fun b o e => by
    rw [upd_ne (ne_of_none e hp)]
    exact g.fr b o e⟩
theorem xe_new (h : XN X δ e ds) : XE X δ e (.list ds) := L2.PE.weak h fun σ H Q ⟨B, F, W, q⟩ => ⟨B, F, W, fun p xs B2 H2 g hp hb h2 r => by
  have g2 := grow_froz g hp hb h2
  exact q _ _ _ g2 (.lst upd_same (r.mono (same_upd hb)))⟩
theorem xe_lst (h : XA X δ es ds) (hz : ds.length ≤ 1000000 := by exact Nat.le_of_ble_eq_true rfl) : XE X δ (.List es pos) (.list ds) := xe_new (xn_lst h hz)
end
end Dl

set_option Elab.async false
set_option linter.all false
set_option maxRecDepth 100000
set_option maxHeartbeats 4000000
/-! The data level: what is walked, comprehensions, statements, the promises of defs. -/
namespace Dl
open PySem PySem.Spec PyProof.Rows L2

/-! ### several readings at once -/
section
variable {X : Cx} {ι : Sort _}
theorem pe_ex {e : Expr} {t : ι → TE} (h : ∀ i, PE X e (t i)) : PE X e (fun σ H Q => ∃ i, t i σ H Q) := ⟨fun pins s σ H Q I ⟨i, q⟩ => (h i).run pins s σ H Q I q⟩
theorem pt_ex {e : Expr} {t : ι → TT} (h : ∀ i, PT X e (t i)) : PT X e (fun σ H Q => ∃ i, t i σ H Q) := ⟨fun pins s σ H Q I ⟨i, q⟩ => (h i).run pins s σ H Q I q⟩
theorem pts_ex {e : List Expr} {t : ι → TT} (h : ∀ i, PTs X e (t i)) : PTs X e (fun σ H Q => ∃ i, t i σ H Q) := ⟨fun pins s σ H Q I ⟨i, q⟩ => (h i).run pins s σ H Q I q⟩
theorem pa_ex {e : List Expr} {t : ι → TA} (h : ∀ i, PA X e (t i)) : PA X e (fun σ H Q => ∃ i, t i σ H Q) := ⟨fun p pins s σ H Q I ⟨i, q⟩ => (h i).run p pins s σ H Q I q⟩
theorem ps_ex {e : Stmt} {t : ι → TS} (h : ∀ i, PS X e (t i)) : PS X e (fun D σ H => ∃ i, t i D σ H) := ⟨fun pins s σ H D I ⟨i, q⟩ => (h i).run pins s σ H D I q⟩
theorem pss_ex {e : List Stmt} {t : ι → TS} (h : ∀ i, PSs X e (t i)) : PSs X e (fun D σ H => ∃ i, t i D σ H) := ⟨fun pins s σ H D I ⟨i, q⟩ => (h i).run pins s σ H D I q⟩
theorem pg_ex {e : Expr} {t : ι → TG} (h : ∀ i, PG X e (t i)) : PG X e (fun v σ H Q => ∃ i, t i v σ H Q) := ⟨fun pins s σ H v u Q I r ⟨i, q⟩ => (h i).run pins s σ H v u Q I r q⟩
end

/-! ### the frame's slots, forgotten in part -/
section
variable {K : PySem.W.Frag} {B H B2 H2 : Hp} {σ : L2.St} {δ : List Slot} {F : Nat → List Addr}
theorem Wf.wk (W : Wf K B H σ δ F) {σ2 : L2.St} {δ2 : List Slot} {F2 : Nat → List Addr} (hl : δ2.length = σ2.length) (hl2 : δ2.length = δ.length)
    (h : ∀ i s, δ2[i]? = some s → (F2 i = [] ∧ s = .no) ∨ (F2 i = F i ∧ δ[i]? = some s ∧ σ2[i]? = σ[i]?)) (ho : ∀ i, δ2.length ≤ i → F2 i = []) : Wf K B H σ2 δ2 F2 where
  bh := W.bh
  len := hl
  sl := fun i s e => by
    have hi : i < δ2.length := (List.getElem?_eq_some_iff.mp e).1
    rcases h i s e with ⟨h1, h2⟩ | ⟨h1, h2, h3⟩
    · subst h2
      refine ⟨σ2[i]'(by omega), List.getElem?_eq_getElem (by omega), ?_⟩
      show SlotOk K B H _ .no (F2 i)
      cases σ2[i]'(by omega) <;> exact h1
    · obtain ⟨o, a, b⟩ := W.sl i s h2
      exact ⟨o, h3.trans a, by rw [h1]; exact b⟩
  out := ho
  dis := fun i j a h1 h2 => by
    have key : ∀ k, a ∈ F2 k → a ∈ F k := fun k hk => by
      by_cases hlt : k < δ2.length
      · rcases h k _ (List.getElem?_eq_getElem hlt) with ⟨z, _⟩ | ⟨z, _⟩
        · rw [z] at hk; cases hk
        · rw [z] at hk; exact hk
      · rw [ho k (by omega)] at hk
        cases hk
    exact W.dis i j a (key i h1) (key j h2)
  own := fun i a ha => by
    have key : a ∈ F i := by
      by_cases hlt : i < δ2.length
      · rcases h i _ (List.getElem?_eq_getElem hlt) with ⟨z, _⟩ | ⟨z, _⟩
        · rw [z] at ha; cases ha
        · rw [z] at ha; exact ha
      · rw [ho i (by omega)] at ha
        cases ha
    exact W.own i a key
end
def wipeD (δ : List Slot) : List Nat → List Slot
  | [] => δ
  | v :: vs => (wipeD δ vs).set v .no
theorem wipeD_length (δ : List Slot) : ∀ vs : List Nat, (wipeD δ vs).length = δ.length
  | [] => rfl
  | v :: vs => by unfold wipeD; rw [List.length_set, wipeD_length δ vs]
def wipeF (F : Nat → List Addr) : List Nat → Nat → List Addr
  | [] => F
  | v :: vs => fun j => if j = v then [] else wipeF F vs j
theorem wipeF_sub {F : Nat → List Addr} : ∀ (vs : List Nat) (i : Nat), ∀ b ∈ wipeF F vs i, ∃ j, b ∈ F j
  | [], i, b, h => ⟨i, h⟩
  | v :: vs, i, b, h => by
    unfold wipeF at h
    by_cases e : i = v
    · rw [if_pos e] at h
      cases h
    · rw [if_neg e] at h
      exact wipeF_sub vs i b h
theorem Wf.no {K : PySem.W.Frag} {B H : Hp} {σ : L2.St} {δ : List Slot} {F : Nat → List Addr} (W : Wf K B H σ δ F) (i : Nat) (o : Option V) : Wf K B H (σ.set i o) (δ.set i .no) (fun j => if j = i then [] else F j) := by
  refine W.wk (by rw [List.length_set, List.length_set]; exact W.len) (List.length_set ..) (fun j s e => ?_) (fun j hj => ?_)
  · by_cases h : j = i
    · subst h
      have hlt : j < δ.length := by
        have := (List.getElem?_eq_some_iff.mp e).1
        rw [List.length_set] at this
        exact this
      rw [List.getElem?_set_self hlt] at e
      cases e
      exact .inl ⟨if_pos rfl, rfl⟩
    · rw [List.getElem?_set_ne (Ne.symm h)] at e
      exact .inr ⟨if_neg h, e, List.getElem?_set_ne (Ne.symm h)⟩
  · rw [List.length_set] at hj
    by_cases h : j = i
    · rw [if_pos h]
    · rw [if_neg h]
      exact W.out j hj
theorem Wf.wipe {K : PySem.W.Frag} {B H : Hp} {σ : L2.St} {δ : List Slot} {F : Nat → List Addr} (W : Wf K B H σ δ F) : ∀ vs : List Nat, Wf K B H (wipe σ vs) (wipeD δ vs) (wipeF F vs)
  | [] => W
  | v :: vs => (W.wipe vs).no v none

/-! ### what is walked -/
structure Wk (K : PySem.W.Frag) (J : It) (B : Hp) (ds : List PyData) : Prop where
  go : ∀ i H, Same B H → i < ds.length → J.go i H
  yld : ∀ i B1 H x H2, Same B B1 → Same B1 H → J.yld i H x H2 → ∀ d, ds[i]? = some d → ∃ B2, Grow B1 H B2 H2 ∧ Rp K B2 x d
  stop : ∀ H, Same B H → J.stop ds.length H
def tI (K : PySem.W.Frag) (δ : List Slot) (ds : List PyData) : TI := fun σ H R => ∃ B F, Wf K B H σ δ F ∧ ∀ J B2 H2, Grow B H B2 H2 → Wk K J B2 ds → R J H2
abbrev XI (X : Cx) (tg : Expr) (δ : List Slot) (iter : Expr) (ds : List PyData) : Prop := PI X tg iter (tI X.K δ ds)
theorem _root_.L2.PI.weak {X : Cx} {tg iter : Expr} {t t' : TI} (h : PI X tg iter t) (w : ∀ σ H Q, t' σ H Q → t σ H Q) : PI X tg iter t' := ⟨fun pins s σ H Q I q => h.run pins s σ H Q I (w σ H Q q)⟩
section
variable {X : Cx} {δ : List Slot} {a b c e tg iter : Expr} {pos p : Pos} {ds ds2 : List PyData} {es : List Expr} {d : PyData}
theorem wk_list {K : PySem.W.Frag} {B : Hp} {a : Addr} {xs : List V} (h : B a = some (.lst xs)) (r : RpA K B xs ds) : Wk K (Itl K a) B ds where
  go := fun i H s hi => by
    have hx : i < xs.length := by rw [r.length]; exact hi
    exact ⟨xs, xs[i], SqL.of (s _ _ h), List.getElem?_eq_getElem hx⟩
  yld := fun i B1 H x H2 s1 s2 hy d hd => by
    obtain ⟨rfl, hv⟩ := hy
    have e := hv xs (SqL.of (s2 _ _ (s1 _ _ h)))
    obtain ⟨d', h1, h2⟩ := r.get e
    rw [hd] at h1
    cases h1
    exact ⟨B1, Grow.refl s2, h2.mono s1⟩
  stop := fun H s => ⟨xs, SqL.of (s _ _ h), by rw [r.length]; exact Nat.le_refl _⟩
theorem wk_tup {K : PySem.W.Frag} {B : Hp} {a : Addr} {xs : List V} (h : SqT K B a xs) (r : RpA K B xs ds) : Wk K (Itt K a) B ds where
  go := fun i H s hi => by
    have hx : i < xs.length := by rw [r.length]; exact hi
    exact ⟨xs, xs[i], same_t s h, List.getElem?_eq_getElem hx⟩
  yld := fun i B1 H x H2 s1 s2 hy d hd => by
    obtain ⟨rfl, hv⟩ := hy
    have e := hv xs (same_t s2 (same_t s1 h))
    obtain ⟨d', h1, h2⟩ := r.get e
    rw [hd] at h1
    cases h1
    exact ⟨B1, Grow.refl s2, h2.mono s1⟩
  stop := fun H s => ⟨xs, same_t s h, by rw [r.length]; exact Nat.le_refl _⟩
theorem xi_list (h : XE X δ iter (.list ds)) : XI X tg δ iter ds := (pi_list h).weak fun σ H R ⟨B, F, W, q⟩ => ⟨B, F, W, fun v B2 H2 g r => by
  cases r with
  | @lst a xs _ h1 r1 => exact ⟨a, rfl, ⟨xs, SqL.of (g.bh _ _ h1)⟩, q _ B2 H2 g (wk_list h1 r1)⟩⟩
theorem xi_tup (h : XE X δ iter (.tuple ds)) : XI X tg δ iter ds := (pi_tup h).weak fun σ H R ⟨B, F, W, q⟩ => ⟨B, F, W, fun v B2 H2 g r => by
  cases r with
  | @tup a xs _ h1 r1 => exact ⟨a, rfl, ⟨xs, same_t g.bh h1⟩, q _ B2 H2 g (wk_tup h1 r1)⟩⟩
abbrev rangeD (lo : Int) (n : Nat) : List PyData := (List.range n).map fun i => PyData.int (lo + (i : Nat))
theorem rangeD_length (lo : Int) (n : Nat) : (rangeD lo n).length = n := by unfold rangeD; rw [List.length_map, List.length_range]
theorem rangeD_get {lo : Int} {n i : Nat} {d : PyData} (h : (rangeD lo n)[i]? = some d) : i < n ∧ d = .int (lo + (i : Nat)) := by
  have hi : i < n := by
    have := (List.getElem?_eq_some_iff.mp h).1
    rw [rangeD_length] at this
    exact this
  refine ⟨hi, ?_⟩
  unfold rangeD at h
  rw [List.getElem?_map, List.getElem?_range hi] at h
  exact (Option.some.inj h).symm
theorem wk_rng {K : PySem.W.Frag} {B : Hp} {lo : Int} {n : Nat} : Wk K (Itr lo n) B (rangeD lo n) where
  go := fun i H s hi => by rw [rangeD_length] at hi; exact hi
  yld := fun i B1 H x H2 s1 s2 hy d hd => by
    obtain ⟨rfl, rfl⟩ := hy
    obtain ⟨_, rfl⟩ := rangeD_get hd
    exact ⟨B1, Grow.refl s2, .int _⟩
  stop := fun H s => by
    show n ≤ (rangeD lo n).length
    rw [rangeD_length]
    exact Nat.le_refl _
theorem xi_rng1 {j : Int} (hm : X.mg "range" = none) (h : XE X δ a (.int j)) (hj : -(2 ^ 62) ≤ j ∧ j < 2 ^ 62) (hg : Gl X "range" := by rfl) (hs : starEach [a] X.env = [(false, eval a X.env)] := by rfl) : XI X tg δ (.Call (.Name "range" p) [a] [] pos) (rangeD 0 j.toNat) :=
  (pi_range1 hg hm (xa_cons h xa_nil hs) hs).weak fun σ H R ⟨B, F, W, q⟩ => ⟨B, F, W, fun vs B2 H2 g r => by
    cases r with
    | cons r1 r2 =>
      cases r2
      cases r1
      exact ⟨j, rfl, hj.1, hj.2, q _ B2 H2 g wk_rng⟩⟩
theorem xi_rng2 {i j : Int} (hm : X.mg "range" = none) (ha : XE X δ a (.int i)) (hb : XE X δ b (.int j)) (hi : -(2 ^ 62) ≤ i ∧ i < 2 ^ 62) (hj : -(2 ^ 62) ≤ j ∧ j < 2 ^ 62) (hg : Gl X "range" := by rfl)
    (hs : starEach [a, b] X.env = [(false, eval a X.env), (false, eval b X.env)] := by rfl) (hs2 : starEach [b] X.env = [(false, eval b X.env)] := by rfl) (hs3 : starEach [a, b] X.env = (false, eval a X.env) :: starEach [b] X.env := by rfl) : XI X tg δ (.Call (.Name "range" p) [a, b] [] pos) (rangeD i (j - i).toNat) :=
  (pi_range2 hg hm (xa_cons ha (xa_cons hb xa_nil hs2) hs3) hs hs2).weak fun σ H R ⟨B, F, W, q⟩ => ⟨B, F, W, fun vs B2 H2 g r => by
    cases r with
    | cons r1 r2 =>
      cases r2 with
      | cons r3 r4 =>
        cases r4
        cases r1
        cases r3
        exact ⟨i, j, rfl, ⟨hi.1, hi.2, hj.1, hj.2⟩, q _ B2 H2 g wk_rng⟩⟩
def enumD (ds : List PyData) : List PyData := ds.zipIdx.map fun p => .tuple [.int (p.2 : Nat), p.1]
theorem enumD_length (ds : List PyData) : (enumD ds).length = ds.length := by unfold enumD; rw [List.length_map, List.length_zipIdx]
theorem enumD_get {ds : List PyData} {i : Nat} {d : PyData} (h : (enumD ds)[i]? = some d) : ∃ z, ds[i]? = some z ∧ d = .tuple [.int (i : Nat), z] := by
  unfold enumD at h
  rw [List.getElem?_map, List.getElem?_zipIdx] at h
  cases e : ds[i]? with
  | none => rw [e] at h; simp at h
  | some z =>
    rw [e] at h
    simp only [Option.map_some, Nat.zero_add, Option.some.injEq] at h
    exact ⟨z, rfl, h.symm⟩
theorem wk_enum {K : PySem.W.Frag} {B : Hp} {a : Addr} {xs : List V} (h : B a = some (.lst xs)) (r : RpA K B xs ds) : Wk K (Ite K a) B (enumD ds) where
  go := fun i H s hi => by
    rw [enumD_length] at hi
    have hx : i < xs.length := by rw [r.length]; exact hi
    exact ⟨xs, xs[i], SqL.of (s _ _ h), List.getElem?_eq_getElem hx⟩
  yld := fun i B1 H x H2 s1 s2 hy d hd => by
    obtain ⟨T, y, rfl, hT, rfl, hv⟩ := hy
    have e := hv xs (SqL.of (s2 _ _ (s1 _ _ h)))
    obtain ⟨d', h1, h2⟩ := r.get e
    obtain ⟨z, h3, rfl⟩ := enumD_get hd
    rw [h3] at h1
    cases h1
    have g := Grow.new (o := .tup [.int (i : Nat), y]) s2 hT
    exact ⟨_, g, .tup (.inl (.inl upd_same)) (.cons (.int _) (.cons ((h2.mono s1).mono g.bb) .nil))⟩
  stop := fun H s => ⟨xs, SqL.of (s _ _ h), by rw [enumD_length, r.length]; exact Nat.le_refl _⟩
theorem xi_enum {elts : List Expr} {kk : Nat} {tpos : Pos} (hm : X.mg "enumerate" = none) (h : XE X δ a (.list ds)) (hg : Gl X "enumerate" := by rfl) (hs : starEach [a] X.env = [(false, eval a X.env)] := by rfl) :
    XI X (.Tuple elts kk tpos) δ (.Call (.Name "enumerate" p) [a] [] pos) (enumD ds) :=
  (pi_enum hg hm (xa_cons h xa_nil hs) hs).weak fun σ H R ⟨B, F, W, q⟩ => ⟨B, F, W, fun vs B2 H2 g r => by
    cases r with
    | cons r1 r2 =>
      cases r2
      cases r1 with
      | @lst a xs _ h1 r1 => exact ⟨a, xs, rfl, SqL.of (g.bh _ _ h1), q _ B2 H2 g (wk_enum h1 r1)⟩⟩
def zipD (ds es : List PyData) : List PyData := (ds.zip es).map fun p => .tuple [p.1, p.2]
theorem zipD_get {ds es : List PyData} {i : Nat} {d : PyData} (h : (zipD ds es)[i]? = some d) : ∃ y z, ds[i]? = some y ∧ es[i]? = some z ∧ d = .tuple [y, z] := by
  unfold zipD at h
  rw [List.getElem?_map] at h
  cases e : (ds.zip es)[i]? with
  | none => rw [e] at h; simp at h
  | some z =>
    rw [e] at h
    simp only [Option.map_some, Option.some.injEq] at h
    rw [List.getElem?_zip_eq_some] at e
    exact ⟨z.1, z.2, e.1, e.2, h.symm⟩
theorem zipD_length (ds es : List PyData) : (zipD ds es).length = min ds.length es.length := by unfold zipD; rw [List.length_map, List.length_zip]
theorem wk_zip {K : PySem.W.Frag} {B : Hp} {a b : Addr} {xs ys : List V} (h : B a = some (.lst xs)) (r : RpA K B xs ds) (h' : B b = some (.lst ys)) (r' : RpA K B ys ds2) : Wk K (Itz K a b) B (zipD ds ds2) where
  go := fun i H s hi => by
    rw [zipD_length] at hi
    have hx : i < xs.length := by rw [r.length]; omega
    have hy : i < ys.length := by rw [r'.length]; omega
    exact ⟨xs, ys, xs[i], ys[i], SqL.of (s _ _ h), SqL.of (s _ _ h'), List.getElem?_eq_getElem hx, List.getElem?_eq_getElem hy⟩
  yld := fun i B1 H x H2 s1 s2 hy d hd => by
    obtain ⟨T, y, z, rfl, hT, rfl, hv, hw⟩ := hy
    obtain ⟨d1, h1, h2⟩ := r.get (hv xs (SqL.of (s2 _ _ (s1 _ _ h))))
    obtain ⟨d2, h3, h4⟩ := r'.get (hw ys (SqL.of (s2 _ _ (s1 _ _ h'))))
    obtain ⟨u, w, h5, h6, rfl⟩ := zipD_get hd
    rw [h5] at h1
    rw [h6] at h3
    cases h1
    cases h3
    have g := Grow.new (o := .tup [y, z]) s2 hT
    exact ⟨_, g, .tup (.inl (.inl upd_same)) (.cons ((h2.mono s1).mono g.bb) (.cons ((h4.mono s1).mono g.bb) .nil))⟩
  stop := fun H s => ⟨xs, ys, SqL.of (s _ _ h), SqL.of (s _ _ h'), by rw [zipD_length, r.length, r'.length]; omega⟩
theorem xi_zip {elts : List Expr} {kk : Nat} {tpos : Pos} (hm : X.mg "zip" = none) (ha : XE X δ a (.list ds)) (hb : XE X δ b (.list ds2)) (hg : Gl X "zip" := by rfl)
    (hs : starEach [a, b] X.env = (false, eval a X.env) :: starEach [b] X.env := by rfl) (hs2 : starEach [b] X.env = (false, eval b X.env) :: starEach [] X.env := by rfl) (hpl : (backTo pos (starEach [b] X.env)).any (·.1) = false := by rfl) :
    XI X (.Tuple elts kk tpos) δ (.Call (.Name "zip" p) [a, b] [] pos) (zipD ds ds2) :=
  (pi_zip hg hm (xa_cons ha (xa_cons hb xa_nil hs2) hs) hs hpl).weak fun σ H R ⟨B, F, W, q⟩ => ⟨B, F, W, fun vs B2 H2 g r => by
    cases r with
    | cons r1 r2 =>
      cases r2 with
      | cons r3 r4 =>
        cases r4
        cases r1 with
        | @lst a xs _ h1 r1 =>
          cases r3 with
          | @lst b ys _ h3 r3 => exact ⟨a, b, xs, ys, rfl, SqL.of (g.bh _ _ h1), SqL.of (g.bh _ _ h3), q _ B2 H2 g (wk_zip h1 r1 h3 r3)⟩⟩

/-! ### targets -/
/-- the datum d is stored: the slots is turn, δ to δ2 -/
def tG (K : PySem.W.Frag) (is : List Nat) (d : PyData) (δ δ2 : List Slot) : TG := fun v σ H Q => ∃ B F, Wf K B H σ δ F ∧ Rp K B v d ∧ ∀ σ2 F2, Wf K B H σ2 δ2 F2 → (∀ i, ∀ b ∈ F2 i, ∃ j, b ∈ F j) → σ2.length = σ.length → (∀ k, k ∉ is → σ2[k]? = σ[k]?) → Q σ2 H
def tGs (K : PySem.W.Frag) (is : List Nat) (ds : List PyData) (δ δ2 : List Slot) : TGs := fun vs σ H Q => ∃ B F, Wf K B H σ δ F ∧ RpA K B vs ds ∧ ∀ σ2 F2, Wf K B H σ2 δ2 F2 → (∀ i, ∀ b ∈ F2 i, ∃ j, b ∈ F j) → σ2.length = σ.length → (∀ k, k ∉ is → σ2[k]? = σ[k]?) → Q σ2 H
abbrev XG (X : Cx) (tg : Expr) (is : List Nat) (d : PyData) (δ δ2 : List Slot) : Prop := PG X tg (tG X.K is d δ δ2)
abbrev XGs (X : Cx) (tgs : List Expr) (is : List Nat) (ds : List PyData) (δ δ2 : List Slot) : Prop := PGs X tgs (tGs X.K is ds δ δ2)
theorem _root_.L2.PG.weak {t t' : TG} (h : PG X tg t) (w : ∀ v σ H Q, t' v σ H Q → t v σ H Q) : PG X tg t' := ⟨fun pins s σ H v u Q I r q => h.run pins s σ H v u Q I r (w v σ H Q q)⟩
theorem _root_.L2.PGs.weak {t t' : TGs} (h : PGs X es t) (w : ∀ v σ H Q, t' v σ H Q → t v σ H Q) : PGs X es t' := ⟨fun pins s σ H v u Q I r q => h.run pins s σ H v u Q I r (w v σ H Q q)⟩
theorem xg_name (i : Nat) {x : Str} (hN : X.N.Nodup) (hi : X.N[i]? = some x := by rfl) (hx : Loc X.env.scope x := by first | exact Or.inl rfl | exact Or.inr rfl) (hf : X.fn x = true ∨ X.env.scope.names.lookup x = some .local := by first | exact .inl rfl | exact .inr rfl) :
    XG X (.Name x pos) [i] d δ (δ.set i (.dat d)) := (pg_name (i := i) hN hi hx hf).weak fun v σ H Q ⟨B, F, W, r, q⟩ =>
  q _ _ (W.put (s := .dat d) ⟨rfl, r⟩) cut_sub (List.length_set ..) fun k hk => List.getElem?_set_ne (fun e => hk (by rw [e]; exact List.mem_singleton.mpr rfl))
theorem xgs_nil : XGs X [] [] [] δ δ := pgs_nil.weak fun v σ H Q ⟨B, F, W, r, q⟩ => by
  cases r
  exact ⟨rfl, q σ F W (fun i b hb => ⟨i, hb⟩) rfl fun _ _ => rfl⟩
theorem xgs_cons {e : Expr} {is js : List Nat} {δ1 δ2 : List Slot} (h1 : XG X e is d δ δ1) (h2 : XGs X es js ds δ1 δ2) (hs : (assignEach (e :: es) X.env).map (·.2) = assign e X.env :: (assignEach es X.env).map (·.2) := by rfl) : XGs X (e :: es) (is ++ js) (d :: ds) δ δ2 :=
  (pgs_cons h1 h2 hs).weak fun vs σ H Q ⟨B, F, W, r, q⟩ => by
    cases r with
    | @cons v us _ _ r1 r2 =>
      exact ⟨v, us, rfl, B, F, W, r1, fun σ1 F1 W1 b1 l1 k1 => ⟨B, F1, W1, r2, fun σ2 F2 W2 b2 l2 k2 => q σ2 F2 W2 (fun i b hb => by
        obtain ⟨j, hj⟩ := b2 i b hb
        exact b1 j b hj) (l2.trans l1) fun k hk => (k2 k fun z => hk (List.mem_append_right _ z)).trans (k1 k fun z => hk (List.mem_append_left _ z))⟩⟩
theorem xg_tup {k : Nat} {is : List Nat} {δ2 : List Slot} (hc : X.calm = true) (h : XGs X es is ds δ δ2) (hl : ds.length = es.length) (hn : (assignEach es X.env).length = es.length := by rfl) (hst : (assignEach es X.env).findIdx? (·.1) = none := by rfl) : XG X (.Tuple es k pos) is (.tuple ds) δ δ2 :=
  (pg_tup hc h hn hst).weak fun v σ H Q ⟨B, F, W, r, q⟩ => by
    cases r with
    | @tup a xs _ h1 r1 => exact ⟨a, xs, rfl, same_t W.bh h1, by rw [r1.length, hl], B, F, W, r1, q⟩
end

/-! ### comprehensions -/
theorem wipe_get {σ : L2.St} : ∀ (vs : List Nat) (k : Nat), k < σ.length → (wipe σ vs)[k]? = if k ∈ vs then some none else σ[k]?
  | [], k, _ => by simp [wipe]
  | v :: vs, k, hk => by
    unfold wipe
    by_cases e : k = v
    · subst e
      rw [List.getElem?_set_self (by rw [wipe_length]; exact hk), if_pos List.mem_cons_self]
    · rw [List.getElem?_set_ne (Ne.symm e), wipe_get vs k hk]
      by_cases h : k ∈ vs
      · rw [if_pos h, if_pos (List.mem_cons_of_mem _ h)]
      · rw [if_neg h, if_neg (fun z => (List.mem_cons.mp z).elim e h)]
theorem wipe_same {σ σ2 : L2.St} {is vs : List Nat} (hl : σ2.length = (wipe σ vs).length) (h : ∀ k, k ∉ is → σ2[k]? = (wipe σ vs)[k]?) (hi : ∀ k ∈ is, k ∈ vs) : wipe σ2 vs = wipe σ vs := by
  rw [wipe_length] at hl
  apply List.ext_getElem?
  intro k
  by_cases hk : k < σ.length
  · rw [wipe_get vs k (by omega), wipe_get vs k hk]
    by_cases hv : k ∈ vs
    · rw [if_pos hv, if_pos hv]
    · rw [if_neg hv, if_neg hv, h k (fun z => hv (hi k z)), wipe_get vs k hk, if_neg hv]
  · rw [List.getElem?_eq_none (by rw [wipe_length]; omega), List.getElem?_eq_none (by rw [wipe_length]; omega)]
section
variable {X : Cx} {δ : List Slot} {a b c e tg iter elt : Expr} {pos p : Pos} {ds ds2 : List PyData} {es ifs : List Expr} {d : PyData}
/-- the block of a comprehension -/
abbrev Blk (X : Cx) (scope : Scope) (P : Cx → Prop) : Prop := ∀ (s : Shared) (H : Hp) (C : Addr) (cl : List (Str × Addr)) (fp : List Addr), P (X.blk s H scope (compEnvC scope cl C X.env) fp)
/-- [elt for tg in iter if test]: g of those that are good; the things that are walked are f of l's -/
theorem lc_turn {K : PySem.W.Frag} {ι : Type} {l : List ι} {f : ι → PyData} {vs is : List Nat} {wi : TI} (g : ι → PyData) (t : ι → Bool) (Δ : ι → List Slot) (hz : l.length ≤ 1000000) (hi : ∀ k ∈ is, k ∈ vs) (hwi : ∀ σ H R, tI K δ (l.map f) σ H R → wi σ H R)
    {tG' : TG} {tT : TT} {tE' : TE} (hG : ∀ v σ H Q, (∃ d : {d // d ∈ l}, tG K is (f d.1) (wipeD δ vs) (Δ d.1) v σ H Q) → tG' v σ H Q) (hT : ∀ σ H Q, (∃ d : {d // d ∈ l}, tBo K (Δ d.1) (t d.1) σ H Q) → tT σ H Q)
    (hE : ∀ σ H Q, (∃ d : {d // d ∈ l ∧ t d = true}, tD K (Δ d.1) (g d.1) σ H Q) → tE' σ H Q) :
    ∀ σ H Q, tN K δ ((l.filter t).map g) σ H Q → tLc wi tG' tT tE' vs σ H Q := fun σ H Q ⟨B, F, W, q⟩ => by
  refine hwi σ H _ ⟨B, F, W, fun J B1 H1 g1 wk D hD => ?_⟩
  have W1 := W.grow g1
  refine ⟨fun i m H' => m = l.length - i ∧ i ≤ l.length ∧ ∃ Bi xs, Grow B1 H1 Bi H' ∧ H' D = some (.lst xs) ∧ Bi D = none ∧ RpA K Bi xs (((l.take i).filter t).map g), ⟨l.length, by simp, Nat.zero_le _, B1, [], Grow.newH g1.bh hD, upd_same, g1.bh.free hD, .nil⟩, ?_⟩
  rintro i m H' ⟨rfl, hle, Bi, xs, gi, hx, hb, r⟩
  by_cases hlt : i < l.length
  · refine .inr ⟨wk.go i H' (gi.bb.trans gi.bh) (by rw [List.length_map]; exact hlt), fun H2 => ∃ Bi xs, Grow B1 H1 Bi H2 ∧ H2 D = some (.lst xs) ∧ Bi D = none ∧ RpA K Bi xs (((l.take (i + 1)).filter t).map g), fun H2 h2 => ⟨l.length - (i + 1), by omega, rfl, hlt, h2⟩, fun x H2 hy => ?_⟩
    have hget : l[i]? = some l[i] := List.getElem?_eq_getElem hlt
    have hmem : l[i] ∈ l := List.getElem_mem hlt
    generalize hd : l[i] = d at hget hmem
    obtain ⟨B2, g2, r2⟩ := wk.yld i Bi H' x H2 gi.bb gi.bh hy (f d) (by rw [List.getElem?_map, hget]; rfl)
    have hD2 : H2 D = some (.lst xs) := g2.hh _ _ hx
    have hB2 : B2 D = none := (g2.fr D _ hx).trans hb
    have gg := gi.trans g2
    have Wi : Wf K B2 H2 (wipe σ vs) (wipeD δ vs) (wipeF F vs) := (W1.grow gg).wipe vs
    have etake : l.take (i + 1) = l.take i ++ [d] := by rw [List.take_add_one, hget]; rfl
    refine hG x _ H2 _ ⟨⟨d, hmem⟩, B2, _, Wi, r2, fun σ2 F2 W2 sb hl hk => ⟨wipe_same hl hk hi, ?_⟩⟩
    refine hT σ2 H2 _ ⟨⟨d, hmem⟩, B2, F2, W2, fun B3 H3 g3 => ?_⟩
    have hD3 : H3 D = some (.lst xs) := g3.hh _ _ hD2
    have hB3 : B3 D = none := (g3.fr D _ hD2).trans hB2
    cases ht : t d with
    | false =>
      show ∃ Bi xs, Grow B1 H1 Bi H3 ∧ _
      refine ⟨B3, xs, gg.trans g3, hD3, hB3, ?_⟩
      rw [etake, List.filter_append, List.map_append, List.filter_cons, if_neg (by rw [ht]; decide)]
      show RpA K B3 xs (_ ++ [])
      rw [List.append_nil]
      exact (r.mono g2.bb).mono g3.bb
    | true =>
      show tE' σ2 H3 _
      refine hE σ2 H3 _ ⟨⟨d, hmem, ht⟩, B3, F2, W2.grow g3, fun y B4 H4 g4 r4 => ⟨xs, g4.hh _ _ hD3, ?_, ?_⟩⟩
      · have h1 := r.length
        rw [List.length_map] at h1
        have h2 := List.length_filter_le t (l.take i)
        rw [List.length_take] at h2
        have : xs.length < 1000000 := by omega
        exact Nat.lt_of_lt_of_le this (sz_of (Nat.le_refl _))
      · have hB4 : B4 D = none := (g4.fr D _ hD3).trans hB3
        have hD4 := g4.hh _ _ hD3
        have g5 : Grow B1 H1 B4 H4 := (gg.trans g3).trans g4
        have nD : H1 D = none := hD
        refine ⟨B4, xs ++ [y], ⟨g5.bb, fun b o hb => ?_, fun b o hb => ?_, fun b o hb => ?_⟩, upd_same, hB4, ?_⟩
        · have : b ≠ D := fun z => by rw [z, hB4] at hb; cases hb
          rw [upd_ne this]
          exact g5.bh b o hb
        · have : b ≠ D := fun z => by rw [z, nD] at hb; cases hb
          rw [upd_ne this]
          exact g5.hh b o hb
        · exact g5.fr b o hb
        · rw [etake, List.filter_append, List.map_append, List.filter_cons, if_pos ht]
          exact (((r.mono g2.bb).mono g3.bb).mono g4.bb).append (.cons r4 .nil)
  · have e : i = l.length := by omega
    subst e
    rw [List.take_length] at r
    refine .inl ⟨?_, q D xs Bi H' (g1.trans gi) (g1.hh.free hD) hb hx r⟩
    have := wk.stop H' (gi.bb.trans gi.bh)
    rw [List.length_map] at this
    exact this
/-- a list comprehension's value, and its statement -/
structure XL (X : Cx) (δ : List Slot) (e : Expr) (ys : List PyData) : Prop where
  val : XN X δ e ys
  set : ∀ (i : Nat) {y : Str} {py spos : Pos}, X.N.Nodup → X.N[i]? = some y → X.env.scope.names.lookup y = some .local → swapsWith e (some (.Name y py)) spos.line X.env = pure true → PS X (.Assign [.Name y py] e spos) (tAsg (tN X.K δ ys) (gName i))
theorem xl_G {ι : Type} {l : List ι} {f : ι → PyData} {scope : Scope} {own : List (Str × Nat)} {is : List Nat} (g : ι → PyData) (t : ι → Bool) (Δ : ι → List Slot) (hc : X.calm = true) (hN : X.N.Nodup) (hi : XI X tg δ iter (l.map f)) (ok : BlkOk X.N X.env.scope scope own)
    (hg : Blk X scope fun Y => ∀ d ∈ l, XG Y tg is (f d) (wipeD δ (own.map (·.2))) (Δ d)) (ht : Blk X scope fun Y => ∀ d ∈ l, PTs Y ifs (tBo X.K (Δ d) (t d))) (he : Blk X scope fun Y => ∀ d ∈ l, t d = true → XE Y (Δ d) elt (g d))
    (hz : l.length ≤ 1000000) (his : ∀ k ∈ is, k ∈ own.map (·.2)) (hs : ∀ x, foldedSetIterable iter X.env x = pure x := by intro _; rfl) : XL X δ (.ListComp elt [⟨tg, iter, ifs, 0⟩] scope pos) ((l.filter t).map g) :=
  ⟨(pe_lc hc hN hi ok (fun s H C cl fp => pg_ex fun d : {d // d ∈ l} => hg s H C cl fp d.1 d.2) (fun s H C cl fp => pts_ex fun d : {d // d ∈ l} => ht s H C cl fp d.1 d.2) (fun s H C cl fp => pe_ex fun d : {d // d ∈ l ∧ t d = true} => he s H C cl fp d.1 d.2.1 d.2.2) hs).weak
    (lc_turn g t Δ hz his (fun _ _ _ q => q) (fun _ _ _ _ q => q) (fun _ _ _ q => q) (fun _ _ _ q => q)),
   fun i y py spos _ hy hyl hsw => (ps_setLc hc hN hy hyl hsw hi ok (fun s H C cl fp => pg_ex fun d : {d // d ∈ l} => hg s H C cl fp d.1 d.2) (fun s H C cl fp => pts_ex fun d : {d // d ∈ l} => ht s H C cl fp d.1 d.2) (fun s H C cl fp => pe_ex fun d : {d // d ∈ l ∧ t d = true} => he s H C cl fp d.1 d.2.1 d.2.2) hs).weak
    fun D σ H q => lc_turn g t Δ hz his (fun _ _ _ q => q) (fun _ _ _ _ q => q) (fun _ _ _ q => q) (fun _ _ _ q => q) σ H _ q⟩
theorem xts_nil {Y : Cx} : PTs Y [] (tBo Y.K δ true) := ⟨fun pins s σ H Q I ⟨B, F, W, q⟩ => pts_nil.run pins s σ H Q I (q B H (Grow.refl W.bh))⟩
theorem xts_one {Y : Cx} {k : Bool} (h : XT Y δ c k) : PTs Y [c] (tBo Y.K δ k) := pts_one h
/-- [elt for x in iter], x in slot j -/
theorem xl_lc {ι : Type} {l : List ι} {f : ι → PyData} {scope : Scope} (j : Nat) {x : Str} (g : ι → PyData) (hN : X.N.Nodup) (hi : XI X (.Name x p) δ iter (l.map f))
    (he : Blk X scope fun Y => ∀ d ∈ l, XE Y ((δ.set j .no).set j (.dat (f d))) elt (g d)) (hz : l.length ≤ 1000000)
    (ok : BlkOk X.N X.env.scope scope [(x, j)] := by exact blkOk_by (by kernel_rfl)) (hj : X.N[j]? = some x := by rfl) (hx : Blk X scope fun Y => Loc Y.env.scope x := by first | exact fun _ _ _ _ _ => Or.inl rfl | exact fun _ _ _ _ _ => Or.inr rfl) (hf : Blk X scope fun Y => Y.fn x = true ∨ Y.env.scope.names.lookup x = some .local := by first | exact fun _ _ _ _ _ => Or.inr rfl | exact fun _ _ _ _ _ => Or.inl rfl)
    (hc : X.calm = true := by rfl) (hs : ∀ x, foldedSetIterable iter X.env x = pure x := by intro _; rfl) : XL X δ (.ListComp elt [⟨.Name x p, iter, [], 0⟩] scope pos) (l.map g) := by
  have h := xl_G (X := X) (ifs := []) (pos := pos) (l := l) (f := f) (own := [(x, j)]) (is := [j]) g (fun _ => true) (fun d => (δ.set j .no).set j (.dat (f d))) hc hN hi ok
    (fun s H C cl fp d _ => xg_name j hN hj (hx s H C cl fp) (hf s H C cl fp)) (fun s H C cl fp d _ => xts_nil) (fun s H C cl fp d hd _ => he s H C cl fp d hd) hz (fun k hk => hk) hs
  rw [List.filter_eq_self.mpr (fun _ _ => rfl)] at h
  exact h
/-- [elt for x in iter if c] -/
theorem xl_lcIf {ι : Type} {l : List ι} {f : ι → PyData} {scope : Scope} (j : Nat) {x : Str} (g : ι → PyData) (t : ι → Bool) (hN : X.N.Nodup) (hi : XI X (.Name x p) δ iter (l.map f))
    (ht : Blk X scope fun Y => ∀ d ∈ l, XT Y ((δ.set j .no).set j (.dat (f d))) c (t d)) (he : Blk X scope fun Y => ∀ d ∈ l, t d = true → XE Y ((δ.set j .no).set j (.dat (f d))) elt (g d)) (hz : l.length ≤ 1000000)
    (ok : BlkOk X.N X.env.scope scope [(x, j)] := by exact blkOk_by (by kernel_rfl)) (hj : X.N[j]? = some x := by rfl) (hx : Blk X scope fun Y => Loc Y.env.scope x := by first | exact fun _ _ _ _ _ => Or.inl rfl | exact fun _ _ _ _ _ => Or.inr rfl) (hf : Blk X scope fun Y => Y.fn x = true ∨ Y.env.scope.names.lookup x = some .local := by first | exact fun _ _ _ _ _ => Or.inr rfl | exact fun _ _ _ _ _ => Or.inl rfl)
    (hc : X.calm = true := by rfl) (hs : ∀ x, foldedSetIterable iter X.env x = pure x := by intro _; rfl) : XL X δ (.ListComp elt [⟨.Name x p, iter, [c], 0⟩] scope pos) ((l.filter t).map g) :=
  xl_G (X := X) (ifs := [c]) (pos := pos) (l := l) (f := f) (own := [(x, j)]) (is := [j]) g t (fun d => (δ.set j .no).set j (.dat (f d))) hc hN hi ok
    (fun s H C cl fp d _ => xg_name j hN hj (hx s H C cl fp) (hf s H C cl fp)) (fun s H C cl fp d hd => xts_one (ht s H C cl fp d hd)) (fun s H C cl fp d hd ht => he s H C cl fp d hd ht) hz (fun k hk => hk) hs
end
end Dl

set_option Elab.async false
set_option linter.all false
set_option maxRecDepth 100000
set_option maxHeartbeats 4000000
/-! The data level: statements, the promises of defs. -/
namespace Dl
open PySem PySem.Spec PyProof.Rows L2
section
variable {X : Cx} {δ δ2 : List Slot} {a b c e tg iter : Expr} {pos p : Pos} {ds : List PyData} {es : List Expr} {d : PyData} {st : Stmt} {rest body : List Stmt} {R R' : Post}
/-! ### what is wanted behind -/
/-- the ends' wishes, from a state on -/
structure Ok (K : PySem.W.Frag) (R : Post) (D : Ends) (B H : Hp) (F : Nat → List Addr) : Prop where
  nx : ∀ σ2 δ2 B2 H2 F2, Step B H F B2 H2 F2 → Wf K B2 H2 σ2 δ2 F2 → R.nx δ2 → D.nx σ2 H2
  rt : ∀ v d σ2 δ2 B2 H2 F2, Step B H F B2 H2 F2 → Wf K B2 H2 σ2 δ2 F2 → R.rt d δ2 → Rp K B2 v d → D.rt v H2
  bk : ∀ σ2 δ2 B2 H2 F2, Step B H F B2 H2 F2 → Wf K B2 H2 σ2 δ2 F2 → R.bk δ2 → D.bk σ2 H2
  ct : ∀ σ2 δ2 B2 H2 F2, Step B H F B2 H2 F2 → Wf K B2 H2 σ2 δ2 F2 → R.ct δ2 → D.ct σ2 H2
  rr : ∀ v σ2 δ2 B2 H2 F2, Step B H F B2 H2 F2 → Wf K B2 H2 σ2 δ2 F2 → R.rr v B2 H2 → D.rt v H2
  gh : ghOk R.gh B H F
theorem ts_iff {K : PySem.W.Frag} {D : Ends} {σ : L2.St} {H : Hp} : tS K δ R D σ H ↔ ∃ B F, Wf K B H σ δ F ∧ Ok K R D B H F :=
  ⟨fun ⟨B, F, W, h1, h2, h3, h4, h5, h6⟩ => ⟨B, F, W, h1, h2, h3, h4, h5, h6⟩, fun ⟨B, F, W, o⟩ => ⟨B, F, W, o.nx, o.rt, o.bk, o.ct, o.rr, o.gh⟩⟩
theorem ghOk.step {g : Option (Hp × Hp × (Nat → List Addr))} {B H B1 H1 : Hp} {F F1 : Nat → List Addr} (h : ghOk g B H F) (s : Step B H F B1 H1 F1) : ghOk g B1 H1 F1 := by
  cases g with
  | none => trivial
  | some z => exact Step.trans h s
theorem Ok.step {K : PySem.W.Frag} {D : Ends} {B H B1 H1 : Hp} {F F1 : Nat → List Addr} (o : Ok K R D B H F) (s : Step B H F B1 H1 F1) : Ok K R D B1 H1 F1 :=
  ⟨fun σ2 δ2 B2 H2 F2 s2 => o.nx σ2 δ2 B2 H2 F2 (s.trans s2), fun v d σ2 δ2 B2 H2 F2 s2 => o.rt v d σ2 δ2 B2 H2 F2 (s.trans s2), fun σ2 δ2 B2 H2 F2 s2 => o.bk σ2 δ2 B2 H2 F2 (s.trans s2), fun σ2 δ2 B2 H2 F2 s2 => o.ct σ2 δ2 B2 H2 F2 (s.trans s2), fun v σ2 δ2 B2 H2 F2 s2 => o.rr v σ2 δ2 B2 H2 F2 (s.trans s2), o.gh.step s⟩
theorem Ok.imp {K : PySem.W.Frag} {D : Ends} {B H : Hp} {F : Nat → List Addr} (o : Ok K R D B H F) (h1 : ∀ δ, R'.nx δ → R.nx δ) (h2 : ∀ d δ, R'.rt d δ → R.rt d δ) (h3 : ∀ δ, R'.bk δ → R.bk δ) (h4 : ∀ δ, R'.ct δ → R.ct δ) (h5 : ∀ v B H, R'.rr v B H → R.rr v B H) (h6 : R'.gh = R.gh) : Ok K R' D B H F :=
  ⟨fun σ2 δ2 B2 H2 F2 s W q => o.nx σ2 δ2 B2 H2 F2 s W (h1 _ q), fun v d σ2 δ2 B2 H2 F2 s W q => o.rt v d σ2 δ2 B2 H2 F2 s W (h2 _ _ q), fun σ2 δ2 B2 H2 F2 s W q => o.bk σ2 δ2 B2 H2 F2 s W (h3 _ q), fun σ2 δ2 B2 H2 F2 s W q => o.ct σ2 δ2 B2 H2 F2 s W (h4 _ q), fun v σ2 δ2 B2 H2 F2 s W q => o.rr v σ2 δ2 B2 H2 F2 s W (h5 _ _ _ q), by rw [h6]; exact o.gh⟩
theorem XB.imp {sts : List Stmt} (h : XB X δ sts R') (h1 : ∀ δ, R'.nx δ → R.nx δ) (h2 : ∀ d δ, R'.rt d δ → R.rt d δ) (h3 : ∀ δ, R'.bk δ → R.bk δ) (h4 : ∀ δ, R'.ct δ → R.ct δ) (h5 : ∀ v B H, R'.rr v B H → R.rr v B H) (h6 : R'.gh = R.gh) : XB X δ sts R := PSs.weak h fun D σ H q => by
  obtain ⟨B, F, W, o⟩ := ts_iff.mp q
  exact ts_iff.mpr ⟨B, F, W, o.imp h1 h2 h3 h4 h5 h6⟩
/-! ### blocks -/
theorem xb_nil (h : R.nx δ) : XB X δ [] R := pss_nil.weak fun D σ H q => by
  obtain ⟨B, F, W, o⟩ := ts_iff.mp q
  exact o.nx σ δ B H F Step.refl W h
/-- one statement by its own reading, then the rest -/
theorem xb_cons {t u : TS} (h1 : PS X st t) (h2 : PSs X rest u) (w : ∀ D σ H B F, Wf X.K B H σ δ F → Ok X.K R D B H F → t { D with nx := u D } σ H) : XB X δ (st :: rest) R := (pss_cons h1 h2).weak fun D σ H q => by
  obtain ⟨B, F, W, o⟩ := ts_iff.mp q
  exact w D σ H B F W o
theorem xb_ret (he : XE X δ e d) (h : R.rt d δ) : XB X δ (.Return (some e) pos :: rest) R := xb_cons (ps_ret he) pss_never fun D σ H B F W o =>
  ⟨B, F, W, fun v B2 H2 g r => o.rt v d σ δ B2 H2 F (Step.of g) (W.grow g) h r⟩
theorem xb_retN (h : R.rt .none δ) : XB X δ (.Return none pos :: rest) R := xb_cons ps_retN pss_never fun D σ H B F W o =>
  o.rt _ _ σ δ B H F Step.refl W h .non
theorem xb_doc {x j pos'} (h : XB X δ rest R) : XB X δ (.Expr (.Constant (.str x) j pos) pos' :: rest) R := xb_cons ps_doc h fun D σ H B F W o => ts_iff.mpr ⟨B, F, W, o⟩
theorem xb_pass (h : XB X δ rest R) : XB X δ (.Pass pos :: rest) R := xb_cons ps_pass h fun D σ H B F W o => ts_iff.mpr ⟨B, F, W, o⟩
theorem xb_break (h : R.bk δ) : XB X δ (.Break pos :: rest) R := xb_cons ps_break pss_never fun D σ H B F W o => o.bk σ δ B H F Step.refl W h
theorem xb_cont (h : R.ct δ) : XB X δ (.Continue pos :: rest) R := xb_cons ps_continue pss_never fun D σ H B F W o => o.ct σ δ B H F Step.refl W h
/-- x = e by the statement's own reading -/
theorem xb_set {i : Nat} (h : PS X st (tAsg (tD X.K δ d) (gName i))) (k : XB X (δ.set i (.dat d)) rest R) : XB X δ (st :: rest) R := xb_cons h k fun D σ H B F W o =>
  ⟨B, F, W, fun v B2 H2 g r => ts_iff.mpr ⟨B2, _, (W.grow g).put (s := .dat d) ⟨rfl, r⟩, o.step ((Step.of g).sub cut_sub)⟩⟩
/-- an owned object is put in a slot -/
theorem Wf.putO {K : PySem.W.Frag} {B H : Hp} {σ : L2.St} {F : Nat → List Addr} (W : Wf K B H σ δ F) {i : Nat} {v : V} {r : Res} {fp : List Addr} (hi : i < δ.length) (hs : r.ok B H v fp) (hn : ∀ a ∈ fp, (B a = none ∧ ∃ o, H a = some o) ∧ ∀ j, j ≠ i → a ∉ F j) :
    Wf K B H (σ.set i (some v)) (δ.set i (.own r)) (fun j => if j = i then fp else F j) where
  bh := W.bh
  len := by rw [List.length_set, List.length_set]; exact W.len
  sl := fun j t e => by
    by_cases hj : j = i
    · subst hj
      rw [List.getElem?_set_self hi] at e
      cases e
      refine ⟨some v, List.getElem?_set_self (by rw [← W.len]; exact hi), ?_⟩
      rw [if_pos rfl]
      exact hs
    · rw [List.getElem?_set_ne (Ne.symm hj)] at e
      obtain ⟨o, h1, h2⟩ := W.sl j t e
      refine ⟨o, by rw [List.getElem?_set_ne (Ne.symm hj)]; exact h1, ?_⟩
      rw [if_neg hj]
      exact h2
  out := fun j hj => by
    rw [List.length_set] at hj
    by_cases h : j = i
    · omega
    · rw [if_neg h]
      exact W.out j hj
  dis := fun j k a h1 h2 => by
    by_cases hj : j = i
    · by_cases hk : k = i
      · rw [hj, hk]
      · rw [if_pos hj] at h1
        rw [if_neg hk] at h2
        exact absurd h2 ((hn a h1).2 k hk)
    · by_cases hk : k = i
      · rw [if_neg hj] at h1
        rw [if_pos hk] at h2
        exact absurd h1 ((hn a h2).2 j hj)
      · rw [if_neg hj] at h1
        rw [if_neg hk] at h2
        exact W.dis j k a h1 h2
  own := fun j a h => by
    by_cases hj : j = i
    · rw [if_pos hj] at h
      exact (hn a h).1
    · rw [if_neg hj] at h
      exact W.own j a h
theorem xb_setA {i : Nat} (h : PS X st (tAsg (tN X.K δ ds) (gName i))) (hi : i < δ.length) (k : XB X (δ.set i (.own (accR X.K ds))) rest R) : XB X δ (st :: rest) R := xb_cons h k fun D σ H B F W o =>
  ⟨B, F, W, fun p xs B2 H2 g hp hb h2 r => by
    have W2 := W.grow g
    have np : ∀ j, p ∉ F j := fun j hj => by
      obtain ⟨_, u, hu⟩ := W.own j p hj
      rw [hp] at hu
      cases hu
    refine ts_iff.mpr ⟨B2, _, W2.putO (r := accR X.K ds) (fp := [p]) hi ⟨p, xs, rfl, rfl, h2, r⟩ (fun a ha => ?_), o.step ?_⟩
    · cases List.mem_singleton.mp ha
      exact ⟨⟨hb, _, h2⟩, fun j _ => np j⟩
    · exact ⟨g.bb, fun b o e _ => g.hh b o e, fun b o e _ => g.fr b o e, fun b o e => ⟨o, g.hh b o e⟩, fun j b hb => by
        by_cases hj : j = i
        · rw [if_pos hj] at hb
          cases List.mem_singleton.mp hb
          exact .inr hp
        · rw [if_neg hj] at hb
          exact .inl ⟨j, hb⟩⟩⟩
theorem xs_set {te : TE} (i : Nat) {x : Str} (he : PE X e te) (hN : X.N.Nodup) (hi : X.N[i]? = some x := by rfl) (hx : Loc X.env.scope x := by first | exact Or.inl rfl | exact Or.inr rfl) (hs : swapsWith e (some (.Name x p)) pos.line X.env = pure false := by rfl)
    (hf : X.fn x = true ∨ X.env.scope.names.lookup x = some .local := by first | exact .inl rfl | exact .inr rfl | assumption) : PS X (.Assign [.Name x p] e pos) (tAsg te (gName i)) := ps_set hN hi hx he hs hf
theorem xb_asg (i : Nat) {x : Str} (he : XE X δ e d) (k : XB X (δ.set i (.dat d)) rest R) (hN : X.N.Nodup) (hi : X.N[i]? = some x := by rfl) (hx : Loc X.env.scope x := by first | exact Or.inl rfl | exact Or.inr rfl) (hs : swapsWith e (some (.Name x p)) pos.line X.env = pure false := by rfl)
    (hf : X.fn x = true ∨ X.env.scope.names.lookup x = some .local := by first | exact .inl rfl | exact .inr rfl | assumption) : XB X δ (.Assign [.Name x p] e pos :: rest) R := xb_set (ps_set hN hi hx he hs hf) k
theorem xb_asgA (i : Nat) {x : Str} (he : XN X δ e ds) (k : XB X (δ.set i (.own (accR X.K ds))) rest R) (hN : X.N.Nodup) (hl : i < δ.length := by exact Nat.le_of_ble_eq_true rfl) (hi : X.N[i]? = some x := by rfl) (hx : Loc X.env.scope x := by first | exact Or.inl rfl | exact Or.inr rfl) (hs : swapsWith e (some (.Name x p)) pos.line X.env = pure false := by rfl)
    (hf : X.fn x = true ∨ X.env.scope.names.lookup x = some .local := by first | exact .inl rfl | exact .inr rfl | assumption) : XB X δ (.Assign [.Name x p] e pos :: rest) R := xb_setA (ps_set hN hi hx he hs hf) hl k
/-- a, b = e1, e2 -/
theorem xb_par {d1 d2 : PyData} {i j : Nat} {x y : Str} {px py pt : Pos} {kt k2 pt2} (ha : XE X δ a d1) (hb : XE X δ b d2) (k : XB X ((δ.set i (.dat d1)).set j (.dat d2)) rest R) (hN : X.N.Nodup) (hi : X.N[i]? = some x := by rfl) (hj : X.N[j]? = some y := by rfl) (hij : i ≠ j := by decide)
    (hx : X.env.scope.names.lookup x = some .local := by rfl) (hy : X.env.scope.names.lookup y = some .local := by rfl) (hc : X.calm = true := by rfl)
    (hw : swappedStores [.Tuple [.Name x px, .Name y py] kt pt] (.Tuple [a, b] k2 pt2) X.env = pure (some [x, y]) := by rfl)
    (hs : swapsWithSole [.Tuple [.Name x px, .Name y py] kt pt] (.Tuple [a, b] k2 pt2) pos.line X.env = pure false := by rfl) (h1 : starEach [a, b] X.env = (false, eval a X.env) :: starEach [b] X.env := by rfl) (h2 : starEach [b] X.env = (false, eval b X.env) :: starEach [] X.env := by rfl) :
    XB X δ (.Assign [.Tuple [.Name x px, .Name y py] kt pt] (.Tuple [a, b] k2 pt2) pos :: rest) R := xb_cons (ps_par hc hN hi hj hij hx hy (xa_cons ha (xa_cons hb xa_nil h2) h1) hw hs) k fun D σ H B F W o =>
  ⟨B, F, W, fun vs B2 H2 g r => by
    cases r with
    | @cons v us _ _ r1 r2 =>
      cases r2 with
      | @cons w us _ _ r2 r3 =>
        cases r3
        exact ⟨v, w, rfl, ts_iff.mpr ⟨B2, _, ((W.grow g).put (s := .dat d1) ⟨rfl, r1⟩).put (s := .dat d2) ⟨rfl, r2⟩, o.step (((Step.of g).sub cut_sub).sub cut_sub)⟩⟩⟩
/-- a, b, .. = e, any target -/
theorem xb_unp {is : List Nat} (he : XE X δ e d) (hg : XG X tg is d δ δ2) (k : XB X δ2 rest R) (hs : swapsWithSole [tg] e pos.line X.env = pure false := by rfl) (hw : swappedStores [tg] e X.env = pure none := by rfl)
    (h1 : (assignEach [tg] X.env).map (·.2) = [assign tg X.env] := by rfl) : XB X δ (.Assign [tg] e pos :: rest) R := xb_cons (ps_asg he hg hs hw h1) k fun D σ H B F W o =>
  ⟨B, F, W, fun v B2 H2 g r => ⟨B2, F, W.grow g, r, fun σ2 F2 W2 sb _ _ => ts_iff.mpr ⟨B2, F2, W2, o.step ((Step.of g).sub sb)⟩⟩⟩
/-! ### if, while, for -/
theorem xb_if {sts sts2 : List Stmt} {k : Bool} (M : List Slot → Prop) (hc : XT X δ c k) (h1 : k = true → XB X δ sts { R with nx := M }) (h2 : k = false → XB X δ sts2 { R with nx := M }) (h : ∀ δ', M δ' → XB X δ' rest R) : XB X δ (.If c sts sts2 pos :: rest) R := by
  have hr : PSs X rest (fun D σ H => ∃ z : {δ' // M δ'}, tS X.K z.1 R D σ H) := pss_ex fun z : {δ' // M δ'} => h z.1 z.2
  have fin : ∀ {D : Ends} {B H : Hp} {F : Nat → List Addr}, Ok X.K R D B H F → Ok X.K { R with nx := M } { D with nx := fun σ H => ∃ z : {δ' // M δ'}, tS X.K z.1 R D σ H } B H F := fun {D B H F} o =>
    ⟨fun σ2 δ2 B2 H2 F2 s W q => ⟨⟨δ2, q⟩, ts_iff.mpr ⟨B2, F2, W, o.step s⟩⟩, o.rt, o.bk, o.ct, o.rr, o.gh⟩
  cases k with
  | true => exact xb_cons (ps_if hc (h1 rfl) pss_never) hr fun D σ H B F W o => ⟨B, F, W, fun B2 H2 g => by
      show tS X.K δ { R with nx := M } _ σ H2
      exact ts_iff.mpr ⟨B2, F, W.grow g, (fin o).step (Step.of g)⟩⟩
  | false => exact xb_cons (ps_if hc pss_never (h2 rfl)) hr fun D σ H B F W o => ⟨B, F, W, fun B2 H2 g => by
      show tS X.K δ { R with nx := M } _ σ H2
      exact ts_iff.mpr ⟨B2, F, W.grow g, (fin o).step (Step.of g)⟩⟩
/-- an if that leaves -/
theorem xb_ifR {sts : List Stmt} {k : Bool} (hc : XT X δ c k) (h1 : k = true → XB X δ sts { R with nx := fun _ => False }) (h2 : k = false → XB X δ rest R) : XB X δ (.If c sts [] pos :: rest) R := by
  cases k with
  | true => exact xb_if (fun _ => False) hc (fun _ => h1 rfl) (fun h => nomatch h) (fun _ h => h.elim)
  | false => exact xb_if (fun δ' => δ' = δ) hc (fun h => nomatch h) (fun _ => xb_nil rfl) (fun _ h => by
      subst h
      exact h2 rfl)
theorem xb_while (J : Nat → List Slot → Prop) (M : List Slot → Prop) (m0 : Nat) (h0 : J m0 δ)
    (hs : ∀ m δ', J m δ' → ∃ k, XT X δ' c k ∧ (k = true → XB X δ' body { R with nx := fun δ2 => ∃ m', m' < m ∧ J m' δ2, ct := fun δ2 => ∃ m', m' < m ∧ J m' δ2, bk := M }) ∧ (k = false → M δ'))
    (h : ∀ δ', M δ' → XB X δ' rest R) (hp : PassesOwn (model X.prog X.w) X.A X.env X.xe := by exact PassesOwn.never) : XB X δ (.While c body [] pos :: rest) R := by
  let ι := {z : Nat × List Slot × Bool // J z.1 z.2.1 ∧ XT X z.2.1 c z.2.2 ∧ (z.2.2 = true → XB X z.2.1 body { R with nx := fun δ2 => ∃ m', m' < z.1 ∧ J m' δ2, ct := fun δ2 => ∃ m', m' < z.1 ∧ J m' δ2, bk := M }) ∧ (z.2.2 = false → M z.2.1)}
  have hC : PT X c (fun σ H Q => ∃ z : ι, tBo X.K z.1.2.1 z.1.2.2 σ H Q) := pt_ex fun z : ι => z.2.2.1
  have hB : PSs X body (fun D σ H => ∃ z : {z : ι // z.1.2.2 = true}, tS X.K z.1.1.2.1 { R with nx := fun δ2 => ∃ m', m' < z.1.1.1 ∧ J m' δ2, ct := fun δ2 => ∃ m', m' < z.1.1.1 ∧ J m' δ2, bk := M } D σ H) := pss_ex fun z : {z : ι // z.1.2.2 = true} => z.1.2.2.2.1 z.2
  have hr : PSs X rest (fun D σ H => ∃ z : {δ' // M δ'}, tS X.K z.1 R D σ H) := pss_ex fun z : {δ' // M δ'} => h z.1 z.2
  refine xb_cons (ps_while hp hC hB) hr fun D σ H B F W o => ?_
  refine ⟨fun m σ' H' => ∃ δ' B' F', J m δ' ∧ Wf X.K B' H' σ' δ' F' ∧ Step B H F B' H' F', ⟨m0, δ, B, F, h0, W, Step.refl⟩, ?_⟩
  rintro m σ' H' ⟨δ', B', F', hj, W', s'⟩
  obtain ⟨k, hk, hk1, hk2⟩ := hs m δ' hj
  refine ⟨⟨(m, δ', k), hj, hk, hk1, hk2⟩, B', F', W', fun B2 H2 g => ?_⟩
  cases k with
  | false =>
    show ∃ z : {δ' // M δ'}, tS X.K z.1 R D σ' H2
    exact ⟨⟨δ', hk2 rfl⟩, ts_iff.mpr ⟨B2, F', W'.grow g, o.step (s'.trans (Step.of g))⟩⟩
  | true =>
    have s2 := s'.trans (Step.of (F := F') g)
    refine ⟨fun σ3 H3 => ∃ m' δ3 B3 F3, m' < m ∧ J m' δ3 ∧ Wf X.K B3 H3 σ3 δ3 F3 ∧ Step B H F B3 H3 F3, fun σ3 H3 ⟨m', δ3, B3, F3, hm, hj3, W3, s3⟩ => ⟨m', hm, δ3, B3, F3, hj3, W3, s3⟩, ⟨⟨(m, δ', true), hj, hk, hk1, hk2⟩, rfl⟩, ?_⟩
    refine ts_iff.mpr ⟨B2, F', W'.grow g, ?_, ?_, ?_, ?_, fun v σ3 δ3 B3 H3 F3 s3 W3 q => o.rr v σ3 δ3 B3 H3 F3 (s2.trans s3) W3 q, o.gh.step s2⟩
    · exact fun σ3 δ3 B3 H3 F3 s3 W3 ⟨m', hm, hj3⟩ => ⟨m', δ3, B3, F3, hm, hj3, W3, s2.trans s3⟩
    · exact fun v d σ3 δ3 B3 H3 F3 s3 W3 q r => o.rt v d σ3 δ3 B3 H3 F3 (s2.trans s3) W3 q r
    · exact fun σ3 δ3 B3 H3 F3 s3 W3 q => ⟨⟨δ3, q⟩, ts_iff.mpr ⟨B3, F3, W3, o.step (s2.trans s3)⟩⟩
    · exact fun σ3 δ3 B3 H3 F3 s3 W3 ⟨m', hm, hj3⟩ => ⟨m', δ3, B3, F3, hm, hj3, W3, s2.trans s3⟩
/-- for tg in iter, ds what is walked; J i δ: ahead of the turn i -/
theorem xb_for {is : List Nat} (Δ : PyData → List Slot → List Slot) (J : Nat → List Slot → Prop) (M : List Slot → Prop) (hi : XI X tg δ iter ds) (h0 : J 0 δ)
    (hg : ∀ i δ' d, J i δ' → ds[i]? = some d → XG X tg is d δ' (Δ d δ'))
    (hs : ∀ i δ' d, J i δ' → ds[i]? = some d → XB X (Δ d δ') body { R with nx := J (i + 1), ct := J (i + 1), bk := M }) (hM : ∀ δ', J ds.length δ' → M δ')
    (h : ∀ δ', M δ' → XB X δ' rest R) (hp : PassesOwn (model X.prog X.w) X.A X.env X.xe := by exact PassesOwn.never) (hc : X.calm = true := by rfl) (hss : ∀ x, foldedSetIterable iter X.env x = pure x := by intro _; rfl) : XB X δ (.For tg iter body [] pos :: rest) R := by
  let ι := {z : Nat × List Slot × PyData // J z.1 z.2.1 ∧ ds[z.1]? = some z.2.2}
  have hG : PG X tg (fun v σ H Q => ∃ z : ι, tG X.K is z.1.2.2 z.1.2.1 (Δ z.1.2.2 z.1.2.1) v σ H Q) := pg_ex fun z : ι => hg z.1.1 z.1.2.1 z.1.2.2 z.2.1 z.2.2
  have hB : PSs X body (fun D σ H => ∃ z : ι, tS X.K (Δ z.1.2.2 z.1.2.1) { R with nx := J (z.1.1 + 1), ct := J (z.1.1 + 1), bk := M } D σ H) := pss_ex fun z : ι => hs z.1.1 z.1.2.1 z.1.2.2 z.2.1 z.2.2
  have hr : PSs X rest (fun D σ H => ∃ z : {δ' // M δ'}, tS X.K z.1 R D σ H) := pss_ex fun z : {δ' // M δ'} => h z.1 z.2
  refine xb_cons (ps_for hp hc hi hG hB hss) hr fun D σ H B F W o => ⟨B, F, W, fun It B1 H1 g1 wk => ?_⟩
  have s1 : Step B H F B1 H1 F := Step.of g1
  refine ⟨fun i m σ' H' => m = ds.length - i ∧ i ≤ ds.length ∧ ∃ δ' B' F', J i δ' ∧ Wf X.K B' H' σ' δ' F' ∧ Step B H F B' H' F' ∧ Same B1 B', ⟨ds.length, by simp, Nat.zero_le _, δ, B1, F, h0, W.grow g1, s1, Same.refl _⟩, ?_⟩
  rintro i m σ' H' ⟨rfl, hle, δ', B', F', hj, W', s', sm⟩
  by_cases hlt : i < ds.length
  · refine .inr ⟨wk.go i H' (sm.trans W'.bh) hlt, fun σ3 H3 => ∃ δ3 B3 F3, J (i + 1) δ3 ∧ Wf X.K B3 H3 σ3 δ3 F3 ∧ Step B H F B3 H3 F3 ∧ Same B1 B3, fun σ3 H3 ⟨δ3, B3, F3, q⟩ => ⟨ds.length - (i + 1), by omega, rfl, hlt, δ3, B3, F3, q⟩, fun x H2 hy => ?_⟩
    have hget : ds[i]? = some ds[i] := List.getElem?_eq_getElem hlt
    generalize ds[i] = d at hget
    obtain ⟨B2, g2, r2⟩ := wk.yld i B' H' x H2 sm W'.bh hy d hget
    have s2 := s'.trans (Step.of (F := F') g2)
    refine ⟨⟨(i, δ', d), hj, hget⟩, B2, F', W'.grow g2, r2, fun σ3 F3 W3 sb _ _ => ⟨⟨(i, δ', d), hj, hget⟩, ts_iff.mpr ⟨B2, F3, W3, ?_, ?_, ?_, ?_, fun v σ4 δ4 B4 H4 F4 s4 W4 q => o.rr v σ4 δ4 B4 H4 F4 ((s2.sub sb).trans s4) W4 q, o.gh.step (s2.sub sb)⟩⟩⟩
    all_goals have s3 := s2.sub sb
    · exact fun σ4 δ4 B4 H4 F4 s4 W4 q => ⟨δ4, B4, F4, q, W4, s3.trans s4, (sm.trans g2.bb).trans s4.bb⟩
    · exact fun v d σ4 δ4 B4 H4 F4 s4 W4 q r => o.rt v d σ4 δ4 B4 H4 F4 (s3.trans s4) W4 q r
    · exact fun σ4 δ4 B4 H4 F4 s4 W4 q => ⟨⟨δ4, q⟩, ts_iff.mpr ⟨B4, F4, W4, o.step (s3.trans s4)⟩⟩
    · exact fun σ4 δ4 B4 H4 F4 s4 W4 q => ⟨δ4, B4, F4, q, W4, s3.trans s4, (sm.trans g2.bb).trans s4.bb⟩
  · have e : i = ds.length := by omega
    subst e
    exact .inl ⟨wk.stop H' (sm.trans W'.bh), ⟨δ', hM δ' hj⟩, ts_iff.mpr ⟨B', F', W', o.step s'⟩⟩
end
end Dl

set_option Elab.async false
set_option linter.all false
set_option maxRecDepth 100000
set_option maxHeartbeats 4000000
/-! The data level: built-ins, the promises of defs that are functions of data. -/
namespace Dl
open PySem PySem.Spec PyProof.Rows L2
section
variable {X : Cx} {δ δ2 : List Slot} {a b c e tg iter : Expr} {pos p : Pos} {ds : List PyData} {es : List Expr} {d d1 d2 : PyData}
/-! ### built-ins by their names -/
def RC (K : PySem.W.Frag) (r : List V → Hp → VK → Prop) (ds : List PyData) (d : PyData) : Prop := ∀ (B H : Hp) (vs : List V) (Q : VK), Same B H → RpA K B vs ds → (∀ v B2 H2, Grow B H B2 H2 → Rp K B2 v d → Q v H2) → r vs H Q
def RCN (K : PySem.W.Frag) (r : List V → Hp → VK → Prop) (ds : List PyData) (ys : List PyData) : Prop := ∀ (B H : Hp) (vs : List V) (Q : VK), Same B H → RpA K B vs ds → (∀ p xs B2 H2, Grow B H B2 H2 → H p = none → B2 p = none → H2 p = some (.lst xs) → RpA K B2 xs ys → Q (.ref p) H2) → r vs H Q
theorem cb_weak {t : TA} {r : List V → Hp → VK → Prop} (ht : ∀ σ H Q, tA X.K δ ds σ H Q → t σ H Q) (hr : RC X.K r ds d) : ∀ σ H Q, tD X.K δ d σ H Q → tCB r t σ H Q := fun σ H Q ⟨B, F, W, q⟩ =>
  ht σ H _ ⟨B, F, W, fun vs B2 H2 g rr => hr B2 H2 vs Q g.bh rr fun v B3 H3 g3 r3 => q v B3 H3 (g.trans g3) r3⟩
theorem cbN_weak {ys : List PyData} {t : TA} {r : List V → Hp → VK → Prop} (ht : ∀ σ H Q, tA X.K δ ds σ H Q → t σ H Q) (hr : RCN X.K r ds ys) : ∀ σ H Q, tN X.K δ ys σ H Q → tCB r t σ H Q := fun σ H Q ⟨B, F, W, q⟩ =>
  ht σ H _ ⟨B, F, W, fun vs B2 H2 g rr => hr B2 H2 vs Q g.bh rr fun p xs B3 H3 g3 hp hb h3 r3 => q p xs B3 H3 (g.trans g3) (g.hh.free hp) hb h3 r3⟩
theorem xe_cb {x : Str} {id : String} {r : List V → Hp → VK → Prop} (hc : CallR X (.builtin id) r) (hm : X.mg x = none) (hv : bootBuiltins x = some (.builtin id)) (ha : XA X δ (e :: es) ds) (hr : RC X.K r ds d) (hg : Gl X x := by rfl) (hn : x ≠ "__name__" := by decide) (hdb : (x == ("__debug__" : Str)) = false := by decide)
    (he : starEach (e :: es) X.env = (false, eval e X.env) :: starEach es X.env := by rfl) (hpl : (backTo pos (starEach es X.env)).any (·.1) = false := by rfl) : XE X δ (.Call (.Name x p) (e :: es) [] pos) d :=
  (pe_callB hc hg hm hv ha hn hdb he hpl).weak (cb_weak (fun _ _ _ q => q) hr)
theorem xe_ct {x : Str} {id : String} {r : List V → Hp → VK → Prop} (hc : CallR X (.type id) r) (hm : X.mg x = none) (hv : bootBuiltins x = some (.type id)) (ha : XA X δ (e :: es) ds) (hr : RC X.K r ds d) (hg : Gl X x := by rfl) (hn : x ≠ "__name__" := by decide) (hdb : (x == ("__debug__" : Str)) = false := by decide)
    (he : starEach (e :: es) X.env = (false, eval e X.env) :: starEach es X.env := by rfl) (hpl : (backTo pos (starEach es X.env)).any (·.1) = false := by rfl) : XE X δ (.Call (.Name x p) (e :: es) [] pos) d :=
  (pe_callTy hc hg hm hv ha hn hdb he hpl).weak (cb_weak (fun _ _ _ q => q) hr)
theorem xn_ct {x : Str} {id : String} {ys : List PyData} {r : List V → Hp → VK → Prop} (hc : CallR X (.type id) r) (hm : X.mg x = none) (hv : bootBuiltins x = some (.type id)) (ha : XA X δ (e :: es) ds) (hr : RCN X.K r ds ys) (hg : Gl X x := by rfl) (hn : x ≠ "__name__" := by decide) (hdb : (x == ("__debug__" : Str)) = false := by decide)
    (he : starEach (e :: es) X.env = (false, eval e X.env) :: starEach es X.env := by rfl) (hpl : (backTo pos (starEach es X.env)).any (·.1) = false := by rfl) : XN X δ (.Call (.Name x p) (e :: es) [] pos) ys :=
  (pe_callTy hc hg hm hv ha hn hdb he hpl).weak (cbN_weak (fun _ _ _ q => q) hr)
inductive LenD : PyData → Nat → Prop
  | lst (ds : List PyData) : LenD (.list ds) ds.length
  | tup (ds : List PyData) : LenD (.tuple ds) ds.length
  | str (x : Str) (hz : x.length ≤ sizeLine) : LenD (.str x) x.length
theorem xe_len {n : Nat} (hm : X.mg "len" = none) (ha : XE X δ a d) (h : LenD d n) (hg : Gl X "len" := by rfl) (hs : starEach [a] X.env = (false, eval a X.env) :: starEach [] X.env := by rfl) : XE X δ (.Call (.Name "len" p) [a] [] pos) (.int n) :=
  xe_cb call_len hm PySem.boot_len (xa_cons ha xa_nil hs) (fun B H vs Q s r q => by
    cases r with
    | @cons v _ _ _ r1 r2 =>
      cases r2
      refine ⟨v, n, rfl, ?_, q _ B H (Grow.refl s) (.int _)⟩
      cases h with
      | lst ds =>
        cases r1 with
        | lst h1 r1 => exact .inl ⟨_, SqL.of (s _ _ h1), r1.length.symm⟩
      | tup ds =>
        cases r1 with
        | tup h1 r1 => exact .inr ⟨_, same_t s h1, r1.length.symm⟩
      | str x hz =>
        cases r1
        exact ⟨hz, rfl⟩) hg (he := hs)
theorem xe_max2 {i j : Int} (hm : X.mg "max" = none) (ha : XE X δ a (.int i)) (hb : XE X δ b (.int j)) (hc : X.calm = true := by rfl) (hg : Gl X "max" := by rfl) (hs : starEach [a, b] X.env = (false, eval a X.env) :: starEach [b] X.env := by rfl)
    (hs2 : starEach [b] X.env = (false, eval b X.env) :: starEach [] X.env := by rfl) (hpl : (backTo pos (starEach [b] X.env)).any (·.1) = false := by rfl) : XE X δ (.Call (.Name "max" p) [a, b] [] pos) (.int (if j > i then j else i)) :=
  xe_cb (call_max2 hc) hm boot_max (xa_cons ha (xa_cons hb xa_nil hs2) hs) (fun B H vs Q s r q => by
    cases r with
    | cons r1 r2 =>
      cases r2 with
      | cons r3 r4 =>
        cases r4
        cases r1
        cases r3
        exact ⟨i, j, rfl, q _ B H (Grow.refl s) (.int _)⟩) hg (he := hs) (hpl := hpl)
theorem xe_min2 {i j : Int} (hm : X.mg "min" = none) (ha : XE X δ a (.int i)) (hb : XE X δ b (.int j)) (hc : X.calm = true := by rfl) (hg : Gl X "min" := by rfl) (hs : starEach [a, b] X.env = (false, eval a X.env) :: starEach [b] X.env := by rfl)
    (hs2 : starEach [b] X.env = (false, eval b X.env) :: starEach [] X.env := by rfl) (hpl : (backTo pos (starEach [b] X.env)).any (·.1) = false := by rfl) : XE X δ (.Call (.Name "min" p) [a, b] [] pos) (.int (if j < i then j else i)) :=
  xe_cb (call_min2 hc) hm boot_min (xa_cons ha (xa_cons hb xa_nil hs2) hs) (fun B H vs Q s r q => by
    cases r with
    | cons r1 r2 =>
      cases r2 with
      | cons r3 r4 =>
        cases r4
        cases r1
        cases r3
        exact ⟨i, j, rfl, q _ B H (Grow.refl s) (.int _)⟩) hg (he := hs) (hpl := hpl)
inductive SeqD : PyData → List PyData → Prop
  | lst (ds : List PyData) : SeqD (.list ds) ds
  | tup (ds : List PyData) : SeqD (.tuple ds) ds
/-- list(x) -/
theorem xn_listOf {ys : List PyData} (hm : X.mg "list" = none) (ha : XE X δ a d) (h : SeqD d ys) (hg : Gl X "list" := by rfl) (hs : starEach [a] X.env = (false, eval a X.env) :: starEach [] X.env := by rfl) : XN X δ (.Call (.Name "list" p) [a] [] pos) ys :=
  xn_ct call_list_of hm boot_list (xa_cons ha xa_nil hs) (fun B H vs Q s r q => by
    cases r with
    | @cons v _ _ _ r1 r2 =>
      cases r2
      cases h with
      | lst ds =>
        cases r1 with
        | @lst a xs _ h1 r1 => exact ⟨a, xs, rfl, .inl (SqL.of (s _ _ h1)), fun l hl => q l xs _ _ (Grow.newH s hl) hl (s.free hl) upd_same r1⟩
      | tup ds =>
        cases r1 with
        | @tup a xs _ h1 r1 => exact ⟨a, xs, rfl, .inr (same_t s h1), fun l hl => q l xs _ _ (Grow.newH s hl) hl (s.free hl) upd_same r1⟩) hg (he := hs)
/-- tuple(x) -/
theorem xe_tupleOf {ys : List PyData} (hm : X.mg "tuple" = none) (ha : XE X δ a d) (h : SeqD d ys) (hg : Gl X "tuple" := by rfl) (hs : starEach [a] X.env = (false, eval a X.env) :: starEach [] X.env := by rfl) : XE X δ (.Call (.Name "tuple" p) [a] [] pos) (.tuple ys) :=
  xe_ct call_tuple_of hm boot_tuple (xa_cons ha xa_nil hs) (fun B H vs Q s r q => by
    cases r with
    | @cons v _ _ _ r1 r2 =>
      cases r2
      cases h with
      | lst ds =>
        cases r1 with
        | @lst a xs _ h1 r1 => exact ⟨a, xs, rfl, .inl ⟨SqL.of (s _ _ h1), fun l hl => q _ _ _ (Grow.new (o := .tup xs) s hl) (.tup (.inl (.inl upd_same)) (r1.mono (same_upd (s.free hl))))⟩⟩
      | tup ds =>
        cases r1 with
        | @tup a xs _ h1 r1 => exact ⟨a, xs, rfl, .inr ⟨same_t s h1, q _ B H (Grow.refl s) (.tup h1 r1)⟩⟩) hg (he := hs)
theorem xe_intI {i : Int} (hm : X.mg "int" = none) (ha : XE X δ a (.int i)) (hg : Gl X "int" := by rfl) (hs : starEach [a] X.env = (false, eval a X.env) :: starEach [] X.env := by rfl) : XE X δ (.Call (.Name "int" p) [a] [] pos) (.int i) :=
  xe_ct call_int1 hm boot_int (xa_cons ha xa_nil hs) (fun B H vs Q s r q => by
    cases r with
    | cons r1 r2 =>
      cases r2
      cases r1
      exact .inl ⟨i, rfl, q _ B H (Grow.refl s) (.int _)⟩) hg (he := hs)
theorem xe_sum {ns : List Int} (hm : X.mg "sum" = none) (ha : XE X δ a (.list (ns.map .int))) (hc : X.calm = true := by rfl) (hg : Gl X "sum" := by rfl) (hs : starEach [a] X.env = (false, eval a X.env) :: starEach [] X.env := by rfl) : XE X δ (.Call (.Name "sum" p) [a] [] pos) (.int ns.sum) :=
  xe_cb (cr_sum hc) hm boot_sum (xa_cons ha xa_nil hs) (fun B H vs Q s r q => by
    cases r with
    | cons r1 r2 =>
      cases r2
      cases r1 with
      | @lst a xs _ h1 r1 =>
        rw [r1.ints_inv] at h1
        exact ⟨a, ns, rfl, SqL.of (s _ _ h1), q _ B H (Grow.refl s) (.int _)⟩) hg (he := hs)
theorem xe_all {ns : List Bool} (hm : X.mg "all" = none) (ha : XE X δ a (.list (ns.map .bool))) (hc : X.calm = true := by rfl) (hg : Gl X "all" := by rfl) (hs : starEach [a] X.env = (false, eval a X.env) :: starEach [] X.env := by rfl) : XE X δ (.Call (.Name "all" p) [a] [] pos) (.bool (ns.all id)) :=
  xe_cb (cr_all hc) hm boot_all (xa_cons ha xa_nil hs) (fun B H vs Q s r q => by
    cases r with
    | cons r1 r2 =>
      cases r2
      cases r1 with
      | @lst a xs _ h1 r1 =>
        rw [r1.bls_inv] at h1
        exact ⟨a, ns, rfl, SqL.of (s _ _ h1), q _ B H (Grow.refl s) (.bl _)⟩) hg (he := hs)
theorem xe_any {ns : List Bool} (hm : X.mg "any" = none) (ha : XE X δ a (.list (ns.map .bool))) (hc : X.calm = true := by rfl) (hg : Gl X "any" := by rfl) (hs : starEach [a] X.env = (false, eval a X.env) :: starEach [] X.env := by rfl) : XE X δ (.Call (.Name "any" p) [a] [] pos) (.bool (ns.any id)) :=
  xe_cb (cr_any hc) hm boot_any (xa_cons ha xa_nil hs) (fun B H vs Q s r q => by
    cases r with
    | cons r1 r2 =>
      cases r2
      cases r1 with
      | @lst a xs _ h1 r1 =>
        rw [r1.bls_inv] at h1
        exact ⟨a, ns, rfl, SqL.of (s _ _ h1), q _ B H (Grow.refl s) (.bl _)⟩) hg (he := hs)
/-! ### isinstance of data -/
def tyD : PyData → String
  | .none => "NoneType"
  | .bool _ => "bool"
  | .int _ => "int"
  | .str _ => "str"
  | .list _ => "list"
  | .tuple _ => "tuple"
  | .dict _ => "dict"
def oddD : PyData → Bool
  | .dict ((.none, _) :: _) => true
  | .dict ((.bool _, _) :: _) => true
  | _ => false
theorem ty_of {K : PySem.W.Frag} {B H : Hp} {x : V} (s : Same B H) (r : Rp K B x d) (ho : oddD d = false) : TyX K H x (.type (tyD d)) := by
  cases r with
  | non => exact .base .non
  | bl b => exact .base (.bl b)
  | int i => exact .base (.int i)
  | str x => exact .base (.str x)
  | @lst a xs ds h q => exact .base (.lst (s _ _ h))
  | @tup a xs ds h q =>
    rcases h with (h | ⟨o, h⟩) | ⟨o, _, _, h1, h2, _⟩
    · exact .base (.tup (s _ _ h))
    · exact .fTuple (s _ _ h)
    · exact .kTuple h1 h2
  | dic h => exact .base (.dK (s _ _ h))
  | dic1 x i h => exact .base (.dK (s _ _ h))
  | err h1 h2 h3 h4 r => cases ho
  | err0 h => cases ho
  | lam h1 h2 h3 h4 => cases ho
  | adr a => cases ho
theorem xe_isi {T : String} {x : Str} {k : Bool} (hm : X.mg "isinstance" = none) (ha : XE X δ a d) (hm2 : X.mg x = none) (hv : bootBuiltins x = some (.type T)) (hk : kitB (tyD d) T = some k) (ho : oddD d = false := by rfl) (hg : Gl X "isinstance" := by rfl) (hg2 : Gl X x := by rfl) {p2 : Pos}
    (hs : starEach [a, .Name x p2] X.env = (false, eval a X.env) :: starEach [.Name x p2] X.env := by rfl) (hs2 : starEach [.Name x p2] X.env = (false, eval (.Name x p2) X.env) :: starEach [] X.env := by rfl) (hpl : (backTo pos (starEach [.Name x p2] X.env)).any (·.1) = false := by rfl)
    (hn : x ≠ "__name__" := by decide) (hd : (x == ("__debug__" : Str)) = false := by decide) : XE X δ (.Call (.Name "isinstance" p) [a, .Name x p2] [] pos) (.bool k) :=
  (pe_callB call_isi hg hm boot_isinstance (pa_cons ha (pa_cons (pe_bltn (v := .ty T) hg2 hm2 hv rfl hn hd) pa_nil hs2) hs) (by decide) (by decide) hs hpl).weak fun σ H Q ⟨B, F, W, q⟩ => ⟨B, F, W, fun v B2 H2 g r =>
    ⟨v, .ty T, .type (tyD d), .type T, k, rfl, .ty T, ty_of g.bh r ho, kit_ty hk, q _ B2 H2 g (.bl _)⟩⟩
def isBoolD : PyData → Bool
  | .bool _ => true
  | _ => false
def isIntD : PyData → Bool
  | .bool _ => true
  | .int _ => true
  | _ => false
def isStrD : PyData → Bool
  | .str _ => true
  | _ => false
def isListD : PyData → Bool
  | .list _ => true
  | _ => false
def isTupleD : PyData → Bool
  | .tuple _ => true
  | _ => false
def isDictD : PyData → Bool
  | .dict _ => true
  | _ => false
def isRowD : PyData → Bool
  | .list _ => true
  | .tuple _ => true
  | _ => false
theorem kit_bool (d : PyData) : kitB (tyD d) "bool" = some (isBoolD d) := by cases d <;> kernel_rfl
theorem kit_int (d : PyData) : kitB (tyD d) "int" = some (isIntD d) := by cases d <;> kernel_rfl
theorem kit_str (d : PyData) : kitB (tyD d) "str" = some (isStrD d) := by cases d <;> kernel_rfl
theorem kit_list (d : PyData) : kitB (tyD d) "list" = some (isListD d) := by cases d <;> kernel_rfl
theorem kit_tuple (d : PyData) : kitB (tyD d) "tuple" = some (isTupleD d) := by cases d <;> kernel_rfl
theorem kit_dict (d : PyData) : kitB (tyD d) "dict" = some (isDictD d) := by cases d <;> kernel_rfl
def kitAnyB (t : String) : List String → Option Bool
  | [] => some false
  | c :: r => match kitB t c with
    | some true => some true
    | some false => kitAnyB t r
    | none => none
theorem kit_row (d : PyData) : kitAnyB (tyD d) ["list", "tuple"] = some (isRowD d) := by cases d <;> kernel_rfl
theorem kitAny_of {K : PySem.W.Frag} {t : String} : ∀ {cs : List String} {k : Bool}, kitAnyB t cs = some k → PySem.W.kitAny K (.type t) (cs.map Value.type) = some k
  | [], k, h => h
  | c :: r, k, h => by
    unfold kitAnyB at h
    rw [List.map_cons]
    cases e : kitB t c with
    | none => rw [e] at h; cases h
    | some m =>
      rw [e] at h
      refine kitAny_cons (kit_ty e) (fun hm => ?_) fun hm => ?_
      · subst hm
        exact kitAny_of h
      · subst hm
        exact (Option.some.inj h).symm
theorem xe_isi2 {T U : String} {x y : Str} {k : Bool} (hm : X.mg "isinstance" = none) (ha : XE X δ a d) (hm2 : X.mg x = none) (hv : bootBuiltins x = some (.type T)) (hm3 : X.mg y = none) (hv3 : bootBuiltins y = some (.type U)) (hk : kitAnyB (tyD d) [T, U] = some k) (ho : oddD d = false := by rfl) {p2 p3 p4 : Pos} {x1}
    (hg : Gl X "isinstance" := by rfl) (hg2 : Gl X x := by rfl) (hg3 : Gl X y := by rfl)
    (hs : starEach [a, .Tuple [.Name x p2, .Name y p3] x1 p4] X.env = (false, eval a X.env) :: starEach [.Tuple [.Name x p2, .Name y p3] x1 p4] X.env := by rfl) (hs2 : starEach [.Tuple [.Name x p2, .Name y p3] x1 p4] X.env = (false, eval (.Tuple [.Name x p2, .Name y p3] x1 p4) X.env) :: starEach [] X.env := by rfl)
    (hpl : (backTo pos (starEach [.Tuple [.Name x p2, .Name y p3] x1 p4] X.env)).any (·.1) = false := by rfl)
    (hs3 : starEach [.Name x p2, .Name y p3] X.env = (false, eval (.Name x p2) X.env) :: starEach [.Name y p3] X.env := by rfl) (hs4 : starEach [.Name y p3] X.env = (false, eval (.Name y p3) X.env) :: starEach [] X.env := by rfl)
    (hn : x ≠ "__name__" := by decide) (hd : (x == ("__debug__" : Str)) = false := by decide) (hn2 : y ≠ "__name__" := by decide) (hd2 : (y == ("__debug__" : Str)) = false := by decide) :
    XE X δ (.Call (.Name "isinstance" p) [a, .Tuple [.Name x p2, .Name y p3] x1 p4] [] pos) (.bool k) :=
  (pe_callB call_isiT hg hm boot_isinstance (pa_cons ha (pa_cons (pe_tup (pa_cons (pe_bltn (v := .ty T) hg2 hm2 hv rfl hn hd) (pa_cons (pe_bltn (v := .ty U) hg3 hm3 hv3 rfl hn2 hd2) pa_nil hs4) hs3)) pa_nil hs2) hs) (by decide) (by decide) hs hpl).weak fun σ H Q ⟨B, F, W, q⟩ =>
    ⟨B, F, W, fun v B2 H2 g r => ⟨sz_of (by show 2 ≤ 1000000; decide), fun l hl => by
      have g2 := Grow.newH (o := .tup [V.ty T, V.ty U]) g.bh hl
      exact ⟨v, l, [.ty T, .ty U], .type (tyD d), [.type T, .type U], k, rfl, upd_same, .cons (.ty T) (.cons (.ty U) .nil), ty_of g2.bh r ho, kitAny_of (cs := [T, U]) hk, q _ _ _ (g.trans g2) (.bl _)⟩⟩⟩

/-! ### the promise of a def that is a function of data -/
def SpP (K : PySem.W.Frag) (f : List PyData → PyData → Prop) : Sp := fun vs H Q _ => ∃ B ds d, Same B H ∧ RpA K B vs ds ∧ f ds d ∧ ∀ v B2 H2, Grow B H B2 H2 → Rp K B2 v d → Q v H2
/-- a def of the module that keeps a promise -/
structure Def (P : Program) (w : World) (K : PySem.W.Frag) (mg : Str → Option Value) (base : Heap) (k : Nat) (x : Str) (ps : List Str) (sp : Sp) : Prop where
  ex : ∃ f fd, mg x = some (.ref f) ∧ PySem.W.keepIn K (.ref f) = true ∧ Binds K fd ps [] ∧ FnOk P w K mg base CX0 k f fd ps sp
theorem Def.mono {P : Program} {w : World} {K : PySem.W.Frag} {mg : Str → Option Value} {base : Heap} {j k : Nat} {x : Str} {ps : List Str} {sp : Sp} (h : Def P w K mg base j x ps sp) (hk : j ≤ k) : Def P w K mg base k x ps sp := by
  obtain ⟨f, fd, h1, h2, h3, h4⟩ := h.ex
  exact ⟨f, fd, h1, h2, h3, h4.mono hk⟩
theorem xe_call {k : Nat} {x : Str} {ps : List Str} {f : List PyData → PyData → Prop} (G : Def X.prog X.w X.K X.mg X.base k x ps (SpP X.K f)) (hr : Room k X.A) (ha : XA X δ (e :: es) ds) (hf : f ds d) (hg : Gl X x := by rfl) (hdb : (x == ("__debug__" : Str)) = false := by decide)
    (he : starEach (e :: es) X.env = (false, eval e X.env) :: starEach es X.env := by rfl) (hpl : (backTo pos (starEach es X.env)).any (·.1) = false := by rfl) : XE X δ (.Call (.Name x p) (e :: es) [] pos) d := by
  obtain ⟨fa, fd, h1, h2, h3, h4⟩ := G.ex
  exact (pe_call h4 hr hg h1 h2 h3 .nil pass0 ha hdb he hpl).weak fun σ H Q ⟨B, F, W, q⟩ => ⟨B, F, W, fun vs B2 H2 g r => by
    show SpP X.K f (vs ++ []) H2 Q E0
    rw [List.append_nil]
    exact ⟨B2, ds, d, g.bh, r, hf, fun v B3 H3 g3 r3 => q v B3 H3 (g.trans g3) r3⟩⟩
/-- what the top has written of a def -/
structure At (K : PySem.W.Frag) (mg : Str → Option Value) (x : Str) (st : Stmt) (ps : List Str) : Prop where
  ex : ∃ f fd, mg x = some (.ref f) ∧ Fun K x x st f fd ∧ Binds K fd ps []
def startD (N : List Str) (δ : List Slot) : List Slot := δ ++ List.replicate (N.length - δ.length) .no
theorem envOk_dat {K : PySem.W.Frag} {B H : Hp} {vs : List V} (s : Same B H) (r : RpA K B vs ds) (N : List Str) : Wf K B H (L2.start N vs) (startD N (ds.map .dat)) (fun _ => []) where
  bh := s
  len := by
    unfold L2.start startD
    simp only [List.length_append, List.length_map, List.length_replicate, r.length]
  sl := fun i t e => by
    unfold startD at e
    unfold L2.start
    by_cases hi : i < ds.length
    · rw [List.getElem?_append_left (by rw [List.length_map]; exact hi), List.getElem?_map] at e
      rw [List.getElem?_append_left (by rw [List.length_map, r.length]; exact hi), List.getElem?_map]
      have hd : ds[i]? = some ds[i] := List.getElem?_eq_getElem hi
      rw [hd] at e
      cases e
      obtain ⟨v, h1, h2⟩ := r.getD hd
      rw [h1]
      exact ⟨some v, rfl, rfl, h2⟩
    · rw [List.getElem?_append_right (by rw [List.length_map]; omega)] at e
      rw [List.getElem?_append_right (by rw [List.length_map, r.length]; omega)]
      have h1 := (List.getElem?_eq_some_iff.mp e)
      obtain ⟨h2, h3⟩ := h1
      rw [List.getElem_replicate] at h3
      subst h3
      simp only [List.length_replicate, List.length_map] at h2
      refine ⟨none, ?_, rfl⟩
      have := r.length
      rw [List.getElem?_replicate, if_pos]
      simp only [List.length_map]
      omega
  out := fun _ _ => rfl
  dis := fun i j a h _ => nomatch h
  own := fun i a h => nomatch h
section
variable {P : Program} {w : World} {K : PySem.W.Frag} {mg : Str → Option Value} {base : Heap}
/-- THE RULE for a def that is a function of data -/
theorem def_pure {x : Str} {st : Stmt} {N ps : List Str} {k : Nat} {f : List PyData → PyData → Prop} (A : At K mg x st ps) (S : FnScope N ps (defScope st)) (len : ∀ ds d, f ds d → ds.length = ps.length)
    (body : ∀ (X : Cx), (∃ (fa : Addr) (cdv : Value) (A : Around) (outer : List Env) (s : Shared) (H : Hp) (E : XK), Room k (A.deeper (envOfC x (defScope st) s.heap.objs.size fa cdv)) ∧ X = (cxOf CX0 P w K mg base N x (defScope st) fa cdv A outer s H E).nox) → ∀ ds d, f ds d → XB X (startD N (ds.map .dat)) (defBody st) { rt := fun d' _ => d' = d, nx := fun _ => d = .none }) :
    Def P w K mg base (k + 1) x ps (SpP K f) := by
  obtain ⟨fa, fd, h1, h2, h3⟩ := A.ex
  refine ⟨fa, fd, h1, h2.kp, h3, h2.ok S (fun vs H Q E h => ?_) (fun cdv A outer s H vs Q E hr h => ?_)⟩
  · obtain ⟨B, ds, d, _, r, hf, _⟩ := h
    rw [r.length]
    exact len ds d hf
  · obtain ⟨B, ds, d, sm, r, hf, q⟩ := h
    refine ⟨_, body _ ⟨fa, cdv, A, outer, s, H, E, hr, rfl⟩ ds d hf, ?_⟩
    refine ts_iff.mpr ⟨B, _, envOk_dat sm r N, ?_, ?_, fun _ _ _ _ _ _ _ h => h.elim, fun _ _ _ _ _ _ _ h => h.elim, fun _ _ _ _ _ _ _ _ h => h.elim, trivial⟩
    · intro σ2 δ2 B2 H2 F2 s2 W2 e
      have e : d = .none := e
      subst e
      exact q .non B2 H2 ⟨s2.bb, W2.bh, fun b o hb => s2.keep b o hb (fun _ z => nomatch z), fun b o hb => s2.fr b o hb (fun _ z => nomatch z)⟩ .non
    · intro v d' σ2 δ2 B2 H2 F2 s2 W2 e r2
      have e : d' = d := e
      subst e
      exact q v B2 H2 ⟨s2.bb, W2.bh, fun b o hb => s2.keep b o hb (fun _ z => nomatch z), fun b o hb => s2.fr b o hb (fun _ z => nomatch z)⟩ r2
end
end
end Dl

set_option Elab.async false
set_option linter.all false
set_option maxRecDepth 100000
set_option maxHeartbeats 4000000
/-! The data level: further statements. -/
namespace Dl
open PySem PySem.Spec PyProof.Rows L2
section
variable {X : Cx} {δ δ2 : List Slot} {a b c e tg iter : Expr} {pos p : Pos} {ds ys : List PyData} {es : List Expr} {d d1 d2 : PyData} {rest : List Stmt} {R : Post} {st : Stmt}
theorem tn_td {K : PySem.W.Frag} {σ : L2.St} {H : Hp} {Q : VK} (h : tD K δ (.list ds) σ H Q) : tN K δ ds σ H Q := by
  obtain ⟨B, F, W, q⟩ := h
  exact ⟨B, F, W, fun p xs B2 H2 g hp hb h2 r => q _ _ _ (grow_froz g hp hb h2) (.lst upd_same (r.mono (same_upd hb)))⟩
theorem xs_frz {i : Nat} (h : PS X st (tAsg (tN X.K δ ds) (gName i))) : PS X st (tAsg (tD X.K δ (.list ds)) (gName i)) := PS.weak h fun D σ H q => tn_td q
/-- y = [.. for ..], y a local -/
theorem xb_lc (i : Nat) {y : Str} {py : Pos} (h : XL X δ e ys) (k : XB X (δ.set i (.dat (.list ys))) rest R) (hN : X.N.Nodup) (hy : X.N[i]? = some y := by rfl) (hyl : X.env.scope.names.lookup y = some .local := by rfl)
    (hsw : swapsWith e (some (.Name y py)) pos.line X.env = pure true := by exact sw_true rfl rfl rfl (by kernel_rfl)) : XB X δ (.Assign [.Name y py] e pos :: rest) R := xb_set (xs_frz (h.set i hN hy hyl hsw)) k
theorem xb_lcA (i : Nat) {y : Str} {py : Pos} (h : XL X δ e ys) (k : XB X (δ.set i (.own (accR X.K ys))) rest R) (hN : X.N.Nodup) (hl : i < δ.length := by exact Nat.le_of_ble_eq_true rfl) (hy : X.N[i]? = some y := by rfl) (hyl : X.env.scope.names.lookup y = some .local := by rfl)
    (hsw : swapsWith e (some (.Name y py)) pos.line X.env = pure true := by exact sw_true rfl rfl rfl (by kernel_rfl)) : XB X δ (.Assign [.Name y py] e pos :: rest) R := xb_setA (h.set i hN hy hyl hsw) hl k
/-- walked as it lies -/
theorem xi_id (h : XI X tg δ iter ds) : XI X tg δ iter (ds.map id) := by rw [List.map_id]; exact h
/-! ### x op= e -/
theorem pip_of {op : Operator} {r : R2} (h : OpR X (inplaceOp op) r) : PIp X op r := fun pins s σ H x y v u Q I rx ry q => h pins s σ H x y v u Q I rx ry q
theorem xb_aug {op : Operator} {r : R2} (i : Nat) {x : Str} (ho : OpR X (inplaceOp op) r) (hd : δ[i]? = some (.dat d1)) (he : XE X δ e d2) (hr : RD X.K r d1 d2 d) (k : XB X (δ.set i (.dat d)) rest R) (hN : X.N.Nodup) (hi : X.N[i]? = some x := by rfl)
    (hx : Loc X.env.scope x := by first | exact Or.inl rfl | exact Or.inr rfl) (hf : X.fn x = true ∨ X.env.scope.names.lookup x = some .local := by first | exact .inl rfl | exact .inr rfl) : XB X δ (.AugAssign (.Name x p) op e pos :: rest) R := xb_cons (ps_aug hN hi hx he (pip_of ho) hf) k fun D σ H B F W o => by
  obtain ⟨v, h1, r1⟩ := W.dat hd
  exact ⟨v, h1, B, F, W, fun y B2 H2 g r2 => hr B2 H2 v y _ g.bh (r1.mono g.bb) r2 fun z B3 H3 g3 r3 =>
    ts_iff.mpr ⟨B3, _, ((W.grow g).grow g3).put (s := .dat d) ⟨rfl, r3⟩, o.step ((Step.of (g.trans g3)).sub cut_sub)⟩⟩
theorem xb_augAdd (i : Nat) {x : Str} {n m : Int} (hd : δ[i]? = some (.dat (.int n))) (he : XE X δ e (.int m)) (k : XB X (δ.set i (.dat (.int (n + m)))) rest R) (hN : X.N.Nodup) (hi : X.N[i]? = some x := by rfl)
    (hx : Loc X.env.scope x := by first | exact Or.inl rfl | exact Or.inr rfl) (hf : X.fn x = true ∨ X.env.scope.names.lookup x = some .local := by first | exact .inl rfl | exact .inr rfl) : XB X δ (.AugAssign (.Name x p) .Add e pos :: rest) R := xb_aug i iop_add hd he (rd_I0 fun _ => .int _) k hN hi hx hf
theorem xb_augOr (i : Nat) {x : Str} {n m : Int} (hd : δ[i]? = some (.dat (.int n))) (he : XE X δ e (.int m)) (k : XB X (δ.set i (.dat (.int (Builtin.bitOr n m)))) rest R) (hN : X.N.Nodup) (hi : X.N[i]? = some x := by rfl)
    (hx : Loc X.env.scope x := by first | exact Or.inl rfl | exact Or.inr rfl) (hf : X.fn x = true ∨ X.env.scope.names.lookup x = some .local := by first | exact .inl rfl | exact .inr rfl) : XB X δ (.AugAssign (.Name x p) .BitOr e pos :: rest) R := xb_aug i iop_or hd he (rd_I0 fun _ => .int _) k hN hi hx hf
/-! ### owned lists -/
theorem Wf.acc {K : PySem.W.Frag} {B H : Hp} {σ : L2.St} {F : Nat → List Addr} (W : Wf K B H σ δ F) {i : Nat} (h : δ[i]? = some (.own (accR K ds))) : ∃ l xs, σ[i]? = some (some (.ref l)) ∧ F i = [l] ∧ H l = some (.lst xs) ∧ RpA K B xs ds ∧ B l = none := by
  obtain ⟨o, h1, h2⟩ := W.sl i _ h
  cases o with
  | none => exact h2.elim
  | some v =>
    obtain ⟨l, xs, rfl, h3, h4, h5⟩ := h2
    exact ⟨l, xs, h1, h3, h4, h5, (W.own i l (by rw [h3]; exact List.mem_singleton.mpr rfl)).1⟩
/-- the list of a slot is written -/
theorem Wf.accUpd {K : PySem.W.Frag} {B H : Hp} {σ : L2.St} {F : Nat → List Addr} (W : Wf K B H σ δ F) {i : Nat} {l : Addr} {xs : List V} (h : δ[i]? = some (.own (accR K ds))) (hs : σ[i]? = some (some (.ref l))) (hF : F i = [l]) (r : RpA K B xs ys) :
    Wf K B (upd H l (.lst xs)) σ (δ.set i (.own (accR K ys))) F ∧ Step B H F B (upd H l (.lst xs)) F := by
  have hl : i < δ.length := (List.getElem?_eq_some_iff.mp h).1
  have hb : B l = none := (W.own i l (by rw [hF]; exact List.mem_singleton.mpr rfl)).1
  have hne : ∀ j, j ≠ i → l ∉ F j := fun j hj hm => hj (W.dis j i l hm (by rw [hF]; exact List.mem_singleton.mpr rfl))
  refine ⟨⟨fun b o e => ?_, by rw [List.length_set]; exact W.len, fun j s e => ?_, fun j hj => W.out j (by rw [List.length_set] at hj; exact hj), W.dis, fun j a ha => ?_⟩, ⟨Same.refl B, fun b o e hn => ?_, fun _ _ _ _ => rfl, fun b o e => ?_, fun j b hb => .inl ⟨j, hb⟩⟩⟩
  · have : b ≠ l := fun z => by rw [z, hb] at e; cases e
    rw [upd_ne this]
    exact W.bh b o e
  · by_cases hj : j = i
    · subst hj
      rw [List.getElem?_set_self hl] at e
      cases e
      exact ⟨_, hs, l, xs, rfl, hF, upd_same, r⟩
    · rw [List.getElem?_set_ne (Ne.symm hj)] at e
      obtain ⟨o, h1, h2⟩ := W.sl j s e
      exact ⟨o, h1, h2.loc (Same.refl B) fun a ha => upd_ne fun z => hne j hj (z ▸ ha)⟩
  · obtain ⟨h1, o, h2⟩ := W.own j a ha
    refine ⟨h1, ?_⟩
    by_cases z : a = l
    · rw [z, upd_same]; exact ⟨_, rfl⟩
    · rw [upd_ne z]; exact ⟨o, h2⟩
  · have : b ≠ l := fun z => hn i (by rw [hF, z]; exact List.mem_singleton.mpr rfl)
    rw [upd_ne this]
    exact e
  · by_cases z : b = l
    · rw [z, upd_same]; exact ⟨_, rfl⟩
    · rw [upd_ne z]; exact ⟨o, e⟩
theorem tvar_acc {K : PySem.W.Frag} : True := trivial
/-- xs.append(e), xs a slot's own list -/
theorem xb_app (i : Nat) {x : Str} {p1 p2 : Pos} (h : δ[i]? = some (.own (accR X.K ds))) (he : XE X δ e d) (hz : ds.length < 1000000) (k : XB X (δ.set i (.own (accR X.K (ds ++ [d])))) rest R) (hi : X.N[i]? = some x := by rfl)
    (hv : Vis X.env.scope x := by first | exact Or.inl rfl | exact Or.inr (Or.inl rfl) | exact Or.inr (Or.inr rfl)) (hd : (x == ("__debug__" : Str)) = false := by decide) (hcd : (x == ("__classdict__" : Str)) = false := by decide)
    (hbase : attributeBase (.Name x p1) "append" X.env (eval (.Name x p1) X.env) = eval (.Name x p1) X.env := by rfl)
    (hfew : ((backTo p (starEach [e] X.env)).all (fun x => !x.1) && (backToKw p (keywordEach [] X.env)).all (fun x => x.1.isSome) && decide ([e].length + ([] : List Keyword).length + (if ([] : List Keyword).isEmpty then 0 else 1) < 30)) = true := by rfl)
    (hline : (p2.endLine == p.line) = true := by rfl) (hs : starEach [e] X.env = (false, eval e X.env) :: starEach [] X.env := by rfl) (hplain : (backTo p (starEach [] X.env)).any (·.1) = false := by rfl)
    (hsw : swapsWith (.Call (.Attribute (.Name x p1) "append" p2) [e] [] p) none pos.line X.env = pure false := by rfl) :
    XB X δ (.Expr (.Call (.Attribute (.Name x p1) "append" p2) [e] [] p) pos :: rest) R :=
  xb_cons (ps_expr (pe_bm PySem.F.plainAttrs_list PySem.F.slot_list_append PySem.F.type_list_append mt_append (pe_var (i := i) hi hv hd hcd) (pa_cons he pa_nil hs) hbase hfew hline hs hplain) hsw) k fun D σ H B F W o => by
    obtain ⟨l, xs, h1, h2, h3, h4, h5⟩ := W.acc h
    refine ⟨.ref l, h1, .inl ⟨rfl, xs, SqL.of h3⟩, B, F, W, fun v B2 H2 g r => ?_⟩
    refine ⟨l, xs, v, rfl, rfl, g.hh _ _ h3, Nat.lt_of_lt_of_le (by rw [h4.length]; exact hz) (sz_of (Nat.le_refl _)), ?_⟩
    obtain ⟨W2, s2⟩ := (W.grow g).accUpd h h1 h2 ((h4.mono g.bb).append (.cons r .nil))
    exact ts_iff.mpr ⟨B2, F, W2, o.step ((Step.of g).trans s2)⟩
/-- the slot's own list is given up: it stays as it is -/
theorem Wf.frz {K : PySem.W.Frag} {B H : Hp} {σ : L2.St} {F : Nat → List Addr} (W : Wf K B H σ δ F) {i : Nat} (h : δ[i]? = some (.own (accR K ds))) : ∃ B2 F2, Wf K B2 H σ (δ.set i (.dat (.list ds))) F2 ∧ Step B H F B2 H F2 := by
  obtain ⟨l, xs, h1, h2, h3, h4, h5⟩ := W.acc h
  have hl : i < δ.length := (List.getElem?_eq_some_iff.mp h).1
  have hne : ∀ j, j ≠ i → l ∉ F j := fun j hj hm => hj (W.dis j i l hm (by rw [h2]; exact List.mem_singleton.mpr rfl))
  have sb : Same B (upd B l (.lst xs)) := same_upd h5
  have W1 : Wf K (upd B l (.lst xs)) H σ (δ.set i .no) (fun j => if j = i then [] else F j) := by
    refine ⟨fun b o e => ?_, by rw [List.length_set]; exact W.len, fun j s e => ?_, fun j hj => ?_, fun j k a ha hb => ?_, fun j a ha => ?_⟩
    · by_cases z : b = l
      · rw [z, upd_same] at e
        cases e
        rw [z]
        exact h3
      · rw [upd_ne z] at e
        exact W.bh b o e
    · by_cases hj : j = i
      · subst hj
        rw [List.getElem?_set_self hl] at e
        cases e
        exact ⟨_, h1, if_pos rfl⟩
      · rw [List.getElem?_set_ne (Ne.symm hj)] at e
        obtain ⟨o, a1, a2⟩ := W.sl j s e
        refine ⟨o, a1, ?_⟩
        rw [if_neg hj]
        exact a2.loc sb fun _ _ => rfl
    · by_cases hj : j = i
      · exact if_pos hj
      · rw [if_neg hj]
        rw [List.length_set] at *
        exact W.out j (by assumption)
    · by_cases hj : j = i
      · rw [if_pos hj] at ha
        cases ha
      · by_cases hk : k = i
        · rw [if_pos hk] at hb
          cases hb
        · rw [if_neg hj] at ha
          rw [if_neg hk] at hb
          exact W.dis j k a ha hb
    · by_cases hj : j = i
      · rw [if_pos hj] at ha
        cases ha
      · rw [if_neg hj] at ha
        obtain ⟨a1, a2⟩ := W.own j a ha
        refine ⟨?_, a2⟩
        rw [upd_ne (show a ≠ l from fun z => hne j hj (by rw [← z]; exact ha))]
        exact a1
  have W2 := W1.put (i := i) (v := .ref l) (s := .dat (.list ds)) ⟨rfl, .lst upd_same (h4.mono sb)⟩
  have e1 : σ.set i (some (.ref l)) = σ := by
    apply List.ext_getElem?
    intro k
    by_cases hk : k = i
    · subst hk
      rw [List.getElem?_set_self (by rw [← W.len]; exact hl), h1]
    · rw [List.getElem?_set_ne (Ne.symm hk)]
  rw [e1, List.set_set] at W2
  refine ⟨_, _, W2, ⟨sb, fun b o e _ => e, fun b o e n => ?_, fun b o e => ⟨o, e⟩, fun j b hb => ?_⟩⟩
  · exact upd_ne fun z => n i (by rw [h2, z]; exact List.mem_singleton.mpr rfl)
  · by_cases hj : j = i
    · rw [if_pos hj] at hb
      cases hb
    · rw [if_neg hj, if_neg hj] at hb
      exact .inl ⟨j, hb⟩
theorem xb_frz (i : Nat) {sts : List Stmt} (h : δ[i]? = some (.own (accR X.K ds))) (k : XB X (δ.set i (.dat (.list ds))) sts R) : XB X δ sts R := PSs.weak k fun D σ H q => by
  obtain ⟨B, F, W, o⟩ := ts_iff.mp q
  obtain ⟨B2, F2, W2, s2⟩ := W.frz h
  exact ts_iff.mpr ⟨B2, F2, W2, o.step s2⟩
/-- len(xs), xs a slot's own list -/
theorem xe_lenA (i : Nat) {x : Str} {p1 : Pos} (hm : X.mg "len" = none) (h : δ[i]? = some (.own (accR X.K ds))) (hi : X.N[i]? = some x := by rfl) (hv : Vis X.env.scope x := by first | exact Or.inl rfl | exact Or.inr (Or.inl rfl) | exact Or.inr (Or.inr rfl)) (hd : (x == ("__debug__" : Str)) = false := by decide) (hcd : (x == ("__classdict__" : Str)) = false := by decide)
    (hg : Gl X "len" := by rfl) (hs : starEach [.Name x p1] X.env = (false, eval (.Name x p1) X.env) :: starEach [] X.env := by rfl) : XE X δ (.Call (.Name "len" p) [.Name x p1] [] pos) (.int ds.length) :=
  (pe_callB call_len hg hm PySem.boot_len (pa_cons (pe_var (i := i) hi hv hd hcd) pa_nil hs) (by decide) (by decide) hs (by rfl)).weak fun σ H Q ⟨B, F, W, q⟩ => by
    obtain ⟨l, xs, h1, h2, h3, h4, h5⟩ := W.acc h
    exact ⟨.ref l, h1, .ref l, ds.length, rfl, .inl ⟨xs, SqL.of h3, h4.length.symm⟩, q _ B H (Grow.refl W.bh) (.int _)⟩
/-- xs[k], xs a slot's own list -/
theorem xe_ixA (i : Nat) {x : Str} {p1 : Pos} {k : Int} (h : δ[i]? = some (.own (accR X.K ds))) (hb : XE X δ b (.int k)) (ha : atI ds k = some d) (hi : X.N[i]? = some x := by rfl) (hv : Vis X.env.scope x := by first | exact Or.inl rfl | exact Or.inr (Or.inl rfl) | exact Or.inr (Or.inr rfl)) (hd : (x == ("__debug__" : Str)) = false := by decide) (hcd : (x == ("__classdict__" : Str)) = false := by decide)
    (hs : PlainIx b := by exact fun _ _ => rfl) : XE X δ (.Subscript (.Name x p1) b pos) d :=
  (pe_ix ix_list (pe_var (i := i) hi hv hd hcd) hb hs).weak fun σ H Q ⟨B, F, W, q⟩ => by
    obtain ⟨l, xs, h1, h2, h3, h4, h5⟩ := W.acc h
    obtain ⟨v, e1, e2⟩ := atI_rp h4 ha
    refine ⟨.ref l, h1, B, F, W, fun y B2 H2 g r => ?_⟩
    cases r
    exact ⟨l, xs, k, v, rfl, rfl, SqL.of (g.hh _ _ h3), e1, q v B2 H2 g (e2.mono g.bb)⟩
/-- xs[k] = e, xs a slot's own list -/
theorem xb_setIx (i : Nat) {x : Str} {p1 p2 : Pos} {k : Int} {j : Nat} (h : δ[i]? = some (.own (accR X.K ds))) (he : XE X δ e d) (hb : XE X δ b (.int k)) (hj : ixN ds.length k = some j) (kk : XB X (δ.set i (.own (accR X.K (ds.set j d)))) rest R) (hi : X.N[i]? = some x := by rfl)
    (hv : Vis X.env.scope x := by first | exact Or.inl rfl | exact Or.inr (Or.inl rfl) | exact Or.inr (Or.inr rfl)) (hd : (x == ("__debug__" : Str)) = false := by decide) (hcd : (x == ("__classdict__" : Str)) = false := by decide)
    (hga : ∀ v, assign (.Subscript (.Name x p1) b p2) X.env v = (do let ov ← holding [v] (eval (.Name x p1) X.env); let iv ← holding [v, ov] (eval b X.env); standAt p2; holding [v, ov, iv] (setItem ov iv v); release [v, ov, iv] []) := by intro _; rfl)
    (hs : swapsWithSole [.Subscript (.Name x p1) b p2] e pos.line X.env = pure false := by rfl) (hw : swappedStores [.Subscript (.Name x p1) b p2] e X.env = pure none := by rfl)
    (h1 : (assignEach [.Subscript (.Name x p1) b p2] X.env).map (·.2) = [assign (.Subscript (.Name x p1) b p2) X.env] := by rfl) : XB X δ (.Assign [.Subscript (.Name x p1) b p2] e pos :: rest) R :=
  xb_cons (ps_asg he (pg_sub (pe_var (i := i) hi hv hd hcd) hb set_list hga) hs hw h1) kk fun D σ H B F W o => ⟨B, F, W, fun v B2 H2 g r => by
    have W2 := W.grow g
    obtain ⟨l, xs, h1, h2, h3, h4, h5⟩ := W2.acc h
    refine ⟨.ref l, h1, B2, F, W2, fun y B3 H3 g3 r3 => ?_⟩
    cases r3
    refine ⟨l, xs, k, j, rfl, rfl, g3.hh _ _ h3, by rw [h4.length]; exact hj, ?_⟩
    obtain ⟨W4, s4⟩ := (W2.grow g3).accUpd h h1 h2 ((h4.mono g3.bb).set j (r.mono g3.bb))
    exact ts_iff.mpr ⟨B3, F, W4, o.step ((Step.of (g.trans g3)).trans s4)⟩⟩
end
end Dl

set_option Elab.async false
set_option linter.all false
set_option maxRecDepth 100000
set_option maxHeartbeats 4000000
/-! Plain facts about trees: slices, items, what == tells. -/
namespace Dl
open PySem PySem.Spec PyProof.Rows L2
theorem cutD_init {α : Type} (l : List α) : cutD l none (some (-1)) = l.dropLast := by
  unfold cutD
  have h1 : HT.sIx l.length 0 none = 0 := rfl
  have h2 : HT.sIx l.length l.length (some (-1)) = l.length - 1 := by
    show (if (-1 : Int) < 0 then (-1 + (l.length : Int)).toNat else min (-1 : Int).toNat l.length) = _
    rw [if_pos (by decide)]
    omega
  rw [h1, h2, List.drop_zero, List.dropLast_eq_take]
  rfl
theorem cutD_last {α : Type} (l : List α) (a : α) : cutD (l ++ [a]) (some (-1)) none = [a] := by
  unfold cutD
  have h1 : HT.sIx (l ++ [a]).length 0 (some (-1)) = l.length := by
    show (if (-1 : Int) < 0 then (-1 + ((l ++ [a]).length : Int)).toNat else min (-1 : Int).toNat (l ++ [a]).length) = _
    rw [if_pos (by decide), List.length_append, List.length_singleton]
    omega
  have h2 : HT.sIx (l ++ [a]).length (l ++ [a]).length none = (l ++ [a]).length := rfl
  rw [h1, h2, List.drop_left, List.length_append, List.length_singleton, Nat.add_sub_cancel_left]
  rfl
theorem cutD_to {α : Type} (l : List α) (n : Nat) : cutD l none (some (n : Int)) = l.take n := by
  unfold cutD
  rw [HT.sIx_nat]
  have h1 : HT.sIx l.length 0 none = 0 := rfl
  rw [h1, List.drop_zero, Nat.sub_zero]
  by_cases h : n ≤ l.length
  · rw [Nat.min_eq_left h]
  · rw [Nat.min_eq_right (by omega), List.take_length, List.take_of_length_le (by omega)]
theorem cutD_from {α : Type} (l : List α) (n : Nat) : cutD l (some (n : Int)) none = l.drop n := by
  unfold cutD
  rw [HT.sIx_nat]
  have h1 : HT.sIx l.length l.length none = l.length := rfl
  rw [h1]
  by_cases h : n ≤ l.length
  · rw [Nat.min_eq_left h, List.take_of_length_le (by rw [List.length_drop]; exact Nat.le_refl _)]
  · rw [Nat.min_eq_right (by omega), List.drop_length, List.take_nil, List.drop_of_length_le (by omega)]
theorem cutD_map {α β : Type} (f : α → β) (l : List α) (lo hi : Option Int) : cutD (l.map f) lo hi = (cutD l lo hi).map f := by
  unfold cutD
  rw [List.map_take, List.map_drop, List.length_map]
theorem atI_map {α β : Type} (f : α → β) (l : List α) (i : Int) : atI (l.map f) i = (atI l i).map f := by
  unfold atI
  rw [List.length_map]
  cases ixN l.length i with
  | none => rfl
  | some j =>
    simp only [Option.bind_some]
    rw [List.getElem?_map]
mutual
/-- the trees that == is told of -/
def okD : PyData → Bool
  | .none | .bool _ | .int _ => true
  | .str x => PyData.canLay0 (.str x)
  | .list xs | .tuple xs => okA xs
  | .dict _ => false
def okA : List PyData → Bool
  | [] => true
  | x :: xs => okD x && okA xs
end
theorem lay_map {α : Type} (f : α → PyData) (h : ∀ a, PyData.canLay0 (f a) = true) : ∀ l : List α, PyData.canLayAll0 (l.map f) = true
  | [] => by simp [PyData.canLayAll0]
  | a :: r => by
    rw [List.map_cons]
    simp only [PyData.canLayAll0]
    rw [h a, lay_map f h r]
    rfl
theorem depth_map {α : Type} (f : α → PyData) (n : Nat) (h : ∀ a, PyData.depth (f a) ≤ n) : ∀ l : List α, PyData.depthAll (l.map f) ≤ n
  | [] => by simp [PyData.depthAll]
  | a :: r => by
    rw [List.map_cons]
    simp only [PyData.depthAll]
    have h1 := h a
    have h2 := depth_map f n h r
    omega
theorem shaped_bools (l : List Bool) : SeqAt.shaped (.list (l.map .bool)) = true := by
  unfold SeqAt.shaped
  have h1 : PyData.canLay0 (.list (l.map .bool)) = true := by
    simp only [PyData.canLay0]
    exact lay_map _ (fun _ => by simp [PyData.canLay0]) l
  have h2 := depth_map PyData.bool 0 (fun _ => by simp [PyData.depth]) l
  have h3 : PyData.depth (.list (l.map .bool)) = PyData.depthAll (l.map .bool) + 1 := by simp only [PyData.depth]
  rw [h1, h3, Bool.true_and, decide_eq_true_eq]
  omega
theorem shaped_boolsT (l : List Bool) : SeqAt.shaped (.tuple (l.map .bool)) = true := by
  unfold SeqAt.shaped
  have h1 : PyData.canLay0 (.tuple (l.map .bool)) = true := by
    simp only [PyData.canLay0]
    exact lay_map _ (fun _ => by simp [PyData.canLay0]) l
  have h2 := depth_map PyData.bool 0 (fun _ => by simp [PyData.depth]) l
  have h3 : PyData.depth (.tuple (l.map .bool)) = PyData.depthAll (l.map .bool) + 1 := by simp only [PyData.depth]
  rw [h1, h3, Bool.true_and, decide_eq_true_eq]
  omega
theorem eqv_bools : ∀ l m : List Bool, PyData.eqvAll (l.map .bool) (m.map .bool) = decide (l = m)
  | [], [] => by simp [PyData.eqvAll]
  | [], _ :: _ => by simp [PyData.eqvAll]
  | _ :: _, [] => by simp [PyData.eqvAll]
  | a :: l, b :: m => by
    rw [List.map_cons, List.map_cons]
    simp only [PyData.eqvAll, PyData.eqv]
    rw [eqv_bools l m]
    by_cases h : a = b <;> simp [h]
end Dl
namespace Dl
open PySem
theorem eqv_lb (l m : List Bool) : PyData.eqv (.list (l.map .bool)) (.list (m.map .bool)) = decide (l = m) := by simp only [PyData.eqv]; exact eqv_bools l m
theorem eqv_tb (l m : List Bool) : PyData.eqv (.tuple (l.map .bool)) (.tuple (m.map .bool)) = decide (l = m) := by simp only [PyData.eqv]; exact eqv_bools l m
theorem shaped_nil : SeqAt.shaped (.list []) = true := shaped_bools []
end Dl
namespace Dl
open PySem PySem.Spec PyProof.Rows L2
theorem intNe0 (k : Nat) : (((k : Nat) : Int) != 0) = !(k == 0) := by
  rw [bne]
  congr 1
  rw [Bool.eq_iff_iff]
  simp only [beq_iff_eq]
  omega
theorem xi_seq {X : Cx} {tg iter : Expr} {δ : List Slot} {d : PyData} {ds : List PyData} (h : XE X δ iter d) (hs : SeqD d ds) : XI X tg δ iter ds := by
  cases hs with
  | lst => exact xi_list h
  | tup => exact xi_tup h
end Dl
namespace Dl
open PySem PySem.Spec PyProof.Rows L2
theorem SeqD.ix {d e : PyData} {ds : List PyData} {i : Int} (h : SeqD d ds) (hi : atI ds i = some e) : IxD d i e := by
  cases h with
  | lst => exact .lst hi
  | tup => exact .tup hi
theorem SeqD.len {d : PyData} {ds : List PyData} (h : SeqD d ds) : LenD d ds.length := by
  cases h with
  | lst => exact .lst _
  | tup => exact .tup _
theorem SeqD.row {d : PyData} {ds : List PyData} (h : SeqD d ds) : isRowD d = true := by cases h <;> rfl
theorem SeqD.tru {d : PyData} {ds : List PyData} (h : SeqD d ds) : truD d = !ds.isEmpty := by cases h <;> rfl
theorem SeqD.truOk {d : PyData} {ds : List PyData} (h : SeqD d ds) : TruOk d := by cases h <;> trivial
theorem atI_bools (l : List Bool) {n : Nat} (h : n < l.length) : atI (l.map PyData.bool) (n : Int) = some (.bool (l.getD n false)) := by
  rw [atI_map, atI_nat (List.getElem?_eq_getElem h), List.getD_eq_getElem?_getD, List.getElem?_eq_getElem h]
  rfl
abbrev encPr (p : Bool × Bool) : PyData := .tuple [.bool p.1, .bool p.2]
theorem shaped_pair (p : Bool × Bool) : SeqAt.shaped (encPr p) = true := shaped_boolsT [p.1, p.2]
theorem shaped_pairs (l : List (Bool × Bool)) : SeqAt.shaped (.list (l.map encPr)) = true := by
  unfold SeqAt.shaped
  have h1 : PyData.canLay0 (.list (l.map encPr)) = true := by
    simp only [PyData.canLay0]
    exact lay_map _ (fun _ => by simp [PyData.canLay0, PyData.canLayAll0]) l
  have h2 := depth_map encPr 1 (fun _ => by simp [PyData.depth, PyData.depthAll]) l
  have h3 : PyData.depth (.list (l.map encPr)) = PyData.depthAll (l.map encPr) + 1 := by simp only [PyData.depth]
  rw [h1, h3, Bool.true_and, decide_eq_true_eq]
  omega
theorem any_pairs (l : List (Bool × Bool)) (p : Bool × Bool) : ((l.map encPr).any fun z => PyData.eqv z (encPr p)) = l.any fun z => z == p := by
  rw [List.any_map]
  congr 1
  funext z
  show PyData.eqv (encPr z) (encPr p) = (z == p)
  have := eqv_tb [z.1, z.2] [p.1, p.2]
  refine Eq.trans this ?_
  rw [Bool.eq_iff_iff]
  simp [Prod.ext_iff]
end Dl
namespace Dl
open PySem L2
theorem atI_hd {α : Type} (a : α) (l : List α) : atI (a :: l) 0 = some a := atI_nat (j := 0) rfl
end Dl

set_option Elab.async false
set_option linter.all false
set_option maxRecDepth 100000
set_option maxHeartbeats 4000000
/-! tuple * int, any small factor. -/
namespace Dl
open PySem PySem.Spec PyProof.Rows L2
/-- t * 1 is t itself -/
theorem tuple_mul1 (l : Addr) (items : Array Value) (n : Nat) (dd : Option Addr) (sl : Array (Option Value)) (u : Tok) (hc : items.isEmpty = false) :
    Meets (Builtin.«tuple.__mul__» ⟨[.ref l, .int 1 u], []⟩) (fun _ R s => s.heap.get? l = some { cls := .type "tuple", dict := dd, data := .seq items n, slots := sl } ∧ R (.ok (.ret (Value.ref l))) s) :=
  .of_wp fun prog w A R s h => by
    obtain ⟨hp, g, d, tk, os⟩ := s
    obtain ⟨hl, h⟩ := h
    have f1 := AutoSeq1.idx_int
    wp_walk using wpAny_loadPart' hl
    exact ⟨_, rfl, h⟩
theorem tuple_mul0 (l : Addr) (items : Array Value) (n : Nat) (dd : Option Addr) (sl : Array (Option Value)) (u : Tok) (hc : items.isEmpty = false) :
    Meets (Builtin.«tuple.__mul__» ⟨[.ref l, .int 0 u], []⟩) (fun _ R s => s.heap.get? l = some { cls := .type "tuple", dict := dd, data := .seq items n, slots := sl } ∧
      R (.ok (.ret (Value.ref s.heap.objs.size))) { s with heap := s.heap.push { cls := Value.type "tuple", data := Data.seq #[] }, toks := s.toks }) :=
  .of_wp fun prog w A R s h => by
    obtain ⟨hp, g, d, tk, os⟩ := s
    obtain ⟨hl, h⟩ := h
    have f1 := AutoSeq1.idx_int
    wp_walk using wpAny_loadPart' hl
    exact ⟨_, rfl, h⟩
def rRep1 (K : PySem.W.Frag) : R2 := fun x y H Q => ∃ l xs, x = .ref l ∧ y = .int 1 ∧ SqT K H l xs ∧ xs ≠ [] ∧ Q (.ref l) H
def rRep0 (K : PySem.W.Frag) : R2 := fun x y H Q => ∃ l xs, x = .ref l ∧ y = .int 0 ∧ SqT K H l xs ∧ xs ≠ [] ∧ ∀ p, H p = none → Q (.ref p) (upd H p (.tup []))
section
variable {X : Cx}
theorem its_ne {xs : List V} {its : List Value} (r : Vals xs its) (h : xs ≠ []) : its.toArray.isEmpty = false := by
  cases r with
  | nil => exact absurd rfl h
  | cons _ _ => rfl
theorem op_rep1 : OpR X (binaryOp .Mult) (rRep1 X.K) := by
  intro pins s σ H x y v u Q I rx ry h
  obtain ⟨l, xs, rfl, rfl, hT, hne, q⟩ := h
  cases rx
  obtain ⟨t, rfl⟩ := ry
  obtain ⟨its, r, ⟨⟨cls, dd, data, sl⟩, ho, hc, n, hd⟩, hs⟩ := I.tuple hT
  simp only at hc hd
  subst hc hd
  refine wpAny_binaryOp_repeat_ref (T := "tuple") (U := "int") (by decide) ⟨_, ho, rfl⟩ (fun s' => typeIs_int s' 1 t) noFill_tuple_mul F.fills_int_mul F.slot_int_rmul repeat_tuple F.slot_int_index.lookup
    (call_meets F.slot_int_rmul (typeIs_int s 1 t) F.entry_int_rmul (F.args_int_rmul_2 _ _) (int_rmul_tuple 1 t l its.toArray n dd sl)
      ⟨ho, rfl, ⟨_, ho, rfl⟩, call_meets F.slot_tuple_mul ⟨_, ho, rfl⟩ F.entry_tuple_mul (F.args_tuple_mul_2 _ _) (tuple_mul1 l its.toArray n dd sl t (its_ne r hne)) ⟨ho, ?_⟩⟩)
  exact ⟨.ref l, H, I, rfl, q⟩
theorem op_rep0 : OpR X (binaryOp .Mult) (rRep0 X.K) := by
  intro pins s σ H x y v u Q I rx ry h
  obtain ⟨l, xs, rfl, rfl, hT, hne, q⟩ := h
  cases rx
  obtain ⟨t, rfl⟩ := ry
  obtain ⟨its, r, ⟨⟨cls, dd, data, sl⟩, ho, hc, n, hd⟩, hs⟩ := I.tuple hT
  simp only at hc hd
  subst hc hd
  refine wpAny_binaryOp_repeat_ref (T := "tuple") (U := "int") (by decide) ⟨_, ho, rfl⟩ (fun s' => typeIs_int s' 0 t) noFill_tuple_mul F.fills_int_mul F.slot_int_rmul repeat_tuple F.slot_int_index.lookup
    (call_meets F.slot_int_rmul (typeIs_int s 0 t) F.entry_int_rmul (F.args_int_rmul_2 _ _) (int_rmul_tuple 0 t l its.toArray n dd sl)
      ⟨ho, rfl, ⟨_, ho, rfl⟩, call_meets F.slot_tuple_mul ⟨_, ho, rfl⟩ F.entry_tuple_mul (F.args_tuple_mul_2 _ _) (tuple_mul0 l its.toArray n dd sl t (its_ne r hne)) ⟨ho, ?_⟩⟩)
  refine ⟨.ref s.heap.objs.size, _, I.laid (t' := s.toks) (o := .tup []) (fun b ob q => Heap.get?_push_of_some _ q) (Nat.le_refl _) ?_, rfl, q _ (I.hok.fresh (Nat.le_refl _))⟩
  exact ⟨Nat.zero_le _, [], .nil, IsTup.new _ _⟩
/-- t * k, a tuple that is not empty, 0 ≤ k ≤ 1000 -/
theorem xe_repT {δ : List Slot} {a b : Expr} {pos : Pos} {xs : List PyData} {k : Nat} (ha : XE X δ a (.tuple xs)) (hb : XE X δ b (.int (k : Nat))) (hk : k ≤ 1000) (hn : xs ≠ []) (hz : xs.length ≤ 1000) : XE X δ (.BinOp a .Mult b pos) (.tuple (List.replicate k xs).flatten) := by
  by_cases k0 : k = 0
  · subst k0
    refine xe_op op_rep0 ha hb fun B H x y Q s rx ry q => ?_
    cases ry
    cases rx with
    | @tup a us _ h1 r1 => exact ⟨a, us, rfl, rfl, same_t s h1, fun e => hn (by subst e; cases r1; rfl), fun p hp => q _ _ _ (Grow.new (o := .tup []) s hp) (.tup (.inl (.inl upd_same)) .nil)⟩
  by_cases k1 : k = 1
  · subst k1
    refine xe_op op_rep1 ha hb fun B H x y Q s rx ry q => ?_
    cases ry
    cases rx with
    | @tup a us _ h1 r1 =>
      refine ⟨a, us, rfl, rfl, same_t s h1, fun e => hn (by subst e; cases r1; rfl), q _ B H (Grow.refl s) ?_⟩
      have e : (List.replicate 1 xs).flatten = xs := by simp
      rw [e]
      exact .tup h1 r1
  have e : (List.replicate k xs).flatten = (List.replicate ((k : Nat) : Int).toNat xs).flatten := by rw [Int.toNat_natCast]
  rw [e]
  exact xe_op op_repT ha hb (rd_repT (by omega) (by omega) hn hz)
end
end Dl

set_option Elab.async false
set_option linter.all false
set_option maxRecDepth 100000
set_option maxHeartbeats 4000000
/-! The data level: expressions that change the slots' objects; the spring of draws. -/
namespace Dl
open PySem PySem.Spec PyProof.Rows L2
section
variable {X : Cx} {δ δ2 : List Slot} {a b c e tg iter elt : Expr} {pos p0 : Pos} {ds ys : List PyData} {es rest' : List Expr} {d d1 d2 : PyData} {rest : List Stmt} {R : Post} {st : Stmt}
/-- arguments that change the slots' objects -/
def tAE (K : PySem.W.Frag) (δ : List Slot) (P : List PyData → List Slot → Prop) : TA := fun σ H Q => ∃ B F, Wf K B H σ δ F ∧ ∀ vs ds δ2 B2 H2 F2, Step B H F B2 H2 F2 → Wf K B2 H2 σ δ2 F2 → P ds δ2 → RpA K B2 vs ds → Q vs H2
abbrev XFA (X : Cx) (δ : List Slot) (es : List Expr) (P : List PyData → List Slot → Prop) : Prop := PA X es (tAE X.K δ P)
def tTE (K : PySem.W.Frag) (δ : List Slot) (P : Bool → List Slot → Prop) : TT := fun σ H Q => ∃ B F, Wf K B H σ δ F ∧ ∀ b δ2 B2 H2 F2, Step B H F B2 H2 F2 → Wf K B2 H2 σ δ2 F2 → P b δ2 → Q b H2
abbrev XFT (X : Cx) (δ : List Slot) (e : Expr) (P : Bool → List Slot → Prop) : Prop := PT X e (tTE X.K δ P)
variable {P P' : PyData → List Slot → Prop}
theorem xf_of (h : XE X δ e d) : XF X δ e (fun d' δ' => d' = d ∧ δ' = δ) := PE.weak h fun σ H Q ⟨B, F, W, q⟩ => ⟨B, F, W, fun v B2 H2 g r => q v d δ B2 H2 F (Step.of g) (W.grow g) ⟨rfl, rfl⟩ r⟩
theorem xf_imp (h : XF X δ e P) (w : ∀ d δ', P d δ' → P' d δ') : XF X δ e P' := PE.weak h fun σ H Q ⟨B, F, W, q⟩ => ⟨B, F, W, fun v d δ2 B2 H2 F2 s W2 hp r => q v d δ2 B2 H2 F2 s W2 (w _ _ hp) r⟩
theorem xf_op {op : Operator} {r : R2} {P1 : PyData → List Slot → Prop} (ho : OpR X (binaryOp op) r) (ha : XF X δ a P1) (hb : ∀ d1 δ1, P1 d1 δ1 → XF X δ1 b (fun d2 δ2 => ∃ d, RD X.K r d1 d2 d ∧ P d δ2)) : XF X δ (.BinOp a op b pos) P :=
  (pe_op ho ha (pe_ex fun z : {z : PyData × List Slot // P1 z.1 z.2} => hb z.1.1 z.1.2 z.2)).weak fun σ H Q ⟨B, F, W, q⟩ => ⟨B, F, W, fun x d1 δ1 B1 H1 F1 s1 W1 h1 r1 =>
    ⟨⟨(d1, δ1), h1⟩, B1, F1, W1, fun y d2 δ2 B2 H2 F2 s2 W2 ⟨d, hr, hp⟩ r2 => hr B2 H2 x y Q W2.bh (r1.mono s2.bb) r2 fun v B3 H3 g3 r3 => q v d δ2 B3 H3 F2 ((s1.trans s2).trans (Step.of g3)) (W2.grow g3) hp r3⟩⟩
theorem xf_cmp {op : CmpOp} {P1 : PyData → List Slot → Prop} (hu : X.A.units + 65 < cLine) (ha : XF X δ a P1) (hb : ∀ d1 δ1, P1 d1 δ1 → XF X δ1 b (fun d2 δ2 => ∃ k, CmpD op d1 d2 k ∧ P (.bool k) δ2)) (hm : behindInMarks op b = false := by first | exact nomark _ | rfl) : XF X δ (.Compare a [op] [b] pos) P :=
  (pe_cmpR (or_cmp hu op) ha (pe_ex fun z : {z : PyData × List Slot // P1 z.1 z.2} => hb z.1.1 z.1.2 z.2) hm).weak fun σ H Q ⟨B, F, W, q⟩ => ⟨B, F, W, fun x d1 δ1 B1 H1 F1 s1 W1 h1 r1 =>
    ⟨⟨(d1, δ1), h1⟩, B1, F1, W1, fun y d2 δ2 B2 H2 F2 s2 W2 ⟨k, hc, hp⟩ r2 => ⟨B2, d1, d2, k, W2.bh, r1.mono s2.bb, r2, hc, q _ _ δ2 B2 H2 F2 (s1.trans s2) W2 hp (.bl k)⟩⟩⟩
theorem xft_cmp {op : CmpOp} {P1 : PyData → List Slot → Prop} {PB : Bool → List Slot → Prop} (hu : X.A.units + 65 < cLine) (ha : XF X δ a P1) (hb : ∀ d1 δ1, P1 d1 δ1 → XF X δ1 b (fun d2 δ2 => ∃ k, CmpD op d1 d2 k ∧ PB k δ2)) (hm : behindInMarks op b = false := by first | exact nomark _ | rfl) : XFT X δ (.Compare a [op] [b] pos) PB :=
  (pt_cmpR (or_cmp hu op) ha (pe_ex fun z : {z : PyData × List Slot // P1 z.1 z.2} => hb z.1.1 z.1.2 z.2) hm).weak fun σ H Q ⟨B, F, W, q⟩ => ⟨B, F, W, fun x d1 δ1 B1 H1 F1 s1 W1 h1 r1 =>
    ⟨⟨(d1, δ1), h1⟩, B1, F1, W1, fun y d2 δ2 B2 H2 F2 s2 W2 ⟨k, hc, hp⟩ r2 => ⟨B2, d1, d2, k, W2.bh, r1.mono s2.bb, r2, hc, k, rfl, q k δ2 B2 H2 F2 (s1.trans s2) W2 hp⟩⟩⟩
theorem xft_tru {P1 : PyData → List Slot → Prop} {PB : Bool → List Slot → Prop} (ha : XF X δ a P1) (h : ∀ d δ1, P1 d δ1 → TruOk d ∧ PB (truD d) δ1) (he : ∀ whole, isTrue a X.env whole = (do let v ← whole; standAt a.pos; holding [v] (truthy v)) := by intro _; rfl) : XFT X δ a PB :=
  (pt_truth ha he).weak fun σ H Q ⟨B, F, W, q⟩ => ⟨B, F, W, fun x d1 δ1 B1 H1 F1 s1 W1 h1 r1 => ⟨_, tru_of W1.bh r1 (h d1 δ1 h1).1, q _ δ1 B1 H1 F1 s1 W1 (h d1 δ1 h1).2⟩⟩
theorem xfa_of (h : XA X δ es ds) : XFA X δ es (fun ds' δ' => ds' = ds ∧ δ' = δ) := PA.weak h fun σ H Q ⟨B, F, W, q⟩ => ⟨B, F, W, fun vs B2 H2 g r => q vs ds δ B2 H2 F (Step.of g) (W.grow g) ⟨rfl, rfl⟩ r⟩
theorem xfa_nil : XFA X δ [] (fun ds' δ' => ds' = [] ∧ δ' = δ) := xfa_of xa_nil
theorem xfa_cons {P1 : PyData → List Slot → Prop} {PA' : List PyData → List Slot → Prop} (ha : XF X δ e P1) (hr : ∀ d1 δ1, P1 d1 δ1 → XFA X δ1 es (fun ds δ2 => PA' (d1 :: ds) δ2)) (hs : starEach (e :: es) X.env = (false, eval e X.env) :: starEach es X.env := by rfl) : XFA X δ (e :: es) PA' :=
  (pa_cons ha (pa_ex fun z : {z : PyData × List Slot // P1 z.1 z.2} => hr z.1.1 z.1.2 z.2) hs).weak fun σ H Q ⟨B, F, W, q⟩ => ⟨B, F, W, fun x d1 δ1 B1 H1 F1 s1 W1 h1 r1 =>
    ⟨⟨(d1, δ1), h1⟩, B1, F1, W1, fun vs ds δ2 B2 H2 F2 s2 W2 hp r2 => q (x :: vs) (d1 :: ds) δ2 B2 H2 F2 (s1.trans s2) W2 hp (.cons (r1.mono s2.bb) r2)⟩⟩
theorem xf_tup {x1} {PA' : List PyData → List Slot → Prop} (h : XFA X δ es PA') (hp : ∀ ds δ1, PA' ds δ1 → ds.length ≤ 1000000 ∧ P (.tuple ds) δ1) : XF X δ (.Tuple es x1 pos) P := (pe_tup h).weak fun σ H Q ⟨B, F, W, q⟩ => ⟨B, F, W, fun vs ds δ2 B2 H2 F2 s2 W2 h2 r2 => ⟨by
    refine sz_of ?_
    rw [r2.length]
    exact (hp ds δ2 h2).1, fun l hl => by
    have g := Grow.new (o := .tup vs) W2.bh hl
    exact q _ _ δ2 _ _ F2 (s2.trans (Step.of g)) (W2.grow g) (hp ds δ2 h2).2 (.tup (.inl (.inl upd_same)) (r2.mono g.bb))⟩⟩
theorem xf_lst {PA' : List PyData → List Slot → Prop} (h : XFA X δ es PA') (hp : ∀ ds δ1, PA' ds δ1 → ds.length ≤ 1000000 ∧ P (.list ds) δ1) : XF X δ (.List es pos) P := (pe_lst h).weak fun σ H Q ⟨B, F, W, q⟩ => ⟨B, F, W, fun vs ds δ2 B2 H2 F2 s2 W2 h2 r2 => ⟨by
    refine sz_of ?_
    rw [r2.length]
    exact (hp ds δ2 h2).1, fun l hl => by
    have g := Grow.new (o := .lst vs) W2.bh hl
    exact q _ _ δ2 _ _ F2 (s2.trans (Step.of g)) (W2.grow g) (hp ds δ2 h2).2 (.lst upd_same (r2.mono g.bb))⟩⟩
/-- a def that is a function of data, its arguments changing the slots' objects -/
theorem xf_callP {k : Nat} {x : Str} {ps : List Str} {f : List PyData → PyData → Prop} {PA' : List PyData → List Slot → Prop} (G : Def X.prog X.w X.K X.mg X.base k x ps (SpP X.K f)) (hr : Room k X.A) (ha : XFA X δ (e :: es) PA') (hf : ∀ ds δ1, PA' ds δ1 → ∃ d, f ds d ∧ P d δ1) (hg : Gl X x := by rfl) (hdb : (x == ("__debug__" : Str)) = false := by decide)
    (he : starEach (e :: es) X.env = (false, eval e X.env) :: starEach es X.env := by rfl) (hpl : (backTo pos (starEach es X.env)).any (·.1) = false := by rfl) : XF X δ (.Call (.Name x p0) (e :: es) [] pos) P := by
  obtain ⟨fa, fd, h1, h2, h3, h4⟩ := G.ex
  exact (pe_call h4 hr hg h1 h2 h3 .nil pass0 ha hdb he hpl).weak fun σ H Q ⟨B, F, W, q⟩ => ⟨B, F, W, fun vs ds δ2 B2 H2 F2 s2 W2 hp r2 => by
    obtain ⟨d, hfd, hpd⟩ := hf ds δ2 hp
    show SpP X.K f (vs ++ []) H2 Q E0
    rw [List.append_nil]
    exact ⟨B2, ds, d, W2.bh, r2, hfd, fun v B3 H3 g3 r3 => q v d δ2 B3 H3 F2 (s2.trans (Step.of g3)) (W2.grow g3) hpd r3⟩⟩
/-! ### statements -/
theorem xb_setF {i : Nat} (h : PS X st (tAsg (tE X.K δ P) (gName i))) (k : ∀ d δ1, P d δ1 → XB X (δ1.set i (.dat d)) rest R) : XB X δ (st :: rest) R :=
  xb_cons h (pss_ex fun z : {z : PyData × List Slot // P z.1 z.2} => k z.1.1 z.1.2 z.2) fun D σ H B F W o =>
    ⟨B, F, W, fun v d δ1 B2 H2 F2 s W2 hp r => ⟨⟨(d, δ1), hp⟩, ts_iff.mpr ⟨B2, _, W2.put (s := .dat d) ⟨rfl, r⟩, o.step (s.sub cut_sub)⟩⟩⟩
theorem xb_asgF (i : Nat) {x : Str} (he : XF X δ e P) (k : ∀ d δ1, P d δ1 → XB X (δ1.set i (.dat d)) rest R) (hN : X.N.Nodup) (hi : X.N[i]? = some x := by rfl) (hx : Loc X.env.scope x := by first | exact Or.inl rfl | exact Or.inr rfl) (hs : swapsWith e (some (.Name x p0)) pos.line X.env = pure false := by rfl)
    (hf : X.fn x = true ∨ X.env.scope.names.lookup x = some .local := by first | exact .inl rfl | exact .inr rfl | assumption) : XB X δ (.Assign [.Name x p0] e pos :: rest) R := xb_setF (ps_set hN hi hx he hs hf) k
theorem xb_retF (he : XF X δ e P) (h : ∀ d δ1, P d δ1 → R.rt d δ1) : XB X δ (.Return (some e) pos :: rest) R := xb_cons (ps_ret he) pss_never fun D σ H B F W o =>
  ⟨B, F, W, fun v d δ1 B2 H2 F2 s W2 hp r => o.rt v d σ δ1 B2 H2 F2 s W2 (h d δ1 hp) r⟩
theorem xb_parF {PA' : List PyData → List Slot → Prop} {i j : Nat} {x y : Str} {px py pt : Pos} {kt k2 pt2} (ha : XFA X δ [a, b] PA') (k : ∀ ds δ1, PA' ds δ1 → ∃ d1 d2, ds = [d1, d2] ∧ XB X ((δ1.set i (.dat d1)).set j (.dat d2)) rest R) (hN : X.N.Nodup) (hi : X.N[i]? = some x := by rfl) (hj : X.N[j]? = some y := by rfl) (hij : i ≠ j := by decide)
    (hx : X.env.scope.names.lookup x = some .local := by rfl) (hy : X.env.scope.names.lookup y = some .local := by rfl) (hc : X.calm = true := by rfl)
    (hw : swappedStores [.Tuple [.Name x px, .Name y py] kt pt] (.Tuple [a, b] k2 pt2) X.env = pure (some [x, y]) := by rfl)
    (hs : swapsWithSole [.Tuple [.Name x px, .Name y py] kt pt] (.Tuple [a, b] k2 pt2) pos.line X.env = pure false := by rfl) :
    XB X δ (.Assign [.Tuple [.Name x px, .Name y py] kt pt] (.Tuple [a, b] k2 pt2) pos :: rest) R :=
  xb_cons (ps_par hc hN hi hj hij hx hy ha hw hs) (pss_ex fun z : {z : List PyData × List Slot × PyData × PyData // z.1 = [z.2.2.1, z.2.2.2] ∧ XB X ((z.2.1.set i (.dat z.2.2.1)).set j (.dat z.2.2.2)) rest R} => z.2.2) fun D σ H B F W o =>
  ⟨B, F, W, fun vs ds δ1 B2 H2 F2 s W2 hp r => by
    obtain ⟨d1, d2, rfl, hk⟩ := k ds δ1 hp
    cases r with
    | @cons v us _ _ r1 r2 =>
      cases r2 with
      | @cons w us _ _ r2 r3 =>
        cases r3
        exact ⟨v, w, rfl, ⟨([d1, d2], δ1, d1, d2), rfl, hk⟩, ts_iff.mpr ⟨B2, _, (W2.put (s := .dat d1) ⟨rfl, r1⟩).put (s := .dat d2) ⟨rfl, r2⟩, o.step ((s.sub cut_sub).sub cut_sub)⟩⟩⟩
theorem xb_unpF {is : List Nat} (he : XF X δ e P) (Δ : PyData → List Slot → List Slot) (hg : ∀ d δ1, P d δ1 → XG X tg is d δ1 (Δ d δ1)) (k : ∀ d δ1, P d δ1 → XB X (Δ d δ1) rest R) (hs : swapsWithSole [tg] e pos.line X.env = pure false := by rfl) (hw : swappedStores [tg] e X.env = pure none := by rfl)
    (h1 : (assignEach [tg] X.env).map (·.2) = [assign tg X.env] := by rfl) : XB X δ (.Assign [tg] e pos :: rest) R :=
  xb_cons (ps_asg he (pg_ex fun z : {z : PyData × List Slot // P z.1 z.2} => hg z.1.1 z.1.2 z.2) hs hw h1) (pss_ex fun z : {z : PyData × List Slot // P z.1 z.2} => k z.1.1 z.1.2 z.2) fun D σ H B F W o =>
  ⟨B, F, W, fun v d δ1 B2 H2 F2 s W2 hp r => ⟨⟨(d, δ1), hp⟩, B2, F2, W2, r, fun σ3 F3 W3 sb _ _ => ⟨⟨(d, δ1), hp⟩, ts_iff.mpr ⟨B2, F3, W3, o.step (s.sub sb)⟩⟩⟩⟩
theorem xb_ifF {sts sts2 : List Stmt} {PB : Bool → List Slot → Prop} (M : List Slot → Prop) (hc : XFT X δ c PB) (h1 : ∀ δ1, PB true δ1 → XB X δ1 sts { R with nx := M }) (h2 : ∀ δ1, PB false δ1 → XB X δ1 sts2 { R with nx := M }) (h : ∀ δ', M δ' → XB X δ' rest R) : XB X δ (.If c sts sts2 pos :: rest) R := by
  have hr : PSs X rest (fun D σ H => ∃ z : {δ' // M δ'}, tS X.K z.1 R D σ H) := pss_ex fun z : {δ' // M δ'} => h z.1 z.2
  have fin : ∀ {D : Ends} {B H : Hp} {F : Nat → List Addr}, Ok X.K R D B H F → Ok X.K { R with nx := M } { D with nx := fun σ H => ∃ z : {δ' // M δ'}, tS X.K z.1 R D σ H } B H F := fun {D B H F} o =>
    ⟨fun σ2 δ2 B2 H2 F2 s W q => ⟨⟨δ2, q⟩, ts_iff.mpr ⟨B2, F2, W, o.step s⟩⟩, o.rt, o.bk, o.ct, o.rr, o.gh⟩
  refine xb_cons (ps_if hc (pss_ex fun z : {δ' // PB true δ'} => h1 z.1 z.2) (pss_ex fun z : {δ' // PB false δ'} => h2 z.1 z.2)) hr fun D σ H B F W o => ⟨B, F, W, fun k δ1 B2 H2 F2 s W2 hp => ?_⟩
  cases k with
  | true => exact ⟨⟨δ1, hp⟩, ts_iff.mpr ⟨B2, F2, W2, (fin o).step s⟩⟩
  | false => exact ⟨⟨δ1, hp⟩, ts_iff.mpr ⟨B2, F2, W2, (fin o).step s⟩⟩
end
end Dl

set_option Elab.async false
set_option linter.all false
set_option maxRecDepth 100000
set_option maxHeartbeats 4000000
/-! The data level: the spring of draws, and comprehensions that draw. -/
namespace Dl
open PySem PySem.Spec PyProof.Rows L2
/-- the spring as it stands: the cells left, what is left of a great one, how many were drawn, the mix -/
def strmX (p q : Addr) (cells : List Int) (r c m : Int) : Res where
  ok := fun _ H v fp => v = .ref p ∧ fp = [p, q] ∧ H p = some (.lst [.ref q, .int r, .int c, .int m]) ∧ H q = some (.lst (cells.map V.int))
  loc := fun {B B' H H' v fp} ⟨h1, h2, h3, h4⟩ _ hh => ⟨h1, h2, by rw [hh p (by rw [h2]; exact List.mem_cons_self)]; exact h3, by rw [hh q (by rw [h2]; exact List.mem_cons_of_mem _ List.mem_cons_self)]; exact h4⟩
/-- what is known of a spring: at most n were drawn -/
structure StB (n : Nat) (cells : List Int) (r c m : Int) : Prop where
  len : cells.length ≤ 63
  r0 : 0 ≤ r
  c0 : 0 ≤ c
  cn : c ≤ n
  m0 : 0 ≤ m
  m1 : m < 2147483647
def strmR (p q : Addr) (n : Nat) : Res where
  ok := fun B H v fp => ∃ cells r c m, StB n cells r c m ∧ (strmX p q cells r c m).ok B H v fp
  loc := fun {B B' H H' v fp} ⟨cells, r, c, m, hb, h⟩ h1 h2 => ⟨cells, r, c, m, hb, (strmX p q cells r c m).loc h h1 h2⟩
def fpS (p q : Addr) : Nat → List Addr := fun i => if i = 0 then [p, q] else []
/-- the promise of a def that draws: pre of the number of draws so far and the data, post of both numbers, the data, the answer -/
def SpS (K : PySem.W.Frag) (pre : Nat → List PyData → Prop) (post : Nat → List PyData → Nat → PyData → Prop) : Sp := fun vs H Q _ => ∃ B p q us n ds, vs = .ref p :: us ∧ Same B H ∧ B p = none ∧ B q = none ∧ p ≠ q ∧ (strmR p q n).ok B H (.ref p) [p, q] ∧ RpA K B us ds ∧ pre n ds ∧
  ∀ v d n2 B2 H2, Step B H (fpS p q) B2 H2 (fpS p q) → Same B2 H2 → B2 p = none → B2 q = none → (strmR p q n2).ok B2 H2 (.ref p) [p, q] → post n ds n2 d → Rp K B2 v d → Q v H2
section
variable {X : Cx} {δ δ2 : List Slot} {a b c e tg iter elt : Expr} {pos p0 p1 : Pos} {ds ys : List PyData} {es : List Expr} {d d1 d2 : PyData} {rest : List Stmt} {R : Post} {st : Stmt} {P : PyData → List Slot → Prop}
theorem Wf.strm {K : PySem.W.Frag} {B H : Hp} {σ : L2.St} {F : Nat → List Addr} (W : Wf K B H σ δ F) {i n : Nat} {p q : Addr} (h : δ[i]? = some (.own (strmR p q n))) : σ[i]? = some (some (.ref p)) ∧ F i = [p, q] ∧ (strmR p q n).ok B H (.ref p) [p, q] ∧ B p = none ∧ B q = none ∧ p ≠ q := by
  obtain ⟨o, h1, h2⟩ := W.sl i _ h
  cases o with
  | none => exact h2.elim
  | some v =>
    have hx : (strmR p q n).ok B H v (F i) := h2
    obtain ⟨cells, r, c, m, hb, hv, hF, hp, hq⟩ := id hx
    subst hv
    rw [hF] at hx
    refine ⟨h1, hF, hx, (W.own i p (by rw [hF]; exact List.mem_cons_self)).1, (W.own i q (by rw [hF]; exact List.mem_cons_of_mem _ List.mem_cons_self)).1, fun e => ?_⟩
    subst e
    rw [hp] at hq
    cases cells with
    | nil => simp at hq
    | cons z zs =>
      have := HO.lst.inj (Option.some.inj hq)
      rw [List.map_cons] at this
      cases (List.cons.inj this).1
/-- behind a call that draws -/
theorem Wf.drawn {K : PySem.W.Frag} {B H B2 H2 : Hp} {σ : L2.St} {F : Nat → List Addr} (W : Wf K B H σ δ F) {i n n2 : Nat} {p q : Addr} (h : δ[i]? = some (.own (strmR p q n))) (s : Step B H (fpS p q) B2 H2 (fpS p q)) (sb : Same B2 H2) (hp : B2 p = none) (hq : B2 q = none) (ok : (strmR p q n2).ok B2 H2 (.ref p) [p, q]) :
    Wf K B2 H2 σ (δ.set i (.own (strmR p q n2))) F ∧ Step B H F B2 H2 F := by
  obtain ⟨h1, hF, _, _, _, _⟩ := W.strm h
  have hl : i < δ.length := (List.getElem?_eq_some_iff.mp h).1
  have nF : ∀ j, j ≠ i → ∀ a ∈ F j, ∀ k, a ∉ fpS p q k := fun j hj a ha k hk => by
    by_cases e : k = 0
    · subst e
      have hk : a ∈ [p, q] := hk
      rw [← hF] at hk
      exact hj (W.dis j i a ha hk)
    · have hk : a ∈ (if k = 0 then [p, q] else []) := hk
      rw [if_neg e] at hk
      cases hk
  have nS : ∀ b, (∀ j, b ∉ F j) → ∀ k, b ∉ fpS p q k := fun b hb k hk => by
    by_cases e : k = 0
    · subst e
      have hk : b ∈ [p, q] := hk
      rw [← hF] at hk
      exact hb i hk
    · have hk : b ∈ (if k = 0 then [p, q] else []) := hk
      rw [if_neg e] at hk
      cases hk
  refine ⟨⟨sb, by rw [List.length_set]; exact W.len, fun j t e => ?_, fun j hj => W.out j (by rw [List.length_set] at hj; exact hj), W.dis, fun j a ha => ?_⟩, ⟨s.bb, fun b o e hn => s.keep b o e (nS b hn), fun b o e hn => s.fr b o e (nS b hn), s.there, fun j b hb => .inl ⟨j, hb⟩⟩⟩
  · by_cases hj : j = i
    · subst hj
      rw [List.getElem?_set_self hl] at e
      cases e
      refine ⟨_, h1, ?_⟩
      show (strmR p q n2).ok B2 H2 (.ref p) (F j)
      rw [hF]
      exact ok
    · rw [List.getElem?_set_ne (Ne.symm hj)] at e
      obtain ⟨o, a1, a2⟩ := W.sl j t e
      refine ⟨o, a1, a2.loc s.bb fun a ha => ?_⟩
      obtain ⟨_, u, hu⟩ := W.own j a ha
      rw [hu]
      exact s.keep a u hu (nF j hj a ha)
  · by_cases hj : j = i
    · subst hj
      rw [hF] at ha
      obtain ⟨cells, r, c, m, _, _, _, k1, k2⟩ := ok
      rcases List.mem_cons.mp ha with e | e
      · rw [e]; exact ⟨hp, _, k1⟩
      · rw [List.mem_singleton.mp e]; exact ⟨hq, _, k2⟩
    · obtain ⟨a1, u, hu⟩ := W.own j a ha
      exact ⟨(s.fr a u hu (nF j hj a ha)).trans a1, u, s.keep a u hu (nF j hj a ha)⟩
/-- f(stream, ..): the spring in slot i -/
theorem xf_draw (i : Nat) {k n : Nat} {p q : Addr} {f x : Str} {ps : List Str} {pre : Nat → List PyData → Prop} {post : Nat → List PyData → Nat → PyData → Prop} {PA' : List PyData → List Slot → Prop} (G : Def X.prog X.w X.K X.mg X.base k f ps (SpS X.K pre post)) (hr : Room k X.A)
    (hi : δ[i]? = some (.own (strmR p q n))) (ha : XFA X δ es PA') (hp : ∀ ds δ1, PA' ds δ1 → ∃ n1, δ1[i]? = some (.own (strmR p q n1)) ∧ pre n1 ds ∧ ∀ n2 d, post n1 ds n2 d → P d (δ1.set i (.own (strmR p q n2))))
    (hN : X.N[i]? = some x := by rfl) (hv : Vis X.env.scope x := by first | exact Or.inl rfl | exact Or.inr (Or.inl rfl) | exact Or.inr (Or.inr rfl)) (hd : (x == ("__debug__" : Str)) = false := by decide) (hcd : (x == ("__classdict__" : Str)) = false := by decide)
    (hg : Gl X f := by rfl) (hdb : (f == ("__debug__" : Str)) = false := by decide) (he : starEach (.Name x p1 :: es) X.env = (false, eval (.Name x p1) X.env) :: starEach es X.env := by rfl) (hpl : (backTo pos (starEach es X.env)).any (·.1) = false := by rfl) :
    XF X δ (.Call (.Name f p0) (.Name x p1 :: es) [] pos) P := by
  obtain ⟨fa, fd, h1, h2, h3, h4⟩ := G.ex
  refine (pe_call h4 hr hg h1 h2 h3 .nil pass0 (pa_cons (pe_var (i := i) hN hv hd hcd) ha he) hdb he hpl).weak fun σ H Q ⟨B, F, W, q'⟩ => ?_
  obtain ⟨s1, _⟩ := W.strm hi
  refine ⟨.ref p, s1, B, F, W, fun vs ds δ1 B2 H2 F2 s2 W2 hpa r2 => ?_⟩
  obtain ⟨n1, hi1, hpre, hpost⟩ := hp ds δ1 hpa
  obtain ⟨_, _, ok, b1, b2, ne⟩ := W2.strm hi1
  show SpS X.K pre post ((V.ref p :: vs) ++ []) H2 Q E0
  rw [List.append_nil]
  refine ⟨B2, p, q, vs, n1, ds, rfl, W2.bh, b1, b2, ne, ok, r2, hpre, fun v d n2 B3 H3 s3 sb k1 k2 ok3 po r3 => ?_⟩
  obtain ⟨W3, s4⟩ := W2.drawn hi1 s3 sb k1 k2 ok3
  exact q' v d _ B3 H3 F2 (s2.trans s4) W3 (hpost n2 d po) r3
end
section
variable {P : Program} {w : World} {K : PySem.W.Frag} {mg : Str → Option Value} {base : Heap} {ds : List PyData}
theorem wf_strm {B H : Hp} {us : List V} {p q : Addr} {n : Nat} (s : Same B H) (hp : B p = none) (hq : B q = none) (ok : (strmR p q n).ok B H (.ref p) [p, q]) (r : RpA K B us ds) (N : List Str) :
    Wf K B H (L2.start N (.ref p :: us)) (startD N (.own (strmR p q n) :: ds.map .dat)) (fpS p q) where
  bh := s
  len := by
    unfold L2.start startD
    simp only [List.length_append, List.length_map, List.length_replicate, List.length_cons, r.length]
  sl := fun i t e => by
    cases i with
    | zero =>
      have e : some (Slot.own (strmR p q n)) = some t := e
      cases e
      exact ⟨some (.ref p), rfl, ok⟩
    | succ i =>
      have W := envOk_dat (K := K) s r (N.drop 1)
      have e1 : (startD N (.own (strmR p q n) :: ds.map .dat))[i + 1]? = (startD (N.drop 1) (ds.map .dat))[i]? := by
        unfold startD
        rw [List.cons_append, List.getElem?_cons_succ, List.length_drop, List.length_cons]
        congr 3
        omega
      rw [e1] at e
      obtain ⟨o, a1, a2⟩ := W.sl i t e
      refine ⟨o, ?_, a2⟩
      rw [← a1]
      unfold L2.start
      rw [List.map_cons, List.cons_append, List.getElem?_cons_succ, List.length_drop, List.length_cons]
      congr 3
      omega
  out := fun i hi => if_neg (by
    intro z
    subst z
    unfold startD at hi
    simp at hi)
  dis := fun i j a h1 h2 => by
    have : ∀ k, a ∈ fpS p q k → k = 0 := fun k hk => by
      by_cases e : k = 0
      · exact e
      · have hk : a ∈ (if k = 0 then [p, q] else []) := hk
        rw [if_neg e] at hk
        cases hk
    rw [this i h1, this j h2]
  own := fun i a ha => by
    by_cases e : i = 0
    · subst e
      have ha : a ∈ [p, q] := ha
      obtain ⟨cells, r, c, m, _, _, _, k1, k2⟩ := ok
      rcases List.mem_cons.mp ha with e | e
      · rw [e]; exact ⟨hp, _, k1⟩
      · rw [List.mem_singleton.mp e]; exact ⟨hq, _, k2⟩
    · have ha : a ∈ (if i = 0 then [p, q] else []) := ha
      rw [if_neg e] at ha
      cases ha
/-- THE RULE for a def that draws (the spring its first parameter) -/
theorem def_draw {x : Str} {st : Stmt} {N ps : List Str} {k : Nat} {pre : Nat → List PyData → Prop} {post : Nat → List PyData → Nat → PyData → Prop} (A : At K mg x st ps) (S : FnScope N ps (defScope st)) (len : ∀ n ds, pre n ds → ds.length + 1 = ps.length)
    (body : ∀ (X : Cx), (∃ (fa : Addr) (cdv : Value) (A : Around) (outer : List Env) (s : Shared) (H : Hp) (E : XK), Room k (A.deeper (envOfC x (defScope st) s.heap.objs.size fa cdv)) ∧ X = (cxOf CX0 P w K mg base N x (defScope st) fa cdv A outer s H E).nox) → ∀ p q n ds, pre n ds → XB X (startD N (.own (strmR p q n) :: ds.map .dat)) (defBody st) { rt := fun d δ2 => ∃ n2, δ2[0]? = some (.own (strmR p q n2)) ∧ post n ds n2 d }) :
    Def P w K mg base (k + 1) x ps (SpS K pre post) := by
  obtain ⟨fa, fd, h1, h2, h3⟩ := A.ex
  refine ⟨fa, fd, h1, h2.kp, h3, h2.ok S (fun vs H Q E h => ?_) (fun cdv A outer s H vs Q E hr h => ?_)⟩
  · obtain ⟨B, p, q, us, n, ds, rfl, _, _, _, _, _, r, hp, _⟩ := h
    rw [List.length_cons, r.length]
    exact len n ds hp
  · obtain ⟨B, p, q, us, n, ds, rfl, sm, b1, b2, ne, ok, r, hp, q'⟩ := h
    refine ⟨_, body _ ⟨fa, cdv, A, outer, s, H, E, hr, rfl⟩ p q n ds hp, ?_⟩
    refine ts_iff.mpr ⟨B, _, wf_strm sm b1 b2 ok r N, fun _ _ _ _ _ _ _ h => h.elim, ?_, fun _ _ _ _ _ _ _ h => h.elim, fun _ _ _ _ _ _ _ h => h.elim, fun _ _ _ _ _ _ _ _ h => h.elim, trivial⟩
    intro v d σ2 δ2 B2 H2 F2 s2 W2 ⟨n2, hs, hpo⟩ r2
    obtain ⟨_, hF, ok2, k1, k2, _⟩ := W2.strm hs
    exact q' v d n2 B2 H2 ⟨s2.bb, s2.keep, s2.fr, s2.there, fun i b hb => .inl ⟨i, hb⟩⟩ W2.bh k1 k2 ok2 hpo r2
end
end Dl

set_option Elab.async false
set_option linter.all false
set_option maxRecDepth 100000
set_option maxHeartbeats 4000000
/-! The data level: comprehensions that draw; the spring's own steps. -/
namespace Dl
open PySem PySem.Spec PyProof.Rows L2
section
variable {X : Cx} {δ δ2 : List Slot} {a b c e tg iter elt : Expr} {pos p0 p1 p : Pos} {ds ys : List PyData} {es : List Expr} {d d1 d2 : PyData} {rest : List Stmt} {R : Post} {st : Stmt} {P : PyData → List Slot → Prop}
structure XLF (X : Cx) (δ : List Slot) (e : Expr) (P : PyData → List Slot → Prop) : Prop where
  val : XF X δ e P
  set : ∀ (i : Nat) {y : Str} {py spos : Pos}, X.N.Nodup → X.N[i]? = some y → X.env.scope.names.lookup y = some .local → swapsWith e (some (.Name y py)) spos.line X.env = pure true → PS X (.Assign [.Name y py] e spos) (tAsg (tE X.K δ P) (gName i))
theorem lcF_turn {K : PySem.W.Frag} {ι : Type} {l : List ι} {f : ι → PyData} {j : Nat} {wi : TI} (J : Nat → List Slot → Prop) (Pd : Nat → PyData → Prop) (hj : j < δ.length) (hz : l.length ≤ 1000000) (h0 : J 0 (δ.set j .no)) (hlen : ∀ i δ', J i δ' → δ'[j]? = some .no) (hwi : ∀ σ H R, tI K δ (l.map f) σ H R → wi σ H R)
    {tG' : TG} {tE' : TE} (hG : ∀ v σ H Q, (∃ z : {z : ι × List Slot // z.1 ∈ l}, tG K [j] (f z.1.1) z.1.2 (z.1.2.set j (.dat (f z.1.1))) v σ H Q) → tG' v σ H Q)
    (hE : ∀ σ H Q, (∃ z : {z : Nat × ι × List Slot // l[z.1]? = some z.2.1 ∧ J z.1 z.2.2}, tE K (z.1.2.2.set j (.dat (f z.1.2.1))) (fun d δ2 => Pd z.1.1 d ∧ J (z.1.1 + 1) (δ2.set j .no)) σ H Q) → tE' σ H Q) :
    ∀ σ H Q, tE K δ (fun d δ2 => ∃ ds, d = .list ds ∧ ds.length = l.length ∧ (∀ i d, ds[i]? = some d → Pd i d) ∧ J l.length δ2) σ H Q → tLc wi tG' tYes tE' [j] σ H Q := fun σ H Q ⟨B, F, W, q⟩ => by
  refine hwi σ H _ ⟨B, F, W, fun It B1 H1 g1 wk D hD => ?_⟩
  have W1 := W.grow g1
  have jw : ∀ σ' : L2.St, wipe σ' [j] = σ'.set j none := fun _ => rfl
  refine ⟨fun i m H' => m = l.length - i ∧ i ≤ l.length ∧ ∃ Bi xs ds δi Fi, Step B1 H1 F Bi H' Fi ∧ Same B1 Bi ∧ Wf K Bi H' (wipe σ [j]) δi Fi ∧ J i δi ∧ H' D = some (.lst xs) ∧ Bi D = none ∧ (∀ k, D ∉ Fi k) ∧ RpA K Bi xs ds ∧ ds.length = i ∧ ∀ k d, ds[k]? = some d → Pd k d,
    ⟨l.length, by simp, Nat.zero_le _, B1, [], [], δ.set j .no, _, (Step.of (F := F) (Grow.newH g1.bh hD)).sub (F2 := fun k => if k = j then [] else F k) cut_sub, Same.refl _, (W1.grow (Grow.newH g1.bh hD)).no j none, h0, upd_same, g1.bh.free hD, fun k hk => ?_, .nil, rfl, fun k d h => by simp at h⟩, ?_⟩
  · have hk : D ∈ (if k = j then [] else F k) := hk
    by_cases e : k = j
    · rw [if_pos e] at hk
      cases hk
    · rw [if_neg e] at hk
      obtain ⟨_, o, ho⟩ := W1.own k D hk
      rw [hD] at ho
      cases ho
  rintro i m H' ⟨rfl, hle, Bi, xs, ds, δi, Fi, si, sm, Wi, hJ, hx, hb, hD2, r, hdl, hpd⟩
  by_cases hlt : i < l.length
  · refine .inr ⟨wk.go i H' (sm.trans Wi.bh) (by rw [List.length_map]; exact hlt), fun H2 => ∃ Bi xs ds δi Fi, Step B1 H1 F Bi H2 Fi ∧ Same B1 Bi ∧ Wf K Bi H2 (wipe σ [j]) δi Fi ∧ J (i + 1) δi ∧ H2 D = some (.lst xs) ∧ Bi D = none ∧ (∀ k, D ∉ Fi k) ∧ RpA K Bi xs ds ∧ ds.length = i + 1 ∧ ∀ k d, ds[k]? = some d → Pd k d, fun H2 h2 => ⟨l.length - (i + 1), by omega, rfl, hlt, h2⟩, fun x H2 hy => ?_⟩
    have hget : l[i]? = some l[i] := List.getElem?_eq_getElem hlt
    have hmem : l[i] ∈ l := List.getElem_mem hlt
    generalize hd : l[i] = y at hget hmem
    obtain ⟨B2, g2, r2⟩ := wk.yld i Bi H' x H2 sm Wi.bh hy (f y) (by rw [List.getElem?_map, hget]; rfl)
    have W2 := Wi.grow g2
    have h2D : H2 D = some (.lst xs) := g2.hh _ _ hx
    have b2D : B2 D = none := (g2.fr D _ hx).trans hb
    refine hG x _ H2 _ ⟨⟨(y, δi), hmem⟩, B2, Fi, W2, r2, fun σ3 F3 W3 sb hl hk => ⟨wipe_same hl hk (fun k hk => hk), ?_⟩⟩
    show tE' σ3 H2 _
    refine hE σ3 H2 _ ⟨⟨(i, y, δi), hget, hJ⟩, B2, F3, W3, fun v d δ4 B4 H4 F4 s4 W4 ⟨hpv, hJ4⟩ r4 => ?_⟩
    have nD3 : ∀ k, D ∉ F3 k := fun k hk => by
      obtain ⟨m, hm⟩ := sb k D hk
      exact hD2 m hm
    have h4D : H4 D = some (.lst xs) := s4.keep D _ h2D nD3
    have b4D : B4 D = none := (s4.fr D _ h2D nD3).trans b2D
    have nD4 : ∀ k, D ∉ F4 k := fun k hk => by
      rcases s4.fn k D hk with ⟨m, hm⟩ | h
      · exact nD3 m hm
      · rw [h2D] at h
        cases h
    have s5 : Step B1 H1 F B4 H4 F4 := (si.trans ((Step.of (F := Fi) g2).sub sb)).trans s4
    have W5 := W4.no j none
    have es : σ3.set j none = wipe σ [j] := by
      rw [← jw σ3]
      exact wipe_same hl hk (fun k hk => hk)
    rw [es] at W5
    refine ⟨xs, h4D, ?_, B4, xs ++ [v], ds ++ [d], δ4.set j .no, (fun k => if k = j then [] else F4 k), ?_, (sm.trans g2.bb).trans s4.bb, ?_, hJ4, upd_same, b4D, fun k hk => ?_, (((r.mono g2.bb).mono s4.bb)).append (.cons r4 .nil), by rw [List.length_append, hdl]; rfl, fun k d' hk => ?_⟩
    · have h1 := r.length
      have : xs.length < 1000000 := by omega
      exact Nat.lt_of_lt_of_le this (sz_of (Nat.le_refl _))
    · have s6 := s5.sub (F2 := fun k => if k = j then [] else F4 k) cut_sub
      have nH : H1 D = none := hD
      refine ⟨s6.bb, fun b o hb' hn => ?_, s6.fr, fun b o hb' => ?_, s6.fn⟩
      · rw [upd_ne (ne_of_none hb' nH)]
        exact s6.keep b o hb' hn
      · rw [upd_ne (ne_of_none hb' nH)]
        exact s6.there b o hb'
    · refine ⟨fun b o e => ?_, W5.len, fun k s e => ?_, W5.out, W5.dis, fun k a ha => ?_⟩
      · have : b ≠ D := fun z => by rw [z, b4D] at e; cases e
        rw [upd_ne this]
        exact W5.bh b o e
      · obtain ⟨o, a1, a2⟩ := W5.sl k s e
        refine ⟨o, a1, a2.loc (Same.refl _) fun a ha => ?_⟩
        rw [upd_ne]
        intro z
        obtain ⟨m, hm⟩ := cut_sub (F := F4) (i := j) k a ha
        rw [z] at hm
        exact nD4 m hm
      · obtain ⟨a1, o, a2⟩ := W5.own k a ha
        refine ⟨a1, o, ?_⟩
        rw [upd_ne]
        · exact a2
        intro z
        obtain ⟨m, hm⟩ := cut_sub (F := F4) (i := j) k a ha
        rw [z] at hm
        exact nD4 m hm
    · obtain ⟨m, hm⟩ := cut_sub (F := F4) (i := j) k D hk
      exact nD4 m hm
    · by_cases hki : k < ds.length
      · rw [List.getElem?_append_left hki] at hk
        exact hpd k d' hk
      · rw [List.getElem?_append_right (by omega)] at hk
        have : k - ds.length = 0 := by
          have := (List.getElem?_eq_some_iff.mp hk).1
          simp at this
          omega
        rw [this] at hk
        have : d = d' := by simpa using hk
        subst this
        have : k = i := by omega
        rw [this]
        exact hpv
  · have e : i = l.length := by omega
    subst e
    refine .inl ⟨by have := wk.stop H' (sm.trans Wi.bh); rw [List.length_map] at this; exact this, ?_⟩
    have hno := hlen _ _ hJ
    have ll : δi.length = σ.length := by rw [Wi.len, wipe_length]
    have W6 : Wf K Bi H' σ δi Fi := by
      refine Wi.wk ll rfl (fun k s hk => ?_) Wi.out
      by_cases ek : k = j
      · subst ek
        rw [hno] at hk
        cases hk
        left
        obtain ⟨o, _, a2⟩ := Wi.sl k _ hno
        refine ⟨?_, rfl⟩
        cases o <;> exact a2
      · right
        refine ⟨rfl, hk, ?_⟩
        rw [jw, List.getElem?_set_ne (Ne.symm ek)]
    have g7 : Grow Bi H' (upd Bi D (.lst xs)) H' → False ∨ True := fun _ => .inr trivial
    have sbb : Same Bi (upd Bi D (.lst xs)) := same_upd hb
    have W7 : Wf K (upd Bi D (.lst xs)) H' σ δi Fi := by
      refine ⟨fun b o e => ?_, W6.len, fun k s e => ?_, W6.out, W6.dis, fun k a ha => ?_⟩
      · by_cases z : b = D
        · rw [z, upd_same] at e
          cases e
          rw [z]
          exact hx
        · rw [upd_ne z] at e
          exact W6.bh b o e
      · obtain ⟨o, a1, a2⟩ := W6.sl k s e
        exact ⟨o, a1, a2.loc sbb fun _ _ => rfl⟩
      · obtain ⟨a1, a2⟩ := W6.own k a ha
        refine ⟨?_, a2⟩
        rw [upd_ne (show a ≠ D from fun z => hD2 k (by rw [← z]; exact ha))]
        exact a1
    have nH : H D = none := g1.hh.free hD
    have nH1 : H1 D = none := hD
    refine q (.ref D) (.list ds) δi (upd Bi D (.lst xs)) H' Fi ((Step.of (F := F) g1).trans ⟨si.bb.trans sbb, si.keep, fun b o e hn => ?_, si.there, si.fn⟩) W7 ⟨ds, rfl, hdl, hpd, hJ⟩ (.lst upd_same (r.mono sbb))
    rw [upd_ne (ne_of_none e nH1)]
    exact si.fr b o e hn
theorem xlF {ι : Type} {l : List ι} {f : ι → PyData} {scope : Scope} (j : Nat) {x : Str} (J : Nat → List Slot → Prop) (Pd : Nat → PyData → Prop) (hN : X.N.Nodup) (hi : XI X (.Name x p) δ iter (l.map f)) (hjl : j < δ.length) (hz : l.length ≤ 1000000) (h0 : J 0 (δ.set j .no)) (hlen : ∀ i δ', J i δ' → δ'[j]? = some .no)
    (he : Blk X scope fun Y => ∀ i y δ', l[i]? = some y → J i δ' → XF Y (δ'.set j (.dat (f y))) elt (fun d δ2 => Pd i d ∧ J (i + 1) (δ2.set j .no)))
    (ok : BlkOk X.N X.env.scope scope [(x, j)] := by exact blkOk_by (by kernel_rfl)) (hj : X.N[j]? = some x := by rfl) (hx : Blk X scope fun Y => Loc Y.env.scope x := by first | exact fun _ _ _ _ _ => Or.inl rfl | exact fun _ _ _ _ _ => Or.inr rfl) (hf : Blk X scope fun Y => Y.fn x = true ∨ Y.env.scope.names.lookup x = some .local := by first | exact fun _ _ _ _ _ => Or.inr rfl | exact fun _ _ _ _ _ => Or.inl rfl)
    (hc : X.calm = true := by rfl) (hs : ∀ x, foldedSetIterable iter X.env x = pure x := by intro _; rfl) : XLF X δ (.ListComp elt [⟨.Name x p, iter, [], 0⟩] scope pos) (fun d δ2 => ∃ ds, d = .list ds ∧ ds.length = l.length ∧ (∀ i d, ds[i]? = some d → Pd i d) ∧ J l.length δ2) := by
  have hG : Blk X scope fun Y => PG Y (.Name x p) (fun v σ H Q => ∃ z : {z : ι × List Slot // z.1 ∈ l}, tG X.K [j] (f z.1.1) z.1.2 (z.1.2.set j (.dat (f z.1.1))) v σ H Q) := fun s H C cl fp => pg_ex fun z : {z : ι × List Slot // z.1 ∈ l} => xg_name j hN hj (hx s H C cl fp) (hf s H C cl fp)
  have hE : Blk X scope fun Y => PE Y elt (fun σ H Q => ∃ z : {z : Nat × ι × List Slot // l[z.1]? = some z.2.1 ∧ J z.1 z.2.2}, tE X.K (z.1.2.2.set j (.dat (f z.1.2.1))) (fun d δ2 => Pd z.1.1 d ∧ J (z.1.1 + 1) (δ2.set j .no)) σ H Q) := fun s H C cl fp => pe_ex fun z : {z : Nat × ι × List Slot // l[z.1]? = some z.2.1 ∧ J z.1 z.2.2} => he s H C cl fp z.1.1 z.1.2.1 z.1.2.2 z.2.1 z.2.2
  exact ⟨(pe_lc (own := [(x, j)]) hc hN hi ok hG (fun _ _ _ _ _ => pts_nil) hE hs).weak (lcF_turn J Pd hjl hz h0 hlen (fun _ _ _ q => q) (fun _ _ _ _ q => q) (fun _ _ _ q => q)),
    fun i y py spos _ hy hyl hsw => (ps_setLc (own := [(x, j)]) hc hN hy hyl hsw hi ok hG (fun _ _ _ _ _ => pts_nil) hE hs).weak fun D σ H q => lcF_turn J Pd hjl hz h0 hlen (fun _ _ _ q => q) (fun _ _ _ _ q => q) (fun _ _ _ q => q) σ H _ q⟩
theorem xb_lcF (i : Nat) {y : Str} {py : Pos} (h : XLF X δ e P) (k : ∀ d δ1, P d δ1 → XB X (δ1.set i (.dat d)) rest R) (hN : X.N.Nodup) (hy : X.N[i]? = some y := by rfl) (hyl : X.env.scope.names.lookup y = some .local := by rfl)
    (hsw : swapsWith e (some (.Name y py)) pos.line X.env = pure true := by exact sw_true rfl rfl rfl (by kernel_rfl)) : XB X δ (.Assign [.Name y py] e pos :: rest) R := xb_setF (h.set i hN hy hyl hsw) k
end
end Dl

set_option Elab.async false
set_option linter.all false
set_option maxRecDepth 100000
set_option maxHeartbeats 4000000
/-! The data level: the spring's own steps; its start; the law itself. -/
namespace Dl
open PySem PySem.Spec PyProof.Rows L2
section
variable {X : Cx} {δ δ2 : List Slot} {a b c e tg iter elt : Expr} {pos p0 p1 p2 p3 p4 : Pos} {d d1 d2 : PyData} {rest sts : List Stmt} {R : Post} {P : PyData → List Slot → Prop} {p q : Addr} {cells : List Int} {r c m z : Int} {n : Nat}
theorem Wf.swap {K : PySem.W.Frag} {B H : Hp} {σ : L2.St} {F : Nat → List Addr} {r r' : Res} {i : Nat} (W : Wf K B H σ δ F) (h : δ[i]? = some (.own r)) (w : ∀ v, r.ok B H v (F i) → r'.ok B H v (F i)) : Wf K B H σ (δ.set i (.own r')) F where
  bh := W.bh
  len := by rw [List.length_set]; exact W.len
  sl := fun j s e => by
    by_cases hj : j = i
    · subst hj
      rw [List.getElem?_set_self (List.getElem?_eq_some_iff.mp h).1] at e
      cases e
      obtain ⟨o, h1, h2⟩ := W.sl j _ h
      cases o with
      | none => exact h2.elim
      | some v => exact ⟨_, h1, w v h2⟩
    · rw [List.getElem?_set_ne (Ne.symm hj)] at e
      exact W.sl j s e
  out := fun j hj => W.out j (by rw [List.length_set] at hj; exact hj)
  dis := W.dis
  own := W.own
theorem xb_openS (i : Nat) (h : δ[i]? = some (.own (strmR p q n))) (k : ∀ cells r c m, StB n cells r c m → XB X (δ.set i (.own (strmX p q cells r c m))) sts R) : XB X δ sts R := by
  have := pss_ex (X := X) (e := sts) (t := fun z : {z : List Int × Int × Int × Int // StB n z.1 z.2.1 z.2.2.1 z.2.2.2} => tS X.K (δ.set i (.own (strmX p q z.1.1 z.1.2.1 z.1.2.2.1 z.1.2.2.2))) R) fun z => k _ _ _ _ z.2
  refine PSs.weak this fun D σ H q' => ?_
  obtain ⟨B, F, W, o⟩ := ts_iff.mp q'
  obtain ⟨_, _, ⟨cells, r, c, m, hb, hx⟩, _⟩ := W.strm h
  refine ⟨⟨(cells, r, c, m), hb⟩, ts_iff.mpr ⟨B, F, W.swap h fun v hv => ?_, o⟩⟩
  obtain ⟨c2, r2, cc, m2, _, hx2⟩ := hv
  obtain ⟨_, _, a1, a2⟩ := hx
  obtain ⟨b1, b2, b3, b4⟩ := hx2
  exact ⟨b1, b2, a1, a2⟩
theorem xb_closeS (i n : Nat) (h : δ[i]? = some (.own (strmX p q cells r c m))) (hb : StB n cells r c m) (k : XB X (δ.set i (.own (strmR p q n))) sts R) : XB X δ sts R := PSs.weak k fun D σ H q' => by
  obtain ⟨B, F, W, o⟩ := ts_iff.mp q'
  exact ts_iff.mpr ⟨B, F, W.swap h fun v hv => ⟨cells, r, c, m, hb, hv⟩, o⟩
theorem xb_retS (i n : Nat) (he : XE X δ e d) (h : δ[i]? = some (.own (strmX p q cells r c m))) (hb : StB n cells r c m) (hr : R.rt d (δ.set i (.own (strmR p q n)))) : XB X δ (.Return (some e) pos :: rest) R := xb_cons (ps_ret he) pss_never fun D σ H B F W o =>
  ⟨B, F, W, fun v B2 H2 g r2 => o.rt v d σ _ B2 H2 F (Step.of g) ((W.grow g).swap (r' := strmR p q n) h fun v hv => ⟨cells, r, c, m, hb, hv⟩) hr r2⟩
theorem Wf.sx {K : PySem.W.Frag} {B H : Hp} {σ : L2.St} {F : Nat → List Addr} (W : Wf K B H σ δ F) {i : Nat} (h : δ[i]? = some (.own (strmX p q cells r c m))) : σ[i]? = some (some (.ref p)) ∧ F i = [p, q] ∧ H p = some (.lst [.ref q, .int r, .int c, .int m]) ∧ H q = some (.lst (cells.map V.int)) ∧ B p = none ∧ B q = none ∧ p ≠ q := by
  obtain ⟨o, h1, h2⟩ := W.sl i _ h
  cases o with
  | none => exact h2.elim
  | some v =>
    obtain ⟨hv, hF, hp, hq⟩ := h2
    subst hv
    refine ⟨h1, hF, hp, hq, (W.own i p (by rw [hF]; exact List.mem_cons_self)).1, (W.own i q (by rw [hF]; exact List.mem_cons_of_mem _ List.mem_cons_self)).1, fun e => ?_⟩
    subst e
    rw [hp] at hq
    cases cells with
    | nil => simp at hq
    | cons z zs =>
      have := HO.lst.inj (Option.some.inj hq)
      rw [List.map_cons] at this
      cases (List.cons.inj this).1
/-- the spring is written -/
theorem Wf.sxUpd {K : PySem.W.Frag} {B H H2 : Hp} {σ : L2.St} {F : Nat → List Addr} (W : Wf K B H σ δ F) {i : Nat} {cells2 : List Int} {r2 c2 m2 : Int} (h : δ[i]? = some (.own (strmX p q cells r c m))) (k1 : H2 p = some (.lst [.ref q, .int r2, .int c2, .int m2])) (k2 : H2 q = some (.lst (cells2.map V.int))) (hk : ∀ b, b ≠ p → b ≠ q → H2 b = H b) :
    Wf K B H2 σ (δ.set i (.own (strmX p q cells2 r2 c2 m2))) F ∧ Step B H F B H2 F := by
  obtain ⟨h1, hF, _, _, b1, b2, _⟩ := W.sx h
  have hl : i < δ.length := (List.getElem?_eq_some_iff.mp h).1
  have nF : ∀ j, j ≠ i → ∀ a ∈ F j, a ≠ p ∧ a ≠ q := fun j hj a ha => ⟨fun e => hj (W.dis j i a ha (by rw [hF, e]; exact List.mem_cons_self)), fun e => hj (W.dis j i a ha (by rw [hF, e]; exact List.mem_cons_of_mem _ List.mem_cons_self))⟩
  refine ⟨⟨fun b o e => ?_, by rw [List.length_set]; exact W.len, fun j s e => ?_, fun j hj => W.out j (by rw [List.length_set] at hj; exact hj), W.dis, fun j a ha => ?_⟩, ⟨Same.refl B, fun b o e hn => ?_, fun _ _ _ _ => rfl, fun b o e => ?_, fun j b hb => .inl ⟨j, hb⟩⟩⟩
  · rw [hk b (fun z => by rw [z, b1] at e; cases e) (fun z => by rw [z, b2] at e; cases e)]
    exact W.bh b o e
  · by_cases hj : j = i
    · subst hj
      rw [List.getElem?_set_self hl] at e
      cases e
      exact ⟨_, h1, rfl, hF, k1, k2⟩
    · rw [List.getElem?_set_ne (Ne.symm hj)] at e
      obtain ⟨o, a1, a2⟩ := W.sl j s e
      exact ⟨o, a1, a2.loc (Same.refl B) fun a ha => hk a (nF j hj a ha).1 (nF j hj a ha).2⟩
  · obtain ⟨a1, o, a2⟩ := W.own j a ha
    refine ⟨a1, ?_⟩
    by_cases e1 : a = p
    · rw [e1]; exact ⟨_, k1⟩
    · by_cases e2 : a = q
      · rw [e2]; exact ⟨_, k2⟩
      · rw [hk a e1 e2]; exact ⟨o, a2⟩
  · rw [hk b (fun z => hn i (by rw [hF, z]; exact List.mem_cons_self)) (fun z => hn i (by rw [hF, z]; exact List.mem_cons_of_mem _ List.mem_cons_self))]
    exact e
  · by_cases e1 : b = p
    · rw [e1]; exact ⟨_, k1⟩
    · by_cases e2 : b = q
      · rw [e2]; exact ⟨_, k2⟩
      · rw [hk b e1 e2]; exact ⟨o, e⟩
def sxAt (r c m : Int) : Nat → Int
  | 1 => r
  | 2 => c
  | _ => m
theorem xe_st (i k : Nat) {x : Str} {jj} (h : δ[i]? = some (.own (strmX p q cells r c m))) (hk : k = 1 ∨ k = 2 ∨ k = 3) (hi : X.N[i]? = some x := by rfl) (hv : Vis X.env.scope x := by first | exact Or.inl rfl | exact Or.inr (Or.inl rfl) | exact Or.inr (Or.inr rfl)) (hd : (x == ("__debug__" : Str)) = false := by decide) (hcd : (x == ("__classdict__" : Str)) = false := by decide) :
    XE X δ (.Subscript (.Name x p1) (.Constant (.int (k : Nat)) jj p2) pos) (.int (sxAt r c m k)) :=
  (pe_ix ix_list (pe_var (i := i) hi hv hd hcd) pe_int (fun _ _ => rfl)).weak fun σ H Q ⟨B, F, W, q'⟩ => by
    obtain ⟨h1, _, h3, _⟩ := W.sx h
    refine ⟨.ref p, h1, p, _, (k : Int), .int (sxAt r c m k), rfl, rfl, SqL.of h3, ?_, q' _ B H (Grow.refl W.bh) (.int _)⟩
    rcases hk with rfl | rfl | rfl
    · exact atI_nat (j := 1) rfl
    · exact atI_nat (j := 2) rfl
    · exact atI_nat (j := 3) rfl
def sxSet (r c m z : Int) : Nat → Int × Int × Int
  | 1 => (z, c, m)
  | 2 => (r, z, m)
  | _ => (r, c, z)
theorem xb_stSet (i k : Nat) {x : Str} {jj} (h : δ[i]? = some (.own (strmX p q cells r c m))) (hk : k = 1 ∨ k = 2 ∨ k = 3) (he : XE X δ e (.int z)) (kk : XB X (δ.set i (.own (strmX p q cells (sxSet r c m z k).1 (sxSet r c m z k).2.1 (sxSet r c m z k).2.2))) rest R) (hi : X.N[i]? = some x := by rfl) (hv : Vis X.env.scope x := by first | exact Or.inl rfl | exact Or.inr (Or.inl rfl) | exact Or.inr (Or.inr rfl)) (hd : (x == ("__debug__" : Str)) = false := by decide) (hcd : (x == ("__classdict__" : Str)) = false := by decide)
    (hs : swapsWithSole [.Subscript (.Name x p1) (.Constant (.int (k : Nat)) jj p2) p3] e pos.line X.env = pure false := by rfl) (hw : swappedStores [.Subscript (.Name x p1) (.Constant (.int (k : Nat)) jj p2) p3] e X.env = pure none := by rfl)
    (h1 : (assignEach [.Subscript (.Name x p1) (.Constant (.int (k : Nat)) jj p2) p3] X.env).map (·.2) = [assign (.Subscript (.Name x p1) (.Constant (.int (k : Nat)) jj p2) p3) X.env] := by rfl) : XB X δ (.Assign [.Subscript (.Name x p1) (.Constant (.int (k : Nat)) jj p2) p3] e pos :: rest) R :=
  xb_cons (ps_asg he (pg_sub (pe_var (i := i) hi hv hd hcd) pe_int set_list) hs hw h1) kk fun D σ H B F W o => ⟨B, F, W, fun v B2 H2 g rr => by
    cases rr
    have W2 := W.grow g
    obtain ⟨h1, _, h3, h4, _, _, ne⟩ := W2.sx h
    refine ⟨.ref p, h1, p, _, (k : Int), k, rfl, rfl, h3, ?_, ?_⟩
    · rcases hk with rfl | rfl | rfl <;> rfl
    · obtain ⟨W3, s3⟩ := W2.sxUpd (H2 := upd H2 p (.lst ([V.ref q, V.int r, V.int c, V.int m].set k (.int z)))) (cells2 := cells) (r2 := (sxSet r c m z k).1) (c2 := (sxSet r c m z k).2.1) (m2 := (sxSet r c m z k).2.2) h (by
        rw [upd_same]
        rcases hk with rfl | rfl | rfl <;> rfl) (by rw [upd_ne (Ne.symm ne)]; exact h4) (fun b hb _ => upd_ne hb)
      exact ts_iff.mpr ⟨B2, F, W3, o.step ((Step.of g).trans s3)⟩⟩
theorem dp_ints {K : PySem.W.Frag} {H : Hp} {q : Addr} (h : H q = some (.lst (cells.map V.int))) : Dp K H (.ref q) (.list (cells.map .int)) := .lst (SqL.of h) ((RpA.ints cells).dp (lay_map _ (fun _ => by simp [PyData.canLay0]) cells))
theorem shaped_ints (l : List Int) : SeqAt.shaped (.list (l.map .int)) = true := by
  unfold SeqAt.shaped
  have h1 : PyData.canLay0 (.list (l.map .int)) = true := by
    simp only [PyData.canLay0]
    exact lay_map _ (fun _ => by simp [PyData.canLay0]) l
  have h2 := depth_map PyData.int 0 (fun _ => by simp [PyData.depth]) l
  have h3 : PyData.depth (.list (l.map .int)) = PyData.depthAll (l.map .int) + 1 := by simp only [PyData.depth]
  rw [h1, h3, Bool.true_and, decide_eq_true_eq]
  omega
/-- stream[0] != [] -/
theorem xt_stNe (i : Nat) {x : Str} {jj} (hu : X.A.units + 65 < cLine) (h : δ[i]? = some (.own (strmX p q cells r c m))) (hi : X.N[i]? = some x := by rfl) (hv : Vis X.env.scope x := by first | exact Or.inl rfl | exact Or.inr (Or.inl rfl) | exact Or.inr (Or.inr rfl)) (hd : (x == ("__debug__" : Str)) = false := by decide) (hcd : (x == ("__classdict__" : Str)) = false := by decide) :
    XT X δ (.Compare (.Subscript (.Name x p1) (.Constant (.int 0) jj p2) p3) [.NotEq] [.List [] p4] pos) (!cells.isEmpty) :=
  (pt_cmpR (op_neD (by omega)) (pe_ix ix_list (pe_var (i := i) hi hv hd hcd) pe_int (fun _ _ => rfl)) (xn_lst (δ := δ) xa_nil) (nomark _)).weak fun σ H Q ⟨B, F, W, q'⟩ => by
    obtain ⟨h1, _, h3, h4, _⟩ := W.sx h
    refine ⟨.ref p, h1, p, _, 0, .ref q, rfl, rfl, SqL.of h3, atI_hd _ _, B, F, W, fun l xs B2 H2 g hl hb h2 rr => ?_⟩
    refine ⟨.list (cells.map .int), .list [], dp_ints (g.hh _ _ h4), .lst (SqL.of h2) (by cases rr; exact .nil), shaped_ints _, shaped_ints [], !PyData.eqv (.list (cells.map .int)) (.list []), rfl, ?_⟩
    have e : PyData.eqv (.list (cells.map .int)) (.list []) = cells.isEmpty := by
      cases cells <;> simp [PyData.eqv, PyData.eqvAll]
    rw [e]
    exact q' B2 H2 g
/-- cell = stream[0].pop(0) -/
theorem xf_stPop (i : Nat) {x : Str} {jj j2} {zs : List Int} (h : δ[i]? = some (.own (strmX p q (z :: zs) r c m))) (hi : X.N[i]? = some x := by rfl) (hv : Vis X.env.scope x := by first | exact Or.inl rfl | exact Or.inr (Or.inl rfl) | exact Or.inr (Or.inr rfl)) (hd : (x == ("__debug__" : Str)) = false := by decide) (hcd : (x == ("__classdict__" : Str)) = false := by decide)
    {p5 : Pos} (hbase : attributeBase (.Subscript (.Name x p1) (.Constant (.int 0) jj p2) p3) "pop" X.env (eval (.Subscript (.Name x p1) (.Constant (.int 0) jj p2) p3) X.env) = eval (.Subscript (.Name x p1) (.Constant (.int 0) jj p2) p3) X.env := by rfl)
    (hfew : ((backTo pos (starEach [.Constant (.int 0) j2 p5] X.env)).all (fun x => !x.1) && (backToKw pos (keywordEach [] X.env)).all (fun x => x.1.isSome) && decide ([(.Constant (.int 0) j2 p5 : Expr)].length + ([] : List Keyword).length + (if ([] : List Keyword).isEmpty then 0 else 1) < 30)) = true := by rfl)
    (hline : (p4.endLine == pos.line) = true := by rfl) (hs : starEach [.Constant (.int 0) j2 p5] X.env = (false, eval (.Constant (.int 0) j2 p5) X.env) :: starEach [] X.env := by rfl) (hplain : (backTo pos (starEach [] X.env)).any (·.1) = false := by rfl) :
    XF X δ (.Call (.Attribute (.Subscript (.Name x p1) (.Constant (.int 0) jj p2) p3) "pop" p4) [.Constant (.int 0) j2 p5] [] pos) (fun d δ2 => d = .int z ∧ δ2 = δ.set i (.own (strmX p q zs r c m))) :=
  (pe_bm PySem.F.plainAttrs_list PySem.F.slot_list_pop PySem.F.type_list_pop mt_popAt (pe_ix ix_list (pe_var (i := i) hi hv hd hcd) pe_int (fun _ _ => rfl)) (pa_cons pe_int pa_nil hs) hbase hfew hline hs hplain).weak fun σ H Q ⟨B, F, W, q'⟩ => by
    obtain ⟨h1, _, h3, h4, _, _, ne⟩ := W.sx h
    refine ⟨.ref p, h1, p, _, 0, .ref q, rfl, rfl, SqL.of h3, atI_hd _ _, .inl ⟨rfl, _, SqL.of h4⟩, ?_⟩
    refine ⟨q, _, 0, 0, .int z, rfl, rfl, h4, by decide, by decide, ?_, rfl, ?_⟩
    · rw [List.length_map, List.length_cons]
      have : seqIndex? 0 (zs.length + 1) = some 0 := by
        have := PySem.StrLaws.seqIndex_nonneg (i := 0) (n := zs.length + 1) (by decide) (by omega)
        exact this
      exact this
    · obtain ⟨W3, s3⟩ := W.sxUpd (H2 := upd H q (.lst (((z :: zs).map V.int).eraseIdx 0))) (cells2 := zs) (r2 := r) (c2 := c) (m2 := m) h (by rw [upd_ne ne]; exact h3) (by rw [upd_same]; rfl) (fun b _ hb => upd_ne hb)
      exact q' _ (.int z) _ B _ F s3 W3 ⟨rfl, rfl⟩ (.int z)
/-! ### the start -/
def scrR (K : PySem.W.Frag) (ns : List Int) : Res where
  ok := fun B _ v fp => ∃ a, v = .ref a ∧ fp = [] ∧ SqL K B a (ns.map V.int)
  loc := fun {B B' H H' v fp} ⟨a, h1, h2, h3⟩ hb _ => ⟨a, h1, h2, hb.seq h3⟩
def SpStart (K : PySem.W.Frag) : Sp := fun vs H Q _ => ∃ (a : Addr) (ns : List Int), vs = [.ref a] ∧ SqL K H a (ns.map V.int) ∧ ∀ p q H2, H p = none → H q = none → p ≠ q → Same H H2 → H2 p = some (.lst [.ref q, .int 0, .int 0, .int 43]) → H2 q = some (.lst (ns.map V.int)) → Q (.ref p) H2
theorem xb_start (i j : Nat) {k : Nat} {f x y : Str} {ps : List Str} {ns : List Int} (G : Def X.prog X.w X.K X.mg X.base k f ps (SpStart X.K)) (hr : Room k X.A) (hj : δ[j]? = some (.own (scrR X.K ns))) (hl : ns.length ≤ 63) (hil : i < δ.length) (kk : ∀ p q, XB X (δ.set i (.own (strmR p q 0))) rest R) (hNd : X.N.Nodup)
    (hNj : X.N[j]? = some y := by rfl) (hvj : Vis X.env.scope y := by first | exact Or.inl rfl | exact Or.inr (Or.inl rfl) | exact Or.inr (Or.inr rfl)) (hdj : (y == ("__debug__" : Str)) = false := by decide) (hcj : (y == ("__classdict__" : Str)) = false := by decide) (hN : X.N[i]? = some x := by rfl) (hx : Loc X.env.scope x := by first | exact Or.inl rfl | exact Or.inr rfl)
    (hs : swapsWith (.Call (.Name f p1) [.Name y p2] [] p3) (some (.Name x p0)) pos.line X.env = pure false := by rfl) (hf : X.fn x = true ∨ X.env.scope.names.lookup x = some .local := by first | exact .inl rfl | exact .inr rfl | assumption)
    (hg : Gl X f := by rfl) (hdb : (f == ("__debug__" : Str)) = false := by decide) (he : starEach [.Name y p2] X.env = (false, eval (.Name y p2) X.env) :: starEach [] X.env := by rfl) (hpl : (backTo p3 (starEach [] X.env)).any (·.1) = false := by rfl) : XB X δ (.Assign [.Name x p0] (.Call (.Name f p1) [.Name y p2] [] p3) pos :: rest) R := by
  obtain ⟨fa, fd, h1, h2, h3, h4⟩ := G.ex
  refine xb_cons (ps_set hNd hN hx (pe_call h4 hr hg h1 h2 h3 .nil pass0 (pa_cons (pe_var (i := j) hNj hvj hdj hcj) pa_nil he) hdb he hpl) hs hf) (pss_ex fun z : Addr × Addr => kk z.1 z.2) fun D σ H B F W o => ?_
  obtain ⟨ov, a1, a2⟩ := W.sl j _ hj
  cases ov with
  | none => exact a2.elim
  | some v =>
    obtain ⟨a, rfl, hF, hS⟩ := a2
    refine ⟨.ref a, a1, ?_⟩
    show ∃ (a : Addr) (ns : List Int), _
    refine ⟨a, ns, rfl, W.bh.seq hS, fun p q H2 hp hq ne sm k1 k2 => ⟨(p, q), ?_⟩⟩
    have g : Grow B H B H2 := ⟨Same.refl B, W.bh.trans sm, sm, fun _ _ _ => rfl⟩
    have W2 := W.grow g
    have nF : ∀ b, H b = none → ∀ k, b ∉ F k := fun b hb k hk => by
      obtain ⟨_, u, hu⟩ := W.own k b hk
      rw [hb] at hu
      cases hu
    refine ts_iff.mpr ⟨B, _, W2.putO (r := strmR p q 0) (fp := [p, q]) hil ⟨ns, 0, 0, 43, ⟨hl, by decide, by decide, by decide, by decide, by decide⟩, rfl, rfl, k1, k2⟩ (fun b hb => ?_), o.step ⟨g.bb, fun b o e _ => g.hh b o e, fun b o e _ => rfl, fun b o e => ⟨o, g.hh b o e⟩, fun k b hb => ?_⟩⟩
    · rcases List.mem_cons.mp hb with e | e
      · rw [e]; exact ⟨⟨W.bh.free hp, _, k1⟩, fun k _ => nF p hp k⟩
      · rw [List.mem_singleton.mp e]; exact ⟨⟨W.bh.free hq, _, k2⟩, fun k _ => nF q hq k⟩
    · by_cases hk : k = i
      · rw [if_pos hk] at hb
        right
        rcases List.mem_cons.mp hb with e | e
        · rw [e]; exact hp
        · rw [List.mem_singleton.mp e]; exact hq
      · rw [if_neg hk] at hb
        exact .inl ⟨k, hb⟩
end
/-! ### the law -/
def SpLaw (K : PySem.W.Frag) : Sp := fun vs H Q _ => ∃ (a : Addr) (ns : List Int), vs = [.ref a] ∧ SqL K H a (ns.map V.int) ∧ ns.length ≤ 63 ∧ ∀ H', Q (.bl true) H'
section
variable {P : Program} {w : World} {K : PySem.W.Frag} {mg : Str → Option Value} {base : Heap}
theorem fn_law {x : Str} {st : Stmt} {N ps : List Str} {k : Nat} {fa : Addr} {fd : FuncData} (Fu : Fun K x x st fa fd) (S : FnScope N ps (defScope st)) (len : ps.length = 1) (hN : 1 ≤ N.length)
    (body : ∀ (X : Cx), (∃ (fa : Addr) (cdv : Value) (A : Around) (outer : List Env) (s : Shared) (H : Hp) (E : XK), Room k (A.deeper (envOfC x (defScope st) s.heap.objs.size fa cdv)) ∧ X = (cxOf CX0 P w K mg base N x (defScope st) fa cdv A outer s H E).nox) → ∀ ns : List Int, ns.length ≤ 63 → XB X (startD N [.own (scrR K ns)]) (defBody st) { rt := fun d _ => d = .bool true }) :
    FnOk P w K mg base CX0 (k + 1) fa fd ps (SpLaw K) := by
  refine Fu.ok S (fun vs H Q E h => ?_) (fun cdv A outer s H vs Q E hr h => ?_)
  · obtain ⟨a, ns, rfl, _⟩ := h
    exact len.symm
  · obtain ⟨a, ns, rfl, hS, hl, q⟩ := h
    refine ⟨_, body _ ⟨fa, cdv, A, outer, s, H, E, hr, rfl⟩ ns hl, ?_⟩
    have W : Wf K H H (L2.start N [.ref a]) (startD N [.own (scrR K ns)]) (fun _ => []) := by
      refine ⟨Same.refl H, ?_, fun i t e => ?_, fun _ _ => rfl, fun i j a h _ => (nomatch h), fun i a h => (nomatch h)⟩
      · unfold L2.start startD
        simp only [List.length_append, List.length_map, List.length_replicate, List.length_cons, List.length_nil]
      · cases i with
        | zero =>
          have e : some (Slot.own (scrR K ns)) = some t := e
          cases e
          exact ⟨some (.ref a), rfl, a, rfl, rfl, hS⟩
        | succ i =>
          have e : (List.replicate (N.length - 1) Slot.no)[i]? = some t := e
          rw [List.getElem?_replicate] at e
          split at e
          · rename_i hi
            cases e
            refine ⟨none, ?_, rfl⟩
            show (List.replicate (N.length - 1) none)[i]? = _
            rw [List.getElem?_replicate, if_pos hi]
          · cases e
    refine ts_iff.mpr ⟨H, _, W, fun _ _ _ _ _ _ _ h => h.elim, ?_, fun _ _ _ _ _ _ _ h => h.elim, fun _ _ _ _ _ _ _ h => h.elim, fun _ _ _ _ _ _ _ _ h => h.elim, trivial⟩
    intro v d σ2 δ2 B2 H2 F2 s2 W2 e r2
    have e : d = .bool true := e
    subst e
    cases r2
    exact q H2
end
end Dl

set_option Elab.async false
set_option linter.all false
set_option maxRecDepth 100000
set_option maxHeartbeats 4000000
/-! The data level: zip of what is alike; trees without dicts. -/
namespace Dl
open PySem PySem.Spec PyProof.Rows L2
section
variable {X : Cx} {δ : List Slot} {a b c e tg iter : Expr} {pos p : Pos} {ds ds2 : List PyData} {es : List Expr} {d d1 d2 : PyData}
theorem wk_zipT {K : PySem.W.Frag} {B : Hp} {a b : Addr} {xs ys : List V} (h : SqT K B a xs) (r : RpA K B xs ds) (h' : SqT K B b ys) (r' : RpA K B ys ds2) : Wk K (RZ.ItzT K a b) B (zipD ds ds2) where
  go := fun i H s hi => by
    rw [zipD_length] at hi
    have hx : i < xs.length := by rw [r.length]; omega
    have hy : i < ys.length := by rw [r'.length]; omega
    exact ⟨xs, ys, xs[i], ys[i], same_t s h, same_t s h', List.getElem?_eq_getElem hx, List.getElem?_eq_getElem hy⟩
  yld := fun i B1 H x H2 s1 s2 hy d hd => by
    obtain ⟨T, y, z, rfl, hT, rfl, hv, hw⟩ := hy
    obtain ⟨d1, h1, h2⟩ := r.get (hv xs (same_t s2 (same_t s1 h)))
    obtain ⟨d2, h3, h4⟩ := r'.get (hw ys (same_t s2 (same_t s1 h')))
    obtain ⟨u, w, h5, h6, rfl⟩ := zipD_get hd
    rw [h5] at h1
    rw [h6] at h3
    cases h1
    cases h3
    have g := Grow.new (o := .tup [y, z]) s2 hT
    exact ⟨_, g, .tup (.inl (.inl upd_same)) (.cons ((h2.mono s1).mono g.bb) (.cons ((h4.mono s1).mono g.bb) .nil))⟩
  stop := fun H s => ⟨xs, ys, same_t s h, same_t s h', by rw [zipD_length, r.length, r'.length]; omega⟩
theorem xi_zipA {elts : List Expr} {kk : Nat} {tpos : Pos} (hm : X.mg "zip" = none) (ha : XE X δ a d1) (hb : XE X δ b d2) (h1 : SeqD d1 ds) (h2 : SeqD d2 ds2) (hk : isListD d1 = isListD d2) (hg : Gl X "zip" := by rfl)
    (hs : starEach [a, b] X.env = (false, eval a X.env) :: starEach [b] X.env := by rfl) (hs2 : starEach [b] X.env = (false, eval b X.env) :: starEach [] X.env := by rfl) (hpl : (backTo pos (starEach [b] X.env)).any (·.1) = false := by rfl) :
    XI X (.Tuple elts kk tpos) δ (.Call (.Name "zip" p) [a, b] [] pos) (zipD ds ds2) :=
  (RZ.pi_zipA hg hm (xa_cons ha (xa_cons hb xa_nil hs2) hs) hs hpl).weak fun σ H R ⟨B, F, W, q⟩ => ⟨B, F, W, fun vs B2 H2 g r => by
    cases r with
    | cons r1 r2 =>
      cases r2 with
      | cons r3 r4 =>
        cases r4
        cases h1 with
        | lst =>
          cases h2 with
          | lst =>
            cases r1 with
            | @lst a xs _ h1 r1 =>
              cases r3 with
              | @lst b ys _ h3 r3 => exact ⟨a, b, xs, ys, rfl, .inl ⟨SqL.of (g.bh _ _ h1), SqL.of (g.bh _ _ h3), q _ B2 H2 g (wk_zip h1 r1 h3 r3)⟩⟩
          | tup => cases hk
        | tup =>
          cases h2 with
          | lst => cases hk
          | tup =>
            cases r1 with
            | @tup a xs _ h1 r1 =>
              cases r3 with
              | @tup b ys _ h3 r3 => exact ⟨a, b, xs, ys, rfl, .inr ⟨same_t g.bh h1, same_t g.bh h3, q _ B2 H2 g (wk_zipT h1 r1 h3 r3)⟩⟩⟩
theorem xg_lst {k : Nat} {is : List Nat} {δ2 : List Slot} (hc : X.calm = true) (h : XGs X es is ds δ δ2) (hl : ds.length = es.length) (hn : (assignEach es X.env).length = es.length := by rfl) (hst : (assignEach es X.env).findIdx? (·.1) = none := by rfl) : XG X (.Tuple es k pos) is (.list ds) δ δ2 :=
  (pg_lst hc h hn hst).weak fun v σ H Q ⟨B, F, W, r, q⟩ => by
    cases r with
    | @lst a xs _ h1 r1 => exact ⟨a, xs, rfl, SqL.of (W.bh _ _ h1), by rw [r1.length, hl], B, F, W, r1, q⟩
theorem zipD_self : ∀ l : List PyData, zipD l l = l.map fun y => .tuple [y, y]
  | [] => rfl
  | a :: l => by
    have := zipD_self l
    unfold zipD at this ⊢
    rw [List.zip_cons_cons, List.map_cons, this]
    rfl
end
/-- data without dicts, of a depth -/
inductive Tree : Nat → PyData → Prop
  | non (m : Nat) : Tree m .none
  | bl (m : Nat) (b : Bool) : Tree m (.bool b)
  | int (m : Nat) (i : Int) : Tree m (.int i)
  | str (m : Nat) (x : Str) : Tree m (.str x)
  | lst {m : Nat} {l : List PyData} (hz : l.length ≤ 1000000) (h : ∀ y ∈ l, Tree m y) : Tree (m + 1) (.list l)
  | tup {m : Nat} {l : List PyData} (hz : l.length ≤ 1000000) (h : ∀ y ∈ l, Tree m y) : Tree (m + 1) (.tuple l)
def F_copied (m : Nat) (ds : List PyData) (d : PyData) : Prop := ∃ x, ds = [x] ∧ Tree m x ∧ d = x
def F_same (m : Nat) (ds : List PyData) (d : PyData) : Prop := ∃ x, ds = [x, x] ∧ Tree m x ∧ d = .bool true
theorem map_id' {ι : Type} (l : List ι) : (l.map fun d => d) = l := List.map_id' _
theorem Tree.bools (m : Nat) (l : List Bool) (hz : l.length ≤ 1000000) : Tree (m + 1) (.list (l.map .bool)) := .lst (by rw [List.length_map]; exact hz) fun y hy => by
  obtain ⟨b, _, rfl⟩ := List.mem_map.mp hy
  exact .bl m b
theorem Tree.boolsT (m : Nat) (l : List Bool) (hz : l.length ≤ 1000000) : Tree (m + 1) (.tuple (l.map .bool)) := .tup (by rw [List.length_map]; exact hz) fun y hy => by
  obtain ⟨b, _, rfl⟩ := List.mem_map.mp hy
  exact .bl m b
end Dl

set_option Elab.async false
set_option linter.all false
set_option maxRecDepth 100000
set_option maxHeartbeats 4000000
/-! The data level: sorted(dict(pairs)) of ints. -/
namespace Dl
open PySem PySem.Spec PyProof.Rows L2
theorem putK_old (kvs : List (Key × V)) (k : Key) (v : V) (h : k ∈ kvs.map (·.1)) : (putK kvs k v).map (·.1) = kvs.map (·.1) := by
  unfold putK
  rw [if_pos (by
      obtain ⟨x, hx, e⟩ := List.mem_map.mp h
      exact List.any_eq_true.mpr ⟨x, hx, decide_eq_true e⟩), List.map_map]
  refine List.map_congr_left fun x _ => ?_
  show (if x.1 = k then (x.1, v) else x).1 = x.1
  split <;> rfl
theorem putK_fresh (kvs : List (Key × V)) (k : Key) (v : V) (h : k ∉ kvs.map (·.1)) : (putK kvs k v).map (·.1) = kvs.map (·.1) ++ [k] := by
  unfold putK
  rw [if_neg (by
      intro hh
      obtain ⟨x, hx, e⟩ := List.any_eq_true.mp hh
      exact h (List.mem_map.mpr ⟨x, hx, of_decide_eq_true e⟩)), List.map_append]
  rfl
theorem mergeK_keys (v : V) : ∀ (ns : List Int) (kvs : List (Key × V)) (ks : List Int), kvs.map (·.1) = ks.map Sum.inl → ks.Nodup → ∃ ks2 : List Int, (mergeK kvs (ns.map fun n => (Sum.inl n, v))).map (·.1) = ks2.map Sum.inl ∧ ks2.Nodup ∧ ks2.length ≤ ks.length + ns.length ∧ ∀ n, n ∈ ks2 ↔ n ∈ ks ∨ n ∈ ns
  | [], kvs, ks, e, hn => ⟨ks, e, hn, Nat.le_refl _, fun n => by simp⟩
  | n :: ns, kvs, ks, e, hn => by
    by_cases h : n ∈ ks
    · have e1 := putK_old kvs (Sum.inl n) v (by rw [e]; exact List.mem_map.mpr ⟨n, h, rfl⟩)
      rw [e] at e1
      obtain ⟨ks2, a, b, c, d⟩ := mergeK_keys v ns (putK kvs (Sum.inl n) v) ks e1 hn
      refine ⟨ks2, a, b, by rw [List.length_cons]; omega, fun m => ?_⟩
      rw [d, List.mem_cons]
      constructor
      · rintro (h1 | h1)
        · exact .inl h1
        · exact .inr (.inr h1)
      · rintro (h1 | rfl | h1)
        · exact .inl h1
        · exact .inl h
        · exact .inr h1
    · have e1 := putK_fresh kvs (Sum.inl n) v (by
        rw [e]
        intro z
        obtain ⟨m, hm, em⟩ := List.mem_map.mp z
        cases em
        exact h hm)
      rw [e] at e1
      have e2 : (putK kvs (Sum.inl n) v).map (·.1) = (ks ++ [n]).map Sum.inl := by rw [e1, List.map_append]; rfl
      obtain ⟨ks2, a, b, c, d⟩ := mergeK_keys v ns (putK kvs (Sum.inl n) v) (ks ++ [n]) e2 (by
        rw [List.nodup_append]
        refine ⟨hn, List.nodup_cons.mpr ⟨by simp, List.nodup_nil⟩, fun x hx y hy => ?_⟩
        rw [List.mem_singleton.mp hy]
        exact fun z => h (by rw [← z]; exact hx))
      refine ⟨ks2, a, b, by rw [List.length_append] at c; rw [List.length_cons]; simp at c; omega, fun m => ?_⟩
      rw [d, List.mem_append, List.mem_singleton, List.mem_cons, or_assoc]
theorem paired_mono {α β : Type} {F G : α → β → Prop} (h : ∀ a b, F a b → G a b) : ∀ {l : List α} {r : List β}, Paired F l r → Paired G l r
  | _, _, .nil => .nil
  | _, _, .cons x y => .cons (h _ _ x) (paired_mono h y)
theorem pairs_rp {K : PySem.W.Frag} {H : Hp} {z : Int} : ∀ {ns : List Int} {vs : List V}, RpA K H vs (ns.map fun n => PyData.tuple [.int n, .int z]) → ∃ ps : List Addr, vs = ps.map V.ref ∧ Paired (fun p (kv : Key × V) => SqT K H p [kV kv.1, kv.2]) ps (ns.map fun n => (Sum.inl n, V.int z))
  | [], _, .nil => ⟨[], rfl, .nil⟩
  | n :: ns, _, .cons (.tup (a := a) hs r0) r => by
    obtain ⟨ps, e, hp⟩ := pairs_rp r
    have e0 := RpA.ints_inv (ns := [n, z]) r0
    subst e0
    exact ⟨a :: ps, by rw [e]; rfl, .cons hs hp⟩
section
variable {X : Cx} {δ : List Slot} {a : Expr} {p p1 pos pos1 : Pos}
theorem xn_sortedDict {ns ys : List Int} {z : Int} (hm : X.mg "sorted" = none) (hm2 : X.mg "dict" = none) (he : XE X δ a (.list (ns.map fun n => .tuple [.int n, .int z]))) (hl : ns.length < 64) (h1 : ys.Nodup) (h2 : ys.Pairwise (· ≤ ·)) (h3 : ∀ n, n ∈ ys ↔ n ∈ ns) (hc : X.calm = true := by rfl) (hg : Gl X "sorted" := by rfl) (hg2 : Gl X "dict" := by rfl)
    (hs : starEach [a] X.env = (false, eval a X.env) :: starEach [] X.env := by rfl) (hs2 : starEach [.Call (.Name "dict" p1) [a] [] pos1] X.env = (false, eval (.Call (.Name "dict" p1) [a] [] pos1) X.env) :: starEach [] X.env := by rfl) (hpl : (backTo pos1 (starEach [] X.env)).any (·.1) = false := by rfl) (hpl2 : (backTo pos (starEach [] X.env)).any (·.1) = false := by rfl) :
    XN X δ (.Call (.Name "sorted" p) [.Call (.Name "dict" p1) [a] [] pos1] [] pos) (ys.map .int) :=
  (pe_callB (call_sortedDI hc) hg hm boot_sorted (pa_cons (pe_callTy (call_dictP hc) hg2 hm2 boot_dict (pa_cons he pa_nil hs) (by decide) (by decide) hs hpl) pa_nil hs2) (by decide) (by decide) hs2 hpl2).weak fun σ H Q ⟨B, F, W, q⟩ => ⟨B, F, W, fun v B1 H1 g1 r1 => by
    cases r1 with
    | @lst l xs _ e1 r1 =>
      obtain ⟨ps, rfl, hp⟩ := pairs_rp r1
      obtain ⟨ks2, k1, k2, k3, k4⟩ := mergeK_keys (V.int z) ns [] [] rfl List.nodup_nil
      refine ⟨l, ps, ns.map fun n => (Sum.inl n, V.int z), rfl, SqL.of (g1.bh _ _ e1), ?_, fun d hd => ?_⟩
      · exact paired_mono (fun _ _ h => same_t g1.bh h) hp
      refine ⟨d, _, ks2, rfl, .inl upd_same, k1, by simp at k3; omega, fun ws t hperm hsrt ht => ?_⟩
      have e : ws = ys := by
        have hnd : ws.Nodup := hperm.nodup_iff.mpr k2
        have hpp : ws.Perm ys := (List.perm_ext_iff_of_nodup hnd h1).mpr fun n => by rw [hperm.mem_iff, k4, h3]; simp
        exact hpp.eq_of_pairwise (fun a b _ _ x y => Int.le_antisymm x y) hsrt h2
      subst e
      have g2 : Grow B1 H1 B1 (upd H1 d (.dK (mergeK [] (ns.map fun n => (Sum.inl n, V.int z))))) := Grow.newH g1.bh hd
      have g3 := Grow.newH (o := .lst (ws.map V.int)) g2.bh ht
      have g := (g1.trans g2).trans g3
      have ht1 : H1 t = none := g2.hh.free ht
      exact q t _ B1 _ g (g1.hh.free ht1) (g1.bh.free ht1) upd_same (RpA.ints ws)⟩
end
end Dl

set_option Elab.async false
set_option linter.all false
set_option maxRecDepth 100000
set_option maxHeartbeats 4000000
/-! Functions handed on: a lambda made in one frame, called in frames above it, however deep. -/
namespace Dl
open PySem PySem.Spec PyProof.Rows L2 LamX
/-- from the state (s, H) with the frames fs to the state (s2, H2) with the frames outer: the old frames' cells stand -/
structure Chain (fs : List Addr) (s : Shared) (H : Hp) (outer : List Env) (s2 : Shared) (H2 : Hp) : Prop where
  un : Un fs [] H H2 s.heap s2.heap
  nf : ∀ b ∈ frs outer, b ∈ fs ∨ s.heap.get? b = none
theorem Chain.refl {X : Cx} {s : Shared} {H : Hp} : Chain (frs X.stack) s H X.stack s H := ⟨Un.refl, fun _ hb => .inl hb⟩
theorem un_chain {fs gs : List Addr} {H H1 H2 : Hp} {h h1 h2 : Heap} (a : Un fs [] H H1 h h1) (b : Un gs [] H1 H2 h1 h2) (hn : ∀ x ∈ gs, x ∈ fs ∨ h.get? x = none) : Un fs [] H H2 h h2 where
  keep := fun c ob q n hc hx => b.keep c ob (a.keep c ob q n hc hx) (a.free c ob q n hx) (fun z => by
    rcases hn c z with y | y
    · exact hc y
    · rw [y] at q; cases q) hx
  slot := fun c ob q n hc hx => by
    obtain ⟨sl, e1⟩ := a.slot c ob q n hc hx
    obtain ⟨sl', e2⟩ := b.any e1 (a.free c ob q n hx) hx
    exact ⟨sl', e2⟩
  free := fun c ob q n hx => by
    obtain ⟨o', e1⟩ := a.there c ob q hx
    exact b.free c o' e1 (a.free c ob q n hx) hx
  there := fun c ob q hx => by
    obtain ⟨o', e1⟩ := a.there c ob q hx
    exact b.there c o' e1 hx
  tups := fun c xs q => b.tups c xs (a.tups c xs q)
  frzs := fun c o u q => b.frzs c o u (a.frzs c o u q)
  tbls := fun c ps q => by
    obtain ⟨m1, e1⟩ := a.tbls c ps q
    obtain ⟨m2, e2⟩ := b.tbls c _ e1
    exact ⟨m1 ++ m2, by rw [e2, Array.append_assoc]⟩
/-- the frame Y stands above -/
structure Deep (fs : List Addr) (s : Shared) (H : Hp) (Y : Cx) : Prop where
  ch : Chain fs s H Y.outer Y.s_0 Y.H_0
  ex : Y.ex = []
  st : ∀ b ∈ frs Y.stack, b ∈ frs Y.outer ∨ Y.s_0.heap.get? b = none
section
variable {X Y : Cx} {pins : List (Addr × Obj)} {σ : L2.St} {fs : List Addr} {H H1 H2 : Hp} {s s1 s2 : Shared}
theorem Deep.un (c : Deep fs s H Y) (I : Inv Y pins σ H2 s2) : Un fs [] H H2 s.heap s2.heap := by
  have u := I.base
  rw [c.ex] at u
  exact un_chain c.ch.un u c.ch.nf
/-- further frames above Y -/
theorem Deep.up (c : Deep fs s H Y) (I : Inv Y pins σ H2 s2) : Chain fs s H Y.stack s2 H2 :=
  ⟨c.un I, fun b hb => by
    rcases c.st b hb with e | e
    · exact c.ch.nf b e
    · cases q : s.heap.get? b with
      | none => exact .inr rfl
      | some o =>
        obtain ⟨o', e'⟩ := c.ch.un.there b o q (by simp)
        rw [e] at e'
        cases e'⟩
theorem Deep.tr (c : Deep fs s H Y) (pn : List (Addr × Obj)) (xe : Value → Shared → Prop) : Deep fs s H (Y.tr pn xe) := ⟨c.ch, c.ex, c.st⟩
theorem deep_cx {CX : CXT} {P : Program} {w : World} {K : PySem.W.Frag} {mg : Str → Option Value} {base : Heap} {N : List Str} {qual : Str} {scope : Scope} {f : Addr} {cd : Value} {A : Around} {outer : List Env} {E : XK} (c : Chain fs s H outer s2 H2) : Deep fs s H (cxOf CX P w K mg base N qual scope f cd A outer s2 H2 E) := ⟨c, rfl, fun b hb => by
  unfold frs at hb
  obtain ⟨e, he, q⟩ := List.mem_filterMap.mp hb
  rcases List.mem_cons.mp he with z | z
  · subst z
    right
    have q : some s2.heap.objs.size = some b := q
    cases q
    show s2.heap.get? s2.heap.objs.size = none
    cases h : s2.heap.get? s2.heap.objs.size with
    | none => rfl
    | some o => exact absurd (Heap.lt_size h) (Nat.lt_irrefl _)
  · exact .inl (List.mem_filterMap.mpr ⟨e, z, q⟩)⟩
theorem Deep.nox (c : Deep fs s H Y) : Deep fs s H Y.nox := ⟨c.ch, c.ex, c.st⟩
/-- f, called from wherever above, does as sp says -/
structure Runs (P : Program) (w : World) (K : PySem.W.Frag) (mg : Str → Option Value) (base : Heap) (fs : List Addr) (s : Shared) (H : Hp) (CXc : CXT) (k : Nat) (f : Addr) (sp : Hp → VK → XK → Prop) : Prop where
  fn : ∀ (outer : List Env) (s2 : Shared) (H2 : Hp), Chain fs s H outer s2 H2 → PySem.W.FnAt f s2.heap
  run : ∀ (A : Around) (outer : List Env) (s2 : Shared) (H2 : Hp) (Q : VK) (E : XK), Room k A → Env0 P w K mg base A outer s2 H2 → Chain fs s H outer s2 H2 → sp H2 Q E → codeAny (model P w) A (.call (.ref f) ⟨[], []⟩) (CR CXc outer P w H2 s2 Q E) s2
theorem Runs.imp {P : Program} {w : World} {K : PySem.W.Frag} {mg : Str → Option Value} {base : Heap} {CXc : CXT} {k : Nat} {f : Addr} {sp sp2 : Hp → VK → XK → Prop} (R : Runs P w K mg base fs s H CXc k f sp) (h : ∀ H Q E, sp2 H Q E → sp H Q E) : Runs P w K mg base fs s H CXc k f sp2 := ⟨R.fn, fun A outer s2 H2 Q E hr e c q => R.run A outer s2 H2 Q E hr e c (h _ _ _ q)⟩
/-- a lambda without parameters, made at (s, H) -/
theorem runs_lam {f c' : Addr} {pm ctv : Value} {params : Arguments} {body : Expr} {scope : Scope} {k : Nat} {tb : XK → TE}
    (I : Inv X pins σ H s) (L : LamS X.env.scope scope) (hf : s.heap.get? f = some (PySem.W.kla_obj "<lambda>" (X.env.qual ++ "<lambda>") params body scope (cloFrom X.env.cells scope.names []) pm c' ctv)) (hfn : H f = none) (hfr : f ∉ frs X.stack)
    (hbind : bindArgs (PySem.W.kla_fn "<lambda>" (X.env.qual ++ "<lambda>") params body scope (cloFrom X.env.cells scope.names []) pm (.ref c') ctv) ⟨[], []⟩ = pure [])
    (hbody : ∀ (A : Around) (outer : List Env) (s : Shared) (H : Hp) (E : XK), Room k (A.deeper (lamEnv X scope s.heap.objs.size f c')) → PE (lamCx X A outer s H E scope f c') body (tb E)) :
    Runs X.prog X.w X.K X.mg X.base (frs X.stack) s H (L2.CX X.prog X.w) (k + 1) f (fun H2 Q E => H2 c' = some (CodeO c' (X.env.qual ++ "<lambda>")) ∧ tb E σ H2 Q) := ⟨fun outer s2 H2 hc => ⟨_, _, _, _, hc.un.keep f _ hf hfn hfr (fun z => nomatch (show f ∈ ([] : List Addr) from z))⟩, fun A outer s2 H2 Q E hr e0 hc ⟨h1, h2⟩ => by
  have of2 : s2.heap.get? f = some (PySem.W.kla_obj "<lambda>" (X.env.qual ++ "<lambda>") params body scope (cloFrom X.env.cells scope.names []) pm c' ctv) := hc.un.keep f _ hf hfn hfr (fun z => nomatch (show f ∈ ([] : List Addr) from z))
  obtain ⟨⟨oc, vs, t, hoc, hdc, hvc⟩, _, _⟩ := e0.hok c' _ h1
  refine PySem.W.kla_callFunE hr.depth of2 rfl L.co L.gen rfl ⟨c', oc, vs, t, rfl, hoc, hdc, hvc⟩ ?_
  rw [hbind]
  have lim : s2.heap.NoLimit := e0.mod.nolimit.keeps fun b o e => (e0.bs b o e).1
  refine wpAny_pure (wpAny_newFunctionEnv (fun y hy => (L.own y hy).2) (fun y hy => absurd hy (by simp)) (fun h₁ hns hsb => ⟨lim.fresh _ hsb, ?_⟩) L.kind)
  show codeAny _ _ (.expr body (lamEnv X scope s2.heap.objs.size f c')) _ _
  have kp : ∀ b o, s2.heap.get? b = some o → h₁.get? b = some o := fun b o e => hsb.extBut b o (Nat.ne_of_lt (Heap.lt_size e)) (Heap.get?_push_of_some _ e)
  have J : Inv (lamCx X A outer s2 H2 E scope f c') [] σ H2 { s2 with heap := h₁, toks := s2.toks + ([] : List (Str × Value)).length } := lam_start2 I L e0 hr.hd hc.un hns kp
  refine PySem.W.kla_codeExpr (wpAny_mono ((hbody A outer s2 H2 E (hr.deeper _)).run [] _ _ H2 Q J h2) (fun v s' hq => ?_) fun e s' hq => hq)
  obtain ⟨w', H', J', rv, q⟩ := hq
  exact ⟨w', H', J'.os, J'.bare, J'.base, J'.hok, rv, q⟩⟩
/-- x(), x a local that holds such a one -/
theorem pe_run {CXc : CXT} {k i : Nat} {f : Addr} {a : Str} {E : XK} {sp : Hp → VK → XK → Prop} {p1 p2 : Pos} (R : Runs Y.prog Y.w Y.K Y.mg Y.base fs s H CXc k f sp) (D : Deep fs s H Y) (hr : Room k Y.A) (hx : Passes CXc Y E) (hN : Y.N[i]? = some a) (hv : Vis Y.env.scope a) (hd : (a == ("__debug__" : Str)) = false := by decide) (hcd : (a == ("__classdict__" : Str)) = false := by decide) :
    PE Y (.Call (.Name a p1) [] [] p2) (fun σ H2 Q => σ[i]? = some (some (.ref f)) ∧ sp H2 Q E) := by
  refine ⟨fun pins s1 σ H1 Q I h => ?_⟩
  obtain ⟨hs, hsp⟩ := h
  refine wpAny_Call_Name_kw (thn ((pe_var (pos := p1) (i := i) hN hv hd hcd).run pins s1 σ H1 (fun v H2 => v = .ref f ∧ H2 = H1) I ⟨.ref f, hs, rfl, rfl⟩) fun u s2 ⟨v, H2, I2, r2, q2⟩ => ?_)
  obtain ⟨ev, eH⟩ := q2
  subst ev
  rw [eH] at I2
  obtain rfl : u = Value.ref f := r2
  have ch := D.up I2
  refine PySem.W.callWith_F0 (R.fn _ _ _ ch) ?_
  refine wpAny_call (codeAny_mono (R.run Y.A Y.stack s2 H1 Q E hr I2.env0 ch hsp) fun r s' hq => ?_)
  cases r with
  | error e => exact hx pins σ H1 s2 e s' I2 hq
  | ok fl =>
    cases fl with
    | ret u => exact I2.after hq
    | next => exact False.elim hq
    | brk => exact False.elim hq
    | cont => exact False.elim hq
/-- a def that is called from above alone -/
structure FnC (P : Program) (w : World) (K : PySem.W.Frag) (mg : Str → Option Value) (base : Heap) (fs : List Addr) (s : Shared) (H : Hp) (CXc : CXT) (k : Nat) (f : Addr) (fd : FuncData) (ps : List Str) (sp : Sp) : Prop where
  len : ∀ vs H Q E, sp vs H Q E → vs.length = ps.length
  run : ∀ (A : Around) (outer : List Env) (s2 : Shared) (H2 : Hp) (args : Args) (us : List Value) (vs : List V) (Q : VK) (E : XK), Room k A → Env0 P w K mg base A outer s2 H2 → Chain fs s H outer s2 H2 → BindsTo s2 fd args (ps.zip us) → Vals vs us → sp vs H2 Q E →
    codeAny (model P w) A (.call (.ref f) args) (CR CXc outer P w H2 s2 Q E) s2
theorem run_fnC {CXc : CXT} {k : Nat} {f : Addr} {fd : FuncData} {ps : List Str} {sp : Sp} {E : XK} {Q : VK} {us : List Value} {vs : List V} (F : FnC Y.prog Y.w Y.K Y.mg Y.base fs s H CXc k f fd ps sp) (D : Deep fs s H Y) (hr : Room k Y.A) (hb : Binds Y.K fd ps []) (hx : Passes CXc Y E)
    (I : Inv Y pins σ H1 s1) (r : Vals vs us) (h : sp vs H1 Q E) : wpAny (model Y.prog Y.w) Y.A (call (.ref f) us) (EP Y pins σ Q) Y.xe s1 := by
  have hl : (us ++ []).length = ps.length := by rw [List.append_nil, ← r.length]; exact F.len _ _ _ _ h
  have hb2 := hb s1 us I.kIn hl
  rw [List.append_nil] at hb2
  refine wpAny_call (codeAny_mono (F.run Y.A Y.stack s1 H1 ⟨us, []⟩ us vs Q E hr I.env0 (D.up I) hb2 r h) fun r s' hq => ?_)
  cases r with
  | error e => exact hx pins σ H1 s1 e s' I hq
  | ok fl =>
    cases fl with
    | ret u => exact I.after hq
    | next => exact False.elim hq
    | brk => exact False.elim hq
    | cont => exact False.elim hq
theorem pe_callC {CXc : CXT} {k : Nat} {f : Addr} {fd : FuncData} {x : Str} {ps : List Str} {sp : Sp} {E : XK} {e : Expr} {es : List Expr} {t : TA} {p pos : Pos} (F : FnC Y.prog Y.w Y.K Y.mg Y.base fs s H CXc k f fd ps sp) (D : Deep fs s H Y) (hr : Room k Y.A) (hg : Gl Y x) (hm : Y.mg x = some (.ref f)) (hk : PySem.W.keepIn Y.K (.ref f) = true) (hb : Binds Y.K fd ps []) (hx : Passes CXc Y E)
    (ha : PA Y (e :: es) t) (hdb : (x == ("__debug__" : Str)) = false := by decide) (he : starEach (e :: es) Y.env = (false, eval e Y.env) :: starEach es Y.env := by rfl) (hpl : (backTo pos (starEach es Y.env)).any (·.1) = false := by rfl) :
    PE Y (.Call (.Name x p) (e :: es) [] pos) (fun σ H1 Q => t σ H1 fun vs H2 => sp vs H2 Q E) := by
  refine ⟨fun pins s σ H Q I h => ?_⟩
  refine wpAny_Call_Name_kw (ld_glob I hg hm ?_ hdb)
  refine PySem.W.callWith_K (h₀ := Y.base) I.ok.mod.kin hk (thn (ha.run pos pins s σ H _ I h) fun us s1 ⟨vs, H1, I1, r, q⟩ => ⟨I1.kIn, ?_⟩) he hpl
  exact run_fnC F D hr hb hx I1 r q
/-- the body of such a def -/
theorem fn_ofC {CXc : CXT} {P : Program} {w : World} {K : PySem.W.Frag} {mg : Str → Option Value} {base : Heap} {k : Nat} {x qual : Str} {st : Stmt} {f : Addr} {fd : FuncData} {N ps : List Str} {sp : Sp} (Fu : Fun K x qual st f fd) (S : FnScope N ps (defScope st)) (len : ∀ vs H Q E, sp vs H Q E → vs.length = ps.length)
    (hbody : ∀ (cdv : Value) (A : Around) (outer : List Env) (s2 : Shared) (H2 : Hp) (vs : List V) (Q : VK) (E : XK), Room k (A.deeper (envOfC qual (defScope st) s2.heap.objs.size f cdv)) → Chain fs s H outer s2 H2 → sp vs H2 Q E →
      ∃ t, PSs (cxOf CXc P w K mg base N qual (defScope st) f cdv A outer s2 H2 E) (defBody st) t ∧ t { nx := fun _ H' => Q .non H', rt := Q } (L2.start N vs) H2) : FnC P w K mg base fs s H CXc (k + 1) f fd ps sp := by
  obtain ⟨oc, od, kV, doc, pm, an, cdv, ct, osl, rfl, lk, hcd⟩ := Fu.ex
  exact ⟨len, fun A outer s2 H2 args us vs Q E hr e0 hc hb r hsp => run_ofS lk hcd S hr e0 hb r (len _ _ _ _ hsp) fun hr' => hbody cdv A outer s2 H2 vs Q E hr' hc hsp⟩
end
end Dl

set_option Elab.async false
set_option linter.all false
set_option maxRecDepth 100000
set_option maxHeartbeats 4000000
/-! A call to which a lambda is handed among other arguments. -/
namespace Dl
open PySem PySem.Spec PyProof.Rows L2 LamX
section
variable {X : Cx} {pins : List (Addr × Obj)} {σ : L2.St} {H : Hp} {s : Shared}
theorem Inv.addPin (I : Inv X pins σ H s) {p : Addr × Obj} (h1 : s.heap.get? p.1 = some p.2) (h2 : H p.1 = none) (h3 : p.1 ≠ X.env.locals) (h4 : p.1 ∉ X.fs) (h5 : ∀ v, p.2.data ≠ .cell v) : Inv X (p :: pins) σ H s :=
  ⟨I.ok, I.os, I.bare, I.base, I.loc, I.cell, I.free, I.freeC, fun q hq => by
    rcases List.mem_append.mp hq with e | e
    · exact I.pin q (List.mem_append_left _ e)
    · rcases List.mem_cons.mp e with e | e
      · rw [e]; exact ⟨h1, h2, h3, h4, h5⟩
      · exact I.pin q (List.mem_append_right _ e), I.hok, I.len⟩
theorem Inv.lessPin {p : Addr × Obj} (I : Inv X (p :: pins) σ H s) : Inv X pins σ H s :=
  ⟨I.ok, I.os, I.bare, I.base, I.loc, I.cell, I.free, I.freeC, fun q hq => by
    rcases List.mem_append.mp hq with e | e
    · exact I.pin q (List.mem_append_left _ e)
    · exact I.pin q (List.mem_append_right _ (List.mem_cons_of_mem _ e)), I.hok, I.len⟩
/-- the codes of a table, told by what is known of objects -/
def Codes (B : Hp) (q : Str) (ps : Array Value) : Prop := TriplesOk ps.toList ∧ ∀ (pos : Pos) (cv : Value), codeAmong pos ps.toList = some cv → ∃ c, cv = .ref c ∧ B c = some (CodeO c q)
/-- the heap behind a lambda's making, its table at P -/
def LamH (P : Addr) (q : Str) (c' : Addr) (H H1 : Hp) : Prop := (H1 = H ∧ H c' = some (CodeO c' q) ∧ ∃ (ps : Array Value) (pos : Pos), H P = some (.tbl ps) ∧ codeAmong pos ps.toList = some (.ref c')) ∨ (H c' = none ∧ ∃ (ps : Array Value) (pos : Pos), H P = some (.tbl ps) ∧ H1 = upd (upd H P (.tbl (ps ++ #[rawInt pos.line, rawInt pos.col, .ref c']))) c' (CodeO c' q))
abbrev lamObj (X : Cx) (params : Arguments) (body : Expr) (scope : Scope) (pm ctv : Value) (c' : Addr) : Obj := PySem.W.kla_obj "<lambda>" (X.env.qual ++ "<lambda>") params body scope (cloFrom X.env.cells scope.names []) pm c' ctv
theorem lam_make3 {c P : Addr} {q : Str} {params : Arguments} {body : Expr} {scope : Scope} {pos : Pos} {E : Value → Shared → Prop} {Q : Value → Shared → Prop} (I : Inv X pins σ H s) (TB : TabB X.base X.mg c P) (hcode : X.env.code = .ref c) (eq : q = X.env.qual ++ "<lambda>")
    (hT : ∃ ps, H P = some (.tbl ps) ∧ Codes H q ps) (hdef : defaultsOf params X.env = ([], [])) (hfree : ∀ y ∈ scope.names, y.2 = .free → ∃ c, X.env.cells.lookup y.1 = some c)
    (h : ∀ (f c' : Addr) (pm ctv : Value) (H1 : Hp) (s1 : Shared), Inv X pins σ H1 s1 → LamH P q c' H H1 → s1.heap.get? f = some (lamObj X params body scope pm ctv c') → H1 f = none → f ∉ frs X.stack → Q (.ref f) s1) :
    wpAny (model X.prog X.w) X.A (eval (.Lambda params body scope pos) X.env) Q E s := by
  subst eq
  obtain ⟨ps, hP, ht, ha⟩ := hT
  have hPs : s.heap.get? P = some { cls := .none, data := .fields ps } := I.hok P _ hP
  have bB : s.heap.BuiltinsAt X.mg P := TB.bm.keeps I.bk
  have away : ∀ f, s.heap.objs.size ≤ f → f ∉ frs X.stack := fun f hf z => (List.mem_cons.mp (I.stkSub _ z)).elim (fun e => by
    have := I.lt
    rw [← e] at this
    exact Nat.lt_irrefl _ (Nat.lt_of_lt_of_le this hf)) (fun e => I.nofs hf e)
  refine PySem.W.kla_eval hdef ?_
  cases hc : codeAmong pos ps.toList with
  | some cv =>
    obtain ⟨c', rfl, hco⟩ := ha pos cv hc
    refine PySem.W.kla_makeFunctionHit (mg := X.mg) (c := c) (P := P) (ps := ps) (closure_ok hfree) I.ok.glob (I.mod.glob.keeps I.bk) hcode (TB.code.keeps I.bk) hPs ht hc bB fun ctv h' tk hx hsz => ?_
    exact h h'.objs.size c' ((X.mg "__name__").getD .none) ctv H _ (I.kept (t' := tk) fun b o e => Heap.get?_push_of_some _ (hx b o e)) (.inl ⟨rfl, hco, ps, pos, hP, hc⟩) (Heap.get?_push_size _ rfl) (I.hok.fresh hsz) (away _ hsz)
  | none =>
    refine PySem.W.kla_makeFunction (mg := X.mg) (c := c) (P := P) (ps := ps) (closure_ok hfree) I.ok.glob (I.mod.glob.keeps I.bk) hcode (TB.code.keeps I.bk) hPs ht hc TB.gP bB fun c' ctv h' tk hx hge hlt hrec htb => ?_
    obtain ⟨c2, oc, vs, t, e2, hoc, hd, hv⟩ := hrec
    cases e2
    have big : s.heap.objs.size ≤ h'.objs.size := Nat.le_trans hge (Nat.le_of_lt hlt)
    have free : H c' = none := I.hok.fresh hge
    have J := inv_table (t' := tk) (more := #[rawInt pos.line, rawInt pos.col, .ref c']) (h' := h'.push (lamObj X params body scope ((X.mg "__name__").getD .none) ctv c')) I hP
      (fun b o hb e => Heap.get?_push_of_some _ (hx b o hb e)) (Heap.get?_push_of_some _ htb) hge ⟨oc, vs, t, Heap.get?_push_of_some _ hoc, hd, hv⟩
    refine h h'.objs.size c' ((X.mg "__name__").getD .none) ctv _ _ J (.inr ⟨free, ps, pos, hP, rfl⟩) (Heap.get?_push_size _ rfl) ?_ (away _ big)
    rw [upd_ne (Nat.ne_of_gt hlt), upd_ne (Nat.ne_of_gt (Nat.lt_of_lt_of_le (Heap.lt_size hPs) big))]
    exact I.hok.fresh big
/-- what a lambda's making asks of X -/
structure LamAt (X : Cx) (q : Str) (c P : Addr) : Prop where
  tb : TabB X.base X.mg c P
  code : X.env.code = .ref c
  eq : q = X.env.qual ++ "<lambda>"
  st : X.stack = X.env :: X.outer
/-- arguments, the state behind them in hand -/
structure PAS (X : Cx) (es : List Expr) (t : List (Addr × Obj) → L2.St → Hp → (List Value → Shared → Prop) → Prop) : Prop where
  run : ∀ (pos : Pos) (pins : List (Addr × Obj)) (s : Shared) (σ : L2.St) (H : Hp) (R : List Value → Shared → Prop), Inv X pins σ H s → t pins σ H R → wpAny (model X.prog X.w) X.A (spliced (backTo pos (starEach es X.env))) R X.xe s
theorem pas_of {es : List Expr} {t : TA} (h : PA X es t) : PAS X es (fun pins σ H R => t σ H fun vs H1 => ∀ us s1, Inv X pins σ H1 s1 → Vals vs us → R us s1) :=
  ⟨fun pos pins s σ H R I q => thn (h.run pos pins s σ H _ I q) fun us s1 ⟨vs, H1, I1, r, q1⟩ => q1 us s1 I1 r⟩
theorem pas_cons {e : Expr} {es : List Expr} {te : TE} {t : List (Addr × Obj) → L2.St → Hp → (List Value → Shared → Prop) → Prop} (ha : PE X e te) (hr : PAS X es t) (hs : starEach (e :: es) X.env = (false, eval e X.env) :: starEach es X.env := by rfl) :
    PAS X (e :: es) (fun pins σ H R => te σ H fun v H1 => ∀ u, L2.RelV v u → t pins σ H1 fun us s1 => R (u :: us) s1) := by
  refine ⟨fun pos pins s σ H R I q => ?_⟩
  rw [hs]
  show wpAny _ _ (spliced ((false, eval e X.env) :: backTo pos (starEach es X.env))) _ _ s
  exact Calls.spliced_cons (thn (ha.run pins s σ H _ I q) fun u s1 ⟨v, H1, I1, r1, q1⟩ => hr.run pos pins s1 σ H1 _ I1 (q1 u r1))
theorem pas_lam {q : Str} {c P : Addr} {params : Arguments} {body : Expr} {scope : Scope} {lpos : Pos} {es : List Expr} {t : List (Addr × Obj) → L2.St → Hp → (List Value → Shared → Prop) → Prop} (LA : LamAt X q c P) (L : LamS X.env.scope scope) (hdef : defaultsOf params X.env = ([], [])) (hr : PAS X es t)
    (hs : starEach (.Lambda params body scope lpos :: es) X.env = (false, eval (.Lambda params body scope lpos) X.env) :: starEach es X.env := by rfl) :
    PAS X (.Lambda params body scope lpos :: es) (fun pins σ H R => (∃ ps, H P = some (.tbl ps) ∧ Codes H q ps) ∧ ∀ f c' pm ctv H1, LamH P q c' H H1 → t ((f, lamObj X params body scope pm ctv c') :: pins) σ H1 fun us s1 => R (.ref f :: us) s1) := by
  refine ⟨fun pos pins s σ H R I ⟨hT, q⟩ => ?_⟩
  rw [hs]
  show wpAny _ _ (spliced ((false, eval (.Lambda params body scope lpos) X.env) :: backTo pos (starEach es X.env))) _ _ s
  refine Calls.spliced_cons (lam_make3 I LA.tb LA.code LA.eq hT hdef (L.has I.ok) fun f c' pm ctv H1 s1 I1 lh hf hfn hfr => ?_)
  have I2 : Inv X ((f, lamObj X params body scope pm ctv c') :: pins) σ H1 s1 := Inv.addPin I1 hf hfn (fun z => by
    have h1 := I1.loc
    obtain ⟨m, ⟨o, es', ep, ho, hd, _⟩, _⟩ := h1
    rw [← z] at ho
    have ho : s1.heap.get? f = some o := ho
    rw [hf] at ho
    cases ho
    cases hd) (fun z => by
    refine hfr ?_
    rw [LA.st]
    obtain ⟨e, he, q⟩ := List.mem_filterMap.mp z
    exact List.mem_filterMap.mpr ⟨e, List.mem_cons_of_mem _ he, q⟩) (fun v z => by cases z)
  exact hr.run pos _ s1 σ H1 _ I2 (q f c' pm ctv H1 lh)
theorem pe_callS {x : Str} {g : Addr} {p pos : Pos} {e : Expr} {es : List Expr} {t : List (Addr × Obj) → L2.St → Hp → (List Value → Shared → Prop) → Prop} (hg : Gl X x) (hm : X.mg x = some (.ref g)) (hk : PySem.W.keepIn X.K (.ref g) = true) (ha : PAS X (e :: es) t) (hdb : (x == ("__debug__" : Str)) = false := by decide)
    (he : starEach (e :: es) X.env = (false, eval e X.env) :: starEach es X.env := by rfl) (hpl : (backTo pos (starEach es X.env)).any (·.1) = false := by rfl) :
    PE X (.Call (.Name x p) (e :: es) [] pos) (fun σ H Q => ∀ pins, t pins σ H fun us s1 => X.K.In s1.heap ∧ wpAny (model X.prog X.w) X.A (call (.ref g) us) (EP X pins σ Q) X.xe s1) := by
  refine ⟨fun pins s σ H Q I h => ?_⟩
  refine wpAny_Call_Name_kw (ld_glob I hg hm ?_ hdb)
  exact PySem.W.callWith_K (h₀ := X.base) I.ok.mod.kin hk (ha.run pos pins s σ H _ I (h pins)) he hpl
/-- what the def g does, whatever the lambda -/
def GivesC (X : Cx) (q : Str) (kl : Nat) (tb : XK → TE) (k : Nat) (g : Addr) (fd : FuncData) (ps : List Str) (sp : L2.St → Addr → Addr → Sp) : Prop := ∀ (σ : L2.St) (s : Shared) (H : Hp) (f c' : Addr),
  Runs X.prog X.w X.K X.mg X.base (frs X.stack) s H (L2.CX X.prog X.w) kl f (fun H2 Q E => H2 c' = some (CodeO c' q) ∧ tb E σ H2 Q) → FnC X.prog X.w X.K X.mg X.base (frs X.stack) s H CX0 k g fd ps (sp σ f c')
theorem lam_end {q : Str} {kl k : Nat} {tb : XK → TE} {g f c' : Addr} {fd : FuncData} {ps : List Str} {sp : L2.St → Addr → Addr → Sp} {params : Arguments} {body : Expr} {scope : Scope} {pm ctv : Value} {Q : VK} {us : List Value} {vs : List V} (eq : q = X.env.qual ++ "<lambda>")
    (G : GivesC X q (kl + 1) tb k g fd ps sp) (L : LamS X.env.scope scope) (hst : X.stack = X.env :: X.outer) (hbind : bindArgs (PySem.W.kla_fn "<lambda>" (X.env.qual ++ "<lambda>") params body scope (cloFrom X.env.cells scope.names []) pm (.ref c') ctv) ⟨[], []⟩ = pure [])
    (hbody : ∀ (A : Around) (outer : List Env) (s : Shared) (H : Hp) (E : XK), Room kl (A.deeper (lamEnv X scope s.heap.objs.size f c')) → PE (lamCx X A outer s H E scope f c') body (tb E))
    (hr : Room k X.A) (hb : Binds X.K fd ps []) (I : Inv X ((f, lamObj X params body scope pm ctv c') :: pins) σ H s) (r : Vals vs us) (h : sp σ f c' vs H Q E0) : X.K.In s.heap ∧ wpAny (model X.prog X.w) X.A (call (.ref g) us) (EP X pins σ Q) X.xe s := by
  refine ⟨I.kIn, ?_⟩
  obtain ⟨hf, hfn, hL, hF, _⟩ := I.pin _ (List.mem_append_right _ List.mem_cons_self)
  have hfr : f ∉ frs X.stack := fun z => by
    rcases List.mem_cons.mp (I.stkSub f z) with e | e
    · exact hL e
    · exact hF e
  have R := runs_lam (X := X) I L hf hfn hfr hbind hbody
  rw [← eq] at R
  have F := G σ s H f c' R
  have hl : (us ++ []).length = ps.length := by rw [List.append_nil, ← r.length]; exact F.len _ _ _ _ h
  have hb2 := hb s us I.kIn hl
  rw [List.append_nil] at hb2
  refine wpAny_call (codeAny_mono (F.run X.A X.stack s H ⟨us, []⟩ us vs Q E0 hr I.env0 Chain.refl hb2 r h) fun r s' hq => ?_)
  cases r with
  | error e => exact (show False from hq).elim
  | ok fl =>
    cases fl with
    | ret u =>
      obtain ⟨v, H', I', rv, q⟩ := I.after hq
      exact ⟨v, H', Inv.lessPin I', rv, q⟩
    | next => exact False.elim hq
    | brk => exact False.elim hq
    | cont => exact False.elim hq
end
end Dl

set_option Elab.async false
set_option linter.all false
set_option maxRecDepth 100000
set_option maxHeartbeats 4000000
/-! try with several clauses, each with the same name. -/
namespace Dl
open PySem PySem.Spec PyProof.Rows L2
abbrev Clause := Value × (Addr → Value → Option Addr → TS)
/-- the ends of a suite: the clause's name (slot i) goes -/
abbrev offE (D : Ends) (i : Nat) : Ends := ⟨fun τ G => D.nx (τ.set i none) G, D.rt, fun τ G => D.bk (τ.set i none) G, fun τ G => D.ct (τ.set i none) G⟩
def wClauses (K : PySem.W.Frag) (i : Nat) (Wo : WX) (D : Ends) : List Clause → WX
  | [] => Wo
  | (c, ts) :: r => fun cls d τ G => ∃ b, PySem.W.exmOne K cls c = some b ∧ (b = true → ∀ a, G a = none → ts a cls d (offE D i) (τ.set i (some (.ref a))) G) ∧ (b = false → wClauses K i Wo D r cls d τ G)
inductive Clauses (X : Cx) (n : Str) : List ExceptHandler → List Clause → Prop
  | nil : Clauses X n [] []
  | cons {x : Str} {c : Value} {ts : Addr → Value → Option Addr → TS} {st : Stmt} {sts : List Stmt} {np ps : Pos} {hds : List ExceptHandler} {l : List Clause} (hc : Names X x c)
      (hsu : ∀ (a : Addr) (oe : Obj) (cls : Value) (d : Option Addr) (pn : List (Addr × Obj)), Zc cls d oe → (∃ vs, oe.data = .fields vs) → PSs (X.suite a ((a, oe) :: pn)) (st :: sts) (ts a cls d)) (r : Clauses X n hds l) :
      Clauses X n (.ExceptHandler (some (.Name x np)) (some n) (st :: sts) ps :: hds) ((c, ts) :: l)
section
variable {X : Cx} {n : Str} {i : Nat} {sts : List Stmt} {hd : ExceptHandler} {hds : List ExceptHandler} {l : List Clause} {pos : Pos} {tb : WX → TS} {Wo : WX}
theorem ps_try_all (hst : X.stack = X.env :: X.outer) (hfr : X.env.frame = some X.env.locals) (hN : X.N.Nodup) (hi : X.N[i]? = some n) (hln : X.env.kindOf n = some .local) (tk : Takes X Wo)
    (hb : ∀ (W : WX) (pn : List (Addr × Obj)) (xe : Value → Shared → Prop), Takes (X.tr pn xe) W → PassesOwn (model X.prog X.w) X.A X.env xe → PSs (X.tr pn xe) sts (tb W))
    (hh : Clauses X n (hd :: hds) l) : PS X (.Try sts (hd :: hds) [] [] pos) (fun D τ G => tb (wClauses X.K i Wo D l) D τ G) :=
  ⟨fun pins s σ H D I h => by
    have xok := I.ok
    have fr0 : X.A.frames = some (X.env :: X.outer) := by rw [xok.frames, hst]
    let nxt : Value → Shared → Prop := fun e sa => wpAny (model X.prog X.w) X.A (noteFrame e X.env) (fun _ sb => wpAny (model X.prog X.w) X.A (setFlight e none) (fun _ sc => wpAny (model X.prog X.w) X.A (handleBy e X.env (hd :: hds)) (SP X pins D) X.xe sc) X.xe sb) X.xe sa
    have run := (hb (wClauses X.K i Wo D l) (X.pn ++ pins) nxt (fun u sz w => by
      obtain ⟨a, B, sI, pq, τ, G, cls, d, rfl, Jq, nb, up, sky, na, os, ag, wsh⟩ := w
      have Ja : Inv X pins τ G sI := Jq.ofTry xok
      have sk : Sky B (X.env :: X.outer) a (Zc cls d) X.env.locals sz.heap := by rw [← hst]; exact sky
      refine Sky.land Zc.steady fr0 hfr sk fun g fl ug => ?_
      have Jg : Inv X pins τ G { sz with heap := g } := Ja.landed nb fl.1 (up.trans ug) os ag
      obtain ⟨ox, vx, ex, zx, dx⟩ := fl.there
      have far : a ∉ frs (X.env :: X.outer) := fun hm => by
        obtain ⟨_, oy, ey, ny⟩ := fl.2.2.1.mem hm
        rw [ex] at ey
        cases ey
        exact ny _ dx
      have n1 : a ≠ X.env.locals := fun z => far (List.mem_filterMap.mpr ⟨X.env, List.mem_cons_self, by rw [hfr, z]⟩)
      have n2 : a ∉ X.fs := fun hm => by
        obtain ⟨ev, hev, qv⟩ := List.mem_filterMap.mp hm
        exact far (List.mem_filterMap.mpr ⟨ev, List.mem_cons_of_mem _ hev, qv⟩)
      have Sg := Jg.suite ex dx na n1 n2
      have walk : ∀ {hs2 : List ExceptHandler} {l2 : List Clause}, Clauses X n hs2 l2 → wClauses X.K i Wo D l2 cls d τ G → wpAny (model X.prog X.w) X.A (handleBy (.ref a) X.env hs2) (SP X pins D) X.xe { sz with heap := g } := by
        intro hs2 l2 hk
        induction hk with
        | nil =>
          intro wo
          refine wpAny_handleBy_nil ?_
          obtain ⟨_, _, _, oq, vq, T, _, _, eq1, _, eq2, eq3, _⟩ := id fl
          unfold PySem.passOn
          refine wpAny_bind (wpAny_field eq1 eq2 eq3 ?_)
          rw [if_neg (by simp : ¬ ((Value.ref T == Value.none) = true))]
          have done : wpAny (model X.prog X.w) X.A (setFlight (.ref a) X.env.frame) (fun _ sd => wpAny (model X.prog X.w) X.A (throw (.ref a) : Sem Flow) (SP X pins D) X.xe sd) X.xe { sz with heap := g } := by
            rw [hfr]
            refine HandSPX.setFlight_upZ fl fun g2 hg2 ug2 => wpAny_throw (tk _ _ ⟨a, B, sI, pins, τ, G, cls, d, rfl, Ja, nb, (up.trans ug).trans ug2, .inr (.inr (by rw [hst]; exact hg2)), na, os, ag, wo⟩)
          first
            | exact wpAny_bind (wpAny_pure (wpAny_bind done))
            | exact wpAny_bind done
        | @cons x c ts st su np ps hd2 l3 hc hsu r ih =>
          rintro ⟨b, hb1, yes, no⟩
          refine wpAny_handleBy_cons (codeAny_handlers_test ?_) (by intro q; cases q)
          have lk : PySem.W.Looks (model X.prog X.w) g (typeOf (.ref a)) cls := fun A Q E s k q => wpAny_typeOf_ref (k _ _ ex) (by rw [zx.1]; exact q)
          have mt := PySem.W.exm_one (M := model X.prog X.w) (Jg.kIn) lk hb1
          have named : ∀ {Q : Value → Shared → Prop} {E : Value → Shared → Prop}, Q c { sz with heap := g } → wpAny (model X.prog X.w) (X.A.mark (some (.ref a))) (eval (.Name x np) X.env) Q E { sz with heap := g } := fun {Q E} q => by
            obtain ⟨g1, g2, e1 | ⟨e1, e2, e3⟩⟩ := hc
            · exact ld_glob (X := X.suite a ((a, ox) :: (X.pn ++ pins))) Sg g1 e1 q g2
            · exact ld_blt (X := X.suite a ((a, ox) :: (X.pn ++ pins))) Sg g1 e1 e2 q e3 g2
          refine named (mt.here ?_)
          cases b with
          | false =>
            show wpAny _ X.A (handleBy (.ref a) X.env hd2) _ _ _
            exact ih (no rfl)
          | true =>
            refine codeAny_handlers_suite_as (HandSPX.lands_againZ fl fun g4 fl4 u4 => ?_)
            have J4 : Inv X pins τ G { sz with heap := g4 } := Ja.landed nb fl4.1 ((up.trans ug).trans u4) os ag
            obtain ⟨o4, v4, e4, z4, d4⟩ := fl4.there
            have T4 := J4.suite e4 d4 na n1 n2
            refine store_ok (X := X.suite a ((a, o4) :: (X.pn ++ pins))) (v := .ref a) T4 hN hi (.inl hln) rfl (fun s5 T5 => ?_) (.inr hln)
            refine wpAny_mono ((hsu a o4 cls d (X.pn ++ pins) z4 ⟨_, d4⟩).run [] s5 _ G _ T5 (yes rfl a na)) (fun fl6 s6 q6 => ?_) (fun _ _ z => False.elim z)
            have fin : ∀ {τ6 : L2.St} {G6 : Hp} {Q : Shared → Prop}, Inv (X.suite a ((a, o4) :: (X.pn ++ pins))) [] τ6 G6 s6 → (∀ s7, Inv X pins (τ6.set i none) G6 s7 → Q s7) →
                wpAny (model X.prog X.w) X.A (do bindName X.env n .none; unbindBehindTheSuite X.env n ps) (fun _ s7 => Q s7) X.xe s6 := fun {τ6 G6 Q} T6 hq => gone_ok (T6.unsuite xok) hN hi hln hq
            cases fl6 with
            | ret u =>
              obtain ⟨v6, _, _, T6, r6, k6⟩ := q6
              exact fin T6 fun _ J7 => ⟨v6, _, _, J7, r6, k6⟩
            | next =>
              obtain ⟨_, _, T6, k6⟩ := q6
              exact fin T6 fun _ J7 => ⟨_, _, J7, k6⟩
            | brk =>
              obtain ⟨_, _, T6, k6⟩ := q6
              exact fin T6 fun _ J7 => ⟨_, _, J7, k6⟩
            | cont =>
              obtain ⟨_, _, T6, k6⟩ := q6
              exact fin T6 fun _ J7 => ⟨_, _, J7, k6⟩
      exact walk hh wsh) PassesOwn.looking).run [] s σ H D (I.toTry _) h
    refine wpAny_Try_except (wpAny_mono run (fun f sq hq => ?_) fun e sq he => he)
    cases f with
    | ret u =>
      obtain ⟨v, _, _, Jb, rb, qb⟩ := hq
      exact ⟨v, _, _, Jb.ofTry xok, rb, qb⟩
    | next =>
      obtain ⟨_, _, Jb, qb⟩ := hq
      exact wpAny_execs_nil ⟨_, _, Jb.ofTry xok, qb⟩
    | brk =>
      obtain ⟨_, _, Jb, qb⟩ := hq
      exact ⟨_, _, Jb.ofTry xok, qb⟩
    | cont =>
      obtain ⟨_, _, Jb, qb⟩ := hq
      exact ⟨_, _, Jb.ofTry xok, qb⟩⟩
end
end Dl

set_option Elab.async false
set_option linter.all false
set_option maxRecDepth 100000
set_option maxHeartbeats 4000000
/-! The data level: what raises. -/
namespace Dl
open PySem PySem.Spec PyProof.Rows L2
abbrev Gh := Option (Hp × Hp × (Nat → List Addr))
/-- X lets out an exception of the class at C whose one field fld holds y -/
structure WantE (X : Cx) (g : Gh) (C : Addr) (fld : Str) (y : PyData) : Prop where
  ex : ∃ E : XK, Takes X (fun cls d _ H => E cls d H) ∧ ∀ d v B H F, ghOk g B H F → Same B H → B d = none → H d = some (.xd [(fld, v)]) → (∀ z, g = some z → z.2.1 d = none) → Rp X.K B v y → E (.ref C) (some d) H
/-- the promise of a def that raises at such data -/
def SpE (K : PySem.W.Frag) (fe : List PyData → Addr → Str → PyData → Prop) : Sp := fun vs H _ E => ∃ B ds C fld y, Same B H ∧ RpA K B vs ds ∧ fe ds C fld y ∧ ∀ d v B2 H2, Grow B H B2 H2 → B2 d = none → H2 d = some (.xd [(fld, v)]) → H d = none → Rp K B2 v y → E (.ref C) (some d) H2
structure DefX (P : Program) (w : World) (K : PySem.W.Frag) (mg : Str → Option Value) (base : Heap) (k : Nat) (x : Str) (ps : List Str) (sp : Sp) : Prop where
  ex : ∃ f fd, mg x = some (.ref f) ∧ PySem.W.keepIn K (.ref f) = true ∧ Binds K fd ps [] ∧ FnOk P w K mg base (L2.CX P w) k f fd ps sp
def tR (K : PySem.W.Frag) (δ : List Slot) (g : Gh) : TE := fun σ H _ => ∃ B F, Wf K B H σ δ F ∧ ghOk g B H F
def tRA (K : PySem.W.Frag) (δ : List Slot) (g : Gh) : TA := fun σ H _ => ∃ B F, Wf K B H σ δ F ∧ ghOk g B H F
abbrev XR (X : Cx) (δ : List Slot) (e : Expr) (g : Gh) : Prop := PE X e (tR X.K δ g)
abbrev XRA (X : Cx) (δ : List Slot) (es : List Expr) (g : Gh) : Prop := PA X es (tRA X.K δ g)
section
variable {X : Cx} {δ : List Slot} {a b c e tg : Expr} {es : List Expr} {pos p p0 p1 p2 p3 : Pos} {ds : List PyData} {d y : PyData} {rest : List Stmt} {R : Post} {g : Gh} {C : Addr} {fld : Str}
theorem ghOk.none {B H : Hp} {F : Nat → List Addr} {dd : Addr} (h : ghOk g B H F) (n : H dd = none) : ∀ z, g = some z → z.2.1 dd = none := fun z e => by
  subst e
  cases q : z.2.1 dd with
  | none => rfl
  | some o =>
    obtain ⟨o', e'⟩ := Step.there h dd o q
    rw [n] at e'
    cases e'
theorem pa_bot : PA X es (fun _ _ _ => False) := ⟨fun _ _ _ _ _ _ _ h => h.elim⟩
theorem pg_bot : PG X tg (fun _ _ _ _ => False) := ⟨fun _ _ _ _ _ _ _ _ _ h => h.elim⟩
theorem xr_call {k : Nat} {x : Str} {ps : List Str} {fe : List PyData → Addr → Str → PyData → Prop} (G : DefX X.prog X.w X.K X.mg X.base k x ps (SpE X.K fe)) (hr : Room k X.A) (ha : XA X δ (e :: es) ds) (hf : fe ds C fld y) (hw : WantE X g C fld y) (hg : Gl X x := by rfl) (hdb : (x == ("__debug__" : Str)) = false := by decide)
    (he : starEach (e :: es) X.env = (false, eval e X.env) :: starEach es X.env := by rfl) (hpl : (backTo pos (starEach es X.env)).any (·.1) = false := by rfl) : XR X δ (.Call (.Name x p) (e :: es) [] pos) g := by
  obtain ⟨fa, fd, h1, h2, h3, h4⟩ := G.ex
  obtain ⟨E, tk, hE⟩ := hw.ex
  exact (pe_call (E := E) h4 hr hg h1 h2 h3 .nil (passes_call tk fun _ _ _ _ h => h) ha hdb he hpl).weak fun σ H Q ⟨B, F, W, gh⟩ => ⟨B, F, W, fun vs B2 H2 g2 r => by
    show SpE X.K fe (vs ++ []) H2 Q E
    rw [List.append_nil]
    exact ⟨B2, ds, C, fld, y, g2.bh, r, hf, fun d v B3 H3 g3 hb hd hn rv => hE d v B3 H3 F (gh.step (Step.of (g2.trans g3))) g3.bh hb hd ((gh.step (Step.of g2)).none hn) rv⟩⟩
/-- an argument raises -/
theorem xra_here (he : XR X δ e g) (hs : starEach (e :: es) X.env = (false, eval e X.env) :: starEach es X.env := by rfl) : XRA X δ (e :: es) g := (pa_cons he pa_bot hs).weak fun σ H Q ⟨B, F, W, gh⟩ => ⟨B, F, W, gh⟩
theorem xra_later (ha : XE X δ e d) (hr : XRA X δ es g) (hs : starEach (e :: es) X.env = (false, eval e X.env) :: starEach es X.env := by rfl) : XRA X δ (e :: es) g := (pa_cons ha hr hs).weak fun σ H Q ⟨B, F, W, gh⟩ => ⟨B, F, W, fun v B2 H2 g2 r => ⟨B2, F, W.grow g2, gh.step (Step.of g2)⟩⟩
theorem xr_arg {x : Str} {f : Addr} (h1 : X.mg x = some (.ref f)) (h2 : PySem.W.keepIn X.K (.ref f) = true) (ha : XRA X δ (e :: es) g) (hg : Gl X x := by rfl) (hdb : (x == ("__debug__" : Str)) = false := by decide)
    (he : starEach (e :: es) X.env = (false, eval e X.env) :: starEach es X.env := by rfl) (hpl : (backTo pos (starEach es X.env)).any (·.1) = false := by rfl) : XR X δ (.Call (.Name x p) (e :: es) [] pos) g := by
  refine ⟨fun pins s σ H Q I h => ?_⟩
  refine wpAny_Call_Name_kw (ld_glob I hg h1 ?_ hdb)
  exact PySem.W.callWith_K (h₀ := X.base) I.ok.mod.kin h2 (wpAny_mono (ha.run pos pins s σ H (fun _ _ => False) I h) (fun us s1 ⟨_, _, _, _, z⟩ => z.elim) fun _ _ z => z) he hpl
/-! statements -/
theorem xb_asgR (he : XR X δ e R.gh) (hs : swapsWithSole [tg] e pos.line X.env = pure false := by rfl) (hw : swappedStores [tg] e X.env = pure none := by rfl) (h1 : (assignEach [tg] X.env).map (·.2) = [assign tg X.env] := by rfl) : XB X δ (.Assign [tg] e pos :: rest) R :=
  xb_cons (ps_asg he pg_bot hs hw h1) pss_never fun D σ H B F W o => ⟨B, F, W, o.gh⟩
theorem xb_setR {x : Str} (he : XR X δ e R.gh) (hs : swapsWith e (some (.Name x p0)) pos.line X.env = pure false := by rfl) : XB X δ (.Assign [.Name x p0] e pos :: rest) R :=
  PSs.weak (pss_cons (t := fun D σ H => tR X.K δ R.gh σ H fun _ _ => False) ⟨fun pins s σ H D I h => wpAny_Assign_Name (wpAny_mono (he.run pins s σ H (fun _ _ => False) I h) (fun _ _ ⟨_, _, _, _, z⟩ => z.elim) fun _ _ z => z) hs⟩ pss_never) fun D σ H q => by
    obtain ⟨B, F, W, o⟩ := ts_iff.mp q
    exact ⟨B, F, W, o.gh⟩
theorem xb_retR (he : XR X δ e R.gh) : XB X δ (.Return (some e) pos :: rest) R := xb_cons (ps_ret he) pss_never fun D σ H B F W o => ⟨B, F, W, o.gh⟩
theorem xb_exprR (he : XR X δ e R.gh) (hs : swapsWith e none pos.line X.env = pure false := by rfl) : XB X δ (.Expr e pos :: rest) R := xb_cons (ps_expr he hs) pss_never fun D σ H B F W o => ⟨B, F, W, o.gh⟩
/-! ### own exception classes -/
def SpInit (C : Addr) (fld : Str) : Sp := fun vs H Q _ => ∃ (a : Addr) (v : V), vs = [.ref a, v] ∧ H a = some (exo a C none) ∧ ∀ dx, H dx = none → dx ≠ a → Q .non (upd (upd H dx (exd dx [(fld, v)])) a (exo a C (some dx)))
structure ErrC (P : Program) (w : World) (K : PySem.W.Frag) (mg : Str → Option Value) (base : Heap) (x : Str) (C : Addr) (fld : Str) : Prop where
  hm : mg x = some (.ref C)
  oc : OexC K C
  no : PySem.W.findIn K (.ref C) fld = some none
  ini : ∃ fI fd ps, PySem.W.findIn K (.ref C) "__init__" = some (some (.ref fI)) ∧ PySem.W.typeIn K (.ref fI) = some (.type "function") ∧ Binds K fd ps [] ∧ FnOk P w K mg base CX0 1 fI fd ps (SpInit C fld)
theorem xb_raise {x : Str} (T : ErrC X.prog X.w X.K X.mg X.base x C fld) (he : XE X δ e y) (hw : WantE X R.gh C fld y) (hr : Room 2 X.A) (hc : X.calm = true := by rfl) (hg : Gl X x := by rfl) (hdb : (x == ("__debug__" : Str)) = false := by decide)
    (hs : starEach [e] X.env = (false, eval e X.env) :: starEach [] X.env := by rfl) (hpl : (backTo p1 (starEach [] X.env)).any (·.1) = false := by rfl) : XB X δ (.Raise (some (.Call (.Name x p) [e] [] p1)) none pos :: rest) R := by
  obtain ⟨fI, fd, ps, i1, i2, i3, i4⟩ := T.ini
  obtain ⟨E, tk, hE⟩ := hw.ex
  refine xb_cons (ps_raise hc tk (pmk_oex T.oc i1 i2 i4 hr i3 .nil pass0 hg T.hm (xa_cons he xa_nil hs) hdb hs hpl)) pss_never fun D σ H B F W o => ?_
  refine ⟨B, F, W, fun vs B1 H1 g1 r1 => ?_⟩
  cases r1 with
  | @cons v _ _ _ r1 r2 =>
    cases r2
    refine ⟨by show 1 ≤ 1000; decide, fun a ha => ?_⟩
    refine ⟨a, v, rfl, upd_same, fun dx hdx ne => ?_⟩
    have h1 : H1 dx = none := by rw [upd_ne ne] at hdx; exact hdx
    refine ⟨rfl, dx, [(fld, v)], upd_same, by rw [upd_ne ne]; exact upd_same, h1, ?_⟩
    have eH : upd (del (upd (upd (upd H1 a (exo a C none)) dx (exd dx [(fld, v)])) a (exo a C (some dx))) a) dx (.xd [(fld, v)]) = upd H1 dx (.xd [(fld, v)]) := by
      funext b
      by_cases hb : b = dx
      · rw [hb, upd_same, upd_same]
      · rw [upd_ne hb, upd_ne hb]
        by_cases hb2 : b = a
        · rw [hb2, del_same, ha]
        · rw [del_ne hb2, upd_ne hb2, upd_ne hb, upd_ne hb2]
    rw [eH]
    have g2 : Grow B1 H1 B1 (upd H1 dx (.xd [(fld, v)])) := Grow.newH g1.bh h1
    exact hE dx v B1 _ F (o.gh.step (Step.of (g1.trans g2))) g2.bh (g1.bh.free h1) upd_same ((o.gh.step (Step.of g1)).none h1) r1
end
section
variable {P : Program} {w : World} {K : PySem.W.Frag} {mg : Str → Option Value} {base : Heap}
/-- THE RULE for a def at data at which it raises -/
theorem def_raise {x : Str} {st : Stmt} {N ps : List Str} {k : Nat} {fe : List PyData → Addr → Str → PyData → Prop} (A : At K mg x st ps) (S : FnScope N ps (defScope st)) (len : ∀ ds C fld y, fe ds C fld y → ds.length = ps.length)
    (body : ∀ (X : Cx), (∃ (fa : Addr) (cdv : Value) (A : Around) (outer : List Env) (s : Shared) (H : Hp) (E : XK), Room k (A.deeper (envOfC x (defScope st) s.heap.objs.size fa cdv)) ∧ X = cxOf (L2.CX P w) P w K mg base N x (defScope st) fa cdv A outer s H E) → ∀ g ds C fld y, fe ds C fld y → WantE X g C fld y → XB X (startD N (ds.map .dat)) (defBody st) { gh := g }) :
    DefX P w K mg base (k + 1) x ps (SpE K fe) := by
  obtain ⟨fa, fd, h1, h2, h3⟩ := A.ex
  refine ⟨fa, fd, h1, h2.kp, h3, h2.okX S (fun vs H Q E h => ?_) (fun cdv A outer s H vs Q E hr h => ?_)⟩
  · obtain ⟨B, ds, C, fld, y, _, r, hf, _⟩ := h
    rw [r.length]
    exact len ds C fld y hf
  · obtain ⟨B, ds, C, fld, y, sm, r, hf, q⟩ := h
    refine ⟨_, body _ ⟨fa, cdv, A, outer, s, H, E, hr, rfl⟩ (some (B, H, fun _ => [])) ds C fld y hf ⟨E, takes_of rfl rfl rfl rfl, fun d v B2 H2 F2 s2 sm2 hb hd hn rv => ?_⟩, ?_⟩
    · have s2 : Step B H (fun _ => []) B2 H2 F2 := s2
      exact q d v B2 H2 ⟨s2.bb, sm2, fun b o hb => s2.keep b o hb (fun _ z => nomatch z), fun b o hb => s2.fr b o hb (fun _ z => nomatch z)⟩ hb hd (hn _ rfl) rv
    · exact ts_iff.mpr ⟨B, _, envOk_dat sm r N, fun _ _ _ _ _ _ _ h => h.elim, fun _ _ _ _ _ _ _ _ _ h => h.elim, fun _ _ _ _ _ _ _ h => h.elim, fun _ _ _ _ _ _ _ h => h.elim, fun _ _ _ _ _ _ _ _ h => h.elim, Step.refl⟩
end
end Dl

set_option Elab.async false
set_option linter.all false
set_option maxRecDepth 100000
set_option maxHeartbeats 4000000
/-! The data level: functions handed on, called within try. -/
namespace Dl
open PySem PySem.Spec PyProof.Rows L2 LamX
theorem Codes.mono {B B2 : Hp} {q : Str} {ps : Array Value} (h : Codes B q ps) (s : Same B B2) : Codes B2 q ps := ⟨h.1, fun pos cv e => by
  obtain ⟨c, e1, e2⟩ := h.2 pos cv e
  exact ⟨c, e1, s _ _ e2⟩⟩
/-- the script, and the table of the codes made in this frame -/
def scrT (K : PySem.W.Frag) (ns : List Int) (P : Addr) (q : Str) : Res where
  ok := fun B H v fp => (∃ a, v = .ref a ∧ SqL K B a (ns.map V.int)) ∧ fp = [P] ∧ ∃ ps, H P = some (.tbl ps) ∧ Codes B q ps
  loc := fun {B B' H H' v fp} ⟨⟨a, h1, h2⟩, h3, ps, h4, h5⟩ hb hh => ⟨⟨a, h1, hb.seq h2⟩, h3, ps, by rw [hh P (by rw [h3]; exact List.mem_cons_self)]; exact h4, h5.mono hb⟩
/-- a function that was handed in: what it leans on is kept -/
def cloR (f : Addr) (Bc : Hp) : Res where
  ok := fun B _ v fp => v = .ref f ∧ fp = [] ∧ Same Bc B
  loc := fun {B B' H H' v fp} ⟨h1, h2, h3⟩ hb _ => ⟨h1, h2, h3.trans hb⟩
/-- an exception in hand: its one field -/
def errR (K : PySem.W.Frag) (a dd : Addr) (fld : Str) (y : PyData) : Res where
  ok := fun B H v fp => v = .ref a ∧ fp = [dd] ∧ ∃ u, H dd = some (.xd [(fld, u)]) ∧ Rp K B u y
  loc := fun {B B' H H' v fp} ⟨h1, h2, u, h3, h4⟩ hb hh => ⟨h1, h2, u, by rw [hh dd (by rw [h2]; exact List.mem_cons_self)]; exact h3, h4.mono hb⟩
/-- what one frame knows and what another does, put together -/
theorem grow_union {Bc B H B1 H1 : Hp} (h1 : Same Bc B) (h2 : Same B H) (g : Grow Bc H B1 H1) : ∃ B2, Grow B H B2 H1 ∧ Same B1 B2 ∧ ∀ b, B2 b = none ↔ B b = none ∧ B1 b = none := by
  refine ⟨fun b => match B b with | some o => some o | none => B1 b, ⟨fun b o e => by show (match B b with | some o => some o | none => B1 b) = some o; rw [e], fun b o e => ?_, g.hh, fun b o e => ?_⟩, fun b o e => ?_, fun b => ?_⟩
  · have e : (match B b with | some o => some o | none => B1 b) = some o := e
    cases hb : B b with
    | some u =>
      rw [hb] at e
      cases e
      exact g.hh _ _ (h2 _ _ hb)
    | none =>
      rw [hb] at e
      exact g.bh _ _ e
  · show (match B b with | some o => some o | none => B1 b) = B b
    cases hb : B b with
    | some u => rfl
    | none =>
      show B1 b = none
      rw [g.fr b o e]
      cases hc : Bc b with
      | none => rfl
      | some u => rw [h1 _ _ hc] at hb; cases hb
  · show (match B b with | some o => some o | none => B1 b) = some o
    cases hb : B b with
    | none => exact e
    | some u =>
      have a1 := g.hh _ _ (h2 _ _ hb)
      rw [g.bh _ _ e] at a1
      exact a1.symm
  · show (match B b with | some o => some o | none => B1 b) = none ↔ _
    cases hb : B b with
    | none => simp
    | some u => simp
/-- it comes back, whatever it tells -/
def clAny (Bc : Hp) : Hp → VK → XK → Prop := fun H Q _ => Same Bc H ∧ ∀ v H2, Same H H2 → Q v H2
/-- it raises -/
def clErr (K : PySem.W.Frag) (Bc : Hp) (C : Addr) (fld : Str) (y : PyData) : Hp → VK → XK → Prop := fun H _ E => Same Bc H ∧ ∀ d v B2 H2, Grow Bc H B2 H2 → B2 d = none → H2 d = some (.xd [(fld, v)]) → H d = none → Rp K B2 v y → E (.ref C) (some d) H2
section
variable {X Y : Cx} {fs : List Addr} {H : Hp} {s : Shared} {δ : List Slot} {rest : List Stmt} {R : Post} {pos p1 p2 p3 : Pos} {f : Addr} {Bc : Hp} {n a : Str} {i ir k : Nat} {hd : ExceptHandler} {hds : List ExceptHandler} {l : List Clause}
theorem pe_runW {sp : Hp → VK → XK → Prop} {W : WX} (Rn : Runs Y.prog Y.w Y.K Y.mg Y.base fs s H (L2.CX Y.prog Y.w) k f sp) (D : Deep fs s H Y) (hr : Room k Y.A) (tk : Takes Y W) (hN : Y.N[i]? = some a) (hv : Vis Y.env.scope a) (hd : (a == ("__debug__" : Str)) = false := by decide) (hcd : (a == ("__classdict__" : Str)) = false := by decide) :
    PE Y (.Call (.Name a p1) [] [] p2) (fun σ H2 Q => σ[i]? = some (some (.ref f)) ∧ ∃ E : XK, (∀ cls d H', E cls d H' → W cls d σ H') ∧ sp H2 Q E) := by
  refine ⟨fun pins s1 σ H1 Q I h => ?_⟩
  obtain ⟨hs, E, hE, hsp⟩ := h
  refine wpAny_Call_Name_kw (thn ((pe_var (pos := p1) (i := i) hN hv hd hcd).run pins s1 σ H1 (fun v H2 => v = .ref f ∧ H2 = H1) I ⟨.ref f, hs, rfl, rfl⟩) fun u s2 ⟨v, H2, I2, r2, q2⟩ => ?_)
  obtain ⟨ev, eH⟩ := q2
  subst ev
  rw [eH] at I2
  obtain rfl : u = Value.ref f := r2
  have ch := D.up I2
  refine PySem.W.callWith_F0 (Rn.fn _ _ _ ch) ?_
  refine wpAny_call (codeAny_mono (Rn.run Y.A Y.stack s2 H1 Q E hr I2.env0 ch hsp) fun r s' hq => ?_)
  cases r with
  | error e => exact tk e s' (XE.of_call (W := fun cls d τ G => ∃ _ : τ = σ, W cls d σ G) (E := E) I2 (fun cls d H' h => ⟨rfl, hE cls d H' h⟩) hq |> fun x => by
      obtain ⟨a, B, sI, pins', τ, G, cls, d, e1, e2, e3, e4, e5, e6, e7, e8, ⟨e9, w⟩⟩ := x
      exact ⟨a, B, sI, pins', τ, G, cls, d, e1, e2, e3, e4, e5, e6, e7, e8, by rw [e9]; exact w⟩)
  | ok fl =>
    cases fl with
    | ret u => exact I2.after hq
    | next => exact False.elim hq
    | brk => exact False.elim hq
    | cont => exact False.elim hq
inductive Hits (K : PySem.W.Frag) (cls : Value) (ts : Addr → Value → Option Addr → TS) : List Clause → Prop
  | here {c : Value} {l : List Clause} (h : PySem.W.exmOne K cls c = some true) : Hits K cls ts ((c, ts) :: l)
  | there {c : Value} {t2 : Addr → Value → Option Addr → TS} {l : List Clause} (h : PySem.W.exmOne K cls c = some false) (r : Hits K cls ts l) : Hits K cls ts ((c, t2) :: l)
theorem Hits.wish {K : PySem.W.Frag} {cls : Value} {ts : Addr → Value → Option Addr → TS} {i : Nat} {Wo : WX} {D : Ends} {d : Option Addr} {τ : L2.St} {G : Hp} (q : ∀ a, G a = none → ts a cls d (offE D i) (τ.set i (some (.ref a))) G) : ∀ {l : List Clause}, Hits K cls ts l → wClauses K i Wo D l cls d τ G
  | _, .here h => ⟨true, h, fun _ => q, fun z => (nomatch z)⟩
  | _, .there h r => ⟨false, h, fun z => (nomatch z), fun _ => r.wish q⟩
theorem Wf.slot {K : PySem.W.Frag} {B H : Hp} {σ : L2.St} {F : Nat → List Addr} (W : Wf K B H σ δ F) {i : Nat} (h : δ[i]? = some (.own (cloR f Bc))) : σ[i]? = some (some (.ref f)) ∧ Same Bc B := by
  obtain ⟨o, h1, h2⟩ := W.sl i _ h
  cases o with
  | none => exact h2.elim
  | some v =>
    obtain ⟨rfl, _, h3⟩ := h2
    exact ⟨h1, h3⟩
/-- try: run() / except ..: the call comes back -/
theorem xb_tryRet (Rn : Runs X.prog X.w X.K X.mg X.base fs s H (L2.CX X.prog X.w) k f (clAny Bc)) (Dp : Deep fs s H X) (hr : Room k X.A) (hs : δ[ir]? = some (.own (cloR f Bc))) (hc : Clauses X n (hd :: hds) l) (h : XB X δ rest R) (hNd : X.N.Nodup) (hi : X.N[i]? = some n) (hln : X.env.kindOf n = some .local) (tk : Takes X (fun _ _ _ _ => False))
    (hN : X.N[ir]? = some a := by rfl) (hv : Vis X.env.scope a := by first | exact Or.inl rfl | exact Or.inr (Or.inl rfl) | exact Or.inr (Or.inr rfl)) (hst : X.stack = X.env :: X.outer := by rfl) (hfr : X.env.frame = some X.env.locals := by rfl) (hda : (a == ("__debug__" : Str)) = false := by decide) (hca : (a == ("__classdict__" : Str)) = false := by decide)
    (hsw : swapsWith (.Call (.Name a p1) [] [] p2) none p3.line X.env = pure false := by rfl) : XB X δ (.Try [.Expr (.Call (.Name a p1) [] [] p2) p3] (hd :: hds) [] [] pos :: rest) R :=
  xb_cons (ps_try_all (tb := fun W D σ H2 => σ[ir]? = some (some (.ref f)) ∧ ∃ E : XK, (∀ cls d H', E cls d H' → W cls d σ H') ∧ clAny Bc H2 (fun _ H' => D.nx σ H') E) hst hfr hNd hi hln tk (fun W pn xe tk2 _ => pss_one (ps_expr (pe_runW (Y := X.tr pn xe) Rn (Dp.tr pn xe) hr tk2 hN hv hda hca) hsw)) hc) h fun D σ G B F W o => by
    obtain ⟨h1, h2⟩ := Wf.slot W hs
    refine ⟨h1, fun _ _ _ => False, fun _ _ _ z => z.elim, h2.trans W.bh, fun v G2 sm => ?_⟩
    have g : Grow B G B G2 := ⟨Same.refl B, W.bh.trans sm, sm, fun _ _ _ => rfl⟩
    exact ts_iff.mpr ⟨B, F, W.grow g, o.step (Step.of g)⟩
/-- .. it raises, the clause that fits ends with M -/
theorem xb_tryErr {C : Addr} {fld : Str} {y : PyData} (M : List Slot → Prop) (Rn : Runs X.prog X.w X.K X.mg X.base fs s H (L2.CX X.prog X.w) k f (clErr X.K Bc C fld y)) (Dp : Deep fs s H X) (hr : Room k X.A) (hs : δ[ir]? = some (.own (cloR f Bc))) (hc : Clauses X n (hd :: hds) l)
    (hit : Hits X.K (.ref C) (fun a cls d D σ G => ∃ dd, d = some dd ∧ cls = .ref C ∧ tS X.K (δ.set i (.own (errR X.K a dd fld y))) { nx := M } D σ G) l) (hil : i < δ.length) (h : ∀ δ', M δ' → ∃ δ2, δ2 = δ'.set i .no ∧ XB X δ2 rest R) (hNd : X.N.Nodup) (hi : X.N[i]? = some n) (hln : X.env.kindOf n = some .local) (tk : Takes X (fun _ _ _ _ => False))
    (hN : X.N[ir]? = some a := by rfl) (hv : Vis X.env.scope a := by first | exact Or.inl rfl | exact Or.inr (Or.inl rfl) | exact Or.inr (Or.inr rfl)) (hst : X.stack = X.env :: X.outer := by rfl) (hfr : X.env.frame = some X.env.locals := by rfl) (hda : (a == ("__debug__" : Str)) = false := by decide) (hca : (a == ("__classdict__" : Str)) = false := by decide)
    (hsw : swapsWith (.Call (.Name a p1) [] [] p2) none p3.line X.env = pure false := by rfl) : XB X δ (.Try [.Expr (.Call (.Name a p1) [] [] p2) p3] (hd :: hds) [] [] pos :: rest) R := by
  have hrest : PSs X rest (fun D σ G => ∃ z : {z : List Slot // M z}, tS X.K (z.1.set i .no) R D σ G) := pss_ex fun z : {z : List Slot // M z} => by
    obtain ⟨δ2, e, hx⟩ := h z.1 z.2
    rw [← e]
    exact hx
  refine xb_cons (ps_try_all (tb := fun W D σ H2 => σ[ir]? = some (some (.ref f)) ∧ ∃ E : XK, (∀ cls d H', E cls d H' → W cls d σ H') ∧ clErr X.K Bc C fld y H2 (fun _ H' => D.nx σ H') E) hst hfr hNd hi hln tk (fun W pn xe tk2 _ => pss_one (ps_expr (pe_runW (Y := X.tr pn xe) Rn (Dp.tr pn xe) hr tk2 hN hv hda hca) hsw)) hc) hrest fun D σ G B F W o => ?_
  obtain ⟨h1, h2⟩ := Wf.slot W hs
  refine ⟨h1, fun cls d H' => cls = .ref C ∧ ∃ dd v B2, d = some dd ∧ Grow Bc G B2 H' ∧ B2 dd = none ∧ H' dd = some (.xd [(fld, v)]) ∧ G dd = none ∧ Rp X.K B2 v y, fun cls d H' ⟨ec, dd, v, B2, ed, g, hb, hx, hg, rv⟩ => ?_, h2.trans W.bh, fun d v B2 H2 g hb hx hg rv => ⟨rfl, d, v, B2, rfl, g, hb, hx, hg, rv⟩⟩
  subst ec
  subst ed
  refine hit.wish fun ea hea => ⟨dd, rfl, rfl, ?_⟩
  obtain ⟨B3, g3, sm3, none3⟩ := grow_union h2 W.bh g
  have W3 := W.grow g3
  have b3 : B3 dd = none := (none3 dd).mpr ⟨W.bh.free hg, hb⟩
  have nF : ∀ k, dd ∉ F k := fun k hk => by
    obtain ⟨_, u, hu⟩ := W.own k dd hk
    rw [hg] at hu
    cases hu
  refine ts_iff.mpr ⟨B3, _, W3.putO (r := errR X.K ea dd fld y) (v := .ref ea) (fp := [dd]) hil ⟨rfl, rfl, v, hx, rv.mono sm3⟩ (fun b hb2 => ?_), ?_, fun _ _ _ _ _ _ _ _ _ z => z.elim, fun _ _ _ _ _ _ _ z => z.elim, fun _ _ _ _ _ _ _ z => z.elim, fun _ _ _ _ _ _ _ _ z => z.elim, trivial⟩
  · rw [List.mem_singleton.mp hb2]
    exact ⟨⟨b3, _, hx⟩, fun k _ => nF k⟩
  · intro σ4 δ4 B4 H4 F4 s4 W4 hm
    show ∃ z : {z : List Slot // M z}, tS X.K (z.1.set i .no) R D (σ4.set i none) H4
    have hfn : ∀ k b, b ∈ F4 k → (∃ j, b ∈ F j) ∨ G b = none := fun k b hb4 => by
      rcases s4.fn k b hb4 with ⟨j, hj⟩ | hj
      · by_cases hji : j = i
        · rw [if_pos hji, List.mem_singleton] at hj
          rw [hj]
          exact .inr hg
        · rw [if_neg hji] at hj
          exact .inl ⟨j, hj⟩
      · cases q : G b with
        | none => exact .inr rfl
        | some u =>
          rw [g3.hh _ _ q] at hj
          cases hj
    have ng : ∀ b o, G b = some o → (∀ k, b ∉ F k) → ∀ k, b ∉ (if k = i then [dd] else F k) := fun b o hb4 hn k hk => by
      by_cases hki : k = i
      · rw [if_pos hki, List.mem_singleton] at hk
        rw [hk, hg] at hb4
        cases hb4
      · rw [if_neg hki] at hk
        exact hn k hk
    have st : Step B G F B4 H4 F4 := ⟨g3.bb.trans s4.bb, fun b o hb4 hn => s4.keep b o (g3.hh _ _ hb4) (ng b o hb4 hn), fun b o hb4 hn => (s4.fr b o (g3.hh _ _ hb4) (ng b o hb4 hn)).trans (g3.fr b o hb4), fun b o hb4 => s4.there b o (g3.hh _ _ hb4), hfn⟩
    refine ⟨⟨δ4, hm⟩, ts_iff.mpr ⟨B4, _, W4.no i none, o.step (st.sub cut_sub)⟩⟩
end
end Dl

set_option Elab.async false
set_option linter.all false
set_option maxRecDepth 100000
set_option maxHeartbeats 4000000
/-! The data level: own exception classes, their fields read where they are caught. -/
namespace Dl
open PySem PySem.Spec PyProof.Rows L2 LamX
/-- what the written part says of an own exception class with one field -/
structure OwnErr (K : PySem.W.Frag) (C : Addr) (fld qual : Str) (st : Stmt) (ps : List Str) : Prop where
  oc : OexC K C
  xc : XfC K C
  no : PySem.W.findIn K (.ref C) fld = some none
  ini : ∃ fI fd, PySem.W.findIn K (.ref C) "__init__" = some (some (.ref fI)) ∧ PySem.W.typeIn K (.ref fI) = some (.type "function") ∧ Fun K "__init__" qual st fI fd ∧ Binds K fd ps []
section
variable {P : Program} {w : World} {K : PySem.W.Frag} {mg : Str → Option Value} {base : Heap} {C : Addr} {fld qual x : Str} {st : Stmt} {N ps : List Str}
theorem errC (T : OwnErr K C fld qual st ps) (hm : mg x = some (.ref C)) (S : FnScope ps ps (defScope st)) (hl : ps.length = 2)
    (body : ∀ (X : Cx), (∃ (fa : Addr) (cdv : Value) (A : Around) (outer : List Env) (s : Shared) (H : Hp) (E : XK), X = (cxOf CX0 P w K mg base ps qual (defScope st) fa cdv A outer s H E).nox) → PSs X (defBody st) (tOst K fld (tVar 0) (tVar 1))) : ErrC P w K mg base x C fld := by
  obtain ⟨fI, fd, h1, h2, h3, h4⟩ := T.ini
  refine ⟨hm, T.oc, T.no, fI, fd, ps, h1, h2, h4, h3.ok S (fun vs H Q E h => ?_) (fun cdv A outer s H vs Q E hr h => ?_)⟩
  · obtain ⟨a, v, rfl, _⟩ := h
    exact hl.symm
  · obtain ⟨a, v, rfl, ha, q⟩ := h
    refine ⟨_, body _ ⟨fI, cdv, A, outer, s, H, E, rfl⟩, ?_⟩
    have e0 : (L2.start ps [V.ref a, v])[0]? = some (some (.ref a)) := rfl
    have e1 : (L2.start ps [V.ref a, v])[1]? = some (some v) := rfl
    exact ⟨v, e1, .ref a, e0, a, C, rfl, T.oc, T.no, .inl ⟨ha, fun dx hd hne => q dx hd hne⟩⟩
end
section
variable {X : Cx} {δ : List Slot} {p pos : Pos} {C a dd : Addr} {fld : Str} {y : PyData} {oe : Obj} {pn : List (Addr × Obj)}
/-- e.fld, e the caught one -/
theorem xe_xf (i : Nat) {x : Str} (T : XfC X.K C) (hno : PySem.W.findIn X.K (.ref C) fld = some none) (hz : Zc (.ref C) (some dd) oe) (hf : ∃ vs, oe.data = .fields vs) (h : δ[i]? = some (.own (errR X.K a dd fld y)))
    (hi : X.N[i]? = some x := by rfl) (hv : Vis X.env.scope x := by first | exact Or.inl rfl | exact Or.inr (Or.inl rfl) | exact Or.inr (Or.inr rfl)) (hd : (x == ("__debug__" : Str)) = false := by decide) (hcd : (x == ("__classdict__" : Str)) = false := by decide)
    (hb : attributeBase (.Name x p) fld X.env (eval (.Name x p) X.env) = eval (.Name x p) X.env := by rfl) : XE (X.suite a ((a, oe) :: pn)) δ (.Attribute (.Name x p) fld pos) y :=
  (pe_xf (X := X) (pn := pn) T hno hz hf (pe_var (X := X.suite a ((a, oe) :: pn)) (i := i) hi hv hd hcd) hb).weak fun σ H Q ⟨B, F, W, q⟩ => by
    obtain ⟨o, h1, h2⟩ := W.sl i _ h
    cases o with
    | none => exact h2.elim
    | some v =>
      obtain ⟨rfl, _, u, h3, h4⟩ := h2
      exact ⟨.ref a, h1, rfl, rfl, dd, _, u, rfl, h3, by simp [List.lookup], q u B H (Grow.refl W.bh) h4⟩
end
end Dl

set_option Elab.async false
set_option linter.all false
set_option maxRecDepth 100000
set_option maxHeartbeats 4000000
/-! The data level: answers that are new: a pair of two lists of truths. -/
namespace Dl
open PySem PySem.Spec PyProof.Rows L2 LamX
/-- at t a pair of two lists of truths; none of the three was there in H -/
structure NewPair (H H2 : Hp) (t p q : Addr) (l1 l2 : List Bool) : Prop where
  ht : H t = none
  hp : H p = none
  hq : H q = none
  tp : t ≠ p
  tq : t ≠ q
  pq : p ≠ q
  at_ : H2 t = some (.tup [.ref p, .ref q])
  ap : H2 p = some (.lst (l1.map V.bl))
  aq : H2 q = some (.lst (l2.map V.bl))
def SpF (K : PySem.W.Frag) (f : List PyData → List Bool → List Bool → Prop) : Sp := fun vs H Q _ => ∃ B ds l1 l2, Same B H ∧ RpA K B vs ds ∧ f ds l1 l2 ∧ ∀ t p q H2, Same H H2 → NewPair H H2 t p q l1 l2 → Q (.ref t) H2
/-- the wish of such an answer -/
def frR (g : Gh) (l1 l2 : List Bool) : V → Hp → Hp → Prop := fun v _ H2 => ∃ t p q, v = .ref t ∧ ∀ z, g = some z → NewPair z.2.1 H2 t p q l1 l2
theorem NewPair.back {H0 H H2 : Hp} {t p q : Addr} {l1 l2 : List Bool} (n : NewPair H H2 t p q l1 l2) (h : ∀ b o, H0 b = some o → ∃ o', H b = some o') : NewPair H0 H2 t p q l1 l2 :=
  have go : ∀ b, H b = none → H0 b = none := fun b e => by
    cases e2 : H0 b with
    | none => rfl
    | some o =>
      obtain ⟨o', e3⟩ := h b o e2
      rw [e] at e3
      cases e3
  ⟨go t n.ht, go p n.hp, go q n.hq, n.tp, n.tq, n.pq, n.at_, n.ap, n.aq⟩
section
variable {X : Cx} {δ : List Slot} {a b e : Expr} {es : List Expr} {pos p p0 : Pos} {ds : List PyData} {d y : PyData} {rest : List Stmt} {R : Post} {l1 l2 : List Bool}
theorem frR_of {K : PySem.W.Frag} {D : Ends} {B H H2 : Hp} {F : Nat → List Addr} {σ : L2.St} {t pa qa : Addr} (o : Ok K R D B H F) (W : Wf K B H σ δ F) (sm : Same H H2) (n : NewPair H H2 t pa qa l1 l2) (hR : R.rr = frR R.gh l1 l2) : D.rt (.ref t) H2 := by
  have g : Grow B H B H2 := ⟨Same.refl B, W.bh.trans sm, sm, fun _ _ _ => rfl⟩
  refine o.rr (.ref t) σ δ B H2 F (Step.of g) (W.grow g) ?_
  rw [hR]
  refine ⟨t, pa, qa, rfl, fun z hz => n.back fun b u hb => ?_⟩
  have gh := o.gh
  rw [hz] at gh
  exact Step.there gh b u hb
theorem xb_retPair {x1} (h1 : XN X δ a (l1.map .bool)) (h2 : XN X δ b (l2.map .bool)) (hR : R.rr = frR R.gh l1 l2) (hs : starEach [a, b] X.env = (false, eval a X.env) :: starEach [b] X.env := by rfl) (hs2 : starEach [b] X.env = (false, eval b X.env) :: starEach [] X.env := by rfl) : XB X δ (.Return (some (.Tuple [a, b] x1 p)) pos :: rest) R :=
  xb_cons (ps_ret (pe_tup (pa_cons h1 (pa_cons h2 pa_nil hs2) hs))) pss_never fun D σ H B F W o => by
    refine ⟨B, F, W, fun pa xs B1 H1 g1 n1 nb1 e1 r1 => ?_⟩
    have W1 := W.grow g1
    refine ⟨B1, F, W1, fun qa ys B2 H2 g2 n2 nb2 e2 r2 => ?_⟩
    refine ⟨by show 2 ≤ sizeLine; decide, fun t ht => ?_⟩
    have ep := RpA.bls_inv r1
    have eq := RpA.bls_inv r2
    subst ep
    subst eq
    have h2p : H2 pa = some (.lst (l1.map V.bl)) := g2.hh _ _ e1
    have ntp : t ≠ pa := fun z => by rw [z, h2p] at ht; cases ht
    have ntq : t ≠ qa := fun z => by rw [z, e2] at ht; cases ht
    have npq : pa ≠ qa := fun z => by rw [← z, e1] at n2; cases n2
    have h2t : H t = none := by
      cases e : H t with
      | none => rfl
      | some u =>
        rw [g2.hh _ _ (g1.hh _ _ e)] at ht
        cases ht
    have hqH : H qa = none := by
      cases e : H qa with
      | none => rfl
      | some u =>
        rw [g1.hh _ _ e] at n2
        cases n2
    exact frR_of (D := D) o W (fun b u hb => by rw [upd_ne (fun z => by rw [z, h2t] at hb; cases hb)]; exact g2.hh _ _ (g1.hh _ _ hb)) ⟨h2t, n1, hqH, ntp, ntq, npq, upd_same, by rw [upd_ne (Ne.symm ntp)]; exact h2p, by rw [upd_ne (Ne.symm ntq)]; exact e2⟩ hR
theorem xb_retNew {k : Nat} {x : Str} {ps : List Str} {f : List PyData → List Bool → List Bool → Prop} (G : Def X.prog X.w X.K X.mg X.base k x ps (SpF X.K f)) (hr : Room k X.A) (ha : XA X δ (e :: es) ds) (hf : f ds l1 l2) (hR : R.rr = frR R.gh l1 l2) (hg : Gl X x := by rfl) (hdb : (x == ("__debug__" : Str)) = false := by decide)
    (he : starEach (e :: es) X.env = (false, eval e X.env) :: starEach es X.env := by rfl) (hpl : (backTo p0 (starEach es X.env)).any (·.1) = false := by rfl) : XB X δ (.Return (some (.Call (.Name x p) (e :: es) [] p0)) pos :: rest) R := by
  obtain ⟨fa, fd, h1, h2, h3, h4⟩ := G.ex
  refine xb_cons (ps_ret (pe_call h4 hr hg h1 h2 h3 .nil pass0 ha hdb he hpl)) pss_never fun D σ H B F W o => ⟨B, F, W, fun vs B1 H1 g1 r1 => ?_⟩
  show SpF X.K f (vs ++ []) H1 D.rt E0
  rw [List.append_nil]
  refine ⟨B1, ds, l1, l2, g1.bh, r1, hf, fun t pa qa H2 sm n => ?_⟩
  exact frR_of (D := D) (o.step (Step.of g1)) (W.grow g1) sm n hR
end
section
variable {P : Program} {w : World} {K : PySem.W.Frag} {mg : Str → Option Value} {base : Heap}
theorem def_fresh {x : Str} {st : Stmt} {N ps : List Str} {k : Nat} {f : List PyData → List Bool → List Bool → Prop} (A : At K mg x st ps) (S : FnScope N ps (defScope st)) (len : ∀ ds l1 l2, f ds l1 l2 → ds.length = ps.length)
    (body : ∀ (X : Cx), (∃ (fa : Addr) (cdv : Value) (A : Around) (outer : List Env) (s : Shared) (H : Hp) (E : XK), Room k (A.deeper (envOfC x (defScope st) s.heap.objs.size fa cdv)) ∧ X = (cxOf CX0 P w K mg base N x (defScope st) fa cdv A outer s H E).nox) → ∀ g ds l1 l2, f ds l1 l2 → XB X (startD N (ds.map .dat)) (defBody st) { gh := g, rr := frR g l1 l2 }) :
    Def P w K mg base (k + 1) x ps (SpF K f) := by
  obtain ⟨fa, fd, h1, h2, h3⟩ := A.ex
  refine ⟨fa, fd, h1, h2.kp, h3, h2.ok S (fun vs H Q E h => ?_) (fun cdv A outer s H vs Q E hr h => ?_)⟩
  · obtain ⟨B, ds, l1, l2, _, r, hf, _⟩ := h
    rw [r.length]
    exact len ds l1 l2 hf
  · obtain ⟨B, ds, l1, l2, sm, r, hf, q⟩ := h
    refine ⟨_, body _ ⟨fa, cdv, A, outer, s, H, E, hr, rfl⟩ (some (B, H, fun _ => [])) ds l1 l2 hf, ?_⟩
    refine ts_iff.mpr ⟨B, _, envOk_dat sm r N, fun _ _ _ _ _ _ _ h => h.elim, fun _ _ _ _ _ _ _ _ _ h => h.elim, fun _ _ _ _ _ _ _ h => h.elim, fun _ _ _ _ _ _ _ h => h.elim, fun v σ2 δ2 B2 H2 F2 s2 W2 ⟨t, pa, qa, e, n⟩ => ?_, Step.refl⟩
    subst e
    exact q t pa qa H2 (fun b o hb => s2.keep b o hb (fun _ z => nomatch z)) (n _ rfl)
end
end Dl

set_option Elab.async false
set_option linter.all false
set_option maxRecDepth 100000
set_option maxHeartbeats 4000000
/-! The data level: the empty dict. -/
namespace Dl
open PySem PySem.Spec PyProof.Rows L2 LamX L2.DX
section
variable {X : Cx} {δ : List Slot} {a e : Expr} {p p0 p1 p2 pos pos2 : Pos}
theorem kv_nil {vs : List (Key × Value)} (h : KV ([] : List (Key × V)) vs) : vs = [] := by
  cases h
  rfl
/-- d.items() of an empty dict, list(..) of it -/
theorem mt_items0 : MtR X "dict.items" (fun x xs H Q => ∃ a, x = .ref a ∧ xs = [] ∧ H a = some (.dK []) ∧ ∀ p, H p = none → Q (.ref p) (upd H p (itemsO p a))) := by
  intro pins s σ H x xs v us Q I rx rxs h
  obtain ⟨a, rfl, rfl, ha, q⟩ := h
  cases rx
  cases rxs
  obtain ⟨_, hd, vs, kv, dd⟩ := dk_of I.hok ha
  obtain ⟨o, es, ep, ho, hx, hdat, _⟩ := id dd
  refine DT.callItems (es := es) (ep := ep) hd ⟨o, ho, hx, hdat⟩ ?_
  exact ⟨.ref s.heap.objs.size, upd H s.heap.objs.size (itemsO s.heap.objs.size a), I.laid (t' := s.toks) (fun b u e => Heap.get?_push_of_some _ e) (Nat.le_refl _) (itemsO_ok (Heap.get?_push_size _ rfl)), rfl, q _ (I.hok.fresh (Nat.le_refl _))⟩
theorem call_listItems0 (hc : X.calm = true) : CallR X (.type "list") (fun xs H Q => ∃ v a, xs = [.ref v] ∧ H v = some (itemsO v a) ∧ H a = some (.dK []) ∧ ∀ l, H l = none → Q (.ref l) (upd H l (.lst []))) := by
  intro pins s σ H xs us Q I r h
  obtain ⟨v, a, rfl, hv, ha, q⟩ := h
  obtain rfl := Vals.ref1 r
  have view : s.heap.IsItemsView v a := (show ObjOk X.prog X.w H s.heap v (itemsO v a) from I.hok v _ hv).1
  obtain ⟨_, hd, vs, kv, dd⟩ := dk_of I.hok ha
  obtain rfl := kv_nil kv
  obtain ⟨ep, hat⟩ := dd.dictAt
  refine PySem.W.kdx_call (kvs := []) (ep := ep) (I.ok.hd hc) view hat (Nat.zero_le _) fun h' tk acc c as hk hS hl _ hacc => ?_
  have e0 : as = [] := List.length_eq_zero_iff.mp hl
  subst e0
  have e1 : acc = #[] := by
    apply Array.toList_inj.mp
    rw [hacc]
    rfl
  subst e1
  exact ⟨.ref s.heap.objs.size, upd H s.heap.objs.size (.lst []), I.laid (t' := tk) hk (Nat.le_refl _) (show ObjOk X.prog X.w _ _ _ (.lst []) from ⟨Nat.zero_le _, [], c, .nil, hS⟩), rfl, q _ (I.hok.fresh (Nat.le_refl _))⟩
theorem Wf.dic {K : PySem.W.Frag} {B H : Hp} {σ : L2.St} {F : Nat → List Addr} (W : Wf K B H σ δ F) {i : Nat} (h : δ[i]? = some (.dat (.dict []))) : ∃ a, σ[i]? = some (some (.ref a)) ∧ B a = some (.dK []) := by
  obtain ⟨o, h1, h2⟩ := W.sl i _ h
  cases o with
  | none => exact h2.elim
  | some v =>
    obtain ⟨_, r⟩ := h2
    cases r with
    | @dic a hb => exact ⟨a, h1, hb⟩
theorem xn_items0 (i : Nat) {x : Str} {p3 : Pos} (h : δ[i]? = some (.dat (.dict []))) (hm : X.mg "list" = none) (hc : X.calm = true := by rfl) (hg : Gl X "list" := by rfl) (hi : X.N[i]? = some x := by rfl) (hv : Vis X.env.scope x := by first | exact Or.inl rfl | exact Or.inr (Or.inl rfl) | exact Or.inr (Or.inr rfl)) (hd : (x == ("__debug__" : Str)) = false := by decide) (hcd : (x == ("__classdict__" : Str)) = false := by decide)
    (hbase : attributeBase (.Name x p1) "items" X.env (eval (.Name x p1) X.env) = eval (.Name x p1) X.env := by rfl) (hline : (p2.endLine == p3.line) = true := by rfl) (hs : starEach [.Call (.Attribute (.Name x p1) "items" p2) [] [] p3] X.env = (false, eval (.Call (.Attribute (.Name x p1) "items" p2) [] [] p3) X.env) :: starEach [] X.env := by rfl) (hpl : (backTo pos (starEach [] X.env)).any (·.1) = false := by rfl) :
    XN X δ (.Call (.Name "list" p) [.Call (.Attribute (.Name x p1) "items" p2) [] [] p3] [] pos) [] :=
  (pe_callTy (call_listItems0 hc) hg hm boot_list (pa_cons (pe_bm0 PySem.F.plainAttrs_dict PySem.F.slot_dict_items PySem.F.type_dict_items mt_items0 (pe_var (i := i) hi hv hd hcd) hbase hline) pa_nil hs) (by decide) (by decide) hs hpl).weak fun σ H Q ⟨B, F, W, q⟩ => by
    obtain ⟨a, h1, h2⟩ := Wf.dic W h
    have ha := W.bh _ _ h2
    refine ⟨.ref a, h1, .inr (.inr (.inl ⟨rfl, .inl ⟨_, ha⟩⟩)), a, rfl, rfl, ha, fun v hv2 => ?_⟩
    have g1 : Grow B H B (upd H v (itemsO v a)) := Grow.newH W.bh hv2
    refine ⟨v, a, rfl, upd_same, g1.hh _ _ ha, fun l hl => ?_⟩
    have g2 : Grow B (upd H v (itemsO v a)) B (upd (upd H v (itemsO v a)) l (.lst [])) := Grow.newH g1.bh hl
    have hl0 : H l = none := g1.hh.free hl
    exact q l [] B _ (g1.trans g2) hl0 (W.bh.free hl0) upd_same .nil
theorem xe_dict0 : XE X δ (.Dict [] [] pos) (.dict []) := pe_dnewK.weak fun σ H Q ⟨B, F, W, q⟩ => fun p hp => by
  have g := Grow.new (o := .dK []) W.bh hp
  exact q (.ref p) _ _ g (.dic upd_same)
theorem xe_dictLc0 (i : Nat) {x : Str} {p3 : Pos} {elt tg : Expr} {scope : Scope} {own : List (Str × Nat)} (h : δ[i]? = some (.dat (.dict []))) (hm : X.mg "dict" = none) (hN : X.N.Nodup) (ok : BlkOk X.N X.env.scope scope own) (hc : X.calm = true := by rfl) (hg : Gl X "dict" := by rfl) (hi : X.N[i]? = some x := by rfl) (hv : Vis X.env.scope x := by first | exact Or.inl rfl | exact Or.inr (Or.inl rfl) | exact Or.inr (Or.inr rfl)) (hd : (x == ("__debug__" : Str)) = false := by decide) (hcd : (x == ("__classdict__" : Str)) = false := by decide)
    (hfs : ∀ y, foldedSetIterable (.Name x p1) X.env y = pure y := by intro _; rfl) (hs : starEach [.ListComp elt [⟨tg, .Name x p1, [], 0⟩] scope p3] X.env = (false, eval (.ListComp elt [⟨tg, .Name x p1, [], 0⟩] scope p3) X.env) :: starEach [] X.env := by rfl) (hpl : (backTo pos (starEach [] X.env)).any (·.1) = false := by rfl) :
    XE X δ (.Call (.Name "dict" p) [.ListComp elt [⟨tg, .Name x p1, [], 0⟩] scope p3] [] pos) (.dict []) :=
  (pe_callTy (call_dictP hc) hg hm boot_dict (pa_cons (pe_lock (pe_lc (own := own) hc hN (pi_keys (pe_var (i := i) hi hv hd hcd)) ok (fun _ _ _ _ _ => pg_bot) (fun _ _ _ _ _ => pts_nil) (fun _ _ _ _ _ => pe_bot) hfs)) pa_nil hs) (by decide) (by decide) hs hpl).weak fun σ H Q ⟨B, F, W, q⟩ => by
    obtain ⟨a, h1, h2⟩ := Wf.dic W h
    have ha := W.bh _ _ h2
    refine ⟨a, .dK [], ha, trivial, fun od => ⟨.ref a, h1, a, od, rfl, .inl ⟨[], upd_same, fun D hD => ?_⟩⟩⟩
    have nD : D ≠ a := fun z => by rw [z, upd_same] at hD; cases hD
    have hD0 : H D = none := by rw [upd_ne nD] at hD; exact hD
    refine ⟨fun j m G => G = upd (upd H a (.frz od (.dK []))) D (.lst []), ⟨0, rfl⟩, fun j m G hG => .inl ⟨?_, ?_, ?_⟩⟩
    · subst hG
      exact ⟨by rw [upd_ne (Ne.symm nD)]; exact upd_same, Nat.zero_le _⟩
    · subst hG
      rw [upd_ne (Ne.symm nD)]
      exact upd_same
    · subst hG
      have e : upd (upd (upd H a (.frz od (.dK []))) D (.lst [])) a (.dK []) = upd H D (.lst []) := by
        funext b
        by_cases hb : b = a
        · rw [hb, upd_same, upd_ne (Ne.symm nD), ha]
        · rw [upd_ne hb]
          by_cases hb2 : b = D
          · rw [hb2, upd_same, upd_same]
          · rw [upd_ne hb2, upd_ne hb, upd_ne hb2]
      rw [e]
      have g1 : Grow B H B (upd H D (.lst [])) := Grow.newH W.bh hD0
      refine ⟨D, [], [], rfl, SqL.of upd_same, .nil, fun r hr => ?_⟩
      have g2 := Grow.new (o := .dK []) g1.bh hr
      exact q (.ref r) _ _ (g1.trans g2) (.dic upd_same)
end
/-- data of a depth, an empty dict among it -/
inductive TreeD : Nat → PyData → Prop
  | non (m : Nat) : TreeD m .none
  | bl (m : Nat) (b : Bool) : TreeD m (.bool b)
  | int (m : Nat) (i : Int) : TreeD m (.int i)
  | str (m : Nat) (x : Str) : TreeD m (.str x)
  | dic (m : Nat) : TreeD (m + 2) (.dict [])
  | lst {m : Nat} {l : List PyData} (hz : l.length ≤ 1000000) (h : ∀ y ∈ l, TreeD m y) : TreeD (m + 1) (.list l)
  | tup {m : Nat} {l : List PyData} (hz : l.length ≤ 1000000) (h : ∀ y ∈ l, TreeD m y) : TreeD (m + 1) (.tuple l)
def F_copiedD (m : Nat) (ds : List PyData) (d : PyData) : Prop := ∃ x, ds = [x] ∧ TreeD m x ∧ d = x
def F_sameD (m : Nat) (ds : List PyData) (d : PyData) : Prop := ∃ x, ds = [x, x] ∧ TreeD m x ∧ d = .bool true
theorem TreeD.bools (m : Nat) (l : List Bool) (hz : l.length ≤ 1000000) : TreeD (m + 1) (.list (l.map .bool)) := .lst (by rw [List.length_map]; exact hz) fun y hy => by
  obtain ⟨b, _, rfl⟩ := List.mem_map.mp hy
  exact .bl m b
theorem TreeD.boolsT (m : Nat) (l : List Bool) (hz : l.length ≤ 1000000) : TreeD (m + 1) (.tuple (l.map .bool)) := .tup (by rw [List.length_map]; exact hz) fun y hy => by
  obtain ⟨b, _, rfl⟩ := List.mem_map.mp hy
  exact .bl m b
theorem TreeD.mono {m : Nat} : ∀ {x : PyData}, TreeD m x → TreeD (m + 1) x := fun {x} h => by
  induction h with
  | non m => exact .non _
  | bl m b => exact .bl _ b
  | int m i => exact .int _ i
  | str m x => exact .str _ x
  | dic m => exact .dic _
  | lst hz _ ih => exact .lst hz ih
  | tup hz _ ih => exact .tup hz ih
end Dl

set_option Elab.async false
set_option linter.all false
set_option maxRecDepth 100000
set_option maxHeartbeats 4000000
/-! The data level: more expressions with effects. -/
namespace Dl
open PySem PySem.Spec PyProof.Rows L2 LamX
section
variable {X : Cx} {δ : List Slot} {a b c e : Expr} {pos : Pos} {P : PyData → List Slot → Prop}
theorem xn_cat {xs ys : List PyData} (ha : XE X δ a (.list xs)) (hb : XE X δ b (.list ys)) (hz : xs.length + ys.length ≤ 1000000) : XN X δ (.BinOp a .Add b pos) (xs ++ ys) := (pe_op op_cat ha hb).weak fun σ H Q ⟨B, F, W, q⟩ =>
  ⟨B, F, W, fun x B1 H1 g1 r1 => ⟨B1, F, W.grow g1, fun y B2 H2 g2 r2 => by
    cases r1 with
    | @lst u us _ h1 r1 =>
      cases r2 with
      | @lst v ws _ h2 r2 =>
        refine ⟨_, _, _, _, rfl, rfl, g2.hh _ _ (g1.bh _ _ h1), g2.bh _ _ h2, sz_of (by rw [r1.length, r2.length]; exact hz), fun p hp => ?_⟩
        have g3 : Grow B2 H2 B2 (upd H2 p (.lst (us ++ ws))) := Grow.newH g2.bh hp
        have g := (g1.trans g2).trans g3
        have hp0 : H p = none := g1.hh.free (g2.hh.free hp)
        exact q p _ B2 _ g hp0 (g2.bh.free hp) upd_same ((r1.mono g2.bb).append r2)⟩⟩
theorem xf_ix {P1 : PyData → List Slot → Prop} (ha : XF X δ a P1) (hb : ∀ d1 δ1, P1 d1 δ1 → XF X δ1 b (fun d2 δ2 => ∃ i d, d2 = .int i ∧ IxD d1 i d ∧ P d δ2)) (hs : PlainIx b := by exact fun _ _ => rfl) : XF X δ (.Subscript a b pos) P :=
  (pe_ix ix_seq ha (pe_ex fun z : {z : PyData × List Slot // P1 z.1 z.2} => hb z.1.1 z.1.2 z.2) hs).weak fun σ H Q ⟨B, F, W, q⟩ => ⟨B, F, W, fun x d1 δ1 B1 H1 F1 s1 W1 h1 r1 =>
    ⟨⟨(d1, δ1), h1⟩, B1, F1, W1, fun y d2 δ2 B2 H2 F2 s2 W2 ⟨i, d, e2, hr, hp⟩ r2 => by
      subst e2
      exact rd_ix hr B2 H2 x y Q W2.bh (r1.mono s2.bb) r2 fun v B3 H3 g3 r3 => q v d δ2 B3 H3 F2 ((s1.trans s2).trans (Step.of g3)) (W2.grow g3) hp r3⟩⟩
theorem xf_if {PB : Bool → List Slot → Prop} (hc : XFT X δ c PB) (ha : ∀ δ1, PB true δ1 → XF X δ1 a P) (hb : ∀ δ1, PB false δ1 → XF X δ1 b P) : XF X δ (.IfExp c a b pos) P :=
  (pe_ifExp hc (pe_ex fun z : {z : List Slot // PB true z} => ha z.1 z.2) (pe_ex fun z : {z : List Slot // PB false z} => hb z.1 z.2)).weak fun σ H Q ⟨B, F, W, q⟩ => ⟨B, F, W, fun k δ1 B1 H1 F1 s1 W1 hk => by
    cases k with
    | true => exact ⟨⟨δ1, hk⟩, B1, F1, W1, fun v d δ2 B2 H2 F2 s2 W2 hp r => q v d δ2 B2 H2 F2 (s1.trans s2) W2 hp r⟩
    | false => exact ⟨⟨δ1, hk⟩, B1, F1, W1, fun v d δ2 B2 H2 F2 s2 W2 hp r => q v d δ2 B2 H2 F2 (s1.trans s2) W2 hp r⟩⟩
end
/-- alike but for what is a list and what a tuple -/
inductive Loose : PyData → PyData → Prop
  | non : Loose .none .none
  | bl (b : Bool) : Loose (.bool b) (.bool b)
  | int (i : Int) : Loose (.int i) (.int i)
  | row {x y : PyData} {l r : List PyData} (hx : SeqD x l) (hy : SeqD y r) (hl : r.length = l.length) (h : ∀ (i : Nat) a b, l[i]? = some a → r[i]? = some b → Loose a b) : Loose x y
end Dl

set_option Elab.async false
set_option linter.all false
set_option maxRecDepth 100000
set_option maxHeartbeats 4000000
/-! The data level: defs that take a function. -/
namespace Dl
open PySem PySem.Spec PyProof.Rows L2 LamX
/-- arguments as slots, none of them owning -/
inductive ArgsOk (K : PySem.W.Frag) (B H : Hp) : List V → List Slot → Prop
  | nil : ArgsOk K B H [] []
  | cons {v : V} {vs : List V} {s : Slot} {ss : List Slot} (h : SlotOk K B H (some v) s []) (r : ArgsOk K B H vs ss) : ArgsOk K B H (v :: vs) (s :: ss)
theorem ArgsOk.length {K : PySem.W.Frag} {B H : Hp} : ∀ {vs : List V} {ss : List Slot}, ArgsOk K B H vs ss → vs.length = ss.length
  | _, _, .nil => rfl
  | _, _, .cons _ r => by rw [List.length_cons, List.length_cons, r.length]
theorem ArgsOk.mono {K : PySem.W.Frag} {B H B2 H2 : Hp} (hb : Same B B2) : ∀ {vs : List V} {ss : List Slot}, ArgsOk K B H vs ss → ArgsOk K B2 H2 vs ss
  | _, _, .nil => .nil
  | _, _, .cons h r => .cons (h.loc hb fun a ha => (nomatch ha)) (r.mono hb)
theorem ArgsOk.get {K : PySem.W.Frag} {B H : Hp} : ∀ {vs : List V} {ss : List Slot} {i : Nat} {s : Slot}, ArgsOk K B H vs ss → ss[i]? = some s → ∃ v, vs[i]? = some v ∧ SlotOk K B H (some v) s []
  | _, _, _, _, .nil, e => by simp at e
  | _, _, 0, _, .cons h _, e => by simp at e; subst e; exact ⟨_, rfl, h⟩
  | _, _, i + 1, _, .cons _ r, e => by
    obtain ⟨v, h1, h2⟩ := r.get (i := i) (by simpa using e)
    exact ⟨v, by simpa using h1, h2⟩
def SpC (K : PySem.W.Frag) (δ0 : List Slot) (d : PyData) : Sp := fun vs H Q _ => ∃ B, Same B H ∧ ArgsOk K B H vs δ0 ∧ ∀ v B2 H2, Grow B H B2 H2 → Rp K B2 v d → Q v H2
structure DefC (P : Program) (w : World) (K : PySem.W.Frag) (mg : Str → Option Value) (base : Heap) (fs : List Addr) (s : Shared) (H : Hp) (k : Nat) (x : Str) (ps : List Str) (sp : Sp) : Prop where
  ex : ∃ f fd, mg x = some (.ref f) ∧ PySem.W.keepIn K (.ref f) = true ∧ Binds K fd ps [] ∧ FnC P w K mg base fs s H CX0 k f fd ps sp
section
variable {P : Program} {w : World} {K : PySem.W.Frag} {mg : Str → Option Value} {base : Heap} {fs : List Addr} {s0 : Shared} {H0 : Hp}
theorem wf_args {B H : Hp} {vs : List V} {ss : List Slot} (sm : Same B H) (r : ArgsOk K B H vs ss) (N : List Str) : Wf K B H (L2.start N vs) (startD N ss) (fun _ => []) := by
  refine ⟨sm, ?_, fun i t e => ?_, fun _ _ => rfl, fun i j a h _ => (nomatch h), fun i a h => (nomatch h)⟩
  · unfold L2.start startD
    simp only [List.length_append, List.length_map, List.length_replicate, r.length]
  · unfold startD at e
    unfold L2.start
    by_cases hi : i < ss.length
    · rw [List.getElem?_append_left hi] at e
      obtain ⟨v, h1, h2⟩ := r.get e
      refine ⟨some v, ?_, h2⟩
      rw [List.getElem?_append_left (by rw [List.length_map, r.length]; exact hi), List.getElem?_map, h1]
      rfl
    · rw [List.getElem?_append_right (by omega), List.getElem?_replicate] at e
      split at e
      · rename_i h3
        cases e
        refine ⟨none, ?_, rfl⟩
        rw [List.getElem?_append_right (by rw [List.length_map, r.length]; omega), List.getElem?_replicate, List.length_map, r.length, if_pos h3]
      · cases e
theorem def_clo {x : Str} {st : Stmt} {N ps : List Str} {k : Nat} {δ0 : List Slot} {d : PyData} (A : At K mg x st ps) (S : FnScope N ps (defScope st)) (len : δ0.length = ps.length)
    (body : ∀ (X : Cx), (∃ (fa : Addr) (cdv : Value) (A : Around) (outer : List Env) (s : Shared) (H : Hp) (E : XK), Room k (A.deeper (envOfC x (defScope st) s.heap.objs.size fa cdv)) ∧ X = (cxOf CX0 P w K mg base N x (defScope st) fa cdv A outer s H E).nox) → Deep fs s0 H0 X → XB X (startD N δ0) (defBody st) { rt := fun d' _ => d' = d }) :
    DefC P w K mg base fs s0 H0 (k + 1) x ps (SpC K δ0 d) := by
  obtain ⟨fa, fd, h1, h2, h3⟩ := A.ex
  refine ⟨fa, fd, h1, h2.kp, h3, fn_ofC h2 S (fun vs H Q E h => ?_) (fun cdv A outer s H vs Q E hr hc h => ?_)⟩
  · obtain ⟨B, _, r, _⟩ := h
    rw [r.length, len]
  · obtain ⟨B, sm, r, q⟩ := h
    refine ⟨_, PSs.nox (body _ ⟨fa, cdv, A, outer, s, H, E, hr, rfl⟩ (deep_cx hc).nox), ?_⟩
    refine ts_iff.mpr ⟨B, _, wf_args sm r N, fun _ _ _ _ _ _ _ h => h.elim, fun v d' σ2 δ2 B2 H2 F2 s2 W2 e r2 => ?_, fun _ _ _ _ _ _ _ h => h.elim, fun _ _ _ _ _ _ _ h => h.elim, fun _ _ _ _ _ _ _ _ h => h.elim, trivial⟩
    have e : d' = d := e
    subst e
    exact q v B2 H2 ⟨s2.bb, W2.bh, fun b o hb => s2.keep b o hb (fun _ z => nomatch z), fun b o hb => s2.fr b o hb (fun _ z => nomatch z)⟩ r2
end
section
variable {X : Cx} {δ δ0 : List Slot} {e : Expr} {es : List Expr} {p pos : Pos} {d : PyData} {fs : List Addr} {s0 : Shared} {H0 : Hp}
def tAS (K : PySem.W.Frag) (δ δ0 : List Slot) : TA := fun σ H Q => ∃ B F, Wf K B H σ δ F ∧ ∀ vs B2 H2, Grow B H B2 H2 → ArgsOk K B2 H2 vs δ0 → Q vs H2
abbrev XAS (X : Cx) (δ : List Slot) (es : List Expr) (δ0 : List Slot) : Prop := PA X es (tAS X.K δ δ0)
theorem xas_nil : XAS X δ [] [] := pa_nil.weak fun σ H Q ⟨B, F, W, q⟩ => q [] B H (Grow.refl W.bh) .nil
theorem xas_dat (ha : XE X δ e d) (hr : XAS X δ es δ0) (hs : starEach (e :: es) X.env = (false, eval e X.env) :: starEach es X.env := by rfl) : XAS X δ (e :: es) (.dat d :: δ0) := (pa_cons ha hr hs).weak fun σ H Q ⟨B, F, W, q⟩ =>
  ⟨B, F, W, fun v B1 H1 g1 r1 => ⟨B1, F, W.grow g1, fun vs B2 H2 g2 r2 => q _ B2 H2 (g1.trans g2) (.cons ⟨rfl, r1.mono g2.bb⟩ r2)⟩⟩
theorem xas_clo (i : Nat) {x : Str} {f : Addr} {Bc : Hp} (h : δ[i]? = some (.own (cloR f Bc))) (hr : XAS X δ es δ0) (hi : X.N[i]? = some x := by rfl) (hv : Vis X.env.scope x := by first | exact Or.inl rfl | exact Or.inr (Or.inl rfl) | exact Or.inr (Or.inr rfl)) (hd : (x == ("__debug__" : Str)) = false := by decide) (hcd : (x == ("__classdict__" : Str)) = false := by decide)
    (hs : starEach (.Name x p :: es) X.env = (false, eval (.Name x p) X.env) :: starEach es X.env := by rfl) : XAS X δ (.Name x p :: es) (.own (cloR f Bc) :: δ0) := (pa_cons (pe_var (i := i) hi hv hd hcd) hr hs).weak fun σ H Q ⟨B, F, W, q⟩ => by
  obtain ⟨h1, h2⟩ := Wf.slot W h
  exact ⟨.ref f, h1, B, F, W, fun vs B2 H2 g2 r2 => q _ B2 H2 g2 (.cons ⟨rfl, rfl, h2.trans g2.bb⟩ r2)⟩
theorem xe_callC {k : Nat} {x : Str} {ps : List Str} (G : DefC X.prog X.w X.K X.mg X.base fs s0 H0 k x ps (SpC X.K δ0 d)) (D : Deep fs s0 H0 X) (hr : Room k X.A) (ha : XAS X δ (e :: es) δ0) (hg : Gl X x := by rfl) (hdb : (x == ("__debug__" : Str)) = false := by decide)
    (he : starEach (e :: es) X.env = (false, eval e X.env) :: starEach es X.env := by rfl) (hpl : (backTo pos (starEach es X.env)).any (·.1) = false := by rfl) : XE X δ (.Call (.Name x p) (e :: es) [] pos) d := by
  obtain ⟨f, fd, h1, h2, h3, h4⟩ := G.ex
  exact (pe_callC (E := E0) h4 D hr hg h1 h2 h3 pass0 ha hdb he hpl).weak fun σ H Q ⟨B, F, W, q⟩ => ⟨B, F, W, fun vs B2 H2 g2 r2 => ⟨B2, g2.bh, r2, fun v B3 H3 g3 r3 => q v B3 H3 (g2.trans g3) r3⟩⟩
end
end Dl

set_option Elab.async false
set_option linter.all false
set_option maxRecDepth 100000
set_option maxHeartbeats 4000000
/-! The data level: list.count; lists within lists that are written through and through. -/
namespace Dl
open PySem PySem.Spec PyProof.Rows L2
section
variable {X : Cx}
def rCountD (K : PySem.W.Frag) : V → List V → Hp → VK → Prop := fun x xs H Q => ∃ (a : Addr) (y : V) (d : PyData) (ds : List PyData), x = V.ref a ∧ xs = [y] ∧ Dp K H (V.ref a) (.list ds) ∧ Dp K H y d ∧
  SeqAt.shaped (.list ds) = true ∧ SeqAt.shaped d = true ∧ Q (.int ((ds.countP fun z => PyData.eqv z d : Nat) : Int)) H
theorem mt_countD (hu : X.A.units + 65 < cLine) : MtR X "list.count" (rCountD X.K) := by
  intro pins s σ H x xs v us Q I rx rxs h
  obtain ⟨a, y, d, ds, rfl, rfl, hl, hy, sl, sd, q⟩ := h
  cases rx
  cases rxs with
  | cons ry rt =>
    rename_i uy ut
    cases rt
    obtain ⟨bs, r1⟩ := Dp.reads I d y uy hy ry
    have hxs : PyData.canLayAll0 ds = true := SeqAt.canLay_of_shaped sl
    have hroom : X.A.units + 1 + min (PyData.depthAll ds) d.depth < cLine := room_in_shaped sd hu
    cases hl with
    | lst hs ha =>
      obtain ⟨its, rv, ⟨⟨cls, dd, data, sls⟩, n, ho, hc, hdn, hdt⟩, hlen⟩ := I.list hs
      simp only at hc hdt
      subst hc hdt
      obtain ⟨as, h4⟩ := Dp.readsAll I ds _ its ha rv
      have hmap : its.map (SeqAt.readOf s.heap) = ds := SeqAt.readsAll_map ds its as hxs h4
      refine call_meets PySem.F.slot_list_count ⟨_, ho, rfl⟩ PySem.F.entry_list_count (PySem.F.args_list_count_2 _ _)
        (SeqAt.list_countAt a its.toArray n dd sls uy (fun u => PyData.eqv (SeqAt.readOf s.heap u) d)) ⟨ho, SeqAt.items_eqAt (vs := its.toArray) (show ReadsAll s.heap its.toArray.toList ds as from h4) r1 hxs (SeqAt.canLay_of_shaped sd) hroom, ?_⟩
      have e : its.toArray.toList.countP (fun u => PyData.eqv (SeqAt.readOf s.heap u) d) = ds.countP fun z => PyData.eqv z d := by
        rw [← hmap, List.countP_map]
        rfl
      rw [e]
      exact ⟨.int _, H, I.tok _, ⟨_, rfl⟩, q⟩
end
section
variable {X : Cx} {δ : List Slot} {o e : Expr} {p p1 p2 p3 p4 pos : Pos} {ds : List PyData} {d2 : PyData}
theorem xe_count (hu : X.A.units + 65 < cLine) (ho : XE X δ o (.list ds)) (ha : XE X δ e d2) (h1 : SeqAt.shaped (.list ds) = true) (h2 : SeqAt.shaped d2 = true)
    (hbase : attributeBase o "count" X.env (eval o X.env) = eval o X.env := by rfl)
    (hfew : ((backTo p (starEach [e] X.env)).all (fun x => !x.1) && (backToKw p (keywordEach [] X.env)).all (fun x => x.1.isSome) && decide ([e].length + ([] : List Keyword).length + (if ([] : List Keyword).isEmpty then 0 else 1) < 30)) = true := by rfl)
    (hline : (p2.endLine == p.line) = true := by rfl) (hs : starEach [e] X.env = (false, eval e X.env) :: starEach [] X.env := by rfl) (hplain : (backTo p (starEach [] X.env)).any (·.1) = false := by rfl) :
    XE X δ (.Call (.Attribute o "count" p2) [e] [] p) (.int ((ds.countP fun z => PyData.eqv z d2 : Nat) : Int)) :=
  (pe_bm PySem.F.plainAttrs_list PySem.F.slot_list_count PySem.F.type_list_count (mt_countD hu) ho (pa_cons ha pa_nil hs) hbase hfew hline hs hplain).weak fun σ H Q ⟨B, F, W, q⟩ => ⟨B, F, W, fun v B1 H1 g1 r1 => by
    cases r1 with
    | @lst a xs _ hx rx =>
      refine ⟨.inl ⟨rfl, xs, SqL.of (g1.bh _ _ hx)⟩, B1, F, W.grow g1, fun w B2 H2 g2 r2 => ?_⟩
      have rl : Rp X.K H2 (.ref a) (.list ds) := (Rp.lst hx rx).mono (g2.bb.trans g2.bh)
      exact ⟨a, w, d2, ds, rfl, rfl, rl.dp (lay_sh h1), (r2.mono g2.bh).dp (lay_sh h2), h1, h2, q _ B2 H2 (g1.trans g2) (.int _)⟩⟩
theorem xe_intB {δ : List Slot} {a : Expr} {p pos : Pos} {k : Bool} (hm : X.mg "int" = none) (ha : XE X δ a (.bool k)) (hg : Gl X "int" := by rfl) (hs : starEach [a] X.env = (false, eval a X.env) :: starEach [] X.env := by rfl) : XE X δ (.Call (.Name "int" p) [a] [] pos) (.int (if k then 1 else 0)) :=
  xe_ct call_int1 hm boot_int (xa_cons ha xa_nil hs) (fun B H vs Q s r q => by
    cases r with
    | cons r1 r2 =>
      cases r2
      cases r1
      exact .inr ⟨k, rfl, q _ B H (Grow.refl s) (.int _)⟩) hg (he := hs)
/-! ### isinstance of a slot's value, whatever it is -/
theorem pe_isiV (i : Nat) {T : String} {x y : Str} (hm : X.mg "isinstance" = none) (hm2 : X.mg x = none) (hv : bootBuiltins x = some (.type T)) (hN : X.N[i]? = some y := by rfl) (hvs : Vis X.env.scope y := by first | exact Or.inl rfl | exact Or.inr (Or.inl rfl) | exact Or.inr (Or.inr rfl)) (hdy : (y == ("__debug__" : Str)) = false := by decide) (hcd : (y == ("__classdict__" : Str)) = false := by decide) (hg : Gl X "isinstance" := by rfl) (hg2 : Gl X x := by rfl)
    (hs : starEach [.Name y p1, .Name x p2] X.env = (false, eval (.Name y p1) X.env) :: starEach [.Name x p2] X.env := by rfl) (hs2 : starEach [.Name x p2] X.env = (false, eval (.Name x p2) X.env) :: starEach [] X.env := by rfl) (hpl : (backTo pos (starEach [.Name x p2] X.env)).any (·.1) = false := by rfl)
    (hn : x ≠ "__name__" := by decide) (hd : (x == ("__debug__" : Str)) = false := by decide) :
    PE X (.Call (.Name "isinstance" p) [.Name y p1, .Name x p2] [] pos) (fun σ H Q => ∃ v t k, σ[i]? = some (some v) ∧ TyX X.K H v (.type t) ∧ kitB t T = some k ∧ Q (.bl k) H) :=
  (pe_callB call_isi hg hm boot_isinstance (pa_cons (pe_var hN hvs hdy hcd) (pa_cons (pe_bltn (v := .ty T) hg2 hm2 hv rfl hn hd) pa_nil hs2) hs) (by decide) (by decide) hs hpl).weak fun σ H Q ⟨v, t, k, h1, h2, h3, q⟩ =>
    ⟨v, h1, v, .ty T, .type t, .type T, k, rfl, .ty T, h2, kit_ty h3, q⟩
theorem pe_isi2V (i : Nat) {T U : String} {x y z : Str} {x1} (hm : X.mg "isinstance" = none) (hm2 : X.mg x = none) (hv : bootBuiltins x = some (.type T)) (hm3 : X.mg z = none) (hv3 : bootBuiltins z = some (.type U)) (hN : X.N[i]? = some y := by rfl) (hvs : Vis X.env.scope y := by first | exact Or.inl rfl | exact Or.inr (Or.inl rfl) | exact Or.inr (Or.inr rfl)) (hdy : (y == ("__debug__" : Str)) = false := by decide) (hcd : (y == ("__classdict__" : Str)) = false := by decide)
    (hg : Gl X "isinstance" := by rfl) (hg2 : Gl X x := by rfl) (hg3 : Gl X z := by rfl)
    (hs : starEach [.Name y p1, .Tuple [.Name x p2, .Name z p3] x1 p4] X.env = (false, eval (.Name y p1) X.env) :: starEach [.Tuple [.Name x p2, .Name z p3] x1 p4] X.env := by rfl) (hs2 : starEach [.Tuple [.Name x p2, .Name z p3] x1 p4] X.env = (false, eval (.Tuple [.Name x p2, .Name z p3] x1 p4) X.env) :: starEach [] X.env := by rfl)
    (hpl : (backTo pos (starEach [.Tuple [.Name x p2, .Name z p3] x1 p4] X.env)).any (·.1) = false := by rfl)
    (hs3 : starEach [.Name x p2, .Name z p3] X.env = (false, eval (.Name x p2) X.env) :: starEach [.Name z p3] X.env := by rfl) (hs4 : starEach [.Name z p3] X.env = (false, eval (.Name z p3) X.env) :: starEach [] X.env := by rfl)
    (hn : x ≠ "__name__" := by decide) (hd : (x == ("__debug__" : Str)) = false := by decide) (hn2 : z ≠ "__name__" := by decide) (hd2 : (z == ("__debug__" : Str)) = false := by decide) :
    PE X (.Call (.Name "isinstance" p) [.Name y p1, .Tuple [.Name x p2, .Name z p3] x1 p4] [] pos) (fun σ H Q => ∃ v t k, σ[i]? = some (some v) ∧ kitAnyB t [T, U] = some k ∧ ∀ H2, Same H H2 → TyX X.K H2 v (.type t) ∧ Q (.bl k) H2) :=
  (pe_callB call_isiT hg hm boot_isinstance (pa_cons (pe_var hN hvs hdy hcd) (pa_cons (pe_tup (pa_cons (pe_bltn (v := .ty T) hg2 hm2 hv rfl hn hd) (pa_cons (pe_bltn (v := .ty U) hg3 hm3 hv3 rfl hn2 hd2) pa_nil hs4) hs3)) pa_nil hs2) hs) (by decide) (by decide) hs hpl).weak fun σ H Q ⟨v, t, k, h1, h3, q⟩ =>
    ⟨v, h1, sz_of (by show 2 ≤ 1000000; decide), fun l hl => by
      obtain ⟨ht, q⟩ := q (upd H l (.tup [V.ty T, V.ty U])) (same_upd hl)
      exact ⟨v, l, [.ty T, .ty U], .type t, [.type T, .type U], k, rfl, upd_same, .cons (.ty T) (.cons (.ty U) .nil), ht, kitAny_of (cs := [T, U]) h3, q⟩⟩
theorem ps_isi (i : Nat) {T : String} {x y : Str} {a b : List Stmt} {ta tb : TS} {pos2 : Pos} (hm : X.mg "isinstance" = none) (hm2 : X.mg x = none) (hv : bootBuiltins x = some (.type T)) (ha : PSs X a ta) (hb : PSs X b tb) (hN : X.N[i]? = some y := by rfl) (hvs : Vis X.env.scope y := by first | exact Or.inl rfl | exact Or.inr (Or.inl rfl) | exact Or.inr (Or.inr rfl)) (hdy : (y == ("__debug__" : Str)) = false := by decide) (hcd : (y == ("__classdict__" : Str)) = false := by decide) (hg : Gl X "isinstance" := by rfl) (hg2 : Gl X x := by rfl)
    (hs : starEach [.Name y p1, .Name x p2] X.env = (false, eval (.Name y p1) X.env) :: starEach [.Name x p2] X.env := by rfl) (hs2 : starEach [.Name x p2] X.env = (false, eval (.Name x p2) X.env) :: starEach [] X.env := by rfl) (hpl : (backTo pos (starEach [.Name x p2] X.env)).any (·.1) = false := by rfl)
    (hn : x ≠ "__name__" := by decide) (hd : (x == ("__debug__" : Str)) = false := by decide) (he : ∀ whole, isTrue (.Call (.Name "isinstance" p) [.Name y p1, .Name x p2] [] pos) X.env whole = (do let v ← whole; standAt (Expr.Call (.Name "isinstance" p) [.Name y p1, .Name x p2] [] pos).pos; holding [v] (truthy v)) := by intro _; rfl) :
    PS X (.If (.Call (.Name "isinstance" p) [.Name y p1, .Name x p2] [] pos) a b pos2) (fun D σ H => ∃ v t k, σ[i]? = some (some v) ∧ TyX X.K H v (.type t) ∧ kitB t T = some k ∧ (k = true → ta D σ H) ∧ (k = false → tb D σ H)) :=
  PS.weak (ps_if (pt_truth (pe_isiV i hm hm2 hv hN hvs hdy hcd hg hg2 hs hs2 hpl hn hd) he) ha hb) fun D σ H ⟨v, t, k, h1, h2, h3, h4, h5⟩ => ⟨v, t, k, h1, h2, h3, k, rfl, by
    cases k with
    | true => exact h4 rfl
    | false => exact h5 rfl⟩
theorem ps_isi2 (i : Nat) {T U : String} {x y z : Str} {a b : List Stmt} {ta tb : TS} {pos2 : Pos} {x1} (hm : X.mg "isinstance" = none) (hm2 : X.mg x = none) (hv : bootBuiltins x = some (.type T)) (hm3 : X.mg z = none) (hv3 : bootBuiltins z = some (.type U)) (ha : PSs X a ta) (hb : PSs X b tb) (hN : X.N[i]? = some y := by rfl) (hvs : Vis X.env.scope y := by first | exact Or.inl rfl | exact Or.inr (Or.inl rfl) | exact Or.inr (Or.inr rfl)) (hdy : (y == ("__debug__" : Str)) = false := by decide) (hcd : (y == ("__classdict__" : Str)) = false := by decide)
    (hg : Gl X "isinstance" := by rfl) (hg2 : Gl X x := by rfl) (hg3 : Gl X z := by rfl)
    (hs : starEach [.Name y p1, .Tuple [.Name x p2, .Name z p3] x1 p4] X.env = (false, eval (.Name y p1) X.env) :: starEach [.Tuple [.Name x p2, .Name z p3] x1 p4] X.env := by rfl) (hs2 : starEach [.Tuple [.Name x p2, .Name z p3] x1 p4] X.env = (false, eval (.Tuple [.Name x p2, .Name z p3] x1 p4) X.env) :: starEach [] X.env := by rfl)
    (hpl : (backTo pos (starEach [.Tuple [.Name x p2, .Name z p3] x1 p4] X.env)).any (·.1) = false := by rfl)
    (hs3 : starEach [.Name x p2, .Name z p3] X.env = (false, eval (.Name x p2) X.env) :: starEach [.Name z p3] X.env := by rfl) (hs4 : starEach [.Name z p3] X.env = (false, eval (.Name z p3) X.env) :: starEach [] X.env := by rfl)
    (hn : x ≠ "__name__" := by decide) (hd : (x == ("__debug__" : Str)) = false := by decide) (hn2 : z ≠ "__name__" := by decide) (hd2 : (z == ("__debug__" : Str)) = false := by decide)
    (he : ∀ whole, isTrue (.Call (.Name "isinstance" p) [.Name y p1, .Tuple [.Name x p2, .Name z p3] x1 p4] [] pos) X.env whole = (do let v ← whole; standAt (Expr.Call (.Name "isinstance" p) [.Name y p1, .Tuple [.Name x p2, .Name z p3] x1 p4] [] pos).pos; holding [v] (truthy v)) := by intro _; rfl) :
    PS X (.If (.Call (.Name "isinstance" p) [.Name y p1, .Tuple [.Name x p2, .Name z p3] x1 p4] [] pos) a b pos2) (fun D σ H => ∃ v t k, σ[i]? = some (some v) ∧ kitAnyB t [T, U] = some k ∧ ∀ H2, Same H H2 → TyX X.K H2 v (.type t) ∧ (k = true → ta D σ H2) ∧ (k = false → tb D σ H2)) :=
  PS.weak (ps_if (pt_truth (pe_isi2V i hm hm2 hv hm3 hv3 hN hvs hdy hcd hg hg2 hg3 hs hs2 hpl hs3 hs4 hn hd hn2 hd2) he) ha hb) fun D σ H ⟨v, t, k, h1, h3, h4⟩ => ⟨v, t, k, h1, h3, fun H2 sm => ⟨(h4 H2 sm).1, k, rfl, by
    cases k with
    | true => exact (h4 H2 sm).2.1 rfl
    | false => exact (h4 H2 sm).2.2 rfl⟩⟩
end
/-! ### what is written through and through -/
def lateO : Option HO → Option HO
  | some (.lst xs) => some (.lst (xs ++ [.str "LATE"]))
  | o => o
def spH (fp : List Addr) (H : Hp) : Hp := fun b => if b ∈ fp then lateO (H b) else H b
theorem lateO_some {o : HO} : ∃ o', lateO (some o) = some o' := by
  cases o <;> exact ⟨_, rfl⟩
theorem spH_some {fp : List Addr} {H : Hp} {b : Addr} {o : HO} (h : H b = some o) : ∃ o', spH fp H b = some o' := by
  unfold spH
  by_cases hb : b ∈ fp
  · rw [if_pos hb, h]
    exact lateO_some
  · rw [if_neg hb]
    exact ⟨o, h⟩
inductive AtomV : V → Prop
  | non : AtomV .non
  | bl (b : Bool) : AtomV (.bl b)
  | int (i : Int) : AtomV (.int i)
inductive OwL (P : V → List Addr → Prop) : List V → List Addr → Prop
  | nil : OwL P [] []
  | cons {v : V} {vs : List V} {f g : List Addr} (h : P v f) (r : OwL P vs g) : OwL P (v :: vs) (f ++ g)
def OwT : Nat → Hp → V → List Addr → Prop
  | 0, _, v, fp => AtomV v ∧ fp = []
  | n + 1, H, v, fp => (AtomV v ∧ fp = []) ∨ ∃ a xs g, v = .ref a ∧ H a = some (.lst xs) ∧ xs.length < 1000000 ∧ OwL (OwT n H) xs g ∧ fp = a :: g ∧ fp.Nodup
theorem OwL.imp {P P2 : V → List Addr → Prop} : ∀ {vs : List V} {g : List Addr}, OwL P vs g → (∀ v f, P v f → (∀ b ∈ f, b ∈ g) → P2 v f) → OwL P2 vs g
  | _, _, .nil, _ => .nil
  | _, _, .cons h r, w => .cons (w _ _ h fun b hb => List.mem_append_left _ hb) (r.imp fun v f hp hb => w v f hp fun b q => List.mem_append_right _ (hb b q))
theorem OwL.app {P : V → List Addr → Prop} : ∀ {vs us : List V} {g k : List Addr}, OwL P vs g → OwL P us k → OwL P (vs ++ us) (g ++ k)
  | _, _, _, _, .nil, s => s
  | _, _, _, _, .cons h r, s => by rw [List.cons_append, List.append_assoc]; exact .cons h (r.app s)
theorem OwT.loc : ∀ {n : Nat} {H H2 : Hp} {v : V} {fp : List Addr}, OwT n H v fp → (∀ b ∈ fp, H2 b = H b) → OwT n H2 v fp
  | 0, _, _, _, _, h, _ => h
  | n + 1, H, H2, v, fp, h, e => by
    rcases h with h | ⟨a, xs, g, h1, h2, h3, h4, h5, h6⟩
    · exact .inl h
    · subst h5
      exact .inr ⟨a, xs, g, h1, (e a List.mem_cons_self).trans h2, h3, h4.imp fun u f hu hb => hu.loc fun b hbf => e b (List.mem_cons_of_mem _ (hb b hbf)), rfl, h6⟩
theorem OwL.some {P : V → List Addr → Prop} {H : Hp} (hp : ∀ v f, P v f → ∀ b ∈ f, ∃ o, H b = some o) : ∀ {vs : List V} {g : List Addr}, OwL P vs g → ∀ b ∈ g, ∃ o, H b = some o
  | _, _, .nil, b, hb => nomatch hb
  | _, _, .cons h r, b, hb => by
    rcases List.mem_append.mp hb with q | q
    · exact hp _ _ h b q
    · exact r.some hp b q
theorem OwT.some : ∀ {n : Nat} {H : Hp} {v : V} {fp : List Addr}, OwT n H v fp → ∀ b ∈ fp, ∃ o, H b = some o
  | 0, _, _, _, h, b, hb => by rw [h.2] at hb; cases hb
  | n + 1, H, v, fp, h, b, hb => by
    rcases h with h | ⟨a, xs, g, h1, h2, h3, h4, h5, h6⟩
    · rw [h.2] at hb; cases hb
    · subst h5
      rcases List.mem_cons.mp hb with q | q
      · exact ⟨_, by rw [q]; exact h2⟩
      · exact h4.some (fun v f hv => hv.some) b q
theorem tyAtom {K : PySem.W.Frag} {H : Hp} {v : V} (h : AtomV v) : ∃ d : PyData, Rp K H v d ∧ isRowD d = false ∧ isDictD d = false ∧ isListD d = false := by
  cases h with
  | non => exact ⟨_, .non, rfl, rfl, rfl⟩
  | bl b => exact ⟨_, .bl b, rfl, rfl, rfl⟩
  | int i => exact ⟨_, .int i, rfl, rfl, rfl⟩
/-- f(thing) that writes a thing through and through -/
def SpSpoil (n : Nat) : Sp := fun vs H Q _ => ∃ v fp, vs = [v] ∧ OwT n H v fp ∧ ∀ H2, (∀ b o, H b = some o → H2 b = spH fp H b) → Q .non H2
/-! the data behind it -/
inductive OnceD : Nat → PyData → Prop
  | non (n : Nat) : OnceD n .none
  | bl (n : Nat) (b : Bool) : OnceD n (.bool b)
  | int (n : Nat) (i : Int) : OnceD n (.int i)
  | late (n : Nat) : OnceD n (.str "LATE")
  | lst {n : Nat} {ds : List PyData} (hz : ds.length < 1000000) (h : ∀ d ∈ ds, OnceD n d) (h2 : ∀ d ∈ ds, d ≠ .str "LATE") : OnceD (n + 1) (.list (ds ++ [.str "LATE"]))
theorem OnceD.up : ∀ {n : Nat} {d : PyData}, OnceD n d → OnceD (n + 1) d
  | _, _, .non n => .non _
  | _, _, .bl n b => .bl _ b
  | _, _, .int n i => .int _ i
  | _, _, .late n => .late _
  | _, _, .lst hz h h2 => .lst hz (fun d hd => (h d hd).up) h2
theorem OwL.once {K : PySem.W.Frag} {H2 : Hp} {n : Nat} {P : V → List Addr → Prop} (hp : ∀ v f, P v f → ∃ d, Rp K H2 v d ∧ OnceD n d ∧ d ≠ .str "LATE") : ∀ {vs : List V} {g : List Addr}, OwL P vs g → ∃ ds, RpA K H2 vs ds ∧ ∀ d ∈ ds, OnceD n d ∧ d ≠ .str "LATE"
  | _, _, .nil => ⟨[], .nil, fun d hd => nomatch hd⟩
  | _, _, .cons h r => by
    obtain ⟨d, h1, h2⟩ := hp _ _ h
    obtain ⟨ds, h3, h4⟩ := r.once hp
    refine ⟨d :: ds, .cons h1 h3, fun e he => ?_⟩
    rcases List.mem_cons.mp he with q | q
    · rw [q]; exact h2
    · exact h4 e q
theorem OwT.once {K : PySem.W.Frag} : ∀ {n : Nat} {H H2 : Hp} {v : V} {fp : List Addr}, OwT n H v fp → (∀ b ∈ fp, H2 b = lateO (H b)) → ∃ d, Rp K H2 v d ∧ OnceD n d ∧ d ≠ .str "LATE"
  | 0, H, H2, v, fp, h, e => by
    cases h.1 with
    | non => exact ⟨_, .non, .non _, by intro z; cases z⟩
    | bl b => exact ⟨_, .bl b, .bl _ b, by intro z; cases z⟩
    | int i => exact ⟨_, .int i, .int _ i, by intro z; cases z⟩
  | n + 1, H, H2, v, fp, h, e => by
    rcases h with h | ⟨a, xs, g, h1, h2, h3, h4, h5, h6⟩
    · cases h.1 with
      | non => exact ⟨_, .non, .non _, by intro z; cases z⟩
      | bl b => exact ⟨_, .bl b, .bl _ b, by intro z; cases z⟩
      | int i => exact ⟨_, .int i, .int _ i, by intro z; cases z⟩
    · subst h5
      subst h1
      have ea := e a List.mem_cons_self
      rw [h2] at ea
      have h4' : OwL (fun v f => OwT n H v f ∧ ∀ b ∈ f, b ∈ g) xs g := h4.imp fun v f a b => ⟨a, b⟩
      obtain ⟨ds, r1, r2⟩ := h4'.once (n := n) (K := K) (H2 := H2) fun v f hv => hv.1.once fun b hb => e b (List.mem_cons_of_mem _ (hv.2 b hb))
      refine ⟨.list (ds ++ [.str "LATE"]), .lst ea (r1.append (.cons (.str _) .nil)), .lst (by rw [← r1.length]; exact h3) (fun d hd => (r2 d hd).1) (fun d hd => (r2 d hd).2), by intro z; cases z⟩
theorem late_lay : PyData.canLay0 (.str "LATE") = true := by kernel_rfl
theorem OnceD.lay : ∀ {n : Nat} {d : PyData}, OnceD n d → PyData.canLay0 d = true ∧ d.depth ≤ n
  | _, _, .non n => ⟨by simp [PyData.canLay0], by simp [PyData.depth]⟩
  | _, _, .bl n b => ⟨by simp [PyData.canLay0], by simp [PyData.depth]⟩
  | _, _, .int n i => ⟨by simp [PyData.canLay0], by simp [PyData.depth]⟩
  | _, _, .late n => ⟨late_lay, by simp [PyData.depth]⟩
  | _, _, @OnceD.lst n ds hz h h2 => by
    have key : ∀ l : List PyData, (∀ d ∈ l, PyData.canLay0 d = true ∧ d.depth ≤ n) → PyData.canLayAll0 l = true ∧ PyData.depthAll l ≤ n := by
      intro l
      induction l with
      | nil => intro _; exact ⟨by simp [PyData.canLayAll0], by simp [PyData.depthAll]⟩
      | cons a r ih =>
        intro hl
        have h1 := hl a List.mem_cons_self
        have h2 := ih fun d hd => hl d (List.mem_cons_of_mem _ hd)
        refine ⟨by simp only [PyData.canLayAll0, h1.1, h2.1]; rfl, ?_⟩
        simp only [PyData.depthAll]
        have := h1.2
        have := h2.2
        omega
    have hk := key (ds ++ [.str "LATE"]) fun d hd => by
      rcases List.mem_append.mp hd with q | q
      · exact (h d q).lay
      · rw [List.mem_singleton.mp q]
        exact ⟨late_lay, by simp [PyData.depth]⟩
    refine ⟨by simp only [PyData.canLay0]; exact hk.1, ?_⟩
    simp only [PyData.depth]
    have := hk.2
    omega
theorem OnceD.shaped {n : Nat} {d : PyData} (h : OnceD n d) (hn : n ≤ 64) : SeqAt.shaped d = true := by
  unfold SeqAt.shaped
  rw [h.lay.1, Bool.true_and, decide_eq_true_eq]
  have := h.lay.2
  omega
def F_once (n : Nat) (ds : List PyData) (d : PyData) : Prop := ∃ x, ds = [x] ∧ OnceD n x ∧ d = .bool true
/-- f(thing): a thing all of whose lists stand in one place alone -/
def SpApart (n : Nat) : Sp := fun vs H Q _ => ∃ v fp, vs = [v] ∧ OwT n H v fp ∧ ∀ H2, (∀ b o, H b = some o → b ∉ fp → H2 b = some o) → (∀ b o, H b = some o → ∃ o', H2 b = some o') → Q (.bl true) H2
theorem late_not {n : Nat} {d : PyData} (h : OnceD n d) (hn : d ≠ .str "LATE") : PyData.eqv d (.str "LATE") = false := by
  cases h with
  | late => exact (hn rfl).elim
  | non => with_unfolding_all rfl
  | bl => with_unfolding_all rfl
  | int => with_unfolding_all rfl
  | lst => with_unfolding_all rfl
theorem late_is : PyData.eqv (.str "LATE") (.str "LATE") = true := by kernel_rfl
theorem late_count {n : Nat} {ds : List PyData} (h : ∀ d ∈ ds, OnceD n d) (h2 : ∀ d ∈ ds, d ≠ .str "LATE") : (ds ++ [PyData.str "LATE"]).countP (fun z => PyData.eqv z (.str "LATE")) = 1 := by
  rw [List.countP_append, List.countP_eq_zero.mpr fun d hd => by rw [late_not (h d hd) (h2 d hd)]; decide]
  rw [List.countP_cons, late_is]
  rfl
end Dl

set_option Elab.async false
set_option linter.all false
set_option maxRecDepth 100000
set_option maxHeartbeats 4000000
/-! The data level: calls to which a lambda is handed. -/
namespace Dl
open PySem PySem.Spec PyProof.Rows L2 LamX
/-- it tells a new pair -/
def clNew (l1 l2 : List Bool) (Bc : Hp) : Hp → VK → XK → Prop := fun H Q _ => Same Bc H ∧ ∀ t p q H2, Same H H2 → NewPair H H2 t p q l1 l2 → Q (.ref t) H2
/-! ### what a lambda captures -/
def capAt (is : List Nat) : Nat → List Slot → List Slot
  | _, [] => []
  | n, s :: r => (if is.contains n then (match s with | .dat d => .dat d | .raw v => .raw v | _ => .no) else .no) :: capAt is (n + 1) r
theorem capAt_length (is : List Nat) : ∀ (n : Nat) (δ : List Slot), (capAt is n δ).length = δ.length
  | _, [] => rfl
  | n, s :: r => by unfold capAt; rw [List.length_cons, List.length_cons, capAt_length is (n + 1) r]
theorem capAt_get (is : List Nat) : ∀ (n : Nat) (δ : List Slot) (i : Nat) (s : Slot), (capAt is n δ)[i]? = some s → s = .no ∨ (δ[i]? = some s ∧ ((∃ d, s = .dat d) ∨ ∃ v, s = .raw v))
  | _, [], i, s, h => by simp [capAt] at h
  | n, a :: r, 0, s, h => by
    unfold capAt at h
    simp only [List.getElem?_cons_zero, Option.some.injEq] at h
    subst h
    split
    · cases a with
      | dat d => exact .inr ⟨rfl, .inl ⟨d, rfl⟩⟩
      | raw v => exact .inr ⟨rfl, .inr ⟨v, rfl⟩⟩
      | no => exact .inl rfl
      | own r => exact .inl rfl
    · exact .inl rfl
  | n, a :: r, i + 1, s, h => by
    unfold capAt at h
    simp only [List.getElem?_cons_succ] at h ⊢
    exact capAt_get is (n + 1) r i s h
section
variable {K : PySem.W.Frag} {B H B1 H1 : Hp} {σ : L2.St} {δ : List Slot} {F : Nat → List Addr} {ns : List Int} {P : Addr} {q : Str} {c' : Addr}
/-- the captured slots alone, at what is known -/
theorem Wf.cap (W : Wf K B H σ δ F) (is : List Nat) : Wf K B B σ (capAt is 0 δ) (fun _ => []) where
  bh := Same.refl B
  len := by rw [capAt_length]; exact W.len
  sl := fun i s e => by
    rcases capAt_get is 0 δ i s e with h | ⟨h, hs⟩
    · subst h
      have hi : i < σ.length := by
        have := (List.getElem?_eq_some_iff.mp e).1
        rw [capAt_length, W.len] at this
        exact this
      refine ⟨σ[i], List.getElem?_eq_getElem hi, ?_⟩
      show SlotOk K B B _ .no []
      cases σ[i] <;> rfl
    · obtain ⟨o, h1, h2⟩ := W.sl i s h
      refine ⟨o, h1, ?_⟩
      cases o with
      | none =>
        rcases hs with ⟨d, rfl⟩ | ⟨v, rfl⟩
        · exact h2.elim
        · exact h2.elim
      | some u =>
        rcases hs with ⟨d, rfl⟩ | ⟨v, rfl⟩
        · exact ⟨rfl, h2.2⟩
        · exact ⟨rfl, h2.2⟩
  out := fun _ _ => rfl
  dis := fun i j a h _ => nomatch h
  own := fun i a h => nomatch h
theorem Wf.at_ (W : Wf K B B σ δ (fun _ => [])) (s : Same B H) : Wf K B H σ δ (fun _ => []) := W.grow ⟨Same.refl B, s, s, fun _ _ _ => rfl⟩
theorem codes_lam (W : Wf K B H σ δ F) (h0 : δ[0]? = some (.own (scrT K ns P q))) (lh : LamH P q c' H H1) : ∃ B1, Wf K B1 H1 σ δ F ∧ Step B H F B1 H1 F ∧ B1 c' = some (CodeO c' q) := by
  obtain ⟨o, a1, a2⟩ := W.sl 0 _ h0
  cases o with
  | none => exact a2.elim
  | some v =>
    obtain ⟨⟨a, e1, e2⟩, hF, ps, hP, hc⟩ := a2
    rcases lh with ⟨rfl, hcode, ps', pos, hP', hca⟩ | ⟨hn, ps', pos, hP', rfl⟩
    · rw [hP] at hP'
      cases hP'
      obtain ⟨c, ec, eB⟩ := hc.2 pos _ hca
      cases ec
      exact ⟨B, W, Step.refl, eB⟩
    · rw [hP] at hP'
      cases hP'
      have hcB : B c' = none := W.bh.free hn
      have ncF : ∀ k, c' ∉ F k := fun k hk => by
        obtain ⟨_, u, hu⟩ := W.own k c' hk
        rw [hn] at hu
        cases hu
      have hPF : P ∈ F 0 := by rw [hF]; exact List.mem_cons_self
      have hPB : B P = none := (W.own 0 P hPF).1
      have hPc : P ≠ c' := fun z => by rw [z, hn] at hP; cases hP
      have h1of : ∀ b, b ≠ P → b ≠ c' → upd (upd H P (.tbl (ps ++ #[rawInt pos.line, rawInt pos.col, .ref c']))) c' (CodeO c' q) b = H b := fun b h1 h2 => by rw [upd_ne h2, upd_ne h1]
      have sB : Same B (upd B c' (CodeO c' q)) := same_upd hcB
      refine ⟨upd B c' (CodeO c' q), ⟨fun b o e => ?_, W.len, fun i s e => ?_, W.out, W.dis, fun i a ha => ?_⟩, ⟨sB, fun b o hb hnF => ?_, fun b o hb hnF => ?_, fun b o hb => ?_, fun i b hb => .inl ⟨i, hb⟩⟩, upd_same⟩
      · by_cases hb : b = c'
        · rw [hb, upd_same] at e ⊢
          exact e
        · rw [upd_ne hb] at e
          rw [h1of b (fun z => by rw [z, hPB] at e; cases e) hb]
          exact W.bh _ _ e
      · by_cases hi : i = 0
        · subst hi
          rw [h0] at e
          cases e
          refine ⟨some v, a1, ⟨a, e1, sB.seq e2⟩, hF, _, by rw [upd_ne hPc]; exact upd_same, ?_, fun p' cv hcv => ?_⟩
          · rw [show (ps ++ #[rawInt pos.line, rawInt pos.col, Value.ref c']).toList = ps.toList ++ [rawInt pos.line, rawInt pos.col, .ref c'] by simp]
            exact PySem.TriplesOk_snoc _ _ _ _ hc.1
          · rw [show (ps ++ #[rawInt pos.line, rawInt pos.col, Value.ref c']).toList = ps.toList ++ [rawInt pos.line, rawInt pos.col, .ref c'] by simp] at hcv
            rcases among_app _ hc.1 hcv with k | k
            · obtain ⟨c, k1, k2⟩ := hc.2 p' cv k
              exact ⟨c, k1, sB _ _ k2⟩
            · exact ⟨c', k, upd_same⟩
        · obtain ⟨o, b1, b2⟩ := W.sl i s e
          exact ⟨o, b1, b2.loc sB fun a ha => h1of a (fun z => hi (W.dis i 0 a ha (by rw [z]; exact hPF))) (fun z => ncF i (z ▸ ha))⟩
      · obtain ⟨k1, o, k2⟩ := W.own i a ha
        have hac : a ≠ c' := fun z => ncF i (z ▸ ha)
        refine ⟨by rw [upd_ne hac]; exact k1, ?_⟩
        by_cases haP : a = P
        · exact ⟨_, by rw [haP, upd_ne hPc]; exact upd_same⟩
        · exact ⟨o, by rw [h1of a haP hac]; exact k2⟩
      · rw [h1of b (fun z => hnF 0 (by rw [z]; exact hPF)) (fun z => by rw [z, hn] at hb; cases hb)]
        exact hb
      · rw [upd_ne (fun z => by rw [z, hn] at hb; cases hb)]
      · by_cases hbP : b = P
        · exact ⟨_, by rw [hbP, upd_ne hPc]; exact upd_same⟩
        · exact ⟨o, by rw [h1of b hbP (fun z => by rw [z, hn] at hb; cases hb)]; exact hb⟩
end
section
variable {X : Cx} {pins : List (Addr × Obj)} {σ : L2.St} {H : Hp} {s : Shared}
theorem lam_endD {q x : Str} {kl k : Nat} {tb : XK → TE} {g f c' : Addr} {ps : List Str} {sp : Sp} {params : Arguments} {body : Expr} {scope : Scope} {pm ctv : Value} {Q : VK} {us : List Value} {vs : List V} (eq : q = X.env.qual ++ "<lambda>")
    (G : Runs X.prog X.w X.K X.mg X.base (frs X.stack) s H (L2.CX X.prog X.w) (kl + 1) f (fun H2 Q E => H2 c' = some (CodeO c' q) ∧ tb E σ H2 Q) → DefC X.prog X.w X.K X.mg X.base (frs X.stack) s H k x ps sp) (hm : X.mg x = some (.ref g))
    (L : LamS X.env.scope scope) (hst : X.stack = X.env :: X.outer) (hbind : bindArgs (PySem.W.kla_fn "<lambda>" (X.env.qual ++ "<lambda>") params body scope (cloFrom X.env.cells scope.names []) pm (.ref c') ctv) ⟨[], []⟩ = pure [])
    (hbody : ∀ (A : Around) (outer : List Env) (s : Shared) (H : Hp) (E : XK), Room kl (A.deeper (lamEnv X scope s.heap.objs.size f c')) → PE (lamCx X A outer s H E scope f c') body (tb E))
    (hr : Room k X.A) (I : Inv X ((f, lamObj X params body scope pm ctv c') :: pins) σ H s) (r : Vals vs us) (h : sp vs H Q E0) : X.K.In s.heap ∧ wpAny (model X.prog X.w) X.A (call (.ref g) us) (EP X pins σ Q) X.xe s := by
  refine ⟨I.kIn, ?_⟩
  obtain ⟨hf, hfn, hL, hF, _⟩ := I.pin _ (List.mem_append_right _ List.mem_cons_self)
  have hfr : f ∉ frs X.stack := fun z => by
    rcases List.mem_cons.mp (I.stkSub f z) with e | e
    · exact hL e
    · exact hF e
  have R := runs_lam (X := X) I L hf hfn hfr hbind hbody
  rw [← eq] at R
  obtain ⟨g2, fd, hm2, _, hb, F⟩ := (G R).ex
  rw [hm] at hm2
  cases hm2
  have hl : (us ++ []).length = ps.length := by rw [List.append_nil, ← r.length]; exact F.len _ _ _ _ h
  have hb2 := hb s us I.kIn hl
  rw [List.append_nil] at hb2
  refine wpAny_call (codeAny_mono (F.run X.A X.stack s H ⟨us, []⟩ us vs Q E0 hr I.env0 Chain.refl hb2 r h) fun r s' hq => ?_)
  cases r with
  | error e => exact (show False from hq).elim
  | ok fl =>
    cases fl with
    | ret u =>
      obtain ⟨v, H', I', rv, q⟩ := I.after hq
      exact ⟨v, H', Inv.lessPin I', rv, q⟩
    | next => exact False.elim hq
    | brk => exact False.elim hq
    | cont => exact False.elim hq
end
/-- the reading of a lambda's body over the captured slots -/
def lamTb (K : PySem.W.Frag) (δc : List Slot) (cl : Hp → Hp → VK → XK → Prop) (E : XK) : TE := fun σ H Q => ∃ Bc, Wf K Bc Bc σ δc (fun _ => []) ∧ cl Bc H Q E
/-- a lambda and what is asked of it -/
structure LamOk (X : Cx) (δ : List Slot) (q : Str) (kl : Nat) (params : Arguments) (body : Expr) (scope : Scope) (cl : Hp → Hp → VK → XK → Prop) : Prop where
  ls : LamS X.env.scope scope
  df : defaultsOf params X.env = ([], [])
  bind : ∀ (q : Str) (cls : List (Str × Addr)) (pm cv ctv : Value), bindArgs (PySem.W.kla_fn "<lambda>" q params body scope cls pm cv ctv) ⟨[], []⟩ = pure []
  body : ∃ is : List Nat, ∀ (A : Around) (outer : List Env) (s : Shared) (H : Hp) (E : XK) (f c' : Addr), Room kl (A.deeper (lamEnv X scope s.heap.objs.size f c')) → PE (lamCx X A outer s H E scope f c') body (lamTb X.K (capAt is 0 δ) cl E)
  same : ∀ Bc H Q E, cl Bc H Q E → Same Bc H
section
variable {X : Cx} {δ : List Slot} {q x : Str} {k kl : Nat} {ps : List Str} {c P : Addr} {params : Arguments} {body e e1 e2 : Expr} {scope : Scope} {lpos p pos : Pos} {d d1 d2 : PyData} {ns : List Int} {cl : Hp → Hp → VK → XK → Prop} {g : Addr}
/-- x(lambda: .., e) -/
theorem xf_lam1 (LA : LamAt X q c P) (L : LamOk X δ q kl params body scope cl) (h0 : δ[0]? = some (.own (scrT X.K ns P q))) (hm : X.mg x = some (.ref g)) (hk : PySem.W.keepIn X.K (.ref g) = true)
    (hG : ∀ (s : Shared) (H : Hp) (f : Addr) (Bc : Hp), Runs X.prog X.w X.K X.mg X.base (frs X.stack) s H (L2.CX X.prog X.w) (kl + 1) f (cl Bc) → DefC X.prog X.w X.K X.mg X.base (frs X.stack) s H k x ps (SpC X.K [.own (cloR f Bc), .dat d2] d))
    (hr : Room k X.A) (he : XE X δ e d2) (hg : Gl X x := by rfl) (hdb : (x == ("__debug__" : Str)) = false := by decide)
    (hs : starEach (.Lambda params body scope lpos :: [e]) X.env = (false, eval (.Lambda params body scope lpos) X.env) :: starEach [e] X.env := by rfl) (hs2 : starEach [e] X.env = (false, eval e X.env) :: starEach [] X.env := by rfl) (hpl : (backTo pos (starEach [e] X.env)).any (·.1) = false := by rfl) :
    XF X δ (.Call (.Name x p) [.Lambda params body scope lpos, e] [] pos) (fun d' δ' => d' = d ∧ δ' = δ) := by
  obtain ⟨is, hbody⟩ := L.body
  refine (pe_callS hg hm hk (pas_lam LA L.ls L.df (pas_of (xa_cons he xa_nil hs2)) hs) hdb hs hpl).weak fun σ H Q ⟨B, F, W, qq⟩ pins => ?_
  obtain ⟨o, a1, a2⟩ := W.sl 0 _ h0
  cases o with
  | none => exact a2.elim
  | some v0 =>
    obtain ⟨_, _, pt, hP, hc⟩ := a2
    refine ⟨⟨pt, hP, hc.mono W.bh⟩, fun f c' pm ctv H1 lh => ?_⟩
    obtain ⟨B1, W1, st1, hcB⟩ := codes_lam W h0 lh
    refine ⟨B1, F, W1, fun vs B2 H2 g2 r2 us s1 I1 rv => ?_⟩
    cases r2 with
    | @cons v2 _ _ _ r2 r3 =>
      cases r3
      have W2 := W1.grow g2
      refine lam_endD (kl := kl) (k := k) (x := x) (ps := ps) (tb := lamTb X.K (capAt is 0 δ) cl) (sp := SpC X.K [.own (cloR f B2), .dat d2] d) (vs := [.ref f, v2]) LA.eq (fun R => hG s1 H2 f B2 (R.imp fun H3 Q3 E3 hcl => ⟨?_, B2, W2.cap is, hcl⟩)) hm L.ls LA.st (L.bind _ _ _ _ _) (fun A outer s H E hrm => hbody A outer s H E f c' hrm) hr I1 (.cons rfl rv) ?_
      · exact L.same _ _ _ _ hcl _ _ (g2.bb _ _ hcB)
      · exact ⟨B2, g2.bh, .cons ⟨rfl, rfl, Same.refl _⟩ (.cons ⟨rfl, r2⟩ .nil), fun v B3 H3 g3 r3 => qq v d δ B3 H3 F (st1.trans (Step.of (g2.trans g3))) (W2.grow g3) ⟨rfl, rfl⟩ r3⟩
/-- x(e1, e2, lambda: ..) -/
theorem xf_lam3 (LA : LamAt X q c P) (L : LamOk X δ q kl params body scope cl) (h0 : δ[0]? = some (.own (scrT X.K ns P q))) (hm : X.mg x = some (.ref g)) (hk : PySem.W.keepIn X.K (.ref g) = true)
    (hG : ∀ (s : Shared) (H : Hp) (f : Addr) (Bc : Hp), Runs X.prog X.w X.K X.mg X.base (frs X.stack) s H (L2.CX X.prog X.w) (kl + 1) f (cl Bc) → DefC X.prog X.w X.K X.mg X.base (frs X.stack) s H k x ps (SpC X.K [.dat d1, .dat d2, .own (cloR f Bc)] d))
    (hr : Room k X.A) (he1 : XE X δ e1 d1) (he2 : XE X δ e2 d2) (hg : Gl X x := by rfl) (hdb : (x == ("__debug__" : Str)) = false := by decide)
    (hs1 : starEach (e1 :: [e2, .Lambda params body scope lpos]) X.env = (false, eval e1 X.env) :: starEach [e2, .Lambda params body scope lpos] X.env := by rfl) (hs2 : starEach (e2 :: [.Lambda params body scope lpos]) X.env = (false, eval e2 X.env) :: starEach [.Lambda params body scope lpos] X.env := by rfl)
    (hs3 : starEach (.Lambda params body scope lpos :: []) X.env = (false, eval (.Lambda params body scope lpos) X.env) :: starEach [] X.env := by rfl) (hpl : (backTo pos (starEach [e2, .Lambda params body scope lpos] X.env)).any (·.1) = false := by rfl) :
    XF X δ (.Call (.Name x p) [e1, e2, .Lambda params body scope lpos] [] pos) (fun d' δ' => d' = d ∧ δ' = δ) := by
  obtain ⟨is, hbody⟩ := L.body
  refine (pe_callS hg hm hk (pas_cons he1 (pas_cons he2 (pas_lam LA L.ls L.df (pas_of pa_nil) hs3) hs2) hs1) hdb hs1 hpl).weak fun σ H Q ⟨B, F, W, qq⟩ pins => ?_
  refine ⟨B, F, W, fun v1 B1 H1 g1 r1 u1 ru1 => ⟨B1, F, W.grow g1, fun v2 B2 H2 g2 r2 u2 ru2 => ?_⟩⟩
  have W2 := (W.grow g1).grow g2
  obtain ⟨o, a1, a2⟩ := W2.sl 0 _ h0
  cases o with
  | none => exact a2.elim
  | some v0 =>
    obtain ⟨_, _, pt, hP, hc⟩ := a2
    refine ⟨⟨pt, hP, hc.mono W2.bh⟩, fun f c' pm ctv H3 lh => ?_⟩
    obtain ⟨B3, W3, st3, hcB⟩ := codes_lam W2 h0 lh
    refine fun us s1 I1 rv => ?_
    cases rv
    refine lam_endD (kl := kl) (k := k) (x := x) (ps := ps) (tb := lamTb X.K (capAt is 0 δ) cl) (sp := SpC X.K [.dat d1, .dat d2, .own (cloR f B3)] d) (vs := [v1, v2, .ref f]) LA.eq (fun R => hG s1 H3 f B3 (R.imp fun H4 Q4 E4 hcl => ⟨?_, B3, W3.cap is, hcl⟩)) hm L.ls LA.st (L.bind _ _ _ _ _) (fun A outer s H E hrm => hbody A outer s H E f c' hrm) hr I1 (.cons ru1 (.cons ru2 (.cons rfl .nil))) ?_
    · exact L.same _ _ _ _ hcl _ _ hcB
    · exact ⟨B3, W3.bh, .cons ⟨rfl, r1.mono (g2.bb.trans st3.bb)⟩ (.cons ⟨rfl, r2.mono st3.bb⟩ (.cons ⟨rfl, rfl, Same.refl _⟩ .nil)), fun v B4 H4 g4 r4 => qq v d δ B4 H4 F ((Step.of (g1.trans g2)).trans (st3.trans (Step.of g4))) (W3.grow g4) ⟨rfl, rfl⟩ r4⟩
end
/-! ### what a lambda's body does -/
section
variable {Y : Cx} {δc : List Slot} {k i : Nat} {x a : Str} {ps : List Str} {e : Expr} {es : List Expr} {ds : List PyData} {l1 l2 : List Bool} {p pos : Pos} {E : XK} {C : Addr} {fld : Str} {y : PyData} {body : Expr} {g : Gh} {f : Addr}
theorem lam_new {fr : List PyData → List Bool → List Bool → Prop} (G : Def Y.prog Y.w Y.K Y.mg Y.base k x ps (SpF Y.K fr)) (hr : Room k Y.A) (ha : XA Y δc (e :: es) ds) (hf : fr ds l1 l2) (hg : Gl Y x := by rfl) (hdb : (x == ("__debug__" : Str)) = false := by decide)
    (he : starEach (e :: es) Y.env = (false, eval e Y.env) :: starEach es Y.env := by rfl) (hpl : (backTo pos (starEach es Y.env)).any (·.1) = false := by rfl) : PE Y (.Call (.Name x p) (e :: es) [] pos) (lamTb Y.K δc (clNew l1 l2) E) := by
  obtain ⟨fa, fd, h1, h2, h3, h4⟩ := G.ex
  refine (pe_call h4 hr hg h1 h2 h3 .nil pass0 ha hdb he hpl).weak fun σ H Q ⟨Bc, W, sm, q⟩ => ⟨Bc, _, W.at_ sm, fun vs B2 H2 g2 r2 => ?_⟩
  show SpF Y.K fr (vs ++ []) H2 Q _
  rw [List.append_nil]
  exact ⟨B2, ds, l1, l2, g2.bh, r2, hf, fun t pa qa H3 sm3 n => q t pa qa H3 (g2.hh.trans sm3) (n.back fun b o hb => ⟨o, g2.hh b o hb⟩)⟩
theorem lam_err (hY : Takes Y (fun cls d _ H => E cls d H)) (h : ∀ g, WantE Y g C fld y → XR Y δc body g) : PE Y body (lamTb Y.K δc (fun Bc => clErr Y.K Bc C fld y) E) := by
  let ι := {z : Hp × Hp // ∀ d v B2 H2, Grow z.1 z.2 B2 H2 → B2 d = none → H2 d = some (.xd [(fld, v)]) → z.2 d = none → Rp Y.K B2 v y → E (.ref C) (some d) H2}
  have hp : PE Y body (fun σ H Q => ∃ z : ι, tR Y.K δc (some (z.1.1, z.1.2, fun _ => [])) σ H Q) := pe_ex fun z : ι => h _ ⟨E, hY, fun d v B H F gh sm hb hd hn rv => by
    have s2 : Step z.1.1 z.1.2 (fun _ => []) B H F := gh
    exact z.2 d v B H ⟨s2.bb, sm, fun b o hb => s2.keep b o hb (fun _ z => nomatch z), fun b o hb => s2.fr b o hb (fun _ z => nomatch z)⟩ hb hd (hn _ rfl) rv⟩
  exact hp.weak fun σ H Q ⟨Bc, W, sm, q⟩ => ⟨⟨(Bc, H), q⟩, Bc, _, W.at_ sm, Step.refl⟩
theorem lam_takes {X : Cx} {A : Around} {outer : List Env} {s : Shared} {H : Hp} {scope : Scope} {f c' : Addr} : Takes (lamCx X A outer s H E scope f c') (fun cls d _ H => E cls d H) := takes_of rfl rfl rfl rfl
/-- a slot's def is called: it raises -/
theorem xr_callV {fe : List PyData → Addr → Str → PyData → Prop} (i : Nat) (G : DefX Y.prog Y.w Y.K Y.mg Y.base k x ps (SpE Y.K fe)) (hm : Y.mg x = some (.ref f)) (hr : Room k Y.A) (hi : δc[i]? = some (.raw (.ref f))) (ha : XA Y δc (e :: es) ds) (hf : fe ds C fld y) (hw : WantE Y g C fld y) (hN : Y.N[i]? = some a := by rfl) (hv : Vis Y.env.scope a := by first | exact Or.inl rfl | exact Or.inr (Or.inl rfl) | exact Or.inr (Or.inr rfl)) (hda : (a == ("__debug__" : Str)) = false := by decide) (hca : (a == ("__classdict__" : Str)) = false := by decide)
    (he : starEach (e :: es) Y.env = (false, eval e Y.env) :: starEach es Y.env := by rfl) (hpl : (backTo pos (starEach es Y.env)).any (·.1) = false := by rfl) : XR Y δc (.Call (.Name a p) (e :: es) [] pos) g := by
  obtain ⟨fa, fd, h1, h2, h3, h4⟩ := G.ex
  rw [hm] at h1
  cases h1
  obtain ⟨E, tk, hE⟩ := hw.ex
  refine ⟨fun pins s σ H Q I ⟨B, F, W, gh⟩ => ?_⟩
  refine wpAny_Call_Name_kw (thn ((pe_var (pos := p) (i := i) hN hv hda hca).run pins s σ H (fun v H2 => v = .ref f ∧ H2 = H) I ⟨.ref f, W.raw hi, rfl, rfl⟩) fun u s2 ⟨v, H2, I2, r2, q2⟩ => ?_)
  obtain ⟨ev, eH⟩ := q2
  subst ev
  rw [eH] at I2
  obtain rfl : u = Value.ref f := r2
  refine PySem.W.callWith_K (h₀ := Y.base) I2.ok.mod.kin h2 (thn (ha.run pos pins s2 σ H _ I2 ⟨B, F, W, fun vs B2 H2 g2 r => (?_ : SpE Y.K fe (vs ++ []) H2 Q E)⟩) fun us s3 ⟨vs, H3, I3, r3, q3⟩ => ⟨I3.kIn, run_fn h4 hr h3 .nil (passes_call tk fun _ _ _ _ h => h) I3 r3 q3⟩) he hpl
  rw [List.append_nil]
  exact ⟨B2, ds, C, fld, y, g2.bh, r, hf, fun d v B3 H3 g3 hb hd hn rv => hE d v B3 H3 F (gh.step (Step.of (g2.trans g3))) g3.bh hb hd ((gh.step (Step.of g2)).none hn) rv⟩
end
/-! ### not, with effects; calls with keywords alone; a walk over defs -/
section
variable {X : Cx} {δ : List Slot} {a e1 e2 tg : Expr} {pos p p0 kp1 kp2 : Pos} {ds : List PyData} {d d1 d2 : PyData} {x n1 n2 : Str} {rest body : List Stmt} {R : Post} {es : List Expr}
theorem xft_not {PB : Bool → List Slot → Prop} (ha : XFT X δ a PB) : XFT X δ (.UnaryOp .Not a pos) (fun b δ' => PB (!b) δ') := (pt_not ha).weak fun σ H Q ⟨B, F, W, q⟩ => ⟨B, F, W, fun b δ2 B2 H2 F2 s W2 hp => q (!b) δ2 B2 H2 F2 s W2 (show PB (!!b) δ2 by rw [Bool.not_not]; exact hp)⟩
theorem xft_imp {PB PB' : Bool → List Slot → Prop} (h : XFT X δ a PB) (w : ∀ b δ', PB b δ' → PB' b δ') : XFT X δ a PB' := L2.PT.weak h fun σ H Q ⟨B, F, W, q⟩ => ⟨B, F, W, fun b δ2 B2 H2 F2 s W2 hp => q b δ2 B2 H2 F2 s W2 (w _ _ hp)⟩
/-- if not e: .. with e true -/
theorem xb_ifNotT {sts : List Stmt} (he : XF X δ a (fun d' δ' => d' = .bool true ∧ δ' = δ)) (h : XB X δ rest R) (hT : ∀ whole, isTrue a X.env whole = (do let v ← whole; standAt a.pos; holding [v] (truthy v)) := by intro _; rfl) : XB X δ (.If (.UnaryOp .Not a p0) sts [] pos :: rest) R :=
  xb_ifF (PB := fun b δ' => b = false ∧ δ' = δ) (fun δ' => δ' = δ) (xft_imp (xft_not (xft_tru (PB := fun b δ' => b = true ∧ δ' = δ) he (fun d δ1 ⟨h1, h2⟩ => by subst h1; exact ⟨True.intro, rfl, h2⟩) hT)) fun b δ' ⟨h1, h2⟩ => ⟨(by cases b with | false => rfl | true => cases h1), h2⟩)
    (fun δ1 h1 => by cases h1.1) (fun δ1 ⟨_, h1⟩ => xb_nil h1) (fun δ' h' => by subst h'; exact h)
def swapK {α : Type} (us ws : List α) : List α := match us, ws with
  | [], [a, b] => [b, a]
  | _, _ => []
theorem swapK_rel : ∀ {vs : List V} {us : List Value} {zs : List V} {ws : List Value}, Vals vs us → Vals zs ws → Vals (swapK vs zs) (swapK us ws)
  | _, _, _, _, .cons _ _, _ => .nil
  | _, _, _, _, .nil, .nil => .nil
  | _, _, _, _, .nil, .cons _ .nil => .nil
  | _, _, _, _, .nil, .cons a (.cons b .nil) => .cons b (.cons a .nil)
  | _, _, _, _, .nil, .cons _ (.cons _ (.cons _ _)) => .nil
theorem swapK_len {us ws : List Value} (h : (swapK us ws).length = 2) : ∃ a b, us = [] ∧ ws = [a, b] := by
  match us, ws, h with
  | [], [a, b], _ => exact ⟨a, b, rfl, rfl⟩
  | [], [], h => cases h
  | [], [_], h => cases h
  | [], _ :: _ :: _ :: _, h => cases h
  | _ :: _, _, h => cases h
/-- f(n1 = e1, n2 = e2), the parameters the other way round -/
theorem xe_callK2 {k : Nat} {f : List PyData → PyData → Prop} (hr : Room k X.A)
    (hkb : ∃ g fd, X.mg x = some (.ref g) ∧ PySem.W.keepIn X.K (.ref g) = true ∧ FnOk X.prog X.w X.K X.mg X.base CX0 k g fd [n2, n1] (SpP X.K f) ∧ KBinds X.K fd [n2, n1] [n1, n2] swapK swapK)
    (h1 : XE X δ e1 d1) (h2 : XE X δ e2 d2) (hf : f [d2, d1] d) (hg : Gl X x := by rfl) (hdb : (x == ("__debug__" : Str)) = false := by decide)
    (hall : (backToKw pos (keywordEach [⟨some n1, e1, kp1⟩, ⟨some n2, e2, kp2⟩] X.env)).all (·.1.isSome) = true := by rfl) (hks : (backToKw pos (keywordEach [⟨some n1, e1, kp1⟩, ⟨some n2, e2, kp2⟩] X.env)).filterMap (·.1) = [n1, n2] := by rfl)
    (hpl : ((backTo pos (starEach [] X.env)).any (·.1) || (backToKw pos (keywordEach [⟨some n1, e1, kp1⟩, ⟨some n2, e2, kp2⟩] X.env)).any (·.1.isNone)) = false := by rfl) : XE X δ (.Call (.Name x p) [] [⟨some n1, e1, kp1⟩, ⟨some n2, e2, kp2⟩] pos) d := by
  obtain ⟨g, fd, m1, m2, m3, m4⟩ := hkb
  refine ⟨fun pins s σ H Q I ⟨B, F, W, q⟩ => ?_⟩
  refine wpAny_Call_Name_kw (ld_glob I hg m1 ?_ hdb)
  refine PySem.W.callWith_KW0 (h₀ := X.base) I.ok.mod.kin m2 hall (thn ((pk_cons h1 (pk_cons h2 pk_nil)).run pos pins s σ H (fun zs H3 => ∃ v1 v2 B3, zs = [v1, v2] ∧ Grow B H B3 H3 ∧ Rp X.K B3 v1 d1 ∧ Rp X.K B3 v2 d2) I ⟨B, F, W, fun v1 B1 H1 g1 r1 => ⟨B1, F, W.grow g1, fun v2 B2 H2 g2 r2 => ⟨v1, v2, B2, rfl, g1.trans g2, r1.mono g2.bb, r2⟩⟩⟩) fun ws s2 ⟨zs, H3, I3, rz, v1, v2, B3, ez, g3, r1, r2⟩ => ⟨I3.kIn, ?_⟩) hpl
  rw [hks]
  subst ez
  refine run_fnk (us := []) (vs := []) m3 hr m4 pass0 I3 .nil rz ⟨B3, [d2, d1], d, g3.bh, .cons r2 (.cons r1 .nil), hf, fun v B4 H4 g4 r4 => q v B4 H4 (g3.trans g4) r4⟩
theorem kbinds2 {K : PySem.W.Frag} {qual : Str} {st : Stmt} {f : Addr} {fd : FuncData} (F : Fun K x qual st f fd)
    (h : ∀ (kV doc pm : Value) (an : Option Addr) (cdv ct : Value) (a b : Value), bindArgs (PySem.W.fnOf x qual (defArgs st) (defBody st) (defScope st) .none kV doc pm an cdv ct) ⟨[], [n1, n2].zip [a, b]⟩ = pure ([n2, n1].zip [b, a])) : KBinds K fd [n2, n1] [n1, n2] swapK swapK := by
  obtain ⟨oc, od, kV, doc, pm, an, cdv, ct, osl, rfl, lk, hcd⟩ := F.ex
  refine ⟨fun s us ws _ hl => ?_, swapK_rel⟩
  obtain ⟨a, b, rfl, rfl⟩ := swapK_len hl
  exact .of_eq (h kV doc pm an cdv ct a b)
end
end Dl

set_option Elab.async false
set_option linter.all false
set_option maxRecDepth 100000
set_option maxHeartbeats 4000000
/-! The data level: a walk over defs; a law that makes lambdas. -/
namespace Dl
open PySem PySem.Spec PyProof.Rows L2 LamX
section
variable {X : Cx} {δ : List Slot} {es : List Expr} {p p2 pos : Pos} {rest body : List Stmt} {R : Post} {x : Str}
/-- for x in (g1, g2, ..): values that are known -/
theorem xb_forV {us : List V} {x1} (i : Nat) (J : Nat → List Slot → Prop) (M : List Slot → Prop) (ha : PA X es (fun σ H Q => Q us H)) (hz : us.length ≤ 1000000) (h0 : J 0 δ)
    (hs : ∀ j δ' u, J j δ' → us[j]? = some u → XB X (δ'.set i (.raw u)) body { R with nx := J (j + 1), ct := J (j + 1), bk := M }) (hM : ∀ δ', J us.length δ' → M δ')
    (h : ∀ δ', M δ' → XB X δ' rest R) (hN : X.N.Nodup) (hi : X.N[i]? = some x := by rfl) (hx : Loc X.env.scope x := by first | exact Or.inl rfl | exact Or.inr rfl) (hf : X.fn x = true ∨ X.env.scope.names.lookup x = some .local := by first | exact .inl rfl | exact .inr rfl)
    (hp : PassesOwn (model X.prog X.w) X.A X.env X.xe := by exact PassesOwn.never) (hc : X.calm = true := by rfl) (hss : ∀ y, foldedSetIterable (.Tuple es x1 p2) X.env y = pure y := by intro _; rfl) : XB X δ (.For (.Name x p) (.Tuple es x1 p2) body [] pos :: rest) R := by
  let ι := {z : Nat × List Slot × V // J z.1 z.2.1 ∧ us[z.1]? = some z.2.2}
  have hB : PSs X body (fun D σ H => ∃ z : ι, tS X.K (z.1.2.1.set i (.raw z.1.2.2)) { R with nx := J (z.1.1 + 1), ct := J (z.1.1 + 1), bk := M } D σ H) := pss_ex fun z : ι => hs z.1.1 z.1.2.1 z.1.2.2 z.2.1 z.2.2
  have hr : PSs X rest (fun D σ H => ∃ z : {δ' // M δ'}, tS X.K z.1 R D σ H) := pss_ex fun z : {δ' // M δ'} => h z.1 z.2
  refine xb_cons (ps_for hp hc (pi_tup (pe_tup ha)) (pg_name (i := i) hN hi hx hf) hB hss) hr fun D σ H B F W o => ⟨sz_of hz, fun a hpa => ⟨a, rfl, ⟨us, .inl (.inl upd_same)⟩, ?_⟩⟩
  have g1 : Grow B H (upd B a (.tup us)) (upd H a (.tup us)) := Grow.new W.bh hpa
  have s1 : Step B H F (upd B a (.tup us)) (upd H a (.tup us)) F := Step.of g1
  have ka : (upd B a (.tup us)) a = some (.tup us) := upd_same
  generalize upd B a (.tup us) = B1 at g1 s1 ka
  generalize upd H a (.tup us) = H1 at g1 s1
  have sq : ∀ {B' H' : Hp}, Same B1 B' → Same B' H' → SqT X.K H' a us := fun s1 s2 => .inl (.inl (s2 _ _ (s1 _ _ ka)))
  refine ⟨fun i m σ' H' => m = us.length - i ∧ i ≤ us.length ∧ ∃ δ' B' F', J i δ' ∧ Wf X.K B' H' σ' δ' F' ∧ Step B H F B' H' F' ∧ Same B1 B', ⟨us.length, by simp, Nat.zero_le _, δ, B1, F, h0, W.grow g1, s1, Same.refl _⟩, ?_⟩
  rintro j m σ' H' ⟨rfl, hle, δ', B', F', hj, W', s', sm⟩
  by_cases hlt : j < us.length
  · have hget : us[j]? = some us[j] := List.getElem?_eq_getElem hlt
    generalize us[j] = u at hget
    refine .inr ⟨⟨us, u, sq sm W'.bh, hget⟩, fun σ3 H3 => ∃ δ3 B3 F3, J (j + 1) δ3 ∧ Wf X.K B3 H3 σ3 δ3 F3 ∧ Step B H F B3 H3 F3 ∧ Same B1 B3, fun σ3 H3 ⟨δ3, B3, F3, q⟩ => ⟨us.length - (j + 1), by omega, rfl, hlt, δ3, B3, F3, q⟩, fun y H2 hy => ?_⟩
    obtain ⟨rfl, hv⟩ := hy
    have e := hv us (sq sm W'.bh)
    rw [hget] at e
    cases e
    have W3 := W'.put (i := i) (v := u) (s := .raw u) ⟨rfl, rfl⟩
    have s2 := s'.sub (F2 := fun j => if j = i then [] else F' j) cut_sub
    refine ⟨⟨(j, δ', u), hj, hget⟩, ts_iff.mpr ⟨B', _, W3, ?_, ?_, ?_, ?_, fun v σ4 δ4 B4 H4 F4 s4 W4 q => o.rr v σ4 δ4 B4 H4 F4 (s2.trans s4) W4 q, o.gh.step s2⟩⟩
    · exact fun σ4 δ4 B4 H4 F4 s4 W4 q => ⟨δ4, B4, F4, q, W4, s2.trans s4, sm.trans s4.bb⟩
    · exact fun v d σ4 δ4 B4 H4 F4 s4 W4 q r => o.rt v d σ4 δ4 B4 H4 F4 (s2.trans s4) W4 q r
    · exact fun σ4 δ4 B4 H4 F4 s4 W4 q => ⟨⟨δ4, q⟩, ts_iff.mpr ⟨B4, F4, W4, o.step (s2.trans s4)⟩⟩
    · exact fun σ4 δ4 B4 H4 F4 s4 W4 q => ⟨δ4, B4, F4, q, W4, s2.trans s4, sm.trans s4.bb⟩
  · have e : j = us.length := by omega
    subst e
    exact .inl ⟨⟨us, sq sm W'.bh, Nat.le_refl _⟩, ⟨δ', hM δ' hj⟩, ts_iff.mpr ⟨B', F', W', o.step s'⟩⟩
end
section
variable {X : Cx} {δ : List Slot} {rest : List Stmt} {R : Post} {p0 p1 p2 p3 pos : Pos}
theorem xb_startT (i j : Nat) {k : Nat} {f x y : Str} {ps : List Str} {ns : List Int} {Pt : Addr} {qq : Str} (G : Def X.prog X.w X.K X.mg X.base k f ps (SpStart X.K)) (hr : Room k X.A) (hj : δ[j]? = some (.own (scrT X.K ns Pt qq))) (hl : ns.length ≤ 63) (hil : i < δ.length) (kk : ∀ p q, XB X (δ.set i (.own (strmR p q 0))) rest R) (hNd : X.N.Nodup)
    (hNj : X.N[j]? = some y := by rfl) (hvj : Vis X.env.scope y := by first | exact Or.inl rfl | exact Or.inr (Or.inl rfl) | exact Or.inr (Or.inr rfl)) (hdj : (y == ("__debug__" : Str)) = false := by decide) (hcj : (y == ("__classdict__" : Str)) = false := by decide) (hN : X.N[i]? = some x := by rfl) (hx : Loc X.env.scope x := by first | exact Or.inl rfl | exact Or.inr rfl)
    (hs : swapsWith (.Call (.Name f p1) [.Name y p2] [] p3) (some (.Name x p0)) pos.line X.env = pure false := by rfl) (hf : X.fn x = true ∨ X.env.scope.names.lookup x = some .local := by first | exact .inl rfl | exact .inr rfl | assumption)
    (hg : Gl X f := by rfl) (hdb : (f == ("__debug__" : Str)) = false := by decide) (he : starEach [.Name y p2] X.env = (false, eval (.Name y p2) X.env) :: starEach [] X.env := by rfl) (hpl : (backTo p3 (starEach [] X.env)).any (·.1) = false := by rfl) : XB X δ (.Assign [.Name x p0] (.Call (.Name f p1) [.Name y p2] [] p3) pos :: rest) R := by
  obtain ⟨fa, fd, h1, h2, h3, h4⟩ := G.ex
  refine xb_cons (ps_set hNd hN hx (pe_call h4 hr hg h1 h2 h3 .nil pass0 (pa_cons (pe_var (i := j) hNj hvj hdj hcj) pa_nil he) hdb he hpl) hs hf) (pss_ex fun z : Addr × Addr => kk z.1 z.2) fun D σ H B F W o => ?_
  obtain ⟨ov, a1, a2⟩ := W.sl j _ hj
  cases ov with
  | none => exact a2.elim
  | some v =>
    obtain ⟨⟨a, rfl, hS⟩, hF, _⟩ := a2
    refine ⟨.ref a, a1, ?_⟩
    show ∃ (a : Addr) (ns : List Int), _
    refine ⟨a, ns, rfl, W.bh.seq hS, fun p q H2 hp hq ne sm k1 k2 => ⟨(p, q), ?_⟩⟩
    have g : Grow B H B H2 := ⟨Same.refl B, W.bh.trans sm, sm, fun _ _ _ => rfl⟩
    have W2 := W.grow g
    have nF : ∀ b, H b = none → ∀ k, b ∉ F k := fun b hb k hk => by
      obtain ⟨_, u, hu⟩ := W.own k b hk
      rw [hb] at hu
      cases hu
    refine ts_iff.mpr ⟨B, _, W2.putO (r := strmR p q 0) (fp := [p, q]) hil ⟨ns, 0, 0, 43, ⟨hl, by decide, by decide, by decide, by decide, by decide⟩, rfl, rfl, k1, k2⟩ (fun b hb => ?_), o.step ⟨g.bb, fun b o e _ => g.hh b o e, fun b o e _ => rfl, fun b o e => ⟨o, g.hh b o e⟩, fun k b hb => ?_⟩⟩
    · rcases List.mem_cons.mp hb with e | e
      · rw [e]; exact ⟨⟨W.bh.free hp, _, k1⟩, fun k _ => nF p hp k⟩
      · rw [List.mem_singleton.mp e]; exact ⟨⟨W.bh.free hq, _, k2⟩, fun k _ => nF q hq k⟩
    · by_cases hk : k = i
      · rw [if_pos hk] at hb
        rcases List.mem_cons.mp hb with e | e
        · rw [e]; exact .inr hp
        · rw [List.mem_singleton.mp e]; exact .inr hq
      · rw [if_neg hk] at hb
        exact .inl ⟨k, hb⟩
end
def SpLawT (K : PySem.W.Frag) (Pt : Addr) : Sp := fun vs H Q _ => ∃ (a : Addr) (ns : List Int), vs = [.ref a] ∧ SqL K H a (ns.map V.int) ∧ ns.length ≤ 63 ∧ H Pt = some (.tbl #[]) ∧ ∀ H', Q (.bl true) H'
section
variable {P : Program} {w : World} {K : PySem.W.Frag} {mg : Str → Option Value} {base : Heap}
theorem seq_less {H : Hp} {a Pt : Addr} {xs : List V} (h : SqL K H a xs) (hP : H Pt = some (.tbl #[])) : SqL K (fun b => if b = Pt then none else H b) a xs := by
  have ne : ∀ o : HO, H a = some o → o ≠ .tbl #[] → a ≠ Pt := fun o e n z => by
    rw [z, hP] at e
    cases e
    exact n rfl
  rcases h with (h | ⟨o, h⟩) | h
  · exact .inl (.inl ((if_neg (ne _ h (fun z => by cases z))).trans h))
  · exact .inl (.inr ⟨o, (if_neg (ne _ h (fun z => by cases z))).trans h⟩)
  · exact .inr h
theorem fn_lawT {x : Str} {st : Stmt} {N ps : List Str} {k : Nat} {fa c Pt : Addr} {oc : Value} {od an : Option Addr} {osl : Array (Option Value)} {kV doc pm ct : Value} {q : Str} (lk : K.lookup fa = some ⟨oc, od, .func (PySem.W.fnOf x x (defArgs st) (defBody st) (defScope st) .none kV doc pm an (.ref c) ct), osl⟩)
    (hcd : PySem.W.codeIn K (.ref c) x = true) (S : FnScope N ps (defScope st)) (len : ps.length = 1) (hN : 1 ≤ N.length)
    (body : ∀ (X : Cx), (∃ (A : Around) (outer : List Env) (s : Shared) (H : Hp) (E : XK), Room k (A.deeper (envOfC x (defScope st) s.heap.objs.size fa (.ref c))) ∧ X = (cxOf CX0 P w K mg base N x (defScope st) fa (.ref c) A outer s H E).nox) → ∀ ns : List Int, ns.length ≤ 63 → XB X (startD N [.own (scrT K ns Pt q)]) (defBody st) { rt := fun d _ => d = .bool true }) :
    FnOk P w K mg base CX0 (k + 1) fa (PySem.W.fnOf x x (defArgs st) (defBody st) (defScope st) .none kV doc pm an (.ref c) ct) ps (SpLawT K Pt) := by
  refine fn_of lk hcd S (fun vs H Q E h => ?_) fun A outer s H vs Q E hr h => ?_
  · obtain ⟨a, ns, rfl, _⟩ := h
    exact len.symm
  · obtain ⟨a, ns, rfl, hS, hl, hP, qq⟩ := h
    refine ⟨_, PSs.nox (body _ ⟨A, outer, s, H, E, hr, rfl⟩ ns hl), ?_⟩
    have hS2 := seq_less hS hP
    have sB : Same (fun b => if b = Pt then none else H b) H := fun b o e => by
      have e : (if b = Pt then none else H b) = some o := e
      split at e
      · cases e
      · exact e
    have W : Wf K (fun b => if b = Pt then none else H b) H (L2.start N [.ref a]) (startD N [.own (scrT K ns Pt q)]) (fun i => if i = 0 then [Pt] else []) := by
      refine ⟨sB, ?_, fun i t e => ?_, fun i hi => ?_, fun i j b h1 h2 => ?_, fun i b h1 => ?_⟩
      · unfold L2.start startD
        simp only [List.length_append, List.length_map, List.length_replicate, List.length_cons, List.length_nil]
      · cases i with
        | zero =>
          have e : some (Slot.own (scrT K ns Pt q)) = some t := e
          cases e
          exact ⟨some (.ref a), rfl, ⟨a, rfl, hS2⟩, rfl, #[], hP, trivial, fun pos cv hc => by
            have z : codeAmong pos [] = some cv := hc
            simp [codeAmong] at z⟩
        | succ i =>
          have e : (List.replicate (N.length - 1) Slot.no)[i]? = some t := e
          rw [List.getElem?_replicate] at e
          split at e
          · rename_i hi
            cases e
            refine ⟨none, ?_, rfl⟩
            show (List.replicate (N.length - 1) none)[i]? = _
            rw [List.getElem?_replicate, if_pos hi]
          · cases e
      · unfold startD at hi
        rw [if_neg]
        intro z
        simp only [List.length_append, List.length_cons, List.length_nil] at hi
        omega
      · by_cases hi : i = 0
        · by_cases hj : j = 0
          · rw [hi, hj]
          · rw [if_neg hj] at h2; cases h2
        · rw [if_neg hi] at h1; cases h1
      · by_cases hi : i = 0
        · rw [if_pos hi, List.mem_singleton] at h1
          rw [h1]
          exact ⟨if_pos rfl, _, hP⟩
        · rw [if_neg hi] at h1; cases h1
    refine ts_iff.mpr ⟨_, _, W, fun _ _ _ _ _ _ _ h => h.elim, ?_, fun _ _ _ _ _ _ _ h => h.elim, fun _ _ _ _ _ _ _ h => h.elim, fun _ _ _ _ _ _ _ _ h => h.elim, trivial⟩
    intro v d σ2 δ2 B2 H2 F2 s2 W2 e r2
    have e : d = .bool true := e
    subst e
    cases r2
    exact qq H2
end
/-- a def that keeps a promise, its record in hand -/
structure DefK (P : Program) (w : World) (K : PySem.W.Frag) (mg : Str → Option Value) (base : Heap) (k : Nat) (x : Str) (st : Stmt) (ps : List Str) (sp : Sp) : Prop where
  ex : ∃ f fd, mg x = some (.ref f) ∧ PySem.W.keepIn K (.ref f) = true ∧ Fun K x x st f fd ∧ FnOk P w K mg base CX0 k f fd ps sp
section
variable {P : Program} {w : World} {K : PySem.W.Frag} {mg : Str → Option Value} {base : Heap}
theorem def_pureK {x : Str} {st : Stmt} {N ps : List Str} {k : Nat} {f : List PyData → PyData → Prop} (A : At K mg x st ps) (S : FnScope N ps (defScope st)) (len : ∀ ds d, f ds d → ds.length = ps.length)
    (body : ∀ (X : Cx), (∃ (fa : Addr) (cdv : Value) (A : Around) (outer : List Env) (s : Shared) (H : Hp) (E : XK), Room k (A.deeper (envOfC x (defScope st) s.heap.objs.size fa cdv)) ∧ X = (cxOf CX0 P w K mg base N x (defScope st) fa cdv A outer s H E).nox) → ∀ ds d, f ds d → XB X (startD N (ds.map .dat)) (defBody st) { rt := fun d' _ => d' = d, nx := fun _ => d = .none }) :
    DefK P w K mg base (k + 1) x st ps (SpP K f) := by
  obtain ⟨fa, fd, h1, h2, h3⟩ := A.ex
  refine ⟨fa, fd, h1, h2.kp, h2, h2.ok S (fun vs H Q E h => ?_) (fun cdv A outer s H vs Q E hr h => ?_)⟩
  · obtain ⟨B, ds, d, _, r, hf, _⟩ := h
    rw [r.length]
    exact len ds d hf
  · obtain ⟨B, ds, d, sm, r, hf, q⟩ := h
    refine ⟨_, body _ ⟨fa, cdv, A, outer, s, H, E, hr, rfl⟩ ds d hf, ?_⟩
    refine ts_iff.mpr ⟨B, _, envOk_dat sm r N, ?_, ?_, fun _ _ _ _ _ _ _ h => h.elim, fun _ _ _ _ _ _ _ h => h.elim, fun _ _ _ _ _ _ _ _ h => h.elim, trivial⟩
    · intro σ2 δ2 B2 H2 F2 s2 W2 e
      have e : d = .none := e
      subst e
      exact q .non B2 H2 ⟨s2.bb, W2.bh, fun b o hb => s2.keep b o hb (fun _ z => nomatch z), fun b o hb => s2.fr b o hb (fun _ z => nomatch z)⟩ .non
    · intro v d' σ2 δ2 B2 H2 F2 s2 W2 e r2
      have e : d' = d := e
      subst e
      exact q v B2 H2 ⟨s2.bb, W2.bh, fun b o hb => s2.keep b o hb (fun _ z => nomatch z), fun b o hb => s2.fr b o hb (fun _ z => nomatch z)⟩ r2
end
section
variable {X : Cx} {δ : List Slot} {a b c : Expr} {d1 d2 d3 : PyData} {pos : Pos} {rest : List Stmt} {R : Post}
/-- a, b, c = e1, e2, e3 -/
theorem xb_par3 {i j l : Nat} {x y z : Str} {px py pz pt : Pos} {kt k2 pt2} (ha : XE X δ a d1) (hb : XE X δ b d2) (hc' : XE X δ c d3) (k : XB X (((δ.set i (.dat d1)).set j (.dat d2)).set l (.dat d3)) rest R) (hN : X.N.Nodup) (hi : X.N[i]? = some x := by rfl) (hj : X.N[j]? = some y := by rfl) (hl : X.N[l]? = some z := by rfl) (hij : i ≠ j := by decide) (hil : i ≠ l := by decide) (hjl : j ≠ l := by decide)
    (hx : X.env.scope.names.lookup x = some .local := by rfl) (hy : X.env.scope.names.lookup y = some .local := by rfl) (hz : X.env.scope.names.lookup z = some .local := by rfl) (hc : X.calm = true := by rfl)
    (hw : swappedStores [.Tuple [.Name x px, .Name y py, .Name z pz] kt pt] (.Tuple [a, b, c] k2 pt2) X.env = pure (some [x, y, z]) := by rfl)
    (hs : swapsWithSole [.Tuple [.Name x px, .Name y py, .Name z pz] kt pt] (.Tuple [a, b, c] k2 pt2) pos.line X.env = pure false := by rfl) (h1 : starEach [a, b, c] X.env = (false, eval a X.env) :: starEach [b, c] X.env := by rfl) (h2 : starEach [b, c] X.env = (false, eval b X.env) :: starEach [c] X.env := by rfl) (h3 : starEach [c] X.env = (false, eval c X.env) :: starEach [] X.env := by rfl) :
    XB X δ (.Assign [.Tuple [.Name x px, .Name y py, .Name z pz] kt pt] (.Tuple [a, b, c] k2 pt2) pos :: rest) R := xb_cons (ps_par3 hc hN hi hj hl hij hil hjl hx hy hz (xa_cons ha (xa_cons hb (xa_cons hc' xa_nil h3) h2) h1) hw hs) k fun D σ H B F W o =>
  ⟨B, F, W, fun vs B2 H2 g r => by
    cases r with
    | @cons u us _ _ r1 r2 =>
      cases r2 with
      | @cons v us _ _ r2 r3 =>
        cases r3 with
        | @cons w us _ _ r3 r4 =>
          cases r4
          exact ⟨u, v, w, rfl, ts_iff.mpr ⟨B2, _, (((W.grow g).put (s := .dat d1) ⟨rfl, r1⟩).put (s := .dat d2) ⟨rfl, r2⟩).put (s := .dat d3) ⟨rfl, r3⟩, o.step ((((Step.of g).sub cut_sub).sub cut_sub).sub cut_sub)⟩⟩⟩
end
section
variable {X : Cx} {δ : List Slot} {a b : Expr} {pos : Pos} {rest : List Stmt} {R : Post}
/-- a, b = e1, e2: one of them raises -/
theorem xb_parR {i j : Nat} {x y : Str} {px py pt : Pos} {kt k2 pt2} (ha : XRA X δ [a, b] R.gh) (hN : X.N.Nodup) (hi : X.N[i]? = some x := by rfl) (hj : X.N[j]? = some y := by rfl) (hij : i ≠ j := by decide)
    (hx : X.env.scope.names.lookup x = some .local := by rfl) (hy : X.env.scope.names.lookup y = some .local := by rfl) (hc : X.calm = true := by rfl)
    (hw : swappedStores [.Tuple [.Name x px, .Name y py] kt pt] (.Tuple [a, b] k2 pt2) X.env = pure (some [x, y]) := by rfl)
    (hs : swapsWithSole [.Tuple [.Name x px, .Name y py] kt pt] (.Tuple [a, b] k2 pt2) pos.line X.env = pure false := by rfl) :
    XB X δ (.Assign [.Tuple [.Name x px, .Name y py] kt pt] (.Tuple [a, b] k2 pt2) pos :: rest) R := xb_cons (ps_par hc hN hi hj hij hx hy ha hw hs) pss_never fun D σ H B F W o => ⟨B, F, W, o.gh⟩
end
end Dl

set_option Elab.async false
set_option linter.all false
set_option maxRecDepth 100000
set_option maxHeartbeats 4000000
/-! The data level: or, with effects; one keyword. -/
namespace Dl
open PySem PySem.Spec PyProof.Rows L2
section
variable {X : Cx} {δ : List Slot} {a b e : Expr} {pos p kp : Pos} {d : PyData} {k : Bool} {P : PyData → List Slot → Prop} {x n1 : Str}
theorem xf_or (ha : XE X δ a (.bool k)) (h1 : k = true → P (.bool true) δ) (hb : k = false → XF X δ b P) : XF X δ (.BoolOp .Or [a, b] pos) P := by
  cases k with
  | true => exact (pe_or ha pe_bot).weak fun σ H Q ⟨B, F, W, q⟩ => ⟨B, F, W, fun x B1 H1 g1 r1 => by
      cases r1
      exact ⟨true, rfl, q _ _ δ B1 H1 F (Step.of g1) (W.grow g1) (h1 rfl) (.bl true)⟩⟩
  | false => exact (pe_or ha (pe_one (hb rfl))).weak fun σ H Q ⟨B, F, W, q⟩ => ⟨B, F, W, fun x B1 H1 g1 r1 => by
      cases r1
      exact ⟨false, rfl, B1, F, W.grow g1, fun v d δ2 B2 H2 F2 s2 W2 hp r2 => q v d δ2 B2 H2 F2 ((Step.of g1).trans s2) W2 hp r2⟩⟩
/-- a or b, both false: a may change the slots' objects -/
theorem xft_or (ha : XFT X δ a (fun k δ' => k = false ∧ δ' = δ)) (hb : XT X δ b false) : XFT X δ (.BoolOp .Or [a, b] pos) (fun k δ' => k = false ∧ δ' = δ) :=
  PW.pt ((pw_or ha (pw_or1 hb)).weak fun σ H Q ⟨B, F, W, q⟩ => ⟨B, F, W, fun c δ2 B2 H2 F2 s2 W2 ⟨h1, h2⟩ => by
    subst h1
    subst h2
    show tBo X.K δ2 false σ H2 Q
    exact ⟨B2, F2, W2, fun B3 H3 g3 => q false δ2 B3 H3 F2 (s2.trans (Step.of g3)) (W2.grow g3) ⟨rfl, rfl⟩⟩⟩)
def oneK {α : Type} (us ws : List α) : List α := match us, ws with
  | [], [a] => [a]
  | _, _ => []
theorem oneK_rel : ∀ {vs : List V} {us : List Value} {zs : List V} {ws : List Value}, Vals vs us → Vals zs ws → Vals (oneK vs zs) (oneK us ws)
  | _, _, _, _, .cons _ _, _ => .nil
  | _, _, _, _, .nil, .nil => .nil
  | _, _, _, _, .nil, .cons a .nil => .cons a .nil
  | _, _, _, _, .nil, .cons _ (.cons _ _) => .nil
theorem oneK_len {us ws : List Value} (h : (oneK us ws).length = 1) : ∃ a, us = [] ∧ ws = [a] := by
  match us, ws, h with
  | [], [a], _ => exact ⟨a, rfl, rfl⟩
  | [], [], h => cases h
  | [], _ :: _ :: _, h => cases h
  | _ :: _, _, h => cases h
/-- f(n1 = e) -/
theorem xe_callK1 {k : Nat} {f : List PyData → PyData → Prop} {d1 : PyData} (hr : Room k X.A)
    (hkb : ∃ g fd, X.mg x = some (.ref g) ∧ PySem.W.keepIn X.K (.ref g) = true ∧ FnOk X.prog X.w X.K X.mg X.base CX0 k g fd [n1] (SpP X.K f) ∧ KBinds X.K fd [n1] [n1] oneK oneK)
    (h1 : XE X δ e d1) (hf : f [d1] d) (hg : Gl X x := by rfl) (hdb : (x == ("__debug__" : Str)) = false := by decide)
    (hall : (backToKw pos (keywordEach [⟨some n1, e, kp⟩] X.env)).all (·.1.isSome) = true := by rfl) (hks : (backToKw pos (keywordEach [⟨some n1, e, kp⟩] X.env)).filterMap (·.1) = [n1] := by rfl)
    (hpl : ((backTo pos (starEach [] X.env)).any (·.1) || (backToKw pos (keywordEach [⟨some n1, e, kp⟩] X.env)).any (·.1.isNone)) = false := by rfl) : XE X δ (.Call (.Name x p) [] [⟨some n1, e, kp⟩] pos) d := by
  obtain ⟨g, fd, m1, m2, m3, m4⟩ := hkb
  refine ⟨fun pins s σ H Q I ⟨B, F, W, q⟩ => ?_⟩
  refine wpAny_Call_Name_kw (ld_glob I hg m1 ?_ hdb)
  refine PySem.W.callWith_KW0 (h₀ := X.base) I.ok.mod.kin m2 hall (thn ((pk_cons h1 pk_nil).run pos pins s σ H (fun zs H3 => ∃ v1 B3, zs = [v1] ∧ Grow B H B3 H3 ∧ Rp X.K B3 v1 d1) I ⟨B, F, W, fun v1 B1 H1 g1 r1 => ⟨v1, B1, rfl, g1, r1⟩⟩) fun ws s2 ⟨zs, H3, I3, rz, v1, B3, ez, g3, r1⟩ => ⟨I3.kIn, ?_⟩) hpl
  rw [hks]
  subst ez
  refine run_fnk (us := []) (vs := []) m3 hr m4 pass0 I3 .nil rz ⟨B3, [d1], d, g3.bh, .cons r1 .nil, hf, fun v B4 H4 g4 r4 => q v B4 H4 (g3.trans g4) r4⟩
theorem kbinds1 {K : PySem.W.Frag} {qual : Str} {st : Stmt} {f : Addr} {fd : FuncData} (F : Fun K x qual st f fd)
    (h : ∀ (kV doc pm : Value) (an : Option Addr) (cdv ct : Value) (a : Value), bindArgs (PySem.W.fnOf x qual (defArgs st) (defBody st) (defScope st) .none kV doc pm an cdv ct) ⟨[], [n1].zip [a]⟩ = pure ([n1].zip [a])) : KBinds K fd [n1] [n1] oneK oneK := by
  obtain ⟨oc, od, kV, doc, pm, an, cdv, ct, osl, rfl, lk, hcd⟩ := F.ex
  refine ⟨fun s us ws _ hl => ?_, oneK_rel⟩
  obtain ⟨a, rfl, rfl⟩ := oneK_len hl
  exact .of_eq (h kV doc pm an cdv ct a)
end
section
variable {X : Cx} {δ : List Slot} {a c : Expr} {pos p0 : Pos} {sts rest : List Stmt} {R : Post}
theorem xft_notT (he : XF X δ a (fun d' δ' => d' = .bool true ∧ δ' = δ)) (hT : ∀ whole, isTrue a X.env whole = (do let v ← whole; standAt a.pos; holding [v] (truthy v)) := by intro _; rfl) : XFT X δ (.UnaryOp .Not a p0) (fun b δ' => b = false ∧ δ' = δ) :=
  xft_imp (xft_not (xft_tru (PB := fun b δ' => b = true ∧ δ' = δ) he (fun d δ1 ⟨h1, h2⟩ => by subst h1; exact ⟨True.intro, rfl, h2⟩) hT)) fun b δ' ⟨h1, h2⟩ => ⟨(by cases b with | false => rfl | true => cases h1), h2⟩
theorem xb_ifOff (hc : XFT X δ c (fun b δ' => b = false ∧ δ' = δ)) (h : XB X δ rest R) : XB X δ (.If c sts [] pos :: rest) R :=
  xb_ifF (PB := fun b δ' => b = false ∧ δ' = δ) (fun δ' => δ' = δ) hc (fun δ1 h1 => by cases h1.1) (fun δ1 ⟨_, h1⟩ => xb_nil h1) (fun δ' h' => by subst h'; exact h)
end
end Dl

set_option Elab.async false
set_option linter.all false
set_option maxRecDepth 100000
set_option maxHeartbeats 4000000
/-! The data level: a dict of numbers that is filled. -/
namespace Dl
open PySem PySem.Spec PyProof.Rows L2
section
variable {X : Cx} {pins : List (Addr × Obj)} {σ : L2.St} {H : Hp} {s : Shared} {a b : Addr} {kvs more : List (Key × V)} {A : Around} {E : Value → Shared → Prop}
theorem d_update {Q : Value → Shared → Prop} (I : Inv X pins σ H s) (e : H a = some (.dK kvs)) (e2 : H b = some (.dK more)) (hab : a ≠ b) (hl : kvs.length + more.length ≤ sizeLine) (h : ∀ s', Inv X pins σ (upd H a (.dK (mergeK kvs more))) s' → Q .none s') :
    wpAny (model X.prog X.w) A (call (.builtin "dict.update") [.ref a, .ref b]) Q E s := by
  obtain ⟨z, hd, vs, rel, dd⟩ := dk_of I.hok e
  obtain ⟨z2, hd2, vs2, rel2, dd2⟩ := dk_of I.hok e2
  refine call_meetsIn PySem.F.slot_dict_update dd.typeIs PySem.F.entry_dict_update (PySem.F.args_dict_update_2 _ _) (meets_dict_update (mixKind X.prog X.w) a b hab hd2)
    ⟨vs, vs2, dd, dd2, by rw [← rel.length, ← rel2.length]; exact hl, fun h' dd' _ hs => h _ ?_⟩
  have he : ∃ q, h'.get? a = some q := let ⟨q, _, _, hq, _⟩ := dd'; ⟨q, hq⟩
  exact d_write (t' := s.toks) I (by rw [e]; exact True.intro) hs he (dk_new (Nat.le_trans (length_mergeK more kvs) hl) hd (KV.merge rel2 rel) dd')
end
section
variable {X : Cx}
def rUpdate : V → List V → Hp → VK → Prop := fun x vs H Q => ∃ a b kvs more, x = .ref a ∧ vs = [.ref b] ∧ H a = some (.dK kvs) ∧ H b = some (.dK more) ∧ a ≠ b ∧ kvs.length + more.length ≤ sizeLine ∧ Q .non (upd H a (.dK (mergeK kvs more)))
theorem mt_update : MtM X "dict.update" rUpdate := by
  intro pins s σ H x vs v us Q I rx rv h
  obtain ⟨a, b, kvs, more, rfl, rfl, e, e2, hab, hl, q⟩ := h
  cases rx
  obtain ⟨u, rfl, ru⟩ := rv.one
  cases ru
  exact d_update I e e2 hab hl fun s' I' => ⟨.non, _, I', rfl, q⟩
end
/-- a dict of whole numbers: f tells which stand in it, m how many at most -/
def mapR (f : Int → Bool) (m : Nat) : Res where
  ok := fun _ H v fp => ∃ p kvs, v = .ref p ∧ fp = [p] ∧ H p = some (.dK kvs) ∧ (∀ i : Int, (valV kvs (Sum.inl i)).isSome = f i) ∧ kvs.length ≤ m
  loc := fun {B B' H H' v fp} ⟨p, kvs, h1, h2, h3, h4⟩ _ hh => ⟨p, kvs, h1, h2, by rw [hh p (by rw [h2]; exact List.mem_singleton.mpr rfl)]; exact h3, h4⟩
theorem find_mem (l : List (Key × V)) (j : Key) : (l.find? fun kv => decide (kv.1 = j)).isSome = true ↔ j ∈ l.map (·.1) := by
  rw [List.find?_isSome, List.mem_map]
  simp only [decide_eq_true_eq]
theorem valV_put (kvs : List (Key × V)) (k : Key) (v : V) (j : Key) : (valV (putK kvs k v) j).isSome = ((valV kvs j).isSome || decide (j = k)) := by
  unfold valV
  rw [Option.isSome_map, Option.isSome_map]
  rw [Bool.eq_iff_iff, Bool.or_eq_true, find_mem, find_mem, decide_eq_true_iff]
  by_cases h : k ∈ kvs.map (·.1)
  · rw [putK_old kvs k v h]
    exact ⟨.inl, fun z => z.elim id fun e => by rw [e]; exact h⟩
  · rw [putK_fresh kvs k v h, List.mem_append, List.mem_singleton]
theorem valV_merge (z : V) : ∀ (ns : List Int) (kvs : List (Key × V)) (i : Int), (valV (mergeK kvs (ns.map fun n => (Sum.inl n, z))) (Sum.inl i)).isSome = ((valV kvs (Sum.inl i)).isSome || ns.contains i)
  | [], kvs, i => by simp [mergeK]
  | n :: ns, kvs, i => by
    have e : mergeK kvs ((n :: ns).map fun n => ((Sum.inl n : Key), z)) = mergeK (putK kvs (Sum.inl n) z) (ns.map fun n => (Sum.inl n, z)) := rfl
    rw [e, valV_merge z ns, valV_put, List.contains_cons, Bool.or_assoc]
    congr 2
    rw [Bool.eq_iff_iff, decide_eq_true_iff, beq_iff_eq]
    exact ⟨fun h => by injection h, fun h => by rw [h]⟩
/-- the entries of a fresh dict, merged in -/
theorem valV_any : ∀ (more kvs : List (Key × V)) (i : Int), (valV (mergeK kvs more) (Sum.inl i)).isSome = ((valV kvs (Sum.inl i)).isSome || (valV more (Sum.inl i)).isSome)
  | [], kvs, i => by simp [mergeK, valV]
  | (k, v) :: more, kvs, i => by
    have e : mergeK kvs ((k, v) :: more) = mergeK (putK kvs k v) more := rfl
    rw [e, valV_any more, valV_put, Bool.or_assoc]
    congr 1
    unfold valV
    rw [Option.isSome_map, Option.isSome_map, List.find?_cons]
    by_cases h : k = Sum.inl i
    · rw [decide_eq_true h, decide_eq_true h.symm]
      rfl
    · rw [decide_eq_false h, decide_eq_false (fun z => h z.symm), Bool.false_or]
section
variable {K : PySem.W.Frag} {B H : Hp} {σ : L2.St} {δ : List Slot} {F : Nat → List Addr} {f : Int → Bool} {m : Nat}
theorem Wf.map (W : Wf K B H σ δ F) {i : Nat} (h : δ[i]? = some (.own (mapR f m))) : ∃ p kvs, σ[i]? = some (some (.ref p)) ∧ F i = [p] ∧ H p = some (.dK kvs) ∧ (∀ i : Int, (valV kvs (Sum.inl i)).isSome = f i) ∧ kvs.length ≤ m ∧ B p = none := by
  obtain ⟨o, h1, h2⟩ := W.sl i _ h
  cases o with
  | none => exact h2.elim
  | some v =>
    obtain ⟨p, kvs, rfl, h3, h4, h5, h6⟩ := h2
    exact ⟨p, kvs, h1, h3, h4, h5, h6, (W.own i p (by rw [h3]; exact List.mem_singleton.mpr rfl)).1⟩
theorem Wf.mapUpd (W : Wf K B H σ δ F) {i : Nat} {p : Addr} {kvs : List (Key × V)} {f2 : Int → Bool} {m2 : Nat} (h : δ[i]? = some (.own (mapR f m))) (hs : σ[i]? = some (some (.ref p))) (hF : F i = [p]) (r1 : ∀ i : Int, (valV kvs (Sum.inl i)).isSome = f2 i) (r2 : kvs.length ≤ m2) :
    Wf K B (upd H p (.dK kvs)) σ (δ.set i (.own (mapR f2 m2))) F ∧ Step B H F B (upd H p (.dK kvs)) F := by
  have hl : i < δ.length := (List.getElem?_eq_some_iff.mp h).1
  have hb : B p = none := (W.own i p (by rw [hF]; exact List.mem_singleton.mpr rfl)).1
  have hne : ∀ j, j ≠ i → p ∉ F j := fun j hj hm => hj (W.dis j i p hm (by rw [hF]; exact List.mem_singleton.mpr rfl))
  refine ⟨⟨fun b o e => ?_, by rw [List.length_set]; exact W.len, fun j s e => ?_, fun j hj => W.out j (by rw [List.length_set] at hj; exact hj), W.dis, fun j a ha => ?_⟩, ⟨Same.refl B, fun b o e hn => ?_, fun _ _ _ _ => rfl, fun b o e => ?_, fun j b hb => .inl ⟨j, hb⟩⟩⟩
  · have : b ≠ p := fun z => by rw [z, hb] at e; cases e
    rw [upd_ne this]
    exact W.bh b o e
  · by_cases hj : j = i
    · subst hj
      rw [List.getElem?_set_self hl] at e
      cases e
      exact ⟨_, hs, p, kvs, rfl, hF, upd_same, r1, r2⟩
    · rw [List.getElem?_set_ne (Ne.symm hj)] at e
      obtain ⟨o, h1, h2⟩ := W.sl j s e
      exact ⟨o, h1, h2.loc (Same.refl B) fun a ha => upd_ne fun z => hne j hj (z ▸ ha)⟩
  · obtain ⟨h1, o, h2⟩ := W.own j a ha
    refine ⟨h1, ?_⟩
    by_cases z : a = p
    · rw [z, upd_same]; exact ⟨_, rfl⟩
    · rw [upd_ne z]; exact ⟨o, h2⟩
  · have : b ≠ p := fun z => hn i (by rw [hF, z]; exact List.mem_singleton.mpr rfl)
    rw [upd_ne this]
    exact e
  · by_cases z : b = p
    · rw [z, upd_same]; exact ⟨_, rfl⟩
    · rw [upd_ne z]; exact ⟨o, e⟩
end
section
variable {X : Cx} {δ : List Slot} {a e : Expr} {p p1 p2 p3 p4 pos : Pos} {f : Int → Bool} {m : Nat} {rest : List Stmt} {R : Post} {k : Int}
/-- x = {} -/
theorem xb_dictNew (i : Nat) {x : Str} (kk : XB X (δ.set i (.own (mapR (fun _ => false) 0))) rest R) (hN : X.N.Nodup) (hl : i < δ.length := by exact Nat.le_of_ble_eq_true rfl) (hi : X.N[i]? = some x := by rfl) (hx : Loc X.env.scope x := by first | exact Or.inl rfl | exact Or.inr rfl) (hs : swapsWith (.Dict [] [] p1) (some (.Name x p)) pos.line X.env = pure false := by rfl)
    (hf : X.fn x = true ∨ X.env.scope.names.lookup x = some .local := by first | exact .inl rfl | exact .inr rfl) : XB X δ (.Assign [.Name x p] (.Dict [] [] p1) pos :: rest) R :=
  xb_cons (ps_set hN hi hx pe_dnewK hs hf) kk fun D σ H B F W o => fun q hq => by
    have g : Grow B H B (upd H q (.dK [])) := Grow.newH W.bh hq
    have np : ∀ j, q ∉ F j := fun j hj => by
      obtain ⟨_, u, hu⟩ := W.own j q hj
      rw [hq] at hu
      cases hu
    refine ts_iff.mpr ⟨B, _, (W.grow g).putO (r := mapR (fun _ => false) 0) (fp := [q]) hl ⟨q, [], rfl, rfl, upd_same, fun _ => rfl, Nat.le_refl _⟩ (fun b hb => ?_), o.step ⟨g.bb, fun b o e _ => g.hh b o e, fun b o e _ => g.fr b o e, fun b o e => ⟨o, g.hh b o e⟩, fun j b hb => ?_⟩⟩
    · rw [List.mem_singleton.mp hb]
      exact ⟨⟨W.bh.free hq, _, upd_same⟩, fun j _ => np j⟩
    · by_cases hj : j = i
      · rw [if_pos hj] at hb
        rw [List.mem_singleton.mp hb]
        exact .inr hq
      · rw [if_neg hj] at hb
        exact .inl ⟨j, hb⟩
/-- k in x -/
theorem xe_inMap (i : Nat) {x : Str} (hu : X.A.units + 65 < cLine) (h : δ[i]? = some (.own (mapR f m))) (ha : XE X δ a (.int k)) (hi : X.N[i]? = some x := by rfl) (hv : Vis X.env.scope x := by first | exact Or.inl rfl | exact Or.inr (Or.inl rfl) | exact Or.inr (Or.inr rfl)) (hd : (x == ("__debug__" : Str)) = false := by decide) (hcd : (x == ("__classdict__" : Str)) = false := by decide)
    (hm : behindInMarks .In (.Name x p) = false := by rfl) : XE X δ (.Compare a [.In] [.Name x p] pos) (.bool (f k)) :=
  (pe_cmp (pc_din (by omega) ha (pe_var (i := i) hi hv hd hcd)) hm).weak fun σ H Q ⟨B, F, W, q⟩ => ⟨B, F, W, fun y B1 H1 g1 r1 => by
    cases r1
    obtain ⟨p, kvs, h1, h2, h3, h4, h5, _⟩ := (W.grow g1).map h
    refine ⟨.ref p, h1, p, valV kvs (Sum.inl k), rfl, DGet.k (k := Sum.inl k) h3, ?_⟩
    rw [h4]
    exact q _ B1 H1 g1 (.bl _)⟩
/-- x.update(dict(pairs)) -/
theorem xb_updMap (i : Nat) {x : Str} {ns : List Int} {z : Int} (h : δ[i]? = some (.own (mapR f m))) (he : XE X δ e (.list (ns.map fun n => .tuple [.int n, .int z]))) (hz : m + ns.length ≤ 1000000) (hm2 : X.mg "dict" = none)
    (kk : XB X (δ.set i (.own (mapR (fun j => f j || ns.contains j) (m + ns.length)))) rest R) (hi : X.N[i]? = some x := by rfl)
    (hv : Vis X.env.scope x := by first | exact Or.inl rfl | exact Or.inr (Or.inl rfl) | exact Or.inr (Or.inr rfl)) (hd : (x == ("__debug__" : Str)) = false := by decide) (hcd : (x == ("__classdict__" : Str)) = false := by decide) (hc : X.calm = true := by rfl) (hg2 : Gl X "dict" := by rfl)
    (hs1 : starEach [e] X.env = (false, eval e X.env) :: starEach [] X.env := by rfl) (hpl1 : (backTo p4 (starEach [] X.env)).any (·.1) = false := by rfl)
    (hbase : attributeBase (.Name x p1) "update" X.env (eval (.Name x p1) X.env) = eval (.Name x p1) X.env := by rfl)
    (hfew : ((backTo p (starEach [.Call (.Name "dict" p3) [e] [] p4] X.env)).all (fun x => !x.1) && (backToKw p (keywordEach [] X.env)).all (fun x => x.1.isSome) && decide ([Expr.Call (.Name "dict" p3) [e] [] p4].length + ([] : List Keyword).length + (if ([] : List Keyword).isEmpty then 0 else 1) < 30)) = true := by rfl)
    (hline : (p2.endLine == p.line) = true := by rfl) (hs : starEach [.Call (.Name "dict" p3) [e] [] p4] X.env = (false, eval (.Call (.Name "dict" p3) [e] [] p4) X.env) :: starEach [] X.env := by rfl) (hplain : (backTo p (starEach [] X.env)).any (·.1) = false := by rfl)
    (hsw : swapsWith (.Call (.Attribute (.Name x p1) "update" p2) [.Call (.Name "dict" p3) [e] [] p4] [] p) none pos.line X.env = pure false := by rfl) :
    XB X δ (.Expr (.Call (.Attribute (.Name x p1) "update" p2) [.Call (.Name "dict" p3) [e] [] p4] [] p) pos :: rest) R :=
  xb_cons (ps_expr (pe_bm PySem.F.plainAttrs_dict PySem.F.slot_dict_update PySem.F.type_dict_update mt_update (pe_var (i := i) hi hv hd hcd) (pa_cons (pe_callTy (call_dictP hc) hg2 hm2 boot_dict (pa_cons he pa_nil hs1) (by decide) (by decide) hs1 hpl1) pa_nil hs) hbase hfew hline hs hplain) hsw) kk fun D σ H B F W o => by
    obtain ⟨p, kvs, h1, h2, h3, h4, h5, h6⟩ := W.map h
    refine ⟨.ref p, h1, .inr (.inr (.inl ⟨rfl, .inl ⟨kvs, h3⟩⟩)), B, F, W, fun v B1 H1 g1 r1 => ?_⟩
    cases r1 with
    | @lst l xs _ e1 r1 =>
      obtain ⟨ps, rfl, hp⟩ := pairs_rp r1
      refine ⟨l, ps, ns.map fun n => (Sum.inl n, V.int z), rfl, SqL.of (g1.bh _ _ e1), paired_mono (fun _ _ h => same_t g1.bh h) hp, fun d hdn => ?_⟩
      have hp1 : H1 p = some (.dK kvs) := g1.hh _ _ h3
      have npd : p ≠ d := fun z => by rw [← z, hp1] at hdn; cases hdn
      have hlen : (mergeK [] (ns.map fun n => ((Sum.inl n : Key), V.int z))).length ≤ ns.length := by
        have := length_mergeK (ns.map fun n => ((Sum.inl n : Key), V.int z)) []
        rw [List.length_nil, Nat.zero_add, List.length_map] at this
        exact this
      refine ⟨p, d, kvs, _, rfl, rfl, by rw [upd_ne npd]; exact hp1, upd_same, npd, Nat.le_trans (Nat.add_le_add h5 hlen) (sz_of hz), ?_⟩
      have g2 : Grow B1 H1 B1 (upd H1 d (.dK (mergeK [] (ns.map fun n => ((Sum.inl n : Key), V.int z))))) := Grow.newH g1.bh hdn
      have W2 := (W.grow g1).grow g2
      obtain ⟨W3, s3⟩ := W2.mapUpd (kvs := mergeK kvs (mergeK [] (ns.map fun n => ((Sum.inl n : Key), V.int z)))) (f2 := fun j => f j || ns.contains j) (m2 := m + ns.length) h h1 h2 (fun j => by
        rw [valV_any, h4, valV_merge]
        simp [valV]) (Nat.le_trans (length_mergeK _ _) (Nat.add_le_add h5 hlen))
      exact ts_iff.mpr ⟨B1, F, W3, o.step ((Step.of (g1.trans g2)).trans s3)⟩
end
end Dl

set_option Elab.async false
set_option linter.all false
set_option maxRecDepth 100000
set_option maxHeartbeats 4000000
/-! The data level: walks over what was drawn; in a tuple. -/
namespace Dl
open PySem PySem.Spec PyProof.Rows L2
/-- what is walked, after its own effects -/
def tIE (K : PySem.W.Frag) (δ : List Slot) (P : List PyData → List Slot → Prop) : TI := fun σ H R => ∃ B F, Wf K B H σ δ F ∧ ∀ J ds δ2 B2 H2 F2, Step B H F B2 H2 F2 → Wf K B2 H2 σ δ2 F2 → P ds δ2 → Wk K J B2 ds → R J H2
abbrev XIF (X : Cx) (tg : Expr) (δ : List Slot) (iter : Expr) (P : List PyData → List Slot → Prop) : Prop := PI X tg iter (tIE X.K δ P)
section
variable {X : Cx} {δ δ2 : List Slot} {a b c e tg iter elt : Expr} {pos p0 p1 p : Pos} {ds ys : List PyData} {es : List Expr} {d d1 d2 : PyData} {rest body : List Stmt} {R : Post} {st : Stmt} {P : PyData → List Slot → Prop} {P0 : List PyData → List Slot → Prop}
theorem xif_list (h : XF X δ iter (fun d δ' => ∃ ds, d = .list ds ∧ P0 ds δ')) : XIF X tg δ iter P0 := (pi_list h).weak fun σ H R ⟨B, F, W, q⟩ => ⟨B, F, W, fun v d δ2 B2 H2 F2 s2 W2 ⟨ds, e, hp⟩ r => by
  subst e
  cases r with
  | @lst a xs _ h1 r1 => exact ⟨a, rfl, ⟨xs, SqL.of (W2.bh _ _ h1)⟩, q _ ds δ2 B2 H2 F2 s2 W2 hp (wk_list h1 r1)⟩⟩
theorem xif_rng1 (hm : X.mg "range" = none) (h : XF X δ a (fun d δ' => ∃ j : Int, d = .int j ∧ (-(2 ^ 62) ≤ j ∧ j < 2 ^ 62) ∧ P0 (rangeD 0 j.toNat) δ')) (hg : Gl X "range" := by rfl) (hs : starEach [a] X.env = [(false, eval a X.env)] := by rfl) : XIF X tg δ (.Call (.Name "range" p) [a] [] pos) P0 :=
  (pi_range1 hg hm (pa_cons h pa_nil hs) hs).weak fun σ H R ⟨B, F, W, q⟩ => ⟨B, F, W, fun v d δ2 B2 H2 F2 s2 W2 ⟨j, e, hj, hp⟩ r => by
    subst e
    cases r
    exact ⟨j, rfl, hj.1, hj.2, q _ _ δ2 B2 H2 F2 s2 W2 hp wk_rng⟩⟩
theorem lcF_turnE {K : PySem.W.Frag} {j bd : Nat} {wi : TI} {P0 : List PyData → List Slot → Prop} (J : Nat → List Slot → Prop) (Pd : Nat → PyData → Prop) (hz0 : bd ≤ 1000000) (h00 : ∀ ds0 δ1, P0 ds0 δ1 → ds0.length ≤ bd ∧ J 0 (δ1.set j .no)) (hlen : ∀ i δ', J i δ' → δ'[j]? = some .no) (hwi : ∀ σ H R, tIE K δ P0 σ H R → wi σ H R)
    {tG' : TG} {tE' : TE} (hG : ∀ v σ H Q, (∃ z : PyData × List Slot, tG K [j] z.1 z.2 (z.2.set j (.dat z.1)) v σ H Q) → tG' v σ H Q)
    (hE : ∀ σ H Q, (∃ z : {z : Nat × PyData × List Slot // J z.1 z.2.2 ∧ z.1 < bd}, tE K (z.1.2.2.set j (.dat z.1.2.1)) (fun d δ2 => Pd z.1.1 d ∧ J (z.1.1 + 1) (δ2.set j .no)) σ H Q) → tE' σ H Q) :
    ∀ σ H Q, tE K δ (fun d δ2 => ∃ ds, d = .list ds ∧ ds.length ≤ bd ∧ (∀ i d, ds[i]? = some d → Pd i d) ∧ J ds.length δ2) σ H Q → tLc wi tG' tYes tE' [j] σ H Q := fun σ H Q ⟨B, F, W, q⟩ => by
  refine hwi σ H _ ⟨B, F, W, fun It l δ1 B1 H1 F1 s1 W1 hp0 wk D hD => ?_⟩
  obtain ⟨hlb, h0⟩ := h00 _ _ hp0
  have hz : l.length ≤ 1000000 := Nat.le_trans hlb hz0
  have jw : ∀ σ' : L2.St, wipe σ' [j] = σ'.set j none := fun _ => rfl
  refine ⟨fun i m H' => m = l.length - i ∧ i ≤ l.length ∧ ∃ Bi xs ds δi Fi, Step B1 H1 F1 Bi H' Fi ∧ Same B1 Bi ∧ Wf K Bi H' (wipe σ [j]) δi Fi ∧ J i δi ∧ H' D = some (.lst xs) ∧ Bi D = none ∧ (∀ k, D ∉ Fi k) ∧ RpA K Bi xs ds ∧ ds.length = i ∧ ∀ k d, ds[k]? = some d → Pd k d,
    ⟨l.length, by simp, Nat.zero_le _, B1, [], [], δ1.set j .no, _, (Step.of (F := F1) (Grow.newH W1.bh hD)).sub (F2 := fun k => if k = j then [] else F1 k) cut_sub, Same.refl _, (W1.grow (Grow.newH W1.bh hD)).no j none, h0, upd_same, W1.bh.free hD, fun k hk => ?_, .nil, rfl, fun k d h => by simp at h⟩, ?_⟩
  · have hk : D ∈ (if k = j then [] else F1 k) := hk
    by_cases e : k = j
    · rw [if_pos e] at hk
      cases hk
    · rw [if_neg e] at hk
      obtain ⟨_, o, ho⟩ := W1.own k D hk
      rw [hD] at ho
      cases ho
  rintro i m H' ⟨rfl, hle, Bi, xs, ds, δi, Fi, si, sm, Wi, hJ, hx, hb, hD2, r, hdl, hpd⟩
  by_cases hlt : i < l.length
  · refine .inr ⟨wk.go i H' (sm.trans Wi.bh) hlt, fun H2 => ∃ Bi xs ds δi Fi, Step B1 H1 F1 Bi H2 Fi ∧ Same B1 Bi ∧ Wf K Bi H2 (wipe σ [j]) δi Fi ∧ J (i + 1) δi ∧ H2 D = some (.lst xs) ∧ Bi D = none ∧ (∀ k, D ∉ Fi k) ∧ RpA K Bi xs ds ∧ ds.length = i + 1 ∧ ∀ k d, ds[k]? = some d → Pd k d, fun H2 h2 => ⟨l.length - (i + 1), by omega, rfl, hlt, h2⟩, fun x H2 hy => ?_⟩
    have hget : l[i]? = some l[i] := List.getElem?_eq_getElem hlt
    have hmem : l[i] ∈ l := List.getElem_mem hlt
    generalize hd : l[i] = y at hget hmem
    obtain ⟨B2, g2, r2⟩ := wk.yld i Bi H' x H2 sm Wi.bh hy y hget
    have W2 := Wi.grow g2
    have h2D : H2 D = some (.lst xs) := g2.hh _ _ hx
    have b2D : B2 D = none := (g2.fr D _ hx).trans hb
    refine hG x _ H2 _ ⟨(y, δi), B2, Fi, W2, r2, fun σ3 F3 W3 sb hl hk => ⟨wipe_same hl hk (fun k hk => hk), ?_⟩⟩
    show tE' σ3 H2 _
    refine hE σ3 H2 _ ⟨⟨(i, y, δi), hJ, Nat.lt_of_lt_of_le hlt hlb⟩, B2, F3, W3, fun v d δ4 B4 H4 F4 s4 W4 ⟨hpv, hJ4⟩ r4 => ?_⟩
    have nD3 : ∀ k, D ∉ F3 k := fun k hk => by
      obtain ⟨m, hm⟩ := sb k D hk
      exact hD2 m hm
    have h4D : H4 D = some (.lst xs) := s4.keep D _ h2D nD3
    have b4D : B4 D = none := (s4.fr D _ h2D nD3).trans b2D
    have nD4 : ∀ k, D ∉ F4 k := fun k hk => by
      rcases s4.fn k D hk with ⟨m, hm⟩ | h
      · exact nD3 m hm
      · rw [h2D] at h
        cases h
    have s5 : Step B1 H1 F1 B4 H4 F4 := (si.trans ((Step.of (F := Fi) g2).sub sb)).trans s4
    have W5 := W4.no j none
    have es : σ3.set j none = wipe σ [j] := by
      rw [← jw σ3]
      exact wipe_same hl hk (fun k hk => hk)
    rw [es] at W5
    refine ⟨xs, h4D, ?_, B4, xs ++ [v], ds ++ [d], δ4.set j .no, (fun k => if k = j then [] else F4 k), ?_, (sm.trans g2.bb).trans s4.bb, ?_, hJ4, upd_same, b4D, fun k hk => ?_, (((r.mono g2.bb).mono s4.bb)).append (.cons r4 .nil), by rw [List.length_append, hdl]; rfl, fun k d' hk => ?_⟩
    · have h1 := r.length
      have : xs.length < 1000000 := by omega
      exact Nat.lt_of_lt_of_le this (sz_of (Nat.le_refl _))
    · have s6 := s5.sub (F2 := fun k => if k = j then [] else F4 k) cut_sub
      have nH : H1 D = none := hD
      refine ⟨s6.bb, fun b o hb' hn => ?_, s6.fr, fun b o hb' => ?_, s6.fn⟩
      · rw [upd_ne (ne_of_none hb' nH)]
        exact s6.keep b o hb' hn
      · rw [upd_ne (ne_of_none hb' nH)]
        exact s6.there b o hb'
    · refine ⟨fun b o e => ?_, W5.len, fun k s e => ?_, W5.out, W5.dis, fun k a ha => ?_⟩
      · have : b ≠ D := fun z => by rw [z, b4D] at e; cases e
        rw [upd_ne this]
        exact W5.bh b o e
      · obtain ⟨o, a1, a2⟩ := W5.sl k s e
        refine ⟨o, a1, a2.loc (Same.refl _) fun a ha => ?_⟩
        rw [upd_ne]
        intro z
        obtain ⟨m, hm⟩ := cut_sub (F := F4) (i := j) k a ha
        rw [z] at hm
        exact nD4 m hm
      · obtain ⟨a1, o, a2⟩ := W5.own k a ha
        refine ⟨a1, o, ?_⟩
        rw [upd_ne]
        · exact a2
        intro z
        obtain ⟨m, hm⟩ := cut_sub (F := F4) (i := j) k a ha
        rw [z] at hm
        exact nD4 m hm
    · obtain ⟨m, hm⟩ := cut_sub (F := F4) (i := j) k D hk
      exact nD4 m hm
    · by_cases hki : k < ds.length
      · rw [List.getElem?_append_left hki] at hk
        exact hpd k d' hk
      · rw [List.getElem?_append_right (by omega)] at hk
        have : k - ds.length = 0 := by
          have := (List.getElem?_eq_some_iff.mp hk).1
          simp at this
          omega
        rw [this] at hk
        have : d = d' := by simpa using hk
        subst this
        have : k = i := by omega
        rw [this]
        exact hpv
  · have e : i = l.length := by omega
    subst e
    refine .inl ⟨wk.stop H' (sm.trans Wi.bh), ?_⟩
    have hno := hlen _ _ hJ
    have ll : δi.length = σ.length := by rw [Wi.len, wipe_length]
    have W6 : Wf K Bi H' σ δi Fi := by
      refine Wi.wk ll rfl (fun k s hk => ?_) Wi.out
      by_cases ek : k = j
      · subst ek
        rw [hno] at hk
        cases hk
        left
        obtain ⟨o, _, a2⟩ := Wi.sl k _ hno
        refine ⟨?_, rfl⟩
        cases o <;> exact a2
      · right
        refine ⟨rfl, hk, ?_⟩
        rw [jw, List.getElem?_set_ne (Ne.symm ek)]
    have g7 : Grow Bi H' (upd Bi D (.lst xs)) H' → False ∨ True := fun _ => .inr trivial
    have sbb : Same Bi (upd Bi D (.lst xs)) := same_upd hb
    have W7 : Wf K (upd Bi D (.lst xs)) H' σ δi Fi := by
      refine ⟨fun b o e => ?_, W6.len, fun k s e => ?_, W6.out, W6.dis, fun k a ha => ?_⟩
      · by_cases z : b = D
        · rw [z, upd_same] at e
          cases e
          rw [z]
          exact hx
        · rw [upd_ne z] at e
          exact W6.bh b o e
      · obtain ⟨o, a1, a2⟩ := W6.sl k s e
        exact ⟨o, a1, a2.loc sbb fun _ _ => rfl⟩
      · obtain ⟨a1, a2⟩ := W6.own k a ha
        refine ⟨?_, a2⟩
        rw [upd_ne (show a ≠ D from fun z => hD2 k (by rw [← z]; exact ha))]
        exact a1
    have nH1 : H1 D = none := hD
    refine q (.ref D) (.list ds) δi (upd Bi D (.lst xs)) H' Fi (s1.trans ⟨si.bb.trans sbb, si.keep, fun b o e hn => ?_, si.there, si.fn⟩) W7 ⟨ds, rfl, by rw [hdl]; exact hlb, hpd, by rw [hdl]; exact hJ⟩ (.lst upd_same (r.mono sbb))
    rw [upd_ne (ne_of_none e nH1)]
    exact si.fr b o e hn
/-- [elt for x in iter], iter and elt with effects -/
theorem xlE {scope : Scope} (j : Nat) {x : Str} {bd : Nat} (J : Nat → List Slot → Prop) (Pd : Nat → PyData → Prop) (hN : X.N.Nodup) (hi : XIF X (.Name x p) δ iter P0) (hz : bd ≤ 1000000) (h0 : ∀ ds0 δ1, P0 ds0 δ1 → ds0.length ≤ bd ∧ J 0 (δ1.set j .no)) (hlen : ∀ i δ', J i δ' → δ'[j]? = some .no)
    (he : Blk X scope fun Y => ∀ i y δ', i < bd → J i δ' → XF Y (δ'.set j (.dat y)) elt (fun d δ2 => Pd i d ∧ J (i + 1) (δ2.set j .no)))
    (ok : BlkOk X.N X.env.scope scope [(x, j)] := by exact blkOk_by (by kernel_rfl)) (hj : X.N[j]? = some x := by rfl) (hx : Blk X scope fun Y => Loc Y.env.scope x := by first | exact fun _ _ _ _ _ => Or.inl rfl | exact fun _ _ _ _ _ => Or.inr rfl) (hf : Blk X scope fun Y => Y.fn x = true ∨ Y.env.scope.names.lookup x = some .local := by first | exact fun _ _ _ _ _ => Or.inr rfl | exact fun _ _ _ _ _ => Or.inl rfl)
    (hc : X.calm = true := by rfl) (hs : ∀ x, foldedSetIterable iter X.env x = pure x := by intro _; rfl) : XF X δ (.ListComp elt [⟨.Name x p, iter, [], 0⟩] scope pos) (fun d δ2 => ∃ ds, d = .list ds ∧ ds.length ≤ bd ∧ (∀ i d, ds[i]? = some d → Pd i d) ∧ J ds.length δ2) := by
  have hG : Blk X scope fun Y => PG Y (.Name x p) (fun v σ H Q => ∃ z : PyData × List Slot, tG X.K [j] z.1 z.2 (z.2.set j (.dat z.1)) v σ H Q) := fun s H C cl fp => pg_ex fun z : PyData × List Slot => xg_name j hN hj (hx s H C cl fp) (hf s H C cl fp)
  have hE : Blk X scope fun Y => PE Y elt (fun σ H Q => ∃ z : {z : Nat × PyData × List Slot // J z.1 z.2.2 ∧ z.1 < bd}, tE X.K (z.1.2.2.set j (.dat z.1.2.1)) (fun d δ2 => Pd z.1.1 d ∧ J (z.1.1 + 1) (δ2.set j .no)) σ H Q) := fun s H C cl fp => pe_ex fun z : {z : Nat × PyData × List Slot // J z.1 z.2.2 ∧ z.1 < bd} => he s H C cl fp z.1.1 z.1.2.1 z.1.2.2 z.2.2 z.2.1
  exact (pe_lc (own := [(x, j)]) hc hN hi ok hG (fun _ _ _ _ _ => pts_nil) hE hs).weak (lcF_turnE J Pd hz h0 hlen (fun _ _ _ q => q) (fun _ _ _ _ q => q) (fun _ _ _ q => q))
/-- for x in iter, iter with effects -/
theorem xb_forE {is : List Nat} (Δ : PyData → List Slot → List Slot) (J : List PyData → Nat → List Slot → Prop) (M : List Slot → Prop) (hi : XIF X tg δ iter P0) (h0 : ∀ ds δ1, P0 ds δ1 → J ds 0 δ1)
    (hg : ∀ ds i δ' d, J ds i δ' → ds[i]? = some d → XG X tg is d δ' (Δ d δ'))
    (hs : ∀ ds i δ' d, J ds i δ' → ds[i]? = some d → XB X (Δ d δ') body { R with nx := J ds (i + 1), ct := J ds (i + 1), bk := M }) (hM : ∀ ds δ', J ds ds.length δ' → M δ')
    (h : ∀ δ', M δ' → XB X δ' rest R) (hp : PassesOwn (model X.prog X.w) X.A X.env X.xe := by exact PassesOwn.never) (hc : X.calm = true := by rfl) (hss : ∀ x, foldedSetIterable iter X.env x = pure x := by intro _; rfl) : XB X δ (.For tg iter body [] pos :: rest) R := by
  let ι := {z : List PyData × Nat × List Slot × PyData // J z.1 z.2.1 z.2.2.1 ∧ z.1[z.2.1]? = some z.2.2.2}
  have hG : PG X tg (fun v σ H Q => ∃ z : ι, tG X.K is z.1.2.2.2 z.1.2.2.1 (Δ z.1.2.2.2 z.1.2.2.1) v σ H Q) := pg_ex fun z : ι => hg z.1.1 z.1.2.1 z.1.2.2.1 z.1.2.2.2 z.2.1 z.2.2
  have hB : PSs X body (fun D σ H => ∃ z : ι, tS X.K (Δ z.1.2.2.2 z.1.2.2.1) { R with nx := J z.1.1 (z.1.2.1 + 1), ct := J z.1.1 (z.1.2.1 + 1), bk := M } D σ H) := pss_ex fun z : ι => hs z.1.1 z.1.2.1 z.1.2.2.1 z.1.2.2.2 z.2.1 z.2.2
  have hr : PSs X rest (fun D σ H => ∃ z : {δ' // M δ'}, tS X.K z.1 R D σ H) := pss_ex fun z : {δ' // M δ'} => h z.1 z.2
  refine xb_cons (ps_for hp hc hi hG hB hss) hr fun D σ H B F W o => ⟨B, F, W, fun It ds δ1 B1 H1 F1 s1 W1 hp1 wk => ?_⟩
  refine ⟨fun i m σ' H' => m = ds.length - i ∧ i ≤ ds.length ∧ ∃ δ' B' F', J ds i δ' ∧ Wf X.K B' H' σ' δ' F' ∧ Step B H F B' H' F' ∧ Same B1 B', ⟨ds.length, by simp, Nat.zero_le _, δ1, B1, F1, h0 _ _ hp1, W1, s1, Same.refl _⟩, ?_⟩
  rintro i m σ' H' ⟨rfl, hle, δ', B', F', hj, W', s', sm⟩
  by_cases hlt : i < ds.length
  · refine .inr ⟨wk.go i H' (sm.trans W'.bh) hlt, fun σ3 H3 => ∃ δ3 B3 F3, J ds (i + 1) δ3 ∧ Wf X.K B3 H3 σ3 δ3 F3 ∧ Step B H F B3 H3 F3 ∧ Same B1 B3, fun σ3 H3 ⟨δ3, B3, F3, q⟩ => ⟨ds.length - (i + 1), by omega, rfl, hlt, δ3, B3, F3, q⟩, fun x H2 hy => ?_⟩
    have hget : ds[i]? = some ds[i] := List.getElem?_eq_getElem hlt
    generalize ds[i] = d at hget
    obtain ⟨B2, g2, r2⟩ := wk.yld i B' H' x H2 sm W'.bh hy d hget
    have s2 := s'.trans (Step.of (F := F') g2)
    refine ⟨⟨(ds, i, δ', d), hj, hget⟩, B2, F', W'.grow g2, r2, fun σ3 F3 W3 sb _ _ => ⟨⟨(ds, i, δ', d), hj, hget⟩, ts_iff.mpr ⟨B2, F3, W3, ?_, ?_, ?_, ?_, fun v σ4 δ4 B4 H4 F4 s4 W4 q => o.rr v σ4 δ4 B4 H4 F4 ((s2.sub sb).trans s4) W4 q, o.gh.step (s2.sub sb)⟩⟩⟩
    all_goals have s3 := s2.sub sb
    · exact fun σ4 δ4 B4 H4 F4 s4 W4 q => ⟨δ4, B4, F4, q, W4, s3.trans s4, (sm.trans g2.bb).trans s4.bb⟩
    · exact fun v d σ4 δ4 B4 H4 F4 s4 W4 q r => o.rt v d σ4 δ4 B4 H4 F4 (s3.trans s4) W4 q r
    · exact fun σ4 δ4 B4 H4 F4 s4 W4 q => ⟨⟨δ4, q⟩, ts_iff.mpr ⟨B4, F4, W4, o.step (s3.trans s4)⟩⟩
    · exact fun σ4 δ4 B4 H4 F4 s4 W4 q => ⟨δ4, B4, F4, q, W4, s3.trans s4, (sm.trans g2.bb).trans s4.bb⟩
  · have e : i = ds.length := by omega
    subst e
    exact .inl ⟨wk.stop H' (sm.trans W'.bh), ⟨δ', hM _ _ hj⟩, ts_iff.mpr ⟨B', F', W', o.step s'⟩⟩
/-! ### in a tuple -/
def rInT (K : PySem.W.Frag) : R2 := fun x y H Q => ∃ d ds, Dp K H x d ∧ Dp K H y (.tuple ds) ∧ SeqAt.shaped d = true ∧ SeqAt.shaped (.tuple ds) = true ∧ Q (.bl (ds.any fun z => PyData.eqv z d)) H
theorem op_inT (hu : X.A.units + 65 < cLine) : OpR X (compareOp .In) (rInT X.K) := by
  intro pins s σ H x y v u Q I rx ry h
  obtain ⟨d, ds, hd, he, sd, se, q⟩ := h
  obtain ⟨as, r1⟩ := Dp.reads I d x v hd rx
  obtain ⟨bs, r2⟩ := Dp.reads I (.tuple ds) y u he ry
  exact SeqAt.in_tuple_reads r2 r1 (SeqAt.canLay_of_shaped se) (SeqAt.canLay_of_shaped sd) (room_in_shaped sd hu) ⟨.bl _, H, I, rfl, q⟩
theorem xe_inT (hu : X.A.units + 65 < cLine) (ha : XE X δ a d1) (hb : XE X δ b (.tuple ds)) (h1 : SeqAt.shaped d1 = true) (h2 : SeqAt.shaped (.tuple ds) = true) (hm : behindInMarks .In b = false := by first | exact nomark _ | rfl) : XE X δ (.Compare a [.In] [b] pos) (.bool (ds.any fun z => PyData.eqv z d1)) :=
  (pe_cmpR (op_inT hu) ha hb hm).weak (op_weak ha hb fun B H x y Q s rx ry q => ⟨d1, ds, (rx.mono s).dp (lay_sh h1), (ry.mono s).dp (lay_sh h2), h1, h2, q _ B H (Grow.refl s) (.bl _)⟩)
end
end Dl

set_option Elab.async false
set_option linter.all false
set_option maxRecDepth 100000
set_option maxHeartbeats 4000000
/-! The data level: answers that are owned: two new pairs, two new lists. -/
namespace Dl
open PySem PySem.Spec PyProof.Rows L2
/-- a list of two pairs of two lists of truths, all owned -/
def pairsR (l1 l2 : List Bool) : Res where
  ok := fun _ H v fp => ∃ z t1 p1 q1 t2 p2 q2, v = .ref z ∧ fp = [z, t1, p1, q1, t2, p2, q2] ∧ fp.Nodup ∧ H z = some (.lst [.ref t1, .ref t2]) ∧ H t1 = some (.tup [.ref p1, .ref q1]) ∧ H p1 = some (.lst (l1.map V.bl)) ∧ H q1 = some (.lst (l2.map V.bl)) ∧ H t2 = some (.tup [.ref p2, .ref q2]) ∧ H p2 = some (.lst (l1.map V.bl)) ∧ H q2 = some (.lst (l2.map V.bl))
  loc := fun {B B' H H' v fp} ⟨z, t1, p1, q1, t2, p2, q2, h1, h2, h3, a1, a2, a3, a4, a5, a6, a7⟩ _ hh => by
    subst h2
    exact ⟨z, t1, p1, q1, t2, p2, q2, h1, rfl, h3, by rw [hh z (by simp)]; exact a1, by rw [hh t1 (by simp)]; exact a2, by rw [hh p1 (by simp)]; exact a3, by rw [hh q1 (by simp)]; exact a4, by rw [hh t2 (by simp)]; exact a5, by rw [hh p2 (by simp)]; exact a6, by rw [hh q2 (by simp)]; exact a7⟩
/-- a list of two lists of whole numbers, all owned -/
def listsR (ns : List Int) : Res where
  ok := fun _ H v fp => ∃ z a b, v = .ref z ∧ fp = [z, a, b] ∧ fp.Nodup ∧ H z = some (.lst [.ref a, .ref b]) ∧ H a = some (.lst (ns.map V.int)) ∧ H b = some (.lst (ns.map V.int))
  loc := fun {B B' H H' v fp} ⟨z, a, b, h1, h2, h3, a1, a2, a3⟩ _ hh => by
    subst h2
    exact ⟨z, a, b, h1, rfl, h3, by rw [hh z (by simp)]; exact a1, by rw [hh a (by simp)]; exact a2, by rw [hh b (by simp)]; exact a3⟩
theorem pairsR.rp {K : PySem.W.Frag} {l1 l2 : List Bool} {B H : Hp} {v : V} {fp : List Addr} (h : (pairsR l1 l2).ok B H v fp) : Rp K H v (.list [.tuple [.list (l1.map .bool), .list (l2.map .bool)], .tuple [.list (l1.map .bool), .list (l2.map .bool)]]) := by
  obtain ⟨z, t1, p1, q1, t2, p2, q2, rfl, _, _, a1, a2, a3, a4, a5, a6, a7⟩ := h
  exact .lst a1 (.cons (.tup (.inl (.inl a2)) (.cons (.lst a3 (RpA.bls l1)) (.cons (.lst a4 (RpA.bls l2)) .nil))) (.cons (.tup (.inl (.inl a5)) (.cons (.lst a6 (RpA.bls l1)) (.cons (.lst a7 (RpA.bls l2)) .nil))) .nil))
theorem listsR.rp {K : PySem.W.Frag} {ns : List Int} {B H : Hp} {v : V} {fp : List Addr} (h : (listsR ns).ok B H v fp) : Rp K H v (.list [.list (ns.map .int), .list (ns.map .int)]) := by
  obtain ⟨z, a, b, rfl, _, _, a1, a2, a3⟩ := h
  exact .lst a1 (.cons (.lst a2 (RpA.ints ns)) (.cons (.lst a3 (RpA.ints ns)) .nil))
/-- an expression that tells a new pair -/
def tNew (K : PySem.W.Frag) (δ : List Slot) (l1 l2 : List Bool) : TE := fun σ H Q => ∃ B F, Wf K B H σ δ F ∧ ∀ t p q H2, Same H H2 → NewPair H H2 t p q l1 l2 → Q (.ref t) H2
abbrev XNew (X : Cx) (δ : List Slot) (e : Expr) (l1 l2 : List Bool) : Prop := PE X e (tNew X.K δ l1 l2)
theorem Wf.same {K : PySem.W.Frag} {B H H2 : Hp} {σ : L2.St} {δ : List Slot} {F : Nat → List Addr} (W : Wf K B H σ δ F) (s : Same H H2) : Wf K B H2 σ δ F := W.grow ⟨Same.refl B, W.bh.trans s, s, fun _ _ _ => rfl⟩
theorem Wf.fresh {K : PySem.W.Frag} {B H : Hp} {σ : L2.St} {δ : List Slot} {F : Nat → List Addr} (W : Wf K B H σ δ F) {p : Addr} (h : H p = none) : B p = none ∧ ∀ j, p ∉ F j := ⟨W.bh.free h, fun j hj => by
  obtain ⟨_, u, hu⟩ := W.own j p hj
  rw [h] at hu
  cases hu⟩
section
variable {X : Cx} {δ : List Slot} {e e1 e2 : Expr} {es : List Expr} {p p1 pos kp : Pos} {ds : List PyData} {d d1 d2 : PyData} {l1 l2 : List Bool} {rest : List Stmt} {R : Post} {x n1 : Str} {k : Bool}
theorem xnew_call {j : Nat} {ps : List Str} {f : List PyData → List Bool → List Bool → Prop} (G : Def X.prog X.w X.K X.mg X.base j x ps (SpF X.K f)) (hr : Room j X.A) (ha : XA X δ (e :: es) ds) (hf : f ds l1 l2) (hg : Gl X x := by rfl) (hdb : (x == ("__debug__" : Str)) = false := by decide)
    (he : starEach (e :: es) X.env = (false, eval e X.env) :: starEach es X.env := by rfl) (hpl : (backTo pos (starEach es X.env)).any (·.1) = false := by rfl) : XNew X δ (.Call (.Name x p) (e :: es) [] pos) l1 l2 := by
  obtain ⟨fa, fd, h1, h2, h3, h4⟩ := G.ex
  refine (pe_call h4 hr hg h1 h2 h3 .nil pass0 ha hdb he hpl).weak fun σ H Q ⟨B, F, W, q⟩ => ⟨B, F, W, fun vs B2 H2 g2 r2 => ?_⟩
  show SpF X.K f (vs ++ []) H2 Q _
  rw [List.append_nil]
  exact ⟨B2, ds, l1, l2, g2.bh, r2, hf, fun t pa qa H3 sm3 n => q t pa qa H3 (g2.hh.trans sm3) (n.back fun b o hb => ⟨o, g2.hh b o hb⟩)⟩
theorem xnew_callK1 {j : Nat} {f : List PyData → List Bool → List Bool → Prop} (hr : Room j X.A)
    (hkb : ∃ g fd, X.mg x = some (.ref g) ∧ PySem.W.keepIn X.K (.ref g) = true ∧ FnOk X.prog X.w X.K X.mg X.base CX0 j g fd [n1] (SpF X.K f) ∧ KBinds X.K fd [n1] [n1] oneK oneK)
    (h1 : XE X δ e d1) (hf : f [d1] l1 l2) (hg : Gl X x := by rfl) (hdb : (x == ("__debug__" : Str)) = false := by decide)
    (hall : (backToKw pos (keywordEach [⟨some n1, e, kp⟩] X.env)).all (·.1.isSome) = true := by rfl) (hks : (backToKw pos (keywordEach [⟨some n1, e, kp⟩] X.env)).filterMap (·.1) = [n1] := by rfl)
    (hpl : ((backTo pos (starEach [] X.env)).any (·.1) || (backToKw pos (keywordEach [⟨some n1, e, kp⟩] X.env)).any (·.1.isNone)) = false := by rfl) : XNew X δ (.Call (.Name x p) [] [⟨some n1, e, kp⟩] pos) l1 l2 := by
  obtain ⟨g, fd, m1, m2, m3, m4⟩ := hkb
  refine ⟨fun pins s σ H Q I ⟨B, F, W, q⟩ => ?_⟩
  refine wpAny_Call_Name_kw (ld_glob I hg m1 ?_ hdb)
  refine PySem.W.callWith_KW0 (h₀ := X.base) I.ok.mod.kin m2 hall (thn ((pk_cons h1 pk_nil).run pos pins s σ H (fun zs H3 => ∃ v1 B3, zs = [v1] ∧ Grow B H B3 H3 ∧ Rp X.K B3 v1 d1) I ⟨B, F, W, fun v1 B1 H1 g1 r1 => ⟨v1, B1, rfl, g1, r1⟩⟩) fun ws s2 ⟨zs, H3, I3, rz, v1, B3, ez, g3, r1⟩ => ⟨I3.kIn, ?_⟩) hpl
  rw [hks]
  subst ez
  exact run_fnk (us := []) (vs := []) m3 hr m4 pass0 I3 .nil rz ⟨B3, [d1], l1, l2, g3.bh, .cons r1 .nil, hf, fun t pa qa H4 sm4 n => q t pa qa H4 (g3.hh.trans sm4) (n.back fun b o hb => ⟨o, g3.hh b o hb⟩)⟩
/-- x = [e1, e2], each a new pair -/
theorem xb_toldPairs (i : Nat) (h1 : XNew X δ e1 l1 l2) (h2 : XNew X δ e2 l1 l2) (kk : XB X (δ.set i (.own (pairsR l1 l2))) rest R) (hN : X.N.Nodup) (hl : i < δ.length := by exact Nat.le_of_ble_eq_true rfl) (hi : X.N[i]? = some x := by rfl) (hx : Loc X.env.scope x := by first | exact Or.inl rfl | exact Or.inr rfl)
    (hs : swapsWith (.List [e1, e2] p1) (some (.Name x p)) pos.line X.env = pure false := by rfl) (hf : X.fn x = true ∨ X.env.scope.names.lookup x = some .local := by first | exact .inl rfl | exact .inr rfl)
    (hs1 : starEach [e1, e2] X.env = (false, eval e1 X.env) :: starEach [e2] X.env := by rfl) (hs2 : starEach [e2] X.env = (false, eval e2 X.env) :: starEach [] X.env := by rfl) : XB X δ (.Assign [.Name x p] (.List [e1, e2] p1) pos :: rest) R :=
  xb_cons (ps_set hN hi hx (pe_lst (pa_cons h1 (pa_cons h2 pa_nil hs2) hs1)) hs hf) kk fun D σ H B F W o => by
    refine ⟨B, F, W, fun t1 p1 q1 H1 sm1 n1 => ⟨B, F, W.same sm1, fun t2 p2 q2 H2 sm2 n2 => ⟨sz_of (by show 2 ≤ 1000000; decide), fun z hz => ?_⟩⟩⟩
    have s13 : Same H1 (upd H2 z (.lst [.ref t1, .ref t2])) := sm2.trans (same_upd hz)
    have s23 : Same H2 (upd H2 z (.lst [.ref t1, .ref t2])) := same_upd hz
    have sH : Same H (upd H2 z (.lst [.ref t1, .ref t2])) := sm1.trans s13
    have W3 := W.same sH
    have nz : ∀ b o, H2 b = some o → z ≠ b := fun b o h e => by rw [← e, hz] at h; cases h
    have n12 : ∀ b o, H1 b = some o → b ≠ t2 ∧ b ≠ p2 ∧ b ≠ q2 := fun b o h => ⟨fun z => (by rw [z, n2.ht] at h; cases h), fun z => (by rw [z, n2.hp] at h; cases h), fun z => (by rw [z, n2.hq] at h; cases h)⟩
    have a1 := n12 _ _ n1.at_
    have a2 := n12 _ _ n1.ap
    have a3 := n12 _ _ n1.aq
    have hz0 : H z = none := by
      cases q : H z with
      | none => rfl
      | some u => rw [sm2 _ _ (sm1 _ _ q)] at hz; cases hz
    have fr : ∀ b, b ∈ [z, t1, p1, q1, t2, p2, q2] → H b = none := fun b hb => by
      have back : ∀ b, H1 b = none → H b = none := fun b e => by
        cases q : H b with
        | none => rfl
        | some u => rw [sm1 _ _ q] at e; cases e
      simp only [List.mem_cons, List.not_mem_nil, or_false] at hb
      rcases hb with e | e | e | e | e | e | e
      · rw [e]; exact hz0
      · rw [e]; exact n1.ht
      · rw [e]; exact n1.hp
      · rw [e]; exact n1.hq
      · rw [e]; exact back _ n2.ht
      · rw [e]; exact back _ n2.hp
      · rw [e]; exact back _ n2.hq
    refine ts_iff.mpr ⟨B, _, W3.putO (r := pairsR l1 l2) (fp := [z, t1, p1, q1, t2, p2, q2]) hl ⟨z, t1, p1, q1, t2, p2, q2, rfl, rfl, ?_, upd_same, s13 _ _ n1.at_, s13 _ _ n1.ap, s13 _ _ n1.aq, s23 _ _ n2.at_, s23 _ _ n2.ap, s23 _ _ n2.aq⟩ (fun b hb => ?_), o.step ⟨Same.refl B, fun b u e _ => sH _ _ e, fun _ _ _ _ => rfl, fun b u e => ⟨u, sH _ _ e⟩, fun j b hb => ?_⟩⟩
    · simp only [List.nodup_cons, List.mem_cons, List.not_mem_nil, or_false, not_or, not_false_eq_true, List.nodup_nil, and_true]
      exact ⟨⟨nz _ _ (sm2 _ _ n1.at_), nz _ _ (sm2 _ _ n1.ap), nz _ _ (sm2 _ _ n1.aq), nz _ _ n2.at_, nz _ _ n2.ap, nz _ _ n2.aq⟩, ⟨n1.tp, n1.tq, a1.1, a1.2.1, a1.2.2⟩, ⟨n1.pq, a2.1, a2.2.1, a2.2.2⟩, ⟨a3.1, a3.2.1, a3.2.2⟩, ⟨n2.tp, n2.tq⟩, n2.pq⟩
    · have h0 := fr b hb
      refine ⟨⟨W.bh.free h0, ?_⟩, fun j _ => (W.fresh h0).2 j⟩
      simp only [List.mem_cons, List.not_mem_nil, or_false] at hb
      rcases hb with e | e | e | e | e | e | e
      · rw [e]; exact ⟨_, upd_same⟩
      · rw [e]; exact ⟨_, s13 _ _ n1.at_⟩
      · rw [e]; exact ⟨_, s13 _ _ n1.ap⟩
      · rw [e]; exact ⟨_, s13 _ _ n1.aq⟩
      · rw [e]; exact ⟨_, s23 _ _ n2.at_⟩
      · rw [e]; exact ⟨_, s23 _ _ n2.ap⟩
      · rw [e]; exact ⟨_, s23 _ _ n2.aq⟩
    · by_cases hj : j = i
      · rw [if_pos hj] at hb
        exact .inr (fr b hb)
      · rw [if_neg hj] at hb
        exact .inl ⟨j, hb⟩
/-- x = [e1, e2], each a new list of whole numbers -/
theorem xb_toldLists (i : Nat) {ns : List Int} (h1 : XN X δ e1 (ns.map .int)) (h2 : XN X δ e2 (ns.map .int)) (kk : XB X (δ.set i (.own (listsR ns))) rest R) (hN : X.N.Nodup) (hl : i < δ.length := by exact Nat.le_of_ble_eq_true rfl) (hi : X.N[i]? = some x := by rfl) (hx : Loc X.env.scope x := by first | exact Or.inl rfl | exact Or.inr rfl)
    (hs : swapsWith (.List [e1, e2] p1) (some (.Name x p)) pos.line X.env = pure false := by rfl) (hf : X.fn x = true ∨ X.env.scope.names.lookup x = some .local := by first | exact .inl rfl | exact .inr rfl)
    (hs1 : starEach [e1, e2] X.env = (false, eval e1 X.env) :: starEach [e2] X.env := by rfl) (hs2 : starEach [e2] X.env = (false, eval e2 X.env) :: starEach [] X.env := by rfl) : XB X δ (.Assign [.Name x p] (.List [e1, e2] p1) pos :: rest) R :=
  xb_cons (ps_set hN hi hx (pe_lst (pa_cons h1 (pa_cons h2 pa_nil hs2) hs1)) hs hf) kk fun D σ H B F W o => by
    refine ⟨B, F, W, fun a xs B1 H1 g1 na nb e1 r1 => ⟨B1, F, W.grow g1, fun b ys B2 H2 g2 na2 nb2 e2 r2 => ⟨sz_of (by show 2 ≤ 1000000; decide), fun z hz => ?_⟩⟩⟩
    have ex := r1.ints_inv
    have ey := r2.ints_inv
    subst ex
    subst ey
    have g := g1.trans g2
    have g3 : Grow B H B2 (upd H2 z (.lst [.ref a, .ref b])) := g.trans (Grow.newH g.bh hz)
    have h2a : H2 a = some (.lst (ns.map V.int)) := g2.hh _ _ e1
    have nza : z ≠ a := fun e => by rw [e, h2a] at hz; cases hz
    have nzb : z ≠ b := fun e => by rw [e, e2] at hz; cases hz
    have nab : a ≠ b := fun e => by rw [← e, e1] at na2; cases na2
    have hb0 : H b = none := g1.hh.free na2
    have hz0 : H z = none := g.hh.free hz
    have b2a : B2 a = none := (g2.fr a _ e1).trans nb
    have b2z : B2 z = none := g.bh.free hz
    have fr : ∀ c, c ∈ [z, a, b] → H c = none ∧ B2 c = none := fun c hc => by
      simp only [List.mem_cons, List.not_mem_nil, or_false] at hc
      rcases hc with e | e | e
      · rw [e]; exact ⟨hz0, b2z⟩
      · rw [e]; exact ⟨na, b2a⟩
      · rw [e]; exact ⟨hb0, nb2⟩
    refine ts_iff.mpr ⟨B2, _, (W.grow g3).putO (r := listsR ns) (fp := [z, a, b]) hl ⟨z, a, b, rfl, rfl, ?_, upd_same, by rw [upd_ne (Ne.symm nza)]; exact h2a, by rw [upd_ne (Ne.symm nzb)]; exact e2⟩ (fun c hc => ?_), o.step ⟨g3.bb, fun b u e _ => g3.hh _ _ e, fun b u e _ => g3.fr b u e, fun b u e => ⟨u, g3.hh _ _ e⟩, fun j c hc => ?_⟩⟩
    · simp only [List.nodup_cons, List.mem_cons, List.not_mem_nil, or_false, not_or, not_false_eq_true, List.nodup_nil, and_true]
      exact ⟨⟨nza, nzb⟩, nab⟩
    · refine ⟨⟨(fr c hc).2, ?_⟩, fun j _ => (W.fresh (fr c hc).1).2 j⟩
      simp only [List.mem_cons, List.not_mem_nil, or_false] at hc
      rcases hc with e | e | e
      · rw [e]; exact ⟨_, upd_same⟩
      · rw [e, upd_ne (Ne.symm nza)]; exact ⟨_, h2a⟩
      · rw [e, upd_ne (Ne.symm nzb)]; exact ⟨_, e2⟩
    · by_cases hj : j = i
      · rw [if_pos hj] at hc
        exact .inr (fr c hc).1
      · rw [if_neg hj] at hc
        exact .inl ⟨j, hc⟩
/-- f(x, e), x owned: it is read, the answer a truth -/
theorem xe_callOwn (i : Nat) {a : Str} {j : Nat} {ps : List Str} {r : Res} {f : List PyData → PyData → Prop} (G : Def X.prog X.w X.K X.mg X.base j x ps (SpP X.K f)) (hr : Room j X.A) (h : δ[i]? = some (.own r)) (hrd : ∀ B H v fp, r.ok B H v fp → Rp X.K H v d1) (he2 : XE X δ e d2) (hf : f [d1, d2] (.bool k)) (hi : X.N[i]? = some a := by rfl)
    (hv : Vis X.env.scope a := by first | exact Or.inl rfl | exact Or.inr (Or.inl rfl) | exact Or.inr (Or.inr rfl)) (hd : (a == ("__debug__" : Str)) = false := by decide) (hcd : (a == ("__classdict__" : Str)) = false := by decide) (hg : Gl X x := by rfl) (hdb : (x == ("__debug__" : Str)) = false := by decide)
    (hs1 : starEach [.Name a p1, e] X.env = (false, eval (.Name a p1) X.env) :: starEach [e] X.env := by rfl) (hs2 : starEach [e] X.env = (false, eval e X.env) :: starEach [] X.env := by rfl) (hpl : (backTo pos (starEach [e] X.env)).any (·.1) = false := by rfl) : XE X δ (.Call (.Name x p) [.Name a p1, e] [] pos) (.bool k) := by
  obtain ⟨fa, fd, m1, m2, m3, m4⟩ := G.ex
  refine (pe_call m4 hr hg m1 m2 m3 .nil pass0 (pa_cons (pe_var (i := i) hi hv hd hcd) (pa_cons he2 pa_nil hs2) hs1) hdb hs1 hpl).weak fun σ H Q ⟨B, F, W, q⟩ => ?_
  obtain ⟨o, a1, a2⟩ := W.sl i _ h
  cases o with
  | none => exact a2.elim
  | some v =>
    refine ⟨v, a1, B, F, W, fun u B2 H2 g2 r2 => ?_⟩
    obtain ⟨o', a3, a4⟩ := (W.grow g2).sl i _ h
    rw [a1] at a3
    cases a3
    refine ⟨H2, [d1, d2], .bool k, Same.refl _, .cons (hrd _ _ _ _ a4) (.cons (r2.mono g2.bh) .nil), hf, fun w B3 H3 g3 r3 => ?_⟩
    cases r3
    exact q _ B2 H3 ⟨g2.bb, g2.bh.trans g3.hh, g2.hh.trans g3.hh, g2.fr⟩ (.bl _)
theorem owl_bls' {H : Hp} {n : Nat} : ∀ l : List Bool, OwL (OwT n H) (l.map V.bl) []
  | [] => .nil
  | b :: r => .cons (f := []) (g := []) (by cases n with | zero => exact ⟨.bl b, rfl⟩ | succ n => exact .inl ⟨.bl b, rfl⟩) (owl_bls' r)
theorem owt_bls' {H : Hp} {p : Addr} {l : List Bool} (h : H p = some (.lst (l.map V.bl))) (hz : l.length < 1000000) : OwT 1 H (.ref p) [p] := .inr ⟨p, _, [], rfl, h, by rw [List.length_map]; exact hz, owl_bls' l, rfl, by simp⟩
theorem owl_ints {H : Hp} {n : Nat} : ∀ l : List Int, OwL (OwT n H) (l.map V.int) []
  | [] => .nil
  | b :: r => .cons (f := []) (g := []) (by cases n with | zero => exact ⟨.int b, rfl⟩ | succ n => exact .inl ⟨.int b, rfl⟩) (owl_ints r)
theorem owt_ints {H : Hp} {p : Addr} {l : List Int} (h : H p = some (.lst (l.map V.int))) (hz : l.length < 1000000) : OwT 1 H (.ref p) [p] := .inr ⟨p, _, [], rfl, h, by rw [List.length_map]; exact hz, owl_ints l, rfl, by simp⟩
/-- an owned thing was written and is given up -/
theorem Wf.spent {K : PySem.W.Frag} {B H H2 : Hp} {σ : L2.St} {F : Nat → List Addr} (W : Wf K B H σ δ F) {i : Nat} (hl : i < δ.length) (h1 : ∀ b o, H b = some o → b ∉ F i → H2 b = some o) (h2 : ∀ b o, H b = some o → ∃ o', H2 b = some o') :
    Wf K B H2 σ (δ.set i .no) (fun j => if j = i then [] else F j) ∧ Step B H F B H2 (fun j => if j = i then [] else F j) := by
  have kB : Same B H2 := fun b o e => h1 b o (W.bh _ _ e) fun hb => by rw [(W.own i b hb).1] at e; cases e
  refine ⟨⟨kB, by rw [List.length_set]; exact W.len, fun j s e => ?_, fun j hj => ?_, fun j k a ha hb => ?_, fun j a ha => ?_⟩, ⟨Same.refl B, fun b o e hn => h1 b o e (hn i), fun _ _ _ _ => rfl, h2, fun j b hb => .inl (cut_sub j b hb)⟩⟩
  · by_cases hj : j = i
    · subst hj
      rw [List.getElem?_set_self hl] at e
      cases e
      refine ⟨σ[j]'(by rw [← W.len]; exact hl), List.getElem?_eq_getElem _, ?_⟩
      show SlotOk K B H2 _ .no (if j = j then [] else F j)
      rw [if_pos rfl]
      cases σ[j]'(by rw [← W.len]; exact hl) <;> rfl
    · rw [List.getElem?_set_ne (Ne.symm hj)] at e
      obtain ⟨o, a1, a2⟩ := W.sl j s e
      refine ⟨o, a1, ?_⟩
      rw [if_neg hj]
      exact a2.loc (Same.refl B) fun a ha => by
        obtain ⟨_, u, hu⟩ := W.own j a ha
        rw [hu]
        exact h1 a u hu fun hi => hj (W.dis j i a ha hi)
  · by_cases hj2 : j = i
    · exact if_pos hj2
    · rw [if_neg hj2]
      rw [List.length_set] at hj
      exact W.out j hj
  · by_cases hj : j = i
    · rw [if_pos hj] at ha; cases ha
    · by_cases hk : k = i
      · rw [if_pos hk] at hb; cases hb
      · rw [if_neg hj] at ha
        rw [if_neg hk] at hb
        exact W.dis j k a ha hb
  · by_cases hj : j = i
    · rw [if_pos hj] at ha; cases ha
    · rw [if_neg hj] at ha
      obtain ⟨a1, u, a2⟩ := W.own j a ha
      exact ⟨a1, h2 a u a2⟩
/-- f(x), x two lists -/
theorem xf_apartL (i : Nat) {a : Str} {j : Nat} {ps : List Str} {ns : List Int} (G : Def X.prog X.w X.K X.mg X.base j x ps (SpApart 2)) (hr : Room j X.A) (h : δ[i]? = some (.own (listsR ns))) (hz : ns.length < 1000000) (hi : X.N[i]? = some a := by rfl)
    (hv : Vis X.env.scope a := by first | exact Or.inl rfl | exact Or.inr (Or.inl rfl) | exact Or.inr (Or.inr rfl)) (hd : (a == ("__debug__" : Str)) = false := by decide) (hcd : (a == ("__classdict__" : Str)) = false := by decide) (hg : Gl X x := by rfl) (hdb : (x == ("__debug__" : Str)) = false := by decide)
    (hs1 : starEach [.Name a p1] X.env = (false, eval (.Name a p1) X.env) :: starEach [] X.env := by rfl) (hpl : (backTo pos (starEach [] X.env)).any (·.1) = false := by rfl) : XF X δ (.Call (.Name x p) [.Name a p1] [] pos) (fun d' δ' => d' = .bool true ∧ δ' = δ.set i .no) := by
  obtain ⟨fa, fd, m1, m2, m3, m4⟩ := G.ex
  refine (pe_call m4 hr hg m1 m2 m3 .nil pass0 (pa_cons (pe_var (i := i) hi hv hd hcd) pa_nil hs1) hdb hs1 hpl).weak fun σ H Q ⟨B, F, W, q⟩ => ?_
  obtain ⟨o, a1, a2⟩ := W.sl i _ h
  cases o with
  | none => exact a2.elim
  | some v =>
    obtain ⟨z, b, c, rfl, hF, hnd, e1, e2, e3⟩ := a2
    rw [hF] at hnd
    refine ⟨.ref z, a1, .ref z, [z, b, c], rfl, .inr ⟨z, _, [b, c], rfl, e1, by exact Nat.le_of_ble_eq_true rfl, .cons (f := [b]) (g := [c]) (owt_ints e2 hz) (.cons (f := [c]) (g := []) (owt_ints e3 hz) .nil), rfl, hnd⟩, fun H2 k1 k2 => ?_⟩
    obtain ⟨W2, s2⟩ := W.spent (List.getElem?_eq_some_iff.mp h).1 (fun b o hb hn => k1 b o hb (by rw [← hF]; exact hn)) k2
    exact q _ _ _ B H2 _ s2 W2 ⟨rfl, rfl⟩ (.bl true)
/-- f([x[0][0], x[0][1], x[1][0], x[1][1]]), x two pairs -/
theorem xf_apart4 (i : Nat) {a : Str} {j : Nat} {ps : List Str} {lp : Pos} (G : Def X.prog X.w X.K X.mg X.base j x ps (SpApart 2)) (hr : Room j X.A) (h : δ[i]? = some (.own (pairsR l1 l2))) (hz1 : l1.length < 1000000) (hz2 : l2.length < 1000000) (hi : X.N[i]? = some a := by rfl)
    (hv : Vis X.env.scope a := by first | exact Or.inl rfl | exact Or.inr (Or.inl rfl) | exact Or.inr (Or.inr rfl)) (hd : (a == ("__debug__" : Str)) = false := by decide) (hcd : (a == ("__classdict__" : Str)) = false := by decide) (hg : Gl X x := by rfl) (hdb : (x == ("__debug__" : Str)) = false := by decide)
    {A0 A1 A2 A3 : Expr} (ht0 : PE X A0 (tOp (rIx X.K) (tOp (rIx X.K) (tVar i) (tC (.int 0))) (tC (.int 0)))) (ht1 : PE X A1 (tOp (rIx X.K) (tOp (rIx X.K) (tVar i) (tC (.int 0))) (tC (.int 1)))) (ht2 : PE X A2 (tOp (rIx X.K) (tOp (rIx X.K) (tVar i) (tC (.int 1))) (tC (.int 0)))) (ht3 : PE X A3 (tOp (rIx X.K) (tOp (rIx X.K) (tVar i) (tC (.int 1))) (tC (.int 1))))
    (h0 : starEach [A0, A1, A2, A3] X.env = (false, eval A0 X.env) :: starEach [A1, A2, A3] X.env := by rfl) (h1 : starEach [A1, A2, A3] X.env = (false, eval A1 X.env) :: starEach [A2, A3] X.env := by rfl) (h2 : starEach [A2, A3] X.env = (false, eval A2 X.env) :: starEach [A3] X.env := by rfl) (h3 : starEach [A3] X.env = (false, eval A3 X.env) :: starEach [] X.env := by rfl)
    (hs1 : starEach [.List [A0, A1, A2, A3] lp] X.env = (false, eval (.List [A0, A1, A2, A3] lp) X.env) :: starEach [] X.env := by rfl) (hpl : (backTo pos (starEach [] X.env)).any (·.1) = false := by rfl) : XF X δ (.Call (.Name x p) [.List [A0, A1, A2, A3] lp] [] pos) (fun d' δ' => d' = .bool true ∧ δ' = δ.set i .no) := by
  obtain ⟨fa, fd, m1, m2, m3, m4⟩ := G.ex
  refine (pe_call m4 hr hg m1 m2 m3 .nil pass0 (pa_cons (pe_lst (pa_cons ht0 (pa_cons ht1 (pa_cons ht2 (pa_cons ht3 pa_nil h3) h2) h1) h0)) pa_nil hs1) hdb hs1 hpl).weak fun σ H Q ⟨B, F, W, q⟩ => ?_
  obtain ⟨o, b1, b2⟩ := W.sl i _ h
  cases o with
  | none => exact b2.elim
  | some v =>
    obtain ⟨z, t1, p1, q1, t2, p2, q2, rfl, hF, hnd, a1, a2, a3, a4, a5, a6, a7⟩ := b2
    rw [hF] at hnd
    have st : ∀ (i j : Int) (t : Addr) (v : V) (Q : VK) (p q : Addr), atI [V.ref t1, .ref t2] i = some (.ref t) → H t = some (.tup [.ref p, .ref q]) → atI [V.ref p, .ref q] j = some v → Q v H → rIx X.K (.ref z) (.int i) H (fun x H' => rIx X.K x (.int j) H' Q) := fun i j t v Q p q c1 c2 c3 c4 =>
      .inl ⟨z, _, i, .ref t, rfl, rfl, SqL.of a1, c1, .inr (.inl ⟨t, _, j, v, rfl, rfl, .inl (.inl c2), c3, c4⟩)⟩
    refine ⟨.ref z, b1, st 0 0 t1 (.ref p1) _ p1 q1 rfl a2 rfl ?_⟩
    refine ⟨.ref z, b1, st 0 1 t1 (.ref q1) _ p1 q1 rfl a2 rfl ?_⟩
    refine ⟨.ref z, b1, st 1 0 t2 (.ref p2) _ p2 q2 rfl a5 rfl ?_⟩
    refine ⟨.ref z, b1, st 1 1 t2 (.ref q2) _ p2 q2 rfl a5 rfl ?_⟩
    refine ⟨sz_of (by show 4 ≤ 1000000; decide), fun z3 hz3 => ?_⟩
    have sm6 : Same H (upd H z3 (.lst [.ref p1, .ref q1, .ref p2, .ref q2])) := same_upd hz3
    have W6 := W.same sm6
    have e6 : (upd H z3 (.lst [.ref p1, .ref q1, .ref p2, .ref q2])) z3 = some (.lst [.ref p1, .ref q1, .ref p2, .ref q2]) := upd_same
    have nz : ∀ b o, H b = some o → z3 ≠ b := fun b o h z => by rw [← z, hz3] at h; cases h
    generalize upd H z3 (.lst [.ref p1, .ref q1, .ref p2, .ref q2]) = H6 at sm6 W6 e6
    simp only [List.nodup_cons, List.mem_cons, List.not_mem_nil, or_false, not_or, not_false_eq_true, List.nodup_nil, and_true] at hnd
    obtain ⟨_, _, ⟨c1, c2, c3, c4⟩, ⟨c5, c6, c7⟩, _, c8⟩ := hnd
    refine ⟨.ref z3, z3 :: [p1, q1, p2, q2], rfl, .inr ⟨z3, _, [p1, q1, p2, q2], rfl, e6, by exact Nat.le_of_ble_eq_true rfl, .cons (f := [p1]) (g := [q1, p2, q2]) (owt_bls' (sm6 _ _ a3) hz1) (.cons (f := [q1]) (g := [p2, q2]) (owt_bls' (sm6 _ _ a4) hz2) (.cons (f := [p2]) (g := [q2]) (owt_bls' (sm6 _ _ a6) hz1) (.cons (f := [q2]) (g := []) (owt_bls' (sm6 _ _ a7) hz2) .nil))), rfl, ?_⟩, fun H2 k1 k2 => ?_⟩
    · simp only [List.nodup_cons, List.mem_cons, List.not_mem_nil, or_false, not_or, not_false_eq_true, List.nodup_nil, and_true]
      exact ⟨⟨nz _ _ a3, nz _ _ a4, nz _ _ a6, nz _ _ a7⟩, ⟨c1, c3, c4⟩, ⟨c6, c7⟩, c8⟩
    · obtain ⟨W2, s2⟩ := W.spent (H2 := H2) (List.getElem?_eq_some_iff.mp h).1 (fun b o hb hn => k1 b o (sm6 _ _ hb) fun hm => by
        rw [hF] at hn
        simp only [List.mem_cons, List.not_mem_nil, or_false, not_or] at hm hn
        rcases hm with e | e | e | e | e
        · exact nz b o hb e.symm
        · exact hn.2.2.1 e
        · exact hn.2.2.2.1 e
        · exact hn.2.2.2.2.2.1 e
        · exact hn.2.2.2.2.2.2 e) (fun b o hb => k2 b o (sm6 _ _ hb))
      exact q _ _ _ B H2 _ s2 W2 ⟨rfl, rfl⟩ (.bl true)
end
end Dl

set_option Elab.async false
set_option linter.all false
set_option maxRecDepth 100000
set_option maxHeartbeats 4000000
/-! The data level: answers that are new lists of whole numbers; new pairs, the record in hand. -/
namespace Dl
open PySem PySem.Spec PyProof.Rows L2 LamX
def SpN (K : PySem.W.Frag) (f : List PyData → List Int → Prop) : Sp := fun vs H Q _ => ∃ B ds ns, Same B H ∧ RpA K B vs ds ∧ f ds ns ∧ ∀ p B2 H2, Grow B H B2 H2 → H p = none → B2 p = none → H2 p = some (.lst (ns.map V.int)) → Q (.ref p) H2
def frN (g : Gh) (ns : List Int) : V → Hp → Hp → Prop := fun v B2 H2 => ∃ p, v = .ref p ∧ B2 p = none ∧ H2 p = some (.lst (ns.map V.int)) ∧ ∀ z, g = some z → z.2.1 p = none
section
variable {X : Cx} {δ : List Slot} {e e1 e2 : Expr} {es : List Expr} {pos p kp1 kp2 : Pos} {ds : List PyData} {d1 d2 : PyData} {rest : List Stmt} {R : Post} {ns : List Int} {x n1 n2 : Str}
theorem xb_retL (h : XN X δ e (ns.map .int)) (hR : R.rr = frN R.gh ns) : XB X δ (.Return (some e) pos :: rest) R :=
  xb_cons (ps_ret h) pss_never fun D σ H B F W o => by
    refine ⟨B, F, W, fun a xs B1 H1 g1 n1 nb1 e1 r1 => ?_⟩
    have ex := r1.ints_inv
    subst ex
    refine o.rr (.ref a) σ δ B1 H1 F (Step.of g1) (W.grow g1) ?_
    rw [hR]
    refine ⟨a, rfl, nb1, e1, fun z hz => ?_⟩
    have gh := o.gh
    rw [hz] at gh
    cases q : z.2.1 a with
    | none => rfl
    | some u =>
      obtain ⟨o', h'⟩ := Step.there gh a u q
      rw [n1] at h'
      cases h'
theorem xn_callN {k : Nat} {ps : List Str} {f : List PyData → List Int → Prop} (G : Def X.prog X.w X.K X.mg X.base k x ps (SpN X.K f)) (hr : Room k X.A) (ha : XA X δ (e :: es) ds) (hf : f ds ns) (hg : Gl X x := by rfl) (hdb : (x == ("__debug__" : Str)) = false := by decide)
    (he : starEach (e :: es) X.env = (false, eval e X.env) :: starEach es X.env := by rfl) (hpl : (backTo pos (starEach es X.env)).any (·.1) = false := by rfl) : XN X δ (.Call (.Name x p) (e :: es) [] pos) (ns.map .int) := by
  obtain ⟨fa, fd, h1, h2, h3, h4⟩ := G.ex
  refine (pe_call h4 hr hg h1 h2 h3 .nil pass0 ha hdb he hpl).weak fun σ H Q ⟨B, F, W, q⟩ => ⟨B, F, W, fun vs B2 H2 g2 r2 => ?_⟩
  show SpN X.K f (vs ++ []) H2 Q _
  rw [List.append_nil]
  exact ⟨B2, ds, ns, g2.bh, r2, hf, fun a B3 H3 g3 n nb e => q a _ B3 H3 (g2.trans g3) (g2.hh.free n) nb e (RpA.ints ns)⟩
theorem xn_callNK2 {k : Nat} {f : List PyData → List Int → Prop} (hr : Room k X.A)
    (hkb : ∃ g fd, X.mg x = some (.ref g) ∧ PySem.W.keepIn X.K (.ref g) = true ∧ FnOk X.prog X.w X.K X.mg X.base CX0 k g fd [n2, n1] (SpN X.K f) ∧ KBinds X.K fd [n2, n1] [n1, n2] swapK swapK)
    (h1 : XE X δ e1 d1) (h2 : XE X δ e2 d2) (hf : f [d2, d1] ns) (hg : Gl X x := by rfl) (hdb : (x == ("__debug__" : Str)) = false := by decide)
    (hall : (backToKw pos (keywordEach [⟨some n1, e1, kp1⟩, ⟨some n2, e2, kp2⟩] X.env)).all (·.1.isSome) = true := by rfl) (hks : (backToKw pos (keywordEach [⟨some n1, e1, kp1⟩, ⟨some n2, e2, kp2⟩] X.env)).filterMap (·.1) = [n1, n2] := by rfl)
    (hpl : ((backTo pos (starEach [] X.env)).any (·.1) || (backToKw pos (keywordEach [⟨some n1, e1, kp1⟩, ⟨some n2, e2, kp2⟩] X.env)).any (·.1.isNone)) = false := by rfl) : XN X δ (.Call (.Name x p) [] [⟨some n1, e1, kp1⟩, ⟨some n2, e2, kp2⟩] pos) (ns.map .int) := by
  obtain ⟨g, fd, m1, m2, m3, m4⟩ := hkb
  refine ⟨fun pins s σ H Q I ⟨B, F, W, q⟩ => ?_⟩
  refine wpAny_Call_Name_kw (ld_glob I hg m1 ?_ hdb)
  refine PySem.W.callWith_KW0 (h₀ := X.base) I.ok.mod.kin m2 hall (thn ((pk_cons h1 (pk_cons h2 pk_nil)).run pos pins s σ H (fun zs H3 => ∃ v1 v2 B3, zs = [v1, v2] ∧ Grow B H B3 H3 ∧ Rp X.K B3 v1 d1 ∧ Rp X.K B3 v2 d2) I ⟨B, F, W, fun v1 B1 H1 g1 r1 => ⟨B1, F, W.grow g1, fun v2 B2 H2 g2 r2 => ⟨v1, v2, B2, rfl, g1.trans g2, r1.mono g2.bb, r2⟩⟩⟩) fun ws s2 ⟨zs, H3, I3, rz, v1, v2, B3, ez, g3, r1, r2⟩ => ⟨I3.kIn, ?_⟩) hpl
  rw [hks]
  subst ez
  exact run_fnk (us := []) (vs := []) m3 hr m4 pass0 I3 .nil rz ⟨B3, [d2, d1], ns, g3.bh, .cons r2 (.cons r1 .nil), hf, fun a B4 H4 g4 n nb e => q a _ B4 H4 (g3.trans g4) (g3.hh.free n) nb e (RpA.ints ns)⟩
end
theorem xn_eq {X : Cx} {δ : List Slot} {e : Expr} {ds ds' : List PyData} (h : XN X δ e ds) (q : ds = ds') : XN X δ e ds' := q ▸ h
section
variable {P : Program} {w : World} {K : PySem.W.Frag} {mg : Str → Option Value} {base : Heap}
theorem def_freshNK {x : Str} {st : Stmt} {N ps : List Str} {k : Nat} {f : List PyData → List Int → Prop} (A : At K mg x st ps) (S : FnScope N ps (defScope st)) (len : ∀ ds ns, f ds ns → ds.length = ps.length)
    (body : ∀ (X : Cx), (∃ (fa : Addr) (cdv : Value) (A : Around) (outer : List Env) (s : Shared) (H : Hp) (E : XK), Room k (A.deeper (envOfC x (defScope st) s.heap.objs.size fa cdv)) ∧ X = (cxOf CX0 P w K mg base N x (defScope st) fa cdv A outer s H E).nox) → ∀ g ds ns, f ds ns → XB X (startD N (ds.map .dat)) (defBody st) { gh := g, rr := frN g ns }) :
    Def P w K mg base (k + 1) x ps (SpN K f) ∧ DefK P w K mg base (k + 1) x st ps (SpN K f) := by
  obtain ⟨fa, fd, h1, h2, h3⟩ := A.ex
  have ok : FnOk P w K mg base CX0 (k + 1) fa fd ps (SpN K f) := by
    refine h2.ok S (fun vs H Q E h => ?_) (fun cdv A outer s H vs Q E hr h => ?_)
    · obtain ⟨B, ds, ns, _, r, hf, _⟩ := h
      rw [r.length]
      exact len ds ns hf
    · obtain ⟨B, ds, ns, sm, r, hf, q⟩ := h
      refine ⟨_, body _ ⟨fa, cdv, A, outer, s, H, E, hr, rfl⟩ (some (B, H, fun _ => [])) ds ns hf, ?_⟩
      refine ts_iff.mpr ⟨B, _, envOk_dat sm r N, fun _ _ _ _ _ _ _ h => h.elim, fun _ _ _ _ _ _ _ _ _ h => h.elim, fun _ _ _ _ _ _ _ h => h.elim, fun _ _ _ _ _ _ _ h => h.elim, fun v σ2 δ2 B2 H2 F2 s2 W2 ⟨a, e, nb, hh, n⟩ => ?_, Step.refl⟩
      subst e
      exact q a B2 H2 ⟨s2.bb, W2.bh, fun b o hb => s2.keep b o hb (fun _ z => nomatch z), fun b o hb => s2.fr b o hb (fun _ z => nomatch z)⟩ (n _ rfl) nb hh
  exact ⟨⟨fa, fd, h1, h2.kp, h3, ok⟩, ⟨fa, fd, h1, h2.kp, h2, ok⟩⟩
theorem def_freshK {x : Str} {st : Stmt} {N ps : List Str} {k : Nat} {f : List PyData → List Bool → List Bool → Prop} (A : At K mg x st ps) (S : FnScope N ps (defScope st)) (len : ∀ ds l1 l2, f ds l1 l2 → ds.length = ps.length)
    (body : ∀ (X : Cx), (∃ (fa : Addr) (cdv : Value) (A : Around) (outer : List Env) (s : Shared) (H : Hp) (E : XK), Room k (A.deeper (envOfC x (defScope st) s.heap.objs.size fa cdv)) ∧ X = (cxOf CX0 P w K mg base N x (defScope st) fa cdv A outer s H E).nox) → ∀ g ds l1 l2, f ds l1 l2 → XB X (startD N (ds.map .dat)) (defBody st) { gh := g, rr := frR g l1 l2 }) :
    Def P w K mg base (k + 1) x ps (SpF K f) ∧ DefK P w K mg base (k + 1) x st ps (SpF K f) := by
  obtain ⟨fa, fd, h1, h2, h3⟩ := A.ex
  have ok : FnOk P w K mg base CX0 (k + 1) fa fd ps (SpF K f) := by
    refine h2.ok S (fun vs H Q E h => ?_) (fun cdv A outer s H vs Q E hr h => ?_)
    · obtain ⟨B, ds, l1, l2, _, r, hf, _⟩ := h
      rw [r.length]
      exact len ds l1 l2 hf
    · obtain ⟨B, ds, l1, l2, sm, r, hf, q⟩ := h
      refine ⟨_, body _ ⟨fa, cdv, A, outer, s, H, E, hr, rfl⟩ (some (B, H, fun _ => [])) ds l1 l2 hf, ?_⟩
      refine ts_iff.mpr ⟨B, _, envOk_dat sm r N, fun _ _ _ _ _ _ _ h => h.elim, fun _ _ _ _ _ _ _ _ _ h => h.elim, fun _ _ _ _ _ _ _ h => h.elim, fun _ _ _ _ _ _ _ h => h.elim, fun v σ2 δ2 B2 H2 F2 s2 W2 ⟨t, pa, qa, e, n⟩ => ?_, Step.refl⟩
      subst e
      exact q t pa qa H2 (fun b o hb => s2.keep b o hb (fun _ z => nomatch z)) (n _ rfl)
  exact ⟨⟨fa, fd, h1, h2.kp, h3, ok⟩, ⟨fa, fd, h1, h2.kp, h2, ok⟩⟩
theorem DefK.def_ {x : Str} {st : Stmt} {ps : List Str} {k : Nat} {sp : Sp} (h : DefK P w K mg base k x st ps sp) (A : At K mg x st ps) : Def P w K mg base k x ps sp := by
  obtain ⟨f, fd, h1, h2, h3, h4⟩ := h.ex
  obtain ⟨f', fd', a1, a2, a3⟩ := A.ex
  rw [h1] at a1
  cases a1
  obtain ⟨oc, od, kV, doc, pm, an, cdv, ct, osl, e1, lk, hcd⟩ := h3.ex
  obtain ⟨oc', od', kV', doc', pm', an', cdv', ct', osl', e2, lk', hcd'⟩ := a2.ex
  have e : fd = fd' := by
    subst e1
    subst e2
    rw [lk] at lk'
    injection lk' with lk'
    injection lk' with q1 q2 q3 q4
    injection q3
  subst e
  exact ⟨f, fd, h1, h2, a3, h4⟩
end
end Dl

set_option Elab.async false
set_option linter.all false
set_option maxRecDepth 100000
set_option maxHeartbeats 4000000
/-! The data level: ifs not entered whose question gives up a slot; rows of draws. -/
namespace Dl
open PySem PySem.Spec PyProof.Rows L2
section
variable {X : Cx} {δ δ1 δ2 : List Slot} {a b c e : Expr} {es : List Expr} {pos p0 : Pos} {sts rest : List Stmt} {R : Post} {Pd : PyData → Prop} {m : Nat}
theorem xft_orS (ha : XT X δ a false) (hb : XFT X δ b (fun k δ' => k = false ∧ δ' = δ2)) : XFT X δ (.BoolOp .Or [a, b] pos) (fun k δ' => k = false ∧ δ' = δ2) :=
  PW.pt ((pw_or ha (pw_or1 hb)).weak fun σ H Q ⟨B, F, W, q⟩ => ⟨B, F, W, fun B1 H1 g1 => by
    show tTE X.K δ _ σ H1 Q
    exact ⟨B1, F, W.grow g1, fun k δ3 B3 H3 F3 s3 W3 hp => q k δ3 B3 H3 F3 ((Step.of g1).trans s3) W3 hp⟩⟩)
theorem xft_notS (he : XF X δ a (fun d' δ' => d' = .bool true ∧ δ' = δ2)) (hT : ∀ whole, isTrue a X.env whole = (do let v ← whole; standAt a.pos; holding [v] (truthy v)) := by intro _; rfl) : XFT X δ (.UnaryOp .Not a p0) (fun b δ' => b = false ∧ δ' = δ2) :=
  xft_imp (xft_not (xft_tru (PB := fun b δ' => b = true ∧ δ' = δ2) he (fun d δ1 ⟨h1, h2⟩ => by subst h1; exact ⟨True.intro, rfl, h2⟩) hT)) fun b δ' ⟨h1, h2⟩ => ⟨(by cases b with | false => rfl | true => cases h1), h2⟩
theorem xb_ifOffS (hc : XFT X δ c (fun b δ' => b = false ∧ δ' = δ2)) (h : XB X δ2 rest R) : XB X δ (.If c sts [] pos :: rest) R :=
  xb_ifF (PB := fun b δ' => b = false ∧ δ' = δ2) (fun δ' => δ' = δ2) hc (fun δ1 h1 => by cases h1.1) (fun δ1 ⟨_, h1⟩ => xb_nil h1) (fun δ' h' => by subst h'; exact h)
theorem xf_imp' {P P' : PyData → List Slot → Prop} (h : XF X δ e P) (w : ∀ d δ', P d δ' → P' d δ') : XF X δ e P' := L2.PE.weak h fun σ H Q ⟨B, F, W, q⟩ => ⟨B, F, W, fun v d δ2 B2 H2 F2 s2 W2 h2 r2 => q v d δ2 B2 H2 F2 s2 W2 (w _ _ h2) r2⟩
theorem xfa_nilG : XFA X δ [] (fun ds δ' => (∀ d ∈ ds, Pd d) ∧ ds.length = 0 ∧ δ' = δ) := PA.weak (xfa_of (X := X) (δ := δ) xa_nil) fun σ H Q ⟨B, F, W, q⟩ => ⟨B, F, W, fun vs ds δ2 B2 H2 F2 s2 W2 ⟨h1, h2⟩ r2 => q vs ds δ2 B2 H2 F2 s2 W2 ⟨fun d hd => (by rw [h1] at hd; cases hd), (by rw [h1]; rfl), h2⟩ r2⟩
theorem xfa_consG (ha : XF X δ e (fun d δ' => Pd d ∧ δ' = δ1)) (hr : XFA X δ1 es (fun ds δ' => (∀ d ∈ ds, Pd d) ∧ ds.length = m ∧ δ' = δ2)) (hs : starEach (e :: es) X.env = (false, eval e X.env) :: starEach es X.env := by rfl) : XFA X δ (e :: es) (fun ds δ' => (∀ d ∈ ds, Pd d) ∧ ds.length = m + 1 ∧ δ' = δ2) :=
  xfa_cons ha (fun d1 δ3 ⟨h1, h2⟩ => by
    subst h2
    exact PA.weak hr fun σ H Q ⟨B, F, W, q⟩ => ⟨B, F, W, fun vs ds δ2 B2 H2 F2 s2 W2 ⟨h3, h4, h5⟩ r2 => q vs ds δ2 B2 H2 F2 s2 W2 ⟨fun d hd => by
      rcases List.mem_cons.mp hd with e | e
      · rw [e]; exact h1
      · exact h3 d e, by rw [List.length_cons, h4], h5⟩ r2⟩) hs
theorem xf_ofG {d : PyData} (h : XE X δ e d) (hd : Pd d) : XF X δ e (fun d δ' => Pd d ∧ δ' = δ) := xf_imp' (xf_of h) fun d' δ' ⟨h1, h2⟩ => ⟨by rw [h1]; exact hd, h2⟩
end
end Dl

set_option Elab.async false
set_option linter.all false
set_option maxRecDepth 100000
set_option maxHeartbeats 4000000
/-! An own exception class is called with keywords. -/
namespace PySem
namespace Hx
open PySem.W PySem.Calls PyProof.Rows PySem.HandSPX
section
variable {M : Model} {prog : Program} {w : World} {A : Around} {E : Value → Shared → Prop} {R : Result → Shared → Prop} {h : Heap} {g : Array GenState} {dr : Drawn} {tk : Nat} {os : OsState} {nm q : Str} {C N fI : Addr} {bs bm bmB sub rest : List Value} {hdct ab : Bool} {sn : List Str} {col : Option Bool} {dd : Option Addr} {k0 k1 k2 k3 k5 : Option Value} {B newId initId : String} {kw : List (Str × Value)}
theorem chk (F : ExcBaseFacts B newId initId bmB) (hT : ∀ X : String, bm.contains (.type X) = bmB.contains (.type X)) {Q : Unit → Shared → Prop}
    (cl : h.get? C = some (excClassObj nm q C N bs bm hdct sn sub ab col dd k0 k1 k2 k3 k5 newId)) (ok : Q () ⟨h, g, dr, tk, os⟩) : wpAny M A (checkBuiltinCall newId ⟨.ref C :: rest, kw⟩) Q E ⟨h, g, dr, tk, os⟩ := by
  have has : (Value.ref C :: bm).contains (.type B) = true := by rw [List.contains_cons, hT, F.hasB, Bool.or_true]
  have nst := F.noStar
  simp only [checkBuiltinCall, F.newKind, F.newSplit, F.newRow]
  repeat (first | refine wpAny_loadPart_at cl ?_ | (refine wpAny_isSubtype_exc cl ?_; rw [has]) | refine wpAny_staticBase_exc cl ?_ | refine wpAny_madeBy_exc cl ?_ | simp only [bne_self_eq_false, Bool.false_eq_true, if_false] | wp_step)
  exact ok
theorem new (F : ExcBaseFacts B newId initId bmB) (hT : ∀ X : String, bm.contains (.type X) = bmB.contains (.type X))
    (cl : h.get? C = some (excClassObj nm q C N bs bm hdct sn sub ab col dd k0 k1 k2 k3 k5 newId)) (ok : R (.ok (.ret (.ref (h.objs.size + 1)))) ⟨(h.push (W.kdv_tup rest)).push (excO C h.objs.size), g, dr, tk, os⟩) (hr : rest.length ≤ sizeLine) :
    codeAny (model prog w) A (.builtin newId ⟨.ref C :: rest, kw⟩) R ⟨h, g, dr, tk, os⟩ := by
  have fe := F.ends
  have h1 : (Value.ref C :: bm).contains (.type B) = true := by rw [List.contains_cons, hT, F.hasB, Bool.or_true]
  have h2 : (Value.ref C :: bm).contains (.type "AttributeError") = false := by rw [List.contains_cons, hT, F.noAttr]; rfl
  have h3 : (Value.ref C :: bm).contains (.type "NameError") = false := by rw [List.contains_cons, hT, F.noName]; rfl
  refine codeAny_builtinAt F.entry ?_
  unfold Builtin.«BaseException.__new__»
  refine wpAt_bind ?_
  show wpAt _ _ _ (stack >>= _) _ _ _
  refine wpAt_bind (wpAt_stack fun p below => wpAt_of_wpAny ?_)
  wp_walk
  refine wpAt_of_wpAny ?_
  rw [F.owner]
  repeat (first | with_reducible refine wpAny_madeHere_exc F.canon cl ?_ | with_reducible refine wpAny_loadPart_at cl ?_ | (with_reducible refine wpAny_isSubtype_exc cl ?_; first | rw [h1] | rw [h2] | rw [h3]) | wp_step)
  show R _ _
  rw [Heap.size_push]
  exact ok
theorem tcall (F : ExcBaseFacts B newId initId bmB) (hT : ∀ X : String, bm.contains (.type X) = bmB.contains (.type X)) {Q : Fin → Shared → Prop}
    (cl : h.get? C = some (excClassObj nm q C N bs bm hdct sn sub ab col dd k0 k1 k2 k3 k5 newId)) (li : W.Looks (model prog w) h (typeLookup (.ref C) "__init__") (some (.ref fI))) (lb : ∀ self, W.Looks (model prog w) h (bindSpecial (.ref fI) self) (.ref fI, [self])) (hr : rest.length ≤ sizeLine)
    (ok : codeAny (model prog w) A (.call (.ref fI) ⟨.ref (h.objs.size + 1) :: rest, kw⟩) (fun r s' => match r with | .ok (.ret v) => v = .none ∧ Q (.done (.ret (.ref (h.objs.size + 1)))) s' | .ok _ => False | .error e => E e s')
      ⟨(h.push (W.kdv_tup rest)).push (excO C h.objs.size), g, dr, tk, os⟩) : wpAny (model prog w) A (Builtin.«type.__call__» ⟨.ref C :: rest, kw⟩) Q E ⟨h, g, dr, tk, os⟩ := by
  repeat (first | with_reducible refine wpAny_loadPart_at cl ?_ | with_reducible refine wpAny_madeBy_exc cl ?_ | wp_step)
  refine codeAny_call_builtin_code (Code.quiet_builtin _ F.quiet) (chk F hT cl ?_)
  refine new F hT cl ?_ hr
  show wpAny _ _ _ _ _ _
  have ke : ∀ b o, h.get? b = some o → ((h.push (W.kdv_tup rest)).push (excO C h.objs.size)).get? b = some o := fun b o e => Heap.get?_push_of_some _ (Heap.get?_push_of_some _ e)
  have cl2 := ke _ _ cl
  have at_ : ((h.push (W.kdv_tup rest)).push (excO C h.objs.size)).get? (h.objs.size + 1) = some (excO C h.objs.size) := by heap_get
  have cc : (Value.ref C :: bm).contains (.ref C) = true := by simp
  have l1 := li.keeps ke
  have l2 := (lb (.ref (h.objs.size + 1))).keeps ke
  unfold isInstance
  repeat (first | with_reducible refine wpAny_loadPart_at at_ ?_ | (with_reducible refine wpAny_isSubtype_exc cl2 ?_; rw [cc]) | wp_step)
  show wpAny _ _ (typeLookup (.ref C) _) _ _ _
  refine l1.at ?_
  refine wpAny_holding (wpAny_bind (l2.at ?_))
  refine wpAny_bind (wpAny_call (codeAny_mono ok fun r s' z => ?_))
  rcases r with e | (v | _ | _ | _) <;> first | exact z | exact z.elim | skip
  obtain ⟨rfl, z⟩ := z
  first
    | exact wpAny_pure (wpAny_pure z)
    | (wp_walk; exact z)
/-- C(.., k = v, ..), C's own __init__ a def -/
theorem made (F : ExcBaseFacts B newId initId bmB) (hT : ∀ X : String, bm.contains (.type X) = bmB.contains (.type X)) (cl : h.get? C = some (excClassObj nm q C N bs bm hdct sn sub ab col dd k0 k1 k2 k3 k5 newId))
    (li : W.Looks (model prog w) h (typeLookup (.ref C) "__init__") (some (.ref fI))) (lb : ∀ self, W.Looks (model prog w) h (bindSpecial (.ref fI) self) (.ref fI, [self])) (hr : rest.length ≤ sizeLine)
    (ok : codeAny (model prog w) (A.under (.builtin "type.__call__" ⟨.ref C :: rest, kw⟩)) (.call (.ref fI) ⟨.ref (h.objs.size + 1) :: rest, kw⟩) (W.InitBack (h.objs.size + 1) R) ⟨(h.push (W.kdv_tup rest)).push (excO C h.objs.size), g, dr, tk, os⟩) :
    codeAny (model prog w) A (.call (.ref C) ⟨rest, kw⟩) R ⟨h, g, dr, tk, os⟩ := by
  have f1 := tc_lookup
  have f2 := tc_bind (.ref C)
  have ty : (⟨h, g, dr, tk, os⟩ : Shared).TypeIs (.ref C) "type" := ⟨_, cl, rfl⟩
  refine codeAny_of_tree ?_
  show wpAny _ _ (callAny (.ref C) _) _ _ _
  repeat (any_goals (first | assumption | with_reducible refine wpAny_loadPart_at cl ?_ | wp_step))
  refine ⟨rfl, ?_⟩
  refine codeAny_call_builtin_at (Code.quiet_builtin _ (by decide +kernel)) entry_typeCall ?_
  refine wpAny_check_type_call_sub cl (tcall F hT cl li lb hr ?_)
  refine codeAny_mono ok fun r s' z => ?_
  rcases r with e | (v | _ | _ | _) <;> exact z
end
end Hx
end PySem

set_option Elab.async false
set_option linter.all false
set_option maxRecDepth 100000
set_option maxHeartbeats 4000000
/-! The data level: errors as things: made, asked, their fields read. -/
namespace Dl
open PySem PySem.Spec PyProof.Rows L2 LamX
/-! ### what they are -/
section
variable {K : PySem.W.Frag} {B H : Hp} {x : V} {d : PyData} {C : Addr} {ns ds : List PyData}
theorem Rp.errInv (r : Rp K B x (errD C ns ds)) : ∃ (a dx : Addr) (fs : List (Str × V)), x = .ref a ∧ B a = some (exo a C (some dx)) ∧ B dx = some (exd dx fs) ∧ fs.map (fun p => PyData.str p.1) = ns ∧ RpA K B (fs.map fun p => p.2) ds := by
  generalize he : errD C ns ds = d at r
  cases r with
  | err h1 h2 h3 h4 q =>
    simp only [errD, PyData.dict.injEq, List.cons.injEq, Prod.mk.injEq, PyData.list.injEq, PyData.int.injEq, and_true, true_and] at he
    obtain ⟨e1, e2, e3⟩ := he
    have e1 := Int.ofNat.inj e1
    subst e1 e2 e3 h4
    exact ⟨_, _, _, rfl, h1, h2, h3, q⟩
  | _ => simp [errD, err0D, lamD, adrD] at he
theorem Rp.err0Inv (r : Rp K B x (err0D C)) : ∃ a : Addr, x = .ref a ∧ B a = some (exo a C none) := by
  generalize he : err0D C = d at r
  cases r with
  | err0 h =>
    simp only [err0D, PyData.dict.injEq, List.cons.injEq, Prod.mk.injEq, PyData.list.injEq, PyData.int.injEq, and_true, true_and] at he
    have e1 := Int.ofNat.inj he
    subst e1
    exact ⟨_, rfl, h⟩
  | _ => simp [errD, err0D, lamD, adrD] at he
theorem Rp.lamInv (r : Rp K B x (lamD ds)) : ∃ (f c : Addr) (F : LF) (nm : List Str), x = .ref f ∧ B f = some (LamO f c F) ∧ B c = some (CodeO c F.qual) ∧ LamWell F nm ∧ nm.map PyData.str = ds := by
  generalize he : lamD ds = d at r
  cases r with
  | lam h1 h2 h3 h4 =>
    simp only [lamD, PyData.dict.injEq, List.cons.injEq, Prod.mk.injEq, PyData.list.injEq, and_true, true_and] at he
    subst he
    exact ⟨_, _, _, _, rfl, h1, h2, h3, h4⟩
  | _ => simp [errD, err0D, lamD, adrD] at he
theorem Rp.adrInv {a : Addr} (r : Rp K B x (adrD a)) : x = .ref a := by
  generalize he : adrD a = d at r
  cases r with
  | adr b =>
    simp only [adrD, PyData.dict.injEq, List.cons.injEq, Prod.mk.injEq, PyData.int.injEq, and_true, true_and] at he
    have e1 := Int.ofNat.inj he
    subst e1
    rfl
  | _ => simp [errD, err0D, lamD, adrD] at he
/-- an error of the class at C -/
def ErrOf (C : Addr) (d : PyData) : Prop := (∃ ns ds, d = errD C ns ds) ∨ d = err0D C
theorem err_inst {P : Program} {w : World} {h : Heap} (r : Rp K B x d) (e : ErrOf C d) (sm : Same B H) (hok : HOk P w H h) : ∃ (a : Addr) (ox : Obj) (od : Option Obj), x = .ref a ∧ PySem.W.InstAt h a ox C od := by
  rcases e with ⟨ns, ds, rfl⟩ | rfl
  · obtain ⟨a, dx, fs, rfl, h1, h2, _, _⟩ := r.errInv
    obtain ⟨t1, ho⟩ := exo_at hok (sm _ _ h1)
    obtain ⟨mA, ⟨o, es, ep, hd, _⟩, _⟩ := exd_at hok (sm _ _ h2)
    exact ⟨a, _, some o, rfl, ho, rfl, rfl, hd⟩
  · obtain ⟨a, rfl, h1⟩ := r.err0Inv
    obtain ⟨t1, ho⟩ := exo_at hok (sm _ _ h1)
    exact ⟨a, _, none, rfl, ho, rfl, rfl, trivial⟩
end
/-! ### asked -/
def rIsX (K : PySem.W.Frag) (C : Addr) (b : Bool) : List V → Hp → VK → Prop := fun xs H Q => ∃ (B : Hp) (v c : V) (cv : Value) (d : PyData), xs = [v, c] ∧ Same B H ∧ Rp K B v d ∧ ErrOf C d ∧ (∀ u, RelV c u → u = cv) ∧ PySem.W.kitOne K (.ref C) cv = some b ∧ Q (.bl b) H
theorem call_isX {X : Cx} {C : Addr} {b : Bool} (T : ExcC X.K C) : CallR X (.builtin "isinstance") (rIsX X.K C b) := by
  intro pins s σ H xs us Q I r h
  obtain ⟨B, v, c, cv, d, rfl, sm, rv, e, hcv, hk, q⟩ := h
  obtain ⟨a, ox, od, rfl, J⟩ := err_inst rv e sm I.hok
  cases r with
  | cons rx rr =>
    cases rr with
    | cons rt rr =>
      cases rr
      cases rx
      have ec := hcv _ rt
      subst ec
      have hcl : (PySem.W.clsIn X.K C).isSome = true := by
        obtain ⟨cd, hc, _⟩ := PySem.W.any_some T.hd
        rw [hc]
        rfl
      exact PySem.W.kia_one (PySem.W.kitx_exc (od := od) (ox := ox) hcl T.hg T.hk T.hs T.ha T.hn T.ht T.hm) I.kIn J hk (fun z => nomatch z) fun tk => ⟨.bl b, H, I.kept (t' := tk) fun _ _ z => z, rfl, q⟩
section
variable {X : Cx} {δ : List Slot} {a e f : Expr} {es : List Expr} {p p0 p2 pos : Pos} {d y : PyData} {C D : Addr} {b : Bool} {x cn : Str} {ds ns : List PyData}
/-- isinstance(e, D), D an own class -/
theorem xe_isO (hm : X.mg "isinstance" = none) (ha : XE X δ a d) (he : ErrOf C d) (T : ExcC X.K C) (hc : X.mg cn = some (.ref D)) (hk : PySem.W.kitOne X.K (.ref C) (.ref D) = some b) (hg : Gl X "isinstance" := by rfl) (hg2 : Gl X cn := by rfl)
    (hd : (cn == ("__debug__" : Str)) = false := by decide) (hs : starEach [a, .Name cn p2] X.env = (false, eval a X.env) :: starEach [.Name cn p2] X.env := by rfl) (hs2 : starEach [.Name cn p2] X.env = (false, eval (.Name cn p2) X.env) :: starEach [] X.env := by rfl)
    (hpl : (backTo pos (starEach [.Name cn p2] X.env)).any (·.1) = false := by rfl) : XE X δ (.Call (.Name "isinstance" p) [a, .Name cn p2] [] pos) (.bool b) :=
  (pe_callB (call_isX (b := b) T) hg hm boot_isinstance (pa_cons ha (pa_cons (pe_glob (v := .ref D) hg2 hc rfl hd) pa_nil hs2) hs) (by decide) (by decide) hs hpl).weak fun σ H Q ⟨B, F, W, q⟩ => ⟨B, F, W, fun v B2 H2 g r =>
    ⟨B2, v, .ref D, .ref D, d, rfl, g.bh, r, he, fun u hu => hu, hk, q _ B2 H2 g (.bl _)⟩⟩
/-- isinstance(e, T), T a class of the language -/
theorem xe_isB {T' : String} (hm : X.mg "isinstance" = none) (ha : XE X δ a d) (he : ErrOf C d) (T : ExcC X.K C) (hc : X.mg cn = none) (hv : bootBuiltins cn = some (.type T')) (hk : PySem.W.kitOne X.K (.ref C) (.type T') = some b) (hg : Gl X "isinstance" := by rfl) (hg2 : Gl X cn := by rfl)
    (hn : cn ≠ "__name__" := by decide) (hd : (cn == ("__debug__" : Str)) = false := by decide) (hs : starEach [a, .Name cn p2] X.env = (false, eval a X.env) :: starEach [.Name cn p2] X.env := by rfl) (hs2 : starEach [.Name cn p2] X.env = (false, eval (.Name cn p2) X.env) :: starEach [] X.env := by rfl)
    (hpl : (backTo pos (starEach [.Name cn p2] X.env)).any (·.1) = false := by rfl) : XE X δ (.Call (.Name "isinstance" p) [a, .Name cn p2] [] pos) (.bool b) :=
  (pe_callB (call_isX (b := b) T) hg hm boot_isinstance (pa_cons ha (pa_cons (pe_bltn (v := .ty T') hg2 hc hv rfl hn hd) pa_nil hs2) hs) (by decide) (by decide) hs hpl).weak fun σ H Q ⟨B, F, W, q⟩ => ⟨B, F, W, fun v B2 H2 g r =>
    ⟨B2, v, .ty T', .type T', d, rfl, g.bh, r, he, fun u hu => hu, hk, q _ B2 H2 g (.bl _)⟩⟩
/-! ### read -/
/-- the field f among the fields ns with the values ds -/
inductive FldD (f : Str) : List PyData → List PyData → PyData → Prop
  | here {ns ds : List PyData} {d : PyData} : FldD f (.str f :: ns) (d :: ds) d
  | there {g : Str} {ns ds : List PyData} {d e : PyData} (h : f ≠ g) (r : FldD f ns ds d) : FldD f (.str g :: ns) (e :: ds) d
theorem fld_look {K : PySem.W.Frag} {B : Hp} {f : Str} : ∀ {fs : List (Str × V)} {ns ds : List PyData} {d : PyData}, fs.map (fun p => PyData.str p.1) = ns → RpA K B (fs.map fun p => p.2) ds → FldD f ns ds d → ∃ v, fs.lookup f = some v ∧ Rp K B v d
  | [], _, _, _, e, r, h => by
    subst e
    cases h
  | (g, v) :: fs, _, _, _, e, r, h => by
    subst e
    rw [List.map_cons] at r h
    cases r with
    | cons r1 r2 =>
      have go : ∀ {z : Str}, z = f → z = g → List.lookup f ((g, v) :: fs) = some v := fun {z} e1 e2 => by
        rw [← e1, ← e2]
        simp [List.lookup]
      generalize hn : PyData.str g = gn at h
      cases h with
      | here =>
        have e1 := PyData.str.inj hn
        exact ⟨v, by rw [lookup_put, if_pos e1.symm], r1⟩
      | there hne h =>
        have e1 := PyData.str.inj hn
        obtain ⟨v', h1, h2⟩ := fld_look rfl r2 h
        exact ⟨v', by rw [lookup_put, if_neg (fun z => hne (z.trans e1)), h1], h2⟩
theorem xe_fld {n : Str} (ha : XE X δ e (errD C ns ds)) (T : ExcC X.K C) (hno : PySem.W.findIn X.K (.ref C) n = some none) (hf : FldD n ns ds y) (hb : attributeBase e n X.env (eval e X.env) = eval e X.env := by rfl) : XE X δ (.Attribute e n pos) y := by
  refine ⟨fun pins s σ H Q I ⟨B, F, W, q⟩ => attr_of hb (thn (ha.run pins s σ H (fun v H2 => ∃ B2, Grow B H B2 H2 ∧ Rp X.K B2 v (errD C ns ds)) I ⟨B, F, W, fun v B2 H2 g r => ⟨B2, g, r⟩⟩) fun u s1 ⟨v, H1, I1, rv, B2, g2, r⟩ => ?_)⟩
  obtain ⟨o, dx, fs, rfl, h1, h2, h3, h4⟩ := r.errInv
  obtain rfl : u = Value.ref o := rv
  obtain ⟨t1, ho⟩ := exo_at I1.hok (g2.bh _ _ h1)
  obtain ⟨mA, hns, rel⟩ := exd_at I1.hok (g2.bh _ _ h2)
  obtain ⟨od, hod, hl⟩ := lookIn_ns hns
  obtain ⟨v, hv, rv⟩ := fld_look h3 h4 hf
  obtain ⟨u, hu, ru⟩ := RelO.some_of (v := v) (o := mA n) (by rw [← hv]; exact rel n)
  have J : PySem.W.InstAt s1.heap o _ C (some od) := ⟨ho, rfl, rfl, hod⟩
  exact HandSPX.exc_get I1.kIn J T.hg T.hk T.hs (PySem.W.findObj_own T.hd hno rfl (by rw [hl, hu])) (handed_of ru) ⟨v, H1, I1.tok _, ru, q v B2 H1 g2 rv⟩
end
end Dl

set_option Elab.async false
set_option linter.all false
set_option maxRecDepth 100000
set_option maxHeartbeats 4000000
/-! The data level: errors are made. -/
namespace Dl
open PySem PySem.Spec PyProof.Rows L2 LamX
/-- what C's own __init__ does: each parameter is kept under its name -/
def SpIni (C : Addr) (nm : List Str) : Sp := fun vs H Q _ => ∃ (a : Addr) (us : List V), vs = .ref a :: us ∧ us.length = nm.length ∧ H a = some (exo a C none) ∧
  ∀ (dx : Addr) (H2 : Hp), H dx = none → dx ≠ a → H2 a = some (exo a C (some dx)) → H2 dx = some (exd dx (nm.zip us).reverse) → (∀ b, b ≠ a → b ≠ dx → H2 b = H b) → Q .non H2
/-- by keywords, the last parameter first -/
def KwR (K : PySem.W.Frag) (fd : FuncData) (ps nm : List Str) : Prop := ∀ (s : Shared) (self : Value) (ws : List Value), K.In s.heap → ws.length = nm.length → BindsTo s fd ⟨[self], nm.reverse.zip ws⟩ (ps.zip (self :: ws.reverse))
structure ErrK (P : Program) (w : World) (K : PySem.W.Frag) (mg : Str → Option Value) (base : Heap) (x : Str) (C : Addr) (nm : List Str) : Prop where
  hm : mg x = some (.ref C)
  oc : OexC K C
  ini : ∃ fI fd ps, PySem.W.findIn K (.ref C) "__init__" = some (some (.ref fI)) ∧ PySem.W.typeIn K (.ref fI) = some (.type "function") ∧ FnOk P w K mg base CX0 1 fI fd ps (SpIni C nm) ∧ Binds K fd ps [] ∧ KwR K fd ps nm
section
variable {X : Cx} {pins : List (Addr × Obj)} {σ : L2.St} {H : Hp} {s : Shared} {C fI : Addr} {fd : FuncData} {ps nm : List Str} {us allu : List Value} {vs : List V} {kw : List (Str × Value)} {Q : VK}
theorem run_mkE (oc : OexC X.K C) (i1 : PySem.W.findIn X.K (.ref C) "__init__" = some (some (.ref fI))) (i2 : PySem.W.typeIn X.K (.ref fI) = some (.type "function")) (F1 : FnOk X.prog X.w X.K X.mg X.base CX0 1 fI fd ps (SpIni C nm)) (hr : Room 2 X.A) (I : Inv X pins σ H s) (r : Vals vs allu)
    (hl : vs.length = nm.length) (hus : us.length ≤ sizeLine) (hb : ∀ (s : Shared) (self : Value), X.K.In s.heap → BindsTo s fd ⟨self :: us, kw⟩ (ps.zip (self :: allu)))
    (q : ∀ (a dx : Addr) (H2 : Hp), H a = none → H dx = none → dx ≠ a → H2 a = some (exo a C (some dx)) → H2 dx = some (exd dx (nm.zip vs).reverse) → (∀ b, b ≠ a → b ≠ dx → H2 b = H b) → Q (.ref a) H2) :
    wpAny (model X.prog X.w) X.A (call (.ref C) us kw) (EP X pins σ Q) X.xe s := by
  obtain ⟨n0, q0, N, bs, bm, sn, sub, ab, col, dd, k0, k1, k2, k3, k5, hC, hbm⟩ := oc.cls
  obtain ⟨hp, g, dr, tk, os⟩ := s
  have hsz : hp.objs.size ≤ hp.objs.size + 1 := Nat.le_succ _
  have hn : H (hp.objs.size + 1) = none := I.hok.fresh hsz
  have kk : ∀ b o, hp.get? b = some o → ((hp.push (PySem.W.kdv_tup us)).push (PySem.HandSPX.excO C hp.objs.size)).get? b = some o := fun b o e => Heap.get?_push_of_some _ (Heap.get?_push_of_some _ e)
  have at_ : ((hp.push (PySem.W.kdv_tup us)).push (PySem.HandSPX.excO C hp.objs.size)).get? (hp.objs.size + 1) = some (PySem.HandSPX.excO C hp.objs.size) := by heap_get
  have I2 : Inv X pins σ (upd H (hp.objs.size + 1) (exo (hp.objs.size + 1) C none)) ⟨(hp.push (PySem.W.kdv_tup us)).push (PySem.HandSPX.excO C hp.objs.size), g, dr, tk, os⟩ :=
    I.laid (t' := tk) (a := hp.objs.size + 1) (o := exo (hp.objs.size + 1) C none) (h' := (hp.push (PySem.W.kdv_tup us)).push (PySem.HandSPX.excO C hp.objs.size)) kk hsz (exo_ok at_)
  have r2 : Vals (V.ref (hp.objs.size + 1) :: vs) (Value.ref (hp.objs.size + 1) :: allu) := .cons rfl r
  have hsp : SpIni C nm (V.ref (hp.objs.size + 1) :: vs) (upd H (hp.objs.size + 1) (exo (hp.objs.size + 1) C none)) (fun v H2 => v = .non ∧ Q (.ref (hp.objs.size + 1)) H2) (fun _ _ _ => False) := by
    refine ⟨_, vs, rfl, hl, upd_same, fun dx H2 h1 h2 h3 h4 h5 => ⟨rfl, q _ dx H2 hn ?_ h2 h3 h4 fun b hb hb2 => ?_⟩⟩
    · rw [upd_ne h2] at h1
      exact h1
    · rw [h5 b hb hb2, upd_ne hb]
  refine wpAny_call (PySem.Hx.made F.excBase_ValueError (fun Y => PySem.HandSPX.refsVE_contains Y bm hbm) (I.kIn _ _ hC) (PySem.W.looks_findIn I.kIn i1) (fun self => PySem.W.bind_fn I.kIn self i2) hus
    (codeAny_mono (F1.run _ X.stack _ _ ⟨Value.ref (hp.objs.size + 1) :: us, kw⟩ (Value.ref (hp.objs.size + 1) :: allu) _ _ (fun _ _ _ => False) (hr.make C us kw) (I2.env0.make C us kw) (hb _ _ I2.kIn) r2 hsp) fun r s' hq' => ?_))
  cases r with
  | error er => exact (pass0 pins σ _ _ er s' I2 hq')
  | ok fl =>
    cases fl with
    | ret u =>
      obtain ⟨v, H', I3, rv, ev, q3⟩ := I2.after hq'
      subst ev
      exact ⟨rv, ⟨V.ref _, H', I3, rfl, q3⟩⟩
    | next => exact False.elim hq'
    | brk => exact False.elim hq'
    | cont => exact False.elim hq'
end
theorem RpA.rev {K : PySem.W.Frag} {B : Hp} : ∀ {vs : List V} {ds : List PyData}, RpA K B vs ds → RpA K B vs.reverse ds.reverse
  | _, _, .nil => .nil
  | _, _, .cons h r => by
    rw [List.reverse_cons, List.reverse_cons]
    exact (RpA.rev r).append (.cons h .nil)
theorem zip_fst {α : Type} : ∀ {ns : List Str} {vs : List α}, vs.length = ns.length → (ns.zip vs).map (fun p => PyData.str p.1) = ns.map PyData.str
  | [], [], _ => rfl
  | n :: ns, v :: vs, h => by
    rw [List.zip_cons_cons, List.map_cons, List.map_cons, zip_fst (by simpa using h)]
theorem zip_snd {α : Type} : ∀ {ns : List Str} {vs : List α}, vs.length = ns.length → (ns.zip vs).map (fun p => p.2) = vs
  | [], [], _ => rfl
  | n :: ns, v :: vs, h => by
    rw [List.zip_cons_cons, List.map_cons, zip_snd (by simpa using h)]
/-- a new error among what is known -/
theorem grow_err {K : PySem.W.Frag} {B H H2 : Hp} {a dx C : Addr} {nm : List Str} {vs : List V} {ds : List PyData} (sm : Same B H) (ha : H a = none) (hd : H dx = none) (ne : dx ≠ a) (h1 : H2 a = some (exo a C (some dx))) (h2 : H2 dx = some (exd dx (nm.zip vs).reverse)) (hk : ∀ b, b ≠ a → b ≠ dx → H2 b = H b)
    (hl : vs.length = nm.length) (r : RpA K B vs ds) : ∃ B2, Grow B H B2 H2 ∧ Rp K B2 (.ref a) (errD C (nm.reverse.map .str) ds.reverse) := by
  have ba := sm.free ha
  have bd := sm.free hd
  have s1 : Same B (upd (upd B dx (exd dx (nm.zip vs).reverse)) a (exo a C (some dx))) := fun b o e => by
    rw [upd_ne (ne_of_none e ba), upd_ne (ne_of_none e bd)]
    exact e
  refine ⟨upd (upd B dx (exd dx (nm.zip vs).reverse)) a (exo a C (some dx)), ⟨s1, fun b o e => ?_, fun b o e => ?_, fun b o e => ?_⟩, ?_⟩
  · by_cases hb : b = a
    · rw [hb, upd_same] at e
      rw [hb, h1]
      exact e
    · rw [upd_ne hb] at e
      by_cases hb2 : b = dx
      · rw [hb2, upd_same] at e
        rw [hb2, h2]
        exact e
      · rw [upd_ne hb2] at e
        rw [hk b hb hb2]
        exact sm _ _ e
  · rw [hk b (ne_of_none e ha) (ne_of_none e hd)]
    exact e
  · rw [upd_ne (ne_of_none e ha), upd_ne (ne_of_none e hd)]
  · refine .err (fs := (nm.zip vs).reverse) upd_same (by rw [upd_ne ne]; exact upd_same) ?_ rfl ?_
    · rw [List.map_reverse, zip_fst hl, List.map_reverse]
    · rw [List.map_reverse, zip_snd hl]
      exact r.rev.mono s1
section
variable {X : Cx} {δ : List Slot} {e : Expr} {es : List Expr} {p pos : Pos} {C : Addr} {x : Str} {nm : List Str} {ds : List PyData} {kws : List Keyword}
/-- C(e, ..) -/
theorem xe_mkE (T : ErrK X.prog X.w X.K X.mg X.base x C nm) (ha : XA X δ (e :: es) ds) (hl : ds.length = nm.length) (hz : nm.length ≤ 1000) (hr : Room 2 X.A) (hg : Gl X x := by rfl) (hdb : (x == ("__debug__" : Str)) = false := by decide)
    (he : starEach (e :: es) X.env = (false, eval e X.env) :: starEach es X.env := by rfl) (hpl : (backTo pos (starEach es X.env)).any (·.1) = false := by rfl) : XE X δ (.Call (.Name x p) (e :: es) [] pos) (errD C (nm.reverse.map .str) ds.reverse) := by
  obtain ⟨fI, fd, ps, i1, i2, i3, i4, _⟩ := T.ini
  refine ⟨fun pins s σ H Q I ⟨B, F, W, q⟩ => ?_⟩
  refine wpAny_Call_Name_kw (ld_glob I hg T.hm ?_ hdb)
  refine PySem.W.callWith_K (h₀ := X.base) I.ok.mod.kin T.oc.kC (thn (ha.run pos pins s σ H (fun vs H2 => ∃ B2, Grow B H B2 H2 ∧ RpA X.K B2 vs ds) I ⟨B, F, W, fun vs B2 H2 g r => ⟨B2, g, r⟩⟩) fun us s1 ⟨vs, H1, I1, r1, B1, g1, r⟩ => ⟨I1.kIn, ?_⟩) he hpl
  have e1 : vs.length = nm.length := by rw [r.length, hl]
  have e2 : us.length = nm.length := by rw [← r1.length, e1]
  have lp : ∀ self : Value, (self :: us).length = ps.length := fun self => by
    have z := i3.len (V.ref 0 :: vs) (upd (fun _ => none) 0 (exo 0 C none)) (fun _ _ => True) (fun _ _ _ => True) ⟨0, vs, rfl, e1, upd_same, fun _ _ _ _ _ _ _ => True.intro⟩
    rw [← z, List.length_cons, List.length_cons, e1, e2]
  refine run_mkE T.oc i1 i2 i3 hr I1 r1 e1 (by show us.length ≤ sizeLine; rw [e2]; exact Nat.le_trans hz (by rw [sizeLine_eq]; decide)) (fun s self hk => ?_) fun a dx H2 h1 h2 h3 h4 h5 h6 => ?_
  · have := i4 s (self :: us) hk (by rw [List.append_nil]; exact lp self)
    rw [List.append_nil] at this
    exact this
  · obtain ⟨B2, g2, r2⟩ := grow_err g1.bh h1 h2 h3 h4 h5 h6 e1 r
    exact q _ B2 H2 (g1.trans g2) r2
/-- C(k = e, ..), the last parameter first -/
theorem xe_mkK (T : ErrK X.prog X.w X.K X.mg X.base x C nm) (ha : PK X kws (tA X.K δ ds)) (hl : ds.length = nm.length) (hr : Room 2 X.A)
    (hks : (backToKw pos (keywordEach kws X.env)).filterMap (·.1) = nm.reverse) (hg : Gl X x := by rfl) (hdb : (x == ("__debug__" : Str)) = false := by decide) (hall : (backToKw pos (keywordEach kws X.env)).all (·.1.isSome) = true := by rfl)
    (hpl : ((backTo pos (starEach [] X.env)).any (·.1) || (backToKw pos (keywordEach kws X.env)).any (·.1.isNone)) = false := by rfl) : XE X δ (.Call (.Name x p) [] kws pos) (errD C (nm.reverse.map .str) ds) := by
  obtain ⟨fI, fd, ps, i1, i2, i3, _, i5⟩ := T.ini
  refine ⟨fun pins s σ H Q I ⟨B, F, W, q⟩ => ?_⟩
  refine wpAny_Call_Name_kw (ld_glob I hg T.hm ?_ hdb)
  refine PySem.W.callWith_KW0 (h₀ := X.base) I.ok.mod.kin T.oc.kC hall (thn (ha.run pos pins s σ H (fun vs H2 => ∃ B2, Grow B H B2 H2 ∧ RpA X.K B2 vs ds) I ⟨B, F, W, fun vs B2 H2 g r => ⟨B2, g, r⟩⟩) fun ws s1 ⟨zs, H1, I1, rz, B1, g1, r⟩ => ⟨I1.kIn, ?_⟩) hpl
  rw [hks]
  have e1 : zs.reverse.length = nm.length := by rw [List.length_reverse, r.length, hl]
  have e2 : ws.length = nm.length := by rw [← rz.length, ← e1, List.length_reverse]
  have rr : Vals zs.reverse ws.reverse := by
    have go : ∀ {a : List V} {b : List Value}, Vals a b → Vals a.reverse b.reverse := fun {a b} h => by
      induction h with
      | nil => exact .nil
      | cons h r ih =>
        rw [List.reverse_cons, List.reverse_cons]
        exact ih.append (.cons h .nil)
    exact go rz
  refine run_mkE T.oc i1 i2 i3 hr I1 rr e1 (Nat.zero_le _) (fun s self hk => i5 s self ws hk e2) fun a dx H2 h1 h2 h3 h4 h5 h6 => ?_
  obtain ⟨B2, g2, r2⟩ := grow_err g1.bh h1 h2 h3 h4 h5 h6 e1 r.rev
  rw [List.reverse_reverse] at r2
  exact q _ B2 H2 (g1.trans g2) r2
/-- C(), C without an own __init__ -/
theorem xe_mk0 (hm : X.mg x = some (.ref C)) (hk : PySem.W.keepIn X.K (.ref C) = true) (qx : PySem.W.excIn X.K C PySem.HandSPX.veTail "ValueError.__new__" = true) (hg : Gl X x := by rfl) (hdb : (x == ("__debug__" : Str)) = false := by decide) : XE X δ (.Call (.Name x p) [] [] pos) (err0D C) := by
  refine ⟨fun pins s σ H Q I ⟨B, F, W, q⟩ => ?_⟩
  refine wpAny_Call_Name_kw (ld_glob I hg hm ?_ hdb)
  refine PySem.W.callWith_K0 I.kIn hk ?_
  obtain ⟨bm, N, n0, qn, bs, hdct, sn, sub, ab, col, dd, k0, k1, k2, k3, k5, mN, hC, hN, hni, T⟩ := exc_obj I.kIn qx
  refine wpAny_call_exc_subT PySem.F.excBase_ValueError T hC hN hni (fun h' a hm => ?_) (Nat.zero_le _)
  have hn : H a = none := I.hok.gone hm.new
  obtain ⟨t, ht, _, _⟩ := hm.there
  exact ⟨.ref a, upd H a (exo a C none), I.laidN hm.keeps hm.new hn (exo_ok ht), rfl, q _ (upd B a (exo a C none)) _ (Grow.new W.bh hn) (.err0 upd_same)⟩
end
end Dl

set_option Elab.async false
set_option linter.all false
set_option maxRecDepth 100000
set_option maxHeartbeats 4000000
/-! The data level: own exception classes of one, two, three fields. -/
namespace Dl
open PySem PySem.Spec PyProof.Rows L2 LamX
/-- what the written part says of an own exception class -/
structure OwnE (K : PySem.W.Frag) (C : Addr) (nm : List Str) (qual : Str) (st : Stmt) (ps : List Str) : Prop where
  oc : OexC K C
  xc : ExcC K C
  no : ∀ f ∈ nm, PySem.W.findIn K (.ref C) f = some none
  ini : ∃ fI fd, PySem.W.findIn K (.ref C) "__init__" = some (some (.ref fI)) ∧ PySem.W.typeIn K (.ref fI) = some (.type "function") ∧ Fun K "__init__" qual st fI fd ∧ Binds K fd ps [] ∧ KwR K fd ps nm
abbrev ofBody (P : Program) (w : World) (K : PySem.W.Frag) (mg : Str → Option Value) (base : Heap) (ps : List Str) (qual : Str) (st : Stmt) (t : TS) : Prop :=
  ∀ (X : Cx), (∃ (fa : Addr) (cdv : Value) (A : Around) (outer : List Env) (s : Shared) (H : Hp) (E : XK), X = (cxOf CX0 P w K mg base ps qual (defScope st) fa cdv A outer s H E).nox) → PSs X (defBody st) t
section
variable {P : Program} {w : World} {K : PySem.W.Frag} {mg : Str → Option Value} {base : Heap} {C : Addr} {f1 f2 f3 qual x : Str} {st : Stmt} {ps : List Str}
theorem ini_ok {nm : List Str} {t : TS} (T : OwnE K C nm qual st ps) (hm : mg x = some (.ref C)) (S : FnScope ps ps (defScope st)) (hl : ps.length = nm.length + 1) (body : ofBody P w K mg base ps qual st t)
    (h : ∀ (a : Addr) (us : List V) (H : Hp) (Q : VK), us.length = nm.length → H a = some (exo a C none) →
      (∀ (dx : Addr) (H2 : Hp), H dx = none → dx ≠ a → H2 a = some (exo a C (some dx)) → H2 dx = some (exd dx (nm.zip us).reverse) → (∀ b, b ≠ a → b ≠ dx → H2 b = H b) → Q .non H2) →
      t { nx := fun _ H' => Q .non H', rt := Q } (L2.start ps (.ref a :: us)) H) : ErrK P w K mg base x C nm := by
  obtain ⟨fI, fd, h1, h2, h3, h4, h5⟩ := T.ini
  refine ⟨hm, T.oc, fI, fd, ps, h1, h2, h3.ok S (fun vs H Q E z => ?_) (fun cdv A outer s H vs Q E hr z => ?_), h4, h5⟩
  · obtain ⟨a, us, rfl, e, _⟩ := z
    rw [List.length_cons, e, hl]
  · obtain ⟨a, us, rfl, e, ha, q⟩ := z
    exact ⟨_, body _ ⟨fI, cdv, A, outer, s, H, E, rfl⟩, h a us H Q e ha q⟩
theorem errK1 (T : OwnE K C [f1] qual st ps) (hm : mg x = some (.ref C)) (S : FnScope ps ps (defScope st)) (hl : ps.length = 2) (body : ofBody P w K mg base ps qual st (tOst K f1 (tVar 0) (tVar 1))) : ErrK P w K mg base x C [f1] :=
  ini_ok T hm S hl body fun a us H Q hu ha q => match us, hu with
  | [v], _ => ⟨v, rfl, .ref a, rfl, a, C, rfl, T.oc, T.no _ List.mem_cons_self, .inl ⟨ha, fun dx hd hne => q dx _ hd hne upd_same (by rw [upd_ne hne]; exact upd_same) fun b hb hb2 => by rw [upd_ne hb, upd_ne hb2]⟩⟩
theorem errK2 (T : OwnE K C [f1, f2] qual st ps) (hm : mg x = some (.ref C)) (S : FnScope ps ps (defScope st)) (hl : ps.length = 3) (body : ofBody P w K mg base ps qual st (tSeq (tOst K f1 (tVar 0) (tVar 1)) (tOst K f2 (tVar 0) (tVar 2)))) : ErrK P w K mg base x C [f1, f2] :=
  ini_ok T hm S hl body fun a us H Q hu ha q => match us, hu with
  | [v, u], _ => ⟨v, rfl, .ref a, rfl, a, C, rfl, T.oc, T.no _ List.mem_cons_self, .inl ⟨ha, fun dx hd hne =>
      ⟨u, rfl, .ref a, rfl, a, C, rfl, T.oc, T.no _ (List.mem_cons_of_mem _ List.mem_cons_self), .inr ⟨dx, _, upd_same, by rw [upd_ne hne]; exact upd_same, by show 1 ≤ 900; decide,
        q dx _ hd hne (by rw [upd_ne (Ne.symm hne)]; exact upd_same) upd_same fun b hb hb2 => by rw [upd_ne hb2, upd_ne hb, upd_ne hb2]⟩⟩⟩⟩
theorem errK3 (T : OwnE K C [f1, f2, f3] qual st ps) (hm : mg x = some (.ref C)) (S : FnScope ps ps (defScope st)) (hl : ps.length = 4) (body : ofBody P w K mg base ps qual st (tSeq (tOst K f1 (tVar 0) (tVar 1)) (tSeq (tOst K f2 (tVar 0) (tVar 2)) (tOst K f3 (tVar 0) (tVar 3))))) : ErrK P w K mg base x C [f1, f2, f3] :=
  ini_ok T hm S hl body fun a us H Q hu ha q => match us, hu with
  | [v, u, z], _ => ⟨v, rfl, .ref a, rfl, a, C, rfl, T.oc, T.no _ List.mem_cons_self, .inl ⟨ha, fun dx hd hne =>
      ⟨u, rfl, .ref a, rfl, a, C, rfl, T.oc, T.no _ (List.mem_cons_of_mem _ List.mem_cons_self), .inr ⟨dx, _, upd_same, by rw [upd_ne hne]; exact upd_same, by show 1 ≤ 900; decide,
        z, rfl, .ref a, rfl, a, C, rfl, T.oc, T.no _ (List.mem_cons_of_mem _ (List.mem_cons_of_mem _ List.mem_cons_self)), .inr ⟨dx, _, (by rw [upd_ne (Ne.symm hne)]; exact upd_same), upd_same, by show 2 ≤ 900; decide,
        q dx _ hd hne (by rw [upd_ne (Ne.symm hne), upd_ne (Ne.symm hne)]; exact upd_same) upd_same fun b hb hb2 => by rw [upd_ne hb2, upd_ne hb2, upd_ne hb, upd_ne hb2]⟩⟩⟩⟩⟩
end
end Dl

set_option Elab.async false
set_option linter.all false
set_option maxRecDepth 100000
set_option maxHeartbeats 4000000
/-! The data level: lambdas of one parameter as things: made, called. -/
namespace Dl
open PySem PySem.Spec PyProof.Rows L2 LamX
theorem clo_none {cells : List (Str × Addr)} {sc : Scope} (h : sc.names = [(("e" : Str), NameKind.local)]) : cloFrom cells sc.names [] = [] := by rw [h]; rfl
section
variable {X : Cx} {pins : List (Addr × Obj)} {σ : L2.St} {H : Hp} {s : Shared}
/-- a function object just made is known from now on -/
theorem inv_lam {F : LF} {c : Addr} {pm ctv : Value} {t' : Nat} (I : Inv X pins σ H s) : Inv X pins σ (upd H s.heap.objs.size (LamO s.heap.objs.size c F)) { s with heap := s.heap.push (PySem.W.kla_obj "<lambda>" F.qual F.params F.body F.scope [] pm c ctv), toks := t' } := by
  have at_ : (s.heap.push (PySem.W.kla_obj "<lambda>" F.qual F.params F.body F.scope [] pm c ctv)).get? s.heap.objs.size = some (PySem.W.kla_obj "<lambda>" F.qual F.params F.body F.scope [] pm c ctv) := Heap.get?_push_size _ rfl
  refine I.laid (a := s.heap.objs.size) (o := LamO s.heap.objs.size c F) (fun b u e => Heap.get?_push_of_some _ e) (Nat.le_refl _) ?_
  exact ⟨⟨none, #[], pm, ctv, at_⟩, ⟨_, at_⟩, fun h1 h2 ⟨od, sl, p, t, z⟩ st => ⟨od, sl, p, t, st _ z⟩⟩
theorem lam_make4 {c P : Addr} {q : Str} {params : Arguments} {body : Expr} {scope : Scope} {pos : Pos} {E : Value → Shared → Prop} {Q : Value → Shared → Prop} (I : Inv X pins σ H s) (TB : TabB X.base X.mg c P) (hcode : X.env.code = .ref c) (eq : q = X.env.qual ++ "<lambda>")
    (hT : ∃ ps, H P = some (.tbl ps) ∧ Codes H q ps) (hdef : defaultsOf params X.env = ([], [])) (hn : scope.names = [(("e" : Str), NameKind.local)])
    (h : ∀ (f c' : Addr) (H1 : Hp) (s1 : Shared), LamH P q c' H H1 → H1 f = none → Inv X pins σ (upd H1 f (LamO f c' ⟨q, params, body, scope⟩)) s1 → Q (.ref f) s1) :
    wpAny (model X.prog X.w) X.A (eval (.Lambda params body scope pos) X.env) Q E s := by
  subst eq
  obtain ⟨ps, hP, ht, ha⟩ := hT
  have hPs : s.heap.get? P = some { cls := .none, data := .fields ps } := I.hok P _ hP
  have bB : s.heap.BuiltinsAt X.mg P := TB.bm.keeps I.bk
  have hfree : ∀ y ∈ scope.names, y.2 = .free → ∃ c, X.env.cells.lookup y.1 = some c := fun y hy e => by
    rw [hn] at hy
    rw [List.mem_singleton.mp hy] at e
    cases e
  have cl := closure_ok (env := X.env) hfree
  rw [clo_none hn] at cl
  refine PySem.W.kla_eval hdef ?_
  cases hc : codeAmong pos ps.toList with
  | some cv =>
    obtain ⟨c', rfl, hco⟩ := ha pos cv hc
    refine PySem.W.kla_makeFunctionHit (mg := X.mg) (c := c) (P := P) (ps := ps) cl I.ok.glob (I.mod.glob.keeps I.bk) hcode (TB.code.keeps I.bk) hPs ht hc bB fun ctv h' tk hx hsz => ?_
    have J : Inv X pins σ H { s with heap := h', toks := tk } := I.kept hx
    exact h h'.objs.size c' H _ (.inl ⟨rfl, hco, ps, pos, hP, hc⟩) (J.hok.fresh (Nat.le_refl _)) (inv_lam (F := ⟨X.env.qual ++ "<lambda>", params, body, scope⟩) (t' := tk) J)
  | none =>
    refine PySem.W.kla_makeFunction (mg := X.mg) (c := c) (P := P) (ps := ps) cl I.ok.glob (I.mod.glob.keeps I.bk) hcode (TB.code.keeps I.bk) hPs ht hc TB.gP bB fun c' ctv h' tk hx hge hlt hrec htb => ?_
    obtain ⟨c2, oc, vs, t, e2, hoc, hd, hv⟩ := hrec
    cases e2
    have free : H c' = none := I.hok.fresh hge
    have J := inv_table (t' := tk) (more := #[rawInt pos.line, rawInt pos.col, .ref c']) (h' := h') I hP (fun b o hb e => hx b o hb e) htb hge ⟨oc, vs, t, hoc, hd, hv⟩
    exact h h'.objs.size c' _ _ (.inr ⟨free, ps, pos, hP, rfl⟩) (J.hok.fresh (Nat.le_refl _)) (inv_lam (F := ⟨X.env.qual ++ "<lambda>", params, body, scope⟩) (t' := tk) J)
end
/-- a thing, and the table of the codes made in this frame -/
def tbR (K : PySem.W.Frag) (d : PyData) (P : Addr) (q : Str) : Res where
  ok := fun B H v fp => Rp K B v d ∧ fp = [P] ∧ ∃ ps, H P = some (.tbl ps) ∧ Codes B q ps
  loc := fun {B B' H H' v fp} ⟨h1, h3, ps, h4, h5⟩ hb hh => ⟨h1.mono hb, h3, ps, by rw [hh P (by rw [h3]; exact List.mem_cons_self)]; exact h4, h5.mono hb⟩
section
variable {K : PySem.W.Frag} {B H H1 : Hp} {σ : L2.St} {δ : List Slot} {F : Nat → List Addr} {P c' : Addr} {q : Str} {d0 : PyData}
theorem codes_tb (W : Wf K B H σ δ F) (h0 : δ[0]? = some (.own (tbR K d0 P q))) (lh : LamH P q c' H H1) : ∃ B1, Wf K B1 H1 σ δ F ∧ Step B H F B1 H1 F ∧ B1 c' = some (CodeO c' q) := by
  obtain ⟨o, a1, a2⟩ := W.sl 0 _ h0
  cases o with
  | none => exact a2.elim
  | some v =>
    obtain ⟨e2, hF, ps, hP, hc⟩ := a2
    rcases lh with ⟨rfl, hcode, ps', pos, hP', hca⟩ | ⟨hn, ps', pos, hP', rfl⟩
    · rw [hP] at hP'
      cases hP'
      obtain ⟨c, ec, eB⟩ := hc.2 pos _ hca
      cases ec
      exact ⟨B, W, Step.refl, eB⟩
    · rw [hP] at hP'
      cases hP'
      have hcB : B c' = none := W.bh.free hn
      have ncF : ∀ k, c' ∉ F k := fun k hk => by
        obtain ⟨_, u, hu⟩ := W.own k c' hk
        rw [hn] at hu
        cases hu
      have hPF : P ∈ F 0 := by rw [hF]; exact List.mem_cons_self
      have hPB : B P = none := (W.own 0 P hPF).1
      have hPc : P ≠ c' := fun z => by rw [z, hn] at hP; cases hP
      have h1of : ∀ b, b ≠ P → b ≠ c' → upd (upd H P (.tbl (ps ++ #[rawInt pos.line, rawInt pos.col, .ref c']))) c' (CodeO c' q) b = H b := fun b h1 h2 => by rw [upd_ne h2, upd_ne h1]
      have sB : Same B (upd B c' (CodeO c' q)) := same_upd hcB
      refine ⟨upd B c' (CodeO c' q), ⟨fun b o e => ?_, W.len, fun i s e => ?_, W.out, W.dis, fun i a ha => ?_⟩, ⟨sB, fun b o hb hnF => ?_, fun b o hb hnF => ?_, fun b o hb => ?_, fun i b hb => .inl ⟨i, hb⟩⟩, upd_same⟩
      · by_cases hb : b = c'
        · rw [hb, upd_same] at e ⊢
          exact e
        · rw [upd_ne hb] at e
          rw [h1of b (fun z => by rw [z, hPB] at e; cases e) hb]
          exact W.bh _ _ e
      · by_cases hi : i = 0
        · subst hi
          rw [h0] at e
          cases e
          refine ⟨some v, a1, e2.mono sB, hF, _, by rw [upd_ne hPc]; exact upd_same, ?_, fun p' cv hcv => ?_⟩
          · rw [show (ps ++ #[rawInt pos.line, rawInt pos.col, Value.ref c']).toList = ps.toList ++ [rawInt pos.line, rawInt pos.col, .ref c'] by simp]
            exact PySem.TriplesOk_snoc _ _ _ _ hc.1
          · rw [show (ps ++ #[rawInt pos.line, rawInt pos.col, Value.ref c']).toList = ps.toList ++ [rawInt pos.line, rawInt pos.col, .ref c'] by simp] at hcv
            rcases among_app _ hc.1 hcv with k | k
            · obtain ⟨c, k1, k2⟩ := hc.2 p' cv k
              exact ⟨c, k1, sB _ _ k2⟩
            · exact ⟨c', k, upd_same⟩
        · obtain ⟨o, b1, b2⟩ := W.sl i s e
          exact ⟨o, b1, b2.loc sB fun a ha => h1of a (fun z => hi (W.dis i 0 a ha (by rw [z]; exact hPF))) (fun z => ncF i (z ▸ ha))⟩
      · obtain ⟨k1, o, k2⟩ := W.own i a ha
        have hac : a ≠ c' := fun z => ncF i (z ▸ ha)
        refine ⟨by rw [upd_ne hac]; exact k1, ?_⟩
        by_cases haP : a = P
        · exact ⟨_, by rw [haP, upd_ne hPc]; exact upd_same⟩
        · exact ⟨o, by rw [h1of a haP hac]; exact k2⟩
      · rw [h1of b (fun z => hnF 0 (by rw [z]; exact hPF)) (fun z => by rw [z, hn] at hb; cases hb)]
        exact hb
      · rw [upd_ne (fun z => by rw [z, hn] at hb; cases hb)]
      · by_cases hbP : b = P
        · exact ⟨_, by rw [hbP, upd_ne hPc]; exact upd_same⟩
        · exact ⟨o, by rw [h1of b hbP (fun z => by rw [z, hn] at hb; cases hb)]; exact hb⟩
end
/-- what a lambda's making asks of X -/
structure LamAt1 (X : Cx) (q : Str) (c P : Addr) : Prop where
  tb : TabB X.base X.mg c P
  code : X.env.code = .ref c
  eq : q = X.env.qual ++ "<lambda>"
section
variable {X : Cx} {δ : List Slot} {q : Str} {c P : Addr} {d0 : PyData} {params : Arguments} {body : Expr} {scope : Scope} {lpos : Pos} {nm : List Str}
/-- lambda e: [e.f, ..] -/
theorem xf_lam (LA : LamAt1 X q c P) (h0 : δ[0]? = some (.own (tbR X.K d0 P q))) (L : LamWell ⟨q, params, body, scope⟩ nm) (hdef : defaultsOf params X.env = ([], [])) : XF X δ (.Lambda params body scope lpos) (fun d δ' => d = lamD (nm.map .str) ∧ δ' = δ) := by
  refine ⟨fun pins s σ H Q I ⟨B, F, W, qq⟩ => ?_⟩
  obtain ⟨o, a1, a2⟩ := W.sl 0 _ h0
  cases o with
  | none => exact a2.elim
  | some v =>
    obtain ⟨_, _, ps, hP, hc⟩ := a2
    refine lam_make4 I LA.tb LA.code LA.eq ⟨ps, hP, hc.mono W.bh⟩ hdef L.loc fun f c' H1 s1 lh hf J => ?_
    obtain ⟨B1, W1, st, hcB⟩ := codes_tb W h0 lh
    have g := Grow.new (o := LamO f c' ⟨q, params, body, scope⟩) W1.bh hf
    exact ⟨.ref f, _, J, rfl, qq (.ref f) _ δ _ _ F (st.trans (Step.of g)) (W1.grow g) ⟨rfl, rfl⟩ (.lam upd_same (g.bb _ _ hcB) L rfl)⟩
end
/-! ### called -/
abbrev nfOf (c : Addr) (L : LF) : NdefX.NF := ⟨"<lambda>", L.qual, L.params, [], L.scope, [], c⟩
abbrev lCx (P : Program) (w : World) (K : PySem.W.Frag) (mg : Str → Option Value) (base : Heap) (f c : Addr) (L : LF) (A : Around) (outer : List Env) (s : Shared) (H : Hp) (E : XK) : Cx := NdefX.ncx CX0 P w K mg base [("e" : Str)] (nfOf c L) f A outer s H E
section
variable {P : Program} {w : World} {K : PySem.W.Frag} {mg : Str → Option Value} {base : Heap} {f c : Addr} {L : LF} {nm : List Str} {A : Around} {outer : List Env} {s : Shared} {H : Hp} {v : V} {u : Value} {Q : VK} {E : XK} {k : Nat} {tb : TE}
theorem lam_runs (W : LamWell L nm) (hr : Room (k + 1) A) (e0 : Env0 P w K mg base A outer s H) (hf : H f = some (LamO f c L)) (hc : H c = some (CodeO c L.qual)) (rv : L2.RelV v u) (hb : PE (lCx P w K mg base f c L A outer s H E) L.body tb) (ht : tb [some v] H Q) :
    codeAny (model P w) A (.call (.ref f) ⟨[u], []⟩) (CR CX0 outer P w H s Q E) s := by
  obtain ⟨⟨od, sl, pm, ctv, ho⟩, _, _⟩ := e0.hok f _ hf
  have lim : s.heap.NoLimit := e0.mod.nolimit.keeps fun b o e => (e0.bs b o e).1
  have noc : ∀ y ∈ L.scope.names, y.2 ≠ NameKind.cell := fun y hy e => by
    rw [W.loc] at hy
    rw [List.mem_singleton.mp hy] at e
    cases e
  have loc : L.scope.names.lookup ("e" : Str) = some .local := by rw [W.loc]; rfl
  have S : NdefX.NScope [("e" : Str)] [("e" : Str)] [] L.scope := ⟨W.kind, W.co, W.gen, by decide, rfl, fun x hx => by rw [List.mem_singleton.mp hx]; exact loc, noc, (fun y hy e => by
    rw [W.loc] at hy
    rw [List.mem_singleton.mp hy] at e
    cases e), (fun x hx => nomatch hx)⟩
  have C : NdefX.CellsAt [] [] [] s.heap H := ⟨rfl, (fun y c e => by cases e), (fun x y c e => by cases e), (fun i y e => by simp at e)⟩
  refine PySem.W.kla_callFunE hr.depth ho rfl W.co W.gen rfl (NdefX.codeO_at e0.hok hc) ?_
  have hbind := W.bind pm (.ref c) ctv u
  rw [hbind]
  refine wpAny_pure (wpAny_newFunctionEnv noc (fun ⟨n, _⟩ hy => by
    rw [(Prod.mk.inj (List.mem_singleton.mp hy)).1]
    exact loc) (fun h₁ hns hsb => ⟨lim.fresh _ hsb, ?_⟩) W.kind)
  have kp : ∀ b o, s.heap.get? b = some o → h₁.get? b = some o := fun b o e => hsb.extBut b o (Nat.ne_of_lt (Heap.lt_size e)) (Heap.get?_push_of_some _ e)
  have J : Inv (lCx P w K mg base f c L A outer s H E) [] [some v] H { s with heap := h₁, toks := s.toks + ([(("e" : Str), u)] : List (Str × Value)).length } :=
    NdefX.inv_startN (CX := CX0) (N := [("e" : Str)]) (ps := [("e" : Str)]) (fr := []) (F := nfOf c L) (f := f) (E := E) (us := [u]) (vs := [v]) (ws := []) S hr.hd e0 rfl (.cons rv .nil) C hns kp
  refine PySem.W.kla_codeExpr (wpAny_mono (hb.run [] _ [some v] H Q J ht) (fun v' s' hq => ?_) fun e s' hq => hq)
  obtain ⟨w', H', J', rv', q'⟩ := hq
  exact ⟨w', H', J'.os, J'.bare, J'.base, J'.hok, rv', q'⟩
end
section
variable {Y : Cx} {ds ys ns : List PyData} {C : Addr}
theorem xa_attrs (hN : Y.N[0]? = some ("e" : Str)) (hv : Vis Y.env.scope ("e" : Str)) (T : ExcC Y.K C) : ∀ {es : List Expr} {nm : List Str} {ys : List PyData}, AttrsOf es nm → (∀ n ∈ nm, PySem.W.findIn Y.K (.ref C) n = some none) → nm.length = ys.length → (∀ (i : Nat) (n : Str) (y : PyData), nm[i]? = some n → ys[i]? = some y → FldD n ns ds y) → XA Y [.dat (errD C ns ds)] es ys
  | _, _, [], .nil, _, _, _ => xa_nil
  | _, _, y :: ys, .cons p1 p2 r, hno, hl, h => xa_cons (xe_fld (xe_var (i := 0) rfl hN hv) T (hno _ List.mem_cons_self) (h 0 _ _ rfl rfl)) (xa_attrs hN hv T r (fun n hn => hno n (List.mem_cons_of_mem _ hn)) (by simpa using hl) fun i n y h1 h2 => h (i + 1) n y (by simpa using h1) (by simpa using h2))
  | _, _, y :: ys, .nil, _, hl, _ => by cases hl
  | _, _, [], .cons p1 p2 r, _, hl, _ => by cases hl
end
/-- what such a lambda tells of such a thing -/
inductive Tells (K : PySem.W.Frag) : List Str → PyData → List PyData → Prop
  | none (d : PyData) : Tells K [] d []
  | some {C : Addr} {nm : List Str} {ns ds ys : List PyData} (T : ExcC K C) (hno : ∀ n ∈ nm, PySem.W.findIn K (.ref C) n = some .none) (hl : nm.length = ys.length) (hz : ys.length ≤ 1000) (h : ∀ (i : Nat) (n : Str) (y : PyData), nm[i]? = Option.some n → ys[i]? = Option.some y → FldD n ns ds y) : Tells K nm (errD C ns ds) ys
theorem xe_tells {Y : Cx} {L : LF} {nm : List Str} {d : PyData} {ys : List PyData} (W : LamWell L nm) (t : Tells Y.K nm d ys) (hN : Y.N[0]? = some ("e" : Str)) (hv : Vis Y.env.scope ("e" : Str)) : XE Y [.dat d] L.body (.list ys) := by
  obtain ⟨es, pos, e1, ha⟩ := W.body
  rw [e1]
  cases t with
  | none =>
    cases ha
    exact xe_lst xa_nil
  | some T hno hl hz h => exact xe_lst (xa_attrs hN hv T ha hno hl h) (by omega)
section
variable {X : Cx} {δ : List Slot} {a : Expr} {d : PyData} {nm : List Str} {ys : List PyData} {x : Str} {p pos : Pos} {k : Nat}
/-- x(a), x a name that holds such a lambda -/
theorem xe_callL (i : Nat) (h : δ[i]? = some (.dat (lamD (nm.map .str)))) (ha : XE X δ a d) (t : Tells X.K nm d ys) (hr : Room 1 X.A) (hN : X.N[i]? = some x := by rfl) (hv : Vis X.env.scope x := by first | exact Or.inl rfl | exact Or.inr (Or.inl rfl) | exact Or.inr (Or.inr rfl))
    (hd : (x == ("__debug__" : Str)) = false := by decide) (hcd : (x == ("__classdict__" : Str)) = false := by decide) (hs : starEach [a] X.env = (false, eval a X.env) :: starEach [] X.env := by rfl) (hpl : (backTo pos (starEach [] X.env)).any (·.1) = false := by rfl) :
    XE X δ (.Call (.Name x p) [a] [] pos) (.list ys) := by
  refine ⟨fun pins s σ H Q I ⟨B, F, W, q⟩ => ?_⟩
  obtain ⟨v, s1, r1⟩ := W.dat h
  obtain ⟨f, c, L, nm', rfl, hf, hc, LW, en⟩ := r1.lamInv
  have en : nm' = nm := by
    have := congrArg (List.map fun d => match d with | PyData.str x => x | _ => "") en
    simpa [Function.comp_def] using this
  subst en
  refine wpAny_Call_Name_kw (thn ((pe_var (pos := p) (i := i) hN hv hd hcd).run pins s σ H (fun v H2 => v = .ref f ∧ H2 = H) I ⟨.ref f, s1, rfl, rfl⟩) fun u s2 ⟨v, H2, I2, r2, q2⟩ => ?_)
  obtain ⟨ev, eH⟩ := q2
  subst ev
  rw [eH] at I2
  obtain rfl : u = Value.ref f := r2
  have fnAt : ∀ {s' : Shared} {H' : Hp}, Inv X pins σ H' s' → Same B H' → PySem.W.FnAt f s'.heap := fun {s' H'} J sm => by
    obtain ⟨⟨od, sl, pm, ctv, ho⟩, _, _⟩ := J.hok f _ (sm _ _ hf)
    exact ⟨_, _, _, _, ho⟩
  refine PySem.W.callWith_F (fnAt I2 W.bh) (thn (PA.run (pa_cons ha pa_nil hs) pos pins s2 σ H (fun vs H2 => ∃ v B2, vs = [v] ∧ Grow B H B2 H2 ∧ Rp X.K B2 v d) I2 ⟨B, F, W, fun v B2 H2 g r => ⟨v, B2, rfl, g, r⟩⟩) fun us s3 ⟨vs, H3, I3, r3, v, B3, ev, g3, rv⟩ => ⟨fnAt I3 (g3.bb.trans g3.bh), ?_⟩) hs hpl
  subst ev
  cases r3 with
  | @cons _ u0 _ _ ru rn =>
    cases rn
    have nB := Wf.at_ (K := X.K) (B := B3) (H := H3) (σ := [some v]) (δ := [.dat d]) ⟨Same.refl _, rfl, fun i t e => (by
      cases i with
      | zero =>
        have e : some (Slot.dat d) = some t := e
        cases e
        exact ⟨some v, rfl, rfl, rv⟩
      | succ i => simp at e), fun _ _ => rfl, (fun i j a h _ => nomatch h), (fun i a h => nomatch h)⟩ g3.bh
    refine wpAny_call (codeAny_mono (lam_runs (E := fun _ _ _ => False) (k := 0) LW hr I3.env0 (g3.bh _ _ (g3.bb _ _ hf)) (g3.bh _ _ (g3.bb _ _ hc)) ru (xe_tells LW (by exact t) rfl (Or.inl (by show L.scope.names.lookup ("e" : Str) = some .local; rw [LW.loc]; rfl)))
      (show tD X.K [.dat d] (.list ys) [some v] H3 Q from ⟨B3, _, nB, fun v4 B4 H4 g4 r4 => q v4 B4 H4 (g3.trans g4) r4⟩)) fun r s' hq => ?_)
    cases r with
    | error e => exact pass0 pins σ _ _ e s' I3 hq
    | ok fl =>
      cases fl with
      | ret u => exact I3.after hq
      | next => exact False.elim hq
      | brk => exact False.elim hq
      | cont => exact False.elim hq
end
end Dl

set_option Elab.async false
set_option linter.all false
set_option maxRecDepth 100000
set_option maxHeartbeats 4000000
/-! The data level: repr of lists, nothing being told around. -/
namespace Dl
open PySem PySem.Spec PyProof.Rows L2 LamX
/-- what is told in a list -/
structure NiceD (d : PyData) : Prop where
  kind : PyData.canLay0 d = true ∨ ∃ (x : Str) (i : Int), d = .dict [(.str x, .int i)]
  show_ : d.showable = true
  len : d.shown.length ≤ 1000
  dep : d.depth ≤ 10
section
variable {X : Cx} {pins : List (Addr × Obj)} {σ : L2.St} {B H : Hp} {s : Shared} {v : V} {u : Value} {d : PyData}
theorem nice_reads (I : Inv X pins σ H s) (sm : Same B H) (r : Rp X.K B v d) (rv : L2.RelV v u) (n : NiceD d) : ∃ as, Reads s.heap u d as ∧ (d.hasDict = true → sysModules ∉ as) := by
  rcases n.kind with h | ⟨x, i, rfl⟩
  · obtain ⟨as, q⟩ := Dp.reads I d v u ((r.mono sm).dp h) rv
    refine ⟨as, q, fun z => ?_⟩
    rw [PyData.hasDict_of_canLay d h] at z
    cases z
  · generalize he : (PyData.dict [(.str x, .int i)]) = d0 at r
    cases r with
    | dic1 x' i' h1 =>
      simp only [PyData.dict.injEq, List.cons.injEq, Prod.mk.injEq, PyData.str.injEq, PyData.int.injEq, and_true] at he
      obtain ⟨rfl, rfl⟩ := he
      obtain rfl : u = Value.ref _ := rv
      obtain ⟨hz, hsys, vs, hkv, o, es, ep, ho, hx, hd, hk, hp, _⟩ := I.hok _ _ (sm _ _ h1)
      cases hkv with
      | @cons _ q _ _ hq hr =>
        cases hr
        obtain ⟨k0, w0⟩ := q
        obtain ⟨e1, e2⟩ := hq
        have e1 : (Sum.inr x : Key) = k0 := e1
        subst e1
        obtain ⟨t0, rfl⟩ : ∃ t, w0 = Value.int i t := e2
        generalize hes : es.toList = l at hp
        cases hp with
        | cons hk1 hv1 hp2 =>
          cases hp2
          rename_i en
          obtain ⟨tk, ek⟩ : ∃ tk, en.key = Value.str x tk := by
            rcases keyIs_shape (k := Sum.inr x) (v := en.key) hk1 with ⟨_, _, z, _⟩ | ⟨y, t, z, e⟩
            · cases z
            · cases z
              exact ⟨t, e⟩
          refine ⟨_, Reads.dict (as := []) (bs := []) ho hx.1 hd ?_ ?_, fun _ => ?_⟩
          · rw [hes]
            show ReadsAll s.heap [en.key] [.str x] []
            rw [ek]
            exact .cons (as := []) (bs := []) (.str x tk) .nil
          · rw [hes]
            show ReadsAll s.heap [en.val] [.int i] []
            rw [hv1]
            exact .cons (as := []) (bs := []) (.int i t0) .nil
          · intro z
            have z : sysModules ∈ [_] := z
            rw [List.mem_singleton] at z
            rw [← z] at hsys
            simp at hsys
    | _ => simp [errD, err0D, lamD, adrD] at he
theorem nice_all (I : Inv X pins σ H s) (sm : Same B H) : ∀ {vs : List V} {us : List Value} {ds : List PyData}, RpA X.K B vs ds → Vals vs us → (∀ d ∈ ds, NiceD d) →
    ∃ as bs, ReadsAll s.heap us ds as ∧ ReadAtMost s.heap (PyData.depthAll ds) bs ∧ ReprAllK X.prog X.w bs s.heap (PyData.depthAll ds) us (PyData.shownAll ds)
  | _, _, _, .nil, .nil, _ => ⟨[], [], .nil, (fun _ h => nomatch h), by simp only [PyData.shownAll]; exact .nil⟩
  | _, _, _, .cons (d := d) (ds := ds) r rs, .cons rv rvs, h => by
    have hn := h d List.mem_cons_self
    obtain ⟨a1, q1, hs⟩ := nice_reads I sm r rv hn
    obtain ⟨a2, b2, q2, m2, k2⟩ := nice_all I sm rs rvs fun d hd => h d (List.mem_cons_of_mem _ hd)
    obtain ⟨b1, m1, k1⟩ := ReprK.of_reads (prog := X.prog) (w := X.w) q1 hn.show_ hs (Nat.le_trans hn.len (by rw [sizeLine_eq]; decide))
    refine ⟨a1 ++ a2, b1 ++ b2, .cons q1 q2, ?_, ?_⟩
    · simp only [PyData.depthAll]
      exact (m1.mono (Nat.le_max_left _ _)).append (m2.mono (Nat.le_max_right _ _))
    · simp only [PyData.depthAll, PyData.shownAll]
      exact .cons ((k1.more fun b hb => List.mem_append_left _ hb).level_le (Nat.le_max_left _ _)) (k2.more_le (fun b hb => List.mem_append_right _ hb) (Nat.le_max_right _ _))
end
theorem depthAll_le {n : Nat} : ∀ {ds : List PyData}, (∀ d ∈ ds, d.depth ≤ n) → PyData.depthAll ds ≤ n
  | [], _ => by simp [PyData.depthAll]
  | d :: ds, h => by
    simp only [PyData.depthAll]
    exact Nat.max_le.mpr ⟨h d List.mem_cons_self, depthAll_le fun d hd => h d (List.mem_cons_of_mem _ hd)⟩
theorem textFrom_le {m : Nat} : ∀ (ts : List Str) (k : Nat) (acc : Str), (∀ t ∈ ts, t.length ≤ m) → (textFrom k acc ts).length ≤ acc.length + ts.length * (m + 2)
  | [], k, acc, _ => by show acc.length ≤ _; omega
  | t :: r, k, acc, h => by
    have ih := textFrom_le r (k + 1) (acc ++ (if k > 0 then ", " else "" : String) ++ t) fun t ht => h t (List.mem_cons_of_mem _ ht)
    have e : (acc ++ (if k > 0 then ", " else "" : String) ++ t).length = acc.length + (if k > 0 then 2 else 0) + t.length := by
      rw [strLen_append, strLen_append]
      split <;> rfl
    have h0 := h t List.mem_cons_self
    have h2 : (if k > 0 then 2 else 0) ≤ 2 := by split <;> omega
    show (textFrom (k + 1) (acc ++ (if k > 0 then ", " else "" : String) ++ t) r).length ≤ _
    rw [e] at ih
    rw [List.length_cons, Nat.add_mul, Nat.one_mul]
    omega
theorem shownAll_mem : ∀ {ds : List PyData} {m : Nat}, (∀ d ∈ ds, d.shown.length ≤ m) → ∀ t ∈ PyData.shownAll ds, t.length ≤ m
  | [], _, _, t, ht => by
    simp only [PyData.shownAll] at ht
    cases ht
  | d :: ds, m, h, t, ht => by
    simp only [PyData.shownAll, List.mem_cons] at ht
    rcases ht with rfl | ht
    · exact h d List.mem_cons_self
    · exact shownAll_mem (fun d hd => h d (List.mem_cons_of_mem _ hd)) t ht
theorem shownAll_length : ∀ ds : List PyData, (PyData.shownAll ds).length = ds.length
  | [] => by simp [PyData.shownAll]
  | d :: ds => by simp [PyData.shownAll, shownAll_length ds]
theorem nice_len {ds : List PyData} (h : ∀ d ∈ ds, NiceD d) (hl : ds.length ≤ 1000) : (listText (PyData.shownAll ds)).length ≤ sizeLine := by
  have h1 := textFrom_le (m := 1000) (PyData.shownAll ds) 0 "[" (shownAll_mem fun d hd => (h d hd).len)
  have h2 : (listText (PyData.shownAll ds)).length = (textFrom 0 "[" (PyData.shownAll ds)).length + 1 := by
    show (textFrom 0 "[" (PyData.shownAll ds) ++ "]").length = _
    rw [strLen_append]
    rfl
  have h3 : (Str.ofString "[").length = 1 := rfl
  rw [h2, sizeLine_eq]
  rw [shownAll_length] at h1
  have : ds.length * (1000 + 2) ≤ 1000 * 1002 := Nat.mul_le_mul hl (Nat.le_refl _)
  omega
def rReprL (K : PySem.W.Frag) : List V → Hp → VK → Prop := fun xs H Q => ∃ (B : Hp) (v : V) (ds : List PyData), xs = [v] ∧ Same B H ∧ Rp K B v (.list ds) ∧ (∀ d ∈ ds, NiceD d) ∧ ds.length ≤ 1000 ∧ Q (.str (PyData.shown (.list ds))) H
theorem call_reprL {X : Cx} (hg : X.A.guards = some []) (hu : X.A.units + 50 < cLine) : CallR X (.builtin "repr") (rReprL X.K) := by
  intro pins s σ H xs us Q I r h
  obtain ⟨B, v, ds, rfl, sm, rv, hn, hl, q⟩ := h
  cases rv with
  | @lst a vs _ h1 r1 =>
    cases r with
    | cons rx rr =>
      cases rr
      cases rx
      obtain ⟨hz, its, n, rr, ho⟩ := I.hok _ _ (sm _ _ h1)
      obtain ⟨as, bs, q1, m1, k1⟩ := nice_all I sm r1 rr hn
      have hd := depthAll_le fun d hd => (hn d hd).dep
      have hR : Reads s.heap (.ref a) (.list ds) _ := .list ho rfl rfl (by simpa using q1)
      have hna : a ∉ bs := not_mem_of_deeper hR (by simp only [PyData.depth]; omega) m1
      have fin : ∀ h' u tk, (∀ b o, s.heap.get? b = some o → h'.get? b = some o) → EP X pins σ Q (.str (listText (PyData.shownAll ds)) u) { s with heap := h', toks := tk } := fun h' u tk hk => by
        refine ⟨.str _, H, I.kept (t' := tk) hk, ⟨u, rfl⟩, ?_⟩
        have q := q
        simp only [PyData.shown] at q
        exact q
      refine call_repr_slot (T := "list") (idr := "list.__repr__") (by omega) ⟨_, ho, rfl⟩ F.slot_list_repr.toG ?_
      have sz := nice_len hn hl
      cases its with
      | nil =>
        cases k1' : ds with
        | nil =>
          rw [k1'] at fin
          simp only [PyData.shownAll, listText_nil] at fin
          exact call_list_repr_empty ⟨_, ho, rfl⟩ ho rfl ⟨_, _, rfl, fin s.heap _ _ fun _ _ e => e⟩
        | cons d dr =>
          rw [k1'] at q1
          cases q1
      | cons x l =>
        exact call_list_reprK (h₀ := s.heap) (g := []) ho rfl rfl hna (by simpa using k1.length_eq) (fun i y e => k1.item i y (by simpa using e)) hg (fun b _ => Clear.nil b) (by show X.A.units + 1 + (PyData.depthAll ds + 1) < cLine; omega) (fun _ _ e => e) (fun h' u tk hk => ⟨_, _, rfl, fin h' u tk hk⟩) sz
section
variable {X : Cx} {δ : List Slot} {a : Expr} {p pos : Pos} {ds : List PyData}
theorem xe_repr (hg : X.A.guards = some []) (hu : X.A.units + 50 < cLine) (hm : X.mg "repr" = none) (ha : XE X δ a (.list ds)) (hn : ∀ d ∈ ds, NiceD d) (hl : ds.length ≤ 1000) (hgl : Gl X "repr" := by rfl) (hs : starEach [a] X.env = (false, eval a X.env) :: starEach [] X.env := by rfl) (hpl : (backTo pos (starEach [] X.env)).any (·.1) = false := by rfl) :
    XE X δ (.Call (.Name "repr" p) [a] [] pos) (.str (PyData.shown (.list ds))) :=
  (pe_callB (call_reprL hg hu) hgl hm (by kernel_rfl) (pa_cons ha pa_nil hs) (by decide) (by decide) hs hpl).weak fun σ H Q ⟨B, F, W, q⟩ => ⟨B, F, W, fun v B2 H2 g r => ⟨B2, v, ds, rfl, g.bh, r, hn, hl, q _ B2 H2 g (.str _)⟩⟩
end
end Dl

set_option Elab.async false
set_option linter.all false
set_option maxRecDepth 100000
set_option maxHeartbeats 4000000
/-! Defs that are called where nothing is being told; the head of such a law. -/
namespace Dl
open PySem PySem.Spec PyProof.Rows L2 LamX
/-- a def's promise where no repr runs -/
structure FnG (P : Program) (w : World) (K : PySem.W.Frag) (mg : Str → Option Value) (base : Heap) (CX : CXT) (k : Nat) (f : Addr) (fd : FuncData) (ps : List Str) (sp : Sp) : Prop where
  len : ∀ vs H Q E, sp vs H Q E → vs.length = ps.length
  run : ∀ (A : Around) (outer : List Env) (s : Shared) (H : Hp) (args : Args) (us : List Value) (vs : List V) (Q : VK) (E : XK), Room k A → A.guards = some [] → Env0 P w K mg base A outer s H → BindsTo s fd args (ps.zip us) → Vals vs us → sp vs H Q E → codeAny (model P w) A (.call (.ref f) args) (CR CX outer P w H s Q E) s
theorem fn_ofG {CX : CXT} {P : Program} {w : World} {K : PySem.W.Frag} {mg : Str → Option Value} {base : Heap} {k : Nat} {f : Addr} {x qual : Str} {st : Stmt} {fd : FuncData} {N ps : List Str} {sp : Sp} (Fu : Fun K x qual st f fd) (S : FnScope N ps (defScope st)) (len : ∀ vs H Q E, sp vs H Q E → vs.length = ps.length)
    (hbody : ∀ (cdv : Value) (A : Around) (outer : List Env) (s : Shared) (H : Hp) (vs : List V) (Q : VK) (E : XK), Room k (A.deeper (envOfC qual (defScope st) s.heap.objs.size f cdv)) → A.guards = some [] → sp vs H Q E →
      ∃ t, PSs (cxOf CX P w K mg base N qual (defScope st) f cdv A outer s H E) (defBody st) t ∧ t { nx := fun _ H' => Q .non H', rt := Q } (L2.start N vs) H) : FnG P w K mg base CX (k + 1) f fd ps sp := by
  obtain ⟨oc, od, kV, doc, pm, an, cdv, ct, osl, rfl, lk, hcd⟩ := Fu.ex
  exact ⟨len, fun A outer s H args us vs Q E hr hg e0 hb r hsp => run_ofS lk hcd S hr e0 hb r (len _ _ _ _ hsp) fun hr' => hbody cdv A outer s H vs Q E hr' hg hsp⟩
structure DefG (P : Program) (w : World) (K : PySem.W.Frag) (mg : Str → Option Value) (base : Heap) (k : Nat) (x : Str) (ps : List Str) (sp : Sp) : Prop where
  ex : ∃ f fd, mg x = some (.ref f) ∧ PySem.W.keepIn K (.ref f) = true ∧ Binds K fd ps [] ∧ FnG P w K mg base CX0 k f fd ps sp
section
variable {P : Program} {w : World} {K : PySem.W.Frag} {mg : Str → Option Value} {base : Heap}
theorem def_pureG {x : Str} {st : Stmt} {N ps : List Str} {k : Nat} {f : List PyData → PyData → Prop} (A : At K mg x st ps) (S : FnScope N ps (defScope st)) (len : ∀ ds d, f ds d → ds.length = ps.length)
    (body : ∀ (X : Cx), (∃ (fa : Addr) (cdv : Value) (A : Around) (outer : List Env) (s : Shared) (H : Hp) (E : XK), A.guards = some [] ∧ Room k (A.deeper (envOfC x (defScope st) s.heap.objs.size fa cdv)) ∧ X = (cxOf CX0 P w K mg base N x (defScope st) fa cdv A outer s H E).nox) → ∀ ds d, f ds d → XB X (startD N (ds.map .dat)) (defBody st) { rt := fun d' _ => d' = d, nx := fun _ => d = .none }) :
    DefG P w K mg base (k + 1) x ps (SpP K f) := by
  obtain ⟨fa, fd, h1, h2, h3⟩ := A.ex
  refine ⟨fa, fd, h1, h2.kp, h3, fn_ofG h2 S (fun vs H Q E h => ?_) (fun cdv A outer s H vs Q E hr hg h => ?_)⟩
  · obtain ⟨B, ds, d, _, r, hf, _⟩ := h
    rw [r.length]
    exact len ds d hf
  · obtain ⟨B, ds, d, sm, r, hf, q⟩ := h
    refine ⟨_, PSs.nox (body _ ⟨fa, cdv, A, outer, s, H, E, hg, hr, rfl⟩ ds d hf), ?_⟩
    refine ts_iff.mpr ⟨B, _, envOk_dat sm r N, ?_, ?_, fun _ _ _ _ _ _ _ h => h.elim, fun _ _ _ _ _ _ _ h => h.elim, fun _ _ _ _ _ _ _ _ h => h.elim, trivial⟩
    · intro σ2 δ2 B2 H2 F2 s2 W2 e
      have e : d = .none := e
      subst e
      exact q .non B2 H2 ⟨s2.bb, W2.bh, fun b o hb => s2.keep b o hb (fun _ z => nomatch z), fun b o hb => s2.fr b o hb (fun _ z => nomatch z)⟩ .non
    · intro v d' σ2 δ2 B2 H2 F2 s2 W2 e r2
      have e : d' = d := e
      subst e
      exact q v B2 H2 ⟨s2.bb, W2.bh, fun b o hb => s2.keep b o hb (fun _ z => nomatch z), fun b o hb => s2.fr b o hb (fun _ z => nomatch z)⟩ r2
end
section
variable {X : Cx} {δ : List Slot} {e : Expr} {es : List Expr} {p pos : Pos} {ds : List PyData} {d : PyData}
theorem xe_callG {k : Nat} {x : Str} {ps : List Str} {f : List PyData → PyData → Prop} (G : DefG X.prog X.w X.K X.mg X.base k x ps (SpP X.K f)) (hr : Room k X.A) (hgu : X.A.guards = some []) (ha : XA X δ (e :: es) ds) (hf : f ds d) (hg : Gl X x := by rfl) (hdb : (x == ("__debug__" : Str)) = false := by decide)
    (he : starEach (e :: es) X.env = (false, eval e X.env) :: starEach es X.env := by rfl) (hpl : (backTo pos (starEach es X.env)).any (·.1) = false := by rfl) : XE X δ (.Call (.Name x p) (e :: es) [] pos) d := by
  obtain ⟨fa, fd, h1, h2, h3, h4⟩ := G.ex
  refine ⟨fun pins s σ H Q I ⟨B, F, W, q⟩ => ?_⟩
  refine wpAny_Call_Name_kw (ld_glob I hg h1 ?_ hdb)
  refine PySem.W.callWith_K (h₀ := X.base) I.ok.mod.kin h2 (thn (ha.run pos pins s σ H (fun vs H2 => ∃ B2, Grow B H B2 H2 ∧ RpA X.K B2 vs ds) I ⟨B, F, W, fun vs B2 H2 g r => ⟨B2, g, r⟩⟩) fun us s1 ⟨vs, H1, I1, r1, B1, g1, r⟩ => ⟨I1.kIn, ?_⟩) he hpl
  have hsp : SpP X.K f vs H1 Q (fun _ _ _ => False) := ⟨B1, ds, d, g1.bh, r, hf, fun v B2 H2 g2 r2 => q v B2 H2 (g1.trans g2) r2⟩
  have hl : (us ++ []).length = ps.length := by rw [List.append_nil, ← r1.length]; exact h4.len _ _ _ _ hsp
  have hb := h3 s1 us I1.kIn hl
  rw [List.append_nil] at hb
  refine wpAny_call (codeAny_mono (h4.run X.A X.stack s1 H1 ⟨us, []⟩ us vs Q _ hr hgu I1.env0 hb r1 hsp) fun r s' hq => ?_)
  cases r with
  | error e => exact pass0 pins σ H1 s1 e s' I1 hq
  | ok fl =>
    cases fl with
    | ret u => exact I1.after hq
    | next => exact False.elim hq
    | brk => exact False.elim hq
    | cont => exact False.elim hq
end
/-! ### the head -/
section
variable {P : Program} {w : World} {K : PySem.W.Frag} {mg mb : Str → Option Value} {k : Nat} {fa a : Addr} {cs : List (Addr × Addr)} {fd : FuncData} {x : Str} {sp : Sp} {s1 : Shared} {vs : List Value} {ns : List Int}
abbrev emptyTab : Obj := { cls := .none, data := .fields #[] }
/-- what is tracked at the law's entry: the tables, and the script where it is no thing of the module -/
def headH (K : PySem.W.Frag) (cs : List (Addr × Addr)) (a : Addr) (vs : List Value) (ns : List Int) : Hp := fun b =>
  if b ∈ cs.map (·.2) then some (.tbl #[]) else if b = a ∧ K.lookup a = none then some (.frz { cls := .type "list", data := .seq vs.toArray } (.lst (ns.map V.int))) else none
theorem head_law (kin : K.In s1.heap) (nsG : s1.heap.Ns mainGlobals mg) (nsB : s1.heap.Ns builtinsNs mb) (bb : ∀ x : Str, x ≠ "__name__" → mb x = bootBuiltins x) (lim : s1.heap.NoLimit) (gens : s1.gens = #[])
    (tabs : ∀ p ∈ cs, s1.heap.get? p.2 = some emptyTab) (noK : ∀ p ∈ cs, K.lookup p.2 = none) (hd : ∀ p ∈ cs, PySem.W.CodeHd s1.heap p.1 p.2)
    (bmain : ∃ (bm : Addr) (ob : Obj), mg "__builtins__" = some (.ref bm) ∧ bm ≠ builtinsNs ∧ s1.heap.get? bm = some ob ∧ ob.cls = .type "module" ∧ ob.dict = some builtinsNs ∧ ob.data = .plain)
    (obj : s1.heap.get? a = some { cls := .type "list", data := .seq vs.toArray }) (hints : IntsAre vs ns) (hl : ns.length ≤ sizeLine) (room : Room k callerA)
    (F : ∀ base : Heap, K.In base → base.Ns mainGlobals mg → (∀ p ∈ cs, TabB base mg p.1 p.2) → FnG P w K mg base CX0 k fa fd [x] sp) (bind : ∀ (s : Shared) (u : Value), BindsTo s fd ⟨[u], []⟩ [(x, u)])
    (want : ∀ H : Hp, (∀ p ∈ cs, H p.2 = some (.tbl #[])) → SqL K H a (ns.map V.int) → sp [.ref a] H (fun v _ => v = .bl true) fun _ _ _ => False) :
    codeAny (model P w) callerA (.call (.ref fa) ⟨[.ref a], []⟩) (fun r s' => r = .ok (.ret (.bool true)) ∧ OldK s1.heap s'.heap ∧ s'.os = s1.os ∧ AllBare s'.gens) s1 := by
  have rv := vals_ints hints
  have tabOf : ∀ {b : Addr}, b ∈ cs.map (·.2) → s1.heap.get? b = some emptyTab ∧ K.lookup b = none := fun {b} hb => by
    obtain ⟨p, hp, rfl⟩ := List.mem_map.mp hb
    exact ⟨tabs p hp, noK p hp⟩
  have nota : a ∉ cs.map (·.2) := fun z => by
    have q := (tabOf z).1
    rw [obj] at q
    have z' : Data.seq vs.toArray _ = Data.fields #[] := congrArg Obj.data (Option.some.inj q)
    cases z'
  have split : ∀ {b : Addr} {o : HO}, headH K cs a vs ns b = some o → (b ∈ cs.map (·.2) ∧ o = .tbl #[]) ∨ (b = a ∧ K.lookup a = none ∧ o = .frz { cls := .type "list", data := .seq vs.toArray } (.lst (ns.map V.int))) := fun {b o} e => by
    unfold headH at e
    split at e
    · exact .inl ⟨by assumption, (Option.some.inj e).symm⟩
    · split at e
      · rename_i h
        exact .inr ⟨h.1, h.2, (Option.some.inj e).symm⟩
      · cases e
  have tT : ∀ p ∈ cs, headH K cs a vs ns p.2 = some (.tbl #[]) := fun p hp => if_pos (List.mem_map.mpr ⟨p, hp, rfl⟩)
  generalize hH : headH K cs a vs ns = H at split tT
  have clear : ∀ {b : Addr} {o : Obj}, s1.heap.get? b = some o → (∀ us n, o.data ≠ .seq us n) → o.data ≠ .fields #[] → H b = none := fun {b o} e n1 n2 => by
    cases q : H b with
    | none => rfl
    | some u =>
      rcases split q with ⟨hb, _⟩ | ⟨rfl, _⟩
      · rw [(tabOf hb).1] at e
        cases e
        exact (n2 rfl).elim
      · rw [obj] at e
        cases e
        exact (n1 _ _ rfl).elim
  have stay : ∀ {b : Addr} {o : Obj}, s1.heap.get? b = some o → H b = none → (hidT s1.heap H).get? b = some o := fun e n => hidT_get e n
  have nsOf : ∀ {b : Addr} {m : Str → Option Value}, s1.heap.Ns b m → (hidT s1.heap H).Ns b m := fun {b m} ⟨o, es, ep, e, d, r⟩ => ⟨o, es, ep, stay e (clear e (fun us n z => by rw [d] at z; cases z) fun z => by rw [d] at z; cases z), d, r⟩
  have kinB : K.In (hidT s1.heap H) := fun b o e => stay (kin b o e) (by
    cases q : H b with
    | none => rfl
    | some u =>
      rcases split q with ⟨hb, _⟩ | ⟨rfl, hk, _⟩
      · rw [(tabOf hb).2] at e
        cases e
      · rw [hk] at e
        cases e)
  have md : L2.Mod K mg (hidT s1.heap H) := ⟨kinB, nsOf nsG, ⟨mb, nsOf nsB, bb⟩, let ⟨mc, h1, h2⟩ := lim; ⟨mc, nsOf h1, h2⟩⟩
  have tb : ∀ p ∈ cs, TabB (hidT s1.heap H) mg p.1 p.2 := fun p hp => by
    obtain ⟨og, eg, pg, g1, g2, _⟩ := id nsG
    have gP : mainGlobals ≠ p.2 := fun z => by
      rw [z, tabs p hp] at g1
      cases g1
      cases g2
    refine ⟨?_, ?_, gP⟩
    · obtain ⟨o, us, file, tf, flags, tg, inF, text, tt, c1, c0, c2, c3, cr⟩ := hd p hp
      exact ⟨o, us, file, tf, flags, tg, inF, text, tt, stay c1 (clear c1 (fun us n z => by rw [c2] at z; cases z) fun z => by
        rw [c2] at z
        cases z
        simp at c3), c0, c2, c3, cr⟩
    · obtain ⟨bm, ob, b1, b2, b3, b4, b5, b6⟩ := bmain
      refine ⟨bm, ob, b1, b2, fun z => ?_, fun z => ?_, stay b3 (clear b3 (fun us n z => by rw [b6] at z; cases z) fun z => by rw [b6] at z; cases z), b4, b5, b6⟩
      · rw [z, g1] at b3
        cases b3
        rw [g2] at b6
        cases b6
      · rw [z, tabs p hp] at b3
        cases b3
        cases b6
  have hok : HOk P w H s1.heap := fun b u e => by
    rcases split e with ⟨hb, rfl⟩ | ⟨rfl, _, rfl⟩
    · exact (tabOf hb).1
    · exact ⟨obj, by rw [List.length_map]; exact hl, vs, _, rv, obj⟩
  have sq : SqL K H a (ns.map V.int) := by
    cases hk : K.lookup a with
    | some o =>
      have e := kin a o hk
      rw [obj] at e
      cases e
      exact .inr ⟨_, vs.toArray, _, hk, rfl, rfl, rfl, by rw [List.size_toArray, hints.length]; exact hl, by simpa using rv⟩
    | none =>
      refine .inl (.inr ⟨{ cls := .type "list", data := .seq vs.toArray }, ?_⟩)
      rw [← hH]
      exact (if_neg nota).trans (if_pos ⟨rfl, hk⟩)
  have e0 : Env0 P w K mg (hidT s1.heap H) callerA [] s1 H := ⟨rfl, md, fun b o e => of_hidT e, Nat.le_of_eq (hidT_size _ _), trivial, (fun b hb => nomatch (show b ∈ ([] : List Addr) from hb)), hok, .of_eq gens⟩
  refine codeAny_mono ((F _ kinB (nsOf nsG) tb).run callerA [] s1 H ⟨[.ref a], []⟩ [.ref a] [.ref a] _ _ room rfl e0 (bind s1 (.ref a)) (.cons rfl .nil) (want H tT sq)) fun r s' h => ?_
  cases r with
  | error e => exact (show False from h).elim
  | ok fl =>
    cases fl with
    | next => exact False.elim h
    | brk => exact False.elim h
    | cont => exact False.elim h
    | ret u =>
      obtain ⟨v, H2, os, bare, un, hok2, ru, q⟩ := h
      have q : v = .bl true := q
      subst q
      obtain rfl : u = Value.bool true := ru
      have old : ∀ b o, b ∉ cs.map (·.2) → s1.heap.get? b = some o → s'.heap.get? b = some o := fun b o nb e => by
        cases q : H b with
        | none => exact un.keep b o e q (fun z => nomatch (show b ∈ ([] : List Addr) from z)) (by simp)
        | some u =>
          rcases split q with ⟨hb, _⟩ | ⟨rfl, _, rfl⟩
          · exact absurd hb nb
          · obtain ⟨e2, _⟩ := hok2 _ _ (un.frzs _ _ _ q)
            rw [obj] at e
            cases e
            exact e2
      have more : ∀ p ∈ cs, ∃ m : Array Value, s'.heap.get? p.2 = some { cls := .none, data := .fields m } := fun p hp => by
        obtain ⟨m, z⟩ := un.tbls p.2 #[] (tT p hp)
        exact ⟨_, hok2 p.2 _ z⟩
      refine ⟨rfl, ⟨fun b o e => ?_, fun b o e => ?_⟩, os, bare⟩
      · by_cases hb : b ∈ cs.map (·.2)
        · obtain ⟨p, hp, rfl⟩ := List.mem_map.mp hb
          obtain ⟨m, hm⟩ := more p hp
          rw [tabs p hp] at e
          cases e
          exact .inr (.inl ⟨((hd p hp).tab (tabs p hp)).isCodeTable, rfl, #[], m, rfl, by rw [Array.empty_append]; exact hm⟩)
        · exact .inl (old b o hb e)
      · by_cases hb : b ∈ cs.map (·.2)
        · obtain ⟨p, hp, rfl⟩ := List.mem_map.mp hb
          obtain ⟨m, hm⟩ := more p hp
          exact ⟨_, hm⟩
        · exact ⟨o, old b o hb e⟩
end
end Dl

set_option Elab.async false
set_option linter.all false
set_option maxRecDepth 100000
set_option maxHeartbeats 4000000
/-! The data level: lists that are filled by what has effects; defs that make lambdas. -/
namespace Dl
open PySem PySem.Spec PyProof.Rows L2 LamX
section
variable {X : Cx} {δ : List Slot} {a b e : Expr} {pos p p0 p1 p2 : Pos} {ds es2 ys : List PyData} {d : PyData} {rest : List Stmt} {R : Post} {x : Str} {P P1 : PyData → List Slot → Prop}
/-- xs.append(e) -/
theorem xb_appF (i : Nat) (h : δ[i]? = some (.own (accR X.K ds))) (he : XF X δ e (fun d' δ' => d' = d ∧ δ' = δ)) (hz : ds.length < 1000000) (k : XB X (δ.set i (.own (accR X.K (ds ++ [d])))) rest R) (hi : X.N[i]? = some x := by rfl)
    (hv : Vis X.env.scope x := by first | exact Or.inl rfl | exact Or.inr (Or.inl rfl) | exact Or.inr (Or.inr rfl)) (hd : (x == ("__debug__" : Str)) = false := by decide) (hcd : (x == ("__classdict__" : Str)) = false := by decide)
    (hbase : attributeBase (.Name x p1) "append" X.env (eval (.Name x p1) X.env) = eval (.Name x p1) X.env := by rfl)
    (hfew : ((backTo p (starEach [e] X.env)).all (fun x => !x.1) && (backToKw p (keywordEach [] X.env)).all (fun x => x.1.isSome) && decide ([e].length + ([] : List Keyword).length + (if ([] : List Keyword).isEmpty then 0 else 1) < 30)) = true := by rfl)
    (hline : (p2.endLine == p.line) = true := by rfl) (hs : starEach [e] X.env = (false, eval e X.env) :: starEach [] X.env := by rfl) (hplain : (backTo p (starEach [] X.env)).any (·.1) = false := by rfl)
    (hsw : swapsWith (.Call (.Attribute (.Name x p1) "append" p2) [e] [] p) none pos.line X.env = pure false := by rfl) :
    XB X δ (.Expr (.Call (.Attribute (.Name x p1) "append" p2) [e] [] p) pos :: rest) R :=
  xb_cons (ps_expr (pe_bm PySem.F.plainAttrs_list PySem.F.slot_list_append PySem.F.type_list_append mt_append (pe_var (i := i) hi hv hd hcd) (pa_cons he pa_nil hs) hbase hfew hline hs hplain) hsw) k fun D σ H B F W o => by
    obtain ⟨l, xs, h1, h2, h3, h4, h5⟩ := W.acc h
    refine ⟨.ref l, h1, .inl ⟨rfl, xs, SqL.of h3⟩, B, F, W, fun v d' δ2 B2 H2 F2 s2 W2 ⟨e1, e2⟩ r => ?_⟩
    subst e1 e2
    obtain ⟨l2, ys, k1, k2, k3, k4, k5⟩ := W2.acc h
    rw [h1] at k1
    cases k1
    refine ⟨l, ys, v, rfl, rfl, k3, Nat.lt_of_lt_of_le (by rw [k4.length]; exact hz) (sz_of (Nat.le_refl _)), ?_⟩
    obtain ⟨W3, s3⟩ := W2.accUpd h h1 k2 (k4.append (.cons r .nil))
    exact ts_iff.mpr ⟨B2, F2, W3, o.step (s2.trans s3)⟩
/-- xs.extend(e) -/
theorem xb_extF (i : Nat) (h : δ[i]? = some (.own (accR X.K ds))) (he : XF X δ e (fun d' δ' => d' = .list ys ∧ δ' = δ)) (hz : ds.length + ys.length ≤ 1000000) (k : XB X (δ.set i (.own (accR X.K (ds ++ ys)))) rest R) (hi : X.N[i]? = some x := by rfl)
    (hv : Vis X.env.scope x := by first | exact Or.inl rfl | exact Or.inr (Or.inl rfl) | exact Or.inr (Or.inr rfl)) (hd : (x == ("__debug__" : Str)) = false := by decide) (hcd : (x == ("__classdict__" : Str)) = false := by decide)
    (hbase : attributeBase (.Name x p1) "extend" X.env (eval (.Name x p1) X.env) = eval (.Name x p1) X.env := by rfl)
    (hfew : ((backTo p (starEach [e] X.env)).all (fun x => !x.1) && (backToKw p (keywordEach [] X.env)).all (fun x => x.1.isSome) && decide ([e].length + ([] : List Keyword).length + (if ([] : List Keyword).isEmpty then 0 else 1) < 30)) = true := by rfl)
    (hline : (p2.endLine == p.line) = true := by rfl) (hs : starEach [e] X.env = (false, eval e X.env) :: starEach [] X.env := by rfl) (hplain : (backTo p (starEach [] X.env)).any (·.1) = false := by rfl)
    (hsw : swapsWith (.Call (.Attribute (.Name x p1) "extend" p2) [e] [] p) none pos.line X.env = pure false := by rfl) :
    XB X δ (.Expr (.Call (.Attribute (.Name x p1) "extend" p2) [e] [] p) pos :: rest) R :=
  xb_cons (ps_expr (pe_bm PySem.F.plainAttrs_list PySem.F.slot_list_extend PySem.F.type_list_extend mt_extend (pe_var (i := i) hi hv hd hcd) (pa_cons he pa_nil hs) hbase hfew hline hs hplain) hsw) k fun D σ H B F W o => by
    obtain ⟨l, xs, h1, h2, h3, h4, h5⟩ := W.acc h
    refine ⟨.ref l, h1, .inl ⟨rfl, xs, SqL.of h3⟩, B, F, W, fun v d' δ2 B2 H2 F2 s2 W2 ⟨e1, e2⟩ r => ?_⟩
    subst e1 e2
    cases r with
    | @lst b zs _ hb rz =>
      obtain ⟨l2, us, k1, k2, k3, k4, k5⟩ := W2.acc h
      rw [h1] at k1
      cases k1
      refine ⟨l, b, us, zs, rfl, rfl, k3, W2.bh _ _ hb, sz_of (by rw [k4.length, rz.length]; exact hz), ?_⟩
      obtain ⟨W3, s3⟩ := W2.accUpd h h1 k2 (k4.append rz)
      exact ts_iff.mpr ⟨B2, F2, W3, o.step (s2.trans s3)⟩
/-- xs.pop(e) -/
theorem xf_popA (i : Nat) {P' : PyData → List Slot → Prop} (h : δ[i]? = some (.own (accR X.K ds))) (he : XF X δ e P) (hp : ∀ d δ', P d δ' → ∃ n : Nat, d = .int n ∧ n < 1000000 ∧ δ'[i]? = some (.own (accR X.K ds)) ∧ ∃ y, ds[n]? = some y ∧ P' y (δ'.set i (.own (accR X.K (ds.eraseIdx n))))) (hi : X.N[i]? = some x := by rfl)
    (hv : Vis X.env.scope x := by first | exact Or.inl rfl | exact Or.inr (Or.inl rfl) | exact Or.inr (Or.inr rfl)) (hd : (x == ("__debug__" : Str)) = false := by decide) (hcd : (x == ("__classdict__" : Str)) = false := by decide)
    (hbase : attributeBase (.Name x p1) "pop" X.env (eval (.Name x p1) X.env) = eval (.Name x p1) X.env := by rfl)
    (hfew : ((backTo p (starEach [e] X.env)).all (fun x => !x.1) && (backToKw p (keywordEach [] X.env)).all (fun x => x.1.isSome) && decide ([e].length + ([] : List Keyword).length + (if ([] : List Keyword).isEmpty then 0 else 1) < 30)) = true := by rfl)
    (hline : (p2.endLine == p.line) = true := by rfl) (hs : starEach [e] X.env = (false, eval e X.env) :: starEach [] X.env := by rfl) (hplain : (backTo p (starEach [] X.env)).any (·.1) = false := by rfl) :
    XF X δ (.Call (.Attribute (.Name x p1) "pop" p2) [e] [] p) P' :=
  (pe_bm PySem.F.plainAttrs_list PySem.F.slot_list_pop PySem.F.type_list_pop mt_popAt (pe_var (i := i) hi hv hd hcd) (pa_cons he pa_nil hs) hbase hfew hline hs hplain).weak fun σ H Q ⟨B, F, W, q⟩ => by
    obtain ⟨l, xs, h1, h2, h3, h4, h5⟩ := W.acc h
    refine ⟨.ref l, h1, .inl ⟨rfl, xs, SqL.of h3⟩, B, F, W, fun v d' δ2 B2 H2 F2 s2 W2 hd' r => ?_⟩
    obtain ⟨n, rfl, hn, h', y, hy, hP⟩ := hp _ _ hd'
    cases r
    obtain ⟨l2, us, k1, k2, k3, k4, k5⟩ := W2.acc h'
    rw [h1] at k1
    cases k1
    obtain ⟨v, v1, v2⟩ := k4.getD hy
    have hlt : n < us.length := (List.getElem?_eq_some_iff.mp v1).1
    refine ⟨l, us, (n : Int), n, v, rfl, rfl, k3, by omega, by omega, ?_, v1, ?_⟩
    · have := PySem.StrLaws.seqIndex_nonneg (i := (n : Int)) (n := us.length) (by omega) (by omega)
      rw [this]
      simp
    · obtain ⟨W3, s3⟩ := W2.accUpd h' h1 k2 (k4.eraseIdx n)
      exact q v y _ B2 _ F2 (s2.trans s3) W3 hP v2
/-- a new list, behind effects -/
def tNE (K : PySem.W.Frag) (δ : List Slot) (ds : List PyData) : TE := fun σ H Q => ∃ B F, Wf K B H σ δ F ∧ ∀ p xs B2 H2 F2, Step B H F B2 H2 F2 → Wf K B2 H2 σ δ F2 → (∀ k, p ∉ F2 k) → H p = none → B2 p = none → H2 p = some (.lst xs) → RpA K B2 xs ds → Q (.ref p) H2
theorem xnf_cat (ha : XF X δ a (fun d' δ' => d' = .list ds ∧ δ' = δ)) (hb : XF X δ b (fun d' δ' => d' = .list ys ∧ δ' = δ)) (hz : ds.length + ys.length ≤ 1000000) : PE X (.BinOp a .Add b pos) (tNE X.K δ (ds ++ ys)) := (pe_op op_cat ha hb).weak fun σ H Q ⟨B, F, W, q⟩ =>
  ⟨B, F, W, fun v d1 δ1 B1 H1 F1 s1 W1 ⟨e1, e2⟩ r1 => by
    subst e1 e2
    refine ⟨B1, F1, W1, fun u d2 δ2 B2 H2 F2 s2 W2 ⟨e1, e2⟩ r2 => ?_⟩
    subst e1 e2
    have r1 := r1.mono s2.bb
    cases r1 with
    | @lst b1 xs _ k1 q1 =>
      cases r2 with
      | @lst b2 zs _ k2 q2 =>
        refine ⟨_, _, _, _, rfl, rfl, W2.bh _ _ k1, W2.bh _ _ k2, sz_of (by rw [q1.length, q2.length]; exact hz), fun p hp => ?_⟩
        have g := Grow.newH (o := .lst (xs ++ zs)) W2.bh hp
        have nF : ∀ k, p ∉ F2 k := fun k hk => by
          obtain ⟨_, o, ho⟩ := W2.own k p hk
          rw [hp] at ho
          cases ho
        refine q p _ B2 _ F2 ((s1.trans s2).trans (Step.of g)) (W2.grow g) nF ?_ (W2.bh.free hp) upd_same (q1.append q2)
        cases h0 : H p with
        | none => rfl
        | some o =>
          obtain ⟨o', e'⟩ := Step.there (s1.trans s2) p o h0
          rw [hp] at e'
          cases e'⟩
theorem xb_asgNE (i : Nat) (he : PE X e (tNE X.K δ ds)) (hl : i < δ.length) (k : XB X (δ.set i (.own (accR X.K ds))) rest R) (hN : X.N.Nodup) (hi : X.N[i]? = some x := by rfl) (hx : Loc X.env.scope x := by first | exact Or.inl rfl | exact Or.inr rfl) (hs : swapsWith e (some (.Name x p0)) pos.line X.env = pure false := by rfl)
    (hf : X.fn x = true ∨ X.env.scope.names.lookup x = some .local := by first | exact .inl rfl | exact .inr rfl) : XB X δ (.Assign [.Name x p0] e pos :: rest) R := xb_cons (ps_set hN hi hx he hs hf) k fun D σ H B F W o =>
  ⟨B, F, W, fun p xs B2 H2 F2 s2 W2 nF h0 hb h2 r => by
    refine ts_iff.mpr ⟨B2, _, W2.putO (r := accR X.K ds) (fp := [p]) hl ⟨p, xs, rfl, rfl, h2, r⟩ (fun a ha => ?_), o.step ⟨s2.bb, s2.keep, s2.fr, s2.there, fun k b hk => ?_⟩⟩
    · rw [List.mem_singleton.mp ha]
      exact ⟨⟨hb, _, h2⟩, fun k _ => nF k⟩
    · by_cases e : k = i
      · rw [if_pos e] at hk
        rw [List.mem_singleton.mp hk]
        exact .inr h0
      · rw [if_neg e] at hk
        exact s2.fn k b hk⟩
end
end Dl

set_option Elab.async false
set_option linter.all false
set_option maxRecDepth 100000
set_option maxHeartbeats 4000000
/-! The data level: defs that make lambdas, called by a law that holds their tables. -/
namespace Dl
open PySem PySem.Spec PyProof.Rows L2 LamX
def fpT (P : Addr) : Nat → List Addr := fun i => if i = 0 then [P] else []
theorem fpT_mem {P b : Addr} {i : Nat} (h : b ∈ fpT P i) : i = 0 ∧ b = P := by
  unfold fpT at h
  split at h
  · exact ⟨by assumption, List.mem_singleton.mp h⟩
  · cases h
/-- the promise of a def with a table -/
def SpT (K : PySem.W.Frag) (P : Addr) (q : Str) (f : List PyData → PyData → Prop) : Sp := fun vs H Q _ => ∃ B ds d ps, Same B H ∧ B P = none ∧ H P = some (.tbl ps) ∧ Codes B q ps ∧ RpA K B vs ds ∧ f ds d ∧
  ∀ v B2 H2 ps2, Step B H (fpT P) B2 H2 (fpT P) → Same B2 H2 → B2 P = none → H2 P = some (.tbl ps2) → Codes B2 q ps2 → Rp K B2 v d → Q v H2
/-- a def by its code object -/
structure AtC (K : PySem.W.Frag) (mg : Str → Option Value) (x : Str) (st : Stmt) (ps : List Str) (c : Addr) : Prop where
  ex : ∃ (f : Addr) (oc : Value) (od an : Option Addr) (osl : Array (Option Value)) (kV doc pm ct : Value), mg x = some (.ref f) ∧ K.lookup f = some ⟨oc, od, .func (PySem.W.fnOf x x (defArgs st) (defBody st) (defScope st) .none kV doc pm an (.ref c) ct), osl⟩ ∧
    PySem.W.codeIn K (.ref c) x = true ∧ PySem.W.keepIn K (.ref f) = true ∧ Binds K (PySem.W.fnOf x x (defArgs st) (defBody st) (defScope st) .none kV doc pm an (.ref c) ct) ps []
section
variable {P : Program} {w : World} {K : PySem.W.Frag} {mg : Str → Option Value} {base : Heap}
theorem wf_tab {B H : Hp} {u : V} {us : List V} {d0 : PyData} {ds : List PyData} {T : Addr} {q : Str} {ps : Array Value} (s : Same B H) (hb : B T = none) (hT : H T = some (.tbl ps)) (hc : Codes B q ps) (r0 : Rp K B u d0) (r : RpA K B us ds) (N : List Str) :
    Wf K B H (L2.start N (u :: us)) (startD N (.own (tbR K d0 T q) :: ds.map .dat)) (fpT T) where
  bh := s
  len := by
    unfold L2.start startD
    simp only [List.length_append, List.length_map, List.length_replicate, List.length_cons, r.length]
  sl := fun i t e => by
    cases i with
    | zero =>
      have e : some (Slot.own (tbR K d0 T q)) = some t := e
      cases e
      exact ⟨some u, rfl, r0, rfl, ps, hT, hc⟩
    | succ i =>
      have W := envOk_dat (K := K) s r (N.drop 1)
      have e1 : (startD N (.own (tbR K d0 T q) :: ds.map .dat))[i + 1]? = (startD (N.drop 1) (ds.map .dat))[i]? := by
        unfold startD
        rw [List.cons_append, List.getElem?_cons_succ, List.length_drop, List.length_cons]
        congr 3
        omega
      rw [e1] at e
      obtain ⟨o, a1, a2⟩ := W.sl i t e
      refine ⟨o, ?_, a2⟩
      rw [← a1]
      unfold L2.start
      rw [List.map_cons, List.cons_append, List.getElem?_cons_succ, List.length_drop, List.length_cons]
      congr 3
      omega
  out := fun i hi => if_neg (by
    intro z
    subst z
    unfold startD at hi
    simp at hi)
  dis := fun i j a h1 h2 => by rw [(fpT_mem h1).1, (fpT_mem h2).1]
  own := fun i a ha => by
    rw [(fpT_mem ha).2]
    exact ⟨hb, _, hT⟩
theorem def_tab {x : Str} {st : Stmt} {N ps : List Str} {k : Nat} {f : List PyData → PyData → Prop} {c T : Addr} {q : Str} (A : AtC K mg x st ps c) (S : FnScope N ps (defScope st)) (len : ∀ ds d, f ds d → ds.length = ps.length ∧ ∃ d0 dr, ds = d0 :: dr)
    (body : ∀ (X : Cx), (∃ (fa : Addr) (A : Around) (outer : List Env) (s : Shared) (H : Hp) (E : XK), Room k (A.deeper (envOfC x (defScope st) s.heap.objs.size fa (.ref c))) ∧ X = (cxOf CX0 P w K mg base N x (defScope st) fa (.ref c) A outer s H E).nox) →
      ∀ d0 dr d, f (d0 :: dr) d → XB X (startD N (.own (tbR K d0 T q) :: dr.map .dat)) (defBody st) { rt := fun d' δ2 => d' = d ∧ δ2[0]? = some (.own (tbR K d0 T q)) }) :
    Def P w K mg base (k + 1) x ps (SpT K T q f) := by
  obtain ⟨fa, oc, od, an, osl, kV, doc, pm, ct, h1, lk, hcd, hk, hb⟩ := A.ex
  refine ⟨fa, _, h1, hk, hb, fn_of lk hcd S (fun vs H Q E h => ?_) fun A outer s H vs Q E hr h => ?_⟩
  · obtain ⟨B, ds, d, ps', _, _, _, _, r, hf, _⟩ := h
    rw [r.length]
    exact (len ds d hf).1
  · obtain ⟨B, ds, d, ps', sm, hB, hT, hc, r, hf, q'⟩ := h
    obtain ⟨d0, dr, rfl⟩ := (len ds d hf).2
    cases r with
    | cons r0 r =>
      refine ⟨_, PSs.nox (body _ ⟨fa, A, outer, s, H, E, hr, rfl⟩ d0 dr d hf), ?_⟩
      refine ts_iff.mpr ⟨B, _, wf_tab sm hB hT hc r0 r N, fun _ _ _ _ _ _ _ h => h.elim, ?_, fun _ _ _ _ _ _ _ h => h.elim, fun _ _ _ _ _ _ _ h => h.elim, fun _ _ _ _ _ _ _ _ h => h.elim, trivial⟩
      intro v d' σ2 δ2 B2 H2 F2 s2 W2 ⟨e1, e2⟩ r2
      subst e1
      obtain ⟨o, a1, a2⟩ := W2.sl 0 _ e2
      cases o with
      | none => exact a2.elim
      | some v0 =>
        obtain ⟨_, hF, ps2, k1, k2⟩ := a2
        exact q' v B2 H2 ps2 ⟨s2.bb, s2.keep, s2.fr, s2.there, fun i b hb => .inl ⟨i, hb⟩⟩ W2.bh (W2.own 0 T (by rw [hF]; exact List.mem_cons_self)).1 k1 k2 r2
end
/-- the script, and the tables of the defs that make lambdas -/
def scrM (K : PySem.W.Frag) (ns : List Int) (Ps : List (Addr × Str)) : Res where
  ok := fun B H v fp => (∃ a, v = .ref a ∧ SqL K B a (ns.map V.int)) ∧ fp = Ps.map (·.1) ∧ ∀ p ∈ Ps, ∃ ps, H p.1 = some (.tbl ps) ∧ Codes B p.2 ps
  loc := fun {B B' H H' v fp} ⟨⟨a, h1, h2⟩, h3, h4⟩ hb hh => ⟨⟨a, h1, hb.seq h2⟩, h3, fun p hp => by
    obtain ⟨ps, k1, k2⟩ := h4 p hp
    exact ⟨ps, by rw [hh p.1 (by rw [h3]; exact List.mem_map.mpr ⟨p, hp, rfl⟩)]; exact k1, k2.mono hb⟩⟩
section
variable {X : Cx} {δ : List Slot} {e : Expr} {es : List Expr} {p pos : Pos} {ds : List PyData} {d : PyData} {T : Addr} {q : Str} {ns : List Int} {Ps : List (Addr × Str)}
theorem nodup_fst {l : List (Addr × Str)} (h : (l.map (·.1)).Nodup) : ∀ {p r : Addr × Str}, p ∈ l → r ∈ l → p.1 = r.1 → p = r := by
  induction l with
  | nil => intro p r hp; cases hp
  | cons a l ih =>
    intro p r hp hr e
    rw [List.map_cons, List.nodup_cons] at h
    rcases List.mem_cons.mp hp with e1 | hp2
    · rcases List.mem_cons.mp hr with e2 | hr2
      · rw [e1, e2]
      · rw [e1] at e
        exact absurd (e ▸ List.mem_map.mpr ⟨r, hr2, rfl⟩ : a.1 ∈ l.map (·.1)) h.1
    · rcases List.mem_cons.mp hr with e2 | hr2
      · rw [e2] at e
        exact absurd (e ▸ List.mem_map.mpr ⟨p, hp2, rfl⟩ : a.1 ∈ l.map (·.1)) h.1
      · exact ih h.2 hp2 hr2 e
theorem Wf.tabbed {K : PySem.W.Frag} {B H B3 H3 : Hp} {σ : L2.St} {F : Nat → List Addr} {ps3 : Array Value} (W : Wf K B H σ δ F) (h0 : δ[0]? = some (.own (scrM K ns Ps))) (hp : (T, q) ∈ Ps) (hn : (Ps.map (·.1)).Nodup) (s : Step B H (fpT T) B3 H3 (fpT T)) (sb : Same B3 H3) (hb : B3 T = none) (hT : H3 T = some (.tbl ps3)) (hc : Codes B3 q ps3) :
    Wf K B3 H3 σ δ F ∧ Step B H F B3 H3 F := by
  obtain ⟨o, a1, a2⟩ := W.sl 0 _ h0
  cases o with
  | none => exact a2.elim
  | some v =>
    obtain ⟨⟨a, e1, e2⟩, hF, hA⟩ := a2
    have hTF : T ∈ F 0 := by rw [hF]; exact List.mem_map.mpr ⟨_, hp, rfl⟩
    have nT : ∀ {b : Addr}, b ≠ T → ∀ i, b ∉ fpT T i := fun hb i hi => hb (fpT_mem hi).2
    have nF : ∀ b, (∀ j, b ∉ F j) → b ≠ T := fun b h e => h 0 (e ▸ hTF)
    refine ⟨⟨sb, W.len, fun i t e => ?_, W.out, W.dis, fun i b hb' => ?_⟩, ⟨s.bb, fun b o e h => s.keep b o e (nT (nF b h)), fun b o e h => s.fr b o e (nT (nF b h)), s.there, fun i b hb => .inl ⟨i, hb⟩⟩⟩
    · by_cases hi : i = 0
      · subst hi
        rw [h0] at e
        cases e
        refine ⟨some v, a1, ⟨a, e1, s.bb.seq e2⟩, hF, fun r hr => ?_⟩
        by_cases hrT : r.1 = T
        · have := nodup_fst hn hr hp hrT
          subst this
          exact ⟨ps3, hT, hc⟩
        · obtain ⟨ps, k1, k2⟩ := hA r hr
          exact ⟨ps, s.keep _ _ k1 (nT hrT), k2.mono s.bb⟩
      · obtain ⟨o, b1, b2⟩ := W.sl i t e
        refine ⟨o, b1, b2.loc s.bb fun b hb => ?_⟩
        obtain ⟨_, u, hu⟩ := W.own i b hb
        rw [hu]
        exact s.keep b u hu (nT fun z => hi (W.dis i 0 b hb (z ▸ hTF)))
    · obtain ⟨k1, u, hu⟩ := W.own i b hb'
      by_cases z : b = T
      · rw [z]
        exact ⟨hb, _, hT⟩
      · exact ⟨(s.fr b u hu (nT z)).trans k1, u, s.keep b u hu (nT z)⟩
theorem xf_callT {k : Nat} {x : Str} {ps : List Str} {f : List PyData → PyData → Prop} (G : Def X.prog X.w X.K X.mg X.base k x ps (SpT X.K T q f)) (hr : Room k X.A) (h0 : δ[0]? = some (.own (scrM X.K ns Ps))) (hp : (T, q) ∈ Ps) (hn : (Ps.map (·.1)).Nodup) (ha : XA X δ (e :: es) ds) (hf : f ds d)
    (hg : Gl X x := by rfl) (hdb : (x == ("__debug__" : Str)) = false := by decide) (he : starEach (e :: es) X.env = (false, eval e X.env) :: starEach es X.env := by rfl) (hpl : (backTo pos (starEach es X.env)).any (·.1) = false := by rfl) :
    XF X δ (.Call (.Name x p) (e :: es) [] pos) (fun d' δ' => d' = d ∧ δ' = δ) := by
  obtain ⟨fa, fd, h1, h2, h3, h4⟩ := G.ex
  refine (pe_call h4 hr hg h1 h2 h3 .nil pass0 ha hdb he hpl).weak fun σ H Q ⟨B, F, W, q'⟩ => ⟨B, F, W, fun vs B2 H2 g2 r => ?_⟩
  have W2 := W.grow g2
  obtain ⟨o, a1, a2⟩ := W2.sl 0 _ h0
  cases o with
  | none => exact a2.elim
  | some v =>
    obtain ⟨_, hF, hA⟩ := a2
    obtain ⟨ps2, k1, k2⟩ := hA _ hp
    show SpT X.K T q f (vs ++ []) H2 Q E0
    rw [List.append_nil]
    refine ⟨B2, ds, d, ps2, W2.bh, (W2.own 0 T (by rw [hF]; exact List.mem_map.mpr ⟨_, hp, rfl⟩)).1, k1, k2, r, hf, fun v B3 H3 ps3 s3 sb hb hT hc r3 => ?_⟩
    obtain ⟨W3, s4⟩ := W2.tabbed h0 hp hn s3 sb hb hT hc
    exact q' v d δ B3 H3 F ((Step.of g2).trans s4) W3 ⟨rfl, rfl⟩ r3
end
/-! ### the law -/
def SpLawG (K : PySem.W.Frag) (Ps : List (Addr × Str)) : Sp := fun vs H Q _ => ∃ (a : Addr) (ns : List Int), vs = [.ref a] ∧ SqL K H a (ns.map V.int) ∧ ns.length ≤ 63 ∧ (∀ p ∈ Ps, H p.1 = some (.tbl #[])) ∧ ∀ H', Q (.bl true) H'
section
variable {P : Program} {w : World} {K : PySem.W.Frag} {mg : Str → Option Value} {base : Heap}
theorem seq_lessM {H : Hp} {a : Addr} {xs : List V} {Ps : List (Addr × Str)} (h : SqL K H a xs) (hP : ∀ p ∈ Ps, H p.1 = some (.tbl #[])) : SqL K (fun b => if b ∈ Ps.map (·.1) then none else H b) a xs := by
  have ne : ∀ o : HO, H a = some o → o ≠ .tbl #[] → a ∉ Ps.map (·.1) := fun o e n z => by
    obtain ⟨p, hp, rfl⟩ := List.mem_map.mp z
    rw [hP p hp] at e
    cases e
    exact n rfl
  rcases h with (h | ⟨o, h⟩) | h
  · exact .inl (.inl ((if_neg (ne _ h (fun z => by cases z))).trans h))
  · exact .inl (.inr ⟨o, (if_neg (ne _ h (fun z => by cases z))).trans h⟩)
  · exact .inr h
theorem fn_lawG {x : Str} {st : Stmt} {N ps : List Str} {k : Nat} {fa : Addr} {fd : FuncData} {Ps : List (Addr × Str)} (Fu : Fun K x x st fa fd) (S : FnScope N ps (defScope st)) (len : ps.length = 1) (hN : 1 ≤ N.length)
    (body : ∀ (X : Cx), (∃ (cdv : Value) (A : Around) (outer : List Env) (s : Shared) (H : Hp) (E : XK), A.guards = some [] ∧ Room k (A.deeper (envOfC x (defScope st) s.heap.objs.size fa cdv)) ∧ X = (cxOf CX0 P w K mg base N x (defScope st) fa cdv A outer s H E).nox) → ∀ ns : List Int, ns.length ≤ 63 → XB X (startD N [.own (scrM K ns Ps)]) (defBody st) { rt := fun d _ => d = .bool true }) :
    FnG P w K mg base CX0 (k + 1) fa fd ps (SpLawG K Ps) := by
  refine fn_ofG Fu S (fun vs H Q E h => ?_) fun cdv A outer s H vs Q E hr hg h => ?_
  · obtain ⟨a, ns, rfl, _⟩ := h
    exact len.symm
  · obtain ⟨a, ns, rfl, hS, hl, hP, qq⟩ := h
    refine ⟨_, PSs.nox (body _ ⟨cdv, A, outer, s, H, E, hg, hr, rfl⟩ ns hl), ?_⟩
    have hS2 := seq_lessM hS hP
    have sB : Same (fun b => if b ∈ Ps.map (·.1) then none else H b) H := fun b o e => by
      have e : (if b ∈ Ps.map (·.1) then none else H b) = some o := e
      split at e
      · cases e
      · exact e
    have W : Wf K (fun b => if b ∈ Ps.map (·.1) then none else H b) H (L2.start N [.ref a]) (startD N [.own (scrM K ns Ps)]) (fun i => if i = 0 then Ps.map (·.1) else []) := by
      refine ⟨sB, ?_, fun i t e => ?_, fun i hi => ?_, fun i j b h1 h2 => ?_, fun i b h1 => ?_⟩
      · unfold L2.start startD
        simp only [List.length_append, List.length_map, List.length_replicate, List.length_cons, List.length_nil]
      · cases i with
        | zero =>
          have e : some (Slot.own (scrM K ns Ps)) = some t := e
          cases e
          exact ⟨some (.ref a), rfl, ⟨a, rfl, hS2⟩, rfl, fun p hp => ⟨#[], hP p hp, trivial, fun pos cv hc => by
            have z : codeAmong pos [] = some cv := hc
            simp [codeAmong] at z⟩⟩
        | succ i =>
          have e : (List.replicate (N.length - 1) Slot.no)[i]? = some t := e
          rw [List.getElem?_replicate] at e
          split at e
          · rename_i hi
            cases e
            refine ⟨none, ?_, rfl⟩
            show (List.replicate (N.length - 1) none)[i]? = _
            rw [List.getElem?_replicate, if_pos hi]
          · cases e
      · unfold startD at hi
        rw [if_neg]
        intro z
        simp only [List.length_append, List.length_cons, List.length_nil] at hi
        omega
      · by_cases hi : i = 0
        · by_cases hj : j = 0
          · rw [hi, hj]
          · rw [if_neg hj] at h2; cases h2
        · rw [if_neg hi] at h1; cases h1
      · by_cases hi : i = 0
        · rw [if_pos hi] at h1
          obtain ⟨p, hp, rfl⟩ := List.mem_map.mp h1
          exact ⟨if_pos h1, _, hP p hp⟩
        · rw [if_neg hi] at h1; cases h1
    refine ts_iff.mpr ⟨_, _, W, fun _ _ _ _ _ _ _ h => h.elim, ?_, fun _ _ _ _ _ _ _ h => h.elim, fun _ _ _ _ _ _ _ h => h.elim, fun _ _ _ _ _ _ _ _ h => h.elim, trivial⟩
    intro v d σ2 δ2 B2 H2 F2 s2 W2 e r2
    have e : d = .bool true := e
    subst e
    cases r2
    exact qq H2
end
section
variable {X : Cx} {δ : List Slot} {rest : List Stmt} {R : Post} {p0 p1 p2 p3 pos : Pos}
theorem xb_startM (i j : Nat) {k : Nat} {f x y : Str} {ps : List Str} {ns : List Int} {Ps : List (Addr × Str)} (G : Def X.prog X.w X.K X.mg X.base k f ps (SpStart X.K)) (hr : Room k X.A) (hj : δ[j]? = some (.own (scrM X.K ns Ps))) (hl : ns.length ≤ 63) (hil : i < δ.length) (kk : ∀ p q, XB X (δ.set i (.own (strmR p q 0))) rest R) (hNd : X.N.Nodup)
    (hNj : X.N[j]? = some y := by rfl) (hvj : Vis X.env.scope y := by first | exact Or.inl rfl | exact Or.inr (Or.inl rfl) | exact Or.inr (Or.inr rfl)) (hdj : (y == ("__debug__" : Str)) = false := by decide) (hcj : (y == ("__classdict__" : Str)) = false := by decide) (hN : X.N[i]? = some x := by rfl) (hx : Loc X.env.scope x := by first | exact Or.inl rfl | exact Or.inr rfl)
    (hs : swapsWith (.Call (.Name f p1) [.Name y p2] [] p3) (some (.Name x p0)) pos.line X.env = pure false := by rfl) (hf : X.fn x = true ∨ X.env.scope.names.lookup x = some .local := by first | exact .inl rfl | exact .inr rfl | assumption)
    (hg : Gl X f := by rfl) (hdb : (f == ("__debug__" : Str)) = false := by decide) (he : starEach [.Name y p2] X.env = (false, eval (.Name y p2) X.env) :: starEach [] X.env := by rfl) (hpl : (backTo p3 (starEach [] X.env)).any (·.1) = false := by rfl) : XB X δ (.Assign [.Name x p0] (.Call (.Name f p1) [.Name y p2] [] p3) pos :: rest) R := by
  obtain ⟨fa, fd, h1, h2, h3, h4⟩ := G.ex
  refine xb_cons (ps_set hNd hN hx (pe_call h4 hr hg h1 h2 h3 .nil pass0 (pa_cons (pe_var (i := j) hNj hvj hdj hcj) pa_nil he) hdb he hpl) hs hf) (pss_ex fun z : Addr × Addr => kk z.1 z.2) fun D σ H B F W o => ?_
  obtain ⟨ov, a1, a2⟩ := W.sl j _ hj
  cases ov with
  | none => exact a2.elim
  | some v =>
    obtain ⟨⟨a, rfl, hS⟩, hF, _⟩ := a2
    refine ⟨.ref a, a1, ?_⟩
    show ∃ (a : Addr) (ns : List Int), _
    refine ⟨a, ns, rfl, W.bh.seq hS, fun p q H2 hp hq ne sm k1 k2 => ⟨(p, q), ?_⟩⟩
    have g : Grow B H B H2 := ⟨Same.refl B, W.bh.trans sm, sm, fun _ _ _ => rfl⟩
    have W2 := W.grow g
    have nF : ∀ b, H b = none → ∀ k, b ∉ F k := fun b hb k hk => by
      obtain ⟨_, u, hu⟩ := W.own k b hk
      rw [hb] at hu
      cases hu
    refine ts_iff.mpr ⟨B, _, W2.putO (r := strmR p q 0) (fp := [p, q]) hil ⟨ns, 0, 0, 43, ⟨hl, by decide, by decide, by decide, by decide, by decide⟩, rfl, rfl, k1, k2⟩ (fun b hb => ?_), o.step ⟨g.bb, fun b o e _ => g.hh b o e, fun b o e _ => rfl, fun b o e => ⟨o, g.hh b o e⟩, fun k b hb => ?_⟩⟩
    · rcases List.mem_cons.mp hb with e | e
      · rw [e]; exact ⟨⟨W.bh.free hp, _, k1⟩, fun k _ => nF p hp k⟩
      · rw [List.mem_singleton.mp e]; exact ⟨⟨W.bh.free hq, _, k2⟩, fun k _ => nF q hq k⟩
    · by_cases hk : k = i
      · rw [if_pos hk] at hb
        rcases List.mem_cons.mp hb with e | e
        · rw [e]; exact .inr hp
        · rw [List.mem_singleton.mp e]; exact .inr hq
      · rw [if_neg hk] at hb
        exact .inl ⟨k, hb⟩
end
end Dl

set_option Elab.async false
set_option linter.all false
set_option maxRecDepth 100000
set_option maxHeartbeats 4000000
/-! The data level: families of own exception classes; what is made of each. -/
namespace Dl
open PySem PySem.Spec PyProof.Rows L2 LamX
/-- what the written part says of an exception class with the classes bm above it -/
structure ClsB (K : PySem.W.Frag) (C : Addr) (bm : List Value) : Prop where
  xL : ∃ nm q N bs sn sub ab col dd k0 k1 k2 k3 k5, K.lookup C = some (excClassObj nm q C N bs bm true sn sub ab col dd k0 k1 k2 k3 k5 "ValueError.__new__")
  bV : PySem.HandSPX.refsVE bm = true
  sa : PySem.W.findIn K (.ref C) "__setattr__" = some (some (.builtin "object.__setattr__"))
  ga : PySem.W.findIn K (.ref C) "__getattribute__" = some (some (.builtin "BaseException.__getattribute__"))
  gg : PySem.W.findIn K (.ref C) "__getattr__" = some none
  ca : PySem.W.findIn K (.ref C) "__class__" = some (some (.builtin "object.__class__"))
  kC : PySem.W.keepIn K (.ref C) = true
structure GetC (K : PySem.W.Frag) : Prop where
  hn : PySem.W.specialIn K (.builtin "object.__class__") "__get__" = some (some (.builtin "getset_descriptor.__get__"))
  ht : PySem.W.takesIn K (.builtin "object.__class__") = some true
section
variable {K : PySem.W.Frag} {C D : Addr} {bm bm2 : List Value}
theorem ClsB.cls (F : ClsB K C bm) : ∃ cd, PySem.W.clsIn K C = some cd ∧ cd.mro = .ref C :: bm ∧ cd.hasDict = true := by
  obtain ⟨nm, q, N, bs, sn, sub, ab, col, dd, k0, k1, k2, k3, k5, hC⟩ := F.xL
  refine ⟨{ name := nm, bases := bs, mro := .ref C :: bm, ns := N, qualname := q, hasDict := true, slotNames := sn, subclasses := sub, abstract := ab, collection := col, hasDel := false }, ?_, rfl, rfl⟩
  unfold PySem.W.clsIn
  rw [hC] <;> rfl
theorem ClsB.ty (F : ClsB K C bm) : PySem.W.typeIn K (.ref C) = some (.type "type") := by
  obtain ⟨nm, q, N, bs, sn, sub, ab, col, dd, k0, k1, k2, k3, k5, hC⟩ := F.xL
  show (K.lookup C).map (·.cls) = _
  rw [hC] <;> rfl
theorem ClsB.mro (F : ClsB K C bm) (v : Value) : PySem.W.subIn K (.ref C) v = some ((Value.ref C :: bm).contains v) := by
  obtain ⟨cd, h1, h2, _⟩ := F.cls
  show PySem.W.mroIn K C v = _
  unfold PySem.W.mroIn
  rw [h1, Option.bind_some, h2]
  rfl
theorem ClsB.hd (F : ClsB K C bm) : PySem.W.hasDictIn K C = true := by
  obtain ⟨cd, h1, _, h3⟩ := F.cls
  unfold PySem.W.hasDictIn
  rw [h1]
  exact h3
theorem ClsB.has (F : ClsB K C bm) (T : String) : PySem.W.subIn K (.ref C) (.type T) = some (PySem.HandSPX.veTail.contains (.type T)) := by
  rw [F.mro, List.contains_cons, PySem.HandSPX.refsVE_contains T bm F.bV]
  rfl
theorem ClsB.oc (F : ClsB K C bm) : OexC K C := by
  obtain ⟨nm, q, N, bs, sn, sub, ab, col, dd, k0, k1, k2, k3, k5, hC⟩ := F.xL
  refine ⟨⟨nm, q, N, bs, bm, sn, sub, ab, col, dd, k0, k1, k2, k3, k5, hC, F.bV⟩, F.sa, ?_, F.ty, F.kC⟩
  rw [F.has]
  decide +kernel
theorem ClsB.xc (F : ClsB K C bm) (G : GetC K) : ExcC K C := by
  refine ⟨F.ga, F.gg, ?_, F.hd, F.ca, G.hn, G.ht, ?_⟩
  · rw [F.has]
    decide +kernel
  · have := F.has "object"
    rw [show PySem.HandSPX.veTail.contains (.type "object") = true by decide +kernel] at this
    exact this
theorem ClsB.kitR (F : ClsB K C bm) (G : ClsB K D bm2) : PySem.W.kitOne K (.ref C) (.ref D) = some ((Value.ref C :: bm).contains (.ref D)) := by
  unfold PySem.W.kitOne
  by_cases h : C = D
  · subst h
    rw [if_pos (by simp)]
    simp
  · rw [if_neg (by simpa using h)]
    obtain ⟨cd, h1, _⟩ := G.cls
    show (if ((PySem.W.clsIn K D).isSome && PySem.W.typeIn K (.ref D) == some (.type "type")) = true then PySem.W.subIn K (.ref C) (.ref D) else none) = _
    rw [h1, G.ty, if_pos (by simp), F.mro]
theorem ClsB.kitT (F : ClsB K C bm) {T : String} (hT : PySem.W.kitMeta T = true := by decide +kernel) : PySem.W.kitOne K (.ref C) (.type T) = some (PySem.HandSPX.veTail.contains (.type T)) := by
  unfold PySem.W.kitOne
  rw [if_neg (by simp)]
  show (if PySem.W.kitMeta T = true then PySem.W.subIn K (.ref C) (.type T) else none) = _
  rw [if_pos hT, F.has]
end
/-! ### what is made -/
def mkD (C : Addr) : List Str → List PyData → PyData
  | [], _ => err0D C
  | n :: ns, vs => errD C ((n :: ns).reverse.map .str) vs.reverse
theorem mkD_err (C : Addr) (nm : List Str) (vs : List PyData) : ErrOf C (mkD C nm vs) := by
  cases nm with
  | nil => exact .inr rfl
  | cons n ns => exact .inl ⟨_, _, rfl⟩
def itemD (C : Addr) (nm : List Str) (vs : List PyData) : PyData := .tuple [mkD C nm vs, mkD C nm vs, lamD (nm.map .str), .list vs]
def itemsD (x y z : PyData) (l : List (Addr × List Str)) : List PyData := l.map fun p => itemD p.1 p.2 ([x, y, z].take p.2.length)
theorem itemsD_get {x y z : PyData} {l : List (Addr × List Str)} {i : Nat} {d : PyData} (h : (itemsD x y z l)[i]? = some d) : ∃ p, l[i]? = some p ∧ d = itemD p.1 p.2 ([x, y, z].take p.2.length) := by
  unfold itemsD at h
  rw [List.getElem?_map] at h
  cases e : l[i]? with
  | none =>
    rw [e] at h
    cases h
  | some p =>
    rw [e] at h
    cases h
    exact ⟨p, rfl, rfl⟩
theorem tells_mk {K : PySem.W.Frag} {C : Addr} {nm : List Str} {x y z : PyData} (T : ExcC K C) (hno : ∀ n ∈ nm, PySem.W.findIn K (.ref C) n = some none) (hn : nm.Nodup) (hl : nm.length ≤ 3) : Tells K nm (mkD C nm ([x, y, z].take nm.length)) ([x, y, z].take nm.length) := by
  match nm, hn, hl with
  | [], _, _ => exact .none _
  | [a], _, _ =>
    refine .some T hno rfl (by show 1 ≤ 1000; decide) fun i n v h1 h2 => ?_
    match i, h1, h2 with
    | 0, h1, h2 =>
      cases h1
      cases h2
      exact .here
    | i + 1, h1, _ => simp at h1
  | [a, b], hn, _ =>
    have ab : a ≠ b := fun e => by simp [e] at hn
    refine .some T hno rfl (by show 2 ≤ 1000; decide) fun i n v h1 h2 => ?_
    match i, h1, h2 with
    | 0, h1, h2 =>
      cases h1
      cases h2
      exact .there ab .here
    | 1, h1, h2 =>
      cases h1
      cases h2
      exact .here
    | i + 2, h1, _ => simp at h1
  | [a, b, c], hn, _ =>
    have ab : a ≠ b := fun e => by simp [e] at hn
    have ac : a ≠ c := fun e => by simp [e] at hn
    have bc : b ≠ c := fun e => by simp [e] at hn
    refine .some T hno rfl (by show 3 ≤ 1000; decide) fun i n v h1 h2 => ?_
    match i, h1, h2 with
    | 0, h1, h2 =>
      cases h1
      cases h2
      exact .there ac (.there ab .here)
    | 1, h1, h2 =>
      cases h1
      cases h2
      exact .there bc .here
    | 2, h1, h2 =>
      cases h1
      cases h2
      exact .here
    | i + 3, h1, _ => simp at h1
  | _ :: _ :: _ :: _ :: _, _, hl => simp at hl
/-! ### one of them, as the law writes it -/
section
variable {X : Cx} {δ : List Slot} {e e1 e2 e3 e4 : Expr} {p p1 p2 pos : Pos} {d d1 d2 d3 d4 dx : PyData} {ds : List PyData} {x : Str} {T : Addr} {q : Str} {kws : List Keyword} {nm : Option Str}
abbrev XFd (X : Cx) (δ : List Slot) (e : Expr) (d : PyData) : Prop := XF X δ e (fun d' δ' => d' = d ∧ δ' = δ)
theorem xfd_tup4 {x1} (h1 : XFd X δ e1 d1) (h2 : XFd X δ e2 d2) (h3 : XFd X δ e3 d3) (h4 : XFd X δ e4 d4) (s1 : starEach [e1, e2, e3, e4] X.env = (false, eval e1 X.env) :: starEach [e2, e3, e4] X.env := by rfl) (s2 : starEach [e2, e3, e4] X.env = (false, eval e2 X.env) :: starEach [e3, e4] X.env := by rfl)
    (s3 : starEach [e3, e4] X.env = (false, eval e3 X.env) :: starEach [e4] X.env := by rfl) (s4 : starEach [e4] X.env = (false, eval e4 X.env) :: starEach [] X.env := by rfl) : XFd X δ (.Tuple [e1, e2, e3, e4] x1 pos) (.tuple [d1, d2, d3, d4]) :=
  xf_tup (PA' := fun ds' δ' => ds' = [d1, d2, d3, d4] ∧ δ' = δ) (xfa_cons h1 (fun a δ1 ⟨e1, f1⟩ => by
    subst e1 f1
    refine xfa_cons h2 (fun b δ2 ⟨e2, f2⟩ => ?_) s2
    subst e2 f2
    refine xfa_cons h3 (fun c δ3 ⟨e3, f3⟩ => ?_) s3
    subst e3 f3
    refine xfa_cons h4 (fun c δ4 ⟨e4, f4⟩ => ?_) s4
    subst e4 f4
    exact xfa_nil.weak fun σ H Q ⟨B, F, W, q⟩ => ⟨B, F, W, fun vs ds δ2 B2 H2 F2 s2 W2 ⟨z1, z2⟩ r => q vs ds δ2 B2 H2 F2 s2 W2 ⟨by rw [z1], z2⟩ r⟩) s1) fun ds δ1 ⟨e1, f1⟩ => ⟨by rw [e1]; show 4 ≤ 1000000; decide, by rw [e1], f1⟩
/-- the parameter whose slot holds the table, too -/
theorem xe_tb (h : δ[0]? = some (.own (tbR X.K d T q))) (hi : X.N[0]? = some x := by rfl) (hv : Vis X.env.scope x := by first | exact Or.inl rfl | exact Or.inr (Or.inl rfl) | exact Or.inr (Or.inr rfl)) (hd : (x == ("__debug__" : Str)) = false := by decide) (hcd : (x == ("__classdict__" : Str)) = false := by decide) : XE X δ (.Name x p) d :=
  (pe_var (i := 0) hi hv hd hcd).weak fun σ H Q ⟨B, F, W, qq⟩ => by
    obtain ⟨o, a1, a2⟩ := W.sl 0 _ h
    cases o with
    | none => exact a2.elim
    | some v => exact ⟨v, a1, qq v B H (Grow.refl W.bh) a2.1⟩
theorem pk_xnil : PK X [] (tA X.K δ []) := ⟨fun pos pins s σ H Q I ⟨B, F, W, q⟩ => pk_nil.run pos pins s σ H Q I (q [] B H (Grow.refl W.bh) .nil)⟩
theorem pk_xcons {kpos : Pos} (h : XE X δ e d) (hr : PK X kws (tA X.K δ ds)) : PK X (⟨nm, e, kpos⟩ :: kws) (tA X.K δ (d :: ds)) := ⟨fun pos pins s σ H Q I ⟨B, F, W, q⟩ => (pk_cons h hr).run pos pins s σ H Q I
  ⟨B, F, W, fun v B1 H1 g1 r1 => ⟨B1, F, W.grow g1, fun vs B2 H2 g2 r2 => q _ B2 H2 (g1.trans g2) (.cons (r1.mono g2.bb) r2)⟩⟩⟩
end
/-! ### a list that is written while others know it -/
def accA (K : PySem.W.Frag) (l : Addr) (ds : List PyData) : Res where
  ok := fun B H v fp => v = .ref l ∧ fp = [l] ∧ ∃ xs, H l = some (.lst xs) ∧ RpA K B xs ds
  loc := fun {B B' H H' v fp} ⟨h1, h2, xs, h3, h4⟩ hb hh => ⟨h1, h2, xs, by rw [hh l (by rw [h2]; exact List.mem_singleton.mpr rfl)]; exact h3, h4.mono hb⟩
section
variable {X : Cx} {δ : List Slot} {e : Expr} {p p1 p2 pos : Pos} {d dx : PyData} {ds : List PyData} {x : Str} {l : Addr} {sts rest : List Stmt} {R : Post}
theorem xb_openA (i : Nat) (h : δ[i]? = some (.own (accR X.K ds))) (k : ∀ l, XB X (δ.set i (.own (accA X.K l ds))) sts R) : XB X δ sts R := by
  have := pss_ex (X := X) (e := sts) (t := fun l : Addr => tS X.K (δ.set i (.own (accA X.K l ds))) R) fun l => k l
  refine PSs.weak this fun D σ H q' => ?_
  obtain ⟨B, F, W, o⟩ := ts_iff.mp q'
  obtain ⟨l, xs, h1, h2, h3, h4, h5⟩ := W.acc h
  refine ⟨l, ts_iff.mpr ⟨B, F, ⟨W.bh, by rw [List.length_set]; exact W.len, fun j s e => ?_, fun j hj => W.out j (by rw [List.length_set] at hj; exact hj), W.dis, W.own⟩, o⟩⟩
  by_cases hj : j = i
  · subst hj
    rw [List.getElem?_set_self (List.getElem?_eq_some_iff.mp h).1] at e
    cases e
    exact ⟨_, h1, rfl, h2, xs, h3, h4⟩
  · rw [List.getElem?_set_ne (Ne.symm hj)] at e
    exact W.sl j s e
theorem xb_closeA (i : Nat) (h : δ[i]? = some (.own (accA X.K l ds))) (k : XB X (δ.set i (.own (accR X.K ds))) sts R) : XB X δ sts R := PSs.weak k fun D σ H q' => by
  obtain ⟨B, F, W, o⟩ := ts_iff.mp q'
  exact ts_iff.mpr ⟨B, F, W.swap h fun v ⟨h1, h2, xs, h3, h4⟩ => ⟨l, xs, h1, h2, h3, h4⟩, o⟩
theorem xe_adr (i : Nat) (h : δ[i]? = some (.own (accA X.K l ds))) (hi : X.N[i]? = some x := by rfl) (hv : Vis X.env.scope x := by first | exact Or.inl rfl | exact Or.inr (Or.inl rfl) | exact Or.inr (Or.inr rfl)) (hd : (x == ("__debug__" : Str)) = false := by decide) (hcd : (x == ("__classdict__" : Str)) = false := by decide) : XE X δ (.Name x p) (adrD l) :=
  (pe_var (i := i) hi hv hd hcd).weak fun σ H Q ⟨B, F, W, qq⟩ => by
    obtain ⟨o, a1, a2⟩ := W.sl i _ h
    cases o with
    | none => exact a2.elim
    | some v =>
      obtain ⟨rfl, _⟩ := a2
      exact ⟨.ref l, a1, qq _ B H (Grow.refl W.bh) (.adr l)⟩
/-- xs.append(e), xs such a list -/
theorem xb_appA (i : Nat) (h : δ[i]? = some (.own (accA X.K l ds))) (he : XE X δ e d) (hz : ds.length < 1000000) (k : XB X (δ.set i (.own (accA X.K l (ds ++ [d])))) rest R) (hi : X.N[i]? = some x := by rfl)
    (hv : Vis X.env.scope x := by first | exact Or.inl rfl | exact Or.inr (Or.inl rfl) | exact Or.inr (Or.inr rfl)) (hd : (x == ("__debug__" : Str)) = false := by decide) (hcd : (x == ("__classdict__" : Str)) = false := by decide)
    (hbase : attributeBase (.Name x p1) "append" X.env (eval (.Name x p1) X.env) = eval (.Name x p1) X.env := by rfl)
    (hfew : ((backTo p (starEach [e] X.env)).all (fun x => !x.1) && (backToKw p (keywordEach [] X.env)).all (fun x => x.1.isSome) && decide ([e].length + ([] : List Keyword).length + (if ([] : List Keyword).isEmpty then 0 else 1) < 30)) = true := by rfl)
    (hline : (p2.endLine == p.line) = true := by rfl) (hs : starEach [e] X.env = (false, eval e X.env) :: starEach [] X.env := by rfl) (hplain : (backTo p (starEach [] X.env)).any (·.1) = false := by rfl)
    (hsw : swapsWith (.Call (.Attribute (.Name x p1) "append" p2) [e] [] p) none pos.line X.env = pure false := by rfl) :
    XB X δ (.Expr (.Call (.Attribute (.Name x p1) "append" p2) [e] [] p) pos :: rest) R :=
  xb_cons (ps_expr (pe_bm PySem.F.plainAttrs_list PySem.F.slot_list_append PySem.F.type_list_append mt_append (pe_var (i := i) hi hv hd hcd) (pa_cons he pa_nil hs) hbase hfew hline hs hplain) hsw) k fun D σ H B F W o => by
    obtain ⟨ov, a1, a2⟩ := W.sl i _ h
    cases ov with
    | none => exact a2.elim
    | some v0 =>
      obtain ⟨rfl, hF, xs, h3, h4⟩ := a2
      refine ⟨.ref l, a1, .inl ⟨rfl, xs, SqL.of h3⟩, B, F, W, fun v B2 H2 g r => ?_⟩
      have W2 := (W.grow g).swap (r' := accR X.K ds) h fun v ⟨h1, h2, xs, h3, h4⟩ => ⟨l, xs, h1, h2, h3, h4⟩
      have hlen := (List.getElem?_eq_some_iff.mp h).1
      refine ⟨l, xs, v, rfl, rfl, g.hh _ _ h3, Nat.lt_of_lt_of_le (by rw [h4.length]; exact hz) (sz_of (Nat.le_refl _)), ?_⟩
      obtain ⟨W3, s3⟩ := W2.accUpd (i := i) (ds := ds) (List.getElem?_set_self hlen) a1 hF ((h4.mono g.bb).append (.cons r .nil))
      rw [List.set_set] at W3
      have W4 := W3.swap (i := i) (r := accR X.K (ds ++ [d])) (r' := accA X.K l (ds ++ [d])) (List.getElem?_set_self hlen) fun v ⟨l2, ys, e1, e2, e3, e4⟩ => by
        have e2 : F i = [l2] := e2
        rw [hF] at e2
        cases e2
        exact ⟨e1, hF, ys, e3, e4⟩
      rw [List.set_set] at W4
      exact ts_iff.mpr ⟨B2, F, W4, o.step ((Step.of g).trans s3)⟩
/-- such a list is given up: what knew its address knows its things -/
theorem xb_frzA (i j : Nat) {d' : PyData} (h : δ[i]? = some (.own (accA X.K l ds))) (hj : δ[j]? = some (.dat d)) (hij : i ≠ j) (conv : ∀ B v, Rp X.K B (.ref l) (.list ds) → Rp X.K B v d → Rp X.K B v d') (k : XB X ((δ.set i (.dat (.list ds))).set j (.dat d')) sts R) : XB X δ sts R := PSs.weak k fun D σ H q => by
  obtain ⟨B, F, W, o⟩ := ts_iff.mp q
  have hlen := (List.getElem?_eq_some_iff.mp h).1
  have hlj := (List.getElem?_eq_some_iff.mp hj).1
  obtain ⟨ov, a1, a2⟩ := W.sl i _ h
  cases ov with
  | none => exact a2.elim
  | some v0 =>
    obtain ⟨rfl, hF, xs, h3, h4⟩ := a2
    have W1 := W.swap (r' := accR X.K ds) h fun v ⟨h1, h2, xs, h3, h4⟩ => ⟨l, xs, h1, h2, h3, h4⟩
    obtain ⟨B2, F2, W2, s2⟩ := W1.frz (i := i) (ds := ds) (List.getElem?_set_self hlen)
    rw [List.set_set] at W2
    refine ts_iff.mpr ⟨B2, F2, ⟨W2.bh, by rw [List.length_set]; exact W2.len, fun m s e => ?_, fun m hm => W2.out m (by rw [List.length_set] at hm; exact hm), W2.dis, W2.own⟩, o.step s2⟩
    by_cases hm : m = j
    · subst hm
      rw [List.getElem?_set_self (by rw [List.length_set]; exact hlj)] at e
      cases e
      obtain ⟨v1, b1, b2⟩ := W2.dat (i := i) (d := .list ds) (List.getElem?_set_self hlen)
      rw [a1] at b1
      cases b1
      obtain ⟨o2, c1, c2⟩ := W2.sl m (.dat d) (by rw [List.getElem?_set_ne hij]; exact hj)
      refine ⟨o2, c1, ?_⟩
      cases o2 with
      | none => exact c2.elim
      | some v2 => exact ⟨c2.1, conv B2 v2 b2 c2.2⟩
    · rw [List.getElem?_set_ne (Ne.symm hm)] at e
      exact W2.sl m s e
end
/-- what was made of an address, its things known -/
theorem adr_rep {K : PySem.W.Frag} {B : Hp} {l : Addr} {r : PyData} (hr : Rp K B (.ref l) r) : ∀ {vs : List V} {ds : List PyData}, RpA K B vs ds → (∀ d ∈ ds, d = adrD l) → RpA K B vs (ds.map fun _ => r)
  | _, _, .nil, _ => .nil
  | _, _, .cons h q, hd => by
    have e := hd _ List.mem_cons_self
    subst e
    have := h.adrInv
    subst this
    exact .cons hr (adr_rep hr q fun d hd' => hd d (List.mem_cons_of_mem _ hd'))
theorem take_map3 {α β : Type} (a : α) (b : β) (n : Nat) : ([a, a, a].take n).map (fun _ => b) = [b, b, b].take n := by
  match n with
  | 0 => rfl
  | 1 => rfl
  | 2 => rfl
  | n + 3 => simp
theorem mk_rep {K : PySem.W.Frag} {B : Hp} {l C : Addr} {r : PyData} {nm : List Str} {n : Nat} {v : V} (hr : Rp K B (.ref l) r) (h : Rp K B v (mkD C nm ([adrD l, adrD l, adrD l].take n))) : Rp K B v (mkD C nm ([r, r, r].take n)) := by
  cases nm with
  | nil => exact h
  | cons a ns =>
    have h : Rp K B v (errD C ((a :: ns).reverse.map .str) ([adrD l, adrD l, adrD l].take n).reverse) := h
    obtain ⟨o, dx, fs, rfl, h1, h2, h3, h4⟩ := h.errInv
    refine .err h1 h2 h3 rfl ?_
    have := adr_rep hr h4 fun d hd => by
      have hd := List.mem_of_mem_take (List.mem_reverse.mp hd)
      simp at hd
      exact hd
    rw [List.map_reverse, take_map3] at this
    exact this
theorem item_rep {K : PySem.W.Frag} {B : Hp} {l C : Addr} {r : PyData} {nm : List Str} {n : Nat} {v : V} (hr : Rp K B (.ref l) r) (h : Rp K B v (itemD C nm ([adrD l, adrD l, adrD l].take n))) : Rp K B v (itemD C nm ([r, r, r].take n)) := by
  unfold itemD at h ⊢
  cases h with
  | tup ht ha =>
    refine .tup ht ?_
    cases ha with
    | cons h1 ha =>
      cases ha with
      | cons h2 ha =>
        cases ha with
        | cons h3 ha =>
          cases ha with
          | cons h4 ha =>
            refine .cons (mk_rep hr h1) (.cons (mk_rep hr h2) (.cons h3 (.cons ?_ ha)))
            cases h4 with
            | lst hl q =>
              refine .lst hl ?_
              have := adr_rep hr q fun d hd => by
                have hd := List.mem_of_mem_take hd
                simp at hd
                exact hd
              rw [take_map3] at this
              exact this
theorem items_rep {K : PySem.W.Frag} {B : Hp} {l : Addr} {r : PyData} (hr : Rp K B (.ref l) r) : ∀ {L : List (Addr × List Str)} {vs : List V}, RpA K B vs (itemsD (adrD l) (adrD l) (adrD l) L) → RpA K B vs (itemsD r r r L)
  | [], _, .nil => .nil
  | p :: L, _, .cons h q => .cons (item_rep hr h) (items_rep (L := L) hr q)
theorem made_rep {K : PySem.W.Frag} {B : Hp} {l : Addr} {r : PyData} {v : V} {L : List (Addr × List Str)} (hr : Rp K B (.ref l) r) (h : Rp K B v (.list (itemsD (adrD l) (adrD l) (adrD l) L))) : Rp K B v (.list (itemsD r r r L)) := by
  cases h with
  | lst h1 q => exact .lst h1 (items_rep hr q)
end Dl

set_option Elab.async false
set_option linter.all false
set_option maxRecDepth 100000
set_option maxHeartbeats 4000000
namespace K00
open PySem PySem.Spec PyProof.Rows L2 Dl
def topS (i : Nat) : Stmt := PySem.Challenge.pw_swornfilters_k00_errors_made.main.body.getD i (.Pass ⟨0, 0, 0, 0⟩)
abbrev s_law_start : Stmt := topS 64
theorem sc_law_start : FnScope ["script"] ["script"] (defScope s_law_start) := ⟨rfl, rfl, rfl, by decide +kernel, rfl, by decide +kernel, by decide +kernel⟩
abbrev s_law_below : Stmt := topS 65
theorem sc_law_below : FnScope ["stream", "many", "cell", "digit", "mixed"] ["stream", "many"] (defScope s_law_below) := ⟨rfl, rfl, rfl, by decide +kernel, rfl, by decide +kernel, by decide +kernel⟩
abbrev s_law_mixed : Stmt := topS 66
theorem sc_law_mixed : FnScope ["stream", "some", "left", "k"] ["stream", "some"] (defScope s_law_mixed) := ⟨rfl, rfl, rfl, by decide +kernel, rfl, by decide +kernel, by decide +kernel⟩
abbrev s_law_made_a : Stmt := topS 67
theorem sc_law_made_a : FnScope ["x", "y", "z", "found"] ["x", "y", "z"] (defScope s_law_made_a) := ⟨rfl, rfl, rfl, by decide +kernel, rfl, by decide +kernel, by decide +kernel⟩
abbrev s_law_made_b : Stmt := topS 68
theorem sc_law_made_b : FnScope ["x", "y", "z", "found"] ["x", "y", "z"] (defScope s_law_made_b) := ⟨rfl, rfl, rfl, by decide +kernel, rfl, by decide +kernel, by decide +kernel⟩
abbrev s_law_made_c : Stmt := topS 69
theorem sc_law_made_c : FnScope ["x", "y", "z", "found", "named"] ["x", "y", "z"] (defScope s_law_made_c) := ⟨rfl, rfl, rfl, by decide +kernel, rfl, by decide +kernel, by decide +kernel⟩
abbrev s_law_made_d : Stmt := topS 70
theorem sc_law_made_d : FnScope ["x", "y", "z", "found"] ["x", "y", "z"] (defScope s_law_made_d) := ⟨rfl, rfl, rfl, by decide +kernel, rfl, by decide +kernel, by decide +kernel⟩
abbrev s_law_kinds_a : Stmt := topS 71
theorem sc_law_kinds_a : FnScope ["e", "found"] ["e"] (defScope s_law_kinds_a) := ⟨rfl, rfl, rfl, by decide +kernel, rfl, by decide +kernel, by decide +kernel⟩
abbrev s_law_kinds_b : Stmt := topS 72
theorem sc_law_kinds_b : FnScope ["e", "found"] ["e"] (defScope s_law_kinds_b) := ⟨rfl, rfl, rfl, by decide +kernel, rfl, by decide +kernel, by decide +kernel⟩
abbrev s_law_kinds_c : Stmt := topS 73
theorem sc_law_kinds_c : FnScope ["e", "found"] ["e"] (defScope s_law_kinds_c) := ⟨rfl, rfl, rfl, by decide +kernel, rfl, by decide +kernel, by decide +kernel⟩
abbrev s_law_kinds_d : Stmt := topS 74
theorem sc_law_kinds_d : FnScope ["e", "found"] ["e"] (defScope s_law_kinds_d) := ⟨rfl, rfl, rfl, by decide +kernel, rfl, by decide +kernel, by decide +kernel⟩
abbrev s_law_kinds : Stmt := topS 75
theorem sc_law_kinds : FnScope ["e"] ["e"] (defScope s_law_kinds) := ⟨rfl, rfl, rfl, by decide +kernel, rfl, by decide +kernel, by decide +kernel⟩
abbrev s_law_is_own : Stmt := topS 76
theorem sc_law_is_own : FnScope ["e", "at", "k"] ["e", "at"] (defScope s_law_is_own) := ⟨rfl, rfl, rfl, by decide +kernel, rfl, by decide +kernel, by decide +kernel⟩
abbrev s_law_are_these : Stmt := topS 77
theorem sc_law_are_these : FnScope ["found", "due"] ["found", "due"] (defScope s_law_are_these) := ⟨rfl, rfl, rfl, by decide +kernel, rfl, by decide +kernel, by decide +kernel⟩
abbrev s_law : Stmt := topS 78
theorem sc_law : FnScope ["script", "stream", "some", "turn", "x", "y", "z", "made", "at", "mine", "twin", "field", "due", "held", "base"] ["script"] (defScope s_law) := ⟨rfl, rfl, rfl, by decide +kernel, rfl, by decide +kernel, by decide +kernel⟩
/-- the code objects of the defs that make lambdas, their tables -/
structure CO where
  a : Addr
  b : Addr
  c : Addr
  d : Addr
  ta : Addr
  tb : Addr
  tc : Addr
  td : Addr
structure Txt (K : PySem.W.Frag) (mg : Str → Option Value) (co : CO) : Prop where
  a_law_start : At K mg "_law_start" s_law_start ["script"]
  a_law_below : At K mg "_law_below" s_law_below ["stream", "many"]
  a_law_mixed : At K mg "_law_mixed" s_law_mixed ["stream", "some"]
  a_law_made_a : AtC K mg "_law_made_a" s_law_made_a ["x", "y", "z"] co.a
  a_law_made_b : AtC K mg "_law_made_b" s_law_made_b ["x", "y", "z"] co.b
  a_law_made_c : AtC K mg "_law_made_c" s_law_made_c ["x", "y", "z"] co.c
  a_law_made_d : AtC K mg "_law_made_d" s_law_made_d ["x", "y", "z"] co.d
  a_law_kinds_a : At K mg "_law_kinds_a" s_law_kinds_a ["e"]
  a_law_kinds_b : At K mg "_law_kinds_b" s_law_kinds_b ["e"]
  a_law_kinds_c : At K mg "_law_kinds_c" s_law_kinds_c ["e"]
  a_law_kinds_d : At K mg "_law_kinds_d" s_law_kinds_d ["e"]
  a_law_kinds : At K mg "_law_kinds" s_law_kinds ["e"]
  a_law_is_own : At K mg "_law_is_own" s_law_is_own ["e", "at"]
  a_law_are_these : At K mg "_law_are_these" s_law_are_these ["found", "due"]
  a_law : At K mg "law" s_law ["script"]
  g_enumerate : mg "enumerate" = none
  g_int : mg "int" = none
  g_isinstance : mg "isinstance" = none
  g_len : mg "len" = none
  g_list : mg "list" = none
  g_range : mg "range" = none
  g_repr : mg "repr" = none
  g_ValueError : mg "ValueError" = none
  g_LookupError : mg "LookupError" = none
  g_ArithmeticError : mg "ArithmeticError" = none
  g_TypeError : mg "TypeError" = none
def initOf : Stmt → Stmt
  | .ClassDef (body := b) .. => b.getD 0 (.Pass ⟨0, 0, 0, 0⟩)
  | _ => .Pass ⟨0, 0, 0, 0⟩
abbrev i_BadBy : Stmt := initOf (topS 2)
theorem sci_BadBy : FnScope ["self", "thing"] ["self", "thing"] (defScope i_BadBy) := ⟨rfl, rfl, rfl, by decide +kernel, rfl, by decide +kernel, by decide +kernel⟩
abbrev i_BadChain : Stmt := initOf (topS 3)
theorem sci_BadChain : FnScope ["self", "index"] ["self", "index"] (defScope i_BadChain) := ⟨rfl, rfl, rfl, by decide +kernel, rfl, by decide +kernel, by decide +kernel⟩
abbrev i_BadControl : Stmt := initOf (topS 4)
theorem sci_BadControl : FnScope ["self", "thing"] ["self", "thing"] (defScope i_BadControl) := ⟨rfl, rfl, rfl, by decide +kernel, rfl, by decide +kernel, by decide +kernel⟩
abbrev i_BadCore : Stmt := initOf (topS 5)
theorem sci_BadCore : FnScope ["self", "thing"] ["self", "thing"] (defScope i_BadCore) := ⟨rfl, rfl, rfl, by decide +kernel, rfl, by decide +kernel, by decide +kernel⟩
abbrev i_BadCores : Stmt := initOf (topS 6)
theorem sci_BadCores : FnScope ["self", "thing"] ["self", "thing"] (defScope i_BadCores) := ⟨rfl, rfl, rfl, by decide +kernel, rfl, by decide +kernel, by decide +kernel⟩
abbrev i_BadDeed : Stmt := initOf (topS 7)
theorem sci_BadDeed : FnScope ["self", "index"] ["self", "index"] (defScope i_BadDeed) := ⟨rfl, rfl, rfl, by decide +kernel, rfl, by decide +kernel, by decide +kernel⟩
abbrev i_BadEnds : Stmt := initOf (topS 8)
theorem sci_BadEnds : FnScope ["self", "index"] ["self", "index"] (defScope i_BadEnds) := ⟨rfl, rfl, rfl, by decide +kernel, rfl, by decide +kernel, by decide +kernel⟩
abbrev i_BadHigh : Stmt := initOf (topS 9)
theorem sci_BadHigh : FnScope ["self", "thing"] ["self", "thing"] (defScope i_BadHigh) := ⟨rfl, rfl, rfl, by decide +kernel, rfl, by decide +kernel, by decide +kernel⟩
abbrev i_BadInput : Stmt := initOf (topS 10)
theorem sci_BadInput : FnScope ["self", "thing"] ["self", "thing"] (defScope i_BadInput) := ⟨rfl, rfl, rfl, by decide +kernel, rfl, by decide +kernel, by decide +kernel⟩
abbrev i_BadInto : Stmt := initOf (topS 11)
theorem sci_BadInto : FnScope ["self", "thing"] ["self", "thing"] (defScope i_BadInto) := ⟨rfl, rfl, rfl, by decide +kernel, rfl, by decide +kernel, by decide +kernel⟩
abbrev i_BadKey : Stmt := initOf (topS 12)
theorem sci_BadKey : FnScope ["self", "thing"] ["self", "thing"] (defScope i_BadKey) := ⟨rfl, rfl, rfl, by decide +kernel, rfl, by decide +kernel, by decide +kernel⟩
abbrev i_BadLength : Stmt := initOf (topS 13)
theorem sci_BadLength : FnScope ["self", "thing"] ["self", "thing"] (defScope i_BadLength) := ⟨rfl, rfl, rfl, by decide +kernel, rfl, by decide +kernel, by decide +kernel⟩
abbrev i_BadLine : Stmt := initOf (topS 14)
theorem sci_BadLine : FnScope ["self", "line"] ["self", "line"] (defScope i_BadLine) := ⟨rfl, rfl, rfl, by decide +kernel, rfl, by decide +kernel, by decide +kernel⟩
abbrev i_BadListed : Stmt := initOf (topS 15)
theorem sci_BadListed : FnScope ["self", "thing"] ["self", "thing"] (defScope i_BadListed) := ⟨rfl, rfl, rfl, by decide +kernel, rfl, by decide +kernel, by decide +kernel⟩
abbrev i_BadListing : Stmt := initOf (topS 16)
theorem sci_BadListing : FnScope ["self", "line"] ["self", "line"] (defScope i_BadListing) := ⟨rfl, rfl, rfl, by decide +kernel, rfl, by decide +kernel, by decide +kernel⟩
abbrev i_BadLoaded : Stmt := initOf (topS 17)
theorem sci_BadLoaded : FnScope ["self", "thing"] ["self", "thing"] (defScope i_BadLoaded) := ⟨rfl, rfl, rfl, by decide +kernel, rfl, by decide +kernel, by decide +kernel⟩
abbrev i_BadMany : Stmt := initOf (topS 18)
theorem sci_BadMany : FnScope ["self", "thing"] ["self", "thing"] (defScope i_BadMany) := ⟨rfl, rfl, rfl, by decide +kernel, rfl, by decide +kernel, by decide +kernel⟩
abbrev i_BadName : Stmt := initOf (topS 19)
theorem sci_BadName : FnScope ["self", "thing"] ["self", "thing"] (defScope i_BadName) := ⟨rfl, rfl, rfl, by decide +kernel, rfl, by decide +kernel, by decide +kernel⟩
abbrev i_BadNames : Stmt := initOf (topS 20)
theorem sci_BadNames : FnScope ["self", "index"] ["self", "index"] (defScope i_BadNames) := ⟨rfl, rfl, rfl, by decide +kernel, rfl, by decide +kernel, by decide +kernel⟩
abbrev i_BadNumber : Stmt := initOf (topS 21)
theorem sci_BadNumber : FnScope ["self", "thing"] ["self", "thing"] (defScope i_BadNumber) := ⟨rfl, rfl, rfl, by decide +kernel, rfl, by decide +kernel, by decide +kernel⟩
abbrev i_BadOctets : Stmt := initOf (topS 22)
theorem sci_BadOctets : FnScope ["self", "index"] ["self", "index"] (defScope i_BadOctets) := ⟨rfl, rfl, rfl, by decide +kernel, rfl, by decide +kernel, by decide +kernel⟩
abbrev i_BadOther : Stmt := initOf (topS 23)
theorem sci_BadOther : FnScope ["self", "thing"] ["self", "thing"] (defScope i_BadOther) := ⟨rfl, rfl, rfl, by decide +kernel, rfl, by decide +kernel, by decide +kernel⟩
abbrev i_BadOut : Stmt := initOf (topS 24)
theorem sci_BadOut : FnScope ["self", "thing"] ["self", "thing"] (defScope i_BadOut) := ⟨rfl, rfl, rfl, by decide +kernel, rfl, by decide +kernel, by decide +kernel⟩
abbrev i_BadPaper : Stmt := initOf (topS 25)
theorem sci_BadPaper : FnScope ["self", "thing"] ["self", "thing"] (defScope i_BadPaper) := ⟨rfl, rfl, rfl, by decide +kernel, rfl, by decide +kernel, by decide +kernel⟩
abbrev i_BadPattern : Stmt := initOf (topS 26)
theorem sci_BadPattern : FnScope ["self", "thing"] ["self", "thing"] (defScope i_BadPattern) := ⟨rfl, rfl, rfl, by decide +kernel, rfl, by decide +kernel, by decide +kernel⟩
abbrev i_BadPiece : Stmt := initOf (topS 27)
theorem sci_BadPiece : FnScope ["self", "thing"] ["self", "thing"] (defScope i_BadPiece) := ⟨rfl, rfl, rfl, by decide +kernel, rfl, by decide +kernel, by decide +kernel⟩
abbrev i_BadProgram : Stmt := initOf (topS 28)
theorem sci_BadProgram : FnScope ["self", "thing"] ["self", "thing"] (defScope i_BadProgram) := ⟨rfl, rfl, rfl, by decide +kernel, rfl, by decide +kernel, by decide +kernel⟩
abbrev i_BadRow : Stmt := initOf (topS 29)
theorem sci_BadRow : FnScope ["self", "thing"] ["self", "thing"] (defScope i_BadRow) := ⟨rfl, rfl, rfl, by decide +kernel, rfl, by decide +kernel, by decide +kernel⟩
abbrev i_BadRunner : Stmt := initOf (topS 30)
theorem sci_BadRunner : FnScope ["self", "thing"] ["self", "thing"] (defScope i_BadRunner) := ⟨rfl, rfl, rfl, by decide +kernel, rfl, by decide +kernel, by decide +kernel⟩
abbrev i_BadSaved : Stmt := initOf (topS 31)
theorem sci_BadSaved : FnScope ["self", "thing"] ["self", "thing"] (defScope i_BadSaved) := ⟨rfl, rfl, rfl, by decide +kernel, rfl, by decide +kernel, by decide +kernel⟩
abbrev i_BadSecond : Stmt := initOf (topS 32)
theorem sci_BadSecond : FnScope ["self", "thing"] ["self", "thing"] (defScope i_BadSecond) := ⟨rfl, rfl, rfl, by decide +kernel, rfl, by decide +kernel, by decide +kernel⟩
abbrev i_BadSet : Stmt := initOf (topS 33)
theorem sci_BadSet : FnScope ["self", "thing"] ["self", "thing"] (defScope i_BadSet) := ⟨rfl, rfl, rfl, by decide +kernel, rfl, by decide +kernel, by decide +kernel⟩
abbrev i_BadSigns : Stmt := initOf (topS 34)
theorem sci_BadSigns : FnScope ["self", "thing"] ["self", "thing"] (defScope i_BadSigns) := ⟨rfl, rfl, rfl, by decide +kernel, rfl, by decide +kernel, by decide +kernel⟩
abbrev i_BadSize : Stmt := initOf (topS 35)
theorem sci_BadSize : FnScope ["self", "thing"] ["self", "thing"] (defScope i_BadSize) := ⟨rfl, rfl, rfl, by decide +kernel, rfl, by decide +kernel, by decide +kernel⟩
abbrev i_BadState : Stmt := initOf (topS 36)
theorem sci_BadState : FnScope ["self", "thing"] ["self", "thing"] (defScope i_BadState) := ⟨rfl, rfl, rfl, by decide +kernel, rfl, by decide +kernel, by decide +kernel⟩
abbrev i_BadSteps : Stmt := initOf (topS 37)
theorem sci_BadSteps : FnScope ["self", "index"] ["self", "index"] (defScope i_BadSteps) := ⟨rfl, rfl, rfl, by decide +kernel, rfl, by decide +kernel, by decide +kernel⟩
abbrev i_BadTable : Stmt := initOf (topS 38)
theorem sci_BadTable : FnScope ["self", "thing"] ["self", "thing"] (defScope i_BadTable) := ⟨rfl, rfl, rfl, by decide +kernel, rfl, by decide +kernel, by decide +kernel⟩
abbrev i_BadText : Stmt := initOf (topS 39)
theorem sci_BadText : FnScope ["self", "line", "column", "what"] ["self", "line", "column", "what"] (defScope i_BadText) := ⟨rfl, rfl, rfl, by decide +kernel, rfl, by decide +kernel, by decide +kernel⟩
abbrev i_BadTriple : Stmt := initOf (topS 40)
theorem sci_BadTriple : FnScope ["self", "thing"] ["self", "thing"] (defScope i_BadTriple) := ⟨rfl, rfl, rfl, by decide +kernel, rfl, by decide +kernel, by decide +kernel⟩
abbrev i_BadWord : Stmt := initOf (topS 41)
theorem sci_BadWord : FnScope ["self", "thing"] ["self", "thing"] (defScope i_BadWord) := ⟨rfl, rfl, rfl, by decide +kernel, rfl, by decide +kernel, by decide +kernel⟩
abbrev i_Full : Stmt := initOf (topS 43)
theorem sci_Full : FnScope ["self", "many"] ["self", "many"] (defScope i_Full) := ⟨rfl, rfl, rfl, by decide +kernel, rfl, by decide +kernel, by decide +kernel⟩
abbrev i_Gap : Stmt := initOf (topS 44)
theorem sci_Gap : FnScope ["self", "index", "text"] ["self", "index", "text"] (defScope i_Gap) := ⟨rfl, rfl, rfl, by decide +kernel, rfl, by decide +kernel, by decide +kernel⟩
abbrev i_NoKind : Stmt := initOf (topS 48)
theorem sci_NoKind : FnScope ["self", "name"] ["self", "name"] (defScope i_NoKind) := ⟨rfl, rfl, rfl, by decide +kernel, rfl, by decide +kernel, by decide +kernel⟩
abbrev i_NoMove : Stmt := initOf (topS 49)
theorem sci_NoMove : FnScope ["self", "what"] ["self", "what"] (defScope i_NoMove) := ⟨rfl, rfl, rfl, by decide +kernel, rfl, by decide +kernel, by decide +kernel⟩
abbrev i_NotKind : Stmt := initOf (topS 50)
theorem sci_NotKind : FnScope ["self", "index"] ["self", "index"] (defScope i_NotKind) := ⟨rfl, rfl, rfl, by decide +kernel, rfl, by decide +kernel, by decide +kernel⟩
abbrev i_NotThere : Stmt := initOf (topS 51)
theorem sci_NotThere : FnScope ["self", "name"] ["self", "name"] (defScope i_NotThere) := ⟨rfl, rfl, rfl, by decide +kernel, rfl, by decide +kernel, by decide +kernel⟩
abbrev i_NotWatched : Stmt := initOf (topS 52)
theorem sci_NotWatched : FnScope ["self", "key"] ["self", "key"] (defScope i_NotWatched) := ⟨rfl, rfl, rfl, by decide +kernel, rfl, by decide +kernel, by decide +kernel⟩
abbrev i_NotWithin : Stmt := initOf (topS 54)
theorem sci_NotWithin : FnScope ["self", "text"] ["self", "text"] (defScope i_NotWithin) := ⟨rfl, rfl, rfl, by decide +kernel, rfl, by decide +kernel, by decide +kernel⟩
abbrev i_Refused : Stmt := initOf (topS 56)
theorem sci_Refused : FnScope ["self", "what"] ["self", "what"] (defScope i_Refused) := ⟨rfl, rfl, rfl, by decide +kernel, rfl, by decide +kernel, by decide +kernel⟩
abbrev i_There : Stmt := initOf (topS 57)
theorem sci_There : FnScope ["self", "name"] ["self", "name"] (defScope i_There) := ⟨rfl, rfl, rfl, by decide +kernel, rfl, by decide +kernel, by decide +kernel⟩
abbrev i_TooMany : Stmt := initOf (topS 58)
theorem sci_TooMany : FnScope ["self", "many"] ["self", "many"] (defScope i_TooMany) := ⟨rfl, rfl, rfl, by decide +kernel, rfl, by decide +kernel, by decide +kernel⟩
abbrev i_Unfit : Stmt := initOf (topS 59)
theorem sci_Unfit : FnScope ["self", "what"] ["self", "what"] (defScope i_Unfit) := ⟨rfl, rfl, rfl, by decide +kernel, rfl, by decide +kernel, by decide +kernel⟩
abbrev i_Used : Stmt := initOf (topS 60)
theorem sci_Used : FnScope ["self", "name"] ["self", "name"] (defScope i_Used) := ⟨rfl, rfl, rfl, by decide +kernel, rfl, by decide +kernel, by decide +kernel⟩
abbrev i_UsesNumber : Stmt := initOf (topS 61)
theorem sci_UsesNumber : FnScope ["self", "thing"] ["self", "thing"] (defScope i_UsesNumber) := ⟨rfl, rfl, rfl, by decide +kernel, rfl, by decide +kernel, by decide +kernel⟩
abbrev i_Watched : Stmt := initOf (topS 62)
theorem sci_Watched : FnScope ["self", "key"] ["self", "key"] (defScope i_Watched) := ⟨rfl, rfl, rfl, by decide +kernel, rfl, by decide +kernel, by decide +kernel⟩
/-- the addresses of the classes -/
structure CA where
  fe : Addr
  BadBy : Addr
  BadChain : Addr
  BadControl : Addr
  BadCore : Addr
  BadCores : Addr
  BadDeed : Addr
  BadEnds : Addr
  BadHigh : Addr
  BadInput : Addr
  BadInto : Addr
  BadKey : Addr
  BadLength : Addr
  BadLine : Addr
  BadListed : Addr
  BadListing : Addr
  BadLoaded : Addr
  BadMany : Addr
  BadName : Addr
  BadNames : Addr
  BadNumber : Addr
  BadOctets : Addr
  BadOther : Addr
  BadOut : Addr
  BadPaper : Addr
  BadPattern : Addr
  BadPiece : Addr
  BadProgram : Addr
  BadRow : Addr
  BadRunner : Addr
  BadSaved : Addr
  BadSecond : Addr
  BadSet : Addr
  BadSigns : Addr
  BadSize : Addr
  BadState : Addr
  BadSteps : Addr
  BadTable : Addr
  BadText : Addr
  BadTriple : Addr
  BadWord : Addr
  Done : Addr
  Full : Addr
  Gap : Addr
  NoAgain : Addr
  NoBack : Addr
  NoFuse : Addr
  NoKind : Addr
  NoMove : Addr
  NotKind : Addr
  NotThere : Addr
  NotWatched : Addr
  NotWhole : Addr
  NotWithin : Addr
  OtherSigns : Addr
  Refused : Addr
  There : Addr
  TooMany : Addr
  Unfit : Addr
  Used : Addr
  UsesNumber : Addr
  Watched : Addr
def CA.pa (ca : CA) : List (Addr × List Str) := [(ca.BadBy, ["thing"]), (ca.BadChain, ["index"]), (ca.BadControl, ["thing"]), (ca.BadCore, ["thing"]), (ca.BadCores, ["thing"]), (ca.BadDeed, ["index"]), (ca.BadEnds, ["index"]), (ca.BadHigh, ["thing"]), (ca.BadInput, ["thing"]), (ca.BadInto, ["thing"]), (ca.BadKey, ["thing"]), (ca.BadLength, ["thing"]), (ca.BadLine, ["line"]), (ca.BadListed, ["thing"]), (ca.BadListing, ["line"]), (ca.BadLoaded, ["thing"]), (ca.BadMany, ["thing"]), (ca.BadName, ["thing"])]
def CA.pb (ca : CA) : List (Addr × List Str) := [(ca.BadNames, ["index"]), (ca.BadNumber, ["thing"]), (ca.BadOctets, ["index"]), (ca.BadOther, ["thing"]), (ca.BadOut, ["thing"]), (ca.BadPaper, ["thing"]), (ca.BadPattern, ["thing"]), (ca.BadPiece, ["thing"]), (ca.BadProgram, ["thing"]), (ca.BadRow, ["thing"]), (ca.BadRunner, ["thing"]), (ca.BadSaved, ["thing"]), (ca.BadSecond, ["thing"]), (ca.BadSet, ["thing"]), (ca.BadSigns, ["thing"]), (ca.BadSize, ["thing"]), (ca.BadState, ["thing"]), (ca.BadSteps, ["index"])]
def CA.pc (ca : CA) : List (Addr × List Str) := [(ca.BadTable, ["thing"]), (ca.BadText, ["line", "column", "what"]), (ca.BadTriple, ["thing"]), (ca.BadWord, ["thing"]), (ca.Done, []), (ca.Full, ["many"]), (ca.Gap, ["index", "text"]), (ca.NoAgain, []), (ca.NoBack, []), (ca.NoFuse, []), (ca.NoKind, ["name"]), (ca.NoMove, ["what"]), (ca.NotKind, ["index"]), (ca.NotThere, ["name"]), (ca.NotWatched, ["key"]), (ca.NotWhole, []), (ca.NotWithin, ["text"]), (ca.OtherSigns, [])]
def CA.pd (ca : CA) : List (Addr × List Str) := [(ca.Refused, ["what"]), (ca.There, ["name"]), (ca.TooMany, ["many"]), (ca.Unfit, ["what"]), (ca.Used, ["name"]), (ca.UsesNumber, ["thing"]), (ca.Watched, ["key"])]
def CA.all (ca : CA) : List (Addr × List Str) := ca.pa ++ ca.pb ++ ca.pc ++ ca.pd
def CA.list (ca : CA) : List Addr := [ca.BadBy, ca.BadChain, ca.BadControl, ca.BadCore, ca.BadCores, ca.BadDeed, ca.BadEnds, ca.BadHigh, ca.BadInput, ca.BadInto, ca.BadKey, ca.BadLength, ca.BadLine, ca.BadListed, ca.BadListing, ca.BadLoaded, ca.BadMany, ca.BadName, ca.BadNames, ca.BadNumber, ca.BadOctets, ca.BadOther, ca.BadOut, ca.BadPaper, ca.BadPattern, ca.BadPiece, ca.BadProgram, ca.BadRow, ca.BadRunner, ca.BadSaved, ca.BadSecond, ca.BadSet, ca.BadSigns, ca.BadSize, ca.BadState, ca.BadSteps, ca.BadTable, ca.BadText, ca.BadTriple, ca.BadWord, ca.Done, ca.Full, ca.Gap, ca.NoAgain, ca.NoBack, ca.NoFuse, ca.NoKind, ca.NoMove, ca.NotKind, ca.NotThere, ca.NotWatched, ca.NotWhole, ca.NotWithin, ca.OtherSigns, ca.Refused, ca.There, ca.TooMany, ca.Unfit, ca.Used, ca.UsesNumber, ca.Watched]
theorem all_fst (ca : CA) : ca.all.map (·.1) = ca.list := rfl
/-- what the written part says of C's own __init__ -/
structure IniF (K : PySem.W.Frag) (C : Addr) (nm : List Str) (qual : Str) (st : Stmt) (ps : List Str) : Prop where
  no : ∀ f ∈ nm, PySem.W.findIn K (.ref C) f = some none
  ini : ∃ fI fd, PySem.W.findIn K (.ref C) "__init__" = some (some (.ref fI)) ∧ PySem.W.typeIn K (.ref fI) = some (.type "function") ∧ Fun K "__init__" qual st fI fd ∧ Binds K fd ps [] ∧ KwR K fd ps nm
structure Err (K : PySem.W.Frag) (mg : Str → Option Value) (ca : CA) : Prop where
  g : GetC K
  nd : (ca.fe :: ca.list).Nodup
  m_FilterError : mg "FilterError" = some (.ref ca.fe)
  f_FilterError : ClsB K ca.fe PySem.HandSPX.veTail
  z_FilterError : PySem.W.excIn K ca.fe PySem.HandSPX.veTail "ValueError.__new__" = true
  m_BadBy : mg "BadBy" = some (.ref ca.BadBy)
  f_BadBy : ClsB K ca.BadBy (.ref ca.fe :: PySem.HandSPX.veTail)
  o_BadBy : IniF K ca.BadBy ["thing"] "BadBy.__init__" i_BadBy ["self", "thing"]
  m_BadChain : mg "BadChain" = some (.ref ca.BadChain)
  f_BadChain : ClsB K ca.BadChain (.ref ca.fe :: PySem.HandSPX.veTail)
  o_BadChain : IniF K ca.BadChain ["index"] "BadChain.__init__" i_BadChain ["self", "index"]
  m_BadControl : mg "BadControl" = some (.ref ca.BadControl)
  f_BadControl : ClsB K ca.BadControl (.ref ca.fe :: PySem.HandSPX.veTail)
  o_BadControl : IniF K ca.BadControl ["thing"] "BadControl.__init__" i_BadControl ["self", "thing"]
  m_BadCore : mg "BadCore" = some (.ref ca.BadCore)
  f_BadCore : ClsB K ca.BadCore (.ref ca.fe :: PySem.HandSPX.veTail)
  o_BadCore : IniF K ca.BadCore ["thing"] "BadCore.__init__" i_BadCore ["self", "thing"]
  m_BadCores : mg "BadCores" = some (.ref ca.BadCores)
  f_BadCores : ClsB K ca.BadCores (.ref ca.fe :: PySem.HandSPX.veTail)
  o_BadCores : IniF K ca.BadCores ["thing"] "BadCores.__init__" i_BadCores ["self", "thing"]
  m_BadDeed : mg "BadDeed" = some (.ref ca.BadDeed)
  f_BadDeed : ClsB K ca.BadDeed (.ref ca.fe :: PySem.HandSPX.veTail)
  o_BadDeed : IniF K ca.BadDeed ["index"] "BadDeed.__init__" i_BadDeed ["self", "index"]
  m_BadEnds : mg "BadEnds" = some (.ref ca.BadEnds)
  f_BadEnds : ClsB K ca.BadEnds (.ref ca.fe :: PySem.HandSPX.veTail)
  o_BadEnds : IniF K ca.BadEnds ["index"] "BadEnds.__init__" i_BadEnds ["self", "index"]
  m_BadHigh : mg "BadHigh" = some (.ref ca.BadHigh)
  f_BadHigh : ClsB K ca.BadHigh (.ref ca.fe :: PySem.HandSPX.veTail)
  o_BadHigh : IniF K ca.BadHigh ["thing"] "BadHigh.__init__" i_BadHigh ["self", "thing"]
  m_BadInput : mg "BadInput" = some (.ref ca.BadInput)
  f_BadInput : ClsB K ca.BadInput (.ref ca.fe :: PySem.HandSPX.veTail)
  o_BadInput : IniF K ca.BadInput ["thing"] "BadInput.__init__" i_BadInput ["self", "thing"]
  m_BadInto : mg "BadInto" = some (.ref ca.BadInto)
  f_BadInto : ClsB K ca.BadInto (.ref ca.fe :: PySem.HandSPX.veTail)
  o_BadInto : IniF K ca.BadInto ["thing"] "BadInto.__init__" i_BadInto ["self", "thing"]
  m_BadKey : mg "BadKey" = some (.ref ca.BadKey)
  f_BadKey : ClsB K ca.BadKey (.ref ca.fe :: PySem.HandSPX.veTail)
  o_BadKey : IniF K ca.BadKey ["thing"] "BadKey.__init__" i_BadKey ["self", "thing"]
  m_BadLength : mg "BadLength" = some (.ref ca.BadLength)
  f_BadLength : ClsB K ca.BadLength (.ref ca.fe :: PySem.HandSPX.veTail)
  o_BadLength : IniF K ca.BadLength ["thing"] "BadLength.__init__" i_BadLength ["self", "thing"]
  m_BadLine : mg "BadLine" = some (.ref ca.BadLine)
  f_BadLine : ClsB K ca.BadLine (.ref ca.fe :: PySem.HandSPX.veTail)
  o_BadLine : IniF K ca.BadLine ["line"] "BadLine.__init__" i_BadLine ["self", "line"]
  m_BadListed : mg "BadListed" = some (.ref ca.BadListed)
  f_BadListed : ClsB K ca.BadListed (.ref ca.fe :: PySem.HandSPX.veTail)
  o_BadListed : IniF K ca.BadListed ["thing"] "BadListed.__init__" i_BadListed ["self", "thing"]
  m_BadListing : mg "BadListing" = some (.ref ca.BadListing)
  f_BadListing : ClsB K ca.BadListing (.ref ca.fe :: PySem.HandSPX.veTail)
  o_BadListing : IniF K ca.BadListing ["line"] "BadListing.__init__" i_BadListing ["self", "line"]
  m_BadLoaded : mg "BadLoaded" = some (.ref ca.BadLoaded)
  f_BadLoaded : ClsB K ca.BadLoaded (.ref ca.fe :: PySem.HandSPX.veTail)
  o_BadLoaded : IniF K ca.BadLoaded ["thing"] "BadLoaded.__init__" i_BadLoaded ["self", "thing"]
  m_BadMany : mg "BadMany" = some (.ref ca.BadMany)
  f_BadMany : ClsB K ca.BadMany (.ref ca.fe :: PySem.HandSPX.veTail)
  o_BadMany : IniF K ca.BadMany ["thing"] "BadMany.__init__" i_BadMany ["self", "thing"]
  m_BadName : mg "BadName" = some (.ref ca.BadName)
  f_BadName : ClsB K ca.BadName (.ref ca.fe :: PySem.HandSPX.veTail)
  o_BadName : IniF K ca.BadName ["thing"] "BadName.__init__" i_BadName ["self", "thing"]
  m_BadNames : mg "BadNames" = some (.ref ca.BadNames)
  f_BadNames : ClsB K ca.BadNames (.ref ca.fe :: PySem.HandSPX.veTail)
  o_BadNames : IniF K ca.BadNames ["index"] "BadNames.__init__" i_BadNames ["self", "index"]
  m_BadNumber : mg "BadNumber" = some (.ref ca.BadNumber)
  f_BadNumber : ClsB K ca.BadNumber (.ref ca.fe :: PySem.HandSPX.veTail)
  o_BadNumber : IniF K ca.BadNumber ["thing"] "BadNumber.__init__" i_BadNumber ["self", "thing"]
  m_BadOctets : mg "BadOctets" = some (.ref ca.BadOctets)
  f_BadOctets : ClsB K ca.BadOctets (.ref ca.fe :: PySem.HandSPX.veTail)
  o_BadOctets : IniF K ca.BadOctets ["index"] "BadOctets.__init__" i_BadOctets ["self", "index"]
  m_BadOther : mg "BadOther" = some (.ref ca.BadOther)
  f_BadOther : ClsB K ca.BadOther (.ref ca.fe :: PySem.HandSPX.veTail)
  o_BadOther : IniF K ca.BadOther ["thing"] "BadOther.__init__" i_BadOther ["self", "thing"]
  m_BadOut : mg "BadOut" = some (.ref ca.BadOut)
  f_BadOut : ClsB K ca.BadOut (.ref ca.fe :: PySem.HandSPX.veTail)
  o_BadOut : IniF K ca.BadOut ["thing"] "BadOut.__init__" i_BadOut ["self", "thing"]
  m_BadPaper : mg "BadPaper" = some (.ref ca.BadPaper)
  f_BadPaper : ClsB K ca.BadPaper (.ref ca.fe :: PySem.HandSPX.veTail)
  o_BadPaper : IniF K ca.BadPaper ["thing"] "BadPaper.__init__" i_BadPaper ["self", "thing"]
  m_BadPattern : mg "BadPattern" = some (.ref ca.BadPattern)
  f_BadPattern : ClsB K ca.BadPattern (.ref ca.fe :: PySem.HandSPX.veTail)
  o_BadPattern : IniF K ca.BadPattern ["thing"] "BadPattern.__init__" i_BadPattern ["self", "thing"]
  m_BadPiece : mg "BadPiece" = some (.ref ca.BadPiece)
  f_BadPiece : ClsB K ca.BadPiece (.ref ca.fe :: PySem.HandSPX.veTail)
  o_BadPiece : IniF K ca.BadPiece ["thing"] "BadPiece.__init__" i_BadPiece ["self", "thing"]
  m_BadProgram : mg "BadProgram" = some (.ref ca.BadProgram)
  f_BadProgram : ClsB K ca.BadProgram (.ref ca.fe :: PySem.HandSPX.veTail)
  o_BadProgram : IniF K ca.BadProgram ["thing"] "BadProgram.__init__" i_BadProgram ["self", "thing"]
  m_BadRow : mg "BadRow" = some (.ref ca.BadRow)
  f_BadRow : ClsB K ca.BadRow (.ref ca.fe :: PySem.HandSPX.veTail)
  o_BadRow : IniF K ca.BadRow ["thing"] "BadRow.__init__" i_BadRow ["self", "thing"]
  m_BadRunner : mg "BadRunner" = some (.ref ca.BadRunner)
  f_BadRunner : ClsB K ca.BadRunner (.ref ca.fe :: PySem.HandSPX.veTail)
  o_BadRunner : IniF K ca.BadRunner ["thing"] "BadRunner.__init__" i_BadRunner ["self", "thing"]
  m_BadSaved : mg "BadSaved" = some (.ref ca.BadSaved)
  f_BadSaved : ClsB K ca.BadSaved (.ref ca.fe :: PySem.HandSPX.veTail)
  o_BadSaved : IniF K ca.BadSaved ["thing"] "BadSaved.__init__" i_BadSaved ["self", "thing"]
  m_BadSecond : mg "BadSecond" = some (.ref ca.BadSecond)
  f_BadSecond : ClsB K ca.BadSecond (.ref ca.fe :: PySem.HandSPX.veTail)
  o_BadSecond : IniF K ca.BadSecond ["thing"] "BadSecond.__init__" i_BadSecond ["self", "thing"]
  m_BadSet : mg "BadSet" = some (.ref ca.BadSet)
  f_BadSet : ClsB K ca.BadSet (.ref ca.fe :: PySem.HandSPX.veTail)
  o_BadSet : IniF K ca.BadSet ["thing"] "BadSet.__init__" i_BadSet ["self", "thing"]
  m_BadSigns : mg "BadSigns" = some (.ref ca.BadSigns)
  f_BadSigns : ClsB K ca.BadSigns (.ref ca.fe :: PySem.HandSPX.veTail)
  o_BadSigns : IniF K ca.BadSigns ["thing"] "BadSigns.__init__" i_BadSigns ["self", "thing"]
  m_BadSize : mg "BadSize" = some (.ref ca.BadSize)
  f_BadSize : ClsB K ca.BadSize (.ref ca.fe :: PySem.HandSPX.veTail)
  o_BadSize : IniF K ca.BadSize ["thing"] "BadSize.__init__" i_BadSize ["self", "thing"]
  m_BadState : mg "BadState" = some (.ref ca.BadState)
  f_BadState : ClsB K ca.BadState (.ref ca.fe :: PySem.HandSPX.veTail)
  o_BadState : IniF K ca.BadState ["thing"] "BadState.__init__" i_BadState ["self", "thing"]
  m_BadSteps : mg "BadSteps" = some (.ref ca.BadSteps)
  f_BadSteps : ClsB K ca.BadSteps (.ref ca.fe :: PySem.HandSPX.veTail)
  o_BadSteps : IniF K ca.BadSteps ["index"] "BadSteps.__init__" i_BadSteps ["self", "index"]
  m_BadTable : mg "BadTable" = some (.ref ca.BadTable)
  f_BadTable : ClsB K ca.BadTable (.ref ca.fe :: PySem.HandSPX.veTail)
  o_BadTable : IniF K ca.BadTable ["thing"] "BadTable.__init__" i_BadTable ["self", "thing"]
  m_BadText : mg "BadText" = some (.ref ca.BadText)
  f_BadText : ClsB K ca.BadText (.ref ca.fe :: PySem.HandSPX.veTail)
  o_BadText : IniF K ca.BadText ["line", "column", "what"] "BadText.__init__" i_BadText ["self", "line", "column", "what"]
  m_BadTriple : mg "BadTriple" = some (.ref ca.BadTriple)
  f_BadTriple : ClsB K ca.BadTriple (.ref ca.fe :: PySem.HandSPX.veTail)
  o_BadTriple : IniF K ca.BadTriple ["thing"] "BadTriple.__init__" i_BadTriple ["self", "thing"]
  m_BadWord : mg "BadWord" = some (.ref ca.BadWord)
  f_BadWord : ClsB K ca.BadWord (.ref ca.fe :: PySem.HandSPX.veTail)
  o_BadWord : IniF K ca.BadWord ["thing"] "BadWord.__init__" i_BadWord ["self", "thing"]
  m_Done : mg "Done" = some (.ref ca.Done)
  f_Done : ClsB K ca.Done (.ref ca.fe :: PySem.HandSPX.veTail)
  z_Done : PySem.W.excIn K ca.Done PySem.HandSPX.veTail "ValueError.__new__" = true
  m_Full : mg "Full" = some (.ref ca.Full)
  f_Full : ClsB K ca.Full (.ref ca.fe :: PySem.HandSPX.veTail)
  o_Full : IniF K ca.Full ["many"] "Full.__init__" i_Full ["self", "many"]
  m_Gap : mg "Gap" = some (.ref ca.Gap)
  f_Gap : ClsB K ca.Gap (.ref ca.fe :: PySem.HandSPX.veTail)
  o_Gap : IniF K ca.Gap ["index", "text"] "Gap.__init__" i_Gap ["self", "index", "text"]
  m_NoAgain : mg "NoAgain" = some (.ref ca.NoAgain)
  f_NoAgain : ClsB K ca.NoAgain (.ref ca.fe :: PySem.HandSPX.veTail)
  z_NoAgain : PySem.W.excIn K ca.NoAgain PySem.HandSPX.veTail "ValueError.__new__" = true
  m_NoBack : mg "NoBack" = some (.ref ca.NoBack)
  f_NoBack : ClsB K ca.NoBack (.ref ca.fe :: PySem.HandSPX.veTail)
  z_NoBack : PySem.W.excIn K ca.NoBack PySem.HandSPX.veTail "ValueError.__new__" = true
  m_NoFuse : mg "NoFuse" = some (.ref ca.NoFuse)
  f_NoFuse : ClsB K ca.NoFuse (.ref ca.fe :: PySem.HandSPX.veTail)
  z_NoFuse : PySem.W.excIn K ca.NoFuse PySem.HandSPX.veTail "ValueError.__new__" = true
  m_NoKind : mg "NoKind" = some (.ref ca.NoKind)
  f_NoKind : ClsB K ca.NoKind (.ref ca.fe :: PySem.HandSPX.veTail)
  o_NoKind : IniF K ca.NoKind ["name"] "NoKind.__init__" i_NoKind ["self", "name"]
  m_NoMove : mg "NoMove" = some (.ref ca.NoMove)
  f_NoMove : ClsB K ca.NoMove (.ref ca.fe :: PySem.HandSPX.veTail)
  o_NoMove : IniF K ca.NoMove ["what"] "NoMove.__init__" i_NoMove ["self", "what"]
  m_NotKind : mg "NotKind" = some (.ref ca.NotKind)
  f_NotKind : ClsB K ca.NotKind (.ref ca.fe :: PySem.HandSPX.veTail)
  o_NotKind : IniF K ca.NotKind ["index"] "NotKind.__init__" i_NotKind ["self", "index"]
  m_NotThere : mg "NotThere" = some (.ref ca.NotThere)
  f_NotThere : ClsB K ca.NotThere (.ref ca.fe :: PySem.HandSPX.veTail)
  o_NotThere : IniF K ca.NotThere ["name"] "NotThere.__init__" i_NotThere ["self", "name"]
  m_NotWatched : mg "NotWatched" = some (.ref ca.NotWatched)
  f_NotWatched : ClsB K ca.NotWatched (.ref ca.fe :: PySem.HandSPX.veTail)
  o_NotWatched : IniF K ca.NotWatched ["key"] "NotWatched.__init__" i_NotWatched ["self", "key"]
  m_NotWhole : mg "NotWhole" = some (.ref ca.NotWhole)
  f_NotWhole : ClsB K ca.NotWhole (.ref ca.fe :: PySem.HandSPX.veTail)
  z_NotWhole : PySem.W.excIn K ca.NotWhole PySem.HandSPX.veTail "ValueError.__new__" = true
  m_NotWithin : mg "NotWithin" = some (.ref ca.NotWithin)
  f_NotWithin : ClsB K ca.NotWithin (.ref ca.fe :: PySem.HandSPX.veTail)
  o_NotWithin : IniF K ca.NotWithin ["text"] "NotWithin.__init__" i_NotWithin ["self", "text"]
  m_OtherSigns : mg "OtherSigns" = some (.ref ca.OtherSigns)
  f_OtherSigns : ClsB K ca.OtherSigns (.ref ca.fe :: PySem.HandSPX.veTail)
  z_OtherSigns : PySem.W.excIn K ca.OtherSigns PySem.HandSPX.veTail "ValueError.__new__" = true
  m_Refused : mg "Refused" = some (.ref ca.Refused)
  f_Refused : ClsB K ca.Refused (.ref ca.fe :: PySem.HandSPX.veTail)
  o_Refused : IniF K ca.Refused ["what"] "Refused.__init__" i_Refused ["self", "what"]
  m_There : mg "There" = some (.ref ca.There)
  f_There : ClsB K ca.There (.ref ca.fe :: PySem.HandSPX.veTail)
  o_There : IniF K ca.There ["name"] "There.__init__" i_There ["self", "name"]
  m_TooMany : mg "TooMany" = some (.ref ca.TooMany)
  f_TooMany : ClsB K ca.TooMany (.ref ca.fe :: PySem.HandSPX.veTail)
  o_TooMany : IniF K ca.TooMany ["many"] "TooMany.__init__" i_TooMany ["self", "many"]
  m_Unfit : mg "Unfit" = some (.ref ca.Unfit)
  f_Unfit : ClsB K ca.Unfit (.ref ca.fe :: PySem.HandSPX.veTail)
  o_Unfit : IniF K ca.Unfit ["what"] "Unfit.__init__" i_Unfit ["self", "what"]
  m_Used : mg "Used" = some (.ref ca.Used)
  f_Used : ClsB K ca.Used (.ref ca.fe :: PySem.HandSPX.veTail)
  o_Used : IniF K ca.Used ["name"] "Used.__init__" i_Used ["self", "name"]
  m_UsesNumber : mg "UsesNumber" = some (.ref ca.UsesNumber)
  f_UsesNumber : ClsB K ca.UsesNumber (.ref ca.fe :: PySem.HandSPX.veTail)
  o_UsesNumber : IniF K ca.UsesNumber ["thing"] "UsesNumber.__init__" i_UsesNumber ["self", "thing"]
  m_Watched : mg "Watched" = some (.ref ca.Watched)
  f_Watched : ClsB K ca.Watched (.ref ca.fe :: PySem.HandSPX.veTail)
  o_Watched : IniF K ca.Watched ["key"] "Watched.__init__" i_Watched ["self", "key"]
end K00

set_option Elab.async false
set_option linter.all false
set_option maxRecDepth 100000
set_option maxHeartbeats 4000000
namespace K00
open PySem PySem.Spec PyProof.Rows L2 Dl LamX
theorem ownE {K : PySem.W.Frag} {C : Addr} {nm : List Str} {bm : List Value} {qual : Str} {st : Stmt} {ps : List Str} (G : GetC K) (F : ClsB K C bm) (I : IniF K C nm qual st ps) : OwnE K C nm qual st ps := ⟨F.oc, F.xc G, I.no, I.ini⟩
section
variable {K : PySem.W.Frag} {mg : Str → Option Value} {ca : CA}
theorem k_BadBy (P : Program) (w : World) (base : Heap) (E : Err K mg ca) : ErrK P w K mg base "BadBy" ca.BadBy ["thing"] := errK1 (ownE E.g E.f_BadBy E.o_BadBy) E.m_BadBy sci_BadBy rfl fun X ⟨fa, cdv, A, outer, s, H, Ex, hX⟩ => by
  subst hX
  exact pss_one (ps_ost (pe_var (i := 0) rfl (Or.inl rfl)) (pe_var (i := 1) rfl (Or.inl rfl)))
theorem k_BadChain (P : Program) (w : World) (base : Heap) (E : Err K mg ca) : ErrK P w K mg base "BadChain" ca.BadChain ["index"] := errK1 (ownE E.g E.f_BadChain E.o_BadChain) E.m_BadChain sci_BadChain rfl fun X ⟨fa, cdv, A, outer, s, H, Ex, hX⟩ => by
  subst hX
  exact pss_one (ps_ost (pe_var (i := 0) rfl (Or.inl rfl)) (pe_var (i := 1) rfl (Or.inl rfl)))
theorem k_BadControl (P : Program) (w : World) (base : Heap) (E : Err K mg ca) : ErrK P w K mg base "BadControl" ca.BadControl ["thing"] := errK1 (ownE E.g E.f_BadControl E.o_BadControl) E.m_BadControl sci_BadControl rfl fun X ⟨fa, cdv, A, outer, s, H, Ex, hX⟩ => by
  subst hX
  exact pss_one (ps_ost (pe_var (i := 0) rfl (Or.inl rfl)) (pe_var (i := 1) rfl (Or.inl rfl)))
theorem k_BadCore (P : Program) (w : World) (base : Heap) (E : Err K mg ca) : ErrK P w K mg base "BadCore" ca.BadCore ["thing"] := errK1 (ownE E.g E.f_BadCore E.o_BadCore) E.m_BadCore sci_BadCore rfl fun X ⟨fa, cdv, A, outer, s, H, Ex, hX⟩ => by
  subst hX
  exact pss_one (ps_ost (pe_var (i := 0) rfl (Or.inl rfl)) (pe_var (i := 1) rfl (Or.inl rfl)))
theorem k_BadCores (P : Program) (w : World) (base : Heap) (E : Err K mg ca) : ErrK P w K mg base "BadCores" ca.BadCores ["thing"] := errK1 (ownE E.g E.f_BadCores E.o_BadCores) E.m_BadCores sci_BadCores rfl fun X ⟨fa, cdv, A, outer, s, H, Ex, hX⟩ => by
  subst hX
  exact pss_one (ps_ost (pe_var (i := 0) rfl (Or.inl rfl)) (pe_var (i := 1) rfl (Or.inl rfl)))
theorem k_BadDeed (P : Program) (w : World) (base : Heap) (E : Err K mg ca) : ErrK P w K mg base "BadDeed" ca.BadDeed ["index"] := errK1 (ownE E.g E.f_BadDeed E.o_BadDeed) E.m_BadDeed sci_BadDeed rfl fun X ⟨fa, cdv, A, outer, s, H, Ex, hX⟩ => by
  subst hX
  exact pss_one (ps_ost (pe_var (i := 0) rfl (Or.inl rfl)) (pe_var (i := 1) rfl (Or.inl rfl)))
theorem k_BadEnds (P : Program) (w : World) (base : Heap) (E : Err K mg ca) : ErrK P w K mg base "BadEnds" ca.BadEnds ["index"] := errK1 (ownE E.g E.f_BadEnds E.o_BadEnds) E.m_BadEnds sci_BadEnds rfl fun X ⟨fa, cdv, A, outer, s, H, Ex, hX⟩ => by
  subst hX
  exact pss_one (ps_ost (pe_var (i := 0) rfl (Or.inl rfl)) (pe_var (i := 1) rfl (Or.inl rfl)))
theorem k_BadHigh (P : Program) (w : World) (base : Heap) (E : Err K mg ca) : ErrK P w K mg base "BadHigh" ca.BadHigh ["thing"] := errK1 (ownE E.g E.f_BadHigh E.o_BadHigh) E.m_BadHigh sci_BadHigh rfl fun X ⟨fa, cdv, A, outer, s, H, Ex, hX⟩ => by
  subst hX
  exact pss_one (ps_ost (pe_var (i := 0) rfl (Or.inl rfl)) (pe_var (i := 1) rfl (Or.inl rfl)))
theorem k_BadInput (P : Program) (w : World) (base : Heap) (E : Err K mg ca) : ErrK P w K mg base "BadInput" ca.BadInput ["thing"] := errK1 (ownE E.g E.f_BadInput E.o_BadInput) E.m_BadInput sci_BadInput rfl fun X ⟨fa, cdv, A, outer, s, H, Ex, hX⟩ => by
  subst hX
  exact pss_one (ps_ost (pe_var (i := 0) rfl (Or.inl rfl)) (pe_var (i := 1) rfl (Or.inl rfl)))
theorem k_BadInto (P : Program) (w : World) (base : Heap) (E : Err K mg ca) : ErrK P w K mg base "BadInto" ca.BadInto ["thing"] := errK1 (ownE E.g E.f_BadInto E.o_BadInto) E.m_BadInto sci_BadInto rfl fun X ⟨fa, cdv, A, outer, s, H, Ex, hX⟩ => by
  subst hX
  exact pss_one (ps_ost (pe_var (i := 0) rfl (Or.inl rfl)) (pe_var (i := 1) rfl (Or.inl rfl)))
theorem k_BadKey (P : Program) (w : World) (base : Heap) (E : Err K mg ca) : ErrK P w K mg base "BadKey" ca.BadKey ["thing"] := errK1 (ownE E.g E.f_BadKey E.o_BadKey) E.m_BadKey sci_BadKey rfl fun X ⟨fa, cdv, A, outer, s, H, Ex, hX⟩ => by
  subst hX
  exact pss_one (ps_ost (pe_var (i := 0) rfl (Or.inl rfl)) (pe_var (i := 1) rfl (Or.inl rfl)))
theorem k_BadLength (P : Program) (w : World) (base : Heap) (E : Err K mg ca) : ErrK P w K mg base "BadLength" ca.BadLength ["thing"] := errK1 (ownE E.g E.f_BadLength E.o_BadLength) E.m_BadLength sci_BadLength rfl fun X ⟨fa, cdv, A, outer, s, H, Ex, hX⟩ => by
  subst hX
  exact pss_one (ps_ost (pe_var (i := 0) rfl (Or.inl rfl)) (pe_var (i := 1) rfl (Or.inl rfl)))
theorem k_BadLine (P : Program) (w : World) (base : Heap) (E : Err K mg ca) : ErrK P w K mg base "BadLine" ca.BadLine ["line"] := errK1 (ownE E.g E.f_BadLine E.o_BadLine) E.m_BadLine sci_BadLine rfl fun X ⟨fa, cdv, A, outer, s, H, Ex, hX⟩ => by
  subst hX
  exact pss_one (ps_ost (pe_var (i := 0) rfl (Or.inl rfl)) (pe_var (i := 1) rfl (Or.inl rfl)))
theorem k_BadListed (P : Program) (w : World) (base : Heap) (E : Err K mg ca) : ErrK P w K mg base "BadListed" ca.BadListed ["thing"] := errK1 (ownE E.g E.f_BadListed E.o_BadListed) E.m_BadListed sci_BadListed rfl fun X ⟨fa, cdv, A, outer, s, H, Ex, hX⟩ => by
  subst hX
  exact pss_one (ps_ost (pe_var (i := 0) rfl (Or.inl rfl)) (pe_var (i := 1) rfl (Or.inl rfl)))
theorem k_BadListing (P : Program) (w : World) (base : Heap) (E : Err K mg ca) : ErrK P w K mg base "BadListing" ca.BadListing ["line"] := errK1 (ownE E.g E.f_BadListing E.o_BadListing) E.m_BadListing sci_BadListing rfl fun X ⟨fa, cdv, A, outer, s, H, Ex, hX⟩ => by
  subst hX
  exact pss_one (ps_ost (pe_var (i := 0) rfl (Or.inl rfl)) (pe_var (i := 1) rfl (Or.inl rfl)))
theorem k_BadLoaded (P : Program) (w : World) (base : Heap) (E : Err K mg ca) : ErrK P w K mg base "BadLoaded" ca.BadLoaded ["thing"] := errK1 (ownE E.g E.f_BadLoaded E.o_BadLoaded) E.m_BadLoaded sci_BadLoaded rfl fun X ⟨fa, cdv, A, outer, s, H, Ex, hX⟩ => by
  subst hX
  exact pss_one (ps_ost (pe_var (i := 0) rfl (Or.inl rfl)) (pe_var (i := 1) rfl (Or.inl rfl)))
theorem k_BadMany (P : Program) (w : World) (base : Heap) (E : Err K mg ca) : ErrK P w K mg base "BadMany" ca.BadMany ["thing"] := errK1 (ownE E.g E.f_BadMany E.o_BadMany) E.m_BadMany sci_BadMany rfl fun X ⟨fa, cdv, A, outer, s, H, Ex, hX⟩ => by
  subst hX
  exact pss_one (ps_ost (pe_var (i := 0) rfl (Or.inl rfl)) (pe_var (i := 1) rfl (Or.inl rfl)))
theorem k_BadName (P : Program) (w : World) (base : Heap) (E : Err K mg ca) : ErrK P w K mg base "BadName" ca.BadName ["thing"] := errK1 (ownE E.g E.f_BadName E.o_BadName) E.m_BadName sci_BadName rfl fun X ⟨fa, cdv, A, outer, s, H, Ex, hX⟩ => by
  subst hX
  exact pss_one (ps_ost (pe_var (i := 0) rfl (Or.inl rfl)) (pe_var (i := 1) rfl (Or.inl rfl)))
theorem k_BadNames (P : Program) (w : World) (base : Heap) (E : Err K mg ca) : ErrK P w K mg base "BadNames" ca.BadNames ["index"] := errK1 (ownE E.g E.f_BadNames E.o_BadNames) E.m_BadNames sci_BadNames rfl fun X ⟨fa, cdv, A, outer, s, H, Ex, hX⟩ => by
  subst hX
  exact pss_one (ps_ost (pe_var (i := 0) rfl (Or.inl rfl)) (pe_var (i := 1) rfl (Or.inl rfl)))
theorem k_BadNumber (P : Program) (w : World) (base : Heap) (E : Err K mg ca) : ErrK P w K mg base "BadNumber" ca.BadNumber ["thing"] := errK1 (ownE E.g E.f_BadNumber E.o_BadNumber) E.m_BadNumber sci_BadNumber rfl fun X ⟨fa, cdv, A, outer, s, H, Ex, hX⟩ => by
  subst hX
  exact pss_one (ps_ost (pe_var (i := 0) rfl (Or.inl rfl)) (pe_var (i := 1) rfl (Or.inl rfl)))
theorem k_BadOctets (P : Program) (w : World) (base : Heap) (E : Err K mg ca) : ErrK P w K mg base "BadOctets" ca.BadOctets ["index"] := errK1 (ownE E.g E.f_BadOctets E.o_BadOctets) E.m_BadOctets sci_BadOctets rfl fun X ⟨fa, cdv, A, outer, s, H, Ex, hX⟩ => by
  subst hX
  exact pss_one (ps_ost (pe_var (i := 0) rfl (Or.inl rfl)) (pe_var (i := 1) rfl (Or.inl rfl)))
theorem k_BadOther (P : Program) (w : World) (base : Heap) (E : Err K mg ca) : ErrK P w K mg base "BadOther" ca.BadOther ["thing"] := errK1 (ownE E.g E.f_BadOther E.o_BadOther) E.m_BadOther sci_BadOther rfl fun X ⟨fa, cdv, A, outer, s, H, Ex, hX⟩ => by
  subst hX
  exact pss_one (ps_ost (pe_var (i := 0) rfl (Or.inl rfl)) (pe_var (i := 1) rfl (Or.inl rfl)))
theorem k_BadOut (P : Program) (w : World) (base : Heap) (E : Err K mg ca) : ErrK P w K mg base "BadOut" ca.BadOut ["thing"] := errK1 (ownE E.g E.f_BadOut E.o_BadOut) E.m_BadOut sci_BadOut rfl fun X ⟨fa, cdv, A, outer, s, H, Ex, hX⟩ => by
  subst hX
  exact pss_one (ps_ost (pe_var (i := 0) rfl (Or.inl rfl)) (pe_var (i := 1) rfl (Or.inl rfl)))
theorem k_BadPaper (P : Program) (w : World) (base : Heap) (E : Err K mg ca) : ErrK P w K mg base "BadPaper" ca.BadPaper ["thing"] := errK1 (ownE E.g E.f_BadPaper E.o_BadPaper) E.m_BadPaper sci_BadPaper rfl fun X ⟨fa, cdv, A, outer, s, H, Ex, hX⟩ => by
  subst hX
  exact pss_one (ps_ost (pe_var (i := 0) rfl (Or.inl rfl)) (pe_var (i := 1) rfl (Or.inl rfl)))
theorem k_BadPattern (P : Program) (w : World) (base : Heap) (E : Err K mg ca) : ErrK P w K mg base "BadPattern" ca.BadPattern ["thing"] := errK1 (ownE E.g E.f_BadPattern E.o_BadPattern) E.m_BadPattern sci_BadPattern rfl fun X ⟨fa, cdv, A, outer, s, H, Ex, hX⟩ => by
  subst hX
  exact pss_one (ps_ost (pe_var (i := 0) rfl (Or.inl rfl)) (pe_var (i := 1) rfl (Or.inl rfl)))
theorem k_BadPiece (P : Program) (w : World) (base : Heap) (E : Err K mg ca) : ErrK P w K mg base "BadPiece" ca.BadPiece ["thing"] := errK1 (ownE E.g E.f_BadPiece E.o_BadPiece) E.m_BadPiece sci_BadPiece rfl fun X ⟨fa, cdv, A, outer, s, H, Ex, hX⟩ => by
  subst hX
  exact pss_one (ps_ost (pe_var (i := 0) rfl (Or.inl rfl)) (pe_var (i := 1) rfl (Or.inl rfl)))
theorem k_BadProgram (P : Program) (w : World) (base : Heap) (E : Err K mg ca) : ErrK P w K mg base "BadProgram" ca.BadProgram ["thing"] := errK1 (ownE E.g E.f_BadProgram E.o_BadProgram) E.m_BadProgram sci_BadProgram rfl fun X ⟨fa, cdv, A, outer, s, H, Ex, hX⟩ => by
  subst hX
  exact pss_one (ps_ost (pe_var (i := 0) rfl (Or.inl rfl)) (pe_var (i := 1) rfl (Or.inl rfl)))
theorem k_BadRow (P : Program) (w : World) (base : Heap) (E : Err K mg ca) : ErrK P w K mg base "BadRow" ca.BadRow ["thing"] := errK1 (ownE E.g E.f_BadRow E.o_BadRow) E.m_BadRow sci_BadRow rfl fun X ⟨fa, cdv, A, outer, s, H, Ex, hX⟩ => by
  subst hX
  exact pss_one (ps_ost (pe_var (i := 0) rfl (Or.inl rfl)) (pe_var (i := 1) rfl (Or.inl rfl)))
theorem k_BadRunner (P : Program) (w : World) (base : Heap) (E : Err K mg ca) : ErrK P w K mg base "BadRunner" ca.BadRunner ["thing"] := errK1 (ownE E.g E.f_BadRunner E.o_BadRunner) E.m_BadRunner sci_BadRunner rfl fun X ⟨fa, cdv, A, outer, s, H, Ex, hX⟩ => by
  subst hX
  exact pss_one (ps_ost (pe_var (i := 0) rfl (Or.inl rfl)) (pe_var (i := 1) rfl (Or.inl rfl)))
theorem k_BadSaved (P : Program) (w : World) (base : Heap) (E : Err K mg ca) : ErrK P w K mg base "BadSaved" ca.BadSaved ["thing"] := errK1 (ownE E.g E.f_BadSaved E.o_BadSaved) E.m_BadSaved sci_BadSaved rfl fun X ⟨fa, cdv, A, outer, s, H, Ex, hX⟩ => by
  subst hX
  exact pss_one (ps_ost (pe_var (i := 0) rfl (Or.inl rfl)) (pe_var (i := 1) rfl (Or.inl rfl)))
theorem k_BadSecond (P : Program) (w : World) (base : Heap) (E : Err K mg ca) : ErrK P w K mg base "BadSecond" ca.BadSecond ["thing"] := errK1 (ownE E.g E.f_BadSecond E.o_BadSecond) E.m_BadSecond sci_BadSecond rfl fun X ⟨fa, cdv, A, outer, s, H, Ex, hX⟩ => by
  subst hX
  exact pss_one (ps_ost (pe_var (i := 0) rfl (Or.inl rfl)) (pe_var (i := 1) rfl (Or.inl rfl)))
theorem k_BadSet (P : Program) (w : World) (base : Heap) (E : Err K mg ca) : ErrK P w K mg base "BadSet" ca.BadSet ["thing"] := errK1 (ownE E.g E.f_BadSet E.o_BadSet) E.m_BadSet sci_BadSet rfl fun X ⟨fa, cdv, A, outer, s, H, Ex, hX⟩ => by
  subst hX
  exact pss_one (ps_ost (pe_var (i := 0) rfl (Or.inl rfl)) (pe_var (i := 1) rfl (Or.inl rfl)))
theorem k_BadSigns (P : Program) (w : World) (base : Heap) (E : Err K mg ca) : ErrK P w K mg base "BadSigns" ca.BadSigns ["thing"] := errK1 (ownE E.g E.f_BadSigns E.o_BadSigns) E.m_BadSigns sci_BadSigns rfl fun X ⟨fa, cdv, A, outer, s, H, Ex, hX⟩ => by
  subst hX
  exact pss_one (ps_ost (pe_var (i := 0) rfl (Or.inl rfl)) (pe_var (i := 1) rfl (Or.inl rfl)))
theorem k_BadSize (P : Program) (w : World) (base : Heap) (E : Err K mg ca) : ErrK P w K mg base "BadSize" ca.BadSize ["thing"] := errK1 (ownE E.g E.f_BadSize E.o_BadSize) E.m_BadSize sci_BadSize rfl fun X ⟨fa, cdv, A, outer, s, H, Ex, hX⟩ => by
  subst hX
  exact pss_one (ps_ost (pe_var (i := 0) rfl (Or.inl rfl)) (pe_var (i := 1) rfl (Or.inl rfl)))
theorem k_BadState (P : Program) (w : World) (base : Heap) (E : Err K mg ca) : ErrK P w K mg base "BadState" ca.BadState ["thing"] := errK1 (ownE E.g E.f_BadState E.o_BadState) E.m_BadState sci_BadState rfl fun X ⟨fa, cdv, A, outer, s, H, Ex, hX⟩ => by
  subst hX
  exact pss_one (ps_ost (pe_var (i := 0) rfl (Or.inl rfl)) (pe_var (i := 1) rfl (Or.inl rfl)))
theorem k_BadSteps (P : Program) (w : World) (base : Heap) (E : Err K mg ca) : ErrK P w K mg base "BadSteps" ca.BadSteps ["index"] := errK1 (ownE E.g E.f_BadSteps E.o_BadSteps) E.m_BadSteps sci_BadSteps rfl fun X ⟨fa, cdv, A, outer, s, H, Ex, hX⟩ => by
  subst hX
  exact pss_one (ps_ost (pe_var (i := 0) rfl (Or.inl rfl)) (pe_var (i := 1) rfl (Or.inl rfl)))
theorem k_BadTable (P : Program) (w : World) (base : Heap) (E : Err K mg ca) : ErrK P w K mg base "BadTable" ca.BadTable ["thing"] := errK1 (ownE E.g E.f_BadTable E.o_BadTable) E.m_BadTable sci_BadTable rfl fun X ⟨fa, cdv, A, outer, s, H, Ex, hX⟩ => by
  subst hX
  exact pss_one (ps_ost (pe_var (i := 0) rfl (Or.inl rfl)) (pe_var (i := 1) rfl (Or.inl rfl)))
theorem k_BadText (P : Program) (w : World) (base : Heap) (E : Err K mg ca) : ErrK P w K mg base "BadText" ca.BadText ["line", "column", "what"] := errK3 (ownE E.g E.f_BadText E.o_BadText) E.m_BadText sci_BadText rfl fun X ⟨fa, cdv, A, outer, s, H, Ex, hX⟩ => by
  subst hX
  exact pss_cons (ps_ost (pe_var (i := 0) rfl (Or.inl rfl)) (pe_var (i := 1) rfl (Or.inl rfl))) (pss_cons (ps_ost (pe_var (i := 0) rfl (Or.inl rfl)) (pe_var (i := 2) rfl (Or.inl rfl))) (pss_one (ps_ost (pe_var (i := 0) rfl (Or.inl rfl)) (pe_var (i := 3) rfl (Or.inl rfl)))))
theorem k_BadTriple (P : Program) (w : World) (base : Heap) (E : Err K mg ca) : ErrK P w K mg base "BadTriple" ca.BadTriple ["thing"] := errK1 (ownE E.g E.f_BadTriple E.o_BadTriple) E.m_BadTriple sci_BadTriple rfl fun X ⟨fa, cdv, A, outer, s, H, Ex, hX⟩ => by
  subst hX
  exact pss_one (ps_ost (pe_var (i := 0) rfl (Or.inl rfl)) (pe_var (i := 1) rfl (Or.inl rfl)))
theorem k_BadWord (P : Program) (w : World) (base : Heap) (E : Err K mg ca) : ErrK P w K mg base "BadWord" ca.BadWord ["thing"] := errK1 (ownE E.g E.f_BadWord E.o_BadWord) E.m_BadWord sci_BadWord rfl fun X ⟨fa, cdv, A, outer, s, H, Ex, hX⟩ => by
  subst hX
  exact pss_one (ps_ost (pe_var (i := 0) rfl (Or.inl rfl)) (pe_var (i := 1) rfl (Or.inl rfl)))
theorem k_Full (P : Program) (w : World) (base : Heap) (E : Err K mg ca) : ErrK P w K mg base "Full" ca.Full ["many"] := errK1 (ownE E.g E.f_Full E.o_Full) E.m_Full sci_Full rfl fun X ⟨fa, cdv, A, outer, s, H, Ex, hX⟩ => by
  subst hX
  exact pss_one (ps_ost (pe_var (i := 0) rfl (Or.inl rfl)) (pe_var (i := 1) rfl (Or.inl rfl)))
theorem k_Gap (P : Program) (w : World) (base : Heap) (E : Err K mg ca) : ErrK P w K mg base "Gap" ca.Gap ["index", "text"] := errK2 (ownE E.g E.f_Gap E.o_Gap) E.m_Gap sci_Gap rfl fun X ⟨fa, cdv, A, outer, s, H, Ex, hX⟩ => by
  subst hX
  exact pss_cons (ps_ost (pe_var (i := 0) rfl (Or.inl rfl)) (pe_var (i := 1) rfl (Or.inl rfl))) (pss_one (ps_ost (pe_var (i := 0) rfl (Or.inl rfl)) (pe_var (i := 2) rfl (Or.inl rfl))))
theorem k_NoKind (P : Program) (w : World) (base : Heap) (E : Err K mg ca) : ErrK P w K mg base "NoKind" ca.NoKind ["name"] := errK1 (ownE E.g E.f_NoKind E.o_NoKind) E.m_NoKind sci_NoKind rfl fun X ⟨fa, cdv, A, outer, s, H, Ex, hX⟩ => by
  subst hX
  exact pss_one (ps_ost (pe_var (i := 0) rfl (Or.inl rfl)) (pe_var (i := 1) rfl (Or.inl rfl)))
theorem k_NoMove (P : Program) (w : World) (base : Heap) (E : Err K mg ca) : ErrK P w K mg base "NoMove" ca.NoMove ["what"] := errK1 (ownE E.g E.f_NoMove E.o_NoMove) E.m_NoMove sci_NoMove rfl fun X ⟨fa, cdv, A, outer, s, H, Ex, hX⟩ => by
  subst hX
  exact pss_one (ps_ost (pe_var (i := 0) rfl (Or.inl rfl)) (pe_var (i := 1) rfl (Or.inl rfl)))
theorem k_NotKind (P : Program) (w : World) (base : Heap) (E : Err K mg ca) : ErrK P w K mg base "NotKind" ca.NotKind ["index"] := errK1 (ownE E.g E.f_NotKind E.o_NotKind) E.m_NotKind sci_NotKind rfl fun X ⟨fa, cdv, A, outer, s, H, Ex, hX⟩ => by
  subst hX
  exact pss_one (ps_ost (pe_var (i := 0) rfl (Or.inl rfl)) (pe_var (i := 1) rfl (Or.inl rfl)))
theorem k_NotThere (P : Program) (w : World) (base : Heap) (E : Err K mg ca) : ErrK P w K mg base "NotThere" ca.NotThere ["name"] := errK1 (ownE E.g E.f_NotThere E.o_NotThere) E.m_NotThere sci_NotThere rfl fun X ⟨fa, cdv, A, outer, s, H, Ex, hX⟩ => by
  subst hX
  exact pss_one (ps_ost (pe_var (i := 0) rfl (Or.inl rfl)) (pe_var (i := 1) rfl (Or.inl rfl)))
theorem k_NotWatched (P : Program) (w : World) (base : Heap) (E : Err K mg ca) : ErrK P w K mg base "NotWatched" ca.NotWatched ["key"] := errK1 (ownE E.g E.f_NotWatched E.o_NotWatched) E.m_NotWatched sci_NotWatched rfl fun X ⟨fa, cdv, A, outer, s, H, Ex, hX⟩ => by
  subst hX
  exact pss_one (ps_ost (pe_var (i := 0) rfl (Or.inl rfl)) (pe_var (i := 1) rfl (Or.inl rfl)))
theorem k_NotWithin (P : Program) (w : World) (base : Heap) (E : Err K mg ca) : ErrK P w K mg base "NotWithin" ca.NotWithin ["text"] := errK1 (ownE E.g E.f_NotWithin E.o_NotWithin) E.m_NotWithin sci_NotWithin rfl fun X ⟨fa, cdv, A, outer, s, H, Ex, hX⟩ => by
  subst hX
  exact pss_one (ps_ost (pe_var (i := 0) rfl (Or.inl rfl)) (pe_var (i := 1) rfl (Or.inl rfl)))
theorem k_Refused (P : Program) (w : World) (base : Heap) (E : Err K mg ca) : ErrK P w K mg base "Refused" ca.Refused ["what"] := errK1 (ownE E.g E.f_Refused E.o_Refused) E.m_Refused sci_Refused rfl fun X ⟨fa, cdv, A, outer, s, H, Ex, hX⟩ => by
  subst hX
  exact pss_one (ps_ost (pe_var (i := 0) rfl (Or.inl rfl)) (pe_var (i := 1) rfl (Or.inl rfl)))
theorem k_There (P : Program) (w : World) (base : Heap) (E : Err K mg ca) : ErrK P w K mg base "There" ca.There ["name"] := errK1 (ownE E.g E.f_There E.o_There) E.m_There sci_There rfl fun X ⟨fa, cdv, A, outer, s, H, Ex, hX⟩ => by
  subst hX
  exact pss_one (ps_ost (pe_var (i := 0) rfl (Or.inl rfl)) (pe_var (i := 1) rfl (Or.inl rfl)))
theorem k_TooMany (P : Program) (w : World) (base : Heap) (E : Err K mg ca) : ErrK P w K mg base "TooMany" ca.TooMany ["many"] := errK1 (ownE E.g E.f_TooMany E.o_TooMany) E.m_TooMany sci_TooMany rfl fun X ⟨fa, cdv, A, outer, s, H, Ex, hX⟩ => by
  subst hX
  exact pss_one (ps_ost (pe_var (i := 0) rfl (Or.inl rfl)) (pe_var (i := 1) rfl (Or.inl rfl)))
theorem k_Unfit (P : Program) (w : World) (base : Heap) (E : Err K mg ca) : ErrK P w K mg base "Unfit" ca.Unfit ["what"] := errK1 (ownE E.g E.f_Unfit E.o_Unfit) E.m_Unfit sci_Unfit rfl fun X ⟨fa, cdv, A, outer, s, H, Ex, hX⟩ => by
  subst hX
  exact pss_one (ps_ost (pe_var (i := 0) rfl (Or.inl rfl)) (pe_var (i := 1) rfl (Or.inl rfl)))
theorem k_Used (P : Program) (w : World) (base : Heap) (E : Err K mg ca) : ErrK P w K mg base "Used" ca.Used ["name"] := errK1 (ownE E.g E.f_Used E.o_Used) E.m_Used sci_Used rfl fun X ⟨fa, cdv, A, outer, s, H, Ex, hX⟩ => by
  subst hX
  exact pss_one (ps_ost (pe_var (i := 0) rfl (Or.inl rfl)) (pe_var (i := 1) rfl (Or.inl rfl)))
theorem k_UsesNumber (P : Program) (w : World) (base : Heap) (E : Err K mg ca) : ErrK P w K mg base "UsesNumber" ca.UsesNumber ["thing"] := errK1 (ownE E.g E.f_UsesNumber E.o_UsesNumber) E.m_UsesNumber sci_UsesNumber rfl fun X ⟨fa, cdv, A, outer, s, H, Ex, hX⟩ => by
  subst hX
  exact pss_one (ps_ost (pe_var (i := 0) rfl (Or.inl rfl)) (pe_var (i := 1) rfl (Or.inl rfl)))
theorem k_Watched (P : Program) (w : World) (base : Heap) (E : Err K mg ca) : ErrK P w K mg base "Watched" ca.Watched ["key"] := errK1 (ownE E.g E.f_Watched E.o_Watched) E.m_Watched sci_Watched rfl fun X ⟨fa, cdv, A, outer, s, H, Ex, hX⟩ => by
  subst hX
  exact pss_one (ps_ost (pe_var (i := 0) rfl (Or.inl rfl)) (pe_var (i := 1) rfl (Or.inl rfl)))
/-- all classes, their facts by place -/
theorem cls_all (E : Err K mg ca) : ∀ p ∈ ca.all, ClsB K p.1 (.ref ca.fe :: PySem.HandSPX.veTail) ∧ (∀ f ∈ p.2, PySem.W.findIn K (.ref p.1) f = some none) := by
  intro p hp
  simp only [CA.all, CA.pa, CA.pb, CA.pc, CA.pd, List.cons_append, List.nil_append, List.mem_cons, List.not_mem_nil, or_false] at hp
  rcases hp with rfl | rfl | rfl | rfl | rfl | rfl | rfl | rfl | rfl | rfl | rfl | rfl | rfl | rfl | rfl | rfl | rfl | rfl | rfl | rfl | rfl | rfl | rfl | rfl | rfl | rfl | rfl | rfl | rfl | rfl | rfl | rfl | rfl | rfl | rfl | rfl | rfl | rfl | rfl | rfl | rfl | rfl | rfl | rfl | rfl | rfl | rfl | rfl | rfl | rfl | rfl | rfl | rfl | rfl | rfl | rfl | rfl | rfl | rfl | rfl | rfl
  · exact ⟨E.f_BadBy, E.o_BadBy.no⟩
  · exact ⟨E.f_BadChain, E.o_BadChain.no⟩
  · exact ⟨E.f_BadControl, E.o_BadControl.no⟩
  · exact ⟨E.f_BadCore, E.o_BadCore.no⟩
  · exact ⟨E.f_BadCores, E.o_BadCores.no⟩
  · exact ⟨E.f_BadDeed, E.o_BadDeed.no⟩
  · exact ⟨E.f_BadEnds, E.o_BadEnds.no⟩
  · exact ⟨E.f_BadHigh, E.o_BadHigh.no⟩
  · exact ⟨E.f_BadInput, E.o_BadInput.no⟩
  · exact ⟨E.f_BadInto, E.o_BadInto.no⟩
  · exact ⟨E.f_BadKey, E.o_BadKey.no⟩
  · exact ⟨E.f_BadLength, E.o_BadLength.no⟩
  · exact ⟨E.f_BadLine, E.o_BadLine.no⟩
  · exact ⟨E.f_BadListed, E.o_BadListed.no⟩
  · exact ⟨E.f_BadListing, E.o_BadListing.no⟩
  · exact ⟨E.f_BadLoaded, E.o_BadLoaded.no⟩
  · exact ⟨E.f_BadMany, E.o_BadMany.no⟩
  · exact ⟨E.f_BadName, E.o_BadName.no⟩
  · exact ⟨E.f_BadNames, E.o_BadNames.no⟩
  · exact ⟨E.f_BadNumber, E.o_BadNumber.no⟩
  · exact ⟨E.f_BadOctets, E.o_BadOctets.no⟩
  · exact ⟨E.f_BadOther, E.o_BadOther.no⟩
  · exact ⟨E.f_BadOut, E.o_BadOut.no⟩
  · exact ⟨E.f_BadPaper, E.o_BadPaper.no⟩
  · exact ⟨E.f_BadPattern, E.o_BadPattern.no⟩
  · exact ⟨E.f_BadPiece, E.o_BadPiece.no⟩
  · exact ⟨E.f_BadProgram, E.o_BadProgram.no⟩
  · exact ⟨E.f_BadRow, E.o_BadRow.no⟩
  · exact ⟨E.f_BadRunner, E.o_BadRunner.no⟩
  · exact ⟨E.f_BadSaved, E.o_BadSaved.no⟩
  · exact ⟨E.f_BadSecond, E.o_BadSecond.no⟩
  · exact ⟨E.f_BadSet, E.o_BadSet.no⟩
  · exact ⟨E.f_BadSigns, E.o_BadSigns.no⟩
  · exact ⟨E.f_BadSize, E.o_BadSize.no⟩
  · exact ⟨E.f_BadState, E.o_BadState.no⟩
  · exact ⟨E.f_BadSteps, E.o_BadSteps.no⟩
  · exact ⟨E.f_BadTable, E.o_BadTable.no⟩
  · exact ⟨E.f_BadText, E.o_BadText.no⟩
  · exact ⟨E.f_BadTriple, E.o_BadTriple.no⟩
  · exact ⟨E.f_BadWord, E.o_BadWord.no⟩
  · exact ⟨E.f_Done, fun f hf => nomatch hf⟩
  · exact ⟨E.f_Full, E.o_Full.no⟩
  · exact ⟨E.f_Gap, E.o_Gap.no⟩
  · exact ⟨E.f_NoAgain, fun f hf => nomatch hf⟩
  · exact ⟨E.f_NoBack, fun f hf => nomatch hf⟩
  · exact ⟨E.f_NoFuse, fun f hf => nomatch hf⟩
  · exact ⟨E.f_NoKind, E.o_NoKind.no⟩
  · exact ⟨E.f_NoMove, E.o_NoMove.no⟩
  · exact ⟨E.f_NotKind, E.o_NotKind.no⟩
  · exact ⟨E.f_NotThere, E.o_NotThere.no⟩
  · exact ⟨E.f_NotWatched, E.o_NotWatched.no⟩
  · exact ⟨E.f_NotWhole, fun f hf => nomatch hf⟩
  · exact ⟨E.f_NotWithin, E.o_NotWithin.no⟩
  · exact ⟨E.f_OtherSigns, fun f hf => nomatch hf⟩
  · exact ⟨E.f_Refused, E.o_Refused.no⟩
  · exact ⟨E.f_There, E.o_There.no⟩
  · exact ⟨E.f_TooMany, E.o_TooMany.no⟩
  · exact ⟨E.f_Unfit, E.o_Unfit.no⟩
  · exact ⟨E.f_Used, E.o_Used.no⟩
  · exact ⟨E.f_UsesNumber, E.o_UsesNumber.no⟩
  · exact ⟨E.f_Watched, E.o_Watched.no⟩
theorem names_all (ca : CA) : ∀ p ∈ ca.all, p.2.Nodup ∧ p.2.length ≤ 3 := by
  have h : ∀ l ∈ ca.all.map (·.2), l.Nodup ∧ l.length ≤ 3 := by
    show ∀ l ∈ [(["thing"] : List Str), (["index"] : List Str), (["thing"] : List Str), (["thing"] : List Str), (["thing"] : List Str), (["index"] : List Str), (["index"] : List Str), (["thing"] : List Str), (["thing"] : List Str), (["thing"] : List Str), (["thing"] : List Str), (["thing"] : List Str), (["line"] : List Str), (["thing"] : List Str), (["line"] : List Str), (["thing"] : List Str), (["thing"] : List Str), (["thing"] : List Str), (["index"] : List Str), (["thing"] : List Str), (["index"] : List Str), (["thing"] : List Str), (["thing"] : List Str), (["thing"] : List Str), (["thing"] : List Str), (["thing"] : List Str), (["thing"] : List Str), (["thing"] : List Str), (["thing"] : List Str), (["thing"] : List Str), (["thing"] : List Str), (["thing"] : List Str), (["thing"] : List Str), (["thing"] : List Str), (["thing"] : List Str), (["index"] : List Str), (["thing"] : List Str), (["line", "column", "what"] : List Str), (["thing"] : List Str), (["thing"] : List Str), ([] : List Str), (["many"] : List Str), (["index", "text"] : List Str), ([] : List Str), ([] : List Str), ([] : List Str), (["name"] : List Str), (["what"] : List Str), (["index"] : List Str), (["name"] : List Str), (["key"] : List Str), ([] : List Str), (["text"] : List Str), ([] : List Str), (["what"] : List Str), (["name"] : List Str), (["many"] : List Str), (["what"] : List Str), (["name"] : List Str), (["thing"] : List Str), (["key"] : List Str)], _
    decide +kernel
  exact fun p hp => h _ (List.mem_map.mpr ⟨p, hp, rfl⟩)
end
end K00

set_option Elab.async false
set_option linter.all false
set_option maxRecDepth 100000
set_option maxHeartbeats 4000000
namespace K00
open PySem PySem.Spec PyProof.Rows L2 Dl LamX
/-- the error by place, the error by name, a lambda, the row -/
theorem item1 {X : Cx} {δ : List Dl.Slot} {cn n q : Str} {C T c : Addr} {x0 : PyData} {params : Arguments} {scope : Scope} {a1 a2 a3 p1 p2 p3 p4 p5 p6 p7 p8 p9 p10 p11 : Pos} {x1} (E : ErrK X.prog X.w X.K X.mg X.base cn C [n]) (LA : LamAt1 X q c T) (h0 : δ[0]? = some (.own (tbR X.K x0 T q))) (hr : Room 2 X.A)
    (L : LamWell ⟨q, params, .List [.Attribute (.Name "e" a1) n a2] a3, scope⟩ [n]) (hdef : defaultsOf params X.env = ([], []) := by rfl) (hN : X.N[0]? = some ("x" : Str) := by rfl) (hv : Vis X.env.scope ("x" : Str) := by exact Or.inl rfl) (hg : Gl X cn := by rfl) (hdb : (cn == ("__debug__" : Str)) = false := by decide) :
    XFd X δ (.Tuple [.Call (.Name cn p1) [.Name "x" p2] [] p3, .Call (.Name cn p4) [] [⟨some n, .Name "x" p5, p6⟩] p7, .Lambda params (.List [.Attribute (.Name "e" a1) n a2] a3) scope p8, .List [.Name "x" p9] p10] x1 p11) (itemD C [n] [x0]) :=
  xfd_tup4 (xf_of (xe_mkE E (xa_cons (xe_tb h0 hN hv) xa_nil) rfl (by show 1 ≤ 1000; decide) hr hg hdb)) (xf_of (xe_mkK E (pk_xcons (xe_tb h0 hN hv) pk_xnil) rfl hr rfl hg hdb)) (xf_lam LA h0 L hdef) (xf_of (xe_lst (xa_cons (xe_tb h0 hN hv) xa_nil)))
def F_made (l : List (Addr × List Str)) (ds : List PyData) (d : PyData) : Prop := ∃ x y z, ds = [x, y, z] ∧ d = .list (itemsD x y z l)
def da (K : PySem.W.Frag) (T : Addr) (q : Str) (x y z : PyData) (more : List Dl.Slot) (ds : List PyData) : List Dl.Slot := .own (tbR K x T q) :: .dat y :: .dat z :: .own (accR K ds) :: more
section
variable {X : Cx} {T : Addr} {q : Str} {x y z d : PyData} {more : List Dl.Slot} {ds : List PyData} {e : Expr} {p p1 p2 pos : Pos} {rest : List Stmt} {R : Post}
theorem app1 (he : XFd X (da X.K T q x y z more ds) e d) (hz : ds.length < 1000000) (k : XB X (da X.K T q x y z more (ds ++ [d])) rest R) (hi : X.N[3]? = some ("found" : Str) := by rfl) (hv : Vis X.env.scope ("found" : Str) := by exact Or.inl rfl)
    (hline : (p2.endLine == p.line) = true := by rfl) (hs : starEach [e] X.env = (false, eval e X.env) :: starEach [] X.env := by rfl) : XB X (da X.K T q x y z more ds) (.Expr (.Call (.Attribute (.Name "found" p1) "append" p2) [e] [] p) pos :: rest) R :=
  xb_appF 3 rfl he hz k hi hv (by decide) (by decide) rfl (by rw [hs]; rfl) hline hs rfl rfl
end
section
variable {P : Program} {w : World} {K : PySem.W.Frag} {mg : Str → Option Value} {base : Heap} {ca : CA} {co : CO}
theorem c_law_made_a (T : Txt K mg co) (E : Err K mg ca) (TB : TabB base mg co.a co.ta) : Def P w K mg base 3 "_law_made_a" ["x", "y", "z"] (SpT K co.ta "_law_made_a.<locals>.<lambda>" (F_made ca.pa)) := by
  refine def_tab T.a_law_made_a sc_law_made_a (fun ds d h => ?_) ?_
  · obtain ⟨x, y, z, rfl, _⟩ := h
    exact ⟨rfl, _, _, rfl⟩
  rintro _ ⟨fa, A, outer, s, H, Ex, hr, rfl⟩ x _ _ ⟨_, y, z, e, rfl⟩
  cases e
  show XB _ [.own (tbR K x co.ta "_law_made_a.<locals>.<lambda>"), .dat y, .dat z, .no] _ _
  have LA : LamAt1 (cxOf CX0 P w K mg base ["x", "y", "z", "found"] "_law_made_a" (defScope s_law_made_a) fa (.ref co.a) A outer s H Ex).nox "_law_made_a.<locals>.<lambda>" co.a co.ta := ⟨TB, rfl, rfl⟩
  refine xb_asgA 3 (xn_lst xa_nil) ?_ sc_law_made_a.nd
  show XB _ (da K co.ta "_law_made_a.<locals>.<lambda>" x y z [] []) _ _
  refine app1 (item1 (k_BadBy P w base E) LA rfl hr ⟨rfl, rfl, rfl, rfl, ⟨_, _, rfl, .cons _ _ .nil⟩, fun _ _ _ _ => rfl⟩) (by exact Nat.le_of_ble_eq_true rfl) ?_
  show XB _ (da K co.ta "_law_made_a.<locals>.<lambda>" x y z [] [itemD ca.BadBy ["thing"] [x]]) _ _
  refine app1 (item1 (k_BadChain P w base E) LA rfl hr ⟨rfl, rfl, rfl, rfl, ⟨_, _, rfl, .cons _ _ .nil⟩, fun _ _ _ _ => rfl⟩) (by exact Nat.le_of_ble_eq_true rfl) ?_
  show XB _ (da K co.ta "_law_made_a.<locals>.<lambda>" x y z [] [itemD ca.BadBy ["thing"] [x], itemD ca.BadChain ["index"] [x]]) _ _
  refine app1 (item1 (k_BadControl P w base E) LA rfl hr ⟨rfl, rfl, rfl, rfl, ⟨_, _, rfl, .cons _ _ .nil⟩, fun _ _ _ _ => rfl⟩) (by exact Nat.le_of_ble_eq_true rfl) ?_
  show XB _ (da K co.ta "_law_made_a.<locals>.<lambda>" x y z [] [itemD ca.BadBy ["thing"] [x], itemD ca.BadChain ["index"] [x], itemD ca.BadControl ["thing"] [x]]) _ _
  refine app1 (item1 (k_BadCore P w base E) LA rfl hr ⟨rfl, rfl, rfl, rfl, ⟨_, _, rfl, .cons _ _ .nil⟩, fun _ _ _ _ => rfl⟩) (by exact Nat.le_of_ble_eq_true rfl) ?_
  show XB _ (da K co.ta "_law_made_a.<locals>.<lambda>" x y z [] [itemD ca.BadBy ["thing"] [x], itemD ca.BadChain ["index"] [x], itemD ca.BadControl ["thing"] [x], itemD ca.BadCore ["thing"] [x]]) _ _
  refine app1 (item1 (k_BadCores P w base E) LA rfl hr ⟨rfl, rfl, rfl, rfl, ⟨_, _, rfl, .cons _ _ .nil⟩, fun _ _ _ _ => rfl⟩) (by exact Nat.le_of_ble_eq_true rfl) ?_
  show XB _ (da K co.ta "_law_made_a.<locals>.<lambda>" x y z [] [itemD ca.BadBy ["thing"] [x], itemD ca.BadChain ["index"] [x], itemD ca.BadControl ["thing"] [x], itemD ca.BadCore ["thing"] [x], itemD ca.BadCores ["thing"] [x]]) _ _
  refine app1 (item1 (k_BadDeed P w base E) LA rfl hr ⟨rfl, rfl, rfl, rfl, ⟨_, _, rfl, .cons _ _ .nil⟩, fun _ _ _ _ => rfl⟩) (by exact Nat.le_of_ble_eq_true rfl) ?_
  show XB _ (da K co.ta "_law_made_a.<locals>.<lambda>" x y z [] [itemD ca.BadBy ["thing"] [x], itemD ca.BadChain ["index"] [x], itemD ca.BadControl ["thing"] [x], itemD ca.BadCore ["thing"] [x], itemD ca.BadCores ["thing"] [x], itemD ca.BadDeed ["index"] [x]]) _ _
  refine app1 (item1 (k_BadEnds P w base E) LA rfl hr ⟨rfl, rfl, rfl, rfl, ⟨_, _, rfl, .cons _ _ .nil⟩, fun _ _ _ _ => rfl⟩) (by exact Nat.le_of_ble_eq_true rfl) ?_
  show XB _ (da K co.ta "_law_made_a.<locals>.<lambda>" x y z [] [itemD ca.BadBy ["thing"] [x], itemD ca.BadChain ["index"] [x], itemD ca.BadControl ["thing"] [x], itemD ca.BadCore ["thing"] [x], itemD ca.BadCores ["thing"] [x], itemD ca.BadDeed ["index"] [x], itemD ca.BadEnds ["index"] [x]]) _ _
  refine app1 (item1 (k_BadHigh P w base E) LA rfl hr ⟨rfl, rfl, rfl, rfl, ⟨_, _, rfl, .cons _ _ .nil⟩, fun _ _ _ _ => rfl⟩) (by exact Nat.le_of_ble_eq_true rfl) ?_
  show XB _ (da K co.ta "_law_made_a.<locals>.<lambda>" x y z [] [itemD ca.BadBy ["thing"] [x], itemD ca.BadChain ["index"] [x], itemD ca.BadControl ["thing"] [x], itemD ca.BadCore ["thing"] [x], itemD ca.BadCores ["thing"] [x], itemD ca.BadDeed ["index"] [x], itemD ca.BadEnds ["index"] [x], itemD ca.BadHigh ["thing"] [x]]) _ _
  refine app1 (item1 (k_BadInput P w base E) LA rfl hr ⟨rfl, rfl, rfl, rfl, ⟨_, _, rfl, .cons _ _ .nil⟩, fun _ _ _ _ => rfl⟩) (by exact Nat.le_of_ble_eq_true rfl) ?_
  show XB _ (da K co.ta "_law_made_a.<locals>.<lambda>" x y z [] [itemD ca.BadBy ["thing"] [x], itemD ca.BadChain ["index"] [x], itemD ca.BadControl ["thing"] [x], itemD ca.BadCore ["thing"] [x], itemD ca.BadCores ["thing"] [x], itemD ca.BadDeed ["index"] [x], itemD ca.BadEnds ["index"] [x], itemD ca.BadHigh ["thing"] [x], itemD ca.BadInput ["thing"] [x]]) _ _
  refine app1 (item1 (k_BadInto P w base E) LA rfl hr ⟨rfl, rfl, rfl, rfl, ⟨_, _, rfl, .cons _ _ .nil⟩, fun _ _ _ _ => rfl⟩) (by exact Nat.le_of_ble_eq_true rfl) ?_
  show XB _ (da K co.ta "_law_made_a.<locals>.<lambda>" x y z [] [itemD ca.BadBy ["thing"] [x], itemD ca.BadChain ["index"] [x], itemD ca.BadControl ["thing"] [x], itemD ca.BadCore ["thing"] [x], itemD ca.BadCores ["thing"] [x], itemD ca.BadDeed ["index"] [x], itemD ca.BadEnds ["index"] [x], itemD ca.BadHigh ["thing"] [x], itemD ca.BadInput ["thing"] [x], itemD ca.BadInto ["thing"] [x]]) _ _
  refine app1 (item1 (k_BadKey P w base E) LA rfl hr ⟨rfl, rfl, rfl, rfl, ⟨_, _, rfl, .cons _ _ .nil⟩, fun _ _ _ _ => rfl⟩) (by exact Nat.le_of_ble_eq_true rfl) ?_
  show XB _ (da K co.ta "_law_made_a.<locals>.<lambda>" x y z [] [itemD ca.BadBy ["thing"] [x], itemD ca.BadChain ["index"] [x], itemD ca.BadControl ["thing"] [x], itemD ca.BadCore ["thing"] [x], itemD ca.BadCores ["thing"] [x], itemD ca.BadDeed ["index"] [x], itemD ca.BadEnds ["index"] [x], itemD ca.BadHigh ["thing"] [x], itemD ca.BadInput ["thing"] [x], itemD ca.BadInto ["thing"] [x], itemD ca.BadKey ["thing"] [x]]) _ _
  refine app1 (item1 (k_BadLength P w base E) LA rfl hr ⟨rfl, rfl, rfl, rfl, ⟨_, _, rfl, .cons _ _ .nil⟩, fun _ _ _ _ => rfl⟩) (by exact Nat.le_of_ble_eq_true rfl) ?_
  show XB _ (da K co.ta "_law_made_a.<locals>.<lambda>" x y z [] [itemD ca.BadBy ["thing"] [x], itemD ca.BadChain ["index"] [x], itemD ca.BadControl ["thing"] [x], itemD ca.BadCore ["thing"] [x], itemD ca.BadCores ["thing"] [x], itemD ca.BadDeed ["index"] [x], itemD ca.BadEnds ["index"] [x], itemD ca.BadHigh ["thing"] [x], itemD ca.BadInput ["thing"] [x], itemD ca.BadInto ["thing"] [x], itemD ca.BadKey ["thing"] [x], itemD ca.BadLength ["thing"] [x]]) _ _
  refine app1 (item1 (k_BadLine P w base E) LA rfl hr ⟨rfl, rfl, rfl, rfl, ⟨_, _, rfl, .cons _ _ .nil⟩, fun _ _ _ _ => rfl⟩) (by exact Nat.le_of_ble_eq_true rfl) ?_
  show XB _ (da K co.ta "_law_made_a.<locals>.<lambda>" x y z [] [itemD ca.BadBy ["thing"] [x], itemD ca.BadChain ["index"] [x], itemD ca.BadControl ["thing"] [x], itemD ca.BadCore ["thing"] [x], itemD ca.BadCores ["thing"] [x], itemD ca.BadDeed ["index"] [x], itemD ca.BadEnds ["index"] [x], itemD ca.BadHigh ["thing"] [x], itemD ca.BadInput ["thing"] [x], itemD ca.BadInto ["thing"] [x], itemD ca.BadKey ["thing"] [x], itemD ca.BadLength ["thing"] [x], itemD ca.BadLine ["line"] [x]]) _ _
  refine app1 (item1 (k_BadListed P w base E) LA rfl hr ⟨rfl, rfl, rfl, rfl, ⟨_, _, rfl, .cons _ _ .nil⟩, fun _ _ _ _ => rfl⟩) (by exact Nat.le_of_ble_eq_true rfl) ?_
  show XB _ (da K co.ta "_law_made_a.<locals>.<lambda>" x y z [] [itemD ca.BadBy ["thing"] [x], itemD ca.BadChain ["index"] [x], itemD ca.BadControl ["thing"] [x], itemD ca.BadCore ["thing"] [x], itemD ca.BadCores ["thing"] [x], itemD ca.BadDeed ["index"] [x], itemD ca.BadEnds ["index"] [x], itemD ca.BadHigh ["thing"] [x], itemD ca.BadInput ["thing"] [x], itemD ca.BadInto ["thing"] [x], itemD ca.BadKey ["thing"] [x], itemD ca.BadLength ["thing"] [x], itemD ca.BadLine ["line"] [x], itemD ca.BadListed ["thing"] [x]]) _ _
  refine app1 (item1 (k_BadListing P w base E) LA rfl hr ⟨rfl, rfl, rfl, rfl, ⟨_, _, rfl, .cons _ _ .nil⟩, fun _ _ _ _ => rfl⟩) (by exact Nat.le_of_ble_eq_true rfl) ?_
  show XB _ (da K co.ta "_law_made_a.<locals>.<lambda>" x y z [] [itemD ca.BadBy ["thing"] [x], itemD ca.BadChain ["index"] [x], itemD ca.BadControl ["thing"] [x], itemD ca.BadCore ["thing"] [x], itemD ca.BadCores ["thing"] [x], itemD ca.BadDeed ["index"] [x], itemD ca.BadEnds ["index"] [x], itemD ca.BadHigh ["thing"] [x], itemD ca.BadInput ["thing"] [x], itemD ca.BadInto ["thing"] [x], itemD ca.BadKey ["thing"] [x], itemD ca.BadLength ["thing"] [x], itemD ca.BadLine ["line"] [x], itemD ca.BadListed ["thing"] [x], itemD ca.BadListing ["line"] [x]]) _ _
  refine app1 (item1 (k_BadLoaded P w base E) LA rfl hr ⟨rfl, rfl, rfl, rfl, ⟨_, _, rfl, .cons _ _ .nil⟩, fun _ _ _ _ => rfl⟩) (by exact Nat.le_of_ble_eq_true rfl) ?_
  show XB _ (da K co.ta "_law_made_a.<locals>.<lambda>" x y z [] [itemD ca.BadBy ["thing"] [x], itemD ca.BadChain ["index"] [x], itemD ca.BadControl ["thing"] [x], itemD ca.BadCore ["thing"] [x], itemD ca.BadCores ["thing"] [x], itemD ca.BadDeed ["index"] [x], itemD ca.BadEnds ["index"] [x], itemD ca.BadHigh ["thing"] [x], itemD ca.BadInput ["thing"] [x], itemD ca.BadInto ["thing"] [x], itemD ca.BadKey ["thing"] [x], itemD ca.BadLength ["thing"] [x], itemD ca.BadLine ["line"] [x], itemD ca.BadListed ["thing"] [x], itemD ca.BadListing ["line"] [x], itemD ca.BadLoaded ["thing"] [x]]) _ _
  refine app1 (item1 (k_BadMany P w base E) LA rfl hr ⟨rfl, rfl, rfl, rfl, ⟨_, _, rfl, .cons _ _ .nil⟩, fun _ _ _ _ => rfl⟩) (by exact Nat.le_of_ble_eq_true rfl) ?_
  show XB _ (da K co.ta "_law_made_a.<locals>.<lambda>" x y z [] [itemD ca.BadBy ["thing"] [x], itemD ca.BadChain ["index"] [x], itemD ca.BadControl ["thing"] [x], itemD ca.BadCore ["thing"] [x], itemD ca.BadCores ["thing"] [x], itemD ca.BadDeed ["index"] [x], itemD ca.BadEnds ["index"] [x], itemD ca.BadHigh ["thing"] [x], itemD ca.BadInput ["thing"] [x], itemD ca.BadInto ["thing"] [x], itemD ca.BadKey ["thing"] [x], itemD ca.BadLength ["thing"] [x], itemD ca.BadLine ["line"] [x], itemD ca.BadListed ["thing"] [x], itemD ca.BadListing ["line"] [x], itemD ca.BadLoaded ["thing"] [x], itemD ca.BadMany ["thing"] [x]]) _ _
  refine app1 (item1 (k_BadName P w base E) LA rfl hr ⟨rfl, rfl, rfl, rfl, ⟨_, _, rfl, .cons _ _ .nil⟩, fun _ _ _ _ => rfl⟩) (by exact Nat.le_of_ble_eq_true rfl) ?_
  show XB _ (da K co.ta "_law_made_a.<locals>.<lambda>" x y z [] [itemD ca.BadBy ["thing"] [x], itemD ca.BadChain ["index"] [x], itemD ca.BadControl ["thing"] [x], itemD ca.BadCore ["thing"] [x], itemD ca.BadCores ["thing"] [x], itemD ca.BadDeed ["index"] [x], itemD ca.BadEnds ["index"] [x], itemD ca.BadHigh ["thing"] [x], itemD ca.BadInput ["thing"] [x], itemD ca.BadInto ["thing"] [x], itemD ca.BadKey ["thing"] [x], itemD ca.BadLength ["thing"] [x], itemD ca.BadLine ["line"] [x], itemD ca.BadListed ["thing"] [x], itemD ca.BadListing ["line"] [x], itemD ca.BadLoaded ["thing"] [x], itemD ca.BadMany ["thing"] [x], itemD ca.BadName ["thing"] [x]]) _ _
  refine xb_frz 3 rfl ?_
  exact xb_ret (xe_var 3) ⟨rfl, rfl⟩
theorem c_law_made_b (T : Txt K mg co) (E : Err K mg ca) (TB : TabB base mg co.b co.tb) : Def P w K mg base 3 "_law_made_b" ["x", "y", "z"] (SpT K co.tb "_law_made_b.<locals>.<lambda>" (F_made ca.pb)) := by
  refine def_tab T.a_law_made_b sc_law_made_b (fun ds d h => ?_) ?_
  · obtain ⟨x, y, z, rfl, _⟩ := h
    exact ⟨rfl, _, _, rfl⟩
  rintro _ ⟨fa, A, outer, s, H, Ex, hr, rfl⟩ x _ _ ⟨_, y, z, e, rfl⟩
  cases e
  show XB _ [.own (tbR K x co.tb "_law_made_b.<locals>.<lambda>"), .dat y, .dat z, .no] _ _
  have LA : LamAt1 (cxOf CX0 P w K mg base ["x", "y", "z", "found"] "_law_made_b" (defScope s_law_made_b) fa (.ref co.b) A outer s H Ex).nox "_law_made_b.<locals>.<lambda>" co.b co.tb := ⟨TB, rfl, rfl⟩
  refine xb_asgA 3 (xn_lst xa_nil) ?_ sc_law_made_b.nd
  show XB _ (da K co.tb "_law_made_b.<locals>.<lambda>" x y z [] []) _ _
  refine app1 (item1 (k_BadNames P w base E) LA rfl hr ⟨rfl, rfl, rfl, rfl, ⟨_, _, rfl, .cons _ _ .nil⟩, fun _ _ _ _ => rfl⟩) (by exact Nat.le_of_ble_eq_true rfl) ?_
  show XB _ (da K co.tb "_law_made_b.<locals>.<lambda>" x y z [] [itemD ca.BadNames ["index"] [x]]) _ _
  refine app1 (item1 (k_BadNumber P w base E) LA rfl hr ⟨rfl, rfl, rfl, rfl, ⟨_, _, rfl, .cons _ _ .nil⟩, fun _ _ _ _ => rfl⟩) (by exact Nat.le_of_ble_eq_true rfl) ?_
  show XB _ (da K co.tb "_law_made_b.<locals>.<lambda>" x y z [] [itemD ca.BadNames ["index"] [x], itemD ca.BadNumber ["thing"] [x]]) _ _
  refine app1 (item1 (k_BadOctets P w base E) LA rfl hr ⟨rfl, rfl, rfl, rfl, ⟨_, _, rfl, .cons _ _ .nil⟩, fun _ _ _ _ => rfl⟩) (by exact Nat.le_of_ble_eq_true rfl) ?_
  show XB _ (da K co.tb "_law_made_b.<locals>.<lambda>" x y z [] [itemD ca.BadNames ["index"] [x], itemD ca.BadNumber ["thing"] [x], itemD ca.BadOctets ["index"] [x]]) _ _
  refine app1 (item1 (k_BadOther P w base E) LA rfl hr ⟨rfl, rfl, rfl, rfl, ⟨_, _, rfl, .cons _ _ .nil⟩, fun _ _ _ _ => rfl⟩) (by exact Nat.le_of_ble_eq_true rfl) ?_
  show XB _ (da K co.tb "_law_made_b.<locals>.<lambda>" x y z [] [itemD ca.BadNames ["index"] [x], itemD ca.BadNumber ["thing"] [x], itemD ca.BadOctets ["index"] [x], itemD ca.BadOther ["thing"] [x]]) _ _
  refine app1 (item1 (k_BadOut P w base E) LA rfl hr ⟨rfl, rfl, rfl, rfl, ⟨_, _, rfl, .cons _ _ .nil⟩, fun _ _ _ _ => rfl⟩) (by exact Nat.le_of_ble_eq_true rfl) ?_
  show XB _ (da K co.tb "_law_made_b.<locals>.<lambda>" x y z [] [itemD ca.BadNames ["index"] [x], itemD ca.BadNumber ["thing"] [x], itemD ca.BadOctets ["index"] [x], itemD ca.BadOther ["thing"] [x], itemD ca.BadOut ["thing"] [x]]) _ _
  refine app1 (item1 (k_BadPaper P w base E) LA rfl hr ⟨rfl, rfl, rfl, rfl, ⟨_, _, rfl, .cons _ _ .nil⟩, fun _ _ _ _ => rfl⟩) (by exact Nat.le_of_ble_eq_true rfl) ?_
  show XB _ (da K co.tb "_law_made_b.<locals>.<lambda>" x y z [] [itemD ca.BadNames ["index"] [x], itemD ca.BadNumber ["thing"] [x], itemD ca.BadOctets ["index"] [x], itemD ca.BadOther ["thing"] [x], itemD ca.BadOut ["thing"] [x], itemD ca.BadPaper ["thing"] [x]]) _ _
  refine app1 (item1 (k_BadPattern P w base E) LA rfl hr ⟨rfl, rfl, rfl, rfl, ⟨_, _, rfl, .cons _ _ .nil⟩, fun _ _ _ _ => rfl⟩) (by exact Nat.le_of_ble_eq_true rfl) ?_
  show XB _ (da K co.tb "_law_made_b.<locals>.<lambda>" x y z [] [itemD ca.BadNames ["index"] [x], itemD ca.BadNumber ["thing"] [x], itemD ca.BadOctets ["index"] [x], itemD ca.BadOther ["thing"] [x], itemD ca.BadOut ["thing"] [x], itemD ca.BadPaper ["thing"] [x], itemD ca.BadPattern ["thing"] [x]]) _ _
  refine app1 (item1 (k_BadPiece P w base E) LA rfl hr ⟨rfl, rfl, rfl, rfl, ⟨_, _, rfl, .cons _ _ .nil⟩, fun _ _ _ _ => rfl⟩) (by exact Nat.le_of_ble_eq_true rfl) ?_
  show XB _ (da K co.tb "_law_made_b.<locals>.<lambda>" x y z [] [itemD ca.BadNames ["index"] [x], itemD ca.BadNumber ["thing"] [x], itemD ca.BadOctets ["index"] [x], itemD ca.BadOther ["thing"] [x], itemD ca.BadOut ["thing"] [x], itemD ca.BadPaper ["thing"] [x], itemD ca.BadPattern ["thing"] [x], itemD ca.BadPiece ["thing"] [x]]) _ _
  refine app1 (item1 (k_BadProgram P w base E) LA rfl hr ⟨rfl, rfl, rfl, rfl, ⟨_, _, rfl, .cons _ _ .nil⟩, fun _ _ _ _ => rfl⟩) (by exact Nat.le_of_ble_eq_true rfl) ?_
  show XB _ (da K co.tb "_law_made_b.<locals>.<lambda>" x y z [] [itemD ca.BadNames ["index"] [x], itemD ca.BadNumber ["thing"] [x], itemD ca.BadOctets ["index"] [x], itemD ca.BadOther ["thing"] [x], itemD ca.BadOut ["thing"] [x], itemD ca.BadPaper ["thing"] [x], itemD ca.BadPattern ["thing"] [x], itemD ca.BadPiece ["thing"] [x], itemD ca.BadProgram ["thing"] [x]]) _ _
  refine app1 (item1 (k_BadRow P w base E) LA rfl hr ⟨rfl, rfl, rfl, rfl, ⟨_, _, rfl, .cons _ _ .nil⟩, fun _ _ _ _ => rfl⟩) (by exact Nat.le_of_ble_eq_true rfl) ?_
  show XB _ (da K co.tb "_law_made_b.<locals>.<lambda>" x y z [] [itemD ca.BadNames ["index"] [x], itemD ca.BadNumber ["thing"] [x], itemD ca.BadOctets ["index"] [x], itemD ca.BadOther ["thing"] [x], itemD ca.BadOut ["thing"] [x], itemD ca.BadPaper ["thing"] [x], itemD ca.BadPattern ["thing"] [x], itemD ca.BadPiece ["thing"] [x], itemD ca.BadProgram ["thing"] [x], itemD ca.BadRow ["thing"] [x]]) _ _
  refine app1 (item1 (k_BadRunner P w base E) LA rfl hr ⟨rfl, rfl, rfl, rfl, ⟨_, _, rfl, .cons _ _ .nil⟩, fun _ _ _ _ => rfl⟩) (by exact Nat.le_of_ble_eq_true rfl) ?_
  show XB _ (da K co.tb "_law_made_b.<locals>.<lambda>" x y z [] [itemD ca.BadNames ["index"] [x], itemD ca.BadNumber ["thing"] [x], itemD ca.BadOctets ["index"] [x], itemD ca.BadOther ["thing"] [x], itemD ca.BadOut ["thing"] [x], itemD ca.BadPaper ["thing"] [x], itemD ca.BadPattern ["thing"] [x], itemD ca.BadPiece ["thing"] [x], itemD ca.BadProgram ["thing"] [x], itemD ca.BadRow ["thing"] [x], itemD ca.BadRunner ["thing"] [x]]) _ _
  refine app1 (item1 (k_BadSaved P w base E) LA rfl hr ⟨rfl, rfl, rfl, rfl, ⟨_, _, rfl, .cons _ _ .nil⟩, fun _ _ _ _ => rfl⟩) (by exact Nat.le_of_ble_eq_true rfl) ?_
  show XB _ (da K co.tb "_law_made_b.<locals>.<lambda>" x y z [] [itemD ca.BadNames ["index"] [x], itemD ca.BadNumber ["thing"] [x], itemD ca.BadOctets ["index"] [x], itemD ca.BadOther ["thing"] [x], itemD ca.BadOut ["thing"] [x], itemD ca.BadPaper ["thing"] [x], itemD ca.BadPattern ["thing"] [x], itemD ca.BadPiece ["thing"] [x], itemD ca.BadProgram ["thing"] [x], itemD ca.BadRow ["thing"] [x], itemD ca.BadRunner ["thing"] [x], itemD ca.BadSaved ["thing"] [x]]) _ _
  refine app1 (item1 (k_BadSecond P w base E) LA rfl hr ⟨rfl, rfl, rfl, rfl, ⟨_, _, rfl, .cons _ _ .nil⟩, fun _ _ _ _ => rfl⟩) (by exact Nat.le_of_ble_eq_true rfl) ?_
  show XB _ (da K co.tb "_law_made_b.<locals>.<lambda>" x y z [] [itemD ca.BadNames ["index"] [x], itemD ca.BadNumber ["thing"] [x], itemD ca.BadOctets ["index"] [x], itemD ca.BadOther ["thing"] [x], itemD ca.BadOut ["thing"] [x], itemD ca.BadPaper ["thing"] [x], itemD ca.BadPattern ["thing"] [x], itemD ca.BadPiece ["thing"] [x], itemD ca.BadProgram ["thing"] [x], itemD ca.BadRow ["thing"] [x], itemD ca.BadRunner ["thing"] [x], itemD ca.BadSaved ["thing"] [x], itemD ca.BadSecond ["thing"] [x]]) _ _
  refine app1 (item1 (k_BadSet P w base E) LA rfl hr ⟨rfl, rfl, rfl, rfl, ⟨_, _, rfl, .cons _ _ .nil⟩, fun _ _ _ _ => rfl⟩) (by exact Nat.le_of_ble_eq_true rfl) ?_
  show XB _ (da K co.tb "_law_made_b.<locals>.<lambda>" x y z [] [itemD ca.BadNames ["index"] [x], itemD ca.BadNumber ["thing"] [x], itemD ca.BadOctets ["index"] [x], itemD ca.BadOther ["thing"] [x], itemD ca.BadOut ["thing"] [x], itemD ca.BadPaper ["thing"] [x], itemD ca.BadPattern ["thing"] [x], itemD ca.BadPiece ["thing"] [x], itemD ca.BadProgram ["thing"] [x], itemD ca.BadRow ["thing"] [x], itemD ca.BadRunner ["thing"] [x], itemD ca.BadSaved ["thing"] [x], itemD ca.BadSecond ["thing"] [x], itemD ca.BadSet ["thing"] [x]]) _ _
  refine app1 (item1 (k_BadSigns P w base E) LA rfl hr ⟨rfl, rfl, rfl, rfl, ⟨_, _, rfl, .cons _ _ .nil⟩, fun _ _ _ _ => rfl⟩) (by exact Nat.le_of_ble_eq_true rfl) ?_
  show XB _ (da K co.tb "_law_made_b.<locals>.<lambda>" x y z [] [itemD ca.BadNames ["index"] [x], itemD ca.BadNumber ["thing"] [x], itemD ca.BadOctets ["index"] [x], itemD ca.BadOther ["thing"] [x], itemD ca.BadOut ["thing"] [x], itemD ca.BadPaper ["thing"] [x], itemD ca.BadPattern ["thing"] [x], itemD ca.BadPiece ["thing"] [x], itemD ca.BadProgram ["thing"] [x], itemD ca.BadRow ["thing"] [x], itemD ca.BadRunner ["thing"] [x], itemD ca.BadSaved ["thing"] [x], itemD ca.BadSecond ["thing"] [x], itemD ca.BadSet ["thing"] [x], itemD ca.BadSigns ["thing"] [x]]) _ _
  refine app1 (item1 (k_BadSize P w base E) LA rfl hr ⟨rfl, rfl, rfl, rfl, ⟨_, _, rfl, .cons _ _ .nil⟩, fun _ _ _ _ => rfl⟩) (by exact Nat.le_of_ble_eq_true rfl) ?_
  show XB _ (da K co.tb "_law_made_b.<locals>.<lambda>" x y z [] [itemD ca.BadNames ["index"] [x], itemD ca.BadNumber ["thing"] [x], itemD ca.BadOctets ["index"] [x], itemD ca.BadOther ["thing"] [x], itemD ca.BadOut ["thing"] [x], itemD ca.BadPaper ["thing"] [x], itemD ca.BadPattern ["thing"] [x], itemD ca.BadPiece ["thing"] [x], itemD ca.BadProgram ["thing"] [x], itemD ca.BadRow ["thing"] [x], itemD ca.BadRunner ["thing"] [x], itemD ca.BadSaved ["thing"] [x], itemD ca.BadSecond ["thing"] [x], itemD ca.BadSet ["thing"] [x], itemD ca.BadSigns ["thing"] [x], itemD ca.BadSize ["thing"] [x]]) _ _
  refine app1 (item1 (k_BadState P w base E) LA rfl hr ⟨rfl, rfl, rfl, rfl, ⟨_, _, rfl, .cons _ _ .nil⟩, fun _ _ _ _ => rfl⟩) (by exact Nat.le_of_ble_eq_true rfl) ?_
  show XB _ (da K co.tb "_law_made_b.<locals>.<lambda>" x y z [] [itemD ca.BadNames ["index"] [x], itemD ca.BadNumber ["thing"] [x], itemD ca.BadOctets ["index"] [x], itemD ca.BadOther ["thing"] [x], itemD ca.BadOut ["thing"] [x], itemD ca.BadPaper ["thing"] [x], itemD ca.BadPattern ["thing"] [x], itemD ca.BadPiece ["thing"] [x], itemD ca.BadProgram ["thing"] [x], itemD ca.BadRow ["thing"] [x], itemD ca.BadRunner ["thing"] [x], itemD ca.BadSaved ["thing"] [x], itemD ca.BadSecond ["thing"] [x], itemD ca.BadSet ["thing"] [x], itemD ca.BadSigns ["thing"] [x], itemD ca.BadSize ["thing"] [x], itemD ca.BadState ["thing"] [x]]) _ _
  refine app1 (item1 (k_BadSteps P w base E) LA rfl hr ⟨rfl, rfl, rfl, rfl, ⟨_, _, rfl, .cons _ _ .nil⟩, fun _ _ _ _ => rfl⟩) (by exact Nat.le_of_ble_eq_true rfl) ?_
  show XB _ (da K co.tb "_law_made_b.<locals>.<lambda>" x y z [] [itemD ca.BadNames ["index"] [x], itemD ca.BadNumber ["thing"] [x], itemD ca.BadOctets ["index"] [x], itemD ca.BadOther ["thing"] [x], itemD ca.BadOut ["thing"] [x], itemD ca.BadPaper ["thing"] [x], itemD ca.BadPattern ["thing"] [x], itemD ca.BadPiece ["thing"] [x], itemD ca.BadProgram ["thing"] [x], itemD ca.BadRow ["thing"] [x], itemD ca.BadRunner ["thing"] [x], itemD ca.BadSaved ["thing"] [x], itemD ca.BadSecond ["thing"] [x], itemD ca.BadSet ["thing"] [x], itemD ca.BadSigns ["thing"] [x], itemD ca.BadSize ["thing"] [x], itemD ca.BadState ["thing"] [x], itemD ca.BadSteps ["index"] [x]]) _ _
  refine xb_frz 3 rfl ?_
  exact xb_ret (xe_var 3) ⟨rfl, rfl⟩
theorem c_law_made_c (T : Txt K mg co) (E : Err K mg ca) (TB : TabB base mg co.c co.tc) : Def P w K mg base 3 "_law_made_c" ["x", "y", "z"] (SpT K co.tc "_law_made_c.<locals>.<lambda>" (F_made ca.pc)) := by
  refine def_tab T.a_law_made_c sc_law_made_c (fun ds d h => ?_) ?_
  · obtain ⟨x, y, z, rfl, _⟩ := h
    exact ⟨rfl, _, _, rfl⟩
  rintro _ ⟨fa, A, outer, s, H, Ex, hr, rfl⟩ x _ _ ⟨_, y, z, e, rfl⟩
  cases e
  show XB _ [.own (tbR K x co.tc "_law_made_c.<locals>.<lambda>"), .dat y, .dat z, .no, .no] _ _
  have LA : LamAt1 (cxOf CX0 P w K mg base ["x", "y", "z", "found", "named"] "_law_made_c" (defScope s_law_made_c) fa (.ref co.c) A outer s H Ex).nox "_law_made_c.<locals>.<lambda>" co.c co.tc := ⟨TB, rfl, rfl⟩
  refine xb_asgA 3 (xn_lst xa_nil) ?_ sc_law_made_c.nd
  show XB _ (da K co.tc "_law_made_c.<locals>.<lambda>" x y z [.no] []) _ _
  refine app1 (item1 (k_BadTable P w base E) LA rfl hr ⟨rfl, rfl, rfl, rfl, ⟨_, _, rfl, .cons _ _ .nil⟩, fun _ _ _ _ => rfl⟩) (by exact Nat.le_of_ble_eq_true rfl) ?_
  show XB _ (da K co.tc "_law_made_c.<locals>.<lambda>" x y z [.no] [itemD ca.BadTable ["thing"] [x]]) _ _
  refine xb_asg 4 (xe_mkK (k_BadText P w base E) (pk_xcons (xe_var 2) (pk_xcons (xe_var 1) (pk_xcons (xe_tb rfl) pk_xnil))) rfl hr rfl) ?_ sc_law_made_c.nd
  show XB _ (da K co.tc "_law_made_c.<locals>.<lambda>" x y z [.dat (mkD ca.BadText ["line", "column", "what"] [x, y, z])] [itemD ca.BadTable ["thing"] [x]]) _ _
  refine app1 (xfd_tup4 (xf_of (xe_mkE (k_BadText P w base E) (xa_cons (xe_tb rfl) (xa_cons (xe_var 1) (xa_cons (xe_var 2) xa_nil))) rfl (by decide) hr)) (xf_of (xe_var 4)) (xf_lam LA rfl ⟨rfl, rfl, rfl, rfl, ⟨_, _, rfl, .cons _ _ (.cons _ _ (.cons _ _ .nil))⟩, fun _ _ _ _ => rfl⟩ rfl) (xf_of (xe_lst (xa_cons (xe_tb rfl) (xa_cons (xe_var 1) (xa_cons (xe_var 2) xa_nil)))))) (by exact Nat.le_of_ble_eq_true rfl) ?_
  show XB _ (da K co.tc "_law_made_c.<locals>.<lambda>" x y z [.dat (mkD ca.BadText ["line", "column", "what"] [x, y, z])] [itemD ca.BadTable ["thing"] [x], itemD ca.BadText ["line", "column", "what"] [x, y, z]]) _ _
  refine app1 (item1 (k_BadTriple P w base E) LA rfl hr ⟨rfl, rfl, rfl, rfl, ⟨_, _, rfl, .cons _ _ .nil⟩, fun _ _ _ _ => rfl⟩) (by exact Nat.le_of_ble_eq_true rfl) ?_
  show XB _ (da K co.tc "_law_made_c.<locals>.<lambda>" x y z [.dat (mkD ca.BadText ["line", "column", "what"] [x, y, z])] [itemD ca.BadTable ["thing"] [x], itemD ca.BadText ["line", "column", "what"] [x, y, z], itemD ca.BadTriple ["thing"] [x]]) _ _
  refine app1 (item1 (k_BadWord P w base E) LA rfl hr ⟨rfl, rfl, rfl, rfl, ⟨_, _, rfl, .cons _ _ .nil⟩, fun _ _ _ _ => rfl⟩) (by exact Nat.le_of_ble_eq_true rfl) ?_
  show XB _ (da K co.tc "_law_made_c.<locals>.<lambda>" x y z [.dat (mkD ca.BadText ["line", "column", "what"] [x, y, z])] [itemD ca.BadTable ["thing"] [x], itemD ca.BadText ["line", "column", "what"] [x, y, z], itemD ca.BadTriple ["thing"] [x], itemD ca.BadWord ["thing"] [x]]) _ _
  refine app1 (xfd_tup4 (xf_of (xe_mk0 E.m_Done E.f_Done.kC E.z_Done)) (xf_of (xe_mk0 E.m_Done E.f_Done.kC E.z_Done)) (xf_lam LA rfl ⟨rfl, rfl, rfl, rfl, ⟨_, _, rfl, .nil⟩, fun _ _ _ _ => rfl⟩ rfl) (xf_of (xe_lst xa_nil))) (by exact Nat.le_of_ble_eq_true rfl) ?_
  show XB _ (da K co.tc "_law_made_c.<locals>.<lambda>" x y z [.dat (mkD ca.BadText ["line", "column", "what"] [x, y, z])] [itemD ca.BadTable ["thing"] [x], itemD ca.BadText ["line", "column", "what"] [x, y, z], itemD ca.BadTriple ["thing"] [x], itemD ca.BadWord ["thing"] [x], itemD ca.Done [] []]) _ _
  refine app1 (item1 (k_Full P w base E) LA rfl hr ⟨rfl, rfl, rfl, rfl, ⟨_, _, rfl, .cons _ _ .nil⟩, fun _ _ _ _ => rfl⟩) (by exact Nat.le_of_ble_eq_true rfl) ?_
  show XB _ (da K co.tc "_law_made_c.<locals>.<lambda>" x y z [.dat (mkD ca.BadText ["line", "column", "what"] [x, y, z])] [itemD ca.BadTable ["thing"] [x], itemD ca.BadText ["line", "column", "what"] [x, y, z], itemD ca.BadTriple ["thing"] [x], itemD ca.BadWord ["thing"] [x], itemD ca.Done [] [], itemD ca.Full ["many"] [x]]) _ _
  refine app1 (xfd_tup4 (xf_of (xe_mkE (k_Gap P w base E) (xa_cons (xe_tb rfl) (xa_cons (xe_var 1) xa_nil)) rfl (by decide) hr)) (xf_of (xe_mkK (k_Gap P w base E) (pk_xcons (xe_var 1) (pk_xcons (xe_tb rfl) pk_xnil)) rfl hr rfl)) (xf_lam LA rfl ⟨rfl, rfl, rfl, rfl, ⟨_, _, rfl, .cons _ _ (.cons _ _ .nil)⟩, fun _ _ _ _ => rfl⟩ rfl) (xf_of (xe_lst (xa_cons (xe_tb rfl) (xa_cons (xe_var 1) xa_nil))))) (by exact Nat.le_of_ble_eq_true rfl) ?_
  show XB _ (da K co.tc "_law_made_c.<locals>.<lambda>" x y z [.dat (mkD ca.BadText ["line", "column", "what"] [x, y, z])] [itemD ca.BadTable ["thing"] [x], itemD ca.BadText ["line", "column", "what"] [x, y, z], itemD ca.BadTriple ["thing"] [x], itemD ca.BadWord ["thing"] [x], itemD ca.Done [] [], itemD ca.Full ["many"] [x], itemD ca.Gap ["index", "text"] [x, y]]) _ _
  refine app1 (xfd_tup4 (xf_of (xe_mk0 E.m_NoAgain E.f_NoAgain.kC E.z_NoAgain)) (xf_of (xe_mk0 E.m_NoAgain E.f_NoAgain.kC E.z_NoAgain)) (xf_lam LA rfl ⟨rfl, rfl, rfl, rfl, ⟨_, _, rfl, .nil⟩, fun _ _ _ _ => rfl⟩ rfl) (xf_of (xe_lst xa_nil))) (by exact Nat.le_of_ble_eq_true rfl) ?_
  show XB _ (da K co.tc "_law_made_c.<locals>.<lambda>" x y z [.dat (mkD ca.BadText ["line", "column", "what"] [x, y, z])] [itemD ca.BadTable ["thing"] [x], itemD ca.BadText ["line", "column", "what"] [x, y, z], itemD ca.BadTriple ["thing"] [x], itemD ca.BadWord ["thing"] [x], itemD ca.Done [] [], itemD ca.Full ["many"] [x], itemD ca.Gap ["index", "text"] [x, y], itemD ca.NoAgain [] []]) _ _
  refine app1 (xfd_tup4 (xf_of (xe_mk0 E.m_NoBack E.f_NoBack.kC E.z_NoBack)) (xf_of (xe_mk0 E.m_NoBack E.f_NoBack.kC E.z_NoBack)) (xf_lam LA rfl ⟨rfl, rfl, rfl, rfl, ⟨_, _, rfl, .nil⟩, fun _ _ _ _ => rfl⟩ rfl) (xf_of (xe_lst xa_nil))) (by exact Nat.le_of_ble_eq_true rfl) ?_
  show XB _ (da K co.tc "_law_made_c.<locals>.<lambda>" x y z [.dat (mkD ca.BadText ["line", "column", "what"] [x, y, z])] [itemD ca.BadTable ["thing"] [x], itemD ca.BadText ["line", "column", "what"] [x, y, z], itemD ca.BadTriple ["thing"] [x], itemD ca.BadWord ["thing"] [x], itemD ca.Done [] [], itemD ca.Full ["many"] [x], itemD ca.Gap ["index", "text"] [x, y], itemD ca.NoAgain [] [], itemD ca.NoBack [] []]) _ _
  refine app1 (xfd_tup4 (xf_of (xe_mk0 E.m_NoFuse E.f_NoFuse.kC E.z_NoFuse)) (xf_of (xe_mk0 E.m_NoFuse E.f_NoFuse.kC E.z_NoFuse)) (xf_lam LA rfl ⟨rfl, rfl, rfl, rfl, ⟨_, _, rfl, .nil⟩, fun _ _ _ _ => rfl⟩ rfl) (xf_of (xe_lst xa_nil))) (by exact Nat.le_of_ble_eq_true rfl) ?_
  show XB _ (da K co.tc "_law_made_c.<locals>.<lambda>" x y z [.dat (mkD ca.BadText ["line", "column", "what"] [x, y, z])] [itemD ca.BadTable ["thing"] [x], itemD ca.BadText ["line", "column", "what"] [x, y, z], itemD ca.BadTriple ["thing"] [x], itemD ca.BadWord ["thing"] [x], itemD ca.Done [] [], itemD ca.Full ["many"] [x], itemD ca.Gap ["index", "text"] [x, y], itemD ca.NoAgain [] [], itemD ca.NoBack [] [], itemD ca.NoFuse [] []]) _ _
  refine app1 (item1 (k_NoKind P w base E) LA rfl hr ⟨rfl, rfl, rfl, rfl, ⟨_, _, rfl, .cons _ _ .nil⟩, fun _ _ _ _ => rfl⟩) (by exact Nat.le_of_ble_eq_true rfl) ?_
  show XB _ (da K co.tc "_law_made_c.<locals>.<lambda>" x y z [.dat (mkD ca.BadText ["line", "column", "what"] [x, y, z])] [itemD ca.BadTable ["thing"] [x], itemD ca.BadText ["line", "column", "what"] [x, y, z], itemD ca.BadTriple ["thing"] [x], itemD ca.BadWord ["thing"] [x], itemD ca.Done [] [], itemD ca.Full ["many"] [x], itemD ca.Gap ["index", "text"] [x, y], itemD ca.NoAgain [] [], itemD ca.NoBack [] [], itemD ca.NoFuse [] [], itemD ca.NoKind ["name"] [x]]) _ _
  refine app1 (item1 (k_NoMove P w base E) LA rfl hr ⟨rfl, rfl, rfl, rfl, ⟨_, _, rfl, .cons _ _ .nil⟩, fun _ _ _ _ => rfl⟩) (by exact Nat.le_of_ble_eq_true rfl) ?_
  show XB _ (da K co.tc "_law_made_c.<locals>.<lambda>" x y z [.dat (mkD ca.BadText ["line", "column", "what"] [x, y, z])] [itemD ca.BadTable ["thing"] [x], itemD ca.BadText ["line", "column", "what"] [x, y, z], itemD ca.BadTriple ["thing"] [x], itemD ca.BadWord ["thing"] [x], itemD ca.Done [] [], itemD ca.Full ["many"] [x], itemD ca.Gap ["index", "text"] [x, y], itemD ca.NoAgain [] [], itemD ca.NoBack [] [], itemD ca.NoFuse [] [], itemD ca.NoKind ["name"] [x], itemD ca.NoMove ["what"] [x]]) _ _
  refine app1 (item1 (k_NotKind P w base E) LA rfl hr ⟨rfl, rfl, rfl, rfl, ⟨_, _, rfl, .cons _ _ .nil⟩, fun _ _ _ _ => rfl⟩) (by exact Nat.le_of_ble_eq_true rfl) ?_
  show XB _ (da K co.tc "_law_made_c.<locals>.<lambda>" x y z [.dat (mkD ca.BadText ["line", "column", "what"] [x, y, z])] [itemD ca.BadTable ["thing"] [x], itemD ca.BadText ["line", "column", "what"] [x, y, z], itemD ca.BadTriple ["thing"] [x], itemD ca.BadWord ["thing"] [x], itemD ca.Done [] [], itemD ca.Full ["many"] [x], itemD ca.Gap ["index", "text"] [x, y], itemD ca.NoAgain [] [], itemD ca.NoBack [] [], itemD ca.NoFuse [] [], itemD ca.NoKind ["name"] [x], itemD ca.NoMove ["what"] [x], itemD ca.NotKind ["index"] [x]]) _ _
  refine app1 (item1 (k_NotThere P w base E) LA rfl hr ⟨rfl, rfl, rfl, rfl, ⟨_, _, rfl, .cons _ _ .nil⟩, fun _ _ _ _ => rfl⟩) (by exact Nat.le_of_ble_eq_true rfl) ?_
  show XB _ (da K co.tc "_law_made_c.<locals>.<lambda>" x y z [.dat (mkD ca.BadText ["line", "column", "what"] [x, y, z])] [itemD ca.BadTable ["thing"] [x], itemD ca.BadText ["line", "column", "what"] [x, y, z], itemD ca.BadTriple ["thing"] [x], itemD ca.BadWord ["thing"] [x], itemD ca.Done [] [], itemD ca.Full ["many"] [x], itemD ca.Gap ["index", "text"] [x, y], itemD ca.NoAgain [] [], itemD ca.NoBack [] [], itemD ca.NoFuse [] [], itemD ca.NoKind ["name"] [x], itemD ca.NoMove ["what"] [x], itemD ca.NotKind ["index"] [x], itemD ca.NotThere ["name"] [x]]) _ _
  refine app1 (item1 (k_NotWatched P w base E) LA rfl hr ⟨rfl, rfl, rfl, rfl, ⟨_, _, rfl, .cons _ _ .nil⟩, fun _ _ _ _ => rfl⟩) (by exact Nat.le_of_ble_eq_true rfl) ?_
  show XB _ (da K co.tc "_law_made_c.<locals>.<lambda>" x y z [.dat (mkD ca.BadText ["line", "column", "what"] [x, y, z])] [itemD ca.BadTable ["thing"] [x], itemD ca.BadText ["line", "column", "what"] [x, y, z], itemD ca.BadTriple ["thing"] [x], itemD ca.BadWord ["thing"] [x], itemD ca.Done [] [], itemD ca.Full ["many"] [x], itemD ca.Gap ["index", "text"] [x, y], itemD ca.NoAgain [] [], itemD ca.NoBack [] [], itemD ca.NoFuse [] [], itemD ca.NoKind ["name"] [x], itemD ca.NoMove ["what"] [x], itemD ca.NotKind ["index"] [x], itemD ca.NotThere ["name"] [x], itemD ca.NotWatched ["key"] [x]]) _ _
  refine app1 (xfd_tup4 (xf_of (xe_mk0 E.m_NotWhole E.f_NotWhole.kC E.z_NotWhole)) (xf_of (xe_mk0 E.m_NotWhole E.f_NotWhole.kC E.z_NotWhole)) (xf_lam LA rfl ⟨rfl, rfl, rfl, rfl, ⟨_, _, rfl, .nil⟩, fun _ _ _ _ => rfl⟩ rfl) (xf_of (xe_lst xa_nil))) (by exact Nat.le_of_ble_eq_true rfl) ?_
  show XB _ (da K co.tc "_law_made_c.<locals>.<lambda>" x y z [.dat (mkD ca.BadText ["line", "column", "what"] [x, y, z])] [itemD ca.BadTable ["thing"] [x], itemD ca.BadText ["line", "column", "what"] [x, y, z], itemD ca.BadTriple ["thing"] [x], itemD ca.BadWord ["thing"] [x], itemD ca.Done [] [], itemD ca.Full ["many"] [x], itemD ca.Gap ["index", "text"] [x, y], itemD ca.NoAgain [] [], itemD ca.NoBack [] [], itemD ca.NoFuse [] [], itemD ca.NoKind ["name"] [x], itemD ca.NoMove ["what"] [x], itemD ca.NotKind ["index"] [x], itemD ca.NotThere ["name"] [x], itemD ca.NotWatched ["key"] [x], itemD ca.NotWhole [] []]) _ _
  refine app1 (item1 (k_NotWithin P w base E) LA rfl hr ⟨rfl, rfl, rfl, rfl, ⟨_, _, rfl, .cons _ _ .nil⟩, fun _ _ _ _ => rfl⟩) (by exact Nat.le_of_ble_eq_true rfl) ?_
  show XB _ (da K co.tc "_law_made_c.<locals>.<lambda>" x y z [.dat (mkD ca.BadText ["line", "column", "what"] [x, y, z])] [itemD ca.BadTable ["thing"] [x], itemD ca.BadText ["line", "column", "what"] [x, y, z], itemD ca.BadTriple ["thing"] [x], itemD ca.BadWord ["thing"] [x], itemD ca.Done [] [], itemD ca.Full ["many"] [x], itemD ca.Gap ["index", "text"] [x, y], itemD ca.NoAgain [] [], itemD ca.NoBack [] [], itemD ca.NoFuse [] [], itemD ca.NoKind ["name"] [x], itemD ca.NoMove ["what"] [x], itemD ca.NotKind ["index"] [x], itemD ca.NotThere ["name"] [x], itemD ca.NotWatched ["key"] [x], itemD ca.NotWhole [] [], itemD ca.NotWithin ["text"] [x]]) _ _
  refine app1 (xfd_tup4 (xf_of (xe_mk0 E.m_OtherSigns E.f_OtherSigns.kC E.z_OtherSigns)) (xf_of (xe_mk0 E.m_OtherSigns E.f_OtherSigns.kC E.z_OtherSigns)) (xf_lam LA rfl ⟨rfl, rfl, rfl, rfl, ⟨_, _, rfl, .nil⟩, fun _ _ _ _ => rfl⟩ rfl) (xf_of (xe_lst xa_nil))) (by exact Nat.le_of_ble_eq_true rfl) ?_
  show XB _ (da K co.tc "_law_made_c.<locals>.<lambda>" x y z [.dat (mkD ca.BadText ["line", "column", "what"] [x, y, z])] [itemD ca.BadTable ["thing"] [x], itemD ca.BadText ["line", "column", "what"] [x, y, z], itemD ca.BadTriple ["thing"] [x], itemD ca.BadWord ["thing"] [x], itemD ca.Done [] [], itemD ca.Full ["many"] [x], itemD ca.Gap ["index", "text"] [x, y], itemD ca.NoAgain [] [], itemD ca.NoBack [] [], itemD ca.NoFuse [] [], itemD ca.NoKind ["name"] [x], itemD ca.NoMove ["what"] [x], itemD ca.NotKind ["index"] [x], itemD ca.NotThere ["name"] [x], itemD ca.NotWatched ["key"] [x], itemD ca.NotWhole [] [], itemD ca.NotWithin ["text"] [x], itemD ca.OtherSigns [] []]) _ _
  refine xb_frz 3 rfl ?_
  exact xb_ret (xe_var 3) ⟨rfl, rfl⟩
theorem c_law_made_d (T : Txt K mg co) (E : Err K mg ca) (TB : TabB base mg co.d co.td) : Def P w K mg base 3 "_law_made_d" ["x", "y", "z"] (SpT K co.td "_law_made_d.<locals>.<lambda>" (F_made ca.pd)) := by
  refine def_tab T.a_law_made_d sc_law_made_d (fun ds d h => ?_) ?_
  · obtain ⟨x, y, z, rfl, _⟩ := h
    exact ⟨rfl, _, _, rfl⟩
  rintro _ ⟨fa, A, outer, s, H, Ex, hr, rfl⟩ x _ _ ⟨_, y, z, e, rfl⟩
  cases e
  show XB _ [.own (tbR K x co.td "_law_made_d.<locals>.<lambda>"), .dat y, .dat z, .no] _ _
  have LA : LamAt1 (cxOf CX0 P w K mg base ["x", "y", "z", "found"] "_law_made_d" (defScope s_law_made_d) fa (.ref co.d) A outer s H Ex).nox "_law_made_d.<locals>.<lambda>" co.d co.td := ⟨TB, rfl, rfl⟩
  refine xb_asgA 3 (xn_lst xa_nil) ?_ sc_law_made_d.nd
  show XB _ (da K co.td "_law_made_d.<locals>.<lambda>" x y z [] []) _ _
  refine app1 (item1 (k_Refused P w base E) LA rfl hr ⟨rfl, rfl, rfl, rfl, ⟨_, _, rfl, .cons _ _ .nil⟩, fun _ _ _ _ => rfl⟩) (by exact Nat.le_of_ble_eq_true rfl) ?_
  show XB _ (da K co.td "_law_made_d.<locals>.<lambda>" x y z [] [itemD ca.Refused ["what"] [x]]) _ _
  refine app1 (item1 (k_There P w base E) LA rfl hr ⟨rfl, rfl, rfl, rfl, ⟨_, _, rfl, .cons _ _ .nil⟩, fun _ _ _ _ => rfl⟩) (by exact Nat.le_of_ble_eq_true rfl) ?_
  show XB _ (da K co.td "_law_made_d.<locals>.<lambda>" x y z [] [itemD ca.Refused ["what"] [x], itemD ca.There ["name"] [x]]) _ _
  refine app1 (item1 (k_TooMany P w base E) LA rfl hr ⟨rfl, rfl, rfl, rfl, ⟨_, _, rfl, .cons _ _ .nil⟩, fun _ _ _ _ => rfl⟩) (by exact Nat.le_of_ble_eq_true rfl) ?_
  show XB _ (da K co.td "_law_made_d.<locals>.<lambda>" x y z [] [itemD ca.Refused ["what"] [x], itemD ca.There ["name"] [x], itemD ca.TooMany ["many"] [x]]) _ _
  refine app1 (item1 (k_Unfit P w base E) LA rfl hr ⟨rfl, rfl, rfl, rfl, ⟨_, _, rfl, .cons _ _ .nil⟩, fun _ _ _ _ => rfl⟩) (by exact Nat.le_of_ble_eq_true rfl) ?_
  show XB _ (da K co.td "_law_made_d.<locals>.<lambda>" x y z [] [itemD ca.Refused ["what"] [x], itemD ca.There ["name"] [x], itemD ca.TooMany ["many"] [x], itemD ca.Unfit ["what"] [x]]) _ _
  refine app1 (item1 (k_Used P w base E) LA rfl hr ⟨rfl, rfl, rfl, rfl, ⟨_, _, rfl, .cons _ _ .nil⟩, fun _ _ _ _ => rfl⟩) (by exact Nat.le_of_ble_eq_true rfl) ?_
  show XB _ (da K co.td "_law_made_d.<locals>.<lambda>" x y z [] [itemD ca.Refused ["what"] [x], itemD ca.There ["name"] [x], itemD ca.TooMany ["many"] [x], itemD ca.Unfit ["what"] [x], itemD ca.Used ["name"] [x]]) _ _
  refine app1 (item1 (k_UsesNumber P w base E) LA rfl hr ⟨rfl, rfl, rfl, rfl, ⟨_, _, rfl, .cons _ _ .nil⟩, fun _ _ _ _ => rfl⟩) (by exact Nat.le_of_ble_eq_true rfl) ?_
  show XB _ (da K co.td "_law_made_d.<locals>.<lambda>" x y z [] [itemD ca.Refused ["what"] [x], itemD ca.There ["name"] [x], itemD ca.TooMany ["many"] [x], itemD ca.Unfit ["what"] [x], itemD ca.Used ["name"] [x], itemD ca.UsesNumber ["thing"] [x]]) _ _
  refine app1 (item1 (k_Watched P w base E) LA rfl hr ⟨rfl, rfl, rfl, rfl, ⟨_, _, rfl, .cons _ _ .nil⟩, fun _ _ _ _ => rfl⟩) (by exact Nat.le_of_ble_eq_true rfl) ?_
  show XB _ (da K co.td "_law_made_d.<locals>.<lambda>" x y z [] [itemD ca.Refused ["what"] [x], itemD ca.There ["name"] [x], itemD ca.TooMany ["many"] [x], itemD ca.Unfit ["what"] [x], itemD ca.Used ["name"] [x], itemD ca.UsesNumber ["thing"] [x], itemD ca.Watched ["key"] [x]]) _ _
  refine xb_frz 3 rfl ?_
  exact xb_ret (xe_var 3) ⟨rfl, rfl⟩
end
end K00

set_option Elab.async false
set_option linter.all false
set_option maxRecDepth 100000
set_option maxHeartbeats 4000000
namespace K00
open PySem PySem.Spec PyProof.Rows L2 Dl LamX
theorem contains_ve (D : Addr) : PySem.HandSPX.veTail.contains (Value.ref D) = false := by
  rw [show PySem.HandSPX.veTail = [.type "ValueError", .type "Exception", .type "BaseException", .type "object"] from rfl]
  simp
section
variable {K : PySem.W.Frag} {mg : Str → Option Value} {ca : CA}
theorem cls_of (E : Err K mg ca) {C : Addr} (hC : C ∈ ca.list) : ClsB K C (.ref ca.fe :: PySem.HandSPX.veTail) := by
  rw [← all_fst] at hC
  obtain ⟨p, hp, rfl⟩ := List.mem_map.mp hC
  exact (cls_all E p hp).1
theorem xc_of (E : Err K mg ca) {C : Addr} (hC : C ∈ ca.fe :: ca.list) : ExcC K C := by
  rcases List.mem_cons.mp hC with rfl | hC
  · exact E.f_FilterError.xc E.g
  · exact (cls_of E hC).xc E.g
theorem kit_own (E : Err K mg ca) {C D : Addr} (hC : C ∈ ca.fe :: ca.list) (hD : D ∈ ca.list) : PySem.W.kitOne K (.ref C) (.ref D) = some (decide (C = D)) := by
  have nd := List.nodup_cons.mp E.nd
  have ne : ca.fe ≠ D := fun e => nd.1 (e ▸ hD)
  have h : ∀ {bm : List Value}, ClsB K C bm → bm.contains (Value.ref D) = false → PySem.W.kitOne K (.ref C) (.ref D) = some (decide (C = D)) := fun {bm} F hb => by
    rw [F.kitR (cls_of E hD), List.contains_cons, hb, Bool.or_false]
    by_cases z : C = D
    · rw [z, decide_eq_true rfl]
      simp
    · rw [decide_eq_false z]
      congr 1
      have : D ≠ C := fun e => z e.symm
      simp [this]
  rcases List.mem_cons.mp hC with rfl | hC
  · exact h E.f_FilterError (contains_ve D)
  · refine h (cls_of E hC) ?_
    rw [List.contains_cons, contains_ve, Bool.or_false]
    have : D ≠ ca.fe := fun e => ne e.symm
    simp [this]
theorem kit_fe (E : Err K mg ca) {C : Addr} (hC : C ∈ ca.list) : PySem.W.kitOne K (.ref C) (.ref ca.fe) = some true := by
  rw [(cls_of E hC).kitR E.f_FilterError]
  simp
def F_kinds (l : List Addr) (ca : CA) (ds : List PyData) (d : PyData) : Prop := ∃ C e, ds = [e] ∧ ErrOf C e ∧ C ∈ ca.fe :: ca.list ∧ d = .list (l.map fun D => .bool (decide (C = D)))
end
section
variable {X : Cx} {e0 d : PyData} {ds ys : List PyData} {e : Expr} {p p1 p2 pos : Pos} {rest : List Stmt} {R : Post}
theorem ext1 (he : XE X [.dat e0, .own (accR X.K ds)] e (.list ys)) (hz : ds.length + ys.length ≤ 1000000) (k : XB X [.dat e0, .own (accR X.K (ds ++ ys))] rest R) (hi : X.N[1]? = some ("found" : Str) := by rfl) (hv : Vis X.env.scope ("found" : Str) := by exact Or.inl rfl)
    (hline : (p2.endLine == p.line) = true := by rfl) (hs : starEach [e] X.env = (false, eval e X.env) :: starEach [] X.env := by rfl) : XB X [.dat e0, .own (accR X.K ds)] (.Expr (.Call (.Attribute (.Name "found" p1) "extend" p2) [e] [] p) pos :: rest) R :=
  xb_extF 1 rfl (xf_of he) hz k hi hv (by decide) (by decide) rfl (by rw [hs]; rfl) hline hs rfl rfl
end
section
variable {P : Program} {w : World} {K : PySem.W.Frag} {mg : Str → Option Value} {base : Heap} {ca : CA} {co : CO}
theorem c_law_kinds_a (T : Txt K mg co) (E : Err K mg ca) : Def P w K mg base 1 "_law_kinds_a" ["e"] (SpP K (F_kinds (ca.pa.map (·.1)) ca)) := by
  refine def_pure T.a_law_kinds_a sc_law_kinds_a (fun ds d h => ?_) ?_
  · obtain ⟨C, e, rfl, _⟩ := h
    rfl
  rintro _ ⟨fa, cdv, A, outer, s, H, Ex, hr, rfl⟩ _ _ ⟨C, e, rfl, he, hC, rfl⟩
  have xc := xc_of E hC
  have ki : ∀ {i : Nat} {D : Addr}, ca.list[i]? = some D → PySem.W.kitOne K (.ref C) (.ref D) = some (decide (C = D)) := fun h => kit_own E hC (List.mem_of_getElem? h)
  refine xb_asgA 1 (xn_lst xa_nil) ?_ sc_law_kinds_a.nd
  show XB _ [.dat e, .own (accR K [])] _ _
  refine ext1 (xe_lst (xa_cons (xe_isO T.g_isinstance (xe_var 0) he xc E.m_BadBy (ki (i := 0) rfl)) (xa_cons (xe_isO T.g_isinstance (xe_var 0) he xc E.m_BadChain (ki (i := 1) rfl)) xa_nil))) (by exact Nat.le_of_ble_eq_true rfl) ?_
  show XB _ [.dat e, .own (accR K [.bool (decide (C = ca.BadBy)), .bool (decide (C = ca.BadChain))])] _ _
  refine ext1 (xe_lst (xa_cons (xe_isO T.g_isinstance (xe_var 0) he xc E.m_BadControl (ki (i := 2) rfl)) (xa_cons (xe_isO T.g_isinstance (xe_var 0) he xc E.m_BadCore (ki (i := 3) rfl)) xa_nil))) (by exact Nat.le_of_ble_eq_true rfl) ?_
  show XB _ [.dat e, .own (accR K [.bool (decide (C = ca.BadBy)), .bool (decide (C = ca.BadChain)), .bool (decide (C = ca.BadControl)), .bool (decide (C = ca.BadCore))])] _ _
  refine ext1 (xe_lst (xa_cons (xe_isO T.g_isinstance (xe_var 0) he xc E.m_BadCores (ki (i := 4) rfl)) (xa_cons (xe_isO T.g_isinstance (xe_var 0) he xc E.m_BadDeed (ki (i := 5) rfl)) xa_nil))) (by exact Nat.le_of_ble_eq_true rfl) ?_
  show XB _ [.dat e, .own (accR K [.bool (decide (C = ca.BadBy)), .bool (decide (C = ca.BadChain)), .bool (decide (C = ca.BadControl)), .bool (decide (C = ca.BadCore)), .bool (decide (C = ca.BadCores)), .bool (decide (C = ca.BadDeed))])] _ _
  refine ext1 (xe_lst (xa_cons (xe_isO T.g_isinstance (xe_var 0) he xc E.m_BadEnds (ki (i := 6) rfl)) (xa_cons (xe_isO T.g_isinstance (xe_var 0) he xc E.m_BadHigh (ki (i := 7) rfl)) xa_nil))) (by exact Nat.le_of_ble_eq_true rfl) ?_
  show XB _ [.dat e, .own (accR K [.bool (decide (C = ca.BadBy)), .bool (decide (C = ca.BadChain)), .bool (decide (C = ca.BadControl)), .bool (decide (C = ca.BadCore)), .bool (decide (C = ca.BadCores)), .bool (decide (C = ca.BadDeed)), .bool (decide (C = ca.BadEnds)), .bool (decide (C = ca.BadHigh))])] _ _
  refine ext1 (xe_lst (xa_cons (xe_isO T.g_isinstance (xe_var 0) he xc E.m_BadInput (ki (i := 8) rfl)) (xa_cons (xe_isO T.g_isinstance (xe_var 0) he xc E.m_BadInto (ki (i := 9) rfl)) xa_nil))) (by exact Nat.le_of_ble_eq_true rfl) ?_
  show XB _ [.dat e, .own (accR K [.bool (decide (C = ca.BadBy)), .bool (decide (C = ca.BadChain)), .bool (decide (C = ca.BadControl)), .bool (decide (C = ca.BadCore)), .bool (decide (C = ca.BadCores)), .bool (decide (C = ca.BadDeed)), .bool (decide (C = ca.BadEnds)), .bool (decide (C = ca.BadHigh)), .bool (decide (C = ca.BadInput)), .bool (decide (C = ca.BadInto))])] _ _
  refine ext1 (xe_lst (xa_cons (xe_isO T.g_isinstance (xe_var 0) he xc E.m_BadKey (ki (i := 10) rfl)) (xa_cons (xe_isO T.g_isinstance (xe_var 0) he xc E.m_BadLength (ki (i := 11) rfl)) xa_nil))) (by exact Nat.le_of_ble_eq_true rfl) ?_
  show XB _ [.dat e, .own (accR K [.bool (decide (C = ca.BadBy)), .bool (decide (C = ca.BadChain)), .bool (decide (C = ca.BadControl)), .bool (decide (C = ca.BadCore)), .bool (decide (C = ca.BadCores)), .bool (decide (C = ca.BadDeed)), .bool (decide (C = ca.BadEnds)), .bool (decide (C = ca.BadHigh)), .bool (decide (C = ca.BadInput)), .bool (decide (C = ca.BadInto)), .bool (decide (C = ca.BadKey)), .bool (decide (C = ca.BadLength))])] _ _
  refine ext1 (xe_lst (xa_cons (xe_isO T.g_isinstance (xe_var 0) he xc E.m_BadLine (ki (i := 12) rfl)) (xa_cons (xe_isO T.g_isinstance (xe_var 0) he xc E.m_BadListed (ki (i := 13) rfl)) xa_nil))) (by exact Nat.le_of_ble_eq_true rfl) ?_
  show XB _ [.dat e, .own (accR K [.bool (decide (C = ca.BadBy)), .bool (decide (C = ca.BadChain)), .bool (decide (C = ca.BadControl)), .bool (decide (C = ca.BadCore)), .bool (decide (C = ca.BadCores)), .bool (decide (C = ca.BadDeed)), .bool (decide (C = ca.BadEnds)), .bool (decide (C = ca.BadHigh)), .bool (decide (C = ca.BadInput)), .bool (decide (C = ca.BadInto)), .bool (decide (C = ca.BadKey)), .bool (decide (C = ca.BadLength)), .bool (decide (C = ca.BadLine)), .bool (decide (C = ca.BadListed))])] _ _
  refine ext1 (xe_lst (xa_cons (xe_isO T.g_isinstance (xe_var 0) he xc E.m_BadListing (ki (i := 14) rfl)) (xa_cons (xe_isO T.g_isinstance (xe_var 0) he xc E.m_BadLoaded (ki (i := 15) rfl)) xa_nil))) (by exact Nat.le_of_ble_eq_true rfl) ?_
  show XB _ [.dat e, .own (accR K [.bool (decide (C = ca.BadBy)), .bool (decide (C = ca.BadChain)), .bool (decide (C = ca.BadControl)), .bool (decide (C = ca.BadCore)), .bool (decide (C = ca.BadCores)), .bool (decide (C = ca.BadDeed)), .bool (decide (C = ca.BadEnds)), .bool (decide (C = ca.BadHigh)), .bool (decide (C = ca.BadInput)), .bool (decide (C = ca.BadInto)), .bool (decide (C = ca.BadKey)), .bool (decide (C = ca.BadLength)), .bool (decide (C = ca.BadLine)), .bool (decide (C = ca.BadListed)), .bool (decide (C = ca.BadListing)), .bool (decide (C = ca.BadLoaded))])] _ _
  refine ext1 (xe_lst (xa_cons (xe_isO T.g_isinstance (xe_var 0) he xc E.m_BadMany (ki (i := 16) rfl)) (xa_cons (xe_isO T.g_isinstance (xe_var 0) he xc E.m_BadName (ki (i := 17) rfl)) xa_nil))) (by exact Nat.le_of_ble_eq_true rfl) ?_
  show XB _ [.dat e, .own (accR K [.bool (decide (C = ca.BadBy)), .bool (decide (C = ca.BadChain)), .bool (decide (C = ca.BadControl)), .bool (decide (C = ca.BadCore)), .bool (decide (C = ca.BadCores)), .bool (decide (C = ca.BadDeed)), .bool (decide (C = ca.BadEnds)), .bool (decide (C = ca.BadHigh)), .bool (decide (C = ca.BadInput)), .bool (decide (C = ca.BadInto)), .bool (decide (C = ca.BadKey)), .bool (decide (C = ca.BadLength)), .bool (decide (C = ca.BadLine)), .bool (decide (C = ca.BadListed)), .bool (decide (C = ca.BadListing)), .bool (decide (C = ca.BadLoaded)), .bool (decide (C = ca.BadMany)), .bool (decide (C = ca.BadName))])] _ _
  refine xb_frz 1 rfl ?_
  exact xb_ret (xe_var 1) rfl
theorem c_law_kinds_b (T : Txt K mg co) (E : Err K mg ca) : Def P w K mg base 1 "_law_kinds_b" ["e"] (SpP K (F_kinds (ca.pb.map (·.1)) ca)) := by
  refine def_pure T.a_law_kinds_b sc_law_kinds_b (fun ds d h => ?_) ?_
  · obtain ⟨C, e, rfl, _⟩ := h
    rfl
  rintro _ ⟨fa, cdv, A, outer, s, H, Ex, hr, rfl⟩ _ _ ⟨C, e, rfl, he, hC, rfl⟩
  have xc := xc_of E hC
  have ki : ∀ {i : Nat} {D : Addr}, ca.list[i]? = some D → PySem.W.kitOne K (.ref C) (.ref D) = some (decide (C = D)) := fun h => kit_own E hC (List.mem_of_getElem? h)
  refine xb_asgA 1 (xn_lst xa_nil) ?_ sc_law_kinds_b.nd
  show XB _ [.dat e, .own (accR K [])] _ _
  refine ext1 (xe_lst (xa_cons (xe_isO T.g_isinstance (xe_var 0) he xc E.m_BadNames (ki (i := 18) rfl)) (xa_cons (xe_isO T.g_isinstance (xe_var 0) he xc E.m_BadNumber (ki (i := 19) rfl)) xa_nil))) (by exact Nat.le_of_ble_eq_true rfl) ?_
  show XB _ [.dat e, .own (accR K [.bool (decide (C = ca.BadNames)), .bool (decide (C = ca.BadNumber))])] _ _
  refine ext1 (xe_lst (xa_cons (xe_isO T.g_isinstance (xe_var 0) he xc E.m_BadOctets (ki (i := 20) rfl)) (xa_cons (xe_isO T.g_isinstance (xe_var 0) he xc E.m_BadOther (ki (i := 21) rfl)) xa_nil))) (by exact Nat.le_of_ble_eq_true rfl) ?_
  show XB _ [.dat e, .own (accR K [.bool (decide (C = ca.BadNames)), .bool (decide (C = ca.BadNumber)), .bool (decide (C = ca.BadOctets)), .bool (decide (C = ca.BadOther))])] _ _
  refine ext1 (xe_lst (xa_cons (xe_isO T.g_isinstance (xe_var 0) he xc E.m_BadOut (ki (i := 22) rfl)) (xa_cons (xe_isO T.g_isinstance (xe_var 0) he xc E.m_BadPaper (ki (i := 23) rfl)) xa_nil))) (by exact Nat.le_of_ble_eq_true rfl) ?_
  show XB _ [.dat e, .own (accR K [.bool (decide (C = ca.BadNames)), .bool (decide (C = ca.BadNumber)), .bool (decide (C = ca.BadOctets)), .bool (decide (C = ca.BadOther)), .bool (decide (C = ca.BadOut)), .bool (decide (C = ca.BadPaper))])] _ _
  refine ext1 (xe_lst (xa_cons (xe_isO T.g_isinstance (xe_var 0) he xc E.m_BadPattern (ki (i := 24) rfl)) (xa_cons (xe_isO T.g_isinstance (xe_var 0) he xc E.m_BadPiece (ki (i := 25) rfl)) xa_nil))) (by exact Nat.le_of_ble_eq_true rfl) ?_
  show XB _ [.dat e, .own (accR K [.bool (decide (C = ca.BadNames)), .bool (decide (C = ca.BadNumber)), .bool (decide (C = ca.BadOctets)), .bool (decide (C = ca.BadOther)), .bool (decide (C = ca.BadOut)), .bool (decide (C = ca.BadPaper)), .bool (decide (C = ca.BadPattern)), .bool (decide (C = ca.BadPiece))])] _ _
  refine ext1 (xe_lst (xa_cons (xe_isO T.g_isinstance (xe_var 0) he xc E.m_BadProgram (ki (i := 26) rfl)) (xa_cons (xe_isO T.g_isinstance (xe_var 0) he xc E.m_BadRow (ki (i := 27) rfl)) xa_nil))) (by exact Nat.le_of_ble_eq_true rfl) ?_
  show XB _ [.dat e, .own (accR K [.bool (decide (C = ca.BadNames)), .bool (decide (C = ca.BadNumber)), .bool (decide (C = ca.BadOctets)), .bool (decide (C = ca.BadOther)), .bool (decide (C = ca.BadOut)), .bool (decide (C = ca.BadPaper)), .bool (decide (C = ca.BadPattern)), .bool (decide (C = ca.BadPiece)), .bool (decide (C = ca.BadProgram)), .bool (decide (C = ca.BadRow))])] _ _
  refine ext1 (xe_lst (xa_cons (xe_isO T.g_isinstance (xe_var 0) he xc E.m_BadRunner (ki (i := 28) rfl)) (xa_cons (xe_isO T.g_isinstance (xe_var 0) he xc E.m_BadSaved (ki (i := 29) rfl)) xa_nil))) (by exact Nat.le_of_ble_eq_true rfl) ?_
  show XB _ [.dat e, .own (accR K [.bool (decide (C = ca.BadNames)), .bool (decide (C = ca.BadNumber)), .bool (decide (C = ca.BadOctets)), .bool (decide (C = ca.BadOther)), .bool (decide (C = ca.BadOut)), .bool (decide (C = ca.BadPaper)), .bool (decide (C = ca.BadPattern)), .bool (decide (C = ca.BadPiece)), .bool (decide (C = ca.BadProgram)), .bool (decide (C = ca.BadRow)), .bool (decide (C = ca.BadRunner)), .bool (decide (C = ca.BadSaved))])] _ _
  refine ext1 (xe_lst (xa_cons (xe_isO T.g_isinstance (xe_var 0) he xc E.m_BadSecond (ki (i := 30) rfl)) (xa_cons (xe_isO T.g_isinstance (xe_var 0) he xc E.m_BadSet (ki (i := 31) rfl)) xa_nil))) (by exact Nat.le_of_ble_eq_true rfl) ?_
  show XB _ [.dat e, .own (accR K [.bool (decide (C = ca.BadNames)), .bool (decide (C = ca.BadNumber)), .bool (decide (C = ca.BadOctets)), .bool (decide (C = ca.BadOther)), .bool (decide (C = ca.BadOut)), .bool (decide (C = ca.BadPaper)), .bool (decide (C = ca.BadPattern)), .bool (decide (C = ca.BadPiece)), .bool (decide (C = ca.BadProgram)), .bool (decide (C = ca.BadRow)), .bool (decide (C = ca.BadRunner)), .bool (decide (C = ca.BadSaved)), .bool (decide (C = ca.BadSecond)), .bool (decide (C = ca.BadSet))])] _ _
  refine ext1 (xe_lst (xa_cons (xe_isO T.g_isinstance (xe_var 0) he xc E.m_BadSigns (ki (i := 32) rfl)) (xa_cons (xe_isO T.g_isinstance (xe_var 0) he xc E.m_BadSize (ki (i := 33) rfl)) xa_nil))) (by exact Nat.le_of_ble_eq_true rfl) ?_
  show XB _ [.dat e, .own (accR K [.bool (decide (C = ca.BadNames)), .bool (decide (C = ca.BadNumber)), .bool (decide (C = ca.BadOctets)), .bool (decide (C = ca.BadOther)), .bool (decide (C = ca.BadOut)), .bool (decide (C = ca.BadPaper)), .bool (decide (C = ca.BadPattern)), .bool (decide (C = ca.BadPiece)), .bool (decide (C = ca.BadProgram)), .bool (decide (C = ca.BadRow)), .bool (decide (C = ca.BadRunner)), .bool (decide (C = ca.BadSaved)), .bool (decide (C = ca.BadSecond)), .bool (decide (C = ca.BadSet)), .bool (decide (C = ca.BadSigns)), .bool (decide (C = ca.BadSize))])] _ _
  refine ext1 (xe_lst (xa_cons (xe_isO T.g_isinstance (xe_var 0) he xc E.m_BadState (ki (i := 34) rfl)) (xa_cons (xe_isO T.g_isinstance (xe_var 0) he xc E.m_BadSteps (ki (i := 35) rfl)) xa_nil))) (by exact Nat.le_of_ble_eq_true rfl) ?_
  show XB _ [.dat e, .own (accR K [.bool (decide (C = ca.BadNames)), .bool (decide (C = ca.BadNumber)), .bool (decide (C = ca.BadOctets)), .bool (decide (C = ca.BadOther)), .bool (decide (C = ca.BadOut)), .bool (decide (C = ca.BadPaper)), .bool (decide (C = ca.BadPattern)), .bool (decide (C = ca.BadPiece)), .bool (decide (C = ca.BadProgram)), .bool (decide (C = ca.BadRow)), .bool (decide (C = ca.BadRunner)), .bool (decide (C = ca.BadSaved)), .bool (decide (C = ca.BadSecond)), .bool (decide (C = ca.BadSet)), .bool (decide (C = ca.BadSigns)), .bool (decide (C = ca.BadSize)), .bool (decide (C = ca.BadState)), .bool (decide (C = ca.BadSteps))])] _ _
  refine xb_frz 1 rfl ?_
  exact xb_ret (xe_var 1) rfl
theorem c_law_kinds_c (T : Txt K mg co) (E : Err K mg ca) : Def P w K mg base 1 "_law_kinds_c" ["e"] (SpP K (F_kinds (ca.pc.map (·.1)) ca)) := by
  refine def_pure T.a_law_kinds_c sc_law_kinds_c (fun ds d h => ?_) ?_
  · obtain ⟨C, e, rfl, _⟩ := h
    rfl
  rintro _ ⟨fa, cdv, A, outer, s, H, Ex, hr, rfl⟩ _ _ ⟨C, e, rfl, he, hC, rfl⟩
  have xc := xc_of E hC
  have ki : ∀ {i : Nat} {D : Addr}, ca.list[i]? = some D → PySem.W.kitOne K (.ref C) (.ref D) = some (decide (C = D)) := fun h => kit_own E hC (List.mem_of_getElem? h)
  refine xb_asgA 1 (xn_lst xa_nil) ?_ sc_law_kinds_c.nd
  show XB _ [.dat e, .own (accR K [])] _ _
  refine ext1 (xe_lst (xa_cons (xe_isO T.g_isinstance (xe_var 0) he xc E.m_BadTable (ki (i := 36) rfl)) (xa_cons (xe_isO T.g_isinstance (xe_var 0) he xc E.m_BadText (ki (i := 37) rfl)) xa_nil))) (by exact Nat.le_of_ble_eq_true rfl) ?_
  show XB _ [.dat e, .own (accR K [.bool (decide (C = ca.BadTable)), .bool (decide (C = ca.BadText))])] _ _
  refine ext1 (xe_lst (xa_cons (xe_isO T.g_isinstance (xe_var 0) he xc E.m_BadTriple (ki (i := 38) rfl)) (xa_cons (xe_isO T.g_isinstance (xe_var 0) he xc E.m_BadWord (ki (i := 39) rfl)) xa_nil))) (by exact Nat.le_of_ble_eq_true rfl) ?_
  show XB _ [.dat e, .own (accR K [.bool (decide (C = ca.BadTable)), .bool (decide (C = ca.BadText)), .bool (decide (C = ca.BadTriple)), .bool (decide (C = ca.BadWord))])] _ _
  refine ext1 (xe_lst (xa_cons (xe_isO T.g_isinstance (xe_var 0) he xc E.m_Done (ki (i := 40) rfl)) (xa_cons (xe_isO T.g_isinstance (xe_var 0) he xc E.m_Full (ki (i := 41) rfl)) xa_nil))) (by exact Nat.le_of_ble_eq_true rfl) ?_
  show XB _ [.dat e, .own (accR K [.bool (decide (C = ca.BadTable)), .bool (decide (C = ca.BadText)), .bool (decide (C = ca.BadTriple)), .bool (decide (C = ca.BadWord)), .bool (decide (C = ca.Done)), .bool (decide (C = ca.Full))])] _ _
  refine ext1 (xe_lst (xa_cons (xe_isO T.g_isinstance (xe_var 0) he xc E.m_Gap (ki (i := 42) rfl)) (xa_cons (xe_isO T.g_isinstance (xe_var 0) he xc E.m_NoAgain (ki (i := 43) rfl)) xa_nil))) (by exact Nat.le_of_ble_eq_true rfl) ?_
  show XB _ [.dat e, .own (accR K [.bool (decide (C = ca.BadTable)), .bool (decide (C = ca.BadText)), .bool (decide (C = ca.BadTriple)), .bool (decide (C = ca.BadWord)), .bool (decide (C = ca.Done)), .bool (decide (C = ca.Full)), .bool (decide (C = ca.Gap)), .bool (decide (C = ca.NoAgain))])] _ _
  refine ext1 (xe_lst (xa_cons (xe_isO T.g_isinstance (xe_var 0) he xc E.m_NoBack (ki (i := 44) rfl)) (xa_cons (xe_isO T.g_isinstance (xe_var 0) he xc E.m_NoFuse (ki (i := 45) rfl)) xa_nil))) (by exact Nat.le_of_ble_eq_true rfl) ?_
  show XB _ [.dat e, .own (accR K [.bool (decide (C = ca.BadTable)), .bool (decide (C = ca.BadText)), .bool (decide (C = ca.BadTriple)), .bool (decide (C = ca.BadWord)), .bool (decide (C = ca.Done)), .bool (decide (C = ca.Full)), .bool (decide (C = ca.Gap)), .bool (decide (C = ca.NoAgain)), .bool (decide (C = ca.NoBack)), .bool (decide (C = ca.NoFuse))])] _ _
  refine ext1 (xe_lst (xa_cons (xe_isO T.g_isinstance (xe_var 0) he xc E.m_NoKind (ki (i := 46) rfl)) (xa_cons (xe_isO T.g_isinstance (xe_var 0) he xc E.m_NoMove (ki (i := 47) rfl)) xa_nil))) (by exact Nat.le_of_ble_eq_true rfl) ?_
  show XB _ [.dat e, .own (accR K [.bool (decide (C = ca.BadTable)), .bool (decide (C = ca.BadText)), .bool (decide (C = ca.BadTriple)), .bool (decide (C = ca.BadWord)), .bool (decide (C = ca.Done)), .bool (decide (C = ca.Full)), .bool (decide (C = ca.Gap)), .bool (decide (C = ca.NoAgain)), .bool (decide (C = ca.NoBack)), .bool (decide (C = ca.NoFuse)), .bool (decide (C = ca.NoKind)), .bool (decide (C = ca.NoMove))])] _ _
  refine ext1 (xe_lst (xa_cons (xe_isO T.g_isinstance (xe_var 0) he xc E.m_NotKind (ki (i := 48) rfl)) (xa_cons (xe_isO T.g_isinstance (xe_var 0) he xc E.m_NotThere (ki (i := 49) rfl)) xa_nil))) (by exact Nat.le_of_ble_eq_true rfl) ?_
  show XB _ [.dat e, .own (accR K [.bool (decide (C = ca.BadTable)), .bool (decide (C = ca.BadText)), .bool (decide (C = ca.BadTriple)), .bool (decide (C = ca.BadWord)), .bool (decide (C = ca.Done)), .bool (decide (C = ca.Full)), .bool (decide (C = ca.Gap)), .bool (decide (C = ca.NoAgain)), .bool (decide (C = ca.NoBack)), .bool (decide (C = ca.NoFuse)), .bool (decide (C = ca.NoKind)), .bool (decide (C = ca.NoMove)), .bool (decide (C = ca.NotKind)), .bool (decide (C = ca.NotThere))])] _ _
  refine ext1 (xe_lst (xa_cons (xe_isO T.g_isinstance (xe_var 0) he xc E.m_NotWatched (ki (i := 50) rfl)) (xa_cons (xe_isO T.g_isinstance (xe_var 0) he xc E.m_NotWhole (ki (i := 51) rfl)) xa_nil))) (by exact Nat.le_of_ble_eq_true rfl) ?_
  show XB _ [.dat e, .own (accR K [.bool (decide (C = ca.BadTable)), .bool (decide (C = ca.BadText)), .bool (decide (C = ca.BadTriple)), .bool (decide (C = ca.BadWord)), .bool (decide (C = ca.Done)), .bool (decide (C = ca.Full)), .bool (decide (C = ca.Gap)), .bool (decide (C = ca.NoAgain)), .bool (decide (C = ca.NoBack)), .bool (decide (C = ca.NoFuse)), .bool (decide (C = ca.NoKind)), .bool (decide (C = ca.NoMove)), .bool (decide (C = ca.NotKind)), .bool (decide (C = ca.NotThere)), .bool (decide (C = ca.NotWatched)), .bool (decide (C = ca.NotWhole))])] _ _
  refine ext1 (xe_lst (xa_cons (xe_isO T.g_isinstance (xe_var 0) he xc E.m_NotWithin (ki (i := 52) rfl)) (xa_cons (xe_isO T.g_isinstance (xe_var 0) he xc E.m_OtherSigns (ki (i := 53) rfl)) xa_nil))) (by exact Nat.le_of_ble_eq_true rfl) ?_
  show XB _ [.dat e, .own (accR K [.bool (decide (C = ca.BadTable)), .bool (decide (C = ca.BadText)), .bool (decide (C = ca.BadTriple)), .bool (decide (C = ca.BadWord)), .bool (decide (C = ca.Done)), .bool (decide (C = ca.Full)), .bool (decide (C = ca.Gap)), .bool (decide (C = ca.NoAgain)), .bool (decide (C = ca.NoBack)), .bool (decide (C = ca.NoFuse)), .bool (decide (C = ca.NoKind)), .bool (decide (C = ca.NoMove)), .bool (decide (C = ca.NotKind)), .bool (decide (C = ca.NotThere)), .bool (decide (C = ca.NotWatched)), .bool (decide (C = ca.NotWhole)), .bool (decide (C = ca.NotWithin)), .bool (decide (C = ca.OtherSigns))])] _ _
  refine xb_frz 1 rfl ?_
  exact xb_ret (xe_var 1) rfl
theorem c_law_kinds_d (T : Txt K mg co) (E : Err K mg ca) : Def P w K mg base 1 "_law_kinds_d" ["e"] (SpP K (F_kinds (ca.pd.map (·.1)) ca)) := by
  refine def_pure T.a_law_kinds_d sc_law_kinds_d (fun ds d h => ?_) ?_
  · obtain ⟨C, e, rfl, _⟩ := h
    rfl
  rintro _ ⟨fa, cdv, A, outer, s, H, Ex, hr, rfl⟩ _ _ ⟨C, e, rfl, he, hC, rfl⟩
  have xc := xc_of E hC
  have ki : ∀ {i : Nat} {D : Addr}, ca.list[i]? = some D → PySem.W.kitOne K (.ref C) (.ref D) = some (decide (C = D)) := fun h => kit_own E hC (List.mem_of_getElem? h)
  refine xb_asgA 1 (xn_lst xa_nil) ?_ sc_law_kinds_d.nd
  show XB _ [.dat e, .own (accR K [])] _ _
  refine ext1 (xe_lst (xa_cons (xe_isO T.g_isinstance (xe_var 0) he xc E.m_Refused (ki (i := 54) rfl)) (xa_cons (xe_isO T.g_isinstance (xe_var 0) he xc E.m_There (ki (i := 55) rfl)) xa_nil))) (by exact Nat.le_of_ble_eq_true rfl) ?_
  show XB _ [.dat e, .own (accR K [.bool (decide (C = ca.Refused)), .bool (decide (C = ca.There))])] _ _
  refine ext1 (xe_lst (xa_cons (xe_isO T.g_isinstance (xe_var 0) he xc E.m_TooMany (ki (i := 56) rfl)) (xa_cons (xe_isO T.g_isinstance (xe_var 0) he xc E.m_Unfit (ki (i := 57) rfl)) xa_nil))) (by exact Nat.le_of_ble_eq_true rfl) ?_
  show XB _ [.dat e, .own (accR K [.bool (decide (C = ca.Refused)), .bool (decide (C = ca.There)), .bool (decide (C = ca.TooMany)), .bool (decide (C = ca.Unfit))])] _ _
  refine ext1 (xe_lst (xa_cons (xe_isO T.g_isinstance (xe_var 0) he xc E.m_Used (ki (i := 58) rfl)) (xa_cons (xe_isO T.g_isinstance (xe_var 0) he xc E.m_UsesNumber (ki (i := 59) rfl)) xa_nil))) (by exact Nat.le_of_ble_eq_true rfl) ?_
  show XB _ [.dat e, .own (accR K [.bool (decide (C = ca.Refused)), .bool (decide (C = ca.There)), .bool (decide (C = ca.TooMany)), .bool (decide (C = ca.Unfit)), .bool (decide (C = ca.Used)), .bool (decide (C = ca.UsesNumber))])] _ _
  refine ext1 (xe_lst (xa_cons (xe_isO T.g_isinstance (xe_var 0) he xc E.m_Watched (ki (i := 60) rfl)) xa_nil)) (by exact Nat.le_of_ble_eq_true rfl) ?_
  show XB _ [.dat e, .own (accR K [.bool (decide (C = ca.Refused)), .bool (decide (C = ca.There)), .bool (decide (C = ca.TooMany)), .bool (decide (C = ca.Unfit)), .bool (decide (C = ca.Used)), .bool (decide (C = ca.UsesNumber)), .bool (decide (C = ca.Watched))])] _ _
  refine xb_frz 1 rfl ?_
  exact xb_ret (xe_var 1) rfl
theorem c_law_kinds (T : Txt K mg co) (E : Err K mg ca) : Def P w K mg base 2 "_law_kinds" ["e"] (SpP K (F_kinds ca.list ca)) := by
  refine def_pure T.a_law_kinds sc_law_kinds (fun ds d h => ?_) ?_
  · obtain ⟨C, e, rfl, _⟩ := h
    rfl
  rintro _ ⟨fa, cdv, A, outer, s, H, Ex, hr, rfl⟩ _ _ ⟨C, e, rfl, he, hC, rfl⟩
  show XB _ [.dat e] _ _
  exact xb_ret (xe_cat (xe_cat (xe_cat (xe_call (c_law_kinds_a T E) hr (xa_cons (xe_var 0) xa_nil) ⟨C, e, rfl, he, hC, rfl⟩) (xe_call (c_law_kinds_b T E) hr (xa_cons (xe_var 0) xa_nil) ⟨C, e, rfl, he, hC, rfl⟩) (by exact Nat.le_of_ble_eq_true rfl)) (xe_call (c_law_kinds_c T E) hr (xa_cons (xe_var 0) xa_nil) ⟨C, e, rfl, he, hC, rfl⟩) (by exact Nat.le_of_ble_eq_true rfl)) (xe_call (c_law_kinds_d T E) hr (xa_cons (xe_var 0) xa_nil) ⟨C, e, rfl, he, hC, rfl⟩) (by exact Nat.le_of_ble_eq_true rfl)) rfl
end
end K00

set_option Elab.async false
set_option linter.all false
set_option maxRecDepth 100000
set_option maxHeartbeats 1000000
namespace K00
open PySem PySem.Spec PyProof.Rows L2 Dl LamX
section
variable {K : PySem.W.Frag} {mg : Str → Option Value} {ca : CA}
theorem kit_bt (E : Err K mg ca) {C : Addr} (hC : C ∈ ca.fe :: ca.list) {T : String} {b : Bool} (hT : PySem.W.kitMeta T = true) (hb : PySem.HandSPX.veTail.contains (.type T) = b) : PySem.W.kitOne K (.ref C) (.type T) = some b := by
  rcases List.mem_cons.mp hC with rfl | hC
  · rw [E.f_FilterError.kitT hT, hb]
  · rw [(cls_of E hC).kitT hT, hb]
end
def F_is_own (ca : CA) (ds : List PyData) (d : PyData) : Prop := ∃ (C : Addr) (e : PyData) (k : Nat), ds = [e, .int k] ∧ ErrOf C e ∧ ca.list[k]? = some C ∧ d = .bool true
def F_are_these (ds : List PyData) (d : PyData) : Prop := ∃ vs : List PyData, ds = [.list vs, .list vs] ∧ (∀ v ∈ vs, NiceD v) ∧ vs.length ≤ 1000 ∧ d = .bool true
theorem own_eq {l : List Addr} (h : l.Nodup) {C : Addr} {k : Nat} (hk : l[k]? = some C) : l.map (fun D => decide (C = D)) = (List.range l.length).map fun i : Nat => decide ((i : Int) = (k : Int)) := by
  apply List.ext_getElem?
  intro i
  rw [List.getElem?_map, List.getElem?_map]
  by_cases hi : i < l.length
  · rw [List.getElem?_eq_getElem hi, List.getElem?_range hi, Option.map_some, Option.map_some]
    congr 1
    obtain ⟨hk1, hk2⟩ := List.getElem?_eq_some_iff.mp hk
    rw [Bool.eq_iff_iff, decide_eq_true_iff, decide_eq_true_iff]
    constructor
    · intro e
      rw [← hk2] at e
      have := (List.getElem_inj h).mp e
      omega
    · intro e
      have e : i = k := by omega
      subst e
      exact hk2.symm
  · rw [List.getElem?_eq_none_iff.mpr (by omega), List.getElem?_eq_none_iff.mpr (by rw [List.length_range]; omega)]
    rfl
section
variable {P : Program} {w : World} {K : PySem.W.Frag} {mg : Str → Option Value} {base : Heap} {ca : CA} {co : CO}
theorem c_law_is_own (T : Txt K mg co) (E : Err K mg ca) : Def P w K mg base 3 "_law_is_own" ["e", "at"] (SpP K (F_is_own ca)) := by
  refine def_pure T.a_law_is_own sc_law_is_own (fun ds d h => ?_) ?_
  · obtain ⟨C, e, k, rfl, _⟩ := h
    rfl
  rintro _ ⟨fa, cdv, A, outer, s, H, Ex, hr, rfl⟩ _ _ ⟨C, e, k, rfl, he, hk, rfl⟩
  have hu := room65 hr
  have hC := List.mem_of_getElem? hk
  have hC2 : C ∈ ca.fe :: ca.list := List.mem_cons_of_mem _ hC
  have xc := xc_of E hC2
  have hValueError := kit_bt (T := "ValueError") (b := true) E hC2 (by decide +kernel) (by decide +kernel)
  have hLookupError := kit_bt (T := "LookupError") (b := false) E hC2 (by decide +kernel) (by decide +kernel)
  have hArithmeticError := kit_bt (T := "ArithmeticError") (b := false) E hC2 (by decide +kernel) (by decide +kernel)
  have hTypeError := kit_bt (T := "TypeError") (b := false) E hC2 (by decide +kernel) (by decide +kernel)
  show XB _ [.dat e, .dat (.int k), .no] _ _
  refine xb_ifR (k := false) (xt_eq ((xw_or (xt_not (xt_tru (xe_isO T.g_isinstance (xe_var 0) he xc E.m_FilterError (kit_fe E hC)))) (fun _ => (xw_or1 (xt_not (xt_tru (xe_isB T.g_isinstance (xe_var 0) he xc T.g_ValueError (by kernel_rfl) hValueError)))))).xt) rfl) (fun h => nomatch h) fun _ => ?_
  refine xb_ifR (k := false) (xt_eq ((xw_or (xt_tru (xe_isB T.g_isinstance (xe_var 0) he xc T.g_LookupError (by kernel_rfl) hLookupError)) (fun _ => (xw_or (xt_tru (xe_isB T.g_isinstance (xe_var 0) he xc T.g_ArithmeticError (by kernel_rfl) hArithmeticError)) (fun _ => (xw_or1 (xt_tru (xe_isB T.g_isinstance (xe_var 0) he xc T.g_TypeError (by kernel_rfl) hTypeError))))))).xt) rfl) (fun h => nomatch h) fun _ => ?_
  have e1 : (ca.list.map fun D => PyData.bool (decide (C = D))) = (ca.list.map fun D => decide (C = D)).map .bool := by rw [List.map_map]; rfl
  have e2 : ((List.range 61).map fun i : Nat => PyData.bool (decide ((i : Int) = (k : Int)))) = ((List.range 61).map fun i : Nat => decide ((i : Int) = (k : Int))).map .bool := by rw [List.map_map]; rfl
  refine xb_ret (xe_cmp hu (xe_eq (xe_call (c_law_kinds T E) hr (xa_cons (xe_var 0) xa_nil) ⟨C, e, rfl, he, hC2, rfl⟩) (congrArg PyData.list e1)) (xe_eq (xe_new (xl_lc (l := List.range 61) (f := fun i : Nat => PyData.int (0 + (i : Int))) 2 (fun i : Nat => PyData.bool (decide ((i : Int) = (k : Int)))) sc_law_is_own.nd (xi_rng1 T.g_range xe_int (by decide)) (fun _ _ _ _ _ d hd => xe_eq (xe_cmp hu (xe_var 2) (xe_var 1) (.eqI _ _)) (by rw [Int.zero_add])) (by decide)).val) (congrArg PyData.list e2)) (.eqD _ _ (shaped_bools _) (shaped_bools _))) ?_
  rw [eqv_lb, own_eq (List.nodup_cons.mp E.nd).2 hk]
  exact congrArg PyData.bool (decide_eq_true rfl)
theorem c_law_are_these (T : Txt K mg co) : DefG P w K mg base 1 "_law_are_these" ["found", "due"] (SpP K F_are_these) := by
  refine def_pureG T.a_law_are_these sc_law_are_these (fun ds d h => ?_) ?_
  · obtain ⟨vs, rfl, _⟩ := h
    rfl
  rintro _ ⟨fa, cdv, A, outer, s, H, Ex, hg, hr, rfl⟩ _ _ ⟨vs, rfl, hn, hl, rfl⟩
  have hu := room65 hr
  have hu2 : (A.deeper (envOfC "_law_are_these" (defScope s_law_are_these) s.heap.objs.size fa cdv)).units + 50 < cLine := by have := hr.un; omega
  show XB _ [.dat (.list vs), .dat (.list vs)] _ _
  refine xb_ret (xe_and (xe_cmp hu (xe_repr hg hu2 T.g_repr (xe_var 0) hn hl) (xe_repr hg hu2 T.g_repr (xe_var 1) hn hl) (.eqS _ _)) (fun _ => (xe_one (xe_cmp hu (xe_len T.g_len (xe_var 0) (.lst _)) (xe_len T.g_len (xe_var 1) (.lst _)) (.eqI _ _))))) ?_
  rw [decide_eq_true rfl, decide_eq_true rfl]
  rfl
end
end K00

set_option Elab.async false
set_option linter.all false
set_option maxRecDepth 100000
set_option maxHeartbeats 4000000
namespace K00
open PySem PySem.Spec PyProof.Rows L2 Dl
def Pb (n : Nat) (ds : List PyData) : Prop := n ≤ 2 ^ 40 ∧ ∃ many : Int, ds = [.int many] ∧ 0 < many ∧ many ≤ 1000
def Qb (n : Nat) (ds : List PyData) (n2 : Nat) (d : PyData) : Prop := n2 = n + 1 ∧ ∃ j : Int, d = .int j ∧ 0 ≤ j ∧ ∀ many : Int, ds = [.int many] → j < many
section
variable {P : Program} {w : World} {K : PySem.W.Frag} {mg : Str → Option Value} {base : Heap} {co : CO}
theorem c_law_below (T : Txt K mg co) : Def P w K mg base 1 "_law_below" ["stream", "many"] (SpS K Pb Qb) := by
  refine def_draw T.a_law_below sc_law_below (fun n ds h => ?_) ?_
  · obtain ⟨_, many, rfl, _⟩ := h
    rfl
  rintro _ ⟨fa, cdv, A, outer, s, H, E, hr, rfl⟩ p q n _ ⟨hn, many, rfl, hm0, hm1⟩
  have hu := room65 hr
  show XB _ [.own (strmR p q n), .dat (.int many), .no, .no, .no] _ _
  refine xb_openS 0 rfl fun cells r c m hb => ?_
  show XB _ [.own (strmX p q cells r c m), .dat (.int many), .no, .no, .no] _ _
  obtain ⟨b1, b2, b3, b4, b5, b6⟩ := hb
  have hmod : ∀ j : Int, 0 ≤ j % many ∧ j % many < many := fun j => ⟨Int.emod_nonneg _ (by omega), Int.emod_lt_of_pos _ hm0⟩
  refine xb_stSet 0 2 rfl (.inr (.inl rfl)) (xe_addI (xe_st 0 2 rfl (.inr (.inl rfl))) xe_int) ?_
  show XB _ [.own (strmX p q cells r (c + 1) m), .dat (.int many), .no, .no, .no] _ _
  refine xb_while (fun k δ => ∃ cells r m x, cells.length = k ∧ StB (n + 1) cells r (c + 1) m ∧ δ = [.own (strmX p q cells r (c + 1) m), .dat (.int many), x, .no, .no]) (fun δ => ∃ cells r m x, StB (n + 1) cells r (c + 1) m ∧ δ = [.own (strmX p q cells r (c + 1) m), .dat (.int many), x, .no, .no]) cells.length ⟨cells, r, m, .no, rfl, ⟨b1, b2, by omega, by omega, b5, b6⟩, rfl⟩ (fun k δ hJ => ?_) (fun δ hM => ?_)
  · obtain ⟨cells, r, m, x, hk, ⟨b1, b2, b3, b4, b5, b6⟩, rfl⟩ := hJ
    refine ⟨_, ((xw_and (xt_cmp hu (xe_st 0 1 rfl (.inl rfl)) xe_int (.eqI _ _)) (fun _ => (xw_and1 (xt_stNe 0 hu rfl))))).xt, fun h => ?_, fun h => ?_⟩
    · cases cells with
      | nil => rw [show (!([] : List Int).isEmpty) = false from rfl, Bool.and_false] at h; cases h
      | cons z zs =>
        refine xb_asgF 2 (xf_stPop 0 rfl) (fun d δ1 ⟨hd, hδ⟩ => ?_) sc_law_below.nd
        subst hd hδ
        show XB _ [.own (strmX p q zs r (c + 1) m), .dat (.int many), .dat (.int z), .no, .no] _ _
        refine xb_stSet 0 3 rfl (.inr (.inr rfl)) (xe_modI (xe_intI T.g_int (xe_addI (xe_addI (xe_mulI (xe_st 0 3 rfl (.inr (.inr rfl))) xe_int (.inr ⟨by decide, by decide⟩)) (xe_var 2)) xe_int)) xe_int (by decide)) ?_
        generalize hmx : (sxAt r (c + 1) m 3 * 69031 + z + 13) % 2147483647 = m2
        have hm2 : 0 ≤ m2 ∧ m2 < 2147483647 := by omega
        show XB _ [.own (strmX p q zs r (c + 1) m2), .dat (.int many), .dat (.int z), .no, .no] _ _
        refine xb_stSet (z := if z ≥ (10 : Int) ^ (18 : Int).toNat then z else 0) 0 1 rfl (.inl rfl) (xe_if (xt_cmp hu (xe_var 2) (xe_powI xe_int xe_int ⟨by decide, by decide, by decide⟩) (.geI _ _)) (fun h => xe_eq (xe_var 2) (congrArg PyData.int (if_pos (of_decide_eq_true h)).symm)) (fun h => xe_eq xe_int (congrArg PyData.int (if_neg (of_decide_eq_false h)).symm))) (xb_nil ⟨zs.length, ?_, zs, if z ≥ (10 : Int) ^ (18 : Int).toNat then z else 0, m2, .dat (.int z), rfl, ⟨?_, ?_, b3, b4, hm2.1, hm2.2⟩, rfl⟩)
        · rw [← hk]; exact Nat.lt_succ_self _
        · rw [List.length_cons] at b1
          omega
        · have h10 : (0 : Int) ≤ (10 : Int) ^ (18 : Int).toNat := by decide
          split <;> omega
    · exact ⟨cells, r, m, x, ⟨b1, b2, b3, b4, b5, b6⟩, rfl⟩
  · obtain ⟨cells, r, m, x, ⟨b1, b2, b3, b4, b5, b6⟩, rfl⟩ := hM
    refine xb_ifR (xt_cmp hu (xe_st 0 1 rfl (.inl rfl)) xe_int (.gtI _ _)) (fun h => ?_) (fun h => ?_)
    · refine xb_asg 3 (xe_modI (xe_intI T.g_int (xe_st 0 1 rfl (.inl rfl))) (xe_var 1) hm0) ?_ sc_law_below.nd
      show XB _ [.own (strmX p q cells r (c + 1) m), .dat (.int many), x, .dat (.int (r % many)), .no] _ _
      refine xb_stSet 0 1 rfl (.inl rfl) (xe_divI (xe_st 0 1 rfl (.inl rfl)) (xe_var 1) ⟨hm0, by omega⟩) ?_
      show XB _ [.own (strmX p q cells (r / many) (c + 1) m), .dat (.int many), x, .dat (.int (r % many)), .no] _ _
      refine xb_closeS 0 (n + 1) rfl ⟨b1, Int.ediv_nonneg b2 (by omega), b3, b4, b5, b6⟩ ?_
      refine xb_ret (xe_var 3) ⟨n + 1, rfl, rfl, r % many, rfl, (hmod r).1, fun m2 e => ?_⟩
      cases e
      exact (hmod r).2
    · have hp1 : CPow (m + 9049 * (c + 1) + 130073) 5 := ⟨by decide, by decide, by omega⟩
      refine xb_asg 4 (xe_modI (xe_intI T.g_int (xe_powI (xe_addI (xe_addI (xe_st 0 3 rfl (.inr (.inr rfl))) (xe_mulI xe_int (xe_st 0 2 rfl (.inr (.inl rfl))) (.inl ⟨by decide, by decide⟩))) xe_int) xe_int hp1)) xe_int (by decide)) ?_ sc_law_below.nd
      generalize hmx : (sxAt r (c + 1) m 3 + 9049 * sxAt r (c + 1) m 2 + 130073) ^ (5 : Int).toNat % 2147483629 = mx
      have hm2 : 0 ≤ mx ∧ mx < 2147483629 := by omega
      show XB _ [.own (strmX p q cells r (c + 1) m), .dat (.int many), x, .no, .dat (.int mx)] _ _
      have hp2 : CPow (mx * 44089 + 60077 * (c + 1) + 47) 3 := ⟨by decide, by decide, by omega⟩
      refine xb_retS 0 (n + 1) (xe_modI (xe_modI (xe_intI T.g_int (xe_powI (xe_addI (xe_addI (xe_mulI (xe_var 4) xe_int (.inr ⟨by decide, by decide⟩)) (xe_mulI xe_int (xe_st 0 2 rfl (.inr (.inl rfl))) (.inl ⟨by decide, by decide⟩))) xe_int) xe_int hp2)) xe_int (by decide)) (xe_var 1) hm0) rfl ⟨b1, b2, b3, b4, b5, b6⟩ ⟨n + 1, rfl, rfl, _, rfl, (hmod _).1, fun m2 e => ?_⟩
      cases e
      exact (hmod _).2
theorem c_law_start (T : Txt K mg co) : Def P w K mg base 1 "_law_start" ["script"] (SpStart K) := by
  obtain ⟨fa, fd, h1, h2, h3⟩ := T.a_law_start.ex
  refine ⟨fa, fd, h1, h2.kp, h3, h2.ok sc_law_start (fun vs H Q E h => ?_) (fun cdv A outer s H vs Q E hr h => ?_)⟩
  · obtain ⟨a, ns, rfl, _⟩ := h
    rfl
  · obtain ⟨a, ns, rfl, hS, q⟩ := h
    refine ⟨_, pss_cons (ps_ret (pe_lst (pa_cons (pe_callTy call_list_of (by rfl) T.g_list boot_list (pa_cons (pe_var (i := 0) (by rfl) (by exact Or.inl rfl) (by decide) (by decide)) pa_nil (by rfl)) (by decide) (by decide) (by rfl) (by rfl)) (pa_cons pe_int (pa_cons pe_int (pa_cons pe_int pa_nil (by rfl)) (by rfl)) (by rfl)) (by rfl)))) pss_never, ?_⟩
    show ∃ v, _
    refine ⟨.ref a, rfl, ?_⟩
    show ∃ (p : Addr) (ys : List V), _
    refine ⟨a, ns.map V.int, rfl, .inl hS, fun l hl => ?_⟩
    refine ⟨by show 4 ≤ sizeLine; decide, fun l2 hl2 => ?_⟩
    have ne : l ≠ l2 := fun e => by rw [← e, upd_same] at hl2; cases hl2
    have h2 : H l2 = none := by rw [upd_ne (Ne.symm ne)] at hl2; exact hl2
    exact q l2 l _ h2 hl (Ne.symm ne) (fun b o e => by
      rw [upd_ne (fun z => by rw [z, h2] at e; cases e), upd_ne (fun z => by rw [z, hl] at e; cases e)]
      exact e) upd_same (by rw [upd_ne ne]; exact upd_same)
def Pm (n : Nat) (ds : List PyData) : Prop := n ≤ 2 ^ 39 ∧ ∃ some : List PyData, ds = [.list some] ∧ some.length ≤ 1000
def Qm (n : Nat) (ds : List PyData) (n2 : Nat) (d : PyData) : Prop := ∃ some l : List PyData, ds = [.list some] ∧ d = .list l ∧ l.length = some.length ∧ n2 = n + some.length ∧ ∀ y ∈ l, y ∈ some
theorem c_law_mixed (T : Txt K mg co) : Def P w K mg base 2 "_law_mixed" ["stream", "some"] (SpS K Pm Qm) := by
  refine def_draw T.a_law_mixed sc_law_mixed (fun n ds h => ?_) ?_
  · obtain ⟨_, some, rfl, _⟩ := h
    rfl
  rintro _ ⟨fa, cdv, A, outer, s, H, E, hr, rfl⟩ p q n _ ⟨hn, some, rfl, hz⟩
  have hu := room65 hr
  show XB _ [.own (strmR p q n), .dat (.list some), .no, .no] _ _
  refine xb_asgA 2 (xn_listOf T.g_list (xe_var 1) (.lst _)) ?_ sc_law_mixed.nd
  show XB _ [.own (strmR p q n), .dat (.list some), .own (accR K some), .no] _ _
  refine xb_retF (xlF (l := List.range ((some.length : Nat) : Int).toNat) 3 (fun i δ => ∃ l : List PyData, l.length + i = some.length ∧ (∀ y ∈ l, y ∈ some) ∧ δ = [.own (strmR p q (n + i)), .dat (.list some), .own (accR K l), .no]) (fun i d => d ∈ some) sc_law_mixed.nd (xi_rng1 T.g_range (xe_lenA 2 T.g_len rfl) (by omega)) (by exact Nat.lt_succ_self 3) (by rw [List.length_range]; omega) ⟨some, rfl, fun _ h => h, rfl⟩ (fun i δ' h => by obtain ⟨l, _, _, rfl⟩ := h; rfl) (fun _ _ _ _ _ i y δ' hy hJ => ?_)).val (fun d δ1 h1 => ?_)
  · obtain ⟨l, hl, hs, rfl⟩ := hJ
    have hi : i < some.length := by
      have := (List.getElem?_eq_some_iff.mp hy).1
      rw [List.length_range] at this
      omega
    refine xf_popA (P := fun d δ => ∃ j : Int, d = .int j ∧ 0 ≤ j ∧ j < l.length ∧ δ = [.own (strmR p q (n + i + 1)), .dat (.list some), .own (accR K l), .dat (.int (0 + (y : Int)))]) 2 rfl (xf_draw 0 (c_law_below T) (hr.mono (by decide)) rfl (xfa_of (xa_cons (xe_lenA 2 T.g_len rfl) xa_nil)) ?_) ?_
    · rintro _ _ ⟨rfl, rfl⟩
      refine ⟨n + i, rfl, ⟨by omega, (l.length : Int), rfl, by omega, by omega⟩, fun n2 d hq => ?_⟩
      obtain ⟨rfl, j, rfl, h0, h1⟩ := hq
      exact ⟨j, rfl, h0, h1 _ rfl, rfl⟩
    · rintro _ _ ⟨j, rfl, h0, h1, rfl⟩
      have hlt : j.toNat < l.length := by omega
      refine ⟨j.toNat, by rw [Int.toNat_of_nonneg h0], by omega, rfl, l[j.toNat], List.getElem?_eq_getElem hlt, hs _ (List.getElem_mem hlt), l.eraseIdx j.toNat, ?_, fun y hy => hs y (List.mem_of_mem_eraseIdx hy), rfl⟩
      rw [List.length_eraseIdx_of_lt hlt]
      omega
  · obtain ⟨ds, rfl, hl, hb, l, h2, _, rfl⟩ := h1
    rw [List.length_range] at hl h2
    have hl : ds.length = some.length := by omega
    refine ⟨n + some.length, by rw [List.length_range]; rfl, some, ds, rfl, rfl, hl, rfl, fun y hy => ?_⟩
    obtain ⟨i, hi⟩ := List.mem_iff_getElem?.mp hy
    exact hb i y hi
end
end K00

set_option Elab.async false
set_option linter.all false
set_option maxRecDepth 100000
set_option maxHeartbeats 1000000
namespace K00
open PySem PySem.Spec PyProof.Rows L2 Dl LamX
section
variable {X : Cx} {δ : List Dl.Slot} {a b : Expr} {p2 p3 pos : Pos} {j : Nat} {P P1 : PyData → List Dl.Slot → Prop} {ds ys : List PyData} {x : Str} {i : Int}
theorem xf_slK {k : Nat} (he : XF X δ a P1) (hP : ∀ d δ1, P1 d δ1 → ∃ ds, d = .list ds ∧ k ≤ ds.length ∧ P (.list (ds.take k)) δ1) : XF X δ (.Subscript a (.Slice none (some (.Constant (.int (k : Nat)) j p3)) none p2) pos) P :=
  (pe_slice or_sl he po_none (po_some pe_int)).weak fun σ H Q ⟨B, F, W, q⟩ => ⟨B, F, W, fun x d δ1 B1 H1 F1 s1 W1 h1 r1 => by
    obtain ⟨ds, rfl, hk, hp⟩ := hP _ _ h1
    cases r1 with
    | @lst l xs _ hl r =>
      refine ⟨(k : Int), rfl, .inl (.inl ⟨l, xs, rfl, SqL.of (W1.bh _ _ hl), fun m hm => ?_⟩)⟩
      have g := Grow.new (o := .lst (cutV xs none (some (k : Int)))) W1.bh hm
      refine q _ _ δ1 _ _ F1 (s1.trans (Step.of g)) (W1.grow g) hp (.lst upd_same ?_)
      have e := (r.cut none (some (k : Int))).mono g.bb
      have e2 : Dl.cutD ds none (some (k : Int)) = ds.take k := by
        unfold Dl.cutD HT.sIx
        simp only [List.drop_zero, Nat.sub_zero]
        congr 1
        rw [if_neg (by omega)]
        omega
      rw [e2] at e
      exact e⟩
theorem xe_dic1 : XE X δ (.Dict [some (.Constant (.str x) j p2)] [.Constant (.int i) j p3] pos) (.dict [(.str x, .int i)]) :=
  (pe_disp (pps_cons pe_str pe_int pps_nil) rfl rfl (by simp) (by show 1 ≤ 15; decide)).weak fun σ H Q ⟨B, F, W, q⟩ => fun p hp => by
    refine ⟨upd_same, [(.inr x, .int i)], rfl, by show 1 ≤ 15; decide, ?_⟩
    rw [upd_upd]
    have e : mergeK [] [((Sum.inr x : Key), V.int i)] = [(.inr x, .int i)] := rfl
    rw [e]
    exact q _ _ _ (Grow.new W.bh hp) (.dic1 x i upd_same)
theorem xfd_cat (ha : XFd X δ a (.list ds)) (hb : XFd X δ b (.list ys)) (hz : ds.length + ys.length ≤ 1000000) : XFd X δ (.BinOp a .Add b pos) (.list (ds ++ ys)) := xf_op op_cat ha fun d1 δ1 ⟨e1, e2⟩ => by
  subst e1 e2
  exact xf_imp hb fun d2 δ2 ⟨f1, f2⟩ => by
    subst f1 f2
    exact ⟨_, rd_cat hz, rfl, rfl⟩
end
def SOME : List PyData := [.none, .int 5, .int (-1), .bool true, .str "a", .str "", .list [.int 1, .str "b"], .tuple [.int 2, .none], .dict [(.str "a", .int 1)], .list [.list [.str "x"]], .int 100000000, .tuple [.str "s", .int 3], .bool false, .int 0, .int 1]
theorem nice_lay {d : PyData} (h1 : PyData.canLay0 d = true) (h2 : d.showable = true) (h3 : d.shown.length ≤ 1000) (h4 : d.depth ≤ 10) : NiceD d := ⟨.inl h1, h2, h3, h4⟩
theorem nice_some : ∀ d ∈ SOME, NiceD d := by
  intro d hd
  simp only [SOME, List.mem_cons, List.not_mem_nil, or_false] at hd
  rcases hd with rfl | rfl | rfl | rfl | rfl | rfl | rfl | rfl | rfl | rfl | rfl | rfl | rfl | rfl | rfl
  all_goals first
    | exact nice_lay (by decide +kernel) (by decide +kernel) (by decide +kernel) (by decide +kernel)
    | exact ⟨.inr ⟨_, _, rfl⟩, by decide +kernel, by decide +kernel, by decide +kernel⟩
theorem nice_held : NiceD (.list [.str "v", .str "w"]) := nice_lay (by decide +kernel) (by decide +kernel) (by decide +kernel) (by decide +kernel)
end K00

set_option Elab.async false
set_option linter.all false
set_option maxRecDepth 100000
set_option maxHeartbeats 1000000
namespace K00
open PySem PySem.Spec PyProof.Rows L2 Dl LamX
abbrev psOf (co : CO) : List (Addr × Str) := [(co.ta, "_law_made_a.<locals>.<lambda>"), (co.tb, "_law_made_b.<locals>.<lambda>"), (co.tc, "_law_made_c.<locals>.<lambda>"), (co.td, "_law_made_d.<locals>.<lambda>")]
structure TbB (base : Heap) (mg : Str → Option Value) (co : CO) : Prop where
  a : TabB base mg co.a co.ta
  b : TabB base mg co.b co.tb
  c : TabB base mg co.c co.tc
  d : TabB base mg co.d co.td
abbrev lawN : List Str := ["script", "stream", "some", "turn", "x", "y", "z", "made", "at", "mine", "twin", "field", "due", "held", "base"]
def dl1 (d : PyData) (δ : List Dl.Slot) : List Dl.Slot := match d with
  | .tuple [k, .tuple [a, b, c, e]] => ((((δ.set 8 (.dat k)).set 9 (.dat a)).set 10 (.dat b)).set 11 (.dat c)).set 12 (.dat e)
  | _ => δ
def dl2 (d : PyData) (δ : List Dl.Slot) : List Dl.Slot := match d with
  | .tuple [a, b, c, e] => (((δ.set 9 (.dat a)).set 10 (.dat b)).set 11 (.dat c)).set 12 (.dat e)
  | _ => δ
def dl3 (d : PyData) (δ : List Dl.Slot) : List Dl.Slot := match d with
  | .list [a, b, c] => ((δ.set 4 (.dat a)).set 5 (.dat b)).set 6 (.dat c)
  | _ => δ
theorem items_app {x y z : PyData} (ca : CA) : itemsD x y z ca.pa ++ itemsD x y z ca.pb ++ itemsD x y z ca.pc ++ itemsD x y z ca.pd = itemsD x y z ca.all := by
  unfold itemsD CA.all
  rw [List.map_append, List.map_append, List.map_append]
theorem items_len {x y z : PyData} (l : List (Addr × List Str)) : (itemsD x y z l).length = l.length := by unfold itemsD; rw [List.length_map]
section
variable {P : Program} {w : World} {K : PySem.W.Frag} {mg : Str → Option Value} {base : Heap} {ca : CA} {co : CO} {fa : Addr} {cdv : Value} {A : Around} {outer : List Env} {s : Shared} {H : Hp} {Ex : XK} {ns : List Int}
abbrev lawX (P : Program) (w : World) (K : PySem.W.Frag) (mg : Str → Option Value) (base : Heap) (fa : Addr) (cdv : Value) (A : Around) (outer : List Env) (s : Shared) (H : Hp) (Ex : XK) : Cx := (cxOf CX0 P w K mg base lawN "law" (defScope s_law) fa cdv A outer s H Ex).nox
theorem item_tells (E : Err K mg ca) {p : Addr × List Str} (hp : p ∈ ca.all) {x y z : PyData} : Tells K p.2 (mkD p.1 p.2 ([x, y, z].take p.2.length)) ([x, y, z].take p.2.length) :=
  tells_mk ((cls_all E p hp).1.xc E.g) (cls_all E p hp).2 (names_all ca p hp).1 (names_all ca p hp).2
theorem law_turn (T : Txt K mg co) (E : Err K mg ca) (TB : TbB base mg co) (nd : (psOf co).map (·.1) |>.Nodup) (hg : A.guards = some []) (hr : Room 3 (A.deeper (envOfC "law" (defScope s_law) s.heap.objs.size fa cdv))) {R : Post} {st : Dl.Slot} {x y z : PyData} {s2 s3 s7 s8 s9 s10 s11 s12 : Dl.Slot} (hx : NiceD x) (hy : NiceD y) (hz : NiceD z)
    (k : ∀ s7 s8 s9 s10 s11 s12, XB (lawX P w K mg base fa cdv A outer s H Ex) [.own (scrM K ns (psOf co)), st, s2, s3, .dat x, .dat y, .dat z, s7, s8, s9, s10, s11, s12, .no, .no] [] R) :
    XB (lawX P w K mg base fa cdv A outer s H Ex) [.own (scrM K ns (psOf co)), st, s2, s3, .dat x, .dat y, .dat z, s7, s8, s9, s10, s11, s12, .no, .no] (match defBody s_law with | _ :: _ :: .For _ _ (_ :: b) _ _ :: _ => b | _ => []) R := by
  have hu := room65 hr
  refine xb_asgNE 7 (xnf_cat (xfd_cat (xf_callT (c_law_made_a T E TB.a) hr rfl (.head _) nd (xa_cons (xe_var 4) (xa_cons (xe_var 5) (xa_cons (xe_var 6) xa_nil))) ⟨x, y, z, rfl, rfl⟩) (xf_callT (c_law_made_b T E TB.b) hr rfl (.tail _ (.head _)) nd (xa_cons (xe_var 4) (xa_cons (xe_var 5) (xa_cons (xe_var 6) xa_nil))) ⟨x, y, z, rfl, rfl⟩) (by exact Nat.le_of_ble_eq_true rfl)) (xf_callT (c_law_made_c T E TB.c) hr rfl (.tail _ (.tail _ (.head _))) nd (xa_cons (xe_var 4) (xa_cons (xe_var 5) (xa_cons (xe_var 6) xa_nil))) ⟨x, y, z, rfl, rfl⟩) (by exact Nat.le_of_ble_eq_true rfl)) (by exact Nat.le_of_ble_eq_true rfl) ?_ sc_law.nd
  show XB _ [.own (scrM K ns (psOf co)), st, s2, s3, .dat x, .dat y, .dat z, .own (accR K (itemsD x y z ca.pa ++ itemsD x y z ca.pb ++ itemsD x y z ca.pc)), s8, s9, s10, s11, s12, .no, .no] _ _
  refine xb_extF 7 rfl (xf_callT (c_law_made_d T E TB.d) hr rfl (.tail _ (.tail _ (.tail _ (.head _)))) nd (xa_cons (xe_var 4) (xa_cons (xe_var 5) (xa_cons (xe_var 6) xa_nil))) ⟨x, y, z, rfl, rfl⟩) (by exact Nat.le_of_ble_eq_true rfl) ?_
  rw [items_app]
  show XB _ [.own (scrM K ns (psOf co)), st, s2, s3, .dat x, .dat y, .dat z, .own (accR K (itemsD x y z ca.all)), s8, s9, s10, s11, s12, .no, .no] _ _
  refine xb_frz 7 rfl ?_
  show XB _ [.own (scrM K ns (psOf co)), st, s2, s3, .dat x, .dat y, .dat z, .dat (.list (itemsD x y z ca.all)), s8, s9, s10, s11, s12, .no, .no] _ _
  refine xb_for (is := [8, 9, 10, 11, 12]) dl1 (fun i δ => ∃ s8 s9 s10 s11 s12, δ = [.own (scrM K ns (psOf co)), st, s2, s3, .dat x, .dat y, .dat z, .dat (.list (itemsD x y z ca.all)), s8, s9, s10, s11, s12, .no, .no]) (fun δ => ∃ s8 s9 s10 s11 s12, δ = [.own (scrM K ns (psOf co)), st, s2, s3, .dat x, .dat y, .dat z, .dat (.list (itemsD x y z ca.all)), s8, s9, s10, s11, s12, .no, .no]) (xi_enum T.g_enumerate (xe_var 7)) ⟨_, _, _, _, _, rfl⟩ (fun i δ' d hJ hd => ?_) (fun i δ' d hJ hd => ?_) (fun δ' h => h) fun δ' h => ?_
  · obtain ⟨e, he, rfl⟩ := enumD_get hd
    obtain ⟨p, hp, rfl⟩ := itemsD_get he
    exact xg_tup rfl (xgs_cons (xg_name 8 sc_law.nd) (xgs_cons (xg_tup rfl (xgs_cons (xg_name 9 sc_law.nd) (xgs_cons (xg_name 10 sc_law.nd) (xgs_cons (xg_name 11 sc_law.nd) (xgs_cons (xg_name 12 sc_law.nd) xgs_nil)))) rfl) xgs_nil)) rfl
  · obtain ⟨e, he, rfl⟩ := enumD_get hd
    obtain ⟨p, hp, rfl⟩ := itemsD_get he
    obtain ⟨t8, t9, t10, t11, t12, rfl⟩ := hJ
    have hm := List.mem_of_getElem? hp
    have hC : ca.list[i]? = some p.1 := by
      rw [← all_fst, List.getElem?_map, hp]
      rfl
    have ht := item_tells E hm (x := x) (y := y) (z := z)
    have hn : ∀ v ∈ [x, y, z].take p.2.length, NiceD v := fun v hv => by
      have := List.mem_of_mem_take hv
      simp only [List.mem_cons, List.not_mem_nil, or_false] at this
      rcases this with rfl | rfl | rfl <;> assumption
    have hvl : ([x, y, z].take p.2.length).length ≤ 1000 := by
      rw [List.length_take]
      show min _ 3 ≤ 1000
      omega
    generalize [x, y, z].take p.2.length = vs at ht hn hvl
    show XB _ [.own (scrM K ns (psOf co)), st, s2, s3, .dat x, .dat y, .dat z, .dat (.list (itemsD x y z ca.all)), .dat (.int (i : Nat)), .dat (mkD p.1 p.2 vs), .dat (mkD p.1 p.2 vs), .dat (lamD (p.2.map .str)), .dat (.list vs), .no, .no] _ _
    refine xb_ifR (k := false) (xt_eq ((xw_or (xt_not (xt_tru (xe_call (c_law_is_own T E) hr (xa_cons (xe_var 9) (xa_cons (xe_var 8) xa_nil)) ⟨p.1, _, i, rfl, mkD_err _ _ _, hC, rfl⟩))) (fun _ => (xw_or1 (xt_not (xt_tru (xe_call (c_law_is_own T E) hr (xa_cons (xe_var 10) (xa_cons (xe_var 8) xa_nil)) ⟨p.1, _, i, rfl, mkD_err _ _ _, hC, rfl⟩)))))).xt) rfl) (fun h => nomatch h) fun _ => ?_
    refine xb_ifR (k := false) (xt_eq ((xw_or (xt_not (xt_tru (xe_callG (c_law_are_these T) (hr.mono (by decide)) hg (xa_cons (xe_callL 11 rfl (xe_var 9) ht (hr.mono (by decide))) (xa_cons (xe_var 12) xa_nil)) ⟨vs, rfl, hn, hvl, rfl⟩))) (fun _ => (xw_or1 (xt_not (xt_tru (xe_callG (c_law_are_these T) (hr.mono (by decide)) hg (xa_cons (xe_callL 11 rfl (xe_var 10) ht (hr.mono (by decide))) (xa_cons (xe_var 12) xa_nil)) ⟨vs, rfl, hn, hvl, rfl⟩)))))).xt) rfl) (fun h => nomatch h) fun _ => ?_
    exact xb_nil ⟨_, _, _, _, _, rfl⟩
  · obtain ⟨t8, t9, t10, t11, t12, rfl⟩ := h
    exact k _ _ _ _ _ _
end
end K00

set_option Elab.async false
set_option linter.all false
set_option maxRecDepth 100000
set_option maxHeartbeats 1000000
namespace K00
open PySem PySem.Spec PyProof.Rows L2 Dl LamX
section
variable {P : Program} {w : World} {K : PySem.W.Frag} {mg : Str → Option Value} {base : Heap} {ca : CA} {co : CO} {fa : Addr} {cdv : Value} {A : Around} {outer : List Env} {s : Shared} {H : Hp} {Ex : XK} {ns : List Int}
theorem held_turn (T : Txt K mg co) (E : Err K mg ca) (TB : TbB base mg co) (nd : (psOf co).map (·.1) |>.Nodup) (hg : A.guards = some []) (hr : Room 3 (A.deeper (envOfC "law" (defScope s_law) s.heap.objs.size fa cdv))) {s1 s2 s3 s4 s5 s6 s7 s8 s9 s10 s11 s12 : Dl.Slot} :
    XB (lawX P w K mg base fa cdv A outer s H Ex) [.own (scrM K ns (psOf co)), s1, s2, s3, s4, s5, s6, s7, s8, s9, s10, s11, s12, .no, .no] (match defBody s_law with | _ :: _ :: _ :: b => b | _ => []) { rt := fun d _ => d = .bool true } := by
  have hu := room65 hr
  refine xb_asgA 13 (xn_lst (xa_cons xe_str xa_nil)) ?_ sc_law.nd
  show XB _ [.own (scrM K ns (psOf co)), s1, s2, s3, s4, s5, s6, s7, s8, s9, s10, s11, s12, .own (accR K [.str "v"]), .no] _ _
  refine xb_openA 13 rfl fun l => ?_
  show XB _ [.own (scrM K ns (psOf co)), s1, s2, s3, s4, s5, s6, s7, s8, s9, s10, s11, s12, .own (accA K l [.str "v"]), .no] _ _
  refine xb_asgNE 7 (xnf_cat (xfd_cat (xf_callT (c_law_made_a T E TB.a) hr rfl (.head _) nd (xa_cons (xe_adr 13 rfl) (xa_cons (xe_adr 13 rfl) (xa_cons (xe_adr 13 rfl) xa_nil))) ⟨_, _, _, rfl, rfl⟩) (xf_callT (c_law_made_b T E TB.b) hr rfl (.tail _ (.head _)) nd (xa_cons (xe_adr 13 rfl) (xa_cons (xe_adr 13 rfl) (xa_cons (xe_adr 13 rfl) xa_nil))) ⟨_, _, _, rfl, rfl⟩) (by exact Nat.le_of_ble_eq_true rfl)) (xf_callT (c_law_made_c T E TB.c) hr rfl (.tail _ (.tail _ (.head _))) nd (xa_cons (xe_adr 13 rfl) (xa_cons (xe_adr 13 rfl) (xa_cons (xe_adr 13 rfl) xa_nil))) ⟨_, _, _, rfl, rfl⟩) (by exact Nat.le_of_ble_eq_true rfl)) (by exact Nat.le_of_ble_eq_true rfl) ?_ sc_law.nd
  show XB _ [.own (scrM K ns (psOf co)), s1, s2, s3, s4, s5, s6, .own (accR K (itemsD (adrD l) (adrD l) (adrD l) ca.pa ++ itemsD (adrD l) (adrD l) (adrD l) ca.pb ++ itemsD (adrD l) (adrD l) (adrD l) ca.pc)), s8, s9, s10, s11, s12, .own (accA K l [.str "v"]), .no] _ _
  refine xb_extF 7 rfl (xf_callT (c_law_made_d T E TB.d) hr rfl (.tail _ (.tail _ (.tail _ (.head _)))) nd (xa_cons (xe_adr 13 rfl) (xa_cons (xe_adr 13 rfl) (xa_cons (xe_adr 13 rfl) xa_nil))) ⟨_, _, _, rfl, rfl⟩) (by exact Nat.le_of_ble_eq_true rfl) ?_
  rw [items_app]
  show XB _ [.own (scrM K ns (psOf co)), s1, s2, s3, s4, s5, s6, .own (accR K (itemsD (adrD l) (adrD l) (adrD l) ca.all)), s8, s9, s10, s11, s12, .own (accA K l [.str "v"]), .no] _ _
  refine xb_appA 13 rfl xe_str (by decide) ?_
  show XB _ [.own (scrM K ns (psOf co)), s1, s2, s3, s4, s5, s6, .own (accR K (itemsD (adrD l) (adrD l) (adrD l) ca.all)), s8, s9, s10, s11, s12, .own (accA K l [.str "v", .str "w"]), .no] _ _
  refine xb_frz 7 rfl ?_
  show XB _ [.own (scrM K ns (psOf co)), s1, s2, s3, s4, s5, s6, .dat (.list (itemsD (adrD l) (adrD l) (adrD l) ca.all)), s8, s9, s10, s11, s12, .own (accA K l [.str "v", .str "w"]), .no] _ _
  refine xb_frzA 13 7 (d' := .list (itemsD (.list [.str "v", .str "w"]) (.list [.str "v", .str "w"]) (.list [.str "v", .str "w"]) ca.all)) rfl rfl (by decide) (fun B v hr h => made_rep hr h) ?_
  have hy := nice_held
  generalize hx : (PyData.list [.str "v", .str "w"]) = x at hy
  show XB _ [.own (scrM K ns (psOf co)), s1, s2, s3, s4, s5, s6, .dat (.list (itemsD x x x ca.all)), s8, s9, s10, s11, s12, .dat x, .no] _ _
  refine xb_for (is := [9, 10, 11, 12]) dl2 (fun i δ => ∃ s9 s10 s11 s12, δ = [.own (scrM K ns (psOf co)), s1, s2, s3, s4, s5, s6, .dat (.list (itemsD x x x ca.all)), s8, s9, s10, s11, s12, .dat x, .no]) (fun δ => ∃ s9 s10 s11 s12, δ = [.own (scrM K ns (psOf co)), s1, s2, s3, s4, s5, s6, .dat (.list (itemsD x x x ca.all)), s8, s9, s10, s11, s12, .dat x, .no]) (xi_list (xe_var 7)) ⟨_, _, _, _, rfl⟩ (fun i δ' d hJ hd => ?_) (fun i δ' d hJ hd => ?_) (fun δ' h => h) fun δ' h => ?_
  · obtain ⟨p, hp, rfl⟩ := itemsD_get hd
    exact xg_tup rfl (xgs_cons (xg_name 9 sc_law.nd) (xgs_cons (xg_name 10 sc_law.nd) (xgs_cons (xg_name 11 sc_law.nd) (xgs_cons (xg_name 12 sc_law.nd) xgs_nil)))) rfl
  · obtain ⟨p, hp, rfl⟩ := itemsD_get hd
    obtain ⟨t9, t10, t11, t12, rfl⟩ := hJ
    have hm := List.mem_of_getElem? hp
    have ht := item_tells E hm (x := x) (y := x) (z := x)
    have hn : ∀ v ∈ [x, x, x].take p.2.length, NiceD v := fun v hv => by
      have := List.mem_of_mem_take hv
      simp only [List.mem_cons, List.not_mem_nil, or_false, or_self] at this
      rw [this]
      exact hy
    have hvl : ([x, x, x].take p.2.length).length ≤ 1000 := by
      rw [List.length_take]
      show min _ 3 ≤ 1000
      omega
    generalize [x, x, x].take p.2.length = vs at ht hn hvl
    show XB _ [.own (scrM K ns (psOf co)), s1, s2, s3, s4, s5, s6, .dat (.list (itemsD x x x ca.all)), s8, .dat (mkD p.1 p.2 vs), .dat (mkD p.1 p.2 vs), .dat (lamD (p.2.map .str)), .dat (.list vs), .dat x, .no] _ _
    refine xb_ifR (k := false) (xt_eq ((xw_or (xt_not (xt_tru (xe_callG (c_law_are_these T) (hr.mono (by decide)) hg (xa_cons (xe_callL 11 rfl (xe_var 9) ht (hr.mono (by decide))) (xa_cons (xe_var 12) xa_nil)) ⟨vs, rfl, hn, hvl, rfl⟩))) (fun _ => (xw_or1 (xt_not (xt_tru (xe_callG (c_law_are_these T) (hr.mono (by decide)) hg (xa_cons (xe_callL 11 rfl (xe_var 10) ht (hr.mono (by decide))) (xa_cons (xe_var 12) xa_nil)) ⟨vs, rfl, hn, hvl, rfl⟩)))))).xt) rfl) (fun h => nomatch h) fun _ => ?_
    exact xb_nil ⟨_, _, _, _, rfl⟩
  · obtain ⟨t9, t10, t11, t12, rfl⟩ := h
    have hfe : ca.fe ∈ ca.fe :: ca.list := List.mem_cons_self
    have hV := kit_bt (T := "ValueError") (b := true) E hfe (by decide +kernel) (by decide +kernel)
    have e1 : (ca.list.map fun D => PyData.bool (decide (ca.fe = D))) = (ca.list.map fun D => decide (ca.fe = D)).map .bool := by rw [List.map_map]; rfl
    refine xb_asg 14 (xe_mk0 E.m_FilterError E.f_FilterError.kC E.z_FilterError) ?_ sc_law.nd
    show XB _ [.own (scrM K ns (psOf co)), s1, s2, s3, s4, s5, s6, .dat (.list (itemsD x x x ca.all)), s8, t9, t10, t11, t12, .dat x, .dat (err0D ca.fe)] _ _
    refine xb_ret (xe_and (xe_isB T.g_isinstance (xe_var 14) (.inr rfl) (xc_of E hfe) T.g_ValueError (by kernel_rfl) hV) (fun _ => (xe_one (xe_cmp hu xe_bl (xe_eq (xe_call (c_law_kinds T E) (hr.mono (by decide)) (xa_cons (xe_var 14) xa_nil) ⟨ca.fe, _, rfl, .inr rfl, hfe, rfl⟩) (congrArg PyData.list e1)) (.notInD _ _ (by decide +kernel) (shaped_bools _)))))) ?_
    have h0 : ((ca.list.map fun D => decide (ca.fe = D)).map PyData.bool).any (fun z => PyData.eqv z (.bool true)) = false := by
      rw [List.any_eq_false]
      intro z hz
      obtain ⟨b, hb, rfl⟩ := List.mem_map.mp hz
      obtain ⟨D, hD, rfl⟩ := List.mem_map.mp hb
      have : ca.fe ≠ D := fun e => (List.nodup_cons.mp E.nd).1 (e ▸ hD)
      rw [decide_eq_false this]
      simp [PyData.eqv]
    rw [h0]
    rfl
theorem law_body (T : Txt K mg co) (E : Err K mg ca) (TB : TbB base mg co) (nd : (psOf co).map (·.1) |>.Nodup) (hg : A.guards = some []) (hr : Room 3 (A.deeper (envOfC "law" (defScope s_law) s.heap.objs.size fa cdv))) (hl : ns.length ≤ 63) :
    XB (lawX P w K mg base fa cdv A outer s H Ex) (startD lawN [.own (scrM K ns (psOf co))]) (defBody s_law) { rt := fun d _ => d = .bool true } := by
  show XB _ [.own (scrM K ns (psOf co)), .no, .no, .no, .no, .no, .no, .no, .no, .no, .no, .no, .no, .no, .no] _ _
  refine xb_startM 1 0 (c_law_start T) (hr.mono (by decide)) rfl hl (by exact Nat.le_of_ble_eq_true rfl) (fun p q => ?_) sc_law.nd
  show XB _ [.own (scrM K ns (psOf co)), .own (strmR p q 0), .no, .no, .no, .no, .no, .no, .no, .no, .no, .no, .no, .no, .no] _ _
  refine xb_asg 2 (xe_eq (xe_lst (xa_cons xe_non (xa_cons xe_int (xa_cons (xe_neg xe_int) (xa_cons xe_bl (xa_cons xe_str (xa_cons xe_str (xa_cons (xe_lst (xa_cons xe_int (xa_cons xe_str xa_nil))) (xa_cons (xe_tup (xa_cons xe_int (xa_cons xe_non xa_nil))) (xa_cons xe_dic1 (xa_cons (xe_lst (xa_cons (xe_lst (xa_cons xe_str xa_nil)) xa_nil)) (xa_cons (xe_eq (d := .int 100000000) (xe_powI xe_int xe_int ⟨by decide, by decide, by decide⟩) (congrArg PyData.int (by decide))) (xa_cons (xe_tup (xa_cons xe_str (xa_cons xe_int xa_nil))) (xa_cons xe_bl (xa_cons xe_int (xa_cons xe_int xa_nil)))))))))))))))) (show _ = PyData.list SOME from rfl)) ?_ sc_law.nd
  show XB _ [.own (scrM K ns (psOf co)), .own (strmR p q 0), .dat (.list SOME), .no, .no, .no, .no, .no, .no, .no, .no, .no, .no, .no, .no] _ _
  refine xb_for (is := [3]) (fun d δ => δ.set 3 (.dat d)) (fun i δ => ∃ s3 s4 s5 s6 s7 s8 s9 s10 s11 s12, δ = [.own (scrM K ns (psOf co)), .own (strmR p q (15 * i)), .dat (.list SOME), s3, s4, s5, s6, s7, s8, s9, s10, s11, s12, .no, .no]) (fun δ => ∃ n s3 s4 s5 s6 s7 s8 s9 s10 s11 s12, δ = [.own (scrM K ns (psOf co)), .own (strmR p q n), .dat (.list SOME), s3, s4, s5, s6, s7, s8, s9, s10, s11, s12, .no, .no]) (xi_rng1 T.g_range xe_int (by decide)) ⟨_, _, _, _, _, _, _, _, _, _, rfl⟩ (fun i δ' d hJ hd => xg_name 3 sc_law.nd) (fun i δ' d hJ hd => ?_) (fun δ' h => ?_) fun δ' h => ?_
  · obtain ⟨s3, s4, s5, s6, s7, s8, s9, s10, s11, s12, rfl⟩ := hJ
    have hi : i < 2 := by
      have := (rangeD_get hd).1
      exact this
    show XB _ [.own (scrM K ns (psOf co)), .own (strmR p q (15 * i)), .dat (.list SOME), .dat d, s4, s5, s6, s7, s8, s9, s10, s11, s12, .no, .no] _ _
    refine xb_unpF (is := [4, 5, 6]) (P := fun e δ => ∃ x y z, e = .list [x, y, z] ∧ x ∈ SOME ∧ y ∈ SOME ∧ z ∈ SOME ∧ δ = [.own (scrM K ns (psOf co)), .own (strmR p q (15 * (i + 1))), .dat (.list SOME), .dat d, s4, s5, s6, s7, s8, s9, s10, s11, s12, .no, .no]) (xf_slK (k := 3) (P1 := fun e δ => ∃ l : List PyData, e = .list l ∧ l.length = 15 ∧ (∀ y ∈ l, y ∈ SOME) ∧ δ = [.own (scrM K ns (psOf co)), .own (strmR p q (15 * (i + 1))), .dat (.list SOME), .dat d, s4, s5, s6, s7, s8, s9, s10, s11, s12, .no, .no]) (xf_draw 1 (c_law_mixed T) (hr.mono (by decide)) rfl (xfa_of (xa_cons (xe_var 2) xa_nil)) ?_) ?_) dl3 (fun e δ1 h => ?_) (fun e δ1 h => ?_)
    · rintro _ _ ⟨rfl, rfl⟩
      refine ⟨15 * i, rfl, ⟨by omega, SOME, rfl, by decide⟩, fun n2 e hq => ?_⟩
      obtain ⟨some, l, e1, rfl, hlen, rfl, hm⟩ := hq
      cases e1
      exact ⟨l, rfl, hlen, hm, rfl⟩
    · rintro _ _ ⟨l, rfl, hlen, hm, rfl⟩
      refine ⟨l, rfl, by omega, ?_⟩
      match l, hlen, hm with
      | x :: y :: z :: r, _, hm => exact ⟨x, y, z, rfl, hm _ (by simp), hm _ (by simp), hm _ (by simp), rfl⟩
      | [], h, _ => cases h
      | [_], h, _ => simp at h
      | [_, _], h, _ => simp at h
    · obtain ⟨x, y, z, rfl, _, _, _, rfl⟩ := h
      exact xg_lst rfl (xgs_cons (xg_name 4 sc_law.nd) (xgs_cons (xg_name 5 sc_law.nd) (xgs_cons (xg_name 6 sc_law.nd) xgs_nil))) rfl
    · obtain ⟨x, y, z, rfl, hx, hy, hz, rfl⟩ := h
      show XB _ [.own (scrM K ns (psOf co)), .own (strmR p q (15 * (i + 1))), .dat (.list SOME), .dat d, .dat x, .dat y, .dat z, s7, s8, s9, s10, s11, s12, .no, .no] _ _
      exact law_turn T E TB nd hg hr (nice_some x hx) (nice_some y hy) (nice_some z hz) (fun _ _ _ _ _ _ => xb_nil ⟨_, _, _, _, _, _, _, _, _, _, rfl⟩)
  · obtain ⟨s3, s4, s5, s6, s7, s8, s9, s10, s11, s12, rfl⟩ := h
    exact ⟨_, _, _, _, _, _, _, _, _, _, _, rfl⟩
  · obtain ⟨n, s3, s4, s5, s6, s7, s8, s9, s10, s11, s12, rfl⟩ := h
    exact held_turn T E TB nd hg hr
end
end K00

set_option Elab.async false
set_option linter.all false
set_option maxRecDepth 100000
set_option maxHeartbeats 4000000
namespace K00
open PySem PySem.Spec PyProof.Rows L2 Dl LamX
/-- a def that makes lambdas: its code object at c, the table at Pt -/
structure CodeF (K : PySem.W.Frag) (x : Str) (st : Stmt) (f c Pt : Addr) : Prop where
  lk : ∃ (oc : Value) (od an : Option Addr) (osl : Array (Option Value)) (kV doc pm ct : Value), K.lookup f = some ⟨oc, od, .func (PySem.W.fnOf x x (defArgs st) (defBody st) (defScope st) .none kV doc pm an (.ref c) ct), osl⟩
  lc : ∃ (cd : Option Addr) (vs : Array Value) (csl : Array (Option Value)) (file : Str) (tf : Tok) (flags : Int) (tg : Tok) (inF : Bool) (text : Int) (tt : Tok), K.lookup c = some ⟨.type "code", cd, .fields vs, csl⟩ ∧ vs[11]? = some (.ref Pt) ∧ vs.getD 18 .none = .str file tf ∧ vs.getD 7 .none = .int flags tg ∧ vs.getD 9 .none = .bool inF ∧ vs.getD 10 .none = .int text tt
  ne : c ≠ Pt
  nP : K.lookup Pt = none
section
variable {K : PySem.W.Frag} {h : Heap} {mg : Str → Option Value} {x : Str} {st : Stmt} {f c Pt : Addr} {ps : List Str}
theorem CodeF.tab (F : CodeF K x st f c Pt) (own : OwnTab K f h) : h.get? Pt = some { cls := .none, data := .fields #[] } := by
  obtain ⟨oc, od, an, osl, kV, doc, pm, ct, l⟩ := F.lk
  obtain ⟨cd, vs, csl, file, tf, flags, tg, inF, text, tt, l2, v11, _⟩ := F.lc
  exact own c Pt _ _ _ _ vs csl l rfl rfl l2 v11
theorem CodeF.hd (F : CodeF K x st f c Pt) (X : K.In h) : PySem.W.CodeHd h c Pt := by
  obtain ⟨cd, vs, csl, file, tf, flags, tg, inF, text, tt, l2, v11, v18, v7, v9, v10⟩ := F.lc
  exact ⟨_, vs, file, tf, flags, tg, inF, text, tt, X _ _ l2, rfl, rfl, v11, by rw [Array.getD_eq_getD_getElem?, v11]; rfl, v18, v7, v9, v10, F.ne⟩
theorem at_mk {oc : Value} {od an : Option Addr} {osl : Array (Option Value)} {kV doc pm cdv ct : Value} (X : K.In h) (G : h.Ns mainGlobals mg)
    (hb : ∀ (kV doc pm : Value) (an : Option Addr) (cdv ct : Value) (us : List Value), us.length = ps.length → bindArgs (PySem.W.fnOf x x (defArgs st) (defBody st) (defScope st) .none kV doc pm an cdv ct) ⟨us, []⟩ = pure (ps.zip us))
    (a : PySem.W.nsIn K mainGlobals x = some (some (.ref f))) (l : K.lookup f = some ⟨oc, od, .func (PySem.W.fnOf x x (defArgs st) (defBody st) (defScope st) .none kV doc pm an cdv ct), osl⟩) (c : PySem.W.codeIn K cdv x = true) (k : PySem.W.keepIn K (.ref f) = true) : At K mg x st ps :=
  ⟨f, _, PySem.W.mg_of X G a, fun_mk l c k, (fun_mk l c k).binds hb⟩
theorem atC_mk {oc : Value} {od an : Option Addr} {osl : Array (Option Value)} {kV doc pm ct : Value} (X : K.In h) (G : h.Ns mainGlobals mg)
    (hb : ∀ (kV doc pm : Value) (an : Option Addr) (cdv ct : Value) (us : List Value), us.length = ps.length → bindArgs (PySem.W.fnOf x x (defArgs st) (defBody st) (defScope st) .none kV doc pm an cdv ct) ⟨us, []⟩ = pure (ps.zip us))
    (a : PySem.W.nsIn K mainGlobals x = some (some (.ref f))) (l : K.lookup f = some ⟨oc, od, .func (PySem.W.fnOf x x (defArgs st) (defBody st) (defScope st) .none kV doc pm an (.ref c) ct), osl⟩) (cc : PySem.W.codeIn K (.ref c) x = true) (k : PySem.W.keepIn K (.ref f) = true) : AtC K mg x st ps c :=
  ⟨f, oc, od, an, osl, kV, doc, pm, ct, PySem.W.mg_of X G a, l, cc, k, (fun_mk l cc k).binds hb⟩
theorem code_mk {oc : Value} {od an cd : Option Addr} {osl csl : Array (Option Value)} {kV doc pm ct : Value} {vs : Array Value} {file : Str} {flags text : Int} {tf tg tt : Tok} {inF : Bool}
    (l : K.lookup f = some ⟨oc, od, .func (PySem.W.fnOf x x (defArgs st) (defBody st) (defScope st) .none kV doc pm an (.ref c) ct), osl⟩) (lc : K.lookup c = some ⟨.type "code", cd, .fields vs, csl⟩) (v11 : vs[11]? = some (.ref Pt)) (v18 : vs.getD 18 .none = .str file tf) (v7 : vs.getD 7 .none = .int flags tg) (v9 : vs.getD 9 .none = .bool inF) (v10 : vs.getD 10 .none = .int text tt)
    (ne : c ≠ Pt) (nP : K.lookup Pt = none) : CodeF K x st f c Pt := ⟨⟨oc, od, an, osl, kV, doc, pm, ct, l⟩, ⟨cd, vs, csl, file, tf, flags, tg, inF, text, tt, lc, v11, v18, v7, v9, v10⟩, ne, nP⟩
theorem clsB_mk {C fe N : Addr} {nm q : Str} {bs bm sub : List Value} {sn : List Str} {ab : Bool} {col : Option Bool} {dd : Option Addr} {m0 m1 m2 m3 m5 : Option Value} {tl : List Value} (xL : K.lookup C = some (excClassObj nm q C N bs bm true sn sub ab col dd m0 m1 m2 m3 m5 "ValueError.__new__")) (hbm : bm = tl) (hV : PySem.HandSPX.refsVE tl = true)
    (sa : PySem.W.findIn K (.ref C) "__setattr__" = some (some (.builtin "object.__setattr__"))) (ga : PySem.W.findIn K (.ref C) "__getattribute__" = some (some (.builtin "BaseException.__getattribute__"))) (gg : PySem.W.findIn K (.ref C) "__getattr__" = some none) (ca : PySem.W.findIn K (.ref C) "__class__" = some (some (.builtin "object.__class__")))
    (kC : PySem.W.keepIn K (.ref C) = true) : ClsB K C tl := by
  subst hbm
  exact ⟨⟨nm, q, N, bs, sn, sub, ab, col, dd, m0, m1, m2, m3, m5, xL⟩, hV, sa, ga, gg, ca, kC⟩
theorem ini_mk {C : Addr} {nm : List Str} {qual : Str} {oc kV doc pm cdv ct : Value} {od an : Option Addr} {osl : Array (Option Value)}
    (hb : ∀ (kV doc pm : Value) (an : Option Addr) (cdv ct : Value) (us : List Value), us.length = ps.length → bindArgs (PySem.W.fnOf "__init__" qual (defArgs st) (defBody st) (defScope st) .none kV doc pm an cdv ct) ⟨us, []⟩ = pure (ps.zip us))
    (hk : ∀ (kV doc pm : Value) (an : Option Addr) (cdv ct self : Value) (ws : List Value), ws.length = nm.length → bindArgs (PySem.W.fnOf "__init__" qual (defArgs st) (defBody st) (defScope st) .none kV doc pm an cdv ct) ⟨[self], nm.reverse.zip ws⟩ = pure (ps.zip (self :: ws.reverse)))
    (no : ∀ f ∈ nm, PySem.W.findIn K (.ref C) f = some none) (a1 : PySem.W.findIn K (.ref C) "__init__" = some (some (.ref f))) (t1 : PySem.W.typeIn K (.ref f) = some (.type "function"))
    (l1 : K.lookup f = some ⟨oc, od, .func (PySem.W.fnOf "__init__" qual (defArgs st) (defBody st) (defScope st) .none kV doc pm an cdv ct), osl⟩) (c1 : PySem.W.codeIn K cdv qual = true) (k1 : PySem.W.keepIn K (.ref f) = true) : IniF K C nm qual st ps :=
  ⟨no, f, _, a1, t1, fun_mk l1 c1 k1, (fun_mk l1 c1 k1).binds hb, fun s self ws _ hl => .of_eq (hk kV doc pm an cdv ct self ws hl)⟩
end
/-- what is asked of the law where the head stands -/
def LawG (l : PySem.W.OpenLaw) (w : World) (K : PySem.W.Frag) (mg : Str → Option Value) (fa : Addr) (h : Heap) : Prop :=
  ∃ (fd : FuncData) (cs : List (Addr × Addr)) (sp : Sp), (∀ p ∈ cs, h.get? p.2 = some emptyTab) ∧ (∀ p ∈ cs, K.lookup p.2 = none) ∧ (∀ p ∈ cs, PySem.W.CodeHd h p.1 p.2) ∧ (∀ (s : Shared) (u : Value), BindsTo s fd ⟨[u], []⟩ [(("script" : Str), u)]) ∧
    (∀ (H : Hp) (a : Addr) (ns : List Int), ns.length ≤ 63 → (∀ p ∈ cs, H p.2 = some (.tbl #[])) → SqL K H a (ns.map V.int) → sp [.ref a] H (fun v _ => v = .bl true) fun _ _ _ => False) ∧
    ∀ base : Heap, K.In base → base.Ns mainGlobals mg → (∀ p ∈ cs, TabB base mg p.1 p.2) → FnG l.prog w K mg base CX0 4 fa fd ["script"] sp
abbrev madeNames : List Str := ["_law_made_a", "_law_made_b", "_law_made_c", "_law_made_d"]
theorem fin_ {l : PySem.W.OpenLaw} {w : World} {K : PySem.W.Frag} {h : Heap} {mg : Str → Option Value} {ca : CA} {co : CO} (X : K.In h) (G : h.Ns mainGlobals mg) (T : Txt K mg co) (Er : Err K mg ca) {f1 f2 f3 f4 : Addr} (m1 : mg "_law_made_a" = some (.ref f1)) (m2 : mg "_law_made_b" = some (.ref f2)) (m3 : mg "_law_made_c" = some (.ref f3)) (m4 : mg "_law_made_d" = some (.ref f4))
    (F1 : CodeF K "_law_made_a" s_law_made_a f1 co.a co.ta) (F2 : CodeF K "_law_made_b" s_law_made_b f2 co.b co.tb) (F3 : CodeF K "_law_made_c" s_law_made_c f3 co.c co.tc) (F4 : CodeF K "_law_made_d" s_law_made_d f4 co.d co.td) (nd : ((psOf co).map (·.1)).Nodup) :
    ∃ fL, mg "law" = some (.ref fL) ∧ ((∀ nm ∈ madeNames, ∀ f, mg nm = some (.ref f) → OwnTab K f h) → LawG l w K mg fL h) := by
  obtain ⟨fL, fd, h1, h2, h3⟩ := T.a_law.ex
  refine ⟨fL, h1, fun own => ⟨fd, [(co.a, co.ta), (co.b, co.tb), (co.c, co.tc), (co.d, co.td)], SpLawG K (psOf co), fun p hp => ?_, fun p hp => ?_, fun p hp => ?_, fun s u => ?_, fun H a ns hl hH hS => ⟨a, ns, rfl, hS, hl, fun p hp => ?_, fun _ => rfl⟩, fun base _ _ TB => ?_⟩⟩
  · simp only [List.mem_cons, List.not_mem_nil, or_false] at hp
    rcases hp with rfl | rfl | rfl | rfl
    · exact F1.tab (own _ (by simp) _ m1)
    · exact F2.tab (own _ (by simp) _ m2)
    · exact F3.tab (own _ (by simp) _ m3)
    · exact F4.tab (own _ (by simp) _ m4)
  · simp only [List.mem_cons, List.not_mem_nil, or_false] at hp
    rcases hp with rfl | rfl | rfl | rfl
    · exact F1.nP
    · exact F2.nP
    · exact F3.nP
    · exact F4.nP
  · simp only [List.mem_cons, List.not_mem_nil, or_false] at hp
    rcases hp with rfl | rfl | rfl | rfl
    · exact F1.hd X
    · exact F2.hd X
    · exact F3.hd X
    · exact F4.hd X
  · obtain ⟨oc, od, kV, doc, pm, an, cdv, ct, osl, rfl, _⟩ := h2.ex
    exact .of_eq rfl
  · simp only [List.mem_cons, List.not_mem_nil, or_false] at hp
    rcases hp with rfl | rfl | rfl | rfl
    · exact hH (co.a, co.ta) (by simp)
    · exact hH (co.b, co.tb) (by simp)
    · exact hH (co.c, co.tc) (by simp)
    · exact hH (co.d, co.td) (by simp)
  · refine fn_lawG h2 sc_law rfl (by decide) fun Y hY ns hl => ?_
    obtain ⟨cdv, A, outer, s, H, Ex, hg, hr, rfl⟩ := hY
    exact law_body T Er ⟨TB (co.a, co.ta) (by simp), TB (co.b, co.tb) (by simp), TB (co.c, co.tc) (by simp), TB (co.d, co.td) (by simp)⟩ nd hg hr hl
theorem walkG {l : PySem.W.OpenLaw} {q : Program} {loose : List Str} {XP : (Str → Option Value) → Heap → Prop} {YP : World → Heap → Prop} {d : DefRec} {K : Params → PySem.W.Frag} (hn : l.most = some 63) (hdf : d.params.defaults = []) (hd : d.name = "law") (hrec : ∀ nm ∈ madeNames, ((recsOf q).any fun e => e.name == nm) = true)
    (hY : ∀ (w : World) (h : Heap), YP w h → (K w.params).In h)
    (F : ∀ (w : World) (mg : Str → Option Value) (h : Heap), (K w.params).In h → h.Ns mainGlobals mg → ∃ fL, mg "law" = some (.ref fL) ∧ ((∀ nm ∈ madeNames, ∀ f, mg nm = some (.ref f) → OwnTab (K w.params) f h) → LawG l w (K w.params) mg fL h)) :
    PySem.W.WalkO q loose XP YP l.row.toRowW d [] (fun f vs => PySem.call f vs) := by
  refine Att.attach_callB hn hdf fun w s0 s1 mg mb fa o pm cd doc a vs ns G Y ho hdd hcd hmg hobj hints hlen hbits hgens => ?_
  have kin := hY w _ Y
  have own : ∀ nm ∈ madeNames, ∀ f, mg nm = some (.ref f) → OwnTab (K w.params) f s1.heap := fun nm hnm f hf c Pt o1 fd1 e dd us sl k1 k2 k3 k4 k5 => by
    obtain ⟨r, hr, hrn⟩ := List.any_eq_true.mp (hrec nm hnm)
    obtain ⟨f', o', fd', c', P', z1, z2, z3, z4, z5, ⟨⟨oc, vc, y1, _, y3, y4⟩, hP⟩⟩ := G.T.tab r hr
    rw [beq_iff_eq.mp hrn, hf] at z1
    cases z1
    rw [kin _ _ k1] at z2
    cases z2
    rw [k2] at z3
    cases z3
    rw [k3] at z4
    cases z4
    rw [kin _ _ k4] at y1
    cases y1
    cases y3
    rw [k5] at y4
    cases y4
    exact hP
  obtain ⟨fL, h1, h2⟩ := F w mg s1.heap kin G.T.g
  rw [hd, h1] at hmg
  cases hmg
  obtain ⟨fd, cs, sp, t1, t2, t3, hb, want, hF⟩ := h2 own
  exact head_law (k := 4) kin G.T.g G.T.b G.T.builtins G.T.nolimit hgens t1 t2 t3 G.T.bmain hobj hints (Nat.le_trans hlen (by decide)) ⟨rfl, by decide, by decide⟩ hF hb fun H hH hS => want H a ns hlen hH hS
end K00

set_option Elab.async false
set_option linter.all false
set_option maxRecDepth 100000
set_option maxHeartbeats 4000000
/-! a head for many own exception classes: what the top left is looked at off the tree, forced once -/
namespace Ho
open PySem PySem.Spec PyProof.Rows L2 Dl LamX
/-! ### which objects -/
def adV : Value → Addr
  | .ref a => a
  | _ => 0
def adL : Value → List Addr
  | .ref a => [a]
  | _ => []
def valsG (g : Addr → Option Obj) (a : Addr) : List Addr := match g a with
  | some ⟨_, _, .dict es _, _⟩ => es.toList.flatMap fun e => adL e.val
  | _ => []
def codeG (g : Addr → Option Obj) (a : Addr) : List Addr := match g a with
  | some ⟨_, _, .func fd, _⟩ => adL fd.code
  | _ => []
def lowG (g : Addr → Option Obj) (a : Addr) : List Addr := match g a with
  | some ⟨_, _, .func fd, _⟩ => adL fd.code
  | some ⟨_, _, .cls cd, _⟩ => cd.ns :: (valsG g cd.ns).flatMap fun b => b :: codeG g b
  | _ => []
def allG (g : Addr → Option Obj) : List Addr := mainGlobals :: (valsG g mainGlobals).flatMap fun a => a :: lowG g a
/-! ### forced -/
section
variable {β : Type}
def fcL : List DictEntry → (List DictEntry → β) → β
  | [], k => k []
  | ⟨h, key, v⟩ :: r, k => fcL r fun r => k (⟨h, key, v⟩ :: r)
def fcD (d : Data) (k : Data → β) : β := match d with
  | .dict es n => fcL es.toList fun l => k (.dict ⟨l⟩ n)
  | d => k d
def fcF : PySem.W.Frag → (PySem.W.Frag → β) → β
  | [], k => k []
  | (a, ⟨c, d, dt, sl⟩) :: r, k => HandSHeadRun.frNat a fun a => fcD dt fun dt => fcF r fun r => k ((a, ⟨c, d, dt, sl⟩) :: r)
theorem fcL_eq : ∀ (l : List DictEntry) (k : List DictEntry → β), fcL l k = k l
  | [], _ => rfl
  | ⟨_, _, _⟩ :: r, k => fcL_eq r _
theorem fcD_eq (d : Data) (k : Data → β) : fcD d k = k d := by
  unfold fcD
  split
  · rw [fcL_eq]
  · rfl
theorem fcF_eq : ∀ (K : PySem.W.Frag) (k : PySem.W.Frag → β), fcF K k = k K
  | [], _ => rfl
  | (a, ⟨c, d, dt, sl⟩) :: r, k => by
    unfold fcF
    rw [HandSHeadRun.frNat_eq, fcD_eq, fcF_eq r]
end
/-! ### what is looked at -/
def gM (K : PySem.W.Frag) (x : Str) : Value := match PySem.W.nsIn K mainGlobals x with
  | some (some v) => v
  | _ => .none
def gA (K : PySem.W.Frag) (x : Str) : Addr := adV (gM K x)
def isNo : Option (Option Value) → Bool
  | some none => true
  | _ => false
def isRf : Value → Bool
  | .ref _ => true
  | _ => false
abbrev FnO : Type := Option (Value × Str × Str × Arguments × FuncBody × Scope × Addr × List (Str × Addr) × Value × Addr)
def fnO (K : PySem.W.Frag) (v : Value) : FnO := match K.lookup (adV v) with
  | some ⟨oc, _, .func fd, _⟩ => some (oc, fd.name, fd.qualname, fd.params, fd.body, fd.scope, fd.globals, fd.closure, fd.defaults, fd.builtins)
  | _ => none
def fnV (x q : Str) (st : Stmt) : FnO := some (.type "function", x, q, defArgs st, .stmts (defBody st), defScope st, mainGlobals, [], .none, builtinsNs)
def fnB (K : PySem.W.Frag) (v : Value) (q : Str) : Bool := isRf v && match K.lookup (adV v) with
  | some ⟨_, _, .func fd, _⟩ => PySem.W.codeIn K fd.code q
  | _ => false
def cdA (K : PySem.W.Frag) (v : Value) : Addr := match K.lookup (adV v) with
  | some ⟨_, _, .func fd, _⟩ => adV fd.code
  | _ => 0
def tbA (K : PySem.W.Frag) (c : Addr) : Addr := match K.lookup c with
  | some ⟨_, _, .fields vs, _⟩ => (match (vs[11]? : Option Value) with
    | some u => adV u
    | none => 0)
  | _ => 0
def maB (K : PySem.W.Frag) (v : Value) : Bool := PySem.W.codeHdIn K (cdA K v) (tbA K (cdA K v)) && (K.lookup (tbA K (cdA K v))).isNone
def shB (A : Addr) (bm : List Value) (t : String) (ok : Bool) : List Value → List (Option Value) → Bool
  | .ref C :: b, [_, _, _, _, some (.builtin n), _] => t == "type" && (C == A && (b == bm && (n == "ValueError.__new__" && ok)))
  | _, _ => false
def clB (K : PySem.W.Frag) (bm : List Value) (v : Value) : Bool := isRf v && match K.lookup (adV v) with
  | some ⟨.type t, _, .cls cd, sl⟩ => shB (adV v) bm t (cd.hasDict && !cd.hasDel) cd.mro sl.toList
  | _ => false
def nsA (K : PySem.W.Frag) (v : Value) : Addr := match K.lookup (adV v) with
  | some ⟨_, _, .cls cd, _⟩ => cd.ns
  | _ => 0
def noB (K : PySem.W.Frag) (N : Addr) (ns : List Str) : Bool := match K.lookup N with
  | some ⟨_, _, .dict es _, _⟩ => es.toList.all fun e => !e.refKey && ns.all fun n => !e.key.isStr n
  | _ => false
def inM (K : PySem.W.Frag) (v : Value) : Value := match PySem.W.nsIn K (nsA K v) "__init__" with
  | some (some u) => u
  | _ => .none
/-! ### what that says -/
section
variable {K : PySem.W.Frag} {h : Heap} {mg : Str → Option Value} {x q : Str} {v : Value} {st : Stmt}
theorem ba {a b : Bool} (h : (a && b) = true) : a = true ∧ b = true := Bool.and_eq_true_iff.mp h
theorem ref_of (h : isRf v = true) : v = .ref (adV v) := by
  cases v with
  | ref a => rfl
  | _ => cases h
theorem gM_ns (h : isRf (gM K x) = true) : PySem.W.nsIn K mainGlobals x = some (some (.ref (gA K x))) := by
  have e := ref_of h
  have e2 : (match PySem.W.nsIn K mainGlobals x with | some (some v) => v | _ => .none) = Value.ref (gA K x) := e
  split at e2
  · rename_i u hu
    rw [hu, e2]
  · cases e2
theorem isNo_of {o : Option (Option Value)} (h : isNo o = true) : o = some none := by
  cases o with
  | none => cases h
  | some o => cases o with
    | none => rfl
    | some _ => cases h
theorem fn_get (e : fnO K v = fnV x q st) (c : fnB K v q = true) : ∃ od osl kV doc pm an cdv ct,
    K.lookup (adV v) = some ⟨.type "function", od, .func (PySem.W.fnOf x q (defArgs st) (defBody st) (defScope st) .none kV doc pm an cdv ct), osl⟩ ∧ PySem.W.codeIn K cdv q = true ∧ PySem.W.keepIn K (.ref (adV v)) = true := by
  obtain ⟨-, c⟩ := ba c
  unfold fnO at e
  have kp : PySem.W.keepIn K (.ref (adV v)) = (match K.lookup (adV v) with
    | some ⟨_, _, .func _, _⟩ => true
    | some ⟨_, _, .cls _, _⟩ => PySem.W.specialIn K (.ref (adV v)) "__call__" == some (some (.builtin "type.__call__"))
    | _ => false) := rfl
  rw [kp]
  cases z : K.lookup (adV v) with
  | none =>
    rw [z] at c
    cases c
  | some o =>
    obtain ⟨oc, od, dt, osl⟩ := o
    rw [z] at c e
    cases dt with
    | func fd =>
      obtain ⟨n1, n2, n3, n4, n5, n6, n7, n8, n9, n10, n11, n12, n13, n14, n15⟩ := fd
      have e2 : (some (oc, n1, n2, n3, n4, n5, n6, n7, n8, n15) : FnO) = some (.type "function", x, q, defArgs st, .stmts (defBody st), defScope st, mainGlobals, [], .none, builtinsNs) := e
      simp only [Option.some.injEq, Prod.mk.injEq] at e2
      obtain ⟨h0, h1, h2, h3, h4, h5, h6, h7, h8, h9⟩ := e2
      subst h0 h1 h2 h3 h4 h5 h6 h7 h8 h9
      exact ⟨od, osl, n9, n10, n11, n12, n13, n14, rfl, c, rfl⟩
    | _ => cases c
theorem cl_get {bm : List Value} (c : clB K bm v = true) : v = .ref (adV v) ∧ ∃ nm q bs sn sub ab col dd k0 k1 k2 k3 k5, K.lookup (adV v) = some (excClassObj nm q (adV v) (nsA K v) bs bm true sn sub ab col dd k0 k1 k2 k3 k5 "ValueError.__new__") := by
  obtain ⟨r, c⟩ := ba c
  refine ⟨ref_of r, ?_⟩
  unfold nsA
  cases z : K.lookup (adV v) with
  | none =>
    rw [z] at c
    cases c
  | some o =>
    obtain ⟨oc, od, dt, osl⟩ := o
    rw [z] at c
    cases oc with
    | type t =>
      cases dt with
      | cls cd =>
        obtain ⟨n1, n2, n3, n4, n5, n6, n7, n8, n9, n10, n11⟩ := cd
        obtain ⟨sl⟩ := osl
        have c2 : shB (adV v) bm t (n6 && !n11) n3 sl = true := c
        unfold shB at c2
        split at c2
        · rename_i C b k0 k1 k2 k3 n k5
          obtain ⟨d1, c2⟩ := ba c2
          obtain ⟨d2, c2⟩ := ba c2
          obtain ⟨d3, c2⟩ := ba c2
          obtain ⟨d4, c2⟩ := ba c2
          obtain ⟨d5, d6⟩ := ba c2
          have e1 := beq_iff_eq.mp d1
          have e2 := beq_iff_eq.mp d2
          have e3 := beq_iff_eq.mp d3
          have e4 := beq_iff_eq.mp d4
          have e6 : n11 = false := by
            cases n11 with
            | false => rfl
            | true => cases d6
          subst e1 e2 e3 e4 d5 e6
          exact ⟨n1, n5, n2, n7, n8, n9, n10, od, k0, k1, k2, k3, k5, rfl⟩
        · cases c2
      | _ => cases c
    | _ => cases dt <;> cases c
theorem no_get {N : Addr} {ns : List Str} (c : noB K N ns = true) {n : Str} (hn : n ∈ ns) : PySem.W.nsIn K N n = some none := by
  unfold noB at c
  unfold PySem.W.nsIn
  split at c
  · rename_i es _ _ z
    rw [z]
    have a1 : ∀ e ∈ es.toList, e.key.isStr n = false := fun e he => by
      have y := List.all_eq_true.mp (ba (List.all_eq_true.mp c e he)).2 n hn
      simpa using y
    have a2 : ∀ e ∈ es.toList, e.refKey = false := fun e he => by
      have y := (ba (List.all_eq_true.mp c e he)).1
      simpa using y
    have f : es.toList.find? (fun e => e.key.isStr n) = none := List.find?_eq_none.mpr fun e he => by rw [a1 e he]; exact Bool.false_ne_true
    have g : es.toList.any (fun e => e.refKey) = false := List.any_eq_false.mpr fun e he => by rw [a2 e he]; exact Bool.false_ne_true
    dsimp only
    rw [f]
    dsimp only
    rw [g]
    rfl
  · cases c
theorem in_ref (h : isRf (inM K v) = true) : PySem.W.nsIn K (nsA K v) "__init__" = some (some (.ref (adV (inM K v)))) := by
  have e := ref_of h
  have e2 : (match PySem.W.nsIn K (nsA K v) "__init__" with | some (some v) => v | _ => .none) = Value.ref (adV (inM K v)) := e
  split at e2
  · rename_i u hu
    rw [hu, e2]
  · cases e2
/-- along an own class that has not the name -/
theorem al_no {C N : Addr} {nm q : Str} {bs bm sub l : List Value} {sn : List Str} {ab : Bool} {col : Option Bool} {dd : Option Addr} {k0 k1 k2 k3 k5 : Option Value} {f : Str} (hC : K.lookup C = some (excClassObj nm q C N bs bm true sn sub ab col dd k0 k1 k2 k3 k5 "ValueError.__new__"))
    (hn : PySem.W.nsIn K N f = some none) : PySem.W.alongIn K f (.ref C :: l) = PySem.W.alongIn K f l := by
  have o : PySem.W.ownIn K f (.ref C) = some none := by
    unfold PySem.W.ownIn
    dsimp only
    rw [hC]
    exact hn
  show (match PySem.W.ownIn K f (.ref C) with | some (some v) => some (some v) | some none => PySem.W.alongIn K f l | none => none) = _
  rw [o]
theorem al_yes {C N : Addr} {nm q : Str} {bs bm sub l : List Value} {sn : List Str} {ab : Bool} {col : Option Bool} {dd : Option Addr} {k0 k1 k2 k3 k5 : Option Value} {f : Str} {u : Value} (hC : K.lookup C = some (excClassObj nm q C N bs bm true sn sub ab col dd k0 k1 k2 k3 k5 "ValueError.__new__"))
    (hn : PySem.W.nsIn K N f = some (some u)) : PySem.W.alongIn K f (.ref C :: l) = some (some u) := by
  have o : PySem.W.ownIn K f (.ref C) = some (some u) := by
    unfold PySem.W.ownIn
    dsimp only
    rw [hC]
    exact hn
  show (match PySem.W.ownIn K f (.ref C) with | some (some v) => some (some v) | some none => PySem.W.alongIn K f l | none => none) = _
  rw [o]
theorem fi_cls {C N : Addr} {nm q : Str} {bs bm sub : List Value} {sn : List Str} {ab : Bool} {col : Option Bool} {dd : Option Addr} {k0 k1 k2 k3 k5 : Option Value} {f : Str} (hC : K.lookup C = some (excClassObj nm q C N bs bm true sn sub ab col dd k0 k1 k2 k3 k5 "ValueError.__new__")) :
    PySem.W.findIn K (.ref C) f = PySem.W.alongIn K f (.ref C :: bm) := by
  unfold PySem.W.findIn
  dsimp only
  rw [hC]
theorem ke_cls {C N : Addr} {nm q : Str} {bs bm sub : List Value} {sn : List Str} {ab : Bool} {col : Option Bool} {dd : Option Addr} {k0 k1 k2 k3 k5 : Option Value} (hC : K.lookup C = some (excClassObj nm q C N bs bm true sn sub ab col dd k0 k1 k2 k3 k5 "ValueError.__new__")) : PySem.W.keepIn K (.ref C) = true := by
  unfold PySem.W.keepIn PySem.W.specialIn PySem.W.typeIn
  dsimp only
  rw [hC]
  show (PySem.W.findIn K (.type "type") "__call__" == some (some (.builtin "type.__call__"))) = true
  have e : PySem.W.findIn K (.type "type") "__call__" = some (some (.builtin "type.__call__")) := by kernel_rfl
  rw [e]
  exact beq_self_eq_true _
end
abbrev ve : List Value := PySem.HandSPX.veTail
theorem ve_sa (K : PySem.W.Frag) : PySem.W.alongIn K "__setattr__" ve = some (some (.builtin "object.__setattr__")) := by kernel_rfl
theorem ve_ga (K : PySem.W.Frag) : PySem.W.alongIn K "__getattribute__" ve = some (some (.builtin "BaseException.__getattribute__")) := by kernel_rfl
theorem ve_gg (K : PySem.W.Frag) : PySem.W.alongIn K "__getattr__" ve = some none := by kernel_rfl
theorem ve_ca (K : PySem.W.Frag) : PySem.W.alongIn K "__class__" ve = some (some (.builtin "object.__class__")) := by kernel_rfl
theorem get_c (K : PySem.W.Frag) : PySem.W.specialIn K (.builtin "object.__class__") "__get__" = some (some (.builtin "getset_descriptor.__get__")) := by kernel_rfl
theorem take_c (K : PySem.W.Frag) : PySem.W.takesIn K (.builtin "object.__class__") = some true := by kernel_rfl
abbrev four : List Str := ["__setattr__", "__getattribute__", "__getattr__", "__class__"]
end Ho

set_option Elab.async false
set_option linter.all false
set_option maxRecDepth 100000
set_option maxHeartbeats 4000000
namespace Ho
open PySem PySem.Spec PyProof.Rows L2 Dl LamX
section
variable {K : PySem.W.Frag} {h : Heap} {mg : Str → Option Value} {x q : Str} {v vF : Value} {st : Stmt} {ps nm L LF : List Str}
theorem cls_fe (c : clB K ve v = true) (n : noB K (nsA K v) L = true) (h4 : ∀ f ∈ four, f ∈ L) : ClsB K (adV v) ve := by
  obtain ⟨_, m, q, bs, sn, sub, ab, col, dd, k0, k1, k2, k3, k5, hC⟩ := cl_get c
  have go : ∀ {f : Str}, f ∈ four → PySem.W.findIn K (.ref (adV v)) f = PySem.W.alongIn K f ve := fun hf => (fi_cls hC).trans (al_no hC (no_get n (h4 _ hf)))
  exact ⟨⟨_, _, _, _, _, _, _, _, _, _, _, _, _, _, hC⟩, by decide +kernel, (go (by simp [four])).trans (ve_sa K), (go (by simp [four])).trans (ve_ga K), (go (by simp [four])).trans (ve_gg K), (go (by simp [four])).trans (ve_ca K), ke_cls hC⟩
/-- along an own class and the base of all own errors -/
theorem al_two (cF : clB K ve vF = true) (nF : noB K (nsA K vF) LF = true) (c : clB K (.ref (adV vF) :: ve) v = true) (n : noB K (nsA K v) L = true) {f : Str} (h1 : f ∈ L) (h2 : f ∈ LF) : PySem.W.findIn K (.ref (adV v)) f = PySem.W.alongIn K f ve := by
  obtain ⟨_, _, _, _, _, _, _, _, _, _, _, _, _, _, hF⟩ := cl_get cF
  obtain ⟨_, _, _, _, _, _, _, _, _, _, _, _, _, _, hC⟩ := cl_get c
  exact (fi_cls hC).trans ((al_no hC (no_get n h1)).trans (al_no hF (no_get nF h2)))
theorem cls_own (cF : clB K ve vF = true) (nF : noB K (nsA K vF) LF = true) (c : clB K (.ref (adV vF) :: ve) v = true) (n : noB K (nsA K v) L = true) (h4 : ∀ f ∈ four, f ∈ L) (h5 : ∀ f ∈ four, f ∈ LF) : ClsB K (adV v) (.ref (adV vF) :: ve) := by
  have go : ∀ {f : Str}, f ∈ four → PySem.W.findIn K (.ref (adV v)) f = PySem.W.alongIn K f ve := fun hf => al_two cF nF c n (h4 _ hf) (h5 _ hf)
  obtain ⟨_, m, q, bs, sn, sub, ab, col, dd, k0, k1, k2, k3, k5, hC⟩ := cl_get c
  exact ⟨⟨_, _, _, _, _, _, _, _, _, _, _, _, _, _, hC⟩, show PySem.HandSPX.refsVE PySem.HandSPX.veTail = true by decide +kernel, (go (by simp [four])).trans (ve_sa K), (go (by simp [four])).trans (ve_ga K), (go (by simp [four])).trans (ve_gg K), (go (by simp [four])).trans (ve_ca K), ke_cls hC⟩
theorem ini_own (cF : clB K ve vF = true) (nF : noB K (nsA K vF) LF = true) (c : clB K (.ref (adV vF) :: ve) v = true) (n : noB K (nsA K v) L = true) (fB : fnB K (inM K v) q = true) (e : fnO K (inM K v) = fnV "__init__" q st)
    (hb : ∀ (kV doc pm : Value) (an : Option Addr) (cdv ct : Value) (us : List Value), us.length = ps.length → bindArgs (PySem.W.fnOf "__init__" q (defArgs st) (defBody st) (defScope st) .none kV doc pm an cdv ct) ⟨us, []⟩ = pure (ps.zip us))
    (hk : ∀ (kV doc pm : Value) (an : Option Addr) (cdv ct self : Value) (ws : List Value), ws.length = nm.length → bindArgs (PySem.W.fnOf "__init__" q (defArgs st) (defBody st) (defScope st) .none kV doc pm an cdv ct) ⟨[self], nm.reverse.zip ws⟩ = pure (ps.zip (self :: ws.reverse)))
    (h1 : ∀ f ∈ nm, f ∈ L ∧ f ∈ LF ∧ PySem.W.alongIn K f ve = some none) : K00.IniF K (adV v) nm q st ps := by
  obtain ⟨od, osl, kV, doc, pm, an, cdv, ct, l, cd, kp⟩ := fn_get e fB
  obtain ⟨_, m, q, bs, sn, sub, ab, col, dd, k0, k1, k2, k3, k5, hC⟩ := cl_get c
  refine K00.ini_mk hb hk (fun f hf => (al_two cF nF c n (h1 f hf).1 (h1 f hf).2.1).trans (h1 f hf).2.2) ((fi_cls hC).trans (al_yes hC (in_ref (ba fB).1))) ?_ l cd kp
  show (K.lookup (adV (inM K v))).map (·.cls) = some (.type "function")
  rw [l]
  rfl
theorem ex_of {bm : List Value} (c : clB K bm v = true) (t : PySem.W.tailIn K ve bm = true) (n : noB K (nsA K v) L = true) (hi : ("__init__" : Str) ∈ L) (o : PySem.W.nsOkIn K (nsA K v) = true) : PySem.W.excIn K (adV v) ve "ValueError.__new__" = true := by
  obtain ⟨_, m, q, bs, sn, sub, ab, col, dd, k0, k1, k2, k3, k5, hC⟩ := cl_get c
  unfold PySem.W.excIn
  rw [hC]
  show (adV v == adV v && "ValueError.__new__" == "ValueError.__new__" && !false && PySem.W.tailIn K ve bm && PySem.W.nsOkIn K (nsA K v) && PySem.W.nsIn K (nsA K v) "__init__" == some none) = true
  rw [t, o, no_get n hi]
  simp
theorem tail_ve (K : PySem.W.Frag) : PySem.W.tailIn K ve ve = true := by kernel_rfl
theorem tail_own (cF : clB K ve v = true) (n : noB K (nsA K v) L = true) (hi : ("__init__" : Str) ∈ L) (o : PySem.W.nsOkIn K (nsA K v) = true) : PySem.W.tailIn K ve (.ref (adV v) :: ve) = true := by
  obtain ⟨_, m, q, bs, sn, sub, ab, col, dd, k0, k1, k2, k3, k5, hC⟩ := cl_get cF
  unfold PySem.W.tailIn
  rw [Bool.or_eq_true]
  right
  dsimp only
  rw [hC]
  show (PySem.W.nsOkIn K (nsA K v) && PySem.W.nsIn K (nsA K v) "__init__" == some none && PySem.W.tailIn K ve ve) = true
  rw [o, no_get n hi, tail_ve]
  rfl
theorem at_of (X : K.In h) (G : h.Ns mainGlobals mg) (fB : fnB K (gM K x) x = true) (e : fnO K (gM K x) = fnV x x st)
    (hb : ∀ (kV doc pm : Value) (an : Option Addr) (cdv ct : Value) (us : List Value), us.length = ps.length → bindArgs (PySem.W.fnOf x x (defArgs st) (defBody st) (defScope st) .none kV doc pm an cdv ct) ⟨us, []⟩ = pure (ps.zip us)) : At K mg x st ps := by
  obtain ⟨od, osl, kV, doc, pm, an, cdv, ct, l, cd, kp⟩ := fn_get e fB
  exact K00.at_mk X G hb (gM_ns (ba fB).1) l cd kp
theorem cd_ref {cdv : Value} (h : PySem.W.codeIn K cdv q = true) : cdv = .ref (adV cdv) := by
  cases cdv with
  | ref a => rfl
  | _ => cases h
theorem atC_of (X : K.In h) (G : h.Ns mainGlobals mg) (fB : fnB K (gM K x) x = true) (e : fnO K (gM K x) = fnV x x st)
    (hb : ∀ (kV doc pm : Value) (an : Option Addr) (cdv ct : Value) (us : List Value), us.length = ps.length → bindArgs (PySem.W.fnOf x x (defArgs st) (defBody st) (defScope st) .none kV doc pm an cdv ct) ⟨us, []⟩ = pure (ps.zip us)) : AtC K mg x st ps (cdA K (gM K x)) := by
  obtain ⟨od, osl, kV, doc, pm, an, cdv, ct, l, cd, kp⟩ := fn_get e fB
  have ec : cdA K (gM K x) = adV cdv := by
    unfold cdA
    rw [l]
  have er := cd_ref cd
  rw [ec]
  rw [er] at l cd
  exact K00.atC_mk X G hb (gM_ns (ba fB).1) l cd kp
theorem codeF_of (m : maB K (gM K x) = true) (fB : fnB K (gM K x) x = true) (e : fnO K (gM K x) = fnV x x st) : K00.CodeF K x st (gA K x) (cdA K (gM K x)) (tbA K (cdA K (gM K x))) := by
  obtain ⟨od, osl, kV, doc, pm, an, cdv, ct, l, cd, kp⟩ := fn_get e fB
  have ec : cdA K (gM K x) = adV cdv := by
    unfold cdA
    rw [l]
  have er := cd_ref cd
  obtain ⟨m1, m2⟩ := ba m
  rw [← ec] at er
  rw [er] at l
  generalize cdA K (gM K x) = c at m1 m2 l
  generalize tbA K c = P at m1 m2
  have nP : K.lookup P = none := Option.isNone_iff_eq_none.mp m2
  unfold PySem.W.codeHdIn at m1
  split at m1
  · rename_i cd2 vs sl hk
    simp only [Bool.and_eq_true] at m1
    obtain ⟨⟨⟨⟨⟨a11, a18⟩, a7⟩, a9⟩, a10⟩, ne⟩ := m1
    have ne' : c ≠ P := by simpa using ne
    split at a11
    · rename_i P' h11
      have eP : P' = P := beq_iff_eq.mp a11
      subst eP
      split at a18
      · rename_i f tf h18
        split at a7
        · rename_i fl tg h7
          split at a9
          · rename_i b h9
            split at a10
            · rename_i tx tt h10
              exact K00.code_mk l hk h11 h18 h7 h9 h10 ne' nP
            · cases a10
          · cases a9
        · cases a7
      · cases a18
    · cases a11
  · cases m1
end
/-! ### all at once -/
structure CI where
  x : Str
  q : Str
  no : List Str
  st : Stmt
def nodB : List Nat → Bool
  | [] => true
  | a :: r => (r.all fun b => !Nat.beq a b) && nodB r
theorem nodB_ok : ∀ {l : List Nat}, nodB l = true → l.Nodup
  | [], _ => List.nodup_nil
  | a :: r, e => by
    obtain ⟨e1, e2⟩ := ba (show ((r.all fun b => !Nat.beq a b) && nodB r) = true from e)
    refine List.nodup_cons.mpr ⟨fun hm => ?_, nodB_ok e2⟩
    have z := List.all_eq_true.mp e1 a hm
    rw [Nat.beq_refl] at z
    cases z
structure TP where
  fN : List Str
  cs : List CI
  zs : List (Str × List Str)
  fs : List (Str × Stmt)
  ms : List Str
  fr : List Str
  al : List Str
def TP.ok (T : TP) (K : PySem.W.Frag) (F : Addr) : Bool :=
  (clB K ve (gM K "FilterError") && (noB K (nsA K (gM K "FilterError")) T.fN && PySem.W.nsOkIn K (nsA K (gM K "FilterError")))) &&
  ((T.cs.all fun c => clB K (.ref F :: ve) (gM K c.x) && (noB K (nsA K (gM K c.x)) c.no && fnB K (inM K (gM K c.x)) c.q)) &&
  ((T.zs.all fun z => clB K (.ref F :: ve) (gM K z.1) && (noB K (nsA K (gM K z.1)) z.2 && PySem.W.nsOkIn K (nsA K (gM K z.1)))) &&
  ((T.fs.all fun f => fnB K (gM K f.1) f.1) && ((T.ms.all fun m => maB K (gM K m)) &&
  ((T.fr.all fun x => isNo (PySem.W.nsIn K mainGlobals x)) && (nodB (T.al.map (gA K)) && nodB (T.ms.map fun m => tbA K (cdA K (gM K m)))))))))
def TP.fns (T : TP) (K : PySem.W.Frag) : List FnO := (T.cs.map fun c => fnO K (inM K (gM K c.x))) ++ T.fs.map fun f => fnO K (gM K f.1)
abbrev AlH : Type := Bool × List FnO
def TP.obs (T : TP) (K : PySem.W.Frag) : AlH := HandSHeadRun.frNat (gA K "FilterError") fun F => (T.ok K F, T.fns K)
def TP.val (T : TP) : AlH := (true, (T.cs.map fun c => fnV "__init__" c.q c.st) ++ T.fs.map fun f => fnV f.1 f.1 f.2)
def TP.hook (T : TP) : PySem.W.Hook where
  α := AlH
  obs := fun s => T.obs (He.frG s.heap.get? (allG s.heap.get?))
  val := fun _ => T.val
  says := fun _ h => ∃ K : PySem.W.Frag, K.In h ∧ T.obs K = T.val
  of := fun _ _ e => ⟨_, He.frG_in, e⟩
  keeps := fun _ _ _ ⟨K, hK, c⟩ k => ⟨K, PySem.W.Frag.In.keeps hK k, c⟩
def TP.ob (T : TP) (s : PySem.W.SharedT) : AlH := fcF (He.frG (HandSHeadRun.getT s) (allG (HandSHeadRun.getT s))) T.obs
theorem TP.ob_eq (T : TP) (s : PySem.W.SharedT) : T.ob s = T.hook.obs s.abs := by
  unfold TP.ob
  rw [fcF_eq]
  have e : HandSHeadRun.getT s = s.abs.heap.get? := funext (HandSHeadRun.getT_eq s)
  rw [e]
  rfl
structure TP.Says (T : TP) (K : PySem.W.Frag) : Prop where
  fe : clB K ve (gM K "FilterError") = true
  feN : noB K (nsA K (gM K "FilterError")) T.fN = true
  feO : PySem.W.nsOkIn K (nsA K (gM K "FilterError")) = true
  cs : ∀ c ∈ T.cs, clB K (.ref (adV (gM K "FilterError")) :: ve) (gM K c.x) = true ∧ noB K (nsA K (gM K c.x)) c.no = true ∧ fnB K (inM K (gM K c.x)) c.q = true ∧ fnO K (inM K (gM K c.x)) = fnV "__init__" c.q c.st
  zs : ∀ z ∈ T.zs, clB K (.ref (adV (gM K "FilterError")) :: ve) (gM K z.1) = true ∧ noB K (nsA K (gM K z.1)) z.2 = true ∧ PySem.W.nsOkIn K (nsA K (gM K z.1)) = true
  fs : ∀ f ∈ T.fs, fnB K (gM K f.1) f.1 = true ∧ fnO K (gM K f.1) = fnV f.1 f.1 f.2
  ms : ∀ m ∈ T.ms, maB K (gM K m) = true
  fr : ∀ x ∈ T.fr, PySem.W.nsIn K mainGlobals x = some none
  al : (T.al.map (gA K)).Nodup
  tb : (T.ms.map fun m => tbA K (cdA K (gM K m))).Nodup
theorem map_at {α β : Type} {f g : α → β} : ∀ {l : List α}, l.map f = l.map g → ∀ a ∈ l, f a = g a := fun e => List.map_inj_left.mp e
theorem TP.says_of {T : TP} {K : PySem.W.Frag} (e : T.obs K = T.val) : T.Says K := by
  unfold TP.obs at e
  rw [HandSHeadRun.frNat_eq] at e
  obtain ⟨e1, e2⟩ := Prod.mk.inj e
  unfold TP.ok at e1
  obtain ⟨q1, e1⟩ := ba e1
  obtain ⟨q2, e1⟩ := ba e1
  obtain ⟨q3, e1⟩ := ba e1
  obtain ⟨q4, e1⟩ := ba e1
  obtain ⟨q5, e1⟩ := ba e1
  obtain ⟨q6, e1⟩ := ba e1
  obtain ⟨q7, q8⟩ := ba e1
  obtain ⟨a1, a2⟩ := ba q1
  obtain ⟨a2, a3⟩ := ba a2
  unfold TP.fns at e2
  obtain ⟨f1, f2⟩ := List.append_inj e2 (by simp)
  exact ⟨a1, a2, a3, fun c hc => have z := ba (List.all_eq_true.mp q2 c hc); ⟨z.1, (ba z.2).1, (ba z.2).2, map_at f1 c hc⟩, fun c hc => have z := ba (List.all_eq_true.mp q3 c hc); ⟨z.1, (ba z.2).1, (ba z.2).2⟩,
    fun f hf => ⟨List.all_eq_true.mp q4 f hf, map_at f2 f hf⟩, fun m hm => List.all_eq_true.mp q5 m hm, fun x hx => isNo_of (List.all_eq_true.mp q6 x hx), nodB_ok q7, nodB_ok q8⟩
end Ho

set_option Elab.async false
set_option linter.all false
set_option maxRecDepth 100000
set_option maxHeartbeats 4000000
/-! a leaner run of the top: the usual steps by small functions of their own, each shown to be the machine's; the rest by the machine's own step -/
noncomputable section
namespace Hx
open PySem PySem.W PySem.Calls PyProof.Rows
section
variable (den : Code → Sem PySem.Fin) (p : Program) (w : World) (n0 : Nat) (ann : Option Value)
def slow (s : SharedT) (t : Thread) : Option (SharedT × Thread) := bif stepOk n0 ann t then stepT den p w s t else none
def oLoad (s : SharedT) (a : Addr) (k : Obj → Sem PySem.Fin) (code : Code) (pos : Pos) (stack : List Frame) : Option (SharedT × Thread) :=
  bif Nat.blt a s.n then (s.tree.get a).bind fun o => (alive o).bind fun x => some (s, ⟨k x, code, pos, stack⟩) else none
def oSet (a : Addr) (q : Option Value) (f : Obj → Obj) (k : Unit → Sem PySem.Fin) (code : Code) (pos : Pos) (stack : List Frame) : SharedT → Option (SharedT × Thread)
  | ⟨T, n, life, gens, drawn, toks, os⟩ => bif Nat.blt a n then (T.get a).bind fun o => (alive o).bind fun _ => some (⟨T.set a f, n, life, gens, drawn, toks, os⟩, ⟨k (), code, pos, stack⟩) else none
def oUpd (s : SharedT) (a : Addr) (q : Option Value) (f : Obj → Obj) (k : Unit → Sem PySem.Fin) (code : Code) (pos : Pos) (stack : List Frame) : Option (SharedT × Thread) :=
  bif Nat.ble n0 a then oSet a q f k code pos stack s else slow den p w n0 ann s ⟨.update a q f k, code, pos, stack⟩
def oNew (o : Obj) (k : Addr → Sem PySem.Fin) (code : Code) (pos : Pos) (stack : List Frame) : SharedT → Option (SharedT × Thread)
  | ⟨T, n, life, gens, drawn, toks, os⟩ => bif ((T.ins n o).get n).isSome then some (⟨T.ins n o, n + 1, life, gens, drawn, toks, os⟩, ⟨k n, code, pos, stack⟩) else none
def oTok (k : Tok → Sem PySem.Fin) (code : Code) (pos : Pos) (stack : List Frame) : SharedT → Option (SharedT × Thread)
  | ⟨T, n, life, gens, drawn, toks, os⟩ => some (⟨T, n, life, gens, drawn, toks + 1, os⟩, ⟨k toks, code, pos, stack⟩)
/-- what the frame on top keeps, when read: off the machine's own step -/
def kept1 (t : Thread) : List Value := match step den p w ⟨⟨#[], {}⟩, #[], {}, 0, (start p).1.os⟩ t with
  | .go _ t' => (match t'.stack with
    | .ret _ _ _ _ _ _ kk :: _ => kk
    | _ => [])
  | .halt _ _ => []
def oCall (s : SharedT) (c : Code) (h : Option Value) (g : Bool) (l : List Value) (k : Result → Sem PySem.Fin) (code : Code) (pos : Pos) (stack : List Frame) : Option (SharedT × Thread) :=
  some (s, ⟨den c, c, pos, .ret k h g l code pos (kept1 den p w ⟨.call c h g l k, code, pos, stack⟩) :: stack⟩)
def oDone (s : SharedT) (f : Flow) (code : Code) (pos : Pos) : List Frame → Option (SharedT × Thread)
  | .ret k _ _ _ c q _ :: rest => some (s, ⟨k (.ok f), c, q, rest⟩)
  | st => slow den p w n0 ann s ⟨.pure (.done f), code, pos, st⟩
def oAgain2 (s : SharedT) (c : Code) (code : Code) (pos : Pos) : List Frame → Option (SharedT × Thread)
  | .ret k h g l cd q kept :: rest => some (s, ⟨den c, c, pos, .ret k h g l cd q (kept1 den p w ⟨.pure (.again c), code, pos, .ret k h g l cd q kept :: rest⟩) :: rest⟩)
  | st => stepT den p w s ⟨.pure (.again c), code, pos, st⟩
def oAgain (s : SharedT) (c : Code) (code : Code) (pos : Pos) (stack : List Frame) : Option (SharedT × Thread) :=
  bif stepOk n0 ann ⟨.pure (.again c), code, pos, stack⟩ then oAgain2 den p w s c code pos stack else none
def oPure (s : SharedT) (f : PySem.Fin) (code : Code) (pos : Pos) (stack : List Frame) : Option (SharedT × Thread) := match f with
  | .done f => oDone den p w n0 ann s f code pos stack
  | .again c => oAgain den p w n0 ann s c code pos stack
def oGo (s : SharedT) (x : Sem PySem.Fin) (code : Code) (pos : Pos) (stack : List Frame) : Option (SharedT × Thread) := some (s, ⟨x, code, pos, stack⟩)
def nextC (s : SharedT) (code : Code) (pos : Pos) (stack : List Frame) (cur : Sem PySem.Fin) : Option (SharedT × Thread) := match cur with
  | .pure f => oPure den p w n0 ann s f code pos stack
  | .rule _ k => oGo s (k ()) code pos stack
  | .at q k => oGo s (k ()) code q stack
  | .load a _ k => oLoad s a k code pos stack
  | .update a q f k => oUpd den p w n0 ann s a q f k code pos stack
  | .alloc o k => oNew o k code pos stack s
  | .point _ k => oGo s (k ()) code pos stack
  | .fresh k => oTok k code pos stack s
  | .ask k => oGo s (k ⟨p, w.params⟩) code pos stack
  | .call c h g l k => oCall den p w s c h g l k code pos stack
  | c => slow den p w n0 ann s ⟨c, code, pos, stack⟩
def next (s : SharedT) : Thread → Option (SharedT × Thread)
  | ⟨cur, code, pos, stack⟩ => nextC den p w n0 ann s code pos stack cur
def goX : Nat → SharedT → Thread → Option SharedT
  | 0, _, _ => none
  | m + 1, s, t => match t.stack with
    | _ :: _ => (match next den p w n0 ann s t with
      | some (s', t') => HandSHeadRun.frS s' fun s' => goX m s' t'
      | none => none)
    | [] => (match through t with
      | true => some s
      | false => match next den p w n0 ann s t with
        | some (s', t') => HandSHeadRun.frS s' fun s' => goX m s' t'
        | none => none)
end
section
variable {den : Code → Sem PySem.Fin} {p : Program} {w : World} {n0 : Nat} {ann : Option Value}
theorem slow_ok {s : SharedT} {t : Thread} {r : SharedT × Thread} (h : slow den p w n0 ann s t = some r) : stepOk n0 ann t = true ∧ stepT den p w s t = some r := by
  unfold slow at h
  cases e : stepOk n0 ann t with
  | true =>
    rw [e] at h
    exact ⟨rfl, h⟩
  | false =>
    rw [e] at h
    cases h
theorem next_ok {s : SharedT} {t : Thread} {r : SharedT × Thread} (h : next den p w n0 ann s t = some r) : stepOk n0 ann t = true ∧ stepT den p w s t = some r := by
  obtain ⟨T, n, life, gens, drawn, toks, os⟩ := s
  obtain ⟨cur, code, pos, stack⟩ := t
  cases cur with
  | pure f =>
    cases f with
    | done f =>
      have h1 : oDone den p w n0 ann ⟨T, n, life, gens, drawn, toks, os⟩ f code pos stack = some r := h
      unfold oDone at h1
      split at h1
      · exact ⟨rfl, h1⟩
      · exact slow_ok h1
    | again c =>
      have h1 : (bif stepOk n0 ann ⟨.pure (.again c), code, pos, stack⟩ then oAgain2 den p w ⟨T, n, life, gens, drawn, toks, os⟩ c code pos stack else none) = some r := h
      cases e : stepOk n0 ann ⟨.pure (.again c), code, pos, stack⟩ with
      | false =>
        rw [e] at h1
        cases h1
      | true =>
        rw [e] at h1
        refine ⟨rfl, ?_⟩
        have h2 : oAgain2 den p w ⟨T, n, life, gens, drawn, toks, os⟩ c code pos stack = some r := h1
        unfold oAgain2 at h2
        split at h2
        · rw [← h2]
          cases code <;> cases c <;> rfl
        · exact h2
  | load a q k =>
    have h1 : (bif Nat.blt a n then (T.get a).bind fun o => (alive o).bind fun x => some ((⟨T, n, life, gens, drawn, toks, os⟩ : SharedT), (⟨k x, code, pos, stack⟩ : Thread)) else none) = some r := h
    refine ⟨rfl, ?_⟩
    unfold stepT
    dsimp only
    cases e : Nat.blt a n with
    | false =>
      rw [e] at h1
      cases h1
    | true =>
      rw [e] at h1
      cases e2 : T.get a with
      | none =>
        rw [e2] at h1
        cases h1
      | some o =>
        rw [e2] at h1
        have h2 : ((alive o).bind fun x => some ((⟨T, n, life, gens, drawn, toks, os⟩ : SharedT), (⟨k x, code, pos, stack⟩ : Thread))) = some r := h1
        dsimp only
        cases e3 : alive o with
        | none =>
          rw [e3] at h2
          cases h2
        | some x =>
          rw [e3] at h2
          exact h2
  | update a q f k =>
    have h1 : (bif Nat.ble n0 a then oSet a q f k code pos stack ⟨T, n, life, gens, drawn, toks, os⟩ else slow den p w n0 ann ⟨T, n, life, gens, drawn, toks, os⟩ ⟨.update a q f k, code, pos, stack⟩) = some r := h
    cases e : Nat.ble n0 a with
    | false =>
      rw [e] at h1
      exact slow_ok h1
    | true =>
      rw [e] at h1
      have h1 : (bif Nat.blt a n then (T.get a).bind fun o => (alive o).bind fun _ => some ((⟨T.set a f, n, life, gens, drawn, toks, os⟩ : SharedT), (⟨k (), code, pos, stack⟩ : Thread)) else none) = some r := h1
      refine ⟨?_, ?_⟩
      · have : stepOk n0 ann ⟨.update a q f k, code, pos, stack⟩ = (Nat.ble n0 a || a == mainNs || a == cStatics || ann == some (.ref a)) := rfl
        rw [this, e]
        rfl
      · unfold stepT
        dsimp only
        cases e : Nat.blt a n with
        | false =>
          rw [e] at h1
          cases h1
        | true =>
          rw [e] at h1
          cases e2 : T.get a with
          | none =>
            rw [e2] at h1
            cases h1
          | some o =>
            rw [e2] at h1
            have h2 : ((alive o).bind fun _ => some ((⟨T.set a f, n, life, gens, drawn, toks, os⟩ : SharedT), (⟨k (), code, pos, stack⟩ : Thread))) = some r := h1
            dsimp only
            cases e3 : alive o with
            | none =>
              rw [e3] at h2
              cases h2
            | some x =>
              rw [e3] at h2
              exact h2
  | alloc o k =>
    have h1 : (bif ((T.ins n o).get n).isSome then some ((⟨T.ins n o, n + 1, life, gens, drawn, toks, os⟩ : SharedT), (⟨k n, code, pos, stack⟩ : Thread)) else none) = some r := h
    refine ⟨rfl, ?_⟩
    unfold stepT
    dsimp only
    cases e : ((T.ins n o).get n).isSome with
    | false =>
      rw [e] at h1
      cases h1
    | true =>
      rw [e] at h1
      exact h1
  | rule | «at» | point | fresh | ask => exact ⟨rfl, h⟩
  | call c hh g l k =>
    refine ⟨rfl, ?_⟩
    rw [← h]
    rfl
  | _ => exact slow_ok h
theorem goX_ok : ∀ {m : Nat} {s s' : SharedT} {t : Thread}, goX den p w n0 ann m s t = some s' → HandSHeadRun.goF (stepT den p w) n0 ann m s t = some s'
  | 0, _, _, _, h => by cases h
  | m + 1, s, s', t, h => by
    have main : ∀ {t : Thread}, through t = false → (match next den p w n0 ann s t with
      | some (s', t') => HandSHeadRun.frS s' fun s' => goX den p w n0 ann m s' t'
      | none => none) = some s' → HandSHeadRun.goF (stepT den p w) n0 ann (m + 1) s t = some s' := fun {t} ht h1 => by
      cases e : next den p w n0 ann s t with
      | none =>
        rw [e] at h1
        cases h1
      | some r =>
        obtain ⟨s2, t2⟩ := r
        obtain ⟨k1, k2⟩ := next_ok e
        rw [e] at h1
        have h2 : (HandSHeadRun.frS s2 fun s' => goX den p w n0 ann m s' t2) = some s' := h1
        rw [HandSHeadRun.frS_eq] at h2
        have q := goX_ok h2
        show (match through t with
          | true => some s
          | false => match stepOk n0 ann t with
            | false => none
            | true => match stepT den p w s t with
              | some (s', t') => HandSHeadRun.frS s' fun s' => HandSHeadRun.goF (stepT den p w) n0 ann m s' t'
              | none => none) = some s'
        rw [ht, k1, k2]
        show (HandSHeadRun.frS s2 fun s' => HandSHeadRun.goF (stepT den p w) n0 ann m s' t2) = some s'
        rw [HandSHeadRun.frS_eq]
        exact q
    obtain ⟨cur, code, pos, stack⟩ := t
    cases stack with
    | cons fr rest => exact main rfl h
    | nil =>
      have h1 : (match through ⟨cur, code, pos, []⟩ with
        | true => some s
        | false => match next den p w n0 ann s ⟨cur, code, pos, []⟩ with
          | some (s', t') => HandSHeadRun.frS s' fun s' => goX den p w n0 ann m s' t'
          | none => none) = some s' := h
      cases ht : through ⟨cur, code, pos, []⟩ with
      | false =>
        rw [ht] at h1
        exact main ht h1
      | true =>
        rw [ht] at h1
        show (match through ⟨cur, code, pos, []⟩ with
          | true => some s
          | false => match stepOk n0 ann ⟨cur, code, pos, []⟩ with
            | false => none
            | true => match stepT den p w s ⟨cur, code, pos, []⟩ with
              | some (s', t') => HandSHeadRun.frS s' fun s' => HandSHeadRun.goF (stepT den p w) n0 ann m s' t'
              | none => none) = some s'
        rw [ht]
        exact h1
end
/-- the state behind the top, from the boot -/
def endX (M : Nat) (p : Program) (w : World) (os : OsState) : Option SharedT := match HandSHeadRun.putAll (boot_heap w.params).objs.toList .nil 0 with
  | some (t, n) => HandSHeadRun.frNat n fun n0 => goX (HandSHeadRun.denQ HandSHeadRun.tabQ) p w n0 (HandSHeadRun.bootAnn w) M (HandSHeadRun.bootT w os (t, n0)) (topStub p)
  | none => none
theorem endX_ok {M : Nat} {p : Program} {w : World} {os : OsState} {s : SharedT} (h : endX M p w os = some s) : HandSHeadRun.endF (HandSHeadRun.stepQ (HandSHeadRun.denQ HandSHeadRun.tabQ) p w) M p w os = some s := by
  unfold endX at h
  unfold HandSHeadRun.endF
  rw [← HandSHeadRun.stepQ_eq]
  cases e : HandSHeadRun.putAll (boot_heap w.params).objs.toList .nil 0 with
  | none =>
    rw [e] at h
    cases h
  | some r =>
    obtain ⟨t, n⟩ := r
    rw [e] at h
    have h1 : (HandSHeadRun.frNat n fun n0 => goX (HandSHeadRun.denQ HandSHeadRun.tabQ) p w n0 (HandSHeadRun.bootAnn w) M (HandSHeadRun.bootT w os (t, n0)) (topStub p)) = some s := h
    rw [HandSHeadRun.frNat_eq] at h1
    show (HandSHeadRun.frNat n fun n0 => HandSHeadRun.goF (stepT (HandSHeadRun.denQ HandSHeadRun.tabQ) p w) n0 (HandSHeadRun.bootAnn w) M (HandSHeadRun.bootT w os (t, n0)) (topStub p)) = some s
    rw [HandSHeadRun.frNat_eq]
    exact goX_ok h1
/-- the leaner run's equation gives the run's -/
theorem run_of {r : OpenRow} {q : Program} {H : Hook} {ob : SharedT → H.α} {M : Nat} {loose : List PySem.Str} {w : World}
    (h : ∀ os : OsState, (endX M r.prog w os).map (fun s => (HandSHeadRun.looksF r.prog (boot_heap w.params) s.abs, HandSHeadRun.seenQ q loose (importedModules r.prog.main.body) (fun s => xlAt q [] s && recOk r.toRowW.records s) s.abs, ob s)) = some (true, openGood q loose, H.val w)) :
    HandSHeadRun.RunEq r q H ob M loose w := fun os => by
  obtain ⟨s, hs, hv⟩ := Option.map_eq_some_iff.mp (h os)
  rw [endX_ok hs]
  exact congrArg some hv
/-- the same, looked at in three turns -/
theorem run_of3 {r : OpenRow} {q : Program} {H : Hook} {ob : SharedT → H.α} {M : Nat} {loose : List PySem.Str} {w : World}
    (h1 : ∀ os : OsState, (endX M r.prog w os).map (fun s => HandSHeadRun.looksF r.prog (boot_heap w.params) s.abs) = some true)
    (h2 : ∀ os : OsState, (endX M r.prog w os).map (fun s => HandSHeadRun.seenQ q loose (importedModules r.prog.main.body) (fun s => xlAt q [] s && recOk r.toRowW.records s) s.abs) = some (openGood q loose))
    (h3 : ∀ os : OsState, (endX M r.prog w os).map ob = some (H.val w)) : HandSHeadRun.RunEq r q H ob M loose w := fun os => by
  obtain ⟨s, hs, v1⟩ := Option.map_eq_some_iff.mp (h1 os)
  have v2 := h2 os
  have v3 := h3 os
  rw [hs] at v2 v3
  rw [endX_ok hs]
  exact congrArg some (Prod.ext v1 (Prod.ext (Option.some.inj v2) (Option.some.inj v3)))
end Hx

set_option Elab.async false
set_option linter.all false
set_option maxRecDepth 100000
set_option maxHeartbeats 4000000
namespace K00
open PySem PySem.Spec PyProof.Rows L2 Dl LamX
abbrev RowZ : PySem.W.OpenRow := PySem.W.OpenLaw.row PySem.Challenge.rw_swornfilters_k00_errors_made
abbrev qZ : Program := PySem.W.view RowZ.prog [67, 68, 69, 70, 78]
def looseZ0 : List Str := [("FilterError" : Str), ("BadBy" : Str), ("BadChain" : Str), ("BadControl" : Str), ("BadCore" : Str), ("BadCores" : Str), ("BadDeed" : Str), ("BadEnds" : Str), ("BadHigh" : Str), ("BadInput" : Str), ("BadInto" : Str), ("BadKey" : Str), ("BadLength" : Str), ("BadLine" : Str), ("BadListed" : Str)]
def looseZ1 : List Str := [("BadListing" : Str), ("BadLoaded" : Str), ("BadMany" : Str), ("BadName" : Str), ("BadNames" : Str), ("BadNumber" : Str), ("BadOctets" : Str), ("BadOther" : Str), ("BadOut" : Str), ("BadPaper" : Str), ("BadPattern" : Str), ("BadPiece" : Str), ("BadProgram" : Str), ("BadRow" : Str), ("BadRunner" : Str)]
def looseZ2 : List Str := [("BadSaved" : Str), ("BadSecond" : Str), ("BadSet" : Str), ("BadSigns" : Str), ("BadSize" : Str), ("BadState" : Str), ("BadSteps" : Str), ("BadTable" : Str), ("BadText" : Str), ("BadTriple" : Str), ("BadWord" : Str), ("Done" : Str), ("Full" : Str), ("Gap" : Str), ("NoAgain" : Str)]
def looseZ3 : List Str := [("NoBack" : Str), ("NoFuse" : Str), ("NoKind" : Str), ("NoMove" : Str), ("NotKind" : Str), ("NotThere" : Str), ("NotWatched" : Str), ("NotWhole" : Str), ("NotWithin" : Str), ("OtherSigns" : Str), ("Refused" : Str), ("There" : Str), ("TooMany" : Str), ("Unfit" : Str), ("Used" : Str)]
def looseZ4 : List Str := [("UsesNumber" : Str), ("Watched" : Str), ("_law_start" : Str), ("_law_below" : Str), ("_law_mixed" : Str), ("_law_kinds_a" : Str), ("_law_kinds_b" : Str), ("_law_kinds_c" : Str), ("_law_kinds_d" : Str), ("_law_kinds" : Str), ("_law_is_own" : Str), ("_law_are_these" : Str)]
def looseZ : List Str := looseZ0 ++ looseZ1 ++ looseZ2 ++ looseZ3 ++ looseZ4
abbrev fN : List Str := ["__setattr__", "__getattribute__", "__getattr__", "__class__", "__init__", "column", "index", "key", "line", "many", "name", "text", "thing", "what"]
abbrev n0 : List Str := ["__setattr__", "__getattribute__", "__getattr__", "__class__", "thing"]
abbrev n1 : List Str := ["__setattr__", "__getattribute__", "__getattr__", "__class__", "index"]
abbrev n2 : List Str := ["__setattr__", "__getattribute__", "__getattr__", "__class__", "line"]
abbrev n3 : List Str := ["__setattr__", "__getattribute__", "__getattr__", "__class__", "line", "column", "what"]
abbrev n4 : List Str := ["__setattr__", "__getattribute__", "__getattr__", "__class__", "many"]
abbrev n5 : List Str := ["__setattr__", "__getattribute__", "__getattr__", "__class__", "index", "text"]
abbrev n6 : List Str := ["__setattr__", "__getattribute__", "__getattr__", "__class__", "name"]
abbrev n7 : List Str := ["__setattr__", "__getattribute__", "__getattr__", "__class__", "what"]
abbrev n8 : List Str := ["__setattr__", "__getattribute__", "__getattr__", "__class__", "key"]
abbrev n9 : List Str := ["__setattr__", "__getattribute__", "__getattr__", "__class__", "text"]
abbrev nZ : List Str := ["__setattr__", "__getattribute__", "__getattr__", "__class__", "__init__"]
abbrev ci_BadBy : Ho.CI := ⟨"BadBy", "BadBy.__init__", n0, i_BadBy⟩
abbrev ci_BadChain : Ho.CI := ⟨"BadChain", "BadChain.__init__", n1, i_BadChain⟩
abbrev ci_BadControl : Ho.CI := ⟨"BadControl", "BadControl.__init__", n0, i_BadControl⟩
abbrev ci_BadCore : Ho.CI := ⟨"BadCore", "BadCore.__init__", n0, i_BadCore⟩
abbrev ci_BadCores : Ho.CI := ⟨"BadCores", "BadCores.__init__", n0, i_BadCores⟩
abbrev ci_BadDeed : Ho.CI := ⟨"BadDeed", "BadDeed.__init__", n1, i_BadDeed⟩
abbrev ci_BadEnds : Ho.CI := ⟨"BadEnds", "BadEnds.__init__", n1, i_BadEnds⟩
abbrev ci_BadHigh : Ho.CI := ⟨"BadHigh", "BadHigh.__init__", n0, i_BadHigh⟩
abbrev ci_BadInput : Ho.CI := ⟨"BadInput", "BadInput.__init__", n0, i_BadInput⟩
abbrev ci_BadInto : Ho.CI := ⟨"BadInto", "BadInto.__init__", n0, i_BadInto⟩
abbrev ci_BadKey : Ho.CI := ⟨"BadKey", "BadKey.__init__", n0, i_BadKey⟩
abbrev ci_BadLength : Ho.CI := ⟨"BadLength", "BadLength.__init__", n0, i_BadLength⟩
abbrev ci_BadLine : Ho.CI := ⟨"BadLine", "BadLine.__init__", n2, i_BadLine⟩
abbrev ci_BadListed : Ho.CI := ⟨"BadListed", "BadListed.__init__", n0, i_BadListed⟩
abbrev ci_BadListing : Ho.CI := ⟨"BadListing", "BadListing.__init__", n2, i_BadListing⟩
abbrev ci_BadLoaded : Ho.CI := ⟨"BadLoaded", "BadLoaded.__init__", n0, i_BadLoaded⟩
abbrev ci_BadMany : Ho.CI := ⟨"BadMany", "BadMany.__init__", n0, i_BadMany⟩
abbrev ci_BadName : Ho.CI := ⟨"BadName", "BadName.__init__", n0, i_BadName⟩
abbrev ci_BadNames : Ho.CI := ⟨"BadNames", "BadNames.__init__", n1, i_BadNames⟩
abbrev ci_BadNumber : Ho.CI := ⟨"BadNumber", "BadNumber.__init__", n0, i_BadNumber⟩
abbrev ci_BadOctets : Ho.CI := ⟨"BadOctets", "BadOctets.__init__", n1, i_BadOctets⟩
abbrev ci_BadOther : Ho.CI := ⟨"BadOther", "BadOther.__init__", n0, i_BadOther⟩
abbrev ci_BadOut : Ho.CI := ⟨"BadOut", "BadOut.__init__", n0, i_BadOut⟩
abbrev ci_BadPaper : Ho.CI := ⟨"BadPaper", "BadPaper.__init__", n0, i_BadPaper⟩
abbrev ci_BadPattern : Ho.CI := ⟨"BadPattern", "BadPattern.__init__", n0, i_BadPattern⟩
abbrev ci_BadPiece : Ho.CI := ⟨"BadPiece", "BadPiece.__init__", n0, i_BadPiece⟩
abbrev ci_BadProgram : Ho.CI := ⟨"BadProgram", "BadProgram.__init__", n0, i_BadProgram⟩
abbrev ci_BadRow : Ho.CI := ⟨"BadRow", "BadRow.__init__", n0, i_BadRow⟩
abbrev ci_BadRunner : Ho.CI := ⟨"BadRunner", "BadRunner.__init__", n0, i_BadRunner⟩
abbrev ci_BadSaved : Ho.CI := ⟨"BadSaved", "BadSaved.__init__", n0, i_BadSaved⟩
abbrev ci_BadSecond : Ho.CI := ⟨"BadSecond", "BadSecond.__init__", n0, i_BadSecond⟩
abbrev ci_BadSet : Ho.CI := ⟨"BadSet", "BadSet.__init__", n0, i_BadSet⟩
abbrev ci_BadSigns : Ho.CI := ⟨"BadSigns", "BadSigns.__init__", n0, i_BadSigns⟩
abbrev ci_BadSize : Ho.CI := ⟨"BadSize", "BadSize.__init__", n0, i_BadSize⟩
abbrev ci_BadState : Ho.CI := ⟨"BadState", "BadState.__init__", n0, i_BadState⟩
abbrev ci_BadSteps : Ho.CI := ⟨"BadSteps", "BadSteps.__init__", n1, i_BadSteps⟩
abbrev ci_BadTable : Ho.CI := ⟨"BadTable", "BadTable.__init__", n0, i_BadTable⟩
abbrev ci_BadText : Ho.CI := ⟨"BadText", "BadText.__init__", n3, i_BadText⟩
abbrev ci_BadTriple : Ho.CI := ⟨"BadTriple", "BadTriple.__init__", n0, i_BadTriple⟩
abbrev ci_BadWord : Ho.CI := ⟨"BadWord", "BadWord.__init__", n0, i_BadWord⟩
abbrev ci_Full : Ho.CI := ⟨"Full", "Full.__init__", n4, i_Full⟩
abbrev ci_Gap : Ho.CI := ⟨"Gap", "Gap.__init__", n5, i_Gap⟩
abbrev ci_NoKind : Ho.CI := ⟨"NoKind", "NoKind.__init__", n6, i_NoKind⟩
abbrev ci_NoMove : Ho.CI := ⟨"NoMove", "NoMove.__init__", n7, i_NoMove⟩
abbrev ci_NotKind : Ho.CI := ⟨"NotKind", "NotKind.__init__", n1, i_NotKind⟩
abbrev ci_NotThere : Ho.CI := ⟨"NotThere", "NotThere.__init__", n6, i_NotThere⟩
abbrev ci_NotWatched : Ho.CI := ⟨"NotWatched", "NotWatched.__init__", n8, i_NotWatched⟩
abbrev ci_NotWithin : Ho.CI := ⟨"NotWithin", "NotWithin.__init__", n9, i_NotWithin⟩
abbrev ci_Refused : Ho.CI := ⟨"Refused", "Refused.__init__", n7, i_Refused⟩
abbrev ci_There : Ho.CI := ⟨"There", "There.__init__", n6, i_There⟩
abbrev ci_TooMany : Ho.CI := ⟨"TooMany", "TooMany.__init__", n4, i_TooMany⟩
abbrev ci_Unfit : Ho.CI := ⟨"Unfit", "Unfit.__init__", n7, i_Unfit⟩
abbrev ci_Used : Ho.CI := ⟨"Used", "Used.__init__", n6, i_Used⟩
abbrev ci_UsesNumber : Ho.CI := ⟨"UsesNumber", "UsesNumber.__init__", n0, i_UsesNumber⟩
abbrev ci_Watched : Ho.CI := ⟨"Watched", "Watched.__init__", n8, i_Watched⟩
def ciZ0 : List Ho.CI := [ci_BadBy, ci_BadChain, ci_BadControl, ci_BadCore, ci_BadCores, ci_BadDeed, ci_BadEnds, ci_BadHigh, ci_BadInput, ci_BadInto, ci_BadKey, ci_BadLength, ci_BadLine, ci_BadListed, ci_BadListing]
def ciZ1 : List Ho.CI := [ci_BadLoaded, ci_BadMany, ci_BadName, ci_BadNames, ci_BadNumber, ci_BadOctets, ci_BadOther, ci_BadOut, ci_BadPaper, ci_BadPattern, ci_BadPiece, ci_BadProgram, ci_BadRow, ci_BadRunner, ci_BadSaved]
def ciZ2 : List Ho.CI := [ci_BadSecond, ci_BadSet, ci_BadSigns, ci_BadSize, ci_BadState, ci_BadSteps, ci_BadTable, ci_BadText, ci_BadTriple, ci_BadWord, ci_Full, ci_Gap, ci_NoKind, ci_NoMove, ci_NotKind]
def ciZ3 : List Ho.CI := [ci_NotThere, ci_NotWatched, ci_NotWithin, ci_Refused, ci_There, ci_TooMany, ci_Unfit, ci_Used, ci_UsesNumber, ci_Watched]
def ciZ : List Ho.CI := ciZ0 ++ ciZ1 ++ ciZ2 ++ ciZ3
def zsZ : List (Str × List Str) := [("Done", nZ), ("NoAgain", nZ), ("NoBack", nZ), ("NoFuse", nZ), ("NotWhole", nZ), ("OtherSigns", nZ)]
def fsZ : List (Str × Stmt) := [("_law_start", s_law_start), ("_law_below", s_law_below), ("_law_mixed", s_law_mixed), ("_law_made_a", s_law_made_a), ("_law_made_b", s_law_made_b), ("_law_made_c", s_law_made_c), ("_law_made_d", s_law_made_d), ("_law_kinds_a", s_law_kinds_a), ("_law_kinds_b", s_law_kinds_b), ("_law_kinds_c", s_law_kinds_c), ("_law_kinds_d", s_law_kinds_d), ("_law_kinds", s_law_kinds), ("_law_is_own", s_law_is_own), ("_law_are_these", s_law_are_these), ("law", s_law)]
abbrev msZ : List Str := ["_law_made_a", "_law_made_b", "_law_made_c", "_law_made_d"]
def frZ : List Str := ["enumerate", "int", "isinstance", "len", "list", "range", "repr", "ValueError", "LookupError", "ArithmeticError", "TypeError"]
def alZ0 : List Str := [("FilterError" : Str), ("BadBy" : Str), ("BadChain" : Str), ("BadControl" : Str), ("BadCore" : Str), ("BadCores" : Str), ("BadDeed" : Str), ("BadEnds" : Str), ("BadHigh" : Str), ("BadInput" : Str), ("BadInto" : Str), ("BadKey" : Str), ("BadLength" : Str), ("BadLine" : Str), ("BadListed" : Str)]
def alZ1 : List Str := [("BadListing" : Str), ("BadLoaded" : Str), ("BadMany" : Str), ("BadName" : Str), ("BadNames" : Str), ("BadNumber" : Str), ("BadOctets" : Str), ("BadOther" : Str), ("BadOut" : Str), ("BadPaper" : Str), ("BadPattern" : Str), ("BadPiece" : Str), ("BadProgram" : Str), ("BadRow" : Str), ("BadRunner" : Str)]
def alZ2 : List Str := [("BadSaved" : Str), ("BadSecond" : Str), ("BadSet" : Str), ("BadSigns" : Str), ("BadSize" : Str), ("BadState" : Str), ("BadSteps" : Str), ("BadTable" : Str), ("BadText" : Str), ("BadTriple" : Str), ("BadWord" : Str), ("Done" : Str), ("Full" : Str), ("Gap" : Str), ("NoAgain" : Str)]
def alZ3 : List Str := [("NoBack" : Str), ("NoFuse" : Str), ("NoKind" : Str), ("NoMove" : Str), ("NotKind" : Str), ("NotThere" : Str), ("NotWatched" : Str), ("NotWhole" : Str), ("NotWithin" : Str), ("OtherSigns" : Str), ("Refused" : Str), ("There" : Str), ("TooMany" : Str), ("Unfit" : Str), ("Used" : Str)]
def alZ4 : List Str := [("UsesNumber" : Str), ("Watched" : Str)]
def alZ : List Str := alZ0 ++ alZ1 ++ alZ2 ++ alZ3 ++ alZ4
abbrev TZ : Ho.TP := ⟨fN, ciZ, zsZ, fsZ, msZ, frZ, alZ⟩
theorem av_column (K : PySem.W.Frag) : PySem.W.alongIn K "column" Ho.ve = some none := by kernel_rfl
theorem av_index (K : PySem.W.Frag) : PySem.W.alongIn K "index" Ho.ve = some none := by kernel_rfl
theorem av_key (K : PySem.W.Frag) : PySem.W.alongIn K "key" Ho.ve = some none := by kernel_rfl
theorem av_line (K : PySem.W.Frag) : PySem.W.alongIn K "line" Ho.ve = some none := by kernel_rfl
theorem av_many (K : PySem.W.Frag) : PySem.W.alongIn K "many" Ho.ve = some none := by kernel_rfl
theorem av_name (K : PySem.W.Frag) : PySem.W.alongIn K "name" Ho.ve = some none := by kernel_rfl
theorem av_text (K : PySem.W.Frag) : PySem.W.alongIn K "text" Ho.ve = some none := by kernel_rfl
theorem av_thing (K : PySem.W.Frag) : PySem.W.alongIn K "thing" Ho.ve = some none := by kernel_rfl
theorem av_what (K : PySem.W.Frag) : PySem.W.alongIn K "what" Ho.ve = some none := by kernel_rfl
abbrev caZ (K : PySem.W.Frag) : CA := ⟨Ho.gA K "FilterError", Ho.gA K "BadBy", Ho.gA K "BadChain", Ho.gA K "BadControl", Ho.gA K "BadCore", Ho.gA K "BadCores", Ho.gA K "BadDeed", Ho.gA K "BadEnds", Ho.gA K "BadHigh", Ho.gA K "BadInput", Ho.gA K "BadInto", Ho.gA K "BadKey", Ho.gA K "BadLength", Ho.gA K "BadLine", Ho.gA K "BadListed", Ho.gA K "BadListing", Ho.gA K "BadLoaded", Ho.gA K "BadMany", Ho.gA K "BadName", Ho.gA K "BadNames", Ho.gA K "BadNumber", Ho.gA K "BadOctets", Ho.gA K "BadOther", Ho.gA K "BadOut", Ho.gA K "BadPaper", Ho.gA K "BadPattern", Ho.gA K "BadPiece", Ho.gA K "BadProgram", Ho.gA K "BadRow", Ho.gA K "BadRunner", Ho.gA K "BadSaved", Ho.gA K "BadSecond", Ho.gA K "BadSet", Ho.gA K "BadSigns", Ho.gA K "BadSize", Ho.gA K "BadState", Ho.gA K "BadSteps", Ho.gA K "BadTable", Ho.gA K "BadText", Ho.gA K "BadTriple", Ho.gA K "BadWord", Ho.gA K "Done", Ho.gA K "Full", Ho.gA K "Gap", Ho.gA K "NoAgain", Ho.gA K "NoBack", Ho.gA K "NoFuse", Ho.gA K "NoKind", Ho.gA K "NoMove", Ho.gA K "NotKind", Ho.gA K "NotThere", Ho.gA K "NotWatched", Ho.gA K "NotWhole", Ho.gA K "NotWithin", Ho.gA K "OtherSigns", Ho.gA K "Refused", Ho.gA K "There", Ho.gA K "TooMany", Ho.gA K "Unfit", Ho.gA K "Used", Ho.gA K "UsesNumber", Ho.gA K "Watched"⟩
abbrev coZ (K : PySem.W.Frag) : CO := ⟨Ho.cdA K (Ho.gM K "_law_made_a"), Ho.cdA K (Ho.gM K "_law_made_b"), Ho.cdA K (Ho.gM K "_law_made_c"), Ho.cdA K (Ho.gM K "_law_made_d"), Ho.tbA K (Ho.cdA K (Ho.gM K "_law_made_a")), Ho.tbA K (Ho.cdA K (Ho.gM K "_law_made_b")), Ho.tbA K (Ho.cdA K (Ho.gM K "_law_made_c")), Ho.tbA K (Ho.cdA K (Ho.gM K "_law_made_d"))⟩
section
variable {K : PySem.W.Frag} {h : Heap} {mg : Str → Option Value}
theorem four_z : ∀ f ∈ Ho.four, f ∈ nZ := by simp
theorem four_f : ∀ f ∈ Ho.four, f ∈ fN := by simp
theorem four_n0 : ∀ f ∈ Ho.four, f ∈ n0 := by simp
theorem fld_n0 (K : PySem.W.Frag) : ∀ f ∈ (["thing"] : List Str), f ∈ n0 ∧ f ∈ fN ∧ PySem.W.alongIn K f Ho.ve = some none := by
  intro f hf
  simp only [List.mem_cons, List.not_mem_nil, or_false] at hf
  rcases hf with rfl
  · exact ⟨by simp, by simp, av_thing K⟩
theorem four_n1 : ∀ f ∈ Ho.four, f ∈ n1 := by simp
theorem fld_n1 (K : PySem.W.Frag) : ∀ f ∈ (["index"] : List Str), f ∈ n1 ∧ f ∈ fN ∧ PySem.W.alongIn K f Ho.ve = some none := by
  intro f hf
  simp only [List.mem_cons, List.not_mem_nil, or_false] at hf
  rcases hf with rfl
  · exact ⟨by simp, by simp, av_index K⟩
theorem four_n2 : ∀ f ∈ Ho.four, f ∈ n2 := by simp
theorem fld_n2 (K : PySem.W.Frag) : ∀ f ∈ (["line"] : List Str), f ∈ n2 ∧ f ∈ fN ∧ PySem.W.alongIn K f Ho.ve = some none := by
  intro f hf
  simp only [List.mem_cons, List.not_mem_nil, or_false] at hf
  rcases hf with rfl
  · exact ⟨by simp, by simp, av_line K⟩
theorem four_n3 : ∀ f ∈ Ho.four, f ∈ n3 := by simp
theorem fld_n3 (K : PySem.W.Frag) : ∀ f ∈ (["line", "column", "what"] : List Str), f ∈ n3 ∧ f ∈ fN ∧ PySem.W.alongIn K f Ho.ve = some none := by
  intro f hf
  simp only [List.mem_cons, List.not_mem_nil, or_false] at hf
  rcases hf with rfl | rfl | rfl
  · exact ⟨by simp, by simp, av_line K⟩
  · exact ⟨by simp, by simp, av_column K⟩
  · exact ⟨by simp, by simp, av_what K⟩
theorem four_n4 : ∀ f ∈ Ho.four, f ∈ n4 := by simp
theorem fld_n4 (K : PySem.W.Frag) : ∀ f ∈ (["many"] : List Str), f ∈ n4 ∧ f ∈ fN ∧ PySem.W.alongIn K f Ho.ve = some none := by
  intro f hf
  simp only [List.mem_cons, List.not_mem_nil, or_false] at hf
  rcases hf with rfl
  · exact ⟨by simp, by simp, av_many K⟩
theorem four_n5 : ∀ f ∈ Ho.four, f ∈ n5 := by simp
theorem fld_n5 (K : PySem.W.Frag) : ∀ f ∈ (["index", "text"] : List Str), f ∈ n5 ∧ f ∈ fN ∧ PySem.W.alongIn K f Ho.ve = some none := by
  intro f hf
  simp only [List.mem_cons, List.not_mem_nil, or_false] at hf
  rcases hf with rfl | rfl
  · exact ⟨by simp, by simp, av_index K⟩
  · exact ⟨by simp, by simp, av_text K⟩
theorem four_n6 : ∀ f ∈ Ho.four, f ∈ n6 := by simp
theorem fld_n6 (K : PySem.W.Frag) : ∀ f ∈ (["name"] : List Str), f ∈ n6 ∧ f ∈ fN ∧ PySem.W.alongIn K f Ho.ve = some none := by
  intro f hf
  simp only [List.mem_cons, List.not_mem_nil, or_false] at hf
  rcases hf with rfl
  · exact ⟨by simp, by simp, av_name K⟩
theorem four_n7 : ∀ f ∈ Ho.four, f ∈ n7 := by simp
theorem fld_n7 (K : PySem.W.Frag) : ∀ f ∈ (["what"] : List Str), f ∈ n7 ∧ f ∈ fN ∧ PySem.W.alongIn K f Ho.ve = some none := by
  intro f hf
  simp only [List.mem_cons, List.not_mem_nil, or_false] at hf
  rcases hf with rfl
  · exact ⟨by simp, by simp, av_what K⟩
theorem four_n8 : ∀ f ∈ Ho.four, f ∈ n8 := by simp
theorem fld_n8 (K : PySem.W.Frag) : ∀ f ∈ (["key"] : List Str), f ∈ n8 ∧ f ∈ fN ∧ PySem.W.alongIn K f Ho.ve = some none := by
  intro f hf
  simp only [List.mem_cons, List.not_mem_nil, or_false] at hf
  rcases hf with rfl
  · exact ⟨by simp, by simp, av_key K⟩
theorem four_n9 : ∀ f ∈ Ho.four, f ∈ n9 := by simp
theorem fld_n9 (K : PySem.W.Frag) : ∀ f ∈ (["text"] : List Str), f ∈ n9 ∧ f ∈ fN ∧ PySem.W.alongIn K f Ho.ve = some none := by
  intro f hf
  simp only [List.mem_cons, List.not_mem_nil, or_false] at hf
  rcases hf with rfl
  · exact ⟨by simp, by simp, av_text K⟩
theorem q_BadBy (Z : TZ.Says K) : Ho.clB K (.ref (Ho.adV (Ho.gM K "FilterError")) :: Ho.ve) (Ho.gM K "BadBy") = true ∧ Ho.noB K (Ho.nsA K (Ho.gM K "BadBy")) n0 = true ∧ Ho.fnB K (Ho.inM K (Ho.gM K "BadBy")) "BadBy.__init__" = true ∧ Ho.fnO K (Ho.inM K (Ho.gM K "BadBy")) = Ho.fnV "__init__" "BadBy.__init__" i_BadBy :=
  Z.cs ci_BadBy (List.mem_append_left _ (List.mem_append_left _ (List.mem_append_left _ (List.mem_of_getElem? (i := 0) (show ciZ0[0]? = some ci_BadBy from rfl)))))
theorem q_BadChain (Z : TZ.Says K) : Ho.clB K (.ref (Ho.adV (Ho.gM K "FilterError")) :: Ho.ve) (Ho.gM K "BadChain") = true ∧ Ho.noB K (Ho.nsA K (Ho.gM K "BadChain")) n1 = true ∧ Ho.fnB K (Ho.inM K (Ho.gM K "BadChain")) "BadChain.__init__" = true ∧ Ho.fnO K (Ho.inM K (Ho.gM K "BadChain")) = Ho.fnV "__init__" "BadChain.__init__" i_BadChain :=
  Z.cs ci_BadChain (List.mem_append_left _ (List.mem_append_left _ (List.mem_append_left _ (List.mem_of_getElem? (i := 1) (show ciZ0[1]? = some ci_BadChain from rfl)))))
theorem q_BadControl (Z : TZ.Says K) : Ho.clB K (.ref (Ho.adV (Ho.gM K "FilterError")) :: Ho.ve) (Ho.gM K "BadControl") = true ∧ Ho.noB K (Ho.nsA K (Ho.gM K "BadControl")) n0 = true ∧ Ho.fnB K (Ho.inM K (Ho.gM K "BadControl")) "BadControl.__init__" = true ∧ Ho.fnO K (Ho.inM K (Ho.gM K "BadControl")) = Ho.fnV "__init__" "BadControl.__init__" i_BadControl :=
  Z.cs ci_BadControl (List.mem_append_left _ (List.mem_append_left _ (List.mem_append_left _ (List.mem_of_getElem? (i := 2) (show ciZ0[2]? = some ci_BadControl from rfl)))))
theorem q_BadCore (Z : TZ.Says K) : Ho.clB K (.ref (Ho.adV (Ho.gM K "FilterError")) :: Ho.ve) (Ho.gM K "BadCore") = true ∧ Ho.noB K (Ho.nsA K (Ho.gM K "BadCore")) n0 = true ∧ Ho.fnB K (Ho.inM K (Ho.gM K "BadCore")) "BadCore.__init__" = true ∧ Ho.fnO K (Ho.inM K (Ho.gM K "BadCore")) = Ho.fnV "__init__" "BadCore.__init__" i_BadCore :=
  Z.cs ci_BadCore (List.mem_append_left _ (List.mem_append_left _ (List.mem_append_left _ (List.mem_of_getElem? (i := 3) (show ciZ0[3]? = some ci_BadCore from rfl)))))
theorem q_BadCores (Z : TZ.Says K) : Ho.clB K (.ref (Ho.adV (Ho.gM K "FilterError")) :: Ho.ve) (Ho.gM K "BadCores") = true ∧ Ho.noB K (Ho.nsA K (Ho.gM K "BadCores")) n0 = true ∧ Ho.fnB K (Ho.inM K (Ho.gM K "BadCores")) "BadCores.__init__" = true ∧ Ho.fnO K (Ho.inM K (Ho.gM K "BadCores")) = Ho.fnV "__init__" "BadCores.__init__" i_BadCores :=
  Z.cs ci_BadCores (List.mem_append_left _ (List.mem_append_left _ (List.mem_append_left _ (List.mem_of_getElem? (i := 4) (show ciZ0[4]? = some ci_BadCores from rfl)))))
theorem q_BadDeed (Z : TZ.Says K) : Ho.clB K (.ref (Ho.adV (Ho.gM K "FilterError")) :: Ho.ve) (Ho.gM K "BadDeed") = true ∧ Ho.noB K (Ho.nsA K (Ho.gM K "BadDeed")) n1 = true ∧ Ho.fnB K (Ho.inM K (Ho.gM K "BadDeed")) "BadDeed.__init__" = true ∧ Ho.fnO K (Ho.inM K (Ho.gM K "BadDeed")) = Ho.fnV "__init__" "BadDeed.__init__" i_BadDeed :=
  Z.cs ci_BadDeed (List.mem_append_left _ (List.mem_append_left _ (List.mem_append_left _ (List.mem_of_getElem? (i := 5) (show ciZ0[5]? = some ci_BadDeed from rfl)))))
theorem q_BadEnds (Z : TZ.Says K) : Ho.clB K (.ref (Ho.adV (Ho.gM K "FilterError")) :: Ho.ve) (Ho.gM K "BadEnds") = true ∧ Ho.noB K (Ho.nsA K (Ho.gM K "BadEnds")) n1 = true ∧ Ho.fnB K (Ho.inM K (Ho.gM K "BadEnds")) "BadEnds.__init__" = true ∧ Ho.fnO K (Ho.inM K (Ho.gM K "BadEnds")) = Ho.fnV "__init__" "BadEnds.__init__" i_BadEnds :=
  Z.cs ci_BadEnds (List.mem_append_left _ (List.mem_append_left _ (List.mem_append_left _ (List.mem_of_getElem? (i := 6) (show ciZ0[6]? = some ci_BadEnds from rfl)))))
theorem q_BadHigh (Z : TZ.Says K) : Ho.clB K (.ref (Ho.adV (Ho.gM K "FilterError")) :: Ho.ve) (Ho.gM K "BadHigh") = true ∧ Ho.noB K (Ho.nsA K (Ho.gM K "BadHigh")) n0 = true ∧ Ho.fnB K (Ho.inM K (Ho.gM K "BadHigh")) "BadHigh.__init__" = true ∧ Ho.fnO K (Ho.inM K (Ho.gM K "BadHigh")) = Ho.fnV "__init__" "BadHigh.__init__" i_BadHigh :=
  Z.cs ci_BadHigh (List.mem_append_left _ (List.mem_append_left _ (List.mem_append_left _ (List.mem_of_getElem? (i := 7) (show ciZ0[7]? = some ci_BadHigh from rfl)))))
theorem q_BadInput (Z : TZ.Says K) : Ho.clB K (.ref (Ho.adV (Ho.gM K "FilterError")) :: Ho.ve) (Ho.gM K "BadInput") = true ∧ Ho.noB K (Ho.nsA K (Ho.gM K "BadInput")) n0 = true ∧ Ho.fnB K (Ho.inM K (Ho.gM K "BadInput")) "BadInput.__init__" = true ∧ Ho.fnO K (Ho.inM K (Ho.gM K "BadInput")) = Ho.fnV "__init__" "BadInput.__init__" i_BadInput :=
  Z.cs ci_BadInput (List.mem_append_left _ (List.mem_append_left _ (List.mem_append_left _ (List.mem_of_getElem? (i := 8) (show ciZ0[8]? = some ci_BadInput from rfl)))))
theorem q_BadInto (Z : TZ.Says K) : Ho.clB K (.ref (Ho.adV (Ho.gM K "FilterError")) :: Ho.ve) (Ho.gM K "BadInto") = true ∧ Ho.noB K (Ho.nsA K (Ho.gM K "BadInto")) n0 = true ∧ Ho.fnB K (Ho.inM K (Ho.gM K "BadInto")) "BadInto.__init__" = true ∧ Ho.fnO K (Ho.inM K (Ho.gM K "BadInto")) = Ho.fnV "__init__" "BadInto.__init__" i_BadInto :=
  Z.cs ci_BadInto (List.mem_append_left _ (List.mem_append_left _ (List.mem_append_left _ (List.mem_of_getElem? (i := 9) (show ciZ0[9]? = some ci_BadInto from rfl)))))
theorem q_BadKey (Z : TZ.Says K) : Ho.clB K (.ref (Ho.adV (Ho.gM K "FilterError")) :: Ho.ve) (Ho.gM K "BadKey") = true ∧ Ho.noB K (Ho.nsA K (Ho.gM K "BadKey")) n0 = true ∧ Ho.fnB K (Ho.inM K (Ho.gM K "BadKey")) "BadKey.__init__" = true ∧ Ho.fnO K (Ho.inM K (Ho.gM K "BadKey")) = Ho.fnV "__init__" "BadKey.__init__" i_BadKey :=
  Z.cs ci_BadKey (List.mem_append_left _ (List.mem_append_left _ (List.mem_append_left _ (List.mem_of_getElem? (i := 10) (show ciZ0[10]? = some ci_BadKey from rfl)))))
theorem q_BadLength (Z : TZ.Says K) : Ho.clB K (.ref (Ho.adV (Ho.gM K "FilterError")) :: Ho.ve) (Ho.gM K "BadLength") = true ∧ Ho.noB K (Ho.nsA K (Ho.gM K "BadLength")) n0 = true ∧ Ho.fnB K (Ho.inM K (Ho.gM K "BadLength")) "BadLength.__init__" = true ∧ Ho.fnO K (Ho.inM K (Ho.gM K "BadLength")) = Ho.fnV "__init__" "BadLength.__init__" i_BadLength :=
  Z.cs ci_BadLength (List.mem_append_left _ (List.mem_append_left _ (List.mem_append_left _ (List.mem_of_getElem? (i := 11) (show ciZ0[11]? = some ci_BadLength from rfl)))))
theorem q_BadLine (Z : TZ.Says K) : Ho.clB K (.ref (Ho.adV (Ho.gM K "FilterError")) :: Ho.ve) (Ho.gM K "BadLine") = true ∧ Ho.noB K (Ho.nsA K (Ho.gM K "BadLine")) n2 = true ∧ Ho.fnB K (Ho.inM K (Ho.gM K "BadLine")) "BadLine.__init__" = true ∧ Ho.fnO K (Ho.inM K (Ho.gM K "BadLine")) = Ho.fnV "__init__" "BadLine.__init__" i_BadLine :=
  Z.cs ci_BadLine (List.mem_append_left _ (List.mem_append_left _ (List.mem_append_left _ (List.mem_of_getElem? (i := 12) (show ciZ0[12]? = some ci_BadLine from rfl)))))
theorem q_BadListed (Z : TZ.Says K) : Ho.clB K (.ref (Ho.adV (Ho.gM K "FilterError")) :: Ho.ve) (Ho.gM K "BadListed") = true ∧ Ho.noB K (Ho.nsA K (Ho.gM K "BadListed")) n0 = true ∧ Ho.fnB K (Ho.inM K (Ho.gM K "BadListed")) "BadListed.__init__" = true ∧ Ho.fnO K (Ho.inM K (Ho.gM K "BadListed")) = Ho.fnV "__init__" "BadListed.__init__" i_BadListed :=
  Z.cs ci_BadListed (List.mem_append_left _ (List.mem_append_left _ (List.mem_append_left _ (List.mem_of_getElem? (i := 13) (show ciZ0[13]? = some ci_BadListed from rfl)))))
theorem q_BadListing (Z : TZ.Says K) : Ho.clB K (.ref (Ho.adV (Ho.gM K "FilterError")) :: Ho.ve) (Ho.gM K "BadListing") = true ∧ Ho.noB K (Ho.nsA K (Ho.gM K "BadListing")) n2 = true ∧ Ho.fnB K (Ho.inM K (Ho.gM K "BadListing")) "BadListing.__init__" = true ∧ Ho.fnO K (Ho.inM K (Ho.gM K "BadListing")) = Ho.fnV "__init__" "BadListing.__init__" i_BadListing :=
  Z.cs ci_BadListing (List.mem_append_left _ (List.mem_append_left _ (List.mem_append_left _ (List.mem_of_getElem? (i := 14) (show ciZ0[14]? = some ci_BadListing from rfl)))))
theorem q_BadLoaded (Z : TZ.Says K) : Ho.clB K (.ref (Ho.adV (Ho.gM K "FilterError")) :: Ho.ve) (Ho.gM K "BadLoaded") = true ∧ Ho.noB K (Ho.nsA K (Ho.gM K "BadLoaded")) n0 = true ∧ Ho.fnB K (Ho.inM K (Ho.gM K "BadLoaded")) "BadLoaded.__init__" = true ∧ Ho.fnO K (Ho.inM K (Ho.gM K "BadLoaded")) = Ho.fnV "__init__" "BadLoaded.__init__" i_BadLoaded :=
  Z.cs ci_BadLoaded (List.mem_append_left _ (List.mem_append_left _ (List.mem_append_right _ (List.mem_of_getElem? (i := 0) (show ciZ1[0]? = some ci_BadLoaded from rfl)))))
theorem q_BadMany (Z : TZ.Says K) : Ho.clB K (.ref (Ho.adV (Ho.gM K "FilterError")) :: Ho.ve) (Ho.gM K "BadMany") = true ∧ Ho.noB K (Ho.nsA K (Ho.gM K "BadMany")) n0 = true ∧ Ho.fnB K (Ho.inM K (Ho.gM K "BadMany")) "BadMany.__init__" = true ∧ Ho.fnO K (Ho.inM K (Ho.gM K "BadMany")) = Ho.fnV "__init__" "BadMany.__init__" i_BadMany :=
  Z.cs ci_BadMany (List.mem_append_left _ (List.mem_append_left _ (List.mem_append_right _ (List.mem_of_getElem? (i := 1) (show ciZ1[1]? = some ci_BadMany from rfl)))))
theorem q_BadName (Z : TZ.Says K) : Ho.clB K (.ref (Ho.adV (Ho.gM K "FilterError")) :: Ho.ve) (Ho.gM K "BadName") = true ∧ Ho.noB K (Ho.nsA K (Ho.gM K "BadName")) n0 = true ∧ Ho.fnB K (Ho.inM K (Ho.gM K "BadName")) "BadName.__init__" = true ∧ Ho.fnO K (Ho.inM K (Ho.gM K "BadName")) = Ho.fnV "__init__" "BadName.__init__" i_BadName :=
  Z.cs ci_BadName (List.mem_append_left _ (List.mem_append_left _ (List.mem_append_right _ (List.mem_of_getElem? (i := 2) (show ciZ1[2]? = some ci_BadName from rfl)))))
theorem q_BadNames (Z : TZ.Says K) : Ho.clB K (.ref (Ho.adV (Ho.gM K "FilterError")) :: Ho.ve) (Ho.gM K "BadNames") = true ∧ Ho.noB K (Ho.nsA K (Ho.gM K "BadNames")) n1 = true ∧ Ho.fnB K (Ho.inM K (Ho.gM K "BadNames")) "BadNames.__init__" = true ∧ Ho.fnO K (Ho.inM K (Ho.gM K "BadNames")) = Ho.fnV "__init__" "BadNames.__init__" i_BadNames :=
  Z.cs ci_BadNames (List.mem_append_left _ (List.mem_append_left _ (List.mem_append_right _ (List.mem_of_getElem? (i := 3) (show ciZ1[3]? = some ci_BadNames from rfl)))))
theorem q_BadNumber (Z : TZ.Says K) : Ho.clB K (.ref (Ho.adV (Ho.gM K "FilterError")) :: Ho.ve) (Ho.gM K "BadNumber") = true ∧ Ho.noB K (Ho.nsA K (Ho.gM K "BadNumber")) n0 = true ∧ Ho.fnB K (Ho.inM K (Ho.gM K "BadNumber")) "BadNumber.__init__" = true ∧ Ho.fnO K (Ho.inM K (Ho.gM K "BadNumber")) = Ho.fnV "__init__" "BadNumber.__init__" i_BadNumber :=
  Z.cs ci_BadNumber (List.mem_append_left _ (List.mem_append_left _ (List.mem_append_right _ (List.mem_of_getElem? (i := 4) (show ciZ1[4]? = some ci_BadNumber from rfl)))))
theorem q_BadOctets (Z : TZ.Says K) : Ho.clB K (.ref (Ho.adV (Ho.gM K "FilterError")) :: Ho.ve) (Ho.gM K "BadOctets") = true ∧ Ho.noB K (Ho.nsA K (Ho.gM K "BadOctets")) n1 = true ∧ Ho.fnB K (Ho.inM K (Ho.gM K "BadOctets")) "BadOctets.__init__" = true ∧ Ho.fnO K (Ho.inM K (Ho.gM K "BadOctets")) = Ho.fnV "__init__" "BadOctets.__init__" i_BadOctets :=
  Z.cs ci_BadOctets (List.mem_append_left _ (List.mem_append_left _ (List.mem_append_right _ (List.mem_of_getElem? (i := 5) (show ciZ1[5]? = some ci_BadOctets from rfl)))))
theorem q_BadOther (Z : TZ.Says K) : Ho.clB K (.ref (Ho.adV (Ho.gM K "FilterError")) :: Ho.ve) (Ho.gM K "BadOther") = true ∧ Ho.noB K (Ho.nsA K (Ho.gM K "BadOther")) n0 = true ∧ Ho.fnB K (Ho.inM K (Ho.gM K "BadOther")) "BadOther.__init__" = true ∧ Ho.fnO K (Ho.inM K (Ho.gM K "BadOther")) = Ho.fnV "__init__" "BadOther.__init__" i_BadOther :=
  Z.cs ci_BadOther (List.mem_append_left _ (List.mem_append_left _ (List.mem_append_right _ (List.mem_of_getElem? (i := 6) (show ciZ1[6]? = some ci_BadOther from rfl)))))
theorem q_BadOut (Z : TZ.Says K) : Ho.clB K (.ref (Ho.adV (Ho.gM K "FilterError")) :: Ho.ve) (Ho.gM K "BadOut") = true ∧ Ho.noB K (Ho.nsA K (Ho.gM K "BadOut")) n0 = true ∧ Ho.fnB K (Ho.inM K (Ho.gM K "BadOut")) "BadOut.__init__" = true ∧ Ho.fnO K (Ho.inM K (Ho.gM K "BadOut")) = Ho.fnV "__init__" "BadOut.__init__" i_BadOut :=
  Z.cs ci_BadOut (List.mem_append_left _ (List.mem_append_left _ (List.mem_append_right _ (List.mem_of_getElem? (i := 7) (show ciZ1[7]? = some ci_BadOut from rfl)))))
theorem q_BadPaper (Z : TZ.Says K) : Ho.clB K (.ref (Ho.adV (Ho.gM K "FilterError")) :: Ho.ve) (Ho.gM K "BadPaper") = true ∧ Ho.noB K (Ho.nsA K (Ho.gM K "BadPaper")) n0 = true ∧ Ho.fnB K (Ho.inM K (Ho.gM K "BadPaper")) "BadPaper.__init__" = true ∧ Ho.fnO K (Ho.inM K (Ho.gM K "BadPaper")) = Ho.fnV "__init__" "BadPaper.__init__" i_BadPaper :=
  Z.cs ci_BadPaper (List.mem_append_left _ (List.mem_append_left _ (List.mem_append_right _ (List.mem_of_getElem? (i := 8) (show ciZ1[8]? = some ci_BadPaper from rfl)))))
theorem q_BadPattern (Z : TZ.Says K) : Ho.clB K (.ref (Ho.adV (Ho.gM K "FilterError")) :: Ho.ve) (Ho.gM K "BadPattern") = true ∧ Ho.noB K (Ho.nsA K (Ho.gM K "BadPattern")) n0 = true ∧ Ho.fnB K (Ho.inM K (Ho.gM K "BadPattern")) "BadPattern.__init__" = true ∧ Ho.fnO K (Ho.inM K (Ho.gM K "BadPattern")) = Ho.fnV "__init__" "BadPattern.__init__" i_BadPattern :=
  Z.cs ci_BadPattern (List.mem_append_left _ (List.mem_append_left _ (List.mem_append_right _ (List.mem_of_getElem? (i := 9) (show ciZ1[9]? = some ci_BadPattern from rfl)))))
theorem q_BadPiece (Z : TZ.Says K) : Ho.clB K (.ref (Ho.adV (Ho.gM K "FilterError")) :: Ho.ve) (Ho.gM K "BadPiece") = true ∧ Ho.noB K (Ho.nsA K (Ho.gM K "BadPiece")) n0 = true ∧ Ho.fnB K (Ho.inM K (Ho.gM K "BadPiece")) "BadPiece.__init__" = true ∧ Ho.fnO K (Ho.inM K (Ho.gM K "BadPiece")) = Ho.fnV "__init__" "BadPiece.__init__" i_BadPiece :=
  Z.cs ci_BadPiece (List.mem_append_left _ (List.mem_append_left _ (List.mem_append_right _ (List.mem_of_getElem? (i := 10) (show ciZ1[10]? = some ci_BadPiece from rfl)))))
theorem q_BadProgram (Z : TZ.Says K) : Ho.clB K (.ref (Ho.adV (Ho.gM K "FilterError")) :: Ho.ve) (Ho.gM K "BadProgram") = true ∧ Ho.noB K (Ho.nsA K (Ho.gM K "BadProgram")) n0 = true ∧ Ho.fnB K (Ho.inM K (Ho.gM K "BadProgram")) "BadProgram.__init__" = true ∧ Ho.fnO K (Ho.inM K (Ho.gM K "BadProgram")) = Ho.fnV "__init__" "BadProgram.__init__" i_BadProgram :=
  Z.cs ci_BadProgram (List.mem_append_left _ (List.mem_append_left _ (List.mem_append_right _ (List.mem_of_getElem? (i := 11) (show ciZ1[11]? = some ci_BadProgram from rfl)))))
theorem q_BadRow (Z : TZ.Says K) : Ho.clB K (.ref (Ho.adV (Ho.gM K "FilterError")) :: Ho.ve) (Ho.gM K "BadRow") = true ∧ Ho.noB K (Ho.nsA K (Ho.gM K "BadRow")) n0 = true ∧ Ho.fnB K (Ho.inM K (Ho.gM K "BadRow")) "BadRow.__init__" = true ∧ Ho.fnO K (Ho.inM K (Ho.gM K "BadRow")) = Ho.fnV "__init__" "BadRow.__init__" i_BadRow :=
  Z.cs ci_BadRow (List.mem_append_left _ (List.mem_append_left _ (List.mem_append_right _ (List.mem_of_getElem? (i := 12) (show ciZ1[12]? = some ci_BadRow from rfl)))))
theorem q_BadRunner (Z : TZ.Says K) : Ho.clB K (.ref (Ho.adV (Ho.gM K "FilterError")) :: Ho.ve) (Ho.gM K "BadRunner") = true ∧ Ho.noB K (Ho.nsA K (Ho.gM K "BadRunner")) n0 = true ∧ Ho.fnB K (Ho.inM K (Ho.gM K "BadRunner")) "BadRunner.__init__" = true ∧ Ho.fnO K (Ho.inM K (Ho.gM K "BadRunner")) = Ho.fnV "__init__" "BadRunner.__init__" i_BadRunner :=
  Z.cs ci_BadRunner (List.mem_append_left _ (List.mem_append_left _ (List.mem_append_right _ (List.mem_of_getElem? (i := 13) (show ciZ1[13]? = some ci_BadRunner from rfl)))))
theorem q_BadSaved (Z : TZ.Says K) : Ho.clB K (.ref (Ho.adV (Ho.gM K "FilterError")) :: Ho.ve) (Ho.gM K "BadSaved") = true ∧ Ho.noB K (Ho.nsA K (Ho.gM K "BadSaved")) n0 = true ∧ Ho.fnB K (Ho.inM K (Ho.gM K "BadSaved")) "BadSaved.__init__" = true ∧ Ho.fnO K (Ho.inM K (Ho.gM K "BadSaved")) = Ho.fnV "__init__" "BadSaved.__init__" i_BadSaved :=
  Z.cs ci_BadSaved (List.mem_append_left _ (List.mem_append_left _ (List.mem_append_right _ (List.mem_of_getElem? (i := 14) (show ciZ1[14]? = some ci_BadSaved from rfl)))))
theorem q_BadSecond (Z : TZ.Says K) : Ho.clB K (.ref (Ho.adV (Ho.gM K "FilterError")) :: Ho.ve) (Ho.gM K "BadSecond") = true ∧ Ho.noB K (Ho.nsA K (Ho.gM K "BadSecond")) n0 = true ∧ Ho.fnB K (Ho.inM K (Ho.gM K "BadSecond")) "BadSecond.__init__" = true ∧ Ho.fnO K (Ho.inM K (Ho.gM K "BadSecond")) = Ho.fnV "__init__" "BadSecond.__init__" i_BadSecond :=
  Z.cs ci_BadSecond (List.mem_append_left _ (List.mem_append_right _ (List.mem_of_getElem? (i := 0) (show ciZ2[0]? = some ci_BadSecond from rfl))))
theorem q_BadSet (Z : TZ.Says K) : Ho.clB K (.ref (Ho.adV (Ho.gM K "FilterError")) :: Ho.ve) (Ho.gM K "BadSet") = true ∧ Ho.noB K (Ho.nsA K (Ho.gM K "BadSet")) n0 = true ∧ Ho.fnB K (Ho.inM K (Ho.gM K "BadSet")) "BadSet.__init__" = true ∧ Ho.fnO K (Ho.inM K (Ho.gM K "BadSet")) = Ho.fnV "__init__" "BadSet.__init__" i_BadSet :=
  Z.cs ci_BadSet (List.mem_append_left _ (List.mem_append_right _ (List.mem_of_getElem? (i := 1) (show ciZ2[1]? = some ci_BadSet from rfl))))
theorem q_BadSigns (Z : TZ.Says K) : Ho.clB K (.ref (Ho.adV (Ho.gM K "FilterError")) :: Ho.ve) (Ho.gM K "BadSigns") = true ∧ Ho.noB K (Ho.nsA K (Ho.gM K "BadSigns")) n0 = true ∧ Ho.fnB K (Ho.inM K (Ho.gM K "BadSigns")) "BadSigns.__init__" = true ∧ Ho.fnO K (Ho.inM K (Ho.gM K "BadSigns")) = Ho.fnV "__init__" "BadSigns.__init__" i_BadSigns :=
  Z.cs ci_BadSigns (List.mem_append_left _ (List.mem_append_right _ (List.mem_of_getElem? (i := 2) (show ciZ2[2]? = some ci_BadSigns from rfl))))
theorem q_BadSize (Z : TZ.Says K) : Ho.clB K (.ref (Ho.adV (Ho.gM K "FilterError")) :: Ho.ve) (Ho.gM K "BadSize") = true ∧ Ho.noB K (Ho.nsA K (Ho.gM K "BadSize")) n0 = true ∧ Ho.fnB K (Ho.inM K (Ho.gM K "BadSize")) "BadSize.__init__" = true ∧ Ho.fnO K (Ho.inM K (Ho.gM K "BadSize")) = Ho.fnV "__init__" "BadSize.__init__" i_BadSize :=
  Z.cs ci_BadSize (List.mem_append_left _ (List.mem_append_right _ (List.mem_of_getElem? (i := 3) (show ciZ2[3]? = some ci_BadSize from rfl))))
theorem q_BadState (Z : TZ.Says K) : Ho.clB K (.ref (Ho.adV (Ho.gM K "FilterError")) :: Ho.ve) (Ho.gM K "BadState") = true ∧ Ho.noB K (Ho.nsA K (Ho.gM K "BadState")) n0 = true ∧ Ho.fnB K (Ho.inM K (Ho.gM K "BadState")) "BadState.__init__" = true ∧ Ho.fnO K (Ho.inM K (Ho.gM K "BadState")) = Ho.fnV "__init__" "BadState.__init__" i_BadState :=
  Z.cs ci_BadState (List.mem_append_left _ (List.mem_append_right _ (List.mem_of_getElem? (i := 4) (show ciZ2[4]? = some ci_BadState from rfl))))
theorem q_BadSteps (Z : TZ.Says K) : Ho.clB K (.ref (Ho.adV (Ho.gM K "FilterError")) :: Ho.ve) (Ho.gM K "BadSteps") = true ∧ Ho.noB K (Ho.nsA K (Ho.gM K "BadSteps")) n1 = true ∧ Ho.fnB K (Ho.inM K (Ho.gM K "BadSteps")) "BadSteps.__init__" = true ∧ Ho.fnO K (Ho.inM K (Ho.gM K "BadSteps")) = Ho.fnV "__init__" "BadSteps.__init__" i_BadSteps :=
  Z.cs ci_BadSteps (List.mem_append_left _ (List.mem_append_right _ (List.mem_of_getElem? (i := 5) (show ciZ2[5]? = some ci_BadSteps from rfl))))
theorem q_BadTable (Z : TZ.Says K) : Ho.clB K (.ref (Ho.adV (Ho.gM K "FilterError")) :: Ho.ve) (Ho.gM K "BadTable") = true ∧ Ho.noB K (Ho.nsA K (Ho.gM K "BadTable")) n0 = true ∧ Ho.fnB K (Ho.inM K (Ho.gM K "BadTable")) "BadTable.__init__" = true ∧ Ho.fnO K (Ho.inM K (Ho.gM K "BadTable")) = Ho.fnV "__init__" "BadTable.__init__" i_BadTable :=
  Z.cs ci_BadTable (List.mem_append_left _ (List.mem_append_right _ (List.mem_of_getElem? (i := 6) (show ciZ2[6]? = some ci_BadTable from rfl))))
theorem q_BadText (Z : TZ.Says K) : Ho.clB K (.ref (Ho.adV (Ho.gM K "FilterError")) :: Ho.ve) (Ho.gM K "BadText") = true ∧ Ho.noB K (Ho.nsA K (Ho.gM K "BadText")) n3 = true ∧ Ho.fnB K (Ho.inM K (Ho.gM K "BadText")) "BadText.__init__" = true ∧ Ho.fnO K (Ho.inM K (Ho.gM K "BadText")) = Ho.fnV "__init__" "BadText.__init__" i_BadText :=
  Z.cs ci_BadText (List.mem_append_left _ (List.mem_append_right _ (List.mem_of_getElem? (i := 7) (show ciZ2[7]? = some ci_BadText from rfl))))
theorem q_BadTriple (Z : TZ.Says K) : Ho.clB K (.ref (Ho.adV (Ho.gM K "FilterError")) :: Ho.ve) (Ho.gM K "BadTriple") = true ∧ Ho.noB K (Ho.nsA K (Ho.gM K "BadTriple")) n0 = true ∧ Ho.fnB K (Ho.inM K (Ho.gM K "BadTriple")) "BadTriple.__init__" = true ∧ Ho.fnO K (Ho.inM K (Ho.gM K "BadTriple")) = Ho.fnV "__init__" "BadTriple.__init__" i_BadTriple :=
  Z.cs ci_BadTriple (List.mem_append_left _ (List.mem_append_right _ (List.mem_of_getElem? (i := 8) (show ciZ2[8]? = some ci_BadTriple from rfl))))
theorem q_BadWord (Z : TZ.Says K) : Ho.clB K (.ref (Ho.adV (Ho.gM K "FilterError")) :: Ho.ve) (Ho.gM K "BadWord") = true ∧ Ho.noB K (Ho.nsA K (Ho.gM K "BadWord")) n0 = true ∧ Ho.fnB K (Ho.inM K (Ho.gM K "BadWord")) "BadWord.__init__" = true ∧ Ho.fnO K (Ho.inM K (Ho.gM K "BadWord")) = Ho.fnV "__init__" "BadWord.__init__" i_BadWord :=
  Z.cs ci_BadWord (List.mem_append_left _ (List.mem_append_right _ (List.mem_of_getElem? (i := 9) (show ciZ2[9]? = some ci_BadWord from rfl))))
theorem q_Full (Z : TZ.Says K) : Ho.clB K (.ref (Ho.adV (Ho.gM K "FilterError")) :: Ho.ve) (Ho.gM K "Full") = true ∧ Ho.noB K (Ho.nsA K (Ho.gM K "Full")) n4 = true ∧ Ho.fnB K (Ho.inM K (Ho.gM K "Full")) "Full.__init__" = true ∧ Ho.fnO K (Ho.inM K (Ho.gM K "Full")) = Ho.fnV "__init__" "Full.__init__" i_Full :=
  Z.cs ci_Full (List.mem_append_left _ (List.mem_append_right _ (List.mem_of_getElem? (i := 10) (show ciZ2[10]? = some ci_Full from rfl))))
theorem q_Gap (Z : TZ.Says K) : Ho.clB K (.ref (Ho.adV (Ho.gM K "FilterError")) :: Ho.ve) (Ho.gM K "Gap") = true ∧ Ho.noB K (Ho.nsA K (Ho.gM K "Gap")) n5 = true ∧ Ho.fnB K (Ho.inM K (Ho.gM K "Gap")) "Gap.__init__" = true ∧ Ho.fnO K (Ho.inM K (Ho.gM K "Gap")) = Ho.fnV "__init__" "Gap.__init__" i_Gap :=
  Z.cs ci_Gap (List.mem_append_left _ (List.mem_append_right _ (List.mem_of_getElem? (i := 11) (show ciZ2[11]? = some ci_Gap from rfl))))
theorem q_NoKind (Z : TZ.Says K) : Ho.clB K (.ref (Ho.adV (Ho.gM K "FilterError")) :: Ho.ve) (Ho.gM K "NoKind") = true ∧ Ho.noB K (Ho.nsA K (Ho.gM K "NoKind")) n6 = true ∧ Ho.fnB K (Ho.inM K (Ho.gM K "NoKind")) "NoKind.__init__" = true ∧ Ho.fnO K (Ho.inM K (Ho.gM K "NoKind")) = Ho.fnV "__init__" "NoKind.__init__" i_NoKind :=
  Z.cs ci_NoKind (List.mem_append_left _ (List.mem_append_right _ (List.mem_of_getElem? (i := 12) (show ciZ2[12]? = some ci_NoKind from rfl))))
theorem q_NoMove (Z : TZ.Says K) : Ho.clB K (.ref (Ho.adV (Ho.gM K "FilterError")) :: Ho.ve) (Ho.gM K "NoMove") = true ∧ Ho.noB K (Ho.nsA K (Ho.gM K "NoMove")) n7 = true ∧ Ho.fnB K (Ho.inM K (Ho.gM K "NoMove")) "NoMove.__init__" = true ∧ Ho.fnO K (Ho.inM K (Ho.gM K "NoMove")) = Ho.fnV "__init__" "NoMove.__init__" i_NoMove :=
  Z.cs ci_NoMove (List.mem_append_left _ (List.mem_append_right _ (List.mem_of_getElem? (i := 13) (show ciZ2[13]? = some ci_NoMove from rfl))))
theorem q_NotKind (Z : TZ.Says K) : Ho.clB K (.ref (Ho.adV (Ho.gM K "FilterError")) :: Ho.ve) (Ho.gM K "NotKind") = true ∧ Ho.noB K (Ho.nsA K (Ho.gM K "NotKind")) n1 = true ∧ Ho.fnB K (Ho.inM K (Ho.gM K "NotKind")) "NotKind.__init__" = true ∧ Ho.fnO K (Ho.inM K (Ho.gM K "NotKind")) = Ho.fnV "__init__" "NotKind.__init__" i_NotKind :=
  Z.cs ci_NotKind (List.mem_append_left _ (List.mem_append_right _ (List.mem_of_getElem? (i := 14) (show ciZ2[14]? = some ci_NotKind from rfl))))
theorem q_NotThere (Z : TZ.Says K) : Ho.clB K (.ref (Ho.adV (Ho.gM K "FilterError")) :: Ho.ve) (Ho.gM K "NotThere") = true ∧ Ho.noB K (Ho.nsA K (Ho.gM K "NotThere")) n6 = true ∧ Ho.fnB K (Ho.inM K (Ho.gM K "NotThere")) "NotThere.__init__" = true ∧ Ho.fnO K (Ho.inM K (Ho.gM K "NotThere")) = Ho.fnV "__init__" "NotThere.__init__" i_NotThere :=
  Z.cs ci_NotThere (List.mem_append_right _ (List.mem_of_getElem? (i := 0) (show ciZ3[0]? = some ci_NotThere from rfl)))
theorem q_NotWatched (Z : TZ.Says K) : Ho.clB K (.ref (Ho.adV (Ho.gM K "FilterError")) :: Ho.ve) (Ho.gM K "NotWatched") = true ∧ Ho.noB K (Ho.nsA K (Ho.gM K "NotWatched")) n8 = true ∧ Ho.fnB K (Ho.inM K (Ho.gM K "NotWatched")) "NotWatched.__init__" = true ∧ Ho.fnO K (Ho.inM K (Ho.gM K "NotWatched")) = Ho.fnV "__init__" "NotWatched.__init__" i_NotWatched :=
  Z.cs ci_NotWatched (List.mem_append_right _ (List.mem_of_getElem? (i := 1) (show ciZ3[1]? = some ci_NotWatched from rfl)))
theorem q_NotWithin (Z : TZ.Says K) : Ho.clB K (.ref (Ho.adV (Ho.gM K "FilterError")) :: Ho.ve) (Ho.gM K "NotWithin") = true ∧ Ho.noB K (Ho.nsA K (Ho.gM K "NotWithin")) n9 = true ∧ Ho.fnB K (Ho.inM K (Ho.gM K "NotWithin")) "NotWithin.__init__" = true ∧ Ho.fnO K (Ho.inM K (Ho.gM K "NotWithin")) = Ho.fnV "__init__" "NotWithin.__init__" i_NotWithin :=
  Z.cs ci_NotWithin (List.mem_append_right _ (List.mem_of_getElem? (i := 2) (show ciZ3[2]? = some ci_NotWithin from rfl)))
theorem q_Refused (Z : TZ.Says K) : Ho.clB K (.ref (Ho.adV (Ho.gM K "FilterError")) :: Ho.ve) (Ho.gM K "Refused") = true ∧ Ho.noB K (Ho.nsA K (Ho.gM K "Refused")) n7 = true ∧ Ho.fnB K (Ho.inM K (Ho.gM K "Refused")) "Refused.__init__" = true ∧ Ho.fnO K (Ho.inM K (Ho.gM K "Refused")) = Ho.fnV "__init__" "Refused.__init__" i_Refused :=
  Z.cs ci_Refused (List.mem_append_right _ (List.mem_of_getElem? (i := 3) (show ciZ3[3]? = some ci_Refused from rfl)))
theorem q_There (Z : TZ.Says K) : Ho.clB K (.ref (Ho.adV (Ho.gM K "FilterError")) :: Ho.ve) (Ho.gM K "There") = true ∧ Ho.noB K (Ho.nsA K (Ho.gM K "There")) n6 = true ∧ Ho.fnB K (Ho.inM K (Ho.gM K "There")) "There.__init__" = true ∧ Ho.fnO K (Ho.inM K (Ho.gM K "There")) = Ho.fnV "__init__" "There.__init__" i_There :=
  Z.cs ci_There (List.mem_append_right _ (List.mem_of_getElem? (i := 4) (show ciZ3[4]? = some ci_There from rfl)))
theorem q_TooMany (Z : TZ.Says K) : Ho.clB K (.ref (Ho.adV (Ho.gM K "FilterError")) :: Ho.ve) (Ho.gM K "TooMany") = true ∧ Ho.noB K (Ho.nsA K (Ho.gM K "TooMany")) n4 = true ∧ Ho.fnB K (Ho.inM K (Ho.gM K "TooMany")) "TooMany.__init__" = true ∧ Ho.fnO K (Ho.inM K (Ho.gM K "TooMany")) = Ho.fnV "__init__" "TooMany.__init__" i_TooMany :=
  Z.cs ci_TooMany (List.mem_append_right _ (List.mem_of_getElem? (i := 5) (show ciZ3[5]? = some ci_TooMany from rfl)))
theorem q_Unfit (Z : TZ.Says K) : Ho.clB K (.ref (Ho.adV (Ho.gM K "FilterError")) :: Ho.ve) (Ho.gM K "Unfit") = true ∧ Ho.noB K (Ho.nsA K (Ho.gM K "Unfit")) n7 = true ∧ Ho.fnB K (Ho.inM K (Ho.gM K "Unfit")) "Unfit.__init__" = true ∧ Ho.fnO K (Ho.inM K (Ho.gM K "Unfit")) = Ho.fnV "__init__" "Unfit.__init__" i_Unfit :=
  Z.cs ci_Unfit (List.mem_append_right _ (List.mem_of_getElem? (i := 6) (show ciZ3[6]? = some ci_Unfit from rfl)))
theorem q_Used (Z : TZ.Says K) : Ho.clB K (.ref (Ho.adV (Ho.gM K "FilterError")) :: Ho.ve) (Ho.gM K "Used") = true ∧ Ho.noB K (Ho.nsA K (Ho.gM K "Used")) n6 = true ∧ Ho.fnB K (Ho.inM K (Ho.gM K "Used")) "Used.__init__" = true ∧ Ho.fnO K (Ho.inM K (Ho.gM K "Used")) = Ho.fnV "__init__" "Used.__init__" i_Used :=
  Z.cs ci_Used (List.mem_append_right _ (List.mem_of_getElem? (i := 7) (show ciZ3[7]? = some ci_Used from rfl)))
theorem q_UsesNumber (Z : TZ.Says K) : Ho.clB K (.ref (Ho.adV (Ho.gM K "FilterError")) :: Ho.ve) (Ho.gM K "UsesNumber") = true ∧ Ho.noB K (Ho.nsA K (Ho.gM K "UsesNumber")) n0 = true ∧ Ho.fnB K (Ho.inM K (Ho.gM K "UsesNumber")) "UsesNumber.__init__" = true ∧ Ho.fnO K (Ho.inM K (Ho.gM K "UsesNumber")) = Ho.fnV "__init__" "UsesNumber.__init__" i_UsesNumber :=
  Z.cs ci_UsesNumber (List.mem_append_right _ (List.mem_of_getElem? (i := 8) (show ciZ3[8]? = some ci_UsesNumber from rfl)))
theorem q_Watched (Z : TZ.Says K) : Ho.clB K (.ref (Ho.adV (Ho.gM K "FilterError")) :: Ho.ve) (Ho.gM K "Watched") = true ∧ Ho.noB K (Ho.nsA K (Ho.gM K "Watched")) n8 = true ∧ Ho.fnB K (Ho.inM K (Ho.gM K "Watched")) "Watched.__init__" = true ∧ Ho.fnO K (Ho.inM K (Ho.gM K "Watched")) = Ho.fnV "__init__" "Watched.__init__" i_Watched :=
  Z.cs ci_Watched (List.mem_append_right _ (List.mem_of_getElem? (i := 9) (show ciZ3[9]? = some ci_Watched from rfl)))
theorem q_Done (Z : TZ.Says K) : Ho.clB K (.ref (Ho.adV (Ho.gM K "FilterError")) :: Ho.ve) (Ho.gM K "Done") = true ∧ Ho.noB K (Ho.nsA K (Ho.gM K "Done")) nZ = true ∧ PySem.W.nsOkIn K (Ho.nsA K (Ho.gM K "Done")) = true :=
  Z.zs ("Done", nZ) (List.mem_of_getElem? (i := 0) (show zsZ[0]? = some _ from rfl))
theorem q_NoAgain (Z : TZ.Says K) : Ho.clB K (.ref (Ho.adV (Ho.gM K "FilterError")) :: Ho.ve) (Ho.gM K "NoAgain") = true ∧ Ho.noB K (Ho.nsA K (Ho.gM K "NoAgain")) nZ = true ∧ PySem.W.nsOkIn K (Ho.nsA K (Ho.gM K "NoAgain")) = true :=
  Z.zs ("NoAgain", nZ) (List.mem_of_getElem? (i := 1) (show zsZ[1]? = some _ from rfl))
theorem q_NoBack (Z : TZ.Says K) : Ho.clB K (.ref (Ho.adV (Ho.gM K "FilterError")) :: Ho.ve) (Ho.gM K "NoBack") = true ∧ Ho.noB K (Ho.nsA K (Ho.gM K "NoBack")) nZ = true ∧ PySem.W.nsOkIn K (Ho.nsA K (Ho.gM K "NoBack")) = true :=
  Z.zs ("NoBack", nZ) (List.mem_of_getElem? (i := 2) (show zsZ[2]? = some _ from rfl))
theorem q_NoFuse (Z : TZ.Says K) : Ho.clB K (.ref (Ho.adV (Ho.gM K "FilterError")) :: Ho.ve) (Ho.gM K "NoFuse") = true ∧ Ho.noB K (Ho.nsA K (Ho.gM K "NoFuse")) nZ = true ∧ PySem.W.nsOkIn K (Ho.nsA K (Ho.gM K "NoFuse")) = true :=
  Z.zs ("NoFuse", nZ) (List.mem_of_getElem? (i := 3) (show zsZ[3]? = some _ from rfl))
theorem q_NotWhole (Z : TZ.Says K) : Ho.clB K (.ref (Ho.adV (Ho.gM K "FilterError")) :: Ho.ve) (Ho.gM K "NotWhole") = true ∧ Ho.noB K (Ho.nsA K (Ho.gM K "NotWhole")) nZ = true ∧ PySem.W.nsOkIn K (Ho.nsA K (Ho.gM K "NotWhole")) = true :=
  Z.zs ("NotWhole", nZ) (List.mem_of_getElem? (i := 4) (show zsZ[4]? = some _ from rfl))
theorem q_OtherSigns (Z : TZ.Says K) : Ho.clB K (.ref (Ho.adV (Ho.gM K "FilterError")) :: Ho.ve) (Ho.gM K "OtherSigns") = true ∧ Ho.noB K (Ho.nsA K (Ho.gM K "OtherSigns")) nZ = true ∧ PySem.W.nsOkIn K (Ho.nsA K (Ho.gM K "OtherSigns")) = true :=
  Z.zs ("OtherSigns", nZ) (List.mem_of_getElem? (i := 5) (show zsZ[5]? = some _ from rfl))
theorem q_f_law_start (Z : TZ.Says K) : Ho.fnB K (Ho.gM K "_law_start") "_law_start" = true ∧ Ho.fnO K (Ho.gM K "_law_start") = Ho.fnV "_law_start" "_law_start" s_law_start :=
  Z.fs ("_law_start", s_law_start) (List.mem_of_getElem? (i := 0) (show fsZ[0]? = some _ from rfl))
theorem q_f_law_below (Z : TZ.Says K) : Ho.fnB K (Ho.gM K "_law_below") "_law_below" = true ∧ Ho.fnO K (Ho.gM K "_law_below") = Ho.fnV "_law_below" "_law_below" s_law_below :=
  Z.fs ("_law_below", s_law_below) (List.mem_of_getElem? (i := 1) (show fsZ[1]? = some _ from rfl))
theorem q_f_law_mixed (Z : TZ.Says K) : Ho.fnB K (Ho.gM K "_law_mixed") "_law_mixed" = true ∧ Ho.fnO K (Ho.gM K "_law_mixed") = Ho.fnV "_law_mixed" "_law_mixed" s_law_mixed :=
  Z.fs ("_law_mixed", s_law_mixed) (List.mem_of_getElem? (i := 2) (show fsZ[2]? = some _ from rfl))
theorem q_f_law_made_a (Z : TZ.Says K) : Ho.fnB K (Ho.gM K "_law_made_a") "_law_made_a" = true ∧ Ho.fnO K (Ho.gM K "_law_made_a") = Ho.fnV "_law_made_a" "_law_made_a" s_law_made_a :=
  Z.fs ("_law_made_a", s_law_made_a) (List.mem_of_getElem? (i := 3) (show fsZ[3]? = some _ from rfl))
theorem q_f_law_made_b (Z : TZ.Says K) : Ho.fnB K (Ho.gM K "_law_made_b") "_law_made_b" = true ∧ Ho.fnO K (Ho.gM K "_law_made_b") = Ho.fnV "_law_made_b" "_law_made_b" s_law_made_b :=
  Z.fs ("_law_made_b", s_law_made_b) (List.mem_of_getElem? (i := 4) (show fsZ[4]? = some _ from rfl))
theorem q_f_law_made_c (Z : TZ.Says K) : Ho.fnB K (Ho.gM K "_law_made_c") "_law_made_c" = true ∧ Ho.fnO K (Ho.gM K "_law_made_c") = Ho.fnV "_law_made_c" "_law_made_c" s_law_made_c :=
  Z.fs ("_law_made_c", s_law_made_c) (List.mem_of_getElem? (i := 5) (show fsZ[5]? = some _ from rfl))
theorem q_f_law_made_d (Z : TZ.Says K) : Ho.fnB K (Ho.gM K "_law_made_d") "_law_made_d" = true ∧ Ho.fnO K (Ho.gM K "_law_made_d") = Ho.fnV "_law_made_d" "_law_made_d" s_law_made_d :=
  Z.fs ("_law_made_d", s_law_made_d) (List.mem_of_getElem? (i := 6) (show fsZ[6]? = some _ from rfl))
theorem q_f_law_kinds_a (Z : TZ.Says K) : Ho.fnB K (Ho.gM K "_law_kinds_a") "_law_kinds_a" = true ∧ Ho.fnO K (Ho.gM K "_law_kinds_a") = Ho.fnV "_law_kinds_a" "_law_kinds_a" s_law_kinds_a :=
  Z.fs ("_law_kinds_a", s_law_kinds_a) (List.mem_of_getElem? (i := 7) (show fsZ[7]? = some _ from rfl))
theorem q_f_law_kinds_b (Z : TZ.Says K) : Ho.fnB K (Ho.gM K "_law_kinds_b") "_law_kinds_b" = true ∧ Ho.fnO K (Ho.gM K "_law_kinds_b") = Ho.fnV "_law_kinds_b" "_law_kinds_b" s_law_kinds_b :=
  Z.fs ("_law_kinds_b", s_law_kinds_b) (List.mem_of_getElem? (i := 8) (show fsZ[8]? = some _ from rfl))
theorem q_f_law_kinds_c (Z : TZ.Says K) : Ho.fnB K (Ho.gM K "_law_kinds_c") "_law_kinds_c" = true ∧ Ho.fnO K (Ho.gM K "_law_kinds_c") = Ho.fnV "_law_kinds_c" "_law_kinds_c" s_law_kinds_c :=
  Z.fs ("_law_kinds_c", s_law_kinds_c) (List.mem_of_getElem? (i := 9) (show fsZ[9]? = some _ from rfl))
theorem q_f_law_kinds_d (Z : TZ.Says K) : Ho.fnB K (Ho.gM K "_law_kinds_d") "_law_kinds_d" = true ∧ Ho.fnO K (Ho.gM K "_law_kinds_d") = Ho.fnV "_law_kinds_d" "_law_kinds_d" s_law_kinds_d :=
  Z.fs ("_law_kinds_d", s_law_kinds_d) (List.mem_of_getElem? (i := 10) (show fsZ[10]? = some _ from rfl))
theorem q_f_law_kinds (Z : TZ.Says K) : Ho.fnB K (Ho.gM K "_law_kinds") "_law_kinds" = true ∧ Ho.fnO K (Ho.gM K "_law_kinds") = Ho.fnV "_law_kinds" "_law_kinds" s_law_kinds :=
  Z.fs ("_law_kinds", s_law_kinds) (List.mem_of_getElem? (i := 11) (show fsZ[11]? = some _ from rfl))
theorem q_f_law_is_own (Z : TZ.Says K) : Ho.fnB K (Ho.gM K "_law_is_own") "_law_is_own" = true ∧ Ho.fnO K (Ho.gM K "_law_is_own") = Ho.fnV "_law_is_own" "_law_is_own" s_law_is_own :=
  Z.fs ("_law_is_own", s_law_is_own) (List.mem_of_getElem? (i := 12) (show fsZ[12]? = some _ from rfl))
theorem q_f_law_are_these (Z : TZ.Says K) : Ho.fnB K (Ho.gM K "_law_are_these") "_law_are_these" = true ∧ Ho.fnO K (Ho.gM K "_law_are_these") = Ho.fnV "_law_are_these" "_law_are_these" s_law_are_these :=
  Z.fs ("_law_are_these", s_law_are_these) (List.mem_of_getElem? (i := 13) (show fsZ[13]? = some _ from rfl))
theorem q_f_law (Z : TZ.Says K) : Ho.fnB K (Ho.gM K "law") "law" = true ∧ Ho.fnO K (Ho.gM K "law") = Ho.fnV "law" "law" s_law :=
  Z.fs ("law", s_law) (List.mem_of_getElem? (i := 14) (show fsZ[14]? = some _ from rfl))
theorem err_z (Z : TZ.Says K) (X : K.In h) (G : h.Ns mainGlobals mg) : Err K mg (caZ K) where
  g := ⟨Ho.get_c K, Ho.take_c K⟩
  nd := Z.al
  m_FilterError := PySem.W.mg_of X G (Ho.gM_ns (Ho.ba Z.fe).1)
  f_FilterError := Ho.cls_fe Z.fe Z.feN four_f
  z_FilterError := Ho.ex_of Z.fe (Ho.tail_ve K) Z.feN (by simp) Z.feO
  m_BadBy := PySem.W.mg_of X G (Ho.gM_ns (Ho.ba (q_BadBy Z).1).1)
  f_BadBy := Ho.cls_own Z.fe Z.feN (q_BadBy Z).1 (q_BadBy Z).2.1 four_n0 four_f
  o_BadBy := Ho.ini_own Z.fe Z.feN (q_BadBy Z).1 (q_BadBy Z).2.1 (q_BadBy Z).2.2.1 (q_BadBy Z).2.2.2 (fun _ _ _ _ _ _ us hl => match us, hl with | [_, _], _ => rfl) (fun _ _ _ _ _ _ self ws hl => match ws, hl with | [_], _ => rfl) (fld_n0 K)
  m_BadChain := PySem.W.mg_of X G (Ho.gM_ns (Ho.ba (q_BadChain Z).1).1)
  f_BadChain := Ho.cls_own Z.fe Z.feN (q_BadChain Z).1 (q_BadChain Z).2.1 four_n1 four_f
  o_BadChain := Ho.ini_own Z.fe Z.feN (q_BadChain Z).1 (q_BadChain Z).2.1 (q_BadChain Z).2.2.1 (q_BadChain Z).2.2.2 (fun _ _ _ _ _ _ us hl => match us, hl with | [_, _], _ => rfl) (fun _ _ _ _ _ _ self ws hl => match ws, hl with | [_], _ => rfl) (fld_n1 K)
  m_BadControl := PySem.W.mg_of X G (Ho.gM_ns (Ho.ba (q_BadControl Z).1).1)
  f_BadControl := Ho.cls_own Z.fe Z.feN (q_BadControl Z).1 (q_BadControl Z).2.1 four_n0 four_f
  o_BadControl := Ho.ini_own Z.fe Z.feN (q_BadControl Z).1 (q_BadControl Z).2.1 (q_BadControl Z).2.2.1 (q_BadControl Z).2.2.2 (fun _ _ _ _ _ _ us hl => match us, hl with | [_, _], _ => rfl) (fun _ _ _ _ _ _ self ws hl => match ws, hl with | [_], _ => rfl) (fld_n0 K)
  m_BadCore := PySem.W.mg_of X G (Ho.gM_ns (Ho.ba (q_BadCore Z).1).1)
  f_BadCore := Ho.cls_own Z.fe Z.feN (q_BadCore Z).1 (q_BadCore Z).2.1 four_n0 four_f
  o_BadCore := Ho.ini_own Z.fe Z.feN (q_BadCore Z).1 (q_BadCore Z).2.1 (q_BadCore Z).2.2.1 (q_BadCore Z).2.2.2 (fun _ _ _ _ _ _ us hl => match us, hl with | [_, _], _ => rfl) (fun _ _ _ _ _ _ self ws hl => match ws, hl with | [_], _ => rfl) (fld_n0 K)
  m_BadCores := PySem.W.mg_of X G (Ho.gM_ns (Ho.ba (q_BadCores Z).1).1)
  f_BadCores := Ho.cls_own Z.fe Z.feN (q_BadCores Z).1 (q_BadCores Z).2.1 four_n0 four_f
  o_BadCores := Ho.ini_own Z.fe Z.feN (q_BadCores Z).1 (q_BadCores Z).2.1 (q_BadCores Z).2.2.1 (q_BadCores Z).2.2.2 (fun _ _ _ _ _ _ us hl => match us, hl with | [_, _], _ => rfl) (fun _ _ _ _ _ _ self ws hl => match ws, hl with | [_], _ => rfl) (fld_n0 K)
  m_BadDeed := PySem.W.mg_of X G (Ho.gM_ns (Ho.ba (q_BadDeed Z).1).1)
  f_BadDeed := Ho.cls_own Z.fe Z.feN (q_BadDeed Z).1 (q_BadDeed Z).2.1 four_n1 four_f
  o_BadDeed := Ho.ini_own Z.fe Z.feN (q_BadDeed Z).1 (q_BadDeed Z).2.1 (q_BadDeed Z).2.2.1 (q_BadDeed Z).2.2.2 (fun _ _ _ _ _ _ us hl => match us, hl with | [_, _], _ => rfl) (fun _ _ _ _ _ _ self ws hl => match ws, hl with | [_], _ => rfl) (fld_n1 K)
  m_BadEnds := PySem.W.mg_of X G (Ho.gM_ns (Ho.ba (q_BadEnds Z).1).1)
  f_BadEnds := Ho.cls_own Z.fe Z.feN (q_BadEnds Z).1 (q_BadEnds Z).2.1 four_n1 four_f
  o_BadEnds := Ho.ini_own Z.fe Z.feN (q_BadEnds Z).1 (q_BadEnds Z).2.1 (q_BadEnds Z).2.2.1 (q_BadEnds Z).2.2.2 (fun _ _ _ _ _ _ us hl => match us, hl with | [_, _], _ => rfl) (fun _ _ _ _ _ _ self ws hl => match ws, hl with | [_], _ => rfl) (fld_n1 K)
  m_BadHigh := PySem.W.mg_of X G (Ho.gM_ns (Ho.ba (q_BadHigh Z).1).1)
  f_BadHigh := Ho.cls_own Z.fe Z.feN (q_BadHigh Z).1 (q_BadHigh Z).2.1 four_n0 four_f
  o_BadHigh := Ho.ini_own Z.fe Z.feN (q_BadHigh Z).1 (q_BadHigh Z).2.1 (q_BadHigh Z).2.2.1 (q_BadHigh Z).2.2.2 (fun _ _ _ _ _ _ us hl => match us, hl with | [_, _], _ => rfl) (fun _ _ _ _ _ _ self ws hl => match ws, hl with | [_], _ => rfl) (fld_n0 K)
  m_BadInput := PySem.W.mg_of X G (Ho.gM_ns (Ho.ba (q_BadInput Z).1).1)
  f_BadInput := Ho.cls_own Z.fe Z.feN (q_BadInput Z).1 (q_BadInput Z).2.1 four_n0 four_f
  o_BadInput := Ho.ini_own Z.fe Z.feN (q_BadInput Z).1 (q_BadInput Z).2.1 (q_BadInput Z).2.2.1 (q_BadInput Z).2.2.2 (fun _ _ _ _ _ _ us hl => match us, hl with | [_, _], _ => rfl) (fun _ _ _ _ _ _ self ws hl => match ws, hl with | [_], _ => rfl) (fld_n0 K)
  m_BadInto := PySem.W.mg_of X G (Ho.gM_ns (Ho.ba (q_BadInto Z).1).1)
  f_BadInto := Ho.cls_own Z.fe Z.feN (q_BadInto Z).1 (q_BadInto Z).2.1 four_n0 four_f
  o_BadInto := Ho.ini_own Z.fe Z.feN (q_BadInto Z).1 (q_BadInto Z).2.1 (q_BadInto Z).2.2.1 (q_BadInto Z).2.2.2 (fun _ _ _ _ _ _ us hl => match us, hl with | [_, _], _ => rfl) (fun _ _ _ _ _ _ self ws hl => match ws, hl with | [_], _ => rfl) (fld_n0 K)
  m_BadKey := PySem.W.mg_of X G (Ho.gM_ns (Ho.ba (q_BadKey Z).1).1)
  f_BadKey := Ho.cls_own Z.fe Z.feN (q_BadKey Z).1 (q_BadKey Z).2.1 four_n0 four_f
  o_BadKey := Ho.ini_own Z.fe Z.feN (q_BadKey Z).1 (q_BadKey Z).2.1 (q_BadKey Z).2.2.1 (q_BadKey Z).2.2.2 (fun _ _ _ _ _ _ us hl => match us, hl with | [_, _], _ => rfl) (fun _ _ _ _ _ _ self ws hl => match ws, hl with | [_], _ => rfl) (fld_n0 K)
  m_BadLength := PySem.W.mg_of X G (Ho.gM_ns (Ho.ba (q_BadLength Z).1).1)
  f_BadLength := Ho.cls_own Z.fe Z.feN (q_BadLength Z).1 (q_BadLength Z).2.1 four_n0 four_f
  o_BadLength := Ho.ini_own Z.fe Z.feN (q_BadLength Z).1 (q_BadLength Z).2.1 (q_BadLength Z).2.2.1 (q_BadLength Z).2.2.2 (fun _ _ _ _ _ _ us hl => match us, hl with | [_, _], _ => rfl) (fun _ _ _ _ _ _ self ws hl => match ws, hl with | [_], _ => rfl) (fld_n0 K)
  m_BadLine := PySem.W.mg_of X G (Ho.gM_ns (Ho.ba (q_BadLine Z).1).1)
  f_BadLine := Ho.cls_own Z.fe Z.feN (q_BadLine Z).1 (q_BadLine Z).2.1 four_n2 four_f
  o_BadLine := Ho.ini_own Z.fe Z.feN (q_BadLine Z).1 (q_BadLine Z).2.1 (q_BadLine Z).2.2.1 (q_BadLine Z).2.2.2 (fun _ _ _ _ _ _ us hl => match us, hl with | [_, _], _ => rfl) (fun _ _ _ _ _ _ self ws hl => match ws, hl with | [_], _ => rfl) (fld_n2 K)
  m_BadListed := PySem.W.mg_of X G (Ho.gM_ns (Ho.ba (q_BadListed Z).1).1)
  f_BadListed := Ho.cls_own Z.fe Z.feN (q_BadListed Z).1 (q_BadListed Z).2.1 four_n0 four_f
  o_BadListed := Ho.ini_own Z.fe Z.feN (q_BadListed Z).1 (q_BadListed Z).2.1 (q_BadListed Z).2.2.1 (q_BadListed Z).2.2.2 (fun _ _ _ _ _ _ us hl => match us, hl with | [_, _], _ => rfl) (fun _ _ _ _ _ _ self ws hl => match ws, hl with | [_], _ => rfl) (fld_n0 K)
  m_BadListing := PySem.W.mg_of X G (Ho.gM_ns (Ho.ba (q_BadListing Z).1).1)
  f_BadListing := Ho.cls_own Z.fe Z.feN (q_BadListing Z).1 (q_BadListing Z).2.1 four_n2 four_f
  o_BadListing := Ho.ini_own Z.fe Z.feN (q_BadListing Z).1 (q_BadListing Z).2.1 (q_BadListing Z).2.2.1 (q_BadListing Z).2.2.2 (fun _ _ _ _ _ _ us hl => match us, hl with | [_, _], _ => rfl) (fun _ _ _ _ _ _ self ws hl => match ws, hl with | [_], _ => rfl) (fld_n2 K)
  m_BadLoaded := PySem.W.mg_of X G (Ho.gM_ns (Ho.ba (q_BadLoaded Z).1).1)
  f_BadLoaded := Ho.cls_own Z.fe Z.feN (q_BadLoaded Z).1 (q_BadLoaded Z).2.1 four_n0 four_f
  o_BadLoaded := Ho.ini_own Z.fe Z.feN (q_BadLoaded Z).1 (q_BadLoaded Z).2.1 (q_BadLoaded Z).2.2.1 (q_BadLoaded Z).2.2.2 (fun _ _ _ _ _ _ us hl => match us, hl with | [_, _], _ => rfl) (fun _ _ _ _ _ _ self ws hl => match ws, hl with | [_], _ => rfl) (fld_n0 K)
  m_BadMany := PySem.W.mg_of X G (Ho.gM_ns (Ho.ba (q_BadMany Z).1).1)
  f_BadMany := Ho.cls_own Z.fe Z.feN (q_BadMany Z).1 (q_BadMany Z).2.1 four_n0 four_f
  o_BadMany := Ho.ini_own Z.fe Z.feN (q_BadMany Z).1 (q_BadMany Z).2.1 (q_BadMany Z).2.2.1 (q_BadMany Z).2.2.2 (fun _ _ _ _ _ _ us hl => match us, hl with | [_, _], _ => rfl) (fun _ _ _ _ _ _ self ws hl => match ws, hl with | [_], _ => rfl) (fld_n0 K)
  m_BadName := PySem.W.mg_of X G (Ho.gM_ns (Ho.ba (q_BadName Z).1).1)
  f_BadName := Ho.cls_own Z.fe Z.feN (q_BadName Z).1 (q_BadName Z).2.1 four_n0 four_f
  o_BadName := Ho.ini_own Z.fe Z.feN (q_BadName Z).1 (q_BadName Z).2.1 (q_BadName Z).2.2.1 (q_BadName Z).2.2.2 (fun _ _ _ _ _ _ us hl => match us, hl with | [_, _], _ => rfl) (fun _ _ _ _ _ _ self ws hl => match ws, hl with | [_], _ => rfl) (fld_n0 K)
  m_BadNames := PySem.W.mg_of X G (Ho.gM_ns (Ho.ba (q_BadNames Z).1).1)
  f_BadNames := Ho.cls_own Z.fe Z.feN (q_BadNames Z).1 (q_BadNames Z).2.1 four_n1 four_f
  o_BadNames := Ho.ini_own Z.fe Z.feN (q_BadNames Z).1 (q_BadNames Z).2.1 (q_BadNames Z).2.2.1 (q_BadNames Z).2.2.2 (fun _ _ _ _ _ _ us hl => match us, hl with | [_, _], _ => rfl) (fun _ _ _ _ _ _ self ws hl => match ws, hl with | [_], _ => rfl) (fld_n1 K)
  m_BadNumber := PySem.W.mg_of X G (Ho.gM_ns (Ho.ba (q_BadNumber Z).1).1)
  f_BadNumber := Ho.cls_own Z.fe Z.feN (q_BadNumber Z).1 (q_BadNumber Z).2.1 four_n0 four_f
  o_BadNumber := Ho.ini_own Z.fe Z.feN (q_BadNumber Z).1 (q_BadNumber Z).2.1 (q_BadNumber Z).2.2.1 (q_BadNumber Z).2.2.2 (fun _ _ _ _ _ _ us hl => match us, hl with | [_, _], _ => rfl) (fun _ _ _ _ _ _ self ws hl => match ws, hl with | [_], _ => rfl) (fld_n0 K)
  m_BadOctets := PySem.W.mg_of X G (Ho.gM_ns (Ho.ba (q_BadOctets Z).1).1)
  f_BadOctets := Ho.cls_own Z.fe Z.feN (q_BadOctets Z).1 (q_BadOctets Z).2.1 four_n1 four_f
  o_BadOctets := Ho.ini_own Z.fe Z.feN (q_BadOctets Z).1 (q_BadOctets Z).2.1 (q_BadOctets Z).2.2.1 (q_BadOctets Z).2.2.2 (fun _ _ _ _ _ _ us hl => match us, hl with | [_, _], _ => rfl) (fun _ _ _ _ _ _ self ws hl => match ws, hl with | [_], _ => rfl) (fld_n1 K)
  m_BadOther := PySem.W.mg_of X G (Ho.gM_ns (Ho.ba (q_BadOther Z).1).1)
  f_BadOther := Ho.cls_own Z.fe Z.feN (q_BadOther Z).1 (q_BadOther Z).2.1 four_n0 four_f
  o_BadOther := Ho.ini_own Z.fe Z.feN (q_BadOther Z).1 (q_BadOther Z).2.1 (q_BadOther Z).2.2.1 (q_BadOther Z).2.2.2 (fun _ _ _ _ _ _ us hl => match us, hl with | [_, _], _ => rfl) (fun _ _ _ _ _ _ self ws hl => match ws, hl with | [_], _ => rfl) (fld_n0 K)
  m_BadOut := PySem.W.mg_of X G (Ho.gM_ns (Ho.ba (q_BadOut Z).1).1)
  f_BadOut := Ho.cls_own Z.fe Z.feN (q_BadOut Z).1 (q_BadOut Z).2.1 four_n0 four_f
  o_BadOut := Ho.ini_own Z.fe Z.feN (q_BadOut Z).1 (q_BadOut Z).2.1 (q_BadOut Z).2.2.1 (q_BadOut Z).2.2.2 (fun _ _ _ _ _ _ us hl => match us, hl with | [_, _], _ => rfl) (fun _ _ _ _ _ _ self ws hl => match ws, hl with | [_], _ => rfl) (fld_n0 K)
  m_BadPaper := PySem.W.mg_of X G (Ho.gM_ns (Ho.ba (q_BadPaper Z).1).1)
  f_BadPaper := Ho.cls_own Z.fe Z.feN (q_BadPaper Z).1 (q_BadPaper Z).2.1 four_n0 four_f
  o_BadPaper := Ho.ini_own Z.fe Z.feN (q_BadPaper Z).1 (q_BadPaper Z).2.1 (q_BadPaper Z).2.2.1 (q_BadPaper Z).2.2.2 (fun _ _ _ _ _ _ us hl => match us, hl with | [_, _], _ => rfl) (fun _ _ _ _ _ _ self ws hl => match ws, hl with | [_], _ => rfl) (fld_n0 K)
  m_BadPattern := PySem.W.mg_of X G (Ho.gM_ns (Ho.ba (q_BadPattern Z).1).1)
  f_BadPattern := Ho.cls_own Z.fe Z.feN (q_BadPattern Z).1 (q_BadPattern Z).2.1 four_n0 four_f
  o_BadPattern := Ho.ini_own Z.fe Z.feN (q_BadPattern Z).1 (q_BadPattern Z).2.1 (q_BadPattern Z).2.2.1 (q_BadPattern Z).2.2.2 (fun _ _ _ _ _ _ us hl => match us, hl with | [_, _], _ => rfl) (fun _ _ _ _ _ _ self ws hl => match ws, hl with | [_], _ => rfl) (fld_n0 K)
  m_BadPiece := PySem.W.mg_of X G (Ho.gM_ns (Ho.ba (q_BadPiece Z).1).1)
  f_BadPiece := Ho.cls_own Z.fe Z.feN (q_BadPiece Z).1 (q_BadPiece Z).2.1 four_n0 four_f
  o_BadPiece := Ho.ini_own Z.fe Z.feN (q_BadPiece Z).1 (q_BadPiece Z).2.1 (q_BadPiece Z).2.2.1 (q_BadPiece Z).2.2.2 (fun _ _ _ _ _ _ us hl => match us, hl with | [_, _], _ => rfl) (fun _ _ _ _ _ _ self ws hl => match ws, hl with | [_], _ => rfl) (fld_n0 K)
  m_BadProgram := PySem.W.mg_of X G (Ho.gM_ns (Ho.ba (q_BadProgram Z).1).1)
  f_BadProgram := Ho.cls_own Z.fe Z.feN (q_BadProgram Z).1 (q_BadProgram Z).2.1 four_n0 four_f
  o_BadProgram := Ho.ini_own Z.fe Z.feN (q_BadProgram Z).1 (q_BadProgram Z).2.1 (q_BadProgram Z).2.2.1 (q_BadProgram Z).2.2.2 (fun _ _ _ _ _ _ us hl => match us, hl with | [_, _], _ => rfl) (fun _ _ _ _ _ _ self ws hl => match ws, hl with | [_], _ => rfl) (fld_n0 K)
  m_BadRow := PySem.W.mg_of X G (Ho.gM_ns (Ho.ba (q_BadRow Z).1).1)
  f_BadRow := Ho.cls_own Z.fe Z.feN (q_BadRow Z).1 (q_BadRow Z).2.1 four_n0 four_f
  o_BadRow := Ho.ini_own Z.fe Z.feN (q_BadRow Z).1 (q_BadRow Z).2.1 (q_BadRow Z).2.2.1 (q_BadRow Z).2.2.2 (fun _ _ _ _ _ _ us hl => match us, hl with | [_, _], _ => rfl) (fun _ _ _ _ _ _ self ws hl => match ws, hl with | [_], _ => rfl) (fld_n0 K)
  m_BadRunner := PySem.W.mg_of X G (Ho.gM_ns (Ho.ba (q_BadRunner Z).1).1)
  f_BadRunner := Ho.cls_own Z.fe Z.feN (q_BadRunner Z).1 (q_BadRunner Z).2.1 four_n0 four_f
  o_BadRunner := Ho.ini_own Z.fe Z.feN (q_BadRunner Z).1 (q_BadRunner Z).2.1 (q_BadRunner Z).2.2.1 (q_BadRunner Z).2.2.2 (fun _ _ _ _ _ _ us hl => match us, hl with | [_, _], _ => rfl) (fun _ _ _ _ _ _ self ws hl => match ws, hl with | [_], _ => rfl) (fld_n0 K)
  m_BadSaved := PySem.W.mg_of X G (Ho.gM_ns (Ho.ba (q_BadSaved Z).1).1)
  f_BadSaved := Ho.cls_own Z.fe Z.feN (q_BadSaved Z).1 (q_BadSaved Z).2.1 four_n0 four_f
  o_BadSaved := Ho.ini_own Z.fe Z.feN (q_BadSaved Z).1 (q_BadSaved Z).2.1 (q_BadSaved Z).2.2.1 (q_BadSaved Z).2.2.2 (fun _ _ _ _ _ _ us hl => match us, hl with | [_, _], _ => rfl) (fun _ _ _ _ _ _ self ws hl => match ws, hl with | [_], _ => rfl) (fld_n0 K)
  m_BadSecond := PySem.W.mg_of X G (Ho.gM_ns (Ho.ba (q_BadSecond Z).1).1)
  f_BadSecond := Ho.cls_own Z.fe Z.feN (q_BadSecond Z).1 (q_BadSecond Z).2.1 four_n0 four_f
  o_BadSecond := Ho.ini_own Z.fe Z.feN (q_BadSecond Z).1 (q_BadSecond Z).2.1 (q_BadSecond Z).2.2.1 (q_BadSecond Z).2.2.2 (fun _ _ _ _ _ _ us hl => match us, hl with | [_, _], _ => rfl) (fun _ _ _ _ _ _ self ws hl => match ws, hl with | [_], _ => rfl) (fld_n0 K)
  m_BadSet := PySem.W.mg_of X G (Ho.gM_ns (Ho.ba (q_BadSet Z).1).1)
  f_BadSet := Ho.cls_own Z.fe Z.feN (q_BadSet Z).1 (q_BadSet Z).2.1 four_n0 four_f
  o_BadSet := Ho.ini_own Z.fe Z.feN (q_BadSet Z).1 (q_BadSet Z).2.1 (q_BadSet Z).2.2.1 (q_BadSet Z).2.2.2 (fun _ _ _ _ _ _ us hl => match us, hl with | [_, _], _ => rfl) (fun _ _ _ _ _ _ self ws hl => match ws, hl with | [_], _ => rfl) (fld_n0 K)
  m_BadSigns := PySem.W.mg_of X G (Ho.gM_ns (Ho.ba (q_BadSigns Z).1).1)
  f_BadSigns := Ho.cls_own Z.fe Z.feN (q_BadSigns Z).1 (q_BadSigns Z).2.1 four_n0 four_f
  o_BadSigns := Ho.ini_own Z.fe Z.feN (q_BadSigns Z).1 (q_BadSigns Z).2.1 (q_BadSigns Z).2.2.1 (q_BadSigns Z).2.2.2 (fun _ _ _ _ _ _ us hl => match us, hl with | [_, _], _ => rfl) (fun _ _ _ _ _ _ self ws hl => match ws, hl with | [_], _ => rfl) (fld_n0 K)
  m_BadSize := PySem.W.mg_of X G (Ho.gM_ns (Ho.ba (q_BadSize Z).1).1)
  f_BadSize := Ho.cls_own Z.fe Z.feN (q_BadSize Z).1 (q_BadSize Z).2.1 four_n0 four_f
  o_BadSize := Ho.ini_own Z.fe Z.feN (q_BadSize Z).1 (q_BadSize Z).2.1 (q_BadSize Z).2.2.1 (q_BadSize Z).2.2.2 (fun _ _ _ _ _ _ us hl => match us, hl with | [_, _], _ => rfl) (fun _ _ _ _ _ _ self ws hl => match ws, hl with | [_], _ => rfl) (fld_n0 K)
  m_BadState := PySem.W.mg_of X G (Ho.gM_ns (Ho.ba (q_BadState Z).1).1)
  f_BadState := Ho.cls_own Z.fe Z.feN (q_BadState Z).1 (q_BadState Z).2.1 four_n0 four_f
  o_BadState := Ho.ini_own Z.fe Z.feN (q_BadState Z).1 (q_BadState Z).2.1 (q_BadState Z).2.2.1 (q_BadState Z).2.2.2 (fun _ _ _ _ _ _ us hl => match us, hl with | [_, _], _ => rfl) (fun _ _ _ _ _ _ self ws hl => match ws, hl with | [_], _ => rfl) (fld_n0 K)
  m_BadSteps := PySem.W.mg_of X G (Ho.gM_ns (Ho.ba (q_BadSteps Z).1).1)
  f_BadSteps := Ho.cls_own Z.fe Z.feN (q_BadSteps Z).1 (q_BadSteps Z).2.1 four_n1 four_f
  o_BadSteps := Ho.ini_own Z.fe Z.feN (q_BadSteps Z).1 (q_BadSteps Z).2.1 (q_BadSteps Z).2.2.1 (q_BadSteps Z).2.2.2 (fun _ _ _ _ _ _ us hl => match us, hl with | [_, _], _ => rfl) (fun _ _ _ _ _ _ self ws hl => match ws, hl with | [_], _ => rfl) (fld_n1 K)
  m_BadTable := PySem.W.mg_of X G (Ho.gM_ns (Ho.ba (q_BadTable Z).1).1)
  f_BadTable := Ho.cls_own Z.fe Z.feN (q_BadTable Z).1 (q_BadTable Z).2.1 four_n0 four_f
  o_BadTable := Ho.ini_own Z.fe Z.feN (q_BadTable Z).1 (q_BadTable Z).2.1 (q_BadTable Z).2.2.1 (q_BadTable Z).2.2.2 (fun _ _ _ _ _ _ us hl => match us, hl with | [_, _], _ => rfl) (fun _ _ _ _ _ _ self ws hl => match ws, hl with | [_], _ => rfl) (fld_n0 K)
  m_BadText := PySem.W.mg_of X G (Ho.gM_ns (Ho.ba (q_BadText Z).1).1)
  f_BadText := Ho.cls_own Z.fe Z.feN (q_BadText Z).1 (q_BadText Z).2.1 four_n3 four_f
  o_BadText := Ho.ini_own Z.fe Z.feN (q_BadText Z).1 (q_BadText Z).2.1 (q_BadText Z).2.2.1 (q_BadText Z).2.2.2 (fun _ _ _ _ _ _ us hl => match us, hl with | [_, _, _, _], _ => rfl) (fun _ _ _ _ _ _ self ws hl => match ws, hl with | [_, _, _], _ => rfl) (fld_n3 K)
  m_BadTriple := PySem.W.mg_of X G (Ho.gM_ns (Ho.ba (q_BadTriple Z).1).1)
  f_BadTriple := Ho.cls_own Z.fe Z.feN (q_BadTriple Z).1 (q_BadTriple Z).2.1 four_n0 four_f
  o_BadTriple := Ho.ini_own Z.fe Z.feN (q_BadTriple Z).1 (q_BadTriple Z).2.1 (q_BadTriple Z).2.2.1 (q_BadTriple Z).2.2.2 (fun _ _ _ _ _ _ us hl => match us, hl with | [_, _], _ => rfl) (fun _ _ _ _ _ _ self ws hl => match ws, hl with | [_], _ => rfl) (fld_n0 K)
  m_BadWord := PySem.W.mg_of X G (Ho.gM_ns (Ho.ba (q_BadWord Z).1).1)
  f_BadWord := Ho.cls_own Z.fe Z.feN (q_BadWord Z).1 (q_BadWord Z).2.1 four_n0 four_f
  o_BadWord := Ho.ini_own Z.fe Z.feN (q_BadWord Z).1 (q_BadWord Z).2.1 (q_BadWord Z).2.2.1 (q_BadWord Z).2.2.2 (fun _ _ _ _ _ _ us hl => match us, hl with | [_, _], _ => rfl) (fun _ _ _ _ _ _ self ws hl => match ws, hl with | [_], _ => rfl) (fld_n0 K)
  m_Done := PySem.W.mg_of X G (Ho.gM_ns (Ho.ba (q_Done Z).1).1)
  f_Done := Ho.cls_own Z.fe Z.feN (q_Done Z).1 (q_Done Z).2.1 four_z four_f
  z_Done := Ho.ex_of (q_Done Z).1 (Ho.tail_own Z.fe Z.feN (by simp) Z.feO) (q_Done Z).2.1 (by simp) (q_Done Z).2.2
  m_Full := PySem.W.mg_of X G (Ho.gM_ns (Ho.ba (q_Full Z).1).1)
  f_Full := Ho.cls_own Z.fe Z.feN (q_Full Z).1 (q_Full Z).2.1 four_n4 four_f
  o_Full := Ho.ini_own Z.fe Z.feN (q_Full Z).1 (q_Full Z).2.1 (q_Full Z).2.2.1 (q_Full Z).2.2.2 (fun _ _ _ _ _ _ us hl => match us, hl with | [_, _], _ => rfl) (fun _ _ _ _ _ _ self ws hl => match ws, hl with | [_], _ => rfl) (fld_n4 K)
  m_Gap := PySem.W.mg_of X G (Ho.gM_ns (Ho.ba (q_Gap Z).1).1)
  f_Gap := Ho.cls_own Z.fe Z.feN (q_Gap Z).1 (q_Gap Z).2.1 four_n5 four_f
  o_Gap := Ho.ini_own Z.fe Z.feN (q_Gap Z).1 (q_Gap Z).2.1 (q_Gap Z).2.2.1 (q_Gap Z).2.2.2 (fun _ _ _ _ _ _ us hl => match us, hl with | [_, _, _], _ => rfl) (fun _ _ _ _ _ _ self ws hl => match ws, hl with | [_, _], _ => rfl) (fld_n5 K)
  m_NoAgain := PySem.W.mg_of X G (Ho.gM_ns (Ho.ba (q_NoAgain Z).1).1)
  f_NoAgain := Ho.cls_own Z.fe Z.feN (q_NoAgain Z).1 (q_NoAgain Z).2.1 four_z four_f
  z_NoAgain := Ho.ex_of (q_NoAgain Z).1 (Ho.tail_own Z.fe Z.feN (by simp) Z.feO) (q_NoAgain Z).2.1 (by simp) (q_NoAgain Z).2.2
  m_NoBack := PySem.W.mg_of X G (Ho.gM_ns (Ho.ba (q_NoBack Z).1).1)
  f_NoBack := Ho.cls_own Z.fe Z.feN (q_NoBack Z).1 (q_NoBack Z).2.1 four_z four_f
  z_NoBack := Ho.ex_of (q_NoBack Z).1 (Ho.tail_own Z.fe Z.feN (by simp) Z.feO) (q_NoBack Z).2.1 (by simp) (q_NoBack Z).2.2
  m_NoFuse := PySem.W.mg_of X G (Ho.gM_ns (Ho.ba (q_NoFuse Z).1).1)
  f_NoFuse := Ho.cls_own Z.fe Z.feN (q_NoFuse Z).1 (q_NoFuse Z).2.1 four_z four_f
  z_NoFuse := Ho.ex_of (q_NoFuse Z).1 (Ho.tail_own Z.fe Z.feN (by simp) Z.feO) (q_NoFuse Z).2.1 (by simp) (q_NoFuse Z).2.2
  m_NoKind := PySem.W.mg_of X G (Ho.gM_ns (Ho.ba (q_NoKind Z).1).1)
  f_NoKind := Ho.cls_own Z.fe Z.feN (q_NoKind Z).1 (q_NoKind Z).2.1 four_n6 four_f
  o_NoKind := Ho.ini_own Z.fe Z.feN (q_NoKind Z).1 (q_NoKind Z).2.1 (q_NoKind Z).2.2.1 (q_NoKind Z).2.2.2 (fun _ _ _ _ _ _ us hl => match us, hl with | [_, _], _ => rfl) (fun _ _ _ _ _ _ self ws hl => match ws, hl with | [_], _ => rfl) (fld_n6 K)
  m_NoMove := PySem.W.mg_of X G (Ho.gM_ns (Ho.ba (q_NoMove Z).1).1)
  f_NoMove := Ho.cls_own Z.fe Z.feN (q_NoMove Z).1 (q_NoMove Z).2.1 four_n7 four_f
  o_NoMove := Ho.ini_own Z.fe Z.feN (q_NoMove Z).1 (q_NoMove Z).2.1 (q_NoMove Z).2.2.1 (q_NoMove Z).2.2.2 (fun _ _ _ _ _ _ us hl => match us, hl with | [_, _], _ => rfl) (fun _ _ _ _ _ _ self ws hl => match ws, hl with | [_], _ => rfl) (fld_n7 K)
  m_NotKind := PySem.W.mg_of X G (Ho.gM_ns (Ho.ba (q_NotKind Z).1).1)
  f_NotKind := Ho.cls_own Z.fe Z.feN (q_NotKind Z).1 (q_NotKind Z).2.1 four_n1 four_f
  o_NotKind := Ho.ini_own Z.fe Z.feN (q_NotKind Z).1 (q_NotKind Z).2.1 (q_NotKind Z).2.2.1 (q_NotKind Z).2.2.2 (fun _ _ _ _ _ _ us hl => match us, hl with | [_, _], _ => rfl) (fun _ _ _ _ _ _ self ws hl => match ws, hl with | [_], _ => rfl) (fld_n1 K)
  m_NotThere := PySem.W.mg_of X G (Ho.gM_ns (Ho.ba (q_NotThere Z).1).1)
  f_NotThere := Ho.cls_own Z.fe Z.feN (q_NotThere Z).1 (q_NotThere Z).2.1 four_n6 four_f
  o_NotThere := Ho.ini_own Z.fe Z.feN (q_NotThere Z).1 (q_NotThere Z).2.1 (q_NotThere Z).2.2.1 (q_NotThere Z).2.2.2 (fun _ _ _ _ _ _ us hl => match us, hl with | [_, _], _ => rfl) (fun _ _ _ _ _ _ self ws hl => match ws, hl with | [_], _ => rfl) (fld_n6 K)
  m_NotWatched := PySem.W.mg_of X G (Ho.gM_ns (Ho.ba (q_NotWatched Z).1).1)
  f_NotWatched := Ho.cls_own Z.fe Z.feN (q_NotWatched Z).1 (q_NotWatched Z).2.1 four_n8 four_f
  o_NotWatched := Ho.ini_own Z.fe Z.feN (q_NotWatched Z).1 (q_NotWatched Z).2.1 (q_NotWatched Z).2.2.1 (q_NotWatched Z).2.2.2 (fun _ _ _ _ _ _ us hl => match us, hl with | [_, _], _ => rfl) (fun _ _ _ _ _ _ self ws hl => match ws, hl with | [_], _ => rfl) (fld_n8 K)
  m_NotWhole := PySem.W.mg_of X G (Ho.gM_ns (Ho.ba (q_NotWhole Z).1).1)
  f_NotWhole := Ho.cls_own Z.fe Z.feN (q_NotWhole Z).1 (q_NotWhole Z).2.1 four_z four_f
  z_NotWhole := Ho.ex_of (q_NotWhole Z).1 (Ho.tail_own Z.fe Z.feN (by simp) Z.feO) (q_NotWhole Z).2.1 (by simp) (q_NotWhole Z).2.2
  m_NotWithin := PySem.W.mg_of X G (Ho.gM_ns (Ho.ba (q_NotWithin Z).1).1)
  f_NotWithin := Ho.cls_own Z.fe Z.feN (q_NotWithin Z).1 (q_NotWithin Z).2.1 four_n9 four_f
  o_NotWithin := Ho.ini_own Z.fe Z.feN (q_NotWithin Z).1 (q_NotWithin Z).2.1 (q_NotWithin Z).2.2.1 (q_NotWithin Z).2.2.2 (fun _ _ _ _ _ _ us hl => match us, hl with | [_, _], _ => rfl) (fun _ _ _ _ _ _ self ws hl => match ws, hl with | [_], _ => rfl) (fld_n9 K)
  m_OtherSigns := PySem.W.mg_of X G (Ho.gM_ns (Ho.ba (q_OtherSigns Z).1).1)
  f_OtherSigns := Ho.cls_own Z.fe Z.feN (q_OtherSigns Z).1 (q_OtherSigns Z).2.1 four_z four_f
  z_OtherSigns := Ho.ex_of (q_OtherSigns Z).1 (Ho.tail_own Z.fe Z.feN (by simp) Z.feO) (q_OtherSigns Z).2.1 (by simp) (q_OtherSigns Z).2.2
  m_Refused := PySem.W.mg_of X G (Ho.gM_ns (Ho.ba (q_Refused Z).1).1)
  f_Refused := Ho.cls_own Z.fe Z.feN (q_Refused Z).1 (q_Refused Z).2.1 four_n7 four_f
  o_Refused := Ho.ini_own Z.fe Z.feN (q_Refused Z).1 (q_Refused Z).2.1 (q_Refused Z).2.2.1 (q_Refused Z).2.2.2 (fun _ _ _ _ _ _ us hl => match us, hl with | [_, _], _ => rfl) (fun _ _ _ _ _ _ self ws hl => match ws, hl with | [_], _ => rfl) (fld_n7 K)
  m_There := PySem.W.mg_of X G (Ho.gM_ns (Ho.ba (q_There Z).1).1)
  f_There := Ho.cls_own Z.fe Z.feN (q_There Z).1 (q_There Z).2.1 four_n6 four_f
  o_There := Ho.ini_own Z.fe Z.feN (q_There Z).1 (q_There Z).2.1 (q_There Z).2.2.1 (q_There Z).2.2.2 (fun _ _ _ _ _ _ us hl => match us, hl with | [_, _], _ => rfl) (fun _ _ _ _ _ _ self ws hl => match ws, hl with | [_], _ => rfl) (fld_n6 K)
  m_TooMany := PySem.W.mg_of X G (Ho.gM_ns (Ho.ba (q_TooMany Z).1).1)
  f_TooMany := Ho.cls_own Z.fe Z.feN (q_TooMany Z).1 (q_TooMany Z).2.1 four_n4 four_f
  o_TooMany := Ho.ini_own Z.fe Z.feN (q_TooMany Z).1 (q_TooMany Z).2.1 (q_TooMany Z).2.2.1 (q_TooMany Z).2.2.2 (fun _ _ _ _ _ _ us hl => match us, hl with | [_, _], _ => rfl) (fun _ _ _ _ _ _ self ws hl => match ws, hl with | [_], _ => rfl) (fld_n4 K)
  m_Unfit := PySem.W.mg_of X G (Ho.gM_ns (Ho.ba (q_Unfit Z).1).1)
  f_Unfit := Ho.cls_own Z.fe Z.feN (q_Unfit Z).1 (q_Unfit Z).2.1 four_n7 four_f
  o_Unfit := Ho.ini_own Z.fe Z.feN (q_Unfit Z).1 (q_Unfit Z).2.1 (q_Unfit Z).2.2.1 (q_Unfit Z).2.2.2 (fun _ _ _ _ _ _ us hl => match us, hl with | [_, _], _ => rfl) (fun _ _ _ _ _ _ self ws hl => match ws, hl with | [_], _ => rfl) (fld_n7 K)
  m_Used := PySem.W.mg_of X G (Ho.gM_ns (Ho.ba (q_Used Z).1).1)
  f_Used := Ho.cls_own Z.fe Z.feN (q_Used Z).1 (q_Used Z).2.1 four_n6 four_f
  o_Used := Ho.ini_own Z.fe Z.feN (q_Used Z).1 (q_Used Z).2.1 (q_Used Z).2.2.1 (q_Used Z).2.2.2 (fun _ _ _ _ _ _ us hl => match us, hl with | [_, _], _ => rfl) (fun _ _ _ _ _ _ self ws hl => match ws, hl with | [_], _ => rfl) (fld_n6 K)
  m_UsesNumber := PySem.W.mg_of X G (Ho.gM_ns (Ho.ba (q_UsesNumber Z).1).1)
  f_UsesNumber := Ho.cls_own Z.fe Z.feN (q_UsesNumber Z).1 (q_UsesNumber Z).2.1 four_n0 four_f
  o_UsesNumber := Ho.ini_own Z.fe Z.feN (q_UsesNumber Z).1 (q_UsesNumber Z).2.1 (q_UsesNumber Z).2.2.1 (q_UsesNumber Z).2.2.2 (fun _ _ _ _ _ _ us hl => match us, hl with | [_, _], _ => rfl) (fun _ _ _ _ _ _ self ws hl => match ws, hl with | [_], _ => rfl) (fld_n0 K)
  m_Watched := PySem.W.mg_of X G (Ho.gM_ns (Ho.ba (q_Watched Z).1).1)
  f_Watched := Ho.cls_own Z.fe Z.feN (q_Watched Z).1 (q_Watched Z).2.1 four_n8 four_f
  o_Watched := Ho.ini_own Z.fe Z.feN (q_Watched Z).1 (q_Watched Z).2.1 (q_Watched Z).2.2.1 (q_Watched Z).2.2.2 (fun _ _ _ _ _ _ us hl => match us, hl with | [_, _], _ => rfl) (fun _ _ _ _ _ _ self ws hl => match ws, hl with | [_], _ => rfl) (fld_n8 K)
theorem txt_z (Z : TZ.Says K) (X : K.In h) (G : h.Ns mainGlobals mg) : Txt K mg (coZ K) where
  a_law_start := Ho.at_of X G (q_f_law_start Z).1 (q_f_law_start Z).2 (fun _ _ _ _ _ _ us hl => match us, hl with | [_], _ => rfl)
  a_law_below := Ho.at_of X G (q_f_law_below Z).1 (q_f_law_below Z).2 (fun _ _ _ _ _ _ us hl => match us, hl with | [_, _], _ => rfl)
  a_law_mixed := Ho.at_of X G (q_f_law_mixed Z).1 (q_f_law_mixed Z).2 (fun _ _ _ _ _ _ us hl => match us, hl with | [_, _], _ => rfl)
  a_law_made_a := Ho.atC_of X G (q_f_law_made_a Z).1 (q_f_law_made_a Z).2 (fun _ _ _ _ _ _ us hl => match us, hl with | [_, _, _], _ => rfl)
  a_law_made_b := Ho.atC_of X G (q_f_law_made_b Z).1 (q_f_law_made_b Z).2 (fun _ _ _ _ _ _ us hl => match us, hl with | [_, _, _], _ => rfl)
  a_law_made_c := Ho.atC_of X G (q_f_law_made_c Z).1 (q_f_law_made_c Z).2 (fun _ _ _ _ _ _ us hl => match us, hl with | [_, _, _], _ => rfl)
  a_law_made_d := Ho.atC_of X G (q_f_law_made_d Z).1 (q_f_law_made_d Z).2 (fun _ _ _ _ _ _ us hl => match us, hl with | [_, _, _], _ => rfl)
  a_law_kinds_a := Ho.at_of X G (q_f_law_kinds_a Z).1 (q_f_law_kinds_a Z).2 (fun _ _ _ _ _ _ us hl => match us, hl with | [_], _ => rfl)
  a_law_kinds_b := Ho.at_of X G (q_f_law_kinds_b Z).1 (q_f_law_kinds_b Z).2 (fun _ _ _ _ _ _ us hl => match us, hl with | [_], _ => rfl)
  a_law_kinds_c := Ho.at_of X G (q_f_law_kinds_c Z).1 (q_f_law_kinds_c Z).2 (fun _ _ _ _ _ _ us hl => match us, hl with | [_], _ => rfl)
  a_law_kinds_d := Ho.at_of X G (q_f_law_kinds_d Z).1 (q_f_law_kinds_d Z).2 (fun _ _ _ _ _ _ us hl => match us, hl with | [_], _ => rfl)
  a_law_kinds := Ho.at_of X G (q_f_law_kinds Z).1 (q_f_law_kinds Z).2 (fun _ _ _ _ _ _ us hl => match us, hl with | [_], _ => rfl)
  a_law_is_own := Ho.at_of X G (q_f_law_is_own Z).1 (q_f_law_is_own Z).2 (fun _ _ _ _ _ _ us hl => match us, hl with | [_, _], _ => rfl)
  a_law_are_these := Ho.at_of X G (q_f_law_are_these Z).1 (q_f_law_are_these Z).2 (fun _ _ _ _ _ _ us hl => match us, hl with | [_, _], _ => rfl)
  a_law := Ho.at_of X G (q_f_law Z).1 (q_f_law Z).2 (fun _ _ _ _ _ _ us hl => match us, hl with | [_], _ => rfl)
  g_enumerate := PySem.W.mg_none_of X G (Z.fr "enumerate" (List.mem_of_getElem? (i := 0) (show frZ[0]? = some _ from rfl)))
  g_int := PySem.W.mg_none_of X G (Z.fr "int" (List.mem_of_getElem? (i := 1) (show frZ[1]? = some _ from rfl)))
  g_isinstance := PySem.W.mg_none_of X G (Z.fr "isinstance" (List.mem_of_getElem? (i := 2) (show frZ[2]? = some _ from rfl)))
  g_len := PySem.W.mg_none_of X G (Z.fr "len" (List.mem_of_getElem? (i := 3) (show frZ[3]? = some _ from rfl)))
  g_list := PySem.W.mg_none_of X G (Z.fr "list" (List.mem_of_getElem? (i := 4) (show frZ[4]? = some _ from rfl)))
  g_range := PySem.W.mg_none_of X G (Z.fr "range" (List.mem_of_getElem? (i := 5) (show frZ[5]? = some _ from rfl)))
  g_repr := PySem.W.mg_none_of X G (Z.fr "repr" (List.mem_of_getElem? (i := 6) (show frZ[6]? = some _ from rfl)))
  g_ValueError := PySem.W.mg_none_of X G (Z.fr "ValueError" (List.mem_of_getElem? (i := 7) (show frZ[7]? = some _ from rfl)))
  g_LookupError := PySem.W.mg_none_of X G (Z.fr "LookupError" (List.mem_of_getElem? (i := 8) (show frZ[8]? = some _ from rfl)))
  g_ArithmeticError := PySem.W.mg_none_of X G (Z.fr "ArithmeticError" (List.mem_of_getElem? (i := 9) (show frZ[9]? = some _ from rfl)))
  g_TypeError := PySem.W.mg_none_of X G (Z.fr "TypeError" (List.mem_of_getElem? (i := 10) (show frZ[10]? = some _ from rfl)))
theorem cf_law_made_a (Z : TZ.Says K) : CodeF K "_law_made_a" s_law_made_a (Ho.gA K "_law_made_a") (Ho.cdA K (Ho.gM K "_law_made_a")) (Ho.tbA K (Ho.cdA K (Ho.gM K "_law_made_a"))) :=
  Ho.codeF_of (Z.ms "_law_made_a" (by simp)) (q_f_law_made_a Z).1 (q_f_law_made_a Z).2
theorem cf_law_made_b (Z : TZ.Says K) : CodeF K "_law_made_b" s_law_made_b (Ho.gA K "_law_made_b") (Ho.cdA K (Ho.gM K "_law_made_b")) (Ho.tbA K (Ho.cdA K (Ho.gM K "_law_made_b"))) :=
  Ho.codeF_of (Z.ms "_law_made_b" (by simp)) (q_f_law_made_b Z).1 (q_f_law_made_b Z).2
theorem cf_law_made_c (Z : TZ.Says K) : CodeF K "_law_made_c" s_law_made_c (Ho.gA K "_law_made_c") (Ho.cdA K (Ho.gM K "_law_made_c")) (Ho.tbA K (Ho.cdA K (Ho.gM K "_law_made_c"))) :=
  Ho.codeF_of (Z.ms "_law_made_c" (by simp)) (q_f_law_made_c Z).1 (q_f_law_made_c Z).2
theorem cf_law_made_d (Z : TZ.Says K) : CodeF K "_law_made_d" s_law_made_d (Ho.gA K "_law_made_d") (Ho.cdA K (Ho.gM K "_law_made_d")) (Ho.tbA K (Ho.cdA K (Ho.gM K "_law_made_d"))) :=
  Ho.codeF_of (Z.ms "_law_made_d" (by simp)) (q_f_law_made_d Z).1 (q_f_law_made_d Z).2
theorem facts_z {l : PySem.W.OpenLaw} {w : World} (Z : TZ.Says K) (X : K.In h) (G : h.Ns mainGlobals mg) : ∃ fL, mg "law" = some (.ref fL) ∧ ((∀ nm ∈ madeNames, ∀ f, mg nm = some (.ref f) → OwnTab K f h) → LawG l w K mg fL h) :=
  fin_ X G (txt_z Z X G) (err_z Z X G) (PySem.W.mg_of X G (Ho.gM_ns (Ho.ba (q_f_law_made_a Z).1).1)) (PySem.W.mg_of X G (Ho.gM_ns (Ho.ba (q_f_law_made_b Z).1).1)) (PySem.W.mg_of X G (Ho.gM_ns (Ho.ba (q_f_law_made_c Z).1).1)) (PySem.W.mg_of X G (Ho.gM_ns (Ho.ba (q_f_law_made_d Z).1).1)) (cf_law_made_a Z) (cf_law_made_b Z) (cf_law_made_c Z) (cf_law_made_d Z) Z.tb
end
theorem walkH {l : PySem.W.OpenLaw} {q : Program} {loose : List Str} {XP : (Str → Option Value) → Heap → Prop} {YP : World → Heap → Prop} {d : DefRec} {Sy : PySem.W.Frag → Prop} (hn : l.most = some 63) (hdf : d.params.defaults = []) (hd : d.name = "law") (hrec : ∀ nm ∈ madeNames, ((recsOf q).any fun e => e.name == nm) = true)
    (hY : ∀ (w : World) (h : Heap), YP w h → ∃ K : PySem.W.Frag, K.In h ∧ Sy K)
    (F : ∀ (w : World) (mg : Str → Option Value) (h : Heap) (K : PySem.W.Frag), Sy K → K.In h → h.Ns mainGlobals mg → ∃ fL, mg "law" = some (.ref fL) ∧ ((∀ nm ∈ madeNames, ∀ f, mg nm = some (.ref f) → OwnTab K f h) → LawG l w K mg fL h)) :
    PySem.W.WalkO q loose XP YP l.row.toRowW d [] (fun f vs => PySem.call f vs) := by
  refine Att.attach_callB hn hdf fun w s0 s1 mg mb fa o pm cd doc a vs ns G Y ho hdd hcd hmg hobj hints hlen hbits hgens => ?_
  obtain ⟨K, kin, sy⟩ := hY w _ Y
  have own : ∀ nm ∈ madeNames, ∀ f, mg nm = some (.ref f) → OwnTab K f s1.heap := fun nm hnm f hf c Pt o1 fd1 e dd us sl k1 k2 k3 k4 k5 => by
    obtain ⟨r, hr, hrn⟩ := List.any_eq_true.mp (hrec nm hnm)
    obtain ⟨f', o', fd', c', P', z1, z2, z3, z4, z5, ⟨⟨oc, vc, y1, _, y3, y4⟩, hP⟩⟩ := G.T.tab r hr
    rw [beq_iff_eq.mp hrn, hf] at z1
    cases z1
    rw [kin _ _ k1] at z2
    cases z2
    rw [k2] at z3
    cases z3
    rw [k3] at z4
    cases z4
    rw [kin _ _ k4] at y1
    cases y1
    cases y3
    rw [k5] at y4
    cases y4
    exact hP
  obtain ⟨fL, h1, h2⟩ := F w mg s1.heap K sy kin G.T.g
  rw [hd, h1] at hmg
  cases hmg
  obtain ⟨fd, cs, sp, t1, t2, t3, hb, want, hF⟩ := h2 own
  exact head_law (k := 4) kin G.T.g G.T.b G.T.builtins G.T.nolimit hgens t1 t2 t3 G.T.bmain hobj hints (Nat.le_trans hlen (by decide)) ⟨rfl, by decide, by decide⟩ hF hb fun H hH hS => want H a ns hlen hH hS
open PySem.W PySem.Calls in
set_option maxHeartbeats 0 in
theorem run_a (w : World) (os : OsState) : (Hx.endX 16000 RowZ.prog w os).map (fun s => HandSHeadRun.looksF RowZ.prog (boot_heap w.params) s.abs) = some true := by
  kernel_rfl
open PySem.W PySem.Calls in
set_option maxHeartbeats 0 in
theorem run_b (w : World) (os : OsState) : (Hx.endX 16000 RowZ.prog w os).map (fun s => HandSHeadRun.seenQ qZ looseZ (importedModules RowZ.prog.main.body) (fun s => xlAt qZ [] s && recOk RowZ.toRowW.records s) s.abs) = some (openGood qZ looseZ) := by
  kernel_rfl
set_option maxHeartbeats 0 in
theorem run_c (w : World) (os : OsState) : (Hx.endX 16000 RowZ.prog w os).map TZ.ob = some (TZ.hook.val w) := by
  kernel_rfl
theorem run_z (w : World) : HandSHeadRun.RunEq RowZ qZ TZ.hook TZ.ob 16000 looseZ w := Hx.run_of3 (run_a w) (run_b w) (run_c w)
end K00
open PySem PySem.W PyProof.Rows
set_option maxRecDepth 100000 in
set_option maxHeartbeats 0 in
theorem PySem.Challenge.cw_swornfilters_k00_errors_made_holds : PySem.Challenge.rw_swornfilters_k00_errors_made.Holds := by
  w_on; o_law
  refine HandSHeadRun.head_any (r := OpenLaw.row PySem.Challenge.rw_swornfilters_k00_errors_made) (q := K00.qZ) (H := K00.TZ.hook) (ob := K00.TZ.ob) (M := 16000) (loose := K00.looseZ) (d := HandSHeadRun.topDef (OpenLaw.row PySem.Challenge.rw_swornfilters_k00_errors_made).prog 78) (kwd := []) K00.TZ.ob_eq
    (by kernel_rfl) (fun s => by kernel_rfl) K00.run_z (by kernel_rfl) (by kernel_rfl) (by kernel_rfl) (by rfl) (by first | assumption | decide +kernel) (by decide +kernel) ⟨rfl, rfl, rfl, rfl, rfl, by decide +kernel⟩ ?hw ?hc
  case hw => w_witness2
  case hc =>
    exact K00.walkH (l := PySem.Challenge.rw_swornfilters_k00_errors_made) (Sy := K00.TZ.Says) rfl (by kernel_rfl) (by kernel_rfl) (by decide +kernel) (fun w h Y => Y.imp fun K z => ⟨z.1, Ho.TP.says_of z.2⟩) (fun w mg h K Z X G => K00.facts_z Z X G)
#print axioms PySem.Challenge.cw_swornfilters_k00_errors_made_holds

