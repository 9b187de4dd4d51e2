import PyProof.Rows.All
import Wide.All
import OpenK.AllK
import Wide.FinOn
import PyProof.EqAt
import PyProof.EqKinds
import PyProof.TupleCall
import KE.DataEq
import KE.KDictKeyed
import KE.SortData
import HandS.ForMost
import HandS.ForExc
import HandS.ExcValue
import HandS.TupAny
import HandS.SetFor
import HandS.Text
import HandS.Rev
import HandS.RevRange
import HandS.Conv
import KE.KDictSum
import KE.KDictCopyH
import HandS.TupSets
import HandS.ExcIs
import HandS.IsInst
import HandS.Style
import HandS.Deep
import KE.KDictDisplayH
import KE.DataMinMax
import HandS.Iter
import PySem.Challenge.RW_learnyard_k60_texts
set_option Elab.async false
set_option linter.all false
set_option maxRecDepth 100000
set_option maxHeartbeats 2000000
/-! LY: a semantics of plain data over the hand layer. -/
namespace LY
open PySem PySem.Spec PyProof.Rows L2

/-! ### results -/
inductive Rs (α : Type) where
  | ok (a : α)
  | err (c : String)
  | no
namespace Rs
def bind {α β : Type} (x : Rs α) (f : α → Rs β) : Rs β := match x with
  | .ok a => f a
  | .err c => .err c
  | .no => .no
@[simp] theorem bind_ok {α β : Type} (a : α) (f : α → Rs β) : Rs.bind (.ok a) f = f a := rfl
@[simp] theorem bind_err {α β : Type} (c : String) (f : α → Rs β) : Rs.bind (.err c) f = .err c := rfl
@[simp] theorem bind_no {α β : Type} (f : α → Rs β) : Rs.bind (.no) f = .no := rfl
end Rs

/-- what is fixed through a law's run: ec tells where a class of errors stands -/
structure Gd where
  P : Program
  w : World
  K : PySem.W.Frag
  ec : String → Addr

/-! ### dicts whose keys are data that hash -/
mutual
def keyOf : PyData → Option NestedKey
  | .none => some .none
  | .bool b => some (.num (if b = true then 1 else 0))
  | .int i => some (.num i)
  | .str x => some (.text x)
  | .tuple ds => (keysOf ds).map .tup
  | .list _ => none
  | .dict _ => none
def keysOf : List PyData → Option (List NestedKey)
  | [] => some []
  | d :: ds => (keyOf d).bind fun k => (keysOf ds).map fun ks => k :: ks
end
abbrev Ents := List (NestedKey × Addr × V)
/-- the dict's own object -/
def DicAt (P : Program) (w : World) (h : Heap) (a : Addr) (xs : Ents) : Prop :=
  (a == sysModules) = false ∧ xs.length ≤ sizeLine ∧ ∃ ys : List (NestedKey × Addr × Value), Paired (fun (p : NestedKey × Addr × V) (q : NestedKey × Addr × Value) => p.1 = q.1 ∧ p.2.1 = q.2.1 ∧ RelV p.2.2 q.2.2) xs ys ∧
    ∃ o es ep, h.get? a = some o ∧ o.ExactDict ∧ o.data = .dict es ep ∧ es.toList = ys.map (entryOfKey (nestedKind P w)) ∧ (ys.map (·.1)).Nodup
def dicO (P : Program) (w : World) (a : Addr) (xs : Ents) : HO := .ext fun h => DicAt P w h a xs

/-- an error object of a class, caught -/
def ExD (cls : Value) (a : Addr) : HO := .ext fun h => ∃ (oe : Obj) (vs : Array Value), h.get? a = some oe ∧ Zc cls none oe ∧ oe.data = .fields vs
/-- what an error object is, as data -/
def excD (c : String) : PyData := .dict [(.dict [], .str (Str.ofString c))]
/-- the script (a list that is only read) -/
def scrD (ds : List Int) : PyData := .dict [(.dict [], .list (ds.map .int))]

/-! ### values that stand for data -/
mutual
inductive Dr (G : Gd) (H : Hp) : V → PyData → Prop
  | non : Dr G H .non .none
  | bl (b : Bool) : Dr G H (.bl b) (.bool b)
  | int (i : Int) : Dr G H (.int i) (.int i)
  | str (x : Str) : Dr G H (.str x) (.str x)
  | lst {a : Addr} {xs : List V} {ds : List PyData} : H a = some (.lst xs) → DrAll G H xs ds → Dr G H (.ref a) (.list ds)
  | tup {a : Addr} {xs : List V} {ds : List PyData} : H a = some (.tup xs) → DrAll G H xs ds → Dr G H (.ref a) (.tuple ds)
  | dct {a : Addr} {xs : Ents} {ds : List (PyData × PyData)} : H a = some (dicO G.P G.w a xs) → DrKV G H xs ds → Dr G H (.ref a) (.dict ds)
  | exc {a : Addr} {c : String} : H a = some (ExD (.ref (G.ec c)) a) → Dr G H (.ref a) (excD c)
  | scr {a : Addr} {ds : List Int} : SqL G.K H a (ds.map V.int) → Dr G H (.ref a) (scrD ds)
inductive DrAll (G : Gd) (H : Hp) : List V → List PyData → Prop
  | nil : DrAll G H [] []
  | cons {v : V} {vs : List V} {d : PyData} {ds : List PyData} : Dr G H v d → DrAll G H vs ds → DrAll G H (v :: vs) (d :: ds)
inductive DrKV (G : Gd) (H : Hp) : Ents → List (PyData × PyData) → Prop
  | nil : DrKV G H [] []
  | cons {k : NestedKey} {a : Addr} {v : V} {r : Ents} {dk d : PyData} {ds : List (PyData × PyData)} : Dr G H (.ref a) dk → keyOf dk = some k → k.depth ≤ 8 → Dr G H v d → DrKV G H r ds → DrKV G H ((k, a, v) :: r) ((dk, d) :: ds)
end

/-- all that was known is known -/
def Ex (H H' : Hp) : Prop := ∀ a o, H a = some o → H' a = some o
theorem Ex.refl (H : Hp) : Ex H H := fun _ _ h => h
theorem Ex.trans {H H1 H2 : Hp} (a : Ex H H1) (b : Ex H1 H2) : Ex H H2 := fun x o h => b x o (a x o h)
theorem Ex.new {H : Hp} {p : Addr} {o : HO} (h : H p = none) : Ex H (upd H p o) := fun a u e => by
  rw [upd_ne (ne_of_none e h)]
  exact e
theorem Ex.back {H H' : Hp} {p : Addr} (e : Ex H H') (h : H' p = none) : H p = none := by
  cases h1 : H p with
  | none => rfl
  | some o =>
    rw [e p o h1] at h
    cases h

mutual
theorem Dr.mono {G : Gd} {H H' : Hp} (e : Ex H H') : ∀ {v : V} {d : PyData}, Dr G H v d → Dr G H' v d
  | _, _, .non => .non
  | _, _, .bl b => .bl b
  | _, _, .int i => .int i
  | _, _, .str x => .str x
  | _, _, .lst h t => .lst (e _ _ h) (DrAll.mono e t)
  | _, _, .tup h t => .tup (e _ _ h) (DrAll.mono e t)
  | _, _, .dct h t => .dct (e _ _ h) (DrKV.mono e t)
  | _, _, .exc h => .exc (e _ _ h)
  | _, _, .scr h => .scr (by
    rcases h with (h | ⟨o, h⟩) | h
    · exact .inl (.inl (e _ _ h))
    · exact .inl (.inr ⟨o, e _ _ h⟩)
    · exact .inr h)
theorem DrAll.mono {G : Gd} {H H' : Hp} (e : Ex H H') : ∀ {vs : List V} {ds : List PyData}, DrAll G H vs ds → DrAll G H' vs ds
  | _, _, .nil => .nil
  | _, _, .cons h t => .cons (Dr.mono e h) (DrAll.mono e t)
theorem DrKV.mono {G : Gd} {H H' : Hp} (e : Ex H H') : ∀ {xs : Ents} {ds : List (PyData × PyData)}, DrKV G H xs ds → DrKV G H' xs ds
  | _, _, .nil => .nil
  | _, _, .cons h k z v t => .cons (Dr.mono e h) k z (Dr.mono e v) (DrKV.mono e t)
end
section
variable {G : Gd} {H : Hp}
theorem DrAll.length : ∀ {vs : List V} {ds : List PyData}, DrAll G H vs ds → vs.length = ds.length
  | _, _, .nil => rfl
  | _, _, .cons _ t => congrArg (· + 1) (DrAll.length t)
theorem DrAll.append : ∀ {vs ws : List V} {ds es : List PyData}, DrAll G H vs ds → DrAll G H ws es → DrAll G H (vs ++ ws) (ds ++ es)
  | _, _, _, _, .nil, t => t
  | _, _, _, _, .cons h t, u => .cons h (DrAll.append t u)
theorem DrAll.get : ∀ {vs : List V} {ds : List PyData} {i : Nat} {d : PyData}, DrAll G H vs ds → ds[i]? = some d → ∃ v, vs[i]? = some v ∧ Dr G H v d
  | _, _, i, _, .nil, e => by simp at e
  | _, _, 0, _, .cons h _, e => by simp at e; subst e; exact ⟨_, rfl, h⟩
  | _, _, i + 1, d, .cons _ t, e => by
    obtain ⟨v, h1, h2⟩ := DrAll.get (i := i) (d := d) t (by simpa using e)
    exact ⟨v, by simpa using h1, h2⟩
theorem DrAll.getV {vs : List V} {ds : List PyData} {i : Nat} {v : V} (t : DrAll G H vs ds) (e : vs[i]? = some v) : ∃ d, ds[i]? = some d ∧ Dr G H v d := by
  obtain ⟨hl, _⟩ := List.getElem?_eq_some_iff.mp e
  have hd : i < ds.length := by rw [← t.length]; exact hl
  obtain ⟨u, h1, h2⟩ := t.get (List.getElem?_eq_getElem hd)
  rw [e] at h1
  cases h1
  exact ⟨_, List.getElem?_eq_getElem hd, h2⟩
theorem DrAll.take : ∀ {vs : List V} {ds : List PyData} (n : Nat), DrAll G H vs ds → DrAll G H (vs.take n) (ds.take n)
  | _, _, 0, _ => .nil
  | _, _, _ + 1, .nil => .nil
  | _, _, n + 1, .cons h t => .cons h (DrAll.take n t)
theorem DrAll.drop : ∀ {vs : List V} {ds : List PyData} (n : Nat), DrAll G H vs ds → DrAll G H (vs.drop n) (ds.drop n)
  | _, _, 0, t => t
  | _, _, _ + 1, .nil => .nil
  | _, _, n + 1, .cons _ t => DrAll.drop n t
theorem DrAll.reverse {vs : List V} {ds : List PyData} (t : DrAll G H vs ds) : DrAll G H vs.reverse ds.reverse := by
  induction vs generalizing ds with
  | nil => cases t; exact .nil
  | cons v r ih =>
    cases t with
    | cons h u =>
      rw [List.reverse_cons, List.reverse_cons]
      exact (ih u).append (.cons h .nil)
theorem DrAll.ints : ∀ {vs : List V} {ns : List Int}, DrAll G H vs (ns.map .int) → vs = ns.map V.int
  | _, [], .nil => rfl
  | _, _ :: _, .cons h t => by cases h; rw [DrAll.ints t]; rfl
theorem DrAll.of_ints : ∀ (ns : List Int), DrAll G H (ns.map V.int) (ns.map .int)
  | [] => .nil
  | n :: r => .cons (.int n) (DrAll.of_ints r)
theorem DrAll.bools : ∀ {vs : List V} {bs : List Bool}, DrAll G H vs (bs.map .bool) → vs = bs.map V.bl
  | _, [], .nil => rfl
  | _, _ :: _, .cons h t => by cases h; rw [DrAll.bools t]; rfl
theorem DrAll.strs : ∀ {vs : List V} {xs : List Str}, DrAll G H vs (xs.map .str) → vs = xs.map V.str
  | _, [], .nil => rfl
  | _, _ :: _, .cons h t => by cases h; rw [DrAll.strs t]; rfl
theorem DrAll.of_strs : ∀ (xs : List Str), DrAll G H (xs.map V.str) (xs.map .str)
  | [] => .nil
  | n :: r => .cons (.str n) (DrAll.of_strs r)
end

/-! ### plain data: no dict within; then it reads -/
mutual
theorem Dr.dp {G : Gd} {H : Hp} : ∀ {v : V} {d : PyData}, Dr G H v d → d.plain = true → Dp G.K H v d
  | _, _, .non, _ => .non
  | _, _, .bl b, _ => .bl b
  | _, _, .int i, _ => .int i
  | _, _, .str x, _ => .str x
  | _, _, .lst h t, p => .lst (SqL.of h) (DrAll.dp t (by simpa [PyData.plain] using p))
  | _, _, .tup h t, p => .tup (SqT.of h) (DrAll.dp t (by simpa [PyData.plain] using p))
  | _, _, .dct h t, p => by simp [PyData.plain] at p
  | _, _, .exc h, p => by simp [PyData.plain, excD] at p
  | _, _, .scr h, p => by simp [PyData.plain, scrD] at p
theorem DrAll.dp {G : Gd} {H : Hp} : ∀ {vs : List V} {ds : List PyData}, DrAll G H vs ds → PyData.plainAll ds = true → DpAll G.K H vs ds
  | _, _, .nil, _ => .nil
  | _, _, .cons h t, p => by
    rw [PyData.plainAll, Bool.and_eq_true] at p
    exact .cons (Dr.dp h p.1) (DrAll.dp t p.2)
end

/-! ### one step that adds alone: F what is known for good, H what is known -/
structure Ext (F H F' H' : Hp) : Prop where
  ff : Ex F F'
  fh : Ex F' H'
  hh : Ex H H'
  nb : ∀ a, F a = none → H a ≠ none → F' a = none
theorem Ext.refl {F H : Hp} (e : Ex F H) : Ext F H F H := ⟨Ex.refl F, e, Ex.refl H, fun _ h _ => h⟩
theorem Ext.trans {F H F1 H1 F2 H2 : Hp} (a : Ext F H F1 H1) (b : Ext F1 H1 F2 H2) : Ext F H F2 H2 where
  ff := a.ff.trans b.ff
  fh := b.fh
  hh := a.hh.trans b.hh
  nb := fun x h1 h2 => b.nb x (a.nb x h1 h2) (by
    cases e : H x with
    | none => exact absurd e h2
    | some o => rw [a.hh x o e]; exact fun z => nomatch z)
/-- a new object, known for good -/
theorem Ext.new {F H : Hp} {p : Addr} (o : HO) (e : Ex F H) (h : H p = none) : Ext F H (upd F p o) (upd H p o) where
  ff := Ex.new (e.back h)
  fh := fun a u q => by
    by_cases z : a = p
    · subst z; rw [upd_same] at q ⊢; exact q
    · rw [upd_ne z] at q ⊢; exact e a u q
  hh := Ex.new h
  nb := fun a h1 h2 => by
    by_cases z : a = p
    · subst z; exact absurd h h2
    · rw [upd_ne z]; exact h1

/-! ### environments -/
inductive Slot where
  | un
  | dat (d : PyData)
  | own (xs : List PyData)
  | dic (kvs : List (PyData × PyData))
abbrev En := List Slot
/-- where a def (or the law) began -/
structure Bs where
  F : Hp
  H : Hp
def SlotOk (G : Gd) (B : Bs) (F H : Hp) : Slot → Option V → Prop
  | .un, _ => True
  | .dat d, o => ∃ v, o = some v ∧ Dr G F v d
  | .own xs, o => ∃ p vs, o = some (.ref p) ∧ F p = none ∧ B.H p = none ∧ H p = some (.lst vs) ∧ DrAll G F vs xs
  | .dic kvs, o => ∃ p xs, o = some (.ref p) ∧ F p = none ∧ B.H p = none ∧ H p = some (dicO G.P G.w p xs) ∧ DrKV G F xs kvs
def isOwn : Slot → Bool
  | .own _ => true
  | .dic _ => true
  | _ => false
structure Rep (G : Gd) (B : Bs) (F H : Hp) (σ : L2.St) (δ : En) : Prop where
  fh : Ex F H
  bf : Ex B.F F
  bh : Ex B.H H
  nb : ∀ a, B.F a = none → B.H a ≠ none → F a = none
  len : σ.length = δ.length
  sl : ∀ (i : Nat) s, δ[i]? = some s → ∃ o, σ[i]? = some o ∧ SlotOk G B F H s o
  ap : ∀ (i j : Nat) s t p, i ≠ j → δ[i]? = some s → δ[j]? = some t → isOwn s = true → isOwn t = true → σ[i]? = some (some (.ref p)) → σ[j]? ≠ some (some (.ref p))
section
variable {G : Gd} {B : Bs} {F H F' H' : Hp} {σ : L2.St} {δ : En}
theorem SlotOk.ext (x : Ext F H F' H') {s : Slot} {o : Option V} (h : SlotOk G B F H s o) : SlotOk G B F' H' s o := by
  cases s with
  | un => trivial
  | dat d => obtain ⟨v, e, r⟩ := h; exact ⟨v, e, r.mono x.ff⟩
  | own xs => obtain ⟨p, vs, e, f, b, q, r⟩ := h; exact ⟨p, vs, e, x.nb p f (by rw [q]; exact fun z => nomatch z), b, x.hh _ _ q, r.mono x.ff⟩
  | dic kvs => obtain ⟨p, xs, e, f, b, q, r⟩ := h; exact ⟨p, xs, e, x.nb p f (by rw [q]; exact fun z => nomatch z), b, x.hh _ _ q, r.mono x.ff⟩
theorem Rep.ext (R : Rep G B F H σ δ) (x : Ext F H F' H') : Rep G B F' H' σ δ where
  fh := x.fh
  bf := R.bf.trans x.ff
  bh := R.bh.trans x.hh
  nb := fun a h1 h2 => x.nb a (R.nb a h1 h2) (by
    cases e : B.H a with
    | none => exact absurd e h2
    | some o => rw [R.bh a o e]; exact fun z => nomatch z)
  len := R.len
  sl := fun i s h => by
    obtain ⟨o, h1, h2⟩ := R.sl i s h
    exact ⟨o, h1, h2.ext x⟩
  ap := R.ap
theorem Rep.dat (R : Rep G B F H σ δ) {i : Nat} {d : PyData} (h : δ[i]? = some (.dat d)) : ∃ v, σ[i]? = some (some v) ∧ Dr G F v d := by
  obtain ⟨o, h1, v, rfl, r⟩ := R.sl i _ h
  exact ⟨v, h1, r⟩
/-- a slot is set to data -/
theorem Rep.set (R : Rep G B F H σ δ) (i : Nat) {v : V} {d : PyData} (r : Dr G F v d) : Rep G B F H (σ.set i (some v)) (δ.set i (.dat d)) where
  fh := R.fh
  bf := R.bf
  bh := R.bh
  nb := R.nb
  len := by rw [List.length_set, List.length_set]; exact R.len
  sl := fun j s h => by
    by_cases e : i = j
    · subst e
      have hi : i < δ.length := by
        obtain ⟨hl, _⟩ := List.getElem?_eq_some_iff.mp h
        simpa using hl
      rw [List.getElem?_set_self hi] at h
      cases h
      exact ⟨some v, List.getElem?_set_self (by rw [R.len]; exact hi), v, rfl, r⟩
    · rw [List.getElem?_set_ne e] at h ⊢
      exact R.sl j s h
  ap := fun j k s t p jk hj hk hs ht h1 => by
    by_cases ej : i = j
    · subst ej
      have hi : i < δ.length := by
        obtain ⟨hl, _⟩ := List.getElem?_eq_some_iff.mp hj
        simpa using hl
      rw [List.getElem?_set_self hi] at hj
      cases hj
      simp [isOwn] at hs
    · by_cases ek : i = k
      · subst ek
        have hi : i < δ.length := by
          obtain ⟨hl, _⟩ := List.getElem?_eq_some_iff.mp hk
          simpa using hl
        rw [List.getElem?_set_self hi] at hk
        cases hk
        simp [isOwn] at ht
      · rw [List.getElem?_set_ne ej] at hj h1
        rw [List.getElem?_set_ne ek] at hk ⊢
        exact R.ap j k s t p jk hj hk hs ht h1
/-- a slot is forgotten -/
theorem Rep.forget (R : Rep G B F H σ δ) (i : Nat) (o : Option V) : Rep G B F H (σ.set i o) (δ.set i .un) where
  fh := R.fh
  bf := R.bf
  bh := R.bh
  nb := R.nb
  len := by rw [List.length_set, List.length_set]; exact R.len
  sl := fun j s h => by
    by_cases e : i = j
    · subst e
      have hi : i < δ.length := by
        obtain ⟨hl, _⟩ := List.getElem?_eq_some_iff.mp h
        simpa using hl
      rw [List.getElem?_set_self hi] at h
      cases h
      exact ⟨o, List.getElem?_set_self (by rw [R.len]; exact hi), trivial⟩
    · rw [List.getElem?_set_ne e] at h ⊢
      exact R.sl j s h
  ap := fun j k s t p jk hj hk hs ht h1 => by
    by_cases ej : i = j
    · subst ej
      have hi : i < δ.length := by
        obtain ⟨hl, _⟩ := List.getElem?_eq_some_iff.mp hj
        simpa using hl
      rw [List.getElem?_set_self hi] at hj
      cases hj
      simp [isOwn] at hs
    · by_cases ek : i = k
      · subst ek
        have hi : i < δ.length := by
          obtain ⟨hl, _⟩ := List.getElem?_eq_some_iff.mp hk
          simpa using hl
        rw [List.getElem?_set_self hi] at hk
        cases hk
        simp [isOwn] at ht
      · rw [List.getElem?_set_ne ej] at hj h1
        rw [List.getElem?_set_ne ek] at hk ⊢
        exact R.ap j k s t p jk hj hk hs ht h1
end

/-! ### readings told by functions of the environment -/
abbrev Ef := En → Rs PyData
abbrev Tf := En → Rs Bool
abbrev Af := En → Rs (List PyData)
inductive Out where
  | nx (δ : En)
  | ret (d : PyData)
  | bk (δ : En)
  | ct (δ : En)
  | err (c : String) (δ : En)
  | no
abbrev Sf := En → Out

section
variable (G : Gd) (B : Bs) (W : WX)
def kE (F H : Hp) (σ : L2.St) (Q : VK) : Rs PyData → Prop
  | .ok d => ∀ v F' H', Ext F H F' H' → Dr G F' v d → Q v H'
  | .err c => ∀ F' H', Ext F H F' H' → W (.ref (G.ec c)) none σ H'
  | .no => False
def tR (f : Ef) : TE := fun σ H Q => ∃ δ F, Rep G B F H σ δ ∧ kE G W F H σ Q (f δ)
def kT (F H : Hp) (σ : L2.St) (Q : Bool → Hp → Prop) : Rs Bool → Prop
  | .ok b => ∀ F' H', Ext F H F' H' → Q b H'
  | .err c => ∀ F' H', Ext F H F' H' → W (.ref (G.ec c)) none σ H'
  | .no => False
def tT (f : Tf) : TT := fun σ H Q => ∃ δ F, Rep G B F H σ δ ∧ kT G W F H σ Q (f δ)
def kA (F H : Hp) (σ : L2.St) (Q : List V → Hp → Prop) : Rs (List PyData) → Prop
  | .ok ds => ∀ vs F' H', Ext F H F' H' → DrAll G F' vs ds → Q vs H'
  | .err c => ∀ F' H', Ext F H F' H' → W (.ref (G.ec c)) none σ H'
  | .no => False
def tA (f : Af) : TA := fun σ H Q => ∃ δ F, Rep G B F H σ δ ∧ kA G W F H σ Q (f δ)
def kS (F : Hp) (D : Ends) : Out → Prop
  | .nx δ' => ∀ σ' F' H', Ex F F' → Rep G B F' H' σ' δ' → D.nx σ' H'
  | .bk δ' => ∀ σ' F' H', Ex F F' → Rep G B F' H' σ' δ' → D.bk σ' H'
  | .ct δ' => ∀ σ' F' H', Ex F F' → Rep G B F' H' σ' δ' → D.ct σ' H'
  | .ret d => ∀ v σ' δ' F' H', Ex F F' → Rep G B F' H' σ' δ' → Dr G F' v d → D.rt v H'
  | .err c δ' => ∀ σ' F' H', Ex F F' → Rep G B F' H' σ' δ' → W (.ref (G.ec c)) none σ' H'
  | .no => False
def tS (f : Sf) : TS := fun D σ H => ∃ δ F, Rep G B F H σ δ ∧ kS G B W F D (f δ)
end
end LY

set_option maxHeartbeats 2000000
namespace LY
open PySem PySem.Spec PyProof.Rows L2

structure GX (X : Cx) (G : Gd) : Prop where
  p : X.prog = G.P
  w : X.w = G.w
  k : X.K = G.K

section
variable {X : Cx}
theorem peImp {e : Expr} {t t' : TE} (h : PE X e t) (i : ∀ σ H Q, t' σ H Q → t σ H Q) : PE X e t' := ⟨fun pins s σ H Q I q => h.run pins s σ H Q I (i σ H Q q)⟩
theorem ptImp {e : Expr} {t t' : TT} (h : PT X e t) (i : ∀ σ H Q, t' σ H Q → t σ H Q) : PT X e t' := ⟨fun pins s σ H Q I q => h.run pins s σ H Q I (i σ H Q q)⟩
theorem pwImp {e : Expr} {t t' : TT} (h : PW X e t) (i : ∀ σ H Q, t' σ H Q → t σ H Q) : PW X e t' := ⟨fun wh pins s σ H Q I q => h.run wh pins s σ H Q I (i σ H Q q)⟩
theorem paImp {es : List Expr} {t t' : TA} (h : PA X es t) (i : ∀ σ H Q, t' σ H Q → t σ H Q) : PA X es t' := ⟨fun pos pins s σ H Q I q => h.run pos pins s σ H Q I (i σ H Q q)⟩
theorem psImp {st : Stmt} {t t' : TS} (h : PS X st t) (i : ∀ D σ H, t' D σ H → t D σ H) : PS X st t' := ⟨fun pins s σ H D I q => h.run pins s σ H D I (i D σ H q)⟩
theorem pssImp {st : List Stmt} {t t' : TS} (h : PSs X st t) (i : ∀ D σ H, t' D σ H → t D σ H) : PSs X st t' := ⟨fun pins s σ H D I q => h.run pins s σ H D I (i D σ H q)⟩
end

section
variable {G : Gd} {B : Bs} {W : WX} {F H F1 H1 : Hp} {σ : L2.St} {δ : En} {Q : VK}
/-! ### going on behind a part -/
theorem kE.ext {r : Rs PyData} (k : kE G W F H σ Q r) (x : Ext F H F1 H1) : kE G W F1 H1 σ Q r := by
  cases r with
  | ok d => exact fun v F' H' y => k v F' H' (x.trans y)
  | err c => exact fun F' H' y => k F' H' (x.trans y)
  | no => exact k
theorem kT.ext {Q : Bool → Hp → Prop} {r : Rs Bool} (k : kT G W F H σ Q r) (x : Ext F H F1 H1) : kT G W F1 H1 σ Q r := by
  cases r with
  | ok d => exact fun F' H' y => k F' H' (x.trans y)
  | err c => exact fun F' H' y => k F' H' (x.trans y)
  | no => exact k
theorem kA.ext {Q : List V → Hp → Prop} {r : Rs (List PyData)} (k : kA G W F H σ Q r) (x : Ext F H F1 H1) : kA G W F1 H1 σ Q r := by
  cases r with
  | ok d => exact fun vs F' H' y => k vs F' H' (x.trans y)
  | err c => exact fun F' H' y => k F' H' (x.trans y)
  | no => exact k
/-- f's value, then what follows (an expression) -/
theorem bindE {f : Ef} {g : PyData → Rs PyData} {Q' : VK} (R : Rep G B F H σ δ) (k : kE G W F H σ Q ((f δ).bind g))
    (h : ∀ d v F1 H1, Ext F H F1 H1 → Rep G B F1 H1 σ δ → Dr G F1 v d → kE G W F1 H1 σ Q (g d) → Q' v H1) : tR G B W f σ H Q' := by
  refine ⟨δ, F, R, ?_⟩
  cases e : f δ with
  | ok d => rw [e] at k; exact fun v F1 H1 x r => h d v F1 H1 x (R.ext x) r (k.ext x)
  | err c => rw [e] at k; exact k
  | no => rw [e] at k; exact k
theorem bindET {f : Ef} {g : PyData → Rs Bool} {Q : Bool → Hp → Prop} {Q' : VK} (R : Rep G B F H σ δ) (k : kT G W F H σ Q ((f δ).bind g))
    (h : ∀ d v F1 H1, Ext F H F1 H1 → Rep G B F1 H1 σ δ → Dr G F1 v d → kT G W F1 H1 σ Q (g d) → Q' v H1) : tR G B W f σ H Q' := by
  refine ⟨δ, F, R, ?_⟩
  cases e : f δ with
  | ok d => rw [e] at k; exact fun v F1 H1 x r => h d v F1 H1 x (R.ext x) r (k.ext x)
  | err c => rw [e] at k; exact k
  | no => rw [e] at k; exact k
theorem bindEA {f : Ef} {g : PyData → Rs (List PyData)} {Q : List V → Hp → Prop} {Q' : VK} (R : Rep G B F H σ δ) (k : kA G W F H σ Q ((f δ).bind g))
    (h : ∀ d v F1 H1, Ext F H F1 H1 → Rep G B F1 H1 σ δ → Dr G F1 v d → kA G W F1 H1 σ Q (g d) → Q' v H1) : tR G B W f σ H Q' := by
  refine ⟨δ, F, R, ?_⟩
  cases e : f δ with
  | ok d => rw [e] at k; exact fun v F1 H1 x r => h d v F1 H1 x (R.ext x) r (k.ext x)
  | err c => rw [e] at k; exact k
  | no => rw [e] at k; exact k
theorem bindT {f : Tf} {g : Bool → Rs PyData} {Q' : Bool → Hp → Prop} (R : Rep G B F H σ δ) (k : kE G W F H σ Q ((f δ).bind g))
    (h : ∀ b F1 H1, Ext F H F1 H1 → Rep G B F1 H1 σ δ → kE G W F1 H1 σ Q (g b) → Q' b H1) : tT G B W f σ H Q' := by
  refine ⟨δ, F, R, ?_⟩
  cases e : f δ with
  | ok d => rw [e] at k; exact fun F1 H1 x => h d F1 H1 x (R.ext x) (k.ext x)
  | err c => rw [e] at k; exact k
  | no => rw [e] at k; exact k
theorem bindTT {f : Tf} {g : Bool → Rs Bool} {Q : Bool → Hp → Prop} {Q' : Bool → Hp → Prop} (R : Rep G B F H σ δ) (k : kT G W F H σ Q ((f δ).bind g))
    (h : ∀ b F1 H1, Ext F H F1 H1 → Rep G B F1 H1 σ δ → kT G W F1 H1 σ Q (g b) → Q' b H1) : tT G B W f σ H Q' := by
  refine ⟨δ, F, R, ?_⟩
  cases e : f δ with
  | ok d => rw [e] at k; exact fun F1 H1 x => h d F1 H1 x (R.ext x) (k.ext x)
  | err c => rw [e] at k; exact k
  | no => rw [e] at k; exact k
theorem bindA {f : Af} {g : List PyData → Rs PyData} {Q' : List V → Hp → Prop} (R : Rep G B F H σ δ) (k : kE G W F H σ Q ((f δ).bind g))
    (h : ∀ ds vs F1 H1, Ext F H F1 H1 → Rep G B F1 H1 σ δ → DrAll G F1 vs ds → kE G W F1 H1 σ Q (g ds) → Q' vs H1) : tA G B W f σ H Q' := by
  refine ⟨δ, F, R, ?_⟩
  cases e : f δ with
  | ok d => rw [e] at k; exact fun vs F1 H1 x r => h d vs F1 H1 x (R.ext x) r (k.ext x)
  | err c => rw [e] at k; exact k
  | no => rw [e] at k; exact k
theorem bindAA {f : Af} {g : List PyData → Rs (List PyData)} {Q : List V → Hp → Prop} {Q' : List V → Hp → Prop} (R : Rep G B F H σ δ) (k : kA G W F H σ Q ((f δ).bind g))
    (h : ∀ ds vs F1 H1, Ext F H F1 H1 → Rep G B F1 H1 σ δ → DrAll G F1 vs ds → kA G W F1 H1 σ Q (g ds) → Q' vs H1) : tA G B W f σ H Q' := by
  refine ⟨δ, F, R, ?_⟩
  cases e : f δ with
  | ok d => rw [e] at k; exact fun vs F1 H1 x r => h d vs F1 H1 x (R.ext x) r (k.ext x)
  | err c => rw [e] at k; exact k
  | no => rw [e] at k; exact k
end

/-! ### operations on data -/
def Rs.of {α : Type} : Option α → Rs α
  | some d => .ok d
  | none => .no
@[simp] theorem Rs.of_some {α : Type} (d : α) : Rs.of (some d) = .ok d := rfl
@[simp] theorem Rs.of_none {α : Type} : (Rs.of none : Rs α) = .no := rfl
/-- what an operation is to reach -/
def kD (G : Gd) (F H : Hp) (Q : VK) : Option PyData → Prop
  | some d => ∀ v F' H', Ext F H F' H' → Dr G F' v d → Q v H'
  | none => False
def rD (G : Gd) (g : PyData → PyData → Option PyData) : R2 := fun x y H Q => ∃ F a b, Ex F H ∧ Dr G F x a ∧ Dr G F y b ∧ kD G F H Q (g a b)
def rU1 (G : Gd) (g : PyData → Option PyData) : V → Hp → VK → Prop := fun x H Q => ∃ F a, Ex F H ∧ Dr G F x a ∧ kD G F H Q (g a)
def rC (G : Gd) (g : List PyData → Option PyData) : List V → Hp → VK → Prop := fun xs H Q => ∃ F as, Ex F H ∧ DrAll G F xs as ∧ kD G F H Q (g as)
theorem kE.kD {G : Gd} {W : WX} {F H : Hp} {σ : L2.St} {Q : VK} {o : Option PyData} (k : kE G W F H σ Q (Rs.of o)) : kD G F H Q o := by
  cases o with
  | some d => exact k
  | none => exact k
theorem kD.val {G : Gd} {F H : Hp} {Q : VK} {d : PyData} {v : V} (e : Ex F H) (r : Dr G F v d) (k : kD G F H Q (some d)) : Q v H := k v F H (Ext.refl e) r
theorem kD.new {G : Gd} {F H : Hp} {Q : VK} {d : PyData} {p : Addr} {o : HO} (e : Ex F H) (hp : H p = none) (r : Dr G (upd F p o) (.ref p) d) (k : kD G F H Q (some d)) : Q (.ref p) (upd H p o) :=
  k _ _ _ (Ext.new o e hp) r

/-! ### expressions -/
def xVar (i : Nat) : Ef := fun δ => match δ[i]? with
  | some (.dat d) => .ok d
  | _ => .no
def xC (d : PyData) : Ef := fun _ => .ok d
def xOp (g : PyData → PyData → Option PyData) (a b : Ef) : Ef := fun δ => (a δ).bind fun x => (b δ).bind fun y => Rs.of (g x y)
def xUn (g : PyData → Option PyData) (a : Ef) : Ef := fun δ => (a δ).bind fun x => Rs.of (g x)
def xNil : Af := fun _ => .ok []
def xCons (a : Ef) (r : Af) : Af := fun δ => (a δ).bind fun x => (r δ).bind fun xs => .ok (x :: xs)
def xCall (g : List PyData → Option PyData) (a : Af) : Ef := fun δ => (a δ).bind fun xs => Rs.of (g xs)
def gTupD (ds : List PyData) : Option PyData := if ds.length ≤ 100000 then some (.tuple ds) else none
def gLstD (ds : List PyData) : Option PyData := if ds.length ≤ 100000 then some (.list ds) else none
def xIf (t : Tf) (a b : Ef) : Ef := fun δ => (t δ).bind fun c => if c = true then a δ else b δ
def asB : PyData → Rs Bool
  | .bool b => .ok b
  | _ => .no
def xAnd (a b : Ef) : Ef := fun δ => (a δ).bind fun x => (asB x).bind fun c => if c = true then b δ else .ok (.bool false)
def xOr (a b : Ef) : Ef := fun δ => (a δ).bind fun x => (asB x).bind fun c => if c = true then .ok (.bool true) else b δ
def xNot (a : Ef) : Ef := fun δ => (a δ).bind fun x => (asB x).bind fun c => .ok (.bool (!c))
/-- a op b op' c -/
def xChain (g g' : PyData → PyData → Option PyData) (a b c : Ef) : Ef := fun δ => (a δ).bind fun x => (b δ).bind fun y => (Rs.of (g x y)).bind fun z => (asB z).bind fun k => if k = true then (c δ).bind fun u => Rs.of (g' y u) else .ok (.bool false)
/-! tests -/
def yB (a : Ef) : Tf := fun δ => (a δ).bind asB
def truthD : PyData → Option Bool
  | .none => some false
  | .bool b => some b
  | .int i => some (i != 0)
  | .list xs => some (!xs.isEmpty)
  | .tuple xs => some (!xs.isEmpty)
  | .dict [(.dict [], .list xs)] => some (!xs.isEmpty)
  | _ => none
def yT (a : Ef) : Tf := fun δ => (a δ).bind fun d => Rs.of (truthD d)
def yAnd (a b : Tf) : Tf := fun δ => (a δ).bind fun c => if c = true then b δ else .ok false
def yOr (a b : Tf) : Tf := fun δ => (a δ).bind fun c => if c = true then .ok true else b δ
def yNot (a : Tf) : Tf := fun δ => (a δ).bind fun c => .ok (!c)
/-- truth of an own list -/
def yOwn (i : Nat) : Tf := fun δ => match δ[i]? with
  | some (.own xs) => .ok (!xs.isEmpty)
  | some (.dat d) => Rs.of (truthD d)
  | _ => .no

section
variable {X : Cx} {G : Gd} {B : Bs} {W : WX} {a b c : Expr} {es : List Expr} {fa fb fc : Ef} {ga : Af} {pos : Pos}
theorem c_var (i : Nat) {x : Str} {pos : Pos} (hN : X.N[i]? = some x := by rfl) (hv : Vis X.env.scope x := by first | exact Or.inl rfl | exact Or.inr (Or.inl rfl) | exact Or.inr (Or.inr rfl)) (hd : (x == ("__debug__" : Str)) = false := by decide)
    (hcd : (x == ("__classdict__" : Str)) = false := by decide) : PE X (.Name x pos) (tR G B W (xVar i)) := by
  refine peImp (pe_var hN hv hd hcd) fun σ H Q ⟨δ, F, R, k⟩ => ?_
  unfold xVar at k
  split at k
  · next d e =>
    obtain ⟨v, h1, r⟩ := R.dat e
    exact ⟨v, h1, k v F H (Ext.refl R.fh) r⟩
  · exact k.elim
theorem c_int {i j} : PE X (.Constant (.int i) j pos) (tR G B W (xC (.int i))) := peImp pe_int fun σ H Q ⟨δ, F, R, k⟩ => k _ F H (Ext.refl R.fh) (.int i)
theorem c_bl {i j} : PE X (.Constant (.bool i) j pos) (tR G B W (xC (.bool i))) := peImp pe_bl fun σ H Q ⟨δ, F, R, k⟩ => k _ F H (Ext.refl R.fh) (.bl i)
theorem c_non {j} : PE X (.Constant .none j pos) (tR G B W (xC .none)) := peImp pe_non fun σ H Q ⟨δ, F, R, k⟩ => k _ F H (Ext.refl R.fh) .non
theorem c_str {i j} : PE X (.Constant (.str i) j pos) (tR G B W (xC (.str i))) := peImp pe_str fun σ H Q ⟨δ, F, R, k⟩ => k _ F H (Ext.refl R.fh) (.str i)
/-- a constant of the module -/
theorem c_glob {x : Str} {i : Int} {u : Value} {pos : Pos} (hm : X.mg x = some u) (r : RelV (.int i) u) (hg : Gl X x := by rfl) (hd : (x == ("__debug__" : Str)) = false := by decide) : PE X (.Name x pos) (tR G B W (xC (.int i))) :=
  peImp (pe_glob hg hm r hd) fun σ H Q ⟨δ, F, R, k⟩ => k _ F H (Ext.refl R.fh) (.int i)
theorem c_globS {x z : Str} {u : Value} {pos : Pos} (hm : X.mg x = some u) (r : RelV (.str z) u) (hg : Gl X x := by rfl) (hd : (x == ("__debug__" : Str)) = false := by decide) : PE X (.Name x pos) (tR G B W (xC (.str z))) :=
  peImp (pe_glob hg hm r hd) fun σ H Q ⟨δ, F, R, k⟩ => k _ F H (Ext.refl R.fh) (.str z)

theorem two_of {r : R2} {g : PyData → PyData → Option PyData} {σ : L2.St} {H : Hp} {Q : VK} (hr : ∀ x y H Q, rD G g x y H Q → r x y H Q) (q : tR G B W (xOp g fa fb) σ H Q) : tOp r (tR G B W fa) (tR G B W fb) σ H Q := by
  obtain ⟨δ, F, R, k⟩ := q
  refine bindE R k fun x v F1 H1 x1 R1 r1 k1 => ?_
  refine bindE R1 k1 fun y u F2 H2 x2 R2 r2 k2 => ?_
  exact hr _ _ _ _ ⟨F2, x, y, x2.fh, r1.mono x2.ff, r2, k2.kD⟩
theorem c_bin {op : Operator} {g : PyData → PyData → Option PyData} (ho : OpR X (binaryOp op) (rD G g)) (ha : PE X a (tR G B W fa)) (hb : PE X b (tR G B W fb)) : PE X (.BinOp a op b pos) (tR G B W (xOp g fa fb)) :=
  peImp (pe_op ho ha hb) fun σ H Q q => two_of (fun _ _ _ _ h => h) q
theorem c_cmp {op : CmpOp} {g : PyData → PyData → Option PyData} (ho : OpR X (compareOp op) (rD G g)) (ha : PE X a (tR G B W fa)) (hb : PE X b (tR G B W fb)) (hm : behindInMarks op b = false := by first | exact nomark _ | rfl) : PE X (.Compare a [op] [b] pos) (tR G B W (xOp g fa fb)) :=
  peImp (pe_cmpR ho ha hb hm) fun σ H Q q => two_of (fun _ _ _ _ h => h) q
/-- as a test -/
theorem c_tcmp {op : CmpOp} {g : PyData → PyData → Option PyData} (ho : OpR X (compareOp op) (rD G g)) (ha : PE X a (tR G B W fa)) (hb : PE X b (tR G B W fb)) (hm : behindInMarks op b = false := by first | exact nomark _ | rfl) : PT X (.Compare a [op] [b] pos) (tT G B W (yB (xOp g fa fb))) := by
  refine ptImp (pt_cmpR ho ha hb hm) fun σ H Q ⟨δ, F, R, k⟩ => ?_
  refine two_of (fun _ _ _ _ h => h) (bindET R k fun d v F1 H1 x1 R1 r1 k1 => ?_)
  cases r1 with
  | bl b => exact ⟨b, rfl, k1 F1 H1 (Ext.refl x1.fh)⟩
  | _ => exact k1.elim
theorem c_un {op : UnaryOp} {g : PyData → Option PyData} (ho : UnR X (unaryOp op) (rU1 G g)) (ha : PE X a (tR G B W fa)) : PE X (.UnaryOp op a pos) (tR G B W (xUn g fa)) := by
  refine peImp (pe_un ho ha) fun σ H Q ⟨δ, F, R, k⟩ => ?_
  exact bindE R k fun x v F1 H1 x1 R1 r1 k1 => ⟨F1, x, x1.fh, r1, k1.kD⟩
theorem c_anil : PA X [] (tA G B W xNil) := paImp pa_nil fun σ H Q ⟨δ, F, R, k⟩ => k [] F H (Ext.refl R.fh) .nil
theorem c_acons (ha : PE X a (tR G B W fa)) (hr : PA X es (tA G B W ga)) (hs : starEach (a :: es) X.env = (false, eval a X.env) :: starEach es X.env := by rfl) : PA X (a :: es) (tA G B W (xCons fa ga)) := by
  refine paImp (pa_cons ha hr hs) fun σ H Q ⟨δ, F, R, k⟩ => ?_
  refine bindEA R k fun x v F1 H1 x1 R1 r1 k1 => ?_
  exact bindAA R1 k1 fun xs vs F2 H2 x2 R2 r2 k2 => k2 (v :: vs) F2 H2 (Ext.refl x2.fh) (.cons (r1.mono x2.ff) r2)
theorem bigOf {n : Nat} (h : n ≤ 100000) : n ≤ sizeLine := Nat.le_trans h (by decide)
theorem bigLt {n : Nat} (h : n < 100000) : n < sizeLine := Nat.lt_of_lt_of_le h (by decide)
theorem c_tup {n} (h : PA X es (tA G B W ga)) : PE X (.Tuple es n pos) (tR G B W (xCall gTupD ga)) := by
  refine peImp (pe_tup h) fun σ H Q ⟨δ, F, R, k⟩ => ?_
  refine bindA R k fun xs vs F1 H1 x1 R1 r1 k1 => ?_
  unfold gTupD at k1
  split at k1
  · next hl =>
    refine ⟨by rw [r1.length]; exact bigOf hl, fun p hp => ?_⟩
    exact kD.new x1.fh hp (.tup upd_same (r1.mono (Ex.new (x1.fh.back hp)))) k1.kD
  · exact k1.elim
theorem c_lst (h : PA X es (tA G B W ga)) : PE X (.List es pos) (tR G B W (xCall gLstD ga)) := by
  refine peImp (pe_lst h) fun σ H Q ⟨δ, F, R, k⟩ => ?_
  refine bindA R k fun xs vs F1 H1 x1 R1 r1 k1 => ?_
  unfold gLstD at k1
  split at k1
  · next hl =>
    refine ⟨by rw [r1.length]; exact bigOf hl, fun p hp => ?_⟩
    exact kD.new x1.fh hp (.lst upd_same (r1.mono (Ex.new (x1.fh.back hp)))) k1.kD
  · exact k1.elim
/-- a built-in by its name -/
theorem c_callB {id : String} {x : Str} {p : Pos} {g : List PyData → Option PyData} (hc : CallR X (.builtin id) (rC G g)) (hm : X.mg x = none) (ha : PA X (a :: es) (tA G B W ga)) (hg : Gl X x := by rfl) (hv : bootBuiltins x = some (.builtin id) := by decide +kernel) (hn : x ≠ "__name__" := by decide) (hdb : (x == ("__debug__" : Str)) = false := by decide)
    (he : starEach (a :: es) X.env = (false, eval a X.env) :: starEach es X.env := by rfl) (hpl : (backTo pos (starEach es X.env)).any (·.1) = false := by rfl) : PE X (.Call (.Name x p) (a :: es) [] pos) (tR G B W (xCall g ga)) := by
  refine peImp (pe_callB hc hg hm hv ha hn hdb he hpl) fun σ H Q ⟨δ, F, R, k⟩ => ?_
  exact bindA R k fun xs vs F1 H1 x1 R1 r1 k1 => ⟨F1, xs, x1.fh, r1, k1.kD⟩
theorem c_callT {T : String} {x : Str} {p : Pos} {g : List PyData → Option PyData} (hc : CallR X (.type T) (rC G g)) (hm : X.mg x = none) (ha : PA X (a :: es) (tA G B W ga)) (hg : Gl X x := by rfl) (hv : bootBuiltins x = some (.type T) := by decide +kernel) (hn : x ≠ "__name__" := by decide) (hdb : (x == ("__debug__" : Str)) = false := by decide)
    (he : starEach (a :: es) X.env = (false, eval a X.env) :: starEach es X.env := by rfl) (hpl : (backTo pos (starEach es X.env)).any (·.1) = false := by rfl) : PE X (.Call (.Name x p) (a :: es) [] pos) (tR G B W (xCall g ga)) := by
  refine peImp (pe_callTy hc hg hm hv ha hn hdb he hpl) fun σ H Q ⟨δ, F, R, k⟩ => ?_
  exact bindA R k fun xs vs F1 H1 x1 R1 r1 k1 => ⟨F1, xs, x1.fh, r1, k1.kD⟩

/-! tests -/
variable {ta tb : Tf}
/-- the value of an expression as a test: he holds of names, calls, subscripts .. -/
theorem c_tr (hG : GX X G) (ha : PE X a (tR G B W fa)) (he : ∀ whole, isTrue a X.env whole = (do let v ← whole; standAt a.pos; holding [v] (truthy v)) := by intro _; rfl) : PT X a (tT G B W (yT fa)) := by
  refine ptImp (pt_truth ha he) fun σ H Q ⟨δ, F, R, k⟩ => ?_
  refine bindET R k fun d v F1 H1 x1 R1 r1 k1 => ?_
  have e1 := hG.k
  cases r1 with
  | non => exact ⟨false, rfl, k1 F1 H1 (Ext.refl x1.fh)⟩
  | bl b => exact ⟨b, rfl, k1 F1 H1 (Ext.refl x1.fh)⟩
  | int i => exact ⟨_, rfl, k1 F1 H1 (Ext.refl x1.fh)⟩
  | str i => exact k1.elim
  | lst h t => exact ⟨_, .inl ⟨_, SqL.of (x1.fh _ _ h), rfl⟩, by
      have q := k1 F1 H1 (Ext.refl x1.fh)
      cases t <;> exact q⟩
  | tup h t => exact ⟨_, .inr (.inl ⟨_, SqT.of (x1.fh _ _ h), rfl⟩), by
      have q := k1 F1 H1 (Ext.refl x1.fh)
      cases t <;> exact q⟩
  | dct h t =>
    cases t with
    | nil => exact k1.elim
    | cons h1 h2 h3 h4 h5 =>
      rename_i dk d ds
      cases dk with
      | dict l => simp [keyOf] at h2
      | _ => exact k1.elim
  | exc h => exact k1.elim
  | scr h => exact ⟨_, .inl ⟨_, (show SqL X.K H1 _ _ by
      rw [e1]
      rcases h with (h | ⟨o, h⟩) | h
      · exact .inl (.inl (x1.fh _ _ h))
      · exact .inl (.inr ⟨o, x1.fh _ _ h⟩)
      · exact .inr h), rfl⟩, by
      have q := k1 F1 H1 (Ext.refl x1.fh)
      rename_i ds
      cases ds <;> exact q⟩
theorem c_tnot (ha : PT X a (tT G B W ta)) : PT X (.UnaryOp .Not a pos) (tT G B W (yNot ta)) := by
  refine ptImp (pt_not ha) fun σ H Q ⟨δ, F, R, k⟩ => ?_
  exact bindTT R k fun b F1 H1 x1 R1 k1 => k1 F1 H1 (Ext.refl x1.fh)
theorem c_wand1 (ha : PT X a (tT G B W ta)) : PW X (.BoolOp .And [a] pos) (tT G B W ta) := pw_and1 ha
theorem c_wor1 (ha : PT X a (tT G B W ta)) : PW X (.BoolOp .Or [a] pos) (tT G B W ta) := pw_or1 ha
theorem c_wand (ha : PT X a (tT G B W ta)) (hb : PW X (.BoolOp .And (b :: es) pos) (tT G B W tb)) : PW X (.BoolOp .And (a :: b :: es) pos) (tT G B W (yAnd ta tb)) := by
  refine pwImp (pw_and ha hb) fun σ H Q ⟨δ, F, R, k⟩ => ?_
  refine bindTT R k fun c F1 H1 x1 R1 k1 => ?_
  cases c with
  | true => exact ⟨δ, F1, R1, k1⟩
  | false => exact k1 F1 H1 (Ext.refl x1.fh)
theorem c_wor (ha : PT X a (tT G B W ta)) (hb : PW X (.BoolOp .Or (b :: es) pos) (tT G B W tb)) : PW X (.BoolOp .Or (a :: b :: es) pos) (tT G B W (yOr ta tb)) := by
  refine pwImp (pw_or ha hb) fun σ H Q ⟨δ, F, R, k⟩ => ?_
  refine bindTT R k fun c F1 H1 x1 R1 k1 => ?_
  cases c with
  | true => exact k1 F1 H1 (Ext.refl x1.fh)
  | false => exact ⟨δ, F1, R1, k1⟩
/-! as values -/
theorem c_if (hc : PT X c (tT G B W ta)) (ha : PE X a (tR G B W fa)) (hb : PE X b (tR G B W fb)) : PE X (.IfExp c a b pos) (tR G B W (xIf ta fa fb)) := by
  refine peImp (pe_ifExp hc ha hb) fun σ H Q ⟨δ, F, R, k⟩ => ?_
  refine bindT R k fun c F1 H1 x1 R1 k1 => ?_
  cases c with
  | true => exact ⟨δ, F1, R1, k1⟩
  | false => exact ⟨δ, F1, R1, k1⟩
theorem c_one {op} (ha : PE X a (tR G B W fa)) : PE X (.BoolOp op [a] pos) (tR G B W fa) := pe_one ha
theorem c_and (ha : PE X a (tR G B W fa)) (hb : PE X (.BoolOp .And (b :: es) pos) (tR G B W fb)) : PE X (.BoolOp .And (a :: b :: es) pos) (tR G B W (xAnd fa fb)) := by
  refine peImp (pe_and ha hb) fun σ H Q ⟨δ, F, R, k⟩ => ?_
  refine bindE R k fun d v F1 H1 x1 R1 r1 k1 => ?_
  cases r1 with
  | bl c => cases c with
    | true => exact ⟨true, rfl, δ, F1, R1, k1⟩
    | false => exact ⟨false, rfl, k1 _ F1 H1 (Ext.refl x1.fh) (.bl false)⟩
  | _ => exact k1.elim
theorem c_or (ha : PE X a (tR G B W fa)) (hb : PE X (.BoolOp .Or (b :: es) pos) (tR G B W fb)) : PE X (.BoolOp .Or (a :: b :: es) pos) (tR G B W (xOr fa fb)) := by
  refine peImp (pe_or ha hb) fun σ H Q ⟨δ, F, R, k⟩ => ?_
  refine bindE R k fun d v F1 H1 x1 R1 r1 k1 => ?_
  cases r1 with
  | bl c => cases c with
    | true => exact ⟨true, rfl, k1 _ F1 H1 (Ext.refl x1.fh) (.bl true)⟩
    | false => exact ⟨false, rfl, δ, F1, R1, k1⟩
  | _ => exact k1.elim
theorem c_not (ha : PE X a (tR G B W fa)) : PE X (.UnaryOp .Not a pos) (tR G B W (xNot fa)) := by
  refine peImp (pe_not ha) fun σ H Q ⟨δ, F, R, k⟩ => ?_
  refine bindE R k fun d v F1 H1 x1 R1 r1 k1 => ?_
  cases r1 with
  | bl c => exact ⟨c, rfl, k1 _ F1 H1 (Ext.refl x1.fh) (.bl _)⟩
  | _ => exact k1.elim
theorem chain_of {r r' : R2} {g g' : PyData → PyData → Option PyData} {σ : L2.St} {H : Hp} {Q : VK} (hr : ∀ x y H Q, rD G g x y H Q → r x y H Q) (hr' : ∀ x y H Q, rD G g' x y H Q → r' x y H Q) (q : tR G B W (xChain g g' fa fb fc) σ H Q) :
    tChain r r' (tR G B W fa) (tR G B W fb) (tR G B W fc) σ H Q := by
  obtain ⟨δ, F, R, k⟩ := q
  refine bindE R k fun x v F1 H1 x1 R1 r1 k1 => ?_
  refine bindE R1 k1 fun y u F2 H2 x2 R2 r2 k2 => ?_
  refine hr _ _ _ _ ⟨F2, x, y, x2.fh, r1.mono x2.ff, r2, ?_⟩
  cases e : g x y with
  | none => rw [e] at k2; exact k2.elim
  | some z =>
    rw [e] at k2
    intro vz F3 H3 x3 r3
    have k3 := k2.ext x3
    cases r3 with
    | bl c => cases c with
      | true =>
        refine ⟨true, rfl, ?_⟩
        rw [if_pos rfl]
        exact bindE (R2.ext x3) k3 fun u w F4 H4 x4 R4 r4 k4 => hr' _ _ _ _ ⟨F4, y, u, x4.fh, (r2.mono x3.ff).mono x4.ff, r4, k4.kD⟩
      | false =>
        refine ⟨false, rfl, ?_⟩
        rw [if_neg Bool.false_ne_true]
        exact k3 _ F3 H3 (Ext.refl x3.fh) (.bl false)
    | _ => exact k3.elim
theorem c_chain {op op' : CmpOp} {g g' : PyData → PyData → Option PyData} (ho : OpR X (compareOp op) (rD G g)) (ho' : OpR X (compareOp op') (rD G g')) (ha : PE X a (tR G B W fa)) (hb : PE X b (tR G B W fb)) (hc : PE X c (tR G B W fc))
    (hm : lastMarks [op, op'] [b, c] = false := by with_unfolding_all rfl) : PE X (.Compare a [op, op'] [b, c] pos) (tR G B W (xChain g g' fa fb fc)) :=
  peImp (pe_chain ho ho' ha hb hc hm) fun σ H Q q => chain_of (fun _ _ _ _ h => h) (fun _ _ _ _ h => h) q
theorem c_tchain {op op' : CmpOp} {g g' : PyData → PyData → Option PyData} (ho : OpR X (compareOp op) (rD G g)) (ho' : OpR X (compareOp op') (rD G g')) (ha : PE X a (tR G B W fa)) (hb : PE X b (tR G B W fb)) (hc : PE X c (tR G B W fc))
    (hm : lastMarks [op, op'] [b, c] = false := by with_unfolding_all rfl) : PT X (.Compare a [op, op'] [b, c] pos) (tT G B W (yB (xChain g g' fa fb fc))) := by
  refine ptImp (pt_chain ho ho' ha hb hc hm) fun σ H Q ⟨δ, F, R, k⟩ => ?_
  refine chain_of (fun _ _ _ _ h => h) (fun _ _ _ _ h => h) (bindET R k fun d v F1 H1 x1 R1 r1 k1 => ?_)
  cases r1 with
  | bl b => exact ⟨b, rfl, k1 F1 H1 (Ext.refl x1.fh)⟩
  | _ => exact k1.elim
end
end LY

set_option maxHeartbeats 4000000
namespace LY
open PySem PySem.Spec PyProof.Rows L2

/-! ### data that compare and hash -/
def okD (d : PyData) : Bool := d.plain && decide (d.depth ≤ 20)
theorem okD.plain {d : PyData} (h : okD d = true) : d.plain = true := (Bool.and_eq_true_iff.mp h).1
theorem okD.depth {d : PyData} (h : okD d = true) : d.depth ≤ 20 := of_decide_eq_true (Bool.and_eq_true_iff.mp h).2
section
variable {X : Cx} {G : Gd} {pins : List (Addr × Obj)} {σ : L2.St} {F H : Hp} {s : Shared} {x y : V} {v u : Value}
theorem readsD (hG : GX X G) (I : Inv X pins σ H s) (e : Ex F H) {d : PyData} (r : Dr G F x d) (p : d.plain = true) (rx : RelV x v) : ∃ as, Reads s.heap v d as :=
  Dp.reads I d x v (by rw [hG.k]; exact (r.mono e).dp p) rx
theorem readsAllD (hG : GX X G) (I : Inv X pins σ H s) (e : Ex F H) {ds : List PyData} {xs : List V} {us : List Value} (r : DrAll G F xs ds) (p : PyData.plainAll ds = true) (rx : Vals xs us) : ∃ as, ReadsAll s.heap us ds as :=
  Dp.readsAll I ds xs us (by rw [hG.k]; exact (r.mono e).dp p) rx
end

/-! ### operators by data -/
def gAdd : PyData → PyData → Option PyData
  | .int i, .int j => some (.int (i + j))
  | .str i, .str j => if i.length + j.length ≤ 100000 then some (.str (i ++ j)) else none
  | .list xs, .list ys => if xs.length + ys.length ≤ 100000 then some (.list (xs ++ ys)) else none
  | .tuple xs, .tuple ys => if xs.length + ys.length ≤ 100000 then some (.tuple (xs ++ ys)) else none
  | _, _ => none
def gSub : PyData → PyData → Option PyData
  | .int i, .int j => some (.int (i - j))
  | _, _ => none
def smallI (i : Int) : Bool := decide (-(2 ^ 64) < i) && decide (i < 2 ^ 64)
def gMul : PyData → PyData → Option PyData
  | .int i, .int j => if (smallI i || smallI j) = true then some (.int (i * j)) else none
  | .list xs, .int k => if 0 ≤ k ∧ k ≤ 1000 ∧ xs.length ≤ 100 then some (.list (List.replicate k.toNat xs).flatten) else none
  | _, _ => none
def gDiv : PyData → PyData → Option PyData
  | .int i, .int j => if j ≠ 0 ∧ j.natAbs < 1073741824 then some (.int (i.fdiv j)) else none
  | _, _ => none
def gMod : PyData → PyData → Option PyData
  | .int i, .int j => if j ≠ 0 then some (.int (i.fmod j)) else none
  | _, _ => none
def gEq (x y : PyData) : Option PyData := if (okD x && okD y) = true then some (.bool (PyData.eqv x y)) else none
def gNe (x y : PyData) : Option PyData := if (okD x && okD y) = true then some (.bool (!PyData.eqv x y)) else none
def gLt (x y : PyData) : Option PyData := if (okD x && okD y && PySem.W.alike x y && !PyData.eqv x .none) = true then some (.bool (PySem.W.dataLt x y)) else none
def gLe : PyData → PyData → Option PyData
  | .int i, .int j => some (.bool (decide (i ≤ j)))
  | _, _ => none
def gGt : PyData → PyData → Option PyData
  | .int i, .int j => some (.bool (decide (j < i)))
  | _, _ => none
def gGe : PyData → PyData → Option PyData
  | .int i, .int j => some (.bool (decide (j ≤ i)))
  | _, _ => none
def lookD (kvs : List (PyData × PyData)) (k : PyData) : Option PyData := (kvs.find? fun p => PyData.eqv p.1 k).map (·.2)
def gInB (x : PyData) : PyData → Option Bool
  | .list ds => if (okD x && okD (.list ds)) = true then some (ds.any fun z => PyData.eqv z x) else none
  | .tuple ds => if (okD x && okD (.tuple ds)) = true then some (ds.any fun z => PyData.eqv z x) else none
  | .str t => match x with
    | .str z => some (!(Builtin.Str.occurrences t z 0 t.length 1).isEmpty)
    | _ => none
  | _ => none
def gIn (x y : PyData) : Option PyData := (gInB x y).map .bool
def gNotIn (x y : PyData) : Option PyData := (gInB x y).map fun b => .bool (!b)
def isNoneD : PyData → Bool
  | .none => true
  | _ => false
def gIs (x y : PyData) : Option PyData := match y with
  | .none => some (.bool (isNoneD x))
  | _ => none
def gIsNot (x y : PyData) : Option PyData := match y with
  | .none => some (.bool (!isNoneD x))
  | _ => none
def gNeg : PyData → Option PyData
  | .int i => some (.int (-i))
  | _ => none
theorem isNone_of {G : Gd} {H : Hp} {v : V} {d : PyData} (r : Dr G H v d) : decide (v = .non) = isNoneD d := by
  cases r <;> first | rfl | simp [isNoneD, excD, scrD]

section
variable {X : Cx} {G : Gd}
theorem o_add (hG : GX X G) : OpR X (binaryOp .Add) (rD G gAdd) := by
  intro pins s σ H x y v u Q I rx ry h
  obtain ⟨F, a, b, e, da, db, k⟩ := h
  cases da with
  | int i => cases db with
    | int j => exact op_add pins s σ H _ _ v u Q I rx ry ⟨i, j, rfl, rfl, k.val e (.int _)⟩
    | _ => exact False.elim k
  | str i => cases db with
    | str j =>
      unfold gAdd at k
      dsimp only at k
      split at k
      · next hl => exact op_add_str pins s σ H _ _ v u Q I rx ry ⟨i, j, rfl, rfl, bigOf hl, k.val e (.str _)⟩
      · exact False.elim k
    | _ => exact False.elim k
  | lst h1 t1 => cases db with
    | lst h2 t2 =>
      unfold gAdd at k
      dsimp only at k
      split at k
      · next hl => exact op_cat pins s σ H _ _ v u Q I rx ry ⟨_, _, _, _, rfl, rfl, e _ _ h1, e _ _ h2, by rw [t1.length, t2.length]; exact bigOf hl, fun p hp => kD.new e hp (.lst upd_same ((t1.append t2).mono (Ex.new (e.back hp)))) k⟩
      · exact False.elim k
    | _ => exact False.elim k
  | tup h1 t1 => cases db with
    | tup h2 t2 =>
      unfold gAdd at k
      dsimp only at k
      split at k
      · next hl =>
        refine op_catA pins s σ H _ _ v u Q I rx ry ⟨_, _, _, _, rfl, rfl, SqT.of (e _ _ h1), SqT.of (e _ _ h2), by rw [t1.length, t2.length]; exact bigOf hl, fun z => ?_, fun z1 z => ?_, fun _ _ p hp => kD.new e hp (.tup upd_same ((t1.append t2).mono (Ex.new (e.back hp)))) k⟩
        · subst z
          cases t1
          exact k.val e (.tup h2 t2)
        · subst z
          cases t2
          rw [List.append_nil] at k
          exact k.val e (.tup h1 t1)
      · exact False.elim k
    | _ => exact False.elim k
  | _ => exact False.elim k
theorem o_sub : OpR X (binaryOp .Sub) (rD G gSub) := by
  intro pins s σ H x y v u Q I rx ry h
  obtain ⟨F, a, b, e, da, db, k⟩ := h
  cases da with
  | int i => cases db with
    | int j => exact op_sub pins s σ H _ _ v u Q I rx ry ⟨i, j, rfl, rfl, k.val e (.int _)⟩
    | _ => exact False.elim k
  | _ => exact False.elim k
theorem smallI_ok {i : Int} (h : smallI i = true) : -(2 ^ 64) < i ∧ i < 2 ^ 64 := by
  unfold smallI at h
  rw [Bool.and_eq_true] at h
  exact ⟨of_decide_eq_true h.1, of_decide_eq_true h.2⟩
theorem flat_rep {G : Gd} {H : Hp} {xs : List V} {ds : List PyData} (t : DrAll G H xs ds) : ∀ n : Nat, DrAll G H (List.replicate n xs).flatten (List.replicate n ds).flatten
  | 0 => .nil
  | n + 1 => by
    rw [List.replicate_succ, List.replicate_succ, List.flatten_cons, List.flatten_cons]
    exact t.append (flat_rep t n)
theorem o_mul : OpR X (binaryOp .Mult) (rD G gMul) := by
  intro pins s σ H x y v u Q I rx ry h
  obtain ⟨F, a, b, e, da, db, k⟩ := h
  cases da with
  | int i => cases db with
    | int j =>
      unfold gMul at k
      dsimp only at k
      split at k
      · next hl =>
        have hc : CMul i j := by
          rw [Bool.or_eq_true] at hl
          rcases hl with h | h
          · exact .inl (smallI_ok h)
          · exact .inr (smallI_ok h)
        exact op_mul pins s σ H _ _ v u Q I rx ry ⟨i, j, rfl, rfl, hc, k.val e (.int _)⟩
      · exact False.elim k
    | _ => exact False.elim k
  | lst h1 t1 => cases db with
    | int j =>
      unfold gMul at k
      dsimp only at k
      split at k
      · next hl =>
        obtain ⟨h0, h9, hx⟩ := hl
        have hm : ∀ n : Nat, n ≤ 100 → n * j.toNat ≤ 100000 := fun n hn => by
          have : j.toNat ≤ 1000 := by omega
          calc n * j.toNat ≤ 100 * 1000 := Nat.mul_le_mul hn this
            _ = 100000 := rfl
        exact op_rep pins s σ H _ _ v u Q I rx ry ⟨_, j, _, rfl, rfl, e _ _ h1, by omega, by omega, bigOf (by rw [t1.length]; exact hm _ hx), fun p hp => kD.new e hp (.lst upd_same ((flat_rep t1 _).mono (Ex.new (e.back hp)))) k⟩
      · exact False.elim k
    | _ => exact False.elim k
  | _ => exact False.elim k
theorem o_div : OpR X (binaryOp .FloorDiv) (rD G gDiv) := by
  intro pins s σ H x y v u Q I rx ry h
  obtain ⟨F, a, b, e, da, db, k⟩ := h
  cases da with
  | int i => cases db with
    | int j =>
      unfold gDiv at k
      dsimp only at k
      split at k
      · next hl => exact op_fdivN pins s σ H _ _ v u Q I rx ry ⟨i, j, rfl, rfl, hl, k.val e (.int _)⟩
      · exact False.elim k
    | _ => exact False.elim k
  | _ => exact False.elim k
theorem o_mod : OpR X (binaryOp .Mod) (rD G gMod) := by
  intro pins s σ H x y v u Q I rx ry h
  obtain ⟨F, a, b, e, da, db, k⟩ := h
  cases da with
  | int i => cases db with
    | int j =>
      unfold gMod at k
      dsimp only at k
      split at k
      · next hl => exact op_modN pins s σ H _ _ v u Q I rx ry ⟨i, j, rfl, rfl, hl, k.val e (.int _)⟩
      · exact False.elim k
    | _ => exact False.elim k
  | _ => exact False.elim k
/-- how much of the stack is left -/
structure Rm (X : Cx) : Prop where
  u : X.A.units + 100 < cLine
theorem Rm.of {k : Nat} (r : Room k X.A) : Rm X := ⟨by have := r.un; omega⟩
theorem Rm.at {X : Cx} (h : Rm X) {n : Nat} (hn : n ≤ 100) : X.A.units + n < cLine := Nat.lt_of_le_of_lt (Nat.add_le_add_left hn _) h.u
theorem o_eq (hG : GX X G) (hr : Rm X) : OpR X (compareOp .Eq) (rD G gEq) := by
  intro pins s σ H x y v u Q I rx ry h
  obtain ⟨F, a, b, e, da, db, k⟩ := h
  unfold gEq at k
  split at k
  · next hl =>
    rw [Bool.and_eq_true] at hl
    obtain ⟨as, ra⟩ := readsD hG I e da (okD.plain hl.1) rx
    obtain ⟨bs, rb⟩ := readsD hG I e db (okD.plain hl.2) ry
    have hd := okD.depth hl.1
    exact SeqAt.eq_plain ra rb (okD.plain hl.1) (okD.plain hl.2) (hr.at (by omega)) ⟨.bl _, H, I, rfl, k.val e (.bl _)⟩
  · exact False.elim k
theorem o_ne (hG : GX X G) (hr : Rm X) : OpR X (compareOp .NotEq) (rD G gNe) := by
  intro pins s σ H x y v u Q I rx ry h
  obtain ⟨F, a, b, e, da, db, k⟩ := h
  unfold gNe at k
  split at k
  · next hl =>
    rw [Bool.and_eq_true] at hl
    obtain ⟨as, ra⟩ := readsD hG I e da (okD.plain hl.1) rx
    obtain ⟨bs, rb⟩ := readsD hG I e db (okD.plain hl.2) ry
    have hd := okD.depth hl.1
    exact SeqAt.ne_plain ra rb (okD.plain hl.1) (okD.plain hl.2) (hr.at (by omega)) ⟨.bl _, H, I, rfl, k.val e (.bl _)⟩
  · exact False.elim k
theorem o_lt (hG : GX X G) (hr : Rm X) : OpR X (compareOp .Lt) (rD G gLt) := by
  intro pins s σ H x y v u Q I rx ry h
  obtain ⟨F, a, b, e, da, db, k⟩ := h
  unfold gLt at k
  split at k
  · next hl =>
    simp only [Bool.and_eq_true, Bool.not_eq_true'] at hl
    obtain ⟨⟨⟨h1, h2⟩, h3⟩, h4⟩ := hl
    obtain ⟨as, ra⟩ := readsD hG I e da (okD.plain h1) rx
    obtain ⟨bs, rb⟩ := readsD hG I e db (okD.plain h2) ry
    have hd := okD.depth h1
    have hn : a ≠ .none := fun z => by subst z; simp [PyData.eqv] at h4
    exact PySem.W.rcLt_alike a b X.A s v u as bs ra rb h3 hn (hr.at (by omega)) _ _ _ _ ⟨.bl _, H, I, rfl, k.val e (.bl _)⟩
  · exact False.elim k
theorem o_le : OpR X (compareOp .LtE) (rD G gLe) := by
  intro pins s σ H x y v u Q I rx ry h
  obtain ⟨F, a, b, e, da, db, k⟩ := h
  cases da with
  | int i => cases db with
    | int j => exact op_le pins s σ H _ _ v u Q I rx ry ⟨i, j, rfl, rfl, k.val e (.bl _)⟩
    | _ => exact False.elim k
  | _ => exact False.elim k
theorem o_gt : OpR X (compareOp .Gt) (rD G gGt) := by
  intro pins s σ H x y v u Q I rx ry h
  obtain ⟨F, a, b, e, da, db, k⟩ := h
  cases da with
  | int i => cases db with
    | int j => exact op_gt pins s σ H _ _ v u Q I rx ry ⟨i, j, rfl, rfl, k.val e (.bl _)⟩
    | _ => exact False.elim k
  | _ => exact False.elim k
theorem o_ge : OpR X (compareOp .GtE) (rD G gGe) := by
  intro pins s σ H x y v u Q I rx ry h
  obtain ⟨F, a, b, e, da, db, k⟩ := h
  cases da with
  | int i => cases db with
    | int j => exact op_ge pins s σ H _ _ v u Q I rx ry ⟨i, j, rfl, rfl, k.val e (.bl _)⟩
    | _ => exact False.elim k
  | _ => exact False.elim k
theorem inB (hG : GX X G) (hr : Rm X) {neg : Bool} {op : CmpOp} (hop : op = if neg then .NotIn else .In) : OpR X (compareOp op) (rD G fun x y => (gInB x y).map fun b => .bool (if neg then !b else b)) := by
  intro pins s σ H x y v u Q I rx ry h
  obtain ⟨F, a, b, e, da, db, k⟩ := h
  cases db with
  | lst h1 t1 =>
    rename_i p vs ds
    unfold gInB at k
    dsimp only at k
    by_cases hl : (okD a && okD (.list ds)) = true
    · rw [if_pos hl] at k
      rw [Bool.and_eq_true] at hl
      obtain ⟨as, ra⟩ := readsD hG I e da (okD.plain hl.1) rx
      obtain ⟨bs, rb⟩ := readsD hG I e (.lst h1 t1) (okD.plain hl.2) ry
      have hd := okD.depth hl.1
      have hp := okD.plain hl.2
      rw [PyData.plain] at hp
      cases neg with
      | false => subst hop; exact SeqAt.in_list_data rb ra hp (okD.plain hl.1) (by have := hr.u; omega) ⟨.bl _, H, I, rfl, k.val e (.bl _)⟩
      | true => subst hop; exact SeqAt.notIn_list_data rb ra hp (okD.plain hl.1) (by have := hr.u; omega) ⟨.bl _, H, I, rfl, k.val e (.bl _)⟩
    · rw [if_neg hl] at k; exact False.elim k
  | tup h1 t1 =>
    rename_i p vs ds
    unfold gInB at k
    dsimp only at k
    by_cases hl : (okD a && okD (.tuple ds)) = true
    · rw [if_pos hl] at k
      rw [Bool.and_eq_true] at hl
      obtain ⟨as, ra⟩ := readsD hG I e da (okD.plain hl.1) rx
      obtain ⟨bs, rb⟩ := readsD hG I e (.tup h1 t1) (okD.plain hl.2) ry
      have hd := okD.depth hl.1
      have hp := okD.plain hl.2
      rw [PyData.plain] at hp
      cases neg with
      | false => subst hop; exact SeqAt.in_tuple_data rb ra hp (okD.plain hl.1) (by have := hr.u; omega) ⟨.bl _, H, I, rfl, k.val e (.bl _)⟩
      | true => subst hop; exact SeqAt.notIn_tuple_data rb ra hp (okD.plain hl.1) (by have := hr.u; omega) ⟨.bl _, H, I, rfl, k.val e (.bl _)⟩
    · rw [if_neg hl] at k; exact False.elim k
  | str t =>
    cases da with
    | str z =>
      cases neg with
      | false => subst hop; exact op_in_str pins s σ H _ _ v u Q I rx ry ⟨z, t, rfl, rfl, k.val e (.bl _)⟩
      | true => subst hop; exact op_notin_str pins s σ H _ _ v u Q I rx ry ⟨z, t, rfl, rfl, k.val e (.bl _)⟩
    | _ => exact False.elim k
  | _ => exact False.elim k
theorem o_in (hG : GX X G) (hr : Rm X) : OpR X (compareOp .In) (rD G gIn) := inB (neg := false) hG hr rfl
theorem o_notin (hG : GX X G) (hr : Rm X) : OpR X (compareOp .NotIn) (rD G gNotIn) := inB (neg := true) hG hr rfl
theorem o_is : OpR X (compareOp .Is) (rD G gIs) := by
  intro pins s σ H x y v u Q I rx ry h
  obtain ⟨F, a, b, e, da, db, k⟩ := h
  cases db with
  | non => exact op_isN pins s σ H _ _ v u Q I rx ry ⟨rfl, by rw [isNone_of da]; exact k.val e (.bl _)⟩
  | _ => exact False.elim k
theorem o_isnot : OpR X (compareOp .IsNot) (rD G gIsNot) := by
  intro pins s σ H x y v u Q I rx ry h
  obtain ⟨F, a, b, e, da, db, k⟩ := h
  cases db with
  | non => exact op_notN pins s σ H _ _ v u Q I rx ry ⟨rfl, by rw [isNone_of da]; exact k.val e (.bl _)⟩
  | _ => exact False.elim k
theorem u_neg : UnR X (unaryOp .USub) (rU1 G gNeg) := by
  intro pins s σ H x v Q I rx h
  obtain ⟨F, a, e, da, k⟩ := h
  cases da with
  | int i => exact un_neg pins s σ H _ v Q I rx ⟨i, rfl, k.val e (.int _)⟩
  | _ => exact False.elim k

/-! ### subscripts -/
def gIdxI (i : Int) : PyData → Option PyData
  | .list xs => atI xs i
  | .tuple xs => atI xs i
  | .str z => if z.length ≤ 100000 then (atI z.cps.toList i).map fun c => .str ⟨#[c]⟩ else none
  | .dict [(.dict [], .list xs)] => atI xs i
  | _ => none
def gIdx (x y : PyData) : Option PyData := match y with
  | .int i => gIdxI i x
  | _ => none
theorem idx_dct {G : Gd} {H : Hp} {xs : Ents} {ds : List (PyData × PyData)} (t : DrKV G H xs ds) {i : Int} : gIdxI i (.dict ds) = none := by
  cases t with
  | nil => rfl
  | cons h1 h2 h3 h4 h5 =>
    unfold gIdxI
    split
    · next e => cases e
    · next e => cases e
    · next e => cases e
    · next e => cases e; simp [keyOf] at h2
    · rfl
theorem atI_all {G : Gd} {H : Hp} {vs : List V} {ds : List PyData} (t : DrAll G H vs ds) {i : Int} {d : PyData} (h : atI ds i = some d) : ∃ v, atI vs i = some v ∧ Dr G H v d := by
  unfold atI at h ⊢
  rw [t.length]
  cases e : ixN ds.length i with
  | none => rw [e] at h; exact nomatch h
  | some j => rw [e] at h; exact t.get h
theorem i_idx (hG : GX X G) : IxR X (rD G gIdx) := by
  intro value slice pins s σ H x y v u Q I rx ry h hs
  obtain ⟨F, a, b, e, da, db, k⟩ := h
  cases db with
  | int i => cases da with
    | lst h1 t1 =>
      rename_i p vs ds
      cases hq : atI ds i with
      | none =>
        rw [show gIdx (.list ds) (.int i) = none from hq] at k
        exact False.elim k
      | some d =>
        rw [show gIdx (.list ds) (.int i) = some d from hq] at k
        obtain ⟨w, hw, rw'⟩ := atI_all t1 hq
        exact ix_list value slice pins s σ H _ _ v u Q I rx ry ⟨p, vs, i, w, rfl, rfl, SqL.of (e _ _ h1), hw, k.val e rw'⟩ hs
    | tup h1 t1 =>
      rename_i p vs ds
      cases hq : atI ds i with
      | none =>
        rw [show gIdx (.tuple ds) (.int i) = none from hq] at k
        exact False.elim k
      | some d =>
        rw [show gIdx (.tuple ds) (.int i) = some d from hq] at k
        obtain ⟨w, hw, rw'⟩ := atI_all t1 hq
        exact ix_tup value slice pins s σ H _ _ v u Q I rx ry ⟨p, vs, i, w, rfl, rfl, SqT.of (e _ _ h1), hw, k.val e rw'⟩ hs
    | str z =>
      unfold gIdx gIdxI at k
      dsimp only at k
      split at k
      · next hl =>
        cases hq : atI z.cps.toList i with
        | none => rw [hq] at k; exact False.elim k
        | some c => rw [hq] at k; exact ix_str value slice pins s σ H _ _ v u Q I rx ry ⟨z, i, c, rfl, rfl, bigOf hl, hq, k.val e (.str _)⟩ hs
      · exact False.elim k
    | scr h1 =>
      rename_i p ns
      cases hq : atI (ns.map PyData.int) i with
      | none =>
        rw [show gIdx (scrD ns) (.int i) = none from hq] at k
        exact False.elim k
      | some d =>
        rw [show gIdx (scrD ns) (.int i) = some d from hq] at k
        obtain ⟨w, hw, rw'⟩ := atI_all (G := G) (H := F) (DrAll.of_ints ns) hq
        refine ix_list value slice pins s σ H _ _ v u Q I rx ry ⟨p, _, i, w, rfl, rfl, ?_, hw, k.val e rw'⟩ hs
        rw [hG.k]
        rcases h1 with (h | ⟨o, h⟩) | h
        · exact .inl (.inl (e _ _ h))
        · exact .inl (.inr ⟨o, e _ _ h⟩)
        · exact .inr h
    | dct h1 t1 => exact (by rw [show gIdx (.dict _) (.int i) = none from idx_dct t1] at k; exact False.elim k)
    | _ => exact False.elim k
  | _ => exact False.elim k
theorem c_sub {r : PyData → PyData → Option PyData} {B : Bs} {W : WX} {a b : Expr} {fa fb : Ef} {pos : Pos} (hr : IxR X (rD G r)) (ha : PE X a (tR G B W fa)) (hb : PE X b (tR G B W fb)) (hs : PlainIx b := by intro _ _; rfl) : PE X (.Subscript a b pos) (tR G B W (xOp r fa fb)) :=
  peImp (pe_ix hr ha hb hs) fun σ H Q q => two_of (fun _ _ _ _ h => h) q
end
end LY

set_option maxHeartbeats 4000000
namespace LY
open PySem PySem.Spec PyProof.Rows L2

/-! ### slices -/
def cutD {α : Type} (xs : List α) (lo hi : Option Int) : List α := (xs.drop (HT.sIx xs.length 0 lo)).take (HT.sIx xs.length xs.length hi - HT.sIx xs.length 0 lo)
def gCut (lo hi : Option Int) : PyData → Option PyData
  | .list xs => some (.list (cutD xs lo hi))
  | .tuple xs => some (.tuple (cutD xs lo hi))
  | .str z => if z.length ≤ 100000 then some (.str (cutS z lo hi)) else none
  | _ => none
abbrev Pf := En → Rs (Option Int)
def pNone : Pf := fun _ => .ok none
def pSome (f : Ef) : Pf := fun δ => (f δ).bind fun d => match d with
  | .int i => .ok (some i)
  | _ => .no
def xCut (f : Ef) (lo hi : Pf) : Ef := fun δ => (f δ).bind fun x => (lo δ).bind fun l => (hi δ).bind fun h => Rs.of (gCut l h x)
section
variable (G : Gd) (B : Bs) (W : WX)
def kP (F H : Hp) (σ : L2.St) (Q : Option Int → Hp → Prop) : Rs (Option Int) → Prop
  | .ok b => ∀ F' H', Ext F H F' H' → Q b H'
  | .err c => ∀ F' H', Ext F H F' H' → W (.ref (G.ec c)) none σ H'
  | .no => False
def tP (f : Pf) : TO := fun σ H Q => ∃ δ F, Rep G B F H σ δ ∧ kP G W F H σ Q (f δ)
end
section
variable {X : Cx} {G : Gd} {B : Bs} {W : WX} {F H F1 H1 : Hp} {σ : L2.St} {δ : En} {Q : VK}
theorem poImp {e : Option Expr} {t t' : TO} (h : PO X e t) (i : ∀ σ H Q, t' σ H Q → t σ H Q) : PO X e t' := ⟨fun pins s σ H Q I q => h.run pins s σ H Q I (i σ H Q q)⟩
theorem bindP {f : Pf} {g : Option Int → Rs PyData} {Q' : Option Int → Hp → Prop} (R : Rep G B F H σ δ) (k : kE G W F H σ Q ((f δ).bind g))
    (h : ∀ b F1 H1, Ext F H F1 H1 → Rep G B F1 H1 σ δ → kE G W F1 H1 σ Q (g b) → Q' b H1) : tP G B W f σ H Q' := by
  refine ⟨δ, F, R, ?_⟩
  cases e : f δ with
  | ok d => rw [e] at k; exact fun F1 H1 x => h d F1 H1 x (R.ext x) (k.ext x)
  | err c => rw [e] at k; exact k
  | no => rw [e] at k; exact k
theorem c_pnone : PO X none (tP G B W pNone) := poImp po_none fun σ H Q ⟨δ, F, R, k⟩ => k F H (Ext.refl R.fh)
theorem c_psome {e : Expr} {f : Ef} (h : PE X e (tR G B W f)) : PO X (some e) (tP G B W (pSome f)) := by
  refine poImp (po_some h) fun σ H Q ⟨δ, F, R, k⟩ => ?_
  unfold pSome at k
  refine ⟨δ, F, R, ?_⟩
  cases e : f δ with
  | ok d =>
    rw [e] at k
    intro v F1 H1 x r
    cases r with
    | int i => exact ⟨i, rfl, k F1 H1 x⟩
    | _ => exact False.elim k
  | err c => rw [e] at k; exact k
  | no => rw [e] at k; exact k
theorem cut_all {G : Gd} {H : Hp} {vs : List V} {ds : List PyData} (t : DrAll G H vs ds) (lo hi : Option Int) : DrAll G H (cutV vs lo hi) (cutD ds lo hi) := by
  unfold cutV cutD
  rw [t.length]
  exact (t.drop _).take _
theorem slr_cutD (hG : GX X G) : SlR X (fun x lo hi H Q => ∃ F a, Ex F H ∧ Dr G F x a ∧ kD G F H Q (gCut lo hi a)) := by
  intro pins s σ H x v vl vu lo hi sl Q I rx hs pl pu h
  obtain ⟨F, a, e, da, k⟩ := h
  cases da with
  | lst h1 t1 => exact sl_list pins s σ H _ v vl vu lo hi sl Q I rx hs pl pu ⟨_, _, rfl, SqL.of (e _ _ h1), fun p hp => kD.new e hp (.lst upd_same ((cut_all t1 lo hi).mono (Ex.new (e.back hp)))) k⟩
  | tup h1 t1 =>
    refine sl_tupA pins s σ H _ v vl vu lo hi sl Q I rx hs pl pu ⟨_, _, rfl, SqT.of (e _ _ h1), fun hw => ?_, fun _ p hp => kD.new e hp (.tup upd_same ((cut_all t1 lo hi).mono (Ex.new (e.back hp)))) k⟩
    rename_i p vs ds
    have hc : cutD ds lo hi = ds := by
      unfold cutD
      rw [← t1.length, hw.1, hw.2, List.drop_zero, Nat.sub_zero, t1.length, List.take_length]
    rw [show gCut lo hi (.tuple ds) = some (.tuple (cutD ds lo hi)) from rfl, hc] at k
    exact k.val e (.tup h1 t1)
  | str z =>
    unfold gCut at k
    dsimp only at k
    split at k
    · next hl => exact sl_str pins s σ H _ v vl vu lo hi sl Q I rx hs pl pu ⟨z, rfl, bigOf hl, k.val e (.str _)⟩
    · exact False.elim k
  | _ => exact False.elim k
theorem c_cut (hG : GX X G) {e : Expr} {lo hi : Option Expr} {f : Ef} {pl ph : Pf} {p2 pos : Pos} (he : PE X e (tR G B W f)) (hl : PO X lo (tP G B W pl)) (hh : PO X hi (tP G B W ph)) : PE X (.Subscript e (.Slice lo hi none p2) pos) (tR G B W (xCut f pl ph)) := by
  refine peImp (pe_slice (slr_cutD hG) he hl hh) fun σ H Q ⟨δ, F, R, k⟩ => ?_
  refine bindE R k fun x v F1 H1 x1 R1 r1 k1 => ?_
  refine bindP R1 k1 fun l F2 H2 x2 R2 k2 => ?_
  exact bindP R2 k2 fun h F3 H3 x3 R3 k3 => ⟨F3, x, x3.fh, (r1.mono x2.ff).mono x3.ff, k3.kD⟩
end

/-! ### built-ins -/
def boolsOf : List PyData → Option (List Bool)
  | [] => some []
  | .bool b :: r => (boolsOf r).map (b :: ·)
  | _ => none
def intsOf : List PyData → Option (List Int)
  | [] => some []
  | .int b :: r => (intsOf r).map (b :: ·)
  | _ => none
def strsOf : List PyData → Option (List Str)
  | [] => some []
  | .str b :: r => (strsOf r).map (b :: ·)
  | _ => none
theorem boolsOf_eq : ∀ {ds : List PyData} {bs : List Bool}, boolsOf ds = some bs → ds = bs.map .bool
  | [], _, h => by cases h; rfl
  | d :: r, bs, h => by
    cases d with
    | bool b =>
      rw [boolsOf] at h
      cases e : boolsOf r with
      | none => rw [e] at h; exact nomatch h
      | some q => rw [e] at h; cases h; rw [boolsOf_eq e]; rfl
    | _ => exact nomatch h
theorem intsOf_eq : ∀ {ds : List PyData} {bs : List Int}, intsOf ds = some bs → ds = bs.map .int
  | [], _, h => by cases h; rfl
  | d :: r, bs, h => by
    cases d with
    | int b =>
      rw [intsOf] at h
      cases e : intsOf r with
      | none => rw [e] at h; exact nomatch h
      | some q => rw [e] at h; cases h; rw [intsOf_eq e]; rfl
    | _ => exact nomatch h
theorem strsOf_eq : ∀ {ds : List PyData} {bs : List Str}, strsOf ds = some bs → ds = bs.map .str
  | [], _, h => by cases h; rfl
  | d :: r, bs, h => by
    cases d with
    | str b =>
      rw [strsOf] at h
      cases e : strsOf r with
      | none => rw [e] at h; exact nomatch h
      | some q => rw [e] at h; cases h; rw [strsOf_eq e]; rfl
    | _ => exact nomatch h
@[simp] theorem boolsOf_map (bs : List Bool) : boolsOf (bs.map .bool) = some bs := by
  induction bs with
  | nil => rfl
  | cons b r ih => rw [List.map_cons, boolsOf, ih]; rfl
@[simp] theorem intsOf_map (bs : List Int) : intsOf (bs.map .int) = some bs := by
  induction bs with
  | nil => rfl
  | cons b r ih => rw [List.map_cons, intsOf, ih]; rfl
@[simp] theorem strsOf_map (bs : List Str) : strsOf (bs.map .str) = some bs := by
  induction bs with
  | nil => rfl
  | cons b r ih => rw [List.map_cons, strsOf, ih]; rfl

def gLen : List PyData → Option PyData
  | [.list xs] => some (.int xs.length)
  | [.tuple xs] => some (.int xs.length)
  | [.str z] => if z.length ≤ 100000 then some (.int z.length) else none
  | [.dict [(.dict [], .list xs)]] => some (.int xs.length)
  | _ => none
def gList : List PyData → Option PyData
  | [.list xs] => some (.list xs)
  | [.tuple xs] => some (.list xs)
  | _ => none
def gTuple : List PyData → Option PyData
  | [.list xs] => some (.tuple xs)
  | [.tuple xs] => some (.tuple xs)
  | _ => none
def gAny : List PyData → Option PyData
  | [.list xs] => (boolsOf xs).map fun bs => .bool (bs.any id)
  | _ => none
def gAll : List PyData → Option PyData
  | [.list xs] => (boolsOf xs).map fun bs => .bool (bs.all id)
  | _ => none
def gSum : List PyData → Option PyData
  | [.list xs] => (intsOf xs).map fun bs => .int bs.sum
  | _ => none
def gAbs : List PyData → Option PyData
  | [.int i] => some (.int (if i < 0 then -i else i))
  | _ => none
def gMax2 : List PyData → Option PyData
  | [.int i, .int j] => some (.int (if j > i then j else i))
  | _ => none
def gMin2 : List PyData → Option PyData
  | [.int i, .int j] => some (.int (if j < i then j else i))
  | _ => none
def gInt : List PyData → Option PyData
  | [.int i] => some (.int i)
  | [.bool k] => some (.int (if k then 1 else 0))
  | [.str z] => if z.length ≤ 640 then (PySem.intText? z).map .int else none
  | _ => none
def gStr : List PyData → Option PyData
  | [.int i] => if i.natAbs.log2 < 1920 then some (.str (toString i)) else none
  | _ => none

theorem one_of {G : Gd} {H : Hp} {xs : List V} {d : PyData} (t : DrAll G H xs [d]) : ∃ v, xs = [v] ∧ Dr G H v d := by
  cases t with
  | cons h t => cases t; exact ⟨_, rfl, h⟩
theorem two_all {G : Gd} {H : Hp} {xs : List V} {d e : PyData} (t : DrAll G H xs [d, e]) : ∃ v w, xs = [v, w] ∧ Dr G H v d ∧ Dr G H w e := by
  cases t with
  | cons h t => cases t with
    | cons h2 t => cases t; exact ⟨_, _, rfl, h, h2⟩
theorem kvNoScr {G : Gd} {H : Hp} {xs : Ents} {l : List (PyData × PyData)} {d : PyData} {ds : List (PyData × PyData)} (t : DrKV G H xs ((.dict l, d) :: ds)) : False := by
  cases t with
  | cons h1 h2 h3 h4 h5 => simp [keyOf] at h2
theorem sql_ex {K : PySem.W.Frag} {F H : Hp} {a : Addr} {xs : List V} (e : Ex F H) (h : SqL K F a xs) : SqL K H a xs := by
  rcases h with (h | ⟨o, h⟩) | h
  · exact .inl (.inl (e _ _ h))
  · exact .inl (.inr ⟨o, e _ _ h⟩)
  · exact .inr h
section
variable {X : Cx} {G : Gd}
theorem f_len (hG : GX X G) : CallR X (.builtin "len") (rC G gLen) := by
  intro pins s σ H xs us Q I rs h
  obtain ⟨F, as, e, da, k⟩ := h
  unfold gLen at k
  split at k
  · obtain ⟨v, rfl, r⟩ := one_of da
    cases r with
    | lst h1 t1 => exact call_len_seq pins s σ H _ us Q I rs ⟨_, _, rfl, .inl (SqL.of (e _ _ h1)), by rw [t1.length]; exact k.val e (.int _)⟩
  · obtain ⟨v, rfl, r⟩ := one_of da
    cases r with
    | tup h1 t1 => exact call_len_seq pins s σ H _ us Q I rs ⟨_, _, rfl, .inr (SqT.of (e _ _ h1)), by rw [t1.length]; exact k.val e (.int _)⟩
  · obtain ⟨v, rfl, r⟩ := one_of da
    cases r with
    | str z =>
      split at k
      · next hl => exact call_len_str pins s σ H _ us Q I rs ⟨_, rfl, bigOf hl, k.val e (.int _)⟩
      · exact False.elim k
  · next xs' =>
    obtain ⟨v, rfl, r⟩ := one_of da
    generalize hd : PyData.dict [(PyData.dict [], PyData.list xs')] = dd at r
    cases r with
    | dct h1 t1 => cases hd; exact (kvNoScr t1).elim
    | scr h1 =>
      rename_i p ns
      have hx : xs' = ns.map .int := by
        unfold scrD at hd
        injection hd with hd
        injection hd with hd _
        injection hd with _ hd
        injection hd
      subst hx
      refine call_len_seq pins s σ H _ us Q I rs ⟨_, _, rfl, .inl (by rw [hG.k]; exact sql_ex e h1), ?_⟩
      rw [List.length_map]
      rw [List.length_map] at k
      exact k.val e (.int _)
    | exc h1 => simp [excD] at hd
    | _ => exact nomatch hd
  · exact False.elim k
theorem f_list : CallR X (.type "list") (rC G gList) := by
  intro pins s σ H xs us Q I rs h
  obtain ⟨F, as, e, da, k⟩ := h
  unfold gList at k
  split at k
  · obtain ⟨v, rfl, r⟩ := one_of da
    cases r with
    | lst h1 t1 => exact call_list_of pins s σ H _ us Q I rs ⟨_, _, rfl, .inl (SqL.of (e _ _ h1)), fun p hp => kD.new e hp (.lst upd_same (t1.mono (Ex.new (e.back hp)))) k⟩
  · obtain ⟨v, rfl, r⟩ := one_of da
    cases r with
    | tup h1 t1 => exact call_list_of pins s σ H _ us Q I rs ⟨_, _, rfl, .inr (SqT.of (e _ _ h1)), fun p hp => kD.new e hp (.lst upd_same (t1.mono (Ex.new (e.back hp)))) k⟩
  · exact False.elim k
theorem f_tuple : CallR X (.type "tuple") (rC G gTuple) := by
  intro pins s σ H xs us Q I rs h
  obtain ⟨F, as, e, da, k⟩ := h
  unfold gTuple at k
  split at k
  · obtain ⟨v, rfl, r⟩ := one_of da
    cases r with
    | lst h1 t1 => exact call_tuple_of pins s σ H _ us Q I rs ⟨_, _, rfl, .inl ⟨SqL.of (e _ _ h1), fun p hp => kD.new e hp (.tup upd_same (t1.mono (Ex.new (e.back hp)))) k⟩⟩
  · obtain ⟨v, rfl, r⟩ := one_of da
    cases r with
    | tup h1 t1 => exact call_tuple_of pins s σ H _ us Q I rs ⟨_, _, rfl, .inr ⟨SqT.of (e _ _ h1), k.val e (.tup h1 t1)⟩⟩
  · exact False.elim k
theorem f_any (hc : X.calm = true) : CallR X (.builtin "any") (rC G gAny) := by
  intro pins s σ H xs us Q I rs h
  obtain ⟨F, as, e, da, k⟩ := h
  unfold gAny at k
  split at k
  · obtain ⟨v, rfl, r⟩ := one_of da
    cases r with
    | lst h1 t1 =>
      rename_i ds a vs
      cases hb : boolsOf ds with
      | none => rw [hb] at k; exact False.elim k
      | some bs =>
        rw [hb] at k
        have hd := boolsOf_eq hb
        subst hd
        have hv := t1.bools
        subst hv
        exact cr_any hc pins s σ H _ us Q I rs ⟨_, bs, rfl, SqL.of (e _ _ h1), k.val e (.bl _)⟩
  · exact False.elim k
theorem f_all (hc : X.calm = true) : CallR X (.builtin "all") (rC G gAll) := by
  intro pins s σ H xs us Q I rs h
  obtain ⟨F, as, e, da, k⟩ := h
  unfold gAll at k
  split at k
  · obtain ⟨v, rfl, r⟩ := one_of da
    cases r with
    | lst h1 t1 =>
      rename_i ds a vs
      cases hb : boolsOf ds with
      | none => rw [hb] at k; exact False.elim k
      | some bs =>
        rw [hb] at k
        have hd := boolsOf_eq hb
        subst hd
        have hv := t1.bools
        subst hv
        exact cr_all hc pins s σ H _ us Q I rs ⟨_, bs, rfl, SqL.of (e _ _ h1), k.val e (.bl _)⟩
  · exact False.elim k
theorem f_sum (hc : X.calm = true) : CallR X (.builtin "sum") (rC G gSum) := by
  intro pins s σ H xs us Q I rs h
  obtain ⟨F, as, e, da, k⟩ := h
  unfold gSum at k
  split at k
  · obtain ⟨v, rfl, r⟩ := one_of da
    cases r with
    | lst h1 t1 =>
      rename_i ds a vs
      cases hb : intsOf ds with
      | none => rw [hb] at k; exact False.elim k
      | some bs =>
        rw [hb] at k
        have hd := intsOf_eq hb
        subst hd
        have hv := t1.ints
        subst hv
        exact cr_sum hc pins s σ H _ us Q I rs ⟨_, bs, rfl, SqL.of (e _ _ h1), k.val e (.int _)⟩
  · exact False.elim k
theorem f_abs : CallR X (.builtin "abs") (rC G gAbs) := by
  intro pins s σ H xs us Q I rs h
  obtain ⟨F, as, e, da, k⟩ := h
  unfold gAbs at k
  split at k
  · obtain ⟨v, rfl, r⟩ := one_of da
    cases r with
    | int i => exact call_abs pins s σ H _ us Q I rs ⟨_, rfl, k.val e (.int _)⟩
  · exact False.elim k
theorem f_max2 (hc : X.calm = true) : CallR X (.builtin "max") (rC G gMax2) := by
  intro pins s σ H xs us Q I rs h
  obtain ⟨F, as, e, da, k⟩ := h
  unfold gMax2 at k
  split at k
  · obtain ⟨v, w, rfl, r1, r2⟩ := two_all da
    cases r1 with
    | int i => cases r2 with
      | int j => exact call_max2 hc pins s σ H _ us Q I rs ⟨_, _, rfl, k.val e (.int _)⟩
  · exact False.elim k
theorem f_min2 (hc : X.calm = true) : CallR X (.builtin "min") (rC G gMin2) := by
  intro pins s σ H xs us Q I rs h
  obtain ⟨F, as, e, da, k⟩ := h
  unfold gMin2 at k
  split at k
  · obtain ⟨v, w, rfl, r1, r2⟩ := two_all da
    cases r1 with
    | int i => cases r2 with
      | int j => exact call_min2 hc pins s σ H _ us Q I rs ⟨_, _, rfl, k.val e (.int _)⟩
  · exact False.elim k
theorem f_int : CallR X (.type "int") (rC G gInt) := by
  intro pins s σ H xs us Q I rs h
  obtain ⟨F, as, e, da, k⟩ := h
  unfold gInt at k
  split at k
  · obtain ⟨v, rfl, r⟩ := one_of da
    cases r with
    | int i => exact call_int1 pins s σ H _ us Q I rs (.inl ⟨_, rfl, k.val e (.int _)⟩)
  · obtain ⟨v, rfl, r⟩ := one_of da
    cases r with
    | bl b => exact call_int1 pins s σ H _ us Q I rs (.inr ⟨_, rfl, k.val e (.int _)⟩)
  · next z =>
    obtain ⟨v, rfl, r⟩ := one_of da
    cases r with
    | str _ =>
      split at k
      · next hl =>
        cases hi : PySem.intText? z with
        | none => rw [hi] at k; exact False.elim k
        | some n => rw [hi] at k; exact call_int_str pins s σ H _ us Q I rs ⟨z, n, rfl, hi, hl, k.val e (.int _)⟩
      · exact False.elim k
  · exact False.elim k
theorem f_str : CallR X (.type "str") (rC G gStr) := by
  intro pins s σ H xs us Q I rs h
  obtain ⟨F, as, e, da, k⟩ := h
  unfold gStr at k
  split at k
  · obtain ⟨v, rfl, r⟩ := one_of da
    cases r with
    | int i =>
      split at k
      · next hl => exact call_str_int pins s σ H _ us Q I rs ⟨_, rfl, hl, k.val e (.str _)⟩
      · exact False.elim k
  · exact False.elim k
end
end LY

set_option maxHeartbeats 4000000
namespace LY
open PySem PySem.Spec PyProof.Rows L2

/-! ### targets -/
abbrev Gf := PyData → En → Option En
def tg1 (i : Nat) : Gf := fun d δ => some (δ.set i (.dat d))
def setAll : List Nat → List PyData → En → En
  | i :: is, d :: ds, δ => setAll is ds (δ.set i (.dat d))
  | _, _, δ => δ
def tgN (is : List Nat) : Gf := fun d δ => match d with
  | .tuple ds => if ds.length = is.length then some (setAll is ds δ) else none
  | _ => none
section
variable (G : Gd) (B : Bs)
/-- σ' is σ but for the places js -/
def But (js : List Nat) (σ σ' : L2.St) : Prop := ∀ ws, (∀ j ∈ js, j ∈ ws) → wipe σ' ws = wipe σ ws
def tG (js : List Nat) (g : Gf) : TG := fun v σ H Q => ∃ δ F d δ', Rep G B F H σ δ ∧ Dr G F v d ∧ g d δ = some δ' ∧ ∀ σ', Rep G B F H σ' δ' → But js σ σ' → Q σ' H
def tGs (is : List Nat) : TGs := fun vs σ H Q => ∃ δ F ds, Rep G B F H σ δ ∧ DrAll G F vs ds ∧ ds.length = is.length ∧ ∀ σ', Rep G B F H σ' (setAll is ds δ) → But is σ σ' → Q σ' H
end
theorem setNone {σ : L2.St} {ws : List Nat} {i : Nat} {x : Option V} : i ∈ ws → wipe (σ.set i x) ws = wipe σ ws := by
  intro hi
  apply List.ext_getElem?
  intro j
  have key : ∀ (τ : L2.St) (vs : List Nat) (j : Nat), (wipe τ vs)[j]? = if j ∈ vs ∧ j < τ.length then some none else τ[j]? := by
    intro τ vs
    induction vs with
    | nil => intro j; simp [wipe]
    | cons v vs ih =>
      intro j
      unfold wipe
      by_cases e : v = j
      · subst e
        by_cases hl : v < τ.length
        · rw [List.getElem?_set_self (by rw [wipe_length]; exact hl), if_pos ⟨List.mem_cons_self, hl⟩]
        · rw [if_neg (fun z => hl z.2), List.getElem?_eq_none (by rw [List.length_set, wipe_length]; omega), List.getElem?_eq_none (by omega)]
      · rw [List.getElem?_set_ne e, ih j]
        have : j ∈ v :: vs ↔ j ∈ vs := by simp [show j ≠ v from fun z => e z.symm]
        simp only [this]
  rw [key, key, List.length_set]
  by_cases hj : i = j
  · subst hj
    by_cases hl : i < σ.length
    · rw [if_pos ⟨hi, hl⟩, if_pos ⟨hi, hl⟩]
    · rw [if_neg (fun z => hl z.2), if_neg (fun z => hl z.2), List.getElem?_eq_none (by rw [List.length_set]; omega), List.getElem?_eq_none (by omega)]
  · rw [List.getElem?_set_ne hj]
theorem But.set (σ : L2.St) (i : Nat) (x : Option V) : But [i] σ (σ.set i x) := fun ws h => setNone (h i List.mem_cons_self)
section
variable {X : Cx} {G : Gd} {B : Bs} {pos : Pos}
theorem pgImp {e : Expr} {t t' : TG} (h : PG X e t) (i : ∀ v σ H Q, t' v σ H Q → t v σ H Q) : PG X e t' := ⟨fun pins s σ H v u Q I r q => h.run pins s σ H v u Q I r (i v σ H Q q)⟩
theorem pgsImp {e : List Expr} {t t' : TGs} (h : PGs X e t) (i : ∀ v σ H Q, t' v σ H Q → t v σ H Q) : PGs X e t' := ⟨fun pins s σ H v u Q I r q => h.run pins s σ H v u Q I r (i v σ H Q q)⟩
theorem c_gname (i : Nat) {x : Str} (hN : X.N.Nodup) (hi : X.N[i]? = some x := by rfl) (hx : Loc X.env.scope x := by first | exact Or.inl rfl | exact Or.inr rfl) (hf : X.fn x = true ∨ X.env.scope.names.lookup x = some .local := by first | exact .inl rfl | exact .inr rfl) : PG X (.Name x pos) (tG G B [i] (tg1 i)) :=
  pgImp (pg_name hN hi hx hf) fun v σ H Q ⟨δ, F, d, δ', R, r, e, k⟩ => by
    cases e
    exact k _ (R.set i r) (But.set σ i _)
theorem c_gnil : PGs X [] (tGs G B []) := pgsImp pgs_nil fun vs σ H Q ⟨δ, F, ds, R, r, e, k⟩ => by
  cases r with
  | nil => exact ⟨rfl, k σ R fun _ _ => rfl⟩
  | cons _ _ => exact nomatch e
theorem c_gcons (i : Nat) {x : Str} {es : List Expr} {is : List Nat} (hN : X.N.Nodup) (h2 : PGs X es (tGs G B is)) (hi : X.N[i]? = some x := by rfl) (hx : Loc X.env.scope x := by first | exact Or.inl rfl | exact Or.inr rfl) (hf : X.fn x = true ∨ X.env.scope.names.lookup x = some .local := by first | exact .inl rfl | exact .inr rfl)
    (hs : (assignEach (.Name x pos :: es) X.env).map (·.2) = assign (.Name x pos) X.env :: (assignEach es X.env).map (·.2) := by rfl) : PGs X (.Name x pos :: es) (tGs G B (i :: is)) :=
  pgsImp (pgs_cons (pg_name hN hi hx hf) h2 hs) fun vs σ H Q ⟨δ, F, ds, R, r, e, k⟩ => by
    cases r with
    | nil => exact nomatch e
    | cons h t => exact ⟨_, _, rfl, _, F, _, R.set i h, t, by simpa using e, fun σ' R' b => k σ' R' fun ws hw => (b ws fun j hj => hw j (List.mem_cons_of_mem _ hj)).trans (setNone (hw i List.mem_cons_self))⟩
theorem c_gtup {es : List Expr} {n : Nat} {is : List Nat} (hc : X.calm = true) (h : PGs X es (tGs G B is)) (hn : (assignEach es X.env).length = is.length := by rfl) (hst : (assignEach es X.env).findIdx? (·.1) = none := by rfl) : PG X (.Tuple es n pos) (tG G B is (tgN is)) :=
  pgImp (pg_tup hc h hn hst) fun v σ H Q ⟨δ, F, d, δ', R, r, e, k⟩ => by
    cases r with
    | tup h1 t1 =>
      unfold tgN at e
      dsimp only at e
      split at e
      · next hl =>
        cases e
        exact ⟨_, _, rfl, SqT.of (R.fh _ _ h1), by rw [t1.length]; exact hl, δ, F, _, R, t1, hl, k⟩
      · exact nomatch e
    | _ => exact nomatch e
end

/-! ### statements -/
def sNil : Sf := fun δ => .nx δ
def sSeq (f g : Sf) : Sf := fun δ => match f δ with
  | .nx δ' => g δ'
  | o => o
def sAsg (f : Ef) (g : Gf) : Sf := fun δ => match f δ with
  | .ok d => (match g d δ with
    | some δ' => .nx δ'
    | none => .no)
  | .err c => .err c δ
  | .no => .no
def sExpr (f : Ef) : Sf := fun δ => match f δ with
  | .ok _ => .nx δ
  | .err c => .err c δ
  | .no => .no
def sRet (f : Ef) : Sf := fun δ => match f δ with
  | .ok d => .ret d
  | .err c => .err c δ
  | .no => .no
def sIf (t : Tf) (a b : Sf) : Sf := fun δ => match t δ with
  | .ok c => if c = true then a δ else b δ
  | .err c => .err c δ
  | .no => .no
def sBreak : Sf := fun δ => .bk δ
def sCont : Sf := fun δ => .ct δ
/-- a list that is this name's alone -/
def sOwn (i : Nat) (a : Af) : Sf := fun δ => match a δ with
  | .ok ds => if ds.length ≤ 100000 then .nx (δ.set i (.own ds)) else .no
  | .err c => .err c δ
  | .no => .no
def sApp (i : Nat) (f : Ef) : Sf := fun δ => match δ[i]? with
  | some (.own xs) => (match f δ with
    | .ok d => if xs.length < 100000 then .nx (δ.set i (.own (xs ++ [d]))) else .no
    | .err c => .err c δ
    | .no => .no)
  | _ => .no
def listD : PyData → Option (List PyData)
  | .list ys => some ys
  | _ => none
def sExt (i : Nat) (f : Ef) : Sf := fun δ => match δ[i]? with
  | some (.own xs) => (match f δ with
    | .ok d => (match listD d with
      | some ys => if xs.length + ys.length ≤ 100000 then .nx (δ.set i (.own (xs ++ ys))) else .no
      | none => .no)
    | .err c => .err c δ
    | .no => .no)
  | _ => .no
def frz (i : Nat) (δ : En) : En := match δ[i]? with
  | some (.own xs) => δ.set i (.dat (.list xs))
  | some (.dic kvs) => δ.set i (.dat (.dict kvs))
  | _ => δ

section
variable {G : Gd} {B : Bs} {W : WX} {F H F' H' : Hp} {σ : L2.St} {δ : En} {D : Ends}
theorem kS.ff {o : Out} (k : kS G B W F D o) (e : Ex F F') : kS G B W F' D o := by
  cases o with
  | nx δ' => exact fun σ' F2 H2 e2 => k σ' F2 H2 (e.trans e2)
  | bk δ' => exact fun σ' F2 H2 e2 => k σ' F2 H2 (e.trans e2)
  | ct δ' => exact fun σ' F2 H2 e2 => k σ' F2 H2 (e.trans e2)
  | ret d => exact fun v σ' δ' F2 H2 e2 => k v σ' δ' F2 H2 (e.trans e2)
  | err c δ' => exact fun σ' F2 H2 e2 => k σ' F2 H2 (e.trans e2)
  | no => exact k
/-- an expression, then the rest of a statement -/
theorem bindS {f : Ef} {g : PyData → Out} {Q : VK} (R : Rep G B F H σ δ) (k : kS G B W F D (match f δ with
    | .ok d => g d
    | .err c => .err c δ
    | .no => .no)) (h : ∀ d v F1 H1, f δ = .ok d → Ext F H F1 H1 → Rep G B F1 H1 σ δ → Dr G F1 v d → kS G B W F1 D (g d) → Q v H1) : tR G B W f σ H Q := by
  refine ⟨δ, F, R, ?_⟩
  cases e : f δ with
  | ok d => rw [e] at k; exact fun v F1 H1 x r => h d v F1 H1 e x (R.ext x) r (k.ff x.ff)
  | err c => rw [e] at k; exact fun F1 H1 x => k σ F1 H1 x.ff (R.ext x)
  | no => rw [e] at k; exact k.elim
theorem bindST {f : Tf} {g : Bool → Out} {Q : Bool → Hp → Prop} (R : Rep G B F H σ δ) (k : kS G B W F D (match f δ with
    | .ok d => g d
    | .err c => .err c δ
    | .no => .no)) (h : ∀ d F1 H1, f δ = .ok d → Ext F H F1 H1 → Rep G B F1 H1 σ δ → kS G B W F1 D (g d) → Q d H1) : tT G B W f σ H Q := by
  refine ⟨δ, F, R, ?_⟩
  cases e : f δ with
  | ok d => rw [e] at k; exact fun F1 H1 x => h d F1 H1 e x (R.ext x) (k.ff x.ff)
  | err c => rw [e] at k; exact fun F1 H1 x => k σ F1 H1 x.ff (R.ext x)
  | no => rw [e] at k; exact k.elim
theorem bindSA {f : Af} {g : List PyData → Out} {Q : List V → Hp → Prop} (R : Rep G B F H σ δ) (k : kS G B W F D (match f δ with
    | .ok d => g d
    | .err c => .err c δ
    | .no => .no)) (h : ∀ ds vs F1 H1, f δ = .ok ds → Ext F H F1 H1 → Rep G B F1 H1 σ δ → DrAll G F1 vs ds → kS G B W F1 D (g ds) → Q vs H1) : tA G B W f σ H Q := by
  refine ⟨δ, F, R, ?_⟩
  cases e : f δ with
  | ok d => rw [e] at k; exact fun v F1 H1 x r => h d v F1 H1 e x (R.ext x) r (k.ff x.ff)
  | err c => rw [e] at k; exact fun F1 H1 x => k σ F1 H1 x.ff (R.ext x)
  | no => rw [e] at k; exact k.elim

/-! own lists -/
theorem Rep.own (R : Rep G B F H σ δ) {i : Nat} {xs : List PyData} (h : δ[i]? = some (.own xs)) : ∃ p vs, σ[i]? = some (some (.ref p)) ∧ F p = none ∧ B.H p = none ∧ H p = some (.lst vs) ∧ DrAll G F vs xs := by
  obtain ⟨o, h1, p, vs, rfl, r⟩ := R.sl i _ h
  exact ⟨p, vs, h1, r⟩
theorem upd_ext (e : Ex F H) {p : Addr} (o : HO) (hp : F p = none) : Ex F (upd H p o) := fun a u q => by
  rw [upd_ne (ne_of_none q hp)]
  exact e a u q
theorem setLt {α : Type} {l : List α} {i : Nat} {x y : α} (h : (l.set i x)[i]? = some y) : i < l.length ∧ y = x := by
  obtain ⟨hl, _⟩ := List.getElem?_eq_some_iff.mp h
  have hi : i < l.length := by simpa using hl
  rw [List.getElem?_set_self hi] at h
  exact ⟨hi, (Option.some.inj h).symm⟩
/-- a new list of this slot's own -/
theorem Rep.newOwn (R : Rep G B F H σ δ) (i : Nat) {p : Addr} {vs : List V} {xs : List PyData} (hp : H p = none) (t : DrAll G F vs xs) : Rep G B F (upd H p (.lst vs)) (σ.set i (some (.ref p))) (δ.set i (.own xs)) := by
  have hF : F p = none := R.fh.back hp
  have hB : B.H p = none := R.bh.back hp
  have other : ∀ (j : Nat) s, δ[j]? = some s → isOwn s = true → ∀ q, σ[j]? = some (some (.ref q)) → q ≠ p := fun j s hs ho q hq => by
    obtain ⟨o, h1, h2⟩ := R.sl j s hs
    rw [hq] at h1
    cases h1
    cases s with
    | own ys => obtain ⟨p2, ws, e, _, _, h3, _⟩ := h2; cases e; exact ne_of_none h3 hp
    | dic ys => obtain ⟨p2, ws, e, _, _, h3, _⟩ := h2; cases e; exact ne_of_none h3 hp
    | _ => simp [isOwn] at ho
  refine ⟨upd_ext R.fh _ hF, R.bf, R.bh.trans (Ex.new hp), R.nb, by rw [List.length_set, List.length_set]; exact R.len, fun j s h => ?_, fun j k s t' q jk hj hk hs ht h1 => ?_⟩
  · by_cases e : i = j
    · subst e
      obtain ⟨hi, rfl⟩ := setLt h
      exact ⟨_, List.getElem?_set_self (by rw [R.len]; exact hi), p, vs, rfl, hF, hB, upd_same, t⟩
    · rw [List.getElem?_set_ne e] at h ⊢
      obtain ⟨o, h1, h2⟩ := R.sl j s h
      refine ⟨o, h1, ?_⟩
      cases s with
      | un => trivial
      | dat d => exact h2
      | own ys => obtain ⟨p2, ws, e1, e2, e3, e4, e5⟩ := h2; exact ⟨p2, ws, e1, e2, e3, by rw [upd_ne (ne_of_none e4 hp)]; exact e4, e5⟩
      | dic ys => obtain ⟨p2, ws, e1, e2, e3, e4, e5⟩ := h2; exact ⟨p2, ws, e1, e2, e3, by rw [upd_ne (ne_of_none e4 hp)]; exact e4, e5⟩
  · by_cases ej : i = j
    · subst ej
      obtain ⟨hi, rfl⟩ := setLt hj
      rw [List.getElem?_set_self (by rw [R.len]; exact hi)] at h1
      cases h1
      rw [List.getElem?_set_ne jk] at hk ⊢
      exact fun z => other k t' hk ht _ z rfl
    · rw [List.getElem?_set_ne ej] at hj h1
      by_cases ek : i = k
      · subst ek
        obtain ⟨hi, rfl⟩ := setLt hk
        rw [List.getElem?_set_self (by rw [R.len]; exact hi)]
        intro z
        cases z
        exact other j s hj hs _ h1 rfl
      · rw [List.getElem?_set_ne ek] at hk ⊢
        exact R.ap j k s t' q jk hj hk hs ht h1
/-- this slot's list becomes another -/
theorem Rep.setOwn (R : Rep G B F H σ δ) {i : Nat} {s0 : Slot} {p : Addr} (o : HO) {s1 : Slot} (h : δ[i]? = some s0) (h0 : isOwn s0 = true) (hs : σ[i]? = some (some (.ref p))) (hF : F p = none) (hB : B.H p = none)
    (ho : isOwn s1 = true) (h1 : SlotOk G B F (upd H p o) s1 (some (.ref p))) : Rep G B F (upd H p o) σ (δ.set i s1) := by
  have other : ∀ (j : Nat) s, i ≠ j → δ[j]? = some s → isOwn s = true → ∀ q, σ[j]? = some (some (.ref q)) → q ≠ p := fun j s ij hj hso q hq e => R.ap i j s0 s p ij h hj h0 hso hs (by rw [hq, e])
  refine ⟨upd_ext R.fh _ hF, R.bf, fun a u q => by rw [upd_ne (ne_of_none q hB)]; exact R.bh a u q, R.nb, by rw [List.length_set]; exact R.len, fun j s hj => ?_, fun j k s t' q jk hj hk hs2 ht hq => ?_⟩
  · by_cases e : i = j
    · subst e
      obtain ⟨hi, rfl⟩ := setLt hj
      exact ⟨_, hs, h1⟩
    · rw [List.getElem?_set_ne e] at hj
      obtain ⟨o2, h2, h3⟩ := R.sl j s hj
      refine ⟨o2, h2, ?_⟩
      cases s with
      | un => trivial
      | dat d => exact h3
      | own ys => obtain ⟨p2, ws, e1, e2, e3, e4, e5⟩ := h3; subst e1; exact ⟨p2, ws, rfl, e2, e3, by rw [upd_ne (other j _ e hj rfl _ h2)]; exact e4, e5⟩
      | dic ys => obtain ⟨p2, ws, e1, e2, e3, e4, e5⟩ := h3; subst e1; exact ⟨p2, ws, rfl, e2, e3, by rw [upd_ne (other j _ e hj rfl _ h2)]; exact e4, e5⟩
  · have own_of : ∀ (m : Nat) s', (δ.set i s1)[m]? = some s' → isOwn s' = true → ∃ s'', δ[m]? = some s'' ∧ isOwn s'' = true := fun m s' hm hso => by
      by_cases e : i = m
      · subst e; exact ⟨s0, h, h0⟩
      · rw [List.getElem?_set_ne e] at hm; exact ⟨s', hm, hso⟩
    obtain ⟨a1, a2, a3⟩ := own_of j s hj hs2
    obtain ⟨b1, b2, b3⟩ := own_of k t' hk ht
    exact R.ap j k a1 b1 q jk a2 b2 a3 b3 hq
/-- a list of one's own that is known for good from now on -/
theorem Rep.frz (R : Rep G B F H σ δ) (i : Nat) : ∃ F', Ex F F' ∧ Rep G B F' H σ (frz i δ) := by
  unfold LY.frz
  have go : ∀ (p : Addr) (o : HO) (s0 s1 : Slot), δ[i]? = some s0 → isOwn s0 = true → σ[i]? = some (some (.ref p)) → F p = none → B.H p = none → H p = some o → isOwn s1 = false → (∀ F', Ex F F' → F' p = some o → SlotOk G B F' H s1 (some (.ref p))) →
      ∃ F', Ex F F' ∧ Rep G B F' H σ (δ.set i s1) := fun p o s0 s1 h h0 hs hF hB hH hn h1 => by
    have other : ∀ (j : Nat) s, i ≠ j → δ[j]? = some s → isOwn s = true → ∀ q, σ[j]? = some (some (.ref q)) → q ≠ p := fun j s ij hj hso q hq e => R.ap i j s0 s p ij h hj h0 hso hs (by rw [hq, e])
    have ef : Ex F (upd F p o) := Ex.new hF
    refine ⟨upd F p o, ef, fun a u q => ?_, R.bf.trans ef, R.bh, fun a q1 q2 => ?_, by rw [List.length_set]; exact R.len, fun j s hj => ?_, fun j k s t' q jk hj hk hs2 ht hq => ?_⟩
    · by_cases z : a = p
      · subst z; rw [upd_same] at q; cases q; exact hH
      · rw [upd_ne z] at q; exact R.fh a u q
    · have z : a ≠ p := fun z => q2 (z ▸ hB)
      rw [upd_ne z]
      exact R.nb a q1 q2
    · by_cases e : i = j
      · subst e
        obtain ⟨hi, rfl⟩ := setLt hj
        exact ⟨_, hs, h1 _ ef upd_same⟩
      · rw [List.getElem?_set_ne e] at hj
        obtain ⟨o2, h2, h3⟩ := R.sl j s hj
        refine ⟨o2, h2, ?_⟩
        cases s with
        | un => trivial
        | dat d => obtain ⟨v, e1, e2⟩ := h3; exact ⟨v, e1, e2.mono ef⟩
        | own ys => obtain ⟨p2, ws, e1, e2, e3, e4, e5⟩ := h3; subst e1; exact ⟨p2, ws, rfl, by rw [upd_ne (other j _ e hj rfl _ h2)]; exact e2, e3, e4, e5.mono ef⟩
        | dic ys => obtain ⟨p2, ws, e1, e2, e3, e4, e5⟩ := h3; subst e1; exact ⟨p2, ws, rfl, by rw [upd_ne (other j _ e hj rfl _ h2)]; exact e2, e3, e4, e5.mono ef⟩
    · have own_of : ∀ (m : Nat) s', (δ.set i s1)[m]? = some s' → isOwn s' = true → i ≠ m ∧ δ[m]? = some s' := fun m s' hm hso => by
        by_cases e : i = m
        · subst e
          obtain ⟨_, rfl⟩ := setLt hm
          rw [hn] at hso
          exact nomatch hso
        · rw [List.getElem?_set_ne e] at hm; exact ⟨e, hm⟩
      exact R.ap j k s t' q jk (own_of j s hj hs2).2 (own_of k t' hk ht).2 hs2 ht hq
  split
  · next xs h =>
    obtain ⟨p, vs, h1, h2, h3, h4, h5⟩ := R.own h
    exact go p _ _ _ h rfl h1 h2 h3 h4 rfl fun F' ef hf => ⟨_, rfl, .lst hf (h5.mono ef)⟩
  · next kvs h =>
    obtain ⟨o, h1, p, xs, rfl, h2, h3, h4, h5⟩ := R.sl i _ h
    exact go p _ _ _ h rfl h1 h2 h3 h4 rfl fun F' ef hf => ⟨_, rfl, .dct hf (h5.mono ef)⟩
  · exact ⟨F, Ex.refl F, R⟩
end

section
variable {X : Cx} {G : Gd} {B : Bs} {W : WX} {pos : Pos} {e : Expr} {st : Stmt} {a b rest : List Stmt} {f : Ef} {g : Gf} {t : Tf} {u v : Sf}
theorem c_nil : PSs X [] (tS G B W sNil) := pssImp pss_nil fun D σ H ⟨δ, F, R, k⟩ => k σ F H (Ex.refl F) R
theorem c_cons (h1 : PS X st (tS G B W u)) (h2 : PSs X rest (tS G B W v)) : PSs X (st :: rest) (tS G B W (sSeq u v)) := by
  refine pssImp (pss_cons h1 h2) fun D σ H ⟨δ, F, R, k⟩ => ⟨δ, F, R, ?_⟩
  unfold sSeq at k
  cases e : u δ with
  | nx δ' =>
    rw [e] at k
    exact fun σ' F' H' ef R' => ⟨δ', F', R', k.ff ef⟩
  | bk δ' => rw [e] at k; exact k
  | ct δ' => rw [e] at k; exact k
  | ret d => rw [e] at k; exact k
  | err c δ' => rw [e] at k; exact k
  | no => rw [e] at k; exact k
theorem c_last (h1 : PS X st (tS G B W u)) : PSs X [st] (tS G B W u) := pss_one h1
theorem c_asg {tg : Expr} (he : PE X e (tR G B W f)) {js : List Nat} (hg : PG X tg (tG G B js g)) (hs : swapsWithSole [tg] e pos.line X.env = pure false := by rfl) (hw : swappedStores [tg] e X.env = pure none := by rfl)
    (h1 : (assignEach [tg] X.env).map (·.2) = [assign tg X.env] := by rfl) : PS X (.Assign [tg] e pos) (tS G B W (sAsg f g)) := by
  refine psImp (ps_asg he hg hs hw h1) fun D σ H ⟨δ, F, R, k⟩ => ?_
  unfold sAsg at k
  refine bindS R k fun d v F1 H1 _ x1 R1 r1 k1 => ?_
  cases e1 : g d δ with
  | none => rw [e1] at k1; exact k1.elim
  | some δ' => rw [e1] at k1; exact ⟨δ, F1, d, δ', R1, r1, e1, fun σ' R' _ => k1 σ' F1 H1 (Ex.refl F1) R'⟩
theorem c_expr (he : PE X e (tR G B W f)) (hs : swapsWith e none pos.line X.env = pure false := by rfl) : PS X (.Expr e pos) (tS G B W (sExpr f)) := by
  refine psImp (ps_expr he hs) fun D σ H ⟨δ, F, R, k⟩ => ?_
  unfold sExpr at k
  exact bindS R k fun d v F1 H1 _ x1 R1 r1 k1 => k1 σ F1 H1 (Ex.refl F1) R1
theorem c_ret (he : PE X e (tR G B W f)) : PS X (.Return (some e) pos) (tS G B W (sRet f)) := by
  refine psImp (ps_ret he) fun D σ H ⟨δ, F, R, k⟩ => ?_
  unfold sRet at k
  exact bindS R k fun d v F1 H1 _ x1 R1 r1 k1 => k1 v σ δ F1 H1 (Ex.refl F1) R1 r1
theorem c_sif {c : Expr} (hc : PT X c (tT G B W t)) (ha : PSs X a (tS G B W u)) (hb : PSs X b (tS G B W v)) : PS X (.If c a b pos) (tS G B W (sIf t u v)) := by
  refine psImp (ps_if hc ha hb) fun D σ H ⟨δ, F, R, k⟩ => ?_
  unfold sIf at k
  refine bindST R k fun c F1 H1 _ x1 R1 k1 => ?_
  cases c with
  | true => exact ⟨δ, F1, R1, k1⟩
  | false => exact ⟨δ, F1, R1, k1⟩
theorem c_break : PS X (.Break pos) (tS G B W sBreak) := psImp ps_break fun D σ H ⟨δ, F, R, k⟩ => k σ F H (Ex.refl F) R
theorem c_cont : PS X (.Continue pos) (tS G B W sCont) := psImp ps_continue fun D σ H ⟨δ, F, R, k⟩ => k σ F H (Ex.refl F) R
theorem c_frz (i : Nat) (h : PS X st (tS G B W u)) : PS X st (tS G B W fun δ => u (frz i δ)) := psImp h fun D σ H ⟨δ, F, R, k⟩ => by
  obtain ⟨F', ef, R'⟩ := R.frz i
  exact ⟨_, F', R', k.ff ef⟩
/-- x = [..], x's own -/
theorem c_own (i : Nat) {x : Str} {es : List Expr} {ga : Af} {p1 p2 : Pos} (hN : X.N.Nodup) (h : PA X es (tA G B W ga)) (hi : X.N[i]? = some x := by rfl) (hx : Loc X.env.scope x := by first | exact Or.inl rfl | exact Or.inr rfl) (hf : X.fn x = true ∨ X.env.scope.names.lookup x = some .local := by first | exact .inl rfl | exact .inr rfl)
    (hs : swapsWith (.List es p2) (some (.Name x p1)) pos.line X.env = pure false := by rfl) : PS X (.Assign [.Name x p1] (.List es p2) pos) (tS G B W (sOwn i ga)) := by
  refine psImp (ps_set hN hi hx (pe_lst h) hs hf) fun D σ H ⟨δ, F, R, k⟩ => ?_
  unfold sOwn at k
  refine bindSA R k fun ds vs F1 H1 _ x1 R1 r1 k1 => ?_
  split at k1
  · next hl => exact ⟨by rw [r1.length]; exact bigOf hl, fun p hp => k1 _ F1 _ (Ex.refl F1) (R1.newOwn i hp r1)⟩
  · exact k1.elim
theorem c_app (i : Nat) {x : Str} {p1 p2 p3 : Pos} (he : PE X e (tR G B W f)) (hN : X.N[i]? = some x := by rfl) (hv : Vis X.env.scope x := by first | exact Or.inl rfl | exact Or.inr (Or.inl rfl) | exact Or.inr (Or.inr rfl)) (hd : (x == ("__debug__" : Str)) = false := by decide)
    (hcd : (x == ("__classdict__" : Str)) = false := by decide) (hbase : attributeBase (.Name x p1) "append" X.env (eval (.Name x p1) X.env) = eval (.Name x p1) X.env := by rfl)
    (hfew : ((backTo p3 (starEach (e :: []) X.env)).all (fun x => !x.1) && (backToKw p3 (keywordEach [] X.env)).all (fun x => x.1.isSome)
      && decide ((e :: []).length + ([] : List Keyword).length + (if ([] : List Keyword).isEmpty then 0 else 1) < 30)) = true := by rfl)
    (hline : (p2.endLine == p3.line) = true := by rfl) (hs : starEach (e :: []) X.env = (false, eval e X.env) :: starEach [] X.env := by rfl) :
    PS X (.Expr (.Call (.Attribute (.Name x p1) "append" p2) [e] [] p3) pos) (tS G B W (sApp i f)) := by
  refine psImp (ps_expr (pe_bm PySem.F.plainAttrs_list PySem.F.slot_list_append PySem.F.type_list_append mt_append (pe_var hN hv hd hcd) (pa_cons he pa_nil hs) hbase hfew hline hs rfl) rfl) fun D σ H ⟨δ, F, R, k⟩ => ?_
  unfold sApp at k
  split at k
  · next xs es =>
    obtain ⟨p, vs, h1, h2, h3, h4, h5⟩ := R.own es
    refine ⟨_, h1, .inl ⟨rfl, _, SqL.of h4⟩, ?_⟩
    refine bindS R k fun d v F1 H1 _ x1 R1 r1 k1 => ?_
    obtain ⟨q, ws, g1, g2, g3, g4, g5⟩ := R1.own es
    rw [h1] at g1
    cases g1
    split at k1
    · next hl =>
      refine ⟨p, ws, v, rfl, rfl, g4, by rw [g5.length]; exact bigLt hl, ?_⟩
      exact k1 _ F1 _ (Ex.refl F1) (R1.setOwn (.lst (ws ++ [v])) es rfl h1 g2 g3 rfl ⟨p, _, rfl, g2, g3, upd_same, g5.append (.cons r1 .nil)⟩)
    · exact k1.elim
  · exact k.elim
theorem c_ext (i : Nat) {x : Str} {p1 p2 p3 : Pos} (he : PE X e (tR G B W f)) (hN : X.N[i]? = some x := by rfl) (hv : Vis X.env.scope x := by first | exact Or.inl rfl | exact Or.inr (Or.inl rfl) | exact Or.inr (Or.inr rfl)) (hd : (x == ("__debug__" : Str)) = false := by decide)
    (hcd : (x == ("__classdict__" : Str)) = false := by decide) (hbase : attributeBase (.Name x p1) "extend" X.env (eval (.Name x p1) X.env) = eval (.Name x p1) X.env := by rfl)
    (hfew : ((backTo p3 (starEach (e :: []) X.env)).all (fun x => !x.1) && (backToKw p3 (keywordEach [] X.env)).all (fun x => x.1.isSome)
      && decide ((e :: []).length + ([] : List Keyword).length + (if ([] : List Keyword).isEmpty then 0 else 1) < 30)) = true := by rfl)
    (hline : (p2.endLine == p3.line) = true := by rfl) (hs : starEach (e :: []) X.env = (false, eval e X.env) :: starEach [] X.env := by rfl) :
    PS X (.Expr (.Call (.Attribute (.Name x p1) "extend" p2) [e] [] p3) pos) (tS G B W (sExt i f)) := by
  refine psImp (ps_expr (pe_bm PySem.F.plainAttrs_list PySem.F.slot_list_extend PySem.F.type_list_extend mt_extend (pe_var hN hv hd hcd) (pa_cons he pa_nil hs) hbase hfew hline hs rfl) rfl) fun D σ H ⟨δ, F, R, k⟩ => ?_
  unfold sExt at k
  split at k
  · next xs es =>
    obtain ⟨p, vs, h1, h2, h3, h4, h5⟩ := R.own es
    refine ⟨_, h1, .inl ⟨rfl, _, SqL.of h4⟩, ?_⟩
    refine bindS R k fun d v F1 H1 _ x1 R1 r1 k1 => ?_
    obtain ⟨q, ws, g1, g2, g3, g4, g5⟩ := R1.own es
    rw [h1] at g1
    cases g1
    cases r1 with
    | @lst bb zs ys m1 m2 =>
      dsimp only [listD] at k1
      split at k1
      · next hl =>
        refine ⟨p, bb, ws, zs, rfl, rfl, g4, x1.fh _ _ m1, by rw [g5.length, m2.length]; exact bigOf hl, ?_⟩
        exact k1 _ F1 _ (Ex.refl F1) (R1.setOwn (.lst (ws ++ zs)) es rfl h1 g2 g3 rfl ⟨p, _, rfl, g2, g3, upd_same, g5.append m2⟩)
      · exact k1.elim
    | _ => exact k1.elim
  · exact k.elim
end
end LY

set_option maxHeartbeats 4000000
namespace LY
open PySem PySem.Spec PyProof.Rows L2

/-! ### what is walked -/
structure ItS (J : It) (F : Hp) (vs : List V) : Prop where
  go : ∀ i H, Ex F H → i < vs.length → J.go i H
  yld : ∀ i H x H', Ex F H → i < vs.length → J.yld i H x H' → H' = H ∧ vs[i]? = some x
  stop : ∀ H, Ex F H → J.stop vs.length H
theorem itL {K : PySem.W.Frag} {F : Hp} {a : Addr} {vs : List V} (h : F a = some (.lst vs)) : ItS (Itl K a) F vs where
  go := fun i H e hi => ⟨vs, vs[i], SqL.of (e _ _ h), List.getElem?_eq_getElem hi⟩
  yld := fun i H x H' e hi ⟨y, q⟩ => ⟨y, q vs (SqL.of (e _ _ h))⟩
  stop := fun H e => ⟨vs, SqL.of (e _ _ h), Nat.le_refl _⟩
theorem itT {K : PySem.W.Frag} {F : Hp} {a : Addr} {vs : List V} (h : F a = some (.tup vs)) : ItS (Itt K a) F vs where
  go := fun i H e hi => ⟨vs, vs[i], SqT.of (e _ _ h), List.getElem?_eq_getElem hi⟩
  yld := fun i H x H' e hi ⟨y, q⟩ => ⟨y, q vs (SqT.of (e _ _ h))⟩
  stop := fun H e => ⟨vs, SqT.of (e _ _ h), Nat.le_refl _⟩
theorem rev_get {α : Type} {vs : List α} {i : Nat} (hi : i < vs.reverse.length) : vs[vs.length - 1 - i]? = vs.reverse[i]? := by
  rw [List.getElem?_reverse (by simpa using hi)]
theorem itV {K : PySem.W.Frag} {F : Hp} {a : Addr} {vs : List V} (h : F a = some (.lst vs)) : ItS (Itv K a vs.length) F vs.reverse where
  go := fun i H e hi => ⟨by simpa using hi, vs, vs.reverse[i], SqL.of (e _ _ h), by rw [rev_get hi]; exact List.getElem?_eq_getElem hi⟩
  yld := fun i H x H' e hi ⟨y, q⟩ => ⟨y, by rw [← rev_get hi]; exact q vs (SqL.of (e _ _ h))⟩
  stop := fun H e => by show vs.length ≤ vs.reverse.length; simp
theorem itVT {K : PySem.W.Frag} {F : Hp} {a : Addr} {vs : List V} (h : F a = some (.tup vs)) : ItS (RT.ItvT K a vs.length) F vs.reverse where
  go := fun i H e hi => ⟨by simpa using hi, vs, vs.reverse[i], SqT.of (e _ _ h), by rw [rev_get hi]; exact List.getElem?_eq_getElem hi⟩
  yld := fun i H x H' e hi ⟨y, q⟩ => ⟨y, by rw [← rev_get hi]; exact q vs (SqT.of (e _ _ h))⟩
  stop := fun H e => by show vs.length ≤ vs.reverse.length; simp
def upto (n : Int) : List Int := (List.range n.toNat).map fun (i : Nat) => (i : Int)
theorem upto_length (n : Int) : (upto n).length = n.toNat := by unfold upto; rw [List.length_map, List.length_range]
theorem upto_get {n : Int} {i : Nat} (h : i < n.toNat) : (upto n)[i]? = some (i : Int) := by
  unfold upto
  rw [List.getElem?_map, List.getElem?_range h]
  rfl
theorem itR {F : Hp} (n : Int) : ItS (Itr 0 n.toNat) F ((upto n).map V.int) where
  go := fun i H e hi => by rw [List.length_map, upto_length] at hi; exact hi
  yld := fun i H x H' e hi ⟨y, q⟩ => by
    rw [List.length_map, upto_length] at hi
    refine ⟨y, ?_⟩
    rw [List.getElem?_map, upto_get hi, q]
    show some (V.int (i : Int)) = some (V.int (0 + (i : Int)))
    rw [Int.zero_add]
  stop := fun H e => by show n.toNat ≤ ((upto n).map V.int).length; rw [List.length_map, upto_length]; exact Nat.le_refl _
theorem itRR {F : Hp} (n : Int) : ItS (Itc (0 + (((n - 0).toNat : Nat) : Int) - 1) (-1) (n - 0).toNat) F ((upto n).reverse.map V.int) where
  go := fun i H e hi => by rw [List.length_map, List.length_reverse, upto_length] at hi; show i < (n - 0).toNat; rw [Int.sub_zero]; exact hi
  yld := fun i H x H' e hi ⟨y, q⟩ => by
    rw [List.length_map] at hi
    have hi2 : i < n.toNat := by rw [List.length_reverse, upto_length] at hi; exact hi
    refine ⟨y, ?_⟩
    rw [List.getElem?_map, ← rev_get hi, upto_length, upto_get (by omega), q]
    show some (V.int _) = some (V.int _)
    rw [Int.sub_zero]
    congr 2
    omega
  stop := fun H e => by show (n - 0).toNat ≤ ((upto n).reverse.map V.int).length; rw [List.length_map, List.length_reverse, upto_length, Int.sub_zero]; exact Nat.le_refl _

def seqD : PyData → Option (List PyData)
  | .list ds => some ds
  | .tuple ds => some ds
  | _ => none
def zSeq (f : Ef) : Af := fun δ => (f δ).bind fun d => Rs.of (seqD d)
def zRev (f : Ef) : Af := fun δ => (f δ).bind fun d => Rs.of ((seqD d).map List.reverse)
def rgD : PyData → Option (List PyData)
  | .int n => if -100000 ≤ n ∧ n ≤ 100000 then some ((upto n).map .int) else none
  | _ => none
def zRange (f : Ef) : Af := fun δ => (f δ).bind fun d => Rs.of (rgD d)
def zRevRange (f : Ef) : Af := fun δ => (f δ).bind fun d => Rs.of ((rgD d).map List.reverse)
/-- the list of one's own at i, or data -/
def zOwn (i : Nat) : Af := fun δ => match δ[i]? with
  | some (.own xs) => .ok xs
  | some (.dat d) => Rs.of (seqD d)
  | _ => .no
section
variable (G : Gd) (B : Bs) (W : WX)
def kI (F H : Hp) (σ : L2.St) (R : It → Hp → Prop) : Rs (List PyData) → Prop
  | .ok ds => ∀ J vs F' H', Ext F H F' H' → ItS J F' vs → DrAll G F' vs ds → R J H'
  | .err c => ∀ F' H', Ext F H F' H' → W (.ref (G.ec c)) none σ H'
  | .no => False
def tI (f : Af) : TI := fun σ H R => ∃ δ F, Rep G B F H σ δ ∧ kI G W F H σ R (f δ)
/-- as tI, the walked thing known for this expression alone -/
def kJ (F H : Hp) (σ : L2.St) (R : It → Hp → Prop) : Rs (List PyData) → Prop
  | .ok ds => ∀ J vs F' H', Ext F H F' H' → ItS J H' vs → DrAll G F' vs ds → R J H'
  | .err c => ∀ F' H', Ext F H F' H' → W (.ref (G.ec c)) none σ H'
  | .no => False
def tJ (f : Af) : TI := fun σ H R => ∃ δ F, Rep G B F H σ δ ∧ kJ G W F H σ R (f δ)
end
section
variable {X : Cx} {G : Gd} {B : Bs} {W : WX} {e tg : Expr} {f : Ef} {pos p : Pos}
theorem piImp {iter : Expr} {t t' : TI} (h : PI X tg iter t) (i : ∀ σ H Q, t' σ H Q → t σ H Q) : PI X tg iter t' := ⟨fun pins s σ H Q I q => h.run pins s σ H Q I (i σ H Q q)⟩
theorem c_j {iter : Expr} {z : Af} (h : PI X tg iter (tI G B W z)) : PI X tg iter (tJ G B W z) := piImp h fun σ H Q ⟨δ, F, R, k⟩ => by
  refine ⟨δ, F, R, ?_⟩
  cases e : z δ with
  | ok ds => rw [e] at k; exact fun J vs F' H' x its r => k J vs F' H' x ⟨fun i H2 e2 => its.go i H2 (x.fh.trans e2), fun i H2 y H3 e2 => its.yld i H2 y H3 (x.fh.trans e2), fun H2 e2 => its.stop H2 (x.fh.trans e2)⟩ r
  | err c => rw [e] at k; exact k
  | no => rw [e] at k; exact k
theorem bindI {g : PyData → Rs (List PyData)} {F H : Hp} {σ : L2.St} {δ : En} {R : It → Hp → Prop} {Q' : VK} (RR : Rep G B F H σ δ) (k : kI G W F H σ R ((f δ).bind g))
    (h : ∀ d v F1 H1, f δ = .ok d → Ext F H F1 H1 → Dr G F1 v d → kI G W F1 H1 σ R (g d) → Q' v H1) : tR G B W f σ H Q' := by
  refine ⟨δ, F, RR, ?_⟩
  cases e : f δ with
  | ok d =>
    rw [e] at k
    refine fun v F1 H1 x r => h d v F1 H1 e x r ?_
    have k' : kI G W F H σ R (g d) := k
    cases e2 : g d with
    | ok ds => rw [e2] at k'; exact fun J vs F' H' y => k' J vs F' H' (x.trans y)
    | err c => rw [e2] at k'; exact fun F' H' y => k' F' H' (x.trans y)
    | no => rw [e2] at k'; exact k'
  | err c => rw [e] at k; exact k
  | no => rw [e] at k; exact k
theorem c_iseq (he : PE X e (tR G B W f)) : PI X tg e (tI G B W (zSeq f)) := by
  refine ⟨fun pins s σ H R I ⟨δ, F, RR, k⟩ => ?_⟩
  unfold zSeq at k
  by_cases hl : ∃ ds, f δ = .ok (.tuple ds)
  · obtain ⟨ds, hl⟩ := hl
    refine (pi_tup he).run pins s σ H R I (bindI RR k fun d v F1 H1 e1 x1 r1 k1 => ?_)
    rw [hl] at e1
    cases e1
    cases r1 with
    | tup h1 t1 => exact ⟨_, rfl, ⟨_, SqT.of (x1.fh _ _ h1)⟩, k1 _ _ F1 H1 (Ext.refl x1.fh) (itT h1) t1⟩
  · refine (pi_list he).run pins s σ H R I (bindI RR k fun d v F1 H1 e1 x1 r1 k1 => ?_)
    cases r1 with
    | lst h1 t1 => exact ⟨_, rfl, ⟨_, SqL.of (x1.fh _ _ h1)⟩, k1 _ _ F1 H1 (Ext.refl x1.fh) (itL h1) t1⟩
    | tup h1 t1 => exact absurd ⟨_, e1⟩ hl
    | _ => exact False.elim k1
theorem c_irange (hm : X.mg "range" = none) (he : PE X e (tR G B W f)) (hg : Gl X "range" := by rfl) (hs : starEach [e] X.env = [(false, eval e X.env)] := by rfl) : PI X tg (.Call (.Name "range" p) [e] [] pos) (tI G B W (zRange f)) := by
  refine piImp (pi_range1 hg hm (pa_cons he pa_nil hs) hs) fun σ H R ⟨δ, F, RR, k⟩ => ?_
  refine bindI RR k fun d v F1 H1 e1 x1 r1 k1 => ?_
  cases r1 with
  | int n =>
    by_cases hb : -100000 ≤ n ∧ n ≤ 100000
    · rw [show rgD (.int n) = some ((upto n).map .int) from if_pos hb] at k1
      exact ⟨n, rfl, by omega, by omega, k1 _ _ F1 H1 (Ext.refl x1.fh) (itR n) (DrAll.of_ints _)⟩
    · rw [show rgD (.int n) = none from if_neg hb] at k1
      exact k1.elim
  | _ => exact k1.elim
theorem c_irevrange {p2 p3 : Pos} (hm : X.mg "reversed" = none) (hm2 : X.mg "range" = none) (he : PE X e (tR G B W f)) (hg : Gl X "reversed" := by rfl) (hg2 : Gl X "range" := by rfl) (hs : starEach [e] X.env = [(false, eval e X.env)] := by rfl)
    (hs2 : starEach [.Call (.Name "range" p3) [e] [] p2] X.env = (false, eval (.Call (.Name "range" p3) [e] [] p2) X.env) :: starEach [] X.env := by rfl) : PI X tg (.Call (.Name "reversed" p) [.Call (.Name "range" p3) [e] [] p2] [] pos) (tI G B W (zRevRange f)) := by
  refine piImp (pi_revR hg hm (prg_1 hg2 hm2 he hs) hs2) fun σ H R ⟨δ, F, RR, k⟩ => ?_
  refine bindI RR k fun d v F1 H1 e1 x1 r1 k1 => ?_
  cases r1 with
  | int n =>
    by_cases hb : -100000 ≤ n ∧ n ≤ 100000
    · rw [show rgD (.int n) = some ((upto n).map .int) from if_pos hb] at k1
      refine ⟨n, rfl, by omega, by omega, by omega, by omega, k1 _ ((upto n).reverse.map V.int) F1 H1 (Ext.refl x1.fh) (itRR n) ?_⟩
      rw [← List.map_reverse]
      exact DrAll.of_ints _
    · rw [show rgD (.int n) = none from if_neg hb] at k1
      exact k1.elim
  | _ => exact k1.elim
theorem c_irev (hm : X.mg "reversed" = none) (he : PE X e (tR G B W f)) (hg : Gl X "reversed" := by rfl) (hs : starEach [e] X.env = (false, eval e X.env) :: starEach [] X.env := by rfl) : PI X tg (.Call (.Name "reversed" p) [e] [] pos) (tI G B W (zRev f)) := by
  refine piImp (RT.pi_revA hg hm he hs) fun σ H R ⟨δ, F, RR, k⟩ => ?_
  refine bindI RR k fun d v F1 H1 e1 x1 r1 k1 => ?_
  cases r1 with
  | lst h1 t1 => exact ⟨_, _, rfl, .inl ⟨SqL.of (x1.fh _ _ h1), k1 _ _ F1 H1 (Ext.refl x1.fh) (itV h1) t1.reverse⟩⟩
  | tup h1 t1 => exact ⟨_, _, rfl, .inr ⟨SqT.of (x1.fh _ _ h1), k1 _ _ F1 H1 (Ext.refl x1.fh) (itVT h1) t1.reverse⟩⟩
  | _ => exact k1.elim
/-- a list of one's own, within an expression -/
theorem c_iown (i : Nat) {x : Str} {p1 : Pos} (hN : X.N[i]? = some x := by rfl) (hv : Vis X.env.scope x := by first | exact Or.inl rfl | exact Or.inr (Or.inl rfl) | exact Or.inr (Or.inr rfl)) (hd : (x == ("__debug__" : Str)) = false := by decide)
    (hcd : (x == ("__classdict__" : Str)) = false := by decide) : PI X tg (.Name x p1) (tJ G B W (zOwn i)) := by
  refine ⟨fun pins s σ H R I ⟨δ, F, RR, k⟩ => ?_⟩
  unfold zOwn at k
  split at k
  · next xs es =>
    obtain ⟨p, vs, h1, h2, h3, h4, h5⟩ := RR.own es
    exact (pi_list (pe_var hN hv hd hcd)).run pins s σ H R I ⟨_, h1, p, rfl, ⟨vs, SqL.of h4⟩, k (Itl X.K p) vs F H (Ext.refl RR.fh) (itL h4) h5⟩
  · next d es =>
    obtain ⟨v, h1, r⟩ := RR.dat es
    cases r with
    | lst g1 t1 => exact (pi_list (pe_var hN hv hd hcd)).run pins s σ H R I ⟨_, h1, _, rfl, ⟨_, SqL.of (RR.fh _ _ g1)⟩, k _ _ F H (Ext.refl RR.fh) (itL (RR.fh _ _ g1)) t1⟩
    | tup g1 t1 => exact (pi_tup (pe_var hN hv hd hcd)).run pins s σ H R I ⟨_, h1, _, rfl, ⟨_, SqT.of (RR.fh _ _ g1)⟩, k _ _ F H (Ext.refl RR.fh) (itT (RR.fh _ _ g1)) t1⟩
    | _ => exact False.elim k
  · exact False.elim k
end

/-! ### for and while -/
def forL (g : Gf) (b : Sf) : List PyData → En → Out
  | [], δ => .nx δ
  | d :: r, δ => match g d δ with
    | none => .no
    | some δ1 => match b δ1 with
      | .nx δ2 => forL g b r δ2
      | .ct δ2 => forL g b r δ2
      | .bk δ2 => .nx δ2
      | .ret v => .ret v
      | .err c δ2 => .err c δ2
      | .no => .no
def sFor (z : Af) (g : Gf) (b : Sf) : Sf := fun δ => match z δ with
  | .ok ds => forL g b ds δ
  | .err c => .err c δ
  | .no => .no
def whileL (t : Tf) (b : Sf) : Nat → En → Out
  | 0, _ => .no
  | n + 1, δ => match t δ with
    | .ok c => if c = true then (match b δ with
      | .nx δ2 => whileL t b n δ2
      | .ct δ2 => whileL t b n δ2
      | .bk δ2 => .nx δ2
      | .ret v => .ret v
      | .err c δ2 => .err c δ2
      | .no => .no) else .nx δ
    | .err c => .err c δ
    | .no => .no
def sWhile (n : Nat) (t : Tf) (b : Sf) : Sf := fun δ => whileL t b n δ
section
variable {X : Cx} {G : Gd} {B : Bs} {W : WX} {tg iter c : Expr} {body : List Stmt} {z : Af} {g : Gf} {b : Sf} {t : Tf} {pos : Pos} {js : List Nat}
theorem c_for (hp : PassesOwn (model X.prog X.w) X.A X.env X.xe) (hc : X.calm = true) (hi : PI X tg iter (tI G B W z)) (hg : PG X tg (tG G B js g)) (hb : PSs X body (tS G B W b))
    (hs : ∀ x, foldedSetIterable iter X.env x = pure x := by intro _; rfl) : PS X (.For tg iter body [] pos) (tS G B W (sFor z g b)) := by
  refine psImp (ps_for hp hc hi hg hb hs) fun D σ H ⟨δ, F, R, k⟩ => ?_
  unfold sFor at k
  refine ⟨δ, F, R, ?_⟩
  cases ez : z δ with
  | err c => rw [ez] at k; exact fun F1 H1 x => k σ F1 H1 x.ff (R.ext x)
  | no => rw [ez] at k; exact k
  | ok ds =>
    rw [ez] at k
    intro J vs F1 H1 x its dr
    have R1 := R.ext x
    have hl := dr.length
    refine ⟨fun i m σ H => i + m = ds.length ∧ ∃ δ' F', Ex F1 F' ∧ Rep G B F' H σ δ' ∧ kS G B W F' D (forL g b (ds.drop i) δ'), ⟨ds.length, Nat.zero_add _, δ, F1, Ex.refl F1, R1, by rw [List.drop_zero]; exact k.ff x.ff⟩, fun i m σ2 H2 ⟨hm, δ', F', ef, R2, k2⟩ => ?_⟩
    have eH : Ex F1 H2 := ef.trans R2.fh
    by_cases hi : i < ds.length
    · refine .inr ⟨its.go i H2 eH (by omega), fun σ' H' => i + 1 + (m - 1) = ds.length ∧ ∃ δ' F', Ex F1 F' ∧ Rep G B F' H' σ' δ' ∧ kS G B W F' D (forL g b (ds.drop (i + 1)) δ'), fun σ' H' hN => ⟨m - 1, by omega, hN⟩, fun y H' hy => ?_⟩
      obtain ⟨rfl, hv⟩ := its.yld i H2 y H' eH (by omega) hy
      obtain ⟨d, hd, rd⟩ := dr.getV hv
      have e2 : ds.drop i = d :: ds.drop (i + 1) := by
        have q : d = ds[i] := by rw [List.getElem?_eq_getElem hi] at hd; exact (Option.some.inj hd).symm
        rw [q]
        exact List.drop_eq_getElem_cons hi
      rw [e2] at k2
      unfold forL at k2
      cases eg : g d δ' with
      | none => rw [eg] at k2; exact k2.elim
      | some δ1 =>
        rw [eg] at k2
        refine ⟨δ', F', d, δ1, R2, rd.mono ef, eg, fun σ3 R3 _ => ⟨δ1, F', R3, ?_⟩⟩
        dsimp only at k2
        cases eb : b δ1 with
        | nx δ2 => rw [eb] at k2; exact fun σ4 F4 H4 e4 R4 => ⟨by omega, δ2, F4, ef.trans e4, R4, k2.ff e4⟩
        | ct δ2 => rw [eb] at k2; exact fun σ4 F4 H4 e4 R4 => ⟨by omega, δ2, F4, ef.trans e4, R4, k2.ff e4⟩
        | bk δ2 => rw [eb] at k2; exact fun σ4 F4 H4 e4 R4 => k2 σ4 F4 H4 e4 R4
        | ret v => rw [eb] at k2; exact k2
        | err c δ2 => rw [eb] at k2; exact k2
        | no => rw [eb] at k2; exact k2
    · have e0 : i = vs.length := by omega
      have e2 : ds.drop i = [] := List.drop_of_length_le (by omega)
      rw [e2] at k2
      refine .inl ⟨by rw [e0]; exact its.stop H2 eH, k2 σ2 F' H2 (Ex.refl F') R2⟩
theorem c_while (n : Nat) (hp : PassesOwn (model X.prog X.w) X.A X.env X.xe) (hc : PT X c (tT G B W t)) (hb : PSs X body (tS G B W b)) : PS X (.While c body [] pos) (tS G B W (sWhile n t b)) := by
  refine psImp (ps_while hp hc hb) fun D σ H ⟨δ, F, R, k⟩ => ?_
  refine ⟨fun m σ H => ∃ δ' F', Ex F F' ∧ Rep G B F' H σ δ' ∧ kS G B W F' D (whileL t b m δ'), ⟨n, δ, F, Ex.refl F, R, k⟩, fun m σ2 H2 ⟨δ', F', ef, R2, k2⟩ => ?_⟩
  cases m with
  | zero => exact k2.elim
  | succ m =>
    unfold whileL at k2
    refine bindST R2 k2 fun c F3 H3 _ x3 R3 k3 => ?_
    cases c with
    | false => exact k3 σ2 F3 H3 (Ex.refl F3) R3
    | true =>
      refine ⟨fun σ H => ∃ δ' F', Ex F F' ∧ Rep G B F' H σ δ' ∧ kS G B W F' D (whileL t b m δ'), fun σ' H' hN => ⟨m, Nat.lt_succ_self m, hN⟩, δ', F3, R3, ?_⟩
      rw [if_pos rfl] at k3
      cases eb : b δ' with
      | nx δ2 => rw [eb] at k3; exact fun σ4 F4 H4 e4 R4 => ⟨δ2, F4, (ef.trans x3.ff).trans e4, R4, k3.ff e4⟩
      | ct δ2 => rw [eb] at k3; exact fun σ4 F4 H4 e4 R4 => ⟨δ2, F4, (ef.trans x3.ff).trans e4, R4, k3.ff e4⟩
      | bk δ2 => rw [eb] at k3; exact fun σ4 F4 H4 e4 R4 => k3 σ4 F4 H4 e4 R4
      | ret v => rw [eb] at k3; exact k3
      | err c δ2 => rw [eb] at k3; exact k3
      | no => rw [eb] at k3; exact k3
end

/-! ### comprehensions -/
def wipeE (δ : En) : List Nat → En
  | [] => δ
  | v :: vs => (wipeE δ vs).set v .un
def compL (g : Gf) (t : Tf) (f : Ef) (δ : En) : List PyData → Rs (List PyData)
  | [] => .ok []
  | d :: r => match g d δ with
    | none => .no
    | some δ1 => match t δ1 with
      | .ok true => (match f δ1 with
        | .ok y => (match compL g t f δ r with
          | .ok ys => .ok (y :: ys)
          | _ => .no)
        | _ => .no)
      | .ok false => compL g t f δ r
      | _ => .no
def compR (g : Gf) (t : Tf) (f : Ef) (δ : En) (ds : List PyData) : Rs PyData := if ds.length ≤ 100000 then (match compL g t f δ ds with
  | .ok ys => .ok (.list ys)
  | _ => .no) else .no
def xLc (z : Af) (vs : List Nat) (g : Gf) (t : Tf) (f : Ef) : Ef := fun δ => (z δ).bind fun ds => compR g t f (wipeE δ vs) ds
def yTrue : Tf := fun _ => .ok true
abbrev W0 : WX := fun _ _ _ _ => False
theorem Rep.wipe {G : Gd} {B : Bs} {F H : Hp} {σ : L2.St} {δ : En} (R : Rep G B F H σ δ) : ∀ vs : List Nat, Rep G B F H (wipe σ vs) (wipeE δ vs)
  | [] => R
  | v :: vs => (R.wipe vs).forget v none
section
variable {X : Cx} {G : Gd} {B : Bs} {W : WX} {tg iter elt c : Expr} {ifs : List Expr} {z : Af} {g : Gf} {t : Tf} {f : Ef} {pos : Pos}
theorem c_pts0 : PTs X [] (tT G B W yTrue) := ⟨fun pins s σ H Q I ⟨δ, F, R, k⟩ => pts_nil.run pins s σ H Q I (k F H (Ext.refl R.fh))⟩
theorem c_pts1 (h : PT X c (tT G B W t)) : PTs X [c] (tT G B W t) := pts_one h
theorem lc_read {own : List (Str × Nat)} {js : List Nat} (hj : ∀ j ∈ js, j ∈ own.map (·.2)) {σ : L2.St} {H : Hp} {Q : VK} (q : tR G B W (xLc z (own.map (·.2)) g t f) σ H Q) : tLc (tJ G B W z) (tG G B js g) (tT G B W0 t) (tR G B W0 f) (own.map (·.2)) σ H Q := by
  obtain ⟨δ, F, R, k⟩ := q
  refine ⟨δ, F, R, ?_⟩
  unfold xLc at k
  cases ez : z δ with
  | err c => rw [ez] at k; exact k
  | no => rw [ez] at k; exact k
  | ok ds =>
    rw [ez] at k
    intro J vs F1 H1 x its dr D hD
    have k1 : kE G W F1 H1 σ Q (compR g t f (wipeE δ (own.map (·.2))) ds) := kE.ext k x
    unfold compR at k1
    by_cases hlen : ds.length ≤ 100000
    · rw [if_pos hlen] at k1
      cases ec : compL g t f (wipeE δ (own.map (·.2))) ds with
      | err c => rw [ec] at k1; exact k1.elim
      | no => rw [ec] at k1; exact k1.elim
      | ok es =>
        rw [ec] at k1
        have Rw := (R.ext x).wipe (own.map (·.2))
        have hl := dr.length
        have hF1 : F1 D = none := x.fh.back hD
        refine ⟨fun i m H => i + m = ds.length ∧ ∃ F' accV acc rest, Ext F1 H1 F' H ∧ F' D = none ∧ H D = some (.lst accV) ∧ DrAll G F' accV acc ∧ compL g t f (wipeE δ (own.map (·.2))) (ds.drop i) = .ok rest ∧ acc ++ rest = es ∧ accV.length ≤ i,
          ⟨ds.length, Nat.zero_add _, F1, [], [], es, ⟨Ex.refl F1, upd_ext x.fh _ hF1, Ex.new hD, fun _ h _ => h⟩, hF1, upd_same, .nil, by rw [List.drop_zero]; exact ec, rfl, Nat.le_refl _⟩, fun i m H2 hw => ?_⟩
        obtain ⟨hm, F2, accV, acc, rest, x2, fD, hD2, ra, ec2, eq2, hacc⟩ := hw
        by_cases hi : i < ds.length
        · refine .inr ⟨its.go i H2 x2.hh (by omega), fun H' => i + 1 + (m - 1) = ds.length ∧ ∃ F' accV acc rest, Ext F1 H1 F' H' ∧ F' D = none ∧ H' D = some (.lst accV) ∧ DrAll G F' accV acc ∧ compL g t f (wipeE δ (own.map (·.2))) (ds.drop (i + 1)) = .ok rest ∧ acc ++ rest = es ∧ accV.length ≤ i + 1,
            fun H' hN => ⟨m - 1, by omega, hN⟩, fun y H' hy => ?_⟩
          obtain ⟨rfl, hv⟩ := its.yld i H2 y H' x2.hh (by omega) hy
          obtain ⟨d, hd, rd⟩ := dr.getV hv
          have e2 : ds.drop i = d :: ds.drop (i + 1) := by
            have q : d = ds[i] := by rw [List.getElem?_eq_getElem hi] at hd; exact (Option.some.inj hd).symm
            rw [q]
            exact List.drop_eq_getElem_cons hi
          rw [e2] at ec2
          unfold compL at ec2
          cases eg : g d (wipeE δ (own.map (·.2))) with
          | none => rw [eg] at ec2; exact nomatch ec2
          | some δ1 =>
            rw [eg] at ec2
            dsimp only at ec2
            refine ⟨_, F2, d, δ1, Rw.ext x2, rd.mono x2.ff, eg, fun σ3 R3 hbut => ⟨?_, δ1, F2, R3, ?_⟩⟩
            · have ww := hbut (own.map (·.2)) hj
              rw [ww]
              have idem : ∀ (vs ws : List Nat), (∀ v ∈ vs, v ∈ ws) → L2.wipe (L2.wipe σ vs) ws = L2.wipe σ ws := by
                intro vs
                induction vs with
                | nil => intro ws _; rfl
                | cons v vs ih =>
                  intro ws h
                  show L2.wipe ((L2.wipe σ vs).set v none) ws = _
                  rw [setNone (h v List.mem_cons_self)]
                  exact ih ws fun u hu => h u (List.mem_cons_of_mem _ hu)
              exact idem _ _ fun _ h => h
            · cases et : t δ1 with
              | err c => rw [et] at ec2; exact nomatch ec2
              | no => rw [et] at ec2; exact nomatch ec2
              | ok bb =>
                rw [et] at ec2
                intro F3 H3 x3
                have x23 : Ext F1 H1 F3 H3 := x2.trans x3
                have fD3 : F3 D = none := x3.nb D fD (by rw [hD2]; exact fun z => nomatch z)
                cases bb with
                | false =>
                  exact ⟨by omega, F3, accV, acc, rest, x23, fD3, x3.hh _ _ hD2, ra.mono x3.ff, ec2, eq2, by omega⟩
                | true =>
                  dsimp only at ec2
                  refine ⟨δ1, F3, R3.ext x3, ?_⟩
                  cases ef : f δ1 with
                  | err c => rw [ef] at ec2; exact nomatch ec2
                  | no => rw [ef] at ec2; exact nomatch ec2
                  | ok yd =>
                    rw [ef] at ec2
                    dsimp only at ec2
                    cases er : compL g t f (wipeE δ (own.map (·.2))) (ds.drop (i + 1)) with
                    | err c => rw [er] at ec2; exact nomatch ec2
                    | no => rw [er] at ec2; exact nomatch ec2
                    | ok ys =>
                      rw [er] at ec2
                      have ec3 : Rs.ok (yd :: ys) = Rs.ok rest := ec2
                      cases ec3
                      intro yv F4 H4 x4 ry
                      have fD4 : F4 D = none := x4.nb D fD3 (by rw [x3.hh _ _ hD2]; exact fun z => nomatch z)
                      have x24 := x23.trans x4
                      refine ⟨accV, x4.hh _ _ (x3.hh _ _ hD2), bigLt (by omega), by omega, F4, accV ++ [yv], acc ++ [yd], ys, ⟨x24.ff, upd_ext x24.fh _ fD4, fun a o h => ?_, x24.nb⟩, fD4, upd_same, ((ra.mono x3.ff).mono x4.ff).append (.cons ry .nil), rfl, by rw [List.append_assoc]; exact eq2, by rw [List.length_append]; show accV.length + 1 ≤ i + 1; omega⟩
                      rw [upd_ne (ne_of_none h hD)]
                      exact x24.hh a o h
        · have e0 : i = vs.length := by omega
          have e2 : ds.drop i = [] := List.drop_of_length_le (by omega)
          rw [e2] at ec2
          have ec3 : Rs.ok [] = Rs.ok rest := ec2
          cases ec3
          rw [List.append_nil] at eq2
          subst eq2
          refine .inl ⟨by rw [e0]; exact its.stop H2 x2.hh, ?_⟩
          refine k1 (.ref D) (upd F2 D (.lst accV)) H2 ⟨x2.ff.trans (Ex.new fD), fun a o h => ?_, x2.hh, fun a h1 h2 => ?_⟩ (.lst upd_same (ra.mono (Ex.new fD)))
          · by_cases z : a = D
            · subst z; rw [upd_same] at h; cases h; exact hD2
            · rw [upd_ne z] at h; exact x2.fh a o h
          · have z : a ≠ D := fun z => h2 (z ▸ hD)
            rw [upd_ne z]
            exact x2.nb a h1 h2
    · rw [if_neg hlen] at k1
      exact k1.elim
theorem c_lc (own : List (Str × Nat)) {js : List Nat} {scope : Scope} (hc : X.calm = true) (hN : X.N.Nodup) (hi : PI X tg iter (tJ G B W z)) (ok : blkC X.N X.env.scope scope own = true)
    (hg : ∀ (s : Shared) (H : Hp) (C : Addr) (cl : List (Str × Addr)) (fp : List Addr), PG (X.blk s H scope (compEnvC scope cl C X.env) fp) tg (tG G B js g)) (ht : ∀ (s : Shared) (H : Hp) (C : Addr) (cl : List (Str × Addr)) (fp : List Addr), PTs (X.blk s H scope (compEnvC scope cl C X.env) fp) ifs (tT G B W0 t))
    (he : ∀ (s : Shared) (H : Hp) (C : Addr) (cl : List (Str × Addr)) (fp : List Addr), PE (X.blk s H scope (compEnvC scope cl C X.env) fp) elt (tR G B W0 f)) (hj : ∀ j ∈ js, j ∈ own.map (·.2) := by decide) (hs : ∀ x, foldedSetIterable iter X.env x = pure x := by intro _; rfl) :
    PE X (.ListComp elt [⟨tg, iter, ifs, 0⟩] scope pos) (tR G B W (xLc z (own.map (·.2)) g t f)) := peImp (pe_lc hc hN hi (blkOk_by ok) hg ht he hs) fun σ H Q q => lc_read hj q
/-- y = [..] on one line -/
theorem c_setLc (i : Nat) {y : Str} {py spos : Pos} (own : List (Str × Nat)) {js : List Nat} {scope : Scope} (hc : X.calm = true) (hN : X.N.Nodup) (hi : PI X tg iter (tJ G B W z)) (ok : blkC X.N X.env.scope scope own = true)
    (hg : ∀ (s : Shared) (H : Hp) (C : Addr) (cl : List (Str × Addr)) (fp : List Addr), PG (X.blk s H scope (compEnvC scope cl C X.env) fp) tg (tG G B js g)) (ht : ∀ (s : Shared) (H : Hp) (C : Addr) (cl : List (Str × Addr)) (fp : List Addr), PTs (X.blk s H scope (compEnvC scope cl C X.env) fp) ifs (tT G B W0 t))
    (he : ∀ (s : Shared) (H : Hp) (C : Addr) (cl : List (Str × Addr)) (fp : List Addr), PE (X.blk s H scope (compEnvC scope cl C X.env) fp) elt (tR G B W0 f)) (hj : ∀ j ∈ js, j ∈ own.map (·.2) := by decide)
    (hy : X.N[i]? = some y := by rfl) (hyl : X.env.scope.names.lookup y = some .local := by rfl) (hsw : swapsWith (.ListComp elt [⟨tg, iter, ifs, 0⟩] scope pos) (some (.Name y py)) spos.line X.env = pure true := by exact sw_true rfl rfl rfl (by decide +kernel))
    (hs : ∀ x, foldedSetIterable iter X.env x = pure x := by intro _; rfl) :
    PS X (.Assign [.Name y py] (.ListComp elt [⟨tg, iter, ifs, 0⟩] scope pos) spos) (tS G B W (sAsg (xLc z (own.map (·.2)) g t f) (tg1 i))) := by
  refine psImp (ps_setLc hc hN hy hyl hsw hi (blkOk_by ok) hg ht he hs) fun D σ H ⟨δ, F, R, k⟩ => ?_
  unfold sAsg at k
  refine lc_read (W := W) hj (bindS R k fun d v F1 H1 _ x1 R1 r1 k1 => ?_)
  exact k1 _ F1 H1 (Ex.refl F1) (R1.set i r1)
end
end LY

set_option maxHeartbeats 4000000
namespace LY
open PySem PySem.Spec PyProof.Rows L2

/-! ### defs -/
def toRs : Out → Rs PyData
  | .ret d => .ok d
  | .nx _ => .ok .none
  | .err c _ => .err c
  | _ => .no
/-- the slots at a def's start -/
def padE (n : Nat) (ds : List PyData) : En := ds.map .dat ++ List.replicate (n - ds.length) .un
/-- what a def promises: by g of the data that are handed in -/
def spD (G : Gd) (n : Nat) (g : List PyData → Rs PyData) : Sp := fun vs H Q E => ∃ F ds, Ex F H ∧ DrAll G F vs ds ∧ ds.length = n ∧ (match g ds with
  | .ok d => ∀ v F' H', Ext F H F' H' → Dr G F' v d → Q v H'
  | .err c => ∀ F' H', Ext F H F' H' → E (.ref (G.ec c)) none H'
  | .no => False)
theorem Rep.toExt {G : Gd} {F H F' H' : Hp} {σ : L2.St} {δ : En} (R : Rep G ⟨F, H⟩ F' H' σ δ) : Ext F H F' H' := ⟨R.bf, R.fh, R.bh, R.nb⟩
theorem padE_get {ds : List PyData} {n i : Nat} {s : Slot} (h : (padE n ds)[i]? = some s) : (∃ d, ds[i]? = some d ∧ s = .dat d) ∨ (ds.length ≤ i ∧ s = .un) := by
  unfold padE at h
  by_cases hi : i < ds.length
  · rw [List.getElem?_append_left (by simpa using hi), List.getElem?_map] at h
    cases e : ds[i]? with
    | none => rw [e] at h; exact nomatch h
    | some d => rw [e] at h; cases h; exact .inl ⟨d, rfl, rfl⟩
  · rw [List.getElem?_append_right (by simpa using hi), List.getElem?_replicate] at h
    split at h
    · cases h; exact .inr ⟨by omega, rfl⟩
    · exact nomatch h
theorem Rep.start {G : Gd} {F H : Hp} {N : List Str} {vs : List V} {ds : List PyData} (e : Ex F H) (t : DrAll G F vs ds) : Rep G ⟨F, H⟩ F H (L2.start N vs) (padE N.length ds) where
  fh := e
  bf := Ex.refl F
  bh := Ex.refl H
  nb := fun a h _ => h
  len := by unfold L2.start padE; simp [t.length]
  sl := fun i s h => by
    have hl : i < (L2.start N vs).length := by
      obtain ⟨q, _⟩ := List.getElem?_eq_some_iff.mp h
      have e1 : (L2.start N vs).length = (padE N.length ds).length := by unfold L2.start padE; simp [t.length]
      omega
    rcases padE_get h with ⟨d, h1, rfl⟩ | ⟨h1, rfl⟩
    · obtain ⟨v, g1, g2⟩ := t.get h1
      refine ⟨some v, ?_, v, rfl, g2⟩
      unfold L2.start
      obtain ⟨q, _⟩ := List.getElem?_eq_some_iff.mp g1
      rw [List.getElem?_append_left (by simpa using q), List.getElem?_map, g1]
      rfl
    · exact ⟨_, List.getElem?_eq_getElem hl, trivial⟩
  ap := fun i j s u p ij hi hj hs hu => by
    rcases padE_get hi with ⟨d, _, rfl⟩ | ⟨_, rfl⟩ <;> simp [isOwn] at hs
/-- THE RULE for a def -/
theorem c_fn {P : Program} {w : World} {K : PySem.W.Frag} {mg : Str → Option Value} {base : Heap} {ec : String → Addr} {x qual : Str} {st : Stmt} {f : Addr} {fd : FuncData} {N ps : List Str} {k : Nat} {fb : Sf} (F : Fun K x qual st f fd) (S : FnScope N ps (defScope st))
    (hb : ∀ (cdv : Value) (A : Around) (outer : List Env) (s : Shared) (H : Hp) (E : XK) (B : Bs), Room k (A.deeper (envOfC qual (defScope st) s.heap.objs.size f cdv)) →
      PSs (cxOf (L2.CX P w) P w K mg base N qual (defScope st) f cdv A outer s H E) (defBody st) (tS ⟨P, w, K, ec⟩ B (fun cls d _ H => E cls d H) fb)) :
    FnOk P w K mg base (L2.CX P w) (k + 1) f fd ps (spD ⟨P, w, K, ec⟩ ps.length fun ds => toRs (fb (padE N.length ds))) := by
  refine F.okX S (fun vs H Q E ⟨F0, ds, _, t, e, _⟩ => t.length.trans e) fun cdv A outer s H vs Q E hr ⟨F0, ds, ef, t, hl, q⟩ => ⟨_, hb cdv A outer s H E ⟨F0, H⟩ hr, padE N.length ds, F0, Rep.start ef t, ?_⟩
  dsimp only at q
  cases e : fb (padE N.length ds) with
  | nx δ => rw [e] at q; exact fun σ' F' H' _ R => q .non F' H' R.toExt .non
  | ret d => rw [e] at q; exact fun v σ' δ' F' H' _ R r => q v F' H' R.toExt r
  | err c δ => rw [e] at q; exact fun σ' F' H' _ R => q F' H' R.toExt
  | bk δ => rw [e] at q; exact q.elim
  | ct δ => rw [e] at q; exact q.elim
  | no => rw [e] at q; exact q.elim
/-- a call of a def -/
def xFn (n : Nat) (g : List PyData → Rs PyData) (a : Af) : Ef := fun δ => (a δ).bind fun ds => if ds.length = n then g ds else .no
section
variable {X : Cx} {G : Gd} {B : Bs} {W : WX} {pos p : Pos} {e : Expr} {es : List Expr} {ga : Af} {x : Str} {k n : Nat} {f : Addr} {fd : FuncData} {ps : List Str} {g : List PyData → Rs PyData}
theorem c_call (F : FnOk X.prog X.w X.K X.mg X.base (L2.CX X.prog X.w) k f fd ps (spD G n g)) (hr : Room k X.A) (tk : Takes X W) (hm : X.mg x = some (.ref f)) (hk : PySem.W.keepIn X.K (.ref f) = true) (hb : Binds X.K fd ps []) (ha : PA X (e :: es) (tA G B W ga)) (hg : Gl X x := by rfl)
    (hdb : (x == ("__debug__" : Str)) = false := by decide) (he : starEach (e :: es) X.env = (false, eval e X.env) :: starEach es X.env := by rfl) (hpl : (backTo pos (starEach es X.env)).any (·.1) = false := by rfl) :
    PE X (.Call (.Name x p) (e :: es) [] pos) (tR G B W (xFn n g ga)) := by
  refine peImp (pe_callS (E := WE W) F hr hg hm hk hb (fun σ => passAt tk σ) ha hdb he hpl) fun σ H Q ⟨δ, F0, R, kk⟩ => ?_
  refine bindA R kk fun ds vs F1 H1 x1 R1 r1 k1 => ?_
  split at k1
  · next hl =>
    refine ⟨F1, ds, x1.fh, r1, hl, ?_⟩
    cases eg : g ds with
    | ok d => rw [eg] at k1; exact k1
    | err c => rw [eg] at k1; exact k1
    | no => rw [eg] at k1; exact k1
  · exact k1.elim
end

/-! ### raise -/
def sRaise (c : String) : Sf := fun δ => .err c δ
section
variable {X : Cx} {G : Gd} {B : Bs} {W : WX} {pos p p2 pos2 : Pos} {bmB : List Value} {BB newId initId : String}
theorem c_raise (c : String) {x m : Str} {j : Nat} (hc : X.calm = true) (tk : Takes X W) (F : ExcBaseFacts BB newId initId bmB) (q : PySem.W.excIn X.K (G.ec c) bmB newId = true) (gC : X.mg x = some (.ref (G.ec c))) (kC : PySem.W.keepIn X.K (.ref (G.ec c)) = true) (r : Raises X (.ref (G.ec c))) (hg : Gl X x := by rfl)
    (hdb : (x == ("__debug__" : Str)) = false := by decide) : PS X (.Raise (some (.Call (.Name x p) [.Constant (.str m) j p2] [] pos)) none pos2) (tS G B W (sRaise c)) :=
  psImp (ps_raise hc tk (pmk_own F q gC kC r hg hdb)) fun D σ H ⟨δ, F, R, k⟩ => k σ F H (Ex.refl F) R
end

/-! ### lists and dicts of one's own, read within an expression -/
/-- x[b] -/
def xOwnSub (i : Nat) (b : Ef) : Ef := fun δ => match δ[i]? with
  | some (.own xs) => (b δ).bind fun k => Rs.of (gIdx (.list xs) k)
  | some (.dat d) => (b δ).bind fun k => Rs.of (gIdx d k)
  | _ => .no
/-- a in x -/
def xOwnIn (neg : Bool) (i : Nat) (a : Ef) : Ef := fun δ => (a δ).bind fun k => match δ[i]? with
  | some (.own xs) => Rs.of ((gInB k (.list xs)).map fun b => .bool (if neg then !b else b))
  | some (.dat d) => Rs.of ((gInB k d).map fun b => .bool (if neg then !b else b))
  | _ => .no
/-- len(x) -/
def xOwnLen (i : Nat) : Ef := fun δ => match δ[i]? with
  | some (.own xs) => .ok (.int xs.length)
  | some (.dat d) => Rs.of (gLen [d])
  | _ => .no
section
variable {X : Cx} {G : Gd} {B : Bs} {W : WX} {pos p1 : Pos} {b : Expr} {fb : Ef}
/-- what an operation on H's own list gives, carried back to F -/
theorem c_ownSub (hG : GX X G) (i : Nat) {x : Str} (hb : PE X b (tR G B W fb)) (hN : X.N[i]? = some x := by rfl) (hv : Vis X.env.scope x := by first | exact Or.inl rfl | exact Or.inr (Or.inl rfl) | exact Or.inr (Or.inr rfl)) (hd : (x == ("__debug__" : Str)) = false := by decide)
    (hcd : (x == ("__classdict__" : Str)) = false := by decide) (hs : PlainIx b := by intro _ _; rfl) : PE X (.Subscript (.Name x p1) b pos) (tR G B W (xOwnSub i fb)) := by
  refine ⟨fun pins s σ H Q I ⟨δ, F, R, k⟩ => ?_⟩
  unfold xOwnSub at k
  split at k
  · next xs es =>
    obtain ⟨p, vs, h1, h2, h3, h4, h5⟩ := R.own es
    refine (pe_ix ix_list (pe_var hN hv hd hcd) hb hs).run pins s σ H Q I ⟨_, h1, ?_⟩
    refine bindE R k fun kd kv F1 H1 x1 R1 r1 k1 => ?_
    obtain ⟨q, ws, g1, g2, g3, g4, g5⟩ := R1.own es
    rw [h1] at g1
    cases g1
    cases r1 with
    | int j =>
      cases hq : atI xs j with
      | none => rw [show gIdx (.list xs) (.int j) = none from hq] at k1; exact k1.elim
      | some d =>
        rw [show gIdx (.list xs) (.int j) = some d from hq] at k1
        obtain ⟨w, hw, rw'⟩ := atI_all g5 hq
        exact ⟨p, ws, j, w, rfl, rfl, SqL.of g4, hw, k1 w F1 H1 (Ext.refl x1.fh) rw'⟩
    | _ => exact k1.elim
  · next d es =>
    obtain ⟨v, h1, r⟩ := R.dat es
    refine (pe_ix (i_idx hG) (pe_var hN hv hd hcd) hb hs).run pins s σ H Q I ⟨_, h1, ?_⟩
    exact bindE R k fun kd kv F1 H1 x1 R1 r1 k1 => ⟨F1, d, kd, x1.fh, r.mono x1.ff, r1, k1.kD⟩
  · exact k.elim
theorem kflat {F H : Hp} {σ : L2.St} {Q : VK} {o : Option PyData} (e : Ex F H) (k : kE G W F H σ Q (Rs.of o)) (hf : ∀ d, o = some d → ∃ b, d = .bool b) : kD G H H Q o := by
  cases o with
  | none => exact k
  | some d =>
    intro v F' H' x r
    obtain ⟨b, rfl⟩ := hf d rfl
    cases r
    exact k (.bl b) F H' ⟨Ex.refl F, e.trans x.hh, x.hh, fun _ h _ => h⟩ (.bl b)
theorem c_ownIn (hG : GX X G) (hr : Rm X) (neg : Bool) (i : Nat) {x : Str} {op : CmpOp} (hop : op = if neg then .NotIn else .In) (hb : PE X b (tR G B W fb)) (hN : X.N[i]? = some x := by rfl) (hv : Vis X.env.scope x := by first | exact Or.inl rfl | exact Or.inr (Or.inl rfl) | exact Or.inr (Or.inr rfl)) (hd : (x == ("__debug__" : Str)) = false := by decide)
    (hcd : (x == ("__classdict__" : Str)) = false := by decide) (hm : behindInMarks op (.Name x p1) = false := by rfl) : PE X (.Compare b [op] [.Name x p1] pos) (tR G B W (xOwnIn neg i fb)) := by
  refine ⟨fun pins s σ H Q I ⟨δ, F, R, k⟩ => ?_⟩
  refine (pe_cmpR (inB (G := G) hG hr hop) hb (pe_var hN hv hd hcd) hm).run pins s σ H Q I ?_
  unfold xOwnIn at k
  refine bindE R k fun kd kv F1 H1 x1 R1 r1 k1 => ?_
  split at k1
  · next xs es =>
    obtain ⟨p, vs, h1, h2, h3, h4, h5⟩ := R1.own es
    refine ⟨_, h1, H1, kd, .list xs, Ex.refl H1, r1.mono x1.fh, .lst h4 (h5.mono x1.fh), kflat x1.fh k1 fun d e => ?_⟩
    have e' : (gInB kd (.list xs)).map (fun b => PyData.bool (if neg then !b else b)) = some d := e
    cases hq : gInB kd (.list xs) with
    | none => rw [hq] at e'; exact nomatch e'
    | some bb => rw [hq] at e'; cases e'; exact ⟨_, rfl⟩
  · next d es =>
    obtain ⟨v, h1, r⟩ := R1.dat es
    exact ⟨_, h1, F1, kd, d, x1.fh, r1, r, k1.kD⟩
  · exact k1.elim
theorem c_towIn (hG : GX X G) (hr : Rm X) (neg : Bool) (i : Nat) {x : Str} {op : CmpOp} (hop : op = if neg then .NotIn else .In) (hb : PE X b (tR G B W fb)) (hN : X.N[i]? = some x := by rfl) (hv : Vis X.env.scope x := by first | exact Or.inl rfl | exact Or.inr (Or.inl rfl) | exact Or.inr (Or.inr rfl)) (hd : (x == ("__debug__" : Str)) = false := by decide)
    (hcd : (x == ("__classdict__" : Str)) = false := by decide) (hm : behindInMarks op (.Name x p1) = false := by rfl) : PT X (.Compare b [op] [.Name x p1] pos) (tT G B W (yB (xOwnIn neg i fb))) := by
  refine ⟨fun pins s σ H Q I ⟨δ, F, R, k⟩ => ?_⟩
  refine (pt_cmpR (inB (G := G) hG hr hop) hb (pe_var hN hv hd hcd) hm).run pins s σ H Q I ?_
  have fin : ∀ {F1 H1 : Hp} {o : Option Bool}, Ex F1 H1 → kT G W F1 H1 σ Q ((Rs.of (o.map fun b => PyData.bool (if neg then !b else b))).bind asB) → kD G H1 H1 (fun x H' => ∃ k, x = .bl k ∧ Q k H') (o.map fun b => .bool (if neg then !b else b)) := fun {F1 H1 o} e kk => by
    cases o with
    | none => exact kk
    | some bb =>
      intro v F' H' x r
      cases r
      exact ⟨_, rfl, kk F1 H' ⟨Ex.refl F1, e.trans x.hh, x.hh, fun _ h _ => h⟩⟩
  unfold yB xOwnIn at k
  refine ⟨δ, F, R, ?_⟩
  cases ef : fb δ with
  | err c => rw [ef] at k; exact k
  | no => rw [ef] at k; exact k
  | ok kd =>
    rw [ef] at k
    intro kv F1 H1 x1 r1
    have k1 := kT.ext k x1
    have R1 := R.ext x1
    dsimp only [Rs.bind_ok] at k1
    cases es : δ[i]? with
    | none => rw [es] at k1; exact k1.elim
    | some sl =>
      rw [es] at k1
      cases sl with
      | own xs =>
        obtain ⟨p, vs, h1, h2, h3, h4, h5⟩ := R1.own es
        exact ⟨_, h1, H1, kd, .list xs, Ex.refl H1, r1.mono x1.fh, .lst h4 (h5.mono x1.fh), fin x1.fh k1⟩
      | dat d =>
        obtain ⟨v, h1, r⟩ := R1.dat es
        exact ⟨_, h1, H1, kd, d, Ex.refl H1, r1.mono x1.fh, r.mono x1.fh, fin x1.fh k1⟩
      | _ => exact k1.elim
end
end LY

set_option maxHeartbeats 4000000
namespace LY
open PySem PySem.Spec PyProof.Rows L2

/-! ### keys -/
section
variable {X : Cx} {G : Gd} {pins : List (Addr × Obj)} {σ : L2.St} {H : Hp} {s : Shared}
mutual
theorem Dr.key (I : Inv X pins σ H s) : ∀ {v : V} {d : PyData} {k : NestedKey} {u : Value}, Dr G H v d → keyOf d = some k → RelV v u → NestedIs s.heap k u
  | _, _, _, _, .non, e, r => by cases e; cases r; exact .none
  | _, _, _, _, .bl b, e, r => by cases e; cases r; exact .bool rfl
  | _, _, _, _, .int i, e, r => by cases e; obtain ⟨t, rfl⟩ := r; exact .int i t
  | _, _, _, _, .str x, e, r => by cases e; obtain ⟨t, rfl⟩ := r; exact .text x t
  | _, _, _, _, .lst h t, e, r => nomatch e
  | _, _, _, _, .tup (ds := ds) h t, e, r => by
    rw [keyOf] at e
    cases ek : keysOf ds with
    | none => rw [ek] at e; exact nomatch e
    | some ks =>
      rw [ek] at e
      cases e
      cases r
      obtain ⟨z, its, rv, o, ho, hc, n, hd⟩ := I.hok _ _ h
      exact .tup ho hc hd (by simpa using DrAll.keys I t ek rv)
  | _, _, _, _, .dct h t, e, r => nomatch e
  | _, _, _, _, .exc h, e, r => nomatch e
  | _, _, _, _, .scr h, e, r => nomatch e
theorem DrAll.keys (I : Inv X pins σ H s) : ∀ {vs : List V} {ds : List PyData} {ks : List NestedKey} {us : List Value}, DrAll G H vs ds → keysOf ds = some ks → Vals vs us → NestedAll s.heap ks us
  | _, _, _, _, .nil, e, r => by cases e; cases r; exact .nil
  | _, _, _, _, .cons (d := d) (ds := ds) h t, e, r => by
    rw [keysOf] at e
    cases e1 : keyOf d with
    | none => rw [e1] at e; exact nomatch e
    | some k =>
      rw [e1] at e
      cases e2 : keysOf ds with
      | none => rw [e2] at e; exact nomatch e
      | some ks =>
        rw [e2] at e
        cases e
        cases r with
        | cons r1 r2 => exact .cons (Dr.key I h e1 r1) (DrAll.keys I t e2 r2)
end
end

/-! ### a dict by data -/
def sameK (a b : PyData) : Bool := decide (keyOf a = keyOf b)
def lookD2 (kvs : List (PyData × PyData)) (k : PyData) : Option PyData := (kvs.find? fun p => sameK p.1 k).map (·.2)
def storeD (kvs : List (PyData × PyData)) (k v : PyData) : List (PyData × PyData) := if (lookD2 kvs k).isSome then kvs.map (fun p => if sameK p.1 k then (p.1, v) else p) else kvs ++ [(k, v)]
/-- a tuple that may be a key -/
def keyT (d : PyData) : Option NestedKey := match d with
  | .tuple ds => (keyOf (.tuple ds)).bind fun k => if k.depth ≤ 8 then some k else none
  | _ => none
theorem keyT_of {d : PyData} {k : NestedKey} (h : keyT d = some k) : keyOf d = some k ∧ k.depth ≤ 8 := by
  unfold keyT at h
  split at h
  · next ds =>
    cases e : keyOf (.tuple ds) with
    | none => rw [e] at h; exact nomatch h
    | some k' =>
      rw [e] at h
      dsimp only [Option.bind_some] at h
      split at h
      · next hd => cases h; exact ⟨rfl, hd⟩
      · exact nomatch h
  · exact nomatch h
def gLook (kvs : List (PyData × PyData)) (k : PyData) : Option PyData := (keyT k).bind fun _ => lookD2 kvs k
def storeX (xs : Ents) (k : NestedKey) (a : Addr) (v : V) : Ents := if xs.any (fun p => decide (p.1 = k)) then xs.map (fun p => if p.1 = k then (p.1, p.2.1, v) else p) else xs ++ [(k, a, v)]
abbrev RelE : NestedKey × Addr × V → NestedKey × Addr × Value → Prop := fun p q => p.1 = q.1 ∧ p.2.1 = q.2.1 ∧ RelV p.2.2 q.2.2
theorem at_none : ∀ {xs : Ents} {ys : List (NestedKey × Addr × Value)} {k : NestedKey}, Paired RelE xs ys → (atKey ys k).isSome = xs.any fun p => decide (p.1 = k)
  | _, _, _, .nil => rfl
  | (k1, a1, v1) :: xs, (k2, a2, u2) :: ys, k, .cons ⟨h1, h2, h3⟩ t => by
    have h1 : k1 = k2 := h1
    subst h1
    have ih := at_none (k := k) t
    unfold atKey at ih ⊢
    rw [List.find?_cons, List.any_cons]
    by_cases e : k1 = k
    · simp [e]
    · simp only [e, decide_false, Bool.false_or]
      exact ih
theorem store_rel {k : NestedKey} {a : Addr} {v : V} {u : Value} (r : RelV v u) {xs : Ents} {ys : List (NestedKey × Addr × Value)} (t : Paired RelE xs ys) : Paired RelE (storeX xs k a v) (storedH ys k a u) := by
  unfold storeX storedH
  rw [at_none t]
  have go : ∀ {xs : Ents} {ys : List (NestedKey × Addr × Value)}, Paired RelE xs ys → Paired RelE (xs.map fun p => if p.1 = k then (p.1, p.2.1, v) else p) (ys.map (putAt k u)) := by
    intro xs ys t
    induction t with
    | nil => exact .nil
    | @cons p q xs ys h t ih =>
      refine .cons ?_ ih
      unfold putAt
      obtain ⟨h1, h2, h3⟩ := h
      show RelE (if p.1 = k then (p.1, p.2.1, v) else p) (if q.1 = k then (q.1, q.2.1, u) else q)
      by_cases e : p.1 = k
      · rw [if_pos e, if_pos (h1 ▸ e)]; exact ⟨h1, h2, r⟩
      · rw [if_neg e, if_neg (fun z => e (h1.trans z))]; exact ⟨h1, h2, h3⟩
  have app : ∀ {xs : Ents} {ys : List (NestedKey × Addr × Value)}, Paired RelE xs ys → Paired RelE (xs ++ [(k, a, v)]) (ys ++ [(k, a, u)]) := by
    intro xs ys t
    induction t with
    | nil => exact .cons ⟨rfl, rfl, r⟩ .nil
    | cons h t ih => exact .cons h ih
  split
  · exact go t
  · exact app t
theorem store_len (xs : Ents) (k : NestedKey) (a : Addr) (v : V) : (storeX xs k a v).length ≤ xs.length + 1 := by
  unfold storeX
  split
  · rw [List.length_map]; omega
  · rw [List.length_append]; exact Nat.le_refl _
section
variable {G : Gd} {F : Hp}
theorem kv_len : ∀ {xs : Ents} {kvs : List (PyData × PyData)}, DrKV G F xs kvs → xs.length = kvs.length
  | _, _, .nil => rfl
  | _, _, .cons _ _ _ _ t => congrArg (· + 1) (kv_len t)
theorem look_any : ∀ {xs : Ents} {kvs : List (PyData × PyData)} {d : PyData} {k : NestedKey}, DrKV G F xs kvs → keyOf d = some k → (lookD2 kvs d).isSome = xs.any fun p => decide (p.1 = k)
  | _, _, _, _, .nil, _ => rfl
  | _, _, d, k, .cons (k := k1) (dk := dk) h1 h2 h3 h4 t, e => by
    have ih := look_any t e
    unfold lookD2 at ih ⊢
    rw [List.find?_cons, List.any_cons]
    have es : sameK dk d = decide (k1 = k) := by
      unfold sameK
      rw [h2, e]
      by_cases z : k1 = k
      · rw [z, decide_eq_true rfl, decide_eq_true rfl]
      · rw [decide_eq_false (fun q => z (Option.some.inj q)), decide_eq_false z]
    dsimp only
    rw [es]
    by_cases z : k1 = k
    · simp [z]
    · rw [decide_eq_false z, Bool.false_or]
      exact ih
theorem look_at : ∀ {xs : Ents} {ys : List (NestedKey × Addr × Value)} {kvs : List (PyData × PyData)} {d r : PyData} {k : NestedKey}, Paired RelE xs ys → DrKV G F xs kvs → keyOf d = some k → lookD2 kvs d = some r → ∃ a u v, atKey ys k = some (a, u) ∧ RelV v u ∧ Dr G F v r
  | _, _, _, _, _, _, .nil, .nil, _, h => nomatch h
  | (k1, a1, v1) :: xs, (k2, a2, u2) :: ys, _, d, r, k, .cons ⟨g1, g2, g3⟩ t, .cons (dk := dk) h1 h2 h3 h4 t2, e, h => by
    have g1 : k1 = k2 := g1
    subst g1
    unfold lookD2 at h
    rw [List.find?_cons] at h
    unfold sameK at h
    rw [h2, e] at h
    unfold atKey
    rw [List.find?_cons]
    by_cases z : k1 = k
    · subst z
      rw [decide_eq_true rfl] at h
      rw [decide_eq_true rfl]
      cases h
      exact ⟨a2, u2, v1, rfl, g3, h4⟩
    · rw [decide_eq_false (fun q => z (Option.some.inj q))] at h
      rw [decide_eq_false z]
      exact look_at (d := d) t t2 e (by unfold lookD2 sameK; rw [e]; exact h)
theorem store_kv {d r : PyData} {k : NestedKey} {a : Addr} {v : V} (ha : Dr G F (.ref a) d) (hk : keyOf d = some k) (hz : k.depth ≤ 8) (hv : Dr G F v r) {xs : Ents} {kvs : List (PyData × PyData)} (t : DrKV G F xs kvs) : DrKV G F (storeX xs k a v) (storeD kvs d r) := by
  unfold storeX storeD
  rw [look_any t hk]
  have go : ∀ {xs : Ents} {kvs : List (PyData × PyData)}, DrKV G F xs kvs → DrKV G F (xs.map fun p => if p.1 = k then (p.1, p.2.1, v) else p) (kvs.map fun p => if sameK p.1 d then (p.1, r) else p) := by
    intro xs
    induction xs with
    | nil => intro kvs t; cases t; exact .nil
    | cons x xs ih =>
      intro kvs t
      cases t with
      | cons h1 h2 h3 h4 t =>
        rename_i k1 a1 v1 dk d1 ds
        rw [List.map_cons, List.map_cons]
        have es : sameK dk d = decide (k1 = k) := by
          unfold sameK
          rw [h2, hk]
          by_cases z : k1 = k
          · rw [z, decide_eq_true rfl, decide_eq_true rfl]
          · rw [decide_eq_false (fun q => z (Option.some.inj q)), decide_eq_false z]
        by_cases z : k1 = k
        · rw [if_pos z, es, decide_eq_true z, if_pos rfl]
          exact .cons h1 h2 h3 hv (ih t)
        · rw [if_neg z, es, decide_eq_false z, if_neg Bool.false_ne_true]
          exact .cons h1 h2 h3 h4 (ih t)
  have app : ∀ {xs : Ents} {kvs : List (PyData × PyData)}, DrKV G F xs kvs → DrKV G F (xs ++ [(k, a, v)]) (kvs ++ [(d, r)]) := by
    intro xs
    induction xs with
    | nil => intro kvs t; cases t; exact .cons ha hk hz hv .nil
    | cons x xs ih =>
      intro kvs t
      cases t with
      | cons h1 h2 h3 h4 t => exact .cons h1 h2 h3 h4 (ih t)
  split
  · exact go t
  · exact app t
end
theorem dicO_ok {P : Program} {w : World} {H : Hp} {h : Heap} {a : Addr} {xs : Ents} (x : DicAt P w h a xs) : ObjOk P w H h a (dicO P w a xs) := by
  obtain ⟨h1, h2, ys, t, o, es, ep, ho, r⟩ := id x
  exact ⟨x, ⟨o, ho⟩, fun g1 g2 ⟨q1, q2, ys', t', o', es', ep', ho', r'⟩ k => ⟨q1, q2, ys', t', o', es', ep', k o' ho', r'⟩⟩
section
variable {X : Cx} {G : Gd} {pins : List (Addr × Obj)} {σ : L2.St} {F H : Hp} {s : Shared} {p : Addr} {xs : Ents} {kvs : List (PyData × PyData)}
theorem dic_at (hG : GX X G) (I : Inv X pins σ H s) (h : H p = some (dicO G.P G.w p xs)) (e : Ex F H) (t : DrKV G F xs kvs) : (p == sysModules) = false ∧ xs.length ≤ sizeLine ∧ ∃ ys, Paired RelE xs ys ∧ s.heap.DictOfH (nestedKind X.prog X.w) p ys := by
  obtain ⟨⟨h1, h2, ys, tt, o, es, ep, ho, hex, hd, hes, hn⟩, _⟩ := I.hok p _ h
  rw [← hG.p, ← hG.w] at hes
  refine ⟨h1, h2, ys, tt, o, es, ep, ho, hex, hd, hes, ?_, hn⟩
  have go : ∀ {xs : Ents} {ys : List (NestedKey × Addr × Value)} {kvs : List (PyData × PyData)}, Paired RelE xs ys → DrKV G F xs kvs → ∀ x ∈ ys, (nestedKind X.prog X.w).is s.heap x.1 x.2.1 := by
    intro xs ys kvs tt
    induction tt generalizing kvs with
    | nil => intro _ x hx; exact absurd hx (by simp)
    | @cons a b l1 l2 hab tt ih =>
      intro t x hx
      cases t with
      | cons g1 g2 g3 g4 t =>
        rcases List.mem_cons.mp hx with rfl | hx
        · have k := Dr.key I (g1.mono e) g2 rfl
          obtain ⟨q1, q2, _⟩ := hab
          rw [← q1, ← q2]
          exact ⟨k, g3⟩
        · exact ih t x hx
  exact go tt t
theorem dic_write (hG : GX X G) (I : Inv X pins σ H s) (h : H p = some (dicO G.P G.w p xs)) {h' : Heap} {tk : Nat} {ys : List (NestedKey × Addr × Value)} {xs' : Ents} (hd : h'.DictOfH (nestedKind X.prog X.w) p ys) (hs : Heap.SameBut p s.heap h') (t : Paired RelE xs' ys) (hz : xs'.length ≤ sizeLine) (h1 : (p == sysModules) = false) :
    Inv X pins σ (upd H p (dicO G.P G.w p xs')) { s with heap := h', toks := tk } := by
  obtain ⟨o, es, ep, ho, hex, hdd, hes, hk, hn⟩ := hd
  refine I.write (e := p) (t' := tk) (by rw [h]; exact True.intro) (.inl rfl) (fun b u hb e => by rw [hs.2 b hb]; exact e) ⟨o, ho⟩ ?_
  rw [hG.p, hG.w] at *
  exact dicO_ok ⟨h1, hz, ys, t, o, es, ep, ho, hex, hdd, hes, hn⟩
end

/-! ### d = {}, d[k] = v, d[k], k in d -/
def sDic (i : Nat) : Sf := fun δ => .nx (δ.set i (.dic []))
def sPut (i : Nat) (k v : Ef) : Sf := fun δ => match δ[i]? with
  | some (.dic kvs) => (match v δ with
    | .ok dv => (match k δ with
      | .ok dk => (match keyT dk with
        | some _ => if kvs.length < 100000 then .nx (δ.set i (.dic (storeD kvs dk dv))) else .no
        | none => .no)
      | .err c => .err c δ
      | .no => .no)
    | .err c => .err c δ
    | .no => .no)
  | _ => .no
def dictD : PyData → Option (List (PyData × PyData))
  | .dict ((.dict _, _) :: _) => none
  | .dict kvs => some kvs
  | _ => none
theorem dictD_of {G : Gd} {F : Hp} {xs : Ents} {kvs : List (PyData × PyData)} (t : DrKV G F xs kvs) : dictD (.dict kvs) = some kvs := by
  cases t with
  | nil => rfl
  | cons h1 h2 h3 h4 t =>
    rename_i dk d ds
    cases dk with
    | dict l => simp [keyOf] at h2
    | _ => rfl
/-- d[k], the dict at i, or data -/
def xDget (i : Nat) (k : Ef) : Ef := fun δ => match δ[i]? with
  | some (.dic kvs) => (k δ).bind fun dk => Rs.of (gLook kvs dk)
  | some (.dat d) => (k δ).bind fun dk => Rs.of ((dictD d).bind fun kvs => gLook kvs dk)
  | _ => .no
def gHas (kvs : List (PyData × PyData)) (neg : Bool) (k : PyData) : Option PyData := (keyT k).map fun _ => .bool (if neg then !(lookD2 kvs k).isSome else (lookD2 kvs k).isSome)
def xDin (neg : Bool) (i : Nat) (k : Ef) : Ef := fun δ => (k δ).bind fun dk => match δ[i]? with
  | some (.dic kvs) => Rs.of (gHas kvs neg dk)
  | some (.dat d) => Rs.of ((dictD d).bind fun kvs => gHas kvs neg dk)
  | _ => .no
section
variable {X : Cx} {G : Gd} {B : Bs} {W : WX} {pos p1 p2 : Pos} {b e : Expr} {fb fe : Ef}
theorem Rep.dic {δ : En} {σ : L2.St} {F H : Hp} (R : Rep G B F H σ δ) {i : Nat} {kvs : List (PyData × PyData)} (h : δ[i]? = some (.dic kvs)) : ∃ p xs, σ[i]? = some (some (.ref p)) ∧ F p = none ∧ B.H p = none ∧ H p = some (dicO G.P G.w p xs) ∧ DrKV G F xs kvs := by
  obtain ⟨o, h1, p, vs, rfl, r⟩ := R.sl i _ h
  exact ⟨p, vs, h1, r⟩
/-- the value of k, as an entry's key -/
theorem key_ref {F : Hp} {v : V} {d : PyData} {k : NestedKey} (r : Dr G F v d) (h : keyT d = some k) : ∃ a, v = .ref a := by
  cases r with
  | lst _ _ => exact ⟨_, rfl⟩
  | tup _ _ => exact ⟨_, rfl⟩
  | dct _ _ => exact ⟨_, rfl⟩
  | exc _ => exact ⟨_, rfl⟩
  | scr _ => exact ⟨_, rfl⟩
  | _ => exact nomatch h
theorem Rep.newDic {δ : En} {σ : L2.St} {F H : Hp} (R : Rep G B F H σ δ) (i : Nat) {p : Addr} {xs : Ents} {kvs : List (PyData × PyData)} (hp : H p = none) (t : DrKV G F xs kvs) : Rep G B F (upd H p (dicO G.P G.w p xs)) (σ.set i (some (.ref p))) (δ.set i (.dic kvs)) := by
  have hF : F p = none := R.fh.back hp
  have hB : B.H p = none := R.bh.back hp
  have other : ∀ (j : Nat) s, δ[j]? = some s → isOwn s = true → ∀ q, σ[j]? = some (some (.ref q)) → q ≠ p := fun j s hs ho q hq => by
    obtain ⟨o, h1, h2⟩ := R.sl j s hs
    rw [hq] at h1
    cases h1
    cases s with
    | own ys => obtain ⟨p2, ws, e, _, _, h3, _⟩ := h2; cases e; exact ne_of_none h3 hp
    | dic ys => obtain ⟨p2, ws, e, _, _, h3, _⟩ := h2; cases e; exact ne_of_none h3 hp
    | _ => simp [isOwn] at ho
  refine ⟨upd_ext R.fh _ hF, R.bf, R.bh.trans (Ex.new hp), R.nb, by rw [List.length_set, List.length_set]; exact R.len, fun j s h => ?_, fun j k s t' q jk hj hk hs ht h1 => ?_⟩
  · by_cases e : i = j
    · subst e
      obtain ⟨hi, rfl⟩ := setLt h
      exact ⟨_, List.getElem?_set_self (by rw [R.len]; exact hi), p, xs, rfl, hF, hB, upd_same, t⟩
    · rw [List.getElem?_set_ne e] at h ⊢
      obtain ⟨o, h1, h2⟩ := R.sl j s h
      refine ⟨o, h1, ?_⟩
      cases s with
      | un => trivial
      | dat d => exact h2
      | own ys => obtain ⟨p2, ws, e1, e2, e3, e4, e5⟩ := h2; exact ⟨p2, ws, e1, e2, e3, by rw [upd_ne (ne_of_none e4 hp)]; exact e4, e5⟩
      | dic ys => obtain ⟨p2, ws, e1, e2, e3, e4, e5⟩ := h2; exact ⟨p2, ws, e1, e2, e3, by rw [upd_ne (ne_of_none e4 hp)]; exact e4, e5⟩
  · by_cases ej : i = j
    · subst ej
      obtain ⟨hi, rfl⟩ := setLt hj
      rw [List.getElem?_set_self (by rw [R.len]; exact hi)] at h1
      cases h1
      rw [List.getElem?_set_ne jk] at hk ⊢
      exact fun z => other k t' hk ht _ z rfl
    · rw [List.getElem?_set_ne ej] at hj h1
      by_cases ek : i = k
      · subst ek
        obtain ⟨hi, rfl⟩ := setLt hk
        rw [List.getElem?_set_self (by rw [R.len]; exact hi)]
        intro z
        cases z
        exact other j s hj hs _ h1 rfl
      · rw [List.getElem?_set_ne ek] at hk ⊢
        exact R.ap j k s t' q jk hj hk hs ht h1
theorem pe_dnew (hG : GX X G) : PE X (.Dict [] [] p2) (fun _ H Q => ∀ p, H p = none → Q (.ref p) (upd H p (dicO G.P G.w p []))) := ⟨fun pins s σ H Q I h =>
  wpAny_Dict_empty ⟨.ref s.heap.objs.size, _, I.laid (a := s.heap.objs.size) (o := dicO G.P G.w s.heap.objs.size []) (t' := s.toks) (fun _ _ q => Heap.get?_push_of_some _ q) (Nat.le_refl _)
    (by rw [← hG.p, ← hG.w]; exact dicO_ok ⟨beq_eq_false_iff_ne.mpr (Ne.symm (Nat.ne_of_lt I.big)), Nat.zero_le _, [], .nil, _, #[], 0, Heap.get?_push_size _ rfl, ⟨rfl, rfl, rfl⟩, rfl, rfl, List.nodup_nil⟩), rfl, h _ (I.hok.fresh (Nat.le_refl _))⟩⟩
theorem c_dic (hG : GX X G) (i : Nat) {x : Str} (hN : X.N.Nodup) (hi : X.N[i]? = some x := by rfl) (hx : Loc X.env.scope x := by first | exact Or.inl rfl | exact Or.inr rfl) (hf : X.fn x = true ∨ X.env.scope.names.lookup x = some .local := by first | exact .inl rfl | exact .inr rfl)
    (hs : swapsWith (.Dict [] [] p2) (some (.Name x p1)) pos.line X.env = pure false := by rfl) : PS X (.Assign [.Name x p1] (.Dict [] [] p2) pos) (tS G B W (sDic i)) :=
  psImp (ps_set hN hi hx (pe_dnew hG) hs hf) fun D σ H ⟨δ, F, R, k⟩ p hp => k _ F _ (Ex.refl F) (R.newDic i hp .nil)
theorem c_put (hG : GX X G) (hr : Rm X) (i : Nat) {x : Str} (hb : PE X b (tR G B W fb)) (he : PE X e (tR G B W fe)) (hN : X.N[i]? = some x := by rfl) (hv : Vis X.env.scope x := by first | exact Or.inl rfl | exact Or.inr (Or.inl rfl) | exact Or.inr (Or.inr rfl)) (hd : (x == ("__debug__" : Str)) = false := by decide)
    (hcd : (x == ("__classdict__" : Str)) = false := by decide) (hs : swapsWith e (some (.Subscript (.Name x p1) b p2)) pos.line X.env = pure false := by rfl) : PS X (.Assign [.Subscript (.Name x p1) b p2] e pos) (tS G B W (sPut i fb fe)) := by
  refine ⟨fun pins s σ H D I ⟨δ, F, R, k⟩ => ?_⟩
  unfold sPut at k
  split at k
  · next kvs es =>
    have tv := bindS (Q := fun v H1 => ∃ dv F1, Ext F H F1 H1 ∧ Rep G B F1 H1 σ δ ∧ Dr G F1 v dv ∧ kS G B W F1 D (match fb δ with
      | .ok dk => (match keyT dk with
        | some _ => if kvs.length < 100000 then .nx (δ.set i (.dic (storeD kvs dk dv))) else .no
        | none => .no)
      | .err c => .err c δ
      | .no => .no)) R k fun d v F1 H1 _ x1 R1 r1 k1 => ⟨d, F1, x1, R1, r1, k1⟩
    refine wpAny_Assign_Subscript (thn (he.run pins s σ H _ I tv) fun uv s1 ⟨v, H1, I1, rv, dv, F1, x1, R1, r1, k1⟩ => ?_) hs
    obtain ⟨p, xs, h1, h2, h3, h4, h5⟩ := R1.dic es
    refine thn ((pe_var hN hv hd hcd).run pins s1 σ H1 (fun v H' => v = .ref p ∧ H' = H1) I1 ⟨_, h1, rfl, rfl⟩) fun uo s2 ⟨vo, H2, I2, ro, eo, eH⟩ => ?_
    subst eo eH
    obtain rfl : uo = Value.ref p := ro
    have tk := bindS (D := D) (Q := fun v H3 => ∃ dk F3, Ext F1 H2 F3 H3 ∧ Rep G B F3 H3 σ δ ∧ Dr G F3 v dk ∧ kS G B W F3 D (match keyT dk with
      | some _ => if kvs.length < 100000 then .nx (δ.set i (.dic (storeD kvs dk dv))) else .no
      | none => .no)) R1 k1 fun d v F3 H3 _ x3 R3 r3 k3 => ⟨d, F3, x3, R3, r3, k3⟩
    refine thn (hb.run pins s2 σ H2 _ I2 tk) fun ub s3 ⟨vk, H3, I3, rk, dk, F3, x3, R3, r3, k3⟩ => ?_
    cases ek : keyT dk with
    | none => rw [ek] at k3; exact k3.elim
    | some nk =>
      rw [ek] at k3
      dsimp only at k3
      split at k3
      · next hl =>
        obtain ⟨a, rfl⟩ := key_ref r3 ek
        obtain rfl : ub = Value.ref a := rk
        obtain ⟨q, ws, g1, g2, g3, g4, g5⟩ := R3.dic es
        rw [h1] at g1
        cases g1
        obtain ⟨kk1, kk2⟩ := keyT_of ek
        obtain ⟨d1, d2, ys, tt, dd⟩ := dic_at hG I3 g4 R3.fh g5
        have hz : ys.length ≤ sizeLine := by rw [← Paired.length tt]; exact d2
        have hkey : (nestedKind X.prog X.w).is s3.heap nk a := ⟨Dr.key I3 (r3.mono R3.fh) kk1 rfl, kk2⟩
        refine wpAny_setItem_heap (knd := nestedKind X.prog X.w) (hsz := hz) (show X.A.in1.units + 8 < cLine by show X.A.units + 1 + 8 < cLine; have := hr.u; omega) hkey dd fun h' dd' hs' => ?_
        have hz2 : (storeX ws nk a v).length ≤ sizeLine := by
          have e1 := store_len ws nk a v
          have e2 := kv_len g5
          exact bigOf (by omega)
        refine ⟨σ, _, dic_write hG I3 g4 dd' hs' (store_rel rv tt) hz2 d1, ?_⟩
        exact k3 σ F3 _ (Ex.refl F3) (R3.setOwn _ es rfl h1 g2 g3 rfl ⟨p, _, rfl, g2, g3, upd_same, store_kv r3 kk1 kk2 (r1.mono x3.ff) g5⟩)
      · exact k3.elim
  · exact k.elim
/-- what a look-up by a key gives -/
theorem look_run {pins : List (Addr × Obj)} {s : Shared} {σ : L2.St} {F H FD : Hp} {p a : Addr} {xs : Ents} {kvs : List (PyData × PyData)} {dk : PyData} {Q : VK} (hG : GX X G) (hr : Rm X) (I : Inv X pins σ H s) (h : H p = some (dicO G.P G.w p xs)) (e : Ex F H) (t : DrKV G F xs kvs) (ed : Ex F FD) (ef : Ex FD H) (r : Dr G F (.ref a) dk) (k : kD G FD H Q (gLook kvs dk)) :
    wpAny (model X.prog X.w) X.A (getItem (.ref p) (.ref a)) (EP X pins σ Q) X.xe s := by
  unfold gLook at k
  cases ek : keyT dk with
  | none => rw [ek] at k; exact k.elim
  | some nk =>
    rw [ek] at k
    obtain ⟨kk1, kk2⟩ := keyT_of ek
    obtain ⟨d1, d2, ys, tt, dd⟩ := dic_at hG I h e t
    cases el : lookD2 kvs dk with
    | none => rw [show (some nk).bind (fun _ => lookD2 kvs dk) = none from el] at k; exact k.elim
    | some d =>
      rw [show (some nk).bind (fun _ => lookD2 kvs dk) = some d from el] at k
      obtain ⟨b, u, v, hat, rv, rd⟩ := look_at tt t kk1 el
      have hkey : (nestedKind X.prog X.w).is s.heap nk a := ⟨Dr.key I (r.mono e) kk1 rfl, kk2⟩
      exact wpAny_getItem_heap (knd := nestedKind X.prog X.w) (show X.A.in1.units + 8 < cLine by show X.A.units + 1 + 8 < cLine; have := hr.u; omega) hkey dd hat ⟨v, H, I.tok _, rv, k.val ef (rd.mono ed)⟩
theorem dic_typeIs {pins : List (Addr × Obj)} {s : Shared} {σ : L2.St} {H : Hp} {p : Addr} {xs : Ents} (I : Inv X pins σ H s) (h : H p = some (dicO G.P G.w p xs)) : s.TypeIs (.ref p) "dict" := by
  obtain ⟨⟨h1, h2, ys, tt, o, es, ep, ho, hex, hd, hes, hn⟩, _⟩ := I.hok p _ h
  exact ⟨o, ho, hex.1⟩
theorem c_dget (hG : GX X G) (hr : Rm X) (i : Nat) {x : Str} (hb : PE X b (tR G B W fb)) (hN : X.N[i]? = some x := by rfl) (hv : Vis X.env.scope x := by first | exact Or.inl rfl | exact Or.inr (Or.inl rfl) | exact Or.inr (Or.inr rfl)) (hd : (x == ("__debug__" : Str)) = false := by decide)
    (hcd : (x == ("__classdict__" : Str)) = false := by decide) (hs : NoSl b := by intro _ _; rfl) : PE X (.Subscript (.Name x p1) b pos) (tR G B W (xDget i fb)) := by
  refine ⟨fun pins s σ H Q I ⟨δ, F, R, k⟩ => ?_⟩
  unfold xDget at k
  split at k
  · next kvs es =>
    obtain ⟨p, xs, h1, h2, h3, h4, h5⟩ := R.dic es
    refine subD_of PySem.F.slot_dict_getitem.lookup hs (thn ((pe_var hN hv hd hcd).run pins s σ H (fun v H' => v = .ref p ∧ H' = H) I ⟨_, h1, rfl, rfl⟩) fun uo s1 ⟨vo, H1, I1, ro, eo, eH⟩ => ?_)
    subst eo eH
    obtain rfl : uo = Value.ref p := ro
    refine thn (hb.run pins s1 σ H1 (fun v H3 => ∃ dk F3, Ext F H1 F3 H3 ∧ Rep G B F3 H3 σ δ ∧ Dr G F3 v dk ∧ kD G F3 H3 Q (gLook kvs dk)) I1 (bindE R k fun d v F3 H3 x3 R3 r3 k3 => ⟨d, F3, x3, R3, r3, k3.kD⟩)) fun ub s3 ⟨vk, H3, I3, rk, dk, F3, x3, R3, r3, k3⟩ => ?_
    obtain ⟨q, ws, g1, g2, g3, g4, g5⟩ := R3.dic es
    rw [h1] at g1
    cases g1
    refine ⟨dic_typeIs I3 g4, ?_⟩
    cases ek : keyT dk with
    | none => unfold gLook at k3; rw [ek] at k3; exact k3.elim
    | some nk =>
      obtain ⟨a, rfl⟩ := key_ref r3 ek
      obtain rfl : ub = Value.ref a := rk
      exact look_run hG hr I3 g4 R3.fh g5 (Ex.refl F3) R3.fh r3 k3
  · next d es =>
    obtain ⟨v, h1, r⟩ := R.dat es
    have dead : ∀ o : PyData → Option PyData, (∀ dk, o dk = none) → kE G W F H σ Q ((fb δ).bind fun dk => Rs.of (o dk)) → tR G B W fb σ H (fun _ _ => False) := fun o ho kk => by
      refine bindE R kk fun dk vk F3 H3 x3 R3 r3 k3 => ?_
      rw [ho dk] at k3
      exact k3
    cases r with
    | @dct p xs kvs g1 t1 =>
      rw [show dictD (.dict kvs) = some kvs from dictD_of t1] at k
      refine subD_of PySem.F.slot_dict_getitem.lookup hs (thn ((pe_var hN hv hd hcd).run pins s σ H (fun v H' => v = .ref p ∧ H' = H) I ⟨_, h1, rfl, rfl⟩) fun uo s1 ⟨vo, H1, I1, ro, eo, eH⟩ => ?_)
      subst eo eH
      obtain rfl : uo = Value.ref p := ro
      refine thn (hb.run pins s1 σ H1 (fun v H3 => ∃ dk F3, Ext F H1 F3 H3 ∧ Rep G B F3 H3 σ δ ∧ Dr G F3 v dk ∧ kD G F3 H3 Q (gLook kvs dk)) I1 (bindE R k fun d v F3 H3 x3 R3 r3 k3 => ⟨d, F3, x3, R3, r3, k3.kD⟩)) fun ub s3 ⟨vk, H3, I3, rk, dk, F3, x3, R3, r3, k3⟩ => ?_
      have hp3 := x3.hh _ _ (R.fh _ _ g1)
      refine ⟨dic_typeIs I3 hp3, ?_⟩
      cases ek : keyT dk with
      | none => unfold gLook at k3; rw [ek] at k3; exact k3.elim
      | some nk =>
        obtain ⟨a, rfl⟩ := key_ref r3 ek
        obtain rfl : ub = Value.ref a := rk
        exact look_run hG hr I3 hp3 (R3.fh) (t1.mono x3.ff) (Ex.refl F3) R3.fh r3 k3
    | _ =>
      refine Subscript_ (thn ((pe_var hN hv hd hcd).run pins s σ H (fun v' H' => H' = H) I ⟨_, h1, rfl⟩) fun uo s1 ⟨vo, H1, I1, ro, eH⟩ => ?_)
      subst eH
      refine thn (hb.run pins s1 σ H1 (fun _ _ => False) I1 (dead _ (fun dk => ?_) k)) fun ub s3 ⟨vk, H3, I3, rk, z⟩ => z.elim
      rfl
  · exact k.elim
theorem has_run {pins : List (Addr × Obj)} {s : Shared} {σ : L2.St} {F H : Hp} {p a : Addr} {xs : Ents} {kvs : List (PyData × PyData)} {dk : PyData} {Q : VK} {neg : Bool} {op : CmpOp} (hop : op = if neg then .NotIn else .In) (hG : GX X G) (hr : Rm X) (I : Inv X pins σ H s) (h : H p = some (dicO G.P G.w p xs)) (e : Ex F H) (t : DrKV G F xs kvs) (r : Dr G F (.ref a) dk)
    (k : ∀ b, gHas kvs neg dk = some (.bool b) → Q (.bl b) H) (hk : gHas kvs neg dk ≠ none) : wpAny (model X.prog X.w) X.A (compareOp op (.ref a) (.ref p)) (EP X pins σ Q) X.xe s := by
  unfold gHas at k hk
  cases ek : keyT dk with
  | none => rw [ek] at hk; exact absurd rfl hk
  | some nk =>
    rw [ek] at k
    obtain ⟨kk1, kk2⟩ := keyT_of ek
    obtain ⟨d1, d2, ys, tt, dd⟩ := dic_at hG I h e t
    have hkey : (nestedKind X.prog X.w).is s.heap nk a := ⟨Dr.key I (r.mono e) kk1 rfl, kk2⟩
    have hroom : X.A.in1.units + 8 < cLine := by show X.A.units + 1 + 8 < cLine; have := hr.u; omega
    have hb : (atKey ys nk).isSome = (lookD2 kvs dk).isSome := (at_none tt).trans (look_any t kk1).symm
    have hm : Heap.DictKeyed (nestedKind X.prog X.w) s.heap p (pairsH ys) := ⟨ys, dd, rfl⟩
    have hv : (valueAt (pairsH ys) nk).isSome = (lookD2 kvs dk).isSome := by rw [valueAt_pairsH, Option.isSome_map]; exact hb
    cases neg with
    | false =>
      subst hop
      refine in_keyed (knd := nestedKind X.prog X.w) hroom hkey d1 hm ?_
      rw [hv]
      exact ⟨.bl _, H, I.tok _, rfl, k _ rfl⟩
    | true =>
      subst hop
      refine notIn_keyed (knd := nestedKind X.prog X.w) hroom hkey d1 hm ?_
      rw [hv]
      exact ⟨.bl _, H, I.tok _, rfl, k _ rfl⟩
theorem pc_own (hG : GX X G) (hr : Rm X) (neg : Bool) (i : Nat) {x : Str} {op : CmpOp} (hop : op = if neg then .NotIn else .In) (hb : PE X b (tR G B W fb)) (hN : X.N[i]? = some x) (hv : Vis X.env.scope x) (hd : (x == ("__debug__" : Str)) = false)
    (hcd : (x == ("__classdict__" : Str)) = false) : PC X op b (.Name x p1) (tR G B W (xDin neg i fb)) := by
  refine ⟨fun pins s σ H Q I ⟨δ, F, R, k⟩ => ?_⟩
  unfold xDin at k
  refine thn (hb.run pins s σ H _ I (bindE (Q' := fun v H1 => ∃ dk F1, Ext F H F1 H1 ∧ Rep G B F1 H1 σ δ ∧ Dr G F1 v dk ∧ kE G W F1 H1 σ Q (match δ[i]? with
    | some (.dic kvs) => Rs.of (gHas kvs neg dk)
    | some (.dat d) => Rs.of ((dictD d).bind fun kvs => gHas kvs neg dk)
    | _ => .no)) R k fun d v F1 H1 x1 R1 r1 k1 => ⟨d, F1, x1, R1, r1, k1⟩)) fun ub s1 ⟨vk, H1, I1, rk, dk, F1, x1, R1, r1, k1⟩ => ?_
  split at k1
  · next kvs es =>
    obtain ⟨p, xs, h1, h2, h3, h4, h5⟩ := R1.dic es
    refine thn ((pe_var hN hv hd hcd).run pins s1 σ H1 (fun v H' => v = .ref p ∧ H' = H1) I1 ⟨_, h1, rfl, rfl⟩) fun uo s2 ⟨vo, H2, I2, ro, eo, eH⟩ => ?_
    subst eo eH
    obtain rfl : uo = Value.ref p := ro
    have k2 := k1.kD
    cases ek : keyT dk with
    | none => unfold gHas at k2; rw [ek] at k2; exact k2.elim
    | some nk =>
      obtain ⟨a, rfl⟩ := key_ref r1 ek
      obtain rfl : ub = Value.ref a := rk
      refine has_run hop hG hr I2 h4 R1.fh h5 r1 (fun bb e => ?_) (fun z => by rw [z] at k2; exact k2)
      rw [e] at k2
      exact k2.val R1.fh (.bl bb)
  · next d es =>
    obtain ⟨v, h1, r⟩ := R1.dat es
    have k2 := k1.kD
    cases r with
    | @dct p xs kvs g1 t1 =>
      rw [show dictD (.dict kvs) = some kvs from dictD_of t1] at k2
      have k2 : kD G F1 H1 Q (gHas kvs neg dk) := k2
      refine thn ((pe_var hN hv hd hcd).run pins s1 σ H1 (fun v H' => v = .ref p ∧ H' = H1) I1 ⟨_, h1, rfl, rfl⟩) fun uo s2 ⟨vo, H2, I2, ro, eo, eH⟩ => ?_
      subst eo eH
      obtain rfl : uo = Value.ref p := ro
      cases ek : keyT dk with
      | none => unfold gHas at k2; rw [ek] at k2; exact k2.elim
      | some nk =>
        obtain ⟨a, rfl⟩ := key_ref r1 ek
        obtain rfl : ub = Value.ref a := rk
        refine has_run hop hG hr I2 (R1.fh _ _ g1) R1.fh t1 r1 (fun bb e => ?_) (fun z => by rw [z] at k2; exact k2)
        rw [e] at k2
        exact k2.val R1.fh (.bl bb)
    | _ => exact k2.elim
  · exact k1.elim
theorem c_din (hG : GX X G) (hr : Rm X) (neg : Bool) (i : Nat) {x : Str} {op : CmpOp} (hop : op = if neg then .NotIn else .In) (hb : PE X b (tR G B W fb)) (hN : X.N[i]? = some x := by rfl) (hv : Vis X.env.scope x := by first | exact Or.inl rfl | exact Or.inr (Or.inl rfl) | exact Or.inr (Or.inr rfl)) (hd : (x == ("__debug__" : Str)) = false := by decide)
    (hcd : (x == ("__classdict__" : Str)) = false := by decide) (hm : behindInMarks op (.Name x p1) = false := by rfl) : PE X (.Compare b [op] [.Name x p1] pos) (tR G B W (xDin neg i fb)) := pe_cmp (pc_own hG hr neg i hop hb hN hv hd hcd) hm
theorem c_tdin (hG : GX X G) (hr : Rm X) (neg : Bool) (i : Nat) {x : Str} {op : CmpOp} (hop : op = if neg then .NotIn else .In) (hb : PE X b (tR G B W fb)) (hN : X.N[i]? = some x := by rfl) (hv : Vis X.env.scope x := by first | exact Or.inl rfl | exact Or.inr (Or.inl rfl) | exact Or.inr (Or.inr rfl)) (hd : (x == ("__debug__" : Str)) = false := by decide)
    (hcd : (x == ("__classdict__" : Str)) = false := by decide) (hm : behindInMarks op (.Name x p1) = false := by rfl) : PT X (.Compare b [op] [.Name x p1] pos) (tT G B W (yB (xDin neg i fb))) := by
  refine ptImp (pt_cmp (pc_own (G := G) (B := B) (W := W) hG hr neg i hop hb hN hv hd hcd) hm) fun σ H Q ⟨δ, F, R, k⟩ => ?_
  refine bindET R k fun d v F1 H1 x1 R1 r1 k1 => ?_
  cases r1 with
  | bl b => exact ⟨b, rfl, k1 F1 H1 (Ext.refl x1.fh)⟩
  | _ => exact k1.elim
end
end LY

set_option maxHeartbeats 4000000
namespace LY
open PySem PySem.Spec PyProof.Rows L2

/-! ### sorting data -/
def neTup : PyData → Bool
  | .tuple (_ :: _) => true
  | _ => false
def noTup : PyData → Bool
  | .none => false
  | .tuple _ => false
  | _ => true
def anyTup : PyData → Bool
  | .tuple _ => true
  | _ => false
def alikes (ds : List PyData) : Bool := ds.all fun x => ds.all fun y => PySem.W.alike x y
def sortOk (ds : List PyData) : Bool := ds.all okD && alikes ds && decide (ds.length ≤ 100000) && (ds.all neTup || ds.all noTup || (decide (ds.length ≤ 1) && ds.all fun d => !isNoneD d) || ds.all anyTup)
abbrev leD : PyData → PyData → Bool := PySem.W.dataLe false id
def sortD (ds : List PyData) : List PyData := ds.mergeSort leD
theorem alikes_all {ds : List PyData} (h : alikes ds = true) : PySem.W.AllAlike ds := fun d hd d' hd' => by
  unfold alikes at h
  rw [List.all_eq_true] at h
  have := h d hd
  rw [List.all_eq_true] at this
  exact this d' hd'
section
open PySem.SeqAt PySem.W PySem.Calls
variable {prog : Program} {w : World} {A : Around} {E : Value → Shared → Prop} {s : Shared}
/-- the call of tuple's own <, as sorting makes it -/
theorem call_tuple_lt {Q : Value → Shared → Prop} {l b : Addr} {items items2 : Array Value} {e r : Nat → Bool} (hl : s.heap.IsTuple l items) (hb : s.heap.IsTuple b items2)
    (he : ∀ j (h1 : j < items.size) (h2 : j < items2.size), EqAt A.in1 s items[j] items2[j] (e j)) (hr : ∀ j (h1 : j < items.size) (h2 : j < items2.size), e j = false → RcLt A.in1 s items[j] items2[j] (r j))
    (h : Q (.bool (firstLt e r (decide (items.size < items2.size)) (List.range (min items.size items2.size)))) s) : wpAny (model prog w) A (call (.builtin "tuple.__lt__") [.ref l, .ref b]) Q E s := by
  obtain ⟨⟨cls, dd, data, sl⟩, ho, hc, n, hd⟩ := id hl
  obtain ⟨⟨cls2, dd2, data2, sl2⟩, ho2, hc2, n2, hd2⟩ := id hb
  simp only at hc hd hc2 hd2
  subst hc hd hc2 hd2
  exact call_meets F.slot_tuple_lt ⟨_, ho, rfl⟩ F.entry_tuple_lt (F.args_tuple_lt_2 _ _) (tuple_ltAt l b items items2 n n2 dd dd2 sl sl2 e r) ⟨ho, ho2, he, hr, h⟩
theorem oneLt_tup {Q : Bool → Shared → Prop} {xs ys : List PyData} {a b : Value} {as bs : List Addr} (ra : Reads s.heap a (.tuple xs) as) (rb : Reads s.heap b (.tuple ys) bs) (h : PySem.W.alike (.tuple xs) (.tuple ys) = true)
    (hu : A.units + min (PyData.tuple xs).depth (PyData.tuple ys).depth < cLine) (hq : Q (PySem.W.dataLt (.tuple xs) (.tuple ys)) s) : wpAny (model prog w) A (oneLt' true a b) Q E s := by
  have hal : PySem.W.alikeAll xs ys = true := by simpa [PySem.W.alike] using h
  cases ra with
  | @tuple l o vs n _ as₁ h1 h2 h3 h4 =>
    cases rb with
    | @tuple l' o' vs' n' _ bs₁ k1 k2 k3 k4 =>
      have n1 : vs.size = xs.length := by simpa using ReadsAll.length _ _ _ h4
      have n2 : vs'.size = ys.length := by simpa using ReadsAll.length _ _ _ k4
      rw [PySem.W.dataLt_tuple, ← firstLt_toks xs ys hal, ← n1, ← n2] at hq
      rw [oneLt'_eq]
      simp only [if_true]
      refine wpAny_bind (wpAny_cRoomFor (room_here hu) ?_)
      refine wpAny_bind (wpAny_callSpecialIfBound?_slot (T := "tuple") ⟨_, h1, h2⟩ F.slot_tuple_lt (call_tuple_lt (e := pairEq xs ys) (r := fun j => PySem.W.dataLt (xs.getD j .none) (ys.getD j .none)) ⟨_, h1, h2, _, h3⟩ ⟨_, k1, k2, _, k3⟩ (fun j j1 j2 => ?_) (fun j j1 j2 hj => ?_) ?_))
      · have := eqAt_alikeAll xs ys A.in1 s vs.toList vs'.toList _ _ h4 k4 hal (room_in hu) j (by simpa using j1) (by simpa using j2)
        simpa using this
      · have := rcLt_alikeAll xs ys A.in1 s vs.toList vs'.toList _ _ h4 k4 hal (room_in hu) j (by simpa using j1) (by simpa using j2) hj
        simpa using this
      · exact wpAny_truthy_bool hq
theorem firsts_mix {M : Model} : ∀ (vs : List Value) (ds : List PyData) {Q : List (Option Value) → Shared → Prop}, PySem.W.EachIs (fun v d => ∃ as, Reads s.heap v d as) vs ds → (∀ d ∈ ds, anyTup d = true) → (∀ fs : List (Option Value), fs.map Option.isSome = ds.map neTup → Q fs s) → wpAny M A (vs.mapM firstOfTuple') Q E s
  | _, _, Q, .nil, _, h => by rw [List.mapM_nil]; exact wpAny_pure (h [] rfl)
  | v :: vs, d :: ds, Q, .cons ⟨as, r⟩ t, hd, h => by
    have hd0 := hd d List.mem_cons_self
    cases r with
    | @tuple a o xs n es _ ho hc hdt hr =>
      rw [List.mapM_cons]
      refine wpAny_bind ?_
      rw [kas_first_eq]
      refine wpAny_bind (Looks.here (show Looks M s.heap (typeOf (.ref a)) o.cls from (Looks.ld ho).andThen .now) ?_)
      rw [hc, if_neg (by first | decide | simp)]
      refine wpAny_bind (listItems_at ho hdt (wpAny_pure ?_))
      have e1 : (xs[0]?).isSome = neTup (.tuple es) := by
        have hl := ReadsAll.length _ _ _ hr
        cases es with
        | nil =>
          have : xs.size = 0 := by simpa using hl
          simp [this, neTup]
        | cons x r =>
          have : xs.size = (x :: r).length := by simpa using hl
          simp [this, neTup]
      exact wpAny_bind (firsts_mix vs ds (Q := fun bs s' => wpAny M A (pure (xs[0]? :: bs)) Q E s') t (fun d h => hd d (List.mem_cons_of_mem _ h)) fun fs hfs => wpAny_pure (h _ (by rw [List.map_cons, List.map_cons, hfs, e1])))
    | _ => exact nomatch hd0
theorem mix_kind {M : Model} {vs : List Value} {d0 : PyData} {ds : List PyData} {Q : SortKind → Shared → Prop} (e : PySem.W.EachIs (fun v d => ∃ as, Reads s.heap v d as) vs (d0 :: ds)) (ht : ∀ d ∈ d0 :: ds, anyTup d = true) (hn : (d0 :: ds).all neTup = false)
    (h : Q (if neTup d0 = true then general' else oneType') s) : wpAny M A (keyKind' vs.toArray) Q E s := by
  rw [keyKind'_eq, List.mapM_toArray, map_eq_pure_bind]
  refine wpAny_bind (wpAny_bind (firsts_mix vs (d0 :: ds) e ht fun fs hfs => wpAny_pure ?_))
  have nall : ¬ (fs.toArray.all fun x => x.isSome) = true := by
    intro z
    have z2 : fs.all (fun x => x.isSome) = true := by simpa using z
    have : (fs.map Option.isSome).all id = true := by rw [List.all_map]; exact z2
    rw [hfs, List.all_map] at this
    have z3 : (d0 :: ds).all neTup = true := this
    rw [hn] at z3
    exact nomatch z3
  rw [if_neg nall]
  cases fs with
  | nil => exact nomatch hfs
  | cons f fr =>
    have hf : f.isSome = neTup d0 := by
      rw [List.map_cons, List.map_cons] at hfs
      exact (List.cons.inj hfs).1
    have e0 : ((f :: fr).toArray[0]?.bind id).isSome = f.isSome := by simp
    rw [e0, hf]
    cases k : neTup d0 with
    | true =>
      rw [k, if_pos rfl] at h
      rw [if_pos rfl]
      exact wpAny_pure h
    | false =>
      rw [k, if_neg (by simp)] at h
      rw [if_neg (by simp)]
      rw [oneTypeOnly'_eq, List.mapM_toArray, map_eq_pure_bind]
      have hT : ∀ v ∈ vs, Looks M s.heap (typeOf v) (Value.type "tuple") := fun v hv => by
        obtain ⟨d, hd, as, r⟩ := e.left v hv
        have q := PySem.W.looks_reads (M := M) r
        have := ht d hd
        cases d with
        | tuple xs => exact q
        | _ => exact nomatch this
      refine wpAny_bind (wpAny_bind (wpAny_bind (kas_mapM (r := Value.type "tuple") _ (fun v hv Q' hq => (hT v hv).here hq) (wpAny_pure ?_))))
      cases vs with
      | nil => cases e
      | cons v vr =>
        have hall : ((List.map (fun _ => Value.type "tuple") (v :: vr)).toArray.all fun x => x == Value.type "tuple") = true := by
          simp only [List.all_toArray, List.all_map, List.all_eq_true]
          intro _ _
          show (Value.type "tuple" == Value.type "tuple") = true
          decide
        have h0 : (List.map (fun _ => Value.type "tuple") (v :: vr)).toArray[0]? = some (Value.type "tuple") := by simp
        rw [h0]
        simp only [hall, if_true]
        exact wpAny_pure (wpAny_pure h)
end
section
variable {prog : Program} {w : World} {A : Around} {E : Value → Shared → Prop} {s : Shared}
theorem sortsAt {vs : List Value} {ds : List PyData} (e : PySem.W.EachIs (fun v d => ∃ as, Reads s.heap v d as) vs ds) (hok : sortOk ds = true) (hu : A.units + 60 < cLine) : PySem.W.SortsAt prog w A s (PySem.W.dataKind s.heap ds) vs := by
  unfold sortOk at hok
  simp only [Bool.and_eq_true, Bool.or_eq_true, List.all_eq_true, decide_eq_true_eq] at hok
  obtain ⟨⟨⟨h1, h2⟩, _⟩, h3⟩ := hok
  have hal := alikes_all h2
  have hd : ∀ d, d ∈ ds → A.units + d.depth < cLine := fun d hd => by have := okD.depth (h1 d hd); omega
  rcases h3 with ((h3 | h3) | ⟨h3, h4⟩) | h3
  · refine PySem.W.SortsAt.data e hal (.inl fun d hd => ?_) hd
    have := h3 d hd
    unfold neTup at this
    split at this
    · exact ⟨_, _, rfl⟩
    · exact nomatch this
  · refine PySem.W.SortsAt.data e hal (.inr fun d hd => ?_) hd
    have := h3 d hd
    unfold noTup at this
    split at this
    · exact nomatch this
    · exact nomatch this
    · next z1 z2 => exact ⟨z1, fun xs => z2 xs⟩
  · have hl := e.length
    refine ⟨fun v hv => ?_, general', fun E x y a b Q ha hb hq => ?_, fun z => by omega⟩
    · obtain ⟨d, hd, as, r⟩ := e.left v hv
      exact ⟨_, PySem.W.dataKind_some hal hd r⟩
    · obtain ⟨d, as, hd1, ra, rfl⟩ := PySem.W.dataKind_inv ha
      obtain ⟨d', as', hd', rb, rfl⟩ := PySem.W.dataKind_inv hb
      rw [show keyLt' general' x y = oneLt' false x y from rfl]
      refine PySem.W.oneLt_alike (fun z => nomatch z) ra rb (hal d hd1 d' hd') (fun z => ?_) (Nat.lt_of_le_of_lt (Nat.add_le_add_left (Nat.min_le_left _ _) _) (hd d hd1)) hq
      have q := h4 d hd1
      rw [z] at q
      exact nomatch q
  · by_cases ne : ds.all neTup = true
    · refine PySem.W.SortsAt.data e hal (.inl fun d hd => ?_) hd
      have := List.all_eq_true.mp ne d hd
      unfold neTup at this
      split at this
      · exact ⟨_, _, rfl⟩
      · exact nomatch this
    · have ne' : ds.all neTup = false := by simpa using ne
      cases ds with
      | nil => exact absurd rfl ne
      | cons d0 r0 =>
        refine ⟨fun v hv => ?_, (if neTup d0 = true then general' else oneType'), fun E x y a b Q ha hb hq => ?_, fun h2 E Q hq => mix_kind e h3 ne' hq⟩
        · obtain ⟨d, hd, as, r⟩ := e.left v hv
          exact ⟨_, PySem.W.dataKind_some hal hd r⟩
        · obtain ⟨d, as, hd1, ra, rfl⟩ := PySem.W.dataKind_inv ha
          obtain ⟨d', as', hd', rb, rfl⟩ := PySem.W.dataKind_inv hb
          have room := Nat.lt_of_le_of_lt (Nat.add_le_add_left (Nat.min_le_left d.depth d'.depth) A.units) (hd d hd1)
          have al := hal d hd1 d' hd'
          have t1 := h3 d hd1
          have t2 := h3 d' hd'
          by_cases k : neTup d0 = true
          · rw [if_pos k, show keyLt' general' x y = oneLt' false x y from rfl]
            refine PySem.W.oneLt_alike (fun z => nomatch z) ra rb al (fun z => ?_) room hq
            rw [z] at t1
            exact nomatch t1
          · rw [if_neg k, keyLt'_oneType]
            cases d with
            | tuple xs => cases d' with
              | tuple ys => exact oneLt_tup ra rb al room hq
              | _ => exact nomatch t2
            | _ => exact nomatch t1
/-- sorted(x), x whatever can be gathered -/
theorem sorted_from {β : Type} {enc : β → PyData} {R : Value → β → Prop} {x : Value} {Q : Value → Shared → Prop}
    (hcol : wpAny (model prog w) A.in1 (collect x) (fun vs s1 => (∀ b o, s.heap.get? b = some o → s1.heap.get? b = some o) ∧ ∃ bs : List β, PySem.W.EachIs R vs bs ∧ PySem.W.EachIs (fun v b => ∃ as, Reads s1.heap v (enc b) as) vs bs ∧ sortOk (bs.map enc) = true ∧
      ∀ s' p out c, (∀ b o, s.heap.get? b = some o → s'.heap.get? b = some o) → s'.gens = s1.gens → s'.os = s1.os → s.heap.get? p = none → s'.heap.get? p = some (seqObj "list" (List.toArray out) c) → PySem.W.EachIs R out (bs.mergeSort (PySem.W.dataLe false enc)) → Q (.ref p) s') E s)
    (hu : A.units + 70 < cLine) : wpAny (model prog w) A (call (.builtin "sorted") [x]) Q E s := by
  refine Calls.call_function_entry kind_sorted plain_sorted entry_sorted (args_sorted1 _) ?_
  unfold Builtin.«sorted»
  refine wpAny_bind (m := checkCount "sorted" 1 1 _) (wpAny_pure ?_)
  refine wpAny_bind (wpAny_mono hcol (fun vs s1 ⟨k1, bs, e, er, hok, hq⟩ => ?_) fun _ _ z => z)
  have hl := e.length
  have hlen : vs.length ≤ 100000 := by
    unfold sortOk at hok
    simp only [Bool.and_eq_true, decide_eq_true_eq] at hok
    rw [hl, ← List.length_map (f := enc)]
    exact hok.1.2
  have hL : vs.length ≤ sizeLine := bigOf hlen
  refine wpAny_bind (wpAny_newList ?_ hL)
  have hoL : (s1.heap.push (seqObj "list" vs.toArray 0)).get? s1.heap.objs.size = some (seqObj "list" vs.toArray 0) := Heap.get?_push_size _ rfl
  have keepS : ∀ b o, s1.heap.get? b = some o → (PySem.W.sortingHeap (s1.heap.push (seqObj "list" vs.toArray 0)) s1.heap.objs.size vs).get? b = some o := fun b o q =>
    PySem.W.sortingHeap_old (Nat.ne_of_lt (Heap.lt_size q)) (Heap.get?_push_of_some _ q)
  have er' : PySem.W.EachIs (fun v b => ∃ as, Reads (PySem.W.sortingHeap (s1.heap.push (seqObj "list" vs.toArray 0)) s1.heap.objs.size vs) v (enc b) as) vs bs := er.mono fun _ _ ⟨as, r⟩ => ⟨as, PyProof.Rows.Reads.keeps keepS r⟩
  have S := sortsAt (prog := prog) (w := w) (A := A.in1.in1) (s := { s1 with heap := PySem.W.sortingHeap (s1.heap.push (seqObj "list" vs.toArray 0)) s1.heap.objs.size vs }) (PySem.W.each_map (R := fun v d => ∃ as, Reads (PySem.W.sortingHeap (s1.heap.push (seqObj "list" vs.toArray 0)) s1.heap.objs.size vs) v d as) enc er') hok (by show A.units + 1 + 1 + 60 < cLine; omega)
  refine wpAny_bind (wpAny_holding (wpAny_call_entry slot_list_sort ⟨_, hoL, rfl⟩ entry_list_sort (PySem.W.list_sort_vals (s := { s1 with heap := s1.heap.push (seqObj "list" vs.toArray 0) }) hoL S hL ⟨_, rfl, ?_⟩) (args_list_sort _)))
  obtain ⟨c, hc⟩ := sortedHeap_at (vs := vs) (out := (PySem.W.sortVals (PySem.W.dataKind (PySem.W.sortingHeap (s1.heap.push (seqObj "list" vs.toArray 0)) s1.heap.objs.size vs) (bs.map enc)) false vs vs).toArray) hoL
  have hz : s.heap.get? s1.heap.objs.size = none := by
    cases q : s.heap.get? s1.heap.objs.size with
    | none => rfl
    | some o => exact absurd (Heap.lt_size (k1 _ _ q)) (Nat.lt_irrefl _)
  refine wpAny_pure ⟨_, rfl, hq _ s1.heap.objs.size _ c (fun b o q => ?_) rfl rfl hz hc (PySem.W.sortVals_data false e er' (alikes_all ?_))⟩
  · have q1 := k1 b o q
    have hlt := Heap.lt_size q1
    show (sortedHeap (s1.heap.push (seqObj "list" vs.toArray 0)) s1.heap.objs.size vs _).get? b = some o
    rw [sortedHeap_old (Nat.ne_of_lt hlt) (by rw [size_push']; exact Nat.lt_succ_of_lt hlt)]
    exact Heap.get?_push_of_some _ q1
  · unfold sortOk at hok
    simp only [Bool.and_eq_true] at hok
    exact hok.1.1.2
theorem collect_tuple {l : Addr} {its : Array Value} {Q : List Value → Shared → Prop} (hl : IsTup s.heap l its) (hL : its.size ≤ sizeLine) (h : ∀ s1 : Shared, (∀ b o, s.heap.get? b = some o → s1.heap.get? b = some o) → s1.gens = s.gens → s1.os = s.os → Q its.toList s1) :
    wpAny (model prog w) A (collect (.ref l)) Q E s := by
  obtain ⟨o, ho, hc, n, hd⟩ := id hl
  unfold collect
  refine wpAny_bind (wpAny_runValue (codeAny_builtin entry_proto_collect' ?_))
  show wpAny _ _ (newList [] >>= fun v => again (.builtin "list.__iadd__" ⟨[v, .ref l], []⟩)) _ _ s
  refine wpAny_bind (wpAny_newList (wpAny_pure ⟨Code.quiet_builtin _ (by decide +kernel), codeAny_builtin entry_list_iadd' ?_⟩))
  show wpAny _ _ (Builtin.List.listExtendWith (.ref s.heap.objs.size) (.ref l) (.ref s.heap.objs.size)) _ _ { s with heap := s.heap.push (seqObj "list" #[] 0) }
  unfold Builtin.List.listExtendWith
  have ho2 : (s.heap.push (seqObj "list" #[] 0)).get? l = some o := Heap.get?_push_of_some _ ho
  refine wpAny_bind (wpAny_typeOf (T := "tuple") ⟨o, ho2, hc⟩ ?_)
  have e1 : (Builtin.List.listSameRef (.ref s.heap.objs.size) (.ref l) || Value.type "tuple" == Value.type "list" || Value.type "tuple" == Value.type "tuple") = true := by
    rw [show (Value.type "tuple" == Value.type "tuple") = true from by decide, Bool.or_true]
  rw [if_pos e1]
  refine wpAny_bind (listItems_at ho2 hd ?_)
  refine wpAny_bind (listItems_at (xs := #[]) (n := 0) (Heap.get?_push_size _ rfl) rfl ?_)
  rw [if_neg (by simp)]
  have hsz1 : ((#[] : Array Value) ++ its).size ≤ sizeLine + 1 := by rw [Array.size_append]; show 0 + its.size ≤ _; omega
  refine wpAny_bind (listUpdate_at (xs := #[]) (n := 0) (Heap.get?_push_size _ rfl) rfl ?_ (Nat.zero_le _) hsz1)
  refine wpAny_pure ?_
  show wpAny (model prog w) A (load s.heap.objs.size >>= _) Q E { s with heap := (s.heap.push (seqObj "list" #[] 0)).update s.heap.objs.size (Obj.mapSeq (· ++ its)) }
  refine wpAny_bind (wpAny_load (get?_update_seq (Heap.get?_push_size _ rfl) _) ?_)
  show wpAny _ _ (pure ((#[] : Array Value) ++ its).toList) Q E _
  rw [show ((#[] : Array Value) ++ its).toList = its.toList by simp]
  refine wpAny_pure (h _ (fun b u q => ?_) rfl rfl)
  show ((s.heap.push (seqObj "list" #[] 0)).update s.heap.objs.size (Obj.mapSeq (· ++ its))).get? b = some u
  rw [Heap.get?_update_other _ _ (Ne.symm (Nat.ne_of_lt (Heap.lt_size q)))]
  exact Heap.get?_push_of_some _ q
end

/-! ### sorted(xs) -/
abbrev VD := V × PyData
def RVD (G : Gd) (F : Hp) : Value → VD → Prop := fun u b => RelV b.1 u ∧ Dr G F b.1 b.2
section
variable {X : Cx} {G : Gd} {pins : List (Addr × Obj)} {σ : L2.St} {F H : Hp} {s : Shared}
theorem each_of {us : List Value} {vs : List V} {ds : List PyData} (r : Vals vs us) (t : DrAll G F vs ds) : PySem.W.EachIs (RVD G F) us (vs.zip ds) := by
  induction r generalizing ds with
  | nil => cases t; exact .nil
  | cons h r ih => cases t with
    | cons g t => exact .cons ⟨h, g⟩ (ih t)
theorem of_each {us : List Value} {bs : List VD} (e : PySem.W.EachIs (RVD G F) us bs) : Vals (bs.map (·.1)) us ∧ DrAll G F (bs.map (·.1)) (bs.map (·.2)) := by
  induction e with
  | nil => exact ⟨.nil, .nil⟩
  | cons h e ih => exact ⟨.cons h.1 ih.1, .cons h.2 ih.2⟩
theorem zip_snd : ∀ {vs : List V} {ds : List PyData}, vs.length = ds.length → (vs.zip ds).map (·.2) = ds
  | [], [], _ => rfl
  | v :: vs, d :: ds, h => by
    rw [List.zip_cons_cons, List.map_cons, zip_snd (by simpa using h)]
  | [], _ :: _, h => nomatch h
  | _ :: _, [], h => nomatch h
theorem sort_snd (bs : List VD) : (bs.mergeSort (PySem.W.dataLe false (fun b : VD => b.2))).map (·.2) = sortD (bs.map (·.2)) := PySem.W.sort_maps (fun b : VD => b.2) fun _ _ _ _ => rfl
/-- values that read -/
theorem each_reads (hG : GX X G) (I : Inv X pins σ H s) (e : Ex F H) {h' : Heap} (k : ∀ b o, s.heap.get? b = some o → h'.get? b = some o) {us : List Value} {bs : List VD} (hp : ∀ d ∈ bs.map (·.2), okD d = true) (t : PySem.W.EachIs (RVD G F) us bs) : PySem.W.EachIs (fun v b => ∃ as, Reads h' v b.2 as) us bs := by
  induction t with
  | nil => exact .nil
  | cons h t ih =>
    refine .cons ?_ (ih fun d hd => hp d (List.mem_cons_of_mem _ hd))
    obtain ⟨as, r⟩ := readsD hG I e h.2 (okD.plain (hp _ List.mem_cons_self)) h.1
    exact ⟨as, PyProof.Rows.Reads.keeps k r⟩
/-- a new list of data -/
theorem new_list (I : Inv X pins σ H s) (e : Ex F H) {Q : VK} {s' : Shared} {p : Addr} {c : Nat} {us : List Value} {bs : List VD} (k : ∀ b o, s.heap.get? b = some o → s'.heap.get? b = some o) (hg : s'.gens = s.gens) (ho : s'.os = s.os) (hp : s.heap.get? p = none)
    (hobj : s'.heap.get? p = some (seqObj "list" us.toArray c)) (t : PySem.W.EachIs (RVD G F) us bs) (hz : bs.length ≤ 100000) (q : kD G F H Q (some (.list (bs.map (·.2))))) : EP X pins σ Q (.ref p) s' := by
  obtain ⟨rv, rd⟩ := of_each t
  have hn : H p = none := I.hok.gone hp
  have hlen : (bs.map (·.1)).length ≤ sizeLine := by rw [List.length_map]; exact bigOf hz
  have J : Inv X pins σ (upd H p (.lst (bs.map (·.1)))) { s with heap := s'.heap, gens := s'.gens, drawn := s'.drawn, toks := s'.toks } :=
    I.call (ch := []) (Un.laidN k hp hn) (I.hok.laidN k hn ⟨hlen, us, c, rv, hobj⟩) (by rw [hg]; exact I.bare) (fun _ z => nomatch z)
  have e2 : s' = { s with heap := s'.heap, gens := s'.gens, drawn := s'.drawn, toks := s'.toks } := by
    cases s'
    cases s
    cases ho
    rfl
  rw [e2]
  exact ⟨.ref p, _, J, rfl, kD.new e hn (.lst upd_same (rd.mono (Ex.new (e.back hn)))) q⟩
def gSorted : List PyData → Option PyData
  | [.list ds] => if sortOk ds = true then some (.list (sortD ds)) else none
  | [.tuple ds] => if sortOk ds = true then some (.list (sortD ds)) else none
  | [.dict kvs] => (dictD (.dict kvs)).bind fun _ => if sortOk (kvs.map (·.1)) = true then some (.list (sortD (kvs.map (·.1)))) else none
  | _ => none
theorem sortOk_parts {ds : List PyData} (h : sortOk ds = true) : (∀ d ∈ ds, okD d = true) ∧ ds.length ≤ 100000 := by
  unfold sortOk at h
  simp only [Bool.and_eq_true, List.all_eq_true, decide_eq_true_eq] at h
  exact ⟨h.1.1.1, h.1.2⟩
theorem sorted_end (hG : GX X G) (hr : Rm X) (I : Inv X pins σ H s) (e : Ex F H) {x : Value} {ds : List PyData} {Q : VK} (hok : sortOk ds = true) (q : kD G F H Q (some (.list (sortD ds))))
    (hcol : ∀ Q' : List Value → Shared → Prop, (∀ us s1 vs, Vals vs us → DrAll G F vs ds → (∀ b o, s.heap.get? b = some o → s1.heap.get? b = some o) → s1.gens = s.gens → s1.os = s.os → Q' us s1) → wpAny (model X.prog X.w) X.A.in1 (collect x) Q' X.xe s) :
    wpAny (model X.prog X.w) X.A (call (.builtin "sorted") [x]) (EP X pins σ Q) X.xe s := by
  obtain ⟨p1, p2⟩ := sortOk_parts hok
  refine sorted_from (enc := fun b : VD => b.2) (R := RVD G F) (hcol _ fun us s1 vs rv rd k hg ho => ⟨k, vs.zip ds, each_of rv rd, ?_, ?_, ?_⟩) (by have := hr.u; omega)
  · exact each_reads hG I e k (by rw [zip_snd rd.length]; exact p1) (each_of rv rd)
  · rw [zip_snd rd.length]; exact hok
  · intro s' p out c k' hg' ho' hp hobj t
    refine new_list I e k' (hg'.trans hg) (ho'.trans ho) hp hobj t ?_ ?_
    · rw [List.length_mergeSort, List.length_zip, rd.length, Nat.min_self]; exact p2
    · rw [sort_snd, zip_snd rd.length]; exact q
theorem f_sorted (hG : GX X G) (hr : Rm X) (hc : X.calm = true) : CallR X (.builtin "sorted") (rC G gSorted) := by
  intro pins s σ H xs us Q I rs h
  obtain ⟨F, as, e, da, k⟩ := h
  unfold gSorted at k
  split at k
  · obtain ⟨v, rfl, r⟩ := one_of da
    cases r with
    | lst h1 t1 =>
      split at k
      · next hok =>
        rw [Vals.ref1 rs]
        obtain ⟨its, rv, hl, hz⟩ := I.list (SqL.of (e _ _ h1))
        refine sorted_end hG hr I e hok k fun Q' hq => collect_list hl.isList (hq its _ _ rv t1 (fun b o q => ?_) rfl rfl) (by rw [← rv.length]; exact hz)
        show ((s.heap.push (seqObj "list" #[] 0)).update s.heap.objs.size (Obj.mapSeq (· ++ its.toArray))).get? b = some o
        rw [Heap.get?_update_other _ _ (Ne.symm (Nat.ne_of_lt (Heap.lt_size q)))]
        exact Heap.get?_push_of_some _ q
      · exact False.elim k
  · obtain ⟨v, rfl, r⟩ := one_of da
    cases r with
    | tup h1 t1 =>
      split at k
      · next hok =>
        rw [Vals.ref1 rs]
        obtain ⟨its, rv, hl, hz⟩ := I.tuple (SqT.of (e _ _ h1))
        refine sorted_end hG hr I e hok k fun Q' hq => collect_tuple hl (by rw [List.size_toArray, ← rv.length]; exact hz) fun s1 k1 k3 k4 => ?_
        exact hq _ _ _ (by simpa using rv) t1 k1 k3 k4
      · exact False.elim k
  · next kvs =>
    obtain ⟨v, rfl, r⟩ := one_of da
    generalize hd : PyData.dict kvs = dd at r
    cases r with
    | @dct a xs kvs' h1 t1 =>
      cases hd
      rw [dictD_of t1] at k
      have k : kD G F H Q (if sortOk (kvs.map (·.1)) = true then some (.list (sortD (kvs.map (·.1)))) else none) := k
      split at k
      · next hok =>
        rw [Vals.ref1 rs]
        obtain ⟨d1, d2, ys, tt, dd⟩ := dic_at hG I (e _ _ h1) e t1
        have hl := Paired.length tt
        obtain ⟨o, es, ep, ho, hex, hdd, hes, _, _⟩ := dd
        have hsz : es.size = ys.length := by rw [← Array.length_toList, hes, List.length_map]
        refine sorted_end hG hr I e hok k fun Q' hq => PySem.W.kdu_collect (n := es.size) (A := X.A.in1) (KdlSrc.rawDict (es := es) (ep := ep) d1) (I.ok.hd hc) ⟨o, ho, hex, hdd⟩ (by rw [hsz, ← hl]; exact d2) fun h' tk acc hk hacc => ?_
        have hacc2 : acc.toList = ys.map fun y => Value.ref y.2.1 := by
          apply List.ext_getElem?
          intro j
          by_cases hj : j < acc.size
          · have h1 := hacc.2 j acc[j] (Array.getElem?_eq_getElem hj)
            obtain ⟨hi, hv⟩ := h1
            have hj2 : j < ys.length := by rw [← hsz]; exact hi
            rw [Array.getElem?_toList, Array.getElem?_eq_getElem hj, List.getElem?_map, List.getElem?_eq_getElem hj2]
            have hj3 : j < es.toList.length := by rw [Array.length_toList]; exact hi
            have h2 : es[j] = entryOfKey (nestedKind X.prog X.w) ys[j] := by
              have e3 : es.toList[j]? = (ys.map (entryOfKey (nestedKind X.prog X.w)))[j]? := by rw [hes]
              rw [List.getElem?_map, List.getElem?_eq_getElem hj2, List.getElem?_eq_getElem hj3] at e3
              have e4 := Option.some.inj e3
              rw [Array.getElem_toList] at e4
              exact e4
            rw [hv, h2]
            rfl
          · rw [List.getElem?_eq_none (by rw [Array.length_toList]; omega), List.getElem?_eq_none (by rw [List.length_map, ← hsz, ← hacc.1]; omega)]
        refine hq _ { s with heap := h', toks := tk } (xs.map fun x => V.ref x.2.1) ?_ ?_ hk rfl rfl
        · rw [hacc2]
          have go : ∀ {xs : Ents} {ys : List (NestedKey × Addr × Value)}, Paired RelE xs ys → Vals (xs.map fun x => V.ref x.2.1) (ys.map fun y => Value.ref y.2.1) := by
            intro xs ys tt
            induction tt with
            | nil => exact .nil
            | cons hab tt ih =>
              refine .cons ?_ ih
              show Value.ref _ = Value.ref _
              rw [hab.2.1]
          exact go tt
        · have go : ∀ {xs : Ents} {kvs : List (PyData × PyData)}, DrKV G F xs kvs → DrAll G F (xs.map fun x => V.ref x.2.1) (kvs.map (·.1)) := by
            intro xs
            induction xs with
            | nil => intro kvs t; cases t; exact .nil
            | cons x xs ih =>
              intro kvs t
              cases t with
              | cons g1 g2 g3 g4 t => exact .cons g1 (ih t)
          exact go t1
      · exact False.elim k
    | exc h1 => cases hd; exact False.elim k
    | scr h1 => cases hd; exact False.elim k
    | _ => exact nomatch hd
  · exact False.elim k
end
end LY

set_option maxHeartbeats 4000000
namespace LY
open PySem PySem.Spec PyProof.Rows L2

/-! ### sets of nested keys without texts -/
mutual
def numK : NestedKey → Bool
  | .none => true
  | .num _ => true
  | .text _ => false
  | .tup ks => numsK ks
def numsK : List NestedKey → Bool
  | [] => true
  | k :: ks => numK k && numsK ks
end
/-- a question that answers b at s, and changes nothing -/
def Says (P : Program) (w : World) (s : Shared) (q : Sem Bool) (b : Bool) : Prop := ∀ (A : Around) (E : Value → Shared → Prop) (Q : Bool → Shared → Prop), Q b s → wpAny (model P w) A q Q E s
/-- asked of each item: the first yes ends it -/
theorem says_loop {P : Program} {w : World} {A : Around} {E : Value → Shared → Prop} {s : Shared} {vs : Array Value} {f : Value → Sem Bool} {stop : Bool} (hf : ∀ v ∈ vs.toList, Says P w s (f v) (!stop))
    {g : Value → Option Bool × Unit → Sem (ForInStep (Option Bool × Unit))} (hg : ∀ v r (A : Around) (Q : ForInStep (Option Bool × Unit) → Shared → Prop), Says P w s (f v) (!stop) → Q (.yield (none, ())) s → wpAny (model P w) A (g v r) Q E s)
    {Q : Option Bool × Unit → Shared → Prop} (h : Q (none, ()) s) : wpAny (model P w) A (forIn vs (none, ()) g) Q E s := by
  rw [← Array.forIn_toList]
  refine wpAny_forIn_list _ (fun rest r u => r = (none, ()) ∧ u = s ∧ ∀ v ∈ rest, v ∈ vs.toList) _ ?_ ?_ _ _ ⟨rfl, rfl, fun _ h => h⟩
  · rintro v rest r u ⟨hr, rfl, hall⟩
    exact hg v r A _ (hf v (hall v List.mem_cons_self)) ⟨rfl, rfl, fun z hz => hall z (List.mem_cons_of_mem _ hz)⟩
  · rintro r u ⟨rfl, rfl, _⟩
    exact h
mutual
theorem ofA_says {P : Program} {w : World} {s : Shared} : ∀ (k : NestedKey) (v : Value) (n : Nat), NestedIs s.heap k v → k.depth ≤ n → Says P w s (ofAClassStatement n v) false
  | .none, _, n, x, _ => by cases x; cases n <;> exact fun A E Q h => wpAny_pure h
  | .num i, _, n, x, _ => by cases x <;> cases n <;> exact fun A E Q h => wpAny_pure h
  | .text y, _, n, x, _ => by cases x; cases n <;> exact fun A E Q h => wpAny_pure h
  | .tup ks, _, n, x, hn => by
    cases x with
    | @tup b o vs m _ hg hc hd hk =>
      rw [NestedKey.depth] at hn
      cases n with
      | zero => exact absurd hn (Nat.not_succ_le_zero _)
      | succ n =>
        have ih := ofA_each (P := P) (w := w) ks _ n hk (Nat.le_of_succ_le_succ hn)
        intro A E Q h
        unfold ofAClassStatement
        refine wpAny_bind (wpAny_typeOf ⟨o, hg, hc⟩ ?_)
        dsimp only
        rw [if_pos (show (("tuple" : String) == "tuple") = true by decide)]
        try rw [pure_bind]
        try rw [if_neg (show ¬ (!true) = true by decide)]
        try rw [pure_bind]
        refine wpAny_bind (wpAny_seqItems hg hd ?_)
        dsimp only
        refine wpAny_bind (says_loop (stop := true) (f := ofAClassStatement n) ih (fun v r A' Q' hv hq => wpAny_bind (hv A' _ _ ?_)) ?_)
        · rw [if_neg (by decide)]
          exact wpAny_pure hq
        · exact wpAny_pure h
theorem ofA_each {P : Program} {w : World} {s : Shared} : ∀ (ks : List NestedKey) (vs : List Value) (n : Nat), NestedAll s.heap ks vs → NestedKey.depthAll ks ≤ n → ∀ v ∈ vs, Says P w s (ofAClassStatement n v) false
  | [], _, n, x, _, v, hv => by cases x; exact nomatch hv
  | k :: ks, _, n, x, hn, v, hv => by
    cases x with
    | cons x1 x2 =>
      rw [NestedKey.depthAll] at hn
      rcases List.mem_cons.mp hv with e | hv
      · rw [e]; exact ofA_says k _ n x1 (by omega)
      · exact ofA_each ks _ n x2 (by omega) v hv
end
mutual
theorem byH_says {P : Program} {w : World} {s : Shared} : ∀ (k : NestedKey) (v : Value) (n : Nat), NestedIs s.heap k v → k.depth ≤ n → numK k = true → Says P w s (hashByValue n v) true
  | .none, _, n, x, _, _ => by cases x; cases n <;> exact fun A E Q h => wpAny_pure h
  | .num i, _, n, x, _, _ => by cases x <;> cases n <;> exact fun A E Q h => wpAny_pure h
  | .text y, _, n, x, _, z => by cases z
  | .tup ks, _, n, x, hn, z => by
    cases x with
    | @tup b o vs m _ hg hc hd hk =>
      rw [NestedKey.depth] at hn
      cases n with
      | zero => exact absurd hn (Nat.not_succ_le_zero _)
      | succ n =>
        have ih := byH_each (P := P) (w := w) ks _ n hk (Nat.le_of_succ_le_succ hn) z
        intro A E Q h
        unfold hashByValue
        refine wpAny_bind (wpAny_specialOf (T := "tuple") ⟨o, hg, hc⟩ F.slot_tuple_hash.lookup ?_)
        show wpAny _ _ (seqItems? (.ref b) >>= _) _ _ s
        refine wpAny_bind (wpAny_seqItems hg hd ?_)
        dsimp only [Option.getD]
        refine wpAny_bind (says_loop (stop := false) (f := hashByValue n) ih (fun v r A' Q' hv hq => wpAny_bind (hv A' _ _ ?_)) ?_)
        · rw [if_neg (by decide)]
          exact wpAny_pure hq
        · exact wpAny_pure h
theorem byH_each {P : Program} {w : World} {s : Shared} : ∀ (ks : List NestedKey) (vs : List Value) (n : Nat), NestedAll s.heap ks vs → NestedKey.depthAll ks ≤ n → numsK ks = true → ∀ v ∈ vs, Says P w s (hashByValue n v) true
  | [], _, n, x, _, _, v, hv => by cases x; exact nomatch hv
  | k :: ks, _, n, x, hn, z, v, hv => by
    cases x with
    | cons x1 x2 =>
      rw [NestedKey.depthAll] at hn
      rw [numsK, Bool.and_eq_true] at z
      rcases List.mem_cons.mp hv with e | hv
      · rw [e]; exact byH_says k _ n x1 (by omega) z.1
      · exact byH_each ks _ n x2 (by omega) z.2 v hv
end
/-- the object at b is the key k -/
structure IsN (h : Heap) (k : NestedKey) (b : Addr) : Prop where
  is : NestedIs h k (.ref b)
  dp : k.depth ≤ 8
  nk : numK k = true
theorem IsN.to {h h' : Heap} {k : NestedKey} {b : Addr} (x : IsN h k b) (hk : ∀ a o vs n, h.get? a = some o → o.data = .seq vs n → h'.get? a = some o) : IsN h' k b := ⟨NestedIs.at hk _ _ x.is, x.dp, x.nk⟩
theorem IsN.keep {h h' : Heap} {k : NestedKey} {b : Addr} (x : IsN h k b) (hk : ∀ a o, h.get? a = some o → h'.get? a = some o) : IsN h' k b := x.to fun a o _ _ q _ => hk a o q
theorem IsN.but {h h' : Heap} {k : NestedKey} {a b : Addr} {o : Obj} {es : Array (Int × Value)} {ep : Nat} {t : SetTable} (x : IsN h k b) (ho : h.get? a = some o) (hd : o.data = .set es ep t) (hs : Heap.SameBut a h h') : IsN h' k b := x.to fun c u vs n hc hu => by
  have ne : c ≠ a := fun z => by
    subst z
    rw [ho] at hc
    cases hc
    rw [hd] at hu
    exact nomatch hu
  rw [hs.2 c ne]
  exact hc

section
variable {P : Program} {w : World} {A : Around} {E : Value → Shared → Prop} {s : Shared}
theorem IsN.says_eq {k k' : NestedKey} {b c : Addr} {Q : Bool → Shared → Prop} (x : IsN s.heap k b) (y : IsN s.heap k' c) (hu : A.units + 8 < cLine) (h : Q (decide (k = k')) s) : wpAny (model P w) A (eqBool (.ref b) (.ref c)) Q E s :=
  (nestedKind P w).eqBool hu ⟨x.is, x.dp⟩ ⟨y.is, y.dp⟩ h
theorem seen_no {k : NestedKey} {b : Addr} {Q : Bool → Shared → Prop} (x : IsN s.heap k b) {ys : List Value} (hy : ∀ y ∈ ys, ∃ k' c, y = Value.ref c ∧ IsN s.heap k' c) (h : Q false s) : wpAny (model P w) A (searchCouldBeSeen (.ref b) ys) Q E s := by
  unfold searchCouldBeSeen
  refine wpAny_bind ?_
  refine wpAny_forIn_list _ (fun rest r u => r.1 = none ∧ u = s ∧ ∀ y ∈ rest, y ∈ ys) _ ?_ ?_ _ _ ⟨rfl, rfl, fun _ z => z⟩
  · rintro v rest r u ⟨hr, rfl, hall⟩
    obtain ⟨k', c, rfl, y⟩ := hy v (hall v List.mem_cons_self)
    have more : ∀ z ∈ rest, z ∈ ys := fun z hz => hall z (List.mem_cons_of_mem _ hz)
    dsimp only
    split
    · exact wpAny_pure ⟨rfl, rfl, more⟩
    · refine wpAny_bind ((nestedKind P w).quiet ⟨x.is, x.dp⟩ ?_)
      rw [if_neg (by decide)]
      try rw [pure_bind]
      refine wpAny_bind ((nestedKind P w).quiet ⟨y.is, y.dp⟩ ?_)
      rw [if_neg (by decide)]
      try rw [pure_bind]
      refine wpAny_bind (ofA_says k _ 8 x.is x.dp _ _ _ ?_)
      rw [if_neg (by decide)]
      try rw [pure_bind]
      refine wpAny_bind (ofA_says k' _ 8 y.is y.dp _ _ _ ?_)
      rw [if_neg (by decide)]
      try rw [pure_bind]
      exact wpAny_pure ⟨rfl, rfl, more⟩
  · rintro ⟨r1, r2⟩ u ⟨hr, rfl, _⟩
    cases hr
    exact wpAny_pure h
end

/-! ### the set of such -/
abbrev Mem := Addr × NestedKey
def rowN (w : World) (m : Mem) : Int × Value := (m.2.hash w, Value.ref m.1)
structure SN (w : World) (h : Heap) (a : Addr) (M : List Mem) (es : Array (Int × Value)) (ep : Nat) (t : SetTable) : Prop where
  ob : ∃ o, h.get? a = some o ∧ o.ExactSet ∧ o.data = .set es ep t
  rows : es.toList = M.map (rowN w)
  tab : TabOk t (M.map fun m => m.2.hash w)
  nd : (M.map (·.2)).Nodup
  mem : ∀ m ∈ M, IsN h m.2 m.1
  plain : t.plain = true
  led : w.params.followText "set-order" = true ∨ t.led = true
  room : M.length * 5 < t.mask * 3
  few : M.length < 64
section
variable {w : World} {h : Heap} {a : Addr} {M : List Mem} {es : Array (Int × Value)} {ep : Nat} {t : SetTable}
theorem rows_size (r : es.toList = M.map (rowN w)) : es.size = M.length := by
  rw [← Array.length_toList, r, List.length_map]
theorem rows_at (r : es.toList = M.map (rowN w)) {i : Nat} {m : Mem} (q : M[i]? = some m) : es[i]? = some (rowN w m) := by
  rw [← Array.getElem?_toList, r, List.getElem?_map, q]; rfl
theorem fits_of (T : TabOk t (M.map fun m => m.2.hash w)) (hs : es.size = M.length) (hm : M.length ≤ t.mask) : t.fits es.size = true := by
  have z := T.sz
  rw [List.length_map] at z
  unfold SetTable.fits SetTable.fill
  rw [T.dm, z, hs, Bool.and_eq_true]
  exact ⟨beq_self_eq_true _, decide_eq_true hm⟩
theorem SN.fits (R : SN w h a M es ep t) : t.fits es.size = true := fits_of R.tab (rows_size R.rows) (by have := R.room; omega)
theorem SN.keep {h' : Heap} (R : SN w h a M es ep t) (ha : ∀ o, h.get? a = some o → h'.get? a = some o) (hm : ∀ m ∈ M, IsN h' m.2 m.1) : SN w h' a M es ep t := by
  obtain ⟨o, ho, r⟩ := R.ob
  exact { R with ob := ⟨o, ha o ho, r⟩, mem := hm }
end
/-- the c-th place of the way of the hash n -/
abbrev stp (m : Nat) (n : Int) (c : Nat) : SetTable.Probe := nth m (runAt m (SetTable.bits n % (m + 1)) (SetTable.bits n)) c
theorem stp_add (m : Nat) (n : Int) (c q : Nat) : nth m (stp m n c) q = stp m n (c + q) := (nth_add m c _ q).symm
theorem stp_no (m : Nat) (n : Int) (c : Nat) : (stp m n c).dummy = none := by
  have go : ∀ (c : Nat) (p : SetTable.Probe), p.dummy = none → (nth m p c).dummy = none := by
    intro c
    induction c with
    | zero => exact fun p z => z
    | succ c ih =>
      intro p z
      refine ih (adv m p) ?_
      unfold adv
      split <;> exact z
  exact go c _ rfl
section
variable {P : Program} {w : World} {A : Around} {E : Value → Shared → Prop} {s : Shared} {a : Addr} {M : List Mem} {es : Array (Int × Value)} {ep : Nat} {t : SetTable}
theorem hunt (R : SN w s.heap a M es ep t) {b : Addr} {k : NestedKey} (x : IsN s.heap k b) (hu : A.units + 8 < cLine) {n : Int} (hn : n = k.hash w) {C : Nat} (hC : C < 10 * SetTable.turns t.mask) (hend : way t.mask n C ∉ t.place.toList)
    (hin : ∀ c, c < C → way t.mask n c ∈ t.place.toList) {Q : SetFound → Shared → Prop} (yes : k ∈ M.map (·.2) → Q (.there none) s) (no : k ∉ M.map (·.2) → Q (.free (way t.mask n C) false) s) :
    ∀ (fuel c : Nat) (stand : Option SetTable.Probe), stand.getD (t.probeStart n) = stp t.mask n c → c ≤ C → C - c < fuel → (∀ (i : Nat) m, M[i]? = some m → m.2 = k → ∃ c', c ≤ c' ∧ c' < C ∧ t.place.toList[i]? = some (way t.mask n c')) →
      wpAny (model P w) A (setSearchFrom a (.ref b) n true fuel stand) Q E s
  | 0, c, stand, _, _, z, _ => absurd z (Nat.not_lt_zero _)
  | fuel + 1, c, stand, hst, hc, hf, hre => by
    obtain ⟨o, ho, hex, hd⟩ := R.ob
    have ngw : ¬ t.gaveWay = true := by
      unfold SetTable.gaveWay
      rw [mask_odd R.tab.mok]
      exact Bool.false_ne_true
    rw [setSearchFrom_succ]
    refine wpAny_bind (wpAny_setState_of ho hd R.fits ?_)
    dsimp only
    rw [if_neg ngw]
    try rw [pure_bind]
    have at_ : ∀ q, (nth t.mask (stp t.mask n c) q).j = way t.mask n (c + q) := fun q => congrArg SetTable.Probe.j (stp_add t.mask n c q)
    have same : ∀ (i : Nat) m, M[i]? = some m → (fun i => (es[i]?.map (·.1)).getD 0) i = m.2.hash w := fun i m hm => by
      show (es[i]?.map (·.1)).getD 0 = _
      rw [rows_at R.rows hm]
      rfl
    have spec := go_spec t R.tab.ris R.tab.dm (fun i => (es[i]?.map (·.1)).getD 0) n (10 * SetTable.turns t.mask) (C - c) (stp t.mask n c) (stp_no _ _ _) (by omega) (fun q hq => by rw [at_]; exact hin (c + q) (by omega)) (by rw [at_, Nat.add_sub_cancel' hc]; exact hend)
    rcases spec with ⟨q, i, hq, hi, hh, hno, hpr⟩ | ⟨hno, hpr⟩
    · rw [at_] at hi
      have hpr2 : t.probe (fun i => (es[i]?.map (·.1)).getD 0) n (stand.getD (t.probeStart n)) = some (.candidate (way t.mask n (c + q)) i (stp t.mask n (c + (q + 1)))) := by
        rw [hst, ← at_, ← stp_add]
        exact hpr
      rw [hpr2]
      dsimp only
      have il : i < M.length := by
        have z1 := (List.getElem?_eq_some_iff.mp hi).1
        have z2 := R.tab.sz
        rw [List.length_map] at z2
        rw [Array.length_toList] at z1
        omega
      obtain ⟨m, hm⟩ : ∃ m, M[i]? = some m := ⟨_, List.getElem?_eq_getElem il⟩
      have hmem := List.mem_of_getElem? hm
      have fin : wpAny (model P w) A (searchRest a (.ref b) n true fuel es t (way t.mask n (c + q)) i (stp t.mask n (c + (q + 1)))) Q E s := by
        unfold searchRest
        rw [rows_at R.rows hm]
        dsimp only [rowN]
        refine wpAny_bind (wpAny_holding ((R.mem m hmem).says_eq x hu ?_))
        refine wpAny_bind (wpAny_setState_of ho hd R.fits ?_)
        dsimp only
        by_cases e : m.2 = k
        · rw [decide_eq_true e, if_pos (by decide)]
          exact wpAny_pure (yes (List.mem_map.mpr ⟨m, hmem, e⟩))
        · rw [decide_eq_false e, if_neg (by decide)]
          try rw [pure_bind]
          rw [sameMem]
          have live := slot_live R.tab.ris hi
          dsimp only
          rw [if_pos rfl, live]
          dsimp only
          rw [rows_at R.rows hm]
          dsimp only [rowN]
          refine wpAny_bind (wpAny_isSame_ref_self ?_)
          rw [if_pos rfl]
          refine wpAny_bind (wpAny_pure ?_)
          dsimp only
          rw [if_neg Bool.false_ne_true]
          try rw [pure_bind]
          refine hunt R x hu hn hC hend hin yes no fuel (c + (q + 1)) _ rfl (by omega) (by omega) fun i' m' hm' hk' => ?_
          obtain ⟨c', g1, g2, g3⟩ := hre i' m' hm' hk'
          refine ⟨c', ?_, g2, g3⟩
          rcases Nat.lt_trichotomy c' (c + q) with z | z | z
          · exact absurd ((same i' m' hm').trans (by rw [hk', hn])) (hno (c' - c) i' (by omega) (by rw [at_, Nat.add_sub_cancel' g1]; exact g3))
          · rw [z] at g3
            have s2 := slot_live R.tab.ris g3
            rw [live] at s2
            cases s2
            rw [hm] at hm'
            cases hm'
            exact absurd hk' e
          · omega
      split
      · refine wpAny_bind (seen_no x (fun y hy => ?_) ?_)
        · obtain ⟨e, he, rfl⟩ := List.mem_map.mp hy
          have he2 : e ∈ es.toList := by
            have he1 : e ∈ es ∧ e.1 = n := by simpa using he
            simpa using he1.1
          rw [R.rows] at he2
          obtain ⟨m2, hm2, rfl⟩ := List.mem_map.mp he2
          exact ⟨m2.2, m2.1, rfl, R.mem m2 hm2⟩
        · rw [if_neg Bool.false_ne_true]
          try rw [pure_bind]
          exact fin
      · try rw [pure_bind]
        exact fin
    · have hpr2 : t.probe (fun i => (es[i]?.map (·.1)).getD 0) n (stand.getD (t.probeStart n)) = some (.empty (way t.mask n C) none) := by
        have z := at_ (C - c)
        rw [Nat.add_sub_cancel' hc] at z
        rw [hst, ← z]
        exact hpr
      rw [hpr2]
      dsimp only
      refine wpAny_pure (no fun hm => ?_)
      obtain ⟨m, hm1, hk⟩ := List.mem_map.mp hm
      obtain ⟨i, hi⟩ := List.getElem?_of_mem hm1
      obtain ⟨c', g1, g2, g3⟩ := hre i m hi hk
      exact absurd ((same i m hi).trans (by rw [hk, hn])) (hno (c' - c) i (by omega) (by rw [at_, Nat.add_sub_cancel' g1]; exact g3))
theorem hunt_all (R : SN w s.heap a M es ep t) {b : Addr} {k : NestedKey} (x : IsN s.heap k b) (hu : A.units + 8 < cLine) {Q : SetFound → Shared → Prop} (yes : k ∈ M.map (·.2) → Q (.there none) s)
    (no : ∀ C, k ∉ M.map (·.2) → way t.mask (k.hash w) C ∉ t.place.toList → (∀ c, c < C → way t.mask (k.hash w) c ∈ t.place.toList) → Q (.free (way t.mask (k.hash w) C) false) s) :
    wpAny (model P w) A (setSearch a (.ref b) (k.hash w) true) Q E s := by
  have hr := R.room
  obtain ⟨C, c1, c2, c3⟩ := R.tab.first (by rw [List.length_map]; omega) (k.hash w)
  have big : 10 * SetTable.turns t.mask < 100000 := by
    unfold SetTable.turns
    rcases R.tab.mok with e | e | e <;> omega
  unfold setSearch
  refine hunt R x hu rfl c1 c2 c3 yes (fun z => no C z c2 c3) 100000 0 none rfl (Nat.zero_le _) (by omega) fun i m hm hk => ?_
  have il : i < t.place.toList.length := by
    have z1 := (List.getElem?_eq_some_iff.mp hm).1
    have z2 := R.tab.sz
    rw [List.length_map] at z2
    rw [Array.length_toList]
    omega
  obtain ⟨c, g1, g2⟩ := R.tab.before (h := k.hash w) c2 (i := i) (by rw [List.getElem?_map, hm, ← hk]; rfl) (List.getElem?_eq_getElem il)
  exact ⟨c, Nat.zero_le _, g1, by rw [g2]; exact List.getElem?_eq_getElem il⟩
end
end LY

set_option maxHeartbeats 4000000
namespace LY
open PySem PySem.Spec PyProof.Rows L2

section
variable {P : Program} {w : World} {A : Around} {E : Value → Shared → Prop} {s : Shared} {a : Addr} {M : List Mem} {es : Array (Int × Value)} {ep : Nat} {t : SetTable}
/-- the rows in another order -/
theorem reorder (order : Array Nat) (r : es.toList = M.map (rowN w)) (hp : order.toList.Perm (List.range M.length)) :
    ∃ M2 : List Mem, (order.filterMap (es[·]?)).toList = M2.map (rowN w) ∧ M2.Perm M ∧ (M2.map fun m => m.2.hash w) = order.toList.map fun i => (es.map (·.1)).getD i 0 := by
  have hz := rows_size r
  have e1 : ∀ i, i < M.length → (es.map (·.1)).getD i 0 = ((M[i]?).map fun m => m.2.hash w).getD 0 := fun i hi => by
    have q := rows_at r (List.getElem?_eq_getElem hi)
    rw [Array.getD_eq_getD_getElem?, Array.getElem?_map, q, List.getElem?_eq_getElem hi]
    rfl
  have walk : ∀ l : List Nat, (∀ i ∈ l, i < M.length) → l.filterMap (es[·]?) = (l.filterMap (M[·]?)).map (rowN w) ∧ ((l.filterMap (M[·]?)).map fun m => m.2.hash w) = l.map fun i => (es.map (·.1)).getD i 0 := by
    intro l
    induction l with
    | nil => exact fun _ => ⟨rfl, rfl⟩
    | cons i l ih =>
      intro hl
      have hi := hl i List.mem_cons_self
      obtain ⟨g1, g2⟩ := ih fun j hj => hl j (List.mem_cons_of_mem _ hj)
      have hM := List.getElem?_eq_getElem hi
      have hE := rows_at r hM
      refine ⟨?_, ?_⟩
      · rw [List.filterMap_cons_some hE, List.filterMap_cons_some hM, List.map_cons, g1]
      · rw [List.filterMap_cons_some hM, List.map_cons, List.map_cons, g2, e1 i hi, hM]
        rfl
  obtain ⟨g1, g2⟩ := walk order.toList fun i hi => List.mem_range.mp (hp.mem_iff.mp hi)
  have whole : ∀ l : List Mem, (List.range l.length).filterMap (l[·]?) = l := fun l => by
    induction l with
    | nil => rfl
    | cons x l ih =>
      rw [List.length_cons, List.range_succ_eq_map, List.filterMap_cons_some (f := fun i => (x :: l)[i]?) (b := x) rfl, List.filterMap_map]
      exact congrArg (x :: ·) ih
  refine ⟨order.toList.filterMap (M[·]?), by rw [Array.toList_filterMap]; exact g1, ?_, g2⟩
  have pm := hp.filterMap (M[·]?)
  rw [whole] at pm
  exact pm
theorem relay_n {o : Obj} (ho : s.heap.get? a = some o) (hex : o.ExactSet) (hd : o.data = .set es ep t) (r : es.toList = M.map (rowN w)) (T : TabOk t (M.map fun m => m.2.hash w)) (hfl : M.length ≤ t.mask) (nd : (M.map (·.2)).Nodup) (mem : ∀ m ∈ M, IsN s.heap m.2 m.1)
    (pl : t.plain = true) (ld : w.params.followText "set-order" = true ∨ t.led = true) (few : M.length < 64) {wanted N : Nat} (hw : SetTable.sizeAbove wanted - 1 = N) (hN : MaskOk N) (h128 : SetTable.sizeAbove wanted ≤ 128) (hn : M.length * 5 < N * 3) {Q : Unit → Shared → Prop}
    (hQ : ∀ h' M' es' ep' t', Heap.SameBut a s.heap h' → SN w h' a M' es' ep' t' → M'.Perm M → Q () { s with heap := h' }) : wpAny (model P w) A (setRelay a wanted) Q E s := by
  have hz := rows_size r
  obtain ⟨t2, order, e, hp, T2, em, el, epl, ed⟩ := relaid_ok t (hs := es.map (·.1)) (wanted := wanted) hw hN (by rw [Array.size_map, hz]; omega)
  rw [Array.size_map, hz] at hp
  obtain ⟨M2, g1, g2, g3⟩ := reorder order r hp
  rw [← g3] at T2
  have hz2 : (order.filterMap (es[·]?)).size = es.size := by rw [rows_size g1, g2.length_eq, hz]
  have line : (128 : Nat) ≤ sizeLine := by decide
  rw [setRelay_eq]
  refine wpAny_bind (wpAny_setState_of ho hd (fits_of T hz hfl) ?_)
  dsimp only
  rw [if_neg (Nat.not_lt_of_le (Nat.le_trans h128 line))]
  try rw [pure_bind]
  refine wpAny_bind ?_
  rw [e]
  dsimp only
  rw [if_neg (by rw [hz2]; simp)]
  try rw [pure_bind]
  refine wpAny_pure (wpAny_storeSet_of ho hd ?_ (by rw [hz2, hz]; omega))
  have sb : Heap.SameBut a s.heap (s.heap.update a (Obj.putSet (order.filterMap (es[·]?)) t2)) := Heap.SameBut.update ..
  refine hQ _ M2 (order.filterMap (es[·]?)) (ep + 1) t2 sb ⟨⟨_, store_at ho hd, ⟨hex.1, hex.2.1, hex.2.2⟩, rfl⟩, g1, T2, (g2.map (·.2)).nodup_iff.mpr nd, fun m hm => (mem m (g2.mem_iff.mp hm)).but ho hd sb, by rw [epl]; exact pl, by rw [el]; exact ld, by rw [g2.length_eq, em]; exact hn, by rw [g2.length_eq]; exact few⟩ g2
theorem add_n (R : SN w s.heap a M es ep t) {b : Addr} {k : NestedKey} (x : IsN s.heap k b) (hu : A.units + 8 < cLine) (hfew : M.length + 1 < 64) {Q : Bool → Shared → Prop}
    (hQ : ∀ r h' M' es' ep' t', Heap.SameBut a s.heap h' → SN w h' a M' es' ep' t' → (k ∈ M.map (·.2) → M' = M) → (k ∉ M.map (·.2) → M'.Perm ((b, k) :: M)) → Q r { s with heap := h' }) :
    wpAny (model P w) A (setAddHashed a (.ref b) (k.hash w)) Q E s := by
  obtain ⟨o, ho, hex, hd⟩ := R.ob
  have hz := rows_size R.rows
  have hroom := R.room
  unfold setAddHashed
  refine wpAny_holding ?_
  show wpAny _ _ (setAddHashedIn a (.ref b) (k.hash w) (99999 + 1)) _ _ s
  rw [setAddHashedIn_succ]
  refine wpAny_bind (wpAny_setState_of ho hd R.fits ?_)
  dsimp only
  rw [if_neg (by simp [byScan, Value.scannable])]
  try rw [pure_bind]
  refine wpAny_bind (hunt_all R x hu (fun hm => ?_) fun C hm hC hb => ?_)
  · exact wpAny_pure (hQ false s.heap M es ep t (Heap.SameBut.refl a s.heap) R (fun _ => rfl) fun z => absurd hm z)
  · dsimp only
    refine wpAny_bind (wpAny_setState_of ho hd R.fits ?_)
    dsimp only
    obtain ⟨q1, q2, q3, q4, q5, q6, q7, q8, q9⟩ := R.tab.put hC hb
    generalize t.put (way t.mask (k.hash w) C) = tp at q1 q3 q4 q5 q6 q7 q8 q9 ⊢
    obtain ⟨t1, p⟩ := tp
    dsimp only at q1 q3 q4 q5 q6 q7 q8 q9 ⊢
    rw [← q1] at q2 q3
    have pl1 : t1.plain = true := q6.trans R.plain
    rw [if_pos pl1]
    refine wpAny_bind (byH_says k _ 8 x.is x.dp x.nk _ _ _ ?_)
    rw [if_pos rfl]
    have pm : (M.take p ++ (b, k) :: M.drop p).Perm ((b, k) :: M) := put_perm M p (b, k)
    have r1 : (SetTable.insertAt es p (k.hash w, Value.ref b)).toList = (M.take p ++ (b, k) :: M.drop p).map (rowN w) := by
      rw [SetTable.toList_insertAt, R.rows, List.map_append, List.map_cons, List.map_take, List.map_drop]
      rfl
    have T1 : TabOk t1 ((M.take p ++ (b, k) :: M.drop p).map fun m => m.2.hash w) := by
      rw [List.map_append, List.map_cons, List.map_take, List.map_drop]
      exact q3
    generalize M.take p ++ (b, k) :: M.drop p = M1 at pm r1 T1
    generalize SetTable.insertAt es p (k.hash w, Value.ref b) = es1 at r1 ⊢
    have hl := pm.length_eq
    rw [List.length_cons] at hl
    have hz1 := rows_size r1
    have nd1 : (M1.map (·.2)).Nodup := by
      rw [(pm.map (·.2)).nodup_iff, List.map_cons, List.nodup_cons]
      exact ⟨hm, R.nd⟩
    have line : (64 : Nat) ≤ sizeLine := by decide
    refine wpAny_bind (wpAny_storeSet_of ho hd ?_ (by omega))
    have sb : Heap.SameBut a s.heap (s.heap.update a (Obj.putSet es1 t1)) := Heap.SameBut.update ..
    have ho1 := store_at (es' := es1) (t' := t1) ho hd
    generalize s.heap.update a (Obj.putSet es1 t1) = h1 at sb ho1 ⊢
    have mem1 : ∀ m ∈ M1, IsN h1 m.2 m.1 := fun m hm1 => by
      rcases List.mem_cons.mp (pm.mem_iff.mp hm1) with e | z
      · rw [e]; exact x.but ho hd sb
      · exact (R.mem m z).but ho hd sb
    have ld1 : w.params.followText "set-order" = true ∨ t1.led = true := by rw [q5]; exact R.led
    have full : t1.tooFull = decide ((M.length + 1) * 5 ≥ t1.mask * 3) := by
      unfold SetTable.tooFull
      rw [q9, List.length_map]
    have hfl : M1.length ≤ t1.mask := by rw [q4]; rcases R.tab.mok with e | e | e <;> omega
    have again : ∀ N, SetTable.sizeAbove (SetTable.grown (M.length + 1)) - 1 = N → MaskOk N → SetTable.sizeAbove (SetTable.grown (M.length + 1)) ≤ 128 → (M.length + 1) * 5 < N * 3 →
        wpAny (model P w) A (setRelay a (SetTable.grown (M.length + 1))) (fun _ u => wpAny (model P w) A (pure true) Q E u) E { s with heap := h1 } := fun N g1 g2 g3 g4 => by
      refine relay_n (s := { s with heap := h1 }) ho1 ⟨hex.1, hex.2.1, hex.2.2⟩ rfl r1 T1 hfl nd1 mem1 pl1 ld1 (by omega) g1 g2 g3 (by omega) fun h2 M2 es2 ep2 t2 sb2 R2 pm2 => ?_
      exact wpAny_pure (hQ true h2 M2 es2 ep2 t2 (sb.trans sb2) R2 (fun z => absurd z hm) fun _ => pm2.trans pm)
    by_cases hf : t1.tooFull = true
    · have hf2 : (M.length + 1) * 5 ≥ t1.mask * 3 := of_decide_eq_true (full ▸ hf)
      rw [hf, if_pos (by decide), hz]
      refine wpAny_bind ?_
      rcases R.tab.mok with e | e | e
      · have e4 : M.length = 4 := by omega
        rw [e4]
        exact e4 ▸ again 31 (by rw [e4, size_20]) (.inr (.inl rfl)) (by rw [e4, size_20]; decide) (by omega)
      · have e4 : M.length = 18 := by omega
        rw [e4]
        exact e4 ▸ again 127 (by rw [e4, size_76]) (.inr (.inr rfl)) (by rw [e4, size_76]; decide) (by omega)
      · omega
    · rw [if_neg (by simp [hf])]
      try rw [pure_bind]
      have hf2 : ¬ (M.length + 1) * 5 ≥ t1.mask * 3 := fun z => hf (full ▸ decide_eq_true z)
      exact wpAny_pure (hQ true h1 M1 es1 (ep + 1) t1 sb ⟨⟨_, ho1, ⟨hex.1, hex.2.1, hex.2.2⟩, rfl⟩, r1, T1, nd1, mem1, pl1, ld1, by omega, by omega⟩ (fun z => absurd z hm) fun _ => pm)
end
end LY

set_option maxHeartbeats 4000000
namespace LY
open PySem PySem.Spec PyProof.Rows L2

section
variable {P : Program} {w : World} {A : Around} {E : Value → Shared → Prop} {s : Shared}
/-- set(x)'s loop, whatever it gathers -/
theorem fill_set {I S : Addr} {fp wr : List Addr} {G : Array GenState → Array GenState → Prop} {n : Nat} {Pv : Nat → Value → Prop} {St : Nat → Shared → Prop} {R : Result → Shared → Prop} (W : WalksS P w A.in1 I fp wr G n Pv St) (hf : S ∉ fp)
    (h0 : Heap) (hS : h0.get? S = none) (hwr : ∀ b ∈ wr, h0.get? b = none) (Acc : Nat → Heap → Prop) (keep : ∀ i h h', Acc i h → (∀ o, h.get? S = some o → h'.get? S = some o) → (∀ b o, h0.get? b = some o → h'.get? b = some o) → Acc i h')
    (add : ∀ i v (u : Shared) (Q : Bool → Shared → Prop), i < n → Pv i v → Acc i u.heap → (∀ b o, h0.get? b = some o → u.heap.get? b = some o) → (∀ r h' tk, u.toks ≤ tk → Heap.SameBut S u.heap h' → Acc (i + 1) h' → Q r { u with heap := h', toks := tk }) →
      wpAny (model P w) A.in1 (setAdd S v) Q (fun e s => R (.error e) s) u) :
    ∀ (k i : Nat) (u : Shared), n - i = k → i ≤ n → St i u → (∀ b o, h0.get? b = some o → u.heap.get? b = some o) → Acc i u.heap →
      (∀ u', Moved (S :: wr) G u u' → Acc n u'.heap → (∀ b o, h0.get? b = some o → u'.heap.get? b = some o) → R (.ok (.ret .none)) u') → codeAny (model P w) A (.builtin "set.update.loop" ⟨[.ref S, .ref I], []⟩) R u := by
  have notw : S ∉ wr := fun z => hf (W.sub _ z)
  have wide : ∀ b ∈ wr, b ∈ S :: wr := fun b z => List.mem_cons_of_mem _ z
  have go_on : ∀ {u u' : Shared}, Moved wr G u u' → (∀ b o, h0.get? b = some o → u.heap.get? b = some o) → ∀ b o, h0.get? b = some o → u'.heap.get? b = some o := fun m k b o e => m.heap b o (fun z => by rw [hwr b z] at e; exact nomatch e) (k b o e)
  intro k
  induction k with
  | zero =>
    intro i u hk hi st kp acc fin
    obtain rfl : i = n := by omega
    refine codeAny_builtin F.entry_set_update_loop ?_
    rw [Around.under_plainId F.plain_set_update_loop _]
    show wpAny _ A.in1 (pyNext (.ref I) >>= _) _ _ u
    refine wpAny_bind (W.done u _ _ st fun u' m => wpAny_pure (fin u' (m.mono wide) (keep i _ _ acc (fun o e => m.heap S o notw e) (go_on m kp)) (go_on m kp)))
  | succ k ih =>
    intro i u hk hi st kp acc fin
    have lt : i < n := by omega
    refine codeAny_builtin F.entry_set_update_loop ?_
    rw [Around.under_plainId F.plain_set_update_loop _]
    show wpAny _ A.in1 (pyNext (.ref I) >>= _) _ _ u
    refine wpAny_bind (W.item i u _ _ lt st fun v u1 pv st1 m => ?_)
    have kp1 := go_on m kp
    show wpAny _ A.in1 (holding [v] (setAdd S v) >>= _) _ _ u1
    refine wpAny_bind (wpAny_holding (add i v u1 _ lt pv (keep i _ _ acc (fun o e => m.heap S o notw e) kp1) kp1 fun r h' tk htk sb acc2 => ?_))
    have kp2 : ∀ b o, h0.get? b = some o → h'.get? b = some o := fun b o e => (sb.2 b fun z => by rw [z, hS] at e; exact nomatch e).trans (kp1 b o e)
    have off : ∀ b o, b ∉ S :: wr → u1.heap.get? b = some o → h'.get? b = some o := fun b o hb e => (sb.2 b fun z => hb (by rw [z]; exact List.mem_cons_self)).trans e
    refine wpAny_pure ⟨plainId_quiet F.plain_set_update_loop _, ih (i + 1) _ (by omega) lt (W.frame _ u1 _ _ st1 htk fun b hb o e => (sb.2 b fun z => hf (by rw [← z]; exact hb)).trans e) kp2 acc2 fun u2 m2 acc3 kp3 => ?_⟩
    exact fin u2 (Moved.trans W.gtrans ((m.mono wide).then_heap htk off) m2) acc3 kp3

/-- the new set -/
def setNew (w : World) : Obj := { cls := .type "set", dict := none, data := .set #[] 0 (.fresh 0 0 (!w.params.followText "set-order")) }
/-- what set(x) needs to know of x: a list or a tuple -/
structure Src (P : Program) (w : World) (T : String) (l : Addr) (its : Array Value) : Prop where
  ns : isSubtype (.type T) (.type "set") = pure false
  nf : isSubtype (.type T) (.type "frozenset") = pure false
  nd : (Value.type T == Value.type "dict") = false
  it : ∀ (A : Around) (h : Heap), A.handled = none → l ≠ h.objs.size → (∃ o n, h.get? l = some o ∧ o.cls = .type T ∧ o.data = .seq its n) → ∃ (St : Nat → Heap → Prop) (itO : Obj), Walks P w A h.objs.size [h.objs.size, l] [h.objs.size] its.size (fun i v => its[i]? = some v) St ∧ St 0 (h.push itO) ∧
    ∀ (A' : Around) (E : Value → Shared → Prop) (u : Shared) (Q : Value → Shared → Prop), u.heap = h → Q (.ref h.objs.size) { u with heap := h.push itO } → wpAny (model P w) A' (pyIter (.ref l)) Q E u
theorem src_list (l : Addr) (its : Array Value) : Src P w "list" l its where
  ns := F.sub_list_set
  nf := F.sub_list_frozenset
  nd := by decide
  it := fun A h hh ne ⟨o, n, h1, h2, h3⟩ => ⟨_, { cls := .type "list_iterator", data := .fields #[.ref l, .int 0 0] }, Walks.list hh _ l ne its, ⟨⟨_, Heap.get?_push_size _ rfl, rfl, rfl⟩, Heap.IsList.push ⟨o, h1, h2, n, h3⟩ _⟩, fun A' E u Q e q => by
    subst e
    exact wpAny_pyIter_list ⟨o, h1, h2, n, h3⟩ q⟩
theorem src_tuple (l : Addr) (its : Array Value) : Src P w "tuple" l its where
  ns := F.sub_tuple_set
  nf := F.sub_tuple_frozenset
  nd := by decide
  it := fun A h hh ne ⟨o, n, h1, h2, h3⟩ => ⟨_, { cls := .type "tuple_iterator", data := .fields #[.ref l, .int 0 0] }, Walks.tuple hh _ l ne its, ⟨⟨_, Heap.get?_push_size _ rfl, rfl, rfl⟩, Heap.IsTuple.push ⟨o, h1, h2, n, h3⟩ _⟩, fun A' E u Q e q => by
    subst e
    exact wpAny_pyIter_tuple ⟨o, h1, h2, n, h3⟩ q⟩
theorem none_from {h : Heap} {b : Addr} (hb : h.objs.size ≤ b) : h.get? b = none := by
  cases q : h.get? b with
  | none => rfl
  | some o => exact absurd (Nat.lt_of_lt_of_le (Heap.lt_size q) hb) (Nat.lt_irrefl _)
set_option maxHeartbeats 8000000 in
theorem make_set {T : String} {l : Addr} {its : Array Value} (src : Src P w T l its) (hl : ∃ o n, s.heap.get? l = some o ∧ o.cls = .type T ∧ o.data = .seq its n) (hh : A.handled = none) (Acc : Nat → Heap → Prop)
    (zero : ∀ h', h'.get? s.heap.objs.size = some (setNew w) → (∀ b o, s.heap.get? b = some o → h'.get? b = some o) → Acc 0 h')
    (keep : ∀ i h h', Acc i h → (∀ o, h.get? s.heap.objs.size = some o → h'.get? s.heap.objs.size = some o) → (∀ b o, s.heap.get? b = some o → h'.get? b = some o) → Acc i h')
    (add : ∀ (A' : Around) (E' : Value → Shared → Prop) i v (u : Shared) (Q : Bool → Shared → Prop), A'.units ≤ A.units + 8 → i < its.size → its[i]? = some v → Acc i u.heap → (∀ b o, s.heap.get? b = some o → u.heap.get? b = some o) →
      (∀ r h' tk, u.toks ≤ tk → Heap.SameBut s.heap.objs.size u.heap h' → Acc (i + 1) h' → Q r { u with heap := h', toks := tk }) → wpAny (model P w) A' (setAdd s.heap.objs.size v) Q E' u)
    {Q : Value → Shared → Prop} (hQ : ∀ (h' : Heap) (tk : Nat), Acc its.size h' → (∀ b o, s.heap.get? b = some o → h'.get? b = some o) → Q (.ref s.heap.objs.size) { s with heap := h', toks := tk }) :
    wpAny (model P w) A (call (.type "set") [.ref l]) Q E s := by
  obtain ⟨c, tl, hmro⟩ := F.called_set.mro
  have hmade := F.called_set.made
  have hsub := F.called_set.sub
  refine wpAny_call (codeAny_of_tree ?_)
  show wpAny _ _ (callAny (.type "set") _) _ _ _
  refine wpAny_pure ⟨Code.quiet_builtin _ (by decide +kernel), codeAny_builtin F.entry_type_call ?_⟩
  rw [Around.under_plain (weight_type_call_type "set" [.ref l] []) rfl]
  have h1 := F.called_set.notType
  have h2 := F.called_set.canCreate
  have hct := F.typeCall_set_1 (.ref l)
  repeat (any_goals (first | assumption | wp_step))
  refine codeAny_mono (code_set_led1 (.ref l) (E := E) (Q₁ := fun obj u => obj = .ref s.heap.objs.size ∧ u = { s with heap := s.heap.push (setNew w) }) ⟨rfl, rfl⟩) fun r u hr => ?_
  cases r with
  | error e => exact hr
  | ok fl => cases fl with
    | ret obj =>
      obtain ⟨rfl, rfl⟩ := hr
      have hS : (s.heap.push (setNew w)).get? s.heap.objs.size = some (setNew w) := Heap.get?_push_size _ rfl
      have hT : Shared.TypeIs { s with heap := s.heap.push (setNew w) } (.ref s.heap.objs.size) "set" := ⟨_, hS, rfl⟩
      have hli := F.called_set.init.lookup
      have hbi := F.called_set.init.bind (.ref s.heap.objs.size)
      repeat (any_goals (first | assumption | wp_step))
      refine codeAny_mono (codeAny_call_builtin (R := wants (fun r u => r = .none ∧ ∃ h' tk, u = { s with heap := h', toks := tk } ∧ Acc its.size h' ∧ (∀ b o, s.heap.get? b = some o → h'.get? b = some o)) E) F.called_set.init.plain F.entry_set_init (check_set_init_1 hT ?_)) fun r2 u2 hr2 => ?_
      · obtain ⟨ol, nl, hol, hcl, hdl⟩ := hl
        have hol2 : (s.heap.push (setNew w)).get? l = some ol := Heap.get?_push_of_some _ hol
        have sz1 : (s.heap.push (setNew w)).objs.size = s.heap.objs.size + 1 := Heap.size_push ..
        have lS : l < s.heap.objs.size := Heap.lt_size hol
        obtain ⟨St, itO, W, st0, hit⟩ := src.it A.in1.in1.in1 (s.heap.push (setNew w)) (by simp [hh]) (by rw [sz1]; exact Nat.ne_of_lt (Nat.lt_succ_of_lt lS)) ⟨ol, nl, hol2, hcl, hdl⟩
        obtain ⟨ns, nf, nd, _⟩ := src
        have hTl : Shared.TypeIs { s with heap := s.heap.push (setNew w) } (.ref l) T := ⟨ol, hol2, hcl⟩
        unfold Builtin.«set.__init__» noKeywords Builtin.Frozenset.updateFrom
        generalize hPI : pyIter = PI
        wp_walk
        subst hPI
        refine hit _ _ _ _ rfl ?_
        refine wpAny_bind (wpAny_runValue ?_)
        refine fill_set W.toS ?_ s.heap (none_from (Nat.le_refl _)) (fun b hb => none_from (by rw [List.mem_singleton.mp hb, sz1]; omega)) Acc keep (fun i v u Q' hi hv acc kp q => add _ _ i v u Q' ?_ hi hv acc kp q) (its.size - 0) 0 _ (by omega) (Nat.zero_le _) st0 (fun b o e => Heap.get?_push_of_some _ (Heap.get?_push_of_some _ e)) (zero _ (Heap.get?_push_of_some _ hS) fun b o e => Heap.get?_push_of_some _ (Heap.get?_push_of_some _ e)) fun u' m acc kp => ?_
        · rw [sz1]
          simp only [List.mem_cons, List.not_mem_nil, or_false, not_or]
          exact ⟨Nat.ne_of_lt (Nat.lt_succ_self _), Nat.ne_of_gt lS⟩
        · simp only [Around.in1_units]; omega
        · obtain ⟨h', g2, d', tk', os'⟩ := u'
          obtain rfl : g2 = s.gens := m.gens
          obtain rfl : d' = s.drawn := m.drawn
          obtain rfl : os' = s.os := m.os
          refine wpAny_pure ?_
          exact wpAny_pure ⟨rfl, h', tk', rfl, acc, kp⟩
      · cases r2 with
        | error e => exact hr2
        | ok f2 => cases f2 with
          | ret r =>
            obtain ⟨rfl, h', tk, rfl, acc, kp⟩ := hr2
            repeat (any_goals (first | assumption | wp_step))
            exact hQ _ _ acc kp
          | _ => exact hr2.elim
    | _ => exact hr.elim
end
end LY

set_option maxHeartbeats 4000000
namespace LY
open PySem PySem.Spec PyProof.Rows L2

/-! ### data of ints and tuples alone: the key tells the data -/
mutual
def numD : PyData → Bool
  | .int _ => true
  | .tuple ds => numsD ds
  | .none => false
  | .bool _ => false
  | .str _ => false
  | .list _ => false
  | .dict _ => false
def numsD : List PyData → Bool
  | [] => true
  | d :: ds => numD d && numsD ds
end
mutual
theorem key_back : ∀ (d : PyData), numD d = true → ∃ k, keyOf d = some k ∧ k.data = d ∧ numK k = true
  | .int i, _ => ⟨.num i, rfl, rfl, rfl⟩
  | .tuple ds, h => by
    obtain ⟨ks, h1, h2, h3⟩ := keys_back ds (by simpa [numD] using h)
    exact ⟨.tup ks, by rw [keyOf, h1]; rfl, by rw [NestedKey.data, h2], h3⟩
  | .none, h => by cases h
  | .bool _, h => by cases h
  | .str _, h => by cases h
  | .list _, h => by cases h
  | .dict _, h => by cases h
theorem keys_back : ∀ (ds : List PyData), numsD ds = true → ∃ ks, keysOf ds = some ks ∧ NestedKey.datas ks = ds ∧ numsK ks = true
  | [], _ => ⟨[], rfl, rfl, rfl⟩
  | d :: ds, h => by
    rw [numsD, Bool.and_eq_true] at h
    obtain ⟨k, h1, h2, h3⟩ := key_back d h.1
    obtain ⟨ks, g1, g2, g3⟩ := keys_back ds h.2
    exact ⟨k :: ks, by rw [keysOf, h1, g1]; rfl, by rw [NestedKey.datas, h2, g2], by rw [numsK, h3, g3]; rfl⟩
end
def tupNum : PyData → Bool
  | .tuple ds => numsD ds && (match keyOf (.tuple ds) with
    | some k => decide (k.depth ≤ 8)
    | none => false)
  | _ => false
def isI : PyData → Bool
  | .int _ => true
  | _ => false
def dedupD : List PyData → List PyData
  | [] => []
  | d :: r => if r.any (sameK d) = true then dedupD r else d :: dedupD r
def strictD : List PyData → Bool
  | [] => true
  | d :: r => r.all (fun e => PySem.W.dataLt d e) && strictD r
def setOk (ds : List PyData) : Bool := (ds.all isI && decide (ds.length ≤ 4000)) || (ds.all tupNum && (decide (ds.length < 64) || decide ((dedupD ds).length < 63)))
theorem setOk_num {ds : List PyData} (h : setOk ds = true) : ∀ d ∈ ds, numD d = true := fun d hd => by
  unfold setOk at h
  rw [Bool.or_eq_true, Bool.and_eq_true, Bool.and_eq_true, List.all_eq_true, List.all_eq_true] at h
  rcases h with h | h
  · have := h.1 d hd
    cases d <;> first | rfl | cases this
  · have := h.1 d hd
    cases d <;> first | (unfold tupNum at this; rw [Bool.and_eq_true] at this; exact this.1) | cases this
theorem same_num {d e : PyData} (hd : numD d = true) (he : numD e = true) (h : sameK d e = true) : d = e := by
  obtain ⟨k, h1, h2, _⟩ := key_back d hd
  obtain ⟨k', g1, g2, _⟩ := key_back e he
  have q := of_decide_eq_true h
  rw [h1, g1] at q
  cases q
  rw [← h2, ← g2]
theorem dedup_mem : ∀ {ds : List PyData}, (∀ d ∈ ds, numD d = true) → ∀ d, d ∈ dedupD ds ↔ d ∈ ds
  | [], _, d => Iff.rfl
  | x :: r, h, d => by
    have ih := dedup_mem (ds := r) (fun e he => h e (List.mem_cons_of_mem _ he)) d
    unfold dedupD
    split
    · next q =>
      rw [ih, List.mem_cons]
      constructor
      · exact .inr
      · rintro (rfl | z)
        · obtain ⟨e, he, k⟩ := List.any_eq_true.mp q
          rw [same_num (h _ List.mem_cons_self) (h _ (List.mem_cons_of_mem _ he)) k]
          exact he
        · exact z
    · rw [List.mem_cons, List.mem_cons, ih]
theorem dedup_nodup : ∀ {ds : List PyData}, (∀ d ∈ ds, numD d = true) → (dedupD ds).Nodup
  | [], _ => List.nodup_nil
  | x :: r, h => by
    have hr : ∀ d ∈ r, numD d = true := fun e he => h e (List.mem_cons_of_mem _ he)
    unfold dedupD
    split
    · exact dedup_nodup hr
    · next q =>
      refine List.nodup_cons.mpr ⟨fun z => q ?_, dedup_nodup hr⟩
      exact List.any_eq_true.mpr ⟨x, (dedup_mem hr x).mp z, decide_eq_true rfl⟩
theorem leD_total : PySem.W.TotalLe leD := PySem.W.sortLe_total _ _ _
theorem strict_pw : ∀ {l : List PyData}, strictD l = true → l.Pairwise fun a b => PySem.W.dataLt a b = true
  | [], _ => List.Pairwise.nil
  | d :: r, h => by
    rw [strictD, Bool.and_eq_true, List.all_eq_true] at h
    exact List.pairwise_cons.mpr ⟨h.1, strict_pw h.2⟩
theorem leD_no {a b : PyData} (h : PySem.W.dataLt a b = true) : leD b a = false := by
  show PySem.W.dataLe false id b a = false
  rw [PySem.W.dataLe_eq]
  show (!PySem.W.dataLt a b) = false
  rw [h]; rfl
/-- what is strict once sorted sorts to the same from any order -/
theorem sort_perm {ds es : List PyData} (h : es.Perm ds) (hs : strictD (sortD ds) = true) : sortD es = sortD ds := by
  have pm : (sortD es).Perm (sortD ds) := (List.mergeSort_perm _ _).trans (h.trans (List.mergeSort_perm _ _).symm)
  have pw : ∀ l : List PyData, (sortD l).Pairwise fun a b => leD a b = true := fun l => List.pairwise_mergeSort (le := leD) leD_total.trans (fun a b => by
    rcases leD_total.total a b with z | z
    · rw [z]; rfl
    · rw [z]; exact Bool.or_true _) l
  have sp := strict_pw hs
  refine List.Perm.eq_of_pairwise (le := fun a b => leD a b = true) (fun a b ha hb h1 h2 => ?_) (pw es) (pw ds) pm
  have ha2 := pm.mem_iff.mp ha
  have key : ∀ {l : List PyData}, (l.Pairwise fun a b => PySem.W.dataLt a b = true) → a ∈ l → b ∈ l → a = b ∨ PySem.W.dataLt a b = true ∨ PySem.W.dataLt b a = true := by
    intro l
    induction l with
    | nil => exact fun _ z => nomatch z
    | cons x r ih =>
      intro p m1 m2
      obtain ⟨p1, p2⟩ := List.pairwise_cons.mp p
      rcases List.mem_cons.mp m1 with e1 | m1 <;> rcases List.mem_cons.mp m2 with e2 | m2
      · exact .inl (e1.trans e2.symm)
      · exact .inr (.inl (e1 ▸ p1 b m2))
      · exact .inr (.inr (e2 ▸ p1 a m1))
      · exact ih p2 m1 m2
  rcases key sp ha2 hb with e | e | e
  · exact e
  · rw [leD_no e] at h2; exact nomatch h2
  · rw [leD_no e] at h1; exact nomatch h1
theorem alikes_perm {ds es : List PyData} (h : es.Perm ds) (a : alikes ds = true) : alikes es = true := by
  unfold alikes at a ⊢
  rw [List.all_eq_true] at a ⊢
  intro x hx
  have := a x (h.mem_iff.mp hx)
  rw [List.all_eq_true] at this ⊢
  exact fun y hy => this y (h.mem_iff.mp hy)
theorem all_perm {p : PyData → Bool} {ds es : List PyData} (h : es.Perm ds) : es.all p = ds.all p := by
  rw [Bool.eq_iff_iff, List.all_eq_true, List.all_eq_true]
  exact ⟨fun z x hx => z x (h.mem_iff.mpr hx), fun z x hx => z x (h.mem_iff.mp hx)⟩
theorem sortOk_perm {ds es : List PyData} (h : es.Perm ds) (a : sortOk ds = true) : sortOk es = true := by
  unfold sortOk at a ⊢
  rw [all_perm (p := okD) h, all_perm (p := neTup) h, all_perm (p := noTup) h, all_perm (p := fun d => !isNoneD d) h, all_perm (p := anyTup) h, h.length_eq]
  have e : alikes es = alikes ds := by
    cases q : alikes ds with
    | true => exact alikes_perm h q
    | false => cases q2 : alikes es with
      | true => rw [alikes_perm h.symm q2] at q; exact nomatch q
      | false => rfl
  rw [e]
  exact a

/-! ### the set as an object -/
def SetV (w : World) (h : Heap) (a : Addr) (vs : List V) : Prop :=
  ∃ es ep t, SetAt h a es ep t ∧ t.fits es.size = true ∧ es.size < scanBound ∧ Ris t.place.toList ∧ (w.params.followText "set-order" = true ∨ t.led = true) ∧ Vals vs (es.toList.map (·.2))
def setO (w : World) (a : Addr) (vs : List V) : HO := .ext fun h => SetV w h a vs
theorem setO_ok {P : Program} {w : World} {H : Hp} {h : Heap} {a : Addr} {vs : List V} (x : SetV w h a vs) : ObjOk P w H h a (setO w a vs) := by
  have ⟨es, ep, t, ⟨o, ho, r⟩, q⟩ := x
  refine ⟨x, ⟨o, ho⟩, fun h1 h2 p k => ?_⟩
  have ⟨es', ep', t', ⟨o', ho', r'⟩, q'⟩ := (show SetV w h1 a vs from p)
  exact ⟨es', ep', t', ⟨o', k o' ho', r'⟩, q'⟩
section
variable {X : Cx} {G : Gd} {pins : List (Addr × Obj)} {σ : L2.St} {F H : Hp} {s : Shared}
/-- set(x): data, no two alike, the same members -/
def rSet (G : Gd) (K : PySem.W.Frag) (w : World) : List V → Hp → VK → Prop := fun xs H Q => ∃ (F : Hp) (v : V) (d : PyData) (ds : List PyData), xs = [v] ∧ Ex F H ∧ Dr G F v d ∧ (d = .list ds ∨ d = .tuple ds) ∧ setOk ds = true ∧
  ∀ a vs es, H a = none → DrAll G F vs es → es.Nodup → (∀ d, d ∈ es ↔ d ∈ ds) → Q (.ref a) (upd H a (setO w a vs))
theorem ints_of : ∀ {ds : List PyData}, ds.all isI = true → ∃ ns : List Int, ds = ns.map .int
  | [], _ => ⟨[], rfl⟩
  | d :: r, h => by
    rw [List.all_cons, Bool.and_eq_true] at h
    obtain ⟨ns, rfl⟩ := ints_of h.2
    cases d <;> first | exact ⟨_ :: ns, rfl⟩ | cases h.1
theorem vals_isint : ∀ {ns : List Int} {us : List Value}, Vals (ns.map V.int) us → ∀ (i : Nat) (v : Value), us[i]? = some v → ∃ k t, ns[i]? = some k ∧ v = Value.int k t
  | [], _, .nil, i, v, e => by simp at e
  | n :: ns, _, .cons r t, 0, v, e => by
    obtain ⟨tk, rfl⟩ := r
    simp at e
    subst e
    exact ⟨n, tk, rfl, rfl⟩
  | n :: ns, _, .cons r t, i + 1, v, e => by
    obtain ⟨k, tk, h1, h2⟩ := vals_isint t i v (by simpa using e)
    exact ⟨k, tk, by simpa using h1, h2⟩
/-- the members by address and key -/
theorem mems_of (I : Inv X pins σ H s) (e : Ex F H) : ∀ {ds : List PyData} {vs : List V} {us : List Value}, ds.all tupNum = true → DrAll G F vs ds → Vals vs us → ∃ ks : List Mem, us = ks.map (fun m => Value.ref m.1) ∧ ks.map (·.2.data) = ds ∧ (∀ m ∈ ks, IsN s.heap m.2 m.1 ∧ Dr G F (.ref m.1) m.2.data ∧ keyOf m.2.data = some m.2)
  | [], _, _, _, .nil, .nil => ⟨[], rfl, rfl, fun m z => nomatch z⟩
  | d :: ds, _, _, h, .cons rd t, .cons rv u => by
    rw [List.all_cons, Bool.and_eq_true] at h
    obtain ⟨ks, h1, h2, h3⟩ := mems_of I e h.2 t u
    cases rd with
    | @tup b zs es g1 g2 =>
      have h0 := h.1
      unfold tupNum at h0
      rw [Bool.and_eq_true] at h0
      obtain ⟨k, k1, k2, k3⟩ := key_back (.tuple es) h0.1
      rw [k1] at h0
      cases rv
      refine ⟨(b, k) :: ks, by rw [h1]; rfl, by rw [List.map_cons, h2, k2], fun m hm => ?_⟩
      rcases List.mem_cons.mp hm with rfl | z
      · refine ⟨⟨Dr.key I ((Dr.tup g1 g2).mono e) k1 rfl, of_decide_eq_true h0.2, k3⟩, ?_, ?_⟩
        · show Dr G F (.ref b) k.data
          rw [k2]; exact .tup g1 g2
        · show keyOf k.data = some k
          rw [k2]; exact k1
      · exact h3 m z
    | _ => exact nomatch h.1
open Classical in
theorem nodup_len0 {α : Type} : ∀ {l u : List α}, l.Nodup → (∀ x ∈ l, x ∈ u) → l.length ≤ u.length
  | [], _, _, _ => Nat.zero_le _
  | x :: r, u, h, k => by
    obtain ⟨h1, h2⟩ := List.nodup_cons.mp h
    have hx := k x List.mem_cons_self
    have ih := nodup_len0 (l := r) (u := u.erase x) h2 fun y hy => (List.mem_erase_of_ne (fun z => h1 (by rw [← z]; exact hy))).mpr (k y (List.mem_cons_of_mem _ hy))
    rw [List.length_erase_of_mem hx] at ih
    have : 0 < u.length := List.length_pos_of_mem hx
    rw [List.length_cons]
    omega
structure Gath (ks : List Mem) (i : Nat) (M : List Mem) : Prop where
  sub : ∀ m ∈ M, m ∈ ks
  all : ∀ m ∈ ks.take i, m.2 ∈ M.map (·.2)
  len : M.length ≤ i
theorem take_more {α : Type} {l : List α} {i : Nat} {x : α} (h : l[i]? = some x) : l.take (i + 1) = l.take i ++ [x] := by
  rw [List.take_add_one, h]; rfl
theorem cr_set (hc : X.calm = true) (hr : Rm X) : CallR X (.type "set") (rSet G X.K X.w) := by
  intro pins s σ H xs us Q I rs h
  obtain ⟨F, v, d, ds, rfl, e, dr, hd, ok, q⟩ := h
  have hn : H s.heap.objs.size = none := I.hok.fresh (Nat.le_refl _)
  have hu := hr.u
  have fin : ∀ {h' : Heap} {tk : Nat} {vs : List V} {es : List PyData}, (∀ b o, s.heap.get? b = some o → h'.get? b = some o) → SetV X.w h' s.heap.objs.size vs → DrAll G F vs es → es.Nodup → (∀ d, d ∈ es ↔ d ∈ ds) → EP X pins σ Q (.ref s.heap.objs.size) { s with heap := h', toks := tk } :=
    fun {h' tk vs es} k sv t nd mm => ⟨.ref s.heap.objs.size, upd H s.heap.objs.size (setO X.w s.heap.objs.size vs), I.laid (t' := tk) k (Nat.le_refl _) (setO_ok sv), rfl, q _ vs es hn t nd mm⟩
  have go : ∀ {T : String} {l : Addr} {its : List Value} {vs : List V}, Src X.prog X.w T l its.toArray → (∃ o n, s.heap.get? l = some o ∧ o.cls = .type T ∧ o.data = .seq its.toArray n) → Vals vs its → DrAll G F vs ds → wpAny (model X.prog X.w) X.A (call (.type "set") [.ref l]) (EP X pins σ Q) X.xe s := by
    intro T l its vs src hl rv t
    have hlen : its.length = ds.length := by rw [← rv.length, t.length]
    unfold setOk at ok
    rw [Bool.or_eq_true, Bool.and_eq_true, Bool.and_eq_true] at ok
    rcases ok with ⟨o1, o2⟩ | ⟨o1, o2⟩
    · obtain ⟨ns, rfl⟩ := ints_of o1
      obtain rfl := t.ints
      have small := of_decide_eq_true o2
      rw [List.length_map] at small hlen
      refine make_set src hl (I.ok.hd hc) (fun i h' => ∃ c, c ≤ i ∧ SetR X.w h' s.heap.objs.size (fun j => decide (j ∈ ns.take i)) c) (fun h' g _ => ⟨0, Nat.le_refl 0, setR_new_at g⟩) (fun i h h' ⟨c, hc, R⟩ k _ => ⟨c, hc, R.at k⟩) (fun A' E' i v u Q' hA hi hv ⟨c, hc, R⟩ kp k => ?_) fun h' tk ⟨c, hc, R⟩ kp => ?_
      · obtain ⟨z, tz, hz, rfl⟩ := vals_isint rv i v (by simpa using hv)
        have line : ns.length + 1 < scanBound := by unfold scanBound; omega
        have hi2 : i < ns.length := (List.getElem?_eq_some_iff.mp hz).1
        unfold setAdd
        refine wpAny_holding (wpAny_bind ((intKind X.prog X.w).pyHash (k := z) (intKind_is _ _ _ _) ?_))
        refine setR_add_hashed (s := { u with toks := u.toks + 1 }) R (by omega) fun h' sb R2 => ?_
        refine k _ h' _ (Nat.le_succ _) sb ⟨_, ?_, R2.congr fun j => ?_⟩
        · split <;> omega
        · rw [take_more hz]
          simp [List.mem_append]
      · rw [show its.toArray.size = ns.length by rw [List.size_toArray, hlen], List.take_length] at R
        obtain ⟨o, es, ep, t, ho, hx, hd, g, nd, hm, hb, hf, hsz, ris, led⟩ := R
        have vals : ∀ {l : List (Int × Value)}, (∀ e ∈ l, GoodE e) → Vals ((l.map L2.keyOf).map V.int) (l.map (·.2)) := by
          intro l
          induction l with
          | nil => exact fun _ => .nil
          | cons x l ih =>
            intro gl
            obtain ⟨k, tk, h1, _⟩ := gl x List.mem_cons_self
            refine .cons ⟨tk, ?_⟩ (ih fun y hy => gl y (List.mem_cons_of_mem _ hy))
            show x.2 = Value.int (L2.keyOf x) tk
            unfold L2.keyOf
            rw [h1]
        refine fin kp ⟨es, ep, t, ⟨o, ho, hx.1, hd⟩, hf, hb, ris, led, vals g⟩ (DrAll.of_ints (es.toList.map L2.keyOf)) ?_ fun d => ?_
        · exact List.pairwise_map.mpr (List.Pairwise.imp (fun {a b} ne z => ne (by injection z)) nd)
        · rw [List.mem_map, List.mem_map]
          constructor
          · rintro ⟨j, hj, rfl⟩
            exact ⟨j, of_decide_eq_true ((hm j).mpr hj), rfl⟩
          · rintro ⟨j, hj, rfl⟩
            exact ⟨j, (hm j).mp (decide_eq_true hj), rfl⟩
    · obtain ⟨ks, k1, k2, k3⟩ := mems_of I e o1 t rv
      have small : ds.length < 64 ∨ (dedupD ds).length < 63 := by simpa using o2
      have numAll : ∀ d ∈ ds, numD d = true := fun d hd => by
        have := List.all_eq_true.mp o1 d hd
        cases d <;> first | (unfold tupNum at this; rw [Bool.and_eq_true] at this; exact this.1) | cases this
      have ndM : ∀ M : List Mem, (M.map (·.2)).Nodup → (∀ m ∈ M, m ∈ ks) → (M.map (·.2.data)).Nodup := fun M nd sub => by
        rw [show M.map (·.2.data) = (M.map (·.2)).map NestedKey.data by rw [List.map_map]; rfl]
        refine List.pairwise_map.mpr (List.Pairwise.imp_of_mem (fun {a b} ha hb ne z => ne ?_) nd)
        obtain ⟨m1, p1, rfl⟩ := List.mem_map.mp ha
        obtain ⟨m2, p2, rfl⟩ := List.mem_map.mp hb
        have y1 := (k3 m1 (sub m1 p1)).2.2
        have y2 := (k3 m2 (sub m2 p2)).2.2
        rw [z, y2] at y1
        exact (Option.some.inj y1).symm
      have kl : ks.length = ds.length := by rw [← k2, List.length_map]
      refine make_set src hl (I.ok.hd hc) (fun i h' => ∃ M es ep t, SN X.w h' s.heap.objs.size M es ep t ∧ Gath ks i M) (fun h' g kp => ⟨[], #[], 0, _, ⟨⟨_, g, ⟨rfl, rfl, rfl⟩, rfl⟩, rfl, ⟨List.Pairwise.nil, rfl, rfl, .inl rfl, fun x hx => (nomatch hx), fun i h j hi => (by simp at hi)⟩, List.nodup_nil, fun m z => (nomatch z), rfl, ?_, by show 0 * 5 < 7 * 3; decide, by show 0 < 64; decide⟩, ⟨fun m z => (nomatch z), fun m z => (by simp at z), Nat.le_refl _⟩⟩)
        (fun i h h' ⟨M, es, ep, t, R, g⟩ k kp => ⟨M, es, ep, t, R.keep k fun m hm => (k3 m (g.sub m hm)).1.keep kp, g⟩) (fun A' E' i v u Q' hA hi hv ⟨M, es, ep, t, R, g⟩ kp k => ?_) fun h' tk ⟨M, es, ep, t, R, g⟩ kp => ?_
      · show _ ∨ (!X.w.params.followText "set-order") = true
        cases X.w.params.followText "set-order"
        · exact .inr rfl
        · exact .inl rfl
      · obtain ⟨m, hm, rfl⟩ : ∃ m, ks[i]? = some m ∧ v = Value.ref m.1 := by
          have hv2 : its[i]? = some v := by simpa using hv
          rw [k1, List.getElem?_map] at hv2
          cases q2 : ks[i]? with
          | none => rw [q2] at hv2; exact nomatch hv2
          | some m => rw [q2] at hv2; exact ⟨m, rfl, (Option.some.inj hv2).symm⟩
        have hmem := List.mem_of_getElem? hm
        have hi2 : i < ks.length := (List.getElem?_eq_some_iff.mp hm).1
        have x : IsN u.heap m.2 m.1 := (k3 m hmem).1.keep kp
        have gl := g.len
        have few2 : M.length + 1 < 64 := by
          rcases small with z | z
          · omega
          · have q := nodup_len0 (u := dedupD ds) (ndM M R.nd g.sub) fun d hd => by
              obtain ⟨m2, p2, rfl⟩ := List.mem_map.mp hd
              rw [dedup_mem numAll, ← k2]
              exact List.mem_map.mpr ⟨m2, g.sub m2 p2, rfl⟩
            rw [List.length_map] at q
            omega
        unfold setAdd
        refine wpAny_holding (wpAny_bind ((nestedKind X.prog X.w).pyHash (k := m.2) (show A'.units + 8 < cLine by omega) ⟨x.is, x.dp⟩ ?_))
        refine add_n (s := { u with toks := u.toks + m.2.draws }) R x (by omega) few2 fun r h' M' es' ep' t' sb R2 c1 c2 => ?_
        refine k _ h' _ (Nat.le_add_right _ _) sb ⟨M', es', ep', t', R2, ?_⟩
        rcases Classical.em (m.2 ∈ M.map (·.2)) with c | c
        · rw [c1 c]
          refine ⟨g.sub, fun y hy => ?_, Nat.le_succ_of_le gl⟩
          rw [take_more hm] at hy
          rcases List.mem_append.mp hy with z | z
          · exact g.all y z
          · rw [List.mem_singleton.mp z]; exact c
        · have pm := c2 c
          refine ⟨fun y hy => ?_, fun y hy => ?_, by rw [pm.length_eq, List.length_cons]; omega⟩
          · rcases List.mem_cons.mp (pm.mem_iff.mp hy) with rfl | z
            · exact hmem
            · exact g.sub y z
          · rw [(pm.map (·.2)).mem_iff, List.map_cons]
            rw [take_more hm] at hy
            rcases List.mem_append.mp hy with z | z
            · exact List.mem_cons_of_mem _ (g.all y z)
            · rw [List.mem_singleton.mp z]; exact List.mem_cons_self
      · have ez : its.toArray.size = ks.length := by rw [List.size_toArray, hlen, kl]
        rw [ez] at g
        obtain ⟨o, ho, hx, hd⟩ := R.ob
        have vals : ∀ {l : List Mem}, Vals (l.map fun m => V.ref m.1) ((l.map (rowN X.w)).map (·.2)) := by
          intro l
          induction l with
          | nil => exact .nil
          | cons x l ih => exact .cons rfl ih
        have drs : ∀ {l : List Mem}, (∀ m ∈ l, m ∈ ks) → DrAll G F (l.map fun m => V.ref m.1) (l.map (·.2.data)) := by
          intro l
          induction l with
          | nil => exact fun _ => .nil
          | cons x l ih => exact fun z => .cons (k3 x (z x List.mem_cons_self)).2.1 (ih fun y hy => z y (List.mem_cons_of_mem _ hy))
        have few := R.few
        refine fin kp ⟨es, ep, t, ⟨o, ho, hx.1, hd⟩, R.fits, by rw [rows_size R.rows]; unfold scanBound; omega, R.tab.ris, R.led, by rw [R.rows]; exact vals⟩ (drs g.sub) ?_ fun d => ?_
        · exact ndM M R.nd g.sub
        · rw [← k2, List.mem_map, List.mem_map]
          constructor
          · rintro ⟨m, hm, rfl⟩
            exact ⟨m, g.sub m hm, rfl⟩
          · rintro ⟨m, hm, rfl⟩
            have z := g.all m (by rw [List.take_length]; exact hm)
            obtain ⟨m2, h2, e2⟩ := List.mem_map.mp z
            exact ⟨m2, h2, congrArg NestedKey.data e2⟩
  rcases hd with rfl | rfl
  · cases dr with
    | lst h1 t1 =>
      rw [Vals.ref1 rs]
      obtain ⟨its, rv, ⟨o, n, ho, hcl, _, hdt⟩, hz⟩ := I.list (SqL.of (e _ _ h1))
      exact go (src_list _ _) ⟨o, n, ho, hcl, hdt⟩ rv t1
  · cases dr with
    | tup h1 t1 =>
      rw [Vals.ref1 rs]
      obtain ⟨its, rv, ⟨o, ho, hcl, n, hdt⟩, hz⟩ := I.tuple (SqT.of (e _ _ h1))
      exact go (src_tuple _ _) ⟨o, n, ho, hcl, hdt⟩ rv t1
end
end LY

set_option maxHeartbeats 4000000
namespace LY
open PySem PySem.Spec PyProof.Rows L2

/-! ### sorted(set(x)) -/
def ssOk (ds : List PyData) : Bool := setOk ds && sortOk (dedupD ds) && strictD (sortD (dedupD ds))
def gSortSet : PyData → Option PyData
  | .list ds => if ssOk ds = true then some (.list (sortD (dedupD ds))) else none
  | .tuple ds => if ssOk ds = true then some (.list (sortD (dedupD ds))) else none
  | _ => none
def xSortSet (a : Ef) : Ef := fun δ => (a δ).bind fun d => Rs.of (gSortSet d)
section
variable {X : Cx} {G : Gd} {B : Bs} {W : WX} {a : Expr} {fa : Ef} {pos p p2 p3 : Pos}
def rSS (G : Gd) (w : World) : List V → Hp → VK → Prop := fun xs H Q => ∃ (F : Hp) (a : Addr) (vs : List V) (es ds : List PyData), xs = [.ref a] ∧ Ex F H ∧ H a = some (setO w a vs) ∧ DrAll G F vs es ∧ es.Perm ds ∧ sortOk ds = true ∧ strictD (sortD ds) = true ∧ kD G F H Q (some (.list (sortD ds)))
theorem perm_vals : ∀ {us us2 : List Value}, us2.Perm us → ∀ {F : Hp} {vs : List V} {ds : List PyData}, Vals vs us → DrAll G F vs ds → ∃ vs2 ds2, Vals vs2 us2 ∧ DrAll G F vs2 ds2 ∧ ds2.Perm ds := by
  intro us us2 pm
  induction pm with
  | nil => exact fun {F vs ds} r t => ⟨vs, ds, r, t, List.Perm.refl _⟩
  | cons x pm ih =>
    intro F vs ds r t
    cases r with
    | cons r0 r => cases t with
      | cons t0 t =>
        obtain ⟨vs2, ds2, h1, h2, h3⟩ := ih r t
        exact ⟨_ :: vs2, _ :: ds2, .cons r0 h1, .cons t0 h2, h3.cons _⟩
  | swap x y l =>
    intro F vs ds r t
    cases r with
    | cons r0 r => cases r with
      | cons r1 r => cases t with
        | cons t0 t => cases t with
          | cons t1 t => exact ⟨_, _, .cons r1 (.cons r0 r), .cons t1 (.cons t0 t), List.Perm.swap ..⟩
  | trans p1 p2 ih1 ih2 =>
    intro F vs ds r t
    obtain ⟨v1, d1, a1, a2, a3⟩ := ih2 r t
    obtain ⟨v2, d2, b1, b2, b3⟩ := ih1 a1 a2
    exact ⟨v2, d2, b1, b2, b3.trans a3⟩
theorem cr_sortedSet (hG : GX X G) (hr : Rm X) (hc : X.calm = true) : CallR X (.builtin "sorted") (rSS G X.w) := by
  intro pins s σ H xs us Q I rs h
  obtain ⟨F, a, vs, es, ds, rfl, e, ha, t, pm, ok, st, k⟩ := h
  obtain ⟨es', ep, tb, at_, fi, sz, ris, led, rv⟩ := (show SetV X.w s.heap a vs from (I.hok a _ ha).1)
  rw [Vals.ref1 rs]
  obtain ⟨p1, p2⟩ := sortOk_parts ok
  refine sorted_from (enc := fun b : VD => b.2) (R := RVD G F) (collect_set (I.ok.hd hc) at_ fi sz ris led fun s1 out kp _ hg ho pm2 => ?_) (by have := hr.u; omega)
  obtain ⟨vs2, ds2, rv2, t2, pm3⟩ := perm_vals pm2 rv t
  have pm4 : ds2.Perm ds := pm3.trans pm
  have ok2 := sortOk_perm pm4 ok
  obtain ⟨p3, p4⟩ := sortOk_parts ok2
  refine ⟨kp, vs2.zip ds2, each_of rv2 t2, ?_, ?_, ?_⟩
  · exact each_reads hG I e kp (by rw [zip_snd t2.length]; exact p3) (each_of rv2 t2)
  · rw [zip_snd t2.length]; exact ok2
  · intro s' p out2 c k' hg' ho' hp hobj tt
    refine new_list I e k' (hg'.trans hg) (ho'.trans ho) hp hobj tt ?_ ?_
    · rw [List.length_mergeSort, List.length_zip, t2.length, Nat.min_self]; exact p4
    · rw [sort_snd, zip_snd t2.length, sort_perm pm4 st]; exact k
theorem c_sortset (hG : GX X G) (hr : Rm X) (hc : X.calm = true) (hm : X.mg "sorted" = none) (hm2 : X.mg "set" = none) (ha : PE X a (tR G B W fa)) (hg : Gl X "sorted" := by rfl) (hg2 : Gl X "set" := by rfl)
    (he : starEach [.Call (.Name "set" p3) [a] [] p2] X.env = (false, eval (.Call (.Name "set" p3) [a] [] p2) X.env) :: starEach [] X.env := by rfl) (hpl : (backTo pos (starEach ([] : List Expr) X.env)).any (·.1) = false := by rfl)
    (he2 : starEach [a] X.env = (false, eval a X.env) :: starEach [] X.env := by rfl) (hpl2 : (backTo p2 (starEach ([] : List Expr) X.env)).any (·.1) = false := by rfl) :
    PE X (.Call (.Name "sorted" p) [.Call (.Name "set" p3) [a] [] p2] [] pos) (tR G B W (xSortSet fa)) := by
  refine peImp (pe_callB (cr_sortedSet hG hr hc) hg hm (by decide +kernel) (pa_cons (pe_callTy (cr_set (G := G) hc hr) hg2 hm2 (by decide +kernel) (pa_cons ha pa_nil he2) (by decide) (by decide) he2 hpl2) pa_nil he) (by decide) (by decide) he hpl) fun σ H Q ⟨δ, F, R, k⟩ => ?_
  unfold xSortSet at k
  refine bindE R k fun d v F1 H1 x1 R1 r1 k1 => ?_
  have go : ∀ ds, (d = .list ds ∨ d = .tuple ds) → ssOk ds = true → kD G F1 H1 Q (some (.list (sortD (dedupD ds)))) → rSet G X.K X.w [v] H1 fun x H' => rSS G X.w [x] H' Q := fun ds hd ok k2 => by
    unfold ssOk at ok
    rw [Bool.and_eq_true, Bool.and_eq_true] at ok
    obtain ⟨⟨o1, o2⟩, o3⟩ := ok
    have hnum := setOk_num o1
    refine ⟨F1, v, d, ds, rfl, x1.fh, r1, hd, o1, fun a vs es hn t nd mm => ?_⟩
    refine ⟨F1, a, vs, es, dedupD ds, rfl, x1.fh.trans (Ex.new hn), upd_same, t, ?_, o2, o3, ?_⟩
    · exact (List.perm_ext_iff_of_nodup nd (dedup_nodup hnum)).mpr fun d => (mm d).trans (dedup_mem hnum d).symm
    · intro w F2 H2 x2 r2
      exact k2 w F2 H2 ⟨x2.ff, x2.fh, (Ex.new hn).trans x2.hh, fun b h1 h2 => x2.nb b h1 (by
        cases q : H1 b with
        | none => exact absurd q h2
        | some o => rw [(Ex.new hn) b o q]; exact fun z => nomatch z)⟩ r2
  unfold gSortSet at k1
  split at k1
  · next ds =>
    split at k1
    · next ok => exact go ds (.inl rfl) ok k1.kD
    · exact k1.elim
  · next ds =>
    split at k1
    · next ok => exact go ds (.inr rfl) ok k1.kD
    · exact k1.elim
  · exact k1.elim
end
end LY

set_option maxHeartbeats 4000000
namespace LY
open PySem PySem.Spec PyProof.Rows L2

/-! ### try: .. except C as x: y = x -/
theorem ExD_ok {P : Program} {w : World} {H : Hp} {h : Heap} {a : Addr} {cls : Value} {oe : Obj} {vs : Array Value} (he : h.get? a = some oe) (hz : Zc cls none oe) (hd : oe.data = .fields vs) : ObjOk P w H h a (ExD cls a) := by
  refine ⟨⟨oe, vs, he, hz, hd⟩, ⟨oe, he⟩, fun h1 h2 p k => ?_⟩
  obtain ⟨o1, v1, g1, g2, g3⟩ := p
  exact ⟨o1, v1, k o1 g1, g2, g3⟩
section
variable {X : Cx} {pins : List (Addr × Obj)} {σ : L2.St} {H : Hp} {s : Shared}
/-- an error object that stands there is known from now on -/
theorem trackE {a : Addr} {oe : Obj} {vs : Array Value} {cls : Value} (I : Inv X ((a, oe) :: pins) σ H s) (hz : Zc cls none oe) (hd : oe.data = .fields vs) (new : ∀ o, X.s_0.heap.get? a = some o → a ∈ X.ex) (off : ∀ p ∈ X.pn ++ pins, p.1 ≠ a) : Inv X pins σ (upd H a (ExD cls a)) s := by
  obtain ⟨he, hn, hL, _, _⟩ := I.pin (a, oe) (List.mem_append_right _ List.mem_cons_self)
  have cne : ∀ x c, X.env.cells.lookup x = some c → c ≠ a := fun x c e z => by
    obtain ⟨v, ob, q1, q2⟩ := I.cell x c e
    subst z
    rw [he] at q1
    cases q1
    exact nomatch hd.symm.trans q2
  refine ⟨I.ok, I.os, I.bare, ⟨I.base.keep, I.base.slot, fun b o e n hx => ?_, I.base.there, fun b xs e => ?_, fun b o u e => ?_, fun b ps e => ?_⟩, I.loc, I.cell, ?_, fun x c e => ?_, fun p hp => ?_, fun b ob e => ?_, I.len⟩
  · have z : b ≠ a := fun z => hx (by subst z; exact new o e)
    rw [upd_ne z]
    exact I.base.free b o e n hx
  · have q := I.base.tups b xs e
    rw [upd_ne (ne_of_none q hn)]
    exact q
  · have q := I.base.frzs b o u e
    rw [upd_ne (ne_of_none q hn)]
    exact q
  · obtain ⟨more, q⟩ := I.base.tbls b ps e
    exact ⟨more, by rw [upd_ne (ne_of_none q hn)]; exact q⟩
  · rw [upd_ne (Ne.symm hL)]
    exact I.free
  · rw [upd_ne (cne x c e)]
    exact I.freeC x c e
  · have hp' : p ∈ X.pn ++ ((a, oe) :: pins) := by
      rcases List.mem_append.mp hp with z | z
      · exact List.mem_append_left _ z
      · exact List.mem_append_right _ (List.mem_cons_of_mem _ z)
    obtain ⟨q1, q2, q3⟩ := I.pin p hp'
    exact ⟨q1, by rw [upd_ne (off p hp)]; exact q2, q3⟩
  · by_cases z : b = a
    · subst z
      rw [upd_same] at e
      cases e
      exact ExD_ok he hz hd
    · rw [upd_ne z] at e
      refine (I.hok b ob e).stay (fun c w' hc q => q) (fun c q => ?_) fun c xs q => ?_
      · rw [upd_ne (ne_of_none q hn)]; exact q
      · rw [upd_ne (ne_of_none q hn)]; exact q
end
/-- what is wished of an error of the body -/
def wTry (K : PySem.W.Frag) (c : Value) (i j : Nat) (Wout : WX) (D : Ends) : WX := fun cls d σ H =>
  ∃ b, PySem.W.exmOne K cls c = some b ∧ (b = true → d = none ∧ ∀ a, H a = none → D.nx ((σ.set j (some (.ref a))).set i none) (upd H a (ExD cls a))) ∧ (b = false → Wout cls d σ H)
section
variable {X : Cx} {x y n : Str} {c : Value} {i j : Nat} {body : List Stmt} {np p1 p2 p3 pos pos' : Pos} {tb : WX → TS} {Wout : WX}
theorem suite_set {Y : Cx} (hN : Y.N.Nodup) (hi : Y.N[i]? = some n) (hj : Y.N[j]? = some y) (vn : Vis Y.env.scope n) (ly : Loc Y.env.scope y) (hf : Y.fn y = true ∨ Y.env.scope.names.lookup y = some .local) (hd : (n == ("__debug__" : Str)) = false) (hcd : (n == ("__classdict__" : Str)) = false)
    (hs : swapsWith (.Name n p2) (some (.Name y p1)) p3.line Y.env = pure false) : PSs Y [.Assign [.Name y p1] (.Name n p2) p3] (fun D σ H => ∃ v, σ[i]? = some (some v) ∧ D.nx (σ.set j (some v)) H) :=
  pssImp (pss_one (ps_set hN hj ly (pe_var hi vn hd hcd) hs hf)) fun D σ H ⟨v, h1, h2⟩ => ⟨v, h1, h2⟩
theorem frs_cons {env : Env} {l : List Env} {L : Addr} (h : env.frame = some L) : frs (env :: l) = L :: frs l := by
  unfold frs
  rw [List.filterMap_cons, h]
theorem try_run (hs : X.stack = X.env :: X.outer) (hf : X.env.frame = some X.env.locals) (hN : X.N.Nodup) (hi : X.N[i]? = some n) (hj : X.N[j]? = some y) (hij : i ≠ j) (hln : X.env.kindOf n = some .local) (vn : Vis X.env.scope n) (ly : Loc X.env.scope y) (hc : Names X x c) (tk : Takes X Wout)
    (hd : (n == ("__debug__" : Str)) = false) (hcd : (n == ("__classdict__" : Str)) = false) (hfy : X.fn y = true ∨ X.env.scope.names.lookup y = some .local) (hsw : swapsWith (.Name n p2) (some (.Name y p1)) p3.line X.env = pure false)
    (hb : ∀ (W : WX) (pn : List (Addr × Obj)) (xe : Value → Shared → Prop), Takes (X.tr pn xe) W → PassesOwn (model X.prog X.w) X.A X.env xe → PSs (X.tr pn xe) body (tb W)) :
    PS X (.Try body [.ExceptHandler (some (.Name x np)) (some n) [.Assign [.Name y p1] (.Name n p2) p3] pos'] [] [] pos) (fun D σ H => tb (wTry X.K c i j Wout D) D σ H) := by
  refine ⟨fun pins s σ H D I h => ?_⟩
  have ok := I.ok
  have hfr : X.A.frames = some (X.env :: X.outer) := ok.frames.trans (congrArg some hs)
  refine wpAny_Try_except (wpAny_mono ((hb (wTry X.K c i j Wout D) (X.pn ++ pins) (fun e s₁ => wpAny (model X.prog X.w) X.A (noteFrame e X.env) (fun _ s₂ => wpAny (model X.prog X.w) X.A (setFlight e none) (fun _ s₃ =>
    wpAny (model X.prog X.w) X.A (handleBy e X.env [.ExceptHandler (some (.Name x np)) (some n) [.Assign [.Name y p1] (.Name n p2) p3] pos']) (SP X pins D) X.xe s₃) X.xe s₂) X.xe s₁) (fun u s' xx => ?_) PassesOwn.looking).run [] s σ H D (I.toTry _) h) (fun f s1 hsp => ?_) (fun e s1 he => he))
  · obtain ⟨a, B, sI, pins', σ', H', cls, d, rfl, J', nb, up, sky, na, os, ag, b, hb1, yes, no⟩ := xx
    have J : Inv X pins σ' H' sI := J'.ofTry ok
    have sky2 : Sky B (X.env :: X.outer) a (Zc cls d) X.env.locals s'.heap := by rw [← hs]; exact sky
    refine Sky.land Zc.steady hfr hf sky2 fun h3 fl3 up3 => ?_
    have J3 : Inv X pins σ' H' { s' with heap := h3 } := J.landed nb fl3.1 (up.trans up3) os ag
    obtain ⟨oe3, vs3, he3, hz3, hd3⟩ := fl3.there
    have out : a ∉ frs (X.env :: X.outer) := fun hm => by
      obtain ⟨_, o', e', hnf⟩ := fl3.2.2.1.mem hm
      rw [he3] at e'
      cases e'
      exact hnf _ hd3
    have both := out
    rw [frs_cons hf] at both
    have nL : a ≠ X.env.locals := fun z => both (by rw [z]; exact List.mem_cons_self)
    have nF : a ∉ X.fs := fun z => both (List.mem_cons_of_mem _ z)
    have nB : B.get? a = none := fl3.2.1
    have new : ∀ o, X.s_0.heap.get? a = some o → a ∈ X.ex := fun o e => by
      refine Classical.byContradiction fun z => ?_
      obtain ⟨o', e'⟩ := J.base.there a o e z
      have q := nb a o' e' (by rw [hs]; exact out)
      rw [nB] at q
      exact nomatch q
    have off : ∀ p ∈ X.pn ++ pins, p.1 ≠ a := fun p hp z => by
      obtain ⟨q1, _, q3, q4, _⟩ := J.pin p hp
      have q := nb p.1 p.2 q1 (by
        rw [hs, frs_cons hf]
        exact fun m => (List.mem_cons.mp m).elim q3 q4)
      rw [z, nB] at q
      exact nomatch q
    have S3 := J3.suite he3 hd3 na nL nF
    refine wpAny_handleBy_cons (codeAny_handlers_test ?_) (by intro q; cases q)
    have LT : PySem.W.Looks (model X.prog X.w) h3 (typeOf (.ref a)) cls := fun A Q E s k q => wpAny_typeOf_ref (k _ _ he3) (by rw [hz3.1]; exact q)
    have LM := PySem.W.exm_one (M := model X.prog X.w) J3.kIn LT hb1
    have seek : ∀ {Q : Value → Shared → Prop} {E : Value → Shared → Prop}, Q c { s' with heap := h3 } → wpAny (model X.prog X.w) (X.A.mark (some (.ref a))) (eval (.Name x np) X.env) Q E { s' with heap := h3 } := fun {Q E} q => by
      obtain ⟨hg, hdbg, hm | ⟨hm, hv, hnn⟩⟩ := hc
      · exact ld_glob (X := X.suite a ((a, oe3) :: (X.pn ++ pins))) S3 hg hm q hdbg
      · exact ld_blt (X := X.suite a ((a, oe3) :: (X.pn ++ pins))) S3 hg hm hv q hnn hdbg
    refine seek (LM.here ?_)
    cases b with
    | true =>
      obtain ⟨rfl, yes2⟩ := yes rfl
      refine codeAny_handlers_suite_as (HandSPX.lands_againZ fl3 fun h4 fl4 up4 => ?_)
      have J4 : Inv X pins σ' H' { s' with heap := h4 } := J.landed nb fl4.1 ((up.trans up3).trans up4) os ag
      obtain ⟨oe4, vs4, he4, hz4, hd4⟩ := fl4.there
      have S4 := J4.suite he4 hd4 na nL nF
      have il : i < σ'.length := by rw [J.len]; exact (List.getElem?_eq_some_iff.mp hi).1
      refine store_ok (X := X.suite a ((a, oe4) :: (X.pn ++ pins))) (v := .ref a) S4 hN hi (.inl hln) rfl (fun s5 S5 => ?_) (.inr hln)
      refine wpAny_mono ((suite_set (Y := X.suite a ((a, oe4) :: (X.pn ++ pins))) (p1 := p1) (p2 := p2) (p3 := p3) hN hi hj vn ly hfy hd hcd hsw).run [] s5 _ H' { nx := fun σ6 H6 => σ6 = (σ'.set i (some (.ref a))).set j (some (.ref a)) ∧ H6 = H', rt := fun _ _ => False, bk := fun _ _ => False, ct := fun _ _ => False } S5 ⟨.ref a, List.getElem?_set_self il, rfl, rfl⟩) (fun f s6 hsp => ?_) (fun _ _ z => False.elim z)
      cases f with
      | next =>
        obtain ⟨σ6, H6, S6, rfl, rfl⟩ := hsp
        have U : Inv X ((a, oe4) :: pins) ((σ'.set i (some (.ref a))).set j (some (.ref a))) H6 s6 := ⟨ok, S6.os, S6.bare, S6.base, S6.loc, S6.cell, S6.free, S6.freeC, fun p hp => S6.pin p (List.mem_append_left _ (by
          rcases List.mem_append.mp hp with z | z
          · exact List.mem_cons_of_mem _ (List.mem_append_left _ z)
          · rcases List.mem_cons.mp z with z | z
            · rw [z]; exact List.mem_cons_self
            · exact List.mem_cons_of_mem _ (List.mem_append_right _ z))), S6.hok, S6.len⟩
        refine gone_ok U hN hi hln fun s7 U7 => ⟨_, _, trackE U7 hz4 hd4 new off, ?_⟩
        have q : ((σ'.set i (some (.ref a))).set j (some (.ref a))).set i none = (σ'.set j (some (.ref a))).set i none := by
          rw [List.set_comm (some (V.ref a)) (some (V.ref a)) hij, List.set_set]
        rw [q]
        exact yes2 a na
      | brk =>
        obtain ⟨_, _, _, z⟩ := hsp
        exact z.elim
      | cont =>
        obtain ⟨_, _, _, z⟩ := hsp
        exact z.elim
      | ret u =>
        obtain ⟨_, _, _, _, _, z⟩ := hsp
        exact z.elim
    | false =>
      refine wpAny_handleBy_nil ?_
      obtain ⟨k1, k2, k3, oe, vs, T, oT, ts', he, hz, hd9, h1, hr⟩ := id fl3
      unfold PySem.passOn
      refine wpAny_bind (wpAny_field he hd9 h1 ?_)
      rw [if_neg (show ¬ ((Value.ref T == Value.none) = true) from by simp)]
      have fin : wpAny (model X.prog X.w) X.A (setFlight (.ref a) X.env.frame) (fun _ s4 => wpAny (model X.prog X.w) X.A (throw (.ref a) : Sem Flow) (SP X pins D) X.xe s4) X.xe { s' with heap := h3 } := by
        rw [hf]
        refine HandSPX.setFlight_upZ fl3 fun h4 hh4 up4 => wpAny_throw (tk _ _ ?_)
        exact ⟨a, B, sI, pins, σ', H', cls, d, rfl, J, nb, (up.trans up3).trans up4, .inr (.inr (by rw [hs]; exact hh4)), na, os, ag, no rfl⟩
      first
        | exact wpAny_bind (wpAny_pure (wpAny_bind fin))
        | exact wpAny_bind fin
  · cases f with
    | next => exact let ⟨σ', H', J', q⟩ := hsp; wpAny_execs_nil ⟨σ', H', J'.ofTry ok, q⟩
    | brk => exact let ⟨σ', H', J', q⟩ := hsp; ⟨σ', H', J'.ofTry ok, q⟩
    | cont => exact let ⟨σ', H', J', q⟩ := hsp; ⟨σ', H', J'.ofTry ok, q⟩
    | ret u => exact let ⟨v, σ', H', J', r, q⟩ := hsp; ⟨v, σ', H', J'.ofTry ok, r, q⟩
/-- below: is the class of the error below the clause's? -/
def sTry (i j : Nat) (below : String → Option Bool) (u : Sf) : Sf := fun δ => match u δ with
  | .err c δ' => match below c with
    | some true => .nx ((δ'.set j (.dat (excD c))).set i .un)
    | some false => .err c δ'
    | none => .no
  | o => o
theorem c_try {G : Gd} {B : Bs} {W : WX} {u : Sf} (hG : GX X G) (i j : Nat) (below : String → Option Bool) (hN : X.N.Nodup) (cl : String) (tk : Takes X W) (hc : Names X x (.ref (G.ec cl))) (hbel : ∀ c b, below c = some b → PySem.W.exmOne X.K (.ref (G.ec c)) (.ref (G.ec cl)) = some b)
    (hb : ∀ (W : WX) (pn : List (Addr × Obj)) (xe : Value → Shared → Prop), Takes (X.tr pn xe) W → PassesOwn (model X.prog X.w) X.A X.env xe → PSs (X.tr pn xe) body (tS G B W u))
    (hij : i ≠ j := by decide) (hs : X.stack = X.env :: X.outer := by rfl) (hf : X.env.frame = some X.env.locals := by rfl) (hi : X.N[i]? = some n := by rfl) (hj : X.N[j]? = some y := by rfl) (hln : X.env.kindOf n = some .local := by rfl) (vn : Vis X.env.scope n := by exact Or.inl rfl) (ly : Loc X.env.scope y := by exact Or.inl rfl)
    (hd : (n == ("__debug__" : Str)) = false := by decide) (hcd : (n == ("__classdict__" : Str)) = false := by decide) (hfy : X.fn y = true ∨ X.env.scope.names.lookup y = some .local := by first | exact .inl rfl | exact .inr rfl) (hsw : swapsWith (.Name n p2) (some (.Name y p1)) p3.line X.env = pure false := by rfl) :
    PS X (.Try body [.ExceptHandler (some (.Name x np)) (some n) [.Assign [.Name y p1] (.Name n p2) p3] pos'] [] [] pos) (tS G B W (sTry i j below u)) := by
  refine psImp (try_run (tb := fun W => tS G B W u) hs hf hN hi hj hij hln vn ly hc tk hd hcd hfy hsw hb) fun D σ H ⟨δ, F, R, k⟩ => ⟨δ, F, R, ?_⟩
  unfold sTry at k
  cases e : u δ with
  | nx δ' => rw [e] at k; exact k
  | bk δ' => rw [e] at k; exact k
  | ct δ' => rw [e] at k; exact k
  | ret d => rw [e] at k; exact k
  | no => rw [e] at k; exact k
  | err c δ' =>
    rw [e] at k
    dsimp only at k
    cases eb : below c with
    | none => rw [eb] at k; exact k.elim
    | some b =>
      rw [eb] at k
      intro σ' F' H' ef R'
      refine ⟨b, hbel c b eb, fun hb2 => ⟨rfl, fun a ha => ?_⟩, fun hb2 => ?_⟩
      · subst hb2
        have hF := R'.fh.back ha
        exact k _ (upd F' a (ExD (.ref (G.ec c)) a)) _ (ef.trans (Ex.new hF)) (((R'.ext (Ext.new _ R'.fh ha)).set j (.exc upd_same)).forget i none)
      · subst hb2
        exact k σ' F' H' ef R'
end
end LY

set_option maxHeartbeats 4000000
namespace LY
open PySem PySem.Spec PyProof.Rows L2

/-! ### xs[::k] -/
def pickIx {α : Type} (js : List Nat) (xs : List α) : List α := js.filterMap fun j => xs[j]?
def stepIx (k : Int) (n : Nat) : List Nat := sliceRange (sliceBounds none none (some k) n).1 (sliceBounds none none (some k) n).2.1 (sliceBounds none none (some k) n).2.2
def gStep (k : Int) : PyData → Option PyData
  | .list ds => if (pickIx (stepIx k ds.length) ds).length ≤ 100000 then some (.list (pickIx (stepIx k ds.length) ds)) else none
  | _ => none
def xStep (k : Int) (f : Ef) : Ef := fun δ => (f δ).bind fun d => Rs.of (gStep k d)
section
variable {G : Gd} {H : Hp}
theorem pick_dr {vs : List V} {ds : List PyData} (t : DrAll G H vs ds) : ∀ js : List Nat, DrAll G H (pickIx js vs) (pickIx js ds)
  | [] => .nil
  | j :: js => by
    have ih := pick_dr t js
    unfold pickIx at ih ⊢
    cases e : vs[j]? with
    | none =>
      have e2 : ds[j]? = none := by
        rw [List.getElem?_eq_none_iff] at e ⊢
        rw [← t.length]; exact e
      rw [List.filterMap_cons_none e, List.filterMap_cons_none e2]
      exact ih
    | some v =>
      obtain ⟨d, h1, h2⟩ := t.getV e
      rw [List.filterMap_cons_some e, List.filterMap_cons_some h1]
      exact .cons h2 ih
theorem vals_get : ∀ {vs : List V} {us : List Value}, Vals vs us → ∀ j : Nat, (vs[j]? = none ∧ us[j]? = none) ∨ ∃ v u, vs[j]? = some v ∧ us[j]? = some u ∧ RelV v u
  | _, _, .nil, j => .inl ⟨rfl, rfl⟩
  | _, _, .cons r t, 0 => .inr ⟨_, _, rfl, rfl, r⟩
  | _, _, .cons r t, j + 1 => by
    rw [List.getElem?_cons_succ, List.getElem?_cons_succ]
    exact vals_get t j
theorem pick_vals {vs : List V} {us : List Value} (t : Vals vs us) : ∀ js : List Nat, Vals (pickIx js vs) (pickIx js us)
  | [] => .nil
  | j :: js => by
    have ih := pick_vals t js
    unfold pickIx at ih ⊢
    rcases vals_get t j with ⟨e1, e2⟩ | ⟨v, u, e1, e2, r⟩
    · rw [List.filterMap_cons_none e1, List.filterMap_cons_none e2]
      exact ih
    · rw [List.filterMap_cons_some e1, List.filterMap_cons_some e2]
      exact .cons r ih
end
section
variable {X : Cx} {G : Gd} {B : Bs} {W : WX} {e : Expr} {f : Ef} {p1 p2 p3 pos : Pos}
theorem po_three {k : Int} {j} : PO X (some (.Constant (.int k) j p1)) (fun _ H Q => Q (some k) H) := poImp (po_some pe_int) fun σ H Q h => ⟨k, rfl, h⟩
theorem po_minus {k : Int} {j} : PO X (some (.UnaryOp .USub (.Constant (.int k) j p1) p2)) (fun _ H Q => Q (some (-k)) H) := poImp (po_some (pe_un un_neg pe_int)) fun σ H Q h => ⟨k, rfl, -k, rfl, h⟩
theorem c_step {k : Int} {st : Expr} (hk : k ≠ 0) (hst : PO X (some st) (fun _ H Q => Q (some k) H)) (he : PE X e (tR G B W f)) (hsub : ∀ a b, subscripted (.Slice none none (some st) p3) false (.ref a) (.ref b) = operate [.ref a, .ref b] (getItem (.ref a) (.ref b)) := by intro a b; with_unfolding_all rfl) :
    PE X (.Subscript e (.Slice none none (some st) p3) pos) (tR G B W (xStep k f)) := by
  refine ⟨fun pins s σ H Q I ⟨δ, F, R, kk⟩ => ?_⟩
  unfold xStep at kk
  refine Subscript_ (thn (he.run pins s σ H (fun x H1 => ∃ F1 d, Ex F1 H1 ∧ Dr G F1 x d ∧ kD G F1 H1 Q (gStep k d)) I (bindE R kk fun d v F1 H1 x1 R1 r1 k1 => ⟨F1, d, x1.fh, r1, k1.kD⟩)) fun v s1 ⟨x, H1, I1, r1, F1, d, e1, d1, k1⟩ => ?_)
  refine wpAny_Slice (thn (po_none.run pins s1 σ H1 (fun o H2 => o = none ∧ H2 = H1) I1 ⟨rfl, rfl⟩) fun vl s2 ⟨l, H2, I2, pl, el, e2⟩ => ?_)
  cases el
  cases e2
  refine thn (po_none.run pins s2 σ H1 (fun o H3 => o = none ∧ H3 = H1) I2 ⟨rfl, rfl⟩) fun vu s3 ⟨u, H3, I3, pu, eu, e3⟩ => ?_
  cases eu
  cases e3
  refine thn (hst.run pins s3 σ H1 (fun o H4 => o = some k ∧ H4 = H1) I3 ⟨rfl, rfl⟩) fun vs s4 ⟨o, H4, I4, ps, eo, e4⟩ => ?_
  cases eo
  cases e4
  have I5 : Inv X pins σ H1 { s4 with heap := s4.heap.push { cls := .type "slice", data := .fields #[vl, vu, vs] } } := I4.kept (t' := s4.toks) fun b ob q => Heap.get?_push_of_some _ q
  cases d1 with
  | @lst a xs ds h1 t1 =>
    unfold gStep at k1
    dsimp only at k1
    split at k1
    · next hl =>
      cases r1
      obtain ⟨its, r, ht, hz⟩ := I5.list (SqL.of (e1 _ _ h1))
      have hlen := r.length
      refine tail_any (ops := [.ref a, .ref s4.heap.objs.size]) ht.isList.typeIs (PySem.slot_list_getitem.lookup) ?_ (hsub _ _)
      refine wpAny_getItem_list_slice ht.isList (Heap.IsSliceOf.new _ vl vu vs) pl pu ps (fun z => hk (Option.some.inj z)) ?_ (by rw [List.size_toArray]; omega)
      have pick : slicePick its.toArray none none (some k) = (pickIx (stepIx k ds.length) its).toArray := by
        unfold slicePick pickIx stepIx
        rw [List.size_toArray, ← hlen, t1.length]
        simp
      rw [pick]
      have hn := I5.hok.fresh (Nat.le_refl _)
      refine ⟨.ref _, _, I5.laid (t' := s4.toks) (o := .lst (pickIx (stepIx k ds.length) xs)) (fun b ob q => Heap.get?_push_of_some _ q) (Nat.le_refl _) ?_, rfl, ?_⟩
      · exact ⟨by rw [(pick_dr t1 _).length]; exact bigOf hl, _, 0, pick_vals r _, Heap.get?_push_size _ rfl⟩
      · exact kD.new e1 hn (.lst upd_same ((pick_dr t1 _).mono (Ex.new (e1.back hn)))) k1
    · exact False.elim k1
  | _ => exact False.elim k1
end

/-! ### xs.count(x), xs.index(x) -/
def okL (ds : List PyData) (d : PyData) : Bool := PyData.canLayAll0 ds && d.canLay0 && decide (d.depth ≤ 20) && decide (ds.length ≤ 100000)
def gCount (l d : PyData) : Option PyData := match l with
  | .list ds => if okL ds d = true then some (.int (ds.countP fun z => PyData.eqv z d)) else none
  | _ => none
def gIndex (l d : PyData) : Option PyData := match l with
  | .list ds => if okL ds d = true then (ds.findIdx? fun z => PyData.eqv z d).map fun j => .int j else none
  | _ => none
def xMeth (g : PyData → PyData → Option PyData) (f fa : Ef) : Ef := fun δ => (f δ).bind fun l => match l with
  | .list ds => (fa δ).bind fun d => Rs.of (g (.list ds) d)
  | _ => .no
section
variable {X : Cx} {G : Gd} {B : Bs} {W : WX} {o a : Expr} {f fa : Ef} {p1 p2 p3 : Pos}
theorem okL_parts {ds : List PyData} {d : PyData} (h : okL ds d = true) : PyData.canLayAll0 ds = true ∧ d.canLay0 = true ∧ d.depth ≤ 20 ∧ ds.length ≤ 100000 := by
  unfold okL at h
  simp only [Bool.and_eq_true, decide_eq_true_eq] at h
  exact ⟨h.1.1.1, h.1.1.2, h.1.2, h.2⟩
mutual
theorem lay_plain : ∀ d : PyData, d.canLay0 = true → d.plain = true
  | .none, _ => rfl
  | .bool _, _ => rfl
  | .int _, _ => rfl
  | .str _, _ => rfl
  | .list ds, h => by rw [PyData.plain]; exact lays_plain ds (by simpa [PyData.canLay0] using h)
  | .tuple ds, h => by rw [PyData.plain]; exact lays_plain ds (by simpa [PyData.canLay0] using h)
  | .dict _, h => by simp [PyData.canLay0] at h
theorem lays_plain : ∀ ds : List PyData, PyData.canLayAll0 ds = true → PyData.plainAll ds = true
  | [], _ => rfl
  | d :: ds, h => by
    rw [PyData.canLayAll0, Bool.and_eq_true] at h
    rw [PyData.plainAll, lay_plain d h.1, lays_plain ds h.2]; rfl
end
def rMeth (G : Gd) (g : PyData → PyData → Option PyData) : V → List V → Hp → VK → Prop := fun x xs H Q => ∃ (F : Hp) (y : V) (l d : PyData), xs = [y] ∧ Ex F H ∧ Dr G F x l ∧ Dr G F y d ∧ kD G F H Q (g l d)
theorem mt_of (hG : GX X G) (hr : Rm X) (count : Bool) : MtR X (if count then "list.count" else "list.index") (rMeth G (if count then gCount else gIndex)) := by
  intro pins s σ H x xs v us Q I rx rxs h
  obtain ⟨F, y, l, d, rfl, e, dl, dd, k⟩ := h
  obtain ⟨uy, rfl, ry⟩ := rxs.one
  have hu := hr.u
  cases dl with
  | @lst p zs ds h1 t1 =>
    cases rx
    have ok : okL ds d = true := by
      cases count with
      | true => unfold gCount at k; simp only [if_pos] at k; split at k; · assumption
                · exact False.elim k
      | false => unfold gIndex at k; simp only [if_neg Bool.false_ne_true] at k; split at k; · assumption
                 · exact False.elim k
    obtain ⟨c1, c2, c3, c4⟩ := okL_parts ok
    obtain ⟨its, rv, ⟨⟨cls, od, data, sls⟩, n, ho, hc, hdn, hdt⟩, hlen⟩ := I.list (SqL.of (e _ _ h1))
    simp only at hc hdt
    subst hc hdt
    obtain ⟨as, ra⟩ := readsAllD hG I e t1 (lays_plain ds c1) rv
    obtain ⟨bs, rb⟩ := readsD hG I e dd (lay_plain d c2) ry
    have hn : its.length = ds.length := SeqAt.ReadsAll.length ds its as ra
    have hmap : its.map (SeqAt.readOf s.heap) = ds := SeqAt.readsAll_map ds its as c1 ra
    have eqs := SeqAt.items_eqAt (A := X.A) (vs := its.toArray) (show ReadsAll s.heap its.toArray.toList ds as from ra) rb c1 c2 (by show X.A.units + 1 + _ < cLine; omega)
    have sl := sizeLine_eq
    cases count with
    | true =>
      have k : kD G F H Q (if okL ds d = true then some (.int (ds.countP fun z => PyData.eqv z d)) else none) := k
      rw [if_pos ok] at k
      refine call_meets PySem.F.slot_list_count ⟨_, ho, rfl⟩ PySem.F.entry_list_count (PySem.F.args_list_count_2 _ _) (SeqAt.list_countAt p its.toArray n od sls uy fun u => PyData.eqv (SeqAt.readOf s.heap u) d) ⟨ho, eqs, ?_⟩
      refine ⟨.int _, H, I.tok _, ⟨_, rfl⟩, ?_⟩
      have ec : its.toArray.toList.countP (fun u => PyData.eqv (SeqAt.readOf s.heap u) d) = ds.countP fun z => PyData.eqv z d := by
        rw [← hmap, List.countP_map]
        rfl
      rw [ec]
      exact k.val e (.int _)
    | false =>
      have k : kD G F H Q (if okL ds d = true then (ds.findIdx? fun z => PyData.eqv z d).map fun j => .int j else none) := k
      rw [if_pos ok] at k
      cases hf : ds.findIdx? fun z => PyData.eqv z d with
      | none => rw [hf] at k; exact False.elim k
      | some j =>
        rw [hf] at k
        obtain ⟨jl, j1, j2⟩ := List.findIdx?_eq_some_iff_getElem.mp hf
        have at_ : ∀ (m : Nat) (hm : m < its.toArray.size), SeqAt.readOf s.heap its.toArray[m] = ds[m]'(by rw [List.size_toArray] at hm; omega) := fun m hm => by
          have hm2 : m < its.length := by simpa using hm
          have q : (its.map (SeqAt.readOf s.heap))[m]? = ds[m]? := by rw [hmap]
          rw [List.getElem?_map, List.getElem?_eq_getElem hm2, List.getElem?_eq_getElem (by omega)] at q
          simpa using q
        have hj : j < its.toArray.size := by rw [List.size_toArray]; omega
        refine call_meets PySem.F.slot_list_index ⟨_, ho, rfl⟩ PySem.F.entry_list_index (PySem.F.args_list_index_2 _ _) (SeqAt.list_indexAt p its.toArray n od sls uy (fun u => PyData.eqv (SeqAt.readOf s.heap u) d) j hj (by omega) ?_ ?_) ⟨ho, eqs, ?_⟩
        · show PyData.eqv (SeqAt.readOf s.heap its.toArray[j]) d = true
          rw [at_ j hj]; exact j1
        · intro m hm hmj
          show PyData.eqv (SeqAt.readOf s.heap its.toArray[m]) d = false
          rw [at_ m hm]
          exact Bool.eq_false_iff.mpr (j2 m hmj)
        · exact ⟨.int (j : Nat), H, I.tok _, ⟨_, rfl⟩, k.val e (.int _)⟩
  | _ => cases count <;> exact False.elim k
theorem meth_imp {g : PyData → PyData → Option PyData} (hG : GX X G) {σ : L2.St} {H : Hp} {Q : VK} (h : tR G B W (xMeth g f fa) σ H Q) : tBM X.K "list" (rMeth G g) (tR G B W f) (fun σ H Q => tR G B W fa σ H fun x H1 => Q [x] H1) σ H Q := by
  obtain ⟨δ, F, R, k⟩ := h
  unfold xMeth at k
  refine bindE R k fun l v F1 H1 x1 R1 r1 k1 => ?_
  cases r1 with
  | lst h1 t1 =>
    refine ⟨.inl ⟨rfl, _, SqL.of (x1.fh _ _ h1)⟩, bindE R1 k1 fun d u F2 H2 x2 R2 r2 k2 => ?_⟩
    exact ⟨F2, u, _, d, rfl, x2.fh, (Dr.lst h1 t1).mono x2.ff, r2, k2.kD⟩
  | _ => exact False.elim k1
theorem c_count (hG : GX X G) (hr : Rm X) (ho : PE X o (tR G B W f)) (ha : PE X a (tR G B W fa)) (hbase : attributeBase o "count" X.env (eval o X.env) = eval o X.env := by rfl)
    (hfew : ((backTo p3 (starEach (a :: []) X.env)).all (fun x => !x.1) && (backToKw p3 (keywordEach [] X.env)).all (fun x => x.1.isSome)
      && decide ((a :: []).length + ([] : List Keyword).length + (if ([] : List Keyword).isEmpty then 0 else 1) < 30)) = true := by rfl)
    (hline : (p2.endLine == p3.line) = true := by rfl) (hs : starEach (a :: []) X.env = (false, eval a X.env) :: starEach [] X.env := by rfl) :
    PE X (.Call (.Attribute o "count" p2) [a] [] p3) (tR G B W (xMeth gCount f fa)) :=
  peImp (pe_bm PySem.F.plainAttrs_list PySem.F.slot_list_count (PySem.F.type_list_count) (mt_of hG hr true) ho (pa_cons ha pa_nil hs) hbase hfew hline hs rfl) fun σ H Q h => meth_imp hG h
theorem c_index (hG : GX X G) (hr : Rm X) (ho : PE X o (tR G B W f)) (ha : PE X a (tR G B W fa)) (hbase : attributeBase o "index" X.env (eval o X.env) = eval o X.env := by rfl)
    (hfew : ((backTo p3 (starEach (a :: []) X.env)).all (fun x => !x.1) && (backToKw p3 (keywordEach [] X.env)).all (fun x => x.1.isSome)
      && decide ((a :: []).length + ([] : List Keyword).length + (if ([] : List Keyword).isEmpty then 0 else 1) < 30)) = true := by rfl)
    (hline : (p2.endLine == p3.line) = true := by rfl) (hs : starEach (a :: []) X.env = (false, eval a X.env) :: starEach [] X.env := by rfl) :
    PE X (.Call (.Attribute o "index" p2) [a] [] p3) (tR G B W (xMeth gIndex f fa)) :=
  peImp (pe_bm PySem.F.plainAttrs_list PySem.F.slot_list_index (PySem.F.type_list_index) (mt_of hG hr false) ho (pa_cons ha pa_nil hs) hbase hfew hline hs rfl) fun σ H Q h => meth_imp hG h
end

/-! ### isinstance -/
/-- classes of errors by their names -/
def excTbl (tbl : List (String × Bool)) : PyData → Option Bool
  | .dict [(.dict [], .str x)] => (tbl.find? fun p => decide (Str.ofString p.1 = x)).map (·.2)
  | _ => none
def tyName : PyData → Option String
  | .none => some "NoneType"
  | .bool _ => some "bool"
  | .int _ => some "int"
  | .str _ => some "str"
  | .list _ => some "list"
  | .tuple _ => some "tuple"
  | .dict _ => none
def tyTest (T : String) (d : PyData) : Option Bool := (tyName d).bind fun t => kitB t T
def xIsi (t : PyData → Option Bool) (f : Ef) : Ef := fun δ => (f δ).bind fun d => Rs.of ((t d).map .bool)
theorem ofString_inj {a b : String} (h : Str.ofString a = Str.ofString b) : a = b := by
  rw [Str.ofString_eq_toList, Str.ofString_eq_toList] at h
  have h1 : a.toList.map Char.toNat = b.toList.map Char.toNat := by
    have := congrArg (fun x : Str => x.cps.toList) h
    simpa using this
  have h2 : a.toList = b.toList := (List.map_inj_right fun x y e => Char.toNat_inj.mp e).mp h1
  exact String.toList_inj.mp h2
/-- what the test t of data says is what isinstance asks the classes -/
structure IsTest (K : PySem.W.Frag) (ec : String → Addr) (cv : Value) (t : PyData → Option Bool) : Prop where
  exc : ∀ c b, t (excD c) = some b → ExcC K (ec c) ∧ PySem.W.kitOne K (.ref (ec c)) cv = some b
  ty : ∀ d b, t d = some b → (∀ c, d ≠ excD c) → ∃ T, tyName d = some T ∧ PySem.W.kitOne K (.type T) cv = some b
theorem isT_ty {K : PySem.W.Frag} {ec : String → Addr} (T : String) : IsTest K ec (.type T) (tyTest T) where
  exc := fun c b h => by cases h
  ty := fun d b h _ => by
    unfold tyTest at h
    cases e : tyName d with
    | none => rw [e] at h; cases h
    | some t => rw [e] at h; exact ⟨t, rfl, kit_ty h⟩
theorem isT_exc {K : PySem.W.Frag} {ec : String → Addr} {cv : Value} (tbl : List (String × Bool)) (h : ∀ p ∈ tbl, ExcC K (ec p.1) ∧ PySem.W.kitOne K (.ref (ec p.1)) cv = some p.2) : IsTest K ec cv (excTbl tbl) where
  exc := fun c b hb => by
    have hb' : (tbl.find? fun p => decide (Str.ofString p.1 = Str.ofString c)).map (·.2) = some b := hb
    cases e : tbl.find? fun p => decide (Str.ofString p.1 = Str.ofString c) with
    | none => rw [e] at hb'; cases hb'
    | some p =>
      rw [e] at hb'
      cases hb'
      have q := ofString_inj (of_decide_eq_true (p := Str.ofString p.1 = Str.ofString c) (by simpa using List.find?_some e))
      rw [← q]
      exact h p (List.mem_of_find?_eq_some e)
  ty := fun d b hb ne => by
    exfalso
    unfold excTbl at hb
    split at hb
    · next x =>
      cases e : tbl.find? fun p => decide (Str.ofString p.1 = x) with
      | none => rw [e] at hb; cases hb
      | some p =>
        have q : Str.ofString p.1 = x := of_decide_eq_true (by simpa using List.find?_some e)
        exact ne p.1 (by unfold excD; rw [q])
    · cases hb
section
variable {X : Cx} {G : Gd} {B : Bs} {W : WX} {a : Expr} {f : Ef} {p p2 pos : Pos} {t : PyData → Option Bool} {cv : Value} {x : Str}
def rIsX (G : Gd) (cv : Value) (t : PyData → Option Bool) : List V → Hp → VK → Prop := fun xs H Q => ∃ (F : Hp) (v c : V) (d : PyData) (b : Bool), xs = [v, c] ∧ ClsV c cv ∧ Ex F H ∧ Dr G F v d ∧ t d = some b ∧ kD G F H Q (some (.bool b))
theorem cr_isx (hG : GX X G) (T : IsTest X.K G.ec cv t) : CallR X (.builtin "isinstance") (rIsX G cv t) := by
  intro pins s σ H xs us Q I r h
  obtain ⟨F, v, c, d, b, rfl, hc, e, dr, hb, k⟩ := h
  obtain ⟨u1, u2, rfl, r1, r2⟩ := vals2 r
  cases hc.eq r2
  have q := k.val e (.bl b)
  by_cases ex : ∃ cn, d = excD cn
  · obtain ⟨cn, rfl⟩ := ex
    obtain ⟨C, kb⟩ := T.exc cn b hb
    generalize hd : excD cn = dd at dr
    cases dr with
    | @exc a c2 g1 =>
      have hcn : Str.ofString cn = Str.ofString c2 := by injection hd with hd; injection hd with hd _; injection hd with _ hd; injection hd
      cases ofString_inj hcn
      cases r1
      obtain ⟨⟨oe, vs, he, hz, hv⟩, _⟩ := I.hok _ _ (e _ _ g1)
      have J : PySem.W.InstAt s.heap a oe (G.ec cn) none := by
        obtain ⟨oc, od, oda, osl⟩ := oe
        obtain ⟨h1, h2⟩ := hz
        dsimp only at h1 h2 hv
        subst h1 h2 hv
        exact ⟨he, rfl, rfl, trivial⟩
      exact PySem.W.kia_one (PySem.W.handS_kitx_exc C.hg C.hk C.hs C.hd C.ha C.hn C.ht C.hm) I.kIn J kb (fun z => nomatch z) fun tk => ⟨.bl b, H, I.tok tk, rfl, q⟩
    | scr g1 => injection hd with hd; injection hd with hd _; injection hd with _ hd; injection hd
    | @dct a xs ds g1 g2 =>
      cases hd
      cases g2 with
      | cons z1 z2 z3 z4 z5 => simp [keyOf] at z2
    | _ => exact nomatch hd
  · obtain ⟨Tn, tn, kb⟩ := T.ty d b hb fun c z => ex ⟨c, z⟩
    have ty : TyX X.K H v (.type Tn) := by
      cases dr with
      | non => cases tn; exact .base .non
      | bl y => cases tn; exact .base (.bl y)
      | int y => cases tn; exact .base (.int y)
      | str y => cases tn; exact .base (.str y)
      | lst g1 g2 => cases tn; exact .base (.lst (e _ _ g1))
      | tup g1 g2 => cases tn; exact .base (.tup (e _ _ g1))
      | dct g1 g2 => cases tn
      | exc g1 => cases tn
      | scr g1 => cases tn
    exact call_isi pins s σ H [v, c] [u1, cv] Q I r ⟨v, c, _, _, b, rfl, hc, ty, kb, q⟩
/-- isinstance(a, x): x a class of the module, or a built-in one -/
theorem c_isi (hG : GX X G) (T : IsTest X.K G.ec cv t) (hm : X.mg "isinstance" = none) (ha : PE X a (tR G B W f)) {c : V} (hc : ClsV c cv) (hx : PE X (.Name x p2) (tC c)) (hg : Gl X "isinstance" := by rfl)
    (he : starEach [a, .Name x p2] X.env = (false, eval a X.env) :: starEach [.Name x p2] X.env := by rfl) (he2 : starEach [.Name x p2] X.env = (false, eval (.Name x p2) X.env) :: starEach [] X.env := by rfl)
    (hpl : (backTo pos (starEach [.Name x p2] X.env)).any (·.1) = false := by rfl) : PE X (.Call (.Name "isinstance" p) [a, .Name x p2] [] pos) (tR G B W (xIsi t f)) := by
  refine peImp (pe_callB (cr_isx hG T) hg hm (by decide +kernel) (pa_cons ha (pa_cons hx pa_nil he2) he) (by decide) (by decide) he hpl) fun σ H Q ⟨δ, F, R, k⟩ => ?_
  unfold xIsi at k
  refine bindE R k fun d v F1 H1 x1 R1 r1 k1 => ?_
  cases e : t d with
  | none => rw [e] at k1; exact k1.elim
  | some b =>
    rw [e] at k1
    exact ⟨F1, v, c, d, b, rfl, hc, x1.fh, r1, e, k1.kD⟩
end

/-! ### truth and length of a list of one's own -/
section
variable {X : Cx} {G : Gd} {B : Bs} {W : WX}
theorem c_tdat (i : Nat) : (fun δ : En => yT (xVar i) δ) = yT (xVar i) := rfl
end
end LY

set_option maxHeartbeats 4000000
namespace LY
open PySem PySem.Spec PyProof.Rows L2
/-- a def of the module keeps to g -/
def DefOk (P : Program) (w : World) (K : PySem.W.Frag) (mg : Str → Option Value) (base : Heap) (ec : String → Addr) (k : Nat) (x : Str) (ps : List Str) (g : List PyData → Rs PyData) : Prop :=
  ∃ f fd, mg x = some (.ref f) ∧ PySem.W.keepIn K (.ref f) = true ∧ Binds K fd ps [] ∧ FnOk P w K mg base (L2.CX P w) k f fd ps (spD ⟨P, w, K, ec⟩ ps.length g)
end LY
namespace LY
open PySem PySem.Spec PyProof.Rows L2
theorem kit_cls {K : PySem.W.Frag} {C D : Addr} {b : Bool} (h1 : PySem.W.hasDictIn K C = true) (h2 : PySem.W.typeIn K (.ref C) = some (.type "type")) (h3 : PySem.W.subIn K (.ref D) (.ref C) = some b) (h4 : D = C → b = true) : PySem.W.kitOne K (.ref D) (.ref C) = some b := by
  obtain ⟨cd, hc, _⟩ := PySem.W.any_some h1
  unfold PySem.W.kitOne
  by_cases e : D = C
  · subst e
    rw [if_pos (beq_self_eq_true _), h4 rfl]
  · rw [if_neg (fun z => e (by injection (beq_iff_eq.mp z)))]
    unfold PySem.W.kitCls
    dsimp only
    rw [hc, h2, h3]
    rfl
theorem kit_type {K : PySem.W.Frag} {D : Addr} {T : String} {b : Bool} (h1 : PySem.W.kitMeta T = true) (h3 : PySem.W.subIn K (.ref D) (.type T) = some b) : PySem.W.kitOne K (.ref D) (.type T) = some b := by
  unfold PySem.W.kitOne
  have ne : ¬ ((Value.ref D == Value.type T) = true) := fun z => by
    have q : Value.ref D = Value.type T := beq_iff_eq.mp z
    exact nomatch q
  rw [if_neg ne]
  unfold PySem.W.kitCls
  dsimp only
  rw [if_pos h1, h3]
end LY

set_option maxHeartbeats 4000000
namespace LY
open PySem PySem.Spec PyProof.Rows L2

/-! ### native things as data -/
structure Cod {α : Type} [DecidableEq α] (e : α → PyData) (n : Nat) : Prop where
  eq : ∀ a b, PyData.eqv (e a) (e b) = decide (a = b)
  pl : ∀ a, (e a).plain = true
  dp : ∀ a, (e a).depth ≤ n
section
variable {α β : Type} [DecidableEq α] [DecidableEq β] {e : α → PyData} {f : β → PyData} {n m : Nat}
theorem cod_int : Cod PyData.int 0 := ⟨fun a b => by rw [PyData.eqv]; exact Bool.eq_iff_iff.mpr (by simp), fun _ => rfl, fun _ => Nat.le_refl _⟩
theorem cod_bool : Cod PyData.bool 0 := ⟨fun a b => by rw [PyData.eqv]; exact Bool.eq_iff_iff.mpr (by simp), fun _ => rfl, fun _ => Nat.le_refl _⟩
theorem Cod.inj (c : Cod e n) {a b : α} (h : e a = e b) : a = b := by
  have q := c.eq a b
  rw [h, c.eq b b, decide_eq_true rfl] at q
  exact of_decide_eq_true q.symm
theorem eqvAll_map (c : Cod e n) : ∀ xs ys : List α, PyData.eqvAll (xs.map e) (ys.map e) = decide (xs = ys)
  | [], [] => by simp [PyData.eqvAll]
  | [], _ :: _ => by simp [PyData.eqvAll]
  | _ :: _, [] => by simp [PyData.eqvAll]
  | x :: xs, y :: ys => by
    rw [List.map_cons, List.map_cons, PyData.eqvAll, c.eq, eqvAll_map c xs ys]
    by_cases h : x = y <;> by_cases k : xs = ys <;> simp [h, k]
theorem plainAll_map (c : Cod e n) : ∀ xs : List α, PyData.plainAll (xs.map e) = true
  | [] => rfl
  | x :: xs => by rw [List.map_cons, PyData.plainAll, c.pl, plainAll_map c xs]; rfl
theorem depthAll_map (c : Cod e n) : ∀ xs : List α, PyData.depthAll (xs.map e) ≤ n
  | [] => by rw [List.map_nil, PyData.depthAll]; exact Nat.zero_le _
  | x :: xs => by
    rw [List.map_cons, PyData.depthAll]
    exact Nat.max_le.mpr ⟨c.dp x, depthAll_map c xs⟩
theorem Cod.tup (c : Cod e n) : Cod (fun xs : List α => PyData.tuple (xs.map e)) (n + 1) where
  eq := fun a b => by rw [PyData.eqv, eqvAll_map c]
  pl := fun a => by rw [PyData.plain, plainAll_map c]
  dp := fun a => by rw [PyData.depth]; have := depthAll_map c a; omega
theorem Cod.lst (c : Cod e n) : Cod (fun xs : List α => PyData.list (xs.map e)) (n + 1) where
  eq := fun a b => by rw [PyData.eqv, eqvAll_map c]
  pl := fun a => by rw [PyData.plain, plainAll_map c]
  dp := fun a => by rw [PyData.depth]; have := depthAll_map c a; omega
theorem Cod.pair (c : Cod e n) (d : Cod f m) : Cod (fun p : α × β => PyData.tuple [e p.1, f p.2]) (max n m + 1) where
  eq := fun a b => by
    obtain ⟨a1, a2⟩ := a
    obtain ⟨b1, b2⟩ := b
    simp only [PyData.eqv, PyData.eqvAll, c.eq, d.eq]
    by_cases h : a1 = b1 <;> by_cases k : a2 = b2 <;> simp [h, k]
  pl := fun a => by simp [PyData.plain, PyData.plainAll, c.pl, d.pl]
  dp := fun a => by
    have h1 := c.dp a.1
    have h2 := d.dp a.2
    simp only [PyData.depth, PyData.depthAll]
    omega
theorem Cod.ok (c : Cod e n) (h : n ≤ 20) (a : α) : okD (e a) = true := by
  unfold okD
  rw [c.pl, Bool.true_and]
  exact decide_eq_true (Nat.le_trans (c.dp a) h)
theorem Cod.gEq (c : Cod e n) (h : n ≤ 20) (a b : α) : gEq (e a) (e b) = some (.bool (decide (a = b))) := by
  unfold LY.gEq
  rw [c.ok h, c.ok h, c.eq]; rfl
theorem Cod.gNe (c : Cod e n) (h : n ≤ 20) (a b : α) : gNe (e a) (e b) = some (.bool (decide (a ≠ b))) := by
  unfold LY.gNe
  rw [c.ok h, c.ok h, c.eq, decide_not]; rfl
theorem any_mem (c : Cod e n) (a : α) (xs : List α) : ((xs.map e).any fun z => PyData.eqv z (e a)) = decide (a ∈ xs) := by
  induction xs with
  | nil => simp
  | cons x r ih =>
    rw [List.map_cons, List.any_cons, ih, c.eq]
    by_cases h : x = a
    · simp [h]
    · have h2 : ¬ a = x := fun z => h z.symm
      simp [h, h2]
theorem Cod.gInL (c : Cod e n) (h : n ≤ 19) (a : α) (xs : List α) : gInB (e a) (.list (xs.map e)) = some (decide (a ∈ xs)) := by
  unfold LY.gInB
  dsimp only
  rw [c.ok (by omega), c.lst.ok (by omega), any_mem c]; rfl
theorem Cod.gInT (c : Cod e n) (h : n ≤ 19) (a : α) (xs : List α) : gInB (e a) (.tuple (xs.map e)) = some (decide (a ∈ xs)) := by
  unfold LY.gInB
  dsimp only
  rw [c.ok (by omega), c.tup.ok (by omega), any_mem c]; rfl
end
def eS (xs : List Int) : PyData := .tuple (xs.map .int)
def eSs (xs : List (List Int)) : PyData := .list (xs.map eS)
def eW (w : Int × List Int) : PyData := .tuple [.int w.1, eS w.2]
def eWs (ws : List (Int × List Int)) : PyData := .list (ws.map eW)
def eR (r : Int × List (Int × List Int)) : PyData := .tuple [.int r.1, eWs r.2]
theorem cod_S : Cod eS 1 := cod_int.tup
theorem cod_Ss : Cod eSs 2 := cod_S.lst
theorem cod_W : Cod eW 2 := cod_int.pair cod_S
theorem cod_Ws : Cod eWs 3 := cod_W.lst
theorem cod_R : Cod eR 4 := cod_int.pair cod_Ws

/-! ### loops -/
theorem forL_inv {α β : Type} (e : α → PyData) {g : Gf} {b : Sf} (I : β → En → Prop) (f : β → α → β) : ∀ (xs : List α) (s : β) (δ : En),
    (∀ a ∈ xs, ∀ s δ, I s δ → ∃ δ1 δ2, g (e a) δ = some δ1 ∧ (b δ1 = .nx δ2 ∨ b δ1 = .ct δ2) ∧ I (f s a) δ2) → I s δ → ∃ δ2, forL g b (xs.map e) δ = .nx δ2 ∧ I (xs.foldl f s) δ2
  | [], s, δ, _, i => ⟨δ, rfl, i⟩
  | a :: r, s, δ, h, i => by
    obtain ⟨δ1, δ2, h1, h2, h3⟩ := h a List.mem_cons_self s δ i
    obtain ⟨δ3, h4, h5⟩ := forL_inv e I f r (f s a) δ2 (fun a ha => h a (List.mem_cons_of_mem _ ha)) h3
    refine ⟨δ3, ?_, h5⟩
    rw [List.map_cons, forL, h1]
    dsimp only
    rcases h2 with h2 | h2 <;> (rw [h2]; exact h4)
/-- with the place told -/
theorem forL_ix {α : Type} (e : α → PyData) {g : Gf} {b : Sf} (xs : List α) (I : Nat → En → Prop) (h : ∀ i a, xs[i]? = some a → ∀ δ, I i δ → ∃ δ1 δ2, g (e a) δ = some δ1 ∧ (b δ1 = .nx δ2 ∨ b δ1 = .ct δ2) ∧ I (i + 1) δ2) {δ : En} (i0 : I 0 δ) : ∃ δ2, forL g b (xs.map e) δ = .nx δ2 ∧ I xs.length δ2 := by
  have go : ∀ (k i : Nat) (δ : En), i + k = xs.length → I i δ → ∃ δ2, forL g b ((xs.drop i).map e) δ = .nx δ2 ∧ I xs.length δ2 := by
    intro k
    induction k with
    | zero =>
      intro i δ hk hi
      rw [List.drop_of_length_le (by omega)]
      exact ⟨δ, rfl, by rw [← hk]; exact hi⟩
    | succ k ih =>
      intro i δ hk hi
      have lt : i < xs.length := by omega
      obtain ⟨δ1, δ2, h1, h2, h3⟩ := h i xs[i] (List.getElem?_eq_getElem lt) δ hi
      obtain ⟨δ3, h4, h5⟩ := ih (i + 1) δ2 (by omega) h3
      refine ⟨δ3, ?_, h5⟩
      rw [List.drop_eq_getElem_cons lt, List.map_cons, forL, h1]
      dsimp only
      rcases h2 with h2 | h2 <;> (rw [h2]; exact h4)
  have := go xs.length 0 δ (by omega) i0
  rwa [List.drop_zero] at this
/-- a loop that may end by an error: all is well up to where it errs -/
theorem forL_err {α : Type} (e : α → PyData) {g : Gf} {b : Sf} (c : String) (xs : List α) (p : Nat → α → Prop) (I : Nat → En → Prop)
    (h : ∀ i a, xs[i]? = some a → ∀ δ, I i δ → ∃ δ1, g (e a) δ = some δ1 ∧ ((p i a ∧ ∃ δ2, b δ1 = .nx δ2 ∧ I (i + 1) δ2) ∨ (¬ p i a ∧ ∃ δ2, b δ1 = .err c δ2))) {δ : En} (i0 : I 0 δ) :
    ((∀ i a, xs[i]? = some a → p i a) ∧ ∃ δ2, forL g b (xs.map e) δ = .nx δ2 ∧ I xs.length δ2) ∨ ((∃ i a, xs[i]? = some a ∧ ¬ p i a) ∧ ∃ δ2, forL g b (xs.map e) δ = .err c δ2) := by
  have go : ∀ (k i : Nat) (δ : En), i + k = xs.length → I i δ → ((∀ j a, i ≤ j → xs[j]? = some a → p j a) ∧ ∃ δ2, forL g b ((xs.drop i).map e) δ = .nx δ2 ∧ I xs.length δ2) ∨ ((∃ j a, xs[j]? = some a ∧ ¬ p j a) ∧ ∃ δ2, forL g b ((xs.drop i).map e) δ = .err c δ2) := by
    intro k
    induction k with
    | zero =>
      intro i δ hk hi
      refine .inl ⟨fun j a hj e1 => ?_, ?_⟩
      · have := (List.getElem?_eq_some_iff.mp e1).1
        omega
      · rw [List.drop_of_length_le (by omega)]
        exact ⟨δ, rfl, by rw [← hk]; exact hi⟩
    | succ k ih =>
      intro i δ hk hi
      have lt : i < xs.length := by omega
      have at_ := List.getElem?_eq_getElem lt
      obtain ⟨δ1, h1, h2⟩ := h i xs[i] at_ δ hi
      rw [List.drop_eq_getElem_cons lt, List.map_cons]
      rcases h2 with ⟨hp, δ2, h2, h3⟩ | ⟨hp, δ2, h2⟩
      · rcases ih (i + 1) δ2 (by omega) h3 with ⟨q1, δ3, q2, q3⟩ | ⟨q1, δ3, q2⟩
        · refine .inl ⟨fun j a hj e1 => ?_, δ3, ?_, q3⟩
          · by_cases z : i = j
            · subst z
              rw [at_] at e1
              cases e1
              exact hp
            · exact q1 j a (by omega) e1
          · rw [forL, h1]; dsimp only; rw [h2]; exact q2
        · exact .inr ⟨q1, δ3, by rw [forL, h1]; dsimp only; rw [h2]; exact q2⟩
      · exact .inr ⟨⟨i, _, at_, hp⟩, δ2, by rw [forL, h1]; dsimp only; rw [h2]⟩
  rcases go xs.length 0 δ (by omega) i0 with ⟨h1, h2⟩ | ⟨h1, h2⟩
  · exact .inl ⟨fun i a => h1 i a (Nat.zero_le _), by rwa [List.drop_zero] at h2⟩
  · exact .inr ⟨h1, by rwa [List.drop_zero] at h2⟩
theorem compL_map {α : Type} (e : α → PyData) {g : Gf} {t : Tf} {f : Ef} {δ : En} (p : α → Bool) (F : α → PyData) : ∀ xs : List α, (∀ a ∈ xs, ∃ δ1, g (e a) δ = some δ1 ∧ t δ1 = .ok (p a) ∧ (p a = true → f δ1 = .ok (F a))) → compL g t f δ (xs.map e) = .ok ((xs.filter p).map F)
  | [], _ => rfl
  | a :: r, h => by
    obtain ⟨δ1, h1, h2, h3⟩ := h a List.mem_cons_self
    have ih := compL_map e p F r fun a ha => h a (List.mem_cons_of_mem _ ha)
    rw [List.map_cons, compL, h1]
    dsimp only
    rw [h2]
    cases hp : p a with
    | true =>
      dsimp only
      rw [h3 hp, ih, List.filter_cons_of_pos hp, List.map_cons]
    | false =>
      dsimp only
      rw [ih, List.filter_cons_of_neg (by rw [hp]; exact Bool.false_ne_true)]
theorem compR_map {α : Type} (e : α → PyData) {g : Gf} {t : Tf} {f : Ef} {δ : En} (p : α → Bool) (F : α → PyData) (xs : List α) (hl : xs.length ≤ 100000) (h : ∀ a ∈ xs, ∃ δ1, g (e a) δ = some δ1 ∧ t δ1 = .ok (p a) ∧ (p a = true → f δ1 = .ok (F a))) : compR g t f δ (xs.map e) = .ok (.list ((xs.filter p).map F)) := by
  unfold compR
  rw [if_pos (by rw [List.length_map]; exact hl), compL_map e p F xs h]
/-- no condition -/
theorem compR_all {α : Type} (e : α → PyData) {g : Gf} {f : Ef} {δ : En} (F : α → PyData) (xs : List α) (hl : xs.length ≤ 100000) (h : ∀ a ∈ xs, ∃ δ1, g (e a) δ = some δ1 ∧ f δ1 = .ok (F a)) : compR g yTrue f δ (xs.map e) = .ok (.list (xs.map F)) := by
  have q := compR_map e (g := g) (t := yTrue) (f := f) (δ := δ) (fun _ => true) F xs hl fun a ha => by
    obtain ⟨δ1, h1, h2⟩ := h a ha
    exact ⟨δ1, h1, rfl, fun _ => h2⟩
  rwa [List.filter_eq_self.mpr fun _ _ => rfl] at q

/-! ### small steps -/
section
variable {d : PyData} {s : Slot} {r : En} {i : Nat}
@[simp] theorem xVar_0 : xVar 0 (.dat d :: r) = .ok d := rfl
@[simp] theorem xVar_s : xVar (i + 1) (s :: r) = xVar i r := rfl
@[simp] theorem set_0 {x : Slot} : (s :: r).set 0 x = x :: r := rfl
@[simp] theorem set_s {x : Slot} : (s :: r).set (i + 1) x = s :: r.set i x := rfl
end
/-! ### lists in order -/
theorem pw_ext {α : Type} {R : α → α → Prop} (as : ∀ a b, R a b → ¬ R b a) : ∀ {l l' : List α}, l.Pairwise R → l'.Pairwise R → (∀ x, x ∈ l ↔ x ∈ l') → l = l'
  | [], [], _, _, _ => rfl
  | [], b :: l', _, _, h => absurd ((h b).mpr List.mem_cons_self) (fun z => nomatch z)
  | a :: l, [], _, _, h => absurd ((h a).mp List.mem_cons_self) (fun z => nomatch z)
  | a :: l, b :: l', p, q, h => by
    obtain ⟨p1, p2⟩ := List.pairwise_cons.mp p
    obtain ⟨q1, q2⟩ := List.pairwise_cons.mp q
    have e : a = b := by
      rcases List.mem_cons.mp ((h a).mp List.mem_cons_self) with e | ha
      · exact e
      · rcases List.mem_cons.mp ((h b).mpr List.mem_cons_self) with e | hb
        · exact e.symm
        · exact absurd (p1 b hb) (as _ _ (q1 a ha))
    subst e
    congr 1
    refine pw_ext as p2 q2 fun x => ⟨fun hx => ?_, fun hx => ?_⟩
    · rcases List.mem_cons.mp ((h x).mp (List.mem_cons_of_mem _ hx)) with e | z
      · subst e; exact absurd (p1 x hx) (as _ _ (p1 x hx))
      · exact z
    · rcases List.mem_cons.mp ((h x).mpr (List.mem_cons_of_mem _ hx)) with e | z
      · subst e; exact absurd (q1 x hx) (as _ _ (q1 x hx))
      · exact z
/-- strictly up -/
abbrev Asc (l : List Int) : Prop := l.Pairwise (· < ·)
theorem asc_ext {l l' : List Int} (p : Asc l) (q : Asc l') (h : ∀ x, x ∈ l ↔ x ∈ l') : l = l' := pw_ext (fun a b => by omega) p q h
theorem lexI {a b : List Int} (h : a < b) : ¬ b < a := fun k => List.lt_irrefl a (List.lt_trans h k)
theorem set_ext {l l' : List (List Int)} (p : l.Pairwise (· < ·)) (q : l'.Pairwise (· < ·)) (h : ∀ x, x ∈ l ↔ x ∈ l') : l = l' := pw_ext (fun _ _ => lexI) p q h

/-! ### sorting by an order on native things -/
structure Odr {α : Type} (e : α → PyData) (lt : α → α → Prop) : Prop where
  al : ∀ a b, PySem.W.alike (e a) (e b) = true
  lt : ∀ a b, PySem.W.dataLt (e a) (e b) = true ↔ lt a b
section
variable {α : Type} {e : α → PyData} {lt : α → α → Prop}
/-- sorted data is the data of a list in order -/
theorem sort_is (O : Odr e lt) {xs ys : List α} (pm : ys.Perm xs) (pw : ys.Pairwise lt) : sortD (xs.map e) = ys.map e := by
  have st : strictD (ys.map e) = true := by
    clear pm
    induction ys with
    | nil => rfl
    | cons y r ih =>
      obtain ⟨p1, p2⟩ := List.pairwise_cons.mp pw
      rw [List.map_cons, strictD, ih p2, Bool.and_true, List.all_map, List.all_eq_true]
      exact fun x hx => (O.lt y x).mpr (p1 x hx)
  have fixed : sortD (ys.map e) = ys.map e := by
    unfold sortD
    refine List.mergeSort_of_pairwise ((strict_pw st).imp fun {a b} h => ?_)
    rcases leD_total.total a b with z | z
    · exact z
    · rw [leD_no h] at z; exact nomatch z
  rw [sort_perm (ds := ys.map e) (pm.symm.map e) (by rw [fixed]; exact st), fixed]
theorem strict_map (O : Odr e lt) {ys : List α} (pw : ys.Pairwise lt) : strictD (ys.map e) = true := by
  induction ys with
  | nil => rfl
  | cons y r ih =>
    obtain ⟨p1, p2⟩ := List.pairwise_cons.mp pw
    rw [List.map_cons, strictD, ih p2, Bool.and_true, List.all_map, List.all_eq_true]
    exact fun x hx => (O.lt y x).mpr (p1 x hx)
theorem alikes_map (O : Odr e lt) (xs : List α) : alikes (xs.map e) = true := by
  unfold alikes
  rw [List.all_map, List.all_eq_true]
  intro a _
  show (xs.map e).all (fun y => PySem.W.alike (e a) y) = true
  rw [List.all_map, List.all_eq_true]
  exact fun b _ => O.al a b
end
theorem odr_int : Odr PyData.int (· < ·) := ⟨fun a b => by simp [PySem.W.alike], fun a b => by rw [PySem.W.dataLt_int]; simp⟩
theorem alikeAll_int : ∀ xs ys : List Int, PySem.W.alikeAll (xs.map .int) (ys.map .int) = true
  | [], [] => by simp [PySem.W.alikeAll]
  | [], _ :: _ => by simp [PySem.W.alikeAll]
  | _ :: _, [] => by simp [PySem.W.alikeAll]
  | x :: xs, y :: ys => by rw [List.map_cons, List.map_cons, PySem.W.alikeAll, alikeAll_int xs ys]; simp [PySem.W.alike]
theorem odr_S : Odr eS (· < ·) where
  al := fun a b => by unfold eS; rw [PySem.W.alike]; exact alikeAll_int a b
  lt := fun a b => by
    unfold eS
    rw [PySem.W.dataLt_tuple]
    have := PySem.W.dataLt_ints a b
    unfold PySem.W.rowLt at this
    rw [this]
    simp
/-- pairs of an int and a set -/
def ltW (a b : Int × List Int) : Prop := a.1 < b.1 ∨ (a.1 = b.1 ∧ a.2 < b.2)
theorem odr_W : Odr eW ltW where
  al := fun a b => by
    unfold eW
    rw [PySem.W.alike, PySem.W.alikeAll, PySem.W.alikeAll, PySem.W.alikeAll, odr_int.al, odr_S.al]; rfl
  lt := fun a b => by
    unfold eW
    rw [PySem.W.dataLt_pair (odr_int.al _ _) (odr_S.al _ _), cod_int.eq, cod_S.eq]
    unfold ltW
    by_cases h : a.1 = b.1
    · by_cases k : a.2 = b.2
      · simp [h, k, List.lt_irrefl]
      · simp [h, k, odr_S.lt]
    · simp [h, odr_int.lt]
theorem ltW_as (a b : Int × List Int) (h : ltW a b) : ¬ ltW b a := by
  unfold ltW at h ⊢
  rintro (k | ⟨k1, k2⟩)
  · rcases h with h | ⟨h1, h2⟩ <;> omega
  · rcases h with h | ⟨h1, h2⟩
    · omega
    · exact lexI h2 k2
instance (a b : Int × List Int) : Decidable (ltW a b) := by unfold ltW; exact inferInstance
theorem map_int_S (xs : List Int) : PyData.tuple (xs.map .int) = eS xs := rfl
/-- what sorts: ints -/
theorem okD_int (i : Int) : okD (.int i) = true := cod_int.ok (by decide) i
theorem okD_S (xs : List Int) : okD (eS xs) = true := cod_S.ok (by decide) xs
theorem okD_W (w : Int × List Int) : okD (eW w) = true := cod_W.ok (by decide) w
theorem all_map_true {α : Type} {e : α → PyData} {p : PyData → Bool} (xs : List α) (h : ∀ a ∈ xs, p (e a) = true) : (xs.map e).all p = true := by
  rw [List.all_map, List.all_eq_true]
  exact h
theorem sortOk_int (xs : List Int) (h : xs.length ≤ 100000) : sortOk (xs.map .int) = true := by
  unfold sortOk
  rw [all_map_true xs fun a _ => okD_int a, alikes_map odr_int xs, all_map_true (p := noTup) xs fun a _ => rfl, List.length_map]
  simp [h]
theorem sortOk_S (xs : List (List Int)) (hn : ∀ s ∈ xs, s ≠ []) (h : xs.length ≤ 100000) : sortOk (xs.map eS) = true := by
  unfold sortOk
  rw [all_map_true xs fun a _ => okD_S a, alikes_map odr_S xs, all_map_true (p := neTup) xs fun a ha => by
    cases a with
    | nil => exact absurd rfl (hn _ ha)
    | cons x r => rfl, List.length_map]
  simp [h]
theorem sortOk_W (xs : List (Int × List Int)) (h : xs.length ≤ 100000) : sortOk (xs.map eW) = true := by
  unfold sortOk
  rw [all_map_true xs fun a _ => okD_W a, alikes_map odr_W xs, all_map_true (p := neTup) xs fun a _ => rfl, List.length_map]
  simp [h]
/-- the sorted form of distinct native things -/
def sortI (xs : List Int) : List Int := xs.mergeSort (fun a b => decide (a ≤ b))
theorem sortI_perm (xs : List Int) : (sortI xs).Perm xs := List.mergeSort_perm _ _
theorem sortI_le (xs : List Int) : (sortI xs).Pairwise (· ≤ ·) := by
  refine (List.pairwise_mergeSort (le := fun a b => decide (a ≤ b)) (fun a b c h1 h2 => ?_) (fun a b => ?_) xs).imp fun h => of_decide_eq_true h
  · have := of_decide_eq_true h1
    have := of_decide_eq_true h2
    exact decide_eq_true (by omega)
  · rcases Int.le_total a b with h | h
    · rw [decide_eq_true h]; rfl
    · rw [decide_eq_true h]; exact Bool.or_true _
theorem asc_of {l : List Int} (h : l.Pairwise (· ≤ ·)) (n : l.Nodup) : Asc l := (h.and n).imp fun ⟨a, b⟩ => by omega
theorem sortI_asc {xs : List Int} (n : xs.Nodup) : Asc (sortI xs) := asc_of (sortI_le xs) ((sortI_perm xs).nodup_iff.mpr n)
theorem Asc.nodup {l : List Int} (h : Asc l) : l.Nodup := h.imp fun h => by omega
theorem sortD_int {xs : List Int} (n : xs.Nodup) : sortD (xs.map .int) = (sortI xs).map .int := sort_is odr_int (sortI_perm xs) (sortI_asc n)
/-- distinct members, firsts dropped -/
def dedupI : List Int → List Int
  | [] => []
  | x :: r => if x ∈ r then dedupI r else x :: dedupI r
theorem sameK_int (a b : Int) : sameK (.int a) (.int b) = decide (a = b) := by
  unfold sameK
  rw [LY.keyOf, LY.keyOf]
  by_cases h : a = b <;> simp [h]
theorem dedup_int : ∀ xs : List Int, dedupD (xs.map .int) = (dedupI xs).map .int
  | [] => rfl
  | x :: r => by
    rw [List.map_cons, dedupD, dedupI, dedup_int r]
    have e : (r.map PyData.int).any (sameK (.int x)) = decide (x ∈ r) := by
      induction r with
      | nil => simp
      | cons y r ih =>
        rw [List.map_cons, List.any_cons, ih, sameK_int]
        by_cases h : x = y <;> simp [h]
    rw [e]
    by_cases h : x ∈ r <;> simp [h]
theorem dedupI_mem : ∀ (xs : List Int) (x : Int), x ∈ dedupI xs ↔ x ∈ xs
  | [], _ => Iff.rfl
  | y :: r, x => by
    rw [dedupI]
    split
    · next h =>
      rw [dedupI_mem r, List.mem_cons]
      exact ⟨.inr, fun z => z.elim (fun e => e ▸ h) id⟩
    · rw [List.mem_cons, List.mem_cons, dedupI_mem r]
theorem dedupI_nodup : ∀ xs : List Int, (dedupI xs).Nodup
  | [] => List.nodup_nil
  | y :: r => by
    rw [dedupI]
    split
    · exact dedupI_nodup r
    · next h => exact List.nodup_cons.mpr ⟨fun z => h ((dedupI_mem r y).mp z), dedupI_nodup r⟩
theorem dedupI_len : ∀ xs : List Int, (dedupI xs).length ≤ xs.length
  | [] => Nat.le_refl _
  | y :: r => by
    rw [dedupI]
    have := dedupI_len r
    split
    · exact Nat.le_succ_of_le this
    · exact Nat.succ_le_succ this
def setI (xs : List Int) : List Int := sortI (dedupI xs)
theorem setI_asc (xs : List Int) : Asc (setI xs) := sortI_asc (dedupI_nodup xs)
theorem setI_mem (xs : List Int) (x : Int) : x ∈ setI xs ↔ x ∈ xs := (sortI_perm _).mem_iff.trans (dedupI_mem xs x)
theorem setI_asc_eq {xs : List Int} (h : Asc xs) : setI xs = xs := asc_ext (setI_asc xs) h (setI_mem xs)
theorem ss_int (xs : List Int) (h : xs.length ≤ 4000) : ssOk (xs.map .int) = true ∧ sortD (dedupD (xs.map .int)) = (setI xs).map .int := by
  have e : sortD (dedupD (xs.map .int)) = (setI xs).map .int := by rw [dedup_int, sortD_int (dedupI_nodup xs)]; rfl
  refine ⟨?_, e⟩
  unfold ssOk
  rw [e, strict_map odr_int (setI_asc xs), dedup_int, sortOk_int _ (Nat.le_trans (dedupI_len xs) (by omega))]
  unfold setOk
  rw [all_map_true (p := isI) xs fun _ _ => rfl, List.length_map]
  simp [h]
theorem gSortSet_T (xs : List Int) (h : xs.length ≤ 4000) : gSortSet (.tuple (xs.map .int)) = some (.list ((setI xs).map .int)) := by
  obtain ⟨h1, h2⟩ := ss_int xs h
  unfold gSortSet
  dsimp only
  rw [if_pos h1, h2]
theorem gSortSet_L (xs : List Int) (h : xs.length ≤ 4000) : gSortSet (.list (xs.map .int)) = some (.list ((setI xs).map .int)) := by
  obtain ⟨h1, h2⟩ := ss_int xs h
  unfold gSortSet
  dsimp only
  rw [if_pos h1, h2]
end LY

set_option maxHeartbeats 4000000
namespace LY
open PySem PySem.Spec PyProof.Rows L2
/-! ### d[k], d any expression that gives a dict -/
def xDsub (f k : Ef) : Ef := fun δ => (f δ).bind fun d => match dictD d with
  | some kvs => (k δ).bind fun dk => Rs.of (gLook kvs dk)
  | none => .no
section
variable {X : Cx} {G : Gd} {B : Bs} {W : WX} {a b : Expr} {fa fb : Ef} {pos : Pos}
theorem c_dsub (hG : GX X G) (hr : Rm X) (ha : PE X a (tR G B W fa)) (hb : PE X b (tR G B W fb)) (hs : NoSl b := by intro _ _; rfl) : PE X (.Subscript a b pos) (tR G B W (xDsub fa fb)) := by
  refine ⟨fun pins s σ H Q I ⟨δ, F, R, k⟩ => ?_⟩
  unfold xDsub at k
  refine subD_of PySem.F.slot_dict_getitem.lookup hs (thn (ha.run pins s σ H (fun v H1 => ∃ F1 p xs kvs, v = .ref p ∧ Ext F H F1 H1 ∧ F1 p = some (dicO G.P G.w p xs) ∧ DrKV G F1 xs kvs ∧ kE G W F1 H1 σ Q ((fb δ).bind fun dk => Rs.of (gLook kvs dk))) I (bindE R k fun d v F1 H1 x1 R1 r1 k1 => ?_)) fun uo s1 ⟨vo, H1, I1, ro, F1, p, xs, kvs, eo, x1, g1, t1, k1⟩ => ?_)
  · cases r1 with
    | @dct p xs kvs g1 t1 =>
      rw [show dictD (.dict kvs) = some kvs from dictD_of t1] at k1
      exact ⟨F1, p, xs, kvs, rfl, x1, g1, t1, k1⟩
    | _ => exact False.elim k1
  · subst eo
    obtain rfl : uo = Value.ref p := ro
    have R1 := R.ext x1
    refine thn (hb.run pins s1 σ H1 (fun v H3 => ∃ dk F3, Ext F1 H1 F3 H3 ∧ Rep G B F3 H3 σ δ ∧ Dr G F3 v dk ∧ kD G F3 H3 Q (gLook kvs dk)) I1 (bindE R1 k1 fun d v F3 H3 x3 R3 r3 k3 => ⟨d, F3, x3, R3, r3, k3.kD⟩)) fun ub s3 ⟨vk, H3, I3, rk, dk, F3, x3, R3, r3, k3⟩ => ?_
    have hp3 := x3.hh _ _ (x1.fh _ _ g1)
    refine ⟨dic_typeIs I3 hp3, ?_⟩
    cases ek : keyT dk with
    | none => unfold gLook at k3; rw [ek] at k3; exact k3.elim
    | some nk =>
      obtain ⟨a, rfl⟩ := key_ref r3 ek
      obtain rfl : ub = Value.ref a := rk
      exact look_run hG hr I3 hp3 (R3.fh) (t1.mono x3.ff) (Ex.refl F3) R3.fh r3 k3
end

/-! ### {k: v} -/
def xDict1 (fk fv : Ef) : Ef := fun δ => (fk δ).bind fun dk => match keyT dk with
  | some _ => (fv δ).bind fun dv => .ok (.dict [(dk, dv)])
  | none => .no
section
variable {X : Cx} {G : Gd} {B : Bs} {W : WX} {a b : Expr} {fa fb : Ef} {pos : Pos}
theorem c_dict1 (hG : GX X G) (hr : Rm X) (ha : PE X a (tR G B W fa)) (hb : PE X b (tR G B W fb))
    (hshape : (evalEachOpt [some a] X.env).zip ((evalEach [b] X.env).map fun v => do let x ← v; standAt pos; pure x) = [((eval a X.env), (do let x ← eval b X.env; standAt pos; pure x : Sem Value))].map fun p => (some p.1, p.2) := by rfl) : PE X (.Dict [some a] [b] pos) (tR G B W (xDict1 fa fb)) := by
  refine ⟨fun pins s σ H Q I ⟨δ, F, R, k⟩ => ?_⟩
  unfold xDict1 at k
  rw [arm_eval_Dict, hshape, dictDisplay_pairs _ (List.cons_ne_nil _ _) (by simp)]
  have hn : H s.heap.objs.size = none := I.hok.fresh (Nat.le_refl _)
  have I0 : Inv X pins σ (upd H s.heap.objs.size (dicO G.P G.w s.heap.objs.size [])) { s with heap := s.heap.push { cls := .type "dict", data := .dict #[] } } := I.laid (a := s.heap.objs.size) (o := dicO G.P G.w s.heap.objs.size []) (t' := s.toks) (fun _ _ q => Heap.get?_push_of_some _ q) (Nat.le_refl _)
    (by rw [← hG.p, ← hG.w]; exact dicO_ok ⟨beq_eq_false_iff_ne.mpr (Ne.symm (Nat.ne_of_lt I.big)), Nat.zero_le _, [], .nil, _, #[], 0, Heap.get?_push_size _ rfl, ⟨rfl, rfl, rfl⟩, rfl, rfl, List.nodup_nil⟩)
  have hF : F s.heap.objs.size = none := R.fh.back hn
  have x0 : Ext F H F (upd H s.heap.objs.size (dicO G.P G.w s.heap.objs.size [])) := ⟨Ex.refl F, upd_ext R.fh _ hF, Ex.new hn, fun b h _ => h⟩
  have R0 := R.ext x0
  refine wpAny_bind (wpAny_standAt (wpAny_bind (wpAny_subDictH (knd := nestedKind X.prog X.w) (show X.A.units + 8 < cLine by have := hr.u; omega) (by simp) ?_)))
  generalize eD : s.heap.objs.size = D at *
  cases ea : fa δ with
  | no => rw [ea] at k; exact k.elim
  | err c =>
    rw [ea] at k
    exact evalPairs_cons (thn (ha.run pins _ σ _ (fun _ _ => False) I0 ⟨δ, F, R0, by rw [ea]; exact fun F' H' y => k F' H' (x0.trans y)⟩) fun uo s1 ⟨vo, H1, I1, ro, z⟩ => z.elim)
  | ok dk =>
    rw [ea] at k
    replace k : kE G W F H σ Q (match keyT dk with
      | some _ => (fb δ).bind fun dv => .ok (.dict [(dk, dv)])
      | none => .no) := k
    cases ek : keyT dk with
    | none => rw [ek] at k; exact k.elim
    | some nk =>
      rw [ek] at k
      replace k : kE G W F H σ Q ((fb δ).bind fun dv => .ok (.dict [(dk, dv)])) := k
      refine evalPairs_cons (thn (ha.run pins _ σ _ (fun v H1 => ∃ F1, Ext F (upd H D (dicO G.P G.w D [])) F1 H1 ∧ Rep G B F1 H1 σ δ ∧ Dr G F1 v dk) I0 ⟨δ, F, R0, by rw [ea]; exact fun v F1 H1 x r => ⟨F1, x, R0.ext x, r⟩⟩) fun uo s1 ⟨vo, H1, I1, ro, F1, x1, R1, r1⟩ => ?_)
      cases eb : fb δ with
      | no => rw [eb] at k; exact k.elim
      | err c =>
        rw [eb] at k
        exact wpAny_bind (thn (hb.run pins s1 σ H1 (fun _ _ => False) I1 ⟨δ, F1, R1, by rw [eb]; exact fun F' H' y => k F' H' (x0.trans (x1.trans y))⟩) fun ub s3 ⟨vb, H3, I3, rb, z⟩ => z.elim)
      | ok dv =>
        rw [eb] at k
        refine wpAny_bind (thn (hb.run pins s1 σ H1 (fun v H3 => ∃ F3, Ext F1 H1 F3 H3 ∧ Rep G B F3 H3 σ δ ∧ Dr G F3 v dv) I1 ⟨δ, F1, R1, by rw [eb]; exact fun v F3 H3 x r => ⟨F3, x, R1.ext x, r⟩⟩) fun ub s3 ⟨vb, H3, I3, rb, F3, x3, R3, r3⟩ => ?_)
        refine wpAny_bind (wpAny_standAt (wpAny_pure (evalPairs_nil ?_)))
        obtain ⟨a, rfl⟩ := key_ref r1 ek
        obtain rfl : uo = Value.ref a := ro
        obtain ⟨kk1, kk2⟩ := keyT_of ek
        have x13 := x1.trans x3
        have h3 : H3 D = some (dicO G.P G.w D []) := x13.hh _ _ upd_same
        have f3 : F3 D = none := x13.nb D hF (by rw [upd_same]; simp)
        obtain ⟨d1, d2, ys, tt, dd⟩ := dic_at hG I3 h3 (Ex.refl H3) (kvs := []) .nil
        cases tt
        have hkey : (nestedKind X.prog X.w).is s3.heap nk a := ⟨Dr.key I3 ((r1.mono x3.ff).mono R3.fh) kk1 rfl, kk2⟩
        refine ⟨[(nk, a, ub)], ⟨rfl, rfl, hkey, True.intro⟩, dd, fun h' tk dd' hs' => wpAny_pure ?_⟩
        have t' : DrKV G (upd F3 D (dicO G.P G.w D [(nk, a, vb)])) [(nk, a, vb)] [(dk, dv)] := .cons ((r1.mono x3.ff).mono (Ex.new f3)) kk1 kk2 (r3.mono (Ex.new f3)) .nil
        have xf : Ext F H (upd F3 D (dicO G.P G.w D [(nk, a, vb)])) (upd H3 D (dicO G.P G.w D [(nk, a, vb)])) := {
          ff := (x13.ff).trans (Ex.new f3)
          fh := fun b u q => by
            by_cases e : b = D
            · subst e; rw [upd_same] at q ⊢; exact q
            · rw [upd_ne e] at q ⊢; exact x3.fh _ _ q
          hh := fun b u q => by
            have e : b ≠ D := fun e => by rw [e, hn] at q; exact absurd q (fun z => nomatch z)
            rw [upd_ne e]; exact x13.hh _ _ (by rw [upd_ne e]; exact q)
          nb := fun b h1 h2 => by
            have e : b ≠ D := fun e => h2 (by rw [e]; exact hn)
            rw [upd_ne e]; exact x13.nb b h1 (by rw [upd_ne e]; exact h2) }
        exact ⟨.ref D, _, dic_write hG I3 h3 dd' hs' (store_rel (xs := []) rb .nil) (bigOf (show 1 ≤ 100000 by decide)) d1, rfl, k _ _ _ xf (.dct upd_same t')⟩
end
end LY

set_option maxHeartbeats 4000000
namespace LY
open PySem PySem.Spec PyProof.Rows L2
open PySem.W (alike minD maxD AlikeAll dataLt)
/-! ### list(range(n)) -/
def xLstRg (f : Ef) : Ef := fun δ => (f δ).bind fun d => Rs.of ((rgD d).map .list)
section
variable {X : Cx} {G : Gd} {B : Bs} {W : WX} {e : Expr} {f : Ef} {pos p pos2 p2 : Pos}
theorem rgV_upto (n : Int) : rgV 0 n = (upto n).map V.int := by
  unfold rgV upto
  rw [Int.sub_zero, List.map_map]
  exact List.map_congr_left fun i _ => by simp
theorem c_lstRg (hc : X.calm = true) (hl : X.mg "list" = none) (hm : X.mg "range" = none) (he : PE X e (tR G B W f)) (hg : Gl X "list" := by rfl) (hg2 : Gl X "range" := by rfl) (ne : starEach [e] X.env = (false, eval e X.env) :: starEach [] X.env := by rfl)
    (na : starEach [.Call (.Name "range" p2) [e] [] pos2] X.env = (false, eval (.Call (.Name "range" p2) [e] [] pos2) X.env) :: starEach [] X.env := by rfl) : PE X (.Call (.Name "list" p) [.Call (.Name "range" p2) [e] [] pos2] [] pos) (tR G B W (xLstRg f)) := by
  refine peImp (pe_listRg hc hg hl (prg_1 hg2 hm he ne) na) fun σ H Q ⟨δ, F, R, k⟩ => ?_
  refine bindE R k fun d v F1 H1 x1 R1 r1 k1 => ?_
  cases r1 with
  | int n =>
    by_cases hb : -100000 ≤ n ∧ n ≤ 100000
    · rw [show rgD (.int n) = some ((upto n).map .int) from if_pos hb] at k1
      refine ⟨n, rfl, ⟨by omega, by omega, by omega, by omega, by omega⟩, fun q hq => ?_⟩
      rw [rgV_upto]
      exact kD.new (d := .list ((upto n).map .int)) x1.fh hq (.lst upd_same (DrAll.of_ints _)) k1.kD
    · rw [show rgD (.int n) = none from if_neg hb] at k1
      exact k1.elim
  | _ => exact False.elim k1
end

/-! ### min(xs), max(xs) of one list -/
def minOk (ds : List PyData) : Bool := ds.all (fun x => ds.all fun y => alike x y) && ds.all (fun x => (match x with | .none => false | _ => true) && okD x) && decide (ds.length ≤ 100000)
def gMin1 : List PyData → Option PyData
  | [.list (x :: xs)] => if minOk (x :: xs) = true then some (minD x xs) else none
  | _ => none
def gMax1 : List PyData → Option PyData
  | [.list (x :: xs)] => if minOk (x :: xs) = true then some (maxD x xs) else none
  | [.tuple (x :: xs)] => if minOk (x :: xs) = true then some (maxD x xs) else none
  | _ => none
theorem minOk_parts {ds : List PyData} (h : minOk ds = true) : AlikeAll ds ∧ (∀ d ∈ ds, okD d = true) := by
  unfold minOk at h
  simp only [Bool.and_eq_true, List.all_eq_true, decide_eq_true_eq] at h
  exact ⟨⟨h.1.1, fun x hx z => by have := (h.1.2 x hx).1; rw [z] at this; exact nomatch this⟩, fun d hd => (h.1.2 d hd).2⟩
theorem plainAll_of : ∀ {ds : List PyData}, (∀ d ∈ ds, okD d = true) → PyData.plainAll ds = true
  | [], _ => rfl
  | d :: ds, h => by
    show (d.plain && PyData.plainAll ds) = true
    rw [okD.plain (h d List.mem_cons_self), plainAll_of fun x hx => h x (List.mem_cons_of_mem _ hx)]; rfl
theorem depthAll_of : ∀ {ds : List PyData}, (∀ d ∈ ds, okD d = true) → PyData.depthAll ds ≤ 20
  | [], _ => Nat.zero_le _
  | d :: ds, h => Nat.max_le.mpr ⟨okD.depth (h d List.mem_cons_self), depthAll_of fun x hx => h x (List.mem_cons_of_mem _ hx)⟩
section
variable {X : Cx} {G : Gd} {pins : List (Addr × Obj)} {σ : L2.St} {F H : Hp} {s : Shared}
theorem at_all : ∀ {vs : List V} {us : List Value} {ds : List PyData}, Vals vs us → DrAll G F vs ds → ∀ (i : Nat) (u : Value), us[i]? = some u → ∃ v d, RelV v u ∧ Dr G F v d ∧ d ∈ ds
  | _, _, _, .nil, _, i, u, h => by simp at h
  | _, _, _, .cons r rs, t, i, u, h => by
    cases t with
    | cons g t =>
      cases i with
      | zero => obtain rfl := Option.some.inj (show some _ = some u from h); exact ⟨_, _, r, g, List.mem_cons_self⟩
      | succ i =>
        obtain ⟨v, d, a, b, c⟩ := at_all rs t i u (by simpa using h)
        exact ⟨v, d, a, b, List.mem_cons_of_mem _ c⟩
theorem best_end (hG : GX X G) (I : L2.Inv X pins σ H s) (e : Ex F H) {vs : List V} {us : List Value} {ds : List PyData} {m : PyData} {Q : VK} (rv : Vals vs us) (t : DrAll G F vs ds) (hok : ∀ d ∈ ds, okD d = true) (k : kD G F H Q (some m)) (i : Nat) (v : Value) (h' : Heap) (tk : Nat) (bs : List Addr)
    (hv : us.toArray[i]? = some v) (r : Reads h' v m bs) (kk : ∀ b o, s.heap.get? b = some o → h'.get? b = some o) : EP X pins σ Q v { s with heap := h', toks := tk } := by
  obtain ⟨w, d, r1, r2, r3⟩ := at_all rv t i v (by rw [← hv]; simp)
  obtain ⟨as, q⟩ := readsD hG I e r2 (okD.plain (hok d r3)) r1
  obtain ⟨rfl, _⟩ := PySem.Reads.unique (PyProof.Rows.Reads.keeps kk q) _ _ r
  exact ⟨w, H, I.kept kk, r1, k.val e r2⟩
theorem f_min1 (hG : GX X G) (hr : Rm X) (hc : X.calm = true) : CallR X (.builtin "min") (rC G gMin1) := by
  intro pins s σ H xs us Q I rs h
  obtain ⟨F, as, e, da, k⟩ := h
  unfold gMin1 at k
  split at k
  · obtain ⟨v, rfl, r⟩ := one_of da
    cases r with
    | lst h1 t1 =>
      split at k
      · next hok =>
        obtain ⟨p1, p2⟩ := minOk_parts hok
        rw [Vals.ref1 rs]
        obtain ⟨its, rv, hl, hz⟩ := I.list (SqL.of (e _ _ h1))
        obtain ⟨bs, ra⟩ := readsAllD hG I e t1 (plainAll_of p2) rv
        have hd := depthAll_of p2
        exact PySem.W.min_list_data (vs := its.toArray) (I.ok.hd hc) hl.isList ra p1 (by have := hr.u; omega) fun i v h' tk bs hv r kk => best_end hG I e rv t1 p2 k i v h' tk bs hv r kk
      · exact False.elim k
  · exact False.elim k
theorem f_max1 (hG : GX X G) (hr : Rm X) (hc : X.calm = true) : CallR X (.builtin "max") (rC G gMax1) := by
  intro pins s σ H xs us Q I rs h
  obtain ⟨F, as, e, da, k⟩ := h
  unfold gMax1 at k
  split at k
  · obtain ⟨v, rfl, r⟩ := one_of da
    cases r with
    | lst h1 t1 =>
      split at k
      · next hok =>
        obtain ⟨p1, p2⟩ := minOk_parts hok
        rw [Vals.ref1 rs]
        obtain ⟨its, rv, hl, hz⟩ := I.list (SqL.of (e _ _ h1))
        obtain ⟨bs, ra⟩ := readsAllD hG I e t1 (plainAll_of p2) rv
        have hd := depthAll_of p2
        exact PySem.W.max_list_data (vs := its.toArray) (I.ok.hd hc) hl.isList ra p1 (by have := hr.u; omega) fun i v h' tk bs hv r kk => best_end hG I e rv t1 p2 k i v h' tk bs hv r kk
      · exact False.elim k
  · obtain ⟨v, rfl, r⟩ := one_of da
    cases r with
    | tup h1 t1 =>
      split at k
      · next hok =>
        obtain ⟨p1, p2⟩ := minOk_parts hok
        rw [Vals.ref1 rs]
        obtain ⟨its, rv, hl, hz⟩ := I.tuple (SqT.of (e _ _ h1))
        obtain ⟨bs, ra⟩ := readsAllD hG I e t1 (plainAll_of p2) rv
        have hd := depthAll_of p2
        exact PySem.W.max_tuple_data (vs := its.toArray) (I.ok.hd hc) hl ra p1 (by have := hr.u; omega) fun i v h' tk bs hv r kk => best_end hG I e rv t1 p2 k i v h' tk bs hv r kk
      · exact False.elim k
  · exact False.elim k
end
end LY

set_option maxHeartbeats 4000000
namespace LY
open PySem PySem.Spec PyProof.Rows L2
/-! ### texts: join, split, walked sign by sign -/
def xStr1 (g : Str → PyData → Option PyData) (f fa : Ef) : Ef := fun δ => (f δ).bind fun l => match l with
  | .str z => (fa δ).bind fun d => Rs.of (g z d)
  | _ => .no
def gJoin (z : Str) : PyData → Option PyData
  | .list ds => (strsOf ds).bind fun ys => if (ys.map (·.length)).sum + ys.length * z.length ≤ 100000 then some (.str (Txt.join z ys)) else none
  | _ => none
def gSplit (z : Str) : PyData → Option PyData
  | .str b => if (b.length == 0) = false ∧ z.length ≤ 100000 then some (.list ((Txt.split z b).map .str)) else none
  | _ => none
def signs (z : Str) : List Str := z.cps.toList.map fun c => ⟨#[c]⟩
def strD : PyData → Option (List PyData)
  | .str z => some ((signs z).map .str)
  | _ => none
def zStr (f : Ef) : Af := fun δ => (f δ).bind fun d => Rs.of (strD d)
section
variable {X : Cx} {G : Gd} {B : Bs} {W : WX} {o a tg e : Expr} {f fa : Ef} {p2 p3 : Pos}
theorem c_join (ho : PE X o (tR G B W f)) (ha : PE X a (tR G B W fa)) (hs : starEach [a] X.env = [(false, eval a X.env)] := by rfl) (hbase : attributeBase o "join" X.env (eval o X.env) = eval o X.env := by rfl) (hline : (p2.endLine == p3.line) = true := by rfl) :
    PE X (.Call (.Attribute o "join" p2) [a] [] p3) (tR G B W (xStr1 gJoin f fa)) := by
  refine peImp (pe_join ho ha hs hbase hline) fun σ H Q ⟨δ, F, R, k⟩ => ?_
  unfold xStr1 at k
  refine bindE R k fun l v F1 H1 x1 R1 r1 k1 => ?_
  cases r1 with
  | str z =>
    refine ⟨⟨z, rfl⟩, bindE R1 k1 fun d u F2 H2 x2 R2 r2 k2 => ?_⟩
    cases r2 with
    | lst h t =>
      rename_i q vs ds
      unfold gJoin at k2
      dsimp only at k2
      cases hb : strsOf ds with
      | none => rw [hb] at k2; exact k2.elim
      | some ys =>
        rw [hb, Option.bind_some] at k2
        have hd := strsOf_eq hb
        subst hd
        have hv := t.strs
        subst hv
        split at k2
        · next hz => exact ⟨z, _, ys, rfl, rfl, .inl (SqL.of (x2.fh _ _ h)), Nat.le_trans hz (by decide), k2.kD.val x2.fh (.str _)⟩
        · exact k2.elim
    | _ => exact False.elim k2
  | _ => exact False.elim k1
theorem c_split (ho : PE X o (tR G B W f)) (ha : PE X a (tR G B W fa)) (hs : starEach [a] X.env = [(false, eval a X.env)] := by rfl) (hbase : attributeBase o "split" X.env (eval o X.env) = eval o X.env := by rfl) (hline : (p2.endLine == p3.line) = true := by rfl) :
    PE X (.Call (.Attribute o "split" p2) [a] [] p3) (tR G B W (xStr1 gSplit f fa)) := by
  refine peImp (pe_split ho ha hs hbase hline) fun σ H Q ⟨δ, F, R, k⟩ => ?_
  unfold xStr1 at k
  refine bindE R k fun l v F1 H1 x1 R1 r1 k1 => ?_
  cases r1 with
  | str z =>
    refine ⟨⟨z, rfl⟩, bindE R1 k1 fun d u F2 H2 x2 R2 r2 k2 => ?_⟩
    cases r2 with
    | str b =>
      unfold gSplit at k2
      dsimp only at k2
      split at k2
      · next hz =>
        refine ⟨z, b, rfl, rfl, hz.1, Nat.le_trans (Nat.add_le_add_right hz.2 2) (by decide), fun p hp => ?_⟩
        exact kD.new (d := .list ((Txt.split z b).map .str)) x2.fh hp (.lst upd_same (DrAll.of_strs _)) k2.kD
      · exact k2.elim
    | _ => exact False.elim k2
  | _ => exact False.elim k1
theorem itStr {F : Hp} (z : Str) : ItS (Its z) F ((signs z).map V.str) where
  go := fun i H e hi => by
    unfold signs at hi
    show i < z.cps.size
    simpa using hi
  yld := fun i H x H' e hi ⟨h1, c, h2, h3⟩ => ⟨h1, by
    subst h3
    unfold signs
    rw [List.getElem?_map, List.getElem?_map, Array.getElem?_toList, h2]
    rfl⟩
  stop := fun H e => by
    unfold signs
    show z.cps.size ≤ _
    simp
theorem c_istr (he : PE X e (tR G B W f)) : PI X tg e (tI G B W (zStr f)) := by
  refine ⟨fun pins s σ H R I ⟨δ, F, RR, k⟩ => ?_⟩
  unfold zStr at k
  refine (pi_str he).run pins s σ H R I (bindI RR k fun d v F1 H1 e1 x1 r1 k1 => ?_)
  cases r1 with
  | str z => exact ⟨z, rfl, k1 _ _ F1 H1 (Ext.refl x1.fh) (itStr z) (DrAll.of_strs _)⟩
  | _ => exact False.elim k1
end
end LY

set_option maxHeartbeats 4000000
/-! a comprehension whose step may raise -/
namespace LY
open PySem PySem.Spec PyProof.Rows L2
section
variable {M : Model} {A : Around} {E : Value → Shared → Prop} {s : Shared} {env : Env}
/-- what stands behind the block: its variables are let go; an error passes on -/
def cPost (M : Model) (A : Around) (E : Value → Shared → Prop) (Q : Value → Shared → Prop) (acc : Value) (cenv : Env) (r : Result) (s' : Shared) : Prop :=
  match r with
  | .ok _ => ∃ m, s'.heap.Ns cenv.locals m ∧ ∀ h', Heap.SameBut cenv.locals s'.heap h' → Q acc { s' with heap := h' }
  | .error x => ∃ m, s'.heap.Ns cenv.locals m ∧ ∀ h', Heap.SameBut cenv.locals s'.heap h' → wpAny M A (passOn "comprehension.variables-let-go" x cenv : Sem Value) (fun _ _ => False) E { s' with heap := h' }
theorem comp_fr {e : Expr} {scope : Scope} {pos : Pos} {newAcc first : Sem Value} {g : Comprehension} {gs : List Comprehension} {cl : List (Str × Addr)}
    {Q : Value → Shared → Prop}
    (hcl : clausesOf e = g :: gs) (hs : ∀ x, foldedSetIterable g.iter env x = pure x) (hclos : closureFor scope env = pure cl)
    (hkind : scope.kind = .function) (hnames : ∀ x ∈ scope.names, x.2 = .local → scope.names.lookup x.1 = some .local)
    (h : wpAny M A first (fun x s₁ => wpAny M A (pyIter x) (fun it s₂ => wpAny M A newAcc (fun acc s₃ =>
      wpAny M A (newFunctionEnv scope env.globals cl [] env.qual none .none (some env)) (fun cenv s₄ =>
        codeAny M A (.compStart e 0 it acc { cenv with scope := relabel scope env }) (cPost M A E Q acc { cenv with scope := relabel scope env }) s₄) E s₃) E s₂) E s₁) E s) :
    wpAny M A (comprehension e scope env pos newAcc false first none) Q E s := by
  unfold comprehension
  rw [hclos, hcl]
  refine wpAny_bind (wpAny_mono h (fun x s₁ h₁ => wpAny_bind (wpAny_standAt (wpAny_bind (wpAny_of_eq (hs x) (wpAny_bind (wpAny_holding (wpAny_mono h₁ (fun it s₂ h₂ =>
    wpAny_standIf (wpAny_bind (wpAny_mono h₂ (fun acc s₃ h₃ => wpAny_bind (wpAny_pure (wpAny_bind (wpAny_mono h₃ (fun cenv s₄ h₄ => ?_) fun _ _ h' => h')))) fun _ _ h' => h')))
      fun _ _ h' => h'))))))) fun _ _ h' => h')
  dsimp only
  have hv : ∀ x ∈ (scope.names.filter fun x => (x.2 == .local || x.2 == .cell) && x.1 != (".0" : Str)).reverse, x.2 = .local →
      Env.kindOf { cenv with scope := relabel scope env } x.1 = some .local := fun x hx hl => lookup_relabel_local (hnames x (List.mem_filter.mp (List.mem_reverse.mp hx)).1 hl)
  refine wpAny_holding (wpAny_bind (wpAny_attempt (wpAny_holding (wpAny_run (codeAny_mono h₄ fun r s' hr => ?_)))))
  cases r with
  | ok f =>
    obtain ⟨m, hn, hr⟩ := hr
    exact wpAny_bind (wpAny_holding (wpAny_comp_letGo (cenv := { cenv with scope := relabel scope env }) hkind _ s' m hv hn fun h' m' _ hs' => wpAny_pure (hr h' hs')))
  | error x =>
    obtain ⟨m, hn, hr⟩ := hr
    exact wpAny_bind (wpAny_holding (wpAny_comp_letGo (cenv := { cenv with scope := relabel scope env }) hkind _ s' m hv hn fun h' m' _ hs' => wpAny_mono (hr h' hs') (fun _ _ f => f.elim) fun _ _ y => y))
/-- noted in a frame that another hand holds -/
theorem looks_overZ {base : Heap} {env : Env} {outer : List Env} {L C e : Addr} {Z : Obj → Prop} {Q : Unit → Shared → Prop} (hZ : HandSPX.Steady Z) (hfr : A.frames = some (env :: outer)) (hf : env.frame = some L) (hC : C ≠ L) (hfl : HandSPX.HeldZ base (env :: outer) e Z C s.heap)
    (hQ : ∀ h', HandSPX.HeldZ base (env :: outer) e Z L h' → s.heap.UpToSlots h' → Q () { s with heap := h' }) : wpAny M A (noteFrame (.ref e) env) Q E s := by
  obtain ⟨hkb, hen, hl, oe, vs, T, oT, ts, he, hz, hd, h1, hnT, hTe, hT, hdT, h3⟩ := hfl
  unfold noteFrame
  simp only [hf]
  refine wpAny_bind (wpAny_field he hd h1 ?_)
  rw [if_pos (show (Value.ref T != Value.none) = true from by simp)]
  refine wpAny_bind (wpAny_field hT hdT h3 ?_)
  rw [if_neg (show ¬ ((rawInt C == rawInt L) = true) from by
    intro z
    have z := beq_iff_eq.mp z
    unfold rawInt at z
    injection z with z1 z2
    exact hC (Int.ofNat_inj.mp z1))]
  refine wpAny_bind (wpAny_setField hT hdT (Array.getElem?_eq_some_iff.mp h3).1 ?_)
  have other : ∀ b, b ≠ T → (s.heap.update T (Obj.mapFields (·.setIfInBounds 3 Value.none))).get? b = s.heap.get? b := fun b hb => Heap.get?_update_other _ _ (Ne.symm hb)
  have noRecord : ∀ b o, s.heap.get? b = some o → (∀ vs, o.data ≠ .fields vs) → b ≠ T := fun b o hb hnf q => by
    rw [q, hT] at hb; injection hb with hb; subst hb; exact hnf ts hdT
  refine HandSPX.wpAny_entryZ hZ hfr (hl.of_keeps fun b o hb hnf => ⟨o, (other b (noRecord b o hb hnf)).trans hb, rfl⟩) hf ((other e (Ne.symm hTe)).trans he)
    (fun b o hbo => (other b fun q => by rw [q, hnT] at hbo; cases hbo).trans (hkb b o hbo)) hen hd (Array.getElem?_eq_some_iff.mp h1).1 hz fun h' hN => ?_
  obtain ⟨x1, x2, x3, x4⟩ := hN
  exact hQ h' ⟨x1, hen, x2, x3⟩ fun b o hb hnf => x4 b o ((other b (noRecord b o hb hnf)).trans hb) hnf
theorem note_same {x : Value} {ce env : Env} (h : ce.frame = env.frame) : noteFrame x ce = noteFrame x env := by
  unfold noteFrame PySem.frameOf
  rw [h]
end
section
variable {X : Cx}
/-- an error out of the block is an error of ours -/
theorem comp_takes {W : WX} (tk : Takes X W) (hs : X.stack = X.env :: X.outer) (hf : X.env.frame = some X.env.locals) {pins : List (Addr × Obj)} {σ : L2.St} {H3 : Hp} {s3 : Shared} (I3 : Inv X pins σ H3 s3) {scope : Scope} {ce : Env} {fp : List Addr} {pn : List (Addr × Obj)} {C : Addr} {acc : Value} {Qf : Value → Shared → Prop}
    (cL : ce.locals = C) (cf : ce.frame = X.env.frame) (hC : C = s3.heap.objs.size) (f3 : ∀ b ∈ fp, FpOk X pins H3 b ∧ b < s3.heap.objs.size) :
    Takes ((X.blk s3 H3 scope ce fp).tr pn (notedBy (model X.prog X.w) X.A ce fun e s' => cPost (model X.prog X.w) X.A X.xe Qf acc ce (.error e) s')) (fun cls d _ H => W cls d σ H) := by
  rintro u s' ⟨a, B, sI, pins', σ', H', cls, d, rfl, J, nb, up, sky, na, os, ag, w⟩
  have hfr : X.A.frames = some (X.env :: X.outer) := I3.ok.frames.trans (congrArg some hs)
  have Jfree : H' C = none := by
    have z := J.free
    rw [← cL]
    exact z
  have nC3 : s3.heap.get? C = none := by
    cases q : s3.heap.get? C with
    | none => rfl
    | some o => exact absurd (Heap.lt_size q) (by rw [hC]; exact Nat.lt_irrefl _)
  have oldC : ∀ b o, s3.heap.get? b = some o → b ≠ C := fun b o e z => by rw [z, nC3] at e; cases e
  have frC : C ∉ frs X.stack := fun hm => by
    obtain ⟨_, o, ho, _⟩ := I3.stack.mem hm
    exact oldC C o ho rfl
  have LC : C ≠ X.env.locals := by
    obtain ⟨m, hm, _⟩ := I3.loc
    have z : X.env.locals < s3.heap.objs.size := hm.lt
    rw [hC]
    exact Nat.ne_of_gt z
  obtain ⟨m, hNs, _⟩ := J.loc
  replace hNs : sI.heap.Ns C m := by
    have z : sI.heap.Ns ce.locals m := hNs
    rwa [cL] at z
  show wpAny (model X.prog X.w) X.A (noteFrame (.ref a) ce) (fun _ s'' => cPost (model X.prog X.w) X.A X.xe Qf acc ce (.error (.ref a)) s'') _ s'
  rw [note_same cf]
  have fin : ∀ h2, HandSPX.HeldZ B (X.env :: X.outer) a (Zc cls d) X.env.locals h2 → s'.heap.UpToSlots h2 → cPost (model X.prog X.w) X.A X.xe Qf acc ce (.error (.ref a)) { s' with heap := h2 } := fun h2 hh up2 => by
    have ns2 : h2.Ns C m := (up.trans up2).ns hNs
    refine ⟨m, by rw [cL]; exact ns2, fun h3 sb => ?_⟩
    rw [cL] at sb
    obtain ⟨g1, g2, g3, oe, vs, T, oT, ts, he, hz, hd, e1, hnT, hTe, hT, hdT, e3⟩ := id hh
    obtain ⟨oC, es, ep, hoC, hdC, _⟩ := id ns2
    have aC : a ≠ C := fun z => by
      rw [z, hoC] at he
      cases he
      rw [hdC] at hd
      cases hd
    have TC : T ≠ C := fun z => by
      rw [z, hoC] at hT
      cases hT
      rw [hdC] at hdT
      cases hdT
    -- the ground without the block's variables
    have hB : ∀ b o, (PySem.W.hideAll B [C]).get? b = some o → B.get? b = some o ∧ b ≠ C := fun b o e => ⟨PySem.W.of_hideAll _ e, fun z => by
      rw [z, PySem.W.hideAll_none [C] (List.mem_singleton.mpr rfl)] at e
      cases e⟩
    have hI : ∀ b o, (PySem.W.hideAll sI.heap [C]).get? b = some o → sI.heap.get? b = some o ∧ b ≠ C := fun b o e => ⟨PySem.W.of_hideAll _ e, fun z => by
      rw [z, PySem.W.hideAll_none [C] (List.mem_singleton.mpr rfl)] at e
      cases e⟩
    have toI : ∀ b o, sI.heap.get? b = some o → b ≠ C → (PySem.W.hideAll sI.heap [C]).get? b = some o := fun b o e n => PySem.W.hideAll_get _ e (by simpa using n)
    have toB : ∀ b o, B.get? b = some o → b ≠ C → (PySem.W.hideAll B [C]).get? b = some o := fun b o e n => PySem.W.hideAll_get _ e (by simpa using n)
    have nBn : ∀ b, B.get? b = none → (PySem.W.hideAll B [C]).get? b = none := fun b e => by
      cases q : (PySem.W.hideAll B [C]).get? b with
      | none => rfl
      | some o =>
        rw [(hB b o q).1] at e
        cases e
    have h3of : ∀ b o, h2.get? b = some o → b ≠ C → h3.get? b = some o := fun b o e n => (sb.2 b n).trans e
    have ff : h3.FunFrames (PySem.W.hideAll B [C]) (X.env :: X.outer) := by
      have q : h2.FunFrames (PySem.W.hideAll B [C]) (X.env :: X.outer) := funFrames_none g3 fun L hL => nBn L (g3.mem hL).1
      have go : ∀ l : List Env, (∀ L ∈ frs l, L ≠ C) → h2.FunFrames (PySem.W.hideAll B [C]) l → h3.FunFrames (PySem.W.hideAll B [C]) l := by
        intro l
        induction l with
        | nil => intro _ _; trivial
        | cons en l ih =>
          rintro hn ⟨k1, ⟨L, o, k2, k3, k4, k5⟩, k6⟩
          exact ⟨k1, ⟨L, o, k2, k3, h3of L o k4 (hn L (List.mem_filterMap.mpr ⟨en, List.mem_cons_self, k2⟩)), k5⟩, ih (fun L hL => hn L (by
            obtain ⟨e', he', q⟩ := List.mem_filterMap.mp hL
            exact List.mem_filterMap.mpr ⟨e', List.mem_cons_of_mem _ he', q⟩)) k6⟩
      exact go _ (fun L hL z => frC (by rw [hs]; exact z ▸ hL)) q
    have held3 : HandSPX.HeldZ (PySem.W.hideAll B [C]) (X.env :: X.outer) a (Zc cls d) X.env.locals h3 :=
      ⟨fun b o e => h3of b o (g1 b o (hB b o e).1) (hB b o e).2, nBn a g2, ff, oe, vs, T, oT, ts, h3of a oe he aC, hz, hd, e1, nBn T hnT, hTe, h3of T oT hT TC, hdT, e3⟩
    have JI : Inv X pins σ H' { sI with heap := PySem.W.hideAll sI.heap [C] } := by
      have jb := J.base
      refine I3.call' (ch := fp) J.os ⟨fun b o e n h1 h2 => toI b o (jb.keep b o e n h1 h2) (oldC b o e), fun b o e n h1 h2 => ?_, jb.free, fun b o e h1 => ?_, jb.tups, jb.frzs, jb.tbls⟩ (fun b o e => ?_) J.bare fun b hb => ⟨(f3 b hb).1.2.2.2.1, (f3 b hb).1.2.1, (f3 b hb).1.2.2.2.2.1, (f3 b hb).1.2.2.2.2.2⟩
      · obtain ⟨sl, q⟩ := jb.slot b o e n h1 h2
        exact ⟨sl, toI b _ q (oldC b o e)⟩
      · obtain ⟨o', q⟩ := jb.there b o e h1
        exact ⟨o', toI b o' q (oldC b o e)⟩
      · refine (J.hok b o e).stay (fun c u hc r => toI c u r fun z => ?_) (fun _ r => r) fun _ _ r => r
        rcases hc with hc | hc
        · rw [← hc, z, Jfree] at e; cases e
        · rw [z, Jfree] at hc; cases hc
    show wpAny (model X.prog X.w) X.A (PySem.passOn "comprehension.variables-let-go" (.ref a) ce : Sem Value) _ _ _
    unfold PySem.passOn
    have he3 : h3.get? a = some oe := h3of a oe he aC
    refine wpAny_bind (wpAny_field he3 hd e1 ?_)
    rw [if_neg (show ¬ ((Value.ref T == Value.none) = true) from by simp)]
    have go : wpAny (model X.prog X.w) X.A (setFlight (.ref a) ce.frame) (fun _ s4 => wpAny (model X.prog X.w) X.A (throw (.ref a) : Sem Value) (fun _ _ => False) X.xe s4) X.xe { s' with heap := h3 } := by
      rw [cf, hf]
      refine HandSPX.setFlight_onZ held3 fun h4 hh4 up4 => wpAny_throw (tk _ _ ?_)
      refine ⟨a, PySem.W.hideAll B [C], { sI with heap := PySem.W.hideAll sI.heap [C] }, pins, σ, H', cls, d, rfl, JI, fun b o e hb => toB b o (nb b o (hI b o e).1 hb) (hI b o e).2, fun b o e hnf => ?_, .inr (.inr (by rw [hs]; exact hh4)), na, os, ag, w⟩
      obtain ⟨e', nbC⟩ := hI b o e
      obtain ⟨sl, q⟩ := (up.trans up2) b o e' hnf
      have q3 := h3of b _ q nbC
      obtain ⟨sl2, q4⟩ := up4 b _ q3 hnf
      exact ⟨sl2, q4⟩
    first
      | exact wpAny_bind (wpAny_pure (wpAny_bind go))
      | exact wpAny_bind go
  have sky2 : Sky B (X.env :: X.outer) a (Zc cls d) C s'.heap := by rw [← hs, ← cL]; exact sky
  rcases sky2 with ⟨hB, hn, hl, oe, vs, he, hz, hd, h1⟩ | fl | hh
  · exact HandSPX.look_newZ Zc.steady hfr hl hf he hB hn hd h1 hz fin
  · exact HandSPX.looks_onZ Zc.steady hfr hf fl fin
  · exact looks_overZ Zc.steady hfr hf LC hh fin
end
end LY

set_option maxHeartbeats 4000000
namespace LY
open PySem PySem.Spec PyProof.Rows L2
section
variable {X : Cx}
theorem lcE_core {pins : List (Addr × Obj)} {s : Shared} {σ : L2.St} {H : Hp} {Q : VK} {elt tg iter : Expr} {ifs : List Expr} {scope : Scope} {own : List (Str × Nat)} {pos pos' : Pos} {wi : TI} {g : TG} {tt : TT} {te : WX → TE} {Qf : Value → Shared → Prop} {W : WX}
    (tk : Takes X W) (hst : X.stack = X.env :: X.outer) (hf : X.env.frame = some X.env.locals) (hc : X.calm = true) (hN : X.N.Nodup) (I : Inv X pins σ H s) (hi : PI X tg iter wi) (ok : BlkOk X.N X.env.scope scope own)
    (hg : ∀ (s : Shared) (H : Hp) (C : Addr) (cl : List (Str × Addr)) (fp : List Addr), PG (X.blk s H scope (compEnvC scope cl C X.env) fp) tg g) (ht : ∀ (s : Shared) (H : Hp) (C : Addr) (cl : List (Str × Addr)) (fp : List Addr), PTs (X.blk s H scope (compEnvC scope cl C X.env) fp) ifs tt)
    (he : ∀ (s : Shared) (H : Hp) (C : Addr) (cl : List (Str × Addr)) (fp : List Addr) (W : WX) (pn : List (Addr × Obj)) (xe : Value → Shared → Prop), Takes ((X.blk s H scope (compEnvC scope cl C X.env) fp).tr pn xe) W → PE ((X.blk s H scope (compEnvC scope cl C X.env) fp).tr pn xe) elt (te W)) (hs : ∀ x, foldedSetIterable iter X.env x = pure x)
    (h : tLc wi g tt (te fun cls d _ H => W cls d σ H) (own.map (·.2)) σ H Q)
    (hRR : ∀ D C s' m H' h'', Inv X pins σ H' s' → Q (.ref D) H' → s'.heap.Ns C m → FpOk X pins H' C → Heap.SameBut C s'.heap h'' → Qf (.ref D) { s' with heap := h'' }) :
    wpAny (model X.prog X.w) X.A (comprehension (.ListComp elt [⟨tg, iter, ifs, 0⟩] scope pos) scope X.env pos' (newList []) false (eval iter X.env) none) Qf X.xe s := by
  have hfree : ∀ y ∈ scope.names, y.2 = .free → ∃ c, X.env.cells.lookup y.1 = some c := fun y hy e => by
    rcases ok.free y hy e with k | k
    · exact I.ok.has _ (.inl k)
    · exact I.ok.has _ (.inr k)
  refine comp_fr rfl hs (closure_ok hfree) ok.kind (fun y hy e => by rw [ok.uniq y hy, e])
    (thn (hi.run pins s σ H _ I h) fun xv s1 hx => thn hx fun itv s2 h2 => ?_)
  obtain ⟨it, fp, tn, J, H2, e, I2, T, st2, f2, q⟩ := h2
  subst e
  refine wpAny_newObj_type (newEnv_comp ?_) (by show 0 ≤ sizeLine; decide)
  generalize hD : s2.heap.objs.size = D
  have hDn : H2 D = none := I2.hok.fresh (Nat.le_of_eq hD)
  obtain ⟨Wm, ⟨m0, w0⟩, turn⟩ := q D hDn
  generalize hs3 : ({ s2 with heap := s2.heap.push { cls := .type "list", data := .seq ([] : List Value).toArray } } : Shared) = s3
  have I3 : Inv X pins σ (upd H2 D (.lst [])) s3 := by
    rw [← hs3]
    refine I2.laid (t' := s2.toks) (fun b o e => Heap.get?_push_of_some _ e) (Nat.le_of_eq hD) ⟨Nat.zero_le _, [], 0, .nil, ?_⟩
    rw [← hD]
    exact Heap.get?_push_size _ rfl
  have h3 : s3.heap = s2.heap.push { cls := .type "list", data := .seq ([] : List Value).toArray } := by rw [← hs3]
  have sz : ∀ b ∈ fp, b < s2.heap.objs.size := fun b hb => by
    obtain ⟨o, e, _⟩ := T.obj _ _ st2 b hb
    exact Heap.lt_size e
  have f3 : ∀ b ∈ fp, FpOk X pins (upd H2 D (.lst [])) b ∧ b < s3.heap.objs.size := fun b hb => by
    have hlt := sz b hb
    refine ⟨⟨?_, (f2 b hb).2⟩, by rw [h3, Heap.size_push]; exact Nat.lt_succ_of_lt hlt⟩
    rw [upd_ne (by rw [← hD]; exact Nat.ne_of_lt hlt)]
    exact (f2 b hb).1
  have st3 : tn 0 s3.heap := T.keep _ _ _ st2 fun b _ o e => by rw [h3]; exact Heap.get?_push_of_some _ e
  have I4 := block_start I3 ok hN f3
  have pg := hg s3 (upd H2 D (.lst [])) s3.heap.objs.size (cellsFrom (s3.heap.objs.size + 1) scope.names (cloFrom X.env.cells scope.names [])) fp
  have pt := ht s3 (upd H2 D (.lst [])) s3.heap.objs.size (cellsFrom (s3.heap.objs.size + 1) scope.names (cloFrom X.env.cells scope.names [])) fp
  have pe := he s3 (upd H2 D (.lst [])) s3.heap.objs.size (cellsFrom (s3.heap.objs.size + 1) scope.names (cloFrom X.env.cells scope.names [])) fp
  show codeAny _ _ (.compStart (.ListComp elt [⟨tg, iter, ifs, 0⟩] scope pos) 0 (.ref it) (.ref D) (compEnvC scope (cellsFrom (s3.heap.objs.size + 1) scope.names (cloFrom X.env.cells scope.names [])) s3.heap.objs.size X.env)) (cPost (model X.prog X.w) X.A X.xe Qf (.ref D) (compEnvC scope (cellsFrom (s3.heap.objs.size + 1) scope.names (cloFrom X.env.cells scope.names [])) s3.heap.objs.size X.env)) { s3 with heap := pushCells (s3.heap.push { cls := .type "dict", data := .dict #[] }) scope.names }
  have nfp : ∀ b ∈ fp, (upd H2 D (.lst [])) b = none := fun b hb => (f3 b hb).1.1
  generalize hce : compEnvC scope (cellsFrom (s3.heap.objs.size + 1) scope.names (cloFrom X.env.cells scope.names [])) s3.heap.objs.size X.env = ce at I4 pg pt pe ⊢
  have cL : ce.locals = s3.heap.objs.size := by subst hce; rfl
  have cF : ce.frame = X.env.frame := by subst hce; rfl
  generalize hH3 : upd H2 D (.lst []) = H3 at I3 I4 pg pt pe w0 nfp f3
  generalize hs4 : ({ s3 with heap := pushCells (s3.heap.push { cls := .type "dict", data := .dict #[] }) scope.names } : Shared) = s4 at I4 ⊢
  have st4 : tn 0 s4.heap := T.keep _ _ _ st3 fun b _ o e => by rw [← hs4]; exact pushCells_keeps _ _ _ _ (Heap.get?_push_of_some _ e)
  have stat : ∀ {σ' : L2.St} {H' : Hp} {s' : Shared}, Inv (X.blk s3 H3 scope ce fp) [] σ' H' s' → (∀ b ∈ fp, H' b = none) → ∀ b ∈ fp, FpOk (X.blk s3 H3 scope ce fp) [] H' b := fun {σ' H' s'} I' hn b hb =>
    ⟨hn b hb, (I'.ok.exf b hb).1, I'.ok.exfs b hb, .inl hb, fun x c e => (I'.ok.exf b hb).2 x c e, fun p hp => absurd (show p ∈ ([] : List (Addr × Obj)) ++ [] from hp) (by simp)⟩
  have loop : codeAny (model X.prog X.w) X.A (.compLoop (.ListComp elt [⟨tg, iter, ifs, 0⟩] scope pos) 0 (.ref it) (.ref D) ce) (cPost (model X.prog X.w) X.A X.xe Qf (.ref D) ce) s4 := by
    refine compLoop_any (fun n s' => ∃ i H', Inv (X.blk s3 H3 scope ce fp) [] (wipe σ (own.map (·.2))) H' s' ∧ tn i s'.heap ∧ (∀ b ∈ fp, H' b = none) ∧ Wm i n H') ?_ m0 ⟨0, H3, I4, st4, nfp, w0⟩
    rintro n s5 ⟨i, H5, I5, st5, n5, w5⟩
    rcases turn i n H5 w5 with ⟨stop, qq⟩ | ⟨go, Nx, hNx, step⟩
    · have td := T.done (X.blk s3 H3 scope ce fp) rfl rfl rfl hc i [] s5 _ H5 (fun _ _ => False) I5 (stat I5 n5) st5 stop
      refine thnF td fun r s6 ⟨hr, I6⟩ => ?_
      subst hr
      have I7 : Inv X pins σ H5 s6 := I3.call' (ch := fp) I6.os I6.base I6.hok I6.bare fun b hb => ⟨(f3 b hb).1.2.2.2.1, (f3 b hb).1.2.1, (f3 b hb).1.2.2.2.2.1, (f3 b hb).1.2.2.2.2.2⟩
      have nC : H5 s3.heap.objs.size = none := by
        have z : H5 ce.locals = none := I6.free
        rw [cL] at z
        exact z
      obtain ⟨m, hn, _⟩ := I6.loc
      have hn : s6.heap.Ns ce.locals m := hn
      rw [cL] at hn
      exact ⟨m, by rw [cL]; exact hn, fun h'' sb => hRR D s3.heap.objs.size s6 m H5 h'' I7 qq hn (I3.fpOk (Nat.le_refl _) nC) (by rw [cL] at sb; exact sb)⟩
    · have ti := T.item (X.blk s3 H3 scope ce fp) rfl rfl rfl hc i [] s5 _ H5 (fun _ _ => False) I5 (stat I5 n5) st5 go
      refine thnF ti fun r s6 ⟨u, hr, h6⟩ => ?_
      subst hr
      refine thnF h6 fun _ s7 ⟨x, H7, I7, r7, y7, st7, n7⟩ => ?_
      have I7' := I7.pinned (stat I7 n7) (T.obj _ _ st7)
      refine thnF (pg.run _ s7 _ H7 x u _ I7' r7 (step x H7 y7)) fun _ s8 ⟨σ8, H8, I8, hw8, q8⟩ => ?_
      refine thnF (pt.run _ s8 σ8 H8 _ I8 q8) fun b s9 ⟨H9, I9, q9⟩ => ?_
      have fin : ∀ {s' : Shared} {H' : Hp}, Inv (X.blk s3 H3 scope ce fp) ([] ++ pinsAt fp s7.heap) σ8 H' s' → Nx H' → ∃ m, m < n ∧ ∃ i H', Inv (X.blk s3 H3 scope ce fp) [] (wipe σ (own.map (·.2))) H' s' ∧ tn i s'.heap ∧ (∀ b ∈ fp, H' b = none) ∧ Wm i m H' := fun {s' H'} I' nx => by
        obtain ⟨m', hm, w'⟩ := hNx H' nx
        have pin' : ∀ b ∈ fp, ∀ o, s7.heap.get? b = some o → s'.heap.get? b = some o ∧ H' b = none := fun b hb o e =>
          let z := I'.pin (b, o) (List.mem_append_right _ (List.mem_append_right _ (mem_pinsAt hb e)))
          ⟨z.1, z.2.1⟩
        have hl : (wipe σ (own.map (·.2))).length = σ8.length := by rw [← hw8, wipe_length]
        refine ⟨m', hm, i + 1, H', (I'.unpinned (pins := [])).weak hl (fun j v e => ?_), T.keep _ _ _ st7 fun b hb o e => (pin' b hb o e).1, fun b hb => ?_, w'⟩
        · rw [← hw8] at e
          exact (wipe_some e).1
        · obtain ⟨o, e, _⟩ := T.obj _ _ st7 b hb
          exact (pin' b hb o e).2
      cases b with
      | false =>
        simp only [Bool.false_eq_true, if_false] at q9 ⊢
        exact fin I9 q9
      | true =>
        simp only [if_true] at q9 ⊢
        have tk2 := comp_takes (pn := ([] : List (Addr × Obj)) ++ ([] ++ pinsAt fp s7.heap)) (acc := .ref D) (Qf := Qf) tk hst hf I3 (scope := scope) cL cF rfl f3
        have run := (pe _ _ _ tk2).run [] s9 σ8 H9 _ (I9.toTry _) q9
        refine thn run fun z s10 ⟨yv, H10, I10', r10, acc, hD10, hz10, nx⟩ => ?_
        have I10 := I10'.ofTry I9.ok
        exact app_ok (X := X.blk s3 H3 scope ce fp) I10 hD10 hz10 r10 fun s11 I11 => fin I11 nx
  exact codeAny_compStart_list loop (T.self X.A 0 _ _ _ st4 loop)
end
/-! ### its meaning -/
def compLE (g : Gf) (t : Tf) (f : Ef) (δ : En) : List PyData → Rs (List PyData)
  | [] => .ok []
  | d :: r => match g d δ with
    | none => .no
    | some δ1 => match t δ1 with
      | .ok true => (f δ1).bind fun y => (compLE g t f δ r).bind fun ys => .ok (y :: ys)
      | .ok false => compLE g t f δ r
      | _ => .no
def compRE (g : Gf) (t : Tf) (f : Ef) (δ : En) (ds : List PyData) : Rs PyData := if ds.length ≤ 100000 then (compLE g t f δ ds).bind fun ys => .ok (.list ys) else .no
def xLcE (z : Af) (vs : List Nat) (g : Gf) (t : Tf) (f : Ef) : Ef := fun δ => (z δ).bind fun ds => compRE g t f (wipeE δ vs) ds
section
variable {X : Cx} {G : Gd} {B : Bs} {W : WX} {tg iter elt c : Expr} {ifs : List Expr} {z : Af} {g : Gf} {t : Tf} {f : Ef} {pos : Pos}
theorem rs_assoc {α β γ : Type} (x : Rs α) (k : α → Rs β) (l : β → Rs γ) : (x.bind k).bind l = x.bind fun a => (k a).bind l := by cases x <;> rfl
theorem lcE_read {own : List (Str × Nat)} {js : List Nat} (hj : ∀ j ∈ js, j ∈ own.map (·.2)) {σ : L2.St} {H : Hp} {Q : VK} (q : tR G B W (xLcE z (own.map (·.2)) g t f) σ H Q) : tLc (tJ G B W z) (tG G B js g) (tT G B W0 t) (tR G B (fun cls d _ H => W cls d σ H) f) (own.map (·.2)) σ H Q := by
  obtain ⟨δ, F, R, k⟩ := q
  refine ⟨δ, F, R, ?_⟩
  unfold xLcE at k
  cases ez : z δ with
  | err c => rw [ez] at k; exact k
  | no => rw [ez] at k; exact k
  | ok ds =>
    rw [ez] at k
    intro J vs F1 H1 x its dr D hD
    have k1 : kE G W F1 H1 σ Q (compRE g t f (wipeE δ (own.map (·.2))) ds) := kE.ext k x
    unfold compRE at k1
    by_cases hlen : ds.length ≤ 100000
    · rw [if_pos hlen] at k1
      have Rw := (R.ext x).wipe (own.map (·.2))
      have hl := dr.length
      have hF1 : F1 D = none := x.fh.back hD
      generalize hout : ((compLE g t f (wipeE δ (own.map (·.2))) ds).bind fun ys => Rs.ok (PyData.list ys)) = out at k1
      refine ⟨fun i m H => i + m = ds.length ∧ ∃ F' accV acc, Ext F1 H1 F' H ∧ F' D = none ∧ H D = some (.lst accV) ∧ DrAll G F' accV acc ∧ ((compLE g t f (wipeE δ (own.map (·.2))) (ds.drop i)).bind fun ys => Rs.ok (PyData.list (acc ++ ys))) = out ∧ accV.length ≤ i,
        ⟨ds.length, Nat.zero_add _, F1, [], [], ⟨Ex.refl F1, upd_ext x.fh _ hF1, Ex.new hD, fun _ h _ => h⟩, hF1, upd_same, .nil, by rw [List.drop_zero]; exact hout, Nat.le_refl _⟩, fun i m H2 hw => ?_⟩
      obtain ⟨hm, F2, accV, acc, x2, fD, hD2, ra, eq2, hacc⟩ := hw
      by_cases hi : i < ds.length
      · refine .inr ⟨its.go i H2 x2.hh (by omega), fun H' => i + 1 + (m - 1) = ds.length ∧ ∃ F' accV acc, Ext F1 H1 F' H' ∧ F' D = none ∧ H' D = some (.lst accV) ∧ DrAll G F' accV acc ∧ ((compLE g t f (wipeE δ (own.map (·.2))) (ds.drop (i + 1))).bind fun ys => Rs.ok (PyData.list (acc ++ ys))) = out ∧ accV.length ≤ i + 1,
          fun H' hN => ⟨m - 1, by omega, hN⟩, fun y H' hy => ?_⟩
        obtain ⟨rfl, hv⟩ := its.yld i H2 y H' x2.hh (by omega) hy
        obtain ⟨d, hd, rd⟩ := dr.getV hv
        have e2 : ds.drop i = d :: ds.drop (i + 1) := by
          have q : d = ds[i] := by rw [List.getElem?_eq_getElem hi] at hd; exact (Option.some.inj hd).symm
          rw [q]
          exact List.drop_eq_getElem_cons hi
        rw [e2, compLE] at eq2
        cases eg : g d (wipeE δ (own.map (·.2))) with
        | none =>
          rw [eg] at eq2
          have eq3 : Rs.no = out := eq2
          rw [← eq3] at k1
          exact k1.elim
        | some δ1 =>
          rw [eg] at eq2
          dsimp only at eq2
          refine ⟨_, F2, d, δ1, Rw.ext x2, rd.mono x2.ff, eg, fun σ3 R3 hbut => ⟨?_, δ1, F2, R3, ?_⟩⟩
          · have ww := hbut (own.map (·.2)) hj
            rw [ww]
            have idem : ∀ (vs ws : List Nat), (∀ v ∈ vs, v ∈ ws) → L2.wipe (L2.wipe σ vs) ws = L2.wipe σ ws := by
              intro vs
              induction vs with
              | nil => intro ws _; rfl
              | cons v vs ih =>
                intro ws h
                show L2.wipe ((L2.wipe σ vs).set v none) ws = _
                rw [setNone (h v List.mem_cons_self)]
                exact ih ws fun u hu => h u (List.mem_cons_of_mem _ hu)
            exact idem _ _ fun _ h => h
          · cases et : t δ1 with
            | err c =>
              rw [et] at eq2
              have eq3 : Rs.no = out := eq2
              rw [← eq3] at k1
              exact k1.elim
            | no =>
              rw [et] at eq2
              have eq3 : Rs.no = out := eq2
              rw [← eq3] at k1
              exact k1.elim
            | ok bb =>
              rw [et] at eq2
              intro F3 H3 x3
              have x23 : Ext F1 H1 F3 H3 := x2.trans x3
              have fD3 : F3 D = none := x3.nb D fD (by rw [hD2]; exact fun z => nomatch z)
              cases bb with
              | false =>
                exact ⟨by omega, F3, accV, acc, x23, fD3, x3.hh _ _ hD2, ra.mono x3.ff, eq2, by omega⟩
              | true =>
                dsimp only at eq2
                refine ⟨δ1, F3, R3.ext x3, ?_⟩
                cases ef : f δ1 with
                | err c =>
                  rw [ef] at eq2
                  have eq3 : Rs.err c = out := eq2
                  rw [← eq3] at k1
                  exact fun F' H' x4 => k1 F' H' (x23.trans x4)
                | no =>
                  rw [ef] at eq2
                  have eq3 : Rs.no = out := eq2
                  rw [← eq3] at k1
                  exact k1.elim
                | ok yd =>
                  rw [ef, Rs.bind_ok, rs_assoc] at eq2
                  intro yv F4 H4 x4 ry
                  have fD4 : F4 D = none := x4.nb D fD3 (by rw [x3.hh _ _ hD2]; exact fun z => nomatch z)
                  have x24 := x23.trans x4
                  refine ⟨accV, x4.hh _ _ (x3.hh _ _ hD2), bigLt (by omega), by omega, F4, accV ++ [yv], acc ++ [yd], ⟨x24.ff, upd_ext x24.fh _ fD4, fun a o h => ?_, x24.nb⟩, fD4, upd_same, ((ra.mono x3.ff).mono x4.ff).append (.cons ry .nil), ?_, by rw [List.length_append]; show accV.length + 1 ≤ i + 1; omega⟩
                  · rw [upd_ne (ne_of_none h hD)]
                    exact x24.hh a o h
                  · rw [← eq2]
                    congr 1
                    funext ys
                    rw [Rs.bind_ok, List.append_assoc]
                    rfl
      · have e0 : i = vs.length := by omega
        have e2 : ds.drop i = [] := List.drop_of_length_le (by omega)
        rw [e2, compLE, Rs.bind_ok, List.append_nil] at eq2
        rw [← eq2] at k1
        refine .inl ⟨by rw [e0]; exact its.stop H2 x2.hh, ?_⟩
        refine k1 (.ref D) (upd F2 D (.lst accV)) H2 ⟨x2.ff.trans (Ex.new fD), fun a o h => ?_, x2.hh, fun a h1 h2 => ?_⟩ (.lst upd_same (ra.mono (Ex.new fD)))
        · by_cases z : a = D
          · subst z; rw [upd_same] at h; cases h; exact hD2
          · rw [upd_ne z] at h; exact x2.fh a o h
        · have z : a ≠ D := fun z => h2 (z ▸ hD)
          rw [upd_ne z]
          exact x2.nb a h1 h2
    · rw [if_neg hlen] at k1
      exact k1.elim
theorem c_lcE (own : List (Str × Nat)) {js : List Nat} {scope : Scope} (tk : Takes X W) (hc : X.calm = true) (hN : X.N.Nodup) (hi : PI X tg iter (tJ G B W z)) (ok : blkC X.N X.env.scope scope own = true)
    (hg : ∀ (s : Shared) (H : Hp) (C : Addr) (cl : List (Str × Addr)) (fp : List Addr), PG (X.blk s H scope (compEnvC scope cl C X.env) fp) tg (tG G B js g)) (ht : ∀ (s : Shared) (H : Hp) (C : Addr) (cl : List (Str × Addr)) (fp : List Addr), PTs (X.blk s H scope (compEnvC scope cl C X.env) fp) ifs (tT G B W0 t))
    (he : ∀ (s : Shared) (H : Hp) (C : Addr) (cl : List (Str × Addr)) (fp : List Addr) (W : WX) (pn : List (Addr × Obj)) (xe : Value → Shared → Prop), Takes ((X.blk s H scope (compEnvC scope cl C X.env) fp).tr pn xe) W → PE ((X.blk s H scope (compEnvC scope cl C X.env) fp).tr pn xe) elt (tR G B W f)) (hj : ∀ j ∈ js, j ∈ own.map (·.2) := by decide)
    (hst : X.stack = X.env :: X.outer := by rfl) (hf : X.env.frame = some X.env.locals := by rfl) (hs : ∀ x, foldedSetIterable iter X.env x = pure x := by intro _; rfl) :
    PE X (.ListComp elt [⟨tg, iter, ifs, 0⟩] scope pos) (tR G B W (xLcE z (own.map (·.2)) g t f)) := by
  refine ⟨fun pins s σ H Q I h => ?_⟩
  rw [eval_ListComp]
  refine lcE_core (te := fun W => tR G B W f) tk hst hf hc hN I hi (blkOk_by ok) hg ht he hs (lcE_read hj h) fun D C s' m H' h'' I' q hn f sb => ?_
  obtain ⟨f0, f1, f2, f3, f4, f5⟩ := f
  exact ⟨.ref D, H', I'.turned (t' := s'.toks) (fun b o hb e => (sb.2 b hb).trans e) f0 f1 f3 f4 f5, rfl, q⟩
end
end LY

set_option maxHeartbeats 4000000
namespace LY
open PySem PySem.Spec PyProof.Rows L2
def topS (i : Nat) : Stmt := PySem.Challenge.pw_learnyard_k60_texts.main.body.getD i (.Pass ⟨0, 0, 0, 0⟩)
def tbl_BadNumber : List (String × Bool) := [("BadRules", false), ("BadText", false)]
def tbl_BadRules : List (String × Bool) := [("BadRules", true), ("BadText", false)]
def tbl_BadState : List (String × Bool) := [("BadRules", false), ("BadText", false)]
def tbl_BadText : List (String × Bool) := [("BadRules", false), ("BadText", true)]
def tbl_Unlike : List (String × Bool) := [("BadRules", false), ("BadText", false)]
def tbl_ValueError : List (String × Bool) := [("BadRules", true), ("BadText", true)]
def below_BadRules (c : String) : Option Bool := if c = "BadRules" then some true else if c = "BadText" then some false else none
def below_LearnError (c : String) : Option Bool := if c = "BadRules" then some true else if c = "BadText" then some true else none
abbrev st_is_set : Stmt := topS 10
theorem sc_is_set : FnScope ["many", "things", "thing"] ["many", "things"] (defScope st_is_set) := ⟨rfl, rfl, rfl, by decide +kernel, rfl, by decide +kernel, by decide +kernel⟩
abbrev st_look_rules : Stmt := topS 11
theorem sc_look_rules : FnScope ["rules", "many", "ways", "k", "thing", "needed"] ["rules"] (defScope st_look_rules) := ⟨rfl, rfl, rfl, by decide +kernel, rfl, by decide +kernel, by decide +kernel⟩
abbrev st_written : Stmt := topS 14
theorem sc_written : FnScope ["rules", "rows", "thing", "needed", "one"] ["rules"] (defScope st_written) := ⟨rfl, rfl, rfl, by decide +kernel, rfl, by decide +kernel, by decide +kernel⟩
abbrev st_number_in : Stmt := topS 15
theorem sc_number_in : FnScope ["word", "sign"] ["word"] (defScope st_number_in) := ⟨rfl, rfl, rfl, by decide +kernel, rfl, by decide +kernel, by decide +kernel⟩
abbrev st_read : Stmt := topS 16
theorem sc_read : FnScope ["text", "rows", "ways", "row", "words", "found", "kept", "e", "word"] ["text"] (defScope st_read) := ⟨rfl, rfl, rfl, by decide +kernel, rfl, by decide +kernel, by decide +kernel⟩
abbrev st__law_cell : Stmt := topS 18
theorem sc__law_cell : FnScope ["_law_script", "_law_k"] ["_law_script", "_law_k"] (defScope st__law_cell) := ⟨rfl, rfl, rfl, by decide +kernel, rfl, by decide +kernel, by decide +kernel⟩
abbrev st__law_mix : Stmt := topS 19
theorem sc__law_mix : FnScope ["_law_script", "_law_k", "_law_number"] ["_law_script", "_law_k"] (defScope st__law_mix) := ⟨rfl, rfl, rfl, by decide +kernel, rfl, by decide +kernel, by decide +kernel⟩
abbrev st__law_subset : Stmt := topS 20
theorem sc__law_subset : FnScope ["_law_script", "_law_k", "_law_things", "_law_number", "_law_j"] ["_law_script", "_law_k", "_law_things"] (defScope st__law_subset) := ⟨rfl, rfl, rfl, by decide +kernel, rfl, by decide +kernel, by decide +kernel⟩
abbrev st__law_rules : Stmt := topS 21
theorem sc__law_rules : FnScope ["_law_script", "_law_k", "_law_most", "_law_many", "_law_found", "_law_thing", "_law_others", "_law_j", "_law_needed", "_law_one"] ["_law_script", "_law_k", "_law_most"] (defScope st__law_rules) := ⟨rfl, rfl, rfl, by decide +kernel, rfl, by decide +kernel, by decide +kernel⟩
abbrev st__law_refusal : Stmt := topS 22
theorem sc__law_refusal : FnScope ["_law_kept", "_law_kinds"] ["_law_kept"] (defScope st__law_refusal) := ⟨rfl, rfl, rfl, by decide +kernel, rfl, by decide +kernel, by decide +kernel⟩
abbrev st__law_text : Stmt := topS 23
theorem sc__law_text : FnScope ["_law_rules_here", "_law_rows", "_law_thing", "_law_needed", "_law_one"] ["_law_rules_here"] (defScope st__law_text) := ⟨rfl, rfl, rfl, by decide +kernel, rfl, by decide +kernel, by decide +kernel⟩
abbrev st__law_numbers : Stmt := topS 24
theorem sc__law_numbers : FnScope ["_law_words", "_law_found", "_law_word", "_law_one"] ["_law_words"] (defScope st__law_numbers) := ⟨rfl, rfl, rfl, by decide +kernel, rfl, by decide +kernel, by decide +kernel⟩
abbrev st__law_tried : Stmt := topS 25
theorem sc__law_tried : FnScope ["_law_text_here", "_law_rows", "_law_many", "_law_ways", "_law_row", "_law_words", "_law_thing", "_law_needed"] ["_law_text_here"] (defScope st__law_tried) := ⟨rfl, rfl, rfl, by decide +kernel, rfl, by decide +kernel, by decide +kernel⟩
abbrev st__law_are_rules : Stmt := topS 26
theorem sc__law_are_rules : FnScope ["_law_tried_here", "_law_kept", "e"] ["_law_tried_here"] (defScope st__law_are_rules) := ⟨rfl, rfl, rfl, by decide +kernel, rfl, by decide +kernel, by decide +kernel⟩
abbrev st_law : Stmt := topS 27
theorem sc_law : FnScope ["_law_script", "_law_rules_here", "_law_text_here", "_law_k", "_law_number", "_law_at", "_law_one", "_law_some", "_law_kept", "_law_found", "e", "_law_tried_here"] ["_law_script"] (defScope st_law) := ⟨rfl, rfl, rfl, by decide +kernel, rfl, by decide +kernel, by decide +kernel⟩
/-! ### what the defs compute -/
def f_is_set : Sf := (sRet (xAnd (xOp gEq (xCall gList (xCons (xVar 1) xNil)) (xSortSet (xVar 1))) (xCall gAll (xCons (xLc (zSeq (xVar 1)) [2] (tg1 2) yTrue (xChain gLe gLt (xC (.int 0)) (xVar 2) (xVar 0))) xNil))))
def s_is_set (ds : List PyData) : Rs PyData := toRs (f_is_set (padE 3 ds))
def f_look_rules : Sf := (sSeq (sAsg (xVar 0) (tgN [1, 2])) (sSeq (sIf (yOr (yNot (yB (xChain gLe gLe (xC (.int 0)) (xVar 1) (xC (.int 10))))) (yB (xOp gGt (xCall gLen (xCons (xVar 2) xNil)) (xC (.int 1300))))) (sRaise "BadRules") sNil) (sFor (zRange (xCall gLen (xCons (xVar 2) xNil))) (tg1 3) (sSeq (sIf (yOr (yB (xOp gNe (xCall gLen (xCons (xOp gIdx (xVar 2) (xVar 3)) xNil)) (xC (.int 2)))) (yNot (yB (xChain gLe gLt (xC (.int 0)) (xOp gIdx (xOp gIdx (xVar 2) (xVar 3)) (xC (.int 0))) (xVar 1))))) (sRaise "BadRules") sNil) (sSeq (sAsg (xOp gIdx (xVar 2) (xVar 3)) (tgN [4, 5])) (sIf (yOr (yNot (yT (xFn 2 s_is_set (xCons (xVar 1) (xCons (xVar 5) xNil))))) (yOr (yB (xOp gIn (xVar 4) (xVar 5))) (yAnd (yB (xOp gGt (xVar 3) (xC (.int 0)))) (yNot (yB (xOp gLt (xOp gIdx (xVar 2) (xOp gSub (xVar 3) (xC (.int 1)))) (xOp gIdx (xVar 2) (xVar 3)))))))) (sRaise "BadRules") sNil))))))
def s_look_rules (ds : List PyData) : Rs PyData := toRs (f_look_rules (padE 6 ds))
def f_written : Sf := (sSeq (sExpr (xFn 1 s_look_rules (xCons (xVar 0) xNil))) (sSeq (sOwn 1 (xCons (xOp gAdd (xC (.str (Str.ofString "things "))) (xCall gStr (xCons (xOp gIdx (xVar 0) (xC (.int 0))) xNil))) xNil)) (sSeq (sFor (zSeq (xOp gIdx (xVar 0) (xC (.int 1)))) (tgN [2, 3]) (sApp 1 (xStr1 gJoin (xC (.str (Str.ofString " "))) (xOp gAdd (xCall gLstD (xCons (xOp gAdd (xCall gStr (xCons (xVar 2) xNil)) (xC (.str (Str.ofString ":")))) xNil)) (xLc (zSeq (xVar 3)) [4] (tg1 4) yTrue (xCall gStr (xCons (xVar 4) xNil))))))) (fun δ => (sRet (xStr1 gJoin (xC (.str (Str.ofString "\n"))) (xVar 1))) (frz 1 δ)))))
def s_written (ds : List PyData) : Rs PyData := toRs (f_written (padE 5 ds))
def f_number_in : Sf := (sSeq (sIf (yOr (yNot (yB (xChain gLe gLe (xC (.int 1)) (xCall gLen (xCons (xVar 0) xNil)) (xC (.int 2))))) (yOr (yNot (yT (xCall gAll (xCons (xLc (zStr (xVar 0)) [1] (tg1 1) yTrue (xOp gIn (xVar 1) (xC (.str (Str.ofString "0123456789"))))) xNil)))) (yAnd (yB (xOp gEq (xOp gIdx (xVar 0) (xC (.int 0))) (xC (.str (Str.ofString "0"))))) (yB (xOp gNe (xVar 0) (xC (.str (Str.ofString "0")))))))) (sRaise "BadText") sNil) (sRet (xCall gInt (xCons (xVar 0) xNil))))
def s_number_in (ds : List PyData) : Rs PyData := toRs (f_number_in (padE 2 ds))
def f_read : Sf := (sSeq (sAsg (xStr1 gSplit (xVar 0) (xC (.str (Str.ofString "\n")))) (tg1 1)) (sSeq (sIf (yB (xOp gNe (xCut (xOp gIdx (xVar 1) (xC (.int 0))) pNone (pSome (xC (.int 7)))) (xC (.str (Str.ofString "things "))))) (sRaise "BadText") sNil) (sSeq (sOwn 2 xNil) (sSeq (sFor (zSeq (xCut (xVar 1) (pSome (xC (.int 1))) pNone)) (tg1 3) (sSeq (sAsg (xStr1 gSplit (xVar 3) (xC (.str (Str.ofString " ")))) (tg1 4)) (sSeq (sIf (yB (xOp gNe (xCut (xOp gIdx (xVar 4) (xC (.int 0))) (pSome (xUn gNeg (xC (.int 1)))) pNone) (xC (.str (Str.ofString ":"))))) (sRaise "BadText") sNil) (sApp 2 (xCall gTupD (xCons (xFn 1 s_number_in (xCons (xCut (xOp gIdx (xVar 4) (xC (.int 0))) pNone (pSome (xUn gNeg (xC (.int 1))))) xNil)) (xCons (xCall gTuple (xCons (xLcE (zSeq (xCut (xVar 4) (pSome (xC (.int 1))) pNone)) [8] (tg1 8) yTrue (xFn 1 s_number_in (xCons (xVar 8) xNil))) xNil)) xNil))))))) (sSeq (fun δ => (sAsg (xCall gTupD (xCons (xFn 1 s_number_in (xCons (xCut (xOp gIdx (xVar 1) (xC (.int 0))) (pSome (xC (.int 7))) pNone) xNil)) (xCons (xVar 2) xNil))) (tg1 5)) (frz 2 δ)) (sSeq (sAsg (xC .none) (tg1 6)) (sSeq (sTry 7 6 below_BadRules (sExpr (xFn 1 s_look_rules (xCons (xVar 5) xNil)))) (sSeq (sIf (yB (xOp gIsNot (xVar 6) (xC .none))) (sRaise "BadText") sNil) (sRet (xVar 5))))))))))
def s_read (ds : List PyData) : Rs PyData := toRs (f_read (padE 9 ds))
def f__law_cell : Sf := (sSeq (sIf (yT (xVar 0)) (sRet (xOp gIdx (xVar 0) (xOp gMod (xVar 1) (xCall gLen (xCons (xVar 0) xNil))))) sNil) (sRet (xC (.int 0))))
def s__law_cell (ds : List PyData) : Rs PyData := toRs (f__law_cell (padE 2 ds))
def f__law_mix : Sf := (sSeq (sAsg (xOp gMod (xOp gAdd (xFn 2 s__law_cell (xCons (xVar 0) (xCons (xVar 1) xNil))) (xOp gMul (xC (.int 104729)) (xOp gAdd (xVar 1) (xC (.int 1))))) (xC (.int 4294967291))) (tg1 2)) (sSeq (sAsg (xOp gMod (xOp gMul (xVar 2) (xC (.int 48271))) (xC (.int 4294967279))) (tg1 2)) (sRet (xOp gMod (xOp gAdd (xOp gMul (xOp gDiv (xVar 2) (xC (.int 64))) (xC (.int 69621))) (xVar 2)) (xC (.int 4294967231))))))
def s__law_mix (ds : List PyData) : Rs PyData := toRs (f__law_mix (padE 3 ds))
def f__law_subset : Sf := (sSeq (sAsg (xOp gDiv (xFn 2 s__law_mix (xCons (xVar 0) (xCons (xVar 1) xNil))) (xC (.int 8))) (tg1 3)) (sRet (xCall gTuple (xCons (xLc (zRange (xCall gLen (xCons (xVar 2) xNil))) [4] (tg1 4) (yB (xOp gEq (xOp gMod (xOp gDiv (xVar 3) (xOp gIdx (xCall gLstD (xCons (xC (.int 1)) (xCons (xC (.int 2)) (xCons (xC (.int 4)) (xCons (xC (.int 8)) (xCons (xC (.int 16)) (xCons (xC (.int 32)) (xCons (xC (.int 64)) xNil)))))))) (xVar 4))) (xC (.int 2))) (xC (.int 1)))) (xOp gIdx (xVar 2) (xVar 4))) xNil))))
def s__law_subset (ds : List PyData) : Rs PyData := toRs (f__law_subset (padE 5 ds))
def f__law_rules : Sf := (sSeq (sAsg (xOp gMod (xFn 2 s__law_mix (xCons (xVar 0) (xCons (xVar 1) xNil))) (xOp gAdd (xVar 2) (xC (.int 1)))) (tg1 3)) (sSeq (sOwn 4 xNil) (sSeq (sFor (zRange (xVar 3)) (tg1 5) (sSeq (sAsg (xLc (zRange (xVar 3)) [9] (tg1 9) (yB (xOp gNe (xVar 9) (xVar 5))) (xVar 9)) (tg1 6)) (sFor (zRange (xOp gIdx (xCall gLstD (xCons (xC (.int 1)) (xCons (xC (.int 1)) (xCons (xC (.int 2)) (xCons (xC (.int 2)) (xCons (xC (.int 3)) (xCons (xC (.int 0)) xNil))))))) (xOp gMod (xFn 2 s__law_mix (xCons (xVar 0) (xCons (xOp gAdd (xOp gAdd (xVar 1) (xC (.int 1))) (xVar 5)) xNil))) (xC (.int 6))))) (tg1 7) (sSeq (sAsg (xFn 3 s__law_subset (xCons (xVar 0) (xCons (xOp gAdd (xOp gAdd (xOp gAdd (xVar 1) (xC (.int 10))) (xOp gMul (xC (.int 4)) (xVar 5))) (xVar 7)) (xCons (xVar 6) xNil)))) (tg1 8)) (sSeq (sIf (yB (xOp gGt (xOp gMod (xFn 2 s__law_mix (xCons (xVar 0) (xCons (xOp gAdd (xOp gAdd (xOp gAdd (xVar 1) (xC (.int 40))) (xOp gMul (xC (.int 4)) (xVar 5))) (xVar 7)) xNil))) (xC (.int 3))) (xC (.int 0)))) (sAsg (xCut (xVar 8) pNone (pSome (xOp gAdd (xC (.int 1)) (xOp gMod (xFn 2 s__law_mix (xCons (xVar 0) (xCons (xOp gAdd (xOp gAdd (xOp gAdd (xVar 1) (xC (.int 41))) (xOp gMul (xC (.int 4)) (xVar 5))) (xVar 7)) xNil))) (xC (.int 2)))))) (tg1 8)) sNil) (sApp 4 (xCall gTupD (xCons (xVar 5) (xCons (xIf (yB (xOp gGt (xOp gMod (xFn 2 s__law_mix (xCons (xVar 0) (xCons (xOp gAdd (xOp gAdd (xVar 1) (xC (.int 70))) (xVar 5)) xNil))) (xC (.int 4))) (xC (.int 0)))) (xVar 8) (xCall gTupD xNil)) xNil))))))))) (fun δ => (sRet (xCall gTupD (xCons (xVar 3) (xCons (xSortSet (xVar 4)) xNil)))) (frz 4 δ)))))
def s__law_rules (ds : List PyData) : Rs PyData := toRs (f__law_rules (padE 10 ds))
def f__law_refusal : Sf := (sSeq (sIf (yB (xOp gIs (xVar 0) (xC .none))) (sRet (xC (.str (Str.ofString "ok")))) sNil) (sSeq (sAsg (xCall gLstD (xCons (xIsi (excTbl tbl_BadNumber) (xVar 0)) (xCons (xIsi (excTbl tbl_BadRules) (xVar 0)) (xCons (xIsi (excTbl tbl_BadState) (xVar 0)) xNil)))) (tg1 1)) (sSeq (sAsg (xOp gAdd (xVar 1) (xCall gLstD (xCons (xIsi (excTbl tbl_BadText) (xVar 0)) (xCons (xIsi (excTbl tbl_Unlike) (xVar 0)) xNil)))) (tg1 1)) (sSeq (sIf (yOr (yB (xOp gNe (xMeth gCount (xVar 1) (xC (.bool true))) (xC (.int 1)))) (yNot (yT (xIsi (excTbl tbl_ValueError) (xVar 0))))) (sRet (xC (.str (Str.ofString "wrong")))) sNil) (sRet (xOp gIdx (xCall gLstD (xCons (xC (.str (Str.ofString "number"))) (xCons (xC (.str (Str.ofString "rules"))) (xCons (xC (.str (Str.ofString "state"))) (xCons (xC (.str (Str.ofString "text"))) (xCons (xC (.str (Str.ofString "unlike"))) xNil)))))) (xMeth gIndex (xVar 1) (xC (.bool true)))))))))
def s__law_refusal (ds : List PyData) : Rs PyData := toRs (f__law_refusal (padE 2 ds))
def f__law_text : Sf := (sSeq (sOwn 1 (xCons (xOp gAdd (xC (.str (Str.ofString "things "))) (xCall gStr (xCons (xOp gIdx (xVar 0) (xC (.int 0))) xNil))) xNil)) (sSeq (sFor (zSeq (xOp gIdx (xVar 0) (xC (.int 1)))) (tgN [2, 3]) (sApp 1 (xOp gAdd (xOp gAdd (xCall gStr (xCons (xVar 2) xNil)) (xC (.str (Str.ofString ":")))) (xStr1 gJoin (xC (.str (Str.ofString ""))) (xLc (zSeq (xVar 3)) [4] (tg1 4) yTrue (xOp gAdd (xC (.str (Str.ofString " "))) (xCall gStr (xCons (xVar 4) xNil)))))))) (fun δ => (sRet (xStr1 gJoin (xC (.str (Str.ofString "\n"))) (xVar 1))) (frz 1 δ))))
def s__law_text (ds : List PyData) : Rs PyData := toRs (f__law_text (padE 5 ds))
def f__law_numbers : Sf := (sSeq (sOwn 1 xNil) (sSeq (sFor (zSeq (xVar 0)) (tg1 2) (sSeq (sIf (yOr (yB (xOp gEq (xVar 2) (xC (.str (Str.ofString ""))))) (yOr (yB (xOp gGt (xCall gLen (xCons (xVar 2) xNil)) (xC (.int 2)))) (yOr (yNot (yT (xCall gAll (xCons (xLc (zStr (xVar 2)) [3] (tg1 3) yTrue (xOp gIn (xVar 3) (xC (.str (Str.ofString "0123456789"))))) xNil)))) (yB (xOp gNe (xCall gStr (xCons (xCall gInt (xCons (xVar 2) xNil)) xNil)) (xVar 2)))))) (sRet (xC .none)) sNil) (sApp 1 (xCall gInt (xCons (xVar 2) xNil))))) (fun δ => (sRet (xVar 1)) (frz 1 δ))))
def s__law_numbers (ds : List PyData) : Rs PyData := toRs (f__law_numbers (padE 4 ds))
def f__law_tried : Sf := (sSeq (sAsg (xStr1 gSplit (xVar 0) (xC (.str (Str.ofString "\n")))) (tg1 1)) (sSeq (sAsg (xFn 1 s__law_numbers (xCons (xCall gLstD (xCons (xCut (xOp gIdx (xVar 1) (xC (.int 0))) (pSome (xC (.int 7))) pNone) xNil)) xNil)) (tg1 2)) (sSeq (sIf (yOr (yB (xOp gNe (xCut (xOp gIdx (xVar 1) (xC (.int 0))) pNone (pSome (xC (.int 7)))) (xC (.str (Str.ofString "things "))))) (yB (xOp gIs (xVar 2) (xC .none)))) (sRet (xC .none)) sNil) (sSeq (sOwn 3 xNil) (sSeq (sFor (zSeq (xCut (xVar 1) (pSome (xC (.int 1))) pNone)) (tg1 4) (sSeq (sAsg (xStr1 gSplit (xVar 4) (xC (.str (Str.ofString " ")))) (tg1 5)) (sSeq (sAsg (xFn 1 s__law_numbers (xCons (xCall gLstD (xCons (xCut (xOp gIdx (xVar 5) (xC (.int 0))) pNone (pSome (xUn gNeg (xC (.int 1))))) xNil)) xNil)) (tg1 6)) (sSeq (sAsg (xFn 1 s__law_numbers (xCons (xCut (xVar 5) (pSome (xC (.int 1))) pNone) xNil)) (tg1 7)) (sSeq (sIf (yOr (yB (xOp gNe (xCut (xOp gIdx (xVar 5) (xC (.int 0))) (pSome (xUn gNeg (xC (.int 1)))) pNone) (xC (.str (Str.ofString ":"))))) (yOr (yB (xOp gIs (xVar 6) (xC .none))) (yB (xOp gIs (xVar 7) (xC .none))))) (sRet (xC .none)) sNil) (sApp 3 (xCall gTupD (xCons (xOp gIdx (xVar 6) (xC (.int 0))) (xCons (xCall gTuple (xCons (xVar 7) xNil)) xNil))))))))) (fun δ => (sRet (xCall gTupD (xCons (xOp gIdx (xVar 2) (xC (.int 0))) (xCons (xVar 3) xNil)))) (frz 3 δ)))))))
def s__law_tried (ds : List PyData) : Rs PyData := toRs (f__law_tried (padE 8 ds))
def f__law_are_rules : Sf := (sSeq (sAsg (xC .none) (tg1 1)) (sSeq (sTry 2 1 below_BadRules (sExpr (xFn 1 s_look_rules (xCons (xVar 0) xNil)))) (sRet (xOp gIs (xVar 1) (xC .none)))))
def s__law_are_rules (ds : List PyData) : Rs PyData := toRs (f__law_are_rules (padE 3 ds))
def f_law : Sf := (sSeq (sAsg (xFn 3 s__law_rules (xCons (xVar 0) (xCons (xC (.int 0)) (xCons (xC (.int 5)) xNil)))) (tg1 1)) (sSeq (sAsg (xFn 1 s__law_text (xCons (xVar 1) xNil)) (tg1 2)) (sSeq (sIf (yOr (yB (xOp gNe (xFn 1 s_written (xCons (xVar 1) xNil)) (xVar 2))) (yB (xOp gNe (xFn 1 s_read (xCons (xVar 2) xNil)) (xVar 1)))) (sRet (xC (.bool false))) sNil) (sSeq (sFor (zRange (xOp gAdd (xC (.int 1)) (xOp gMod (xFn 2 s__law_mix (xCons (xVar 0) (xCons (xC (.int 100)) xNil))) (xC (.int 2))))) (tg1 3) (sSeq (sAsg (xFn 2 s__law_mix (xCons (xVar 0) (xCons (xOp gAdd (xC (.int 101)) (xVar 3)) xNil))) (tg1 4)) (sSeq (sAsg (xOp gMod (xOp gDiv (xVar 4) (xC (.int 8))) (xOp gAdd (xCall gLen (xCons (xVar 2) xNil)) (xC (.int 1)))) (tg1 5)) (sSeq (sAsg (xOp gIdx (xC (.str (Str.ofString "012 :\nths49-"))) (xOp gMod (xOp gDiv (xVar 4) (xC (.int 4096))) (xC (.int 12)))) (tg1 6)) (sSeq (sAsg (xCall gLstD (xCons (xOp gAdd (xOp gAdd (xCut (xVar 2) pNone (pSome (xVar 5))) (xVar 6)) (xCut (xVar 2) (pSome (xVar 5)) pNone)) (xCons (xOp gAdd (xOp gAdd (xCut (xVar 2) pNone (pSome (xVar 5))) (xVar 6)) (xCut (xVar 2) (pSome (xOp gAdd (xVar 5) (xC (.int 1)))) pNone)) (xCons (xOp gAdd (xCut (xVar 2) pNone (pSome (xVar 5))) (xCut (xVar 2) (pSome (xOp gAdd (xVar 5) (xC (.int 1)))) pNone)) xNil)))) (tg1 7)) (sAsg (xOp gIdx (xVar 7) (xOp gMod (xVar 4) (xC (.int 3)))) (tg1 2))))))) (sSeq (sAsg (xC .none) (tg1 8)) (sSeq (sAsg (xC .none) (tg1 9)) (sSeq (sTry 10 8 below_LearnError (sAsg (xFn 1 s_read (xCons (xVar 2) xNil)) (tg1 9))) (sSeq (sAsg (xFn 1 s__law_tried (xCons (xVar 2) xNil)) (tg1 11)) (sSeq (sIf (yAnd (yB (xOp gIsNot (xVar 11) (xC .none))) (yT (xFn 1 s__law_are_rules (xCons (xVar 11) xNil)))) (sRet (xAnd (xOp gIs (xVar 8) (xC .none)) (xOp gEq (xVar 9) (xVar 11)))) sNil) (sSeq (sIf (yB (xOp gNe (xFn 1 s__law_refusal (xCons (xVar 8) xNil)) (xC (.str (Str.ofString "text"))))) (sRet (xC (.bool false))) sNil) (sSeq (sAsg (xC .none) (tg1 8)) (sSeq (sTry 10 8 below_LearnError (sExpr (xFn 1 s_written (xCons (xCall gTupD (xCons (xC (.int 1)) (xCons (xCall gLstD (xCons (xCall gTupD (xCons (xC (.int 0)) (xCons (xCall gTupD (xCons (xC (.int 0)) xNil)) xNil))) xNil)) xNil))) xNil)))) (sRet (xOp gEq (xFn 1 s__law_refusal (xCons (xVar 8) xNil)) (xC (.str (Str.ofString "rules")))))))))))))))))
def s_law (ds : List PyData) : Rs PyData := toRs (f_law (padE 12 ds))
/-! ### what the top has -/
structure Top (K : PySem.W.Frag) (mg : Str → Option Value) (ec : String → Addr) : Prop where
  B_list : mg "list" = none
  B_sorted : mg "sorted" = none
  B_set : mg "set" = none
  B_all : mg "all" = none
  B_len : mg "len" = none
  B_range : mg "range" = none
  B_str : mg "str" = none
  B_int : mg "int" = none
  B_tuple : mg "tuple" = none
  B_isinstance : mg "isinstance" = none
  B_ValueError : mg "ValueError" = none
  K_MOST_THINGS : ∃ t, mg "MOST_THINGS" = some (.int 10 t)
  K_MOST_RULES : ∃ t, mg "MOST_RULES" = some (.int 1300 t)
  K_FIGURES : ∃ t, mg "FIGURES" = some (.str (Str.ofString "0123456789") t)
  X_BadRules : mg "BadRules" = some (.ref (ec "BadRules"))
  X_BadText : mg "BadText" = some (.ref (ec "BadText"))
  X_BadNumber : mg "BadNumber" = some (.ref (ec "BadNumber"))
  X_BadState : mg "BadState" = some (.ref (ec "BadState"))
  X_Unlike : mg "Unlike" = some (.ref (ec "Unlike"))
  X_LearnError : mg "LearnError" = some (.ref (ec "LearnError"))
  Y_BadRules : PySem.W.excIn K (ec "BadRules") [.type "ValueError", .type "Exception", .type "BaseException", .type "object"] "ValueError.__new__" = true
  Z_BadRules : PySem.W.keepIn K (.ref (ec "BadRules")) = true
  R1_BadRules : PySem.W.subIn K (.ref (ec "BadRules")) (.type "BaseException") = some true
  R2_BadRules : PySem.W.typeIn K (.ref (ec "BadRules")) = some (.type "type")
  Y_BadText : PySem.W.excIn K (ec "BadText") [.type "ValueError", .type "Exception", .type "BaseException", .type "object"] "ValueError.__new__" = true
  Z_BadText : PySem.W.keepIn K (.ref (ec "BadText")) = true
  R1_BadText : PySem.W.subIn K (.ref (ec "BadText")) (.type "BaseException") = some true
  R2_BadText : PySem.W.typeIn K (.ref (ec "BadText")) = some (.type "type")
  I_BadNumber : IsTest K ec (.ref (ec "BadNumber")) (excTbl tbl_BadNumber)
  I_BadRules : IsTest K ec (.ref (ec "BadRules")) (excTbl tbl_BadRules)
  I_BadState : IsTest K ec (.ref (ec "BadState")) (excTbl tbl_BadState)
  I_BadText : IsTest K ec (.ref (ec "BadText")) (excTbl tbl_BadText)
  I_Unlike : IsTest K ec (.ref (ec "Unlike")) (excTbl tbl_Unlike)
  I_ValueError : IsTest K ec (.type "ValueError") (excTbl tbl_ValueError)
  L_BadRules : ∀ c b, below_BadRules c = some b → PySem.W.exmOne K (.ref (ec c)) (.ref (ec "BadRules")) = some b
  L_LearnError : ∀ c b, below_LearnError c = some b → PySem.W.exmOne K (.ref (ec c)) (.ref (ec "LearnError")) = some b
  D_is_set : ∃ f fd, mg "is_set" = some (.ref f) ∧ Fun K "is_set" "is_set" st_is_set f fd ∧ Binds K fd ["many", "things"] []
  D_look_rules : ∃ f fd, mg "look_rules" = some (.ref f) ∧ Fun K "look_rules" "look_rules" st_look_rules f fd ∧ Binds K fd ["rules"] []
  D_written : ∃ f fd, mg "written" = some (.ref f) ∧ Fun K "written" "written" st_written f fd ∧ Binds K fd ["rules"] []
  D_number_in : ∃ f fd, mg "number_in" = some (.ref f) ∧ Fun K "number_in" "number_in" st_number_in f fd ∧ Binds K fd ["word"] []
  D_read : ∃ f fd, mg "read" = some (.ref f) ∧ Fun K "read" "read" st_read f fd ∧ Binds K fd ["text"] []
  D__law_cell : ∃ f fd, mg "_law_cell" = some (.ref f) ∧ Fun K "_law_cell" "_law_cell" st__law_cell f fd ∧ Binds K fd ["_law_script", "_law_k"] []
  D__law_mix : ∃ f fd, mg "_law_mix" = some (.ref f) ∧ Fun K "_law_mix" "_law_mix" st__law_mix f fd ∧ Binds K fd ["_law_script", "_law_k"] []
  D__law_subset : ∃ f fd, mg "_law_subset" = some (.ref f) ∧ Fun K "_law_subset" "_law_subset" st__law_subset f fd ∧ Binds K fd ["_law_script", "_law_k", "_law_things"] []
  D__law_rules : ∃ f fd, mg "_law_rules" = some (.ref f) ∧ Fun K "_law_rules" "_law_rules" st__law_rules f fd ∧ Binds K fd ["_law_script", "_law_k", "_law_most"] []
  D__law_refusal : ∃ f fd, mg "_law_refusal" = some (.ref f) ∧ Fun K "_law_refusal" "_law_refusal" st__law_refusal f fd ∧ Binds K fd ["_law_kept"] []
  D__law_text : ∃ f fd, mg "_law_text" = some (.ref f) ∧ Fun K "_law_text" "_law_text" st__law_text f fd ∧ Binds K fd ["_law_rules_here"] []
  D__law_numbers : ∃ f fd, mg "_law_numbers" = some (.ref f) ∧ Fun K "_law_numbers" "_law_numbers" st__law_numbers f fd ∧ Binds K fd ["_law_words"] []
  D__law_tried : ∃ f fd, mg "_law_tried" = some (.ref f) ∧ Fun K "_law_tried" "_law_tried" st__law_tried f fd ∧ Binds K fd ["_law_text_here"] []
  D__law_are_rules : ∃ f fd, mg "_law_are_rules" = some (.ref f) ∧ Fun K "_law_are_rules" "_law_are_rules" st__law_are_rules f fd ∧ Binds K fd ["_law_tried_here"] []
  D_law : ∃ f fd, mg "law" = some (.ref f) ∧ Fun K "law" "law" st_law f fd ∧ Binds K fd ["_law_script"] []
section
variable {P : Program} {w : World} {K : PySem.W.Frag} {mg : Str → Option Value} {base : Heap} {ec : String → Addr}
theorem okF_is_set (T : Top K mg ec) {f : Addr} {fd : FuncData} (F : Fun K "is_set" "is_set" st_is_set f fd) : FnOk P w K mg base (L2.CX P w) 1 f fd ["many", "things"] (spD ⟨P, w, K, ec⟩ 2 s_is_set) := by
  have B_list := T.B_list
  have B_sorted := T.B_sorted
  have B_set := T.B_set
  have B_all := T.B_all
  exact c_fn (k := 0) F sc_is_set fun cdv A outer s H E B hr => (c_last (c_ret (c_and (c_cmp (o_eq ⟨rfl, rfl, rfl⟩ (Rm.of hr)) (c_callT f_list B_list (c_acons (c_var 1) c_anil)) (c_sortset ⟨rfl, rfl, rfl⟩ (Rm.of hr) rfl B_sorted B_set (c_var 1))) (c_one (c_callB (f_all rfl) B_all (c_acons (c_lc [("thing", 2)] rfl sc_is_set.nd (c_j (c_iseq (c_var 1))) (by kernel_rfl) (fun _ _ _ _ _ => (c_gname 2 sc_is_set.nd)) (fun _ _ _ _ _ => c_pts0) (fun _ _ _ _ _ => (c_chain (o_le) (o_lt ⟨rfl, rfl, rfl⟩ (Rm.of hr)) c_int (c_var 2) (c_var 0)))) c_anil))))))
theorem ok_is_set (T : Top K mg ec) : DefOk P w K mg base ec 1 "is_set" ["many", "things"] s_is_set := by
  obtain ⟨f, fd, hm, F, hb⟩ := T.D_is_set
  exact ⟨f, fd, hm, F.kp, hb, okF_is_set T F⟩
theorem okF_look_rules (T : Top K mg ec) {f : Addr} {fd : FuncData} (F : Fun K "look_rules" "look_rules" st_look_rules f fd) : FnOk P w K mg base (L2.CX P w) 2 f fd ["rules"] (spD ⟨P, w, K, ec⟩ 1 s_look_rules) := by
  obtain ⟨a_is_set, fd_is_set, M_is_set, P_is_set, N_is_set, F_is_set⟩ := ok_is_set (P := P) (w := w) (base := base) T
  obtain ⟨t_MOST_THINGS, K_MOST_THINGS⟩ := T.K_MOST_THINGS
  have B_len := T.B_len
  obtain ⟨t_MOST_RULES, K_MOST_RULES⟩ := T.K_MOST_RULES
  have X_BadRules := T.X_BadRules
  have Y_BadRules := T.Y_BadRules
  have Z_BadRules := T.Z_BadRules
  have R1_BadRules := T.R1_BadRules
  have R2_BadRules := T.R2_BadRules
  have B_range := T.B_range
  exact c_fn (k := 1) F sc_look_rules fun cdv A outer s H E B hr => (c_cons (c_asg (c_var 0) (c_gtup rfl (c_gcons 1 sc_look_rules.nd (c_gcons 2 sc_look_rules.nd c_gnil)))) (c_cons (c_sif ((c_wor (c_tnot (c_tchain (o_le) (o_le) c_int (c_var 1) (c_glob K_MOST_THINGS ⟨_, rfl⟩))) (c_wor1 (c_tcmp (o_gt) (c_callB (f_len ⟨rfl, rfl, rfl⟩) B_len (c_acons (c_var 2) c_anil)) (c_glob K_MOST_RULES ⟨_, rfl⟩))))).pt (c_last (c_raise "BadRules" rfl (takes_of rfl rfl rfl rfl) PySem.F.excBase_ValueError Y_BadRules X_BadRules Z_BadRules (raises_own R1_BadRules R2_BadRules))) c_nil) (c_last (c_for (passes_of rfl) rfl (c_irange B_range (c_callB (f_len ⟨rfl, rfl, rfl⟩) B_len (c_acons (c_var 2) c_anil))) (c_gname 3 sc_look_rules.nd) (c_cons (c_sif ((c_wor (c_tcmp (o_ne ⟨rfl, rfl, rfl⟩ (Rm.of hr)) (c_callB (f_len ⟨rfl, rfl, rfl⟩) B_len (c_acons (c_sub (i_idx ⟨rfl, rfl, rfl⟩) (c_var 2) (c_var 3)) c_anil)) c_int) (c_wor1 (c_tnot (c_tchain (o_le) (o_lt ⟨rfl, rfl, rfl⟩ (Rm.of hr)) c_int (c_sub (i_idx ⟨rfl, rfl, rfl⟩) (c_sub (i_idx ⟨rfl, rfl, rfl⟩) (c_var 2) (c_var 3)) c_int) (c_var 1)))))).pt (c_last (c_raise "BadRules" rfl (takes_of rfl rfl rfl rfl) PySem.F.excBase_ValueError Y_BadRules X_BadRules Z_BadRules (raises_own R1_BadRules R2_BadRules))) c_nil) (c_cons (c_asg (c_sub (i_idx ⟨rfl, rfl, rfl⟩) (c_var 2) (c_var 3)) (c_gtup rfl (c_gcons 4 sc_look_rules.nd (c_gcons 5 sc_look_rules.nd c_gnil)))) (c_last (c_sif ((c_wor (c_tnot (c_tr ⟨rfl, rfl, rfl⟩ (c_call F_is_set (hr.mono (by decide)) (takes_of rfl rfl rfl rfl) M_is_set P_is_set N_is_set (c_acons (c_var 1) (c_acons (c_var 5) c_anil))))) (c_wor (c_tcmp (o_in ⟨rfl, rfl, rfl⟩ (Rm.of hr)) (c_var 4) (c_var 5)) (c_wor1 ((c_wand (c_tcmp (o_gt) (c_var 3) c_int) (c_wand1 (c_tnot (c_tcmp (o_lt ⟨rfl, rfl, rfl⟩ (Rm.of hr)) (c_sub (i_idx ⟨rfl, rfl, rfl⟩) (c_var 2) (c_bin (o_sub) (c_var 3) c_int)) (c_sub (i_idx ⟨rfl, rfl, rfl⟩) (c_var 2) (c_var 3))))))).pt)))).pt (c_last (c_raise "BadRules" rfl (takes_of rfl rfl rfl rfl) PySem.F.excBase_ValueError Y_BadRules X_BadRules Z_BadRules (raises_own R1_BadRules R2_BadRules))) c_nil))))))))
theorem ok_look_rules (T : Top K mg ec) : DefOk P w K mg base ec 2 "look_rules" ["rules"] s_look_rules := by
  obtain ⟨f, fd, hm, F, hb⟩ := T.D_look_rules
  exact ⟨f, fd, hm, F.kp, hb, okF_look_rules T F⟩
theorem okF_written (T : Top K mg ec) {f : Addr} {fd : FuncData} (F : Fun K "written" "written" st_written f fd) : FnOk P w K mg base (L2.CX P w) 3 f fd ["rules"] (spD ⟨P, w, K, ec⟩ 1 s_written) := by
  obtain ⟨a_look_rules, fd_look_rules, M_look_rules, P_look_rules, N_look_rules, F_look_rules⟩ := ok_look_rules (P := P) (w := w) (base := base) T
  have B_str := T.B_str
  exact c_fn (k := 2) F sc_written fun cdv A outer s H E B hr => (c_cons (c_expr (c_call F_look_rules (hr.mono (by decide)) (takes_of rfl rfl rfl rfl) M_look_rules P_look_rules N_look_rules (c_acons (c_var 0) c_anil))) (c_cons (c_own 1 sc_written.nd (c_acons (c_bin (o_add ⟨rfl, rfl, rfl⟩) c_str (c_callT f_str B_str (c_acons (c_sub (i_idx ⟨rfl, rfl, rfl⟩) (c_var 0) c_int) c_anil))) c_anil)) (c_cons (c_for (passes_of rfl) rfl (c_iseq (c_sub (i_idx ⟨rfl, rfl, rfl⟩) (c_var 0) c_int)) (c_gtup rfl (c_gcons 2 sc_written.nd (c_gcons 3 sc_written.nd c_gnil))) (c_last (c_app 1 (c_join c_str (c_bin (o_add ⟨rfl, rfl, rfl⟩) (c_lst (c_acons (c_bin (o_add ⟨rfl, rfl, rfl⟩) (c_callT f_str B_str (c_acons (c_var 2) c_anil)) c_str) c_anil)) (c_lc [("one", 4)] rfl sc_written.nd (c_j (c_iseq (c_var 3))) (by kernel_rfl) (fun _ _ _ _ _ => (c_gname 4 sc_written.nd)) (fun _ _ _ _ _ => c_pts0) (fun _ _ _ _ _ => (c_callT f_str B_str (c_acons (c_var 4) c_anil))))))))) (c_last (c_frz 1 (c_ret (c_join c_str (c_var 1))))))))
theorem ok_written (T : Top K mg ec) : DefOk P w K mg base ec 3 "written" ["rules"] s_written := by
  obtain ⟨f, fd, hm, F, hb⟩ := T.D_written
  exact ⟨f, fd, hm, F.kp, hb, okF_written T F⟩
theorem okF_number_in (T : Top K mg ec) {f : Addr} {fd : FuncData} (F : Fun K "number_in" "number_in" st_number_in f fd) : FnOk P w K mg base (L2.CX P w) 1 f fd ["word"] (spD ⟨P, w, K, ec⟩ 1 s_number_in) := by
  have B_len := T.B_len
  have B_all := T.B_all
  obtain ⟨t_FIGURES, K_FIGURES⟩ := T.K_FIGURES
  have X_BadText := T.X_BadText
  have Y_BadText := T.Y_BadText
  have Z_BadText := T.Z_BadText
  have R1_BadText := T.R1_BadText
  have R2_BadText := T.R2_BadText
  have B_int := T.B_int
  exact c_fn (k := 0) F sc_number_in fun cdv A outer s H E B hr => (c_cons (c_sif ((c_wor (c_tnot (c_tchain (o_le) (o_le) c_int (c_callB (f_len ⟨rfl, rfl, rfl⟩) B_len (c_acons (c_var 0) c_anil)) c_int)) (c_wor (c_tnot (c_tr ⟨rfl, rfl, rfl⟩ (c_callB (f_all rfl) B_all (c_acons (c_lc [("sign", 1)] rfl sc_number_in.nd (c_j (c_istr (c_var 0))) (by kernel_rfl) (fun _ _ _ _ _ => (c_gname 1 sc_number_in.nd)) (fun _ _ _ _ _ => c_pts0) (fun _ _ _ _ _ => (c_cmp (o_in ⟨rfl, rfl, rfl⟩ (Rm.of hr)) (c_var 1) (c_globS K_FIGURES ⟨_, rfl⟩)))) c_anil)))) (c_wor1 ((c_wand (c_tcmp (o_eq ⟨rfl, rfl, rfl⟩ (Rm.of hr)) (c_sub (i_idx ⟨rfl, rfl, rfl⟩) (c_var 0) c_int) c_str) (c_wand1 (c_tcmp (o_ne ⟨rfl, rfl, rfl⟩ (Rm.of hr)) (c_var 0) c_str)))).pt)))).pt (c_last (c_raise "BadText" rfl (takes_of rfl rfl rfl rfl) PySem.F.excBase_ValueError Y_BadText X_BadText Z_BadText (raises_own R1_BadText R2_BadText))) c_nil) (c_last (c_ret (c_callT f_int B_int (c_acons (c_var 0) c_anil)))))
theorem ok_number_in (T : Top K mg ec) : DefOk P w K mg base ec 1 "number_in" ["word"] s_number_in := by
  obtain ⟨f, fd, hm, F, hb⟩ := T.D_number_in
  exact ⟨f, fd, hm, F.kp, hb, okF_number_in T F⟩
theorem okF_read (T : Top K mg ec) {f : Addr} {fd : FuncData} (F : Fun K "read" "read" st_read f fd) : FnOk P w K mg base (L2.CX P w) 3 f fd ["text"] (spD ⟨P, w, K, ec⟩ 1 s_read) := by
  obtain ⟨a_number_in, fd_number_in, M_number_in, P_number_in, N_number_in, F_number_in⟩ := ok_number_in (P := P) (w := w) (base := base) T
  obtain ⟨a_look_rules, fd_look_rules, M_look_rules, P_look_rules, N_look_rules, F_look_rules⟩ := ok_look_rules (P := P) (w := w) (base := base) T
  have X_BadText := T.X_BadText
  have Y_BadText := T.Y_BadText
  have Z_BadText := T.Z_BadText
  have R1_BadText := T.R1_BadText
  have R2_BadText := T.R2_BadText
  have B_tuple := T.B_tuple
  have X_BadRules := T.X_BadRules
  have L_BadRules := T.L_BadRules
  exact c_fn (k := 2) F sc_read fun cdv A outer s H E B hr => (c_cons (c_asg (c_split (c_var 0) c_str) (c_gname 1 sc_read.nd)) (c_cons (c_sif (c_tcmp (o_ne ⟨rfl, rfl, rfl⟩ (Rm.of hr)) (c_cut ⟨rfl, rfl, rfl⟩ (c_sub (i_idx ⟨rfl, rfl, rfl⟩) (c_var 1) c_int) c_pnone (c_psome c_int)) c_str) (c_last (c_raise "BadText" rfl (takes_of rfl rfl rfl rfl) PySem.F.excBase_ValueError Y_BadText X_BadText Z_BadText (raises_own R1_BadText R2_BadText))) c_nil) (c_cons (c_own 2 sc_read.nd c_anil) (c_cons (c_for (passes_of rfl) rfl (c_iseq (c_cut ⟨rfl, rfl, rfl⟩ (c_var 1) (c_psome c_int) c_pnone)) (c_gname 3 sc_read.nd) (c_cons (c_asg (c_split (c_var 3) c_str) (c_gname 4 sc_read.nd)) (c_cons (c_sif (c_tcmp (o_ne ⟨rfl, rfl, rfl⟩ (Rm.of hr)) (c_cut ⟨rfl, rfl, rfl⟩ (c_sub (i_idx ⟨rfl, rfl, rfl⟩) (c_var 4) c_int) (c_psome (c_un u_neg c_int)) c_pnone) c_str) (c_last (c_raise "BadText" rfl (takes_of rfl rfl rfl rfl) PySem.F.excBase_ValueError Y_BadText X_BadText Z_BadText (raises_own R1_BadText R2_BadText))) c_nil) (c_last (c_app 2 (c_tup (c_acons (c_call F_number_in (hr.mono (by decide)) (takes_of rfl rfl rfl rfl) M_number_in P_number_in N_number_in (c_acons (c_cut ⟨rfl, rfl, rfl⟩ (c_sub (i_idx ⟨rfl, rfl, rfl⟩) (c_var 4) c_int) c_pnone (c_psome (c_un u_neg c_int))) c_anil)) (c_acons (c_callT f_tuple B_tuple (c_acons (c_lcE [("word", 8)] (takes_of rfl rfl rfl rfl) rfl sc_read.nd (c_j (c_iseq (c_cut ⟨rfl, rfl, rfl⟩ (c_var 4) (c_psome c_int) c_pnone))) (by kernel_rfl) (fun _ _ _ _ _ => (c_gname 8 sc_read.nd)) (fun _ _ _ _ _ => c_pts0) (fun _ _ _ _ _ _ _ _ tk => (c_call F_number_in (hr.mono (by decide)) tk M_number_in P_number_in N_number_in (c_acons (c_var 8) c_anil)))) c_anil)) c_anil)))))))) (c_cons (c_frz 2 (c_asg (c_tup (c_acons (c_call F_number_in (hr.mono (by decide)) (takes_of rfl rfl rfl rfl) M_number_in P_number_in N_number_in (c_acons (c_cut ⟨rfl, rfl, rfl⟩ (c_sub (i_idx ⟨rfl, rfl, rfl⟩) (c_var 1) c_int) (c_psome c_int) c_pnone) c_anil)) (c_acons (c_var 2) c_anil))) (c_gname 5 sc_read.nd))) (c_cons (c_asg c_non (c_gname 6 sc_read.nd)) (c_cons (c_try ⟨rfl, rfl, rfl⟩ 7 6 below_BadRules sc_read.nd "BadRules" (takes_of rfl rfl rfl rfl) ⟨by rfl, by decide, .inl X_BadRules⟩ L_BadRules (fun _ _ _ tk _ => (c_last (c_expr (c_call F_look_rules (hr.mono (by decide)) tk M_look_rules P_look_rules N_look_rules (c_acons (c_var 5) c_anil)))))) (c_cons (c_sif (c_tcmp (o_isnot) (c_var 6) c_non) (c_last (c_raise "BadText" rfl (takes_of rfl rfl rfl rfl) PySem.F.excBase_ValueError Y_BadText X_BadText Z_BadText (raises_own R1_BadText R2_BadText))) c_nil) (c_last (c_ret (c_var 5)))))))))))
theorem ok_read (T : Top K mg ec) : DefOk P w K mg base ec 3 "read" ["text"] s_read := by
  obtain ⟨f, fd, hm, F, hb⟩ := T.D_read
  exact ⟨f, fd, hm, F.kp, hb, okF_read T F⟩
theorem okF__law_cell (T : Top K mg ec) {f : Addr} {fd : FuncData} (F : Fun K "_law_cell" "_law_cell" st__law_cell f fd) : FnOk P w K mg base (L2.CX P w) 1 f fd ["_law_script", "_law_k"] (spD ⟨P, w, K, ec⟩ 2 s__law_cell) := by
  have B_len := T.B_len
  exact c_fn (k := 0) F sc__law_cell fun cdv A outer s H E B hr => (c_cons (c_sif (c_tr ⟨rfl, rfl, rfl⟩ (c_var 0)) (c_last (c_ret (c_sub (i_idx ⟨rfl, rfl, rfl⟩) (c_var 0) (c_bin (o_mod) (c_var 1) (c_callB (f_len ⟨rfl, rfl, rfl⟩) B_len (c_acons (c_var 0) c_anil)))))) c_nil) (c_last (c_ret c_int)))
theorem ok__law_cell (T : Top K mg ec) : DefOk P w K mg base ec 1 "_law_cell" ["_law_script", "_law_k"] s__law_cell := by
  obtain ⟨f, fd, hm, F, hb⟩ := T.D__law_cell
  exact ⟨f, fd, hm, F.kp, hb, okF__law_cell T F⟩
theorem okF__law_mix (T : Top K mg ec) {f : Addr} {fd : FuncData} (F : Fun K "_law_mix" "_law_mix" st__law_mix f fd) : FnOk P w K mg base (L2.CX P w) 2 f fd ["_law_script", "_law_k"] (spD ⟨P, w, K, ec⟩ 2 s__law_mix) := by
  obtain ⟨a__law_cell, fd__law_cell, M__law_cell, P__law_cell, N__law_cell, F__law_cell⟩ := ok__law_cell (P := P) (w := w) (base := base) T
  exact c_fn (k := 1) F sc__law_mix fun cdv A outer s H E B hr => (c_cons (c_asg (c_bin (o_mod) (c_bin (o_add ⟨rfl, rfl, rfl⟩) (c_call F__law_cell (hr.mono (by decide)) (takes_of rfl rfl rfl rfl) M__law_cell P__law_cell N__law_cell (c_acons (c_var 0) (c_acons (c_var 1) c_anil))) (c_bin (o_mul) c_int (c_bin (o_add ⟨rfl, rfl, rfl⟩) (c_var 1) c_int))) c_int) (c_gname 2 sc__law_mix.nd)) (c_cons (c_asg (c_bin (o_mod) (c_bin (o_mul) (c_var 2) c_int) c_int) (c_gname 2 sc__law_mix.nd)) (c_last (c_ret (c_bin (o_mod) (c_bin (o_add ⟨rfl, rfl, rfl⟩) (c_bin (o_mul) (c_bin (o_div) (c_var 2) c_int) c_int) (c_var 2)) c_int)))))
theorem ok__law_mix (T : Top K mg ec) : DefOk P w K mg base ec 2 "_law_mix" ["_law_script", "_law_k"] s__law_mix := by
  obtain ⟨f, fd, hm, F, hb⟩ := T.D__law_mix
  exact ⟨f, fd, hm, F.kp, hb, okF__law_mix T F⟩
theorem okF__law_subset (T : Top K mg ec) {f : Addr} {fd : FuncData} (F : Fun K "_law_subset" "_law_subset" st__law_subset f fd) : FnOk P w K mg base (L2.CX P w) 3 f fd ["_law_script", "_law_k", "_law_things"] (spD ⟨P, w, K, ec⟩ 3 s__law_subset) := by
  obtain ⟨a__law_mix, fd__law_mix, M__law_mix, P__law_mix, N__law_mix, F__law_mix⟩ := ok__law_mix (P := P) (w := w) (base := base) T
  have B_tuple := T.B_tuple
  have B_range := T.B_range
  have B_len := T.B_len
  exact c_fn (k := 2) F sc__law_subset fun cdv A outer s H E B hr => (c_cons (c_asg (c_bin (o_div) (c_call F__law_mix (hr.mono (by decide)) (takes_of rfl rfl rfl rfl) M__law_mix P__law_mix N__law_mix (c_acons (c_var 0) (c_acons (c_var 1) c_anil))) c_int) (c_gname 3 sc__law_subset.nd)) (c_last (c_ret (c_callT f_tuple B_tuple (c_acons (c_lc [("_law_j", 4)] rfl sc__law_subset.nd (c_j (c_irange B_range (c_callB (f_len ⟨rfl, rfl, rfl⟩) B_len (c_acons (c_var 2) c_anil)))) (by kernel_rfl) (fun _ _ _ _ _ => (c_gname 4 sc__law_subset.nd)) (fun _ _ _ _ _ => (c_pts1 (c_tcmp (o_eq ⟨rfl, rfl, rfl⟩ (Rm.of hr)) (c_bin (o_mod) (c_bin (o_div) (c_var 3) (c_sub (i_idx ⟨rfl, rfl, rfl⟩) (c_lst (c_acons c_int (c_acons c_int (c_acons c_int (c_acons c_int (c_acons c_int (c_acons c_int (c_acons c_int c_anil)))))))) (c_var 4))) c_int) c_int))) (fun _ _ _ _ _ => (c_sub (i_idx ⟨rfl, rfl, rfl⟩) (c_var 2) (c_var 4)))) c_anil)))))
theorem ok__law_subset (T : Top K mg ec) : DefOk P w K mg base ec 3 "_law_subset" ["_law_script", "_law_k", "_law_things"] s__law_subset := by
  obtain ⟨f, fd, hm, F, hb⟩ := T.D__law_subset
  exact ⟨f, fd, hm, F.kp, hb, okF__law_subset T F⟩
theorem okF__law_rules (T : Top K mg ec) {f : Addr} {fd : FuncData} (F : Fun K "_law_rules" "_law_rules" st__law_rules f fd) : FnOk P w K mg base (L2.CX P w) 4 f fd ["_law_script", "_law_k", "_law_most"] (spD ⟨P, w, K, ec⟩ 3 s__law_rules) := by
  obtain ⟨a__law_mix, fd__law_mix, M__law_mix, P__law_mix, N__law_mix, F__law_mix⟩ := ok__law_mix (P := P) (w := w) (base := base) T
  obtain ⟨a__law_subset, fd__law_subset, M__law_subset, P__law_subset, N__law_subset, F__law_subset⟩ := ok__law_subset (P := P) (w := w) (base := base) T
  have B_range := T.B_range
  have B_sorted := T.B_sorted
  have B_set := T.B_set
  exact c_fn (k := 3) F sc__law_rules fun cdv A outer s H E B hr => (c_cons (c_asg (c_bin (o_mod) (c_call F__law_mix (hr.mono (by decide)) (takes_of rfl rfl rfl rfl) M__law_mix P__law_mix N__law_mix (c_acons (c_var 0) (c_acons (c_var 1) c_anil))) (c_bin (o_add ⟨rfl, rfl, rfl⟩) (c_var 2) c_int)) (c_gname 3 sc__law_rules.nd)) (c_cons (c_own 4 sc__law_rules.nd c_anil) (c_cons (c_for (passes_of rfl) rfl (c_irange B_range (c_var 3)) (c_gname 5 sc__law_rules.nd) (c_cons (c_setLc 6 [("_law_one", 9)] rfl sc__law_rules.nd (c_j (c_irange B_range (c_var 3))) (by kernel_rfl) (fun _ _ _ _ _ => (c_gname 9 sc__law_rules.nd)) (fun _ _ _ _ _ => (c_pts1 (c_tcmp (o_ne ⟨rfl, rfl, rfl⟩ (Rm.of hr)) (c_var 9) (c_var 5)))) (fun _ _ _ _ _ => (c_var 9))) (c_last (c_for (passes_of rfl) rfl (c_irange B_range (c_sub (i_idx ⟨rfl, rfl, rfl⟩) (c_lst (c_acons c_int (c_acons c_int (c_acons c_int (c_acons c_int (c_acons c_int (c_acons c_int c_anil))))))) (c_bin (o_mod) (c_call F__law_mix (hr.mono (by decide)) (takes_of rfl rfl rfl rfl) M__law_mix P__law_mix N__law_mix (c_acons (c_var 0) (c_acons (c_bin (o_add ⟨rfl, rfl, rfl⟩) (c_bin (o_add ⟨rfl, rfl, rfl⟩) (c_var 1) c_int) (c_var 5)) c_anil))) c_int))) (c_gname 7 sc__law_rules.nd) (c_cons (c_asg (c_call F__law_subset (hr.mono (by decide)) (takes_of rfl rfl rfl rfl) M__law_subset P__law_subset N__law_subset (c_acons (c_var 0) (c_acons (c_bin (o_add ⟨rfl, rfl, rfl⟩) (c_bin (o_add ⟨rfl, rfl, rfl⟩) (c_bin (o_add ⟨rfl, rfl, rfl⟩) (c_var 1) c_int) (c_bin (o_mul) c_int (c_var 5))) (c_var 7)) (c_acons (c_var 6) c_anil)))) (c_gname 8 sc__law_rules.nd)) (c_cons (c_sif (c_tcmp (o_gt) (c_bin (o_mod) (c_call F__law_mix (hr.mono (by decide)) (takes_of rfl rfl rfl rfl) M__law_mix P__law_mix N__law_mix (c_acons (c_var 0) (c_acons (c_bin (o_add ⟨rfl, rfl, rfl⟩) (c_bin (o_add ⟨rfl, rfl, rfl⟩) (c_bin (o_add ⟨rfl, rfl, rfl⟩) (c_var 1) c_int) (c_bin (o_mul) c_int (c_var 5))) (c_var 7)) c_anil))) c_int) c_int) (c_last (c_asg (c_cut ⟨rfl, rfl, rfl⟩ (c_var 8) c_pnone (c_psome (c_bin (o_add ⟨rfl, rfl, rfl⟩) c_int (c_bin (o_mod) (c_call F__law_mix (hr.mono (by decide)) (takes_of rfl rfl rfl rfl) M__law_mix P__law_mix N__law_mix (c_acons (c_var 0) (c_acons (c_bin (o_add ⟨rfl, rfl, rfl⟩) (c_bin (o_add ⟨rfl, rfl, rfl⟩) (c_bin (o_add ⟨rfl, rfl, rfl⟩) (c_var 1) c_int) (c_bin (o_mul) c_int (c_var 5))) (c_var 7)) c_anil))) c_int)))) (c_gname 8 sc__law_rules.nd))) c_nil) (c_last (c_app 4 (c_tup (c_acons (c_var 5) (c_acons (c_if (c_tcmp (o_gt) (c_bin (o_mod) (c_call F__law_mix (hr.mono (by decide)) (takes_of rfl rfl rfl rfl) M__law_mix P__law_mix N__law_mix (c_acons (c_var 0) (c_acons (c_bin (o_add ⟨rfl, rfl, rfl⟩) (c_bin (o_add ⟨rfl, rfl, rfl⟩) (c_var 1) c_int) (c_var 5)) c_anil))) c_int) c_int) (c_var 8) (c_tup c_anil)) c_anil))))))))))) (c_last (c_frz 4 (c_ret (c_tup (c_acons (c_var 3) (c_acons (c_sortset ⟨rfl, rfl, rfl⟩ (Rm.of hr) rfl B_sorted B_set (c_var 4)) c_anil)))))))))
theorem ok__law_rules (T : Top K mg ec) : DefOk P w K mg base ec 4 "_law_rules" ["_law_script", "_law_k", "_law_most"] s__law_rules := by
  obtain ⟨f, fd, hm, F, hb⟩ := T.D__law_rules
  exact ⟨f, fd, hm, F.kp, hb, okF__law_rules T F⟩
theorem okF__law_refusal (T : Top K mg ec) {f : Addr} {fd : FuncData} (F : Fun K "_law_refusal" "_law_refusal" st__law_refusal f fd) : FnOk P w K mg base (L2.CX P w) 1 f fd ["_law_kept"] (spD ⟨P, w, K, ec⟩ 1 s__law_refusal) := by
  have B_isinstance := T.B_isinstance
  have X_BadNumber := T.X_BadNumber
  have I_BadNumber := T.I_BadNumber
  have X_BadRules := T.X_BadRules
  have I_BadRules := T.I_BadRules
  have X_BadState := T.X_BadState
  have I_BadState := T.I_BadState
  have X_BadText := T.X_BadText
  have I_BadText := T.I_BadText
  have X_Unlike := T.X_Unlike
  have I_Unlike := T.I_Unlike
  have I_ValueError := T.I_ValueError
  have B_ValueError := T.B_ValueError
  exact c_fn (k := 0) F sc__law_refusal fun cdv A outer s H E B hr => (c_cons (c_sif (c_tcmp (o_is) (c_var 0) c_non) (c_last (c_ret c_str)) c_nil) (c_cons (c_asg (c_lst (c_acons (c_isi ⟨rfl, rfl, rfl⟩ I_BadNumber B_isinstance (c_var 0) (.own _) (pe_glob (by rfl) X_BadNumber rfl)) (c_acons (c_isi ⟨rfl, rfl, rfl⟩ I_BadRules B_isinstance (c_var 0) (.own _) (pe_glob (by rfl) X_BadRules rfl)) (c_acons (c_isi ⟨rfl, rfl, rfl⟩ I_BadState B_isinstance (c_var 0) (.own _) (pe_glob (by rfl) X_BadState rfl)) c_anil)))) (c_gname 1 sc__law_refusal.nd)) (c_cons (c_asg (c_bin (o_add ⟨rfl, rfl, rfl⟩) (c_var 1) (c_lst (c_acons (c_isi ⟨rfl, rfl, rfl⟩ I_BadText B_isinstance (c_var 0) (.own _) (pe_glob (by rfl) X_BadText rfl)) (c_acons (c_isi ⟨rfl, rfl, rfl⟩ I_Unlike B_isinstance (c_var 0) (.own _) (pe_glob (by rfl) X_Unlike rfl)) c_anil)))) (c_gname 1 sc__law_refusal.nd)) (c_cons (c_sif ((c_wor (c_tcmp (o_ne ⟨rfl, rfl, rfl⟩ (Rm.of hr)) (c_count ⟨rfl, rfl, rfl⟩ (Rm.of hr) (c_var 1) c_bl) c_int) (c_wor1 (c_tnot (c_tr ⟨rfl, rfl, rfl⟩ (c_isi ⟨rfl, rfl, rfl⟩ I_ValueError B_isinstance (c_var 0) (.ty _) (pe_bltn (by rfl) B_ValueError (by decide +kernel) rfl))))))).pt (c_last (c_ret c_str)) c_nil) (c_last (c_ret (c_sub (i_idx ⟨rfl, rfl, rfl⟩) (c_lst (c_acons c_str (c_acons c_str (c_acons c_str (c_acons c_str (c_acons c_str c_anil)))))) (c_index ⟨rfl, rfl, rfl⟩ (Rm.of hr) (c_var 1) c_bl))))))))
theorem ok__law_refusal (T : Top K mg ec) : DefOk P w K mg base ec 1 "_law_refusal" ["_law_kept"] s__law_refusal := by
  obtain ⟨f, fd, hm, F, hb⟩ := T.D__law_refusal
  exact ⟨f, fd, hm, F.kp, hb, okF__law_refusal T F⟩
theorem okF__law_text (T : Top K mg ec) {f : Addr} {fd : FuncData} (F : Fun K "_law_text" "_law_text" st__law_text f fd) : FnOk P w K mg base (L2.CX P w) 1 f fd ["_law_rules_here"] (spD ⟨P, w, K, ec⟩ 1 s__law_text) := by
  have B_str := T.B_str
  exact c_fn (k := 0) F sc__law_text fun cdv A outer s H E B hr => (c_cons (c_own 1 sc__law_text.nd (c_acons (c_bin (o_add ⟨rfl, rfl, rfl⟩) c_str (c_callT f_str B_str (c_acons (c_sub (i_idx ⟨rfl, rfl, rfl⟩) (c_var 0) c_int) c_anil))) c_anil)) (c_cons (c_for (passes_of rfl) rfl (c_iseq (c_sub (i_idx ⟨rfl, rfl, rfl⟩) (c_var 0) c_int)) (c_gtup rfl (c_gcons 2 sc__law_text.nd (c_gcons 3 sc__law_text.nd c_gnil))) (c_last (c_app 1 (c_bin (o_add ⟨rfl, rfl, rfl⟩) (c_bin (o_add ⟨rfl, rfl, rfl⟩) (c_callT f_str B_str (c_acons (c_var 2) c_anil)) c_str) (c_join c_str (c_lc [("_law_one", 4)] rfl sc__law_text.nd (c_j (c_iseq (c_var 3))) (by kernel_rfl) (fun _ _ _ _ _ => (c_gname 4 sc__law_text.nd)) (fun _ _ _ _ _ => c_pts0) (fun _ _ _ _ _ => (c_bin (o_add ⟨rfl, rfl, rfl⟩) c_str (c_callT f_str B_str (c_acons (c_var 4) c_anil)))))))))) (c_last (c_frz 1 (c_ret (c_join c_str (c_var 1)))))))
theorem ok__law_text (T : Top K mg ec) : DefOk P w K mg base ec 1 "_law_text" ["_law_rules_here"] s__law_text := by
  obtain ⟨f, fd, hm, F, hb⟩ := T.D__law_text
  exact ⟨f, fd, hm, F.kp, hb, okF__law_text T F⟩
theorem okF__law_numbers (T : Top K mg ec) {f : Addr} {fd : FuncData} (F : Fun K "_law_numbers" "_law_numbers" st__law_numbers f fd) : FnOk P w K mg base (L2.CX P w) 1 f fd ["_law_words"] (spD ⟨P, w, K, ec⟩ 1 s__law_numbers) := by
  have B_len := T.B_len
  have B_all := T.B_all
  have B_str := T.B_str
  have B_int := T.B_int
  exact c_fn (k := 0) F sc__law_numbers fun cdv A outer s H E B hr => (c_cons (c_own 1 sc__law_numbers.nd c_anil) (c_cons (c_for (passes_of rfl) rfl (c_iseq (c_var 0)) (c_gname 2 sc__law_numbers.nd) (c_cons (c_sif ((c_wor (c_tcmp (o_eq ⟨rfl, rfl, rfl⟩ (Rm.of hr)) (c_var 2) c_str) (c_wor (c_tcmp (o_gt) (c_callB (f_len ⟨rfl, rfl, rfl⟩) B_len (c_acons (c_var 2) c_anil)) c_int) (c_wor (c_tnot (c_tr ⟨rfl, rfl, rfl⟩ (c_callB (f_all rfl) B_all (c_acons (c_lc [("_law_one", 3)] rfl sc__law_numbers.nd (c_j (c_istr (c_var 2))) (by kernel_rfl) (fun _ _ _ _ _ => (c_gname 3 sc__law_numbers.nd)) (fun _ _ _ _ _ => c_pts0) (fun _ _ _ _ _ => (c_cmp (o_in ⟨rfl, rfl, rfl⟩ (Rm.of hr)) (c_var 3) c_str))) c_anil)))) (c_wor1 (c_tcmp (o_ne ⟨rfl, rfl, rfl⟩ (Rm.of hr)) (c_callT f_str B_str (c_acons (c_callT f_int B_int (c_acons (c_var 2) c_anil)) c_anil)) (c_var 2))))))).pt (c_last (c_ret c_non)) c_nil) (c_last (c_app 1 (c_callT f_int B_int (c_acons (c_var 2) c_anil)))))) (c_last (c_frz 1 (c_ret (c_var 1))))))
theorem ok__law_numbers (T : Top K mg ec) : DefOk P w K mg base ec 1 "_law_numbers" ["_law_words"] s__law_numbers := by
  obtain ⟨f, fd, hm, F, hb⟩ := T.D__law_numbers
  exact ⟨f, fd, hm, F.kp, hb, okF__law_numbers T F⟩
theorem okF__law_tried (T : Top K mg ec) {f : Addr} {fd : FuncData} (F : Fun K "_law_tried" "_law_tried" st__law_tried f fd) : FnOk P w K mg base (L2.CX P w) 2 f fd ["_law_text_here"] (spD ⟨P, w, K, ec⟩ 1 s__law_tried) := by
  obtain ⟨a__law_numbers, fd__law_numbers, M__law_numbers, P__law_numbers, N__law_numbers, F__law_numbers⟩ := ok__law_numbers (P := P) (w := w) (base := base) T
  have B_tuple := T.B_tuple
  exact c_fn (k := 1) F sc__law_tried fun cdv A outer s H E B hr => (c_cons (c_asg (c_split (c_var 0) c_str) (c_gname 1 sc__law_tried.nd)) (c_cons (c_asg (c_call F__law_numbers (hr.mono (by decide)) (takes_of rfl rfl rfl rfl) M__law_numbers P__law_numbers N__law_numbers (c_acons (c_lst (c_acons (c_cut ⟨rfl, rfl, rfl⟩ (c_sub (i_idx ⟨rfl, rfl, rfl⟩) (c_var 1) c_int) (c_psome c_int) c_pnone) c_anil)) c_anil)) (c_gname 2 sc__law_tried.nd)) (c_cons (c_sif ((c_wor (c_tcmp (o_ne ⟨rfl, rfl, rfl⟩ (Rm.of hr)) (c_cut ⟨rfl, rfl, rfl⟩ (c_sub (i_idx ⟨rfl, rfl, rfl⟩) (c_var 1) c_int) c_pnone (c_psome c_int)) c_str) (c_wor1 (c_tcmp (o_is) (c_var 2) c_non)))).pt (c_last (c_ret c_non)) c_nil) (c_cons (c_own 3 sc__law_tried.nd c_anil) (c_cons (c_for (passes_of rfl) rfl (c_iseq (c_cut ⟨rfl, rfl, rfl⟩ (c_var 1) (c_psome c_int) c_pnone)) (c_gname 4 sc__law_tried.nd) (c_cons (c_asg (c_split (c_var 4) c_str) (c_gname 5 sc__law_tried.nd)) (c_cons (c_asg (c_call F__law_numbers (hr.mono (by decide)) (takes_of rfl rfl rfl rfl) M__law_numbers P__law_numbers N__law_numbers (c_acons (c_lst (c_acons (c_cut ⟨rfl, rfl, rfl⟩ (c_sub (i_idx ⟨rfl, rfl, rfl⟩) (c_var 5) c_int) c_pnone (c_psome (c_un u_neg c_int))) c_anil)) c_anil)) (c_gname 6 sc__law_tried.nd)) (c_cons (c_asg (c_call F__law_numbers (hr.mono (by decide)) (takes_of rfl rfl rfl rfl) M__law_numbers P__law_numbers N__law_numbers (c_acons (c_cut ⟨rfl, rfl, rfl⟩ (c_var 5) (c_psome c_int) c_pnone) c_anil)) (c_gname 7 sc__law_tried.nd)) (c_cons (c_sif ((c_wor (c_tcmp (o_ne ⟨rfl, rfl, rfl⟩ (Rm.of hr)) (c_cut ⟨rfl, rfl, rfl⟩ (c_sub (i_idx ⟨rfl, rfl, rfl⟩) (c_var 5) c_int) (c_psome (c_un u_neg c_int)) c_pnone) c_str) (c_wor (c_tcmp (o_is) (c_var 6) c_non) (c_wor1 (c_tcmp (o_is) (c_var 7) c_non))))).pt (c_last (c_ret c_non)) c_nil) (c_last (c_app 3 (c_tup (c_acons (c_sub (i_idx ⟨rfl, rfl, rfl⟩) (c_var 6) c_int) (c_acons (c_callT f_tuple B_tuple (c_acons (c_var 7) c_anil)) c_anil)))))))))) (c_last (c_frz 3 (c_ret (c_tup (c_acons (c_sub (i_idx ⟨rfl, rfl, rfl⟩) (c_var 2) c_int) (c_acons (c_var 3) c_anil)))))))))))
theorem ok__law_tried (T : Top K mg ec) : DefOk P w K mg base ec 2 "_law_tried" ["_law_text_here"] s__law_tried := by
  obtain ⟨f, fd, hm, F, hb⟩ := T.D__law_tried
  exact ⟨f, fd, hm, F.kp, hb, okF__law_tried T F⟩
theorem okF__law_are_rules (T : Top K mg ec) {f : Addr} {fd : FuncData} (F : Fun K "_law_are_rules" "_law_are_rules" st__law_are_rules f fd) : FnOk P w K mg base (L2.CX P w) 3 f fd ["_law_tried_here"] (spD ⟨P, w, K, ec⟩ 1 s__law_are_rules) := by
  obtain ⟨a_look_rules, fd_look_rules, M_look_rules, P_look_rules, N_look_rules, F_look_rules⟩ := ok_look_rules (P := P) (w := w) (base := base) T
  have X_BadRules := T.X_BadRules
  have L_BadRules := T.L_BadRules
  exact c_fn (k := 2) F sc__law_are_rules fun cdv A outer s H E B hr => (c_cons (c_asg c_non (c_gname 1 sc__law_are_rules.nd)) (c_cons (c_try ⟨rfl, rfl, rfl⟩ 2 1 below_BadRules sc__law_are_rules.nd "BadRules" (takes_of rfl rfl rfl rfl) ⟨by rfl, by decide, .inl X_BadRules⟩ L_BadRules (fun _ _ _ tk _ => (c_last (c_expr (c_call F_look_rules (hr.mono (by decide)) tk M_look_rules P_look_rules N_look_rules (c_acons (c_var 0) c_anil)))))) (c_last (c_ret (c_cmp (o_is) (c_var 1) c_non)))))
theorem ok__law_are_rules (T : Top K mg ec) : DefOk P w K mg base ec 3 "_law_are_rules" ["_law_tried_here"] s__law_are_rules := by
  obtain ⟨f, fd, hm, F, hb⟩ := T.D__law_are_rules
  exact ⟨f, fd, hm, F.kp, hb, okF__law_are_rules T F⟩
theorem okF_law (T : Top K mg ec) {f : Addr} {fd : FuncData} (F : Fun K "law" "law" st_law f fd) : FnOk P w K mg base (L2.CX P w) 5 f fd ["_law_script"] (spD ⟨P, w, K, ec⟩ 1 s_law) := by
  obtain ⟨a__law_rules, fd__law_rules, M__law_rules, P__law_rules, N__law_rules, F__law_rules⟩ := ok__law_rules (P := P) (w := w) (base := base) T
  obtain ⟨a__law_text, fd__law_text, M__law_text, P__law_text, N__law_text, F__law_text⟩ := ok__law_text (P := P) (w := w) (base := base) T
  obtain ⟨a_written, fd_written, M_written, P_written, N_written, F_written⟩ := ok_written (P := P) (w := w) (base := base) T
  obtain ⟨a_read, fd_read, M_read, P_read, N_read, F_read⟩ := ok_read (P := P) (w := w) (base := base) T
  obtain ⟨a__law_mix, fd__law_mix, M__law_mix, P__law_mix, N__law_mix, F__law_mix⟩ := ok__law_mix (P := P) (w := w) (base := base) T
  obtain ⟨a__law_tried, fd__law_tried, M__law_tried, P__law_tried, N__law_tried, F__law_tried⟩ := ok__law_tried (P := P) (w := w) (base := base) T
  obtain ⟨a__law_are_rules, fd__law_are_rules, M__law_are_rules, P__law_are_rules, N__law_are_rules, F__law_are_rules⟩ := ok__law_are_rules (P := P) (w := w) (base := base) T
  obtain ⟨a__law_refusal, fd__law_refusal, M__law_refusal, P__law_refusal, N__law_refusal, F__law_refusal⟩ := ok__law_refusal (P := P) (w := w) (base := base) T
  have B_range := T.B_range
  have B_len := T.B_len
  have X_LearnError := T.X_LearnError
  have L_LearnError := T.L_LearnError
  exact c_fn (k := 4) F sc_law fun cdv A outer s H E B hr => (c_cons (c_asg (c_call F__law_rules (hr.mono (by decide)) (takes_of rfl rfl rfl rfl) M__law_rules P__law_rules N__law_rules (c_acons (c_var 0) (c_acons c_int (c_acons c_int c_anil)))) (c_gname 1 sc_law.nd)) (c_cons (c_asg (c_call F__law_text (hr.mono (by decide)) (takes_of rfl rfl rfl rfl) M__law_text P__law_text N__law_text (c_acons (c_var 1) c_anil)) (c_gname 2 sc_law.nd)) (c_cons (c_sif ((c_wor (c_tcmp (o_ne ⟨rfl, rfl, rfl⟩ (Rm.of hr)) (c_call F_written (hr.mono (by decide)) (takes_of rfl rfl rfl rfl) M_written P_written N_written (c_acons (c_var 1) c_anil)) (c_var 2)) (c_wor1 (c_tcmp (o_ne ⟨rfl, rfl, rfl⟩ (Rm.of hr)) (c_call F_read (hr.mono (by decide)) (takes_of rfl rfl rfl rfl) M_read P_read N_read (c_acons (c_var 2) c_anil)) (c_var 1))))).pt (c_last (c_ret c_bl)) c_nil) (c_cons (c_for (passes_of rfl) rfl (c_irange B_range (c_bin (o_add ⟨rfl, rfl, rfl⟩) c_int (c_bin (o_mod) (c_call F__law_mix (hr.mono (by decide)) (takes_of rfl rfl rfl rfl) M__law_mix P__law_mix N__law_mix (c_acons (c_var 0) (c_acons c_int c_anil))) c_int))) (c_gname 3 sc_law.nd) (c_cons (c_asg (c_call F__law_mix (hr.mono (by decide)) (takes_of rfl rfl rfl rfl) M__law_mix P__law_mix N__law_mix (c_acons (c_var 0) (c_acons (c_bin (o_add ⟨rfl, rfl, rfl⟩) c_int (c_var 3)) c_anil))) (c_gname 4 sc_law.nd)) (c_cons (c_asg (c_bin (o_mod) (c_bin (o_div) (c_var 4) c_int) (c_bin (o_add ⟨rfl, rfl, rfl⟩) (c_callB (f_len ⟨rfl, rfl, rfl⟩) B_len (c_acons (c_var 2) c_anil)) c_int)) (c_gname 5 sc_law.nd)) (c_cons (c_asg (c_sub (i_idx ⟨rfl, rfl, rfl⟩) c_str (c_bin (o_mod) (c_bin (o_div) (c_var 4) c_int) c_int)) (c_gname 6 sc_law.nd)) (c_cons (c_asg (c_lst (c_acons (c_bin (o_add ⟨rfl, rfl, rfl⟩) (c_bin (o_add ⟨rfl, rfl, rfl⟩) (c_cut ⟨rfl, rfl, rfl⟩ (c_var 2) c_pnone (c_psome (c_var 5))) (c_var 6)) (c_cut ⟨rfl, rfl, rfl⟩ (c_var 2) (c_psome (c_var 5)) c_pnone)) (c_acons (c_bin (o_add ⟨rfl, rfl, rfl⟩) (c_bin (o_add ⟨rfl, rfl, rfl⟩) (c_cut ⟨rfl, rfl, rfl⟩ (c_var 2) c_pnone (c_psome (c_var 5))) (c_var 6)) (c_cut ⟨rfl, rfl, rfl⟩ (c_var 2) (c_psome (c_bin (o_add ⟨rfl, rfl, rfl⟩) (c_var 5) c_int)) c_pnone)) (c_acons (c_bin (o_add ⟨rfl, rfl, rfl⟩) (c_cut ⟨rfl, rfl, rfl⟩ (c_var 2) c_pnone (c_psome (c_var 5))) (c_cut ⟨rfl, rfl, rfl⟩ (c_var 2) (c_psome (c_bin (o_add ⟨rfl, rfl, rfl⟩) (c_var 5) c_int)) c_pnone)) c_anil)))) (c_gname 7 sc_law.nd)) (c_last (c_asg (c_sub (i_idx ⟨rfl, rfl, rfl⟩) (c_var 7) (c_bin (o_mod) (c_var 4) c_int)) (c_gname 2 sc_law.nd)))))))) (c_cons (c_asg c_non (c_gname 8 sc_law.nd)) (c_cons (c_asg c_non (c_gname 9 sc_law.nd)) (c_cons (c_try ⟨rfl, rfl, rfl⟩ 10 8 below_LearnError sc_law.nd "LearnError" (takes_of rfl rfl rfl rfl) ⟨by rfl, by decide, .inl X_LearnError⟩ L_LearnError (fun _ _ _ tk _ => (c_last (c_asg (c_call F_read (hr.mono (by decide)) tk M_read P_read N_read (c_acons (c_var 2) c_anil)) (c_gname 9 sc_law.nd))))) (c_cons (c_asg (c_call F__law_tried (hr.mono (by decide)) (takes_of rfl rfl rfl rfl) M__law_tried P__law_tried N__law_tried (c_acons (c_var 2) c_anil)) (c_gname 11 sc_law.nd)) (c_cons (c_sif ((c_wand (c_tcmp (o_isnot) (c_var 11) c_non) (c_wand1 (c_tr ⟨rfl, rfl, rfl⟩ (c_call F__law_are_rules (hr.mono (by decide)) (takes_of rfl rfl rfl rfl) M__law_are_rules P__law_are_rules N__law_are_rules (c_acons (c_var 11) c_anil)))))).pt (c_last (c_ret (c_and (c_cmp (o_is) (c_var 8) c_non) (c_one (c_cmp (o_eq ⟨rfl, rfl, rfl⟩ (Rm.of hr)) (c_var 9) (c_var 11)))))) c_nil) (c_cons (c_sif (c_tcmp (o_ne ⟨rfl, rfl, rfl⟩ (Rm.of hr)) (c_call F__law_refusal (hr.mono (by decide)) (takes_of rfl rfl rfl rfl) M__law_refusal P__law_refusal N__law_refusal (c_acons (c_var 8) c_anil)) c_str) (c_last (c_ret c_bl)) c_nil) (c_cons (c_asg c_non (c_gname 8 sc_law.nd)) (c_cons (c_try ⟨rfl, rfl, rfl⟩ 10 8 below_LearnError sc_law.nd "LearnError" (takes_of rfl rfl rfl rfl) ⟨by rfl, by decide, .inl X_LearnError⟩ L_LearnError (fun _ _ _ tk _ => (c_last (c_expr (c_call F_written (hr.mono (by decide)) tk M_written P_written N_written (c_acons (c_tup (c_acons c_int (c_acons (c_lst (c_acons (c_tup (c_acons c_int (c_acons (c_tup (c_acons c_int c_anil)) c_anil))) c_anil)) c_anil))) c_anil)))))) (c_last (c_ret (c_cmp (o_eq ⟨rfl, rfl, rfl⟩ (Rm.of hr)) (c_call F__law_refusal (hr.mono (by decide)) (takes_of rfl rfl rfl rfl) M__law_refusal P__law_refusal N__law_refusal (c_acons (c_var 8) c_anil)) c_str)))))))))))))))
theorem ok_law (T : Top K mg ec) : DefOk P w K mg base ec 5 "law" ["_law_script"] s_law := by
  obtain ⟨f, fd, hm, F, hb⟩ := T.D_law
  exact ⟨f, fd, hm, F.kp, hb, okF_law T F⟩
end
end LY

set_option maxHeartbeats 4000000
namespace LY
open PySem PySem.Spec PyProof.Rows L2
theorem padE_eq (n : Nat) (ds : List PyData) : padE n ds = ds.map .dat ++ List.replicate (n - ds.length) .un := rfl
theorem get_0 {α : Type} (a : α) (l : List α) : (a :: l)[0]? = some a := rfl
theorem get_s {α : Type} (a : α) (l : List α) (i : Nat) : (a :: l)[i + 1]? = l[i]? := rfl
theorem asB_b (b : Bool) : asB (.bool b) = .ok b := rfl
theorem of_some {α : Type} (a : α) : Rs.of (some a) = .ok a := rfl
theorem of_none {α : Type} : Rs.of (none : Option α) = .no := rfl
theorem truth_b (b : Bool) : truthD (.bool b) = some b := rfl
theorem toRs_ret (d : PyData) : toRs (.ret d) = .ok d := rfl
theorem toRs_err (c : String) (δ : En) : toRs (.err c δ) = .err c := rfl
theorem toRs_nx (δ : En) : toRs (.nx δ) = .ok .none := rfl
theorem list_S (xs : List Int) : gList [eS xs] = some (.list (xs.map .int)) := rfl
theorem seq_S (xs : List Int) : seqD (eS xs) = some (xs.map .int) := rfl
theorem seq_L (xs : List PyData) : seqD (.list xs) = some xs := rfl
theorem seq_Ss (xs : List (List Int)) : seqD (eSs xs) = some (xs.map eS) := rfl
theorem seq_Ws (xs : List (Int × List Int)) : seqD (eWs xs) = some (xs.map eW) := rfl
theorem ss_S {xs : List Int} (h : xs.length ≤ 4000) : gSortSet (eS xs) = some (.list ((setI xs).map .int)) := gSortSet_T xs h
theorem eq_I (a b : Int) : gEq (.int a) (.int b) = some (.bool (decide (a = b))) := cod_int.gEq (by decide) a b
theorem ne_I (a b : Int) : gNe (.int a) (.int b) = some (.bool (decide (a ≠ b))) := cod_int.gNe (by decide) a b
theorem eq_Li (a b : List Int) : gEq (.list (a.map .int)) (.list (b.map .int)) = some (.bool (decide (a = b))) := cod_int.lst.gEq (by decide) a b
theorem eq_S (a b : List Int) : gEq (eS a) (eS b) = some (.bool (decide (a = b))) := cod_S.gEq (by decide) a b
theorem ne_S (a b : List Int) : gNe (eS a) (eS b) = some (.bool (decide (a ≠ b))) := cod_S.gNe (by decide) a b
theorem in_S (a : Int) (b : List Int) : gIn (.int a) (eS b) = some (.bool (decide (a ∈ b))) := by unfold gIn eS; rw [cod_int.gInT (by decide)]; rfl
theorem notin_S (a : Int) (b : List Int) : gNotIn (.int a) (eS b) = some (.bool (decide (a ∉ b))) := by unfold gNotIn eS; rw [cod_int.gInT (by decide), decide_not]; rfl
theorem le_I (a b : Int) : gLe (.int a) (.int b) = some (.bool (decide (a ≤ b))) := rfl
theorem gt_I (a b : Int) : gGt (.int a) (.int b) = some (.bool (decide (b < a))) := rfl
theorem lt_I (a b : Int) : gLt (.int a) (.int b) = some (.bool (decide (a < b))) := by
  unfold gLt
  rw [okD_int, okD_int, odr_int.al, PySem.W.dataLt_int]
  simp [PyData.eqv]
theorem lt_W (a b : Int × List Int) : gLt (eW a) (eW b) = some (.bool (decide (ltW a b))) := by
  unfold gLt
  rw [okD_W, okD_W, odr_W.al]
  have e : PySem.W.dataLt (eW a) (eW b) = decide (ltW a b) := by
    rw [Bool.eq_iff_iff, odr_W.lt]; simp
  rw [e]
  simp [PyData.eqv, eW]
theorem lt_W' (a c : Int) (b d : List Int) : gLt (.tuple [.int a, eS b]) (.tuple [.int c, eS d]) = some (.bool (decide (ltW (a, b) (c, d)))) := lt_W (a, b) (c, d)
theorem add_I (a b : Int) : gAdd (.int a) (.int b) = some (.int (a + b)) := rfl
theorem sub_I (a b : Int) : gSub (.int a) (.int b) = some (.int (a - b)) := rfl
theorem rng_I {m : Int} (h : -100000 ≤ m ∧ m ≤ 100000) : rgD (.int m) = some ((upto m).map .int) := if_pos h
theorem len_L (xs : List PyData) : gLen [.list xs] = some (.int xs.length) := rfl
theorem len_T (xs : List PyData) : gLen [.tuple xs] = some (.int xs.length) := rfl
theorem len_S (xs : List Int) : gLen [eS xs] = some (.int xs.length) := by unfold eS; rw [len_T, List.length_map]
theorem gAll_bools {α : Type} (p : α → Bool) (xs : List α) : gAll [.list (xs.map fun a => .bool (p a))] = some (.bool (xs.all p)) := by
  unfold gAll
  have e : xs.map (fun a => PyData.bool (p a)) = (xs.map p).map .bool := by rw [List.map_map]; rfl
  dsimp only
  rw [e, boolsOf_map, Option.map_some, List.all_map]; rfl
theorem gAny_bools {α : Type} (p : α → Bool) (xs : List α) : gAny [.list (xs.map fun a => .bool (p a))] = some (.bool (xs.any p)) := by
  unfold gAny
  have e : xs.map (fun a => PyData.bool (p a)) = (xs.map p).map .bool := by rw [List.map_map]; rfl
  dsimp only
  rw [e, boolsOf_map, Option.map_some, List.any_map]; rfl
/-- what a def's chain a <= x < b gives -/
theorem chain_b (p q : Bool) : (if p = true then (Rs.ok (PyData.bool q)) else Rs.ok (.bool false)) = Rs.ok (.bool (p && q)) := by cases p <;> rfl
theorem if_b (p : Bool) (q : Bool) : (if p = true then (Rs.ok q) else Rs.ok false) = Rs.ok (p && q) := by cases p <;> rfl

/-- within range, strictly up -/
def isSetB (m : Int) (xs : List Int) : Bool := decide (Asc xs) && xs.all fun x => decide (0 ≤ x) && decide (x < m)
theorem setI_iff (xs : List Int) : xs = setI xs ↔ Asc xs := ⟨fun h => h ▸ setI_asc xs, fun h => (setI_asc_eq h).symm⟩
theorem e_is_set (m : Int) (xs : List Int) (h : xs.length ≤ 4000) : s_is_set [.int m, eS xs] = .ok (.bool (isSetB m xs)) := by
  have c : compR (tg1 2) yTrue (xChain gLe gLt (xC (.int 0)) (xVar 2) (xVar 0)) [.dat (.int m), .dat (eS xs), .un] (xs.map .int) = .ok (.list (xs.map fun x => .bool (decide (0 ≤ x) && decide (x < m)))) :=
    compR_all PyData.int _ xs (by omega) fun a _ => ⟨_, rfl, by simp only [sNil, sSeq, sAsg, sRet, sIf, sExpr, sRaise, sOwn, sDic, sFor, xC, xOp, xUn, xNil, xCons, xCall, xIf, xAnd, xOr, xNot, xChain, xFn, xLc, xSortSet, zSeq, zRange, yB, yT, yAnd, yOr, yNot, asB_b, Rs.bind_ok, Rs.bind_err, of_some, of_none, truth_b, toRs_ret, toRs_err, toRs_nx, tg1, tgN, setAll, gTupD, gLstD, wipeE, padE_eq, xVar_0, xVar_s, set_0, set_s, get_0, get_s, List.map_cons, List.map_nil, List.cons_append, List.nil_append, List.length_cons, List.length_nil, List.replicate, Nat.reduceAdd, Nat.reduceSub, Nat.zero_add, Nat.reduceLeDiff, Nat.reduceLT, reduceIte, reduceCtorEq, if_true, if_false, ite_true, ite_false, Bool.false_eq_true, Bool.not_true, Bool.not_false, Option.map_some, ne_eq, not_true_eq_false, not_false_eq_true, decide_true, decide_false, decide_not, Bool.not_eq_true', Int.reduceEq, Int.reduceNe, Int.reduceLT, Int.reduceLE, Int.reduceAdd, Int.reduceSub, Int.reduceNeg, Bool.true_and, Bool.and_true, Bool.false_and, Bool.and_false, Bool.true_or, Bool.or_true, Bool.false_or, Bool.or_false, Int.cast_ofNat_Int, Int.natCast_zero, Int.natCast_one, le_I, lt_I, chain_b]⟩
  unfold s_is_set f_is_set
  simp only [sNil, sSeq, sAsg, sRet, sIf, sExpr, sRaise, sOwn, sDic, sFor, xC, xOp, xUn, xNil, xCons, xCall, xIf, xAnd, xOr, xNot, xChain, xFn, xLc, xSortSet, zSeq, zRange, yB, yT, yAnd, yOr, yNot, asB_b, Rs.bind_ok, Rs.bind_err, of_some, of_none, truth_b, toRs_ret, toRs_err, toRs_nx, tg1, tgN, setAll, gTupD, gLstD, wipeE, padE_eq, xVar_0, xVar_s, set_0, set_s, get_0, get_s, List.map_cons, List.map_nil, List.cons_append, List.nil_append, List.length_cons, List.length_nil, List.replicate, Nat.reduceAdd, Nat.reduceSub, Nat.zero_add, Nat.reduceLeDiff, Nat.reduceLT, reduceIte, reduceCtorEq, if_true, if_false, ite_true, ite_false, Bool.false_eq_true, Bool.not_true, Bool.not_false, Option.map_some, ne_eq, not_true_eq_false, not_false_eq_true, decide_true, decide_false, decide_not, Bool.not_eq_true', Int.reduceEq, Int.reduceNe, Int.reduceLT, Int.reduceLE, Int.reduceAdd, Int.reduceSub, Int.reduceNeg, Bool.true_and, Bool.and_true, Bool.false_and, Bool.and_false, Bool.true_or, Bool.or_true, Bool.false_or, Bool.or_false, Int.cast_ofNat_Int, Int.natCast_zero, Int.natCast_one, list_S, ss_S h, eq_Li, seq_S, c, gAll_bools]
  unfold isSetB
  by_cases k : Asc xs
  · have k2 := (setI_iff xs).mpr k
    simp [k, ← k2, toRs_ret]
  · have k2 : ¬ xs = setI xs := fun z => k ((setI_iff xs).mp z)
    simp [k, k2, toRs_ret]

/-! ### look_rules -/
abbrev Wy := Int × Option (List Int)
def eV : Wy → PyData
  | (t, some xs) => eW (t, xs)
  | (t, none) => .tuple [.int t]
def eU (m : Int) (ws : List Wy) : PyData := .tuple [.int m, .list (ws.map eV)]
theorem atI_nat' {α : Type} (xs : List α) (i : Nat) : atI xs (i : Int) = xs[i]? := by
  by_cases h : i < xs.length
  · rw [List.getElem?_eq_getElem h]
    exact atI_nat (List.getElem?_eq_getElem h)
  · rw [List.getElem?_eq_none (by omega)]
    unfold atI ixN
    rw [if_pos (by omega)]
    simp; omega
theorem idx_n (xs : List PyData) (i : Nat) : gIdx (.list xs) (.int (i : Int)) = xs[i]? := atI_nat' xs i
theorem idx_t0 (a : PyData) (r : List PyData) : gIdx (.tuple (a :: r)) (.int 0) = some a := atI_nat' (a :: r) 0
theorem idx_t1 (a b : PyData) (r : List PyData) : gIdx (.tuple (a :: b :: r)) (.int 1) = some b := atI_nat' (a :: b :: r) 1
def wayOk (m : Int) (ws : List Wy) (i : Nat) : Prop := ∃ t xs, ws[i]? = some (t, some xs) ∧ 0 ≤ t ∧ t < m ∧ isSetB m xs = true ∧ t ∉ xs ∧ (0 < i → ∃ t' xs', ws[i - 1]? = some (t', some xs') ∧ ltW (t', xs') (t, xs))
theorem upto_at {n i : Nat} {a : Int} (h : (upto (n : Int))[i]? = some a) : a = (i : Int) ∧ i < n := by
  have hl := (List.getElem?_eq_some_iff.mp h).1
  rw [upto_length] at hl
  rw [upto_get (by simpa using hl)] at h
  exact ⟨(Option.some.inj h).symm, by simpa using hl⟩
theorem look_loop (m : Int) (ws : List Wy) (hs : ∀ t xs, (t, some xs) ∈ ws → xs.length ≤ 4000) (hl : ws.length ≤ 100000) {b : Sf}
    (hb : b = (sSeq (sIf (yOr (yB (xOp gNe (xCall gLen (xCons (xOp gIdx (xVar 2) (xVar 3)) xNil)) (xC (.int 2)))) (yNot (yB (xChain gLe gLt (xC (.int 0)) (xOp gIdx (xOp gIdx (xVar 2) (xVar 3)) (xC (.int 0))) (xVar 1))))) (sRaise "BadRules") sNil) (sSeq (sAsg (xOp gIdx (xVar 2) (xVar 3)) (tgN [4, 5])) (sIf (yOr (yNot (yT (xFn 2 s_is_set (xCons (xVar 1) (xCons (xVar 5) xNil))))) (yOr (yB (xOp gIn (xVar 4) (xVar 5))) (yAnd (yB (xOp gGt (xVar 3) (xC (.int 0)))) (yNot (yB (xOp gLt (xOp gIdx (xVar 2) (xOp gSub (xVar 3) (xC (.int 1)))) (xOp gIdx (xVar 2) (xVar 3)))))))) (sRaise "BadRules") sNil))))
    {R : PyData} {x y z : Slot} :
    ((∀ i a, (upto (ws.length : Int))[i]? = some a → wayOk m ws i) ∧ ∃ δ, forL (tg1 3) b ((upto (ws.length : Int)).map .int) [.dat R, .dat (.int m), .dat (.list (ws.map eV)), x, y, z] = .nx δ) ∨
    ((∃ i a, (upto (ws.length : Int))[i]? = some a ∧ ¬ wayOk m ws i) ∧ ∃ δ, forL (tg1 3) b ((upto (ws.length : Int)).map .int) [.dat R, .dat (.int m), .dat (.list (ws.map eV)), x, y, z] = .err "BadRules" δ) := by
  have := forL_err PyData.int (g := tg1 3) (b := b) "BadRules" (upto (ws.length : Int)) (fun i _ => wayOk m ws i) (fun i δ => (∀ j, j < i → wayOk m ws j) ∧ ∃ x y z, δ = [.dat R, .dat (.int m), .dat (.list (ws.map eV)), x, y, z]) (fun i a hi δ ⟨hg, x, y, z, hδ⟩ => ?_) ⟨fun j hj => absurd hj (Nat.not_lt_zero _), x, y, z, rfl⟩
  · rcases this with ⟨h1, δ, h2, _⟩ | ⟨h1, δ, h2⟩
    · exact .inl ⟨h1, δ, h2⟩
    · exact .inr ⟨h1, δ, h2⟩
  · subst hδ
    obtain ⟨rfl, lt⟩ := upto_at hi
    refine ⟨_, rfl, ?_⟩
    obtain ⟨⟨t, o⟩, hw⟩ : ∃ w, ws[i]? = some w := ⟨_, List.getElem?_eq_getElem lt⟩
    have ix : gIdx (.list (ws.map eV)) (.int (i : Int)) = some (eV (t, o)) := by rw [idx_n, List.getElem?_map, hw]; rfl
    cases o with
    | none =>
      refine .inr ⟨fun ⟨t', xs', h, _⟩ => (by rw [hw] at h; cases h), ?_⟩
      rw [hb]
      simp only [sNil, sSeq, sAsg, sRet, sIf, sExpr, sRaise, sOwn, sDic, sFor, xC, xOp, xUn, xNil, xCons, xCall, xIf, xAnd, xOr, xNot, xChain, xFn, xLc, xSortSet, zSeq, zRange, yB, yT, yAnd, yOr, yNot, asB_b, Rs.bind_ok, Rs.bind_err, of_some, of_none, truth_b, toRs_ret, toRs_err, toRs_nx, tg1, tgN, setAll, gTupD, gLstD, wipeE, padE_eq, xVar_0, xVar_s, set_0, set_s, get_0, get_s, List.map_cons, List.map_nil, List.cons_append, List.nil_append, List.length_cons, List.length_nil, List.replicate, Nat.reduceAdd, Nat.reduceSub, Nat.zero_add, Nat.reduceLeDiff, Nat.reduceLT, reduceIte, reduceCtorEq, if_true, if_false, ite_true, ite_false, Bool.false_eq_true, Bool.not_true, Bool.not_false, Option.map_some, ne_eq, not_true_eq_false, not_false_eq_true, decide_true, decide_false, decide_not, Bool.not_eq_true', Int.reduceEq, Int.reduceNe, Int.reduceLT, Int.reduceLE, Int.reduceAdd, Int.reduceSub, Int.reduceNeg, Bool.true_and, Bool.and_true, Bool.false_and, Bool.and_false, Bool.true_or, Bool.or_true, Bool.false_or, Bool.or_false, Int.cast_ofNat_Int, Int.natCast_zero, Int.natCast_one, ix, eV, len_T, ne_I]
      exact ⟨_, rfl⟩
    | some xs =>
      have small := hs t xs (List.mem_of_getElem? hw)
      by_cases h0 : 0 ≤ t ∧ t < m
      · by_cases h1 : isSetB m xs = true
        · by_cases h2 : t ∈ xs
          · refine .inr ⟨fun ⟨t', xs', h, _, _, _, k, _⟩ => by rw [hw] at h; cases h; exact k h2, ?_⟩
            rw [hb]
            simp only [sNil, sSeq, sAsg, sRet, sIf, sExpr, sRaise, sOwn, sDic, sFor, xC, xOp, xUn, xNil, xCons, xCall, xIf, xAnd, xOr, xNot, xChain, xFn, xLc, xSortSet, zSeq, zRange, yB, yT, yAnd, yOr, yNot, asB_b, Rs.bind_ok, Rs.bind_err, of_some, of_none, truth_b, toRs_ret, toRs_err, toRs_nx, tg1, tgN, setAll, gTupD, gLstD, wipeE, padE_eq, xVar_0, xVar_s, set_0, set_s, get_0, get_s, List.map_cons, List.map_nil, List.cons_append, List.nil_append, List.length_cons, List.length_nil, List.replicate, Nat.reduceAdd, Nat.reduceSub, Nat.zero_add, Nat.reduceLeDiff, Nat.reduceLT, reduceIte, reduceCtorEq, if_true, if_false, ite_true, ite_false, Bool.false_eq_true, Bool.not_true, Bool.not_false, Option.map_some, ne_eq, not_true_eq_false, not_false_eq_true, decide_true, decide_false, decide_not, Bool.not_eq_true', Int.reduceEq, Int.reduceNe, Int.reduceLT, Int.reduceLE, Int.reduceAdd, Int.reduceSub, Int.reduceNeg, Bool.true_and, Bool.and_true, Bool.false_and, Bool.and_false, Bool.true_or, Bool.or_true, Bool.false_or, Bool.or_false, Int.cast_ofNat_Int, Int.natCast_zero, Int.natCast_one, ix, eV, eW, len_T, ne_I, idx_t0, le_I, lt_I, h0.1, h0.2, e_is_set m xs small, h1, in_S, h2]
            exact ⟨_, rfl⟩
          · by_cases h3 : i = 0
            · subst h3
              refine .inl ⟨⟨t, xs, hw, h0.1, h0.2, h1, h2, fun z => absurd z (Nat.lt_irrefl 0)⟩, ?_⟩
              have ix0 : gIdx (.list (ws.map eV)) (.int 0) = some (eV (t, some xs)) := ix
              rw [hb]
              simp only [sNil, sSeq, sAsg, sRet, sIf, sExpr, sRaise, sOwn, sDic, sFor, xC, xOp, xUn, xNil, xCons, xCall, xIf, xAnd, xOr, xNot, xChain, xFn, xLc, xSortSet, zSeq, zRange, yB, yT, yAnd, yOr, yNot, asB_b, Rs.bind_ok, Rs.bind_err, of_some, of_none, truth_b, toRs_ret, toRs_err, toRs_nx, tg1, tgN, setAll, gTupD, gLstD, wipeE, padE_eq, xVar_0, xVar_s, set_0, set_s, get_0, get_s, List.map_cons, List.map_nil, List.cons_append, List.nil_append, List.length_cons, List.length_nil, List.replicate, Nat.reduceAdd, Nat.reduceSub, Nat.zero_add, Nat.reduceLeDiff, Nat.reduceLT, reduceIte, reduceCtorEq, if_true, if_false, ite_true, ite_false, Bool.false_eq_true, Bool.not_true, Bool.not_false, Option.map_some, ne_eq, not_true_eq_false, not_false_eq_true, decide_true, decide_false, decide_not, Bool.not_eq_true', Int.reduceEq, Int.reduceNe, Int.reduceLT, Int.reduceLE, Int.reduceAdd, Int.reduceSub, Int.reduceNeg, Bool.true_and, Bool.and_true, Bool.false_and, Bool.and_false, Bool.true_or, Bool.or_true, Bool.false_or, Bool.or_false, Int.cast_ofNat_Int, Int.natCast_zero, Int.natCast_one, ix0, eV, eW, len_T, ne_I, idx_t0, le_I, lt_I, h0.1, h0.2, e_is_set m xs small, h1, in_S, h2, gt_I]
              refine ⟨_, rfl, fun j hj => ?_, _, _, _, rfl⟩
              obtain rfl : j = 0 := by omega
              exact ⟨t, xs, hw, h0.1, h0.2, h1, h2, fun z => absurd z (Nat.lt_irrefl 0)⟩
            · obtain ⟨t', xs', hw', _⟩ := hg (i - 1) (by omega)
              have pos : (0 : Int) < (i : Int) := by omega
              have e1 : ((i : Int) - 1) = ((i - 1 : Nat) : Int) := by omega
              have ix' : gIdx (.list (ws.map eV)) (.int ((i : Int) - 1)) = some (eV (t', some xs')) := by rw [e1, idx_n, List.getElem?_map, hw']; rfl
              by_cases h4 : ltW (t', xs') (t, xs)
              · have ok : wayOk m ws i := ⟨t, xs, hw, h0.1, h0.2, h1, h2, fun _ => ⟨t', xs', hw', h4⟩⟩
                refine .inl ⟨ok, ?_⟩
                rw [hb]
                simp only [sNil, sSeq, sAsg, sRet, sIf, sExpr, sRaise, sOwn, sDic, sFor, xC, xOp, xUn, xNil, xCons, xCall, xIf, xAnd, xOr, xNot, xChain, xFn, xLc, xSortSet, zSeq, zRange, yB, yT, yAnd, yOr, yNot, asB_b, Rs.bind_ok, Rs.bind_err, of_some, of_none, truth_b, toRs_ret, toRs_err, toRs_nx, tg1, tgN, setAll, gTupD, gLstD, wipeE, padE_eq, xVar_0, xVar_s, set_0, set_s, get_0, get_s, List.map_cons, List.map_nil, List.cons_append, List.nil_append, List.length_cons, List.length_nil, List.replicate, Nat.reduceAdd, Nat.reduceSub, Nat.zero_add, Nat.reduceLeDiff, Nat.reduceLT, reduceIte, reduceCtorEq, if_true, if_false, ite_true, ite_false, Bool.false_eq_true, Bool.not_true, Bool.not_false, Option.map_some, ne_eq, not_true_eq_false, not_false_eq_true, decide_true, decide_false, decide_not, Bool.not_eq_true', Int.reduceEq, Int.reduceNe, Int.reduceLT, Int.reduceLE, Int.reduceAdd, Int.reduceSub, Int.reduceNeg, Bool.true_and, Bool.and_true, Bool.false_and, Bool.and_false, Bool.true_or, Bool.or_true, Bool.false_or, Bool.or_false, Int.cast_ofNat_Int, Int.natCast_zero, Int.natCast_one, ix, ix', eV, eW, len_T, ne_I, idx_t0, le_I, lt_I, h0.1, h0.2, e_is_set m xs small, h1, in_S, h2, gt_I, pos, sub_I, lt_W', h4]
                refine ⟨_, rfl, fun j hj => ?_, _, _, _, rfl⟩
                by_cases hj2 : j < i
                · exact hg j hj2
                · obtain rfl : j = i := by omega
                  exact ok
              · refine .inr ⟨fun ⟨t2, xs2, h, _, _, _, _, k⟩ => ?_, ?_⟩
                · rw [hw] at h
                  cases h
                  obtain ⟨t3, xs3, k1, k2⟩ := k (by omega)
                  rw [hw'] at k1
                  cases k1
                  exact h4 k2
                · rw [hb]
                  simp only [sNil, sSeq, sAsg, sRet, sIf, sExpr, sRaise, sOwn, sDic, sFor, xC, xOp, xUn, xNil, xCons, xCall, xIf, xAnd, xOr, xNot, xChain, xFn, xLc, xSortSet, zSeq, zRange, yB, yT, yAnd, yOr, yNot, asB_b, Rs.bind_ok, Rs.bind_err, of_some, of_none, truth_b, toRs_ret, toRs_err, toRs_nx, tg1, tgN, setAll, gTupD, gLstD, wipeE, padE_eq, xVar_0, xVar_s, set_0, set_s, get_0, get_s, List.map_cons, List.map_nil, List.cons_append, List.nil_append, List.length_cons, List.length_nil, List.replicate, Nat.reduceAdd, Nat.reduceSub, Nat.zero_add, Nat.reduceLeDiff, Nat.reduceLT, reduceIte, reduceCtorEq, if_true, if_false, ite_true, ite_false, Bool.false_eq_true, Bool.not_true, Bool.not_false, Option.map_some, ne_eq, not_true_eq_false, not_false_eq_true, decide_true, decide_false, decide_not, Bool.not_eq_true', Int.reduceEq, Int.reduceNe, Int.reduceLT, Int.reduceLE, Int.reduceAdd, Int.reduceSub, Int.reduceNeg, Bool.true_and, Bool.and_true, Bool.false_and, Bool.and_false, Bool.true_or, Bool.or_true, Bool.false_or, Bool.or_false, Int.cast_ofNat_Int, Int.natCast_zero, Int.natCast_one, ix, ix', eV, eW, len_T, ne_I, idx_t0, le_I, lt_I, h0.1, h0.2, e_is_set m xs small, h1, in_S, h2, gt_I, pos, sub_I, lt_W', h4]
                  exact ⟨_, rfl⟩
        · refine .inr ⟨fun ⟨t', xs', h, _, _, k, _⟩ => by rw [hw] at h; cases h; exact h1 k, ?_⟩
          have h1' : isSetB m xs = false := by simpa using h1
          rw [hb]
          simp only [sNil, sSeq, sAsg, sRet, sIf, sExpr, sRaise, sOwn, sDic, sFor, xC, xOp, xUn, xNil, xCons, xCall, xIf, xAnd, xOr, xNot, xChain, xFn, xLc, xSortSet, zSeq, zRange, yB, yT, yAnd, yOr, yNot, asB_b, Rs.bind_ok, Rs.bind_err, of_some, of_none, truth_b, toRs_ret, toRs_err, toRs_nx, tg1, tgN, setAll, gTupD, gLstD, wipeE, padE_eq, xVar_0, xVar_s, set_0, set_s, get_0, get_s, List.map_cons, List.map_nil, List.cons_append, List.nil_append, List.length_cons, List.length_nil, List.replicate, Nat.reduceAdd, Nat.reduceSub, Nat.zero_add, Nat.reduceLeDiff, Nat.reduceLT, reduceIte, reduceCtorEq, if_true, if_false, ite_true, ite_false, Bool.false_eq_true, Bool.not_true, Bool.not_false, Option.map_some, ne_eq, not_true_eq_false, not_false_eq_true, decide_true, decide_false, decide_not, Bool.not_eq_true', Int.reduceEq, Int.reduceNe, Int.reduceLT, Int.reduceLE, Int.reduceAdd, Int.reduceSub, Int.reduceNeg, Bool.true_and, Bool.and_true, Bool.false_and, Bool.and_false, Bool.true_or, Bool.or_true, Bool.false_or, Bool.or_false, Int.cast_ofNat_Int, Int.natCast_zero, Int.natCast_one, ix, eV, eW, len_T, ne_I, idx_t0, le_I, lt_I, h0.1, h0.2, e_is_set m xs small, h1']
          exact ⟨_, rfl⟩
      · refine .inr ⟨fun ⟨t', xs', h, k1, k2, _⟩ => by rw [hw] at h; cases h; exact h0 ⟨k1, k2⟩, ?_⟩
        have h0' : (decide (0 ≤ t) && decide (t < m)) = false := by
          rw [Bool.and_eq_false_iff]
          by_cases q : 0 ≤ t
          · exact .inr (decide_eq_false fun z => h0 ⟨q, z⟩)
          · exact .inl (decide_eq_false q)
        rw [hb]
        simp only [sNil, sSeq, sAsg, sRet, sIf, sExpr, sRaise, sOwn, sDic, sFor, xC, xOp, xUn, xNil, xCons, xCall, xIf, xAnd, xOr, xNot, xChain, xFn, xLc, xSortSet, zSeq, zRange, yB, yT, yAnd, yOr, yNot, asB_b, Rs.bind_ok, Rs.bind_err, of_some, of_none, truth_b, toRs_ret, toRs_err, toRs_nx, tg1, tgN, setAll, gTupD, gLstD, wipeE, padE_eq, xVar_0, xVar_s, set_0, set_s, get_0, get_s, List.map_cons, List.map_nil, List.cons_append, List.nil_append, List.length_cons, List.length_nil, List.replicate, Nat.reduceAdd, Nat.reduceSub, Nat.zero_add, Nat.reduceLeDiff, Nat.reduceLT, reduceIte, reduceCtorEq, if_true, if_false, ite_true, ite_false, Bool.false_eq_true, Bool.not_true, Bool.not_false, Option.map_some, ne_eq, not_true_eq_false, not_false_eq_true, decide_true, decide_false, decide_not, Bool.not_eq_true', Int.reduceEq, Int.reduceNe, Int.reduceLT, Int.reduceLE, Int.reduceAdd, Int.reduceSub, Int.reduceNeg, Bool.true_and, Bool.and_true, Bool.false_and, Bool.and_false, Bool.true_or, Bool.or_true, Bool.false_or, Bool.or_false, Int.cast_ofNat_Int, Int.natCast_zero, Int.natCast_one, ix, eV, eW, len_T, ne_I, idx_t0, le_I, lt_I, chain_b, h0']
        exact ⟨_, rfl⟩
end LY

set_option maxHeartbeats 4000000
namespace LY
open PySem PySem.Spec PyProof.Rows L2
example (a b c : List Int) (h : a ≤ b) (k : b ≤ c) : a ≤ c := List.le_trans h k
example (a b : List Int) : a ≤ b ∨ b ≤ a := List.le_total a b
theorem e_look_ok {m : Int} {ws : List Wy} (hm : 0 ≤ m ∧ m ≤ 10) (hl : ws.length ≤ 1300) (hs : ∀ t xs, (t, some xs) ∈ ws → xs.length ≤ 4000) (ok : ∀ i, i < ws.length → wayOk m ws i) : s_look_rules [eU m ws] = .ok .none := by
  unfold s_look_rules f_look_rules eU
  have n : ¬ (1300 : Int) < (ws.length : Int) := by omega
  have r : rgD (.int (ws.length : Int)) = some ((upto (ws.length : Int)).map .int) := rng_I (by omega)
  simp only [sNil, sSeq, sAsg, sRet, sIf, sExpr, sRaise, sOwn, sDic, sFor, xC, xOp, xUn, xNil, xCons, xCall, xIf, xAnd, xOr, xNot, xChain, xFn, xLc, xSortSet, zSeq, zRange, yB, yT, yAnd, yOr, yNot, asB_b, Rs.bind_ok, Rs.bind_err, of_some, of_none, truth_b, toRs_ret, toRs_err, toRs_nx, tg1, tgN, setAll, gTupD, gLstD, wipeE, padE_eq, xVar_0, xVar_s, set_0, set_s, get_0, get_s, List.map_cons, List.map_nil, List.cons_append, List.nil_append, List.length_cons, List.length_nil, List.replicate, Nat.reduceAdd, Nat.reduceSub, Nat.zero_add, Nat.reduceLeDiff, Nat.reduceLT, reduceIte, reduceCtorEq, if_true, if_false, ite_true, ite_false, Bool.false_eq_true, Bool.not_true, Bool.not_false, Option.map_some, ne_eq, not_true_eq_false, not_false_eq_true, decide_true, decide_false, decide_not, Bool.not_eq_true', Int.reduceEq, Int.reduceNe, Int.reduceLT, Int.reduceLE, Int.reduceAdd, Int.reduceSub, Int.reduceNeg, Bool.true_and, Bool.and_true, Bool.false_and, Bool.and_false, Bool.true_or, Bool.or_true, Bool.false_or, Bool.or_false, Int.cast_ofNat_Int, Int.natCast_zero, Int.natCast_one, le_I, hm.1, hm.2, len_L, List.length_map, gt_I, n, r, sFor, List.length_map]
  rcases look_loop m ws hs (by omega) rfl (R := .tuple [.int m, .list (ws.map eV)]) (x := .un) (y := .un) (z := .un) with ⟨_, δ, h⟩ | ⟨⟨i, a, hi, no⟩, _⟩
  · rw [h]; rfl
  · exact absurd (ok i (upto_at hi).2) no
theorem e_look_bad {m : Int} {ws : List Wy} (hl : ws.length ≤ 1300) (hs : ∀ t xs, (t, some xs) ∈ ws → xs.length ≤ 4000) (bad : (0 ≤ m ∧ m ≤ 10) → ∃ i, i < ws.length ∧ ¬ wayOk m ws i) : s_look_rules [eU m ws] = .err "BadRules" := by
  unfold s_look_rules f_look_rules eU
  have n : ¬ (1300 : Int) < (ws.length : Int) := by omega
  have r : rgD (.int (ws.length : Int)) = some ((upto (ws.length : Int)).map .int) := rng_I (by omega)
  by_cases hm : 0 ≤ m ∧ m ≤ 10
  · simp only [sNil, sSeq, sAsg, sRet, sIf, sExpr, sRaise, sOwn, sDic, sFor, xC, xOp, xUn, xNil, xCons, xCall, xIf, xAnd, xOr, xNot, xChain, xFn, xLc, xSortSet, zSeq, zRange, yB, yT, yAnd, yOr, yNot, asB_b, Rs.bind_ok, Rs.bind_err, of_some, of_none, truth_b, toRs_ret, toRs_err, toRs_nx, tg1, tgN, setAll, gTupD, gLstD, wipeE, padE_eq, xVar_0, xVar_s, set_0, set_s, get_0, get_s, List.map_cons, List.map_nil, List.cons_append, List.nil_append, List.length_cons, List.length_nil, List.replicate, Nat.reduceAdd, Nat.reduceSub, Nat.zero_add, Nat.reduceLeDiff, Nat.reduceLT, reduceIte, reduceCtorEq, if_true, if_false, ite_true, ite_false, Bool.false_eq_true, Bool.not_true, Bool.not_false, Option.map_some, ne_eq, not_true_eq_false, not_false_eq_true, decide_true, decide_false, decide_not, Bool.not_eq_true', Int.reduceEq, Int.reduceNe, Int.reduceLT, Int.reduceLE, Int.reduceAdd, Int.reduceSub, Int.reduceNeg, Bool.true_and, Bool.and_true, Bool.false_and, Bool.and_false, Bool.true_or, Bool.or_true, Bool.false_or, Bool.or_false, Int.cast_ofNat_Int, Int.natCast_zero, Int.natCast_one, le_I, hm.1, hm.2, len_L, List.length_map, gt_I, n, r, sFor, List.length_map]
    rcases look_loop m ws hs (by omega) rfl (R := .tuple [.int m, .list (ws.map eV)]) (x := .un) (y := .un) (z := .un) with ⟨ok, _⟩ | ⟨_, δ, h⟩
    · obtain ⟨i, hi, no⟩ := bad hm
      refine absurd (ok i (i : Int) ?_) no
      rw [upto_get (by simpa using hi)]
    · rw [h]; rfl
  · have hm' : (decide (0 ≤ m) && decide (m ≤ 10)) = false := by
      rw [Bool.and_eq_false_iff]
      by_cases q : 0 ≤ m
      · exact .inr (decide_eq_false fun z => hm ⟨q, z⟩)
      · exact .inl (decide_eq_false q)
    simp only [sNil, sSeq, sAsg, sRet, sIf, sExpr, sRaise, sOwn, sDic, sFor, xC, xOp, xUn, xNil, xCons, xCall, xIf, xAnd, xOr, xNot, xChain, xFn, xLc, xSortSet, zSeq, zRange, yB, yT, yAnd, yOr, yNot, asB_b, Rs.bind_ok, Rs.bind_err, of_some, of_none, truth_b, toRs_ret, toRs_err, toRs_nx, tg1, tgN, setAll, gTupD, gLstD, wipeE, padE_eq, xVar_0, xVar_s, set_0, set_s, get_0, get_s, List.map_cons, List.map_nil, List.cons_append, List.nil_append, List.length_cons, List.length_nil, List.replicate, Nat.reduceAdd, Nat.reduceSub, Nat.zero_add, Nat.reduceLeDiff, Nat.reduceLT, reduceIte, reduceCtorEq, if_true, if_false, ite_true, ite_false, Bool.false_eq_true, Bool.not_true, Bool.not_false, Option.map_some, ne_eq, not_true_eq_false, not_false_eq_true, decide_true, decide_false, decide_not, Bool.not_eq_true', Int.reduceEq, Int.reduceNe, Int.reduceLT, Int.reduceLE, Int.reduceAdd, Int.reduceSub, Int.reduceNeg, Bool.true_and, Bool.and_true, Bool.false_and, Bool.and_false, Bool.true_or, Bool.or_true, Bool.false_or, Bool.or_false, Int.cast_ofNat_Int, Int.natCast_zero, Int.natCast_one, le_I, chain_b, hm']
/-! ### errors pass on -/
/-! ### sets and ways -/
def ins (S : List Int) (t : Int) : List Int := sortI (S ++ [t])
theorem ins_mem {S : List Int} {t x : Int} : x ∈ ins S t ↔ x ∈ S ∨ x = t := by
  unfold ins
  rw [(sortI_perm _).mem_iff]
  simp
theorem ins_len (S : List Int) (t : Int) : (ins S t).length = S.length + 1 := by
  unfold ins
  rw [(sortI_perm _).length_eq]
  simp
theorem ins_asc {S : List Int} {t : Int} (h : Asc S) (n : t ∉ S) : Asc (ins S t) := by
  refine sortI_asc ?_
  rw [List.nodup_append]
  exact ⟨h.nodup, (by simp), fun a ha b hb => by
    rw [List.mem_singleton.mp hb]
    exact fun z => n (z ▸ ha)⟩
theorem len_asc : ∀ {xs : List Int} {a m : Int}, Asc xs → (∀ x ∈ xs, a ≤ x ∧ x < m) → (xs.length : Int) ≤ max 0 (m - a)
  | [], a, m, _, _ => by simp; omega
  | x :: r, a, m, p, h => by
    obtain ⟨p1, p2⟩ := List.pairwise_cons.mp p
    have hx := h x List.mem_cons_self
    have ih := len_asc (xs := r) (a := x + 1) (m := m) p2 fun y hy => ⟨p1 y hy, (h y (List.mem_cons_of_mem _ hy)).2⟩
    rw [List.length_cons]
    omega
theorem isSet_iff {m : Int} {xs : List Int} : isSetB m xs = true ↔ Asc xs ∧ ∀ x ∈ xs, 0 ≤ x ∧ x < m := by
  unfold isSetB
  simp
theorem isSet_len {m : Int} {xs : List Int} (h : isSetB m xs = true) (hm : 0 ≤ m) : (xs.length : Int) ≤ m := by
  obtain ⟨a, b⟩ := isSet_iff.mp h
  have := len_asc a b
  omega
def openB (ws : List (Int × List Int)) (S : List Int) (t : Int) : Bool := !decide (t ∈ S) && ws.any fun w => decide (w.1 = t) && w.2.all fun x => decide (x ∈ S)
theorem eR_eq (m : Int) (ws : List (Int × List Int)) : eR (m, ws) = .tuple [.int m, eWs ws] := rfl
end LY

set_option maxHeartbeats 4000000
namespace LY
open PySem PySem.Spec PyProof.Rows L2
/-! ### all sets within range -/
def subs : Nat → List (List Int)
  | 0 => [[]]
  | n + 1 => subs n ++ (subs n).map (· ++ [(n : Int)])
theorem subs_len : ∀ n, (subs n).length = 2 ^ n
  | 0 => rfl
  | n + 1 => by rw [subs, List.length_append, List.length_map, subs_len n, Nat.pow_succ]; omega
theorem subs_mem : ∀ (n : Nat) (s : List Int), s ∈ subs n ↔ Asc s ∧ ∀ x ∈ s, 0 ≤ x ∧ x < n
  | 0, s => by
    rw [subs, List.mem_singleton]
    constructor
    · rintro rfl; exact ⟨List.Pairwise.nil, fun x z => nomatch z⟩
    · rintro ⟨_, h⟩
      cases s with
      | nil => rfl
      | cons x r => have := h x List.mem_cons_self; omega
  | n + 1, s => by
    rw [subs, List.mem_append, List.mem_map, subs_mem n s]
    constructor
    · rintro (⟨h1, h2⟩ | ⟨s', h, rfl⟩)
      · exact ⟨h1, fun x hx => by have := h2 x hx; omega⟩
      · obtain ⟨h1, h2⟩ := (subs_mem n s').mp h
        refine ⟨List.pairwise_append.mpr ⟨h1, by simp, fun a ha b hb => ?_⟩, fun x hx => ?_⟩
        · rw [List.mem_singleton.mp hb]; exact (h2 a ha).2
        · rcases List.mem_append.mp hx with z | z
          · have := h2 x z; omega
          · rw [List.mem_singleton.mp z]; omega
    · rintro ⟨h1, h2⟩
      by_cases k : (n : Int) ∈ s
      · refine .inr ⟨s.filter (fun x => decide (x ≠ n)), (subs_mem n _).mpr ⟨h1.filter _, fun x hx => ?_⟩, ?_⟩
        · obtain ⟨a, b⟩ := List.mem_filter.mp hx
          have := h2 x a
          have := of_decide_eq_true b
          omega
        · refine asc_ext (List.pairwise_append.mpr ⟨h1.filter _, by simp, fun a ha b hb => ?_⟩) h1 fun x => ?_
          · rw [List.mem_singleton.mp hb]
            obtain ⟨c, d⟩ := List.mem_filter.mp ha
            have := h2 a c
            have := of_decide_eq_true d
            omega
          · rw [List.mem_append, List.mem_filter, List.mem_singleton]
            by_cases z : x = n
            · subst z; simp [k]
            · simp [z]
      · exact .inl ⟨h1, fun x hx => by
          have := h2 x hx
          have : x ≠ n := fun z => k (z ▸ hx)
          omega⟩
theorem nodup_len {α : Type} [DecidableEq α] : ∀ {l u : List α}, l.Nodup → (∀ x ∈ l, x ∈ u) → l.length ≤ u.length
  | [], _, _, _ => Nat.zero_le _
  | x :: r, u, h, k => by
    obtain ⟨h1, h2⟩ := List.nodup_cons.mp h
    have hx := k x List.mem_cons_self
    have ih := nodup_len (l := r) (u := u.erase x) h2 fun y hy => (List.mem_erase_of_ne (fun z => h1 (by rw [← z]; exact hy))).mpr (k y (List.mem_cons_of_mem _ hy))
    rw [List.length_erase_of_mem hx] at ih
    have : 0 < u.length := List.length_pos_of_mem hx
    rw [List.length_cons]
    omega
theorem sets_len {m : Int} (hm : 0 ≤ m ∧ m ≤ 10) {l : List (List Int)} (h : l.Nodup) (k : ∀ s ∈ l, isSetB m s = true) : l.length ≤ 1024 := by
  have q := nodup_len (u := subs m.toNat) h fun s hs => by
    obtain ⟨a, b⟩ := isSet_iff.mp (k s hs)
    exact (subs_mem _ _).mpr ⟨a, fun x hx => by have := b x hx; omega⟩
  rw [subs_len] at q
  have : 2 ^ m.toNat ≤ 2 ^ 10 := Nat.pow_le_pow_right (by decide) (by omega)
  omega

/-! ### states -/
inductive St (m : Int) (ws : List (Int × List Int)) : List Int → Prop
  | nil : St m ws []
  | add {S : List Int} {t : Int} : St m ws S → 0 ≤ t → t < m → openB ws S t = true → St m ws (ins S t)
section
variable {m : Int} {ws : List (Int × List Int)}
theorem open_no {S : List Int} {t : Int} (h : openB ws S t = true) : t ∉ S := by
  unfold openB at h
  rw [Bool.and_eq_true] at h
  simpa using h.1
theorem St.set {S : List Int} (h : St m ws S) : isSetB m S = true := by
  induction h with
  | nil => rfl
  | @add S t _ h0 h1 h2 ih =>
    obtain ⟨a, b⟩ := isSet_iff.mp ih
    refine isSet_iff.mpr ⟨ins_asc a (open_no h2), fun x hx => ?_⟩
    rcases ins_mem.mp hx with z | rfl
    · exact b x z
    · exact ⟨h0, h1⟩
theorem St.down {S : List Int} (h : St m ws S) : ∀ k, k ≤ S.length → ∃ S', St m ws S' ∧ S'.length = k := by
  induction h with
  | nil => exact fun k hk => ⟨[], .nil, (Nat.le_zero.mp hk).symm⟩
  | @add S t h h0 h1 h2 ih =>
    intro k hk
    rw [ins_len] at hk
    by_cases e : k = S.length + 1
    · exact ⟨ins S t, .add h h0 h1 h2, by rw [ins_len, e]⟩
    · exact ih k (by omega)
end
/-- the sets in their order: by size, then as tuples -/
def R2 (a b : List Int) : Prop := a.length < b.length ∨ (a.length = b.length ∧ a < b)
theorem R2_as (a b : List Int) (h : R2 a b) : ¬ R2 b a := by
  unfold R2 at h ⊢
  rintro (k | ⟨k1, k2⟩)
  · rcases h with h | ⟨h1, h2⟩ <;> omega
  · rcases h with h | ⟨h1, h2⟩
    · omega
    · exact lexI h2 k2

/-! ### the dict of the next level -/
def addK (K : List (List Int)) (s : List Int) : List (List Int) := if s ∈ K then K else K ++ [s]
def kvK (K : List (List Int)) : List (PyData × PyData) := K.map fun s => (eS s, .bool true)
theorem num_S (s : List Int) : numD (eS s) = true := by
  unfold eS
  rw [numD]
  induction s with
  | nil => rfl
  | cons x r ih => rw [List.map_cons, numsD, ih]; rfl
theorem sameK_S (a b : List Int) : sameK (eS a) (eS b) = decide (a = b) := by
  by_cases h : a = b
  · subst h; rw [decide_eq_true rfl]; exact decide_eq_true rfl
  · rw [decide_eq_false h]
    refine Bool.eq_false_iff.mpr fun z => h (cod_S.inj (same_num (num_S a) (num_S b) z))
theorem keys_ints : ∀ s : List Int, keysOf (s.map .int) = some (s.map NestedKey.num)
  | [] => rfl
  | x :: r => by rw [List.map_cons, keysOf, keys_ints r]; rfl
theorem depth_nums : ∀ s : List Int, NestedKey.depthAll (s.map NestedKey.num) = 0
  | [] => rfl
  | x :: r => by rw [List.map_cons, NestedKey.depthAll, depth_nums r]; rfl
theorem keyT_S (s : List Int) : keyT (eS s) = some (.tup (s.map NestedKey.num)) := by
  unfold keyT eS
  dsimp only
  rw [LY.keyOf, keys_ints]
  show (if (NestedKey.tup (s.map NestedKey.num)).depth ≤ 8 then _ else _) = _
  rw [if_pos (by rw [NestedKey.depth, depth_nums]; decide)]
theorem look_K (K : List (List Int)) (s : List Int) : (lookD2 (kvK K) (eS s)).isSome = decide (s ∈ K) := by
  unfold lookD2 kvK
  induction K with
  | nil => simp
  | cons x r ih =>
    rw [List.map_cons, List.find?_cons]
    rw [sameK_S]
    by_cases h : x = s
    · simp [h]
    · have h2 : ¬ s = x := fun z => h z.symm
      simp only [h, decide_false, ih, List.mem_cons, h2, false_or]
theorem store_K (K : List (List Int)) (s : List Int) : storeD (kvK K) (eS s) (.bool true) = kvK (addK K s) := by
  unfold storeD addK
  rw [look_K]
  by_cases h : s ∈ K
  · simp only [h, decide_true, if_true]
    unfold kvK
    rw [List.map_map]
    refine List.map_congr_left fun a _ => ?_
    show (if sameK (eS a) (eS s) = true then (eS a, PyData.bool true) else (eS a, PyData.bool true)) = _
    split <;> rfl
  · simp only [h, decide_false, Bool.false_eq_true, if_false]
    unfold kvK
    rw [List.map_append]
    rfl
theorem addK_nodup {K : List (List Int)} {s : List Int} (h : K.Nodup) : (addK K s).Nodup := by
  unfold addK
  split
  · exact h
  · next n =>
    rw [List.nodup_append]
    exact ⟨h, by simp, fun a ha b hb => by
      rw [List.mem_singleton.mp hb]
      exact fun z => n (z ▸ ha)⟩
theorem addK_mem {K : List (List Int)} {s x : List Int} : x ∈ addK K s ↔ x ∈ K ∨ x = s := by
  unfold addK
  split
  · next h => exact ⟨.inl, fun z => z.elim id fun e => e ▸ h⟩
  · simp
def putAll (p : Int → Bool) (f : Int → List Int) (ts : List Int) (K : List (List Int)) : List (List Int) := ts.foldl (fun K t => if p t = true then addK K (f t) else K) K
theorem putAll_spec (p : Int → Bool) (f : Int → List Int) : ∀ (ts : List Int) (K : List (List Int)), K.Nodup → (putAll p f ts K).Nodup ∧ ∀ x, x ∈ putAll p f ts K ↔ x ∈ K ∨ ∃ t ∈ ts, p t = true ∧ x = f t
  | [], K, h => ⟨h, fun x => by simp [putAll]⟩
  | t :: r, K, h => by
    have step : (if p t = true then addK K (f t) else K).Nodup := by
      split
      · exact addK_nodup h
      · exact h
    obtain ⟨h1, h2⟩ := putAll_spec p f r _ step
    refine ⟨h1, fun x => ?_⟩
    show x ∈ putAll p f r (if p t = true then addK K (f t) else K) ↔ _
    rw [h2 x]
    by_cases k : p t = true
    · rw [if_pos k, addK_mem]
      simp only [List.mem_cons, exists_eq_or_imp, k, true_and]
      exact or_assoc
    · rw [if_neg k]
      simp [k]
def sortS (K : List (List Int)) : List (List Int) := K.mergeSort fun a b => decide (a ≤ b)
theorem sortS_perm (K : List (List Int)) : (sortS K).Perm K := List.mergeSort_perm _ _
theorem sortS_pw {K : List (List Int)} (h : K.Nodup) : (sortS K).Pairwise (· < ·) := by
  have p := List.pairwise_mergeSort (le := fun a b : List Int => decide (a ≤ b)) (fun a b c h1 h2 => decide_eq_true (List.le_trans (of_decide_eq_true h1) (of_decide_eq_true h2))) (fun a b => by
    rcases List.le_total a b with h | h
    · rw [decide_eq_true h]; rfl
    · rw [decide_eq_true h]; exact Bool.or_true _) K
  refine (p.and ((sortS_perm K).nodup_iff.mpr h)).imp fun {a b} ⟨h1, h2⟩ => ?_
  have h1 := of_decide_eq_true h1
  refine Classical.byContradiction fun z => h2 (List.le_antisymm h1 (List.not_lt.mp z))
theorem gSorted_K {K : List (List Int)} (h : K.Nodup) (hn : ∀ s ∈ K, s ≠ []) (hl : K.length ≤ 100000) : gSorted [.dict (kvK K)] = some (eSs (sortS K)) := by
  have e1 : (kvK K).map (·.1) = K.map eS := by unfold kvK; rw [List.map_map]; rfl
  have e2 : (dictD (.dict (kvK K))).isSome = true := by
    unfold kvK
    cases K with
    | nil => rfl
    | cons x r => rw [List.map_cons]; rfl
  unfold gSorted
  dsimp only
  obtain ⟨z, hz⟩ := Option.isSome_iff_exists.mp e2
  rw [hz, Option.bind_some, e1, if_pos (sortOk_S K hn hl), sort_is odr_S (sortS_perm K) (sortS_pw h)]
  rfl
end LY

set_option maxHeartbeats 4000000
namespace LY
open PySem PySem.Spec PyProof.Rows L2
/-- rules that are rules -/
structure Rul (m : Int) (ws : List (Int × List Int)) : Prop where
  m0 : 0 ≤ m ∧ m ≤ 10
  len : ws.length ≤ 1300
  pw : ws.Pairwise ltW
  way : ∀ w ∈ ws, 0 ≤ w.1 ∧ w.1 < m ∧ isSetB m w.2 = true ∧ w.1 ∉ w.2
section
variable {m : Int} {ws : List (Int × List Int)}
theorem Rul.small (R : Rul m ws) : ∀ w ∈ ws, w.2.length ≤ 10 := fun w hw => by
  have := isSet_len (R.way w hw).2.2.1 R.m0.1
  have := R.m0
  omega
theorem eR_eU (m : Int) (ws : List (Int × List Int)) : eR (m, ws) = eU m (ws.map fun w => (w.1, some w.2)) := by
  unfold eR eU eWs
  rw [List.map_map]
  rfl
theorem Rul.look (R : Rul m ws) : s_look_rules [eR (m, ws)] = .ok .none := by
  rw [eR_eU]
  refine e_look_ok R.m0 (by rw [List.length_map]; exact R.len) (fun t xs h => ?_) fun i hi => ?_
  · obtain ⟨w, hw, e⟩ := List.mem_map.mp h
    cases e
    have := R.small w hw
    omega
  · rw [List.length_map] at hi
    have hw := List.getElem?_eq_getElem hi
    obtain ⟨h1, h2, h3, h4⟩ := R.way _ (List.mem_of_getElem? hw)
    refine ⟨ws[i].1, ws[i].2, by rw [List.getElem?_map, hw]; rfl, h1, h2, h3, h4, fun pos => ?_⟩
    have hj : i - 1 < ws.length := by omega
    refine ⟨ws[i - 1].1, ws[i - 1].2, by rw [List.getElem?_map, List.getElem?_eq_getElem hj]; rfl, ?_⟩
    exact List.pairwise_iff_getElem.mp R.pw (i - 1) i hj hi (by omega)
theorem upto_mem {n x : Int} : x ∈ upto n ↔ 0 ≤ x ∧ x < n := by
  unfold upto
  rw [List.mem_map]
  constructor
  · rintro ⟨i, hi, rfl⟩
    have := List.mem_range.mp hi
    omega
  · intro h
    exact ⟨x.toNat, List.mem_range.mpr (by omega), by omega⟩
end

end LY

set_option maxHeartbeats 4000000
namespace LY
open PySem PySem.Spec PyProof.Rows L2
end LY

set_option maxHeartbeats 4000000
namespace LY
open PySem PySem.Spec PyProof.Rows L2
section
variable {m : Int} {ws : List (Int × List Int)} {T : List Int}
/-- a state within T -/
structure Gr (m : Int) (ws : List (Int × List Int)) (T S : List Int) : Prop where
  st : St m ws S
  sub : ∀ x ∈ S, x ∈ T
/-- .. that grows no more -/
structure Mx (m : Int) (ws : List (Int × List Int)) (T S : List Int) : Prop extends Gr m ws T S where
  no : ∀ t ∈ T, openB ws S t = false
theorem St.asc {S : List Int} (h : St m ws S) : Asc S := (isSet_iff.mp h.set).1
theorem open_mono {S S' : List Int} {t : Int} (h : openB ws S t = true) (k : ∀ x ∈ S, x ∈ S') (n : t ∉ S') : openB ws S' t = true := by
  unfold openB at h ⊢
  simp only [Bool.and_eq_true, List.any_eq_true, List.all_eq_true, decide_eq_true_eq, Bool.not_eq_true', decide_eq_false_iff_not] at h ⊢
  obtain ⟨_, w, hw, e, a⟩ := h
  exact ⟨n, w, hw, e, fun x hx => k x (a x hx)⟩
theorem Mx.all {C S : List Int} (c : Mx m ws T C) (h : St m ws S) : (∀ x ∈ S, x ∈ T) → ∀ x ∈ S, x ∈ C := by
  induction h with
  | nil => exact fun _ x z => nomatch z
  | @add S t h h0 h1 o ih =>
    intro k x hx
    have ih' := ih fun y hy => k y (ins_mem.mpr (.inl hy))
    rcases ins_mem.mp hx with z | rfl
    · exact ih' x z
    · refine Classical.byContradiction fun n => ?_
      have q := open_mono o ih' n
      rw [c.no _ (k _ (ins_mem.mpr (.inr rfl)))] at q
      exact nomatch q
theorem Mx.eq {C : List Int} (c : Mx m ws T C) (aT : Asc T) : C = T ↔ St m ws T := by
  constructor
  · intro e; exact e ▸ c.st
  · intro h
    exact asc_ext c.st.asc aT fun x => ⟨c.sub x, c.all h (fun _ z => z) x⟩
def stepF (ws : List (Int × List Int)) (p : List Int × Bool) (t : Int) : List Int × Bool := if openB ws p.1 t = true then (ins p.1 t, true) else p
theorem Gr.step {p : List Int × Bool} {t : Int} (h : Gr m ws T p.1) (hT : isSetB m T = true) (ht : t ∈ T) : Gr m ws T (stepF ws p t).1 := by
  unfold stepF
  split
  · next o =>
    obtain ⟨a, b⟩ := (isSet_iff.mp hT).2 t ht
    exact ⟨.add h.st a b o, fun x hx => (ins_mem.mp hx).elim (h.sub x) fun e => e ▸ ht⟩
  · exact h
theorem pass_spec (hT : isSetB m T = true) : ∀ (ts : List Int) (p : List Int × Bool), (∀ t ∈ ts, t ∈ T) → Gr m ws T p.1 → Gr m ws T (ts.foldl (stepF ws) p).1 ∧ p.1.length ≤ (ts.foldl (stepF ws) p).1.length ∧
    ((ts.foldl (stepF ws) p = p ∧ ∀ t ∈ ts, openB ws p.1 t = false) ∨ ((ts.foldl (stepF ws) p).2 = true ∧ p.1.length < (ts.foldl (stepF ws) p).1.length))
  | [], p, _, h => ⟨h, Nat.le_refl _, .inl ⟨rfl, fun t z => nomatch z⟩⟩
  | t :: r, p, k, h => by
    have h1 := h.step hT (k t List.mem_cons_self)
    obtain ⟨a, b, c⟩ := pass_spec hT r (stepF ws p t) (fun x hx => k x (List.mem_cons_of_mem _ hx)) h1
    rw [List.foldl_cons]
    cases o : openB ws p.1 t with
    | false =>
      have e : stepF ws p t = p := by unfold stepF; rw [o]; rfl
      rw [e] at a b c ⊢
      refine ⟨a, b, ?_⟩
      rcases c with ⟨c1, c2⟩ | c
      · refine .inl ⟨c1, fun x hx => ?_⟩
        rcases List.mem_cons.mp hx with rfl | z
        · exact o
        · exact c2 x z
      · exact .inr c
    | true =>
      have e : stepF ws p t = (ins p.1 t, true) := by unfold stepF; rw [o]; rfl
      have l : (stepF ws p t).1.length = p.1.length + 1 := by rw [e]; exact ins_len _ _
      refine ⟨a, by omega, .inr ?_⟩
      rcases c with ⟨c1, _⟩ | ⟨c1, c2⟩
      · rw [c1, l, e]
        exact ⟨rfl, by omega⟩
      · exact ⟨c1, by omega⟩
theorem Gr.len {S : List Int} (h : Gr m ws T S) : S.length ≤ T.length := nodup_len h.st.asc.nodup h.sub
end
end LY

set_option maxHeartbeats 4000000
namespace LY
open PySem PySem.Spec PyProof.Rows L2
/-! ### numbers out of the script -/
theorem mod_I {a b : Int} (h : b ≠ 0) : gMod (.int a) (.int b) = some (.int (a.fmod b)) := if_pos h
theorem div_I {a b : Int} (h : b ≠ 0 ∧ b.natAbs < 1073741824) : gDiv (.int a) (.int b) = some (.int (a.fdiv b)) := if_pos h
theorem mul_I {a b : Int} (h : (smallI a || smallI b) = true) : gMul (.int a) (.int b) = some (.int (a * b)) := if_pos h
theorem fmod_in {a b : Int} (h : 0 < b) : 0 ≤ a.fmod b ∧ a.fmod b < b := ⟨Int.fmod_nonneg_of_pos a h, Int.fmod_lt_of_pos a h⟩
theorem atI_in {α : Type} {xs : List α} {j : Int} (h0 : 0 ≤ j) (h1 : j < xs.length) : ∃ a, atI xs j = some a ∧ a ∈ xs := by
  obtain ⟨i, rfl⟩ : ∃ i : Nat, j = (i : Int) := ⟨j.toNat, by omega⟩
  have hi : i < xs.length := by omega
  exact ⟨xs[i], by rw [atI_nat', List.getElem?_eq_getElem hi], List.getElem_mem hi⟩
theorem cell_ok (ns : List Int) (k : Int) : ∃ c : Int, s__law_cell [scrD ns, .int k] = .ok (.int c) := by
  have tr : truthD (scrD ns) = some (!ns.isEmpty) := by unfold scrD truthD; cases ns <;> rfl
  have ln : gLen [scrD ns] = some (.int ns.length) := by unfold scrD gLen; simp
  unfold s__law_cell f__law_cell
  cases ns with
  | nil =>
    refine ⟨0, ?_⟩
    simp only [sNil, sSeq, sAsg, sRet, sIf, sExpr, sRaise, sOwn, sDic, sFor, xC, xOp, xUn, xNil, xCons, xCall, xIf, xAnd, xOr, xNot, xChain, xFn, xLc, xSortSet, zSeq, zRange, yB, yT, yAnd, yOr, yNot, asB_b, Rs.bind_ok, Rs.bind_err, of_some, of_none, truth_b, toRs_ret, toRs_err, toRs_nx, tg1, tgN, setAll, gTupD, gLstD, wipeE, padE_eq, xVar_0, xVar_s, set_0, set_s, get_0, get_s, List.map_cons, List.map_nil, List.cons_append, List.nil_append, List.length_cons, List.length_nil, List.replicate, Nat.reduceAdd, Nat.reduceSub, Nat.zero_add, Nat.reduceLeDiff, Nat.reduceLT, reduceIte, reduceCtorEq, if_true, if_false, ite_true, ite_false, Bool.false_eq_true, Bool.not_true, Bool.not_false, Option.map_some, ne_eq, not_true_eq_false, not_false_eq_true, decide_true, decide_false, decide_not, Bool.not_eq_true', Int.reduceEq, Int.reduceNe, Int.reduceLT, Int.reduceLE, Int.reduceAdd, Int.reduceSub, Int.reduceNeg, Bool.true_and, Bool.and_true, Bool.false_and, Bool.and_false, Bool.true_or, Bool.or_true, Bool.false_or, Bool.or_false, Int.cast_ofNat_Int, Int.natCast_zero, Int.natCast_one, tr, List.isEmpty_nil]
  | cons x r =>
    have pos : (0 : Int) < ((x :: r).length : Int) := by rw [List.length_cons]; omega
    obtain ⟨h0, h1⟩ := fmod_in (a := k) pos
    obtain ⟨a, ha, hm⟩ := atI_in (xs := (x :: r).map PyData.int) h0 (by rw [List.length_map]; exact h1)
    obtain ⟨c, _, rfl⟩ := List.mem_map.mp hm
    refine ⟨c, ?_⟩
    have ix : gIdx (scrD (x :: r)) (.int (k.fmod ((x :: r).length : Int))) = some (.int c) := ha
    have md : gMod (.int k) (.int ((x :: r).length : Int)) = some (.int (k.fmod ((x :: r).length : Int))) := mod_I (by omega)
    generalize hn : ((x :: r).length : Int) = n at *
    simp only [sNil, sSeq, sAsg, sRet, sIf, sExpr, sRaise, sOwn, sDic, sFor, xC, xOp, xUn, xNil, xCons, xCall, xIf, xAnd, xOr, xNot, xChain, xFn, xLc, xSortSet, zSeq, zRange, yB, yT, yAnd, yOr, yNot, asB_b, Rs.bind_ok, Rs.bind_err, of_some, of_none, truth_b, toRs_ret, toRs_err, toRs_nx, tg1, tgN, setAll, gTupD, gLstD, wipeE, padE_eq, xVar_0, xVar_s, set_0, set_s, get_0, get_s, List.map_cons, List.map_nil, List.cons_append, List.nil_append, List.length_cons, List.length_nil, List.replicate, Nat.reduceAdd, Nat.reduceSub, Nat.zero_add, Nat.reduceLeDiff, Nat.reduceLT, reduceIte, reduceCtorEq, if_true, if_false, ite_true, ite_false, Bool.false_eq_true, Bool.not_true, Bool.not_false, Option.map_some, ne_eq, not_true_eq_false, not_false_eq_true, decide_true, decide_false, decide_not, Bool.not_eq_true', Int.reduceEq, Int.reduceNe, Int.reduceLT, Int.reduceLE, Int.reduceAdd, Int.reduceSub, Int.reduceNeg, Bool.true_and, Bool.and_true, Bool.false_and, Bool.and_false, Bool.true_or, Bool.or_true, Bool.false_or, Bool.or_false, Int.cast_ofNat_Int, Int.natCast_zero, Int.natCast_one, tr, List.isEmpty_cons, ln, md, ix]
theorem mix_ok (ns : List Int) (k : Int) : ∃ v : Int, s__law_mix [scrD ns, .int k] = .ok (.int v) ∧ 0 ≤ v := by
  obtain ⟨c, hc⟩ := cell_ok ns k
  refine ⟨_, ?_, (fmod_in (a := ((((c + 104729 * (k + 1)).fmod 4294967291) * 48271).fmod 4294967279).fdiv 64 * 69621 + (((c + 104729 * (k + 1)).fmod 4294967291) * 48271).fmod 4294967279) (b := 4294967231) (by decide)).1⟩
  · have m1 : gMul (.int 104729) (.int (k + 1)) = some (.int (104729 * (k + 1))) := mul_I (by rw [show smallI 104729 = true by decide]; rfl)
    have m2 : ∀ a : Int, gMul (.int a) (.int 48271) = some (.int (a * 48271)) := fun a => mul_I (by rw [show smallI 48271 = true by decide]; exact Bool.or_true _)
    have m3 : ∀ a : Int, gMul (.int a) (.int 69621) = some (.int (a * 69621)) := fun a => mul_I (by rw [show smallI 69621 = true by decide]; exact Bool.or_true _)
    have d1 : ∀ a : Int, gMod (.int a) (.int 4294967291) = some (.int (a.fmod 4294967291)) := fun a => mod_I (by decide)
    have d2 : ∀ a : Int, gMod (.int a) (.int 4294967279) = some (.int (a.fmod 4294967279)) := fun a => mod_I (by decide)
    have d3 : ∀ a : Int, gMod (.int a) (.int 4294967231) = some (.int (a.fmod 4294967231)) := fun a => mod_I (by decide)
    have d4 : ∀ a : Int, gDiv (.int a) (.int 64) = some (.int (a.fdiv 64)) := fun a => div_I (by decide)
    unfold s__law_mix f__law_mix
    simp only [sNil, sSeq, sAsg, sRet, sIf, sExpr, sRaise, sOwn, sDic, sFor, xC, xOp, xUn, xNil, xCons, xCall, xIf, xAnd, xOr, xNot, xChain, xFn, xLc, xSortSet, zSeq, zRange, yB, yT, yAnd, yOr, yNot, asB_b, Rs.bind_ok, Rs.bind_err, of_some, of_none, truth_b, toRs_ret, toRs_err, toRs_nx, tg1, tgN, setAll, gTupD, gLstD, wipeE, padE_eq, xVar_0, xVar_s, set_0, set_s, get_0, get_s, List.map_cons, List.map_nil, List.cons_append, List.nil_append, List.length_cons, List.length_nil, List.replicate, Nat.reduceAdd, Nat.reduceSub, Nat.zero_add, Nat.reduceLeDiff, Nat.reduceLT, reduceIte, reduceCtorEq, if_true, if_false, ite_true, ite_false, Bool.false_eq_true, Bool.not_true, Bool.not_false, Option.map_some, ne_eq, not_true_eq_false, not_false_eq_true, decide_true, decide_false, decide_not, Bool.not_eq_true', Int.reduceEq, Int.reduceNe, Int.reduceLT, Int.reduceLE, Int.reduceAdd, Int.reduceSub, Int.reduceNeg, Bool.true_and, Bool.and_true, Bool.false_and, Bool.and_false, Bool.true_or, Bool.or_true, Bool.false_or, Bool.or_false, Int.cast_ofNat_Int, Int.natCast_zero, Int.natCast_one, hc, add_I, m1, m2, m3, d1, d2, d3, d4]
/-- a part of a list, by its places -/
theorem part_of (oth : List Int) (p : Int → Bool) : ∃ xs : List Int, ((upto (oth.length : Int)).filter p).map (fun j => PyData.int (oth.getD j.toNat 0)) = xs.map .int ∧ (∀ x ∈ xs, x ∈ oth) ∧ (Asc oth → Asc xs) := by
  refine ⟨((upto (oth.length : Int)).filter p).map (fun j => oth.getD j.toNat 0), by rw [List.map_map]; rfl, fun x hx => ?_, fun h => ?_⟩
  · obtain ⟨j, hj, rfl⟩ := List.mem_map.mp hx
    obtain ⟨a, b⟩ := upto_mem.mp (List.mem_filter.mp hj).1
    have lt : j.toNat < oth.length := by omega
    rw [List.getD_eq_getElem?_getD, List.getElem?_eq_getElem lt]
    exact List.getElem_mem lt
  · refine List.pairwise_map.mpr ?_
    have up : (upto (oth.length : Int)).Pairwise (· < ·) := by
      unfold upto
      refine List.pairwise_map.mpr (List.pairwise_lt_range.imp fun {a b} q => by omega)
    refine List.Pairwise.imp_of_mem (fun {a b} ha hb q => ?_) (up.filter p)
    obtain ⟨a0, a1⟩ := upto_mem.mp (List.mem_filter.mp ha).1
    obtain ⟨b0, b1⟩ := upto_mem.mp (List.mem_filter.mp hb).1
    have la : a.toNat < oth.length := by omega
    have lb : b.toNat < oth.length := by omega
    rw [List.getD_eq_getElem?_getD, List.getElem?_eq_getElem la, List.getD_eq_getElem?_getD, List.getElem?_eq_getElem lb]
    exact List.pairwise_iff_getElem.mp h a.toNat b.toNat la lb (by omega)
theorem two_pow (j : Int) (h : 0 ≤ j ∧ j < 7) : ∃ d : Int, gIdx (.list [.int 1, .int 2, .int 4, .int 8, .int 16, .int 32, .int 64]) (.int j) = some (.int d) ∧ (d ≠ 0 ∧ d.natAbs < 1073741824) := by
  have q : j = 0 ∨ j = 1 ∨ j = 2 ∨ j = 3 ∨ j = 4 ∨ j = 5 ∨ j = 6 := by omega
  rcases q with rfl | rfl | rfl | rfl | rfl | rfl | rfl <;> exact ⟨_, rfl, by decide⟩
theorem subset_ok (ns : List Int) (k : Int) (oth : List Int) (hl : oth.length ≤ 7) : ∃ xs : List Int, s__law_subset [scrD ns, .int k, .list (oth.map .int)] = .ok (eS xs) ∧ (∀ x ∈ xs, x ∈ oth) ∧ (Asc oth → Asc xs) := by
  obtain ⟨v, hv, _⟩ := mix_ok ns k
  have dv : gDiv (.int v) (.int 8) = some (.int (v.fdiv 8)) := div_I (by decide)
  have r : rgD (.int (oth.length : Int)) = some ((upto (oth.length : Int)).map .int) := rng_I (by omega)
  have tw : ∀ j : Int, ∃ d : Int, (0 ≤ j ∧ j < 7) → gIdx (.list [.int 1, .int 2, .int 4, .int 8, .int 16, .int 32, .int 64]) (.int j) = some (.int d) ∧ (d ≠ 0 ∧ d.natAbs < 1073741824) := fun j => by
    by_cases h : 0 ≤ j ∧ j < 7
    · obtain ⟨d, h1, h2⟩ := two_pow j h
      exact ⟨d, fun _ => ⟨h1, h2⟩⟩
    · exact ⟨0, fun z => absurd z h⟩
  obtain ⟨pw, hpw⟩ := Classical.axiomOfChoice tw
  obtain ⟨xs, e, h1, h2⟩ := part_of oth fun j => decide (((v.fdiv 8).fdiv (pw j)).fmod 2 = 1)
  refine ⟨xs, ?_, h1, h2⟩
  have gl : gLstD [.int 1, .int 2, .int 4, .int 8, .int 16, .int 32, .int 64] = some (.list [.int 1, .int 2, .int 4, .int 8, .int 16, .int 32, .int 64]) := rfl
  have c : compR (tg1 4) (yB (xOp gEq (xOp gMod (xOp gDiv (xVar 3) (xOp gIdx (xCall gLstD (xCons (xC (.int 1)) (xCons (xC (.int 2)) (xCons (xC (.int 4)) (xCons (xC (.int 8)) (xCons (xC (.int 16)) (xCons (xC (.int 32)) (xCons (xC (.int 64)) xNil)))))))) (xVar 4))) (xC (.int 2))) (xC (.int 1)))) (xOp gIdx (xVar 2) (xVar 4))
      [.dat (scrD ns), .dat (.int k), .dat (.list (oth.map .int)), .dat (.int (v.fdiv 8)), .un] ((upto (oth.length : Int)).map .int) = .ok (.list (xs.map .int)) := by
    rw [← e]
    refine compR_map PyData.int _ _ _ (by rw [upto_length]; omega) fun j hj => ⟨_, rfl, ?_, fun _ => ?_⟩
    · obtain ⟨a, b⟩ := upto_mem.mp hj
      obtain ⟨q1, q2⟩ := hpw j ⟨a, by omega⟩
      have q3 : gDiv (.int (v.fdiv 8)) (.int (pw j)) = some (.int ((v.fdiv 8).fdiv (pw j))) := div_I q2
      have q4 : ∀ x : Int, gMod (.int x) (.int 2) = some (.int (x.fmod 2)) := fun x => mod_I (by decide)
      simp only [sNil, sSeq, sAsg, sRet, sIf, sExpr, sRaise, sOwn, sDic, sFor, xC, xOp, xUn, xNil, xCons, xCall, xIf, xAnd, xOr, xNot, xChain, xFn, xLc, xSortSet, zSeq, zRange, yB, yT, yAnd, yOr, yNot, asB_b, Rs.bind_ok, Rs.bind_err, of_some, of_none, truth_b, toRs_ret, toRs_err, toRs_nx, tg1, tgN, setAll, gTupD, wipeE, padE_eq, xVar_0, xVar_s, set_0, set_s, get_0, get_s, List.map_cons, List.map_nil, List.cons_append, List.nil_append, List.length_cons, List.length_nil, List.replicate, Nat.reduceAdd, Nat.reduceSub, Nat.zero_add, Nat.reduceLeDiff, Nat.reduceLT, reduceIte, reduceCtorEq, if_true, if_false, ite_true, ite_false, Bool.false_eq_true, Bool.not_true, Bool.not_false, Option.map_some, ne_eq, not_true_eq_false, not_false_eq_true, decide_true, decide_false, decide_not, Bool.not_eq_true', Int.reduceEq, Int.reduceNe, Int.reduceLT, Int.reduceLE, Int.reduceAdd, Int.reduceSub, Int.reduceNeg, Bool.true_and, Bool.and_true, Bool.false_and, Bool.and_false, Bool.true_or, Bool.or_true, Bool.false_or, Bool.or_false, Int.cast_ofNat_Int, Int.natCast_zero, Int.natCast_one, gl, q1, q3, q4, eq_I]
    · obtain ⟨a, b⟩ := upto_mem.mp hj
      have lt : j.toNat < oth.length := by omega
      have ix : gIdx (.list (oth.map .int)) (.int j) = some (.int (oth.getD j.toNat 0)) := by
        have e2 : j = ((j.toNat : Nat) : Int) := by omega
        rw [e2, idx_n, List.getElem?_map, List.getElem?_eq_getElem lt, ← e2, List.getD_eq_getElem?_getD, List.getElem?_eq_getElem lt]
        rfl
      simp only [sNil, sSeq, sAsg, sRet, sIf, sExpr, sRaise, sOwn, sDic, sFor, xC, xOp, xUn, xNil, xCons, xCall, xIf, xAnd, xOr, xNot, xChain, xFn, xLc, xSortSet, zSeq, zRange, yB, yT, yAnd, yOr, yNot, asB_b, Rs.bind_ok, Rs.bind_err, of_some, of_none, truth_b, toRs_ret, toRs_err, toRs_nx, tg1, tgN, setAll, gTupD, gLstD, wipeE, padE_eq, xVar_0, xVar_s, set_0, set_s, get_0, get_s, List.map_cons, List.map_nil, List.cons_append, List.nil_append, List.length_cons, List.length_nil, List.replicate, Nat.reduceAdd, Nat.reduceSub, Nat.zero_add, Nat.reduceLeDiff, Nat.reduceLT, reduceIte, reduceCtorEq, if_true, if_false, ite_true, ite_false, Bool.false_eq_true, Bool.not_true, Bool.not_false, Option.map_some, ne_eq, not_true_eq_false, not_false_eq_true, decide_true, decide_false, decide_not, Bool.not_eq_true', Int.reduceEq, Int.reduceNe, Int.reduceLT, Int.reduceLE, Int.reduceAdd, Int.reduceSub, Int.reduceNeg, Bool.true_and, Bool.and_true, Bool.false_and, Bool.and_false, Bool.true_or, Bool.or_true, Bool.false_or, Bool.or_false, Int.cast_ofNat_Int, Int.natCast_zero, Int.natCast_one, ix]
  have tp : gTuple [.list (xs.map .int)] = some (eS xs) := rfl
  have ln : gLen [.list (oth.map PyData.int)] = some (.int (oth.length : Int)) := by rw [len_L, List.length_map]
  unfold s__law_subset f__law_subset
  generalize (yB (xOp gEq (xOp gMod (xOp gDiv (xVar 3) (xOp gIdx (xCall gLstD (xCons (xC (.int 1)) (xCons (xC (.int 2)) (xCons (xC (.int 4)) (xCons (xC (.int 8)) (xCons (xC (.int 16)) (xCons (xC (.int 32)) (xCons (xC (.int 64)) xNil)))))))) (xVar 4))) (xC (.int 2))) (xC (.int 1)))) = Y at c ⊢
  simp only [sNil, sSeq, sAsg, sRet, sIf, sExpr, sRaise, sOwn, sDic, sFor, xC, xOp, xUn, xNil, xCons, xCall, xIf, xAnd, xOr, xNot, xChain, xFn, xLc, xSortSet, zSeq, zRange, yB, yT, yAnd, yOr, yNot, asB_b, Rs.bind_ok, Rs.bind_err, of_some, of_none, truth_b, toRs_ret, toRs_err, toRs_nx, tg1, tgN, setAll, gTupD, gLstD, wipeE, padE_eq, xVar_0, xVar_s, set_0, set_s, get_0, get_s, List.map_cons, List.map_nil, List.cons_append, List.nil_append, List.length_cons, List.length_nil, List.replicate, Nat.reduceAdd, Nat.reduceSub, Nat.zero_add, Nat.reduceLeDiff, Nat.reduceLT, reduceIte, reduceCtorEq, if_true, if_false, ite_true, ite_false, Bool.false_eq_true, Bool.not_true, Bool.not_false, Option.map_some, ne_eq, not_true_eq_false, not_false_eq_true, decide_true, decide_false, decide_not, Bool.not_eq_true', Int.reduceEq, Int.reduceNe, Int.reduceLT, Int.reduceLE, Int.reduceAdd, Int.reduceSub, Int.reduceNeg, Bool.true_and, Bool.and_true, Bool.false_and, Bool.and_false, Bool.true_or, Bool.or_true, Bool.false_or, Bool.or_false, Int.cast_ofNat_Int, Int.natCast_zero, Int.natCast_one, hv, dv, ln, r, c, tp]
end LY

set_option maxHeartbeats 4000000
namespace LY
open PySem PySem.Spec PyProof.Rows L2
/-! ### any list of distinct things stands in order -/
theorem insert_ex {α : Type} {lt : α → α → Prop} (tr : ∀ a b c, lt a b → lt b c → lt a c) (tot : ∀ a b, a ≠ b → lt a b ∨ lt b a) (a : α) : ∀ {xs : List α}, xs.Pairwise lt → a ∉ xs → ∃ ys : List α, ys.Perm (a :: xs) ∧ ys.Pairwise lt
  | [], _, _ => ⟨[a], List.Perm.refl _, by simp⟩
  | x :: r, p, n => by
    obtain ⟨p1, p2⟩ := List.pairwise_cons.mp p
    rcases tot a x (fun z => n (z ▸ List.mem_cons_self)) with h | h
    · refine ⟨a :: x :: r, List.Perm.refl _, List.pairwise_cons.mpr ⟨fun y hy => ?_, p⟩⟩
      rcases List.mem_cons.mp hy with rfl | z
      · exact h
      · exact tr _ _ _ h (p1 y z)
    · obtain ⟨ys, q1, q2⟩ := insert_ex tr tot a p2 fun z => n (List.mem_cons_of_mem _ z)
      refine ⟨x :: ys, (q1.cons x).trans (List.Perm.swap a x r), List.pairwise_cons.mpr ⟨fun y hy => ?_, q2⟩⟩
      rcases List.mem_cons.mp (q1.mem_iff.mp hy) with rfl | z
      · exact h
      · exact p1 y z
theorem sorted_ex {α : Type} {lt : α → α → Prop} (tr : ∀ a b c, lt a b → lt b c → lt a c) (tot : ∀ a b, a ≠ b → lt a b ∨ lt b a) : ∀ {xs : List α}, xs.Nodup → ∃ ys : List α, ys.Perm xs ∧ ys.Pairwise lt
  | [], _ => ⟨[], List.Perm.refl _, List.Pairwise.nil⟩
  | x :: r, n => by
    obtain ⟨n1, n2⟩ := List.nodup_cons.mp n
    obtain ⟨ys, p, q⟩ := sorted_ex tr tot n2
    obtain ⟨zs, p2, q2⟩ := insert_ex tr tot x q fun z => n1 (p.mem_iff.mp z)
    exact ⟨zs, p2.trans (p.cons x), q2⟩
theorem ltL_tot (a b : List Int) (h : a ≠ b) : a < b ∨ b < a := by
  rcases List.le_total a b with k | k
  · exact .inl (Classical.byContradiction fun z => h (List.le_antisymm k (List.not_lt.mp z)))
  · exact .inr (Classical.byContradiction fun z => h (List.le_antisymm (List.not_lt.mp z) k))
theorem ltW_tr (a b c : Int × List Int) (h : ltW a b) (k : ltW b c) : ltW a c := by
  unfold ltW at *
  rcases h with h | ⟨h1, h2⟩ <;> rcases k with k | ⟨k1, k2⟩
  · exact .inl (by omega)
  · exact .inl (by omega)
  · exact .inl (by omega)
  · exact .inr ⟨by omega, List.lt_trans h2 k2⟩
theorem ltW_tot (a b : Int × List Int) (h : a ≠ b) : ltW a b ∨ ltW b a := by
  unfold ltW
  rcases Int.lt_trichotomy a.1 b.1 with k | k | k
  · exact .inl (.inl k)
  · have ne : a.2 ≠ b.2 := fun z => h (Prod.ext k z)
    rcases ltL_tot _ _ ne with q | q
    · exact .inl (.inr ⟨k, q⟩)
    · exact .inr (.inr ⟨k.symm, q⟩)
  · exact .inr (.inl k)
/-! ### sorted(set(ways)) -/
theorem num_W (w : Int × List Int) : numD (eW w) = true := by
  unfold eW
  rw [numD, numsD, numsD, numsD, num_S]; rfl
theorem tup_W (w : Int × List Int) : tupNum (eW w) = true := by
  unfold eW tupNum
  dsimp only
  have e : keyOf (.tuple [.int w.1, eS w.2]) = some (.tup [.num w.1, .tup (w.2.map NestedKey.num)]) := by
    unfold eS
    rw [LY.keyOf, keysOf, keysOf, keysOf, LY.keyOf, LY.keyOf, keys_ints]; rfl
  rw [e]
  have d : (NestedKey.tup [.num w.1, .tup (w.2.map NestedKey.num)]).depth = 2 := by
    rw [NestedKey.depth, NestedKey.depthAll, NestedKey.depthAll, NestedKey.depthAll, NestedKey.depth, NestedKey.depth, depth_nums]; rfl
  dsimp only
  rw [d, numsD, numsD, numsD, num_S]; rfl
def ddW : List (Int × List Int) → List (Int × List Int)
  | [] => []
  | x :: r => if x ∈ r then ddW r else x :: ddW r
theorem sameK_W (a b : Int × List Int) : sameK (eW a) (eW b) = decide (a = b) := by
  by_cases h : a = b
  · subst h; rw [decide_eq_true rfl]; exact decide_eq_true rfl
  · rw [decide_eq_false h]
    exact Bool.eq_false_iff.mpr fun z => h (cod_W.inj (same_num (num_W a) (num_W b) z))
theorem dedup_W : ∀ xs : List (Int × List Int), dedupD (xs.map eW) = (ddW xs).map eW
  | [] => rfl
  | x :: r => by
    rw [List.map_cons, dedupD, ddW, dedup_W r]
    have e : (r.map eW).any (sameK (eW x)) = decide (x ∈ r) := by
      induction r with
      | nil => simp
      | cons y r ih =>
        rw [List.map_cons, List.any_cons, ih, sameK_W]
        by_cases h : x = y <;> simp [h]
    rw [e]
    by_cases h : x ∈ r <;> simp [h]
theorem ddW_mem : ∀ (xs : List (Int × List Int)) (x : Int × List Int), x ∈ ddW xs ↔ x ∈ xs
  | [], _ => Iff.rfl
  | y :: r, x => by
    rw [ddW]
    split
    · next h =>
      rw [ddW_mem r, List.mem_cons]
      exact ⟨.inr, fun z => z.elim (fun e => e ▸ h) id⟩
    · rw [List.mem_cons, List.mem_cons, ddW_mem r]
theorem ddW_nodup : ∀ xs : List (Int × List Int), (ddW xs).Nodup
  | [] => List.nodup_nil
  | y :: r => by
    rw [ddW]
    split
    · exact ddW_nodup r
    · next h => exact List.nodup_cons.mpr ⟨fun z => h ((ddW_mem r y).mp z), ddW_nodup r⟩
theorem ddW_len : ∀ xs : List (Int × List Int), (ddW xs).length ≤ xs.length
  | [] => Nat.le_refl _
  | y :: r => by
    rw [ddW]
    have := ddW_len r
    split
    · exact Nat.le_succ_of_le this
    · exact Nat.succ_le_succ this
theorem ss_W (xs : List (Int × List Int)) (h : xs.length < 64) : ∃ ws : List (Int × List Int), gSortSet (.list (xs.map eW)) = some (eWs ws) ∧ ws.Pairwise ltW ∧ (∀ w, w ∈ ws ↔ w ∈ xs) ∧ ws.length ≤ xs.length := by
  obtain ⟨ws, pm, pw⟩ := sorted_ex ltW_tr ltW_tot (ddW_nodup xs)
  have e : sortD (dedupD (xs.map eW)) = ws.map eW := by rw [dedup_W, sort_is odr_W pm pw]
  have dl := ddW_len xs
  refine ⟨ws, ?_, pw, fun w => pm.mem_iff.trans (ddW_mem xs w), by rw [pm.length_eq]; exact dl⟩
  unfold gSortSet
  dsimp only
  have ok : ssOk (xs.map eW) = true := by
    unfold ssOk
    rw [e, strict_map odr_W pw, dedup_W, sortOk_W _ (by omega)]
    unfold setOk
    rw [all_map_true (p := tupNum) xs fun w _ => tup_W w, List.length_map, decide_eq_true h]
    simp
  rw [if_pos ok, e]
  rfl
/-! ### the law's rules -/
def wayIn (m : Int) (w : Int × List Int) : Prop := 0 ≤ w.1 ∧ w.1 < m ∧ isSetB m w.2 = true ∧ w.1 ∉ w.2
abbrev ruB1 : Sf := sSeq (sAsg (xFn 3 s__law_subset (xCons (xVar 0) (xCons (xOp gAdd (xOp gAdd (xOp gAdd (xVar 1) (xC (.int 10))) (xOp gMul (xC (.int 4)) (xVar 5))) (xVar 7)) (xCons (xVar 6) xNil)))) (tg1 8)) (sSeq (sIf (yB (xOp gGt (xOp gMod (xFn 2 s__law_mix (xCons (xVar 0) (xCons (xOp gAdd (xOp gAdd (xOp gAdd (xVar 1) (xC (.int 40))) (xOp gMul (xC (.int 4)) (xVar 5))) (xVar 7)) xNil))) (xC (.int 3))) (xC (.int 0)))) (sAsg (xCut (xVar 8) pNone (pSome (xOp gAdd (xC (.int 1)) (xOp gMod (xFn 2 s__law_mix (xCons (xVar 0) (xCons (xOp gAdd (xOp gAdd (xOp gAdd (xVar 1) (xC (.int 41))) (xOp gMul (xC (.int 4)) (xVar 5))) (xVar 7)) xNil))) (xC (.int 2)))))) (tg1 8)) sNil) (sApp 4 (xCall gTupD (xCons (xVar 5) (xCons (xIf (yB (xOp gGt (xOp gMod (xFn 2 s__law_mix (xCons (xVar 0) (xCons (xOp gAdd (xOp gAdd (xVar 1) (xC (.int 70))) (xVar 5)) xNil))) (xC (.int 4))) (xC (.int 0)))) (xVar 8) (xCall gTupD xNil)) xNil)))))
theorem cut_S (xs : List Int) (hi : Option Int) : ∃ ys : List Int, gCut none hi (eS xs) = some (eS ys) ∧ (∀ y ∈ ys, y ∈ xs) ∧ (Asc xs → Asc ys) := by
  refine ⟨cutD xs none hi, ?_, fun y hy => ?_, fun h => ?_⟩
  · unfold gCut eS cutD
    dsimp only
    rw [List.length_map, List.map_take, List.map_drop]
  · unfold cutD at hy
    exact List.mem_of_mem_drop (List.mem_of_mem_take hy)
  · unfold cutD
    exact (h.drop).take
theorem ru_body (ns : List Int) (k m t j : Int) (oth : List Int) (ho : Asc oth ∧ ∀ x ∈ oth, 0 ≤ x ∧ x < m ∧ x ≠ t) (ol : oth.length ≤ 7) (ht : 0 ≤ t ∧ t < m) (W : List (Int × List Int)) (hW : W.length < 100) {x y most : Slot} :
    ∃ w z, wayIn m w ∧ ruB1 [.dat (scrD ns), .dat (.int k), most, .dat (.int m), .own (W.map eW), .dat (.int t), .dat (.list (oth.map .int)), .dat (.int j), x, y] = .nx [.dat (scrD ns), .dat (.int k), most, .dat (.int m), .own ((W ++ [w]).map eW), .dat (.int t), .dat (.list (oth.map .int)), .dat (.int j), z, y] := by
  obtain ⟨xs, h1, h2, h3⟩ := subset_ok ns (k + 10 + 4 * t + j) oth ol
  obtain ⟨v1, g1, _⟩ := mix_ok ns (k + 40 + 4 * t + j)
  obtain ⟨v2, g2, _⟩ := mix_ok ns (k + 41 + 4 * t + j)
  obtain ⟨v3, g3, _⟩ := mix_ok ns (k + 70 + t)
  have m4 : ∀ a : Int, gMul (.int 4) (.int a) = some (.int (4 * a)) := fun a => mul_I (by rw [show smallI 4 = true by decide]; rfl)
  have d3 : ∀ a : Int, gMod (.int a) (.int 3) = some (.int (a.fmod 3)) := fun a => mod_I (by decide)
  have d2 : ∀ a : Int, gMod (.int a) (.int 2) = some (.int (a.fmod 2)) := fun a => mod_I (by decide)
  have d4 : ∀ a : Int, gMod (.int a) (.int 4) = some (.int (a.fmod 4)) := fun a => mod_I (by decide)
  obtain ⟨ys, c1, c2, c3⟩ := cut_S xs (some (1 + v2.fmod 2))
  have wl : (W.map eW).length < 100000 := by rw [List.length_map]; omega
  -- what is needed, cut or not
  have mid : ∃ zs : List Int, Asc zs ∧ (∀ z ∈ zs, z ∈ oth) ∧ sSeq (sAsg (xFn 3 s__law_subset (xCons (xVar 0) (xCons (xOp gAdd (xOp gAdd (xOp gAdd (xVar 1) (xC (.int 10))) (xOp gMul (xC (.int 4)) (xVar 5))) (xVar 7)) (xCons (xVar 6) xNil)))) (tg1 8)) (sIf (yB (xOp gGt (xOp gMod (xFn 2 s__law_mix (xCons (xVar 0) (xCons (xOp gAdd (xOp gAdd (xOp gAdd (xVar 1) (xC (.int 40))) (xOp gMul (xC (.int 4)) (xVar 5))) (xVar 7)) xNil))) (xC (.int 3))) (xC (.int 0)))) (sAsg (xCut (xVar 8) pNone (pSome (xOp gAdd (xC (.int 1)) (xOp gMod (xFn 2 s__law_mix (xCons (xVar 0) (xCons (xOp gAdd (xOp gAdd (xOp gAdd (xVar 1) (xC (.int 41))) (xOp gMul (xC (.int 4)) (xVar 5))) (xVar 7)) xNil))) (xC (.int 2)))))) (tg1 8)) sNil)
      [.dat (scrD ns), .dat (.int k), most, .dat (.int m), .own (W.map eW), .dat (.int t), .dat (.list (oth.map .int)), .dat (.int j), x, y] = .nx [.dat (scrD ns), .dat (.int k), most, .dat (.int m), .own (W.map eW), .dat (.int t), .dat (.list (oth.map .int)), .dat (.int j), .dat (eS zs), y] := by
    by_cases q : 0 < v1.fmod 3
    · refine ⟨ys, c3 (h3 ho.1), fun z hz => h2 z (c2 z hz), ?_⟩
      simp only [sNil, sSeq, sAsg, sRet, sIf, sExpr, sRaise, sOwn, sDic, sFor, xC, xOp, xUn, xNil, xCons, xCall, xIf, xAnd, xOr, xNot, xChain, xFn, xLc, xSortSet, zSeq, zRange, yB, yT, yAnd, yOr, yNot, asB_b, Rs.bind_ok, Rs.bind_err, of_some, of_none, truth_b, toRs_ret, toRs_err, toRs_nx, tg1, tgN, setAll, gTupD, gLstD, wipeE, padE_eq, xVar_0, xVar_s, set_0, set_s, get_0, get_s, List.map_cons, List.map_nil, List.cons_append, List.nil_append, List.length_cons, List.length_nil, List.replicate, Nat.reduceAdd, Nat.reduceSub, Nat.zero_add, Nat.reduceLeDiff, Nat.reduceLT, reduceIte, reduceCtorEq, if_true, if_false, ite_true, ite_false, Bool.false_eq_true, Bool.not_true, Bool.not_false, Option.map_some, ne_eq, not_true_eq_false, not_false_eq_true, decide_true, decide_false, decide_not, Bool.not_eq_true', Int.reduceEq, Int.reduceNe, Int.reduceLT, Int.reduceLE, Int.reduceAdd, Int.reduceSub, Int.reduceNeg, Bool.true_and, Bool.and_true, Bool.false_and, Bool.and_false, Bool.true_or, Bool.or_true, Bool.false_or, Bool.or_false, Int.cast_ofNat_Int, Int.natCast_zero, Int.natCast_one, add_I, m4, h1, g1, d3, gt_I, q, g2, d2, xCut, pNone, pSome, c1]
    · refine ⟨xs, h3 ho.1, h2, ?_⟩
      simp only [sNil, sSeq, sAsg, sRet, sIf, sExpr, sRaise, sOwn, sDic, sFor, xC, xOp, xUn, xNil, xCons, xCall, xIf, xAnd, xOr, xNot, xChain, xFn, xLc, xSortSet, zSeq, zRange, yB, yT, yAnd, yOr, yNot, asB_b, Rs.bind_ok, Rs.bind_err, of_some, of_none, truth_b, toRs_ret, toRs_err, toRs_nx, tg1, tgN, setAll, gTupD, gLstD, wipeE, padE_eq, xVar_0, xVar_s, set_0, set_s, get_0, get_s, List.map_cons, List.map_nil, List.cons_append, List.nil_append, List.length_cons, List.length_nil, List.replicate, Nat.reduceAdd, Nat.reduceSub, Nat.zero_add, Nat.reduceLeDiff, Nat.reduceLT, reduceIte, reduceCtorEq, if_true, if_false, ite_true, ite_false, Bool.false_eq_true, Bool.not_true, Bool.not_false, Option.map_some, ne_eq, not_true_eq_false, not_false_eq_true, decide_true, decide_false, decide_not, Bool.not_eq_true', Int.reduceEq, Int.reduceNe, Int.reduceLT, Int.reduceLE, Int.reduceAdd, Int.reduceSub, Int.reduceNeg, Bool.true_and, Bool.and_true, Bool.false_and, Bool.and_false, Bool.true_or, Bool.or_true, Bool.false_or, Bool.or_false, Int.cast_ofNat_Int, Int.natCast_zero, Int.natCast_one, add_I, m4, h1, g1, d3, gt_I, q]
  obtain ⟨zs, a1, a2, a3⟩ := mid
  have zok : isSetB m zs = true := isSet_iff.mpr ⟨a1, fun x hx => ⟨(ho.2 x (a2 x hx)).1, (ho.2 x (a2 x hx)).2.1⟩⟩
  have tno : t ∉ zs := fun z => (ho.2 t (a2 t z)).2.2 rfl
  have seq3 : ∀ (u v w : Sf) (δ : En), sSeq u (sSeq v w) δ = sSeq (sSeq u v) w δ := fun u v w δ => by
    unfold sSeq
    cases u δ <;> rfl
  have tp : ∀ s : List Int, gTupD [.int t, eS s] = some (eW (t, s)) := fun s => rfl
  have tp0 : gTupD [] = some (eS []) := rfl
  unfold ruB1
  rw [seq3]
  generalize sSeq (sAsg (xFn 3 s__law_subset _) (tg1 8)) _ = M at a3 ⊢
  by_cases q : 0 < v3.fmod 4
  · refine ⟨(t, zs), .dat (eS zs), ⟨ht.1, ht.2, zok, tno⟩, ?_⟩
    simp only [sNil, sSeq, sAsg, sRet, sIf, sExpr, sRaise, sOwn, sDic, sFor, xC, xOp, xUn, xNil, xCons, xCall, xIf, xAnd, xOr, xNot, xChain, xFn, xLc, xSortSet, zSeq, zRange, yB, yT, yAnd, yOr, yNot, asB_b, Rs.bind_ok, Rs.bind_err, of_some, of_none, truth_b, toRs_ret, toRs_err, toRs_nx, tg1, tgN, setAll, gLstD, wipeE, padE_eq, xVar_0, xVar_s, set_0, set_s, get_0, get_s, List.map_cons, List.map_nil, List.cons_append, List.nil_append, List.length_cons, List.length_nil, List.replicate, Nat.reduceAdd, Nat.reduceSub, Nat.zero_add, Nat.reduceLeDiff, Nat.reduceLT, reduceIte, reduceCtorEq, if_true, if_false, ite_true, ite_false, Bool.false_eq_true, Bool.not_true, Bool.not_false, Option.map_some, ne_eq, not_true_eq_false, not_false_eq_true, decide_true, decide_false, decide_not, Bool.not_eq_true', Int.reduceEq, Int.reduceNe, Int.reduceLT, Int.reduceLE, Int.reduceAdd, Int.reduceSub, Int.reduceNeg, Bool.true_and, Bool.and_true, Bool.false_and, Bool.and_false, Bool.true_or, Bool.or_true, Bool.false_or, Bool.or_false, Int.cast_ofNat_Int, Int.natCast_zero, Int.natCast_one, a3, add_I, g3, d4, gt_I, q, tp, sApp, wl, List.map_append]
  · refine ⟨(t, []), .dat (eS zs), ⟨ht.1, ht.2, rfl, fun z => nomatch z⟩, ?_⟩
    simp only [sNil, sSeq, sAsg, sRet, sIf, sExpr, sRaise, sOwn, sDic, sFor, xC, xOp, xUn, xNil, xCons, xCall, xIf, xAnd, xOr, xNot, xChain, xFn, xLc, xSortSet, zSeq, zRange, yB, yT, yAnd, yOr, yNot, asB_b, Rs.bind_ok, Rs.bind_err, of_some, of_none, truth_b, toRs_ret, toRs_err, toRs_nx, tg1, tgN, setAll, gLstD, wipeE, padE_eq, xVar_0, xVar_s, set_0, set_s, get_0, get_s, List.map_cons, List.map_nil, List.cons_append, List.nil_append, List.length_cons, List.length_nil, List.replicate, Nat.reduceAdd, Nat.reduceSub, Nat.zero_add, Nat.reduceLeDiff, Nat.reduceLT, reduceIte, reduceCtorEq, if_true, if_false, ite_true, ite_false, Bool.false_eq_true, Bool.not_true, Bool.not_false, Option.map_some, ne_eq, not_true_eq_false, not_false_eq_true, decide_true, decide_false, decide_not, Bool.not_eq_true', Int.reduceEq, Int.reduceNe, Int.reduceLT, Int.reduceLE, Int.reduceAdd, Int.reduceSub, Int.reduceNeg, Bool.true_and, Bool.and_true, Bool.false_and, Bool.and_false, Bool.true_or, Bool.or_true, Bool.false_or, Bool.or_false, Int.cast_ofNat_Int, Int.natCast_zero, Int.natCast_one, a3, add_I, g3, d4, gt_I, q, tp0, tp, sApp, wl, List.map_append]
end LY

set_option maxHeartbeats 4000000
namespace LY
open PySem PySem.Spec PyProof.Rows L2
abbrev ruB2 : Sf := sSeq (sAsg (xLc (zRange (xVar 3)) [9] (tg1 9) (yB (xOp gNe (xVar 9) (xVar 5))) (xVar 9)) (tg1 6)) (sFor (zRange (xOp gIdx (xCall gLstD (xCons (xC (.int 1)) (xCons (xC (.int 1)) (xCons (xC (.int 2)) (xCons (xC (.int 2)) (xCons (xC (.int 3)) (xCons (xC (.int 0)) xNil))))))) (xOp gMod (xFn 2 s__law_mix (xCons (xVar 0) (xCons (xOp gAdd (xOp gAdd (xVar 1) (xC (.int 1))) (xVar 5)) xNil))) (xC (.int 6))))) (tg1 7) ruB1)
theorem six_at (j : Int) (h : 0 ≤ j ∧ j < 6) : ∃ c : Int, gIdx (.list [.int 1, .int 1, .int 2, .int 2, .int 3, .int 0]) (.int j) = some (.int c) ∧ 0 ≤ c ∧ c ≤ 3 := by
  have q : j = 0 ∨ j = 1 ∨ j = 2 ∨ j = 3 ∨ j = 4 ∨ j = 5 := by omega
  rcases q with rfl | rfl | rfl | rfl | rfl | rfl <;> exact ⟨_, rfl, by decide, by decide⟩
def others (m t : Int) : List Int := (upto m).filter fun x => decide (x ≠ t)
theorem upto_asc (m : Int) : Asc (upto m) := by
  unfold upto
  exact List.pairwise_map.mpr (List.pairwise_lt_range.imp fun {a b} q => by omega)
theorem ru_thing (ns : List Int) (k m t : Int) (hm : m ≤ 7) (ht : 0 ≤ t ∧ t < m) (W : List (Int × List Int)) (hW : W.length < 50) (ok : ∀ w ∈ W, wayIn m w) {x6 x7 x8 x9 most : Slot} :
    ∃ (W' : List (Int × List Int)) (y6 y7 y8 y9 : Slot), W'.length ≤ W.length + 3 ∧ (∀ w ∈ W', wayIn m w) ∧ ruB2 [.dat (scrD ns), .dat (.int k), most, .dat (.int m), .own (W.map eW), .dat (.int t), x6, x7, x8, x9] = .nx [.dat (scrD ns), .dat (.int k), most, .dat (.int m), .own (W'.map eW), .dat (.int t), y6, y7, y8, y9] := by
  obtain ⟨v, hv, v0⟩ := mix_ok ns (k + 1 + t)
  obtain ⟨a, b⟩ := fmod_in (a := v) (b := 6) (by decide)
  obtain ⟨c, hc, c0, c3⟩ := six_at (v.fmod 6) ⟨a, b⟩
  have ho : Asc (others m t) ∧ ∀ x ∈ others m t, 0 ≤ x ∧ x < m ∧ x ≠ t := by
    refine ⟨(upto_asc m).filter _, fun x hx => ?_⟩
    obtain ⟨p, q⟩ := List.mem_filter.mp hx
    obtain ⟨p1, p2⟩ := upto_mem.mp p
    exact ⟨p1, p2, of_decide_eq_true q⟩
  have ol : (others m t).length ≤ 7 := by
    have := List.length_filter_le (fun x => decide (x ≠ t)) (upto m)
    rw [upto_length] at this
    unfold others
    omega
  have r : rgD (.int m) = some ((upto m).map .int) := rng_I (by omega)
  have rc : rgD (.int c) = some ((upto c).map .int) := rng_I (by omega)
  have cm : compR (tg1 9) (yB (xOp gNe (xVar 9) (xVar 5))) (xVar 9) [.dat (scrD ns), .dat (.int k), most, .dat (.int m), .own (W.map eW), .dat (.int t), x6, x7, x8, .un] ((upto m).map .int) = .ok (.list ((others m t).map .int)) :=
    compR_map PyData.int (fun x => decide (x ≠ t)) _ _ (by rw [upto_length]; omega) fun x _ => ⟨_, rfl, by simp only [sNil, sSeq, sAsg, sRet, sIf, sExpr, sRaise, sOwn, sDic, sFor, xC, xOp, xUn, xNil, xCons, xCall, xIf, xAnd, xOr, xNot, xChain, xFn, xLc, xSortSet, zSeq, zRange, yB, yT, yAnd, yOr, yNot, asB_b, Rs.bind_ok, Rs.bind_err, of_some, of_none, truth_b, toRs_ret, toRs_err, toRs_nx, tg1, tgN, setAll, gTupD, gLstD, wipeE, padE_eq, xVar_0, xVar_s, set_0, set_s, get_0, get_s, List.map_cons, List.map_nil, List.cons_append, List.nil_append, List.length_cons, List.length_nil, List.replicate, Nat.reduceAdd, Nat.reduceSub, Nat.zero_add, Nat.reduceLeDiff, Nat.reduceLT, reduceIte, reduceCtorEq, if_true, if_false, ite_true, ite_false, Bool.false_eq_true, Bool.not_true, Bool.not_false, Option.map_some, ne_eq, not_true_eq_false, not_false_eq_true, decide_true, decide_false, decide_not, Bool.not_eq_true', Int.reduceEq, Int.reduceNe, Int.reduceLT, Int.reduceLE, Int.reduceAdd, Int.reduceSub, Int.reduceNeg, Bool.true_and, Bool.and_true, Bool.false_and, Bool.and_false, Bool.true_or, Bool.or_true, Bool.false_or, Bool.or_false, Int.cast_ofNat_Int, Int.natCast_zero, Int.natCast_one, ne_I], fun _ => by simp only [sNil, sSeq, sAsg, sRet, sIf, sExpr, sRaise, sOwn, sDic, sFor, xC, xOp, xUn, xNil, xCons, xCall, xIf, xAnd, xOr, xNot, xChain, xFn, xLc, xSortSet, zSeq, zRange, yB, yT, yAnd, yOr, yNot, asB_b, Rs.bind_ok, Rs.bind_err, of_some, of_none, truth_b, toRs_ret, toRs_err, toRs_nx, tg1, tgN, setAll, gTupD, gLstD, wipeE, padE_eq, xVar_0, xVar_s, set_0, set_s, get_0, get_s, List.map_cons, List.map_nil, List.cons_append, List.nil_append, List.length_cons, List.length_nil, List.replicate, Nat.reduceAdd, Nat.reduceSub, Nat.zero_add, Nat.reduceLeDiff, Nat.reduceLT, reduceIte, reduceCtorEq, if_true, if_false, ite_true, ite_false, Bool.false_eq_true, Bool.not_true, Bool.not_false, Option.map_some, ne_eq, not_true_eq_false, not_false_eq_true, decide_true, decide_false, decide_not, Bool.not_eq_true', Int.reduceEq, Int.reduceNe, Int.reduceLT, Int.reduceLE, Int.reduceAdd, Int.reduceSub, Int.reduceNeg, Bool.true_and, Bool.and_true, Bool.false_and, Bool.and_false, Bool.true_or, Bool.or_true, Bool.false_or, Bool.or_false, Int.cast_ofNat_Int, Int.natCast_zero, Int.natCast_one]⟩
  have d6 : ∀ a : Int, gMod (.int a) (.int 6) = some (.int (a.fmod 6)) := fun a => mod_I (by decide)
  have gl : gLstD [.int 1, .int 1, .int 2, .int 2, .int 3, .int 0] = some (.list [.int 1, .int 1, .int 2, .int 2, .int 3, .int 0]) := rfl
  have lp := forL_ix PyData.int (g := tg1 7) (b := ruB1) (upto c) (fun i δ => ∃ (W' : List (Int × List Int)) (y7 y8 y9 : Slot), W'.length = W.length + i ∧ (∀ w ∈ W', wayIn m w) ∧ δ = [.dat (scrD ns), .dat (.int k), most, .dat (.int m), .own (W'.map eW), .dat (.int t), .dat (.list ((others m t).map .int)), y7, y8, y9])
    (fun i j hi δ ⟨W', y7, y8, y9, e1, e2, e3⟩ => by
      subst e3
      have il := (List.getElem?_eq_some_iff.mp hi).1
      rw [upto_length] at il
      obtain ⟨w, z, h1, h2⟩ := ru_body ns k m t j (others m t) ho ol ht W' (by omega) (x := y8) (y := y9) (most := most)
      refine ⟨_, _, rfl, .inl h2, W' ++ [w], _, _, _, by rw [List.length_append, e1]; rfl, fun u hu => ?_, rfl⟩
      rcases List.mem_append.mp hu with q | q
      · exact e2 u q
      · rw [List.mem_singleton.mp q]; exact h1) (δ := [.dat (scrD ns), .dat (.int k), most, .dat (.int m), .own (W.map eW), .dat (.int t), .dat (.list ((others m t).map .int)), x7, x8, x9]) ⟨W, x7, x8, x9, rfl, ok, rfl⟩
  obtain ⟨δ, h1, W', y7, y8, y9, e1, e2, e3⟩ := lp
  subst e3
  rw [upto_length] at e1
  refine ⟨W', .dat (.list ((others m t).map .int)), y7, y8, y9, by omega, e2, ?_⟩
  · unfold ruB2
    generalize ruB1 = b at h1 ⊢
    simp only [sNil, sSeq, sAsg, sRet, sIf, sExpr, sRaise, sOwn, sDic, sFor, xC, xOp, xUn, xNil, xCons, xCall, xIf, xAnd, xOr, xNot, xChain, xFn, xLc, xSortSet, zSeq, zRange, yB, yT, yAnd, yOr, yNot, asB_b, Rs.bind_ok, Rs.bind_err, of_some, of_none, truth_b, toRs_ret, toRs_err, toRs_nx, tg1, tgN, setAll, gTupD, wipeE, padE_eq, xVar_0, xVar_s, set_0, set_s, get_0, get_s, List.map_cons, List.map_nil, List.cons_append, List.nil_append, List.length_cons, List.length_nil, List.replicate, Nat.reduceAdd, Nat.reduceSub, Nat.zero_add, Nat.reduceLeDiff, Nat.reduceLT, reduceIte, reduceCtorEq, if_true, if_false, ite_true, ite_false, Bool.false_eq_true, Bool.not_true, Bool.not_false, Option.map_some, ne_eq, not_true_eq_false, not_false_eq_true, decide_true, decide_false, decide_not, Bool.not_eq_true', Int.reduceEq, Int.reduceNe, Int.reduceLT, Int.reduceLE, Int.reduceAdd, Int.reduceSub, Int.reduceNeg, Bool.true_and, Bool.and_true, Bool.false_and, Bool.and_false, Bool.true_or, Bool.or_true, Bool.false_or, Bool.or_false, Int.cast_ofNat_Int, Int.natCast_zero, Int.natCast_one, r, cm, add_I, hv, gl, d6, hc, rc, h1]
theorem e_rules (ns : List Int) (k most : Int) (h : 0 ≤ most ∧ most ≤ 7) : ∃ m ws, m ≤ most ∧ Rul m ws ∧ ws.length ≤ 21 ∧ s__law_rules [scrD ns, .int k, .int most] = .ok (eR (m, ws)) := by
  obtain ⟨v, hv, v0⟩ := mix_ok ns k
  obtain ⟨a, b⟩ := fmod_in (a := v) (b := most + 1) (by omega)
  have dm : gMod (.int v) (.int (most + 1)) = some (.int (v.fmod (most + 1))) := mod_I (by omega)
  generalize v.fmod (most + 1) = m at a b dm
  have r : rgD (.int m) = some ((upto m).map .int) := rng_I (by omega)
  have lp := forL_ix PyData.int (g := tg1 5) (b := ruB2) (upto m) (fun i δ => ∃ (W : List (Int × List Int)) (y5 y6 y7 y8 y9 : Slot), W.length ≤ 3 * i ∧ (∀ w ∈ W, wayIn m w) ∧ δ = [.dat (scrD ns), .dat (.int k), .dat (.int most), .dat (.int m), .own (W.map eW), y5, y6, y7, y8, y9])
    (fun i t hi δ ⟨W, y5, y6, y7, y8, y9, e1, e2, e3⟩ => by
      subst e3
      have il := (List.getElem?_eq_some_iff.mp hi).1
      rw [upto_length] at il
      have ht := upto_mem.mp (List.mem_of_getElem? hi)
      obtain ⟨W', z6, z7, z8, z9, h1, h2, h3⟩ := ru_thing ns k m t (by omega) ht W (by omega) e2 (x6 := y6) (x7 := y7) (x8 := y8) (x9 := y9) (most := .dat (.int most))
      exact ⟨_, _, rfl, .inl h3, W', _, _, _, _, _, by omega, h2, rfl⟩) (δ := [.dat (scrD ns), .dat (.int k), .dat (.int most), .dat (.int m), .own [], .un, .un, .un, .un, .un]) ⟨[], .un, .un, .un, .un, .un, Nat.zero_le _, fun w z => (nomatch z), rfl⟩
  obtain ⟨δ, h1, W, y5, y6, y7, y8, y9, e1, e2, e3⟩ := lp
  subst e3
  rw [upto_length] at e1
  obtain ⟨ws, s1, s2, s3, s4⟩ := ss_W W (by omega)
  refine ⟨m, ws, by omega, ⟨by omega, by omega, s2, fun w hw => e2 w ((s3 w).mp hw)⟩, by omega, ?_⟩
  have fs : f__law_rules = sSeq (sAsg (xOp gMod (xFn 2 s__law_mix (xCons (xVar 0) (xCons (xVar 1) xNil))) (xOp gAdd (xVar 2) (xC (.int 1)))) (tg1 3)) (sSeq (sOwn 4 xNil) (sSeq (sFor (zRange (xVar 3)) (tg1 5) ruB2) (fun δ => (sRet (xCall gTupD (xCons (xVar 3) (xCons (xSortSet (xVar 4)) xNil)))) (frz 4 δ)))) := rfl
  have ow : ∀ δ : En, sOwn 4 xNil δ = .nx (δ.set 4 (.own [])) := fun _ => rfl
  have tp : gTupD [.int m, eWs ws] = some (eR (m, ws)) := rfl
  unfold s__law_rules
  rw [fs]
  generalize ruB2 = B at h1 ⊢
  simp only [sNil, sSeq, sAsg, sRet, sIf, sExpr, sRaise, sDic, sFor, xC, xOp, xUn, xNil, xCons, xCall, xIf, xAnd, xOr, xNot, xChain, xFn, xLc, xSortSet, zSeq, zRange, yB, yT, yAnd, yOr, yNot, asB_b, Rs.bind_ok, Rs.bind_err, of_some, of_none, truth_b, toRs_ret, toRs_err, toRs_nx, tg1, tgN, setAll, gLstD, wipeE, padE_eq, xVar_0, xVar_s, set_0, set_s, get_0, get_s, List.map_cons, List.map_nil, List.cons_append, List.nil_append, List.length_cons, List.length_nil, List.replicate, Nat.reduceAdd, Nat.reduceSub, Nat.zero_add, Nat.reduceLeDiff, Nat.reduceLT, reduceIte, reduceCtorEq, if_true, if_false, ite_true, ite_false, Bool.false_eq_true, Bool.not_true, Bool.not_false, Option.map_some, ne_eq, not_true_eq_false, not_false_eq_true, decide_true, decide_false, decide_not, Bool.not_eq_true', Int.reduceEq, Int.reduceNe, Int.reduceLT, Int.reduceLE, Int.reduceAdd, Int.reduceSub, Int.reduceNeg, Bool.true_and, Bool.and_true, Bool.false_and, Bool.and_false, Bool.true_or, Bool.or_true, Bool.false_or, Bool.or_false, Int.cast_ofNat_Int, Int.natCast_zero, Int.natCast_one, hv, add_I, dm, ow, r, h1, frz, s1, tp]
end LY

set_option maxHeartbeats 4000000
namespace LY
open PySem PySem.Spec PyProof.Rows L2
/-! ### texts as lists of signs -/
def tx (cs : List Nat) : Str := ⟨cs.toArray⟩
def eT (cs : List Nat) : PyData := .str (tx cs)
def eTs (l : List (List Nat)) : PyData := .list (l.map eT)
theorem tl_tx (cs : List Nat) : TL.tl (tx cs) = cs := rfl
theorem tx_tl (z : Str) : tx (TL.tl z) = z := TL.mk_tl z
theorem tx_len (cs : List Nat) : (tx cs).length = cs.length := by rw [TL.len_tl, tl_tx]
theorem tx_inj {a b : List Nat} (h : tx a = tx b) : a = b := by rw [← tl_tx a, h, tl_tx]
theorem tx_app (a b : List Nat) : tx a ++ tx b = tx (a ++ b) := TL.ext_tl (by rw [TL.tl_append, tl_tx, tl_tx, tl_tx])
theorem cod_str : Cod PyData.str 0 := ⟨fun a b => by rw [PyData.eqv]; exact Bool.eq_iff_iff.mpr (by simp), fun _ => rfl, fun _ => Nat.le_refl _⟩
theorem eq_T (a b : List Nat) : gEq (eT a) (eT b) = some (.bool (decide (a = b))) := by
  unfold eT
  rw [cod_str.gEq (by decide)]
  exact congrArg (fun x => some (PyData.bool x)) (decide_eq_decide.mpr ⟨tx_inj, fun h => by rw [h]⟩)
theorem ne_T (a b : List Nat) : gNe (eT a) (eT b) = some (.bool (decide (a ≠ b))) := by
  unfold eT
  rw [cod_str.gNe (by decide)]
  exact congrArg (fun x => some (PyData.bool x)) (decide_eq_decide.mpr (not_congr ⟨tx_inj, fun h => by rw [h]⟩))
theorem add_T (a b : List Nat) (h : a.length + b.length ≤ 100000) : gAdd (eT a) (eT b) = some (eT (a ++ b)) := by
  unfold gAdd eT
  dsimp only
  rw [tx_len, tx_len, if_pos h, tx_app]
theorem len_Tx (a : List Nat) (h : a.length ≤ 100000) : gLen [eT a] = some (.int a.length) := by
  unfold gLen eT
  dsimp only
  rw [tx_len, if_pos h]
theorem cut_T (a : List Nat) (lo hi : Option Int) (h : a.length ≤ 100000) : gCut lo hi (eT a) = some (eT (cutD a lo hi)) := by
  unfold gCut eT
  dsimp only
  rw [tx_len, if_pos h]
  unfold cutS cutD
  rw [tx_len]
  rfl
theorem idx_T (a : List Nat) (i : Int) (h : a.length ≤ 100000) : gIdx (eT a) (.int i) = (atI a i).map fun c => eT [c] := by
  show (if (tx a).length ≤ 100000 then (atI (tx a).cps.toList i).map fun c => PyData.str ⟨#[c]⟩ else none) = _
  rw [tx_len, if_pos h]
  rfl
theorem str_T (a : List Nat) : strD (eT a) = some (a.map fun c => eT [c]) := by
  unfold strD eT signs
  dsimp only
  rw [List.map_map]
  rfl
theorem cut_to {α : Type} (xs : List α) (n : Nat) : cutD xs none (some (n : Int)) = xs.take n := by
  unfold cutD
  rw [HT.sIx_none, HT.sIx_nat, List.drop_zero, Nat.sub_zero]
  by_cases h : n ≤ xs.length
  · rw [Nat.min_eq_left h]
  · rw [Nat.min_eq_right (by omega), List.take_length, List.take_of_length_le (by omega)]
theorem cut_from {α : Type} (xs : List α) (n : Nat) : cutD xs (some (n : Int)) none = xs.drop n := by
  unfold cutD
  rw [HT.sIx_none, HT.sIx_nat]
  by_cases h : n ≤ xs.length
  · rw [Nat.min_eq_left h, List.take_of_length_le (by rw [List.length_drop]; exact Nat.le_refl _)]
  · rw [Nat.min_eq_right (by omega), List.drop_length, List.drop_of_length_le (by omega)]
    simp
theorem cut_sub {α : Type} (xs : List α) (lo hi : Option Int) : ∀ x ∈ cutD xs lo hi, x ∈ xs := fun x h => List.mem_of_mem_drop (List.mem_of_mem_take h)
theorem cut_len {α : Type} (xs : List α) (lo hi : Option Int) : (cutD xs lo hi).length ≤ xs.length := by
  unfold cutD
  rw [List.length_take, List.length_drop]
  omega
theorem sIx_m1 (n d : Nat) : HT.sIx n d (some (-1)) = n - 1 := by
  show (if (-1 : Int) < 0 then ((-1 : Int) + (n : Int)).toNat else min (-1 : Int).toNat n) = _
  rw [if_pos (by decide)]
  omega
theorem cut_end {α : Type} (xs : List α) (a : α) : cutD (xs ++ [a]) (some (-1)) none = [a] ∧ cutD (xs ++ [a]) none (some (-1)) = xs := by
  unfold cutD
  rw [HT.sIx_none, HT.sIx_none, sIx_m1, sIx_m1, List.length_append]
  constructor
  · rw [show xs.length + [a].length - 1 = xs.length from rfl, List.drop_left]
    show List.take (xs.length + 1 - xs.length) [a] = [a]
    rw [Nat.add_sub_cancel_left]
    rfl
  · rw [show xs.length + [a].length - 1 - 0 = xs.length from rfl, List.drop_zero, List.take_left]
theorem join_T (y : List Nat) (l : List (List Nat)) (h : (l.map List.length).sum + l.length * y.length ≤ 100000) : gJoin (tx y) (eTs l) = some (eT (TL.joinL y l)) := by
  unfold gJoin eTs
  have e : l.map eT = (l.map tx).map .str := by rw [List.map_map]; rfl
  dsimp only
  rw [e, strsOf_map, Option.bind_some, List.map_map, List.length_map, tx_len]
  have e2 : (l.map ((fun x : Str => x.length) ∘ tx)) = l.map List.length := List.map_congr_left fun a _ => tx_len a
  rw [e2, if_pos h, TL.join_eq]
  refine congrArg some (congrArg PyData.str (TL.ext_tl ?_))
  rw [TL.tl_join, tl_tx, tl_tx, List.map_map]
  exact congrArg _ (by
    have : TL.tl ∘ tx = id := funext tl_tx
    rw [this, List.map_id])
theorem split_T (a : List Nat) (s : Nat) (hs : s < 256) (h : a.length ≤ 100000) : gSplit (tx a) (eT [s]) = some (eTs (TL.spl [s] 0 [] a)) := by
  unfold gSplit eT eTs
  dsimp only
  have l1 : ((tx [s]).length == 0) = false := by rw [tx_len]; rfl
  rw [tx_len, if_pos ⟨l1, h⟩]
  have e : (Txt.split (tx a) (tx [s])).map TL.tl = TL.spl [s] 0 [] a := TL.split_spl (tx a) (tx [s]) (by rw [tl_tx]; simp) (TL.kind_ok (by
    show (#[s]).all (fun x => decide (x < 256)) = true
    simpa using hs))
  rw [← e, List.map_map]
  refine congrArg some (congrArg PyData.list (List.map_congr_left fun z _ => ?_))
  show PyData.str z = .str (tx (TL.tl z))
  rw [tx_tl]
/-- parts of a text are made of its signs -/
theorem spl_mem (s : Nat) : ∀ (L acc : List Nat), ∀ p ∈ TL.spl [s] 0 acc L, ∀ c ∈ p, c ∈ acc ∨ c ∈ L
  | [], acc, p, hp, c, hc => by
    rw [TL.spl_nil] at hp
    rw [List.mem_singleton.mp hp] at hc
    exact .inl hc
  | x :: r, acc, p, hp, c, hc => by
    cases h : TL.pre [s] (x :: r) with
    | true =>
      rw [TL.spl_hit h] at hp
      rcases List.mem_cons.mp hp with e | hp
      · rw [e] at hc; exact .inl hc
      · rcases spl_mem s r [] p hp c hc with z | z
        · exact nomatch z
        · exact .inr (List.mem_cons_of_mem _ z)
    | false =>
      rw [TL.spl_miss h] at hp
      rcases spl_mem s r (acc ++ [x]) p hp c hc with z | z
      · rcases List.mem_append.mp z with z | z
        · exact .inl z
        · rw [List.mem_singleton.mp z]; exact .inr List.mem_cons_self
      · exact .inr (List.mem_cons_of_mem _ z)
theorem spl_lens (s : Nat) : ∀ (L acc : List Nat), (∀ p ∈ TL.spl [s] 0 acc L, p.length ≤ acc.length + L.length) ∧ (TL.spl [s] 0 acc L).length ≤ L.length + 1 ∧ TL.spl [s] 0 acc L ≠ []
  | [], acc => by
    rw [TL.spl_nil]
    exact ⟨fun p hp => by rw [List.mem_singleton.mp hp]; exact Nat.le_add_right _ _, Nat.le_refl _, by simp⟩
  | x :: r, acc => by
    cases h : TL.pre [s] (x :: r) with
    | true =>
      obtain ⟨a, b, c⟩ := spl_lens s r []
      rw [TL.spl_hit h]
      refine ⟨fun p hp => ?_, by rw [List.length_cons, List.length_cons]; exact Nat.succ_le_succ b, by simp⟩
      rcases List.mem_cons.mp hp with e | hp
      · rw [e]; exact Nat.le_add_right _ _
      · have := a p hp
        rw [List.length_cons]
        have e0 : ([] : List Nat).length = 0 := rfl
        omega
    | false =>
      obtain ⟨a, b, c⟩ := spl_lens s r (acc ++ [x])
      rw [TL.spl_miss h]
      refine ⟨fun p hp => ?_, by rw [List.length_cons]; omega, c⟩
      have := a p hp
      rw [List.length_append] at this
      rw [List.length_cons]
      have e1 : [x].length = 1 := rfl
      omega
/-! ### numbers in texts -/
def digC (c : Nat) : Bool := decide (48 ≤ c ∧ c ≤ 57)
def numC : List Nat → Option Int
  | [a] => if digC a = true then some ((a : Int) - 48) else none
  | [a, b] => if digC a = true ∧ digC b = true ∧ a ≠ 48 then some (10 * ((a : Int) - 48) + ((b : Int) - 48)) else none
  | _ => none
def FIG : List Nat := [48, 49, 50, 51, 52, 53, 54, 55, 56, 57]
theorem fig_is : Str.ofString "0123456789" = tx FIG := TL.ext_tl (by rw [TL.tl_ofString]; rfl)
theorem in_fig (c : Nat) (h : c < 128) : gIn (eT [c]) (.str (Str.ofString "0123456789")) = some (.bool (digC c)) := by
  rw [fig_is]
  show some (PyData.bool (!(Builtin.Str.occurrences (tx FIG) (tx [c]) 0 (tx FIG).length 1).isEmpty)) = _
  have key : ∀ c : Fin 128, (!(Builtin.Str.occurrences (tx FIG) (tx [c.val]) 0 (tx FIG).length 1).isEmpty) = digC c.val := by decide +kernel
  rw [key ⟨c, h⟩]
theorem dig_iff {c : Nat} : digC c = true ↔ 48 ≤ c ∧ c ≤ 57 := by unfold digC; simp
theorem int_dig {cs : List Nat} (h : ∀ c ∈ cs, digC c = true) (ne : cs ≠ []) (hl : cs.length ≤ 2) : gInt [eT cs] = some (.int (NumText.digitsVal cs : Nat)) := by
  unfold gInt eT
  dsimp only
  rw [tx_len, if_pos (by omega)]
  have e := PySem.intText_digits (x := tx cs) (by
    intro c hc
    have := dig_iff.mp (h c hc)
    omega) (by exact ne) (by rw [tx_len]; omega)
  rw [e]
  rfl
theorem zero_is : PyData.str (Str.ofString "0") = eT [48] := congrArg PyData.str (TL.ext_tl (by rw [TL.tl_ofString]; rfl))
theorem all_sign (cs : List Nat) (h : ∀ c ∈ cs, c < 128) (hl : cs.length ≤ 100000) {g : Gf} {f : Ef} {δ : En} (hg : ∀ c ∈ cs, ∃ δ1, g (eT [c]) δ = some δ1 ∧ f δ1 = Rs.of (gIn (eT [c]) (.str (Str.ofString "0123456789")))) : compR g yTrue f δ (cs.map fun c => eT [c]) = .ok (.list (cs.map fun c => .bool (digC c))) :=
  compR_all (fun c => eT [c]) (fun c => .bool (digC c)) cs hl fun c hc => by
    obtain ⟨δ1, h1, h2⟩ := hg c hc
    exact ⟨δ1, h1, by rw [h2, in_fig c (h c hc)]; rfl⟩
theorem e_num (cs : List Nat) (h : ∀ c ∈ cs, c < 128) (hl : cs.length ≤ 5000) : s_number_in [eT cs] = match numC cs with
    | some n => .ok (.int n)
    | none => .err "BadText" := by
  have ln := len_Tx cs (by omega)
  have st := str_T cs
  have c := all_sign cs h (by omega) (g := tg1 1) (f := xOp gIn (xVar 1) (xC (.str (Str.ofString "0123456789")))) (δ := [.dat (eT cs), .un]) fun c _ => ⟨_, rfl, by simp only [sNil, sSeq, sAsg, sRet, sIf, sExpr, sRaise, sOwn, sDic, sFor, xC, xOp, xUn, xNil, xCons, xCall, xIf, xAnd, xOr, xNot, xChain, xFn, xLc, xSortSet, zSeq, zRange, yB, yT, yAnd, yOr, yNot, asB_b, Rs.bind_ok, Rs.bind_err, of_some, of_none, truth_b, toRs_ret, toRs_err, toRs_nx, tg1, tgN, setAll, gTupD, gLstD, wipeE, padE_eq, xVar_0, xVar_s, set_0, set_s, get_0, get_s, List.map_cons, List.map_nil, List.cons_append, List.nil_append, List.length_cons, List.length_nil, List.replicate, Nat.reduceAdd, Nat.reduceSub, Nat.zero_add, Nat.reduceLeDiff, Nat.reduceLT, reduceIte, reduceCtorEq, if_true, if_false, ite_true, ite_false, Bool.false_eq_true, Bool.not_true, Bool.not_false, Option.map_some, ne_eq, not_true_eq_false, not_false_eq_true, decide_true, decide_false, decide_not, Bool.not_eq_true', Int.reduceEq, Int.reduceNe, Int.reduceLT, Int.reduceLE, Int.reduceAdd, Int.reduceSub, Int.reduceNeg, Bool.true_and, Bool.and_true, Bool.false_and, Bool.and_false, Bool.true_or, Bool.or_true, Bool.false_or, Bool.or_false, Int.cast_ofNat_Int, Int.natCast_zero, Int.natCast_one]⟩
  have ga := gAll_bools digC cs
  have ix := idx_T cs 0 (by omega)
  have z0 := zero_is
  unfold s_number_in f_number_in
  generalize (xOp gIn (xVar 1) (xC (.str (Str.ofString "0123456789")))) = Y at c ⊢
  match cs, h, hl, ln, st, c, ga, ix with
  | [], h, hl, ln, st, c, ga, ix =>
    have l0 : gLen [eT []] = some (.int 0) := ln
    simp only [sNil, sSeq, sAsg, sRet, sIf, sExpr, sRaise, sOwn, sDic, sFor, xC, xOp, xUn, xNil, xCons, xCall, xIf, xAnd, xOr, xNot, xChain, xFn, xLc, xSortSet, zSeq, zRange, yB, yT, yAnd, yOr, yNot, asB_b, Rs.bind_ok, Rs.bind_err, of_some, of_none, truth_b, toRs_ret, toRs_err, toRs_nx, tg1, tgN, setAll, gTupD, gLstD, wipeE, padE_eq, xVar_0, xVar_s, set_0, set_s, get_0, get_s, List.map_cons, List.map_nil, List.cons_append, List.nil_append, List.length_cons, List.length_nil, List.replicate, Nat.reduceAdd, Nat.reduceSub, Nat.zero_add, Nat.reduceLeDiff, Nat.reduceLT, reduceIte, reduceCtorEq, if_true, if_false, ite_true, ite_false, Bool.false_eq_true, Bool.not_true, Bool.not_false, Option.map_some, ne_eq, not_true_eq_false, not_false_eq_true, decide_true, decide_false, decide_not, Bool.not_eq_true', Int.reduceEq, Int.reduceNe, Int.reduceLT, Int.reduceLE, Int.reduceAdd, Int.reduceSub, Int.reduceNeg, Bool.true_and, Bool.and_true, Bool.false_and, Bool.and_false, Bool.true_or, Bool.or_true, Bool.false_or, Bool.or_false, Int.cast_ofNat_Int, Int.natCast_zero, Int.natCast_one, l0, le_I, chain_b]
    rfl
  | [a], h, hl, ln, st, c, ga, ix =>
    have l1 : gLen [eT [a]] = some (.int 1) := ln
    have i1 : gIdx (eT [a]) (.int 0) = some (eT [a]) := ix
    have st' : strD (eT [a]) = some [eT [a]] := st
    have c' : compR (tg1 1) yTrue Y [.dat (eT [a]), .un] [eT [a]] = .ok (.list [.bool (digC a)]) := c
    by_cases k : digC a = true
    · have gi := int_dig (cs := [a]) (fun c hc => by rw [List.mem_singleton.mp hc]; exact k) (by simp) (by simp)
      have v : ((NumText.digitsVal [a] : Nat) : Int) = (a : Int) - 48 := by
        have := dig_iff.mp k
        show (((0 * 10 + (a - 48) : Nat)) : Int) = _
        omega
      rw [v] at gi
      have ga' : gAll [.list [PyData.bool (digC a)]] = some (.bool true) := by
        have q : gAll [.list [PyData.bool (digC a)]] = some (.bool ([a].all digC)) := ga
        rw [q]; simp [k]
      have hn : numC [a] = some ((a : Int) - 48) := if_pos k
      rw [hn]
      by_cases e : a = 48
      · have e1 : decide ([a] = [48]) = true := by simp [e]
        have e2 : decide ([a] ≠ [48]) = false := by simp [e]
        simp only [sNil, sSeq, sAsg, sRet, sIf, sExpr, sRaise, sOwn, sDic, sFor, xC, xOp, xUn, xNil, xCons, xCall, xIf, xAnd, xOr, xNot, xChain, xFn, xLc, xSortSet, zSeq, zRange, yB, yT, yAnd, yOr, yNot, asB_b, Rs.bind_ok, Rs.bind_err, of_some, of_none, truth_b, toRs_ret, toRs_err, toRs_nx, tg1, tgN, setAll, gTupD, gLstD, wipeE, padE_eq, xVar_0, xVar_s, set_0, set_s, get_0, get_s, List.map_cons, List.map_nil, List.cons_append, List.nil_append, List.length_cons, List.length_nil, List.replicate, Nat.reduceAdd, Nat.reduceSub, Nat.zero_add, Nat.reduceLeDiff, Nat.reduceLT, reduceIte, reduceCtorEq, if_true, if_false, ite_true, ite_false, Bool.false_eq_true, Bool.not_true, Bool.not_false, Option.map_some, ne_eq, not_true_eq_false, not_false_eq_true, decide_true, decide_false, decide_not, Bool.not_eq_true', Int.reduceEq, Int.reduceNe, Int.reduceLT, Int.reduceLE, Int.reduceAdd, Int.reduceSub, Int.reduceNeg, Bool.true_and, Bool.and_true, Bool.false_and, Bool.and_false, Bool.true_or, Bool.or_true, Bool.false_or, Bool.or_false, Int.cast_ofNat_Int, Int.natCast_zero, Int.natCast_one, l1, le_I, chain_b, zStr, st', c', ga', i1, z0, eq_T, ne_T, e1, e2, gi]
      · have e1 : decide ([a] = [48]) = false := by simp [e]
        simp only [sNil, sSeq, sAsg, sRet, sIf, sExpr, sRaise, sOwn, sDic, sFor, xC, xOp, xUn, xNil, xCons, xCall, xIf, xAnd, xOr, xNot, xChain, xFn, xLc, xSortSet, zSeq, zRange, yB, yT, yAnd, yOr, yNot, asB_b, Rs.bind_ok, Rs.bind_err, of_some, of_none, truth_b, toRs_ret, toRs_err, toRs_nx, tg1, tgN, setAll, gTupD, gLstD, wipeE, padE_eq, xVar_0, xVar_s, set_0, set_s, get_0, get_s, List.map_cons, List.map_nil, List.cons_append, List.nil_append, List.length_cons, List.length_nil, List.replicate, Nat.reduceAdd, Nat.reduceSub, Nat.zero_add, Nat.reduceLeDiff, Nat.reduceLT, reduceIte, reduceCtorEq, if_true, if_false, ite_true, ite_false, Bool.false_eq_true, Bool.not_true, Bool.not_false, Option.map_some, ne_eq, not_true_eq_false, not_false_eq_true, decide_true, decide_false, decide_not, Bool.not_eq_true', Int.reduceEq, Int.reduceNe, Int.reduceLT, Int.reduceLE, Int.reduceAdd, Int.reduceSub, Int.reduceNeg, Bool.true_and, Bool.and_true, Bool.false_and, Bool.and_false, Bool.true_or, Bool.or_true, Bool.false_or, Bool.or_false, Int.cast_ofNat_Int, Int.natCast_zero, Int.natCast_one, l1, le_I, chain_b, zStr, st', c', ga', i1, z0, eq_T, e1, gi]
    · have ga' : gAll [.list [PyData.bool (digC a)]] = some (.bool false) := by
        have q : gAll [.list [PyData.bool (digC a)]] = some (.bool ([a].all digC)) := ga
        rw [q]; simp [k]
      have hn : numC [a] = none := if_neg k
      rw [hn]
      simp only [sNil, sSeq, sAsg, sRet, sIf, sExpr, sRaise, sOwn, sDic, sFor, xC, xOp, xUn, xNil, xCons, xCall, xIf, xAnd, xOr, xNot, xChain, xFn, xLc, xSortSet, zSeq, zRange, yB, yT, yAnd, yOr, yNot, asB_b, Rs.bind_ok, Rs.bind_err, of_some, of_none, truth_b, toRs_ret, toRs_err, toRs_nx, tg1, tgN, setAll, gTupD, gLstD, wipeE, padE_eq, xVar_0, xVar_s, set_0, set_s, get_0, get_s, List.map_cons, List.map_nil, List.cons_append, List.nil_append, List.length_cons, List.length_nil, List.replicate, Nat.reduceAdd, Nat.reduceSub, Nat.zero_add, Nat.reduceLeDiff, Nat.reduceLT, reduceIte, reduceCtorEq, if_true, if_false, ite_true, ite_false, Bool.false_eq_true, Bool.not_true, Bool.not_false, Option.map_some, ne_eq, not_true_eq_false, not_false_eq_true, decide_true, decide_false, decide_not, Bool.not_eq_true', Int.reduceEq, Int.reduceNe, Int.reduceLT, Int.reduceLE, Int.reduceAdd, Int.reduceSub, Int.reduceNeg, Bool.true_and, Bool.and_true, Bool.false_and, Bool.and_false, Bool.true_or, Bool.or_true, Bool.false_or, Bool.or_false, Int.cast_ofNat_Int, Int.natCast_zero, Int.natCast_one, l1, le_I, chain_b, zStr, st', c', ga']
  | [a, b], h, hl, ln, st, c, ga, ix =>
    have l1 : gLen [eT [a, b]] = some (.int 2) := ln
    have i1 : gIdx (eT [a, b]) (.int 0) = some (eT [a]) := ix
    have st' : strD (eT [a, b]) = some [eT [a], eT [b]] := st
    have c' : compR (tg1 1) yTrue Y [.dat (eT [a, b]), .un] [eT [a], eT [b]] = .ok (.list [.bool (digC a), .bool (digC b)]) := c
    have ga0 : gAll [.list [PyData.bool (digC a), PyData.bool (digC b)]] = some (.bool ([a, b].all digC)) := ga
    by_cases k : digC a = true ∧ digC b = true
    · have ga' : gAll [.list [PyData.bool (digC a), PyData.bool (digC b)]] = some (.bool true) := by rw [ga0]; simp [k]
      have e2 : decide ([a, b] ≠ [48]) = true := by simp
      by_cases e : a = 48
      · have e1 : decide ([a] = [48]) = true := by simp [e]
        have k3 : ¬ (digC a = true ∧ digC b = true ∧ a ≠ 48) := fun z => z.2.2 e
        have hn : numC [a, b] = none := if_neg k3
        rw [hn]
        simp only [sNil, sSeq, sAsg, sRet, sIf, sExpr, sRaise, sOwn, sDic, sFor, xC, xOp, xUn, xNil, xCons, xCall, xIf, xAnd, xOr, xNot, xChain, xFn, xLc, xSortSet, zSeq, zRange, yB, yT, yAnd, yOr, yNot, asB_b, Rs.bind_ok, Rs.bind_err, of_some, of_none, truth_b, toRs_ret, toRs_err, toRs_nx, tg1, tgN, setAll, gTupD, gLstD, wipeE, padE_eq, xVar_0, xVar_s, set_0, set_s, get_0, get_s, List.map_cons, List.map_nil, List.cons_append, List.nil_append, List.length_cons, List.length_nil, List.replicate, Nat.reduceAdd, Nat.reduceSub, Nat.zero_add, Nat.reduceLeDiff, Nat.reduceLT, reduceIte, reduceCtorEq, if_true, if_false, ite_true, ite_false, Bool.false_eq_true, Bool.not_true, Bool.not_false, Option.map_some, ne_eq, not_true_eq_false, not_false_eq_true, decide_true, decide_false, decide_not, Bool.not_eq_true', Int.reduceEq, Int.reduceNe, Int.reduceLT, Int.reduceLE, Int.reduceAdd, Int.reduceSub, Int.reduceNeg, Bool.true_and, Bool.and_true, Bool.false_and, Bool.and_false, Bool.true_or, Bool.or_true, Bool.false_or, Bool.or_false, Int.cast_ofNat_Int, Int.natCast_zero, Int.natCast_one, l1, le_I, chain_b, zStr, st', c', ga', i1, z0, eq_T, ne_T, e1, e2]
      · have e1 : decide ([a] = [48]) = false := by simp [e]
        have k3 : (digC a = true ∧ digC b = true ∧ a ≠ 48) := ⟨k.1, k.2, e⟩
        have gi := int_dig (cs := [a, b]) (fun c hc => by
          rcases List.mem_cons.mp hc with e | hc
          · rw [e]; exact k.1
          · rw [List.mem_singleton.mp hc]; exact k.2) (by simp) (by simp)
        have v : ((NumText.digitsVal [a, b] : Nat) : Int) = 10 * ((a : Int) - 48) + ((b : Int) - 48) := by
          have := dig_iff.mp k.1
          have := dig_iff.mp k.2
          show ((((0 * 10 + (a - 48)) * 10 + (b - 48) : Nat)) : Int) = _
          omega
        rw [v] at gi
        have hn : numC [a, b] = some (10 * ((a : Int) - 48) + ((b : Int) - 48)) := if_pos k3
        rw [hn]
        simp only [sNil, sSeq, sAsg, sRet, sIf, sExpr, sRaise, sOwn, sDic, sFor, xC, xOp, xUn, xNil, xCons, xCall, xIf, xAnd, xOr, xNot, xChain, xFn, xLc, xSortSet, zSeq, zRange, yB, yT, yAnd, yOr, yNot, asB_b, Rs.bind_ok, Rs.bind_err, of_some, of_none, truth_b, toRs_ret, toRs_err, toRs_nx, tg1, tgN, setAll, gTupD, gLstD, wipeE, padE_eq, xVar_0, xVar_s, set_0, set_s, get_0, get_s, List.map_cons, List.map_nil, List.cons_append, List.nil_append, List.length_cons, List.length_nil, List.replicate, Nat.reduceAdd, Nat.reduceSub, Nat.zero_add, Nat.reduceLeDiff, Nat.reduceLT, reduceIte, reduceCtorEq, if_true, if_false, ite_true, ite_false, Bool.false_eq_true, Bool.not_true, Bool.not_false, Option.map_some, ne_eq, not_true_eq_false, not_false_eq_true, decide_true, decide_false, decide_not, Bool.not_eq_true', Int.reduceEq, Int.reduceNe, Int.reduceLT, Int.reduceLE, Int.reduceAdd, Int.reduceSub, Int.reduceNeg, Bool.true_and, Bool.and_true, Bool.false_and, Bool.and_false, Bool.true_or, Bool.or_true, Bool.false_or, Bool.or_false, Int.cast_ofNat_Int, Int.natCast_zero, Int.natCast_one, l1, le_I, chain_b, zStr, st', c', ga', i1, z0, eq_T, e1, gi]
    · have ga' : gAll [.list [PyData.bool (digC a), PyData.bool (digC b)]] = some (.bool false) := by
        rw [ga0]
        have : [a, b].all digC = false := by
          rw [Bool.eq_false_iff]
          intro z
          simp at z
          exact k z
        rw [this]
      have k3 : ¬ (digC a = true ∧ digC b = true ∧ a ≠ 48) := fun z => k ⟨z.1, z.2.1⟩
      have hn : numC [a, b] = none := if_neg k3
      rw [hn]
      simp only [sNil, sSeq, sAsg, sRet, sIf, sExpr, sRaise, sOwn, sDic, sFor, xC, xOp, xUn, xNil, xCons, xCall, xIf, xAnd, xOr, xNot, xChain, xFn, xLc, xSortSet, zSeq, zRange, yB, yT, yAnd, yOr, yNot, asB_b, Rs.bind_ok, Rs.bind_err, of_some, of_none, truth_b, toRs_ret, toRs_err, toRs_nx, tg1, tgN, setAll, gTupD, gLstD, wipeE, padE_eq, xVar_0, xVar_s, set_0, set_s, get_0, get_s, List.map_cons, List.map_nil, List.cons_append, List.nil_append, List.length_cons, List.length_nil, List.replicate, Nat.reduceAdd, Nat.reduceSub, Nat.zero_add, Nat.reduceLeDiff, Nat.reduceLT, reduceIte, reduceCtorEq, if_true, if_false, ite_true, ite_false, Bool.false_eq_true, Bool.not_true, Bool.not_false, Option.map_some, ne_eq, not_true_eq_false, not_false_eq_true, decide_true, decide_false, decide_not, Bool.not_eq_true', Int.reduceEq, Int.reduceNe, Int.reduceLT, Int.reduceLE, Int.reduceAdd, Int.reduceSub, Int.reduceNeg, Bool.true_and, Bool.and_true, Bool.false_and, Bool.and_false, Bool.true_or, Bool.or_true, Bool.false_or, Bool.or_false, Int.cast_ofNat_Int, Int.natCast_zero, Int.natCast_one, l1, le_I, chain_b, zStr, st', c', ga']
  | a :: b :: d :: r, h, hl, ln, st, c, ga, ix =>
    have l2 : ¬ (((a :: b :: d :: r).length : Int) ≤ 2) := by rw [List.length_cons, List.length_cons, List.length_cons]; omega
    have l3 : (1 : Int) ≤ ((a :: b :: d :: r).length : Int) := by rw [List.length_cons, List.length_cons, List.length_cons]; omega
    have hn : numC (a :: b :: d :: r) = none := rfl
    rw [hn]
    generalize ((a :: b :: d :: r).length : Int) = n at *
    simp only [sNil, sSeq, sAsg, sRet, sIf, sExpr, sRaise, sOwn, sDic, sFor, xC, xOp, xUn, xNil, xCons, xCall, xIf, xAnd, xOr, xNot, xChain, xFn, xLc, xSortSet, zSeq, zRange, yB, yT, yAnd, yOr, yNot, asB_b, Rs.bind_ok, Rs.bind_err, of_some, of_none, truth_b, toRs_ret, toRs_err, toRs_nx, tg1, tgN, setAll, gTupD, gLstD, wipeE, padE_eq, xVar_0, xVar_s, set_0, set_s, get_0, get_s, List.map_cons, List.map_nil, List.cons_append, List.nil_append, List.length_cons, List.length_nil, List.replicate, Nat.reduceAdd, Nat.reduceSub, Nat.zero_add, Nat.reduceLeDiff, Nat.reduceLT, reduceIte, reduceCtorEq, if_true, if_false, ite_true, ite_false, Bool.false_eq_true, Bool.not_true, Bool.not_false, Option.map_some, ne_eq, not_true_eq_false, not_false_eq_true, decide_true, decide_false, decide_not, Bool.not_eq_true', Int.reduceEq, Int.reduceNe, Int.reduceLT, Int.reduceLE, Int.reduceAdd, Int.reduceSub, Int.reduceNeg, Bool.true_and, Bool.and_true, Bool.false_and, Bool.and_false, Bool.true_or, Bool.or_true, Bool.false_or, Bool.or_false, Int.cast_ofNat_Int, Int.natCast_zero, Int.natCast_one, ln, le_I, chain_b, l2, l3]
end LY

set_option maxHeartbeats 4000000
namespace LY
open PySem PySem.Spec PyProof.Rows L2
/-! ### the law's numbers -/
theorem str_num (k : Nat) (h : k < 1000) : gStr [.int (k : Int)] = some (eT (TL.numL k)) := by
  have lg : ((k : Int)).natAbs.log2 < 1920 := by
    rw [Int.natAbs_natCast]
    exact Nat.lt_of_le_of_lt (Nat.log2_le_self k) (by omega)
  have e : (Str.ofString (toString ((k : Nat) : Int))) = tx (TL.numL k) := TL.ext_tl (TL.tl_num k)
  show (if ((k : Int)).natAbs.log2 < 1920 then some (PyData.str (Str.ofString (toString ((k : Nat) : Int)))) else none) = _
  rw [if_pos lg, e]
  rfl
def numsC : List (List Nat) → Option (List Int)
  | [] => some []
  | z :: r => (numC z).bind fun n => (numsC r).map fun ns => n :: ns
theorem empty_is : PyData.str (Str.ofString "") = eT [] := congrArg PyData.str (TL.ext_tl (by rw [TL.tl_ofString]; rfl))
theorem gt_I' (a b : Int) : gGt (.int a) (.int b) = some (.bool (decide (b < a))) := rfl
abbrev lnB : Sf := (sSeq (sIf (yOr (yB (xOp gEq (xVar 2) (xC (.str (Str.ofString ""))))) (yOr (yB (xOp gGt (xCall gLen (xCons (xVar 2) xNil)) (xC (.int 2)))) (yOr (yNot (yT (xCall gAll (xCons (xLc (zStr (xVar 2)) [3] (tg1 3) yTrue (xOp gIn (xVar 3) (xC (.str (Str.ofString "0123456789"))))) xNil)))) (yB (xOp gNe (xCall gStr (xCons (xCall gInt (xCons (xVar 2) xNil)) xNil)) (xVar 2)))))) (sRet (xC .none)) sNil) (sApp 1 (xCall gInt (xCons (xVar 2) xNil))))
theorem ln_body (cs : List Nat) (h : ∀ c ∈ cs, c < 128) (hl : cs.length ≤ 5000) {l : List PyData} (hw : l.length < 50000) {d : PyData} :
    lnB [.dat d, .own l, .dat (eT cs), .un] = match numC cs with
      | some n => .nx [.dat d, .own (l ++ [.int n]), .dat (eT cs), .un]
      | none => .ret .none := by
  have ln := len_Tx cs (by omega)
  have st := str_T cs
  have c := all_sign cs h (by omega) (g := tg1 3) (f := xOp gIn (xVar 3) (xC (.str (Str.ofString "0123456789")))) (δ := [.dat d, .own l, .dat (eT cs), .un]) fun c _ => ⟨_, rfl, by simp only [sNil, sSeq, sAsg, sRet, sIf, sExpr, sRaise, sOwn, sDic, sFor, xC, xOp, xUn, xNil, xCons, xCall, xIf, xAnd, xOr, xNot, xChain, xFn, xLc, xSortSet, zSeq, zRange, yB, yT, yAnd, yOr, yNot, asB_b, Rs.bind_ok, Rs.bind_err, of_some, of_none, truth_b, toRs_ret, toRs_err, toRs_nx, tg1, tgN, setAll, gTupD, gLstD, wipeE, padE_eq, xVar_0, xVar_s, set_0, set_s, get_0, get_s, List.map_cons, List.map_nil, List.cons_append, List.nil_append, List.length_cons, List.length_nil, List.replicate, Nat.reduceAdd, Nat.reduceSub, Nat.zero_add, Nat.reduceLeDiff, Nat.reduceLT, reduceIte, reduceCtorEq, if_true, if_false, ite_true, ite_false, Bool.false_eq_true, Bool.not_true, Bool.not_false, Option.map_some, ne_eq, not_true_eq_false, not_false_eq_true, decide_true, decide_false, decide_not, Bool.not_eq_true', Int.reduceEq, Int.reduceNe, Int.reduceLT, Int.reduceLE, Int.reduceAdd, Int.reduceSub, Int.reduceNeg, Bool.true_and, Bool.and_true, Bool.false_and, Bool.and_false, Bool.true_or, Bool.or_true, Bool.false_or, Bool.or_false, Int.cast_ofNat_Int, Int.natCast_zero, Int.natCast_one]⟩
  have ga := gAll_bools digC cs
  have z0 := empty_is
  have wl : l.length < 100000 := by omega
  unfold lnB
  generalize (xOp gIn (xVar 3) (xC (.str (Str.ofString "0123456789")))) = Y at c ⊢
  match cs, h, hl, ln, st, c, ga with
  | [], h, hl, ln, st, c, ga =>
    have hn : numC [] = none := rfl
    rw [hn]
    have e0 : decide (([] : List Nat) = []) = true := rfl
    simp only [sNil, sSeq, sAsg, sRet, sIf, sExpr, sRaise, sOwn, sDic, sFor, xC, xOp, xUn, xNil, xCons, xCall, xIf, xAnd, xOr, xNot, xChain, xFn, xLc, xSortSet, zSeq, zRange, yB, yT, yAnd, yOr, yNot, asB_b, Rs.bind_ok, Rs.bind_err, of_some, of_none, truth_b, toRs_ret, toRs_err, toRs_nx, tg1, tgN, setAll, gTupD, gLstD, wipeE, padE_eq, xVar_0, xVar_s, set_0, set_s, get_0, get_s, List.map_cons, List.map_nil, List.cons_append, List.nil_append, List.length_cons, List.length_nil, List.replicate, Nat.reduceAdd, Nat.reduceSub, Nat.zero_add, Nat.reduceLeDiff, Nat.reduceLT, reduceIte, reduceCtorEq, if_true, if_false, ite_true, ite_false, Bool.false_eq_true, Bool.not_true, Bool.not_false, Option.map_some, ne_eq, not_true_eq_false, not_false_eq_true, decide_true, decide_false, decide_not, Bool.not_eq_true', Int.reduceEq, Int.reduceNe, Int.reduceLT, Int.reduceLE, Int.reduceAdd, Int.reduceSub, Int.reduceNeg, Bool.true_and, Bool.and_true, Bool.false_and, Bool.and_false, Bool.true_or, Bool.or_true, Bool.false_or, Bool.or_false, Int.cast_ofNat_Int, Int.natCast_zero, Int.natCast_one, z0, eq_T, e0]
  | [a], h, hl, ln, st, c, ga =>
    have l1 : gLen [eT [a]] = some (.int 1) := ln
    have st' : strD (eT [a]) = some [eT [a]] := st
    have c' : compR (tg1 3) yTrue Y [.dat d, .own l, .dat (eT [a]), .un] [eT [a]] = .ok (.list [.bool (digC a)]) := c
    have e0 : decide ([a] = ([] : List Nat)) = false := by simp
    have q : gAll [.list [PyData.bool (digC a)]] = some (.bool ([a].all digC)) := ga
    by_cases k : digC a = true
    · have gi := int_dig (cs := [a]) (fun c hc => by rw [List.mem_singleton.mp hc]; exact k) (by simp) (by simp)
      have kr := dig_iff.mp k
      have dv : NumText.digitsVal [a] = a - 48 := by
        show 0 * 10 + (a - 48) = _
        omega
      rw [dv] at gi
      have gs := str_num (a - 48) (by omega)
      have nl : TL.numL (a - 48) = [a] := by rw [TL.numL_lt (by omega)]; congr 1; omega
      rw [nl] at gs
      have v : ((a - 48 : Nat) : Int) = (a : Int) - 48 := by omega
      have ga' : gAll [.list [PyData.bool (digC a)]] = some (.bool true) := by rw [q]; simp [k]
      have hn : numC [a] = some ((a : Int) - 48) := if_pos k
      rw [hn, ← v]
      have e1 : decide ([a] ≠ [a]) = false := by simp
      simp only [sNil, sSeq, sAsg, sRet, sIf, sExpr, sRaise, sOwn, sDic, sFor, xC, xOp, xUn, xNil, xCons, xCall, xIf, xAnd, xOr, xNot, xChain, xFn, xLc, xSortSet, zSeq, zRange, yB, yT, yAnd, yOr, yNot, asB_b, Rs.bind_ok, Rs.bind_err, of_some, of_none, truth_b, toRs_ret, toRs_err, toRs_nx, tg1, tgN, setAll, gTupD, gLstD, wipeE, padE_eq, xVar_0, xVar_s, set_0, set_s, get_0, get_s, List.map_cons, List.map_nil, List.cons_append, List.nil_append, List.length_cons, List.length_nil, List.replicate, Nat.reduceAdd, Nat.reduceSub, Nat.zero_add, Nat.reduceLeDiff, Nat.reduceLT, reduceIte, reduceCtorEq, if_true, if_false, ite_true, ite_false, Bool.false_eq_true, Bool.not_true, Bool.not_false, Option.map_some, ne_eq, not_true_eq_false, not_false_eq_true, decide_true, decide_false, decide_not, Bool.not_eq_true', Int.reduceEq, Int.reduceNe, Int.reduceLT, Int.reduceLE, Int.reduceAdd, Int.reduceSub, Int.reduceNeg, Bool.true_and, Bool.and_true, Bool.false_and, Bool.and_false, Bool.true_or, Bool.or_true, Bool.false_or, Bool.or_false, Int.cast_ofNat_Int, Int.natCast_zero, Int.natCast_one, z0, eq_T, e0, l1, gt_I', zStr, st', c', ga', gi, gs, ne_T, e1, sApp, wl]
    · have ga' : gAll [.list [PyData.bool (digC a)]] = some (.bool false) := by rw [q]; simp [k]
      have hn : numC [a] = none := if_neg k
      rw [hn]
      simp only [sNil, sSeq, sAsg, sRet, sIf, sExpr, sRaise, sOwn, sDic, sFor, xC, xOp, xUn, xNil, xCons, xCall, xIf, xAnd, xOr, xNot, xChain, xFn, xLc, xSortSet, zSeq, zRange, yB, yT, yAnd, yOr, yNot, asB_b, Rs.bind_ok, Rs.bind_err, of_some, of_none, truth_b, toRs_ret, toRs_err, toRs_nx, tg1, tgN, setAll, gTupD, gLstD, wipeE, padE_eq, xVar_0, xVar_s, set_0, set_s, get_0, get_s, List.map_cons, List.map_nil, List.cons_append, List.nil_append, List.length_cons, List.length_nil, List.replicate, Nat.reduceAdd, Nat.reduceSub, Nat.zero_add, Nat.reduceLeDiff, Nat.reduceLT, reduceIte, reduceCtorEq, if_true, if_false, ite_true, ite_false, Bool.false_eq_true, Bool.not_true, Bool.not_false, Option.map_some, ne_eq, not_true_eq_false, not_false_eq_true, decide_true, decide_false, decide_not, Bool.not_eq_true', Int.reduceEq, Int.reduceNe, Int.reduceLT, Int.reduceLE, Int.reduceAdd, Int.reduceSub, Int.reduceNeg, Bool.true_and, Bool.and_true, Bool.false_and, Bool.and_false, Bool.true_or, Bool.or_true, Bool.false_or, Bool.or_false, Int.cast_ofNat_Int, Int.natCast_zero, Int.natCast_one, z0, eq_T, e0, l1, gt_I', zStr, st', c', ga']
  | [a, b], h, hl, ln, st, c, ga =>
    have l1 : gLen [eT [a, b]] = some (.int 2) := ln
    have st' : strD (eT [a, b]) = some [eT [a], eT [b]] := st
    have c' : compR (tg1 3) yTrue Y [.dat d, .own l, .dat (eT [a, b]), .un] [eT [a], eT [b]] = .ok (.list [.bool (digC a), .bool (digC b)]) := c
    have e0 : decide ([a, b] = ([] : List Nat)) = false := by simp
    have q : gAll [.list [PyData.bool (digC a), PyData.bool (digC b)]] = some (.bool ([a, b].all digC)) := ga
    by_cases k : digC a = true ∧ digC b = true
    · have gi := int_dig (cs := [a, b]) (fun c hc => by
        rcases List.mem_cons.mp hc with e | hc
        · rw [e]; exact k.1
        · rw [List.mem_singleton.mp hc]; exact k.2) (by simp) (by simp)
      have kr := dig_iff.mp k.1
      have ks := dig_iff.mp k.2
      have dv : NumText.digitsVal [a, b] = 10 * (a - 48) + (b - 48) := by
        show (0 * 10 + (a - 48)) * 10 + (b - 48) = _
        omega
      rw [dv] at gi
      have gs := str_num (10 * (a - 48) + (b - 48)) (by omega)
      have ga' : gAll [.list [PyData.bool (digC a), PyData.bool (digC b)]] = some (.bool true) := by rw [q]; simp [k]
      by_cases e : a = 48
      · have k3 : ¬ (digC a = true ∧ digC b = true ∧ a ≠ 48) := fun z => z.2.2 e
        have hn : numC [a, b] = none := if_neg k3
        rw [hn]
        have nl : TL.numL (10 * (a - 48) + (b - 48)) = [b] := by
          have : 10 * (a - 48) + (b - 48) = b - 48 := by omega
          rw [this, TL.numL_lt (by omega)]; congr 1; omega
        rw [nl] at gs
        have e1 : decide ([b] ≠ [a, b]) = true := by simp
        simp only [sNil, sSeq, sAsg, sRet, sIf, sExpr, sRaise, sOwn, sDic, sFor, xC, xOp, xUn, xNil, xCons, xCall, xIf, xAnd, xOr, xNot, xChain, xFn, xLc, xSortSet, zSeq, zRange, yB, yT, yAnd, yOr, yNot, asB_b, Rs.bind_ok, Rs.bind_err, of_some, of_none, truth_b, toRs_ret, toRs_err, toRs_nx, tg1, tgN, setAll, gTupD, gLstD, wipeE, padE_eq, xVar_0, xVar_s, set_0, set_s, get_0, get_s, List.map_cons, List.map_nil, List.cons_append, List.nil_append, List.length_cons, List.length_nil, List.replicate, Nat.reduceAdd, Nat.reduceSub, Nat.zero_add, Nat.reduceLeDiff, Nat.reduceLT, reduceIte, reduceCtorEq, if_true, if_false, ite_true, ite_false, Bool.false_eq_true, Bool.not_true, Bool.not_false, Option.map_some, ne_eq, not_true_eq_false, not_false_eq_true, decide_true, decide_false, decide_not, Bool.not_eq_true', Int.reduceEq, Int.reduceNe, Int.reduceLT, Int.reduceLE, Int.reduceAdd, Int.reduceSub, Int.reduceNeg, Bool.true_and, Bool.and_true, Bool.false_and, Bool.and_false, Bool.true_or, Bool.or_true, Bool.false_or, Bool.or_false, Int.cast_ofNat_Int, Int.natCast_zero, Int.natCast_one, z0, eq_T, e0, l1, gt_I', zStr, st', c', ga', gi, gs, ne_T, e1]
      · have k3 : (digC a = true ∧ digC b = true ∧ a ≠ 48) := ⟨k.1, k.2, e⟩
        have hn : numC [a, b] = some (10 * ((a : Int) - 48) + ((b : Int) - 48)) := if_pos k3
        have v : ((10 * (a - 48) + (b - 48) : Nat) : Int) = 10 * ((a : Int) - 48) + ((b : Int) - 48) := by omega
        rw [hn, ← v]
        have nl : TL.numL (10 * (a - 48) + (b - 48)) = [a, b] := by
          rw [TL.numL_step (by omega)]
          have d1 : (10 * (a - 48) + (b - 48)) / 10 = a - 48 := by omega
          have d2 : (10 * (a - 48) + (b - 48)) % 10 = b - 48 := by omega
          rw [d1, d2, TL.numL_lt (by omega)]
          show [48 + (a - 48), 48 + (b - 48)] = [a, b]
          congr 1
          · omega
          · congr 1; omega
        rw [nl] at gs
        have e1 : decide ([a, b] ≠ [a, b]) = false := by simp
        generalize ((10 * (a - 48) + (b - 48) : Nat) : Int) = nv at *
        simp only [sNil, sSeq, sAsg, sRet, sIf, sExpr, sRaise, sOwn, sDic, sFor, xC, xOp, xUn, xNil, xCons, xCall, xIf, xAnd, xOr, xNot, xChain, xFn, xLc, xSortSet, zSeq, zRange, yB, yT, yAnd, yOr, yNot, asB_b, Rs.bind_ok, Rs.bind_err, of_some, of_none, truth_b, toRs_ret, toRs_err, toRs_nx, tg1, tgN, setAll, gTupD, gLstD, wipeE, padE_eq, xVar_0, xVar_s, set_0, set_s, get_0, get_s, List.map_cons, List.map_nil, List.cons_append, List.nil_append, List.length_cons, List.length_nil, List.replicate, Nat.reduceAdd, Nat.reduceSub, Nat.zero_add, Nat.reduceLeDiff, Nat.reduceLT, reduceIte, reduceCtorEq, if_true, if_false, ite_true, ite_false, Bool.false_eq_true, Bool.not_true, Bool.not_false, Option.map_some, ne_eq, not_true_eq_false, not_false_eq_true, decide_true, decide_false, decide_not, Bool.not_eq_true', Int.reduceEq, Int.reduceNe, Int.reduceLT, Int.reduceLE, Int.reduceAdd, Int.reduceSub, Int.reduceNeg, Bool.true_and, Bool.and_true, Bool.false_and, Bool.and_false, Bool.true_or, Bool.or_true, Bool.false_or, Bool.or_false, Int.cast_ofNat_Int, Int.natCast_zero, Int.natCast_one, z0, eq_T, e0, l1, gt_I', zStr, st', c', ga', gi, gs, ne_T, e1, sApp, wl]
    · have ga' : gAll [.list [PyData.bool (digC a), PyData.bool (digC b)]] = some (.bool false) := by
        rw [q]
        have : [a, b].all digC = false := by
          rw [Bool.eq_false_iff]
          intro z
          simp at z
          exact k z
        rw [this]
      have k3 : ¬ (digC a = true ∧ digC b = true ∧ a ≠ 48) := fun z => k ⟨z.1, z.2.1⟩
      have hn : numC [a, b] = none := if_neg k3
      rw [hn]
      simp only [sNil, sSeq, sAsg, sRet, sIf, sExpr, sRaise, sOwn, sDic, sFor, xC, xOp, xUn, xNil, xCons, xCall, xIf, xAnd, xOr, xNot, xChain, xFn, xLc, xSortSet, zSeq, zRange, yB, yT, yAnd, yOr, yNot, asB_b, Rs.bind_ok, Rs.bind_err, of_some, of_none, truth_b, toRs_ret, toRs_err, toRs_nx, tg1, tgN, setAll, gTupD, gLstD, wipeE, padE_eq, xVar_0, xVar_s, set_0, set_s, get_0, get_s, List.map_cons, List.map_nil, List.cons_append, List.nil_append, List.length_cons, List.length_nil, List.replicate, Nat.reduceAdd, Nat.reduceSub, Nat.zero_add, Nat.reduceLeDiff, Nat.reduceLT, reduceIte, reduceCtorEq, if_true, if_false, ite_true, ite_false, Bool.false_eq_true, Bool.not_true, Bool.not_false, Option.map_some, ne_eq, not_true_eq_false, not_false_eq_true, decide_true, decide_false, decide_not, Bool.not_eq_true', Int.reduceEq, Int.reduceNe, Int.reduceLT, Int.reduceLE, Int.reduceAdd, Int.reduceSub, Int.reduceNeg, Bool.true_and, Bool.and_true, Bool.false_and, Bool.and_false, Bool.true_or, Bool.or_true, Bool.false_or, Bool.or_false, Int.cast_ofNat_Int, Int.natCast_zero, Int.natCast_one, z0, eq_T, e0, l1, gt_I', zStr, st', c', ga']
  | a :: b :: f :: r, h, hl, ln, st, c, ga =>
    have l2 : (2 : Int) < ((a :: b :: f :: r).length : Int) := by rw [List.length_cons, List.length_cons, List.length_cons]; omega
    have hn : numC (a :: b :: f :: r) = none := rfl
    have e0 : decide ((a :: b :: f :: r) = ([] : List Nat)) = false := by simp
    rw [hn]
    generalize ((a :: b :: f :: r).length : Int) = n at *
    simp only [sNil, sSeq, sAsg, sRet, sIf, sExpr, sRaise, sOwn, sDic, sFor, xC, xOp, xUn, xNil, xCons, xCall, xIf, xAnd, xOr, xNot, xChain, xFn, xLc, xSortSet, zSeq, zRange, yB, yT, yAnd, yOr, yNot, asB_b, Rs.bind_ok, Rs.bind_err, of_some, of_none, truth_b, toRs_ret, toRs_err, toRs_nx, tg1, tgN, setAll, gTupD, gLstD, wipeE, padE_eq, xVar_0, xVar_s, set_0, set_s, get_0, get_s, List.map_cons, List.map_nil, List.cons_append, List.nil_append, List.length_cons, List.length_nil, List.replicate, Nat.reduceAdd, Nat.reduceSub, Nat.zero_add, Nat.reduceLeDiff, Nat.reduceLT, reduceIte, reduceCtorEq, if_true, if_false, ite_true, ite_false, Bool.false_eq_true, Bool.not_true, Bool.not_false, Option.map_some, ne_eq, not_true_eq_false, not_false_eq_true, decide_true, decide_false, decide_not, Bool.not_eq_true', Int.reduceEq, Int.reduceNe, Int.reduceLT, Int.reduceLE, Int.reduceAdd, Int.reduceSub, Int.reduceNeg, Bool.true_and, Bool.and_true, Bool.false_and, Bool.and_false, Bool.true_or, Bool.or_true, Bool.false_or, Bool.or_false, Int.cast_ofNat_Int, Int.natCast_zero, Int.natCast_one, z0, eq_T, e0, ln, gt_I', l2]
theorem ln_for {d : PyData} : ∀ (zs : List (List Nat)) (l : List PyData) (s2 : Slot), (∀ z ∈ zs, (∀ c ∈ z, c < 128) ∧ z.length ≤ 5000) → l.length + zs.length ≤ 40000 →
    match numsC zs with
      | some ns => ∃ z2, forL (tg1 2) lnB (zs.map eT) [.dat d, .own l, s2, .un] = .nx [.dat d, .own (l ++ ns.map .int), z2, .un]
      | none => forL (tg1 2) lnB (zs.map eT) [.dat d, .own l, s2, .un] = .ret .none
  | [], l, s2, _, _ => ⟨s2, by simp [forL]⟩
  | z :: zs, l, s2, h, hl => by
    rw [List.length_cons] at hl
    obtain ⟨h1, h2⟩ := h z List.mem_cons_self
    have b := ln_body z h1 h2 (l := l) (by omega) (d := d)
    have g1 : tg1 2 (eT z) [.dat d, .own l, s2, .un] = some [.dat d, .own l, .dat (eT z), .un] := rfl
    rw [numsC, List.map_cons, forL, g1]
    dsimp only
    rw [b]
    cases hz : numC z with
    | none => rfl
    | some n =>
      rw [Option.bind_some]
      dsimp only
      have rest := ln_for (d := d) zs (l ++ [.int n]) (.dat (eT z)) (fun y hy => h y (List.mem_cons_of_mem _ hy)) (by rw [List.length_append]; show l.length + 1 + zs.length ≤ 40000; omega)
      cases hr : numsC zs with
      | none => rw [hr] at rest; exact rest
      | some ns =>
        rw [hr] at rest
        obtain ⟨z2, q⟩ := rest
        refine ⟨z2, ?_⟩
        rw [q, List.append_assoc]
        rfl
theorem e_lnum (zs : List (List Nat)) (h : ∀ z ∈ zs, (∀ c ∈ z, c < 128) ∧ z.length ≤ 5000) (hl : zs.length ≤ 20000) : s__law_numbers [eTs zs] = match numsC zs with
    | some ns => .ok (.list (ns.map .int))
    | none => .ok .none := by
  have lp := ln_for (d := eTs zs) zs [] .un h (by simp; omega)
  have ow : ∀ δ : En, sOwn 1 xNil δ = .nx (δ.set 1 (.own [])) := fun _ => rfl
  have sq : seqD (eTs zs) = some (zs.map eT) := rfl
  have fs : f__law_numbers = (sSeq (sOwn 1 xNil) (sSeq (sFor (zSeq (xVar 0)) (tg1 2) lnB) (fun δ => (sRet (xVar 1)) (frz 1 δ)))) := rfl
  unfold s__law_numbers
  rw [fs]
  cases hn : numsC zs with
  | none =>
    rw [hn] at lp
    have lp' : forL (tg1 2) lnB (zs.map eT) [.dat (eTs zs), .own [], .un, .un] = .ret .none := lp
    generalize lnB = B at lp' ⊢
    simp only [sNil, sSeq, sAsg, sRet, sIf, sExpr, sRaise, sDic, sFor, xC, xOp, xUn, xNil, xCons, xCall, xIf, xAnd, xOr, xNot, xChain, xFn, xLc, xSortSet, zSeq, zRange, yB, yT, yAnd, yOr, yNot, asB_b, Rs.bind_ok, Rs.bind_err, of_some, of_none, truth_b, toRs_ret, toRs_err, toRs_nx, tg1, tgN, setAll, gTupD, gLstD, wipeE, padE_eq, xVar_0, xVar_s, set_0, set_s, get_0, get_s, List.map_cons, List.map_nil, List.cons_append, List.nil_append, List.length_cons, List.length_nil, List.replicate, Nat.reduceAdd, Nat.reduceSub, Nat.zero_add, Nat.reduceLeDiff, Nat.reduceLT, reduceIte, reduceCtorEq, if_true, if_false, ite_true, ite_false, Bool.false_eq_true, Bool.not_true, Bool.not_false, Option.map_some, ne_eq, not_true_eq_false, not_false_eq_true, decide_true, decide_false, decide_not, Bool.not_eq_true', Int.reduceEq, Int.reduceNe, Int.reduceLT, Int.reduceLE, Int.reduceAdd, Int.reduceSub, Int.reduceNeg, Bool.true_and, Bool.and_true, Bool.false_and, Bool.and_false, Bool.true_or, Bool.or_true, Bool.false_or, Bool.or_false, Int.cast_ofNat_Int, Int.natCast_zero, Int.natCast_one, ow, sq, lp']
  | some ns =>
    rw [hn] at lp
    obtain ⟨z2, lp'⟩ := lp
    rw [List.nil_append] at lp'
    generalize lnB = B at lp' ⊢
    simp only [sNil, sSeq, sAsg, sRet, sIf, sExpr, sRaise, sDic, sFor, xC, xOp, xUn, xNil, xCons, xCall, xIf, xAnd, xOr, xNot, xChain, xFn, xLc, xSortSet, zSeq, zRange, yB, yT, yAnd, yOr, yNot, asB_b, Rs.bind_ok, Rs.bind_err, of_some, of_none, truth_b, toRs_ret, toRs_err, toRs_nx, tg1, tgN, setAll, gTupD, gLstD, wipeE, padE_eq, xVar_0, xVar_s, set_0, set_s, get_0, get_s, List.map_cons, List.map_nil, List.cons_append, List.nil_append, List.length_cons, List.length_nil, List.replicate, Nat.reduceAdd, Nat.reduceSub, Nat.zero_add, Nat.reduceLeDiff, Nat.reduceLT, reduceIte, reduceCtorEq, if_true, if_false, ite_true, ite_false, Bool.false_eq_true, Bool.not_true, Bool.not_false, Option.map_some, ne_eq, not_true_eq_false, not_false_eq_true, decide_true, decide_false, decide_not, Bool.not_eq_true', Int.reduceEq, Int.reduceNe, Int.reduceLT, Int.reduceLE, Int.reduceAdd, Int.reduceSub, Int.reduceNeg, Bool.true_and, Bool.and_true, Bool.false_and, Bool.and_false, Bool.true_or, Bool.or_true, Bool.false_or, Bool.or_false, Int.cast_ofNat_Int, Int.natCast_zero, Int.natCast_one, ow, sq, lp', frz]
/-! ### the program's -/
theorem nums_comp {δ : En} {i : Nat} {g : Gf} {f : Ef} (hg : ∀ z, ∃ δ1, g (eT z) δ = some δ1 ∧ f δ1 = s_number_in [eT z]) : ∀ zs : List (List Nat), (∀ z ∈ zs, (∀ c ∈ z, c < 128) ∧ z.length ≤ 5000) → compLE g yTrue f δ (zs.map eT) = match numsC zs with
    | some ns => .ok (ns.map .int)
    | none => .err "BadText"
  | [], _ => rfl
  | z :: zs, h => by
    obtain ⟨δ1, h1, h2⟩ := hg z
    obtain ⟨k1, k2⟩ := h z List.mem_cons_self
    have ih := nums_comp (i := i) hg zs fun y hy => h y (List.mem_cons_of_mem _ hy)
    rw [List.map_cons, compLE, h1, numsC]
    dsimp only
    show (f δ1).bind _ = _
    rw [h2, e_num z k1 k2]
    cases hz : numC z with
    | none => rfl
    | some n =>
      dsimp only
      rw [Rs.bind_ok, ih, Option.bind_some]
      cases numsC zs with
      | none => rfl
      | some ns => rfl
end LY

set_option maxHeartbeats 4000000
namespace LY
open PySem PySem.Spec PyProof.Rows L2
theorem nl_is : PyData.str (Str.ofString "\n") = eT [10] := congrArg PyData.str (TL.ext_tl (by rw [TL.tl_ofString]; rfl))
theorem sp_is : PyData.str (Str.ofString " ") = eT [32] := congrArg PyData.str (TL.ext_tl (by rw [TL.tl_ofString]; rfl))
theorem co_is : PyData.str (Str.ofString ":") = eT [58] := congrArg PyData.str (TL.ext_tl (by rw [TL.tl_ofString]; rfl))
def THINGS : List Nat := [116, 104, 105, 110, 103, 115, 32]
theorem th_is : PyData.str (Str.ofString "things ") = eT THINGS := congrArg PyData.str (TL.ext_tl (by rw [TL.tl_ofString]; rfl))
abbrev Wn := Int × List Int
def rowP (r : List Nat) : Option Wn := match TL.spl [32] 0 [] r with
  | [] => none
  | w0 :: wr => if cutD w0 (some (-1)) none = [58] then (numC (cutD w0 none (some (-1)))).bind fun t => (numsC wr).map fun xs => (t, xs) else none
def rowsP : List (List Nat) → Option (List Wn)
  | [] => some []
  | r :: rs => (rowP r).bind fun w => (rowsP rs).map fun ws => w :: ws
def triedN (U : List Nat) : Option (Int × List Wn) := match TL.spl [10] 0 [] U with
  | [] => none
  | r0 :: rs => if r0.take 7 = THINGS then (numC (r0.drop 7)).bind fun m => (rowsP rs).map fun ws => (m, ws) else none
def asc (cs : List Nat) : Prop := ∀ c ∈ cs, c < 128
theorem tup_I (xs : List Int) : gTuple [.list (xs.map .int)] = some (eS xs) := rfl
theorem cutL_1 (w0 : List Nat) (wr : List (List Nat)) : gCut (some 1) none (eTs (w0 :: wr)) = some (eTs wr) := by
  unfold gCut eTs
  dsimp only
  have q := cut_from ((w0 :: wr).map eT) 1
  rw [show ((1 : Nat) : Int) = 1 from rfl] at q
  rw [q]
  rfl
theorem idxL_0 (w0 : List Nat) (wr : List (List Nat)) : gIdx (eTs (w0 :: wr)) (.int 0) = some (eT w0) := atI_nat' _ 0
/-! ### a row, as the program reads it -/
abbrev rdB : Sf := (sSeq (sAsg (xStr1 gSplit (xVar 3) (xC (.str (Str.ofString " ")))) (tg1 4)) (sSeq (sIf (yB (xOp gNe (xCut (xOp gIdx (xVar 4) (xC (.int 0))) (pSome (xUn gNeg (xC (.int 1)))) pNone) (xC (.str (Str.ofString ":"))))) (sRaise "BadText") sNil) (sApp 2 (xCall gTupD (xCons (xFn 1 s_number_in (xCons (xCut (xOp gIdx (xVar 4) (xC (.int 0))) pNone (pSome (xUn gNeg (xC (.int 1))))) xNil)) (xCons (xCall gTuple (xCons (xLcE (zSeq (xCut (xVar 4) (pSome (xC (.int 1))) pNone)) [8] (tg1 8) yTrue (xFn 1 s_number_in (xCons (xVar 8) xNil))) xNil)) xNil))))))
theorem rd_row (r : List Nat) (h : asc r) (hl : r.length ≤ 3000) {t rows : PyData} {l : List PyData} (hw : l.length < 50000) {s4 s5 s6 s7 s8 : Slot} :
    match rowP r with
      | some w => ∃ z4, rdB [.dat t, .dat rows, .own l, .dat (eT r), s4, s5, s6, s7, s8] = .nx [.dat t, .dat rows, .own (l ++ [eW w]), .dat (eT r), z4, s5, s6, s7, s8]
      | none => ∃ δ, rdB [.dat t, .dat rows, .own l, .dat (eT r), s4, s5, s6, s7, s8] = .err "BadText" δ := by
  obtain ⟨L1, L2, L3⟩ := spl_lens 32 r []
  have M := spl_mem 32 r []
  have sp : xStr1 gSplit (xVar 3) (xC (.str (Str.ofString " "))) [.dat t, .dat rows, .own l, .dat (eT r), s4, s5, s6, s7, s8] = .ok (eTs (TL.spl [32] 0 [] r)) := by
    show Rs.of (gSplit (tx r) (.str (Str.ofString " "))) = _
    rw [sp_is, split_T r 32 (by decide) (by omega)]
    rfl
  unfold rowP
  generalize TL.spl [32] 0 [] r = W at L1 L2 L3 M sp ⊢
  cases W with
  | nil => exact absurd rfl L3
  | cons w0 wr =>
    have e0 : ([] : List Nat).length = 0 := rfl
    have okW : ∀ z ∈ w0 :: wr, (∀ c ∈ z, c < 128) ∧ z.length ≤ 5000 := fun z hz => ⟨fun c hc => (M z hz c hc).elim (fun q => nomatch q) (h c), by have := L1 z hz; omega⟩
    obtain ⟨k1, k2⟩ := okW w0 List.mem_cons_self
    have i0 := idxL_0 w0 wr
    have ng : gNeg (.int 1) = some (.int (-1)) := rfl
    have cl := cut_T w0 (some (-1)) none (by omega)
    have ci := cut_T w0 none (some (-1)) (by omega)
    have cw := cutL_1 w0 wr
    have en := e_num (cutD w0 none (some (-1))) (fun c hc => k1 c (cut_sub _ _ _ c hc)) (by have := cut_len w0 none (some (-1)); omega)
    have co := co_is
    have sq : seqD (eTs wr) = some (wr.map eT) := rfl
    have wl : l.length < 100000 := by omega
    have lw : (wr.map eT).length ≤ 100000 := by rw [List.length_map]; rw [List.length_cons] at L2; omega
    have cmp := fun (z4 : Slot) => nums_comp (δ := [.dat t, .dat rows, .own l, .dat (eT r), z4, s5, s6, s7, .un]) (i := 8) (g := tg1 8) (f := xFn 1 s_number_in (xCons (xVar 8) xNil)) (fun z => ⟨_, rfl, by simp only [sNil, sSeq, sAsg, sRet, sIf, sExpr, sRaise, sOwn, sDic, sFor, xC, xOp, xUn, xNil, xCons, xCall, xIf, xAnd, xOr, xNot, xChain, xFn, xLc, xSortSet, zSeq, zRange, yB, yT, yAnd, yOr, yNot, asB_b, Rs.bind_ok, Rs.bind_err, of_some, of_none, truth_b, toRs_ret, toRs_err, toRs_nx, tg1, tgN, setAll, gTupD, gLstD, wipeE, padE_eq, xVar_0, xVar_s, set_0, set_s, get_0, get_s, List.map_cons, List.map_nil, List.cons_append, List.nil_append, List.length_cons, List.length_nil, List.replicate, Nat.reduceAdd, Nat.reduceSub, Nat.zero_add, Nat.reduceLeDiff, Nat.reduceLT, reduceIte, reduceCtorEq, if_true, if_false, ite_true, ite_false, Bool.false_eq_true, Bool.not_true, Bool.not_false, Option.map_some, ne_eq, not_true_eq_false, not_false_eq_true, decide_true, decide_false, decide_not, Bool.not_eq_true', Int.reduceEq, Int.reduceNe, Int.reduceLT, Int.reduceLE, Int.reduceAdd, Int.reduceSub, Int.reduceNeg, Bool.true_and, Bool.and_true, Bool.false_and, Bool.and_false, Bool.true_or, Bool.or_true, Bool.false_or, Bool.or_false, Int.cast_ofNat_Int, Int.natCast_zero, Int.natCast_one]⟩) wr fun z hz => okW z (List.mem_cons_of_mem _ hz)
    dsimp only
    by_cases e : cutD w0 (some (-1)) none = [58]
    · rw [if_pos e]
      have e1 : decide (cutD w0 (some (-1)) none ≠ [58]) = false := by simp [e]
      cases hn : numC (cutD w0 none (some (-1))) with
      | none =>
        rw [hn] at en
        refine ⟨[.dat t, .dat rows, .own l, .dat (eT r), .dat (eTs (w0 :: wr)), s5, s6, s7, s8], ?_⟩
        unfold rdB
        simp only [sNil, sSeq, sAsg, sRet, sIf, sExpr, sRaise, sOwn, sDic, sFor, xC, xOp, xUn, xNil, xCons, xCall, xIf, xAnd, xOr, xNot, xChain, xFn, xLc, xSortSet, zSeq, zRange, yB, yT, yAnd, yOr, yNot, asB_b, Rs.bind_ok, Rs.bind_err, of_some, of_none, truth_b, toRs_ret, toRs_err, toRs_nx, tg1, tgN, setAll, gTupD, gLstD, wipeE, padE_eq, xVar_0, xVar_s, set_0, set_s, get_0, get_s, List.map_cons, List.map_nil, List.cons_append, List.nil_append, List.length_cons, List.length_nil, List.replicate, Nat.reduceAdd, Nat.reduceSub, Nat.zero_add, Nat.reduceLeDiff, Nat.reduceLT, reduceIte, reduceCtorEq, if_true, if_false, ite_true, ite_false, Bool.false_eq_true, Bool.not_true, Bool.not_false, Option.map_some, ne_eq, not_true_eq_false, not_false_eq_true, decide_true, decide_false, decide_not, Bool.not_eq_true', Int.reduceEq, Int.reduceNe, Int.reduceLT, Int.reduceLE, Int.reduceAdd, Int.reduceSub, Int.reduceNeg, Bool.true_and, Bool.and_true, Bool.false_and, Bool.and_false, Bool.true_or, Bool.or_true, Bool.false_or, Bool.or_false, Int.cast_ofNat_Int, Int.natCast_zero, Int.natCast_one, sp, i0, ng, xCut, pSome, pNone, cl, co, ne_T, e1, ci, en, sApp]
      | some n =>
        rw [hn] at en
        rw [Option.bind_some]
        cases hs : numsC wr with
        | none =>
          rw [hs] at cmp
          refine ⟨[.dat t, .dat rows, .own l, .dat (eT r), .dat (eTs (w0 :: wr)), s5, s6, s7, s8], ?_⟩
          unfold rdB
          generalize (xFn 1 s_number_in (xCons (xVar 8) xNil)) = Y at cmp ⊢
          simp only [sNil, sSeq, sAsg, sRet, sIf, sExpr, sRaise, sOwn, sDic, sFor, xC, xOp, xUn, xNil, xCons, xCall, xIf, xAnd, xOr, xNot, xChain, xFn, xLc, xSortSet, zSeq, zRange, yB, yT, yAnd, yOr, yNot, asB_b, Rs.bind_ok, Rs.bind_err, of_some, of_none, truth_b, toRs_ret, toRs_err, toRs_nx, tg1, tgN, setAll, gTupD, gLstD, wipeE, padE_eq, xVar_0, xVar_s, set_0, set_s, get_0, get_s, List.map_cons, List.map_nil, List.cons_append, List.nil_append, List.length_cons, List.length_nil, List.replicate, Nat.reduceAdd, Nat.reduceSub, Nat.zero_add, Nat.reduceLeDiff, Nat.reduceLT, reduceIte, reduceCtorEq, if_true, if_false, ite_true, ite_false, Bool.false_eq_true, Bool.not_true, Bool.not_false, Option.map_some, ne_eq, not_true_eq_false, not_false_eq_true, decide_true, decide_false, decide_not, Bool.not_eq_true', Int.reduceEq, Int.reduceNe, Int.reduceLT, Int.reduceLE, Int.reduceAdd, Int.reduceSub, Int.reduceNeg, Bool.true_and, Bool.and_true, Bool.false_and, Bool.and_false, Bool.true_or, Bool.or_true, Bool.false_or, Bool.or_false, Int.cast_ofNat_Int, Int.natCast_zero, Int.natCast_one, sp, i0, ng, xCut, pSome, pNone, cl, co, ne_T, e1, ci, en, sApp, xLcE, compRE, wipeE, cw, sq, lw, cmp]
        | some xs =>
          rw [hs] at cmp
          have tp := tup_I xs
          have tw : gTupD [.int n, eS xs] = some (eW (n, xs)) := rfl
          refine ⟨.dat (eTs (w0 :: wr)), ?_⟩
          unfold rdB
          generalize (xFn 1 s_number_in (xCons (xVar 8) xNil)) = Y at cmp ⊢
          simp only [sNil, sSeq, sAsg, sRet, sIf, sExpr, sRaise, sOwn, sDic, sFor, xC, xOp, xUn, xNil, xCons, xCall, xIf, xAnd, xOr, xNot, xChain, xFn, xLc, xSortSet, zSeq, zRange, yB, yT, yAnd, yOr, yNot, asB_b, Rs.bind_ok, Rs.bind_err, of_some, of_none, truth_b, toRs_ret, toRs_err, toRs_nx, tg1, tgN, setAll, gLstD, wipeE, padE_eq, xVar_0, xVar_s, set_0, set_s, get_0, get_s, List.map_cons, List.map_nil, List.cons_append, List.nil_append, List.length_cons, List.length_nil, List.replicate, Nat.reduceAdd, Nat.reduceSub, Nat.zero_add, Nat.reduceLeDiff, Nat.reduceLT, reduceIte, reduceCtorEq, if_true, if_false, ite_true, ite_false, Bool.false_eq_true, Bool.not_true, Bool.not_false, Option.map_some, ne_eq, not_true_eq_false, not_false_eq_true, decide_true, decide_false, decide_not, Bool.not_eq_true', Int.reduceEq, Int.reduceNe, Int.reduceLT, Int.reduceLE, Int.reduceAdd, Int.reduceSub, Int.reduceNeg, Bool.true_and, Bool.and_true, Bool.false_and, Bool.and_false, Bool.true_or, Bool.or_true, Bool.false_or, Bool.or_false, Int.cast_ofNat_Int, Int.natCast_zero, Int.natCast_one, sp, i0, ng, xCut, pSome, pNone, cl, co, ne_T, e1, ci, en, sApp, xLcE, compRE, wipeE, cw, sq, lw, cmp, tp, tw, wl]
    · rw [if_neg e]
      have e1 : decide (cutD w0 (some (-1)) none ≠ [58]) = true := by simp [e]
      refine ⟨[.dat t, .dat rows, .own l, .dat (eT r), .dat (eTs (w0 :: wr)), s5, s6, s7, s8], ?_⟩
      unfold rdB
      simp only [sNil, sSeq, sAsg, sRet, sIf, sExpr, sRaise, sOwn, sDic, sFor, xC, xOp, xUn, xNil, xCons, xCall, xIf, xAnd, xOr, xNot, xChain, xFn, xLc, xSortSet, zSeq, zRange, yB, yT, yAnd, yOr, yNot, asB_b, Rs.bind_ok, Rs.bind_err, of_some, of_none, truth_b, toRs_ret, toRs_err, toRs_nx, tg1, tgN, setAll, gTupD, gLstD, wipeE, padE_eq, xVar_0, xVar_s, set_0, set_s, get_0, get_s, List.map_cons, List.map_nil, List.cons_append, List.nil_append, List.length_cons, List.length_nil, List.replicate, Nat.reduceAdd, Nat.reduceSub, Nat.zero_add, Nat.reduceLeDiff, Nat.reduceLT, reduceIte, reduceCtorEq, if_true, if_false, ite_true, ite_false, Bool.false_eq_true, Bool.not_true, Bool.not_false, Option.map_some, ne_eq, not_true_eq_false, not_false_eq_true, decide_true, decide_false, decide_not, Bool.not_eq_true', Int.reduceEq, Int.reduceNe, Int.reduceLT, Int.reduceLE, Int.reduceAdd, Int.reduceSub, Int.reduceNeg, Bool.true_and, Bool.and_true, Bool.false_and, Bool.and_false, Bool.true_or, Bool.or_true, Bool.false_or, Bool.or_false, Int.cast_ofNat_Int, Int.natCast_zero, Int.natCast_one, sp, i0, ng, xCut, pSome, pNone, cl, co, ne_T, e1]
theorem rd_rows {t rows : PyData} : ∀ (rs : List (List Nat)) (l : List PyData) (s3 s4 s5 s6 s7 s8 : Slot), (∀ r ∈ rs, asc r ∧ r.length ≤ 3000) → l.length + rs.length ≤ 40000 →
    match rowsP rs with
      | some ws => ∃ z3 z4, forL (tg1 3) rdB (rs.map eT) [.dat t, .dat rows, .own l, s3, s4, s5, s6, s7, s8] = .nx [.dat t, .dat rows, .own (l ++ ws.map eW), z3, z4, s5, s6, s7, s8]
      | none => ∃ δ, forL (tg1 3) rdB (rs.map eT) [.dat t, .dat rows, .own l, s3, s4, s5, s6, s7, s8] = .err "BadText" δ
  | [], l, s3, s4, s5, s6, s7, s8, _, _ => ⟨s3, s4, by simp [forL]⟩
  | r :: rs, l, s3, s4, s5, s6, s7, s8, h, hl => by
    rw [List.length_cons] at hl
    obtain ⟨h1, h2⟩ := h r List.mem_cons_self
    have b := rd_row r h1 h2 (t := t) (rows := rows) (l := l) (by omega) (s4 := s4) (s5 := s5) (s6 := s6) (s7 := s7) (s8 := s8)
    have g1 : tg1 3 (eT r) [.dat t, .dat rows, .own l, s3, s4, s5, s6, s7, s8] = some [.dat t, .dat rows, .own l, .dat (eT r), s4, s5, s6, s7, s8] := rfl
    rw [rowsP, List.map_cons, forL, g1]
    dsimp only
    cases hz : rowP r with
    | none =>
      rw [hz] at b
      obtain ⟨δ, b⟩ := b
      rw [b]
      exact ⟨δ, rfl⟩
    | some w =>
      rw [hz] at b
      obtain ⟨z4, b⟩ := b
      rw [b, Option.bind_some]
      dsimp only
      have rest := rd_rows (t := t) (rows := rows) rs (l ++ [eW w]) (.dat (eT r)) z4 s5 s6 s7 s8 (fun y hy => h y (List.mem_cons_of_mem _ hy)) (by rw [List.length_append]; show l.length + 1 + rs.length ≤ 40000; omega)
      cases hr : rowsP rs with
      | none => rw [hr] at rest; exact rest
      | some ws =>
        rw [hr] at rest
        obtain ⟨y3, y4, q⟩ := rest
        refine ⟨y3, y4, ?_⟩
        rw [q, List.append_assoc]
        rfl
/-! ### rules of any numbers -/
def lookP (m : Int) (ws : List Wn) : Prop := (0 ≤ m ∧ m ≤ 10) ∧ ∀ i, i < ws.length → wayOk m (ws.map fun w => (w.1, some w.2)) i
open Classical in
theorem e_look (m : Int) (ws : List Wn) (hl : ws.length ≤ 1300) (hs : ∀ w ∈ ws, w.2.length ≤ 4000) : s_look_rules [eR (m, ws)] = if lookP m ws then .ok .none else .err "BadRules" := by
  have hs2 : ∀ t xs, (t, some xs) ∈ (ws.map fun w => ((w.1, some w.2) : Wy)) → xs.length ≤ 4000 := fun t xs h => by
    obtain ⟨w, hw, e⟩ := List.mem_map.mp h
    cases e
    exact hs w hw
  rw [eR_eU]
  split
  · next h => exact e_look_ok h.1 (by rw [List.length_map]; exact hl) hs2 fun i hi => h.2 i (by rwa [List.length_map] at hi)
  · next h =>
    refine e_look_bad (by rw [List.length_map]; exact hl) hs2 fun hm => Classical.byContradiction fun n => h ⟨hm, fun i hi => Classical.byContradiction fun k => n ⟨i, by rw [List.length_map]; exact hi, k⟩⟩
theorem numsC_len : ∀ {zs : List (List Nat)} {ns : List Int}, numsC zs = some ns → ns.length = zs.length
  | [], _, h => by cases h; rfl
  | z :: zs, ns, h => by
    rw [numsC] at h
    cases hz : numC z with
    | none => rw [hz] at h; exact nomatch h
    | some n =>
      rw [hz, Option.bind_some] at h
      cases hr : numsC zs with
      | none => rw [hr] at h; exact nomatch h
      | some ms =>
        rw [hr] at h
        cases h
        rw [List.length_cons, List.length_cons, numsC_len hr]
theorem rowP_len {r : List Nat} {w : Wn} (h : rowP r = some w) : w.2.length ≤ r.length + 1 := by
  obtain ⟨_, L2, _⟩ := spl_lens 32 r []
  unfold rowP at h
  generalize TL.spl [32] 0 [] r = W at L2 h
  cases W with
  | nil => exact nomatch h
  | cons w0 wr =>
    dsimp only at h
    split at h
    · cases hn : numC (cutD w0 none (some (-1))) with
      | none => rw [hn] at h; exact nomatch h
      | some n =>
        rw [hn, Option.bind_some] at h
        cases hr : numsC wr with
        | none => rw [hr] at h; exact nomatch h
        | some xs =>
          rw [hr] at h
          cases h
          have := numsC_len hr
          rw [List.length_cons] at L2
          show xs.length ≤ r.length + 1
          omega
    · exact nomatch h
theorem rowsP_len : ∀ {rs : List (List Nat)} {ws : List Wn}, rowsP rs = some ws → ws.length = rs.length ∧ ∀ w ∈ ws, ∃ r ∈ rs, w.2.length ≤ r.length + 1
  | [], _, h => by cases h; exact ⟨rfl, fun w z => nomatch z⟩
  | r :: rs, ws, h => by
    rw [rowsP] at h
    cases hz : rowP r with
    | none => rw [hz] at h; exact nomatch h
    | some w =>
      rw [hz, Option.bind_some] at h
      cases hr : rowsP rs with
      | none => rw [hr] at h; exact nomatch h
      | some ms =>
        rw [hr] at h
        cases h
        obtain ⟨a, b⟩ := rowsP_len hr
        refine ⟨by rw [List.length_cons, List.length_cons, a], fun v hv => ?_⟩
        rcases List.mem_cons.mp hv with rfl | hv
        · exact ⟨r, List.mem_cons_self, rowP_len hz⟩
        · obtain ⟨q, q1, q2⟩ := b v hv
          exact ⟨q, List.mem_cons_of_mem _ q1, q2⟩
theorem isnot_non : gIsNot .none .none = some (.bool false) := rfl
theorem isnot_exc (c : String) : gIsNot (excD c) .none = some (.bool true) := rfl
open Classical in
theorem e_read (U : List Nat) (h : asc U) (hl : U.length ≤ 1000) : s_read [eT U] = match triedN U with
    | some (m, ws) => if lookP m ws then .ok (eR (m, ws)) else .err "BadText"
    | none => .err "BadText" := by
  obtain ⟨L1, L2, L3⟩ := spl_lens 10 U []
  have M := spl_mem 10 U []
  have e0 : ([] : List Nat).length = 0 := rfl
  have sp : xStr1 gSplit (xVar 0) (xC (.str (Str.ofString "\n"))) [.dat (eT U), .un, .un, .un, .un, .un, .un, .un, .un] = .ok (eTs (TL.spl [10] 0 [] U)) := by
    show Rs.of (gSplit (tx U) (.str (Str.ofString "\n"))) = _
    rw [nl_is, split_T U 10 (by decide) (by omega)]
    rfl
  unfold triedN
  generalize TL.spl [10] 0 [] U = W at L1 L2 L3 M sp ⊢
  cases W with
  | nil => exact absurd rfl L3
  | cons r0 rs =>
    have okW : ∀ z ∈ r0 :: rs, asc z ∧ z.length ≤ 3000 := fun z hz => ⟨fun c hc => (M z hz c hc).elim (fun q => nomatch q) (h c), by have := L1 z hz; omega⟩
    obtain ⟨k1, k2⟩ := okW r0 List.mem_cons_self
    have i0 := idxL_0 r0 rs
    have c7 : gCut none (some 7) (eT r0) = some (eT (r0.take 7)) := by
      rw [cut_T r0 none (some 7) (by omega)]
      have := cut_to r0 7
      rw [show ((7 : Nat) : Int) = 7 from rfl] at this
      rw [this]
    have d7 : gCut (some 7) none (eT r0) = some (eT (r0.drop 7)) := by
      rw [cut_T r0 (some 7) none (by omega)]
      have := cut_from r0 7
      rw [show ((7 : Nat) : Int) = 7 from rfl] at this
      rw [this]
    have cw := cutL_1 r0 rs
    have th := th_is
    have sq : seqD (eTs rs) = some (rs.map eT) := rfl
    have en := e_num (r0.drop 7) (fun c hc => k1 c (List.mem_of_mem_drop hc)) (by rw [List.length_drop]; omega)
    have lrs : rs.length ≤ 1000 := by rw [List.length_cons] at L2; omega
    have lp := rd_rows (t := eT U) (rows := eTs (r0 :: rs)) rs [] .un .un .un .un .un .un (fun r hr => okW r (List.mem_cons_of_mem _ hr)) (by simp; omega)
    have ow : ∀ δ : En, sOwn 2 xNil δ = .nx (δ.set 2 (.own [])) := fun _ => rfl
    have fs : f_read = (sSeq (sAsg (xStr1 gSplit (xVar 0) (xC (.str (Str.ofString "\n")))) (tg1 1)) (sSeq (sIf (yB (xOp gNe (xCut (xOp gIdx (xVar 1) (xC (.int 0))) pNone (pSome (xC (.int 7)))) (xC (.str (Str.ofString "things "))))) (sRaise "BadText") sNil) (sSeq (sOwn 2 xNil) (sSeq (sFor (zSeq (xCut (xVar 1) (pSome (xC (.int 1))) pNone)) (tg1 3) rdB) (sSeq (fun δ => (sAsg (xCall gTupD (xCons (xFn 1 s_number_in (xCons (xCut (xOp gIdx (xVar 1) (xC (.int 0))) (pSome (xC (.int 7))) pNone) xNil)) (xCons (xVar 2) xNil))) (tg1 5)) (frz 2 δ)) (sSeq (sAsg (xC .none) (tg1 6)) (sSeq (sTry 7 6 below_BadRules (sExpr (xFn 1 s_look_rules (xCons (xVar 5) xNil)))) (sSeq (sIf (yB (xOp gIsNot (xVar 6) (xC .none))) (sRaise "BadText") sNil) (sRet (xVar 5)))))))))) := rfl
    unfold s_read
    rw [fs]
    dsimp only
    by_cases e : r0.take 7 = THINGS
    · rw [if_pos e]
      have e1 : decide (r0.take 7 ≠ THINGS) = false := by simp [e]
      cases hr : rowsP rs with
      | none =>
        rw [hr] at lp
        obtain ⟨δ, lp⟩ := lp
        have en2 : ((numC (r0.drop 7)).bind fun m => (none : Option (List Wn)).map fun ws => (m, ws)) = none := by cases numC (r0.drop 7) <;> rfl
        rw [en2]
        generalize rdB = B at lp ⊢
        simp only [sNil, sSeq, sAsg, sRet, sIf, sExpr, sRaise, sDic, sFor, xC, xOp, xUn, xNil, xCons, xCall, xIf, xAnd, xOr, xNot, xChain, xFn, xLc, xSortSet, zSeq, zRange, yB, yT, yAnd, yOr, yNot, asB_b, Rs.bind_ok, Rs.bind_err, of_some, of_none, truth_b, toRs_ret, toRs_err, toRs_nx, tg1, tgN, setAll, gTupD, gLstD, wipeE, padE_eq, xVar_0, xVar_s, set_0, set_s, get_0, get_s, List.map_cons, List.map_nil, List.cons_append, List.nil_append, List.length_cons, List.length_nil, List.replicate, Nat.reduceAdd, Nat.reduceSub, Nat.zero_add, Nat.reduceLeDiff, Nat.reduceLT, reduceIte, reduceCtorEq, if_true, if_false, ite_true, ite_false, Bool.false_eq_true, Bool.not_true, Bool.not_false, Option.map_some, ne_eq, not_true_eq_false, not_false_eq_true, decide_true, decide_false, decide_not, Bool.not_eq_true', Int.reduceEq, Int.reduceNe, Int.reduceLT, Int.reduceLE, Int.reduceAdd, Int.reduceSub, Int.reduceNeg, Bool.true_and, Bool.and_true, Bool.false_and, Bool.and_false, Bool.true_or, Bool.or_true, Bool.false_or, Bool.or_false, Int.cast_ofNat_Int, Int.natCast_zero, Int.natCast_one, sp, i0, xCut, pNone, pSome, c7, th, ne_T, e1, ow, cw, sq, lp]
      | some ws =>
        rw [hr] at lp
        obtain ⟨z3, z4, lp⟩ := lp
        rw [List.nil_append] at lp
        cases hn : numC (r0.drop 7) with
        | none =>
          rw [hn] at en
          rw [Option.bind_none]
          generalize rdB = B at lp ⊢
          simp only [sNil, sSeq, sAsg, sRet, sIf, sExpr, sRaise, sDic, sFor, xC, xOp, xUn, xNil, xCons, xCall, xIf, xAnd, xOr, xNot, xChain, xFn, xLc, xSortSet, zSeq, zRange, yB, yT, yAnd, yOr, yNot, asB_b, Rs.bind_ok, Rs.bind_err, of_some, of_none, truth_b, toRs_ret, toRs_err, toRs_nx, tg1, tgN, setAll, gTupD, gLstD, wipeE, padE_eq, xVar_0, xVar_s, set_0, set_s, get_0, get_s, List.map_cons, List.map_nil, List.cons_append, List.nil_append, List.length_cons, List.length_nil, List.replicate, Nat.reduceAdd, Nat.reduceSub, Nat.zero_add, Nat.reduceLeDiff, Nat.reduceLT, reduceIte, reduceCtorEq, if_true, if_false, ite_true, ite_false, Bool.false_eq_true, Bool.not_true, Bool.not_false, Option.map_some, ne_eq, not_true_eq_false, not_false_eq_true, decide_true, decide_false, decide_not, Bool.not_eq_true', Int.reduceEq, Int.reduceNe, Int.reduceLT, Int.reduceLE, Int.reduceAdd, Int.reduceSub, Int.reduceNeg, Bool.true_and, Bool.and_true, Bool.false_and, Bool.and_false, Bool.true_or, Bool.or_true, Bool.false_or, Bool.or_false, Int.cast_ofNat_Int, Int.natCast_zero, Int.natCast_one, sp, i0, xCut, pNone, pSome, c7, th, ne_T, e1, ow, cw, sq, lp, frz, d7, en]
        | some m =>
          rw [hn] at en
          rw [Option.bind_some, Option.map_some]
          obtain ⟨q1, q2⟩ := rowsP_len hr
          have lk := e_look m ws (by omega) fun w hw => by
            obtain ⟨r, r1, r2⟩ := q2 w hw
            have := (okW r (List.mem_cons_of_mem _ r1)).2
            omega
          have tp : gTupD [.int m, .list (ws.map eW)] = some (eR (m, ws)) := rfl
          dsimp only
          generalize rdB = B at lp ⊢
          by_cases g : lookP m ws
          · rw [if_pos g] at lk ⊢
            simp only [sNil, sSeq, sAsg, sRet, sIf, sExpr, sRaise, sDic, sFor, xC, xOp, xUn, xNil, xCons, xCall, xIf, xAnd, xOr, xNot, xChain, xFn, xLc, xSortSet, zSeq, zRange, yB, yT, yAnd, yOr, yNot, asB_b, Rs.bind_ok, Rs.bind_err, of_some, of_none, truth_b, toRs_ret, toRs_err, toRs_nx, tg1, tgN, setAll, gLstD, wipeE, padE_eq, xVar_0, xVar_s, set_0, set_s, get_0, get_s, List.map_cons, List.map_nil, List.cons_append, List.nil_append, List.length_cons, List.length_nil, List.replicate, Nat.reduceAdd, Nat.reduceSub, Nat.zero_add, Nat.reduceLeDiff, Nat.reduceLT, reduceIte, reduceCtorEq, if_true, if_false, ite_true, ite_false, Bool.false_eq_true, Bool.not_true, Bool.not_false, Option.map_some, ne_eq, not_true_eq_false, not_false_eq_true, decide_true, decide_false, decide_not, Bool.not_eq_true', Int.reduceEq, Int.reduceNe, Int.reduceLT, Int.reduceLE, Int.reduceAdd, Int.reduceSub, Int.reduceNeg, Bool.true_and, Bool.and_true, Bool.false_and, Bool.and_false, Bool.true_or, Bool.or_true, Bool.false_or, Bool.or_false, Int.cast_ofNat_Int, Int.natCast_zero, Int.natCast_one, sp, i0, xCut, pNone, pSome, c7, th, ne_T, e1, ow, cw, sq, lp, frz, d7, en, tp, sTry, lk, isnot_non]
          · rw [if_neg g] at lk ⊢
            have bl : below_BadRules "BadRules" = some true := rfl
            simp only [sNil, sSeq, sAsg, sRet, sIf, sExpr, sRaise, sDic, sFor, xC, xOp, xUn, xNil, xCons, xCall, xIf, xAnd, xOr, xNot, xChain, xFn, xLc, xSortSet, zSeq, zRange, yB, yT, yAnd, yOr, yNot, asB_b, Rs.bind_ok, Rs.bind_err, of_some, of_none, truth_b, toRs_ret, toRs_err, toRs_nx, tg1, tgN, setAll, gLstD, wipeE, padE_eq, xVar_0, xVar_s, set_0, set_s, get_0, get_s, List.map_cons, List.map_nil, List.cons_append, List.nil_append, List.length_cons, List.length_nil, List.replicate, Nat.reduceAdd, Nat.reduceSub, Nat.zero_add, Nat.reduceLeDiff, Nat.reduceLT, reduceIte, reduceCtorEq, if_true, if_false, ite_true, ite_false, Bool.false_eq_true, Bool.not_true, Bool.not_false, Option.map_some, ne_eq, not_true_eq_false, not_false_eq_true, decide_true, decide_false, decide_not, Bool.not_eq_true', Int.reduceEq, Int.reduceNe, Int.reduceLT, Int.reduceLE, Int.reduceAdd, Int.reduceSub, Int.reduceNeg, Bool.true_and, Bool.and_true, Bool.false_and, Bool.and_false, Bool.true_or, Bool.or_true, Bool.false_or, Bool.or_false, Int.cast_ofNat_Int, Int.natCast_zero, Int.natCast_one, sp, i0, xCut, pNone, pSome, c7, th, ne_T, e1, ow, cw, sq, lp, frz, d7, en, tp, sTry, lk, bl, isnot_exc]
    · rw [if_neg e]
      have e1 : decide (r0.take 7 ≠ THINGS) = true := by simp [e]
      generalize rdB = B at lp ⊢
      simp only [sNil, sSeq, sAsg, sRet, sIf, sExpr, sRaise, sOwn, sDic, sFor, xC, xOp, xUn, xNil, xCons, xCall, xIf, xAnd, xOr, xNot, xChain, xFn, xLc, xSortSet, zSeq, zRange, yB, yT, yAnd, yOr, yNot, asB_b, Rs.bind_ok, Rs.bind_err, of_some, of_none, truth_b, toRs_ret, toRs_err, toRs_nx, tg1, tgN, setAll, gTupD, gLstD, wipeE, padE_eq, xVar_0, xVar_s, set_0, set_s, get_0, get_s, List.map_cons, List.map_nil, List.cons_append, List.nil_append, List.length_cons, List.length_nil, List.replicate, Nat.reduceAdd, Nat.reduceSub, Nat.zero_add, Nat.reduceLeDiff, Nat.reduceLT, reduceIte, reduceCtorEq, if_true, if_false, ite_true, ite_false, Bool.false_eq_true, Bool.not_true, Bool.not_false, Option.map_some, ne_eq, not_true_eq_false, not_false_eq_true, decide_true, decide_false, decide_not, Bool.not_eq_true', Int.reduceEq, Int.reduceNe, Int.reduceLT, Int.reduceLE, Int.reduceAdd, Int.reduceSub, Int.reduceNeg, Bool.true_and, Bool.and_true, Bool.false_and, Bool.and_false, Bool.true_or, Bool.or_true, Bool.false_or, Bool.or_false, Int.cast_ofNat_Int, Int.natCast_zero, Int.natCast_one, sp, i0, xCut, pNone, pSome, c7, th, ne_T, e1]
end LY

set_option maxHeartbeats 4000000
namespace LY
open PySem PySem.Spec PyProof.Rows L2
/-! ### the law's look at a text -/
def eLi : Option (List Int) → PyData
  | some ns => .list (ns.map .int)
  | none => .none
theorem lnum' (zs : List (List Nat)) (h : ∀ z ∈ zs, (∀ c ∈ z, c < 128) ∧ z.length ≤ 5000) (hl : zs.length ≤ 20000) : s__law_numbers [eTs zs] = .ok (eLi (numsC zs)) := by
  rw [e_lnum zs h hl]
  cases numsC zs <;> rfl
theorem is_list (l : List PyData) : gIs (.list l) .none = some (.bool false) := rfl
theorem is_nn : gIs .none .none = some (.bool true) := rfl
abbrev ltB : Sf := (sSeq (sAsg (xStr1 gSplit (xVar 4) (xC (.str (Str.ofString " ")))) (tg1 5)) (sSeq (sAsg (xFn 1 s__law_numbers (xCons (xCall gLstD (xCons (xCut (xOp gIdx (xVar 5) (xC (.int 0))) pNone (pSome (xUn gNeg (xC (.int 1))))) xNil)) xNil)) (tg1 6)) (sSeq (sAsg (xFn 1 s__law_numbers (xCons (xCut (xVar 5) (pSome (xC (.int 1))) pNone) xNil)) (tg1 7)) (sSeq (sIf (yOr (yB (xOp gNe (xCut (xOp gIdx (xVar 5) (xC (.int 0))) (pSome (xUn gNeg (xC (.int 1)))) pNone) (xC (.str (Str.ofString ":"))))) (yOr (yB (xOp gIs (xVar 6) (xC .none))) (yB (xOp gIs (xVar 7) (xC .none))))) (sRet (xC .none)) sNil) (sApp 3 (xCall gTupD (xCons (xOp gIdx (xVar 6) (xC (.int 0))) (xCons (xCall gTuple (xCons (xVar 7) xNil)) xNil))))))))
theorem lt_row (r : List Nat) (h : asc r) (hl : r.length ≤ 3000) {t rows many : PyData} {l : List PyData} (hw : l.length < 50000) {s5 s6 s7 : Slot} :
    match rowP r with
      | some w => ∃ z5 z6 z7, ltB [.dat t, .dat rows, .dat many, .own l, .dat (eT r), s5, s6, s7] = .nx [.dat t, .dat rows, .dat many, .own (l ++ [eW w]), .dat (eT r), z5, z6, z7]
      | none => ltB [.dat t, .dat rows, .dat many, .own l, .dat (eT r), s5, s6, s7] = .ret .none := by
  obtain ⟨L1, L2, L3⟩ := spl_lens 32 r []
  have M := spl_mem 32 r []
  have sp : xStr1 gSplit (xVar 4) (xC (.str (Str.ofString " "))) [.dat t, .dat rows, .dat many, .own l, .dat (eT r), s5, s6, s7] = .ok (eTs (TL.spl [32] 0 [] r)) := by
    show Rs.of (gSplit (tx r) (.str (Str.ofString " "))) = _
    rw [sp_is, split_T r 32 (by decide) (by omega)]
    rfl
  unfold rowP
  generalize TL.spl [32] 0 [] r = W at L1 L2 L3 M sp ⊢
  cases W with
  | nil => exact absurd rfl L3
  | cons w0 wr =>
    have e0 : ([] : List Nat).length = 0 := rfl
    have okW : ∀ z ∈ w0 :: wr, (∀ c ∈ z, c < 128) ∧ z.length ≤ 5000 := fun z hz => ⟨fun c hc => (M z hz c hc).elim (fun q => nomatch q) (h c), by have := L1 z hz; omega⟩
    obtain ⟨k1, k2⟩ := okW w0 List.mem_cons_self
    have i0 := idxL_0 w0 wr
    have ng : gNeg (.int 1) = some (.int (-1)) := rfl
    have cl := cut_T w0 (some (-1)) none (by omega)
    have ci := cut_T w0 none (some (-1)) (by omega)
    have cw := cutL_1 w0 wr
    have l1 : gLstD [eT (cutD w0 none (some (-1)))] = some (eTs [cutD w0 none (some (-1))]) := rfl
    have n1 := lnum' [cutD w0 none (some (-1))] (fun z hz => by
      rw [List.mem_singleton.mp hz]
      exact ⟨fun c hc => k1 c (cut_sub _ _ _ c hc), by have := cut_len w0 none (some (-1)); omega⟩) (by simp)
    have n2 := lnum' wr (fun z hz => okW z (List.mem_cons_of_mem _ hz)) (by rw [List.length_cons] at L2; omega)
    have co := co_is
    have wl : l.length < 100000 := by omega
    have hN : numsC [cutD w0 none (some (-1))] = (numC (cutD w0 none (some (-1)))).map fun n => [n] := by
      rw [numsC, numsC]
      cases numC (cutD w0 none (some (-1))) <;> rfl
    rw [hN] at n1
    dsimp only
    by_cases e : cutD w0 (some (-1)) none = [58]
    · rw [if_pos e]
      have e1 : decide (cutD w0 (some (-1)) none ≠ [58]) = false := by simp [e]
      cases hn : numC (cutD w0 none (some (-1))) with
      | none =>
        rw [hn] at n1
        have n1' : s__law_numbers [eTs [cutD w0 none (some (-1))]] = .ok .none := n1
        rw [Option.bind_none]
        unfold ltB
        simp only [sNil, sSeq, sAsg, sRet, sIf, sExpr, sRaise, sOwn, sDic, sFor, xC, xOp, xUn, xNil, xCons, xCall, xIf, xAnd, xOr, xNot, xChain, xFn, xLc, xSortSet, zSeq, zRange, yB, yT, yAnd, yOr, yNot, asB_b, Rs.bind_ok, Rs.bind_err, of_some, of_none, truth_b, toRs_ret, toRs_err, toRs_nx, tg1, tgN, setAll, gTupD, wipeE, padE_eq, xVar_0, xVar_s, set_0, set_s, get_0, get_s, List.map_cons, List.map_nil, List.cons_append, List.nil_append, List.length_cons, List.length_nil, List.replicate, Nat.reduceAdd, Nat.reduceSub, Nat.zero_add, Nat.reduceLeDiff, Nat.reduceLT, reduceIte, reduceCtorEq, if_true, if_false, ite_true, ite_false, Bool.false_eq_true, Bool.not_true, Bool.not_false, Option.map_some, ne_eq, not_true_eq_false, not_false_eq_true, decide_true, decide_false, decide_not, Bool.not_eq_true', Int.reduceEq, Int.reduceNe, Int.reduceLT, Int.reduceLE, Int.reduceAdd, Int.reduceSub, Int.reduceNeg, Bool.true_and, Bool.and_true, Bool.false_and, Bool.and_false, Bool.true_or, Bool.or_true, Bool.false_or, Bool.or_false, Int.cast_ofNat_Int, Int.natCast_zero, Int.natCast_one, sp, i0, ng, xCut, pSome, pNone, ci, l1, n1', cw, n2, cl, co, ne_T, e1, is_nn]
      | some n =>
        rw [hn] at n1
        have n1' : s__law_numbers [eTs [cutD w0 none (some (-1))]] = .ok (.list [.int n]) := n1
        rw [Option.bind_some]
        cases hs : numsC wr with
        | none =>
          rw [hs] at n2
          have n2' : s__law_numbers [eTs wr] = .ok .none := n2
          rw [Option.map_none]
          unfold ltB
          simp only [sNil, sSeq, sAsg, sRet, sIf, sExpr, sRaise, sOwn, sDic, sFor, xC, xOp, xUn, xNil, xCons, xCall, xIf, xAnd, xOr, xNot, xChain, xFn, xLc, xSortSet, zSeq, zRange, yB, yT, yAnd, yOr, yNot, asB_b, Rs.bind_ok, Rs.bind_err, of_some, of_none, truth_b, toRs_ret, toRs_err, toRs_nx, tg1, tgN, setAll, gTupD, wipeE, padE_eq, xVar_0, xVar_s, set_0, set_s, get_0, get_s, List.map_cons, List.map_nil, List.cons_append, List.nil_append, List.length_cons, List.length_nil, List.replicate, Nat.reduceAdd, Nat.reduceSub, Nat.zero_add, Nat.reduceLeDiff, Nat.reduceLT, reduceIte, reduceCtorEq, if_true, if_false, ite_true, ite_false, Bool.false_eq_true, Bool.not_true, Bool.not_false, Option.map_some, ne_eq, not_true_eq_false, not_false_eq_true, decide_true, decide_false, decide_not, Bool.not_eq_true', Int.reduceEq, Int.reduceNe, Int.reduceLT, Int.reduceLE, Int.reduceAdd, Int.reduceSub, Int.reduceNeg, Bool.true_and, Bool.and_true, Bool.false_and, Bool.and_false, Bool.true_or, Bool.or_true, Bool.false_or, Bool.or_false, Int.cast_ofNat_Int, Int.natCast_zero, Int.natCast_one, sp, i0, ng, xCut, pSome, pNone, ci, l1, n1', cw, n2', cl, co, ne_T, e1, is_list, is_nn]
        | some xs =>
          rw [hs] at n2
          have n2' : s__law_numbers [eTs wr] = .ok (.list (xs.map .int)) := n2
          have tp := tup_I xs
          have tw : gTupD [.int n, eS xs] = some (eW (n, xs)) := rfl
          have ix : gIdx (.list [PyData.int n]) (.int 0) = some (.int n) := atI_nat' [PyData.int n] 0
          rw [Option.map_some]
          refine ⟨.dat (eTs (w0 :: wr)), .dat (.list [.int n]), .dat (.list (xs.map .int)), ?_⟩
          unfold ltB
          simp only [sNil, sSeq, sAsg, sRet, sIf, sExpr, sRaise, sOwn, sDic, sFor, xC, xOp, xUn, xNil, xCons, xCall, xIf, xAnd, xOr, xNot, xChain, xFn, xLc, xSortSet, zSeq, zRange, yB, yT, yAnd, yOr, yNot, asB_b, Rs.bind_ok, Rs.bind_err, of_some, of_none, truth_b, toRs_ret, toRs_err, toRs_nx, tg1, tgN, setAll, wipeE, padE_eq, xVar_0, xVar_s, set_0, set_s, get_0, get_s, List.map_cons, List.map_nil, List.cons_append, List.nil_append, List.length_cons, List.length_nil, List.replicate, Nat.reduceAdd, Nat.reduceSub, Nat.zero_add, Nat.reduceLeDiff, Nat.reduceLT, reduceIte, reduceCtorEq, if_true, if_false, ite_true, ite_false, Bool.false_eq_true, Bool.not_true, Bool.not_false, Option.map_some, ne_eq, not_true_eq_false, not_false_eq_true, decide_true, decide_false, decide_not, Bool.not_eq_true', Int.reduceEq, Int.reduceNe, Int.reduceLT, Int.reduceLE, Int.reduceAdd, Int.reduceSub, Int.reduceNeg, Bool.true_and, Bool.and_true, Bool.false_and, Bool.and_false, Bool.true_or, Bool.or_true, Bool.false_or, Bool.or_false, Int.cast_ofNat_Int, Int.natCast_zero, Int.natCast_one, sp, i0, ng, xCut, pSome, pNone, ci, l1, n1', cw, n2', cl, co, ne_T, e1, is_list, ix, tp, tw, sApp, wl]
    · rw [if_neg e]
      have e1 : decide (cutD w0 (some (-1)) none ≠ [58]) = true := by simp [e]
      unfold ltB
      simp only [sNil, sSeq, sAsg, sRet, sIf, sExpr, sRaise, sOwn, sDic, sFor, xC, xOp, xUn, xNil, xCons, xCall, xIf, xAnd, xOr, xNot, xChain, xFn, xLc, xSortSet, zSeq, zRange, yB, yT, yAnd, yOr, yNot, asB_b, Rs.bind_ok, Rs.bind_err, of_some, of_none, truth_b, toRs_ret, toRs_err, toRs_nx, tg1, tgN, setAll, gTupD, wipeE, padE_eq, xVar_0, xVar_s, set_0, set_s, get_0, get_s, List.map_cons, List.map_nil, List.cons_append, List.nil_append, List.length_cons, List.length_nil, List.replicate, Nat.reduceAdd, Nat.reduceSub, Nat.zero_add, Nat.reduceLeDiff, Nat.reduceLT, reduceIte, reduceCtorEq, if_true, if_false, ite_true, ite_false, Bool.false_eq_true, Bool.not_true, Bool.not_false, Option.map_some, ne_eq, not_true_eq_false, not_false_eq_true, decide_true, decide_false, decide_not, Bool.not_eq_true', Int.reduceEq, Int.reduceNe, Int.reduceLT, Int.reduceLE, Int.reduceAdd, Int.reduceSub, Int.reduceNeg, Bool.true_and, Bool.and_true, Bool.false_and, Bool.and_false, Bool.true_or, Bool.or_true, Bool.false_or, Bool.or_false, Int.cast_ofNat_Int, Int.natCast_zero, Int.natCast_one, sp, i0, ng, xCut, pSome, pNone, ci, l1, n1, cw, n2, cl, co, ne_T, e1]
theorem lt_rows {t rows many : PyData} : ∀ (rs : List (List Nat)) (l : List PyData) (s4 s5 s6 s7 : Slot), (∀ r ∈ rs, asc r ∧ r.length ≤ 3000) → l.length + rs.length ≤ 40000 →
    match rowsP rs with
      | some ws => ∃ z4 z5 z6 z7, forL (tg1 4) ltB (rs.map eT) [.dat t, .dat rows, .dat many, .own l, s4, s5, s6, s7] = .nx [.dat t, .dat rows, .dat many, .own (l ++ ws.map eW), z4, z5, z6, z7]
      | none => forL (tg1 4) ltB (rs.map eT) [.dat t, .dat rows, .dat many, .own l, s4, s5, s6, s7] = .ret .none
  | [], l, s4, s5, s6, s7, _, _ => ⟨s4, s5, s6, s7, by simp [forL]⟩
  | r :: rs, l, s4, s5, s6, s7, h, hl => by
    rw [List.length_cons] at hl
    obtain ⟨h1, h2⟩ := h r List.mem_cons_self
    have b := lt_row r h1 h2 (t := t) (rows := rows) (many := many) (l := l) (by omega) (s5 := s5) (s6 := s6) (s7 := s7)
    have g1 : tg1 4 (eT r) [.dat t, .dat rows, .dat many, .own l, s4, s5, s6, s7] = some [.dat t, .dat rows, .dat many, .own l, .dat (eT r), s5, s6, s7] := rfl
    rw [rowsP, List.map_cons, forL, g1]
    dsimp only
    cases hz : rowP r with
    | none =>
      rw [hz] at b
      rw [b]
      rfl
    | some w =>
      rw [hz] at b
      obtain ⟨z5, z6, z7, b⟩ := b
      rw [b, Option.bind_some]
      dsimp only
      have rest := lt_rows (t := t) (rows := rows) (many := many) rs (l ++ [eW w]) (.dat (eT r)) z5 z6 z7 (fun y hy => h y (List.mem_cons_of_mem _ hy)) (by rw [List.length_append]; show l.length + 1 + rs.length ≤ 40000; omega)
      cases hr : rowsP rs with
      | none => rw [hr] at rest; exact rest
      | some ws =>
        rw [hr] at rest
        obtain ⟨y4, y5, y6, y7, q⟩ := rest
        refine ⟨y4, y5, y6, y7, ?_⟩
        rw [q, List.append_assoc]
        rfl
def eTr : Option (Int × List Wn) → PyData
  | some r => eR r
  | none => .none
theorem e_ltried (U : List Nat) (h : asc U) (hl : U.length ≤ 1000) : s__law_tried [eT U] = .ok (eTr (triedN U)) := by
  obtain ⟨L1, L2, L3⟩ := spl_lens 10 U []
  have M := spl_mem 10 U []
  have e0 : ([] : List Nat).length = 0 := rfl
  have sp : xStr1 gSplit (xVar 0) (xC (.str (Str.ofString "\n"))) [.dat (eT U), .un, .un, .un, .un, .un, .un, .un] = .ok (eTs (TL.spl [10] 0 [] U)) := by
    show Rs.of (gSplit (tx U) (.str (Str.ofString "\n"))) = _
    rw [nl_is, split_T U 10 (by decide) (by omega)]
    rfl
  unfold triedN
  generalize TL.spl [10] 0 [] U = W at L1 L2 L3 M sp ⊢
  cases W with
  | nil => exact absurd rfl L3
  | cons r0 rs =>
    have okW : ∀ z ∈ r0 :: rs, asc z ∧ z.length ≤ 3000 := fun z hz => ⟨fun c hc => (M z hz c hc).elim (fun q => nomatch q) (h c), by have := L1 z hz; omega⟩
    obtain ⟨k1, k2⟩ := okW r0 List.mem_cons_self
    have i0 := idxL_0 r0 rs
    have c7 : gCut none (some 7) (eT r0) = some (eT (r0.take 7)) := by
      rw [cut_T r0 none (some 7) (by omega)]
      have := cut_to r0 7
      rw [show ((7 : Nat) : Int) = 7 from rfl] at this
      rw [this]
    have d7 : gCut (some 7) none (eT r0) = some (eT (r0.drop 7)) := by
      rw [cut_T r0 (some 7) none (by omega)]
      have := cut_from r0 7
      rw [show ((7 : Nat) : Int) = 7 from rfl] at this
      rw [this]
    have cw := cutL_1 r0 rs
    have th := th_is
    have sq : seqD (eTs rs) = some (rs.map eT) := rfl
    have l1 : gLstD [eT (r0.drop 7)] = some (eTs [r0.drop 7]) := rfl
    have n1 := lnum' [r0.drop 7] (fun z hz => by
      rw [List.mem_singleton.mp hz]
      exact ⟨fun c hc => k1 c (List.mem_of_mem_drop hc), by rw [List.length_drop]; omega⟩) (by simp)
    have hN : numsC [r0.drop 7] = (numC (r0.drop 7)).map fun n => [n] := by
      rw [numsC, numsC]
      cases numC (r0.drop 7) <;> rfl
    rw [hN] at n1
    have lrs : rs.length ≤ 1000 := by rw [List.length_cons] at L2; omega
    have ow : ∀ δ : En, sOwn 3 xNil δ = .nx (δ.set 3 (.own [])) := fun _ => rfl
    have fs : f__law_tried = (sSeq (sAsg (xStr1 gSplit (xVar 0) (xC (.str (Str.ofString "\n")))) (tg1 1)) (sSeq (sAsg (xFn 1 s__law_numbers (xCons (xCall gLstD (xCons (xCut (xOp gIdx (xVar 1) (xC (.int 0))) (pSome (xC (.int 7))) pNone) xNil)) xNil)) (tg1 2)) (sSeq (sIf (yOr (yB (xOp gNe (xCut (xOp gIdx (xVar 1) (xC (.int 0))) pNone (pSome (xC (.int 7)))) (xC (.str (Str.ofString "things "))))) (yB (xOp gIs (xVar 2) (xC .none)))) (sRet (xC .none)) sNil) (sSeq (sOwn 3 xNil) (sSeq (sFor (zSeq (xCut (xVar 1) (pSome (xC (.int 1))) pNone)) (tg1 4) ltB) (fun δ => (sRet (xCall gTupD (xCons (xOp gIdx (xVar 2) (xC (.int 0))) (xCons (xVar 3) xNil)))) (frz 3 δ))))))) := rfl
    unfold s__law_tried
    rw [fs]
    dsimp only
    by_cases e : r0.take 7 = THINGS
    · rw [if_pos e]
      have e1 : decide (r0.take 7 ≠ THINGS) = false := by simp [e]
      cases hn : numC (r0.drop 7) with
      | none =>
        rw [hn] at n1
        have n1' : s__law_numbers [eTs [r0.drop 7]] = .ok .none := n1
        rw [Option.bind_none]
        generalize ltB = B
        simp only [sNil, sSeq, sAsg, sRet, sIf, sExpr, sRaise, sDic, sFor, xC, xOp, xUn, xNil, xCons, xCall, xIf, xAnd, xOr, xNot, xChain, xFn, xLc, xSortSet, zSeq, zRange, yB, yT, yAnd, yOr, yNot, asB_b, Rs.bind_ok, Rs.bind_err, of_some, of_none, truth_b, toRs_ret, toRs_err, toRs_nx, tg1, tgN, setAll, gTupD, wipeE, padE_eq, xVar_0, xVar_s, set_0, set_s, get_0, get_s, List.map_cons, List.map_nil, List.cons_append, List.nil_append, List.length_cons, List.length_nil, List.replicate, Nat.reduceAdd, Nat.reduceSub, Nat.zero_add, Nat.reduceLeDiff, Nat.reduceLT, reduceIte, reduceCtorEq, if_true, if_false, ite_true, ite_false, Bool.false_eq_true, Bool.not_true, Bool.not_false, Option.map_some, ne_eq, not_true_eq_false, not_false_eq_true, decide_true, decide_false, decide_not, Bool.not_eq_true', Int.reduceEq, Int.reduceNe, Int.reduceLT, Int.reduceLE, Int.reduceAdd, Int.reduceSub, Int.reduceNeg, Bool.true_and, Bool.and_true, Bool.false_and, Bool.and_false, Bool.true_or, Bool.or_true, Bool.false_or, Bool.or_false, Int.cast_ofNat_Int, Int.natCast_zero, Int.natCast_one, sp, i0, xCut, pNone, pSome, d7, l1, n1', c7, th, ne_T, e1, is_nn]
        rfl
      | some m =>
        rw [hn] at n1
        have n1' : s__law_numbers [eTs [r0.drop 7]] = .ok (.list [.int m]) := n1
        have ix : gIdx (.list [PyData.int m]) (.int 0) = some (.int m) := atI_nat' [PyData.int m] 0
        rw [Option.bind_some]
        have lp := lt_rows (t := eT U) (rows := eTs (r0 :: rs)) (many := .list [.int m]) rs [] .un .un .un .un (fun r hr => okW r (List.mem_cons_of_mem _ hr)) (by simp; omega)
        cases hr : rowsP rs with
        | none =>
          rw [hr] at lp
          have lp' : forL (tg1 4) ltB (rs.map eT) [.dat (eT U), .dat (eTs (r0 :: rs)), .dat (.list [.int m]), .own [], .un, .un, .un, .un] = .ret .none := lp
          rw [Option.map_none]
          generalize ltB = B at lp' ⊢
          simp only [sNil, sSeq, sAsg, sRet, sIf, sExpr, sRaise, sDic, sFor, xC, xOp, xUn, xNil, xCons, xCall, xIf, xAnd, xOr, xNot, xChain, xFn, xLc, xSortSet, zSeq, zRange, yB, yT, yAnd, yOr, yNot, asB_b, Rs.bind_ok, Rs.bind_err, of_some, of_none, truth_b, toRs_ret, toRs_err, toRs_nx, tg1, tgN, setAll, gTupD, wipeE, padE_eq, xVar_0, xVar_s, set_0, set_s, get_0, get_s, List.map_cons, List.map_nil, List.cons_append, List.nil_append, List.length_cons, List.length_nil, List.replicate, Nat.reduceAdd, Nat.reduceSub, Nat.zero_add, Nat.reduceLeDiff, Nat.reduceLT, reduceIte, reduceCtorEq, if_true, if_false, ite_true, ite_false, Bool.false_eq_true, Bool.not_true, Bool.not_false, Option.map_some, ne_eq, not_true_eq_false, not_false_eq_true, decide_true, decide_false, decide_not, Bool.not_eq_true', Int.reduceEq, Int.reduceNe, Int.reduceLT, Int.reduceLE, Int.reduceAdd, Int.reduceSub, Int.reduceNeg, Bool.true_and, Bool.and_true, Bool.false_and, Bool.and_false, Bool.true_or, Bool.or_true, Bool.false_or, Bool.or_false, Int.cast_ofNat_Int, Int.natCast_zero, Int.natCast_one, sp, i0, xCut, pNone, pSome, d7, l1, n1', c7, th, ne_T, e1, is_list, ow, cw, sq, lp']
          rfl
        | some ws =>
          rw [hr] at lp
          obtain ⟨z4, z5, z6, z7, lp⟩ := lp
          rw [List.nil_append] at lp
          rw [Option.map_some]
          have tp : gTupD [.int m, .list (ws.map eW)] = some (eR (m, ws)) := rfl
          generalize ltB = B at lp ⊢
          simp only [sNil, sSeq, sAsg, sRet, sIf, sExpr, sRaise, sDic, sFor, xC, xOp, xUn, xNil, xCons, xCall, xIf, xAnd, xOr, xNot, xChain, xFn, xLc, xSortSet, zSeq, zRange, yB, yT, yAnd, yOr, yNot, asB_b, Rs.bind_ok, Rs.bind_err, of_some, of_none, truth_b, toRs_ret, toRs_err, toRs_nx, tg1, tgN, setAll, wipeE, padE_eq, xVar_0, xVar_s, set_0, set_s, get_0, get_s, List.map_cons, List.map_nil, List.cons_append, List.nil_append, List.length_cons, List.length_nil, List.replicate, Nat.reduceAdd, Nat.reduceSub, Nat.zero_add, Nat.reduceLeDiff, Nat.reduceLT, reduceIte, reduceCtorEq, if_true, if_false, ite_true, ite_false, Bool.false_eq_true, Bool.not_true, Bool.not_false, Option.map_some, ne_eq, not_true_eq_false, not_false_eq_true, decide_true, decide_false, decide_not, Bool.not_eq_true', Int.reduceEq, Int.reduceNe, Int.reduceLT, Int.reduceLE, Int.reduceAdd, Int.reduceSub, Int.reduceNeg, Bool.true_and, Bool.and_true, Bool.false_and, Bool.and_false, Bool.true_or, Bool.or_true, Bool.false_or, Bool.or_false, Int.cast_ofNat_Int, Int.natCast_zero, Int.natCast_one, sp, i0, xCut, pNone, pSome, d7, l1, n1', c7, th, ne_T, e1, is_list, ow, cw, sq, lp, ix, frz, tp]
          rfl
    · rw [if_neg e]
      have e1 : decide (r0.take 7 ≠ THINGS) = true := by simp [e]
      generalize ltB = B
      simp only [sNil, sSeq, sAsg, sRet, sIf, sExpr, sRaise, sOwn, sDic, sFor, xC, xOp, xUn, xNil, xCons, xCall, xIf, xAnd, xOr, xNot, xChain, xFn, xLc, xSortSet, zSeq, zRange, yB, yT, yAnd, yOr, yNot, asB_b, Rs.bind_ok, Rs.bind_err, of_some, of_none, truth_b, toRs_ret, toRs_err, toRs_nx, tg1, tgN, setAll, gTupD, wipeE, padE_eq, xVar_0, xVar_s, set_0, set_s, get_0, get_s, List.map_cons, List.map_nil, List.cons_append, List.nil_append, List.length_cons, List.length_nil, List.replicate, Nat.reduceAdd, Nat.reduceSub, Nat.zero_add, Nat.reduceLeDiff, Nat.reduceLT, reduceIte, reduceCtorEq, if_true, if_false, ite_true, ite_false, Bool.false_eq_true, Bool.not_true, Bool.not_false, Option.map_some, ne_eq, not_true_eq_false, not_false_eq_true, decide_true, decide_false, decide_not, Bool.not_eq_true', Int.reduceEq, Int.reduceNe, Int.reduceLT, Int.reduceLE, Int.reduceAdd, Int.reduceSub, Int.reduceNeg, Bool.true_and, Bool.and_true, Bool.false_and, Bool.and_false, Bool.true_or, Bool.or_true, Bool.false_or, Bool.or_false, Int.cast_ofNat_Int, Int.natCast_zero, Int.natCast_one, sp, i0, xCut, pNone, pSome, d7, l1, n1, c7, th, ne_T, e1]
      rfl
open Classical in
theorem e_are (m : Int) (ws : List Wn) (hl : ws.length ≤ 1300) (hs : ∀ w ∈ ws, w.2.length ≤ 4000) : s__law_are_rules [eR (m, ws)] = .ok (.bool (decide (lookP m ws))) := by
  have lk := e_look m ws hl hs
  have bl : below_BadRules "BadRules" = some true := rfl
  have ie : gIs (excD "BadRules") .none = some (.bool false) := rfl
  unfold s__law_are_rules f__law_are_rules
  by_cases g : lookP m ws
  · rw [if_pos g] at lk
    simp only [sNil, sSeq, sAsg, sRet, sIf, sExpr, sRaise, sOwn, sDic, sFor, xC, xOp, xUn, xNil, xCons, xCall, xIf, xAnd, xOr, xNot, xChain, xFn, xLc, xSortSet, zSeq, zRange, yB, yT, yAnd, yOr, yNot, asB_b, Rs.bind_ok, Rs.bind_err, of_some, of_none, truth_b, toRs_ret, toRs_err, toRs_nx, tg1, tgN, setAll, gTupD, gLstD, wipeE, padE_eq, xVar_0, xVar_s, set_0, set_s, get_0, get_s, List.map_cons, List.map_nil, List.cons_append, List.nil_append, List.length_cons, List.length_nil, List.replicate, Nat.reduceAdd, Nat.reduceSub, Nat.zero_add, Nat.reduceLeDiff, Nat.reduceLT, reduceIte, reduceCtorEq, if_true, if_false, ite_true, ite_false, Bool.false_eq_true, Bool.not_true, Bool.not_false, Option.map_some, ne_eq, not_true_eq_false, not_false_eq_true, decide_true, decide_false, decide_not, Bool.not_eq_true', Int.reduceEq, Int.reduceNe, Int.reduceLT, Int.reduceLE, Int.reduceAdd, Int.reduceSub, Int.reduceNeg, Bool.true_and, Bool.and_true, Bool.false_and, Bool.and_false, Bool.true_or, Bool.or_true, Bool.false_or, Bool.or_false, Int.cast_ofNat_Int, Int.natCast_zero, Int.natCast_one, sTry, lk, is_nn, g]
  · rw [if_neg g] at lk
    simp only [sNil, sSeq, sAsg, sRet, sIf, sExpr, sRaise, sOwn, sDic, sFor, xC, xOp, xUn, xNil, xCons, xCall, xIf, xAnd, xOr, xNot, xChain, xFn, xLc, xSortSet, zSeq, zRange, yB, yT, yAnd, yOr, yNot, asB_b, Rs.bind_ok, Rs.bind_err, of_some, of_none, truth_b, toRs_ret, toRs_err, toRs_nx, tg1, tgN, setAll, gTupD, gLstD, wipeE, padE_eq, xVar_0, xVar_s, set_0, set_s, get_0, get_s, List.map_cons, List.map_nil, List.cons_append, List.nil_append, List.length_cons, List.length_nil, List.replicate, Nat.reduceAdd, Nat.reduceSub, Nat.zero_add, Nat.reduceLeDiff, Nat.reduceLT, reduceIte, reduceCtorEq, if_true, if_false, ite_true, ite_false, Bool.false_eq_true, Bool.not_true, Bool.not_false, Option.map_some, ne_eq, not_true_eq_false, not_false_eq_true, decide_true, decide_false, decide_not, Bool.not_eq_true', Int.reduceEq, Int.reduceNe, Int.reduceLT, Int.reduceLE, Int.reduceAdd, Int.reduceSub, Int.reduceNeg, Bool.true_and, Bool.and_true, Bool.false_and, Bool.and_false, Bool.true_or, Bool.or_true, Bool.false_or, Bool.or_false, Int.cast_ofNat_Int, Int.natCast_zero, Int.natCast_one, sTry, lk, bl, ie, g]
/-! ### the text of rules -/
def rowT (w : Wn) : List Nat := TL.joinL [32] ((TL.numL w.1.toNat ++ [58]) :: w.2.map fun x => TL.numL x.toNat)
def textT (m : Int) (ws : List Wn) : List Nat := TL.joinL [10] ((THINGS ++ TL.numL m.toNat) :: ws.map rowT)
theorem join_pre : ∀ (l : List (List Nat)) (a : List Nat), TL.joinL [32] (a :: l) = a ++ TL.joinL [] (l.map fun x => 32 :: x)
  | [], a => by show a = a ++ []; rw [List.append_nil]
  | [b], a => rfl
  | b :: c :: l, a => by
    show a ++ ([32] ++ TL.joinL [32] (b :: c :: l)) = a ++ ((32 :: b) ++ ([] ++ TL.joinL [] ((c :: l).map fun x => 32 :: x)))
    rw [join_pre (c :: l) b, List.nil_append]
    simp [TL.joinL]
theorem joinL_len (S : List Nat) : ∀ l : List (List Nat), (TL.joinL S l).length ≤ (l.map List.length).sum + l.length * S.length
  | [] => Nat.zero_le _
  | [a] => by simp [TL.joinL]
  | a :: b :: l => by
    have ih := joinL_len S (b :: l)
    show (a ++ (S ++ TL.joinL S (b :: l))).length ≤ _
    rw [List.length_append, List.length_append, List.map_cons, List.sum_cons, List.length_cons (a := a), Nat.succ_mul]
    omega
theorem sum_le {α : Type} (f : α → Nat) (k : Nat) : ∀ l : List α, (∀ a ∈ l, f a ≤ k) → (l.map f).sum ≤ l.length * k
  | [], _ => Nat.zero_le _
  | a :: l, h => by
    have := sum_le f k l fun b hb => h b (List.mem_cons_of_mem _ hb)
    have := h a List.mem_cons_self
    rw [List.map_cons, List.sum_cons, List.length_cons, Nat.succ_mul]
    omega
theorem num1 {x : Int} (h : 0 ≤ x ∧ x < 10) : TL.numL x.toNat = [48 + x.toNat] := TL.numL_lt (by omega)
theorem gStr_I {x : Int} (h : 0 ≤ x ∧ x < 10) : gStr [.int x] = some (eT (TL.numL x.toNat)) := by
  have := str_num x.toNat (by omega)
  have e : ((x.toNat : Nat) : Int) = x := by omega
  rwa [e] at this
section
variable {m : Int} {ws : List (Int × List Int)}
theorem way_small (R : Rul m ws) (h9 : m ≤ 9) {w : Wn} (hw : w ∈ ws) : (0 ≤ w.1 ∧ w.1 < 10) ∧ (∀ x ∈ w.2, 0 ≤ x ∧ x < 10) ∧ w.2.length ≤ 10 := by
  obtain ⟨a, b, c, d⟩ := R.way w hw
  exact ⟨⟨a, by omega⟩, fun x hx => by have := (isSet_iff.mp c).2 x hx; omega, R.small w hw⟩
theorem rowT_len {w : Wn} (h : (0 ≤ w.1 ∧ w.1 < 10) ∧ (∀ x ∈ w.2, 0 ≤ x ∧ x < 10) ∧ w.2.length ≤ 10) : (rowT w).length ≤ 30 := by
  obtain ⟨h1, h2, h3⟩ := h
  unfold rowT
  refine Nat.le_trans (joinL_len _ _) ?_
  rw [List.map_cons, List.sum_cons, List.length_cons, List.length_map, List.length_append, num1 h1, List.map_map]
  have := sum_le (List.length ∘ fun x : Int => TL.numL x.toNat) 1 w.2 fun x hx => by
    show (TL.numL x.toNat).length ≤ 1
    rw [num1 (h2 x hx)]
    exact Nat.le_refl _
  have e1 : [48 + w.1.toNat].length = 1 := rfl
  have e2 : [58].length = 1 := rfl
  have e3 : [32].length = 1 := rfl
  simp only [List.length_singleton, List.length_cons, List.length_nil, Nat.mul_one, Nat.mul_zero, Nat.zero_add] at *
  omega
theorem textT_len (R : Rul m ws) (h9 : m ≤ 9) (wl : ws.length ≤ 21) : (textT m ws).length ≤ 900 := by
  unfold textT
  refine Nat.le_trans (joinL_len _ _) ?_
  rw [List.map_cons, List.sum_cons, List.length_cons, List.length_map, List.length_append, num1 ⟨R.m0.1, by omega⟩, List.map_map]
  have := sum_le (List.length ∘ rowT) 30 ws fun w hw => rowT_len (way_small R h9 hw)
  have e1 : [48 + m.toNat].length = 1 := rfl
  have e2 : THINGS.length = 7 := rfl
  have e3 : [10].length = 1 := rfl
  simp only [List.length_singleton, List.length_cons, List.length_nil, Nat.mul_one, Nat.mul_zero, Nat.zero_add] at *
  omega
theorem joinL_mem (S : List Nat) : ∀ (l : List (List Nat)) (c : Nat), c ∈ TL.joinL S l → c ∈ S ∨ ∃ p ∈ l, c ∈ p
  | [], _, h => nomatch h
  | [a], c, h => .inr ⟨a, List.mem_cons_self, h⟩
  | a :: b :: l, c, h => by
    have h : c ∈ a ++ (S ++ TL.joinL S (b :: l)) := h
    rcases List.mem_append.mp h with h | h
    · exact .inr ⟨a, List.mem_cons_self, h⟩
    · rcases List.mem_append.mp h with h | h
      · exact .inl h
      · rcases joinL_mem S (b :: l) c h with z | ⟨p, p1, p2⟩
        · exact .inl z
        · exact .inr ⟨p, List.mem_cons_of_mem _ p1, p2⟩
theorem num_asc (n : Nat) : ∀ c ∈ TL.numL n, 48 ≤ c ∧ c ≤ 57 := fun c hc => TL.numL_digits n c hc
theorem rowT_asc (w : Wn) : ∀ c ∈ rowT w, c = 32 ∨ c = 58 ∨ (48 ≤ c ∧ c ≤ 57) := fun c hc => by
  unfold rowT at hc
  rcases joinL_mem _ _ c hc with z | ⟨p, p1, p2⟩
  · exact .inl (List.mem_singleton.mp z)
  · rcases List.mem_cons.mp p1 with e | p1
    · rw [e] at p2
      rcases List.mem_append.mp p2 with q | q
      · exact .inr (.inr (num_asc _ c q))
      · exact .inr (.inl (List.mem_singleton.mp q))
    · obtain ⟨x, _, rfl⟩ := List.mem_map.mp p1
      exact .inr (.inr (num_asc _ c p2))
theorem head_asc (m : Int) : ∀ c ∈ THINGS ++ TL.numL m.toNat, c < 128 ∧ c ≠ 10 := fun c hc => by
  rcases List.mem_append.mp hc with q | q
  · have : ∀ c ∈ THINGS, c < 128 ∧ c ≠ 10 := by decide
    exact this c q
  · have := num_asc _ c q
    omega
theorem textT_asc : asc (textT m ws) := fun c hc => by
  unfold textT at hc
  rcases joinL_mem _ _ c hc with z | ⟨p, p1, p2⟩
  · rw [List.mem_singleton.mp z]; decide
  · rcases List.mem_cons.mp p1 with e | p1
    · rw [e] at p2
      exact (head_asc m c p2).1
    · obtain ⟨w, _, rfl⟩ := List.mem_map.mp p1
      rcases rowT_asc w c p2 with z | z | z <;> omega
theorem numC_num {x : Int} (h : 0 ≤ x ∧ x < 10) : numC (TL.numL x.toNat) = some x := by
  rw [num1 h]
  have k : digC (48 + x.toNat) = true := dig_iff.mpr ⟨by omega, by omega⟩
  have e : numC [48 + x.toNat] = some (((48 + x.toNat : Nat) : Int) - 48) := if_pos k
  rw [e]
  congr 1
  omega
theorem numsC_num : ∀ {xs : List Int}, (∀ x ∈ xs, 0 ≤ x ∧ x < 10) → numsC (xs.map fun x => TL.numL x.toNat) = some xs
  | [], _ => rfl
  | x :: xs, h => by
    rw [List.map_cons, numsC, numC_num (h x List.mem_cons_self), numsC_num fun y hy => h y (List.mem_cons_of_mem _ hy)]
    rfl
theorem rowP_back {w : Wn} (h1 : 0 ≤ w.1 ∧ w.1 < 10) (h2 : ∀ x ∈ w.2, 0 ≤ x ∧ x < 10) : rowP (rowT w) = some w := by
  unfold rowP rowT
  rw [TL.spl_join (by simp) fun p hp => by
    rcases List.mem_cons.mp hp with e | hp
    · rw [e]
      intro z
      rcases List.mem_append.mp z with q | q
      · have := num_asc _ _ q; omega
      · exact absurd (List.mem_singleton.mp q) (by decide)
    · obtain ⟨x, _, rfl⟩ := List.mem_map.mp hp
      intro q
      have := num_asc _ _ q
      omega]
  dsimp only
  obtain ⟨c1, c2⟩ := cut_end (TL.numL w.1.toNat) 58
  rw [c1, c2, if_pos rfl, numC_num h1, numsC_num h2]
  rfl
theorem rowsP_back : ∀ {ws : List Wn}, (∀ w ∈ ws, (0 ≤ w.1 ∧ w.1 < 10) ∧ ∀ x ∈ w.2, 0 ≤ x ∧ x < 10) → rowsP (ws.map rowT) = some ws
  | [], _ => rfl
  | w :: ws, h => by
    obtain ⟨a, b⟩ := h w List.mem_cons_self
    rw [List.map_cons, rowsP, rowP_back a b, rowsP_back fun v hv => h v (List.mem_cons_of_mem _ hv)]
    rfl
theorem tried_back (R : Rul m ws) (h9 : m ≤ 9) : triedN (textT m ws) = some (m, ws) := by
  unfold triedN textT
  rw [TL.spl_join (by simp) fun p hp => by
    rcases List.mem_cons.mp hp with e | hp
    · rw [e]
      exact fun z => (head_asc m 10 z).2 rfl
    · obtain ⟨w, _, rfl⟩ := List.mem_map.mp hp
      intro q
      rcases rowT_asc w 10 q with z | z | z <;> omega]
  dsimp only
  have t : (THINGS ++ TL.numL m.toNat).take 7 = THINGS := List.take_left' rfl
  have d : (THINGS ++ TL.numL m.toNat).drop 7 = TL.numL m.toNat := List.drop_left' rfl
  rw [t, d, if_pos rfl, numC_num ⟨R.m0.1, by omega⟩, rowsP_back fun w hw => ⟨(way_small R h9 hw).1, (way_small R h9 hw).2.1⟩]
  rfl
/-! ### written -/
abbrev wrB : Sf := (sApp 1 (xStr1 gJoin (xC (.str (Str.ofString " "))) (xOp gAdd (xCall gLstD (xCons (xOp gAdd (xCall gStr (xCons (xVar 2) xNil)) (xC (.str (Str.ofString ":")))) xNil)) (xLc (zSeq (xVar 3)) [4] (tg1 4) yTrue (xCall gStr (xCons (xVar 4) xNil))))))
theorem wr_body {w : Wn} (h : (0 ≤ w.1 ∧ w.1 < 10) ∧ (∀ x ∈ w.2, 0 ≤ x ∧ x < 10) ∧ w.2.length ≤ 10) {d : PyData} {l : List PyData} (hl : l.length < 50000) {s4 : Slot} :
    wrB [.dat d, .own l, .dat (.int w.1), .dat (eS w.2), s4] = .nx [.dat d, .own (l ++ [eT (rowT w)]), .dat (.int w.1), .dat (eS w.2), s4] := by
  obtain ⟨h1, h2, h3⟩ := h
  have gs := gStr_I h1
  have co := co_is
  have n1 := num1 h1
  have at1 := add_T (TL.numL w.1.toNat) [58] (by rw [n1]; simp [THINGS])
  have l1 : gLstD [eT (TL.numL w.1.toNat ++ [58])] = some (eTs [TL.numL w.1.toNat ++ [58]]) := rfl
  have c : compR (tg1 4) yTrue (xCall gStr (xCons (xVar 4) xNil)) [.dat d, .own l, .dat (.int w.1), .dat (eS w.2), .un] (w.2.map .int) = .ok (eTs (w.2.map fun x => TL.numL x.toNat)) := by
    have := compR_all PyData.int (g := tg1 4) (f := xCall gStr (xCons (xVar 4) xNil)) (δ := [.dat d, .own l, .dat (.int w.1), .dat (eS w.2), .un]) (fun x => eT (TL.numL x.toNat)) w.2 (by omega) fun x hx => ⟨_, rfl, by
      have := gStr_I (h2 x hx)
      simp only [sNil, sSeq, sAsg, sRet, sIf, sExpr, sRaise, sOwn, sDic, sFor, xC, xOp, xUn, xNil, xCons, xCall, xIf, xAnd, xOr, xNot, xChain, xFn, xLc, xSortSet, zSeq, zRange, yB, yT, yAnd, yOr, yNot, asB_b, Rs.bind_ok, Rs.bind_err, of_some, of_none, truth_b, toRs_ret, toRs_err, toRs_nx, tg1, tgN, setAll, gTupD, gLstD, wipeE, padE_eq, xVar_0, xVar_s, set_0, set_s, get_0, get_s, List.map_cons, List.map_nil, List.cons_append, List.nil_append, List.length_cons, List.length_nil, List.replicate, Nat.reduceAdd, Nat.reduceSub, Nat.zero_add, Nat.reduceLeDiff, Nat.reduceLT, reduceIte, reduceCtorEq, if_true, if_false, ite_true, ite_false, Bool.false_eq_true, Bool.not_true, Bool.not_false, Option.map_some, ne_eq, not_true_eq_false, not_false_eq_true, decide_true, decide_false, decide_not, Bool.not_eq_true', Int.reduceEq, Int.reduceNe, Int.reduceLT, Int.reduceLE, Int.reduceAdd, Int.reduceSub, Int.reduceNeg, Bool.true_and, Bool.and_true, Bool.false_and, Bool.and_false, Bool.true_or, Bool.or_true, Bool.false_or, Bool.or_false, Int.cast_ofNat_Int, Int.natCast_zero, Int.natCast_one, this]⟩
    rw [this]
    unfold eTs
    rw [List.map_map]
    rfl
  have ga : gAdd (eTs [TL.numL w.1.toNat ++ [58]]) (eTs (w.2.map fun x => TL.numL x.toNat)) = some (eTs ((TL.numL w.1.toNat ++ [58]) :: w.2.map fun x => TL.numL x.toNat)) := by
    unfold gAdd eTs
    dsimp only
    rw [if_pos (by rw [List.length_map, List.length_map, List.length_map]; show 1 + _ ≤ 100000; omega)]
    rfl
  have js : (((TL.numL w.1.toNat ++ [58]) :: w.2.map fun x => TL.numL x.toNat).map List.length).sum + ((TL.numL w.1.toNat ++ [58]) :: w.2.map fun x => TL.numL x.toNat).length * [32].length ≤ 100000 := by
    rw [List.map_cons, List.sum_cons, List.length_cons, List.length_map, List.length_append, n1, List.map_map]
    have := sum_le (List.length ∘ fun x : Int => TL.numL x.toNat) 1 w.2 fun x hx => by
      show (TL.numL x.toNat).length ≤ 1
      rw [num1 (h2 x hx)]
      exact Nat.le_refl _
    have e1 : [48 + w.1.toNat].length = 1 := rfl
    have e2 : [58].length = 1 := rfl
    have e3 : [32].length = 1 := rfl
    simp only [List.length_singleton, List.length_cons, List.length_nil, Nat.mul_one, Nat.mul_zero, Nat.zero_add] at *
    omega
  have jo := join_T [32] _ js
  have inner : (xOp gAdd (xCall gLstD (xCons (xOp gAdd (xCall gStr (xCons (xVar 2) xNil)) (xC (.str (Str.ofString ":")))) xNil)) (xLc (zSeq (xVar 3)) [4] (tg1 4) yTrue (xCall gStr (xCons (xVar 4) xNil)))) [.dat d, .own l, .dat (.int w.1), .dat (eS w.2), s4] = .ok (eTs ((TL.numL w.1.toNat ++ [58]) :: w.2.map fun x => TL.numL x.toNat)) := by
    generalize (xCall gStr (xCons (xVar 4) xNil)) = Y at c ⊢
    simp only [sNil, sSeq, sAsg, sRet, sIf, sExpr, sRaise, sOwn, sDic, sFor, xC, xOp, xUn, xNil, xCons, xCall, xIf, xAnd, xOr, xNot, xChain, xFn, xLc, xSortSet, zSeq, zRange, yB, yT, yAnd, yOr, yNot, asB_b, Rs.bind_ok, Rs.bind_err, of_some, of_none, truth_b, toRs_ret, toRs_err, toRs_nx, tg1, tgN, setAll, gTupD, wipeE, padE_eq, xVar_0, xVar_s, set_0, set_s, get_0, get_s, List.map_cons, List.map_nil, List.cons_append, List.nil_append, List.length_cons, List.length_nil, List.replicate, Nat.reduceAdd, Nat.reduceSub, Nat.zero_add, Nat.reduceLeDiff, Nat.reduceLT, reduceIte, reduceCtorEq, if_true, if_false, ite_true, ite_false, Bool.false_eq_true, Bool.not_true, Bool.not_false, Option.map_some, ne_eq, not_true_eq_false, not_false_eq_true, decide_true, decide_false, decide_not, Bool.not_eq_true', Int.reduceEq, Int.reduceNe, Int.reduceLT, Int.reduceLE, Int.reduceAdd, Int.reduceSub, Int.reduceNeg, Bool.true_and, Bool.and_true, Bool.false_and, Bool.and_false, Bool.true_or, Bool.or_true, Bool.false_or, Bool.or_false, Int.cast_ofNat_Int, Int.natCast_zero, Int.natCast_one, gs, co, at1, l1, seq_S, wipeE, c, ga]
  have je : xStr1 gJoin (xC (.str (Str.ofString " "))) (xOp gAdd (xCall gLstD (xCons (xOp gAdd (xCall gStr (xCons (xVar 2) xNil)) (xC (.str (Str.ofString ":")))) xNil)) (xLc (zSeq (xVar 3)) [4] (tg1 4) yTrue (xCall gStr (xCons (xVar 4) xNil)))) [.dat d, .own l, .dat (.int w.1), .dat (eS w.2), s4] = .ok (eT (rowT w)) := by
    have sps : Str.ofString " " = tx [32] := TL.ext_tl (by rw [TL.tl_ofString]; rfl)
    unfold xStr1
    show Rs.bind _ (fun d => Rs.of (gJoin (Str.ofString " ") d)) = _
    rw [inner, Rs.bind_ok, sps, jo]
    rfl
  have wl : l.length < 100000 := by omega
  unfold wrB
  generalize xStr1 gJoin (xC (.str (Str.ofString " "))) (xOp gAdd (xCall gLstD (xCons (xOp gAdd (xCall gStr (xCons (xVar 2) xNil)) (xC (.str (Str.ofString ":")))) xNil)) (xLc (zSeq (xVar 3)) [4] (tg1 4) yTrue (xCall gStr (xCons (xVar 4) xNil)))) = Z at je ⊢
  simp only [sNil, sSeq, sAsg, sRet, sIf, sExpr, sRaise, sOwn, sDic, sFor, xC, xOp, xUn, xNil, xCons, xCall, xIf, xAnd, xOr, xNot, xChain, xFn, xLc, xSortSet, zSeq, zRange, yB, yT, yAnd, yOr, yNot, asB_b, Rs.bind_ok, Rs.bind_err, of_some, of_none, truth_b, toRs_ret, toRs_err, toRs_nx, tg1, tgN, setAll, gTupD, gLstD, wipeE, padE_eq, xVar_0, xVar_s, set_0, set_s, get_0, get_s, List.map_cons, List.map_nil, List.cons_append, List.nil_append, List.length_cons, List.length_nil, List.replicate, Nat.reduceAdd, Nat.reduceSub, Nat.zero_add, Nat.reduceLeDiff, Nat.reduceLT, reduceIte, reduceCtorEq, if_true, if_false, ite_true, ite_false, Bool.false_eq_true, Bool.not_true, Bool.not_false, Option.map_some, ne_eq, not_true_eq_false, not_false_eq_true, decide_true, decide_false, decide_not, Bool.not_eq_true', Int.reduceEq, Int.reduceNe, Int.reduceLT, Int.reduceLE, Int.reduceAdd, Int.reduceSub, Int.reduceNeg, Bool.true_and, Bool.and_true, Bool.false_and, Bool.and_false, Bool.true_or, Bool.or_true, Bool.false_or, Bool.or_false, Int.cast_ofNat_Int, Int.natCast_zero, Int.natCast_one, sApp, je, wl]
/-- rows put together: the loop of both -/
theorem tx_for (R : Rul m ws) (h9 : m ≤ 9) (b : Sf) (hb : ∀ (w : Wn) (l : List PyData) (s4 : Slot), ((0 ≤ w.1 ∧ w.1 < 10) ∧ (∀ x ∈ w.2, 0 ≤ x ∧ x < 10) ∧ w.2.length ≤ 10) → l.length < 50000 → b [.dat (eR (m, ws)), .own l, .dat (.int w.1), .dat (eS w.2), s4] = .nx [.dat (eR (m, ws)), .own (l ++ [eT (rowT w)]), .dat (.int w.1), .dat (eS w.2), s4]) :
    ∀ (vs : List Wn) (l : List PyData) (s2 s3 s4 : Slot), (∀ w ∈ vs, w ∈ ws) → l.length + vs.length ≤ 40000 → ∃ z2 z3, forL (tgN [2, 3]) b (vs.map eW) [.dat (eR (m, ws)), .own l, s2, s3, s4] = .nx [.dat (eR (m, ws)), .own (l ++ vs.map fun w => eT (rowT w)), z2, z3, s4]
  | [], l, s2, s3, s4, _, _ => ⟨s2, s3, by simp [forL]⟩
  | w :: vs, l, s2, s3, s4, hv, hl => by
    rw [List.length_cons] at hl
    have g1 : tgN [2, 3] (eW w) [.dat (eR (m, ws)), .own l, s2, s3, s4] = some [.dat (eR (m, ws)), .own l, .dat (.int w.1), .dat (eS w.2), s4] := rfl
    obtain ⟨z2, z3, q⟩ := tx_for R h9 b hb vs (l ++ [eT (rowT w)]) (.dat (.int w.1)) (.dat (eS w.2)) s4 (fun v h => hv v (List.mem_cons_of_mem _ h)) (by rw [List.length_append]; show l.length + 1 + vs.length ≤ 40000; omega)
    refine ⟨z2, z3, ?_⟩
    rw [List.map_cons, forL, g1]
    dsimp only
    rw [hb w l s4 (way_small R h9 (hv w List.mem_cons_self)) (by omega)]
    dsimp only
    rw [q, List.append_assoc]
    rfl
theorem nls_is : Str.ofString "\n" = tx [10] := TL.ext_tl (by rw [TL.tl_ofString]; rfl)
theorem fin_join (R : Rul m ws) (h9 : m ≤ 9) (wl : ws.length ≤ 21) {i : Nat} {δ : En} (h : xVar i δ = .ok (.list (eT (THINGS ++ TL.numL m.toNat) :: ws.map fun w => eT (rowT w)))) : xStr1 gJoin (xC (.str (Str.ofString "\n"))) (xVar i) δ = .ok (eT (textT m ws)) := by
  have js : (((THINGS ++ TL.numL m.toNat) :: ws.map rowT).map List.length).sum + ((THINGS ++ TL.numL m.toNat) :: ws.map rowT).length * [10].length ≤ 100000 := by
    rw [List.map_cons, List.sum_cons, List.length_cons, List.length_map, List.length_append, num1 ⟨R.m0.1, by omega⟩, List.map_map]
    have := sum_le (List.length ∘ rowT) 30 ws fun w hw => rowT_len (way_small R h9 hw)
    have e1 : [48 + m.toNat].length = 1 := rfl
    have e2 : THINGS.length = 7 := rfl
    have e3 : [10].length = 1 := rfl
    simp only [List.length_singleton, List.length_cons, List.length_nil, Nat.mul_one, Nat.mul_zero, Nat.zero_add] at *
    omega
  have jo := join_T [10] _ js
  have e : (PyData.list (eT (THINGS ++ TL.numL m.toNat) :: ws.map fun w => eT (rowT w))) = eTs ((THINGS ++ TL.numL m.toNat) :: ws.map rowT) := by
    unfold eTs
    rw [List.map_cons, List.map_map]
    rfl
  unfold xStr1
  show Rs.bind (xVar i δ) (fun d => Rs.of (gJoin (Str.ofString "\n") d)) = _
  rw [h, Rs.bind_ok, nls_is, e, jo]
  rfl
theorem e_written (R : Rul m ws) (h9 : m ≤ 9) (wl : ws.length ≤ 21) : s_written [eR (m, ws)] = .ok (eT (textT m ws)) := by
  have gs := gStr_I (x := m) ⟨R.m0.1, by omega⟩
  have n1 := num1 (x := m) ⟨R.m0.1, by omega⟩
  have th := th_is
  have at1 := add_T THINGS (TL.numL m.toNat) (by rw [n1]; simp [THINGS])
  have i0 : gIdx (eR (m, ws)) (.int 0) = some (.int m) := idx_t0 _ _
  have i1 : gIdx (eR (m, ws)) (.int 1) = some (eWs ws) := idx_t1 _ _ _
  obtain ⟨z2, z3, lp⟩ := tx_for R h9 wrB (fun w l s4 h hl => wr_body h hl) ws [eT (THINGS ++ TL.numL m.toNat)] .un .un .un (fun _ h => h) (by simp; omega)
  have fj := fin_join R h9 wl (i := 1) (δ := [.dat (eR (m, ws)), .dat (.list (eT (THINGS ++ TL.numL m.toNat) :: ws.map fun w => eT (rowT w))), z2, z3, .un]) rfl
  have lp' : forL (tgN [2, 3]) wrB (ws.map eW) [.dat (eR (m, ws)), .own [eT (THINGS ++ TL.numL m.toNat)], .un, .un, .un] = .nx [.dat (eR (m, ws)), .own (eT (THINGS ++ TL.numL m.toNat) :: ws.map fun w => eT (rowT w)), z2, z3, .un] := lp
  have fs : f_written = (sSeq (sExpr (xFn 1 s_look_rules (xCons (xVar 0) xNil))) (sSeq (sOwn 1 (xCons (xOp gAdd (xC (.str (Str.ofString "things "))) (xCall gStr (xCons (xOp gIdx (xVar 0) (xC (.int 0))) xNil))) xNil)) (sSeq (sFor (zSeq (xOp gIdx (xVar 0) (xC (.int 1)))) (tgN [2, 3]) wrB) (fun δ => (sRet (xStr1 gJoin (xC (.str (Str.ofString "\n"))) (xVar 1))) (frz 1 δ))))) := rfl
  unfold s_written
  rw [fs]
  generalize wrB = B at lp' ⊢
  generalize xStr1 gJoin (xC (.str (Str.ofString "\n"))) (xVar 1) = Z at fj ⊢
  simp only [sNil, sSeq, sAsg, sRet, sIf, sExpr, sRaise, sOwn, sDic, sFor, xC, xOp, xUn, xNil, xCons, xCall, xIf, xAnd, xOr, xNot, xChain, xFn, xLc, xSortSet, zSeq, zRange, yB, yT, yAnd, yOr, yNot, asB_b, Rs.bind_ok, Rs.bind_err, of_some, of_none, truth_b, toRs_ret, toRs_err, toRs_nx, tg1, tgN, setAll, gTupD, gLstD, wipeE, padE_eq, xVar_0, xVar_s, set_0, set_s, get_0, get_s, List.map_cons, List.map_nil, List.cons_append, List.nil_append, List.length_cons, List.length_nil, List.replicate, Nat.reduceAdd, Nat.reduceSub, Nat.zero_add, Nat.reduceLeDiff, Nat.reduceLT, reduceIte, reduceCtorEq, if_true, if_false, ite_true, ite_false, Bool.false_eq_true, Bool.not_true, Bool.not_false, Option.map_some, ne_eq, not_true_eq_false, not_false_eq_true, decide_true, decide_false, decide_not, Bool.not_eq_true', Int.reduceEq, Int.reduceNe, Int.reduceLT, Int.reduceLE, Int.reduceAdd, Int.reduceSub, Int.reduceNeg, Bool.true_and, Bool.and_true, Bool.false_and, Bool.and_false, Bool.true_or, Bool.or_true, Bool.false_or, Bool.or_false, Int.cast_ofNat_Int, Int.natCast_zero, Int.natCast_one, R.look, th, i0, gs, at1, i1, seq_Ws, lp', frz, fj]
theorem x_written {d : PyData} {c : String} (h : s_look_rules [d] = .err c) : s_written [d] = .err c := by
  have fs : f_written = (sSeq (sExpr (xFn 1 s_look_rules (xCons (xVar 0) xNil))) (sSeq (sOwn 1 (xCons (xOp gAdd (xC (.str (Str.ofString "things "))) (xCall gStr (xCons (xOp gIdx (xVar 0) (xC (.int 0))) xNil))) xNil)) (sSeq (sFor (zSeq (xOp gIdx (xVar 0) (xC (.int 1)))) (tgN [2, 3]) wrB) (fun δ => (sRet (xStr1 gJoin (xC (.str (Str.ofString "\n"))) (xVar 1))) (frz 1 δ))))) := rfl
  unfold s_written
  rw [fs]
  generalize wrB = B
  simp only [sNil, sSeq, sAsg, sRet, sIf, sExpr, sRaise, sOwn, sDic, sFor, xC, xOp, xUn, xNil, xCons, xCall, xIf, xAnd, xOr, xNot, xChain, xFn, xLc, xSortSet, zSeq, zRange, yB, yT, yAnd, yOr, yNot, asB_b, Rs.bind_ok, Rs.bind_err, of_some, of_none, truth_b, toRs_ret, toRs_err, toRs_nx, tg1, tgN, setAll, gTupD, gLstD, wipeE, padE_eq, xVar_0, xVar_s, set_0, set_s, get_0, get_s, List.map_cons, List.map_nil, List.cons_append, List.nil_append, List.length_cons, List.length_nil, List.replicate, Nat.reduceAdd, Nat.reduceSub, Nat.zero_add, Nat.reduceLeDiff, Nat.reduceLT, reduceIte, reduceCtorEq, if_true, if_false, ite_true, ite_false, Bool.false_eq_true, Bool.not_true, Bool.not_false, Option.map_some, ne_eq, not_true_eq_false, not_false_eq_true, decide_true, decide_false, decide_not, Bool.not_eq_true', Int.reduceEq, Int.reduceNe, Int.reduceLT, Int.reduceLE, Int.reduceAdd, Int.reduceSub, Int.reduceNeg, Bool.true_and, Bool.and_true, Bool.false_and, Bool.and_false, Bool.true_or, Bool.or_true, Bool.false_or, Bool.or_false, Int.cast_ofNat_Int, Int.natCast_zero, Int.natCast_one, h]
/-! ### the law's own text -/
abbrev ltxB : Sf := (sApp 1 (xOp gAdd (xOp gAdd (xCall gStr (xCons (xVar 2) xNil)) (xC (.str (Str.ofString ":")))) (xStr1 gJoin (xC (.str (Str.ofString ""))) (xLc (zSeq (xVar 3)) [4] (tg1 4) yTrue (xOp gAdd (xC (.str (Str.ofString " "))) (xCall gStr (xCons (xVar 4) xNil)))))))
theorem ltx_body {w : Wn} (h : (0 ≤ w.1 ∧ w.1 < 10) ∧ (∀ x ∈ w.2, 0 ≤ x ∧ x < 10) ∧ w.2.length ≤ 10) {d : PyData} {l : List PyData} (hl : l.length < 50000) {s4 : Slot} :
    ltxB [.dat d, .own l, .dat (.int w.1), .dat (eS w.2), s4] = .nx [.dat d, .own (l ++ [eT (rowT w)]), .dat (.int w.1), .dat (eS w.2), s4] := by
  obtain ⟨h1, h2, h3⟩ := h
  have gs := gStr_I h1
  have co := co_is
  have n1 := num1 h1
  have at1 := add_T (TL.numL w.1.toNat) [58] (by rw [n1]; simp [THINGS])
  have c : compR (tg1 4) yTrue (xOp gAdd (xC (.str (Str.ofString " "))) (xCall gStr (xCons (xVar 4) xNil))) [.dat d, .own l, .dat (.int w.1), .dat (eS w.2), .un] (w.2.map .int) = .ok (eTs ((w.2.map fun x => TL.numL x.toNat).map fun x => 32 :: x)) := by
    have := compR_all PyData.int (g := tg1 4) (f := xOp gAdd (xC (.str (Str.ofString " "))) (xCall gStr (xCons (xVar 4) xNil))) (δ := [.dat d, .own l, .dat (.int w.1), .dat (eS w.2), .un]) (fun x => eT (32 :: TL.numL x.toNat)) w.2 (by omega) fun x hx => ⟨_, rfl, by
      have g := gStr_I (h2 x hx)
      have s := sp_is
      have a := add_T [32] (TL.numL x.toNat) (by rw [num1 (h2 x hx)]; simp)
      have a' : gAdd (eT [32]) (eT (TL.numL x.toNat)) = some (eT (32 :: TL.numL x.toNat)) := a
      simp only [sNil, sSeq, sAsg, sRet, sIf, sExpr, sRaise, sOwn, sDic, sFor, xC, xOp, xUn, xNil, xCons, xCall, xIf, xAnd, xOr, xNot, xChain, xFn, xLc, xSortSet, zSeq, zRange, yB, yT, yAnd, yOr, yNot, asB_b, Rs.bind_ok, Rs.bind_err, of_some, of_none, truth_b, toRs_ret, toRs_err, toRs_nx, tg1, tgN, setAll, gTupD, gLstD, wipeE, padE_eq, xVar_0, xVar_s, set_0, set_s, get_0, get_s, List.map_cons, List.map_nil, List.cons_append, List.nil_append, List.length_cons, List.length_nil, List.replicate, Nat.reduceAdd, Nat.reduceSub, Nat.zero_add, Nat.reduceLeDiff, Nat.reduceLT, reduceIte, reduceCtorEq, if_true, if_false, ite_true, ite_false, Bool.false_eq_true, Bool.not_true, Bool.not_false, Option.map_some, ne_eq, not_true_eq_false, not_false_eq_true, decide_true, decide_false, decide_not, Bool.not_eq_true', Int.reduceEq, Int.reduceNe, Int.reduceLT, Int.reduceLE, Int.reduceAdd, Int.reduceSub, Int.reduceNeg, Bool.true_and, Bool.and_true, Bool.false_and, Bool.and_false, Bool.true_or, Bool.or_true, Bool.false_or, Bool.or_false, Int.cast_ofNat_Int, Int.natCast_zero, Int.natCast_one, g, s, a']⟩
    rw [this]
    unfold eTs
    rw [List.map_map, List.map_map]
    rfl
  have js : (((w.2.map fun x => TL.numL x.toNat).map fun x => 32 :: x).map List.length).sum + ((w.2.map fun x => TL.numL x.toNat).map fun x => 32 :: x).length * ([] : List Nat).length ≤ 100000 := by
    rw [List.map_map, List.map_map, List.length_map, List.length_map]
    have := sum_le ((List.length ∘ fun x => 32 :: x) ∘ fun x : Int => TL.numL x.toNat) 2 w.2 fun x hx => by
      show (32 :: TL.numL x.toNat).length ≤ 2
      rw [num1 (h2 x hx)]
      exact Nat.le_refl _
    have e3 : ([] : List Nat).length = 0 := rfl
    simp only [List.length_singleton, List.length_cons, List.length_nil, Nat.mul_one, Nat.mul_zero, Nat.zero_add] at *
    omega
  have jo := join_T [] _ js
  have jl := joinL_len [] ((w.2.map fun x => TL.numL x.toNat).map fun x => 32 :: x)
  have inner : (xLc (zSeq (xVar 3)) [4] (tg1 4) yTrue (xOp gAdd (xC (.str (Str.ofString " "))) (xCall gStr (xCons (xVar 4) xNil)))) [.dat d, .own l, .dat (.int w.1), .dat (eS w.2), s4] = .ok (eTs ((w.2.map fun x => TL.numL x.toNat).map fun x => 32 :: x)) := by
    generalize (xOp gAdd (xC (.str (Str.ofString " "))) (xCall gStr (xCons (xVar 4) xNil))) = Y at c ⊢
    simp only [sNil, sSeq, sAsg, sRet, sIf, sExpr, sRaise, sOwn, sDic, sFor, xC, xOp, xUn, xNil, xCons, xCall, xIf, xAnd, xOr, xNot, xChain, xFn, xLc, xSortSet, zSeq, zRange, yB, yT, yAnd, yOr, yNot, asB_b, Rs.bind_ok, Rs.bind_err, of_some, of_none, truth_b, toRs_ret, toRs_err, toRs_nx, tg1, tgN, setAll, gTupD, gLstD, wipeE, padE_eq, xVar_0, xVar_s, set_0, set_s, get_0, get_s, List.map_cons, List.map_nil, List.cons_append, List.nil_append, List.length_cons, List.length_nil, List.replicate, Nat.reduceAdd, Nat.reduceSub, Nat.zero_add, Nat.reduceLeDiff, Nat.reduceLT, reduceIte, reduceCtorEq, if_true, if_false, ite_true, ite_false, Bool.false_eq_true, Bool.not_true, Bool.not_false, Option.map_some, ne_eq, not_true_eq_false, not_false_eq_true, decide_true, decide_false, decide_not, Bool.not_eq_true', Int.reduceEq, Int.reduceNe, Int.reduceLT, Int.reduceLE, Int.reduceAdd, Int.reduceSub, Int.reduceNeg, Bool.true_and, Bool.and_true, Bool.false_and, Bool.and_false, Bool.true_or, Bool.or_true, Bool.false_or, Bool.or_false, Int.cast_ofNat_Int, Int.natCast_zero, Int.natCast_one, seq_S, wipeE, c]
  have je : xStr1 gJoin (xC (.str (Str.ofString ""))) (xLc (zSeq (xVar 3)) [4] (tg1 4) yTrue (xOp gAdd (xC (.str (Str.ofString " "))) (xCall gStr (xCons (xVar 4) xNil)))) [.dat d, .own l, .dat (.int w.1), .dat (eS w.2), s4] = .ok (eT (TL.joinL [] ((w.2.map fun x => TL.numL x.toNat).map fun x => 32 :: x))) := by
    have sps : Str.ofString "" = tx [] := TL.ext_tl (by rw [TL.tl_ofString]; rfl)
    unfold xStr1
    show Rs.bind _ (fun d => Rs.of (gJoin (Str.ofString "") d)) = _
    rw [inner, Rs.bind_ok, sps, jo]
    rfl
  have at2 := add_T (TL.numL w.1.toNat ++ [58]) (TL.joinL [] ((w.2.map fun x => TL.numL x.toNat).map fun x => 32 :: x)) (by
    rw [List.length_append, n1]
    have jl' : (TL.joinL [] ((w.2.map fun x => TL.numL x.toNat).map fun x => 32 :: x)).length ≤ 100 := by
      refine Nat.le_trans jl ?_
      rw [List.map_map, List.map_map, List.length_map, List.length_map]
      have := sum_le ((List.length ∘ fun x => 32 :: x) ∘ fun x : Int => TL.numL x.toNat) 2 w.2 fun x hx => by
        show (32 :: TL.numL x.toNat).length ≤ 2
        rw [num1 (h2 x hx)]
        exact Nat.le_refl _
      simp only [List.length_nil, Nat.mul_zero]
      omega
    clear jo jl js
    simp only [List.length_singleton, List.length_cons, List.length_nil, Nat.zero_add]
    omega)
  rw [← join_pre] at at2
  have wl : l.length < 100000 := by omega
  unfold rowT ltxB
  generalize xStr1 gJoin (xC (.str (Str.ofString ""))) (xLc (zSeq (xVar 3)) [4] (tg1 4) yTrue (xOp gAdd (xC (.str (Str.ofString " "))) (xCall gStr (xCons (xVar 4) xNil)))) = Z at je ⊢
  simp only [sNil, sSeq, sAsg, sRet, sIf, sExpr, sRaise, sOwn, sDic, sFor, xC, xOp, xUn, xNil, xCons, xCall, xIf, xAnd, xOr, xNot, xChain, xFn, xLc, xSortSet, zSeq, zRange, yB, yT, yAnd, yOr, yNot, asB_b, Rs.bind_ok, Rs.bind_err, of_some, of_none, truth_b, toRs_ret, toRs_err, toRs_nx, tg1, tgN, setAll, gTupD, gLstD, wipeE, padE_eq, xVar_0, xVar_s, set_0, set_s, get_0, get_s, List.map_cons, List.map_nil, List.cons_append, List.nil_append, List.length_cons, List.length_nil, List.replicate, Nat.reduceAdd, Nat.reduceSub, Nat.zero_add, Nat.reduceLeDiff, Nat.reduceLT, reduceIte, reduceCtorEq, if_true, if_false, ite_true, ite_false, Bool.false_eq_true, Bool.not_true, Bool.not_false, Option.map_some, ne_eq, not_true_eq_false, not_false_eq_true, decide_true, decide_false, decide_not, Bool.not_eq_true', Int.reduceEq, Int.reduceNe, Int.reduceLT, Int.reduceLE, Int.reduceAdd, Int.reduceSub, Int.reduceNeg, Bool.true_and, Bool.and_true, Bool.false_and, Bool.and_false, Bool.true_or, Bool.or_true, Bool.false_or, Bool.or_false, Int.cast_ofNat_Int, Int.natCast_zero, Int.natCast_one, sApp, gs, co, at1, je, at2, wl]
theorem e_ltext (R : Rul m ws) (h9 : m ≤ 9) (wl : ws.length ≤ 21) : s__law_text [eR (m, ws)] = .ok (eT (textT m ws)) := by
  have gs := gStr_I (x := m) ⟨R.m0.1, by omega⟩
  have n1 := num1 (x := m) ⟨R.m0.1, by omega⟩
  have th := th_is
  have at1 := add_T THINGS (TL.numL m.toNat) (by rw [n1]; simp [THINGS])
  have i0 : gIdx (eR (m, ws)) (.int 0) = some (.int m) := idx_t0 _ _
  have i1 : gIdx (eR (m, ws)) (.int 1) = some (eWs ws) := idx_t1 _ _ _
  obtain ⟨z2, z3, lp⟩ := tx_for R h9 ltxB (fun w l s4 h hl => ltx_body h hl) ws [eT (THINGS ++ TL.numL m.toNat)] .un .un .un (fun _ h => h) (by simp; omega)
  have fj := fin_join R h9 wl (i := 1) (δ := [.dat (eR (m, ws)), .dat (.list (eT (THINGS ++ TL.numL m.toNat) :: ws.map fun w => eT (rowT w))), z2, z3, .un]) rfl
  have lp' : forL (tgN [2, 3]) ltxB (ws.map eW) [.dat (eR (m, ws)), .own [eT (THINGS ++ TL.numL m.toNat)], .un, .un, .un] = .nx [.dat (eR (m, ws)), .own (eT (THINGS ++ TL.numL m.toNat) :: ws.map fun w => eT (rowT w)), z2, z3, .un] := lp
  have fs : f__law_text = (sSeq (sOwn 1 (xCons (xOp gAdd (xC (.str (Str.ofString "things "))) (xCall gStr (xCons (xOp gIdx (xVar 0) (xC (.int 0))) xNil))) xNil)) (sSeq (sFor (zSeq (xOp gIdx (xVar 0) (xC (.int 1)))) (tgN [2, 3]) ltxB) (fun δ => (sRet (xStr1 gJoin (xC (.str (Str.ofString "\n"))) (xVar 1))) (frz 1 δ)))) := rfl
  unfold s__law_text
  rw [fs]
  generalize ltxB = B at lp' ⊢
  generalize xStr1 gJoin (xC (.str (Str.ofString "\n"))) (xVar 1) = Z at fj ⊢
  simp only [sNil, sSeq, sAsg, sRet, sIf, sExpr, sRaise, sOwn, sDic, sFor, xC, xOp, xUn, xNil, xCons, xCall, xIf, xAnd, xOr, xNot, xChain, xFn, xLc, xSortSet, zSeq, zRange, yB, yT, yAnd, yOr, yNot, asB_b, Rs.bind_ok, Rs.bind_err, of_some, of_none, truth_b, toRs_ret, toRs_err, toRs_nx, tg1, tgN, setAll, gTupD, gLstD, wipeE, padE_eq, xVar_0, xVar_s, set_0, set_s, get_0, get_s, List.map_cons, List.map_nil, List.cons_append, List.nil_append, List.length_cons, List.length_nil, List.replicate, Nat.reduceAdd, Nat.reduceSub, Nat.zero_add, Nat.reduceLeDiff, Nat.reduceLT, reduceIte, reduceCtorEq, if_true, if_false, ite_true, ite_false, Bool.false_eq_true, Bool.not_true, Bool.not_false, Option.map_some, ne_eq, not_true_eq_false, not_false_eq_true, decide_true, decide_false, decide_not, Bool.not_eq_true', Int.reduceEq, Int.reduceNe, Int.reduceLT, Int.reduceLE, Int.reduceAdd, Int.reduceSub, Int.reduceNeg, Bool.true_and, Bool.and_true, Bool.false_and, Bool.and_false, Bool.true_or, Bool.or_true, Bool.false_or, Bool.or_false, Int.cast_ofNat_Int, Int.natCast_zero, Int.natCast_one, th, i0, gs, at1, i1, seq_Ws, lp', frz, fj]
end
end LY

set_option maxHeartbeats 4000000
namespace LY
open PySem PySem.Spec PyProof.Rows L2
theorem ref_text : s__law_refusal [excD "BadText"] = .ok (.str (Str.ofString "text")) := by kernel_rfl
theorem ref_rules : s__law_refusal [excD "BadRules"] = .ok (.str (Str.ofString "rules")) := by kernel_rfl
theorem bad_rules : s_look_rules [.tuple [.int 1, .list [.tuple [.int 0, .tuple [.int 0]]]]] = .err "BadRules" := by
  refine e_look_bad (m := 1) (ws := [(0, some [0])]) (by decide) (fun t xs h => by cases List.mem_singleton.mp h; decide) fun _ => ⟨0, by decide, fun ⟨t, xs, e, _, _, _, k, _⟩ => ?_⟩
  have e' : ((0, some [0]) : Wy) = (t, some xs) := Option.some.inj e
  cases e'
  exact k (by simp)
def ALPH : List Nat := [48, 49, 50, 32, 58, 10, 116, 104, 115, 52, 57, 45]
theorem al_is : PyData.str (Str.ofString "012 :\nths49-") = eT ALPH := congrArg PyData.str (TL.ext_tl (by rw [TL.tl_ofString]; rfl))
theorem fmod_nat {a : Int} {n : Nat} (h : 0 < n) : ∃ j : Nat, a.fmod (n : Int) = (j : Int) ∧ j < n := by
  have p : (0 : Int) < (n : Int) := by omega
  have h1 := Int.fmod_nonneg_of_pos a p
  have h2 := Int.fmod_lt_of_pos a p
  exact ⟨(a.fmod (n : Int)).toNat, by omega, by omega⟩
theorem idx_Ts (l : List (List Nat)) (i : Nat) (h : i < l.length) : gIdx (eTs l) (.int (i : Int)) = some (eT l[i]) := by
  show atI (l.map eT) (i : Int) = _
  rw [atI_nat', List.getElem?_map, List.getElem?_eq_getElem h]
  rfl
abbrev lwB : Sf := (sSeq (sAsg (xFn 2 s__law_mix (xCons (xVar 0) (xCons (xOp gAdd (xC (.int 101)) (xVar 3)) xNil))) (tg1 4)) (sSeq (sAsg (xOp gMod (xOp gDiv (xVar 4) (xC (.int 8))) (xOp gAdd (xCall gLen (xCons (xVar 2) xNil)) (xC (.int 1)))) (tg1 5)) (sSeq (sAsg (xOp gIdx (xC (.str (Str.ofString "012 :\nths49-"))) (xOp gMod (xOp gDiv (xVar 4) (xC (.int 4096))) (xC (.int 12)))) (tg1 6)) (sSeq (sAsg (xCall gLstD (xCons (xOp gAdd (xOp gAdd (xCut (xVar 2) pNone (pSome (xVar 5))) (xVar 6)) (xCut (xVar 2) (pSome (xVar 5)) pNone)) (xCons (xOp gAdd (xOp gAdd (xCut (xVar 2) pNone (pSome (xVar 5))) (xVar 6)) (xCut (xVar 2) (pSome (xOp gAdd (xVar 5) (xC (.int 1)))) pNone)) (xCons (xOp gAdd (xCut (xVar 2) pNone (pSome (xVar 5))) (xCut (xVar 2) (pSome (xOp gAdd (xVar 5) (xC (.int 1)))) pNone)) xNil)))) (tg1 7)) (sAsg (xOp gIdx (xVar 7) (xOp gMod (xVar 4) (xC (.int 3)))) (tg1 2))))))
theorem lw_body (ns : List Int) (k : Int) (U : List Nat) (h : asc U) (hl : U.length ≤ 5000) {d : PyData} {s4 s5 s6 s7 s8 s9 s10 s11 : Slot} :
    ∃ V y4 y5 y6 y7, asc V ∧ V.length ≤ U.length + 1 ∧ lwB [.dat (scrD ns), .dat d, .dat (eT U), .dat (.int k), s4, s5, s6, s7, s8, s9, s10, s11] = .nx [.dat (scrD ns), .dat d, .dat (eT V), .dat (.int k), y4, y5, y6, y7, s8, s9, s10, s11] := by
  obtain ⟨v, mx, v0⟩ := mix_ok ns (101 + k)
  have l1 := len_Tx U (by omega)
  obtain ⟨a, ha, al⟩ := fmod_nat (a := v.fdiv 8) (n := U.length + 1) (by omega)
  obtain ⟨j, hj, jl⟩ := fmod_nat (a := v.fdiv 4096) (n := 12) (by decide)
  obtain ⟨i, hi, il⟩ := fmod_nat (a := v) (n := 3) (by decide)
  have d8 := div_I (a := v) (b := 8) (by decide)
  have d4 := div_I (a := v) (b := 4096) (by decide)
  have m1 : gMod (.int (v.fdiv 8)) (.int ((U.length : Int) + 1)) = some (.int (a : Int)) := by
    rw [mod_I (by omega)]
    exact congrArg (fun x => some (PyData.int x)) ha
  have m2 : gMod (.int (v.fdiv 4096)) (.int 12) = some (.int (j : Int)) := by
    rw [mod_I (by decide)]
    exact congrArg (fun x => some (PyData.int x)) hj
  have m3 : gMod (.int v) (.int 3) = some (.int (i : Int)) := by
    rw [mod_I (by decide)]
    exact congrArg (fun x => some (PyData.int x)) hi
  have aS := al_is
  obtain ⟨c, hc, cl⟩ : ∃ c, gIdx (eT ALPH) (.int (j : Int)) = some (eT [c]) ∧ c < 128 := by
    have jl' : j < ALPH.length := jl
    refine ⟨ALPH[j], ?_, ?_⟩
    · rw [idx_T ALPH _ (by decide), atI_nat', List.getElem?_eq_getElem jl']
      rfl
    · have : ∀ c ∈ ALPH, c < 128 := by decide
      exact this _ (List.getElem_mem jl')
  have q1 : gCut none (some (a : Int)) (eT U) = some (eT (U.take a)) := by rw [cut_T U _ _ (by omega), cut_to]
  have q2 : gCut (some (a : Int)) none (eT U) = some (eT (U.drop a)) := by rw [cut_T U _ _ (by omega), cut_from]
  have q3 : gCut (some ((a : Int) + 1)) none (eT U) = some (eT (U.drop (a + 1))) := by
    rw [cut_T U _ _ (by omega)]
    have := cut_from U (a + 1)
    rw [show ((a + 1 : Nat) : Int) = (a : Int) + 1 from rfl] at this
    rw [this]
  have t1 : (U.take a).length ≤ a := by rw [List.length_take]; omega
  have t2 : (U.take a).length ≤ 5000 := by rw [List.length_take]; omega
  have a1 := add_T (U.take a) [c] (by rw [List.length_singleton]; omega)
  have a2 := add_T (U.take a ++ [c]) (U.drop a) (by rw [List.length_append, List.length_singleton, List.length_drop]; omega)
  have a3 := add_T (U.take a ++ [c]) (U.drop (a + 1)) (by rw [List.length_append, List.length_singleton, List.length_drop]; omega)
  have a4 := add_T (U.take a) (U.drop (a + 1)) (by rw [List.length_drop]; omega)
  have ls : gLstD [eT (U.take a ++ [c] ++ U.drop a), eT (U.take a ++ [c] ++ U.drop (a + 1)), eT (U.take a ++ U.drop (a + 1))] = some (eTs [U.take a ++ [c] ++ U.drop a, U.take a ++ [c] ++ U.drop (a + 1), U.take a ++ U.drop (a + 1)]) := rfl
  have sT : ∀ c ∈ U.take a, c < 128 := fun c hc => h c (List.mem_of_mem_take hc)
  have sD : ∀ n, ∀ c ∈ U.drop n, c < 128 := fun n c hc => h c (List.mem_of_mem_drop hc)
  have sC : ∀ x ∈ [c], x < 128 := fun x hx => by rw [List.mem_singleton.mp hx]; exact cl
  have both : ∀ {A B : List Nat}, (∀ x ∈ A, x < 128) → (∀ x ∈ B, x < 128) → ∀ x ∈ A ++ B, x < 128 := fun hA hB x hx => (List.mem_append.mp hx).elim (hA x) (hB x)
  obtain ⟨V, hV, aV, lV⟩ : ∃ V, gIdx (eTs [U.take a ++ [c] ++ U.drop a, U.take a ++ [c] ++ U.drop (a + 1), U.take a ++ U.drop (a + 1)]) (.int (i : Int)) = some (eT V) ∧ asc V ∧ V.length ≤ U.length + 1 := by
    have ix := idx_Ts [U.take a ++ [c] ++ U.drop a, U.take a ++ [c] ++ U.drop (a + 1), U.take a ++ U.drop (a + 1)] i il
    refine ⟨_, ix, ?_⟩
    have P : ∀ A ∈ [U.take a ++ [c] ++ U.drop a, U.take a ++ [c] ++ U.drop (a + 1), U.take a ++ U.drop (a + 1)], asc A ∧ A.length ≤ U.length + 1 := by
      intro A hA
      have b3 : ∀ k, a ≤ k → (U.drop k).length + (U.take a).length ≤ U.length := fun k hk => by rw [List.length_drop, List.length_take]; omega
      have := b3 a (Nat.le_refl _)
      have := b3 (a + 1) (Nat.le_succ _)
      have e1 : [c].length = 1 := rfl
      rcases List.mem_cons.mp hA with e | hA
      · subst e
        exact ⟨both (both sT sC) (sD _), by rw [List.length_append, List.length_append]; omega⟩
      rcases List.mem_cons.mp hA with e | hA
      · subst e
        exact ⟨both (both sT sC) (sD _), by rw [List.length_append, List.length_append]; omega⟩
      have e := List.mem_singleton.mp hA
      subst e
      exact ⟨both sT (sD _), by rw [List.length_append]; omega⟩
    exact P _ (List.getElem_mem il)
  refine ⟨V, .dat (.int v), .dat (.int a), .dat (eT [c]), .dat (eTs [U.take a ++ [c] ++ U.drop a, U.take a ++ [c] ++ U.drop (a + 1), U.take a ++ U.drop (a + 1)]), aV, lV, ?_⟩
  unfold lwB
  generalize U.take a ++ [c] ++ U.drop a = A1 at *
  generalize U.take a ++ [c] ++ U.drop (a + 1) = A2 at *
  generalize U.take a ++ U.drop (a + 1) = A3 at *
  simp only [sNil, sSeq, sAsg, sRet, sIf, sExpr, sRaise, sOwn, sDic, sFor, xC, xOp, xUn, xNil, xCons, xCall, xIf, xAnd, xOr, xNot, xChain, xFn, xLc, xSortSet, zSeq, zRange, yB, yT, yAnd, yOr, yNot, asB_b, Rs.bind_ok, Rs.bind_err, of_some, of_none, truth_b, toRs_ret, toRs_err, toRs_nx, tg1, tgN, setAll, gTupD, wipeE, padE_eq, xVar_0, xVar_s, set_0, set_s, get_0, get_s, List.map_cons, List.map_nil, List.cons_append, List.nil_append, List.length_cons, List.length_nil, List.replicate, Nat.reduceAdd, Nat.reduceSub, Nat.zero_add, Nat.reduceLeDiff, Nat.reduceLT, reduceIte, reduceCtorEq, if_true, if_false, ite_true, ite_false, Bool.false_eq_true, Bool.not_true, Bool.not_false, Option.map_some, ne_eq, not_true_eq_false, not_false_eq_true, decide_true, decide_false, decide_not, Bool.not_eq_true', Int.reduceEq, Int.reduceNe, Int.reduceLT, Int.reduceLE, Int.reduceAdd, Int.reduceSub, Int.reduceNeg, Bool.true_and, Bool.and_true, Bool.false_and, Bool.and_false, Bool.true_or, Bool.or_true, Bool.false_or, Bool.or_false, Int.cast_ofNat_Int, Int.natCast_zero, Int.natCast_one, mx, d8, d4, l1, add_I, m1, m2, m3, aS, hc, xCut, pNone, pSome, q1, q2, q3, a1, a2, a3, a4, ls, hV]
theorem lw_loop (ns : List Int) {d : PyData} {s8 s9 s10 s11 : Slot} : ∀ (ks : List Int) (U : List Nat) (s3 s4 s5 s6 s7 : Slot), asc U → U.length + ks.length ≤ 1000 →
    ∃ V z3 z4 z5 z6 z7, asc V ∧ V.length ≤ 1000 ∧ forL (tg1 3) lwB (ks.map .int) [.dat (scrD ns), .dat d, .dat (eT U), s3, s4, s5, s6, s7, s8, s9, s10, s11] = .nx [.dat (scrD ns), .dat d, .dat (eT V), z3, z4, z5, z6, z7, s8, s9, s10, s11]
  | [], U, s3, s4, s5, s6, s7, h, hl => ⟨U, s3, s4, s5, s6, s7, h, by simpa using hl, rfl⟩
  | k :: ks, U, s3, s4, s5, s6, s7, h, hl => by
    rw [List.length_cons] at hl
    obtain ⟨V, y4, y5, y6, y7, aV, lV, b⟩ := lw_body ns k U h (by omega) (d := d) (s4 := s4) (s5 := s5) (s6 := s6) (s7 := s7) (s8 := s8) (s9 := s9) (s10 := s10) (s11 := s11)
    obtain ⟨Z, z3, z4, z5, z6, z7, aZ, lZ, q⟩ := lw_loop ns (d := d) (s8 := s8) (s9 := s9) (s10 := s10) (s11 := s11) ks V (.dat (.int k)) y4 y5 y6 y7 aV (by omega)
    refine ⟨Z, z3, z4, z5, z6, z7, aZ, lZ, ?_⟩
    have g1 : tg1 3 (.int k) [.dat (scrD ns), .dat d, .dat (eT U), s3, s4, s5, s6, s7, s8, s9, s10, s11] = some [.dat (scrD ns), .dat d, .dat (eT U), .dat (.int k), s4, s5, s6, s7, s8, s9, s10, s11] := rfl
    rw [List.map_cons, forL, g1]
    dsimp only
    rw [b]
    exact q
theorem triedN_len {U : List Nat} {m : Int} {ws : List Wn} (h : triedN U = some (m, ws)) (hl : U.length ≤ 1000) : ws.length ≤ 1300 ∧ ∀ w ∈ ws, w.2.length ≤ 4000 := by
  obtain ⟨L1, L2, L3⟩ := spl_lens 10 U []
  have e0 : ([] : List Nat).length = 0 := rfl
  unfold triedN at h
  generalize TL.spl [10] 0 [] U = W at *
  cases W with
  | nil => exact nomatch h
  | cons r0 rs =>
    dsimp only at h
    split at h
    · obtain ⟨n, hn, h⟩ := Option.bind_eq_some_iff.mp h
      obtain ⟨vs, hv, e⟩ := Option.map_eq_some_iff.mp h
      cases e
      obtain ⟨q1, q2⟩ := rowsP_len hv
      rw [List.length_cons] at L2
      refine ⟨by omega, fun w hw => ?_⟩
      obtain ⟨r, hr, le⟩ := q2 w hw
      have := L1 r (List.mem_cons_of_mem _ hr)
      omega
    · exact nomatch h
open Classical in
theorem law_true (ns : List Int) (_h : ns.length ≤ 63) : s_law [scrD ns] = .ok (.bool true) := by
  obtain ⟨m, ws, m5, R, wl, hr⟩ := e_rules ns 0 5 (by decide)
  have m9 : m ≤ 9 := by omega
  have lt := e_ltext R m9 wl
  have wr := e_written R m9 wl
  have tl := textT_len R m9 wl
  have lk := e_look m ws (by have := R.len; omega) fun w hw => by have := R.small w hw; omega
  have lP : lookP m ws := by
    apply Classical.byContradiction
    intro g
    rw [if_neg g, R.look] at lk
    exact nomatch lk
  have rd := e_read (textT m ws) textT_asc (by omega)
  rw [tried_back R m9] at rd
  dsimp only at rd
  rw [if_pos lP] at rd
  have nT : gNe (eT (textT m ws)) (eT (textT m ws)) = some (.bool false) := by rw [ne_T]; simp
  have nR : gNe (eR (m, ws)) (eR (m, ws)) = some (.bool false) := by rw [cod_R.gNe (by decide)]; simp
  obtain ⟨v, mx, v0⟩ := mix_ok ns 100
  obtain ⟨i, hi, il⟩ := fmod_nat (a := v) (n := 2) (by decide)
  have m2 : gMod (.int v) (.int 2) = some (.int (i : Int)) := by
    rw [mod_I (by decide)]
    exact congrArg (fun x => some (PyData.int x)) hi
  have rg := rng_I (m := 1 + (i : Int)) (by omega)
  obtain ⟨V, z3, z4, z5, z6, z7, aV, lV, lp⟩ := lw_loop ns (d := eR (m, ws)) (s8 := .un) (s9 := .un) (s10 := .un) (s11 := .un) (upto (1 + (i : Int))) (textT m ws) .un .un .un .un .un textT_asc (by rw [upto_length]; omega)
  have rV := e_read V aV lV
  have tV := e_ltried V aV lV
  have bl : below_LearnError "BadText" = some true := rfl
  have bl2 : below_LearnError "BadRules" = some true := rfl
  have rt := ref_text
  have rr := ref_rules
  have bt : gTupD [.int 0] = some (.tuple [.int 0]) := rfl
  have bt2 : gTupD [.int 0, .tuple [.int 0]] = some (.tuple [.int 0, .tuple [.int 0]]) := rfl
  have bl3 : gLstD [.tuple [.int 0, .tuple [.int 0]]] = some (.list [.tuple [.int 0, .tuple [.int 0]]]) := rfl
  have bt4 : gTupD [.int 1, .list [.tuple [.int 0, .tuple [.int 0]]]] = some (.tuple [.int 1, .list [.tuple [.int 0, .tuple [.int 0]]]]) := rfl
  have bw := x_written bad_rules
  have n1 : gNe (.str (Str.ofString "text")) (.str (Str.ofString "text")) = some (.bool false) := by
    rw [cod_str.gNe (by decide)]; simp
  have q1 : gEq (.str (Str.ofString "rules")) (.str (Str.ofString "rules")) = some (.bool true) := by
    rw [cod_str.gEq (by decide)]; simp
  have in1 : gIsNot .none .none = some (.bool false) := rfl
  have fs : f_law = (sSeq (sAsg (xFn 3 s__law_rules (xCons (xVar 0) (xCons (xC (.int 0)) (xCons (xC (.int 5)) xNil)))) (tg1 1)) (sSeq (sAsg (xFn 1 s__law_text (xCons (xVar 1) xNil)) (tg1 2)) (sSeq (sIf (yOr (yB (xOp gNe (xFn 1 s_written (xCons (xVar 1) xNil)) (xVar 2))) (yB (xOp gNe (xFn 1 s_read (xCons (xVar 2) xNil)) (xVar 1)))) (sRet (xC (.bool false))) sNil) (sSeq (sFor (zRange (xOp gAdd (xC (.int 1)) (xOp gMod (xFn 2 s__law_mix (xCons (xVar 0) (xCons (xC (.int 100)) xNil))) (xC (.int 2))))) (tg1 3) lwB) (sSeq (sAsg (xC .none) (tg1 8)) (sSeq (sAsg (xC .none) (tg1 9)) (sSeq (sTry 10 8 below_LearnError (sAsg (xFn 1 s_read (xCons (xVar 2) xNil)) (tg1 9))) (sSeq (sAsg (xFn 1 s__law_tried (xCons (xVar 2) xNil)) (tg1 11)) (sSeq (sIf (yAnd (yB (xOp gIsNot (xVar 11) (xC .none))) (yT (xFn 1 s__law_are_rules (xCons (xVar 11) xNil)))) (sRet (xAnd (xOp gIs (xVar 8) (xC .none)) (xOp gEq (xVar 9) (xVar 11)))) sNil) (sSeq (sIf (yB (xOp gNe (xFn 1 s__law_refusal (xCons (xVar 8) xNil)) (xC (.str (Str.ofString "text"))))) (sRet (xC (.bool false))) sNil) (sSeq (sAsg (xC .none) (tg1 8)) (sSeq (sTry 10 8 below_LearnError (sExpr (xFn 1 s_written (xCons (xCall gTupD (xCons (xC (.int 1)) (xCons (xCall gLstD (xCons (xCall gTupD (xCons (xC (.int 0)) (xCons (xCall gTupD (xCons (xC (.int 0)) xNil)) xNil))) xNil)) xNil))) xNil)))) (sRet (xOp gEq (xFn 1 s__law_refusal (xCons (xVar 8) xNil)) (xC (.str (Str.ofString "rules"))))))))))))))))) := rfl
  unfold s_law
  rw [fs]
  generalize lwB = B at lp ⊢
  cases e : triedN V with
  | none =>
    rw [e] at rV tV
    dsimp only at rV
    have tV' : s__law_tried [eT V] = .ok .none := tV
    simp only [sNil, sSeq, sAsg, sRet, sIf, sExpr, sRaise, sOwn, sDic, sFor, xC, xOp, xUn, xNil, xCons, xCall, xIf, xAnd, xOr, xNot, xChain, xFn, xLc, xSortSet, zSeq, zRange, yB, yT, yAnd, yOr, yNot, asB_b, Rs.bind_ok, Rs.bind_err, of_some, of_none, truth_b, toRs_ret, toRs_err, toRs_nx, tg1, tgN, setAll, wipeE, padE_eq, xVar_0, xVar_s, set_0, set_s, get_0, get_s, List.map_cons, List.map_nil, List.cons_append, List.nil_append, List.length_cons, List.length_nil, List.replicate, Nat.reduceAdd, Nat.reduceSub, Nat.zero_add, Nat.reduceLeDiff, Nat.reduceLT, reduceIte, reduceCtorEq, if_true, if_false, ite_true, ite_false, Bool.false_eq_true, Bool.not_true, Bool.not_false, Option.map_some, ne_eq, not_true_eq_false, not_false_eq_true, decide_true, decide_false, decide_not, Bool.not_eq_true', Int.reduceEq, Int.reduceNe, Int.reduceLT, Int.reduceLE, Int.reduceAdd, Int.reduceSub, Int.reduceNeg, Bool.true_and, Bool.and_true, Bool.false_and, Bool.and_false, Bool.true_or, Bool.or_true, Bool.false_or, Bool.or_false, Int.cast_ofNat_Int, Int.natCast_zero, Int.natCast_one, hr, lt, wr, nT, rd, nR, mx, m2, add_I, rg, lp, sTry, rV, bl, tV', in1, rt, n1, bt, bt2, bl3, bt4, bw, bl2, rr, q1]
  | some r =>
    obtain ⟨m', ws'⟩ := r
    rw [e] at rV tV
    dsimp only at rV
    have tV' : s__law_tried [eT V] = .ok (eR (m', ws')) := tV
    obtain ⟨w1, w2⟩ := triedN_len e lV
    have ar := e_are m' ws' w1 w2
    have in2 : gIsNot (eR (m', ws')) .none = some (.bool true) := rfl
    have qR : gEq (eR (m', ws')) (eR (m', ws')) = some (.bool true) := by rw [cod_R.gEq (by decide)]; simp
    by_cases g : lookP m' ws'
    · rw [if_pos g] at rV
      rw [decide_eq_true g] at ar
      simp only [sNil, sSeq, sAsg, sRet, sIf, sExpr, sRaise, sOwn, sDic, sFor, xC, xOp, xUn, xNil, xCons, xCall, xIf, xAnd, xOr, xNot, xChain, xFn, xLc, xSortSet, zSeq, zRange, yB, yT, yAnd, yOr, yNot, asB_b, Rs.bind_ok, Rs.bind_err, of_some, of_none, truth_b, toRs_ret, toRs_err, toRs_nx, tg1, tgN, setAll, wipeE, padE_eq, xVar_0, xVar_s, set_0, set_s, get_0, get_s, List.map_cons, List.map_nil, List.cons_append, List.nil_append, List.length_cons, List.length_nil, List.replicate, Nat.reduceAdd, Nat.reduceSub, Nat.zero_add, Nat.reduceLeDiff, Nat.reduceLT, reduceIte, reduceCtorEq, if_true, if_false, ite_true, ite_false, Bool.false_eq_true, Bool.not_true, Bool.not_false, Option.map_some, ne_eq, not_true_eq_false, not_false_eq_true, decide_true, decide_false, decide_not, Bool.not_eq_true', Int.reduceEq, Int.reduceNe, Int.reduceLT, Int.reduceLE, Int.reduceAdd, Int.reduceSub, Int.reduceNeg, Bool.true_and, Bool.and_true, Bool.false_and, Bool.and_false, Bool.true_or, Bool.or_true, Bool.false_or, Bool.or_false, Int.cast_ofNat_Int, Int.natCast_zero, Int.natCast_one, hr, lt, wr, nT, rd, nR, mx, m2, add_I, rg, lp, sTry, rV, tV', in2, ar, is_nn, qR]
    · rw [if_neg g] at rV
      rw [decide_eq_false g] at ar
      simp only [sNil, sSeq, sAsg, sRet, sIf, sExpr, sRaise, sOwn, sDic, sFor, xC, xOp, xUn, xNil, xCons, xCall, xIf, xAnd, xOr, xNot, xChain, xFn, xLc, xSortSet, zSeq, zRange, yB, yT, yAnd, yOr, yNot, asB_b, Rs.bind_ok, Rs.bind_err, of_some, of_none, truth_b, toRs_ret, toRs_err, toRs_nx, tg1, tgN, setAll, wipeE, padE_eq, xVar_0, xVar_s, set_0, set_s, get_0, get_s, List.map_cons, List.map_nil, List.cons_append, List.nil_append, List.length_cons, List.length_nil, List.replicate, Nat.reduceAdd, Nat.reduceSub, Nat.zero_add, Nat.reduceLeDiff, Nat.reduceLT, reduceIte, reduceCtorEq, if_true, if_false, ite_true, ite_false, Bool.false_eq_true, Bool.not_true, Bool.not_false, Option.map_some, ne_eq, not_true_eq_false, not_false_eq_true, decide_true, decide_false, decide_not, Bool.not_eq_true', Int.reduceEq, Int.reduceNe, Int.reduceLT, Int.reduceLE, Int.reduceAdd, Int.reduceSub, Int.reduceNeg, Bool.true_and, Bool.and_true, Bool.false_and, Bool.and_false, Bool.true_or, Bool.or_true, Bool.false_or, Bool.or_false, Int.cast_ofNat_Int, Int.natCast_zero, Int.natCast_one, hr, lt, wr, nT, rd, nR, mx, m2, add_I, rg, lp, sTry, rV, bl, tV', in2, ar, rt, n1, bt, bt2, bl3, bt4, bw, bl2, rr, q1]
end LY

set_option maxHeartbeats 4000000
namespace LY
open PySem PySem.Spec PyProof.Rows L2
def ec_ (c_BadRules c_BadText c_BadNumber c_BadState c_Unlike c_LearnError : Addr) (c : String) : Addr := if c = "BadRules" then c_BadRules else if c = "BadText" then c_BadText else if c = "BadNumber" then c_BadNumber else if c = "BadState" then c_BadState else if c = "Unlike" then c_Unlike else if c = "LearnError" then c_LearnError else 0
theorem e_BadRules (c_BadRules c_BadText c_BadNumber c_BadState c_Unlike c_LearnError : Addr) : ec_ c_BadRules c_BadText c_BadNumber c_BadState c_Unlike c_LearnError "BadRules" = c_BadRules := by unfold ec_; simp
theorem e_BadText (c_BadRules c_BadText c_BadNumber c_BadState c_Unlike c_LearnError : Addr) : ec_ c_BadRules c_BadText c_BadNumber c_BadState c_Unlike c_LearnError "BadText" = c_BadText := by unfold ec_; simp
theorem e_BadNumber (c_BadRules c_BadText c_BadNumber c_BadState c_Unlike c_LearnError : Addr) : ec_ c_BadRules c_BadText c_BadNumber c_BadState c_Unlike c_LearnError "BadNumber" = c_BadNumber := by unfold ec_; simp
theorem e_BadState (c_BadRules c_BadText c_BadNumber c_BadState c_Unlike c_LearnError : Addr) : ec_ c_BadRules c_BadText c_BadNumber c_BadState c_Unlike c_LearnError "BadState" = c_BadState := by unfold ec_; simp
theorem e_Unlike (c_BadRules c_BadText c_BadNumber c_BadState c_Unlike c_LearnError : Addr) : ec_ c_BadRules c_BadText c_BadNumber c_BadState c_Unlike c_LearnError "Unlike" = c_Unlike := by unfold ec_; simp
theorem e_LearnError (c_BadRules c_BadText c_BadNumber c_BadState c_Unlike c_LearnError : Addr) : ec_ c_BadRules c_BadText c_BadNumber c_BadState c_Unlike c_LearnError "LearnError" = c_LearnError := by unfold ec_; simp
theorem top_mk {K : PySem.W.Frag} {h : Heap} {mg : Str → Option Value} (X : K.In h) (G : h.Ns mainGlobals mg) {t_MOST_THINGS : Tok} {t_MOST_RULES : Tok} {t_FIGURES : Tok} {c_BadRules c_BadText c_BadNumber c_BadState c_Unlike c_LearnError : Addr} {f_0 : Addr} {od_0 an_0 : Option Addr} {sl_0 : Array (Option Value)} {oc_0 kV_0 dc_0 pm_0 cd_0 ct_0 : Value} {f_1 : Addr} {od_1 an_1 : Option Addr} {sl_1 : Array (Option Value)} {oc_1 kV_1 dc_1 pm_1 cd_1 ct_1 : Value} {f_2 : Addr} {od_2 an_2 : Option Addr} {sl_2 : Array (Option Value)} {oc_2 kV_2 dc_2 pm_2 cd_2 ct_2 : Value} {f_3 : Addr} {od_3 an_3 : Option Addr} {sl_3 : Array (Option Value)} {oc_3 kV_3 dc_3 pm_3 cd_3 ct_3 : Value} {f_4 : Addr} {od_4 an_4 : Option Addr} {sl_4 : Array (Option Value)} {oc_4 kV_4 dc_4 pm_4 cd_4 ct_4 : Value} {f_5 : Addr} {od_5 an_5 : Option Addr} {sl_5 : Array (Option Value)} {oc_5 kV_5 dc_5 pm_5 cd_5 ct_5 : Value} {f_6 : Addr} {od_6 an_6 : Option Addr} {sl_6 : Array (Option Value)} {oc_6 kV_6 dc_6 pm_6 cd_6 ct_6 : Value} {f_7 : Addr} {od_7 an_7 : Option Addr} {sl_7 : Array (Option Value)} {oc_7 kV_7 dc_7 pm_7 cd_7 ct_7 : Value} {f_8 : Addr} {od_8 an_8 : Option Addr} {sl_8 : Array (Option Value)} {oc_8 kV_8 dc_8 pm_8 cd_8 ct_8 : Value} {f_9 : Addr} {od_9 an_9 : Option Addr} {sl_9 : Array (Option Value)} {oc_9 kV_9 dc_9 pm_9 cd_9 ct_9 : Value} {f_10 : Addr} {od_10 an_10 : Option Addr} {sl_10 : Array (Option Value)} {oc_10 kV_10 dc_10 pm_10 cd_10 ct_10 : Value} {f_11 : Addr} {od_11 an_11 : Option Addr} {sl_11 : Array (Option Value)} {oc_11 kV_11 dc_11 pm_11 cd_11 ct_11 : Value} {f_12 : Addr} {od_12 an_12 : Option Addr} {sl_12 : Array (Option Value)} {oc_12 kV_12 dc_12 pm_12 cd_12 ct_12 : Value} {f_13 : Addr} {od_13 an_13 : Option Addr} {sl_13 : Array (Option Value)} {oc_13 kV_13 dc_13 pm_13 cd_13 ct_13 : Value} {f_14 : Addr} {od_14 an_14 : Option Addr} {sl_14 : Array (Option Value)} {oc_14 kV_14 dc_14 pm_14 cd_14 ct_14 : Value}
    (b_list : PySem.W.nsIn K mainGlobals "list" = some none)
    (b_sorted : PySem.W.nsIn K mainGlobals "sorted" = some none)
    (b_set : PySem.W.nsIn K mainGlobals "set" = some none)
    (b_all : PySem.W.nsIn K mainGlobals "all" = some none)
    (b_len : PySem.W.nsIn K mainGlobals "len" = some none)
    (b_range : PySem.W.nsIn K mainGlobals "range" = some none)
    (b_str : PySem.W.nsIn K mainGlobals "str" = some none)
    (b_int : PySem.W.nsIn K mainGlobals "int" = some none)
    (b_tuple : PySem.W.nsIn K mainGlobals "tuple" = some none)
    (b_isinstance : PySem.W.nsIn K mainGlobals "isinstance" = some none)
    (b_ValueError : PySem.W.nsIn K mainGlobals "ValueError" = some none)
    (k_MOST_THINGS : PySem.W.nsIn K mainGlobals "MOST_THINGS" = some (some (.int 10 t_MOST_THINGS)))
    (k_MOST_RULES : PySem.W.nsIn K mainGlobals "MOST_RULES" = some (some (.int 1300 t_MOST_RULES)))
    (k_FIGURES : PySem.W.nsIn K mainGlobals "FIGURES" = some (some (.str (Str.ofString "0123456789") t_FIGURES)))
    (g_BadRules : PySem.W.nsIn K mainGlobals "BadRules" = some (some (.ref c_BadRules)))
    (g_BadText : PySem.W.nsIn K mainGlobals "BadText" = some (some (.ref c_BadText)))
    (g_BadNumber : PySem.W.nsIn K mainGlobals "BadNumber" = some (some (.ref c_BadNumber)))
    (g_BadState : PySem.W.nsIn K mainGlobals "BadState" = some (some (.ref c_BadState)))
    (g_Unlike : PySem.W.nsIn K mainGlobals "Unlike" = some (some (.ref c_Unlike)))
    (g_LearnError : PySem.W.nsIn K mainGlobals "LearnError" = some (some (.ref c_LearnError)))
    (x_BadRules : PySem.W.excIn K c_BadRules [.type "ValueError", .type "Exception", .type "BaseException", .type "object"] "ValueError.__new__" = true)
    (kp_BadRules : PySem.W.keepIn K (.ref c_BadRules) = true)
    (r1_BadRules : PySem.W.subIn K (.ref c_BadRules) (.type "BaseException") = some true)
    (r2_BadRules : PySem.W.typeIn K (.ref c_BadRules) = some (.type "type"))
    (hg_BadRules : PySem.W.findIn K (.ref c_BadRules) "__getattribute__" = some (some (.builtin "BaseException.__getattribute__")))
    (hk_BadRules : PySem.W.findIn K (.ref c_BadRules) "__getattr__" = some none)
    (hd_BadRules : PySem.W.hasDictIn K c_BadRules = true)
    (ha_BadRules : PySem.W.findIn K (.ref c_BadRules) "__class__" = some (some (.builtin "object.__class__")))
    (hm_BadRules : PySem.W.mroIn K c_BadRules (.type "object") = some true)
    (x_BadText : PySem.W.excIn K c_BadText [.type "ValueError", .type "Exception", .type "BaseException", .type "object"] "ValueError.__new__" = true)
    (kp_BadText : PySem.W.keepIn K (.ref c_BadText) = true)
    (r1_BadText : PySem.W.subIn K (.ref c_BadText) (.type "BaseException") = some true)
    (r2_BadText : PySem.W.typeIn K (.ref c_BadText) = some (.type "type"))
    (hg_BadText : PySem.W.findIn K (.ref c_BadText) "__getattribute__" = some (some (.builtin "BaseException.__getattribute__")))
    (hk_BadText : PySem.W.findIn K (.ref c_BadText) "__getattr__" = some none)
    (hd_BadText : PySem.W.hasDictIn K c_BadText = true)
    (ha_BadText : PySem.W.findIn K (.ref c_BadText) "__class__" = some (some (.builtin "object.__class__")))
    (hm_BadText : PySem.W.mroIn K c_BadText (.type "object") = some true)
    (hn_ : PySem.W.specialIn K (.builtin "object.__class__") "__get__" = some (some (.builtin "getset_descriptor.__get__")))
    (ht_ : PySem.W.takesIn K (.builtin "object.__class__") = some true)
    (n_BadRules_BadNumber : c_BadRules ≠ c_BadNumber)
    (n_BadText_BadNumber : c_BadText ≠ c_BadNumber)
    (n_BadText_BadRules : c_BadText ≠ c_BadRules)
    (n_BadRules_BadState : c_BadRules ≠ c_BadState)
    (n_BadText_BadState : c_BadText ≠ c_BadState)
    (n_BadRules_BadText : c_BadRules ≠ c_BadText)
    (n_BadRules_Unlike : c_BadRules ≠ c_Unlike)
    (n_BadText_Unlike : c_BadText ≠ c_Unlike)
    (o_BadRules_BadNumber : PySem.W.subIn K (.ref c_BadRules) (.ref c_BadNumber) = some false)
    (o_BadText_BadNumber : PySem.W.subIn K (.ref c_BadText) (.ref c_BadNumber) = some false)
    (o_BadRules_BadRules : PySem.W.subIn K (.ref c_BadRules) (.ref c_BadRules) = some true)
    (o_BadText_BadRules : PySem.W.subIn K (.ref c_BadText) (.ref c_BadRules) = some false)
    (o_BadRules_BadState : PySem.W.subIn K (.ref c_BadRules) (.ref c_BadState) = some false)
    (o_BadText_BadState : PySem.W.subIn K (.ref c_BadText) (.ref c_BadState) = some false)
    (o_BadRules_BadText : PySem.W.subIn K (.ref c_BadRules) (.ref c_BadText) = some false)
    (o_BadText_BadText : PySem.W.subIn K (.ref c_BadText) (.ref c_BadText) = some true)
    (o_BadRules_Unlike : PySem.W.subIn K (.ref c_BadRules) (.ref c_Unlike) = some false)
    (o_BadText_Unlike : PySem.W.subIn K (.ref c_BadText) (.ref c_Unlike) = some false)
    (o_BadRules_ValueError : PySem.W.subIn K (.ref c_BadRules) (.type "ValueError") = some true)
    (o_BadText_ValueError : PySem.W.subIn K (.ref c_BadText) (.type "ValueError") = some true)
    (o_BadRules_LearnError : PySem.W.subIn K (.ref c_BadRules) (.ref c_LearnError) = some true)
    (o_BadText_LearnError : PySem.W.subIn K (.ref c_BadText) (.ref c_LearnError) = some true)
    (hd_BadNumber : PySem.W.hasDictIn K c_BadNumber = true)
    (r1_BadNumber : PySem.W.subIn K (.ref c_BadNumber) (.type "BaseException") = some true)
    (r2_BadNumber : PySem.W.typeIn K (.ref c_BadNumber) = some (.type "type"))
    (hd_BadState : PySem.W.hasDictIn K c_BadState = true)
    (r1_BadState : PySem.W.subIn K (.ref c_BadState) (.type "BaseException") = some true)
    (r2_BadState : PySem.W.typeIn K (.ref c_BadState) = some (.type "type"))
    (hd_Unlike : PySem.W.hasDictIn K c_Unlike = true)
    (r1_Unlike : PySem.W.subIn K (.ref c_Unlike) (.type "BaseException") = some true)
    (r2_Unlike : PySem.W.typeIn K (.ref c_Unlike) = some (.type "type"))
    (hd_LearnError : PySem.W.hasDictIn K c_LearnError = true)
    (r1_LearnError : PySem.W.subIn K (.ref c_LearnError) (.type "BaseException") = some true)
    (r2_LearnError : PySem.W.typeIn K (.ref c_LearnError) = some (.type "type"))
    (a_0 : PySem.W.nsIn K mainGlobals "is_set" = some (some (.ref f_0)))
    (l_0 : K.lookup f_0 = some ⟨oc_0, od_0, .func (PySem.W.fnOf "is_set" "is_set" (defArgs st_is_set) (defBody st_is_set) (defScope st_is_set) .none kV_0 dc_0 pm_0 an_0 cd_0 ct_0), sl_0⟩)
    (z_0 : PySem.W.codeIn K cd_0 "is_set" = true)
    (p_0 : PySem.W.keepIn K (.ref f_0) = true)
    (a_1 : PySem.W.nsIn K mainGlobals "look_rules" = some (some (.ref f_1)))
    (l_1 : K.lookup f_1 = some ⟨oc_1, od_1, .func (PySem.W.fnOf "look_rules" "look_rules" (defArgs st_look_rules) (defBody st_look_rules) (defScope st_look_rules) .none kV_1 dc_1 pm_1 an_1 cd_1 ct_1), sl_1⟩)
    (z_1 : PySem.W.codeIn K cd_1 "look_rules" = true)
    (p_1 : PySem.W.keepIn K (.ref f_1) = true)
    (a_2 : PySem.W.nsIn K mainGlobals "written" = some (some (.ref f_2)))
    (l_2 : K.lookup f_2 = some ⟨oc_2, od_2, .func (PySem.W.fnOf "written" "written" (defArgs st_written) (defBody st_written) (defScope st_written) .none kV_2 dc_2 pm_2 an_2 cd_2 ct_2), sl_2⟩)
    (z_2 : PySem.W.codeIn K cd_2 "written" = true)
    (p_2 : PySem.W.keepIn K (.ref f_2) = true)
    (a_3 : PySem.W.nsIn K mainGlobals "number_in" = some (some (.ref f_3)))
    (l_3 : K.lookup f_3 = some ⟨oc_3, od_3, .func (PySem.W.fnOf "number_in" "number_in" (defArgs st_number_in) (defBody st_number_in) (defScope st_number_in) .none kV_3 dc_3 pm_3 an_3 cd_3 ct_3), sl_3⟩)
    (z_3 : PySem.W.codeIn K cd_3 "number_in" = true)
    (p_3 : PySem.W.keepIn K (.ref f_3) = true)
    (a_4 : PySem.W.nsIn K mainGlobals "read" = some (some (.ref f_4)))
    (l_4 : K.lookup f_4 = some ⟨oc_4, od_4, .func (PySem.W.fnOf "read" "read" (defArgs st_read) (defBody st_read) (defScope st_read) .none kV_4 dc_4 pm_4 an_4 cd_4 ct_4), sl_4⟩)
    (z_4 : PySem.W.codeIn K cd_4 "read" = true)
    (p_4 : PySem.W.keepIn K (.ref f_4) = true)
    (a_5 : PySem.W.nsIn K mainGlobals "_law_cell" = some (some (.ref f_5)))
    (l_5 : K.lookup f_5 = some ⟨oc_5, od_5, .func (PySem.W.fnOf "_law_cell" "_law_cell" (defArgs st__law_cell) (defBody st__law_cell) (defScope st__law_cell) .none kV_5 dc_5 pm_5 an_5 cd_5 ct_5), sl_5⟩)
    (z_5 : PySem.W.codeIn K cd_5 "_law_cell" = true)
    (p_5 : PySem.W.keepIn K (.ref f_5) = true)
    (a_6 : PySem.W.nsIn K mainGlobals "_law_mix" = some (some (.ref f_6)))
    (l_6 : K.lookup f_6 = some ⟨oc_6, od_6, .func (PySem.W.fnOf "_law_mix" "_law_mix" (defArgs st__law_mix) (defBody st__law_mix) (defScope st__law_mix) .none kV_6 dc_6 pm_6 an_6 cd_6 ct_6), sl_6⟩)
    (z_6 : PySem.W.codeIn K cd_6 "_law_mix" = true)
    (p_6 : PySem.W.keepIn K (.ref f_6) = true)
    (a_7 : PySem.W.nsIn K mainGlobals "_law_subset" = some (some (.ref f_7)))
    (l_7 : K.lookup f_7 = some ⟨oc_7, od_7, .func (PySem.W.fnOf "_law_subset" "_law_subset" (defArgs st__law_subset) (defBody st__law_subset) (defScope st__law_subset) .none kV_7 dc_7 pm_7 an_7 cd_7 ct_7), sl_7⟩)
    (z_7 : PySem.W.codeIn K cd_7 "_law_subset" = true)
    (p_7 : PySem.W.keepIn K (.ref f_7) = true)
    (a_8 : PySem.W.nsIn K mainGlobals "_law_rules" = some (some (.ref f_8)))
    (l_8 : K.lookup f_8 = some ⟨oc_8, od_8, .func (PySem.W.fnOf "_law_rules" "_law_rules" (defArgs st__law_rules) (defBody st__law_rules) (defScope st__law_rules) .none kV_8 dc_8 pm_8 an_8 cd_8 ct_8), sl_8⟩)
    (z_8 : PySem.W.codeIn K cd_8 "_law_rules" = true)
    (p_8 : PySem.W.keepIn K (.ref f_8) = true)
    (a_9 : PySem.W.nsIn K mainGlobals "_law_refusal" = some (some (.ref f_9)))
    (l_9 : K.lookup f_9 = some ⟨oc_9, od_9, .func (PySem.W.fnOf "_law_refusal" "_law_refusal" (defArgs st__law_refusal) (defBody st__law_refusal) (defScope st__law_refusal) .none kV_9 dc_9 pm_9 an_9 cd_9 ct_9), sl_9⟩)
    (z_9 : PySem.W.codeIn K cd_9 "_law_refusal" = true)
    (p_9 : PySem.W.keepIn K (.ref f_9) = true)
    (a_10 : PySem.W.nsIn K mainGlobals "_law_text" = some (some (.ref f_10)))
    (l_10 : K.lookup f_10 = some ⟨oc_10, od_10, .func (PySem.W.fnOf "_law_text" "_law_text" (defArgs st__law_text) (defBody st__law_text) (defScope st__law_text) .none kV_10 dc_10 pm_10 an_10 cd_10 ct_10), sl_10⟩)
    (z_10 : PySem.W.codeIn K cd_10 "_law_text" = true)
    (p_10 : PySem.W.keepIn K (.ref f_10) = true)
    (a_11 : PySem.W.nsIn K mainGlobals "_law_numbers" = some (some (.ref f_11)))
    (l_11 : K.lookup f_11 = some ⟨oc_11, od_11, .func (PySem.W.fnOf "_law_numbers" "_law_numbers" (defArgs st__law_numbers) (defBody st__law_numbers) (defScope st__law_numbers) .none kV_11 dc_11 pm_11 an_11 cd_11 ct_11), sl_11⟩)
    (z_11 : PySem.W.codeIn K cd_11 "_law_numbers" = true)
    (p_11 : PySem.W.keepIn K (.ref f_11) = true)
    (a_12 : PySem.W.nsIn K mainGlobals "_law_tried" = some (some (.ref f_12)))
    (l_12 : K.lookup f_12 = some ⟨oc_12, od_12, .func (PySem.W.fnOf "_law_tried" "_law_tried" (defArgs st__law_tried) (defBody st__law_tried) (defScope st__law_tried) .none kV_12 dc_12 pm_12 an_12 cd_12 ct_12), sl_12⟩)
    (z_12 : PySem.W.codeIn K cd_12 "_law_tried" = true)
    (p_12 : PySem.W.keepIn K (.ref f_12) = true)
    (a_13 : PySem.W.nsIn K mainGlobals "_law_are_rules" = some (some (.ref f_13)))
    (l_13 : K.lookup f_13 = some ⟨oc_13, od_13, .func (PySem.W.fnOf "_law_are_rules" "_law_are_rules" (defArgs st__law_are_rules) (defBody st__law_are_rules) (defScope st__law_are_rules) .none kV_13 dc_13 pm_13 an_13 cd_13 ct_13), sl_13⟩)
    (z_13 : PySem.W.codeIn K cd_13 "_law_are_rules" = true)
    (p_13 : PySem.W.keepIn K (.ref f_13) = true)
    (a_14 : PySem.W.nsIn K mainGlobals "law" = some (some (.ref f_14)))
    (l_14 : K.lookup f_14 = some ⟨oc_14, od_14, .func (PySem.W.fnOf "law" "law" (defArgs st_law) (defBody st_law) (defScope st_law) .none kV_14 dc_14 pm_14 an_14 cd_14 ct_14), sl_14⟩)
    (z_14 : PySem.W.codeIn K cd_14 "law" = true)
    (p_14 : PySem.W.keepIn K (.ref f_14) = true) : Top K mg (ec_ c_BadRules c_BadText c_BadNumber c_BadState c_Unlike c_LearnError) where
  B_list := PySem.W.mg_none_of X G b_list
  B_sorted := PySem.W.mg_none_of X G b_sorted
  B_set := PySem.W.mg_none_of X G b_set
  B_all := PySem.W.mg_none_of X G b_all
  B_len := PySem.W.mg_none_of X G b_len
  B_range := PySem.W.mg_none_of X G b_range
  B_str := PySem.W.mg_none_of X G b_str
  B_int := PySem.W.mg_none_of X G b_int
  B_tuple := PySem.W.mg_none_of X G b_tuple
  B_isinstance := PySem.W.mg_none_of X G b_isinstance
  B_ValueError := PySem.W.mg_none_of X G b_ValueError
  K_MOST_THINGS := ⟨_, PySem.W.mg_of X G k_MOST_THINGS⟩
  K_MOST_RULES := ⟨_, PySem.W.mg_of X G k_MOST_RULES⟩
  K_FIGURES := ⟨_, PySem.W.mg_of X G k_FIGURES⟩
  X_BadRules := by rw [e_BadRules]; exact PySem.W.mg_of X G g_BadRules
  X_BadText := by rw [e_BadText]; exact PySem.W.mg_of X G g_BadText
  X_BadNumber := by rw [e_BadNumber]; exact PySem.W.mg_of X G g_BadNumber
  X_BadState := by rw [e_BadState]; exact PySem.W.mg_of X G g_BadState
  X_Unlike := by rw [e_Unlike]; exact PySem.W.mg_of X G g_Unlike
  X_LearnError := by rw [e_LearnError]; exact PySem.W.mg_of X G g_LearnError
  Y_BadRules := by rw [e_BadRules]; exact x_BadRules
  Z_BadRules := by rw [e_BadRules]; exact kp_BadRules
  R1_BadRules := by rw [e_BadRules]; exact r1_BadRules
  R2_BadRules := by rw [e_BadRules]; exact r2_BadRules
  Y_BadText := by rw [e_BadText]; exact x_BadText
  Z_BadText := by rw [e_BadText]; exact kp_BadText
  R1_BadText := by rw [e_BadText]; exact r1_BadText
  R2_BadText := by rw [e_BadText]; exact r2_BadText
  I_BadNumber := by
    rw [e_BadNumber]
    refine isT_exc tbl_BadNumber fun p hp => ?_
    unfold tbl_BadNumber at hp
    simp only [List.mem_cons, List.not_mem_nil, or_false] at hp
    rcases hp with rfl | rfl
    · have e := e_BadRules c_BadRules c_BadText c_BadNumber c_BadState c_Unlike c_LearnError
      dsimp only
      rw [e]; exact ⟨⟨hg_BadRules, hk_BadRules, r1_BadRules, hd_BadRules, ha_BadRules, hn_, ht_, hm_BadRules⟩, kit_cls hd_BadNumber r2_BadNumber o_BadRules_BadNumber fun z => absurd z n_BadRules_BadNumber⟩
    · have e := e_BadText c_BadRules c_BadText c_BadNumber c_BadState c_Unlike c_LearnError
      dsimp only
      rw [e]; exact ⟨⟨hg_BadText, hk_BadText, r1_BadText, hd_BadText, ha_BadText, hn_, ht_, hm_BadText⟩, kit_cls hd_BadNumber r2_BadNumber o_BadText_BadNumber fun z => absurd z n_BadText_BadNumber⟩
  I_BadRules := by
    rw [e_BadRules]
    refine isT_exc tbl_BadRules fun p hp => ?_
    unfold tbl_BadRules at hp
    simp only [List.mem_cons, List.not_mem_nil, or_false] at hp
    rcases hp with rfl | rfl
    · have e := e_BadRules c_BadRules c_BadText c_BadNumber c_BadState c_Unlike c_LearnError
      dsimp only
      rw [e]; exact ⟨⟨hg_BadRules, hk_BadRules, r1_BadRules, hd_BadRules, ha_BadRules, hn_, ht_, hm_BadRules⟩, kit_cls hd_BadRules r2_BadRules o_BadRules_BadRules fun _ => rfl⟩
    · have e := e_BadText c_BadRules c_BadText c_BadNumber c_BadState c_Unlike c_LearnError
      dsimp only
      rw [e]; exact ⟨⟨hg_BadText, hk_BadText, r1_BadText, hd_BadText, ha_BadText, hn_, ht_, hm_BadText⟩, kit_cls hd_BadRules r2_BadRules o_BadText_BadRules fun z => absurd z n_BadText_BadRules⟩
  I_BadState := by
    rw [e_BadState]
    refine isT_exc tbl_BadState fun p hp => ?_
    unfold tbl_BadState at hp
    simp only [List.mem_cons, List.not_mem_nil, or_false] at hp
    rcases hp with rfl | rfl
    · have e := e_BadRules c_BadRules c_BadText c_BadNumber c_BadState c_Unlike c_LearnError
      dsimp only
      rw [e]; exact ⟨⟨hg_BadRules, hk_BadRules, r1_BadRules, hd_BadRules, ha_BadRules, hn_, ht_, hm_BadRules⟩, kit_cls hd_BadState r2_BadState o_BadRules_BadState fun z => absurd z n_BadRules_BadState⟩
    · have e := e_BadText c_BadRules c_BadText c_BadNumber c_BadState c_Unlike c_LearnError
      dsimp only
      rw [e]; exact ⟨⟨hg_BadText, hk_BadText, r1_BadText, hd_BadText, ha_BadText, hn_, ht_, hm_BadText⟩, kit_cls hd_BadState r2_BadState o_BadText_BadState fun z => absurd z n_BadText_BadState⟩
  I_BadText := by
    rw [e_BadText]
    refine isT_exc tbl_BadText fun p hp => ?_
    unfold tbl_BadText at hp
    simp only [List.mem_cons, List.not_mem_nil, or_false] at hp
    rcases hp with rfl | rfl
    · have e := e_BadRules c_BadRules c_BadText c_BadNumber c_BadState c_Unlike c_LearnError
      dsimp only
      rw [e]; exact ⟨⟨hg_BadRules, hk_BadRules, r1_BadRules, hd_BadRules, ha_BadRules, hn_, ht_, hm_BadRules⟩, kit_cls hd_BadText r2_BadText o_BadRules_BadText fun z => absurd z n_BadRules_BadText⟩
    · have e := e_BadText c_BadRules c_BadText c_BadNumber c_BadState c_Unlike c_LearnError
      dsimp only
      rw [e]; exact ⟨⟨hg_BadText, hk_BadText, r1_BadText, hd_BadText, ha_BadText, hn_, ht_, hm_BadText⟩, kit_cls hd_BadText r2_BadText o_BadText_BadText fun _ => rfl⟩
  I_Unlike := by
    rw [e_Unlike]
    refine isT_exc tbl_Unlike fun p hp => ?_
    unfold tbl_Unlike at hp
    simp only [List.mem_cons, List.not_mem_nil, or_false] at hp
    rcases hp with rfl | rfl
    · have e := e_BadRules c_BadRules c_BadText c_BadNumber c_BadState c_Unlike c_LearnError
      dsimp only
      rw [e]; exact ⟨⟨hg_BadRules, hk_BadRules, r1_BadRules, hd_BadRules, ha_BadRules, hn_, ht_, hm_BadRules⟩, kit_cls hd_Unlike r2_Unlike o_BadRules_Unlike fun z => absurd z n_BadRules_Unlike⟩
    · have e := e_BadText c_BadRules c_BadText c_BadNumber c_BadState c_Unlike c_LearnError
      dsimp only
      rw [e]; exact ⟨⟨hg_BadText, hk_BadText, r1_BadText, hd_BadText, ha_BadText, hn_, ht_, hm_BadText⟩, kit_cls hd_Unlike r2_Unlike o_BadText_Unlike fun z => absurd z n_BadText_Unlike⟩
  I_ValueError := by
    refine isT_exc tbl_ValueError fun p hp => ?_
    unfold tbl_ValueError at hp
    simp only [List.mem_cons, List.not_mem_nil, or_false] at hp
    rcases hp with rfl | rfl
    · have e := e_BadRules c_BadRules c_BadText c_BadNumber c_BadState c_Unlike c_LearnError
      dsimp only
      rw [e]; exact ⟨⟨hg_BadRules, hk_BadRules, r1_BadRules, hd_BadRules, ha_BadRules, hn_, ht_, hm_BadRules⟩, kit_type (by decide +kernel) o_BadRules_ValueError⟩
    · have e := e_BadText c_BadRules c_BadText c_BadNumber c_BadState c_Unlike c_LearnError
      dsimp only
      rw [e]; exact ⟨⟨hg_BadText, hk_BadText, r1_BadText, hd_BadText, ha_BadText, hn_, ht_, hm_BadText⟩, kit_type (by decide +kernel) o_BadText_ValueError⟩
  L_BadRules := fun c b hb => by
    unfold below_BadRules at hb
    by_cases h_BadRules : c = "BadRules"
    · rw [if_pos h_BadRules] at hb; cases hb; subst h_BadRules; rw [e_BadRules]; exact PySem.W.exm_ref r1_BadRules hd_BadRules r2_BadRules o_BadRules_BadRules
    rw [if_neg h_BadRules] at hb
    by_cases h_BadText : c = "BadText"
    · rw [if_pos h_BadText] at hb; cases hb; subst h_BadText; rw [e_BadText, e_BadRules]; exact PySem.W.exm_ref r1_BadRules hd_BadRules r2_BadRules o_BadText_BadRules
    rw [if_neg h_BadText] at hb
    exact nomatch hb
  L_LearnError := fun c b hb => by
    unfold below_LearnError at hb
    by_cases h_BadRules : c = "BadRules"
    · rw [if_pos h_BadRules] at hb; cases hb; subst h_BadRules; rw [e_BadRules, e_LearnError]; exact PySem.W.exm_ref r1_LearnError hd_LearnError r2_LearnError o_BadRules_LearnError
    rw [if_neg h_BadRules] at hb
    by_cases h_BadText : c = "BadText"
    · rw [if_pos h_BadText] at hb; cases hb; subst h_BadText; rw [e_BadText, e_LearnError]; exact PySem.W.exm_ref r1_LearnError hd_LearnError r2_LearnError o_BadText_LearnError
    rw [if_neg h_BadText] at hb
    exact nomatch hb
  D_is_set := ⟨_, _, PySem.W.mg_of X G a_0, fun_mk (st := st_is_set) l_0 z_0 p_0, (fun_mk (st := st_is_set) l_0 z_0 p_0).binds (ps := ["many", "things"]) fun _ _ _ _ _ _ us hl => match us, hl with | [_, _], _ => rfl⟩
  D_look_rules := ⟨_, _, PySem.W.mg_of X G a_1, fun_mk (st := st_look_rules) l_1 z_1 p_1, (fun_mk (st := st_look_rules) l_1 z_1 p_1).binds (ps := ["rules"]) fun _ _ _ _ _ _ us hl => match us, hl with | [_], _ => rfl⟩
  D_written := ⟨_, _, PySem.W.mg_of X G a_2, fun_mk (st := st_written) l_2 z_2 p_2, (fun_mk (st := st_written) l_2 z_2 p_2).binds (ps := ["rules"]) fun _ _ _ _ _ _ us hl => match us, hl with | [_], _ => rfl⟩
  D_number_in := ⟨_, _, PySem.W.mg_of X G a_3, fun_mk (st := st_number_in) l_3 z_3 p_3, (fun_mk (st := st_number_in) l_3 z_3 p_3).binds (ps := ["word"]) fun _ _ _ _ _ _ us hl => match us, hl with | [_], _ => rfl⟩
  D_read := ⟨_, _, PySem.W.mg_of X G a_4, fun_mk (st := st_read) l_4 z_4 p_4, (fun_mk (st := st_read) l_4 z_4 p_4).binds (ps := ["text"]) fun _ _ _ _ _ _ us hl => match us, hl with | [_], _ => rfl⟩
  D__law_cell := ⟨_, _, PySem.W.mg_of X G a_5, fun_mk (st := st__law_cell) l_5 z_5 p_5, (fun_mk (st := st__law_cell) l_5 z_5 p_5).binds (ps := ["_law_script", "_law_k"]) fun _ _ _ _ _ _ us hl => match us, hl with | [_, _], _ => rfl⟩
  D__law_mix := ⟨_, _, PySem.W.mg_of X G a_6, fun_mk (st := st__law_mix) l_6 z_6 p_6, (fun_mk (st := st__law_mix) l_6 z_6 p_6).binds (ps := ["_law_script", "_law_k"]) fun _ _ _ _ _ _ us hl => match us, hl with | [_, _], _ => rfl⟩
  D__law_subset := ⟨_, _, PySem.W.mg_of X G a_7, fun_mk (st := st__law_subset) l_7 z_7 p_7, (fun_mk (st := st__law_subset) l_7 z_7 p_7).binds (ps := ["_law_script", "_law_k", "_law_things"]) fun _ _ _ _ _ _ us hl => match us, hl with | [_, _, _], _ => rfl⟩
  D__law_rules := ⟨_, _, PySem.W.mg_of X G a_8, fun_mk (st := st__law_rules) l_8 z_8 p_8, (fun_mk (st := st__law_rules) l_8 z_8 p_8).binds (ps := ["_law_script", "_law_k", "_law_most"]) fun _ _ _ _ _ _ us hl => match us, hl with | [_, _, _], _ => rfl⟩
  D__law_refusal := ⟨_, _, PySem.W.mg_of X G a_9, fun_mk (st := st__law_refusal) l_9 z_9 p_9, (fun_mk (st := st__law_refusal) l_9 z_9 p_9).binds (ps := ["_law_kept"]) fun _ _ _ _ _ _ us hl => match us, hl with | [_], _ => rfl⟩
  D__law_text := ⟨_, _, PySem.W.mg_of X G a_10, fun_mk (st := st__law_text) l_10 z_10 p_10, (fun_mk (st := st__law_text) l_10 z_10 p_10).binds (ps := ["_law_rules_here"]) fun _ _ _ _ _ _ us hl => match us, hl with | [_], _ => rfl⟩
  D__law_numbers := ⟨_, _, PySem.W.mg_of X G a_11, fun_mk (st := st__law_numbers) l_11 z_11 p_11, (fun_mk (st := st__law_numbers) l_11 z_11 p_11).binds (ps := ["_law_words"]) fun _ _ _ _ _ _ us hl => match us, hl with | [_], _ => rfl⟩
  D__law_tried := ⟨_, _, PySem.W.mg_of X G a_12, fun_mk (st := st__law_tried) l_12 z_12 p_12, (fun_mk (st := st__law_tried) l_12 z_12 p_12).binds (ps := ["_law_text_here"]) fun _ _ _ _ _ _ us hl => match us, hl with | [_], _ => rfl⟩
  D__law_are_rules := ⟨_, _, PySem.W.mg_of X G a_13, fun_mk (st := st__law_are_rules) l_13 z_13 p_13, (fun_mk (st := st__law_are_rules) l_13 z_13 p_13).binds (ps := ["_law_tried_here"]) fun _ _ _ _ _ _ us hl => match us, hl with | [_], _ => rfl⟩
  D_law := ⟨_, _, PySem.W.mg_of X G a_14, fun_mk (st := st_law) l_14 z_14 p_14, (fun_mk (st := st_law) l_14 z_14 p_14).binds (ps := ["_law_script"]) fun _ _ _ _ _ _ us hl => match us, hl with | [_], _ => rfl⟩
def spLaw (K : PySem.W.Frag) : Sp := fun vs H Q _ => ∃ (a : Addr) (ns : List Int), vs = [.ref a] ∧ SqL K H a (ns.map V.int) ∧ ns.length ≤ 63 ∧ ∀ z, Q (.bl true) z
theorem law_ok {l : PySem.W.OpenLaw} {w : World} {K : PySem.W.Frag} {mg : Str → Option Value} {ec : String → Addr} (T : Top K mg ec) {fa : Addr} (hfa : mg "law" = some (.ref fa)) :
    ∃ fd : FuncData, (∀ (s : Shared) (v : Value), BindsTo s fd ⟨[v], []⟩ [("_law_script", v)]) ∧ ∀ base : Heap, K.In base → base.Ns mainGlobals mg → FnOk l.prog w K mg base (L2.CX l.prog w) 5 fa fd ["_law_script"] (spLaw K) := by
  obtain ⟨f, fd, hm, F, hb⟩ := T.D_law
  rw [hfa] at hm
  cases hm
  refine ⟨fd, fun s v => ?_, fun base _ _ => (okF_law T F).imp fun vs H Q E ⟨a, ns, e, hS, hl, q⟩ => ⟨H, [scrD ns], Ex.refl H, ?_, rfl, ?_⟩⟩
  · obtain ⟨oc, od, kV, doc, pm, an, cdv, ct, osl, rfl, lk, hcd⟩ := F.ex
    exact .of_eq rfl
  · subst e
    exact .cons (.scr hS) .nil
  · rw [law_true ns hl]
    intro v F2 H2 x r
    cases r
    exact q H2
end LY
open PySem PySem.W PyProof.Rows
set_option maxHeartbeats 0 in
theorem PySem.Challenge.cw_learnyard_k60_texts_holds : PySem.Challenge.rw_learnyard_k60_texts.Holds := by
  w_on; o_law; k_head; (case hw => w_witness2)
  k_fill
  refine L2.walk_of (l := PySem.Challenge.rw_learnyard_k60_texts) (n := 63) (k := 5) (x := "_law_script") (CX := fun w => L2.CX PySem.Challenge.rw_learnyard_k60_texts.prog w) (sp := fun w => LY.spLaw _) rfl (by decide) rfl ⟨rfl, by decide, by decide⟩ (fun w h Y => PySem.W.kIn_of Y) ?F (fun _ _ a ns hl _ hS => ⟨a, ns, rfl, hS, hl, fun _ => rfl⟩) (fun _ _ _ _ _ ⟨_, _, _, _, _, _, _, _, _, _, _, _, z⟩ => z)
  case F =>
    intro w mg fa h KX G hmg
    refine' LY.law_ok (LY.top_mk KX G ?b_list ?b_sorted ?b_set ?b_all ?b_len ?b_range ?b_str ?b_int ?b_tuple ?b_isinstance ?b_ValueError ?k_MOST_THINGS ?k_MOST_RULES ?k_FIGURES ?g_BadRules ?g_BadText ?g_BadNumber ?g_BadState ?g_Unlike ?g_LearnError ?x_BadRules ?kp_BadRules ?r1_BadRules ?r2_BadRules ?hg_BadRules ?hk_BadRules ?hd_BadRules ?ha_BadRules ?hm_BadRules ?x_BadText ?kp_BadText ?r1_BadText ?r2_BadText ?hg_BadText ?hk_BadText ?hd_BadText ?ha_BadText ?hm_BadText ?hn_ ?ht_ ?n_BadRules_BadNumber ?n_BadText_BadNumber ?n_BadText_BadRules ?n_BadRules_BadState ?n_BadText_BadState ?n_BadRules_BadText ?n_BadRules_Unlike ?n_BadText_Unlike ?o_BadRules_BadNumber ?o_BadText_BadNumber ?o_BadRules_BadRules ?o_BadText_BadRules ?o_BadRules_BadState ?o_BadText_BadState ?o_BadRules_BadText ?o_BadText_BadText ?o_BadRules_Unlike ?o_BadText_Unlike ?o_BadRules_ValueError ?o_BadText_ValueError ?o_BadRules_LearnError ?o_BadText_LearnError ?hd_BadNumber ?r1_BadNumber ?r2_BadNumber ?hd_BadState ?r1_BadState ?r2_BadState ?hd_Unlike ?r1_Unlike ?r2_Unlike ?hd_LearnError ?r1_LearnError ?r2_LearnError ?a_0 ?l_0 ?z_0 ?p_0 ?a_1 ?l_1 ?z_1 ?p_1 ?a_2 ?l_2 ?z_2 ?p_2 ?a_3 ?l_3 ?z_3 ?p_3 ?a_4 ?l_4 ?z_4 ?p_4 ?a_5 ?l_5 ?z_5 ?p_5 ?a_6 ?l_6 ?z_6 ?p_6 ?a_7 ?l_7 ?z_7 ?p_7 ?a_8 ?l_8 ?z_8 ?p_8 ?a_9 ?l_9 ?z_9 ?p_9 ?a_10 ?l_10 ?z_10 ?p_10 ?a_11 ?l_11 ?z_11 ?p_11 ?a_12 ?l_12 ?z_12 ?p_12 ?a_13 ?l_13 ?z_13 ?p_13 ?a_14 ?l_14 ?z_14 ?p_14) hmg
    (case b_list => k_is)
    (case b_sorted => k_is)
    (case b_set => k_is)
    (case b_all => k_is)
    (case b_len => k_is)
    (case b_range => k_is)
    (case b_str => k_is)
    (case b_int => k_is)
    (case b_tuple => k_is)
    (case b_isinstance => k_is)
    (case b_ValueError => k_is)
    (case k_MOST_THINGS => k_is)
    (case k_MOST_RULES => k_is)
    (case k_FIGURES => k_is)
    (case g_BadRules => k_is)
    (case g_BadText => k_is)
    (case g_BadNumber => k_is)
    (case g_BadState => k_is)
    (case g_Unlike => k_is)
    (case g_LearnError => k_is)
    (case x_BadRules => k_exc)
    (case kp_BadRules => k_is)
    (case r1_BadRules => k_is)
    (case r2_BadRules => k_is)
    (case hg_BadRules => k_is)
    (case hk_BadRules => k_is)
    (case hd_BadRules => k_is)
    (case ha_BadRules => k_is)
    (case hm_BadRules => k_is)
    (case x_BadText => k_exc)
    (case kp_BadText => k_is)
    (case r1_BadText => k_is)
    (case r2_BadText => k_is)
    (case hg_BadText => k_is)
    (case hk_BadText => k_is)
    (case hd_BadText => k_is)
    (case ha_BadText => k_is)
    (case hm_BadText => k_is)
    (case hn_ => k_is)
    (case ht_ => k_is)
    (case n_BadRules_BadNumber => decide)
    (case n_BadText_BadNumber => decide)
    (case n_BadText_BadRules => decide)
    (case n_BadRules_BadState => decide)
    (case n_BadText_BadState => decide)
    (case n_BadRules_BadText => decide)
    (case n_BadRules_Unlike => decide)
    (case n_BadText_Unlike => decide)
    (case o_BadRules_BadNumber => k_is)
    (case o_BadText_BadNumber => k_is)
    (case o_BadRules_BadRules => k_is)
    (case o_BadText_BadRules => k_is)
    (case o_BadRules_BadState => k_is)
    (case o_BadText_BadState => k_is)
    (case o_BadRules_BadText => k_is)
    (case o_BadText_BadText => k_is)
    (case o_BadRules_Unlike => k_is)
    (case o_BadText_Unlike => k_is)
    (case o_BadRules_ValueError => k_is)
    (case o_BadText_ValueError => k_is)
    (case o_BadRules_LearnError => k_is)
    (case o_BadText_LearnError => k_is)
    (case hd_BadNumber => k_is)
    (case r1_BadNumber => k_is)
    (case r2_BadNumber => k_is)
    (case hd_BadState => k_is)
    (case r1_BadState => k_is)
    (case r2_BadState => k_is)
    (case hd_Unlike => k_is)
    (case r1_Unlike => k_is)
    (case r2_Unlike => k_is)
    (case hd_LearnError => k_is)
    (case r1_LearnError => k_is)
    (case r2_LearnError => k_is)
    (case a_0 => k_is)
    (case l_0 => k_is)
    (case z_0 => k_is)
    (case p_0 => k_is)
    (case a_1 => k_is)
    (case l_1 => k_is)
    (case z_1 => k_is)
    (case p_1 => k_is)
    (case a_2 => k_is)
    (case l_2 => k_is)
    (case z_2 => k_is)
    (case p_2 => k_is)
    (case a_3 => k_is)
    (case l_3 => k_is)
    (case z_3 => k_is)
    (case p_3 => k_is)
    (case a_4 => k_is)
    (case l_4 => k_is)
    (case z_4 => k_is)
    (case p_4 => k_is)
    (case a_5 => k_is)
    (case l_5 => k_is)
    (case z_5 => k_is)
    (case p_5 => k_is)
    (case a_6 => k_is)
    (case l_6 => k_is)
    (case z_6 => k_is)
    (case p_6 => k_is)
    (case a_7 => k_is)
    (case l_7 => k_is)
    (case z_7 => k_is)
    (case p_7 => k_is)
    (case a_8 => k_is)
    (case l_8 => k_is)
    (case z_8 => k_is)
    (case p_8 => k_is)
    (case a_9 => k_is)
    (case l_9 => k_is)
    (case z_9 => k_is)
    (case p_9 => k_is)
    (case a_10 => k_is)
    (case l_10 => k_is)
    (case z_10 => k_is)
    (case p_10 => k_is)
    (case a_11 => k_is)
    (case l_11 => k_is)
    (case z_11 => k_is)
    (case p_11 => k_is)
    (case a_12 => k_is)
    (case l_12 => k_is)
    (case z_12 => k_is)
    (case p_12 => k_is)
    (case a_13 => k_is)
    (case l_13 => k_is)
    (case z_13 => k_is)
    (case p_13 => k_is)
    (case a_14 => k_is)
    (case l_14 => k_is)
    (case z_14 => k_is)
    (case p_14 => k_is)

