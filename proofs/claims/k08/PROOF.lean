import PyProof.Rows.All
import Wide.All
import OpenK.AllK
import Wide.FinOn
import HandS.ForMost
import HandS.ForExc
import HandS.IsInst
import HandS.Wide
import HandS.TupAny
import HandS.TupMul
import HandS.SortInts
import HandS.TryMany
import HandS.ExcInit
import HandS.ExcField
import HandS.Style
import HandS.Small
import KE.KStateDown
import HandS.Conv
import HandS.DictComp
import HandS.Zip
import HandS.Defaults
import HandS.Head0
import HandS.Head1
import HandS.Head2
import HandS.HeadEnd
import HandS.HeadHook1
import HandS.HeadHook2
import PySem.Challenge.RW_movedinplace_k08_whole_costs_of_blocks
set_option Elab.async false
set_option linter.all false
set_option maxRecDepth 100000
set_option maxHeartbeats 4000000
set_option maxRecDepth 100000
set_option maxHeartbeats 4000000
/-! data over frozen heaps, steps of the heap, the slots' words -/
namespace Mv
open PySem L2

/-! ### data -/
mutual
inductive Rp (K : PySem.W.Frag) (F : Hp) : V → PyData → Prop
  | non : Rp K F .non .none
  | bl (b : Bool) : Rp K F (.bl b) (.bool b)
  | int (i : Int) : Rp K F (.int i) (.int i)
  | str (x : Str) : Rp K F (.str x) (.str x)
  | lst {a : Addr} {xs : List V} {ds : List PyData} : F a = some (.lst xs) → RpAll K F xs ds → Rp K F (.ref a) (.list ds)
  | tup {a : Addr} {xs : List V} {ds : List PyData} : SqT K F a xs → RpAll K F xs ds → Rp K F (.ref a) (.tuple ds)
  | dct {a : Addr} : F a = some (.dK []) → Rp K F (.ref a) (.dict [])
inductive RpAll (K : PySem.W.Frag) (F : Hp) : List V → List PyData → Prop
  | nil : RpAll K F [] []
  | cons {v : V} {vs : List V} {d : PyData} {ds : List PyData} : Rp K F v d → RpAll K F vs ds → RpAll K F (v :: vs) (d :: ds)
end

theorem same_t {K : PySem.W.Frag} {H H' : Hp} {a : Addr} {xs : List V} (e : Same H H') (h : SqT K H a xs) : SqT K H' a xs := by
  rcases h with (h | ⟨o, h⟩) | h
  · exact .inl (.inl (e _ _ h))
  · exact .inl (.inr ⟨o, e _ _ h⟩)
  · exact .inr h
theorem same_new {H : Hp} {p : Addr} {o : HO} (h : H p = none) : Same H (upd H p o) := fun b x e => by
  rw [upd_ne (ne_of_none e h)]
  exact e

mutual
theorem Rp.mono {K : PySem.W.Frag} {F F' : Hp} (e : Same F F') : ∀ (d : PyData) (v : V), Rp K F v d → Rp K F' v d
  | .none, _, h => by cases h; exact .non
  | .bool _, _, h => by cases h; exact .bl _
  | .int _, _, h => by cases h; exact .int _
  | .str _, _, h => by cases h; exact .str _
  | .list ds, _, h => by
    cases h with
    | lst s a => exact .lst (e _ _ s) (RpAll.mono e ds _ a)
  | .tuple ds, _, h => by
    cases h with
    | tup s a => exact .tup (same_t e s) (RpAll.mono e ds _ a)
  | .dict _, _, h => by
    cases h with
    | dct s => exact .dct (e _ _ s)
theorem RpAll.mono {K : PySem.W.Frag} {F F' : Hp} (e : Same F F') : ∀ (ds : List PyData) (vs : List V), RpAll K F vs ds → RpAll K F' vs ds
  | [], _, h => by cases h; exact .nil
  | d :: ds, _, h => by
    cases h with
    | cons h1 h2 => exact .cons (Rp.mono e d _ h1) (RpAll.mono e ds _ h2)
end

/-! no dict within -/
mutual
def noDict : PyData → Bool
  | .list ds => noDictAll ds
  | .tuple ds => noDictAll ds
  | .dict _ => false
  | _ => true
def noDictAll : List PyData → Bool
  | [] => true
  | d :: ds => noDict d && noDictAll ds
end
mutual
theorem Rp.dp {K : PySem.W.Frag} {F : Hp} : ∀ (d : PyData) (v : V), noDict d = true → Rp K F v d → Dp K F v d
  | .none, _, _, h => by cases h; exact .non
  | .bool _, _, _, h => by cases h; exact .bl _
  | .int _, _, _, h => by cases h; exact .int _
  | .str _, _, _, h => by cases h; exact .str _
  | .list ds, _, n, h => by
    cases h with
    | lst s a => exact .lst (SqL.of s) (RpAll.dp ds _ (by simpa [noDict] using n) a)
  | .tuple ds, _, n, h => by
    cases h with
    | tup s a => exact .tup s (RpAll.dp ds _ (by simpa [noDict] using n) a)
  | .dict _, _, n, _ => by simp [noDict] at n
theorem RpAll.dp {K : PySem.W.Frag} {F : Hp} : ∀ (ds : List PyData) (vs : List V), noDictAll ds = true → RpAll K F vs ds → DpAll K F vs ds
  | [], _, _, h => by cases h; exact .nil
  | d :: ds, _, n, h => by
    cases h with
    | cons h1 h2 =>
      have n' : noDict d = true ∧ noDictAll ds = true := by simpa [noDictAll] using n
      exact .cons (Rp.dp d _ n'.1 h1) (RpAll.dp ds _ n'.2 h2)
end

section
variable {K : PySem.W.Frag} {F F' : Hp}
theorem RpAll.len : ∀ {vs : List V} {ds : List PyData}, RpAll K F vs ds → vs.length = ds.length
  | _, _, .nil => rfl
  | _, _, .cons _ h => by rw [List.length_cons, List.length_cons, h.len]
theorem RpAll.get : ∀ {vs : List V} {ds : List PyData} {i : Nat} {d : PyData}, RpAll K F vs ds → ds[i]? = some d → ∃ v, vs[i]? = some v ∧ Rp K F v d
  | _, _, _, _, .nil, e => by simp at e
  | _, _, 0, _, .cons r _, e => by simp at e; subst e; exact ⟨_, rfl, r⟩
  | _, _, i + 1, d, .cons _ t, e => by
    obtain ⟨v, h1, h2⟩ := RpAll.get (i := i) (d := d) t (by simpa using e)
    exact ⟨v, by simpa using h1, h2⟩
theorem RpAll.getV : ∀ {vs : List V} {ds : List PyData} {i : Nat} {v : V}, RpAll K F vs ds → vs[i]? = some v → ∃ d, ds[i]? = some d ∧ Rp K F v d
  | _, _, _, _, .nil, e => by simp at e
  | _, _, 0, _, .cons r _, e => by simp at e; subst e; exact ⟨_, rfl, r⟩
  | _, _, i + 1, d, .cons _ t, e => by
    obtain ⟨v, h1, h2⟩ := RpAll.getV (i := i) (v := d) t (by simpa using e)
    exact ⟨v, by simpa using h1, h2⟩
theorem RpAll.append : ∀ {vs ws : List V} {ds es : List PyData}, RpAll K F vs ds → RpAll K F ws es → RpAll K F (vs ++ ws) (ds ++ es)
  | _, _, _, _, .nil, h => h
  | _, _, _, _, .cons r t, h => .cons r (t.append h)
theorem RpAll.take : ∀ {vs : List V} {ds : List PyData} (n : Nat), RpAll K F vs ds → RpAll K F (vs.take n) (ds.take n)
  | _, _, 0, _ => by simpa using RpAll.nil
  | _, _, _ + 1, .nil => by simpa using RpAll.nil
  | _, _, n + 1, .cons r t => by simpa using RpAll.cons r (t.take n)
theorem RpAll.drop : ∀ {vs : List V} {ds : List PyData} (n : Nat), RpAll K F vs ds → RpAll K F (vs.drop n) (ds.drop n)
  | _, _, 0, h => by simpa using h
  | _, _, _ + 1, .nil => by simpa using RpAll.nil
  | _, _, n + 1, .cons _ t => by simpa using t.drop n
theorem RpAll.set : ∀ {vs : List V} {ds : List PyData} {v : V} {d : PyData} (i : Nat), RpAll K F vs ds → Rp K F v d → RpAll K F (vs.set i v) (ds.set i d)
  | _, _, _, _, _, .nil, _ => by simpa using RpAll.nil
  | _, _, _, _, 0, .cons _ t, h => by simpa using RpAll.cons h t
  | _, _, _, _, i + 1, .cons r t, h => by simpa using RpAll.cons r (t.set i h)
theorem RpAll.reverse : ∀ {vs : List V} {ds : List PyData}, RpAll K F vs ds → RpAll K F vs.reverse ds.reverse
  | _, _, .nil => .nil
  | _, _, .cons r t => by
    rw [List.reverse_cons, List.reverse_cons]
    exact t.reverse.append (.cons r .nil)
theorem Rp.non_inv {v : V} (h : Rp K F v .none) : v = .non := by cases h; rfl
theorem Rp.bl_inv {v : V} {b : Bool} (h : Rp K F v (.bool b)) : v = .bl b := by cases h; rfl
theorem Rp.int_inv {v : V} {i : Int} (h : Rp K F v (.int i)) : v = .int i := by cases h; rfl
theorem Rp.str_inv {v : V} {i : Str} (h : Rp K F v (.str i)) : v = .str i := by cases h; rfl
theorem Rp.lst_inv {v : V} {ds : List PyData} (h : Rp K F v (.list ds)) : ∃ a xs, v = .ref a ∧ F a = some (.lst xs) ∧ RpAll K F xs ds := by
  cases h with
  | lst s a => exact ⟨_, _, rfl, s, a⟩
theorem Rp.tup_inv {v : V} {ds : List PyData} (h : Rp K F v (.tuple ds)) : ∃ a xs, v = .ref a ∧ SqT K F a xs ∧ RpAll K F xs ds := by
  cases h with
  | tup s a => exact ⟨_, _, rfl, s, a⟩
theorem Rp.dct_inv {v : V} {ds : List (PyData × PyData)} (h : Rp K F v (.dict ds)) : ∃ a, v = .ref a ∧ ds = [] ∧ F a = some (.dK []) := by
  cases h with
  | dct s => exact ⟨_, rfl, rfl, s⟩
/-- ints as values, as data -/
theorem RpAll.ints (K : PySem.W.Frag) (F : Hp) : ∀ (ns : List Int), RpAll K F (ns.map V.int) (ns.map PyData.int)
  | [] => .nil
  | n :: ns => .cons (.int n) (RpAll.ints K F ns)
theorem RpAll.ints_inv : ∀ {ns : List Int} {vs : List V}, RpAll K F vs (ns.map PyData.int) → vs = ns.map V.int
  | [], _, h => by cases h; rfl
  | n :: ns, _, h => by
    cases h with
    | cons h1 h2 => rw [h1.int_inv, RpAll.ints_inv h2]; rfl
theorem RpAll.bls_inv : ∀ {ns : List Bool} {vs : List V}, RpAll K F vs (ns.map PyData.bool) → vs = ns.map V.bl
  | [], _, h => by cases h; rfl
  | n :: ns, _, h => by
    cases h with
    | cons h1 h2 => rw [h1.bl_inv, RpAll.bls_inv h2]; rfl
theorem RpAll.strs_inv : ∀ {ns : List Str} {vs : List V}, RpAll K F vs (ns.map PyData.str) → vs = ns.map V.str
  | [], _, h => by cases h; rfl
  | n :: ns, _, h => by
    cases h with
    | cons h1 h2 => rw [h1.str_inv, RpAll.strs_inv h2]; rfl
theorem RpAll.strs (K : PySem.W.Frag) (F : Hp) : ∀ (ns : List Str), RpAll K F (ns.map V.str) (ns.map PyData.str)
  | [] => .nil
  | n :: ns => .cons (.str n) (RpAll.strs K F ns)
end

/-! ### the draws -/
/-- the state of the draws: a list of ints, the first two not below 0 -/
def DrOk (H : Hp) (p : Addr) : Prop := ∃ a b ns, 0 ≤ a ∧ 0 ≤ b ∧ (∀ n ∈ ns, (0 : Int) ≤ n) ∧ H p = some (.lst ((a :: b :: ns).map V.int))

/-! ### steps of the heap: F the frozen part, H all; M may change -/
structure Step (M : Addr → Prop) (F H F2 H2 : Hp) : Prop where
  fr : Same F F2
  sub : Same F2 H2
  keep : ∀ a o, ¬ M a → H a = some o → H2 a = some o
  new : ∀ a, H a ≠ none → F2 a = F a
  alive : ∀ a, H a ≠ none → H2 a ≠ none
  dr : ∀ a, M a → DrOk H a → DrOk H2 a
section
variable {M M' : Addr → Prop} {F H F1 H1 F2 H2 : Hp}
theorem Step.refl (h : Same F H) : Step M F H F H := ⟨Same.refl F, h, fun _ _ _ e => e, fun _ _ => rfl, fun _ h => h, fun _ _ h => h⟩
theorem Step.trans (a : Step M F H F1 H1) (b : Step M F1 H1 F2 H2) : Step M F H F2 H2 where
  fr := a.fr.trans b.fr
  sub := b.sub
  keep := fun p o n e => b.keep p o n (a.keep p o n e)
  new := fun p n => (b.new p (a.alive p n)).trans (a.new p n)
  alive := fun p n => b.alive p (a.alive p n)
  dr := fun p m d => b.dr p m (a.dr p m d)
/-- nothing is frozen, the heap grows by p -/
theorem Step.own (h : Same F H) {p : Addr} {o : HO} (hp : H p = none) : Step M F H F (upd H p o) where
  fr := Same.refl F
  sub := h.trans (same_new hp)
  keep := fun a x _ e => same_new hp a x e
  new := fun _ _ => rfl
  alive := fun a n => by
    cases e : H a with
    | none => exact absurd e n
    | some x => rw [same_new hp a x e]; exact fun z => nomatch z
  dr := fun a _ ⟨x, y, ns, h1, h2, h3, e⟩ => ⟨x, y, ns, h1, h2, h3, same_new hp _ _ e⟩
theorem none_sub {F H : Hp} (h : Same F H) {p : Addr} (hp : H p = none) : F p = none := Same.free h hp
/-- the new object at p is frozen at once -/
theorem Step.frz (h : Same F H) {p : Addr} {o : HO} (hp : H p = none) : Step M F H (upd F p o) (upd H p o) where
  fr := same_new (none_sub h hp)
  sub := fun a x e => by
    by_cases z : a = p
    · subst z; rw [upd_same] at e; rw [upd_same]; exact e
    · rw [upd_ne z] at e; rw [upd_ne z]; exact h a x e
  keep := fun a x _ e => same_new hp a x e
  new := fun a n => by
    have z : a ≠ p := fun z => n (by rw [z]; exact hp)
    rw [upd_ne z]
  alive := fun a n => by
    cases e : H a with
    | none => exact absurd e n
    | some x => rw [same_new hp a x e]; exact fun z => nomatch z
  dr := fun a _ ⟨x, y, ns, h1, h2, h3, e⟩ => ⟨x, y, ns, h1, h2, h3, same_new hp _ _ e⟩
/-- what stood in the heap is frozen later -/
def fz (F : Hp) (p : Addr) (o : HO) : Hp := upd F p o
theorem Step.weak (hM : ∀ a, M a → M' a ) (h : Step (fun _ => False) F H F2 H2) : Step M F H F2 H2 :=
  ⟨h.fr, h.sub, fun a o _ e => h.keep a o (fun z => z) e, h.new, h.alive, fun a _ ⟨x, y, ns, h1, h2, h3, e⟩ => ⟨x, y, ns, h1, h2, h3, h.keep a _ (fun z => z) e⟩⟩
end

/-! ### slots -/
inductive Sl where
  /-- data that stands still -/
  | dat (d : PyData)
  /-- a list of this def's own, its items -/
  | own (ds : List PyData)
  /-- a dict of this def's own, keys ints and texts -/
  | odk (kvs : List (Key × PyData))
  /-- the draws -/
  | drw
  /-- the script -/
  | scr (ns : List Int)
  | unk
structure Base where
  /-- what the loops around stand upon -/
  G : Hp
  M : Addr → Prop
  F0 : Hp
  H0 : Hp
inductive KvRp (K : PySem.W.Frag) (F : Hp) : List (Key × V) → List (Key × PyData) → Prop
  | nil : KvRp K F [] []
  | cons {k : Key} {v : V} {d : PyData} {vs : List (Key × V)} {ds : List (Key × PyData)} : Rp K F v d → KvRp K F vs ds → KvRp K F ((k, v) :: vs) ((k, d) :: ds)
theorem KvRp.mono {K : PySem.W.Frag} {F F' : Hp} (e : Same F F') : ∀ {vs : List (Key × V)} {ds : List (Key × PyData)}, KvRp K F vs ds → KvRp K F' vs ds
  | _, _, .nil => .nil
  | _, _, .cons h t => .cons (h.mono e) (t.mono e)
def SlOk (K : PySem.W.Frag) (B : Base) (F H : Hp) (o : Option (Option V)) : Sl → Prop
  | .dat d => ∃ v, o = some (some v) ∧ Rp K F v d
  | .own ds => ∃ p vs, o = some (some (.ref p)) ∧ H p = some (.lst vs) ∧ F p = none ∧ B.H0 p = none ∧ ¬ B.M p ∧ RpAll K F vs ds
  | .odk kvs => ∃ p vs, o = some (some (.ref p)) ∧ H p = some (.dK vs) ∧ F p = none ∧ B.H0 p = none ∧ ¬ B.M p ∧ KvRp K F vs kvs
  | .drw => ∃ p, o = some (some (.ref p)) ∧ B.M p ∧ DrOk H p ∧ F p = none
  | .scr ns => ∃ p, o = some (some (.ref p)) ∧ SqL K F p (ns.map V.int)
  | .unk => True
def Sl.isOwn : Sl → Bool
  | .own _ => true
  | .odk _ => true
  | _ => false
structure EnvOk (K : PySem.W.Frag) (B : Base) (F H : Hp) (σ : L2.St) (ρ : List Sl) : Prop where
  st : Step B.M B.F0 B.H0 F H
  mh : ∀ p, B.M p → B.H0 p ≠ none
  gf : Same B.G F
  len : σ.length = ρ.length
  sl : ∀ (i : Nat) (s : Sl), ρ[i]? = some s → SlOk K B F H σ[i]? s
  ne : ∀ (i j : Nat) (s t : Sl) (p : Addr), i ≠ j → ρ[i]? = some s → ρ[j]? = some t → s.isOwn = true → t.isOwn = true → σ[i]? = some (some (.ref p)) → σ[j]? = some (some (.ref p)) → False
section
variable {K : PySem.W.Frag} {B : Base} {F H F2 H2 : Hp} {σ : L2.St} {ρ : List Sl}
theorem EnvOk.sub (h : EnvOk K B F H σ ρ) : Same F H := h.st.sub
theorem SlOk.step {o : Option (Option V)} {s : Sl} (st : Step B.M F H F2 H2) (h : SlOk K B F H o s) : SlOk K B F2 H2 o s := by
  cases s with
  | dat d =>
    obtain ⟨v, e, r⟩ := h
    exact ⟨v, e, r.mono st.fr⟩
  | own ds =>
    obtain ⟨p, vs, e, hp, fp, h0, nm, r⟩ := h
    exact ⟨p, vs, e, st.keep p _ nm hp, by rw [st.new p (by rw [hp]; exact fun z => nomatch z)]; exact fp, h0, nm, r.mono st.fr⟩
  | odk ds =>
    obtain ⟨p, vs, e, hp, fp, h0, nm, r⟩ := h
    exact ⟨p, vs, e, st.keep p _ nm hp, by rw [st.new p (by rw [hp]; exact fun z => nomatch z)]; exact fp, h0, nm, r.mono st.fr⟩
  | drw =>
    obtain ⟨p, e, m, d, fp⟩ := h
    refine ⟨p, e, m, st.dr p m d, ?_⟩
    obtain ⟨a, b, ns, _, _, _, q⟩ := d
    rw [st.new p (by rw [q]; exact fun z => nomatch z)]
    exact fp
  | scr ns =>
    obtain ⟨p, e, q⟩ := h
    exact ⟨p, e, st.fr.seq q⟩
  | unk => trivial
theorem EnvOk.step (h : EnvOk K B F H σ ρ) (st : Step B.M F H F2 H2) : EnvOk K B F2 H2 σ ρ :=
  ⟨h.st.trans st, h.mh, h.gf.trans st.fr, h.len, fun i s e => (h.sl i s e).step st, h.ne⟩
theorem EnvOk.lt {i : Nat} {s : Sl} (h : EnvOk K B F H σ ρ) (e : ρ[i]? = some s) : i < σ.length := by
  rw [h.len]
  exact (List.getElem?_eq_some_iff.mp e).1
/-- a slot is set to data -/
theorem EnvOk.set {i : Nat} {v : V} {d : PyData} (h : EnvOk K B F H σ ρ) (r : Rp K F v d) : EnvOk K B F H (σ.set i (some v)) (ρ.set i (.dat d)) where
  st := h.st
  mh := h.mh
  gf := h.gf
  len := by rw [List.length_set, List.length_set, h.len]
  sl := fun j s e => by
    by_cases hj : j = i
    · subst hj
      have hlt : j < ρ.length := by
        have := (List.getElem?_eq_some_iff.mp e).1
        rwa [List.length_set] at this
      rw [List.getElem?_set_self hlt] at e
      cases e
      rw [List.getElem?_set_self (by rw [h.len]; exact hlt)]
      exact ⟨v, rfl, r⟩
    · rw [List.getElem?_set_ne (Ne.symm hj)] at e ⊢
      exact h.sl j s e
  ne := fun a b s t p n e1 e2 o1 o2 q1 q2 => by
    have ha : a ≠ i := fun z => by
      subst z
      have hlt : a < ρ.length := by
        have := (List.getElem?_eq_some_iff.mp e1).1
        rwa [List.length_set] at this
      rw [List.getElem?_set_self hlt] at e1
      cases e1
      cases o1
    have hb : b ≠ i := fun z => by
      subst z
      have hlt : b < ρ.length := by
        have := (List.getElem?_eq_some_iff.mp e2).1
        rwa [List.length_set] at this
      rw [List.getElem?_set_self hlt] at e2
      cases e2
      cases o2
    rw [List.getElem?_set_ne (Ne.symm ha)] at e1 q1
    rw [List.getElem?_set_ne (Ne.symm hb)] at e2 q2
    exact h.ne a b s t p n e1 e2 o1 o2 q1 q2
/-- fresh now: not the caller's, not borrowed -/
theorem EnvOk.fresh0 (h : EnvOk K B F H σ ρ) {p : Addr} (hp : H p = none) : B.H0 p = none := by
  cases e : B.H0 p with
  | none => rfl
  | some x => exact absurd hp (h.st.alive p (by rw [e]; exact fun z => nomatch z))
theorem EnvOk.notM (h : EnvOk K B F H σ ρ) {p : Addr} (hp : B.H0 p = none) : ¬ B.M p := fun m => h.mh p m hp
/-- a slot is set: what is not own must be as it says, what is own must stand apart -/
theorem EnvOk.put {i : Nat} {v : V} {t : Sl} (h : EnvOk K B F H σ ρ) (ok : SlOk K B F H (some (some v)) t) (ap : t.isOwn = true → ∀ j s, j ≠ i → ρ[j]? = some s → s.isOwn = true → σ[j]? ≠ some (some v)) : EnvOk K B F H (σ.set i (some v)) (ρ.set i t) where
  st := h.st
  mh := h.mh
  gf := h.gf
  len := by rw [List.length_set, List.length_set, h.len]
  sl := fun j s e => by
    by_cases hj : j = i
    · subst hj
      have hlt : j < ρ.length := by
        have := (List.getElem?_eq_some_iff.mp e).1
        rwa [List.length_set] at this
      rw [List.getElem?_set_self hlt] at e
      cases e
      rw [List.getElem?_set_self (by rw [h.len]; exact hlt)]
      exact ok
    · rw [List.getElem?_set_ne (Ne.symm hj)] at e ⊢
      exact h.sl j s e
  ne := fun a b s u p n e1 e2 o1 o2 q1 q2 => by
    have look : ∀ {c : Nat} {z : Sl}, c = i → (ρ.set i t)[c]? = some z → (σ.set i (some v))[c]? = some (some (.ref p)) → z = t ∧ v = .ref p := fun {c z} hc e q => by
      subst hc
      have hlt : c < ρ.length := by
        have := (List.getElem?_eq_some_iff.mp e).1
        rwa [List.length_set] at this
      rw [List.getElem?_set_self hlt] at e
      rw [List.getElem?_set_self (by rw [h.len]; exact hlt)] at q
      cases e
      cases q
      exact ⟨rfl, rfl⟩
    by_cases ha : a = i
    · obtain ⟨z1, z2⟩ := look ha e1 q1
      subst z1
      have hb : b ≠ i := fun z => n (ha.trans z.symm)
      rw [List.getElem?_set_ne (Ne.symm hb)] at e2 q2
      exact ap o1 b u hb e2 o2 (by rw [q2, z2])
    · rw [List.getElem?_set_ne (Ne.symm ha)] at e1 q1
      by_cases hb : b = i
      · obtain ⟨z1, z2⟩ := look hb e2 q2
        subst z1
        exact ap o2 a s ha e1 o1 (by rw [q1, z2])
      · rw [List.getElem?_set_ne (Ne.symm hb)] at e2 q2
        exact h.ne a b s u p n e1 e2 o1 o2 q1 q2
/-- what is said of slots may be forgotten -/
theorem EnvOk.forget {i : Nat} (h : EnvOk K B F H σ ρ) (o : Option V) : EnvOk K B F H (σ.set i o) (ρ.set i .unk) where
  st := h.st
  mh := h.mh
  gf := h.gf
  len := by rw [List.length_set, List.length_set, h.len]
  sl := fun j s e => by
    by_cases hj : j = i
    · subst hj
      have hlt : j < ρ.length := by
        have := (List.getElem?_eq_some_iff.mp e).1
        rwa [List.length_set] at this
      rw [List.getElem?_set_self hlt] at e
      cases e
      trivial
    · rw [List.getElem?_set_ne (Ne.symm hj)] at e ⊢
      exact h.sl j s e
  ne := fun a b s u p n e1 e2 o1 o2 q1 q2 => by
    have look : ∀ {c : Nat} {z : Sl}, z.isOwn = true → (ρ.set i .unk)[c]? = some z → c ≠ i := fun {c z} hz e hc => by
      subst hc
      have hlt : c < ρ.length := by
        have := (List.getElem?_eq_some_iff.mp e).1
        rwa [List.length_set] at this
      rw [List.getElem?_set_self hlt] at e
      cases e
      cases hz
    have ha := look o1 e1
    have hb := look o2 e2
    rw [List.getElem?_set_ne (Ne.symm ha)] at e1 q1
    rw [List.getElem?_set_ne (Ne.symm hb)] at e2 q2
    exact h.ne a b s u p n e1 e2 o1 o2 q1 q2
/-- the ground of the loops is raised, and taken back -/
theorem EnvOk.up (h : EnvOk K B F H σ ρ) {G : Hp} (g : Same G F) : EnvOk K { B with G := G } F H σ ρ := ⟨h.st, h.mh, g, h.len, h.sl, h.ne⟩
theorem EnvOk.down {G : Hp} (h : EnvOk K { B with G := G } F H σ ρ) (g : Same B.G G) : EnvOk K B F H σ ρ := ⟨h.st, h.mh, g.trans h.gf, h.len, h.sl, h.ne⟩
theorem EnvOk.forget' {i : Nat} (h : EnvOk K B F H σ ρ) : EnvOk K B F H σ (ρ.set i .unk) := by
  by_cases hi : i < σ.length
  · have e := h.forget (i := i) σ[i]
    rwa [List.set_getElem_self hi] at e
  · have hr : ρ.set i .unk = ρ := List.set_eq_of_length_le (by rw [← h.len]; omega)
    rw [hr]
    exact h
end
end Mv

set_option maxRecDepth 100000
set_option maxHeartbeats 4000000
/-! expressions by data: WE, WT, WA -/
namespace Mv
open PySem L2

/-! ### the canonical readings -/
def wE (X : Cx) (e : Expr) : TE := fun σ H Q => ∀ pins s, Inv X pins σ H s → wpAny (model X.prog X.w) X.A (eval e X.env) (EP X pins σ Q) X.xe s
def wT (X : Cx) (e : Expr) : TT := fun σ H Q => ∀ pins s, Inv X pins σ H s → wpAny (model X.prog X.w) X.A (isTrue e X.env (eval e X.env)) (TP X pins σ Q) X.xe s
def wW (X : Cx) (e : Expr) : TT := fun σ H Q => ∀ whole pins s, Inv X pins σ H s → wpAny (model X.prog X.w) X.A (isTrue e X.env whole) (TP X pins σ Q) X.xe s
def wA (X : Cx) (es : List Expr) : TA := fun σ H Q => ∀ pos pins s, Inv X pins σ H s → wpAny (model X.prog X.w) X.A (spliced (backTo pos (starEach es X.env))) (AP X pins σ Q) X.xe s
def wSs (X : Cx) (ss : List Stmt) : TS := fun D σ H => ∀ pins s, Inv X pins σ H s → wpAny (model X.prog X.w) X.A (execs ss X.env) (SP X pins D) X.xe s
section
variable {X : Cx} {e : Expr} {es : List Expr} {ss : List Stmt}
theorem pe_w : PE X e (wE X e) := ⟨fun pins s _ _ _ I h => h pins s I⟩
theorem pt_w : PT X e (wT X e) := ⟨fun pins s _ _ _ I h => h pins s I⟩
theorem pw_w : PW X e (wW X e) := ⟨fun wh pins s _ _ _ I h => h wh pins s I⟩
theorem pa_w : PA X es (wA X es) := ⟨fun pos pins s _ _ _ I h => h pos pins s I⟩
theorem pss_w : PSs X ss (wSs X ss) := ⟨fun pins s _ _ _ I h => h pins s I⟩
theorem wE_of {t : TE} {σ : L2.St} {H : Hp} {Q : VK} (h : PE X e t) (q : t σ H Q) : wE X e σ H Q := fun pins s I => h.run pins s σ H Q I q
theorem wT_of {t : TT} {σ : L2.St} {H : Hp} {Q : Bool → Hp → Prop} (h : PT X e t) (q : t σ H Q) : wT X e σ H Q := fun pins s I => h.run pins s σ H Q I q
theorem wW_of {t : TT} {σ : L2.St} {H : Hp} {Q : Bool → Hp → Prop} (h : PW X e t) (q : t σ H Q) : wW X e σ H Q := fun wh pins s I => h.run wh pins s σ H Q I q
theorem wA_of {t : TA} {σ : L2.St} {H : Hp} {Q : List V → Hp → Prop} (h : PA X es t) (q : t σ H Q) : wA X es σ H Q := fun pos pins s I => h.run pos pins s σ H Q I q
theorem wSs_of {t : TS} {D : Ends} {σ : L2.St} {H : Hp} (h : PSs X ss t) (q : t D σ H) : wSs X ss D σ H := fun pins s I => h.run pins s σ H D I q
end

/-! ### exceptions by data -/
/-- the classes of errors -/
inductive Kd where
  | PlaceError | BadOrder | BadPlace | BadTurns | TooGreat | BadSize | BadBlocks | BadSeen | BadThings | Unlike | BadText
deriving DecidableEq
def Kd.nm : Kd → Str
  | .PlaceError => "PlaceError"
  | .BadOrder => "BadOrder"
  | .BadPlace => "BadPlace"
  | .BadTurns => "BadTurns"
  | .TooGreat => "TooGreat"
  | .BadSize => "BadSize"
  | .BadBlocks => "BadBlocks"
  | .BadSeen => "BadSeen"
  | .BadThings => "BadThings"
  | .Unlike => "Unlike"
  | .BadText => "BadText"
/-- a class caught by the clause b -/
def Kd.takes : Kd → Kd → Bool
  | .PlaceError, _ => true
  | b, a => decide (a = b)
/-- where a class stands -/
def kA (K : PySem.W.Frag) (k : Kd) : Addr := He.ga K k.nm
structure Exn where
  k : Kd
  fs : List (Str × PyData)
inductive FsRp (K : PySem.W.Frag) (F : Hp) : List (Str × V) → List (Str × PyData) → Prop
  | nil : FsRp K F [] []
  | cons {k : Str} {v : V} {d : PyData} {vs : List (Str × V)} {ds : List (Str × PyData)} : Rp K F v d → FsRp K F vs ds → FsRp K F ((k, v) :: vs) ((k, d) :: ds)
def ExRp (K : PySem.W.Frag) (F H : Hp) (cls : Value) (dd : Option Addr) (x : Exn) : Prop :=
  cls = .ref (kA K x.k) ∧ (x.fs = [] ∨ ∃ d vs, dd = some d ∧ H d = some (.xd vs) ∧ FsRp K F vs x.fs)

/-! ### ends -/
def OkE (K : PySem.W.Frag) (M : Addr → Prop) (F H : Hp) (Φ : PyData → Prop) (Q : VK) : Prop := ∀ v d F2 H2, Φ d → Step M F H F2 H2 → Rp K F2 v d → Q v H2
def OkT (M : Addr → Prop) (F H : Hp) (Φ : Bool → Prop) (Q : Bool → Hp → Prop) : Prop := ∀ b F2 H2, Φ b → Step M F H F2 H2 → Q b H2
def ExE (K : PySem.W.Frag) (M : Addr → Prop) (F H : Hp) (W : WX) (σ : L2.St) (Ξ : Exn → Prop) : Prop := ∀ cls dd x F2 H2, Ξ x → Step M F H F2 H2 → ExRp K F2 H2 cls dd x → W cls dd σ H2
/-- an argument: data, the draws, the script -/
inductive Ag where
  | dat (d : PyData) | drw | scr (ns : List Int)
def AgOk (K : PySem.W.Frag) (M : Addr → Prop) (F H : Hp) (v : V) : Ag → Prop
  | .dat d => Rp K F v d
  | .drw => ∃ p, v = .ref p ∧ M p ∧ DrOk H p ∧ F p = none
  | .scr ns => ∃ p, v = .ref p ∧ SqL K F p (ns.map V.int)
inductive AgAll (K : PySem.W.Frag) (M : Addr → Prop) (F H : Hp) : List V → List Ag → Prop
  | nil : AgAll K M F H [] []
  | cons {v : V} {vs : List V} {a : Ag} {as : List Ag} : AgOk K M F H v a → AgAll K M F H vs as → AgAll K M F H (v :: vs) (a :: as)
def OkA (K : PySem.W.Frag) (M : Addr → Prop) (F H : Hp) (Φ : List Ag → Prop) (Q : List V → Hp → Prop) : Prop := ∀ vs as F2 H2, Φ as → Step M F H F2 H2 → AgAll K M F2 H2 vs as → Q vs H2
section
variable {K : PySem.W.Frag} {M : Addr → Prop} {F H F1 H1 F2 H2 : Hp} {W : WX} {σ : L2.St} {Ξ : Exn → Prop} {Φ : PyData → Prop} {Q : VK}
theorem ExE.step (h : ExE K M F H W σ Ξ) (st : Step M F H F1 H1) : ExE K M F1 H1 W σ Ξ := fun cls dd x F2 H2 hx s2 r => h cls dd x F2 H2 hx (st.trans s2) r
theorem OkE.step (h : OkE K M F H Φ Q) (st : Step M F H F1 H1) : OkE K M F1 H1 Φ Q := fun v d F2 H2 hd s2 r => h v d F2 H2 hd (st.trans s2) r
theorem OkT.step {Φ : Bool → Prop} {Q : Bool → Hp → Prop} (h : OkT M F H Φ Q) (st : Step M F H F1 H1) : OkT M F1 H1 Φ Q := fun b F2 H2 hd s2 => h b F2 H2 hd (st.trans s2)
theorem OkA.step {Φ : List Ag → Prop} {Q : List V → Hp → Prop} (h : OkA K M F H Φ Q) (st : Step M F H F1 H1) : OkA K M F1 H1 Φ Q := fun v d F2 H2 hd s2 r => h v d F2 H2 hd (st.trans s2) r
theorem AgOk.step {v : V} {a : Ag} (st : Step M F H F1 H1) (h : AgOk K M F H v a) : AgOk K M F1 H1 v a := by
  cases a with
  | dat d => exact Rp.mono st.fr _ _ h
  | drw =>
    obtain ⟨p, e, m, d, fp⟩ := h
    refine ⟨p, e, m, st.dr p m d, ?_⟩
    obtain ⟨a, b, ns, _, _, _, q⟩ := d
    rw [st.new p (by rw [q]; exact fun z => nomatch z)]
    exact fp
  | scr ns =>
    obtain ⟨p, e, q⟩ := h
    exact ⟨p, e, st.fr.seq q⟩
theorem AgAll.step (st : Step M F H F1 H1) : ∀ {vs : List V} {as : List Ag}, AgAll K M F H vs as → AgAll K M F1 H1 vs as
  | _, _, .nil => .nil
  | _, _, .cons h t => .cons (h.step st) (t.step st)
end

/-! ### the words -/
/-- the def's context: what is raised is W's -/
structure Cxt (X : Cx) (W : WX) : Prop where
  tk : Takes X W
  po : PassesOwn (model X.prog X.w) X.A X.env X.xe
  calm : X.calm = true
  nd : X.N.Nodup
  hu : X.A.units + 64 < cLine
def WE (X : Cx) (W : WX) (ρ : List Sl) (e : Expr) (Ξ : Exn → Prop) (Φ : PyData → Prop) : Prop :=
  ∀ B F H σ, EnvOk X.K B F H σ ρ → ∀ Q, OkE X.K B.M F H Φ Q → ExE X.K B.M F H W σ Ξ → wE X e σ H Q
def WT (X : Cx) (W : WX) (ρ : List Sl) (e : Expr) (Ξ : Exn → Prop) (Φ : Bool → Prop) : Prop :=
  ∀ B F H σ, EnvOk X.K B F H σ ρ → ∀ Q, OkT B.M F H Φ Q → ExE X.K B.M F H W σ Ξ → wT X e σ H Q
/-- and, or as tests: whatever the whole is -/
def WW (X : Cx) (W : WX) (ρ : List Sl) (e : Expr) (Ξ : Exn → Prop) (Φ : Bool → Prop) : Prop :=
  ∀ B F H σ, EnvOk X.K B F H σ ρ → ∀ Q, OkT B.M F H Φ Q → ExE X.K B.M F H W σ Ξ → wW X e σ H Q
def WA (X : Cx) (W : WX) (ρ : List Sl) (es : List Expr) (Ξ : Exn → Prop) (Φ : List Ag → Prop) : Prop :=
  ∀ B F H σ, EnvOk X.K B F H σ ρ → ∀ Q, OkA X.K B.M F H Φ Q → ExE X.K B.M F H W σ Ξ → wA X es σ H Q
/-- an operation by values: r takes x and y to what Φ says; it may lay new objects -/
def WOp (X : Cx) (r : R2) (x y : PyData) (Φ : PyData → Prop) : Prop :=
  ∀ M F H vx vy, Same F H → Rp X.K F vx x → Rp X.K F vy y → ∀ Q, OkE X.K M F H Φ Q → r vx vy H Q
section
variable {X : Cx} {W : WX} {ρ : List Sl} {e a b c : Expr} {es : List Expr} {Ξ : Exn → Prop} {Φ Ψ : PyData → Prop} {pos : Pos}
theorem WE.mono (h : WE X W ρ e Ξ Φ) (k : ∀ d, Φ d → Ψ d) : WE X W ρ e Ξ Ψ := fun B F H σ env Q q qx =>
  h B F H σ env Q (fun v d F2 H2 hd st r => q v d F2 H2 (k d hd) st r) qx
theorem WT.mono {Φ Ψ : Bool → Prop} (h : WT X W ρ e Ξ Φ) (k : ∀ d, Φ d → Ψ d) : WT X W ρ e Ξ Ψ := fun B F H σ env Q q qx =>
  h B F H σ env Q (fun v F2 H2 hd st => q v F2 H2 (k v hd) st) qx

/-! names, constants -/
theorem we_name (i : Nat) {x : Str} {d : PyData} (hi : ρ[i]? = some (.dat d)) (h : Φ d) (hN : X.N[i]? = some x := by rfl) (hv : Vis X.env.scope x := by first | exact Or.inl rfl | exact Or.inr (Or.inl rfl) | exact Or.inr (Or.inr rfl))
    (hd : (x == ("__debug__" : Str)) = false := by decide) (hcd : (x == ("__classdict__" : Str)) = false := by decide) : WE X W ρ (.Name x pos) Ξ Φ := fun B F H σ env Q q _ => by
  obtain ⟨v, e1, r⟩ := env.sl i _ hi
  exact wE_of (pv i hN hv hd hcd) ⟨v, e1, q v d F H h (Step.refl env.sub) r⟩
theorem we_int {i : Int} {j} (h : Φ (.int i)) : WE X W ρ (.Constant (.int i) j pos) Ξ Φ := fun B F H σ env Q q _ =>
  wE_of pe_int (q _ _ F H h (Step.refl env.sub) (.int i))
theorem we_bl {i : Bool} {j} (h : Φ (.bool i)) : WE X W ρ (.Constant (.bool i) j pos) Ξ Φ := fun B F H σ env Q q _ =>
  wE_of pe_bl (q _ _ F H h (Step.refl env.sub) (.bl i))
theorem we_non {j} (h : Φ .none) : WE X W ρ (.Constant .none j pos) Ξ Φ := fun B F H σ env Q q _ =>
  wE_of pe_non (q _ _ F H h (Step.refl env.sub) .non)
theorem we_str {x : Str} {j} (h : Φ (.str x)) : WE X W ρ (.Constant (.str x) j pos) Ξ Φ := fun B F H σ env Q q _ =>
  wE_of pe_str (q _ _ F H h (Step.refl env.sub) (.str x))
/-- a module's constant -/
theorem we_glob {x : Str} {v : V} {u : Value} {d : PyData} (hm : X.mg x = some u) (r : RelV v u) (rd : ∀ F, Rp X.K F v d) (h : Φ d) (hg : Gl X x := by rfl) (hd : (x == ("__debug__" : Str)) = false := by decide) : WE X W ρ (.Name x pos) Ξ Φ := fun B F H σ env Q q _ =>
  wE_of (pe_glob hg hm r hd) (q _ _ F H h (Step.refl env.sub) (rd F))

/-! two-place operations -/
theorem we_op {op : Operator} {r : R2} (ho : OpR X (binaryOp op) r) (h : WE X W ρ a Ξ fun x => WE X W ρ b Ξ fun y => WOp X r x y Φ) : WE X W ρ (.BinOp a op b pos) Ξ Φ := fun B F H σ env Q q qx =>
  wE_of (pe_op ho pe_w pe_w) (h B F H σ env _ (fun v x F1 H1 hx st1 r1 => hx B F1 H1 σ (env.step st1) _
    (fun w y F2 H2 hy st2 r2 => hy B.M F2 H2 v w st2.sub (r1.mono st2.fr) r2 Q (q.step (st1.trans st2))) (qx.step st1)) qx)
theorem we_cmp {op : CmpOp} {r : R2} (ho : OpR X (compareOp op) r) (hm : behindInMarks op b = false) (h : WE X W ρ a Ξ fun x => WE X W ρ b Ξ fun y => WOp X r x y Φ) : WE X W ρ (.Compare a [op] [b] pos) Ξ Φ := fun B F H σ env Q q qx =>
  wE_of (pe_cmpR ho pe_w pe_w hm) (h B F H σ env _ (fun v x F1 H1 hx st1 r1 => hx B F1 H1 σ (env.step st1) _
    (fun w y F2 H2 hy st2 r2 => hy B.M F2 H2 v w st2.sub (r1.mono st2.fr) r2 Q (q.step (st1.trans st2))) (qx.step st1)) qx)
theorem wt_cmp {Φ : Bool → Prop} {op : CmpOp} {r : R2} (ho : OpR X (compareOp op) r) (hm : behindInMarks op b = false) (h : WE X W ρ a Ξ fun x => WE X W ρ b Ξ fun y => WOp X r x y fun d => ∃ c, d = .bool c ∧ Φ c) : WT X W ρ (.Compare a [op] [b] pos) Ξ Φ := fun B F H σ env Q q qx =>
  wT_of (pt_cmpR ho pe_w pe_w hm) (h B F H σ env _ (fun v x F1 H1 hx st1 r1 => hx B F1 H1 σ (env.step st1) _
    (fun w y F2 H2 hy st2 r2 => hy B.M F2 H2 v w st2.sub (r1.mono st2.fr) r2 _ (fun z d F3 H3 hd st3 r3 => by
      obtain ⟨c, rfl, hc⟩ := hd
      exact ⟨c, r3.bl_inv, q c F3 H3 hc ((st1.trans st2).trans st3)⟩)) (qx.step st1)) qx)
/-- a op b op' c -/
theorem we_chain {op op' : CmpOp} {r r' : R2} (ho : OpR X (compareOp op) r) (ho' : OpR X (compareOp op') r') (hm : lastMarks [op, op'] [b, c] = false)
    (h : WE X W ρ a Ξ fun x => WE X W ρ b Ξ fun y => WOp X r x y fun d => ∃ k, d = .bool k ∧ (k = true → WE X W ρ c Ξ fun z => WOp X r' y z Φ) ∧ (k = false → Φ (.bool false))) : WE X W ρ (.Compare a [op, op'] [b, c] pos) Ξ Φ := fun B F H σ env Q q qx =>
  wE_of (pe_chain ho ho' pe_w pe_w pe_w hm) (h B F H σ env _ (fun v x F1 H1 hx st1 r1 => hx B F1 H1 σ (env.step st1) _
    (fun w y F2 H2 hy st2 r2 => hy B.M F2 H2 v w st2.sub (r1.mono st2.fr) r2 _ (fun z d F3 H3 hd st3 r3 => by
      obtain ⟨k, rfl, h1, h2⟩ := hd
      refine ⟨k, r3.bl_inv, ?_⟩
      have st := (st1.trans st2).trans st3
      cases k with
      | false =>
        rw [if_neg Bool.false_ne_true]
        exact q _ _ F3 H3 (h2 rfl) st (.bl false)
      | true =>
        rw [if_pos rfl]
        exact h1 rfl B F3 H3 σ (env.step st) _ (fun w3 z3 F4 H4 hz st4 r4 => hz B.M F4 H4 w w3 st4.sub (r2.mono (st3.fr.trans st4.fr)) r4 Q (q.step (st.trans st4))) (qx.step st))) (qx.step st1)) qx)
theorem wt_chain {Φ : Bool → Prop} {op op' : CmpOp} {r r' : R2} (ho : OpR X (compareOp op) r) (ho' : OpR X (compareOp op') r') (hm : lastMarks [op, op'] [b, c] = false)
    (h : WE X W ρ a Ξ fun x => WE X W ρ b Ξ fun y => WOp X r x y fun d => ∃ k, d = .bool k ∧ (k = true → WE X W ρ c Ξ fun z => WOp X r' y z fun d => ∃ c, d = .bool c ∧ Φ c) ∧ (k = false → Φ false)) : WT X W ρ (.Compare a [op, op'] [b, c] pos) Ξ Φ := fun B F H σ env Q q qx =>
  wT_of (pt_chain ho ho' pe_w pe_w pe_w hm) (h B F H σ env _ (fun v x F1 H1 hx st1 r1 => hx B F1 H1 σ (env.step st1) _
    (fun w y F2 H2 hy st2 r2 => hy B.M F2 H2 v w st2.sub (r1.mono st2.fr) r2 _ (fun z d F3 H3 hd st3 r3 => by
      obtain ⟨k, rfl, h1, h2⟩ := hd
      refine ⟨k, r3.bl_inv, ?_⟩
      have st := (st1.trans st2).trans st3
      cases k with
      | false =>
        rw [if_neg Bool.false_ne_true]
        exact ⟨false, rfl, q _ F3 H3 (h2 rfl) st⟩
      | true =>
        rw [if_pos rfl]
        exact h1 rfl B F3 H3 σ (env.step st) _ (fun w3 z3 F4 H4 hz st4 r4 => hz B.M F4 H4 w w3 st4.sub (r2.mono (st3.fr.trans st4.fr)) r4 _ (fun z5 d5 F5 H5 hd5 st5 r5 => by
          obtain ⟨c, rfl, hc⟩ := hd5
          exact ⟨c, r5.bl_inv, q c F5 H5 hc ((st.trans st4).trans st5)⟩)) (qx.step st))) (qx.step st1)) qx)

/-! tests, and, or, not, if else -/
theorem wt_val (h : WE X W ρ e Ξ fun d => ∃ c, d = .bool c ∧ Φ' c) (he : ∀ whole, isTrue e X.env whole = (do let v ← whole; standAt e.pos; holding [v] (truthy v)) := by intro _; rfl) : WT X W ρ e Ξ Φ' := fun B F H σ env Q q qx =>
  wT_of (pt_val pe_w he) (h B F H σ env _ (fun v d F1 H1 hd st r => by
    obtain ⟨c, rfl, hc⟩ := hd
    exact ⟨c, r.bl_inv, q c F1 H1 hc st⟩) qx)
theorem wt_w {Φ : Bool → Prop} (h : WW X W ρ e Ξ Φ) : WT X W ρ e Ξ Φ := fun B F H σ env Q q qx => wT_of (pw_w (X := X) (e := e)).pt (h B F H σ env Q q qx)
variable {rest : List Expr} {Θ : Bool → Prop}
theorem ww_and1 (h : WT X W ρ a Ξ Θ) : WW X W ρ (.BoolOp .And [a] pos) Ξ Θ := fun B F H σ env Q q qx => wW_of (pw_and1 pt_w) (h B F H σ env Q q qx)
theorem ww_or1 (h : WT X W ρ a Ξ Θ) : WW X W ρ (.BoolOp .Or [a] pos) Ξ Θ := fun B F H σ env Q q qx => wW_of (pw_or1 pt_w) (h B F H σ env Q q qx)
theorem ww_and (h : WT X W ρ a Ξ fun k => (k = true → WW X W ρ (.BoolOp .And (b :: rest) pos) Ξ Θ) ∧ (k = false → Θ false)) : WW X W ρ (.BoolOp .And (a :: b :: rest) pos) Ξ Θ := fun B F H σ env Q q qx =>
  wW_of (pw_and pt_w pw_w) (h B F H σ env _ (fun k F1 H1 hk st => by
    cases k with
    | true =>
      rw [if_pos rfl]
      exact hk.1 rfl B F1 H1 σ (env.step st) Q (q.step st) (qx.step st)
    | false =>
      rw [if_neg Bool.false_ne_true]
      exact q _ F1 H1 (hk.2 rfl) st) qx)
theorem ww_or (h : WT X W ρ a Ξ fun k => (k = false → WW X W ρ (.BoolOp .Or (b :: rest) pos) Ξ Θ) ∧ (k = true → Θ true)) : WW X W ρ (.BoolOp .Or (a :: b :: rest) pos) Ξ Θ := fun B F H σ env Q q qx =>
  wW_of (pw_or pt_w pw_w) (h B F H σ env _ (fun k F1 H1 hk st => by
    cases k with
    | false =>
      rw [if_neg Bool.false_ne_true]
      exact hk.1 rfl B F1 H1 σ (env.step st) Q (q.step st) (qx.step st)
    | true =>
      rw [if_pos rfl]
      exact q _ F1 H1 (hk.2 rfl) st) qx)
theorem wt_not (h : WT X W ρ a Ξ fun k => Θ (!k)) : WT X W ρ (.UnaryOp .Not a pos) Ξ Θ := fun B F H σ env Q q qx =>
  wT_of (pt_not pt_w) (h B F H σ env _ (fun k F1 H1 hk st => q _ F1 H1 hk st) qx)
/-- as values: all but the last are bools -/
theorem we_bool1 {op : BoolOp} (h : WE X W ρ a Ξ Φ) : WE X W ρ (.BoolOp op [a] pos) Ξ Φ := fun B F H σ env Q q qx => wE_of (pe_one pe_w) (h B F H σ env Q q qx)
theorem we_and (h : WE X W ρ a Ξ fun d => ∃ k, d = .bool k ∧ (k = true → WE X W ρ (.BoolOp .And (b :: rest) pos) Ξ Φ) ∧ (k = false → Φ (.bool false))) : WE X W ρ (.BoolOp .And (a :: b :: rest) pos) Ξ Φ := fun B F H σ env Q q qx =>
  wE_of (pe_and pe_w pe_w) (h B F H σ env _ (fun v d F1 H1 hd st r => by
    obtain ⟨k, rfl, h1, h2⟩ := hd
    refine ⟨k, r.bl_inv, ?_⟩
    cases k with
    | true =>
      rw [if_pos rfl]
      exact h1 rfl B F1 H1 σ (env.step st) Q (q.step st) (qx.step st)
    | false =>
      rw [if_neg Bool.false_ne_true]
      exact q _ _ F1 H1 (h2 rfl) st (.bl false)) qx)
theorem we_or (h : WE X W ρ a Ξ fun d => ∃ k, d = .bool k ∧ (k = false → WE X W ρ (.BoolOp .Or (b :: rest) pos) Ξ Φ) ∧ (k = true → Φ (.bool true))) : WE X W ρ (.BoolOp .Or (a :: b :: rest) pos) Ξ Φ := fun B F H σ env Q q qx =>
  wE_of (pe_or pe_w pe_w) (h B F H σ env _ (fun v d F1 H1 hd st r => by
    obtain ⟨k, rfl, h1, h2⟩ := hd
    refine ⟨k, r.bl_inv, ?_⟩
    cases k with
    | false =>
      rw [if_neg Bool.false_ne_true]
      exact h1 rfl B F1 H1 σ (env.step st) Q (q.step st) (qx.step st)
    | true =>
      rw [if_pos rfl]
      exact q _ _ F1 H1 (h2 rfl) st (.bl true)) qx)
theorem we_not (h : WE X W ρ a Ξ fun d => ∃ k, d = .bool k ∧ Φ (.bool (!k))) : WE X W ρ (.UnaryOp .Not a pos) Ξ Φ := fun B F H σ env Q q qx =>
  wE_of (pe_not pe_w) (h B F H σ env _ (fun v d F1 H1 hd st r => by
    obtain ⟨k, rfl, h1⟩ := hd
    exact ⟨k, r.bl_inv, q _ _ F1 H1 h1 st (.bl _)⟩) qx)
theorem we_if (h : WT X W ρ c Ξ fun k => (k = true → WE X W ρ a Ξ Φ) ∧ (k = false → WE X W ρ b Ξ Φ)) : WE X W ρ (.IfExp c a b pos) Ξ Φ := fun B F H σ env Q q qx =>
  wE_of (pe_ifExp pt_w pe_w pe_w) (h B F H σ env _ (fun k F1 H1 hk st => by
    cases k with
    | true =>
      rw [if_pos rfl]
      exact hk.1 rfl B F1 H1 σ (env.step st) Q (q.step st) (qx.step st)
    | false =>
      rw [if_neg Bool.false_ne_true]
      exact hk.2 rfl B F1 H1 σ (env.step st) Q (q.step st) (qx.step st)) qx)

/-! argument lists, displays -/
theorem wa_nil {Φ : List Ag → Prop} (h : Φ []) : WA X W ρ [] Ξ Φ := fun B F H σ env Q q qx => wA_of pa_nil (q [] [] F H h (Step.refl env.sub) .nil)
theorem wa_cons {Φ : List Ag → Prop} (h : WE X W ρ e Ξ fun d => WA X W ρ es Ξ fun as => Φ (.dat d :: as)) (hs : starEach (e :: es) X.env = (false, eval e X.env) :: starEach es X.env := by rfl) : WA X W ρ (e :: es) Ξ Φ := fun B F H σ env Q q qx =>
  wA_of (pa_cons pe_w pa_w hs) (h B F H σ env _ (fun v d F1 H1 hd st r => hd B F1 H1 σ (env.step st) _ (fun vs as F2 H2 ha st2 rs =>
    q (v :: vs) (.dat d :: as) F2 H2 ha (st.trans st2) (.cons (Rp.mono st2.fr _ _ r) rs)) (qx.step st)) qx)
/-- the draws, the script, handed on -/
theorem wa_drw (i : Nat) {x : Str} {Φ : List Ag → Prop} (hi : ρ[i]? = some .drw) (h : WA X W ρ es Ξ fun as => Φ (.drw :: as)) (hN : X.N[i]? = some x := by rfl) (hv : Vis X.env.scope x := by first | exact Or.inl rfl | exact Or.inr (Or.inl rfl) | exact Or.inr (Or.inr rfl))
    (hd : (x == ("__debug__" : Str)) = false := by decide) (hcd : (x == ("__classdict__" : Str)) = false := by decide) (hs : starEach (.Name x pos :: es) X.env = (false, eval (.Name x pos) X.env) :: starEach es X.env := by rfl) : WA X W ρ (.Name x pos :: es) Ξ Φ := fun B F H σ env Q q qx => by
  obtain ⟨p, e1, m, d, fp⟩ := env.sl i _ hi
  exact wA_of (pa_cons (pv i hN hv hd hcd) pa_w hs) ⟨_, e1, h B F H σ env _ (fun vs as F2 H2 ha st2 rs =>
    q (.ref p :: vs) (.drw :: as) F2 H2 ha st2 (.cons (AgOk.step st2 (a := .drw) ⟨p, rfl, m, d, fp⟩) rs)) qx⟩
theorem wa_scr (i : Nat) {x : Str} {ns : List Int} {Φ : List Ag → Prop} (hi : ρ[i]? = some (.scr ns)) (h : WA X W ρ es Ξ fun as => Φ (.scr ns :: as)) (hN : X.N[i]? = some x := by rfl) (hv : Vis X.env.scope x := by first | exact Or.inl rfl | exact Or.inr (Or.inl rfl) | exact Or.inr (Or.inr rfl))
    (hd : (x == ("__debug__" : Str)) = false := by decide) (hcd : (x == ("__classdict__" : Str)) = false := by decide) (hs : starEach (.Name x pos :: es) X.env = (false, eval (.Name x pos) X.env) :: starEach es X.env := by rfl) : WA X W ρ (.Name x pos :: es) Ξ Φ := fun B F H σ env Q q qx => by
  obtain ⟨p, e1, hq⟩ := env.sl i _ hi
  exact wA_of (pa_cons (pv i hN hv hd hcd) pa_w hs) ⟨_, e1, h B F H σ env _ (fun vs as F2 H2 ha st2 rs =>
    q (.ref p :: vs) (.scr ns :: as) F2 H2 ha st2 (.cons (AgOk.step st2 (a := .scr ns) ⟨p, rfl, hq⟩) rs)) qx⟩
/-- all of them data -/
def dats (as : List Ag) (Φ : List PyData → Prop) : Prop := ∃ ds, as = ds.map Ag.dat ∧ Φ ds
theorem AgAll.dats {K : PySem.W.Frag} {M : Addr → Prop} {F H : Hp} : ∀ {vs : List V} {ds : List PyData}, AgAll K M F H vs (ds.map Ag.dat) → RpAll K F vs ds
  | _, [], h => by cases h; exact .nil
  | _, d :: ds, h => by
    cases h with
    | cons h t => exact .cons h t.dats
theorem we_tup {k1} (h : WA X W ρ es Ξ fun as => dats as fun ds => ds.length ≤ 100000 ∧ Φ (.tuple ds)) : WE X W ρ (.Tuple es k1 pos) Ξ Φ := fun B F H σ env Q q qx =>
  wE_of (pe_tup pa_w) (h B F H σ env _ (fun vs as F1 H1 ha st rs => by
    obtain ⟨ds, rfl, hl, hΦ⟩ := ha
    have r := rs.dats
    refine ⟨Nat.le_trans (by rw [r.len]; exact hl) (by decide), fun p hp => ?_⟩
    have st2 : Step B.M F1 H1 (upd F1 p (.tup vs)) (upd H1 p (.tup vs)) := Step.frz st.sub hp
    exact q _ _ _ _ hΦ (st.trans st2) (.tup (SqT.of upd_same) (RpAll.mono st2.fr _ _ r))) qx)
theorem we_lst (h : WA X W ρ es Ξ fun as => dats as fun ds => ds.length ≤ 100000 ∧ Φ (.list ds)) : WE X W ρ (.List es pos) Ξ Φ := fun B F H σ env Q q qx =>
  wE_of (pe_lst pa_w) (h B F H σ env _ (fun vs as F1 H1 ha st rs => by
    obtain ⟨ds, rfl, hl, hΦ⟩ := ha
    have r := rs.dats
    refine ⟨Nat.le_trans (by rw [r.len]; exact hl) (by decide), fun p hp => ?_⟩
    have st2 : Step B.M F1 H1 (upd F1 p (.lst vs)) (upd H1 p (.lst vs)) := Step.frz st.sub hp
    exact q _ _ _ _ hΦ (st.trans st2) (.lst upd_same (RpAll.mono st2.fr _ _ r))) qx)
end
end Mv

set_option maxRecDepth 100000
set_option maxHeartbeats 4000000
/-! operations by data: + - * // %, comparisons, in, subscripts, slices, built-in calls -/
namespace Mv
open PySem L2

/-- a bound for factors and divisors -/
def BIG : Nat := 2 ^ 4000
theorem big_of {i : Int} (h1 : -1000000000000000000000000000000000000000000000000000000000000 ≤ i) (h2 : i ≤ 1000000000000000000000000000000000000000000000000000000000000) : i.natAbs < BIG := Nat.lt_of_lt_of_le (show i.natAbs < 2 ^ 200 by omega) (Nat.pow_le_pow_right (by decide) (by decide))
theorem big_mul {i j : Int} (h1 : i.natAbs < 2 ^ 1000) (h2 : j.natAbs < 2 ^ 1000) : (i * j).natAbs < BIG := Nat.lt_of_lt_of_le (wide_lt h1 h2) (Nat.pow_le_pow_right (by decide) (by decide))
section
variable {X : Cx} {Φ : PyData → Prop} {x y : PyData}
theorem wop_inl {r r' : R2} (h : WOp X r x y Φ) : WOp X (fun x y H Q => r x y H Q ∨ r' x y H Q) x y Φ := fun M F H vx vy s rx ry Q q => .inl (h M F H vx vy s rx ry Q q)
theorem wop_inr {r r' : R2} (h : WOp X r' x y Φ) : WOp X (fun x y H Q => r x y H Q ∨ r' x y H Q) x y Φ := fun M F H vx vy s rx ry Q q => .inr (h M F H vx vy s rx ry Q q)
/-! ints -/
theorem wop_I0 {i j : Int} {g : Int → Int → Int} (h : Φ (.int (g i j))) : WOp X (rI0 fun i j => .int (g i j)) (.int i) (.int j) Φ := fun M F H vx vy s rx ry Q q =>
  ⟨i, j, rx.int_inv, ry.int_inv, q _ _ F H h (Step.refl s) (.int _)⟩
theorem wop_I {C : Int → Int → Prop} {i j : Int} {g : Int → Int → Int} (hc : C i j) (h : Φ (.int (g i j))) : WOp X (rI C fun i j => .int (g i j)) (.int i) (.int j) Φ := fun M F H vx vy s rx ry Q q =>
  ⟨i, j, rx.int_inv, ry.int_inv, hc, q _ _ F H h (Step.refl s) (.int _)⟩
theorem wop_B0 {i j : Int} {g : Int → Int → Bool} (h : Φ (.bool (g i j))) : WOp X (rI0 fun i j => .bl (g i j)) (.int i) (.int j) Φ := fun M F H vx vy s rx ry Q q =>
  ⟨i, j, rx.int_inv, ry.int_inv, q _ _ F H h (Step.refl s) (.bl _)⟩

/-! + -/
def rAddS : R2 := fun x y H Q => ∃ i j, x = .str i ∧ y = .str j ∧ i.length + j.length ≤ sizeLine ∧ Q (.str (i ++ j)) H
def rAdd (K : PySem.W.Frag) : R2 := fun x y H Q => (rI0 (fun i j => .int (i + j)) x y H Q) ∨ ((rAddS x y H Q) ∨ (rCatA K x y H Q ∨ rCat x y H Q))
theorem op_addA : OpR X (binaryOp .Add) (rAdd X.K) := op_add.or (OpR.or (r := rAddS) op_add_str (op_catA.or op_cat))
theorem wadd_int {i j : Int} (h : Φ (.int (i + j))) : WOp X (rAdd X.K) (.int i) (.int j) Φ := wop_inl (wop_I0 h)
theorem wadd_str {i j : Str} (hz : i.length + j.length ≤ 100000) (h : Φ (.str (i ++ j))) : WOp X (rAdd X.K) (.str i) (.str j) Φ := wop_inr (wop_inl fun M F H vx vy s rx ry Q q =>
  ⟨i, j, rx.str_inv, ry.str_inv, Nat.le_trans hz (by decide), q _ _ F H h (Step.refl s) (.str _)⟩)
theorem wadd_tup {ds es : List PyData} (hz : ds.length + es.length ≤ 100000) (h : Φ (.tuple (ds ++ es))) : WOp X (rAdd X.K) (.tuple ds) (.tuple es) Φ := wop_inr (wop_inr (wop_inl fun M F H vx vy s rx ry Q q => by
  obtain ⟨a, xs, rfl, ha, ra⟩ := rx.tup_inv
  obtain ⟨b, ys, rfl, hb, rb⟩ := ry.tup_inv
  refine ⟨a, b, xs, ys, rfl, rfl, same_t s ha, same_t s hb, Nat.le_trans (by rw [ra.len, rb.len]; exact hz) (by decide), fun e => ?_, fun _ e => ?_, fun _ _ p hp => ?_⟩
  · subst e
    cases ra
    exact q _ _ F H h (Step.refl s) (.tup hb rb)
  · subst e
    cases rb
    rw [List.append_nil] at h
    exact q _ _ F H h (Step.refl s) (.tup ha ra)
  · have st : Step M F H (upd F p (.tup (xs ++ ys))) (upd H p (.tup (xs ++ ys))) := Step.frz s hp
    exact q _ _ _ _ h st (.tup (SqT.of upd_same) (RpAll.mono st.fr _ _ (ra.append rb)))))
theorem wadd_lst {ds es : List PyData} (hz : ds.length + es.length ≤ 100000) (h : Φ (.list (ds ++ es))) : WOp X (rAdd X.K) (.list ds) (.list es) Φ := wop_inr (wop_inr (wop_inr fun M F H vx vy s rx ry Q q => by
  obtain ⟨a, xs, rfl, ha, ra⟩ := rx.lst_inv
  obtain ⟨b, ys, rfl, hb, rb⟩ := ry.lst_inv
  refine ⟨a, b, xs, ys, rfl, rfl, s _ _ ha, s _ _ hb, Nat.le_trans (by rw [ra.len, rb.len]; exact hz) (by decide), fun p hp => ?_⟩
  have st : Step M F H (upd F p (.lst (xs ++ ys))) (upd H p (.lst (xs ++ ys))) := Step.frz s hp
  exact q _ _ _ _ h st (.lst upd_same (RpAll.mono st.fr _ _ (ra.append rb)))))

/-! * : ints; a list, a tuple by an int -/
def rMulA (K : PySem.W.Frag) : R2 := fun x y H Q => (rI CMulW (fun i j => .int (i * j)) x y H Q) ∨ (rRep x y H Q ∨ rRepT K x y H Q)
theorem op_mulA : OpR X (binaryOp .Mult) (rMulA X.K) := op_mulW.or (op_rep.or op_repT)
theorem wmul_int {i j : Int} (hi : i.natAbs < BIG) (hj : j.natAbs < BIG) (h : Φ (.int (i * j))) : WOp X (rMulA X.K) (.int i) (.int j) Φ := wop_inl (wop_I (wide_mul hi hj (by decide) (by decide) (by decide)) h)
theorem rp_flatten {K : PySem.W.Frag} {F : Hp} {vs : List V} {ds : List PyData} (h : RpAll K F vs ds) : ∀ n : Nat, RpAll K F (List.replicate n vs).flatten (List.replicate n ds).flatten
  | 0 => .nil
  | n + 1 => by
    rw [List.replicate_succ, List.replicate_succ, List.flatten_cons, List.flatten_cons]
    exact h.append (rp_flatten h n)
theorem wmul_lst {ds : List PyData} {k : Int} (h1 : -(2 ^ 63) ≤ k) (h2 : k < 2 ^ 63) (hz : ds.length * k.toNat ≤ 100000) (h : Φ (.list (List.replicate k.toNat ds).flatten)) : WOp X (rMulA X.K) (.list ds) (.int k) Φ := wop_inr (wop_inl fun M F H vx vy s rx ry Q q => by
  obtain ⟨a, xs, rfl, ha, ra⟩ := rx.lst_inv
  refine ⟨a, k, xs, rfl, ry.int_inv, s _ _ ha, h1, h2, Nat.le_trans (by rw [ra.len]; exact hz) (by decide), fun p hp => ?_⟩
  have st : Step M F H (upd F p (.lst (List.replicate k.toNat xs).flatten)) (upd H p (.lst (List.replicate k.toNat xs).flatten)) := Step.frz s hp
  exact q _ _ _ _ h st (.lst upd_same (RpAll.mono st.fr _ _ (rp_flatten ra _))))
theorem wmul_tup {ds : List PyData} {k : Int} (hne : ds ≠ []) (h1 : 2 ≤ k) (h2 : k ≤ 1000) (hz : ds.length ≤ 1000) (h : Φ (.tuple (List.replicate k.toNat ds).flatten)) : WOp X (rMulA X.K) (.tuple ds) (.int k) Φ := wop_inr (wop_inr fun M F H vx vy s rx ry Q q => by
  obtain ⟨a, xs, rfl, ha, ra⟩ := rx.tup_inv
  refine ⟨a, k, xs, rfl, ry.int_inv, same_t s ha, fun e => hne (by subst e; cases ra; rfl), h1, h2, by rw [ra.len]; exact hz, fun p hp => ?_⟩
  have st : Step M F H (upd F p (.tup (List.replicate k.toNat xs).flatten)) (upd H p (.tup (List.replicate k.toNat xs).flatten)) := Step.frz s hp
  exact q _ _ _ _ h st (.tup (SqT.of upd_same) (RpAll.mono st.fr _ _ (rp_flatten ra _))))
theorem wsub_int {i j : Int} (h : Φ (.int (i - j))) : WOp X (rI0 fun i j => .int (i - j)) (.int i) (.int j) Φ := wop_I0 h
theorem wdiv_int {i j : Int} (hj : 0 < j) (hb : j.natAbs < BIG) (h : Φ (.int (i / j))) : WOp X (rI CDivW fun i j => .int (i / j)) (.int i) (.int j) Φ := wop_I (wide_div hj hb (by decide) (by decide)) h
theorem wmod_int {i j : Int} (hj : 0 < j) (h : Φ (.int (i % j))) : WOp X (rI (fun _ j => 0 < j) fun i j => .int (i % j)) (.int i) (.int j) Φ := wop_I hj h

/-! ** -/
theorem wpow_int {i j : Int} (h1 : 0 ≤ j) (h2 : j ≤ 1000000) (h3 : i.natAbs < 2 ^ 64) (h : Φ (.int (i ^ j.toNat))) : WOp X (rI CPow fun i j => .int (i ^ j.toNat)) (.int i) (.int j) Φ := wop_I ⟨h1, h2, h3⟩ h

/-! == and != of any data but dicts -/
def rEqA (K : PySem.W.Frag) : R2 := fun x y H Q => (rEq x y H Q) ∨ rEqD K x y H Q
def rNeA (K : PySem.W.Frag) : R2 := fun x y H Q => (rNe x y H Q) ∨ rNeD K x y H Q
theorem op_eqA (hu : X.A.units + 64 < cLine) : OpR X (compareOp .Eq) (rEqA X.K) := op_eq.or (op_eqD hu)
theorem op_neA (hu : X.A.units + 64 < cLine) : OpR X (compareOp .NotEq) (rNeA X.K) := op_ne.or (op_neD hu)
theorem weq_dat (h1 : noDict x = true) (h2 : noDict y = true) (s1 : SeqAt.shaped x = true) (s2 : SeqAt.shaped y = true) (h : Φ (.bool (PyData.eqv x y))) : WOp X (rEqA X.K) x y Φ := wop_inr fun M F H vx vy s rx ry Q q =>
  ⟨x, y, (rx.mono s).dp _ _ h1, (ry.mono s).dp _ _ h2, s1, s2, q _ _ F H h (Step.refl s) (.bl _)⟩
theorem wne_dat (h1 : noDict x = true) (h2 : noDict y = true) (s1 : SeqAt.shaped x = true) (s2 : SeqAt.shaped y = true) (h : Φ (.bool (!PyData.eqv x y))) : WOp X (rNeA X.K) x y Φ := wop_inr fun M F H vx vy s rx ry Q q =>
  ⟨x, y, (rx.mono s).dp _ _ h1, (ry.mono s).dp _ _ h2, s1, s2, q _ _ F H h (Step.refl s) (.bl _)⟩
theorem weq_int {i j : Int} (h : Φ (.bool (decide (i = j)))) : WOp X (rEqA X.K) (.int i) (.int j) Φ := wop_inl fun M F H vx vy s rx ry Q q => by
  obtain rfl := rx.int_inv
  obtain rfl := ry.int_inv
  refine ⟨rfl, ?_⟩
  rw [dec_int, Bool.beq_eq_decide_eq]
  exact q _ _ F H h (Step.refl s) (.bl _)
theorem wne_int {i j : Int} (h : Φ (.bool (decide (i ≠ j)))) : WOp X (rNeA X.K) (.int i) (.int j) Φ := wop_inl fun M F H vx vy s rx ry Q q => by
  obtain rfl := rx.int_inv
  obtain rfl := ry.int_inv
  refine ⟨rfl, ?_⟩
  rw [dec_int, Bool.beq_eq_decide_eq, ← decide_not]
  exact q _ _ F H h (Step.refl s) (.bl _)
theorem weq_str {i j : Str} (h : Φ (.bool (decide (i = j)))) : WOp X (rEqA X.K) (.str i) (.str j) Φ := wop_inl fun M F H vx vy s rx ry Q q => by
  obtain rfl := rx.str_inv
  obtain rfl := ry.str_inv
  refine ⟨rfl, ?_⟩
  rw [dec_str, Bool.beq_eq_decide_eq]
  exact q _ _ F H h (Step.refl s) (.bl _)
theorem wne_str {i j : Str} (h : Φ (.bool (decide (i ≠ j)))) : WOp X (rNeA X.K) (.str i) (.str j) Φ := wop_inl fun M F H vx vy s rx ry Q q => by
  obtain rfl := rx.str_inv
  obtain rfl := ry.str_inv
  refine ⟨rfl, ?_⟩
  rw [dec_str, Bool.beq_eq_decide_eq, ← decide_not]
  exact q _ _ F H h (Step.refl s) (.bl _)
theorem weq_bl {i j : Bool} (h : Φ (.bool (decide (i = j)))) : WOp X (rEqA X.K) (.bool i) (.bool j) Φ := wop_inl fun M F H vx vy s rx ry Q q => by
  obtain rfl := rx.bl_inv
  obtain rfl := ry.bl_inv
  refine ⟨rfl, ?_⟩
  rw [dec_bl, Bool.beq_eq_decide_eq]
  exact q _ _ F H h (Step.refl s) (.bl _)
theorem wne_bl {i j : Bool} (h : Φ (.bool (decide (i ≠ j)))) : WOp X (rNeA X.K) (.bool i) (.bool j) Φ := wop_inl fun M F H vx vy s rx ry Q q => by
  obtain rfl := rx.bl_inv
  obtain rfl := ry.bl_inv
  refine ⟨rfl, ?_⟩
  rw [dec_bl, Bool.beq_eq_decide_eq, ← decide_not]
  exact q _ _ F H h (Step.refl s) (.bl _)

/-! in, not in: flat items in a list, a tuple -/
def flatD : PyData → Bool
  | .none => true
  | .bool _ => true
  | .int _ => true
  | .str _ => true
  | _ => false
theorem flat_of {K : PySem.W.Frag} {F : Hp} {v : V} {d : PyData} (r : Rp K F v d) (h : flatD d = true) : flatV v = true := by
  cases r <;> first | rfl | cases h
theorem flat_all {K : PySem.W.Frag} {F : Hp} : ∀ {vs : List V} {ds : List PyData}, RpAll K F vs ds → ds.all flatD = true → vs.all flatV = true
  | _, _, .nil, _ => rfl
  | _, _, .cons r t, h => by
    rw [List.all_cons, Bool.and_eq_true] at h ⊢
    exact ⟨flat_of r h.1, flat_all t h.2⟩
theorem eqV_of {K : PySem.W.Frag} {F : Hp} {v u : V} {d e : PyData} (r : Rp K F v d) (q : Rp K F u e) (h : flatD d = true) (k : flatD e = true) : eqV v u = PyData.eqv d e := by
  cases r <;> cases q <;> first | rfl | cases h | cases k | (simp [eqV, PyData.eqv]; done)
def inD (x : PyData) (ds : List PyData) : Bool := ds.any fun y => PyData.eqv y x
theorem inV_of {K : PySem.W.Frag} {F : Hp} {v : V} {d : PyData} (q : Rp K F v d) (k : flatD d = true) : ∀ {vs : List V} {ds : List PyData}, RpAll K F vs ds → ds.all flatD = true → inV v vs = inD d ds
  | _, _, .nil, _ => rfl
  | _, _, .cons r t, h => by
    rw [List.all_cons, Bool.and_eq_true] at h
    show (eqV _ v || inV v _) = (PyData.eqv _ d || inD d _)
    rw [eqV_of r q h.1 k, inV_of q k t h.2]
theorem win_lst {neg : Bool} {ds : List PyData} (h1 : flatD x = true) (h2 : ds.all flatD = true) (h : Φ (.bool (if neg then !inD x ds else inD x ds))) : WOp X (rIn X.K neg) x (.list ds) Φ := fun M F H vx vy s rx ry Q q => by
  obtain ⟨b, ys, rfl, hb, rb⟩ := ry.lst_inv
  exact ⟨b, ys, rfl, .inl (SqL.of (s _ _ hb)), flat_of rx h1, flat_all rb h2, by rw [inV_of rx h1 rb h2]; exact q _ _ F H h (Step.refl s) (.bl _)⟩
theorem win_tup {neg : Bool} {ds : List PyData} (h1 : flatD x = true) (h2 : ds.all flatD = true) (h : Φ (.bool (if neg then !inD x ds else inD x ds))) : WOp X (rIn X.K neg) x (.tuple ds) Φ := fun M F H vx vy s rx ry Q q => by
  obtain ⟨b, ys, rfl, hb, rb⟩ := ry.tup_inv
  exact ⟨b, ys, rfl, .inr (same_t s hb), flat_of rx h1, flat_all rb h2, by rw [inV_of rx h1 rb h2]; exact q _ _ F H h (Step.refl s) (.bl _)⟩
end

/-! is None, is not None -/
section
variable {X : Cx} {W : WX} {ρ : List Sl} {e a b : Expr} {es : List Expr} {Ξ : Exn → Prop} {Φ : PyData → Prop} {Θ : Bool → Prop} {pos : Pos}
def isNone : PyData → Bool
  | .none => true
  | _ => false
theorem rp_isNone {K : PySem.W.Frag} {F : Hp} {v : V} {d : PyData} (r : Rp K F v d) : decide (v = .non) = isNone d := by
  cases r <;> rfl
theorem we_isN {j p2} (h : WE X W ρ a Ξ fun d => Φ (.bool (isNone d))) : WE X W ρ (.Compare a [.Is] [.Constant .none j p2] pos) Ξ Φ := fun B F H σ env Q q qx =>
  wE_of (pe_cmp (pc_isN pe_w) rfl) (h B F H σ env _ (fun v d F1 H1 hd st r => by rw [rp_isNone r]; exact q _ _ F1 H1 hd st (.bl _)) qx)
theorem we_notN {j p2} (h : WE X W ρ a Ξ fun d => Φ (.bool (!isNone d))) : WE X W ρ (.Compare a [.IsNot] [.Constant .none j p2] pos) Ξ Φ := fun B F H σ env Q q qx =>
  wE_of (pe_cmp (pc_notN pe_w) rfl) (h B F H σ env _ (fun v d F1 H1 hd st r => by rw [rp_isNone r]; exact q _ _ F1 H1 hd st (.bl _)) qx)
theorem wt_isN {j p2} (h : WE X W ρ a Ξ fun d => Θ (isNone d)) : WT X W ρ (.Compare a [.Is] [.Constant .none j p2] pos) Ξ Θ := fun B F H σ env Q q qx =>
  wT_of (pt_cmp (pc_isN pe_w) rfl) (h B F H σ env _ (fun v d F1 H1 hd st r => by rw [rp_isNone r]; exact ⟨_, rfl, q _ F1 H1 hd st⟩) qx)
theorem wt_notN {j p2} (h : WE X W ρ a Ξ fun d => Θ (!isNone d)) : WT X W ρ (.Compare a [.IsNot] [.Constant .none j p2] pos) Ξ Θ := fun B F H σ env Q q qx =>
  wT_of (pt_cmp (pc_notN pe_w) rfl) (h B F H σ env _ (fun v d F1 H1 hd st r => by rw [rp_isNone r]; exact ⟨_, rfl, q _ F1 H1 hd st⟩) qx)

/-! subscripts -/
theorem we_ix {r : R2} (ho : IxR X r) (h : WE X W ρ a Ξ fun x => WE X W ρ b Ξ fun y => WOp X r x y Φ) (hs : PlainIx b := by exact fun _ _ => rfl) : WE X W ρ (.Subscript a b pos) Ξ Φ := fun B F H σ env Q q qx =>
  wE_of (pe_ix ho pe_w pe_w hs) (h B F H σ env _ (fun v x F1 H1 hx st1 r1 => hx B F1 H1 σ (env.step st1) _
    (fun w y F2 H2 hy st2 r2 => hy B.M F2 H2 v w st2.sub (r1.mono st2.fr) r2 Q (q.step (st1.trans st2))) (qx.step st1)) qx)
def rIx3 (K : PySem.W.Frag) : R2 := fun x y H Q => (rIxL K x y H Q) ∨ ((rIxT K x y H Q) ∨ rIxS x y H Q)
theorem ix_3 : IxR X (rIx3 X.K) := ix_list.or (ix_tup.or ix_str)
theorem rp_atI {K : PySem.W.Frag} {F : Hp} {vs : List V} {ds : List PyData} {i : Int} {d : PyData} (r : RpAll K F vs ds) (h : atI ds i = some d) : ∃ v, atI vs i = some v ∧ Rp K F v d := by
  unfold atI at h ⊢
  rw [r.len]
  cases e : ixN ds.length i with
  | none => rw [e] at h; cases h
  | some j =>
    rw [e] at h
    exact r.get h
theorem wix_lst {ds : List PyData} {i : Int} {d : PyData} (hi : atI ds i = some d) (h : Φ d) : WOp X (rIx3 X.K) (.list ds) (.int i) Φ := wop_inl fun M F H vx vy s rx ry Q q => by
  obtain ⟨a, xs, rfl, ha, ra⟩ := rx.lst_inv
  obtain ⟨v, e, rv⟩ := rp_atI ra hi
  exact ⟨a, xs, i, v, rfl, ry.int_inv, SqL.of (s _ _ ha), e, q _ _ F H h (Step.refl s) rv⟩
theorem wix_tup {ds : List PyData} {i : Int} {d : PyData} (hi : atI ds i = some d) (h : Φ d) : WOp X (rIx3 X.K) (.tuple ds) (.int i) Φ := wop_inr (wop_inl fun M F H vx vy s rx ry Q q => by
  obtain ⟨a, xs, rfl, ha, ra⟩ := rx.tup_inv
  obtain ⟨v, e, rv⟩ := rp_atI ra hi
  exact ⟨a, xs, i, v, rfl, ry.int_inv, same_t s ha, e, q _ _ F H h (Step.refl s) rv⟩)
theorem wix_str {z : Str} {i : Int} {c : Nat} (hz : z.length ≤ 100000) (hi : atI z.cps.toList i = some c) (h : Φ (.str ⟨#[c]⟩)) : WOp X (rIx3 X.K) (.str z) (.int i) Φ := wop_inr (wop_inr fun M F H vx vy s rx ry Q q =>
  ⟨z, i, c, rx.str_inv, ry.int_inv, Nat.le_trans hz (by decide), hi, q _ _ F H h (Step.refl s) (.str _)⟩)
/-- an item of an own list -/
theorem we_ixO (i : Nat) {x : Str} {ds : List PyData} {px : Pos} (hi : ρ[i]? = some (.own ds)) (h : WE X W ρ b Ξ fun y => ∃ k d, y = .int k ∧ atI ds k = some d ∧ Φ d) (hs : PlainIx b := by exact fun _ _ => rfl)
    (hN : X.N[i]? = some x := by rfl) (hv : Vis X.env.scope x := by first | exact Or.inl rfl | exact Or.inr (Or.inl rfl) | exact Or.inr (Or.inr rfl))
    (hd : (x == ("__debug__" : Str)) = false := by decide) (hcd : (x == ("__classdict__" : Str)) = false := by decide) : WE X W ρ (.Subscript (.Name x px) b pos) Ξ Φ := fun B F H σ env Q q qx => by
  obtain ⟨p, vs, e1, hp, fp, h0, nm, r⟩ := env.sl i _ hi
  refine wE_of (pe_ix ix_list (pv i hN hv hd hcd) pe_w hs) ⟨_, e1, h B F H σ env _ (fun w y F2 H2 hy st2 r2 => ?_) qx⟩
  obtain ⟨k, d, rfl, ha, hΦ⟩ := hy
  obtain ⟨v, e, rv⟩ := rp_atI r ha
  exact ⟨p, vs, k, v, rfl, r2.int_inv, SqL.of (st2.keep _ _ nm hp), e, q _ _ F2 H2 hΦ st2 (rv.mono st2.fr)⟩

/-! slices -/
def cutD (ds : List PyData) (lo hi : Option Int) : List PyData := (ds.drop (HT.sIx ds.length 0 lo)).take (HT.sIx ds.length ds.length hi - HT.sIx ds.length 0 lo)
theorem rp_cut {K : PySem.W.Frag} {F : Hp} {vs : List V} {ds : List PyData} (r : RpAll K F vs ds) (lo hi : Option Int) : RpAll K F (cutV vs lo hi) (cutD ds lo hi) := by
  unfold cutV cutD
  rw [r.len]
  exact (r.drop _).take _
theorem cutD_whole {ds : List PyData} {lo hi : Option Int} (h : HT.sIx ds.length 0 lo = 0 ∧ HT.sIx ds.length ds.length hi = ds.length) : cutD ds lo hi = ds := by
  unfold cutD
  rw [h.1, h.2, List.drop_zero, Nat.sub_zero, List.take_length]
/-- a slice's part -/
def WO (X : Cx) (W : WX) (ρ : List Sl) (e : Option Expr) (Ξ : Exn → Prop) (Θ : Option Int → Prop) : Prop := match e with
  | none => Θ none
  | some e => WE X W ρ e Ξ fun d => ∃ i, d = .int i ∧ Θ (some i)
def rSl3 (K : PySem.W.Frag) : V → Option Int → Option Int → Hp → VK → Prop := fun x lo hi H Q => rSlL K x lo hi H Q ∨ (rSlA K x lo hi H Q ∨ rSlS x lo hi H Q)
theorem sl_3 : SlR X (rSl3 X.K) := sl_list.or (sl_tupA.or sl_str)
/-- what a slice of x gives -/
def sliceD (x : PyData) (lo hi : Option Int) (Φ : PyData → Prop) : Prop := match x with
  | .list ds => Φ (.list (cutD ds lo hi))
  | .tuple ds => Φ (.tuple (cutD ds lo hi))
  | .str z => z.length ≤ 100000 ∧ Φ (.str (cutS z lo hi))
  | _ => False
theorem slice_dat {M : Addr → Prop} {F H : Hp} {v : V} {x : PyData} {lo hi : Option Int} {Q : VK} (s : Same F H) (r : Rp X.K F v x) (h : sliceD x lo hi Φ) (q : OkE X.K M F H Φ Q) : rSl3 X.K v lo hi H Q := by
  cases x with
  | list ds =>
    obtain ⟨a, xs, rfl, ha, ra⟩ := r.lst_inv
    refine .inl ⟨a, xs, rfl, SqL.of (s _ _ ha), fun p hp => ?_⟩
    have st : Step M F H (upd F p (.lst (cutV xs lo hi))) (upd H p (.lst (cutV xs lo hi))) := Step.frz s hp
    exact q _ _ _ _ h st (.lst upd_same (RpAll.mono st.fr _ _ (rp_cut ra _ _)))
  | tuple ds =>
    obtain ⟨a, xs, rfl, ha, ra⟩ := r.tup_inv
    refine .inr (.inl ⟨a, xs, rfl, same_t s ha, fun hw => ?_, fun _ p hp => ?_⟩)
    · rw [ra.len] at hw
      have h' : Φ (.tuple (cutD ds lo hi)) := h
      rw [cutD_whole hw] at h'
      exact q _ _ F H h' (Step.refl s) (.tup ha ra)
    · have st : Step M F H (upd F p (.tup (cutV xs lo hi))) (upd H p (.tup (cutV xs lo hi))) := Step.frz s hp
      exact q _ _ _ _ h st (.tup (SqT.of upd_same) (RpAll.mono st.fr _ _ (rp_cut ra _ _)))
  | str z => exact .inr (.inr ⟨z, r.str_inv, Nat.le_trans h.1 (by decide), q _ _ F H h.2 (Step.refl s) (.str _)⟩)
  | _ => exact h.elim
def wO (X : Cx) (e : Option Expr) : TO := match e with
  | none => tNoPart
  | some e => tPart (wE X e)
theorem po_w {o : Option Expr} : PO X o (wO X o) := match o with
  | none => po_none
  | some _ => po_some pe_w
theorem wo_run {o : Option Expr} {Θ : Option Int → Prop} {B : Base} {F H : Hp} {σ : L2.St} {Q : Option Int → Hp → Prop} (h : WO X W ρ o Ξ Θ) (env : EnvOk X.K B F H σ ρ) (q : ∀ k F1 H1, Θ k → Step B.M F H F1 H1 → Q k H1) (qx : ExE X.K B.M F H W σ Ξ) : wO X o σ H Q := by
  cases o with
  | none => exact q none F H h (Step.refl env.sub)
  | some e => exact (show WE X W ρ e Ξ _ from h) B F H σ env _ (fun v d F1 H1 hd st r => by
      obtain ⟨i, rfl, hi⟩ := hd
      exact ⟨i, r.int_inv, q _ F1 H1 hi st⟩) qx
theorem we_slice {lo hi : Option Expr} {p2 : Pos} (h : WE X W ρ a Ξ fun x => WO X W ρ lo Ξ fun l => WO X W ρ hi Ξ fun u => sliceD x l u Φ) : WE X W ρ (.Subscript a (.Slice lo hi none p2) pos) Ξ Φ := fun B F H σ env Q q qx =>
  wE_of (pe_slice sl_3 pe_w po_w po_w) (h B F H σ env _ (fun v x F1 H1 hx st1 r1 => wo_run hx (env.step st1) (fun l F2 H2 hl st2 =>
    wo_run hl ((env.step st1).step st2) (fun u F3 H3 hu st3 => slice_dat st3.sub (r1.mono (st2.fr.trans st3.fr)) hu (q.step ((st1.trans st2).trans st3))) ((qx.step st1).step st2)) (qx.step st1)) qx)

/-! built-in calls -/
theorem callR_or {f : Value} {r r' : List V → Hp → VK → Prop} (h : CallR X f r) (h' : CallR X f r') : CallR X f (fun xs H Q => r xs H Q ∨ r' xs H Q) := by
  intro pins s σ H xs us Q I rx q
  rcases q with q | q
  · exact h pins s σ H xs us Q I rx q
  · exact h' pins s σ H xs us Q I rx q
def WCall (X : Cx) (r : List V → Hp → VK → Prop) (ds : List PyData) (Φ : PyData → Prop) : Prop :=
  ∀ M F H vs, Same F H → RpAll X.K F vs ds → ∀ Q, OkE X.K M F H Φ Q → r vs H Q
theorem we_callB {x : Str} {id : String} {r : List V → Hp → VK → Prop} {p : Pos} (hc : CallR X (.builtin id) r) (hm : X.mg x = none) (hv : bootBuiltins x = some (.builtin id)) (h : WA X W ρ (e :: es) Ξ fun as => dats as fun ds => WCall X r ds Φ) (hg : Gl X x := by rfl) (hn : x ≠ "__name__" := by decide) (hdb : (x == ("__debug__" : Str)) = false := by decide)
    (he : starEach (e :: es) X.env = (false, eval e X.env) :: starEach es X.env := by rfl) (hpl : (backTo pos (starEach es X.env)).any (·.1) = false := by rfl) : WE X W ρ (.Call (.Name x p) (e :: es) [] pos) Ξ Φ := fun B F H σ env Q q qx =>
  wE_of (pe_callB hc hg hm hv pa_w hn hdb he hpl) (h B F H σ env _ (fun vs as F1 H1 ha st rs => by
    obtain ⟨ds, rfl, hr⟩ := ha
    exact hr B.M F1 H1 vs st.sub rs.dats Q (q.step st)) qx)
theorem we_callTy {x : Str} {T : String} {r : List V → Hp → VK → Prop} {p : Pos} (hc : CallR X (.type T) r) (hm : X.mg x = none) (hv : bootBuiltins x = some (.type T)) (h : WA X W ρ (e :: es) Ξ fun as => dats as fun ds => WCall X r ds Φ) (hg : Gl X x := by rfl) (hn : x ≠ "__name__" := by decide) (hdb : (x == ("__debug__" : Str)) = false := by decide)
    (he : starEach (e :: es) X.env = (false, eval e X.env) :: starEach es X.env := by rfl) (hpl : (backTo pos (starEach es X.env)).any (·.1) = false := by rfl) : WE X W ρ (.Call (.Name x p) (e :: es) [] pos) Ξ Φ := fun B F H σ env Q q qx =>
  wE_of (pe_callTy hc hg hm hv pa_w hn hdb he hpl) (h B F H σ env _ (fun vs as F1 H1 ha st rs => by
    obtain ⟨ds, rfl, hr⟩ := ha
    exact hr B.M F1 H1 vs st.sub rs.dats Q (q.step st)) qx)
theorem rp1 {K : PySem.W.Frag} {F : Hp} {vs : List V} {d : PyData} (h : RpAll K F vs [d]) : ∃ v, vs = [v] ∧ Rp K F v d := by
  cases h with
  | cons r t => cases t; exact ⟨_, rfl, r⟩
theorem rp2 {K : PySem.W.Frag} {F : Hp} {vs : List V} {d e : PyData} (h : RpAll K F vs [d, e]) : ∃ v w, vs = [v, w] ∧ Rp K F v d ∧ Rp K F w e := by
  cases h with
  | cons r t => cases t with
    | cons r2 t => cases t; exact ⟨_, _, rfl, r, r2⟩
def rLen (K : PySem.W.Frag) : List V → Hp → VK → Prop := fun xs H Q => ∃ x n, xs = [x] ∧ LenV K x H n ∧ Q (.int n) H
theorem call_lenA : CallR X (.builtin "len") (rLen X.K) := call_len
def lenD : PyData → Option Nat
  | .list ds => some ds.length
  | .tuple ds => some ds.length
  | .str z => if z.length ≤ 100000 then some z.length else none
  | _ => none
theorem wlen {d : PyData} {n : Nat} (hd : lenD d = some n) (h : Φ (.int n)) : WCall X (rLen X.K) [d] Φ := fun M F H vs s rs Q q => by
  obtain ⟨v, rfl, r⟩ := rp1 rs
  have fin : Q (.int n) H := q _ _ F H h (Step.refl s) (.int _)
  cases d with
  | list ds =>
    obtain ⟨a, xs, rfl, ha, ra⟩ := r.lst_inv
    cases hd
    exact ⟨_, _, rfl, .inl ⟨xs, SqL.of (s _ _ ha), ra.len.symm⟩, fin⟩
  | tuple ds =>
    obtain ⟨a, xs, rfl, ha, ra⟩ := r.tup_inv
    cases hd
    exact ⟨_, _, rfl, .inr ⟨xs, same_t s ha, ra.len.symm⟩, fin⟩
  | str z =>
    have e : (if z.length ≤ 100000 then some z.length else none) = some n := hd
    by_cases hz : z.length ≤ 100000
    · rw [if_pos hz] at e
      cases e
      obtain rfl := r.str_inv
      exact ⟨_, _, rfl, ⟨Nat.le_trans hz (by decide), rfl⟩, fin⟩
    · rw [if_neg hz] at e
      cases e
  | _ => cases hd
def rAbs : List V → Hp → VK → Prop := fun xs H Q => ∃ i, xs = [.int i] ∧ Q (.int (if i < 0 then -i else i)) H
theorem call_absA : CallR X (.builtin "abs") rAbs := call_abs
theorem wabs {i : Int} (h : Φ (.int (if i < 0 then -i else i))) : WCall X rAbs [.int i] Φ := fun M F H vs s rs Q q => by
  obtain ⟨v, rfl, r⟩ := rp1 rs
  exact ⟨i, by rw [r.int_inv], q _ _ F H h (Step.refl s) (.int _)⟩
/-- max, min of two ints, of a list of ints -/
def rMax3 (K : PySem.W.Frag) : List V → Hp → VK → Prop := fun xs H Q => (∃ i j, xs = [.int i, .int j] ∧ Q (.int (if j > i then j else i)) H) ∨ rMax K xs H Q
def rMin3 (K : PySem.W.Frag) : List V → Hp → VK → Prop := fun xs H Q => (∃ i j, xs = [.int i, .int j] ∧ Q (.int (if j < i then j else i)) H) ∨ rMin K xs H Q
theorem call_max3 (hc : X.calm = true) : CallR X (.builtin "max") (rMax3 X.K) := callR_or (call_max2 hc) (cr_max hc)
theorem call_min3 (hc : X.calm = true) : CallR X (.builtin "min") (rMin3 X.K) := callR_or (call_min2 hc) (cr_min hc)
theorem wmax2 {i j : Int} (h : Φ (.int (if j > i then j else i))) : WCall X (rMax3 X.K) [.int i, .int j] Φ := fun M F H vs s rs Q q => by
  obtain ⟨v, w, rfl, r, r2⟩ := rp2 rs
  exact .inl ⟨i, j, by rw [r.int_inv, r2.int_inv], q _ _ F H h (Step.refl s) (.int _)⟩
theorem wmin2 {i j : Int} (h : Φ (.int (if j < i then j else i))) : WCall X (rMin3 X.K) [.int i, .int j] Φ := fun M F H vs s rs Q q => by
  obtain ⟨v, w, rfl, r, r2⟩ := rp2 rs
  exact .inl ⟨i, j, by rw [r.int_inv, r2.int_inv], q _ _ F H h (Step.refl s) (.int _)⟩
theorem wmax {ns : List Int} (hn : ns ≠ []) (h : ∀ m, m ∈ ns → (∀ y, y ∈ ns → y ≤ m) → Φ (.int m)) : WCall X (rMax3 X.K) [.list (ns.map .int)] Φ := fun M F H vs s rs Q q => by
  obtain ⟨v, rfl, r⟩ := rp1 rs
  obtain ⟨a, xs, rfl, ha, ra⟩ := r.lst_inv
  obtain rfl := ra.ints_inv
  exact .inr ⟨a, ns, rfl, SqL.of (s _ _ ha), List.length_pos_iff.mpr hn, fun m h1 h2 => q _ _ F H (h m h1 h2) (Step.refl s) (.int _)⟩
theorem wmin {ns : List Int} (hn : ns ≠ []) (h : ∀ m, m ∈ ns → (∀ y, y ∈ ns → m ≤ y) → Φ (.int m)) : WCall X (rMin3 X.K) [.list (ns.map .int)] Φ := fun M F H vs s rs Q q => by
  obtain ⟨v, rfl, r⟩ := rp1 rs
  obtain ⟨a, xs, rfl, ha, ra⟩ := r.lst_inv
  obtain rfl := ra.ints_inv
  exact .inr ⟨a, ns, rfl, SqL.of (s _ _ ha), List.length_pos_iff.mpr hn, fun m h1 h2 => q _ _ F H (h m h1 h2) (Step.refl s) (.int _)⟩
theorem wsum {ns : List Int} (h : Φ (.int ns.sum)) : WCall X (rSum X.K) [.list (ns.map .int)] Φ := fun M F H vs s rs Q q => by
  obtain ⟨v, rfl, r⟩ := rp1 rs
  obtain ⟨a, xs, rfl, ha, ra⟩ := r.lst_inv
  obtain rfl := ra.ints_inv
  exact ⟨a, ns, rfl, SqL.of (s _ _ ha), q _ _ F H h (Step.refl s) (.int _)⟩
theorem wall {bs : List Bool} (h : Φ (.bool (bs.all id))) : WCall X (rAll X.K) [.list (bs.map .bool)] Φ := fun M F H vs s rs Q q => by
  obtain ⟨v, rfl, r⟩ := rp1 rs
  obtain ⟨a, xs, rfl, ha, ra⟩ := r.lst_inv
  obtain rfl := ra.bls_inv
  exact ⟨a, bs, rfl, SqL.of (s _ _ ha), q _ _ F H h (Step.refl s) (.bl _)⟩
theorem wany {bs : List Bool} (h : Φ (.bool (bs.any id))) : WCall X (rAny X.K) [.list (bs.map .bool)] Φ := fun M F H vs s rs Q q => by
  obtain ⟨v, rfl, r⟩ := rp1 rs
  obtain ⟨a, xs, rfl, ha, ra⟩ := r.lst_inv
  obtain rfl := ra.bls_inv
  exact ⟨a, bs, rfl, SqL.of (s _ _ ha), q _ _ F H h (Step.refl s) (.bl _)⟩
/-- list(..), tuple(..) of a list, a tuple -/
def rListOf (K : PySem.W.Frag) : List V → Hp → VK → Prop := fun xs H Q => ∃ p ys, xs = [.ref p] ∧ (SqL K H p ys ∨ SqT K H p ys) ∧ ∀ l, H l = none → Q (.ref l) (upd H l (.lst ys))
def rTupleOf (K : PySem.W.Frag) : List V → Hp → VK → Prop := fun xs H Q => ∃ p ys, xs = [.ref p] ∧ ((SqL K H p ys ∧ ∀ l, H l = none → Q (.ref l) (upd H l (.tup ys))) ∨ (SqT K H p ys ∧ Q (.ref p) H))
theorem call_listA : CallR X (.type "list") (rListOf X.K) := call_list_of
theorem call_tupleA : CallR X (.type "tuple") (rTupleOf X.K) := call_tuple_of
def itemsD : PyData → Option (List PyData)
  | .list ds => some ds
  | .tuple ds => some ds
  | _ => none
theorem rp_items {K : PySem.W.Frag} {F H : Hp} {v : V} {d : PyData} {ds : List PyData} (s : Same F H) (r : Rp K F v d) (h : itemsD d = some ds) : ∃ p ys, v = .ref p ∧ (SqL K H p ys ∨ SqT K H p ys) ∧ RpAll K F ys ds := by
  cases d with
  | list es =>
    obtain ⟨a, xs, rfl, ha, ra⟩ := r.lst_inv
    cases h
    exact ⟨a, xs, rfl, .inl (SqL.of (s _ _ ha)), ra⟩
  | tuple es =>
    obtain ⟨a, xs, rfl, ha, ra⟩ := r.tup_inv
    cases h
    exact ⟨a, xs, rfl, .inr (same_t s ha), ra⟩
  | _ => cases h
theorem wlist {d : PyData} {ds : List PyData} (hd : itemsD d = some ds) (h : Φ (.list ds)) : WCall X (rListOf X.K) [d] Φ := fun M F H vs s rs Q q => by
  obtain ⟨v, rfl, r⟩ := rp1 rs
  obtain ⟨p, ys, rfl, hs, ra⟩ := rp_items s r hd
  refine ⟨p, ys, rfl, hs, fun l hl => ?_⟩
  have st : Step M F H (upd F l (.lst ys)) (upd H l (.lst ys)) := Step.frz s hl
  exact q _ _ _ _ h st (.lst upd_same (RpAll.mono st.fr _ _ ra))
theorem wtuple {d : PyData} {ds : List PyData} (hd : itemsD d = some ds) (h : Φ (.tuple ds)) : WCall X (rTupleOf X.K) [d] Φ := fun M F H vs s rs Q q => by
  obtain ⟨v, rfl, r⟩ := rp1 rs
  cases d with
  | list es =>
    obtain ⟨a, xs, rfl, ha, ra⟩ := r.lst_inv
    cases hd
    refine ⟨a, xs, rfl, .inl ⟨SqL.of (s _ _ ha), fun l hl => ?_⟩⟩
    have st : Step M F H (upd F l (.tup xs)) (upd H l (.tup xs)) := Step.frz s hl
    exact q _ _ _ _ h st (.tup (SqT.of upd_same) (RpAll.mono st.fr _ _ ra))
  | tuple es =>
    obtain ⟨a, xs, rfl, ha, ra⟩ := r.tup_inv
    cases hd
    exact ⟨a, xs, rfl, .inr ⟨same_t s ha, q _ _ F H h (Step.refl s) (.tup ha ra)⟩⟩
  | _ => cases hd
/-- int(..) of an int -/
def rInt1 : List V → Hp → VK → Prop := fun xs H Q => (∃ i, xs = [.int i] ∧ Q (.int i) H) ∨ ∃ k, xs = [.bl k] ∧ Q (.int (if k then 1 else 0)) H
def rIntS : List V → Hp → VK → Prop := fun xs H Q => ∃ a n, xs = [.str a] ∧ PySem.intText? a = some n ∧ a.length ≤ 640 ∧ Q (.int n) H
def rInt (xs : List V) (H : Hp) (Q : VK) : Prop := rInt1 xs H Q ∨ rIntS xs H Q
theorem call_intA : CallR X (.type "int") rInt := callR_or (r := rInt1) (r' := rIntS) call_int1 call_int_str
theorem wint_int {i : Int} (h : Φ (.int i)) : WCall X rInt [.int i] Φ := fun M F H vs s rs Q q => by
  obtain ⟨v, rfl, r⟩ := rp1 rs
  exact .inl (.inl ⟨i, by rw [r.int_inv], q _ _ F H h (Step.refl s) (.int _)⟩)
theorem wint_str {a : Str} {n : Int} (hn : PySem.intText? a = some n) (hl : a.length ≤ 640) (h : Φ (.int n)) : WCall X rInt [.str a] Φ := fun M F H vs s rs Q q => by
  obtain ⟨v, rfl, r⟩ := rp1 rs
  exact .inr ⟨a, n, by rw [r.str_inv], hn, hl, q _ _ F H h (Step.refl s) (.int _)⟩
def rStrI : List V → Hp → VK → Prop := fun xs H Q => ∃ i, xs = [.int i] ∧ i.natAbs.log2 < 1920 ∧ Q (.str (toString i)) H
theorem call_strA : CallR X (.type "str") rStrI := call_str_int
theorem wstr_int {i : Int} (hi : i.natAbs.log2 < 1920) (h : Φ (.str (toString i))) : WCall X rStrI [.int i] Φ := fun M F H vs s rs Q q => by
  obtain ⟨v, rfl, r⟩ := rp1 rs
  exact ⟨i, by rw [r.int_inv], hi, q _ _ F H h (Step.refl s) (.str _)⟩
end
end Mv

set_option maxRecDepth 100000
set_option maxHeartbeats 4000000
/-! values with their kind (WK), statements (W1, WS), loops, comprehensions, promises -/
namespace Mv
open PySem L2

/-! ### values with their kind -/
/-- a value v of the kind s, made since the heap H: data, or a new list, a new dict of one's own -/
def SlV (K : PySem.W.Frag) (H F2 H2 : Hp) (v : V) : Sl → Prop
  | .dat d => Rp K F2 v d
  | .own ds => ∃ p vs, v = .ref p ∧ H p = none ∧ H2 p = some (.lst vs) ∧ F2 p = none ∧ RpAll K F2 vs ds
  | .odk ds => ∃ p vs, v = .ref p ∧ H p = none ∧ H2 p = some (.dK vs) ∧ F2 p = none ∧ KvRp K F2 vs ds
  | _ => False
def OkK (K : PySem.W.Frag) (M : Addr → Prop) (F H : Hp) (Φ : Sl → Prop) (Q : VK) : Prop := ∀ v s F2 H2, Φ s → Step M F H F2 H2 → SlV K H F2 H2 v s → Q v H2
def WK (X : Cx) (W : WX) (ρ : List Sl) (e : Expr) (Ξ : Exn → Prop) (Φ : Sl → Prop) : Prop :=
  ∀ B F H σ, EnvOk X.K B F H σ ρ → ∀ Q, OkK X.K B.M F H Φ Q → ExE X.K B.M F H W σ Ξ → wE X e σ H Q
/-- seen as data: an own list is frozen -/
def asDat (Φ : PyData → Prop) : Sl → Prop
  | .dat d => Φ d
  | .own ds => Φ (.list ds)
  | .odk [] => Φ (.dict [])
  | _ => False
def asSl (Φ : Sl → Prop) : PyData → Prop := fun d => Φ (.dat d)
section
variable {X : Cx} {W : WX} {ρ : List Sl} {e a b c : Expr} {es : List Expr} {Ξ : Exn → Prop} {Φ : PyData → Prop} {Ψ : Sl → Prop} {pos : Pos}
theorem SlV.older {K : PySem.W.Frag} {H0 H F2 H2 : Hp} {v : V} {s : Sl} (h : ∀ p, H p = none → H0 p = none) (r : SlV K H F2 H2 v s) : SlV K H0 F2 H2 v s := by
  cases s with
  | dat d => exact r
  | own ds => obtain ⟨p, vs, e, hp, q⟩ := r; exact ⟨p, vs, e, h p hp, q⟩
  | odk ds => obtain ⟨p, vs, e, hp, q⟩ := r; exact ⟨p, vs, e, h p hp, q⟩
  | _ => exact r
theorem Step.back {M : Addr → Prop} {F H F2 H2 : Hp} (st : Step M F H F2 H2) : ∀ p, H2 p = none → H p = none := fun p hp => by
  cases e : H p with
  | none => rfl
  | some x => exact absurd hp (st.alive p (by rw [e]; exact fun z => nomatch z))
/-- what is made now stays through a step -/
theorem SlV.step {K : PySem.W.Frag} {M : Addr → Prop} {H F1 H1 F2 H2 : Hp} {v : V} {s : Sl} (hM : ∀ p, H p = none → ¬ M p) (r : SlV K H F1 H1 v s) (st : Step M F1 H1 F2 H2) : SlV K H F2 H2 v s := by
  cases s with
  | dat d => exact Rp.mono st.fr _ _ r
  | own ds =>
    obtain ⟨p, vs, e, hp, h1, f1, q⟩ := r
    exact ⟨p, vs, e, hp, st.keep p _ (hM p hp) h1, by rw [st.new p (by rw [h1]; exact fun z => nomatch z)]; exact f1, RpAll.mono st.fr _ _ q⟩
  | odk ds =>
    obtain ⟨p, vs, e, hp, h1, f1, q⟩ := r
    exact ⟨p, vs, e, hp, st.keep p _ (hM p hp) h1, by rw [st.new p (by rw [h1]; exact fun z => nomatch z)]; exact f1, q.mono st.fr⟩
  | _ => exact r
/-- an own thing of the end is frozen -/
theorem Step.freeze {M : Addr → Prop} {F H F2 H2 : Hp} (st : Step M F H F2 H2) {p : Addr} {o : HO} (hp : H p = none) (h2 : H2 p = some o) (f2 : F2 p = none) : Step M F H (upd F2 p o) H2 where
  fr := fun a x e => by
    by_cases z : a = p
    · subst z
      rw [st.fr _ _ e] at f2
      cases f2
    · rw [upd_ne z]
      exact st.fr a x e
  sub := fun a x e => by
    by_cases z : a = p
    · subst z
      rw [upd_same] at e
      rw [h2]
      exact e
    · rw [upd_ne z] at e
      exact st.sub a x e
  keep := st.keep
  new := fun a n => by
    have z : a ≠ p := fun z => n (by rw [z]; exact hp)
    rw [upd_ne z]
    exact st.new a n
  alive := st.alive
  dr := st.dr
theorem we_of_wk (h : WK X W ρ e Ξ (asDat Φ)) : WE X W ρ e Ξ Φ := fun B F H σ env Q q qx => h B F H σ env Q (fun v s F2 H2 hs st r => by
  cases s with
  | dat d => exact q v d F2 H2 hs st r
  | own ds =>
    obtain ⟨p, vs, rfl, hp, h2, f2, ra⟩ := r
    have s2 : Same F2 (upd F2 p (.lst vs)) := same_new f2
    exact q _ _ _ H2 hs (st.freeze hp h2 f2) (.lst upd_same (RpAll.mono s2 _ _ ra))
  | odk ds =>
    cases ds with
    | nil =>
      obtain ⟨p, vs, rfl, hp, h2, f2, ra⟩ := r
      cases ra
      exact q _ _ _ H2 hs (st.freeze hp h2 f2) (.dct upd_same)
    | cons _ _ => exact hs.elim
  | _ => exact hs.elim) qx
theorem wk_of_we (h : WE X W ρ e Ξ (asSl Ψ)) : WK X W ρ e Ξ Ψ := fun B F H σ env Q q qx => h B F H σ env Q (fun v d F2 H2 hs st r => q v (.dat d) F2 H2 hs st r) qx
theorem WK.mono {Ψ' : Sl → Prop} (h : WK X W ρ e Ξ Ψ) (k : ∀ s, Ψ s → Ψ' s) : WK X W ρ e Ξ Ψ' := fun B F H σ env Q q qx => h B F H σ env Q (fun v s F2 H2 hs st r => q v s F2 H2 (k s hs) st r) qx
/-- a display -/
theorem wk_lst (h : WA X W ρ es Ξ fun as => dats as fun ds => ds.length ≤ 100000 ∧ Ψ (.own ds)) : WK X W ρ (.List es pos) Ξ Ψ := fun B F H σ env Q q qx =>
  wE_of (pe_lst pa_w) (h B F H σ env _ (fun vs as F1 H1 ha st rs => by
    obtain ⟨ds, rfl, hl, hΦ⟩ := ha
    have r := rs.dats
    refine ⟨Nat.le_trans (by rw [r.len]; exact hl) (by decide), fun p hp => ?_⟩
    exact q _ (.own ds) _ _ hΦ (st.trans (Step.own st.sub hp)) ⟨p, vs, rfl, st.back p hp, upd_same, none_sub st.sub hp, r⟩) qx)
/-- list(..) -/
theorem wk_listOf {p : Pos} (hm : X.mg "list" = none) (h : WE X W ρ e Ξ fun d => ∃ ds, itemsD d = some ds ∧ Ψ (.own ds)) (hg : Gl X "list" := by rfl)
    (he : starEach (e :: []) X.env = (false, eval e X.env) :: starEach [] X.env := by rfl) (hpl : (backTo pos (starEach [] X.env)).any (·.1) = false := by rfl) : WK X W ρ (.Call (.Name "list" p) [e] [] pos) Ξ Ψ := fun B F H σ env Q q qx =>
  wE_of (pe_callTy call_listA hg hm (by decide +kernel) (pa_cons pe_w pa_nil he) (by decide) (by decide) he hpl) (h B F H σ env _ (fun v d F1 H1 hd st r => by
    obtain ⟨ds, hi, hΦ⟩ := hd
    obtain ⟨p, ys, rfl, hs, ra⟩ := rp_items st.sub r hi
    exact ⟨p, ys, rfl, hs, fun l hl => q _ (.own ds) _ _ hΦ (st.trans (Step.own st.sub hl)) ⟨l, ys, rfl, st.back l hl, upd_same, none_sub st.sub hl, ra⟩⟩) qx)
/-- [] of lists put together -/
theorem wk_cat (h : WE X W ρ a Ξ fun x => WE X W ρ b Ξ fun y => ∃ ds es, x = .list ds ∧ y = .list es ∧ ds.length + es.length ≤ 100000 ∧ Ψ (.own (ds ++ es))) : WK X W ρ (.BinOp a .Add b pos) Ξ Ψ := fun B F H σ env Q q qx =>
  wE_of (pe_op op_cat pe_w pe_w) (h B F H σ env _ (fun v x F1 H1 hx st1 r1 => hx B F1 H1 σ (env.step st1) _ (fun w y F2 H2 hy st2 r2 => by
    obtain ⟨ds, es, rfl, rfl, hz, hΦ⟩ := hy
    obtain ⟨a, xs, rfl, ha, ra⟩ := (Rp.mono st2.fr _ _ r1).lst_inv
    obtain ⟨b, ys, rfl, hb, rb⟩ := r2.lst_inv
    exact ⟨a, b, xs, ys, rfl, rfl, st2.sub _ _ ha, st2.sub _ _ hb, Nat.le_trans (by rw [ra.len, rb.len]; exact hz) (by decide), fun p hp =>
      q _ (.own (ds ++ es)) _ _ hΦ ((st1.trans st2).trans (Step.own st2.sub hp)) ⟨p, _, rfl, (st1.trans st2).back p hp, upd_same, none_sub st2.sub hp, ra.append rb⟩⟩) (qx.step st1)) qx)
/-- a list by an int -/
theorem wk_rep (h : WE X W ρ a Ξ fun x => WE X W ρ b Ξ fun y => ∃ ds k, x = .list ds ∧ y = .int k ∧ -(2 ^ 63) ≤ k ∧ k < 2 ^ 63 ∧ ds.length * k.toNat ≤ 100000 ∧ Ψ (.own (List.replicate k.toNat ds).flatten)) : WK X W ρ (.BinOp a .Mult b pos) Ξ Ψ := fun B F H σ env Q q qx =>
  wE_of (pe_op op_rep pe_w pe_w) (h B F H σ env _ (fun v x F1 H1 hx st1 r1 => hx B F1 H1 σ (env.step st1) _ (fun w y F2 H2 hy st2 r2 => by
    obtain ⟨ds, k, rfl, rfl, h1, h2, hz, hΦ⟩ := hy
    obtain ⟨a, xs, rfl, ha, ra⟩ := (Rp.mono st2.fr _ _ r1).lst_inv
    exact ⟨a, k, xs, rfl, r2.int_inv, st2.sub _ _ ha, h1, h2, Nat.le_trans (by rw [ra.len]; exact hz) (by decide), fun p hp =>
      q _ (.own _) _ _ hΦ ((st1.trans st2).trans (Step.own st2.sub hp)) ⟨p, _, rfl, (st1.trans st2).back p hp, upd_same, none_sub st2.sub hp, rp_flatten ra _⟩⟩) (qx.step st1)) qx)
theorem wk_if (h : WT X W ρ c Ξ fun k => (k = true → WK X W ρ a Ξ Ψ) ∧ (k = false → WK X W ρ b Ξ Ψ)) : WK X W ρ (.IfExp c a b pos) Ξ Ψ := fun B F H σ env Q q qx =>
  wE_of (pe_ifExp pt_w pe_w pe_w) (h B F H σ env _ (fun k F1 H1 hk st => by
    have q' : OkK X.K B.M F1 H1 Ψ Q := fun v s F2 H2 hs st2 r => q v s F2 H2 hs (st.trans st2) (r.older st.back)
    cases k with
    | true =>
      rw [if_pos rfl]
      exact hk.1 rfl B F1 H1 σ (env.step st) Q q' (qx.step st)
    | false =>
      rw [if_neg Bool.false_ne_true]
      exact hk.2 rfl B F1 H1 σ (env.step st) Q q' (qx.step st)) qx)
/-- {} -/
theorem wk_dict0 {p2} (h : Ψ (.odk [])) : WK X W ρ (.Dict [] [] p2) Ξ Ψ := fun B F H σ env Q q qx =>
  wE_of pe_dnewK fun d hd => q _ (.odk []) _ _ h (Step.own env.sub hd) ⟨d, [], rfl, hd, upd_same, none_sub env.sub hd, .nil⟩
end

/-! ### promises -/
/-- the kinds of results and of exceptions that a def promises for arguments -/
abbrev Pr := List Ag → (Sl → Prop) → (Exn → Prop) → Prop
def spd (K : PySem.W.Frag) (P : Pr) : Sp := fun vs H Q E => ∃ M F as Φ Ξ, Same F H ∧ (∀ p, M p → H p ≠ none) ∧ AgAll K M F H vs as ∧ P as Φ Ξ ∧ OkK K M F H Φ Q ∧ (∀ cls dd x F2 H2, Ξ x → Step M F H F2 H2 → ExRp K F2 H2 cls dd x → E cls dd H2)
/-- a def is as it was promised -/
structure Def (P : Program) (w : World) (K : PySem.W.Frag) (mg : Str → Option Value) (base : Heap) (x : Str) (n : Nat) (k : Nat) (pr : Pr) : Prop where
  ex : ∃ f fd ps, mg x = some (.ref f) ∧ PySem.W.keepIn K (.ref f) = true ∧ Binds K fd ps [] ∧ ps.length = n ∧ FnOk P w K mg base (L2.CX P w) k f fd ps (spd K pr)
section
variable {X : Cx} {W : WX} {ρ : List Sl} {e : Expr} {es : List Expr} {Ξ : Exn → Prop} {Φ : PyData → Prop} {Ψ : Sl → Prop} {p pos : Pos}
/-- f(e, ..) -/
theorem wk_call {x : Str} {n k : Nat} {pr : Pr} (D : Def X.prog X.w X.K X.mg X.base x n k pr) (C : Cxt X W) (hr : Room k X.A) (h : WA X W ρ (e :: es) Ξ fun as => pr as Ψ Ξ) (hg : Gl X x := by rfl) (hdb : (x == ("__debug__" : Str)) = false := by decide)
    (he : starEach (e :: es) X.env = (false, eval e X.env) :: starEach es X.env := by rfl) (hpl : (backTo pos (starEach es X.env)).any (·.1) = false := by rfl) : WK X W ρ (.Call (.Name x p) (e :: es) [] pos) Ξ Ψ := fun B F H σ env Q q qx => by
  obtain ⟨f, fd, ps, hm, hk, hb, hn, F0⟩ := D.ex
  refine wE_of (pe_callS (E := L2.WE W) F0 hr hg hm hk hb (fun σ => passAt C.tk σ) pa_w hdb he hpl) ?_
  refine h B F H σ env _ (fun vs as F1 H1 ha st rs => ?_) qx
  exact ⟨B.M, F1, as, Ψ, Ξ, st.sub, fun a m => st.alive a (env.st.alive a (env.mh a m)), rs, ha, fun v s F2 H2 hs st2 r => q v s F2 H2 hs (st.trans st2) (r.older st.back), fun cls dd y F2 H2 hy st2 r => qx cls dd y F2 H2 hy (st.trans st2) r⟩
end

/-! ### statements -/
structure En where
  nx : List Sl → Prop
  rt : Sl → Prop
  bk : List Sl → Prop := fun _ => False
  ct : List Sl → Prop := fun _ => False
structure DOk (K : PySem.W.Frag) (B : Base) (E : En) (D : Ends) : Prop where
  nx : ∀ ρ F H σ, E.nx ρ → EnvOk K B F H σ ρ → D.nx σ H
  rt : ∀ v s F H, E.rt s → Step B.M B.F0 B.H0 F H → SlV K B.H0 F H v s → D.rt v H
  bk : ∀ ρ F H σ, E.bk ρ → EnvOk K B F H σ ρ → D.bk σ H
  ct : ∀ ρ F H σ, E.ct ρ → EnvOk K B F H σ ρ → D.ct σ H
abbrev Xi := Exn → List Sl → Prop
def DEx (K : PySem.W.Frag) (B : Base) (W : WX) (Ξ : Xi) : Prop := ∀ cls dd x ρ F H σ, Ξ x ρ → EnvOk K B F H σ ρ → ExRp K F H cls dd x → W cls dd σ H
def wS1 (X : Cx) (st : Stmt) : TS := fun D σ H => ∀ pins s, Inv X pins σ H s → wpAny (model X.prog X.w) X.A (exec st X.env) (SP X pins D) X.xe s
def WS (X : Cx) (W : WX) (ρ : List Sl) (ss : List Stmt) (Ξ : Xi) (E : En) : Prop := ∀ B F H σ, EnvOk X.K B F H σ ρ → ∀ D, DOk X.K B E D → DEx X.K B W Ξ → wSs X ss D σ H
def W1 (X : Cx) (W : WX) (ρ : List Sl) (st : Stmt) (Ξ : Xi) (E : En) : Prop := ∀ B F H σ, EnvOk X.K B F H σ ρ → ∀ D, DOk X.K B E D → DEx X.K B W Ξ → wS1 X st D σ H
abbrev xat (Ξ : Xi) (ρ : List Sl) : Exn → Prop := fun x => Ξ x ρ
section
variable {X : Cx} {W : WX} {ρ : List Sl} {st : Stmt} {ss : List Stmt} {e c : Expr} {Ξ : Xi} {E : En} {pos : Pos}
theorem ps_w : PS X st (wS1 X st) := ⟨fun pins s _ _ _ I h => h pins s I⟩
theorem wS1_of {t : TS} {D : Ends} {σ : L2.St} {H : Hp} (h : PS X st t) (q : t D σ H) : wS1 X st D σ H := fun pins s I => h.run pins s σ H D I q
theorem DEx.at {K : PySem.W.Frag} {B : Base} {F H : Hp} {σ : L2.St} (h : DEx K B W Ξ) (env : EnvOk K B F H σ ρ) : ExE K B.M F H W σ (xat Ξ ρ) := fun cls dd x F2 H2 hx st r => h cls dd x ρ F2 H2 σ hx (env.step st) r
theorem ws_nil (h : E.nx ρ) : WS X W ρ [] Ξ E := fun B F H σ env D d _ => wSs_of pss_nil (d.nx ρ F H σ h env)
theorem ws_cons (h : W1 X W ρ st Ξ { E with nx := fun ρ' => WS X W ρ' ss Ξ E }) : WS X W ρ (st :: ss) Ξ E := fun B F H σ env D d dx =>
  wSs_of (pss_cons ps_w pss_w) (h B F H σ env { D with nx := wSs X ss D } ⟨fun ρ' F2 H2 σ2 w env2 => w B F2 H2 σ2 env2 D d dx, d.rt, d.bk, d.ct⟩ dx)
theorem WS.mono {E' : En} (h : WS X W ρ ss Ξ E) (k1 : ∀ ρ, E.nx ρ → E'.nx ρ) (k2 : ∀ s, E.rt s → E'.rt s) (k3 : ∀ ρ, E.bk ρ → E'.bk ρ) (k4 : ∀ ρ, E.ct ρ → E'.ct ρ) : WS X W ρ ss Ξ E' := fun B F H σ env D d dx =>
  h B F H σ env D ⟨fun ρ' F2 H2 σ2 w env2 => d.nx ρ' F2 H2 σ2 (k1 _ w) env2, fun v s F2 H2 w => d.rt v s F2 H2 (k2 _ w), fun ρ' F2 H2 σ2 w env2 => d.bk ρ' F2 H2 σ2 (k3 _ w) env2, fun ρ' F2 H2 σ2 w env2 => d.ct ρ' F2 H2 σ2 (k4 _ w) env2⟩ dx
/-- return e -/
theorem w1_ret (h : WK X W ρ e (xat Ξ ρ) E.rt) : W1 X W ρ (.Return (some e) pos) Ξ E := fun B F H σ env D d dx =>
  wS1_of (ps_ret pe_w) (h B F H σ env D.rt (fun v s F2 H2 hs st r => d.rt v s F2 H2 hs (env.st.trans st) (r.older env.st.back)) (dx.at env))
/-- return of an own list -/
theorem w1_retO (i : Nat) {x : Str} {ds : List PyData} {px : Pos} (hi : ρ[i]? = some (.own ds)) (h : E.rt (.own ds))
    (hN : X.N[i]? = some x := by rfl) (hv : Vis X.env.scope x := by first | exact Or.inl rfl | exact Or.inr (Or.inl rfl) | exact Or.inr (Or.inr rfl))
    (hd : (x == ("__debug__" : Str)) = false := by decide) (hcd : (x == ("__classdict__" : Str)) = false := by decide) : W1 X W ρ (.Return (some (.Name x px)) pos) Ξ E := fun B F H σ env D d dx => by
  obtain ⟨p, vs, e1, hp, fp, h0, nm, r⟩ := env.sl i _ hi
  exact wS1_of (ps_ret (pv i hN hv hd hcd)) ⟨_, e1, d.rt _ (.own ds) F H h env.st ⟨p, vs, rfl, h0, hp, fp, r⟩⟩
theorem w1_retN (h : E.rt (.dat .none)) : W1 X W ρ (.Return none pos) Ξ E := fun B F H σ env D d dx =>
  wS1_of ps_retN (d.rt _ (.dat .none) F H h env.st Rp.non)
/-- an expression alone -/
theorem w1_expr (h : WK X W ρ e (xat Ξ ρ) fun _ => E.nx ρ) (hs : swapsWith e none pos.line X.env = pure false := by rfl) : W1 X W ρ (.Expr e pos) Ξ E := fun B F H σ env D d dx =>
  wS1_of (ps_expr pe_w hs) (h B F H σ env _ (fun v s F2 H2 hs st _ => d.nx ρ F2 H2 σ hs (env.step st)) (dx.at env))
theorem w1_if {a b : List Stmt} (h : WT X W ρ c (xat Ξ ρ) fun k => (k = true → WS X W ρ a Ξ E) ∧ (k = false → WS X W ρ b Ξ E)) : W1 X W ρ (.If c a b pos) Ξ E := fun B F H σ env D d dx =>
  wS1_of (ps_if pt_w pss_w pss_w) (h B F H σ env _ (fun k F1 H1 hk st => by
    cases k with
    | true =>
      rw [if_pos rfl]
      exact hk.1 rfl B F1 H1 σ (env.step st) D d dx
    | false =>
      rw [if_neg Bool.false_ne_true]
      exact hk.2 rfl B F1 H1 σ (env.step st) D d dx) (dx.at env))
theorem w1_pass (h : E.nx ρ) : W1 X W ρ (.Pass pos) Ξ E := fun B F H σ env D d dx => wS1_of ps_pass (d.nx ρ F H σ h env)

/-! assignment -/
theorem SlV.ok {K : PySem.W.Frag} {B : Base} {F H F2 H2 : Hp} {σ : L2.St} {v : V} {s : Sl} (env : EnvOk K B F H σ ρ) (st : Step B.M F H F2 H2) (r : SlV K H F2 H2 v s) : SlOk K B F2 H2 (some (some v)) s := by
  cases s with
  | dat d => exact ⟨v, rfl, r⟩
  | own ds =>
    obtain ⟨p, vs, rfl, hp, h2, f2, ra⟩ := r
    exact ⟨p, vs, rfl, h2, f2, env.fresh0 hp, env.notM (env.fresh0 hp), ra⟩
  | odk ds =>
    obtain ⟨p, vs, rfl, hp, h2, f2, ra⟩ := r
    exact ⟨p, vs, rfl, h2, f2, env.fresh0 hp, env.notM (env.fresh0 hp), ra⟩
  | _ => exact r.elim
/-- an own thing of a slot stands in the heap -/
theorem EnvOk.ownAt {K : PySem.W.Frag} {B : Base} {F H : Hp} {σ : L2.St} (env : EnvOk K B F H σ ρ) {j : Nat} {s : Sl} {p : Addr} (e : ρ[j]? = some s) (o : s.isOwn = true) (q : σ[j]? = some (some (.ref p))) : H p ≠ none := by
  have z := env.sl j s e
  cases s with
  | own ds =>
    obtain ⟨p', vs, e1, h1, _⟩ := z
    rw [q] at e1
    cases e1
    rw [h1]
    exact fun z => nomatch z
  | odk ds =>
    obtain ⟨p', vs, e1, h1, _⟩ := z
    rw [q] at e1
    cases e1
    rw [h1]
    exact fun z => nomatch z
  | _ => cases o
theorem SlV.apart {K : PySem.W.Frag} {B : Base} {F H F2 H2 : Hp} {σ : L2.St} {v : V} {s : Sl} (env : EnvOk K B F H σ ρ) (r : SlV K H F2 H2 v s) (o : s.isOwn = true) {j : Nat} {t : Sl} (e : ρ[j]? = some t) (ot : t.isOwn = true) : σ[j]? ≠ some (some v) := fun q => by
  cases s with
  | own ds =>
    obtain ⟨p, vs, rfl, hp, _⟩ := r
    exact env.ownAt e ot q hp
  | odk ds =>
    obtain ⟨p, vs, rfl, hp, _⟩ := r
    exact env.ownAt e ot q hp
  | _ => cases o
theorem EnvOk.putK {K : PySem.W.Frag} {B : Base} {F H F2 H2 : Hp} {σ : L2.St} {v : V} {s : Sl} {i : Nat} (env : EnvOk K B F H σ ρ) (st : Step B.M F H F2 H2) (r : SlV K H F2 H2 v s) : EnvOk K B F2 H2 (σ.set i (some v)) (ρ.set i s) :=
  (env.step st).put (r.ok env st) fun o j t _ e ot => r.apart env o e ot
theorem w1_set (i : Nat) {x : Str} {px : Pos} (nd : X.N.Nodup) (h : WK X W ρ e (xat Ξ ρ) fun s => E.nx (ρ.set i s)) (hN : X.N[i]? = some x := by rfl) (hx : Loc X.env.scope x := by first | exact Or.inl rfl | exact Or.inr rfl)
    (hs : swapsWith e (some (.Name x px)) pos.line X.env = pure false := by rfl) (hf : X.fn x = true ∨ X.env.scope.names.lookup x = some .local := by first | exact .inl rfl | exact .inr rfl) : W1 X W ρ (.Assign [.Name x px] e pos) Ξ E := fun B F H σ env D d dx =>
  wS1_of (ps_set nd hN hx pe_w hs hf) (h B F H σ env _ (fun v s F2 H2 hs st r => d.nx _ F2 H2 _ hs (env.putK st r)) (dx.at env))
/-- what is own becomes data that stands still -/
theorem EnvOk.freeze {K : PySem.W.Frag} {B : Base} {F H : Hp} {σ : L2.St} {i : Nat} {ds : List PyData} (env : EnvOk K B F H σ ρ) (hi : ρ[i]? = some (.own ds)) : ∃ F2, Same F F2 ∧ EnvOk K B F2 H σ (ρ.set i (.dat (.list ds))) := by
  obtain ⟨p, vs, e1, hp, fp, h0, nm, r⟩ := env.sl i _ hi
  have s2 : Same F (upd F p (.lst vs)) := same_new fp
  have hlt : i < σ.length := env.lt hi
  have hσ : σ[i] = some (.ref p) := by
    rw [List.getElem?_eq_getElem hlt] at e1
    exact Option.some.inj e1
  refine ⟨upd F p (.lst vs), s2, env.st.freeze h0 hp fp, env.mh, env.gf.trans s2, by rw [List.length_set]; exact env.len, fun j s e => ?_, fun a b s t q n e1' e2' o1 o2 q1 q2 => ?_⟩
  · by_cases hj : j = i
    · subst hj
      rw [List.getElem?_set_self (by rw [← env.len]; exact hlt)] at e
      cases e
      exact ⟨.ref p, e1, .lst upd_same (RpAll.mono s2 _ _ r)⟩
    · rw [List.getElem?_set_ne (Ne.symm hj)] at e
      have z := env.sl j s e
      cases s with
      | dat d => obtain ⟨v, q, rv⟩ := z; exact ⟨v, q, rv.mono s2⟩
      | own es =>
        obtain ⟨p', vs', q, h1, f1, h2, h3, r'⟩ := z
        refine ⟨p', vs', q, h1, ?_, h2, h3, RpAll.mono s2 _ _ r'⟩
        have np : p' ≠ p := fun z => env.ne i j (.own ds) (.own es) p (Ne.symm hj) hi e rfl rfl e1 (by rw [q, z])
        rw [upd_ne np]
        exact f1
      | odk es =>
        obtain ⟨p', vs', q, h1, f1, h2, h3, r'⟩ := z
        refine ⟨p', vs', q, h1, ?_, h2, h3, r'.mono s2⟩
        have np : p' ≠ p := fun z => env.ne i j (.own ds) (.odk es) p (Ne.symm hj) hi e rfl rfl e1 (by rw [q, z])
        rw [upd_ne np]
        exact f1
      | drw =>
        obtain ⟨p', q, m, dr, f1⟩ := z
        refine ⟨p', q, m, dr, ?_⟩
        have np : p' ≠ p := fun z => nm (by rw [← z]; exact m)
        rw [upd_ne np]
        exact f1
      | scr ns => obtain ⟨p', q, hq⟩ := z; exact ⟨p', q, s2.seq hq⟩
      | unk => trivial
  · have look : ∀ {c : Nat} {z : Sl}, z.isOwn = true → (ρ.set i (.dat (.list ds)))[c]? = some z → c ≠ i := fun {c z} hz e hc => by
      subst hc
      rw [List.getElem?_set_self (by rw [← env.len]; exact hlt)] at e
      cases e
      cases hz
    have ha := look o1 e1'
    have hb := look o2 e2'
    rw [List.getElem?_set_ne (Ne.symm ha)] at e1'
    rw [List.getElem?_set_ne (Ne.symm hb)] at e2'
    exact env.ne a b s t q n e1' e2' o1 o2 q1 q2
theorem ws_freeze (i : Nat) {ds : List PyData} (hi : ρ[i]? = some (.own ds)) (h : WS X W (ρ.set i (.dat (.list ds))) ss Ξ E) : WS X W ρ ss Ξ E := fun B F H σ env D d dx => by
  obtain ⟨F2, _, env2⟩ := env.freeze hi
  exact h B F2 H σ env2 D d dx
/-- xs.append(e), xs own -/
theorem EnvOk.setOwn {K : PySem.W.Frag} {B : Base} {F H : Hp} {σ : L2.St} {i : Nat} {ds es : List PyData} {p : Addr} {ws : List V} (env : EnvOk K B F H σ ρ) (hi : ρ[i]? = some (.own ds)) (q : σ[i]? = some (some (.ref p))) (r : RpAll K F ws es) : EnvOk K B F (upd H p (.lst ws)) σ (ρ.set i (.own es)) := by
  obtain ⟨p', vs, e1, hp, fp, h0, nm, _⟩ := env.sl i _ hi
  rw [q] at e1
  cases e1
  have hlt : i < σ.length := env.lt hi
  have st2 : Step B.M F H F (upd H p (.lst ws)) ∨ True := .inr trivial
  refine ⟨⟨env.st.fr, fun a x e => ?_, fun a o n e => ?_, env.st.new, fun a n => ?_, fun a m dr => ?_⟩, env.mh, env.gf, by rw [List.length_set]; exact env.len, fun j s e => ?_, fun a b s t z n e1' e2' o1 o2 q1 q2 => ?_⟩
  · have np : a ≠ p := fun z => by rw [z, fp] at e; cases e
    rw [upd_ne np]
    exact env.st.sub a x e
  · have np : a ≠ p := fun z => by rw [z, h0] at e; cases e
    rw [upd_ne np]
    exact env.st.keep a o n e
  · have np : a ≠ p := fun z => n (by rw [z]; exact h0)
    rw [upd_ne np]
    exact env.st.alive a n
  · have np : a ≠ p := fun z => nm (by rw [← z]; exact m)
    obtain ⟨x, y, ns, h1, h2, h3, h4⟩ := env.st.dr a m dr
    exact ⟨x, y, ns, h1, h2, h3, by rw [upd_ne np]; exact h4⟩
  · by_cases hj : j = i
    · subst hj
      rw [List.getElem?_set_self (by rw [← env.len]; exact hlt)] at e
      cases e
      exact ⟨p, ws, q, upd_same, fp, h0, nm, r⟩
    · rw [List.getElem?_set_ne (Ne.symm hj)] at e
      have z := env.sl j s e
      cases s with
      | dat d => exact z
      | own es2 =>
        obtain ⟨p', vs', q', h1, f1, h2, h3, r'⟩ := z
        have np : p' ≠ p := fun z => env.ne i j (.own ds) (.own es2) p (Ne.symm hj) hi e rfl rfl q (by rw [q', z])
        exact ⟨p', vs', q', by rw [upd_ne np]; exact h1, f1, h2, h3, r'⟩
      | odk es2 =>
        obtain ⟨p', vs', q', h1, f1, h2, h3, r'⟩ := z
        have np : p' ≠ p := fun z => env.ne i j (.own ds) (.odk es2) p (Ne.symm hj) hi e rfl rfl q (by rw [q', z])
        exact ⟨p', vs', q', by rw [upd_ne np]; exact h1, f1, h2, h3, r'⟩
      | drw =>
        obtain ⟨p', q', m, ⟨x, y, ns, h1, h2, h3, h4⟩, f1⟩ := z
        have np : p' ≠ p := fun z => nm (by rw [← z]; exact m)
        exact ⟨p', q', m, ⟨x, y, ns, h1, h2, h3, by rw [upd_ne np]; exact h4⟩, f1⟩
      | scr ns => exact z
      | unk => trivial
  · have tr : ∀ {c : Nat} {z : Sl}, z.isOwn = true → (ρ.set i (.own es))[c]? = some z → ∃ z', ρ[c]? = some z' ∧ z'.isOwn = true := fun {c z} hz e => by
      by_cases hc : c = i
      · subst hc
        exact ⟨_, hi, rfl⟩
      · rw [List.getElem?_set_ne (Ne.symm hc)] at e
        exact ⟨z, e, hz⟩
    obtain ⟨s', x1, x2⟩ := tr o1 e1'
    obtain ⟨t', y1, y2⟩ := tr o2 e2'
    exact env.ne a b s' t' z n x1 y1 x2 y2 q1 q2
theorem w1_append (i : Nat) {x : Str} {ds : List PyData} {px ap cp : Pos} (hi : ρ[i]? = some (.own ds)) (h : WE X W ρ e (xat Ξ ρ) fun d => ds.length < 100000 ∧ E.nx (ρ.set i (.own (ds ++ [d]))))
    (hN : X.N[i]? = some x := by rfl) (hv : Vis X.env.scope x := by first | exact Or.inl rfl | exact Or.inr (Or.inl rfl) | exact Or.inr (Or.inr rfl))
    (hd : (x == ("__debug__" : Str)) = false := by decide) (hcd : (x == ("__classdict__" : Str)) = false := by decide)
    (pe : PE X (.Call (.Attribute (.Name x px) "append" ap) [e] [] cp) (tBM X.K "list" rAppend (tVar i) (tCons (wE X e) tNil)) := by exact pe_bm PySem.F.plainAttrs_list PySem.F.slot_list_append PySem.F.type_list_append mt_append (pv _) (pa_cons pe_w pa_nil))
    (hs : swapsWith (.Call (.Attribute (.Name x px) "append" ap) [e] [] cp) none pos.line X.env = pure false := by rfl) : W1 X W ρ (.Expr (.Call (.Attribute (.Name x px) "append" ap) [e] [] cp) pos) Ξ E := fun B F H σ env D d dx => by
  obtain ⟨p, vs, e1, hp, fp, h0, nm, r⟩ := env.sl i _ hi
  refine wS1_of (ps_expr pe hs) ⟨_, e1, .inl ⟨rfl, _, SqL.of hp⟩, h B F H σ env _ (fun v y F2 H2 hy st ry => ?_) (dx.at env)⟩
  have h2 : H2 p = some (.lst vs) := st.keep p _ nm hp
  refine ⟨p, vs, v, rfl, rfl, h2, Nat.lt_of_lt_of_le (by rw [r.len]; exact hy.1) (by decide : 100000 ≤ sizeLine), ?_⟩
  have env2 := env.step st
  exact d.nx _ F2 _ σ hy.2 (env2.setOwn hi e1 ((RpAll.mono st.fr _ _ r).append (.cons ry .nil)))
end
end Mv

set_option maxRecDepth 100000
set_option maxHeartbeats 4000000
/-! what is walked, targets, for, while, comprehensions; a def by its body -/
namespace Mv
open PySem L2

/-! ### what is walked -/
/-- an iterator that yields the data ds, as long as F stands -/
structure ItOk (K : PySem.W.Frag) (M : Addr → Prop) (F : Hp) (J : It) (ds : List PyData) : Prop where
  go : ∀ i F' H', Same F F' → Same F' H' → i < ds.length → J.go i H'
  yld : ∀ i F' H' v H'' d, Same F F' → Same F' H' → ds[i]? = some d → J.yld i H' v H'' → ∃ F'', Step M F' H' F'' H'' ∧ Rp K F'' v d
  stop : ∀ i F' H', Same F F' → Same F' H' → ds.length ≤ i → J.stop i H'
def wI (X : Cx) (tg iter : Expr) : TI := fun σ H R => ∀ pins s, Inv X pins σ H s → wpAny (model X.prog X.w) X.A (eval iter X.env) (fun v s1 => wpAny (model X.prog X.w) X.A (pyIter v) (PIE X pins σ tg R) X.xe s1) X.xe s
theorem pi_w {X : Cx} {tg iter : Expr} : PI X tg iter (wI X tg iter) := ⟨fun pins s _ _ _ I h => h pins s I⟩
theorem wI_of {X : Cx} {tg iter : Expr} {t : TI} {σ : L2.St} {H : Hp} {R : It → Hp → Prop} (h : PI X tg iter t) (q : t σ H R) : wI X tg iter σ H R := fun pins s I => h.run pins s σ H R I q
def WI (X : Cx) (W : WX) (ρ : List Sl) (tg iter : Expr) (Ξ : Exn → Prop) (Φ : List PyData → Prop) : Prop :=
  ∀ B F H σ, EnvOk X.K B F H σ ρ → ∀ R : It → Hp → Prop, (∀ J ds F2 H2, Φ ds → Step B.M F H F2 H2 → ItOk X.K B.M F2 J ds → R J H2) → ExE X.K B.M F H W σ Ξ → wI X tg iter σ H R
section
variable {X : Cx} {W : WX} {ρ : List Sl} {tg e : Expr} {es : List Expr} {Ξ : Exn → Prop} {Φ : List PyData → Prop} {pos : Pos}
theorem itOk_list {K : PySem.W.Frag} {M : Addr → Prop} {F : Hp} {a : Addr} {xs : List V} {ds : List PyData} (h : SqL K F a xs) (r : RpAll K F xs ds) : ItOk K M F (Itl K a) ds where
  go := fun i F' H' s1 s2 hi => by
    obtain ⟨v, e, _⟩ := r.get (List.getElem?_eq_getElem hi)
    exact ⟨xs, v, s2.seq (s1.seq h), e⟩
  yld := fun i F' H' v H'' d s1 s2 hd y => by
    obtain ⟨rfl, y⟩ := y
    obtain ⟨u, e, ru⟩ := r.get hd
    have e2 := y xs (s2.seq (s1.seq h))
    rw [e] at e2
    cases e2
    exact ⟨F', Step.refl s2, ru.mono s1⟩
  stop := fun i F' H' s1 s2 hi => ⟨xs, s2.seq (s1.seq h), by rw [r.len]; exact hi⟩
theorem itOk_tup {K : PySem.W.Frag} {M : Addr → Prop} {F : Hp} {a : Addr} {xs : List V} {ds : List PyData} (h : SqT K F a xs) (r : RpAll K F xs ds) : ItOk K M F (Itt K a) ds where
  go := fun i F' H' s1 s2 hi => by
    obtain ⟨v, e, _⟩ := r.get (List.getElem?_eq_getElem hi)
    exact ⟨xs, v, same_t s2 (same_t s1 h), e⟩
  yld := fun i F' H' v H'' d s1 s2 hd y => by
    obtain ⟨rfl, y⟩ := y
    obtain ⟨u, e, ru⟩ := r.get hd
    have e2 := y xs (same_t s2 (same_t s1 h))
    rw [e] at e2
    cases e2
    exact ⟨F', Step.refl s2, ru.mono s1⟩
  stop := fun i F' H' s1 s2 hi => ⟨xs, same_t s2 (same_t s1 h), by rw [r.len]; exact hi⟩
def rangeD (lo : Int) (n : Nat) : List PyData := (List.range n).map fun i : Nat => .int (lo + (i : Int))
theorem rangeD_len (lo : Int) (n : Nat) : (rangeD lo n).length = n := by simp [rangeD]
theorem rangeD_get {lo : Int} {n i : Nat} {d : PyData} (h : (rangeD lo n)[i]? = some d) : i < n ∧ d = .int (lo + i) := by
  have hi : i < n := by
    have := (List.getElem?_eq_some_iff.mp h).1
    rwa [rangeD_len] at this
  simp [rangeD, hi] at h
  exact ⟨hi, h.symm⟩
theorem itOk_range {K : PySem.W.Frag} {M : Addr → Prop} {F : Hp} (lo : Int) (n : Nat) : ItOk K M F (Itr lo n) (rangeD lo n) where
  go := fun i F' H' s1 s2 hi => by rw [rangeD_len] at hi; exact hi
  yld := fun i F' H' v H'' d s1 s2 hd y => by
    obtain ⟨rfl, rfl⟩ := y
    obtain ⟨_, rfl⟩ := rangeD_get hd
    exact ⟨F', Step.refl s2, .int _⟩
  stop := fun i F' H' s1 s2 hi => by rw [rangeD_len] at hi; exact hi
/-- a list or a tuple -/
def iSeq (K : PySem.W.Frag) (tl : TE) : TI := fun σ H R => tl σ H fun x H1 => ∃ a, x = .ref a ∧ (((∃ xs, SqL K H1 a xs) ∧ R (Itl K a) H1) ∨ ((∃ xs, SqT K H1 a xs) ∧ R (Itt K a) H1))
theorem pi_seq {l : Expr} {tl : TE} (hl : PE X l tl) : PI X tg l (iSeq X.K tl) := by
  refine ⟨fun pins s σ H R I h => ?_⟩
  refine thn (hl.run pins s σ H _ I h) fun v s1 ⟨x, H1, I1, r1, q1⟩ => ?_
  obtain ⟨a, e, q⟩ := q1
  subst e
  cases r1
  rcases q with ⟨⟨xs, hq⟩, q⟩ | ⟨⟨xs, hq⟩, q⟩
  · obtain ⟨its, rv, p, hz⟩ := I1.list hq
    refine wpAny_pyIter_list p.isList ?_
    refine ⟨s1.heap.objs.size, [s1.heap.objs.size], _, _, H1, rfl, I1.kept (t' := s1.toks) fun b o e => Heap.get?_push_of_some _ e, turn_list a _, ⟨_, Heap.get?_push_size _ rfl, rfl, rfl⟩, fun b hb => ?_, q⟩
    have e : b = s1.heap.objs.size := by simpa using hb
    subst e
    exact I1.fpOk (Nat.le_refl _) (I1.hok.fresh (Nat.le_refl _))
  · obtain ⟨its, rv, p, hz⟩ := I1.tuple hq
    refine wpAny_pyIter_tuple (show s1.heap.IsTuple a its.toArray from p) ?_
    refine ⟨s1.heap.objs.size, [s1.heap.objs.size], _, _, H1, rfl, I1.kept (t' := s1.toks) fun b o e => Heap.get?_push_of_some _ e, turn_tuple a _, ⟨_, Heap.get?_push_size _ rfl, rfl, rfl⟩, fun b hb => ?_, q⟩
    have e : b = s1.heap.objs.size := by simpa using hb
    subst e
    exact I1.fpOk (Nat.le_refl _) (I1.hok.fresh (Nat.le_refl _))
theorem wi_seq (h : WE X W ρ e Ξ fun d => ∃ ds, itemsD d = some ds ∧ Φ ds) : WI X W ρ tg e Ξ Φ := fun B F H σ env R q qx =>
  wI_of (pi_seq pe_w) (h B F H σ env _ (fun v d F1 H1 hd st r => by
    obtain ⟨ds, hi, hΦ⟩ := hd
    cases d with
    | list es =>
      obtain ⟨a, xs, rfl, ha, ra⟩ := r.lst_inv
      cases hi
      exact ⟨a, rfl, .inl ⟨⟨xs, SqL.of (st.sub _ _ ha)⟩, q _ _ F1 H1 hΦ st (itOk_list (SqL.of ha) ra)⟩⟩
    | tuple es =>
      obtain ⟨a, xs, rfl, ha, ra⟩ := r.tup_inv
      cases hi
      exact ⟨a, rfl, .inr ⟨⟨xs, same_t st.sub ha⟩, q _ _ F1 H1 hΦ st (itOk_tup ha ra)⟩⟩
    | _ => cases hi) qx)
/-- the script -/
theorem wi_scr (i : Nat) {x : Str} {ns : List Int} (hi : ρ[i]? = some (.scr ns)) (h : Φ (ns.map .int)) (hN : X.N[i]? = some x := by rfl) (hv : Vis X.env.scope x := by first | exact Or.inl rfl | exact Or.inr (Or.inl rfl) | exact Or.inr (Or.inr rfl))
    (hd : (x == ("__debug__" : Str)) = false := by decide) (hcd : (x == ("__classdict__" : Str)) = false := by decide) : WI X W ρ tg (.Name x pos) Ξ Φ := fun B F H σ env R q qx => by
  obtain ⟨p, e1, hq⟩ := env.sl i _ hi
  exact wI_of (pi_list (pv i hN hv hd hcd)) ⟨_, e1, p, rfl, ⟨_, env.sub.seq hq⟩, q _ _ F H h (Step.refl env.sub) (itOk_list hq (RpAll.ints _ _ _))⟩
/-- an own list that the body leaves alone is walked best when frozen ahead (ws_freeze) -/
theorem wi_range1 {a : Expr} {p : Pos} (hm : X.mg "range" = none) (h : WE X W ρ a Ξ fun d => ∃ j : Int, d = .int j ∧ -(2 ^ 62) ≤ j ∧ j < 2 ^ 62 ∧ Φ (rangeD 0 j.toNat)) (hg : Gl X "range" := by rfl) (hs : starEach [a] X.env = [(false, eval a X.env)] := by rfl) : WI X W ρ tg (.Call (.Name "range" p) [a] [] pos) Ξ Φ := fun B F H σ env R q qx =>
  wI_of (pi_range1 hg hm (pa_cons pe_w pa_nil hs) hs) (h B F H σ env _ (fun v d F1 H1 hd st r => by
    obtain ⟨j, rfl, h1, h2, hΦ⟩ := hd
    exact ⟨j, by rw [r.int_inv], h1, h2, q _ _ F1 H1 hΦ st (itOk_range 0 _)⟩) qx)
theorem wi_range2 {a b : Expr} {p : Pos} (hm : X.mg "range" = none) (h : WE X W ρ a Ξ fun x => WE X W ρ b Ξ fun y => ∃ i j : Int, x = .int i ∧ y = .int j ∧ (-(2 ^ 62) ≤ i ∧ i < 2 ^ 62 ∧ -(2 ^ 62) ≤ j ∧ j < 2 ^ 62) ∧ Φ (rangeD i (j - i).toNat)) (hg : Gl X "range" := by rfl)
    (hs : starEach [a, b] X.env = [(false, eval a X.env), (false, eval b X.env)] := by rfl) (hs2 : starEach [b] X.env = [(false, eval b X.env)] := by rfl) : WI X W ρ tg (.Call (.Name "range" p) [a, b] [] pos) Ξ Φ := fun B F H σ env R q qx =>
  wI_of (pi_range2 hg hm (pa_cons pe_w (pa_cons pe_w pa_nil hs2) (by rw [hs, hs2])) hs hs2) (h B F H σ env _ (fun v x F1 H1 hx st1 r1 => hx B F1 H1 σ (env.step st1) _ (fun w y F2 H2 hy st2 r2 => by
    obtain ⟨i, j, rfl, rfl, hb, hΦ⟩ := hy
    exact ⟨i, j, by rw [r1.int_inv, r2.int_inv], hb, q _ _ F2 H2 hΦ (st1.trans st2) (itOk_range i _)⟩) (qx.step st1)) qx)
end

/-! ### targets -/
def wG (X : Cx) (tg : Expr) : TG := fun v σ H Q => ∀ pins s u, Inv X pins σ H s → RelV v u → wpAny (model X.prog X.w) X.A (assign tg X.env u) (fun _ s' => ∃ σ' H', Inv X pins σ' H' s' ∧ Q σ' H') X.xe s
theorem pg_w {X : Cx} {tg : Expr} : PG X tg (wG X tg) := ⟨fun pins s _ _ _ u _ I r h => h pins s u I r⟩
theorem wG_of {X : Cx} {tg : Expr} {t : TG} {v : V} {σ : L2.St} {H : Hp} {Q : L2.St → Hp → Prop} (h : PG X tg t) (q : t v σ H Q) : wG X tg v σ H Q := fun pins s u I r => h.run pins s σ H v u Q I r q
/-- data d is put where tg says, into slots of T; the heap stays -/
def WG (X : Cx) (ρ : List Sl) (tg : Expr) (d : PyData) (T : Nat → Prop) (Φ : List Sl → Prop) : Prop :=
  ∀ B F H σ v, EnvOk X.K B F H σ ρ → Rp X.K F v d → ∀ Q : L2.St → Hp → Prop, (∀ ρ' σ', Φ ρ' → EnvOk X.K B F H σ' ρ' → σ'.length = σ.length → (∀ j, ¬ T j → σ'[j]? = σ[j]?) → Q σ' H) → wG X tg v σ H Q
section
variable {X : Cx} {W : WX} {ρ : List Sl} {tg e : Expr} {es : List Expr} {d : PyData} {T : Nat → Prop} {Φ : List Sl → Prop} {pos : Pos}
theorem wg_name (i : Nat) {x : Str} (nd : X.N.Nodup) (hT : T i) (h : Φ (ρ.set i (.dat d))) (hN : X.N[i]? = some x := by rfl) (hx : Loc X.env.scope x := by first | exact Or.inl rfl | exact Or.inr rfl)
    (hf : X.fn x = true ∨ X.env.scope.names.lookup x = some .local := by first | exact .inl rfl | exact .inr rfl) : WG X ρ (.Name x pos) d T Φ := fun B F H σ v env r Q q =>
  wG_of (pg_name nd hN hx hf) (q _ _ h (env.set r) (List.length_set) fun j hj => List.getElem?_set_ne (fun z => hj (by rw [← z]; exact hT)))
def wGs (X : Cx) (ts : List Expr) : TGs := fun vs σ H Q => ∀ pins s us, Inv X pins σ H s → Vals vs us → wpAny (model X.prog X.w) X.A (assignInOrder ((assignEach ts X.env).map (·.2)) us) (fun _ s' => ∃ σ' H', Inv X pins σ' H' s' ∧ Q σ' H') X.xe s
theorem pgs_w {X : Cx} {ts : List Expr} : PGs X ts (wGs X ts) := ⟨fun pins s _ _ _ us _ I r h => h pins s us I r⟩
def WGs (X : Cx) (ρ : List Sl) (ts : List Expr) (ds : List PyData) (T : Nat → Prop) (Φ : List Sl → Prop) : Prop :=
  ∀ B F H σ vs, EnvOk X.K B F H σ ρ → RpAll X.K F vs ds → ∀ Q : L2.St → Hp → Prop, (∀ ρ' σ', Φ ρ' → EnvOk X.K B F H σ' ρ' → σ'.length = σ.length → (∀ j, ¬ T j → σ'[j]? = σ[j]?) → Q σ' H) → wGs X ts vs σ H Q
theorem wgs_nil (h : Φ ρ) : WGs X ρ [] [] T Φ := fun B F H σ vs env r Q q pins s us I rv => by
  cases r
  exact (pgs_nil (X := X)).run pins s σ H [] us Q I rv ⟨rfl, q ρ σ h env rfl fun _ _ => rfl⟩
theorem wgs_cons {ds : List PyData} (h : WG X ρ e d T fun ρ' => WGs X ρ' es ds T Φ) (hs : (assignEach (e :: es) X.env).map (·.2) = assign e X.env :: (assignEach es X.env).map (·.2) := by rfl) : WGs X ρ (e :: es) (d :: ds) T Φ := fun B F H σ vs env r Q q pins s us I rv => by
  cases r with
  | cons r1 r2 =>
    rename_i v vs'
    exact (pgs_cons pg_w pgs_w hs).run pins s σ H (v :: vs') us Q I rv ⟨v, vs', rfl, h B F H σ v env r1 _ fun ρ' σ' w env' l1 t1 => w B F H σ' vs' env' r2 Q fun ρ2 σ2 w2 env2 l2 t2 => q ρ2 σ2 w2 env2 (l2.trans l1) fun j hj => (t2 j hj).trans (t1 j hj)⟩
theorem wg_tup {k : Nat} {ds : List PyData} (hc : X.calm = true) (h : WGs X ρ es ds T Φ) (hl : ds.length = es.length := by rfl) (hn : (assignEach es X.env).length = es.length := by rfl) (hst : (assignEach es X.env).findIdx? (·.1) = none := by rfl) : WG X ρ (.Tuple es k pos) (.tuple ds) T Φ := fun B F H σ v env r Q q => by
  obtain ⟨a, xs, rfl, ha, ra⟩ := r.tup_inv
  exact wG_of (pg_tup hc pgs_w hn hst) ⟨a, xs, rfl, same_t env.sub ha, by rw [ra.len]; exact hl, h B F H σ xs env ra Q q⟩
end

/-! ### for, while -/
section
variable {X : Cx} {W : WX} {ρ : List Sl} {tg e c : Expr} {body : List Stmt} {Ξ : Xi} {E : En} {pos : Pos}
theorem w1_for (C : Cxt X W) (h : WI X W ρ tg e (xat Ξ ρ) fun ds => ∃ I : Nat → List Sl → Prop, I 0 ρ ∧ (∀ i d ρ', ds[i]? = some d → I i ρ' → WG X ρ' tg d (fun _ => True) fun ρ2 => WS X W ρ2 body Ξ { nx := I (i + 1), ct := I (i + 1), bk := E.nx, rt := E.rt }) ∧ ∀ ρ', I ds.length ρ' → E.nx ρ')
    (hs : ∀ x, foldedSetIterable e X.env x = pure x := by intro _; rfl) : W1 X W ρ (.For tg e body [] pos) Ξ E := fun B F H σ env D d dx =>
  wS1_of (ps_for C.po C.calm pi_w pg_w pss_w hs) (h B F H σ env _ (fun J ds F1 H1 hI st ok => by
    obtain ⟨I, i0, step, fin⟩ := hI
    refine ⟨fun i m σ H => m = ds.length - i ∧ i ≤ ds.length ∧ ∃ ρ' F', I i ρ' ∧ Same F1 F' ∧ EnvOk X.K B F' H σ ρ', ⟨_, rfl, Nat.zero_le _, ρ, F1, i0, Same.refl _, env.step st⟩, ?_⟩
    rintro i m σ2 H2 ⟨rfl, hi, ρ', F', hI, sF, env2⟩
    by_cases hlt : i < ds.length
    · refine .inr ⟨ok.go i F' H2 sF env2.sub hlt, fun σ' H' => ∃ ρ'' F'', I (i + 1) ρ'' ∧ Same F1 F'' ∧ EnvOk X.K B F'' H' σ' ρ'', fun σ' H' ⟨ρ'', F'', q1, q2, q3⟩ => ⟨ds.length - (i + 1), by omega, rfl, hlt, ρ'', F'', q1, q2, q3⟩, fun v H3 hy => ?_⟩
      obtain ⟨F3, st3, rv⟩ := ok.yld i F' H2 v H3 ds[i] sF env2.sub (List.getElem?_eq_getElem hlt) hy
      have env3 := env2.step st3
      refine step i _ ρ' (List.getElem?_eq_getElem hlt) hI B F3 H3 σ2 v env3 rv _ fun ρ2 σ3 w env4 _ _ => ?_
      have sG : Same F1 F3 := sF.trans st3.fr
      refine w { B with G := F3 } F3 H3 σ3 (env4.up (Same.refl F3)) _ ⟨fun ρ5 F5 H5 σ5 n5 env5 => ⟨ρ5, F5, n5, sG.trans env5.gf, env5.down (env3.gf)⟩, d.rt, fun ρ5 F5 H5 σ5 n5 env5 => d.nx ρ5 F5 H5 σ5 n5 (env5.down env3.gf), fun ρ5 F5 H5 σ5 n5 env5 => ⟨ρ5, F5, n5, sG.trans env5.gf, env5.down (env3.gf)⟩⟩ ?_
      exact fun cls dd y ρ5 F5 H5 σ5 hy env5 r5 => dx cls dd y ρ5 F5 H5 σ5 hy (env5.down env3.gf) r5
    · have e : i = ds.length := by omega
      subst e
      exact .inl ⟨ok.stop _ F' H2 sF env2.sub (Nat.le_refl _), d.nx ρ' F' H2 σ2 (fin ρ' hI) env2⟩) (dx.at env))
theorem w1_while (C : Cxt X W) (I : Nat → List Sl → Prop) (m0 : Nat) (h0 : I m0 ρ)
    (h : ∀ m ρ', I m ρ' → WT X W ρ' c (xat Ξ ρ') fun k => (k = true → WS X W ρ' body Ξ { nx := fun ρ2 => ∃ m', m' < m ∧ I m' ρ2, ct := fun ρ2 => ∃ m', m' < m ∧ I m' ρ2, bk := E.nx, rt := E.rt }) ∧ (k = false → E.nx ρ')) : W1 X W ρ (.While c body [] pos) Ξ E := fun B F H σ env D d dx =>
  wS1_of (ps_while C.po pt_w pss_w) ⟨fun m σ H => ∃ ρ' F', I m ρ' ∧ EnvOk X.K B F' H σ ρ', ⟨m0, ρ, F, h0, env⟩, by
    rintro m σ2 H2 ⟨ρ', F', hI, env2⟩
    refine h m ρ' hI B F' H2 σ2 env2 _ (fun k F3 H3 hk st => ?_) (dx.at env2)
    cases k with
    | true =>
      rw [if_pos rfl]
      refine ⟨fun σ' H' => ∃ m', m' < m ∧ ∃ ρ'' F'', I m' ρ'' ∧ EnvOk X.K B F'' H' σ' ρ'', fun σ' H' ⟨m', hm, q⟩ => ⟨m', hm, q⟩, ?_⟩
      exact hk.1 rfl B F3 H3 σ2 (env2.step st) _ ⟨fun ρ5 F5 H5 σ5 ⟨m', hm, n5⟩ env5 => ⟨m', hm, ρ5, F5, n5, env5⟩, d.rt, d.nx, fun ρ5 F5 H5 σ5 ⟨m', hm, n5⟩ env5 => ⟨m', hm, ρ5, F5, n5, env5⟩⟩ dx
    | false =>
      rw [if_neg Bool.false_ne_true]
      exact d.nx ρ' F3 H3 σ2 (hk.2 rfl) (env2.step st)⟩
end

/-! ### comprehensions -/
def wipeS (ρ : List Sl) : List Nat → List Sl
  | [] => ρ
  | i :: r => (wipeS ρ r).set i .unk
theorem EnvOk.wipe {K : PySem.W.Frag} {B : Base} {F H : Hp} {σ : L2.St} {ρ : List Sl} (h : EnvOk K B F H σ ρ) : ∀ vs : List Nat, EnvOk K B F H (L2.wipe σ vs) (wipeS ρ vs)
  | [] => h
  | i :: r => (h.wipe r).forget none
theorem wipe_get {σ : L2.St} {j : Nat} : ∀ {vs : List Nat}, (L2.wipe σ vs)[j]? = if j ∈ vs then (if j < σ.length then some none else none) else σ[j]?
  | [] => by simp [L2.wipe]
  | i :: r => by
    show ((L2.wipe σ r).set i none)[j]? = _
    by_cases hj : j = i
    · subst hj
      rw [if_pos (by simp)]
      by_cases hl : j < σ.length
      · rw [if_pos hl, List.getElem?_set_self (by rw [wipe_length]; exact hl)]
      · rw [if_neg hl]
        exact List.getElem?_eq_none (by rw [List.length_set, wipe_length]; omega)
    · rw [List.getElem?_set_ne (Ne.symm hj), wipe_get]
      have e : (j ∈ i :: r) = (j ∈ r) := by simp [hj]
      simp only [e]
theorem wipe_eq {σ σ' : L2.St} {vs : List Nat} (hl : σ'.length = σ.length) (h : ∀ j, ¬ j ∈ vs → σ'[j]? = σ[j]?) : L2.wipe σ' vs = L2.wipe σ vs := by
  refine List.ext_getElem? fun j => ?_
  rw [wipe_get, wipe_get, hl]
  by_cases hj : j ∈ vs
  · rw [if_pos hj, if_pos hj]
  · rw [if_neg hj, if_neg hj, h j hj]
theorem wipe_wipe {σ : L2.St} {vs : List Nat} : L2.wipe (L2.wipe σ vs) vs = L2.wipe σ vs := wipe_eq (wipe_length σ vs) fun j hj => by rw [wipe_get, if_neg hj]
abbrev W0 : WX := fun _ _ _ _ => False
abbrev X0 : Exn → Prop := fun _ => False
/-- the context of a comprehension's block -/
abbrev blkX (X : Cx) (scope : Scope) (s : Shared) (H : Hp) (C : Addr) (cl : List (Str × Addr)) (fp : List Addr) : Cx := X.blk s H scope (compEnvC scope cl C X.env) fp
theorem Cxt.blk {X : Cx} {W : WX} (C : Cxt X W) {scope : Scope} {s : Shared} {H : Hp} {c : Addr} {cl : List (Str × Addr)} {fp : List Addr} : Cxt (blkX X scope s H c cl fp) W0 := ⟨takes0, PassesOwn.never, C.calm, C.nd, C.hu⟩
/-- the tests of a comprehension: none or one -/
def WTs (X : Cx) (ρ : List Sl) (ifs : List Expr) (Θ : Bool → Prop) : Prop := match ifs with
  | [] => Θ true
  | [c] => WT X W0 ρ c X0 Θ
  | _ => False
def wTs (X : Cx) (ifs : List Expr) : TT := fun σ H Q => ∀ pins s, Inv X pins σ H s → wpAny (model X.prog X.w) X.A (forIn ifs true fun c r => if r = true then do let ok ← isTrue c X.env (eval c X.env); pure (ForInStep.yield ok) else pure (ForInStep.yield r)) (TP X pins σ Q) X.xe s
theorem pts_w {X : Cx} {ifs : List Expr} : PTs X ifs (wTs X ifs) := ⟨fun pins s _ _ _ I h => h pins s I⟩
theorem wts_run {X : Cx} {ρ : List Sl} {ifs : List Expr} {Θ : Bool → Prop} {B : Base} {F H : Hp} {σ : L2.St} {Q : Bool → Hp → Prop} (h : WTs X ρ ifs Θ) (env : EnvOk X.K B F H σ ρ) (q : OkT B.M F H Θ Q) : wTs X ifs σ H Q := by
  match ifs, h with
  | [], h => exact fun pins s I => (pts_nil (X := X)).run pins s σ H Q I (q true F H h (Step.refl env.sub))
  | [c], h => exact fun pins s I => (pts_one (X := X) pt_w).run pins s σ H Q I (h B F H σ env Q q fun _ _ _ _ _ z => z.elim)
section
variable {X : Cx} {W : WX} {ρ : List Sl} {tg iter elt : Expr} {ifs : List Expr} {scope : Scope} {own : List (Str × Nat)} {Ξ : Exn → Prop} {Ψ : Sl → Prop} {pos : Pos}
/-- one turn: acc grows by y, or stays -/
def LcTurn (X : Cx) (scope : Scope) (vs : List Nat) (ρ : List Sl) (tg : Expr) (ifs : List Expr) (elt : Expr) (d : PyData) (P1 : PyData → Prop) (P0 : Prop) : Prop :=
  ∀ s H C cl fp, Cxt (blkX X scope s H C cl fp) W0 → WG (blkX X scope s H C cl fp) ρ tg d (· ∈ vs) fun ρ2 => ∀ s H C cl fp, Cxt (blkX X scope s H C cl fp) W0 → WTs (blkX X scope s H C cl fp) ρ2 ifs fun b =>
    (b = true → ∀ s H C cl fp, Cxt (blkX X scope s H C cl fp) W0 → WE (blkX X scope s H C cl fp) W0 ρ2 elt X0 P1) ∧ (b = false → P0)
/-- the reading of a comprehension -/
abbrev tLcW (X : Cx) (scope : Scope) (own : List (Str × Nat)) (tg iter elt : Expr) (ifs : List Expr) : TE :=
  tLc (wI X tg iter) (fun v σ H Q => ∀ s H0 C cl fp, wG (blkX X scope s H0 C cl fp) tg v σ H Q) (fun σ H Q => ∀ s H0 C cl fp, wTs (blkX X scope s H0 C cl fp) ifs σ H Q) (fun σ H Q => ∀ s H0 C cl fp, wE (blkX X scope s H0 C cl fp) elt σ H Q) (own.map (·.2))
/-- what is asked of a comprehension -/
def LcOk (X : Cx) (W : WX) (ρ : List Sl) (scope : Scope) (own : List (Str × Nat)) (tg iter elt : Expr) (ifs : List Expr) (Ξ : Exn → Prop) (Ψ : Sl → Prop) : Prop :=
  WI X W ρ tg iter Ξ fun ds => ∃ I : Nat → List PyData → Prop, I 0 [] ∧ (∀ i d acc, ds[i]? = some d → I i acc → acc.length < 100000 ∧ LcTurn X scope (own.map (·.2)) (wipeS ρ (own.map (·.2))) tg ifs elt d (fun y => I (i + 1) (acc ++ [y])) (I (i + 1) acc)) ∧ ∀ acc, I ds.length acc → Ψ (.own acc)
theorem lc_run (C : Cxt X W) (h : LcOk X W ρ scope own tg iter elt ifs Ξ Ψ) {B : Base} {F H : Hp} {σ : L2.St} (env : EnvOk X.K B F H σ ρ) {Q : VK} (q : OkK X.K B.M F H Ψ Q) (qx : ExE X.K B.M F H W σ Ξ) : tLcW X scope own tg iter elt ifs σ H Q := by
  refine h B F H σ env _ (fun J ds F1 H1 hI st ok2 => ?_) qx
  obtain ⟨I, i0, step, fin⟩ := hI
  intro D hD
  have env1 := env.step st
  have nD : ¬ B.M D := env1.notM (env1.fresh0 hD)
  -- behind i turns
  refine ⟨fun i m H' => m = ds.length - i ∧ i ≤ ds.length ∧ ∃ F' acc accV, I i acc ∧ Step B.M F1 H1 F' H' ∧ F' D = none ∧ H' D = some (.lst accV) ∧ RpAll X.K F' accV acc, ⟨_, rfl, Nat.zero_le _, F1, [], [], i0, Step.own st.sub hD, none_sub st.sub hD, upd_same, .nil⟩, ?_⟩
  rintro i m H2 ⟨rfl, hi, F2, acc, accV, hI, st2, fD, hD2, ra⟩
  by_cases hlt : i < ds.length
  · refine .inr ⟨ok2.go i F2 H2 st2.fr st2.sub hlt, fun H' => ∃ F' acc accV, I (i + 1) acc ∧ Step B.M F1 H1 F' H' ∧ F' D = none ∧ H' D = some (.lst accV) ∧ RpAll X.K F' accV acc, fun H' q' => ⟨ds.length - (i + 1), by omega, rfl, hlt, q'⟩, fun v H3 hy => ?_⟩
    obtain ⟨F3, st3, rv⟩ := ok2.yld i F2 H2 v H3 ds[i] st2.fr st2.sub (List.getElem?_eq_getElem hlt) hy
    obtain ⟨hlen, turn⟩ := step i _ acc (List.getElem?_eq_getElem hlt) hI
    have envW := ((env1.step (st2.trans st3)).wipe (own.map (·.2)))
    intro s0 H0 c0 cl0 fp0
    refine turn s0 H0 c0 cl0 fp0 C.blk B F3 H3 _ v envW rv _ fun ρ2 σ2 tst env4 hl hT => ⟨?_, fun s5 H5 c5 cl5 fp5 => ?_⟩
    · rw [wipe_eq (vs := own.map (·.2)) hl hT, wipe_wipe]
    · refine wts_run (tst s5 H5 c5 cl5 fp5 C.blk) env4 fun b F6 H6 hb st6 => ?_
      have fD6 : F6 D = none := by
        rw [st6.new D (by rw [st3.keep D _ nD hD2]; exact fun z => nomatch z), st3.new D (by rw [hD2]; exact fun z => nomatch z)]
        exact fD
      have hD6 : H6 D = some (.lst accV) := st6.keep D _ nD (st3.keep D _ nD hD2)
      cases b with
      | true =>
        rw [if_pos rfl]
        intro s7 H7 c7 cl7 fp7
        refine hb.1 rfl s7 H7 c7 cl7 fp7 C.blk B F6 H6 σ2 (env4.step st6) _ (fun y d F8 H8 hy8 st8 ry => ?_) (fun _ _ _ _ _ z => z.elim)
        have hD8 : H8 D = some (.lst accV) := st8.keep D _ nD hD6
        have fD8 : F8 D = none := by
          rw [st8.new D (by rw [hD6]; exact fun z => nomatch z)]
          exact fD6
        have all := ((st2.trans st3).trans st6).trans st8
        refine ⟨accV, hD8, Nat.lt_of_lt_of_le (by rw [ra.len]; exact hlen) (by decide : 100000 ≤ sizeLine), F8, acc ++ [d], accV ++ [y], hy8, ⟨all.fr, fun a x e => ?_, fun a x n e => ?_, all.new, fun a n => ?_, fun a m dr => ?_⟩, fD8, upd_same, (RpAll.mono ((st3.fr.trans st6.fr).trans st8.fr) _ _ ra).append (.cons ry .nil)⟩
        · have np : a ≠ D := fun z => by rw [z, fD8] at e; cases e
          rw [upd_ne np]
          exact all.sub a x e
        · have np : a ≠ D := fun z => by rw [z, hD] at e; cases e
          rw [upd_ne np]
          exact all.keep a x n e
        · have np : a ≠ D := fun z => n (by rw [z]; exact hD)
          rw [upd_ne np]
          exact all.alive a n
        · have np : a ≠ D := fun z => nD (by rw [← z]; exact m)
          obtain ⟨x, y', ns, h1, h2, h3, h4⟩ := all.dr a m dr
          exact ⟨x, y', ns, h1, h2, h3, by rw [upd_ne np]; exact h4⟩
      | false =>
        rw [if_neg Bool.false_ne_true]
        exact ⟨F6, acc, accV, hb.2 rfl, (st2.trans st3).trans st6, fD6, hD6, RpAll.mono (st3.fr.trans st6.fr) _ _ ra⟩
  · have e : i = ds.length := by omega
    subst e
    exact .inl ⟨ok2.stop _ F2 H2 st2.fr st2.sub (Nat.le_refl _), q _ (.own acc) F2 H2 (fin acc hI) (st.trans st2) ⟨D, accV, rfl, st.back D hD, hD2, fD, ra⟩⟩
theorem wk_lc (C : Cxt X W) (ok : BlkOk X.N X.env.scope scope own) (h : LcOk X W ρ scope own tg iter elt ifs Ξ Ψ) (hs : ∀ x, foldedSetIterable iter X.env x = pure x := by intro _; rfl) : WK X W ρ (.ListComp elt [⟨tg, iter, ifs, 0⟩] scope pos) Ξ Ψ := fun B F H σ env Q q qx =>
  wE_of (pe_lc C.calm C.nd pi_w ok (fun s H0 C cl fp => ⟨fun pins s1 σ H v u Q I r h => h s H0 C cl fp pins s1 u I r⟩) (fun s H0 C cl fp => ⟨fun pins s1 σ H Q I h => h s H0 C cl fp pins s1 I⟩) (fun s H0 C cl fp => ⟨fun pins s1 σ H Q I h => h s H0 C cl fp pins s1 I⟩) hs) (lc_run C h env q qx)
/-- x = [..] on one line -/
theorem w1_setLc {Ξ : Xi} {E : En} (i : Nat) {x : Str} {px spos : Pos} (C : Cxt X W) (ok : BlkOk X.N X.env.scope scope own) (h : LcOk X W ρ scope own tg iter elt ifs (xat Ξ ρ) fun s => E.nx (ρ.set i s)) (hN : X.N[i]? = some x := by rfl) (hy : X.env.scope.names.lookup x = some .local := by rfl)
    (hsw : swapsWith (.ListComp elt [⟨tg, iter, ifs, 0⟩] scope pos) (some (.Name x px)) spos.line X.env = pure true := by exact sw_true rfl rfl rfl (by decide +kernel))
    (hs : ∀ x, foldedSetIterable iter X.env x = pure x := by intro _; rfl) : W1 X W ρ (.Assign [.Name x px] (.ListComp elt [⟨tg, iter, ifs, 0⟩] scope pos) spos) Ξ E := fun B F H σ env D d dx =>
  wS1_of (ps_setLc C.calm C.nd hN hy hsw pi_w ok (fun s H0 C cl fp => ⟨fun pins s1 σ H v u Q I r h => h s H0 C cl fp pins s1 u I r⟩) (fun s H0 C cl fp => ⟨fun pins s1 σ H Q I h => h s H0 C cl fp pins s1 I⟩) (fun s H0 C cl fp => ⟨fun pins s1 σ H Q I h => h s H0 C cl fp pins s1 I⟩) hs)
    (lc_run C h env (Q := fun v H1 => gName i v σ H1 D.nx) (fun v s F2 H2 hs st r => d.nx _ F2 H2 _ hs (env.putK st r)) (dx.at env))
end

/-! ### a def by its body -/
def Ag.sl : Ag → Sl
  | .dat d => .dat d
  | .drw => .drw
  | .scr ns => .scr ns
section
variable {P : Program} {w : World} {K : PySem.W.Frag} {mg : Str → Option Value} {base : Heap}
theorem ag_len {M : Addr → Prop} {F H : Hp} : ∀ {vs : List V} {as : List Ag}, AgAll K M F H vs as → vs.length = as.length
  | _, _, .nil => rfl
  | _, _, .cons _ t => by rw [List.length_cons, List.length_cons, ag_len t]
theorem ag_get {M : Addr → Prop} {F H : Hp} : ∀ {vs : List V} {as : List Ag} {i : Nat} {a : Ag}, AgAll K M F H vs as → as[i]? = some a → ∃ v, vs[i]? = some v ∧ AgOk K M F H v a
  | _, _, _, _, .nil, e => by simp at e
  | _, _, 0, _, .cons r _, e => by simp at e; subst e; exact ⟨_, rfl, r⟩
  | _, _, i + 1, a, .cons _ t, e => by
    obtain ⟨v, h1, h2⟩ := ag_get (i := i) (a := a) t (by simpa using e)
    exact ⟨v, by simpa using h1, h2⟩
/-- the slots at a def's entry -/
def slots (as : List Ag) (n : Nat) : List Sl := as.map Ag.sl ++ List.replicate (n - as.length) .unk
theorem env_start {N : List Str} {M : Addr → Prop} {F H : Hp} {vs : List V} {as : List Ag} (s : Same F H) (hM : ∀ p, M p → H p ≠ none) (r : AgAll K M F H vs as) : EnvOk K ⟨F, M, F, H⟩ F H (start N vs) (slots as N.length) where
  st := Step.refl s
  mh := hM
  gf := Same.refl F
  len := by simp [L2.start, slots, ag_len r]
  sl := fun i t e => by
    unfold slots at e
    by_cases hi : i < as.length
    · rw [List.getElem?_append_left (by rw [List.length_map]; exact hi), List.getElem?_map, List.getElem?_eq_getElem hi] at e
      cases e
      obtain ⟨v, ev, ok⟩ := ag_get r (List.getElem?_eq_getElem hi)
      have hv : (start N vs)[i]? = some (some v) := by
        unfold L2.start
        rw [List.getElem?_append_left (by rw [List.length_map, ag_len r]; exact hi), List.getElem?_map, ev]
        rfl
      rw [hv]
      cases h : as[i] with
      | dat d => rw [h] at ok; exact ⟨v, rfl, ok⟩
      | drw =>
        rw [h] at ok
        obtain ⟨p, rfl, m, d, f⟩ := ok
        exact ⟨p, rfl, m, d, f⟩
      | scr ns =>
        rw [h] at ok
        obtain ⟨p, rfl, q⟩ := ok
        exact ⟨p, rfl, q⟩
    · rw [List.getElem?_append_right (by rw [List.length_map]; omega), List.getElem?_replicate] at e
      split at e
      · cases e
        trivial
      · cases e
  ne := fun i j t u p n e1 e2 o1 o2 _ _ => by
    have noOwn : ∀ {k : Nat} {z : Sl}, (slots as N.length)[k]? = some z → z.isOwn = false := fun {k z} e => by
      unfold slots at e
      by_cases hi : k < as.length
      · rw [List.getElem?_append_left (by rw [List.length_map]; exact hi), List.getElem?_map, List.getElem?_eq_getElem hi] at e
        cases e
        cases as[k] <;> rfl
      · rw [List.getElem?_append_right (by rw [List.length_map]; omega), List.getElem?_replicate] at e
        split at e
        · cases e
          rfl
        · cases e
    rw [noOwn e1] at o1
    cases o1
/-- the wish of a def's own frame -/
abbrev wDef (E : XK) : WX := fun cls d _ H => E cls d H
theorem def_of {x qual : Str} {st : Stmt} {f : Addr} {fd : FuncData} {N ps : List Str} {k : Nat} {pr : Pr} (F : Fun K x qual st f fd) (S : FnScope N ps (defScope st)) (hm : mg x = some (.ref f)) (hb : Binds K fd ps []) (hl : ∀ as Φ Ξ, pr as Φ Ξ → as.length = ps.length)
    (body : ∀ (cdv : Value) (A : Around) (outer : List Env) (s : Shared) (H : Hp) (E : XK), Room k (A.deeper (PyProof.Rows.envOfC qual (defScope st) s.heap.objs.size f cdv)) → Cxt (cxOf (L2.CX P w) P w K mg base N qual (defScope st) f cdv A outer s H E) (wDef E) →
      ∀ as Φ Ξ, pr as Φ Ξ → WS (cxOf (L2.CX P w) P w K mg base N qual (defScope st) f cdv A outer s H E) (wDef E) (slots as N.length) (defBody st) (fun y _ => Ξ y) { nx := fun _ => Φ (.dat .none), rt := Φ }) :
    Def P w K mg base x ps.length (k + 1) pr := by
  refine ⟨f, fd, ps, hm, F.kp, hb, rfl, F.okX S (fun vs H Q E h => ?_) fun cdv A outer s H vs Q E hr h => ?_⟩
  · obtain ⟨M, F0, as, Φ, Ξ, _, _, ra, hp, _⟩ := h
    rw [ag_len ra]
    exact hl _ _ _ hp
  · obtain ⟨M, F0, as, Φ, Ξ, sf, hM, ra, hp, q, qx⟩ := h
    have C : Cxt (cxOf (L2.CX P w) P w K mg base N qual (defScope st) f cdv A outer s H E) (wDef E) := ⟨takes_of rfl rfl rfl rfl, passes_of rfl, rfl, S.nd, hr.units⟩
    refine ⟨_, pss_w, body cdv A outer s H E hr C as Φ Ξ hp ⟨F0, M, F0, H⟩ F0 H _ (env_start sf hM ra) _ ⟨fun ρ F2 H2 σ hn env => ?_, fun v t F2 H2 hs st r => q v t F2 H2 hs st r, fun _ _ _ _ z => z.elim, fun _ _ _ _ z => z.elim⟩ ?_⟩
    · exact q _ (.dat .none) F2 H2 hn env.st Rp.non
    · exact fun cls dd y ρ F2 H2 σ hy env r => qx cls dd y F2 H2 hy env.st r
end
end Mv

set_option maxRecDepth 100000
set_option maxHeartbeats 4000000
/-! isinstance, assignments of several, items stored, extend, raise, try -/
namespace Mv
open PySem L2

/-! ### isinstance of built-in classes -/
def tyName : PyData → String
  | .none => "NoneType"
  | .bool _ => "bool"
  | .int _ => "int"
  | .str _ => "str"
  | .list _ => "list"
  | .tuple _ => "tuple"
  | .dict _ => "dict"
def isTy (T : String) (d : PyData) : Option Bool := kitB (tyName d) T
theorem rp_ty {K : PySem.W.Frag} {F H : Hp} {v : V} {d : PyData} (s : Same F H) (r : Rp K F v d) : TyX K H v (.type (tyName d)) := by
  cases r with
  | non => exact .base .non
  | bl b => exact .base (.bl b)
  | int i => exact .base (.int i)
  | str x => exact .base (.str x)
  | lst h _ => exact .base (.lst (s _ _ h))
  | tup h _ =>
    rcases h with (h | ⟨o, h⟩) | ⟨o, its, n, hk, hc, _⟩
    · exact .base (.tup (s _ _ h))
    · exact .fTuple (s _ _ h)
    · exact .kTuple hk hc
  | dct h => exact .base (.dK (s _ _ h))
section
variable {X : Cx} {W : WX} {ρ : List Sl} {e : Expr} {es : List Expr} {Ξ : Exn → Prop} {Φ : PyData → Prop} {pos : Pos}
theorem we_isi {x : Str} {t : String} {p px : Pos} (hm : X.mg "isinstance" = none) (hx : X.mg x = none) (hv : bootBuiltins x = some (.type t)) (h : WE X W ρ e Ξ fun d => ∃ b, isTy t d = some b ∧ Φ (.bool b)) (hg : Gl X "isinstance" := by rfl) (hgx : Gl X x := by rfl) (hn : x ≠ "__name__" := by decide) (hdb : (x == ("__debug__" : Str)) = false := by decide)
    (he : starEach [e, .Name x px] X.env = (false, eval e X.env) :: starEach [.Name x px] X.env := by rfl) (he2 : starEach [.Name x px] X.env = (false, eval (.Name x px) X.env) :: starEach [] X.env := by rfl) (hpl : (backTo pos (starEach [.Name x px] X.env)).any (·.1) = false := by rfl) : WE X W ρ (.Call (.Name "isinstance" p) [e, .Name x px] [] pos) Ξ Φ := fun B F H σ env Q q qx =>
  wE_of (pe_callB call_isi hg hm (by decide +kernel) (pa_cons pe_w (pa_cons (pe_bltn (v := .ty t) hgx hx hv rfl hn hdb) pa_nil he2) he) (by decide) (by decide) he hpl) (h B F H σ env _ (fun v d F1 H1 hd st r => by
    obtain ⟨b, hb, hΦ⟩ := hd
    exact ⟨v, .ty t, .type (tyName d), .type t, b, rfl, .ty t, rp_ty st.sub r, kit_ty hb, q _ _ F1 H1 hΦ st (.bl b)⟩) qx)
/-- isinstance(x, (T, U)) -/
theorem we_isi2 {x y : Str} {t u : String} {p px py pt : Pos} {k1} (hm : X.mg "isinstance" = none) (hx : X.mg x = none) (hv : bootBuiltins x = some (.type t)) (hy : X.mg y = none) (hw : bootBuiltins y = some (.type u)) (h : WE X W ρ e Ξ fun d => ∃ b c, isTy t d = some b ∧ isTy u d = some c ∧ Φ (.bool (b || c))) (hg : Gl X "isinstance" := by rfl) (hgx : Gl X x := by rfl) (hgy : Gl X y := by rfl) (hn : x ≠ "__name__" := by decide) (hdb : (x == ("__debug__" : Str)) = false := by decide) (hn2 : y ≠ "__name__" := by decide) (hdb2 : (y == ("__debug__" : Str)) = false := by decide)
    (he : starEach [e, .Tuple [.Name x px, .Name y py] k1 pt] X.env = (false, eval e X.env) :: starEach [.Tuple [.Name x px, .Name y py] k1 pt] X.env := by rfl) (he2 : starEach [.Tuple [.Name x px, .Name y py] k1 pt] X.env = (false, eval (.Tuple [.Name x px, .Name y py] k1 pt) X.env) :: starEach [] X.env := by rfl)
    (he3 : starEach [.Name x px, .Name y py] X.env = (false, eval (.Name x px) X.env) :: starEach [.Name y py] X.env := by rfl) (he4 : starEach [.Name y py] X.env = (false, eval (.Name y py) X.env) :: starEach [] X.env := by rfl)
    (hpl : (backTo pos (starEach [.Tuple [.Name x px, .Name y py] k1 pt] X.env)).any (·.1) = false := by rfl) : WE X W ρ (.Call (.Name "isinstance" p) [e, .Tuple [.Name x px, .Name y py] k1 pt] [] pos) Ξ Φ := fun B F H σ env Q q qx =>
  wE_of (pe_callB call_isiT hg hm (by decide +kernel) (pa_cons pe_w (pa_cons (pe_tup (pa_cons (pe_bltn (v := .ty t) hgx hx hv rfl hn hdb) (pa_cons (pe_bltn (v := .ty u) hgy hy hw rfl hn2 hdb2) pa_nil he4) he3)) pa_nil he2) he) (by decide) (by decide) he hpl) (h B F H σ env _ (fun v d F1 H1 hd st r => by
    obtain ⟨b, c, hb, hc, hΦ⟩ := hd
    refine ⟨by show 2 ≤ sizeLine; decide, fun p hp => ?_⟩
    have st2 : Step B.M F1 H1 F1 (upd H1 p (.tup [.ty t, .ty u])) := Step.own st.sub hp
    refine ⟨v, p, [.ty t, .ty u], .type (tyName d), [.type t, .type u], b || c, rfl, upd_same, .cons (.ty t) (.cons (.ty u) .nil), rp_ty st2.sub r, ?_, q _ _ F1 _ hΦ (st.trans st2) (.bl _)⟩
    refine kitAny_cons (kit_ty hb) (fun z => ?_) (fun z => by rw [z]; rfl)
    rw [z]
    refine kitAny_cons (kit_ty hc) (fun z => ?_) (fun z => by rw [z]; rfl)
    rw [z]
    exact kitAny_nil) qx)
end
def isInt : PyData → Bool
  | .int _ => true
  | .bool _ => true
  | _ => false
theorem is_int : ∀ d, isTy "int" d = some (isInt d)
  | .none => by show kitB "NoneType" "int" = some false; decide +kernel
  | .bool _ => by show kitB "bool" "int" = some true; decide +kernel
  | .int _ => by show kitB "int" "int" = some true; decide +kernel
  | .str _ => by show kitB "str" "int" = some false; decide +kernel
  | .list _ => by show kitB "list" "int" = some false; decide +kernel
  | .tuple _ => by show kitB "tuple" "int" = some false; decide +kernel
  | .dict _ => by show kitB "dict" "int" = some false; decide +kernel
def isBool : PyData → Bool
  | .bool _ => true
  | _ => false
theorem is_bool : ∀ d, isTy "bool" d = some (isBool d)
  | .none => by show kitB "NoneType" "bool" = some false; decide +kernel
  | .bool _ => by show kitB "bool" "bool" = some true; decide +kernel
  | .int _ => by show kitB "int" "bool" = some false; decide +kernel
  | .str _ => by show kitB "str" "bool" = some false; decide +kernel
  | .list _ => by show kitB "list" "bool" = some false; decide +kernel
  | .tuple _ => by show kitB "tuple" "bool" = some false; decide +kernel
  | .dict _ => by show kitB "dict" "bool" = some false; decide +kernel
def isStr : PyData → Bool
  | .str _ => true
  | _ => false
theorem is_str : ∀ d, isTy "str" d = some (isStr d)
  | .none => by show kitB "NoneType" "str" = some false; decide +kernel
  | .bool _ => by show kitB "bool" "str" = some false; decide +kernel
  | .int _ => by show kitB "int" "str" = some false; decide +kernel
  | .str _ => by show kitB "str" "str" = some true; decide +kernel
  | .list _ => by show kitB "list" "str" = some false; decide +kernel
  | .tuple _ => by show kitB "tuple" "str" = some false; decide +kernel
  | .dict _ => by show kitB "dict" "str" = some false; decide +kernel
def isTuple : PyData → Bool
  | .tuple _ => true
  | _ => false
theorem is_tuple : ∀ d, isTy "tuple" d = some (isTuple d)
  | .none => by show kitB "NoneType" "tuple" = some false; decide +kernel
  | .bool _ => by show kitB "bool" "tuple" = some false; decide +kernel
  | .int _ => by show kitB "int" "tuple" = some false; decide +kernel
  | .str _ => by show kitB "str" "tuple" = some false; decide +kernel
  | .list _ => by show kitB "list" "tuple" = some false; decide +kernel
  | .tuple _ => by show kitB "tuple" "tuple" = some true; decide +kernel
  | .dict _ => by show kitB "dict" "tuple" = some false; decide +kernel
def isList : PyData → Bool
  | .list _ => true
  | _ => false
theorem is_list : ∀ d, isTy "list" d = some (isList d)
  | .none => by show kitB "NoneType" "list" = some false; decide +kernel
  | .bool _ => by show kitB "bool" "list" = some false; decide +kernel
  | .int _ => by show kitB "int" "list" = some false; decide +kernel
  | .str _ => by show kitB "str" "list" = some false; decide +kernel
  | .list _ => by show kitB "list" "list" = some true; decide +kernel
  | .tuple _ => by show kitB "tuple" "list" = some false; decide +kernel
  | .dict _ => by show kitB "dict" "list" = some false; decide +kernel
def isDict : PyData → Bool
  | .dict _ => true
  | _ => false
theorem is_dict : ∀ d, isTy "dict" d = some (isDict d)
  | .none => by show kitB "NoneType" "dict" = some false; decide +kernel
  | .bool _ => by show kitB "bool" "dict" = some false; decide +kernel
  | .int _ => by show kitB "int" "dict" = some false; decide +kernel
  | .str _ => by show kitB "str" "dict" = some false; decide +kernel
  | .list _ => by show kitB "list" "dict" = some false; decide +kernel
  | .tuple _ => by show kitB "tuple" "dict" = some false; decide +kernel
  | .dict _ => by show kitB "dict" "dict" = some true; decide +kernel

/-! ### several values with their kinds -/
inductive SlVs (K : PySem.W.Frag) (H F2 H2 : Hp) : List V → List Sl → Prop
  | nil : SlVs K H F2 H2 [] []
  | cons {v : V} {s : Sl} {vs : List V} {ss : List Sl} : SlV K H F2 H2 v s → (s.isOwn = true → ∀ u ∈ vs, u ≠ v) → SlVs K H F2 H2 vs ss → SlVs K H F2 H2 (v :: vs) (s :: ss)
def WKs (X : Cx) (W : WX) (ρ : List Sl) (es : List Expr) (Ξ : Exn → Prop) (Φ : List Sl → Prop) : Prop :=
  ∀ B F H σ, EnvOk X.K B F H σ ρ → ∀ Q : List V → Hp → Prop, (∀ vs ss F2 H2, Φ ss → Step B.M F H F2 H2 → SlVs X.K H F2 H2 vs ss → Q vs H2) → ExE X.K B.M F H W σ Ξ → wA X es σ H Q
section
variable {X : Cx} {W : WX} {ρ : List Sl} {e : Expr} {es : List Expr} {Ξ : Exn → Prop} {Φ : List Sl → Prop} {pos : Pos}
theorem wks_nil (h : Φ []) : WKs X W ρ [] Ξ Φ := fun B F H σ env Q q qx => wA_of pa_nil (q [] [] F H h (Step.refl env.sub) .nil)
/-- what is made later is not what stood before, if it is new: for data, say so by its kind -/
theorem wks_cons (h : WK X W ρ e Ξ fun s => WKs X W ρ es Ξ fun ss => (s.isOwn = true → ∀ t ∈ ss, t.isOwn = true ∨ ∃ d, t = .dat d ∧ flatD d = true) ∧ Φ (s :: ss)) (hs : starEach (e :: es) X.env = (false, eval e X.env) :: starEach es X.env := by rfl) : WKs X W ρ (e :: es) Ξ Φ := fun B F H σ env Q q qx =>
  wA_of (pa_cons pe_w pa_w hs) (h B F H σ env _ (fun v s F1 H1 hd st r => hd B F1 H1 σ (env.step st) _ (fun vs ss F2 H2 ha st2 rs => by
    have hM : ∀ p, H p = none → ¬ B.M p := fun p hp => env.notM (env.fresh0 hp)
    refine q (v :: vs) (s :: ss) F2 H2 ha.2 (st.trans st2) (.cons (r.step hM st2) (fun o u hu => ?_) ?_)
    · -- apart: v stands in H1, the others are new since H1, or flat
      have vH : ∃ p, v = .ref p ∧ H1 p ≠ none := by
        cases s with
        | own ds => obtain ⟨p, vs', e, _, h1, _⟩ := r; exact ⟨p, e, by rw [h1]; exact fun z => nomatch z⟩
        | odk ds => obtain ⟨p, vs', e, _, h1, _⟩ := r; exact ⟨p, e, by rw [h1]; exact fun z => nomatch z⟩
        | _ => cases o
      obtain ⟨p, rfl, hp⟩ := vH
      have all := ha.1 o
      clear ha q hd
      induction rs with
      | nil => cases hu
      | @cons v2 s2 vs2 ss2 r2 _ _ ih =>
        rcases List.mem_cons.mp hu with rfl | hu
        · rcases all s2 List.mem_cons_self with o2 | ⟨d, rfl, fd⟩
          · cases s2 with
            | own ds => obtain ⟨p2, _, e, h0, _⟩ := r2; intro z; rw [e] at z; cases z; exact hp h0
            | odk ds => obtain ⟨p2, _, e, h0, _⟩ := r2; intro z; rw [e] at z; cases z; exact hp h0
            | _ => cases o2
          · intro z
            subst z
            have r2' : Rp X.K F2 (.ref p) d := r2
            cases r2' <;> cases fd
        · exact ih hu fun t ht => all t (List.mem_cons_of_mem _ ht)
    · clear ha q hd
      induction rs with
      | nil => exact .nil
      | cons r2 a2 _ ih => exact .cons (r2.older st.back) a2 ih) (qx.step st)) qx)
end

/-! ### a, b = x, y and so on -/
def setAll : List Sl → List Nat → List Sl → List Sl
  | ρ, i :: is, s :: ss => setAll (ρ.set i s) is ss
  | ρ, _, _ => ρ
section
variable {X : Cx} {W : WX} {ρ : List Sl} {st : Stmt} {e c : Expr} {Ξ : Xi} {E : En} {pos : Pos}
/-- one after the other -/
theorem EnvOk.puts {K : PySem.W.Frag} {B : Base} {F H F2 H2 : Hp} {σ : L2.St} {v w : V} {s t : Sl} {i j : Nat} (env : EnvOk K B F H σ ρ) (st : Step B.M F H F2 H2) (h : SlVs K H F2 H2 [v, w] [s, t]) (hij : i ≠ j) : EnvOk K B F2 H2 ((σ.set i (some v)).set j (some w)) ((ρ.set i s).set j t) := by
  cases h with
  | cons r1 a1 h =>
    cases h with
    | cons r2 a2 h =>
      refine (env.putK st r1).put (r2.ok env st) fun o k u hk e ou => ?_
      by_cases hk' : k = i
      · subst hk'
        have hlt : k < (ρ.set k s).length := (List.getElem?_eq_some_iff.mp e).1
        rw [List.length_set] at hlt
        rw [List.getElem?_set_self hlt] at e
        cases e
        rw [List.getElem?_set_self (by rw [env.len]; exact hlt)]
        intro z
        exact a1 ou w List.mem_cons_self (Option.some.inj (Option.some.inj z)).symm
      · rw [List.getElem?_set_ne (Ne.symm hk')] at e ⊢
        exact r2.apart env o e ou
theorem w1_par (i j : Nat) {x y : Str} {a b : Expr} {px py pt : Pos} {kt k2 pt2} (C : Cxt X W) (h : WKs X W ρ [a, b] (xat Ξ ρ) fun ss => ∃ s t, ss = [s, t] ∧ E.nx ((ρ.set i s).set j t)) (hi : X.N[i]? = some x := by rfl) (hj : X.N[j]? = some y := by rfl) (hij : i ≠ j := by decide)
    (hx : X.env.scope.names.lookup x = some .local := by rfl) (hy : X.env.scope.names.lookup y = some .local := by rfl)
    (hw : swappedStores [.Tuple [.Name x px, .Name y py] kt pt] (.Tuple [a, b] k2 pt2) X.env = pure (some [x, y]) := by rfl)
    (hs : swapsWithSole [.Tuple [.Name x px, .Name y py] kt pt] (.Tuple [a, b] k2 pt2) pos.line X.env = pure false := by rfl) : W1 X W ρ (.Assign [.Tuple [.Name x px, .Name y py] kt pt] (.Tuple [a, b] k2 pt2) pos) Ξ E := fun B F H σ env D d dx =>
  wS1_of (ps_par C.calm C.nd hi hj hij hx hy pa_w hw hs) (h B F H σ env _ (fun vs ss F2 H2 hss st rs => by
    obtain ⟨s, t, rfl, hn⟩ := hss
    obtain ⟨v, w, rfl⟩ : ∃ v w, vs = [v, w] := by
      cases rs with
      | cons _ _ r => cases r with
        | cons _ _ r => cases r; exact ⟨_, _, rfl⟩
    exact ⟨v, w, rfl, d.nx _ F2 H2 _ hn (env.puts st rs hij)⟩) (dx.at env))

/-! ### targets that may be items of own lists -/
def WGx (X : Cx) (W : WX) (ρ : List Sl) (tg : Expr) (d : PyData) (Ξ : Exn → Prop) (Φ : List Sl → Prop) : Prop :=
  ∀ B F H σ v, EnvOk X.K B F H σ ρ → Rp X.K F v d → ∀ Q : L2.St → Hp → Prop, (∀ ρ' σ' F' H', Φ ρ' → EnvOk X.K B F' H' σ' ρ' → Same F F' → Q σ' H') → ExE X.K B.M F H W σ Ξ → wG X tg v σ H Q
theorem wgx_name (i : Nat) {x : Str} {d : PyData} {Ξ : Exn → Prop} {Φ : List Sl → Prop} (nd : X.N.Nodup) (h : Φ (ρ.set i (.dat d))) (hN : X.N[i]? = some x := by rfl) (hx : Loc X.env.scope x := by first | exact Or.inl rfl | exact Or.inr rfl)
    (hf : X.fn x = true ∨ X.env.scope.names.lookup x = some .local := by first | exact .inl rfl | exact .inr rfl) : WGx X W ρ (.Name x pos) d Ξ Φ := fun B F H σ v env r Q q _ =>
  wG_of (pg_name nd hN hx hf) (q _ _ F H h (env.set r) (Same.refl F))
theorem wgx_item (i : Nat) {x : Str} {px : Pos} {d : PyData} {ds : List PyData} {Ξ : Exn → Prop} {Φ : List Sl → Prop} (hi : ρ[i]? = some (.own ds)) (h : WE X W ρ e Ξ fun y => ∃ k j, y = .int k ∧ ixN ds.length k = some j ∧ Φ (ρ.set i (.own (ds.set j d))))
    (hN : X.N[i]? = some x := by rfl) (hv : Vis X.env.scope x := by first | exact Or.inl rfl | exact Or.inr (Or.inl rfl) | exact Or.inr (Or.inr rfl))
    (hd : (x == ("__debug__" : Str)) = false := by decide) (hcd : (x == ("__classdict__" : Str)) = false := by decide)
    (ha : ∀ v, assign (.Subscript (.Name x px) e pos) X.env v = (do
      let ov ← holding [v] (eval (.Name x px) X.env)
      let iv ← holding [v, ov] (eval e X.env)
      standAt pos
      holding [v, ov, iv] (setItem ov iv v)
      release [v, ov, iv] []) := by intro _; rfl) : WGx X W ρ (.Subscript (.Name x px) e pos) d Ξ Φ := fun B F H σ v env r Q q qx => by
  obtain ⟨p, vs, e1, hp, fp, h0, nm, ra⟩ := env.sl i _ hi
  refine wG_of (pg_sub (pv i hN hv hd hcd) pe_w set_list ha) ⟨_, e1, h B F H σ env _ (fun u y F2 H2 hy st ry => ?_) qx⟩
  obtain ⟨k, j, rfl, hj, hΦ⟩ := hy
  exact ⟨p, vs, k, j, rfl, ry.int_inv, st.keep p _ nm hp, by rw [ra.len]; exact hj, q _ _ F2 _ hΦ ((env.step st).setOwn hi e1 ((RpAll.mono st.fr _ _ ra).set j (r.mono st.fr))) st.fr⟩
def WGxs (X : Cx) (W : WX) (ρ : List Sl) (ts : List Expr) (ds : List PyData) (Ξ : Exn → Prop) (Φ : List Sl → Prop) : Prop :=
  ∀ B F H σ vs, EnvOk X.K B F H σ ρ → RpAll X.K F vs ds → ∀ Q : L2.St → Hp → Prop, (∀ ρ' σ' F' H', Φ ρ' → EnvOk X.K B F' H' σ' ρ' → Same F F' → Q σ' H') → DEx X.K B W (fun x _ => Ξ x) → wGs X ts vs σ H Q
theorem wgxs_nil {Ξ : Exn → Prop} {Φ : List Sl → Prop} (h : Φ ρ) : WGxs X W ρ [] [] Ξ Φ := fun B F H σ vs env r Q q _ pins s us I rv => by
  cases r
  exact (pgs_nil (X := X)).run pins s σ H [] us Q I rv ⟨rfl, q ρ σ F H h env (Same.refl F)⟩
theorem wgxs_cons {es : List Expr} {d : PyData} {ds : List PyData} {Ξ : Exn → Prop} {Φ : List Sl → Prop} (h : WGx X W ρ e d Ξ fun ρ' => WGxs X W ρ' es ds Ξ Φ) (hs : (assignEach (e :: es) X.env).map (·.2) = assign e X.env :: (assignEach es X.env).map (·.2) := by rfl) : WGxs X W ρ (e :: es) (d :: ds) Ξ Φ := fun B F H σ vs env r Q q qx pins s us I rv => by
  cases r with
  | cons r1 r2 =>
    rename_i v vs'
    exact (pgs_cons pg_w pgs_w hs).run pins s σ H (v :: vs') us Q I rv ⟨v, vs', rfl, h B F H σ v env r1 _ (fun ρ' σ' F' H' w env' s' => w B F' H' σ' vs' env' (RpAll.mono s' _ _ r2) Q (fun ρ2 σ2 F2 H2 w2 env2 s2 => q ρ2 σ2 F2 H2 w2 env2 (s'.trans s2)) qx) (fun cls dd y F2 H2 hy st r => qx cls dd y ρ F2 H2 σ hy (env.step st) r)⟩
theorem wgx_tup {es : List Expr} {k : Nat} {ds : List PyData} {Ξ : Exn → Prop} {Φ : List Sl → Prop} (hc : X.calm = true) (h : WGxs X W ρ es ds Ξ Φ) (hl : ds.length = es.length := by rfl) (hn : (assignEach es X.env).length = es.length := by rfl) (hst : (assignEach es X.env).findIdx? (·.1) = none := by rfl) :
    ∀ B F H σ v, EnvOk X.K B F H σ ρ → Rp X.K F v (.tuple ds) → ∀ Q : L2.St → Hp → Prop, (∀ ρ' σ' F' H', Φ ρ' → EnvOk X.K B F' H' σ' ρ' → Same F F' → Q σ' H') → DEx X.K B W (fun x _ => Ξ x) → wG X (.Tuple es k pos) v σ H Q := fun B F H σ v env r Q q qx => by
  obtain ⟨a, xs, rfl, ha, ra⟩ := r.tup_inv
  exact wG_of (pg_tup hc pgs_w hn hst) ⟨a, xs, rfl, same_t env.sub ha, by rw [ra.len]; exact hl, h B F H σ xs env ra Q q qx⟩
/-- xs[i] = e -/
theorem w1_setItem {tg : Expr} (h : WE X W ρ e (xat Ξ ρ) fun d => WGx X W ρ tg d (xat Ξ ρ) E.nx) (hs : swapsWithSole [tg] e pos.line X.env = pure false := by rfl) (hw : swappedStores [tg] e X.env = pure none := by rfl) (h1 : (assignEach [tg] X.env).map (·.2) = [assign tg X.env] := by rfl) : W1 X W ρ (.Assign [tg] e pos) Ξ E := fun B F H σ env D d dx =>
  wS1_of (ps_asg pe_w pg_w hs hw h1) (h B F H σ env _ (fun v x F1 H1 hx st r => hx B F1 H1 σ v (env.step st) r _ (fun ρ' σ' F' H' w env' _ => d.nx ρ' F' H' σ' w env') ((dx.at env).step st)) (dx.at env))
/-- t1, t2, .. = e, e data; nothing is raised meanwhile -/
theorem w1_unpack {ts : List Expr} {k : Nat} {tp : Pos} (C : Cxt X W) (h : WE X W ρ e (xat Ξ ρ) fun d => ∃ ds, d = .tuple ds ∧ ds.length = ts.length ∧ WGxs X W ρ ts ds X0 E.nx) (hn : (assignEach ts X.env).length = ts.length := by rfl) (hst : (assignEach ts X.env).findIdx? (·.1) = none := by rfl)
    (hs : swapsWithSole [.Tuple ts k tp] e pos.line X.env = pure false := by rfl) (hw : swappedStores [.Tuple ts k tp] e X.env = pure none := by rfl) (h1 : (assignEach [.Tuple ts k tp] X.env).map (·.2) = [assign (.Tuple ts k tp) X.env] := by rfl) : W1 X W ρ (.Assign [.Tuple ts k tp] e pos) Ξ E := fun B F H σ env D d dx =>
  wS1_of (ps_asg pe_w pg_w hs hw h1) (h B F H σ env _ (fun v x F1 H1 hx st r => by
    obtain ⟨ds, rfl, hl, hx⟩ := hx
    exact wgx_tup C.calm hx hl hn hst B F1 H1 σ v (env.step st) r _ (fun ρ' σ' F' H' w env' _ => d.nx ρ' F' H' σ' w env') (fun _ _ _ _ _ _ _ z => z.elim)) (dx.at env))
/-- xs.extend(e), xs own -/
theorem w1_extend (i : Nat) {x : Str} {ds : List PyData} {px ap cp : Pos} (hi : ρ[i]? = some (.own ds)) (h : WE X W ρ e (xat Ξ ρ) fun d => ∃ es, d = .list es ∧ ds.length + es.length ≤ 100000 ∧ E.nx (ρ.set i (.own (ds ++ es))))
    (hN : X.N[i]? = some x := by rfl) (hv : Vis X.env.scope x := by first | exact Or.inl rfl | exact Or.inr (Or.inl rfl) | exact Or.inr (Or.inr rfl))
    (hd : (x == ("__debug__" : Str)) = false := by decide) (hcd : (x == ("__classdict__" : Str)) = false := by decide)
    (pe : PE X (.Call (.Attribute (.Name x px) "extend" ap) [e] [] cp) (tBM X.K "list" rExtend (tVar i) (tCons (wE X e) tNil)) := by exact pe_bm PySem.F.plainAttrs_list PySem.F.slot_list_extend PySem.F.type_list_extend mt_extend (pv _) (pa_cons pe_w pa_nil))
    (hs : swapsWith (.Call (.Attribute (.Name x px) "extend" ap) [e] [] cp) none pos.line X.env = pure false := by rfl) : W1 X W ρ (.Expr (.Call (.Attribute (.Name x px) "extend" ap) [e] [] cp) pos) Ξ E := fun B F H σ env D d dx => by
  obtain ⟨p, vs, e1, hp, fp, h0, nm, r⟩ := env.sl i _ hi
  refine wS1_of (ps_expr pe hs) ⟨_, e1, .inl ⟨rfl, _, SqL.of hp⟩, h B F H σ env _ (fun v y F2 H2 hy st ry => ?_) (dx.at env)⟩
  obtain ⟨es, rfl, hz, hE⟩ := hy
  obtain ⟨b, ys, rfl, hb, rb⟩ := ry.lst_inv
  have h2 : H2 p = some (.lst vs) := st.keep p _ nm hp
  have env2 := env.step st
  exact ⟨p, b, vs, ys, rfl, rfl, h2, st.sub _ _ hb, Nat.le_trans (by rw [r.len, rb.len]; exact hz) (by decide), d.nx _ F2 _ σ hE (env2.setOwn hi e1 ((RpAll.mono st.fr _ _ r).append rb))⟩
end

/-! ### raise, try -/
/-- an own exception class without own __init__, over ValueError -/
structure ExcC (K : PySem.W.Frag) (mg : Str → Option Value) (x : Str) (C : Addr) : Prop where
  g : mg x = some (.ref C)
  q : PySem.W.excIn K C [.type "ValueError", .type "Exception", .type "BaseException", .type "object"] "ValueError.__new__" = true
  k : PySem.W.keepIn K (.ref C) = true
  b : PySem.W.subIn K (.ref C) (.type "BaseException") = some true
  t : PySem.W.typeIn K (.ref C) = some (.type "type")
section
variable {X : Cx} {W : WX} {ρ : List Sl} {Ξ : Xi} {E : En} {pos : Pos}
theorem pmk_own0 {C : Addr} {bmB : List Value} {B newId initId : String} {x : Str} {p pos : Pos} (F : PySem.ExcBaseFacts B newId initId bmB) (q : PySem.W.excIn X.K C bmB newId = true) (gC : X.mg x = some (.ref C)) (kC : PySem.W.keepIn X.K (.ref C) = true) (r : Raises X (.ref C)) (hg : Gl X x)
    (hdb : (x == ("__debug__" : Str)) = false := by decide) : PMk X (.Call (.Name x p) [] [] pos) (fun _ H Q => Q (.ref C) none H) := by
  intro pins s σ H Q I h
  refine wpAny_Call_Name_kw (ld_glob I hg gC ?_ hdb)
  refine PySem.W.callWith_K0 I.kIn kC ?_
  show wpAny _ _ (call (.ref C) []) _ _ _
  obtain ⟨bm, N, nm, qn, bs, hdct, sn, sub, ab, col, dd, k0, k1, k2, k3, k5, mN, hC, hN, hni, T⟩ := exc_obj I.kIn q
  refine wpAny_call_exc_subT F T hC hN hni (fun h' e hm => ?_) (by show 0 ≤ sizeLine; decide)
  exact mk_of I hm r h (I.hok.gone hm.new)
theorem w1_raise {C : Addr} {x : Str} {p cp : Pos} (Cx : Cxt X W) (T : ExcC X.K X.mg x C) {k : Kd} (hk : C = kA X.K k) (h : Ξ ⟨k, []⟩ ρ) (hg : Gl X x := by rfl) (hdb : (x == ("__debug__" : Str)) = false := by decide) : W1 X W ρ (.Raise (some (.Call (.Name x p) [] [] cp)) none pos) Ξ E := fun B F H σ env D d dx =>
  wS1_of (ps_raise Cx.calm Cx.tk (pmk_own0 PySem.F.excBase_ValueError T.q T.g T.k (raises_own T.b T.t) hg hdb)) (dx _ _ ⟨k, []⟩ ρ F H σ h env ⟨by rw [hk], .inl rfl⟩)
/-- what the clauses do with an exception: the first that takes it -/
def Catch (X : Cx) (Ξ : Xi) (E : En) (x : Exn) (ρ : List Sl) : List (Value × List Stmt) → Prop
  | [] => Ξ x ρ
  | (c, suite) :: r => ∃ b, PySem.W.exmOne X.K (.ref (kA X.K x.k)) c = some b ∧ (b = true → ∀ a oe pn, WS (X.suite a ((a, oe) :: pn)) W0 ρ suite (fun _ _ => False) E) ∧ (b = false → Catch X Ξ E x ρ r)
inductive HdsD (X : Cx) : List ExceptHandler → List (Value × List Stmt) → Prop
  | nil : HdsD X [] []
  | cons {x : Str} {c : Value} {b₀ : Stmt} {suite : List Stmt} {np pos' : Pos} {hds : List ExceptHandler} {l : List (Value × List Stmt)} (hc : Names X x c) (r : HdsD X hds l) : HdsD X (.ExceptHandler (some (.Name x np)) none (b₀ :: suite) pos' :: hds) ((c, b₀ :: suite) :: l)
def suiteT (X : Cx) (ss : List Stmt) : Addr → Value → Option Addr → TS := fun a cls d D σ H => ∀ oe pn, Zc cls d oe → (∃ vs, oe.data = .fields vs) → wSs (X.suite a ((a, oe) :: pn)) ss D σ H
theorem HdsD.ok : ∀ {hds : List ExceptHandler} {l : List (Value × List Stmt)}, HdsD X hds l → HdsOk X hds (l.map fun p => (p.1, suiteT X p.2))
  | _, _, .nil => .nil
  | _, _, .cons hc r => .cons hc (fun a oe cls d pn hz hf => ⟨fun pins s σ H D I h => h oe pn hz hf pins s I⟩) r.ok
theorem catch_run {B : Base} {D : Ends} (d : DOk X.K B E D) (dx : DEx X.K B W Ξ) {cls : Value} {dd : Option Addr} {x : Exn} {F2 H2 : Hp} {σ2 : L2.St} (env2 : EnvOk X.K B F2 H2 σ2 ρ) (r : ExRp X.K F2 H2 cls dd x) : ∀ {l : List (Value × List Stmt)}, Catch X Ξ E x ρ l →
    wMany X.K W D (l.map fun p => (p.1, suiteT X p.2)) cls dd σ2 H2
  | [], hx => dx cls dd x ρ F2 H2 σ2 hx env2 r
  | (c, suite) :: l, hx => by
    obtain ⟨b, hb, h1, h2⟩ := hx
    have e : cls = .ref (kA X.K x.k) := r.1
    exact ⟨b, by rw [e]; exact hb, fun e a ha oe pn' _ _ => h1 e a oe pn' B F2 H2 σ2 env2 D ⟨d.nx, d.rt, d.bk, d.ct⟩ (fun _ _ _ _ _ _ _ z => z.elim), fun e => catch_run d dx env2 r (h2 e)⟩
theorem w1_try {body : List Stmt} {h₀ : ExceptHandler} {hds : List ExceptHandler} {l : List (Value × List Stmt)} (C : Cxt X W) (hs : X.stack = X.env :: X.outer) (hf : X.env.frame = some X.env.locals) (hh : HdsD X (h₀ :: hds) l)
    (h : ∀ W' pn xe, Cxt (X.tr pn xe) W' → WS (X.tr pn xe) W' ρ body (fun x ρ' => Catch X Ξ E x ρ' l) E) : W1 X W ρ (.Try body (h₀ :: hds) [] [] pos) Ξ E := fun B F H σ env D d dx => by
  refine wS1_of (ps_try_many (tb := fun W' D σ H => ∀ pn xe, Takes (X.tr pn xe) W' → PassesOwn (model X.prog X.w) X.A X.env xe → wSs (X.tr pn xe) body D σ H) hs hf C.tk (fun W' pn xe tk po => ⟨fun pins s σ H D I h => h pn xe tk po pins s I⟩) hh.ok) ?_
  intro pn xe tk po
  exact h _ pn xe ⟨tk, po, C.calm, C.nd, C.hu⟩ B F H σ env D ⟨d.nx, d.rt, d.bk, d.ct⟩ fun cls dd x ρ' F2 H2 σ2 hx env2 r => catch_run d dx env2 r hx
end
end Mv
namespace Mv
open PySem L2
theorem bb_len : bootBuiltins "len" = some (.builtin "len") := by decide +kernel
theorem bb_isinstance : bootBuiltins "isinstance" = some (.builtin "isinstance") := by decide +kernel
theorem bb_abs : bootBuiltins "abs" = some (.builtin "abs") := by decide +kernel
theorem bb_max : bootBuiltins "max" = some (.builtin "max") := by decide +kernel
theorem bb_min : bootBuiltins "min" = some (.builtin "min") := by decide +kernel
theorem bb_sum : bootBuiltins "sum" = some (.builtin "sum") := by decide +kernel
theorem bb_all : bootBuiltins "all" = some (.builtin "all") := by decide +kernel
theorem bb_any : bootBuiltins "any" = some (.builtin "any") := by decide +kernel
theorem bb_sorted : bootBuiltins "sorted" = some (.builtin "sorted") := by decide +kernel
theorem bb_int : bootBuiltins "int" = some (.type "int") := by decide +kernel
theorem bb_bool : bootBuiltins "bool" = some (.type "bool") := by decide +kernel
theorem bb_str : bootBuiltins "str" = some (.type "str") := by decide +kernel
theorem bb_tuple : bootBuiltins "tuple" = some (.type "tuple") := by decide +kernel
theorem bb_list : bootBuiltins "list" = some (.type "list") := by decide +kernel
theorem bb_dict : bootBuiltins "dict" = some (.type "dict") := by decide +kernel
theorem bb_set : bootBuiltins "set" = some (.type "set") := by decide +kernel
theorem bb_range : bootBuiltins "range" = some (.type "range") := by decide +kernel
theorem asDat_dat {Φ : PyData → Prop} {d : PyData} (h : Φ d) : asDat Φ (.dat d) := h
theorem asDat_own {Φ : PyData → Prop} {ds : List PyData} (h : Φ (.list ds)) : asDat Φ (.own ds) := h
theorem fin_dat {Φ : Sl → Prop} {x y : PyData} (q : Φ (.dat x)) (e : x = y) : Φ (.dat y) := e ▸ q
theorem fin_own {Φ : Sl → Prop} {x y : List PyData} (q : Φ (.own x)) (e : x = y) : Φ (.own y) := e ▸ q
/-- a def as the top has left it -/
structure Fn (K : PySem.W.Frag) (mg : Str → Option Value) (x : Str) (st : Stmt) (ps : List Str) : Prop where
  ex : ∃ f fd, Fun K x x st f fd ∧ mg x = some (.ref f) ∧ Binds K fd ps []
section
variable {P : Program} {w : World} {K : PySem.W.Frag} {mg : Str → Option Value} {base : Heap}
theorem fn_def {x : Str} {st : Stmt} {N ps : List Str} {k : Nat} {pr : Pr} (F : Fn K mg x st ps) (S : FnScope N ps (defScope st)) (hl : ∀ as Φ Ξ, pr as Φ Ξ → as.length = ps.length)
    (body : ∀ (f : Addr) (cdv : Value) (A : Around) (outer : List Env) (s : Shared) (H : Hp) (E : XK), Room k (A.deeper (PyProof.Rows.envOfC x (defScope st) s.heap.objs.size f cdv)) → Cxt (cxOf (L2.CX P w) P w K mg base N x (defScope st) f cdv A outer s H E) (wDef E) →
      ∀ as Φ Ξ, pr as Φ Ξ → WS (cxOf (L2.CX P w) P w K mg base N x (defScope st) f cdv A outer s H E) (wDef E) (slots as N.length) (defBody st) (fun y _ => Ξ y) { nx := fun _ => Φ (.dat .none), rt := Φ }) :
    Def P w K mg base x ps.length (k + 1) pr := by
  obtain ⟨f, fd, F, hm, hb⟩ := F.ex
  exact def_of F S hm hb hl (body f)
end
end Mv

set_option maxRecDepth 100000
set_option maxHeartbeats 4000000
/-! the built-in names, constants, further short rules -/
namespace Mv
open PySem L2
/-- no built-in name is taken by the module -/
structure Txt (mg : Str → Option Value) : Prop where
  abs : mg "abs" = none
  all : mg "all" = none
  any : mg "any" = none
  bool : mg "bool" = none
  dict : mg "dict" = none
  enumerate : mg "enumerate" = none
  int : mg "int" = none
  isinstance : mg "isinstance" = none
  len : mg "len" = none
  list : mg "list" = none
  max : mg "max" = none
  min : mg "min" = none
  range : mg "range" = none
  set : mg "set" = none
  sorted : mg "sorted" = none
  str : mg "str" = none
  sum : mg "sum" = none
  tuple : mg "tuple" = none
/-- a constant of the module -/
structure Cst (K : PySem.W.Frag) (mg : Str → Option Value) (x : Str) (d : PyData) : Prop where
  ex : ∃ v u, mg x = some u ∧ RelV v u ∧ ∀ F, Rp K F v d
theorem cst_int {K : PySem.W.Frag} {mg : Str → Option Value} {x : Str} {i : Int} {t : Tok} (h : mg x = some (.int i t)) : Cst K mg x (.int i) := ⟨.int i, _, h, ⟨t, rfl⟩, fun _ => .int i⟩
theorem cst_str {K : PySem.W.Frag} {mg : Str → Option Value} {x : Str} {i : Str} {t : Tok} (h : mg x = some (.str i t)) : Cst K mg x (.str i) := ⟨.str i, _, h, ⟨t, rfl⟩, fun _ => .str i⟩
section
variable {X : Cx} {W : WX} {ρ : List Sl} {st : Stmt} {e a b c : Expr} {Ξ : Exn → Prop} {Φ : PyData → Prop} {Ψ : Sl → Prop} {E : En} {pos : Pos}
theorem we_cst {x : Str} {d : PyData} (c : Cst X.K X.mg x d) (h : Φ d) (hg : Gl X x := by rfl) (hd : (x == ("__debug__" : Str)) = false := by decide) : WE X W ρ (.Name x pos) Ξ Φ := by
  obtain ⟨v, u, hm, r, rd⟩ := c.ex
  exact we_glob hm r rd h hg hd
theorem wpow_5 {X : Cx} {Φ : PyData → Prop} (h : Φ (.int 100000)) : WOp X (rI CPow fun i j => .int (i ^ j.toNat)) (.int 10) (.int 5) Φ := wpow_int (by decide) (by decide) (by decide) (by rw [show (10 : Int) ^ (5 : Int).toNat = 100000 from by decide +kernel]; exact h)
theorem wpow_6 {X : Cx} {Φ : PyData → Prop} (h : Φ (.int 1000000)) : WOp X (rI CPow fun i j => .int (i ^ j.toNat)) (.int 10) (.int 6) Φ := wpow_int (by decide) (by decide) (by decide) (by rw [show (10 : Int) ^ (6 : Int).toNat = 1000000 from by decide +kernel]; exact h)
theorem wpow_9 {X : Cx} {Φ : PyData → Prop} (h : Φ (.int 1000000000)) : WOp X (rI CPow fun i j => .int (i ^ j.toNat)) (.int 10) (.int 9) Φ := wpow_int (by decide) (by decide) (by decide) (by rw [show (10 : Int) ^ (9 : Int).toNat = 1000000000 from by decide +kernel]; exact h)
theorem wpow_10 {X : Cx} {Φ : PyData → Prop} (h : Φ (.int 10000000000)) : WOp X (rI CPow fun i j => .int (i ^ j.toNat)) (.int 10) (.int 10) Φ := wpow_int (by decide) (by decide) (by decide) (by rw [show (10 : Int) ^ (10 : Int).toNat = 10000000000 from by decide +kernel]; exact h)
theorem wpow_11 {X : Cx} {Φ : PyData → Prop} (h : Φ (.int 100000000000)) : WOp X (rI CPow fun i j => .int (i ^ j.toNat)) (.int 10) (.int 11) Φ := wpow_int (by decide) (by decide) (by decide) (by rw [show (10 : Int) ^ (11 : Int).toNat = 100000000000 from by decide +kernel]; exact h)
theorem wpow_12 {X : Cx} {Φ : PyData → Prop} (h : Φ (.int 1000000000000)) : WOp X (rI CPow fun i j => .int (i ^ j.toNat)) (.int 10) (.int 12) Φ := wpow_int (by decide) (by decide) (by decide) (by rw [show (10 : Int) ^ (12 : Int).toNat = 1000000000000 from by decide +kernel]; exact h)
theorem wpow_14 {X : Cx} {Φ : PyData → Prop} (h : Φ (.int 100000000000000)) : WOp X (rI CPow fun i j => .int (i ^ j.toNat)) (.int 10) (.int 14) Φ := wpow_int (by decide) (by decide) (by decide) (by rw [show (10 : Int) ^ (14 : Int).toNat = 100000000000000 from by decide +kernel]; exact h)
theorem wpow_15 {X : Cx} {Φ : PyData → Prop} (h : Φ (.int 1000000000000000)) : WOp X (rI CPow fun i j => .int (i ^ j.toNat)) (.int 10) (.int 15) Φ := wpow_int (by decide) (by decide) (by decide) (by rw [show (10 : Int) ^ (15 : Int).toNat = 1000000000000000 from by decide +kernel]; exact h)
theorem wpow_16 {X : Cx} {Φ : PyData → Prop} (h : Φ (.int 10000000000000000)) : WOp X (rI CPow fun i j => .int (i ^ j.toNat)) (.int 10) (.int 16) Φ := wpow_int (by decide) (by decide) (by decide) (by rw [show (10 : Int) ^ (16 : Int).toNat = 10000000000000000 from by decide +kernel]; exact h)
theorem wpow_18 {X : Cx} {Φ : PyData → Prop} (h : Φ (.int 1000000000000000000)) : WOp X (rI CPow fun i j => .int (i ^ j.toNat)) (.int 10) (.int 18) Φ := wpow_int (by decide) (by decide) (by decide) (by rw [show (10 : Int) ^ (18 : Int).toNat = 1000000000000000000 from by decide +kernel]; exact h)
theorem wpow_20 {X : Cx} {Φ : PyData → Prop} (h : Φ (.int 100000000000000000000)) : WOp X (rI CPow fun i j => .int (i ^ j.toNat)) (.int 10) (.int 20) Φ := wpow_int (by decide) (by decide) (by decide) (by rw [show (10 : Int) ^ (20 : Int).toNat = 100000000000000000000 from by decide +kernel]; exact h)
theorem wpow_24 {X : Cx} {Φ : PyData → Prop} (h : Φ (.int 1000000000000000000000000)) : WOp X (rI CPow fun i j => .int (i ^ j.toNat)) (.int 10) (.int 24) Φ := wpow_int (by decide) (by decide) (by decide) (by rw [show (10 : Int) ^ (24 : Int).toNat = 1000000000000000000000000 from by decide +kernel]; exact h)
theorem wpow_25 {X : Cx} {Φ : PyData → Prop} (h : Φ (.int 10000000000000000000000000)) : WOp X (rI CPow fun i j => .int (i ^ j.toNat)) (.int 10) (.int 25) Φ := wpow_int (by decide) (by decide) (by decide) (by rw [show (10 : Int) ^ (25 : Int).toNat = 10000000000000000000000000 from by decide +kernel]; exact h)
theorem wpow_29 {X : Cx} {Φ : PyData → Prop} (h : Φ (.int 100000000000000000000000000000)) : WOp X (rI CPow fun i j => .int (i ^ j.toNat)) (.int 10) (.int 29) Φ := wpow_int (by decide) (by decide) (by decide) (by rw [show (10 : Int) ^ (29 : Int).toNat = 100000000000000000000000000000 from by decide +kernel]; exact h)
theorem wpow_30 {X : Cx} {Φ : PyData → Prop} (h : Φ (.int 1000000000000000000000000000000)) : WOp X (rI CPow fun i j => .int (i ^ j.toNat)) (.int 10) (.int 30) Φ := wpow_int (by decide) (by decide) (by decide) (by rw [show (10 : Int) ^ (30 : Int).toNat = 1000000000000000000000000000000 from by decide +kernel]; exact h)
theorem at_D {α : Type} {xs : List α} {z : Int} {j : Nat} {v : α} (h : xs[j]? = some v) (e : z = (j : Int)) : atI xs z = some v := by
  rw [e]
  exact atI_nat h
theorem wts_nil {Θ : Bool → Prop} (h : Θ true) : WTs X ρ [] Θ := h
theorem wts_one {Θ : Bool → Prop} (h : WT X W0 ρ c X0 Θ) : WTs X ρ [c] Θ := h
theorem asSl_mk {d : PyData} (h : Ψ (.dat d)) : asSl Ψ d := h
theorem flat_int (i : Int) : flatD (.int i) = true := rfl
/-- a, b = x, y, data both -/
theorem w1_parD {Ξ : Xi} (i j : Nat) {x y : Str} {px py pt : Pos} {kt k2 pt2} (C : Cxt X W) (h : WE X W ρ a (xat Ξ ρ) fun u => WE X W ρ b (xat Ξ ρ) fun v => E.nx ((ρ.set i (.dat u)).set j (.dat v))) (hi : X.N[i]? = some x := by rfl) (hj : X.N[j]? = some y := by rfl) (hij : i ≠ j := by decide)
    (hx : X.env.scope.names.lookup x = some .local := by rfl) (hy : X.env.scope.names.lookup y = some .local := by rfl)
    (hw : swappedStores [.Tuple [.Name x px, .Name y py] kt pt] (.Tuple [a, b] k2 pt2) X.env = pure (some [x, y]) := by rfl)
    (hs : swapsWithSole [.Tuple [.Name x px, .Name y py] kt pt] (.Tuple [a, b] k2 pt2) pos.line X.env = pure false := by rfl)
    (he : starEach [a, b] X.env = (false, eval a X.env) :: starEach [b] X.env := by rfl) (he2 : starEach [b] X.env = (false, eval b X.env) :: starEach [] X.env := by rfl) : W1 X W ρ (.Assign [.Tuple [.Name x px, .Name y py] kt pt] (.Tuple [a, b] k2 pt2) pos) Ξ E :=
  w1_par i j C (wks_cons (wk_of_we (h.mono fun u hu => wks_cons (wk_of_we (hu.mono fun v hv => wks_nil ⟨(fun z => nomatch z), (fun z => nomatch z), _, _, rfl, hv⟩)) he2)) he) hi hj hij hx hy hw hs
end
end Mv
namespace Mv
abbrev M30 : Int := 1000000000000000000000000000000
end Mv

set_option maxRecDepth 100000
set_option maxHeartbeats 4000000
/-! readings by data: what a piece of syntax asks, as a term that computes -/
namespace Mv
open PySem L2
abbrev DE := List Sl → (Exn → Prop) → (PyData → Prop) → Prop
abbrev DK := List Sl → (Exn → Prop) → (Sl → Prop) → Prop
abbrev DT := List Sl → (Exn → Prop) → (Bool → Prop) → Prop
abbrev DA := List Sl → (Exn → Prop) → (List Ag → Prop) → Prop
abbrev DI := List Sl → (Exn → Prop) → (List PyData → Prop) → Prop
abbrev DG := PyData → List Sl → (List Sl → Prop) → Prop
abbrev DS := List Sl → Xi → En → Prop
/-- what goes on -/
def Go (p : Prop) : Prop := p
theorem go_of {p : Prop} (h : p) : Go p := h
theorem go_out {p : Prop} (h : Go p) : p := h
/-- one of two ways -/
@[irreducible] def brk (b : Bool) (A B : Prop) : Prop := (b = true → A) ∧ (b = false → B)
theorem brk_of {b : Bool} {A B : Prop} (h1 : b = true → A) (h2 : b = false → B) : brk b A B := by unfold brk; exact ⟨h1, h2⟩
theorem brk_t {A B : Prop} (h : A) : brk true A B := brk_of (fun _ => h) (fun z => nomatch z)
theorem brk_f {A B : Prop} (h : B) : brk false A B := brk_of (fun z => nomatch z) (fun _ => h)
theorem brk.t {b : Bool} {A B : Prop} (h : brk b A B) : b = true → A := by unfold brk at h; exact h.1
theorem brk.f {b : Bool} {A B : Prop} (h : brk b A B) : b = false → B := by unfold brk at h; exact h.2
theorem brk_is {b c : Bool} {A B : Prop} (e : b = c) (h : brk c A B) : brk b A B := by rw [e]; exact h
/-- the n-th -/
def nth {α : Type} : List α → Nat → Option α
  | [], _ => none
  | a :: _, 0 => some a
  | _ :: l, n + 1 => nth l n
theorem nth_eq {α : Type} : ∀ (l : List α) (n : Nat), nth l n = l[n]?
  | [], _ => rfl
  | _ :: _, 0 => rfl
  | _ :: l, n + 1 => nth_eq l n
def atDat (o : Option Sl) (Φ : PyData → Prop) : Prop := match o with
  | some (.dat d) => Φ d
  | _ => False
theorem atDat_inv {o : Option Sl} {Φ : PyData → Prop} (h : atDat o Φ) : ∃ d, o = some (.dat d) ∧ Φ d := by
  unfold atDat at h
  split at h
  · exact ⟨_, rfl, h⟩
  · exact h.elim
def isBl (d : PyData) (Θ : Bool → Prop) : Prop := match d with
  | .bool b => Θ b
  | _ => False
theorem isBl_inv {d : PyData} {Θ : Bool → Prop} (h : isBl d Θ) : ∃ b, d = .bool b ∧ Θ b := by
  unfold isBl at h
  split at h
  · exact ⟨_, rfl, h⟩
  · exact h.elim
def someK {α : Type} (o : Option α) (Φ : α → Prop) : Prop := match o with
  | some d => Φ d
  | none => False
theorem someK_inv {α : Type} {o : Option α} {Φ : α → Prop} (h : someK o Φ) : ∃ d, o = some d ∧ Φ d := by
  cases o with
  | none => exact h.elim
  | some d => exact ⟨d, rfl, h⟩
theorem someK_of {α : Type} {o : Option α} {Φ : α → Prop} {d : α} (e : o = some d) (h : Φ d) : someK o Φ := by rw [e]; exact h

/-! ### what is asked of a piece -/
def RE (X : Cx) (W : WX) (e : Expr) (t : DE) : Prop := ∀ ρ Ξ Φ, t ρ Ξ Φ → WE X W ρ e Ξ Φ
def RK (X : Cx) (W : WX) (e : Expr) (t : DK) : Prop := ∀ ρ Ξ Φ, t ρ Ξ Φ → WK X W ρ e Ξ Φ
def RT (X : Cx) (W : WX) (e : Expr) (t : DT) : Prop := ∀ ρ Ξ Φ, t ρ Ξ Φ → WT X W ρ e Ξ Φ
def RW (X : Cx) (W : WX) (e : Expr) (t : DT) : Prop := ∀ ρ Ξ Φ, t ρ Ξ Φ → WW X W ρ e Ξ Φ
def RA (X : Cx) (W : WX) (e : List Expr) (t : DA) : Prop := ∀ ρ Ξ Φ, t ρ Ξ Φ → WA X W ρ e Ξ Φ
def RI (X : Cx) (W : WX) (tg e : Expr) (t : DI) : Prop := ∀ ρ Ξ Φ, t ρ Ξ Φ → WI X W ρ tg e Ξ Φ
def RG (X : Cx) (e : Expr) (T : Nat → Prop) (t : DG) : Prop := ∀ d ρ Φ, t d ρ Φ → WG X ρ e d T Φ
def R1 (X : Cx) (W : WX) (s : Stmt) (t : DS) : Prop := ∀ ρ Ξ E, t ρ Ξ E → W1 X W ρ s Ξ E
def RS (X : Cx) (W : WX) (s : List Stmt) (t : DS) : Prop := ∀ ρ Ξ E, t ρ Ξ E → WS X W ρ s Ξ E

/-! ### names -/
def nmOk (sc : Scope) (x : Str) : Bool := (match sc.names.lookup x with
  | some .local => true
  | some .cell => true
  | some .free => true
  | _ => false) && (!(x == ("__debug__" : Str)) && !(x == ("__classdict__" : Str)))
theorem nmOk_inv {sc : Scope} {x : Str} (h : nmOk sc x = true) : Vis sc x ∧ (x == ("__debug__" : Str)) = false ∧ (x == ("__classdict__" : Str)) = false := by
  unfold nmOk at h
  rw [Bool.and_eq_true, Bool.and_eq_true] at h
  refine ⟨?_, by simpa using h.2.1, by simpa using h.2.2⟩
  have h1 := h.1
  split at h1
  · exact .inl (by assumption)
  · exact .inr (.inl (by assumption))
  · exact .inr (.inr (by assumption))
  · cases h1
def stOk (X : Cx) (x : Str) : Bool := match X.env.scope.names.lookup x with
  | some .local => true
  | some .cell => X.fn x
  | _ => false
theorem stOk_inv {X : Cx} {x : Str} (h : stOk X x = true) : Loc X.env.scope x ∧ (X.fn x = true ∨ X.env.scope.names.lookup x = some .local) := by
  unfold stOk at h
  split at h
  · exact ⟨.inl (by assumption), .inr (by assumption)⟩
  · exact ⟨.inr (by assumption), .inl h⟩
  · cases h
def bltOk (x : Str) : Bool := !(x == ("__name__" : Str)) && !(x == ("__debug__" : Str))
theorem bltOk_inv {x : Str} (h : bltOk x = true) : x ≠ "__name__" ∧ (x == ("__debug__" : Str)) = false := by
  unfold bltOk at h
  rw [Bool.and_eq_true] at h
  refine ⟨?_, by simpa using h.2⟩
  intro z
  subst z
  simp at h

def eNm (i : Nat) : DE := fun ρ _ Φ => atDat (nth ρ i) Φ
def eC (d : PyData) : DE := fun _ _ Φ => Φ d
section
variable {X : Cx} {W : WX} {a b c e : Expr} {es : List Expr} {ta tb tc te : DE} {pos p : Pos}
theorem re_nm (i : Nat) {x : Str} (hx : nmOk X.env.scope x = true := by kernel_rfl) (hN : X.N[i]? = some x := by kernel_rfl) : RE X W (.Name x pos) (eNm i) := fun ρ Ξ Φ h => by
  obtain ⟨d, e, hd⟩ := atDat_inv h
  obtain ⟨h1, h2, h3⟩ := nmOk_inv hx
  exact we_name i (by rw [← nth_eq]; exact e) hd hN h1 h2 h3
theorem re_int {i : Int} {j} : RE X W (.Constant (.int i) j pos) (eC (.int i)) := fun _ _ _ h => we_int h
theorem re_str {i : Str} {j} : RE X W (.Constant (.str i) j pos) (eC (.str i)) := fun _ _ _ h => we_str h
theorem re_bl {i : Bool} {j} : RE X W (.Constant (.bool i) j pos) (eC (.bool i)) := fun _ _ _ h => we_bl h
theorem re_non {j} : RE X W (.Constant .none j pos) (eC .none) := fun _ _ _ h => we_non h
theorem re_cst {x : Str} {d : PyData} (c : Cst X.K X.mg x d) (hg : X.env.kindOf x = some .globalImplicit := by kernel_rfl) (hb : bltOk x = true := by kernel_rfl) : RE X W (.Name x pos) (eC d) := fun _ _ _ h => we_cst c h hg (bltOk_inv hb).2
theorem re_pow10 (n : Nat) (v : Int) {i j} {p1 p2 : Pos} (hv : (10 : Int) ^ n = v := by kernel_rfl) (hn : n ≤ 1000 := by decide) : RE X W (.BinOp (.Constant (.int 10) i p1) .Pow (.Constant (.int n) j p2) pos) (eC (.int v)) := fun _ _ _ h =>
  we_op op_pow (we_int (we_int (wpow_int (by omega) (by omega) (by decide) (by rw [Int.toNat_natCast, hv]; exact h))))

/-! ### two-place operations -/
abbrev OP := PyData → PyData → (PyData → Prop) → Prop
def eOp (o : OP) (a b : DE) : DE := fun ρ Ξ Φ => a ρ Ξ fun x => b ρ Ξ fun y => o x y Φ
def OpIs (X : Cx) (r : R2) (o : OP) : Prop := ∀ x y Φ, o x y Φ → WOp X r x y Φ
theorem re_op {op : Operator} {r : R2} {o : OP} (ho : OpR X (binaryOp op) r) (q : OpIs X r o) (ha : RE X W a ta) (hb : RE X W b tb) : RE X W (.BinOp a op b pos) (eOp o ta tb) := fun ρ Ξ Φ h =>
  we_op ho ((ha _ _ _ h).mono fun x h => (hb _ _ _ h).mono fun y h => q x y Φ h)
def oAdd : OP := fun x y Φ => match x, y with
  | .int i, .int j => Φ (.int (i + j))
  | .str i, .str j => i.length + j.length ≤ 100000 ∧ Go (Φ (.str (i ++ j)))
  | .tuple ds, .tuple es => ds.length + es.length ≤ 100000 ∧ Go (Φ (.tuple (ds ++ es)))
  | .list ds, .list es => ds.length + es.length ≤ 100000 ∧ Go (Φ (.list (ds ++ es)))
  | _, _ => False
theorem is_oAdd : OpIs X (rAdd X.K) oAdd := fun x y Φ h => by
  unfold oAdd at h
  split at h
  · exact wadd_int h
  · exact wadd_str h.1 h.2
  · exact wadd_tup h.1 h.2
  · exact wadd_lst h.1 h.2
  · exact h.elim
theorem re_add (ha : RE X W a ta) (hb : RE X W b tb) : RE X W (.BinOp a .Add b pos) (eOp oAdd ta tb) := re_op op_addA is_oAdd ha hb
def oSub : OP := fun x y Φ => match x, y with
  | .int i, .int j => Φ (.int (i - j))
  | _, _ => False
theorem re_sub (ha : RE X W a ta) (hb : RE X W b tb) : RE X W (.BinOp a .Sub b pos) (eOp oSub ta tb) := re_op op_sub (fun x y Φ h => by
  unfold oSub at h
  split at h
  · exact wsub_int h
  · exact h.elim) ha hb
def oMul : OP := fun x y Φ => match x, y with
  | .int i, .int j => i.natAbs < BIG ∧ j.natAbs < BIG ∧ Go (Φ (.int (i * j)))
  | .list ds, .int k => (-(2 ^ 63) ≤ k ∧ k < 2 ^ 63 ∧ ds.length * k.toNat ≤ 100000) ∧ Go (Φ (.list (List.replicate k.toNat ds).flatten))
  | .tuple ds, .int k => (ds ≠ [] ∧ 2 ≤ k ∧ k ≤ 1000 ∧ ds.length ≤ 1000) ∧ Go (Φ (.tuple (List.replicate k.toNat ds).flatten))
  | _, _ => False
theorem re_mul (ha : RE X W a ta) (hb : RE X W b tb) : RE X W (.BinOp a .Mult b pos) (eOp oMul ta tb) := re_op op_mulA (fun x y Φ h => by
  unfold oMul at h
  split at h
  · exact wmul_int h.1 h.2.1 h.2.2
  · exact wmul_lst h.1.1 h.1.2.1 h.1.2.2 h.2
  · exact wmul_tup h.1.1 h.1.2.1 h.1.2.2.1 h.1.2.2.2 h.2
  · exact h.elim) ha hb
def oDiv : OP := fun x y Φ => match x, y with
  | .int i, .int j => 0 < j ∧ j.natAbs < BIG ∧ Go (Φ (.int (i / j)))
  | _, _ => False
theorem re_div (ha : RE X W a ta) (hb : RE X W b tb) : RE X W (.BinOp a .FloorDiv b pos) (eOp oDiv ta tb) := re_op op_fdivW (fun x y Φ h => by
  unfold oDiv at h
  split at h
  · exact wdiv_int h.1 h.2.1 h.2.2
  · exact h.elim) ha hb
def oMod : OP := fun x y Φ => match x, y with
  | .int i, .int j => 0 < j ∧ Go (Φ (.int (i % j)))
  | _, _ => False
theorem re_mod (ha : RE X W a ta) (hb : RE X W b tb) : RE X W (.BinOp a .Mod b pos) (eOp oMod ta tb) := re_op op_mod (fun x y Φ h => by
  unfold oMod at h
  split at h
  · exact wmod_int h.1 h.2
  · exact h.elim) ha hb

/-! ### comparisons: as values, as tests -/
theorem WOp.mono {r : R2} {x y : PyData} {Φ Ψ : PyData → Prop} (z : WOp X r x y Φ) (h : ∀ d, Φ d → Ψ d) : WOp X r x y Ψ := fun M F H vx vy s rx ry Q k => z M F H vx vy s rx ry Q fun v d F2 H2 hd st r => k v d F2 H2 (h d hd) st r
theorem re_cmp {op : CmpOp} {r : R2} {o : OP} (ho : OpR X (compareOp op) r) (hm : behindInMarks op b = false) (q : OpIs X r o) (ha : RE X W a ta) (hb : RE X W b tb) : RE X W (.Compare a [op] [b] pos) (eOp o ta tb) := fun ρ Ξ Φ h =>
  we_cmp ho hm ((ha _ _ _ h).mono fun x h => (hb _ _ _ h).mono fun y h => q x y Φ h)
def tV (t : DE) : DT := fun ρ Ξ Θ => t ρ Ξ fun d => isBl d Θ
theorem rt_cmp {op : CmpOp} {r : R2} {o : OP} (ho : OpR X (compareOp op) r) (hm : behindInMarks op b = false) (q : OpIs X r o) (ha : RE X W a ta) (hb : RE X W b tb) : RT X W (.Compare a [op] [b] pos) (tV (eOp o ta tb)) := fun ρ Ξ Φ h =>
  wt_cmp ho hm ((ha _ _ _ h).mono fun x h => (hb _ _ _ h).mono fun y h => WOp.mono (q x y _ h) fun _ hd => isBl_inv hd)
def oInt (g : Int → Int → Bool) : OP := fun x y Φ => match x, y with
  | .int i, .int j => Φ (.bool (g i j))
  | _, _ => False
theorem is_oInt {g : Int → Int → Bool} : OpIs X (rI0 fun i j => .bl (g i j)) (oInt g) := fun x y Φ h => by
  unfold oInt at h
  split at h
  · exact wop_B0 h
  · exact h.elim
abbrev oLt : OP := oInt fun i j => decide (i < j)
abbrev oLe : OP := oInt fun i j => decide (i ≤ j)
abbrev oGt : OP := oInt fun i j => decide (j < i)
abbrev oGe : OP := oInt fun i j => decide (j ≤ i)
theorem is_lt : OpIs X (rI0 fun i j => .bl (decide (i < j))) oLt := is_oInt
/-- == of data (neg: !=) -/
@[irreducible] def eqK (neg : Bool) (x y : PyData) (Φ : PyData → Prop) : Prop := (noDict x = true ∧ noDict y = true ∧ SeqAt.shaped x = true ∧ SeqAt.shaped y = true) ∧ Φ (.bool (if neg then !PyData.eqv x y else PyData.eqv x y))
theorem eqK_inv {neg : Bool} {x y : PyData} {Φ : PyData → Prop} (h : eqK neg x y Φ) : (noDict x = true ∧ noDict y = true ∧ SeqAt.shaped x = true ∧ SeqAt.shaped y = true) ∧ Φ (.bool (if neg then !PyData.eqv x y else PyData.eqv x y)) := by
  unfold eqK at h; exact h
theorem eqK_mk {neg : Bool} {x y : PyData} {Φ : PyData → Prop} (h : (noDict x = true ∧ noDict y = true ∧ SeqAt.shaped x = true ∧ SeqAt.shaped y = true)) (k : Φ (.bool (if neg then !PyData.eqv x y else PyData.eqv x y))) : eqK neg x y Φ := by
  unfold eqK; exact ⟨h, k⟩
def oEq : OP := fun x y Φ => match x, y with
  | .int i, .int j => Φ (.bool (decide (i = j)))
  | .str i, .str j => Φ (.bool (decide (i = j)))
  | .bool i, .bool j => Φ (.bool (decide (i = j)))
  | x, y => eqK false x y Φ
def oNe : OP := fun x y Φ => match x, y with
  | .int i, .int j => Φ (.bool (decide (i ≠ j)))
  | .str i, .str j => Φ (.bool (decide (i ≠ j)))
  | .bool i, .bool j => Φ (.bool (decide (i ≠ j)))
  | x, y => eqK true x y Φ
theorem is_oEq : OpIs X (rEqA X.K) oEq := fun x y Φ h => by
  unfold oEq at h
  split at h
  · exact weq_int h
  · exact weq_str h
  · exact weq_bl h
  · obtain ⟨⟨h1, h2, h3, h4⟩, h⟩ := eqK_inv h
    exact weq_dat h1 h2 h3 h4 h
theorem is_oNe : OpIs X (rNeA X.K) oNe := fun x y Φ h => by
  unfold oNe at h
  split at h
  · exact wne_int h
  · exact wne_str h
  · exact wne_bl h
  · obtain ⟨⟨h1, h2, h3, h4⟩, h⟩ := eqK_inv h
    exact wne_dat h1 h2 h3 h4 h
def oIn (neg : Bool) : OP := fun x y Φ => match y with
  | .list ds => (flatD x = true ∧ ds.all flatD = true) ∧ Go (Φ (.bool (if neg then !inD x ds else inD x ds)))
  | .tuple ds => (flatD x = true ∧ ds.all flatD = true) ∧ Go (Φ (.bool (if neg then !inD x ds else inD x ds)))
  | _ => False
theorem is_oIn {neg : Bool} : OpIs X (rIn X.K neg) (oIn neg) := fun x y Φ h => by
  unfold oIn at h
  split at h
  · exact win_lst h.1.1 h.1.2 h.2
  · exact win_tup h.1.1 h.1.2 h.2
  · exact h.elim
theorem re_lt (ha : RE X W a ta) (hb : RE X W b tb) : RE X W (.Compare a [.Lt] [b] pos) (eOp oLt ta tb) := re_cmp op_lt (nomark _) is_oInt ha hb
theorem re_le (ha : RE X W a ta) (hb : RE X W b tb) : RE X W (.Compare a [.LtE] [b] pos) (eOp oLe ta tb) := re_cmp op_le (nomark _) is_oInt ha hb
theorem re_gt (ha : RE X W a ta) (hb : RE X W b tb) : RE X W (.Compare a [.Gt] [b] pos) (eOp oGt ta tb) := re_cmp op_gt (nomark _) is_oInt ha hb
theorem re_ge (ha : RE X W a ta) (hb : RE X W b tb) : RE X W (.Compare a [.GtE] [b] pos) (eOp oGe ta tb) := re_cmp op_ge (nomark _) is_oInt ha hb
theorem re_eq (C : Cxt X W) (ha : RE X W a ta) (hb : RE X W b tb) : RE X W (.Compare a [.Eq] [b] pos) (eOp oEq ta tb) := re_cmp (op_eqA C.hu) (nomark _) is_oEq ha hb
theorem re_ne (C : Cxt X W) (ha : RE X W a ta) (hb : RE X W b tb) : RE X W (.Compare a [.NotEq] [b] pos) (eOp oNe ta tb) := re_cmp (op_neA C.hu) (nomark _) is_oNe ha hb
theorem re_in (ha : RE X W a ta) (hb : RE X W b tb) (hm : behindInMarks .In b = false := by rfl) : RE X W (.Compare a [.In] [b] pos) (eOp (oIn false) ta tb) := re_cmp op_in_seq hm is_oIn ha hb
theorem re_nin (ha : RE X W a ta) (hb : RE X W b tb) (hm : behindInMarks .NotIn b = false := by rfl) : RE X W (.Compare a [.NotIn] [b] pos) (eOp (oIn true) ta tb) := re_cmp op_notIn_seq hm is_oIn ha hb
theorem rt_lt (ha : RE X W a ta) (hb : RE X W b tb) : RT X W (.Compare a [.Lt] [b] pos) (tV (eOp oLt ta tb)) := rt_cmp op_lt (nomark _) is_oInt ha hb
theorem rt_le (ha : RE X W a ta) (hb : RE X W b tb) : RT X W (.Compare a [.LtE] [b] pos) (tV (eOp oLe ta tb)) := rt_cmp op_le (nomark _) is_oInt ha hb
theorem rt_gt (ha : RE X W a ta) (hb : RE X W b tb) : RT X W (.Compare a [.Gt] [b] pos) (tV (eOp oGt ta tb)) := rt_cmp op_gt (nomark _) is_oInt ha hb
theorem rt_ge (ha : RE X W a ta) (hb : RE X W b tb) : RT X W (.Compare a [.GtE] [b] pos) (tV (eOp oGe ta tb)) := rt_cmp op_ge (nomark _) is_oInt ha hb
theorem rt_eq (C : Cxt X W) (ha : RE X W a ta) (hb : RE X W b tb) : RT X W (.Compare a [.Eq] [b] pos) (tV (eOp oEq ta tb)) := rt_cmp (op_eqA C.hu) (nomark _) is_oEq ha hb
theorem rt_ne (C : Cxt X W) (ha : RE X W a ta) (hb : RE X W b tb) : RT X W (.Compare a [.NotEq] [b] pos) (tV (eOp oNe ta tb)) := rt_cmp (op_neA C.hu) (nomark _) is_oNe ha hb
theorem rt_in (ha : RE X W a ta) (hb : RE X W b tb) (hm : behindInMarks .In b = false := by rfl) : RT X W (.Compare a [.In] [b] pos) (tV (eOp (oIn false) ta tb)) := rt_cmp op_in_seq hm is_oIn ha hb
theorem rt_nin (ha : RE X W a ta) (hb : RE X W b tb) (hm : behindInMarks .NotIn b = false := by rfl) : RT X W (.Compare a [.NotIn] [b] pos) (tV (eOp (oIn true) ta tb)) := rt_cmp op_notIn_seq hm is_oIn ha hb
/-- a op b op' c -/
def eChain (o o' : OP) (a b c : DE) : DE := fun ρ Ξ Φ => a ρ Ξ fun x => b ρ Ξ fun y => o x y fun d => isBl d fun k => brk k (Go (c ρ Ξ fun z => o' y z Φ)) (Go (Φ (.bool false)))
theorem re_chain {op op' : CmpOp} {r r' : R2} {o o' : OP} (ho : OpR X (compareOp op) r) (ho' : OpR X (compareOp op') r') (q : OpIs X r o) (q' : OpIs X r' o') (ha : RE X W a ta) (hb : RE X W b tb) (hc : RE X W c tc) (hm : lastMarks [op, op'] [b, c] = false := by rfl) : RE X W (.Compare a [op, op'] [b, c] pos) (eChain o o' ta tb tc) := fun ρ Ξ Φ h =>
  we_chain ho ho' hm ((ha _ _ _ h).mono fun x h => (hb _ _ _ h).mono fun y h M F H vx vy s rx ry Q k => q x y _ h M F H vx vy s rx ry Q fun v d F2 H2 hd st r => k v d F2 H2 (by
    obtain ⟨b, e, h1⟩ := isBl_inv hd
    exact ⟨b, e, fun e => (hc _ _ _ (h1.t e)).mono fun z h => q' y z Φ h, h1.f⟩) st r)
theorem rt_chain {op op' : CmpOp} {r r' : R2} {o o' : OP} (ho : OpR X (compareOp op) r) (ho' : OpR X (compareOp op') r') (q : OpIs X r o) (q' : OpIs X r' o') (ha : RE X W a ta) (hb : RE X W b tb) (hc : RE X W c tc) (hm : lastMarks [op, op'] [b, c] = false := by rfl) : RT X W (.Compare a [op, op'] [b, c] pos) (tV (eChain o o' ta tb tc)) := fun ρ Ξ Φ h =>
  wt_chain ho ho' hm ((ha _ _ _ h).mono fun x h => (hb _ _ _ h).mono fun y h M F H vx vy s rx ry Q k => q x y _ h M F H vx vy s rx ry Q fun v d F2 H2 hd st r => k v d F2 H2 (by
    obtain ⟨b, e, h1⟩ := isBl_inv hd
    exact ⟨b, e, fun e => (hc _ _ _ (h1.t e)).mono fun z h M F H vx vy s rx ry Q k => q' y z _ h M F H vx vy s rx ry Q fun v d F2 H2 hd st r => k v d F2 H2 (isBl_inv hd) st r, fun e => h1.f e⟩) st r)
def eIsN (n : Bool) (a : DE) : DE := fun ρ Ξ Φ => a ρ Ξ fun d => Φ (.bool (if n then !isNone d else isNone d))
theorem re_isN {j p2} (h : RE X W a ta) : RE X W (.Compare a [.Is] [.Constant .none j p2] pos) (eIsN false ta) := fun _ _ _ k => we_isN (h _ _ _ k)
theorem re_notN {j p2} (h : RE X W a ta) : RE X W (.Compare a [.IsNot] [.Constant .none j p2] pos) (eIsN true ta) := fun _ _ _ k => we_notN (h _ _ _ k)
theorem rt_isN {j p2} (h : RE X W a ta) : RT X W (.Compare a [.Is] [.Constant .none j p2] pos) (tV (eIsN false ta)) := fun _ _ _ k => wt_isN (h _ _ _ k)
theorem rt_notN {j p2} (h : RE X W a ta) : RT X W (.Compare a [.IsNot] [.Constant .none j p2] pos) (tV (eIsN true ta)) := fun _ _ _ k => wt_notN (h _ _ _ k)

/-! ### tests -/
theorem rt_val (h : RE X W e te) (he : ∀ whole, isTrue e X.env whole = (do let v ← whole; standAt e.pos; holding [v] (truthy v)) := by intro _; rfl) : RT X W e (tV te) := fun _ _ _ k => wt_val ((h _ _ _ k).mono fun _ z => isBl_inv z) he
def tNot (t : DT) : DT := fun ρ Ξ Θ => t ρ Ξ fun b => Θ (!b)
def tAnd (s t : DT) : DT := fun ρ Ξ Θ => s ρ Ξ fun k => brk k (Go (t ρ Ξ Θ)) (Go (Θ false))
def tOr (s t : DT) : DT := fun ρ Ξ Θ => s ρ Ξ fun k => brk k (Go (Θ true)) (Go (t ρ Ξ Θ))
variable {s t : DT} {rest : List Expr}
theorem rt_not (h : RT X W a t) : RT X W (.UnaryOp .Not a pos) (tNot t) := fun _ _ _ k => wt_not (h _ _ _ k)
theorem rt_w (h : RW X W a t) : RT X W a t := fun _ _ _ k => wt_w (h _ _ _ k)
theorem rw_and1 (h : RT X W a t) : RW X W (.BoolOp .And [a] pos) t := fun _ _ _ k => ww_and1 (h _ _ _ k)
theorem rw_or1 (h : RT X W a t) : RW X W (.BoolOp .Or [a] pos) t := fun _ _ _ k => ww_or1 (h _ _ _ k)
theorem rw_and (h : RT X W a s) (r : RW X W (.BoolOp .And (b :: rest) pos) t) : RW X W (.BoolOp .And (a :: b :: rest) pos) (tAnd s t) := fun _ _ _ k => ww_and ((h _ _ _ k).mono fun _ z => ⟨fun e => r _ _ _ (z.t e), fun e => z.f e⟩)
theorem rw_or (h : RT X W a s) (r : RW X W (.BoolOp .Or (b :: rest) pos) t) : RW X W (.BoolOp .Or (a :: b :: rest) pos) (tOr s t) := fun _ _ _ k => ww_or ((h _ _ _ k).mono fun _ z => ⟨fun e => r _ _ _ (z.f e), fun e => z.t e⟩)
/-- as values: all but the last are bools -/
def eAnd (a b : DE) : DE := fun ρ Ξ Φ => a ρ Ξ fun d => isBl d fun k => brk k (Go (b ρ Ξ Φ)) (Go (Φ (.bool false)))
def eOr (a b : DE) : DE := fun ρ Ξ Φ => a ρ Ξ fun d => isBl d fun k => brk k (Go (Φ (.bool true))) (Go (b ρ Ξ Φ))
def eNot (a : DE) : DE := fun ρ Ξ Φ => a ρ Ξ fun d => isBl d fun k => Φ (.bool (!k))
theorem re_bool1 {op : BoolOp} (h : RE X W a ta) : RE X W (.BoolOp op [a] pos) ta := fun _ _ _ k => we_bool1 (h _ _ _ k)
theorem re_and (h : RE X W a ta) (r : RE X W (.BoolOp .And (b :: rest) pos) tb) : RE X W (.BoolOp .And (a :: b :: rest) pos) (eAnd ta tb) := fun _ _ _ k => we_and ((h _ _ _ k).mono fun _ z => by
  obtain ⟨b, e, z⟩ := isBl_inv z
  exact ⟨b, e, fun e => r _ _ _ (z.t e), fun e => z.f e⟩)
theorem re_or (h : RE X W a ta) (r : RE X W (.BoolOp .Or (b :: rest) pos) tb) : RE X W (.BoolOp .Or (a :: b :: rest) pos) (eOr ta tb) := fun _ _ _ k => we_or ((h _ _ _ k).mono fun _ z => by
  obtain ⟨b, e, z⟩ := isBl_inv z
  exact ⟨b, e, fun e => r _ _ _ (z.f e), fun e => z.t e⟩)
theorem re_not (h : RE X W a ta) : RE X W (.UnaryOp .Not a pos) (eNot ta) := fun _ _ _ k => we_not ((h _ _ _ k).mono fun _ z => by
  obtain ⟨b, e, z⟩ := isBl_inv z
  exact ⟨b, e, z⟩)
def eIf (c : DT) (a b : DE) : DE := fun ρ Ξ Φ => c ρ Ξ fun k => brk k (Go (a ρ Ξ Φ)) (Go (b ρ Ξ Φ))
theorem re_if (h : RT X W c t) (ha : RE X W a ta) (hb : RE X W b tb) : RE X W (.IfExp c a b pos) (eIf t ta tb) := fun _ _ _ k => we_if ((h _ _ _ k).mono fun _ z => ⟨fun e => ha _ _ _ (z.t e), fun e => hb _ _ _ (z.f e)⟩)

/-! ### argument lists, displays -/
def aNil : DA := fun _ _ Φ => Φ []
def aCons (t : DE) (r : DA) : DA := fun ρ Ξ Φ => t ρ Ξ fun d => r ρ Ξ fun as => Φ (.dat d :: as)
def aDrw (i : Nat) (r : DA) : DA := fun ρ Ξ Φ => match nth ρ i with
  | some .drw => r ρ Ξ fun as => Φ (.drw :: as)
  | _ => False
def aScr (i : Nat) (r : DA) : DA := fun ρ Ξ Φ => match nth ρ i with
  | some (.scr ns) => r ρ Ξ fun as => Φ (.scr ns :: as)
  | _ => False
def isStar : Expr → Bool
  | .Starred .. => true
  | _ => false
theorem star_cons {env : Env} (h : isStar e = false) : starEach (e :: es) env = (false, eval e env) :: starEach es env := by
  cases e <;> first | rfl | cases h
variable {ra : DA}
theorem WA.mono {ρ : List Sl} {Ξ : Exn → Prop} {Φ Ψ : List Ag → Prop} (h : WA X W ρ es Ξ Φ) (k : ∀ d, Φ d → Ψ d) : WA X W ρ es Ξ Ψ := fun B F H σ env Q q qx =>
  h B F H σ env Q (fun v d F2 H2 hd st r => q v d F2 H2 (k d hd) st r) qx
theorem ra_nil : RA X W [] aNil := fun _ _ _ h => wa_nil h
theorem ra_cons (h : RE X W e te) (r : RA X W es ra) (hs : isStar e = false := by rfl) : RA X W (e :: es) (aCons te ra) := fun _ _ _ k => wa_cons ((h _ _ _ k).mono fun _ z => r _ _ _ z) (star_cons hs)
theorem ra_drw (i : Nat) {x : Str} (r : RA X W es ra) (hx : nmOk X.env.scope x = true := by kernel_rfl) (hN : X.N[i]? = some x := by kernel_rfl) : RA X W (.Name x pos :: es) (aDrw i ra) := fun ρ Ξ Φ h => by
  unfold aDrw at h
  split at h
  · obtain ⟨h1, h2, h3⟩ := nmOk_inv hx
    exact wa_drw i (by rw [← nth_eq]; assumption) (r _ _ _ h) hN h1 h2 h3 (star_cons rfl)
  · exact h.elim
theorem ra_scr (i : Nat) {x : Str} (r : RA X W es ra) (hx : nmOk X.env.scope x = true := by kernel_rfl) (hN : X.N[i]? = some x := by kernel_rfl) : RA X W (.Name x pos :: es) (aScr i ra) := fun ρ Ξ Φ h => by
  unfold aScr at h
  split at h
  · obtain ⟨h1, h2, h3⟩ := nmOk_inv hx
    exact wa_scr i (by rw [← nth_eq]; assumption) (r _ _ _ h) hN h1 h2 h3 (star_cons rfl)
  · exact h.elim
/-- all of them data -/
def allD : List Ag → Option (List PyData)
  | [] => some []
  | .dat d :: as => match allD as with
    | some ds => some (d :: ds)
    | none => none
  | _ :: _ => none
theorem allD_inv : ∀ {as : List Ag} {ds : List PyData}, allD as = some ds → as = ds.map Ag.dat
  | [], ds, h => by cases h; rfl
  | .dat d :: as, ds, h => by
    unfold allD at h
    cases e : allD as with
    | none => rw [e] at h; cases h
    | some es => rw [e] at h; cases h; rw [allD_inv e]; rfl
  | .drw :: _, _, h => by cases h
  | .scr _ :: _, _, h => by cases h
def fewD (as : List Ag) : Option (List PyData) := match allD as with
  | some ds => match Nat.ble ds.length 1000 with
    | true => some ds
    | false => none
  | none => none
theorem fewD_inv {as : List Ag} {ds : List PyData} (h : fewD as = some ds) : as = ds.map Ag.dat ∧ ds.length ≤ 1000 := by
  unfold fewD at h
  split at h
  · rename_i es e
    split at h
    · rename_i l
      cases h
      exact ⟨allD_inv e, Nat.le_of_ble_eq_true l⟩
    · cases h
  · cases h
def eTup (r : DA) : DE := fun ρ Ξ Φ => r ρ Ξ fun as => someK (fewD as) fun ds => Φ (.tuple ds)
def eLst (r : DA) : DE := fun ρ Ξ Φ => r ρ Ξ fun as => someK (fewD as) fun ds => Φ (.list ds)
def kLst (r : DA) : DK := fun ρ Ξ Φ => r ρ Ξ fun as => someK (fewD as) fun ds => Φ (.own ds)
theorem few_dats {as : List Ag} {Φ : List PyData → Prop} (h : someK (fewD as) Φ) : dats as fun ds => ds.length ≤ 100000 ∧ Φ ds := by
  obtain ⟨ds, e, h⟩ := someK_inv h
  obtain ⟨e1, e2⟩ := fewD_inv e
  exact ⟨ds, e1, by omega, h⟩
theorem all_dats {as : List Ag} {Φ : List PyData → Prop} (h : someK (allD as) Φ) : dats as Φ := by
  obtain ⟨ds, e, h⟩ := someK_inv h
  exact ⟨ds, allD_inv e, h⟩
theorem re_tup {k1} (h : RA X W es ra) : RE X W (.Tuple es k1 pos) (eTup ra) := fun _ _ _ k => we_tup ((h _ _ _ k).mono fun _ z => few_dats z)
theorem re_lst (h : RA X W es ra) : RE X W (.List es pos) (eLst ra) := fun _ _ _ k => we_lst ((h _ _ _ k).mono fun _ z => few_dats z)
theorem rk_lst (h : RA X W es ra) : RK X W (.List es pos) (kLst ra) := fun _ _ _ k => wk_lst ((h _ _ _ k).mono fun _ z => few_dats z)

/-! ### subscripts, slices -/
def oIx : OP := fun x y Φ => match x, y with
  | .list ds, .int i => someK (atI ds i) Φ
  | .tuple ds, .int i => someK (atI ds i) Φ
  | _, _ => False
theorem re_ix (ha : RE X W a ta) (hb : RE X W b tb) (hs : PlainIx b := by exact fun _ _ => rfl) : RE X W (.Subscript a b pos) (eOp oIx ta tb) := fun ρ Ξ Φ h =>
  we_ix ix_3 ((ha _ _ _ h).mono fun x h => (hb _ _ _ h).mono fun y h => by
    unfold oIx at h
    split at h
    · obtain ⟨d, e, h⟩ := someK_inv h
      exact wix_lst e h
    · obtain ⟨d, e, h⟩ := someK_inv h
      exact wix_tup e h
    · exact h.elim) hs
def asI (d : PyData) (Φ : Int → Prop) : Prop := match d with
  | .int i => Φ i
  | _ => False
theorem asI_inv {d : PyData} {Θ : Int → Prop} (h : asI d Θ) : ∃ b, d = .int b ∧ Θ b := by
  unfold asI at h
  split at h
  · exact ⟨_, rfl, h⟩
  · exact h.elim
def oPart (o : Option DE) (ρ : List Sl) (Ξ : Exn → Prop) (Θ : Option Int → Prop) : Prop := match o with
  | none => Θ none
  | some t => t ρ Ξ fun d => asI d fun i => Θ (some i)
def eSl (a : DE) (lo hi : Option DE) : DE := fun ρ Ξ Φ => a ρ Ξ fun x => oPart lo ρ Ξ fun lo => oPart hi ρ Ξ fun hi => sliceD x lo hi Φ
def RO (X : Cx) (W : WX) : Option Expr → Option DE → Prop
  | none, none => True
  | some e, some t => RE X W e t
  | _, _ => False
theorem ro_none : RO X W none none := trivial
theorem ro_some (h : RE X W e te) : RO X W (some e) (some te) := h
theorem ro_run {o : Option Expr} {t : Option DE} {ρ : List Sl} {Ξ : Exn → Prop} {Θ : Option Int → Prop} (r : RO X W o t) (h : oPart t ρ Ξ Θ) : WO X W ρ o Ξ Θ := by
  cases o <;> cases t
  · exact h
  · exact r.elim
  · exact r.elim
  · exact ((show RE X W _ _ from r) _ _ _ h).mono fun _ z => asI_inv z
theorem WO.mono {o : Option Expr} {ρ : List Sl} {Ξ : Exn → Prop} {Θ Θ' : Option Int → Prop} (h : WO X W ρ o Ξ Θ) (k : ∀ z, Θ z → Θ' z) : WO X W ρ o Ξ Θ' := by
  cases o with
  | none => exact k _ h
  | some e => exact WE.mono h fun _ ⟨i, q, z⟩ => ⟨i, q, k _ z⟩
theorem re_slice {lo hi : Option Expr} {tl th : Option DE} {p2 : Pos} (ha : RE X W a ta) (hl : RO X W lo tl) (hh : RO X W hi th) : RE X W (.Subscript a (.Slice lo hi none p2) pos) (eSl ta tl th) := fun ρ Ξ Φ h =>
  we_slice ((ha ρ Ξ _ h).mono fun _ h => (ro_run hl h).mono fun _ h => ro_run hh h)

/-! ### kinds -/
def eK (t : DK) : DE := fun ρ Ξ Φ => t ρ Ξ (asDat Φ)
def kE (t : DE) : DK := fun ρ Ξ Φ => t ρ Ξ fun d => Φ (.dat d)
variable {tk uk : DK}
theorem re_k (h : RK X W e tk) : RE X W e (eK tk) := fun _ _ _ k => we_of_wk (h _ _ _ k)
theorem rk_e (h : RE X W e te) : RK X W e (kE te) := fun _ _ _ k => wk_of_we (h _ _ _ k)
def kIf (c : DT) (a b : DK) : DK := fun ρ Ξ Φ => c ρ Ξ fun k => brk k (Go (a ρ Ξ Φ)) (Go (b ρ Ξ Φ))
theorem rk_if (h : RT X W c t) (ha : RK X W a tk) (hb : RK X W b uk) : RK X W (.IfExp c a b pos) (kIf t tk uk) := fun _ _ _ k => wk_if ((h _ _ _ k).mono fun _ z => ⟨fun e => ha _ _ _ (z.t e), fun e => hb _ _ _ (z.f e)⟩)
def kDict0 : DK := fun _ _ Φ => Φ (.odk [])
theorem rk_dict0 {p2} : RK X W (.Dict [] [] p2) kDict0 := fun _ _ _ h => wk_dict0 h
def kListOf (t : DE) : DK := fun ρ Ξ Φ => t ρ Ξ fun d => someK (itemsD d) fun ds => Φ (.own ds)
theorem rk_listOf (hm : X.mg "list" = none) (h : RE X W e te) (hg : X.env.kindOf "list" = some .globalImplicit := by kernel_rfl) (hs : isStar e = false := by rfl) : RK X W (.Call (.Name "list" p) [e] [] pos) (kListOf te) := fun _ _ _ k =>
  wk_listOf hm ((h _ _ _ k).mono fun _ z => someK_inv z) hg (star_cons hs) rfl
def kCat (s t : DE) : DK := fun ρ Ξ Φ => s ρ Ξ fun x => t ρ Ξ fun y => match x, y with
  | .list ds, .list es => ds.length + es.length ≤ 100000 ∧ Go (Φ (.own (ds ++ es)))
  | _, _ => False
theorem rk_cat (ha : RE X W a ta) (hb : RE X W b tb) : RK X W (.BinOp a .Add b pos) (kCat ta tb) := fun _ _ _ h => wk_cat ((ha _ _ _ h).mono fun x h => (hb _ _ _ h).mono fun y h => by
  split at h
  · exact ⟨_, _, rfl, rfl, h.1, h.2⟩
  · exact h.elim)
def kRep (s t : DE) : DK := fun ρ Ξ Φ => s ρ Ξ fun x => t ρ Ξ fun y => match x, y with
  | .list ds, .int k => (-(2 ^ 63) ≤ k ∧ k < 2 ^ 63 ∧ ds.length * k.toNat ≤ 100000) ∧ Go (Φ (.own (List.replicate k.toNat ds).flatten))
  | _, _ => False
theorem rk_rep (ha : RE X W a ta) (hb : RE X W b tb) : RK X W (.BinOp a .Mult b pos) (kRep ta tb) := fun _ _ _ h => wk_rep ((ha _ _ _ h).mono fun x h => (hb _ _ _ h).mono fun y h => by
  split at h
  · exact ⟨_, _, rfl, rfl, h.1.1, h.1.2.1, h.1.2.2, h.2⟩
  · exact h.elim)

/-! ### calls -/
theorem noStar_any : ∀ {l : List (Bool × Sem Value)} {n : Nat}, (l.map (·.1)) = List.replicate n false → l.any (·.1) = false
  | [], _, _ => rfl
  | (b, _) :: r, 0, h => by simp at h
  | (b, _) :: r, n + 1, h => by
    rw [List.replicate_succ, List.map_cons] at h
    injection h with h1 h2
    rw [List.any_cons, noStar_any h2]
    simpa using h1
def eB (o : List PyData → (PyData → Prop) → Prop) (r : DA) : DE := fun ρ Ξ Φ => r ρ Ξ fun as => someK (allD as) fun ds => o ds Φ
def CallIs (X : Cx) (r : List V → Hp → VK → Prop) (o : List PyData → (PyData → Prop) → Prop) : Prop := ∀ ds Φ, o ds Φ → WCall X r ds Φ
theorem re_callB {x : Str} {id : String} {r : List V → Hp → VK → Prop} {o : List PyData → (PyData → Prop) → Prop} (hc : CallR X (.builtin id) r) (q : CallIs X r o) (hm : X.mg x = none) (hv : bootBuiltins x = some (.builtin id)) (h : RA X W (e :: es) ra) (hg : X.env.kindOf x = some .globalImplicit := by kernel_rfl) (hb : bltOk x = true := by kernel_rfl)
    (hs : isStar e = false := by rfl) (hpl : (backTo pos (starEach es X.env)).any (·.1) = false := by rfl) : RE X W (.Call (.Name x p) (e :: es) [] pos) (eB o ra) := fun _ _ _ k =>
  we_callB hc hm hv ((h _ _ _ k).mono fun as z => by
    obtain ⟨ds, e1, z⟩ := someK_inv z
    exact ⟨ds, allD_inv e1, q ds _ z⟩) hg (bltOk_inv hb).1 (bltOk_inv hb).2 (star_cons hs) hpl
theorem re_callTy {x : Str} {T : String} {r : List V → Hp → VK → Prop} {o : List PyData → (PyData → Prop) → Prop} (hc : CallR X (.type T) r) (q : CallIs X r o) (hm : X.mg x = none) (hv : bootBuiltins x = some (.type T)) (h : RA X W (e :: es) ra) (hg : X.env.kindOf x = some .globalImplicit := by kernel_rfl) (hb : bltOk x = true := by kernel_rfl)
    (hs : isStar e = false := by rfl) (hpl : (backTo pos (starEach es X.env)).any (·.1) = false := by rfl) : RE X W (.Call (.Name x p) (e :: es) [] pos) (eB o ra) := fun _ _ _ k =>
  we_callTy hc hm hv ((h _ _ _ k).mono fun as z => by
    obtain ⟨ds, e1, z⟩ := someK_inv z
    exact ⟨ds, allD_inv e1, q ds _ z⟩) hg (bltOk_inv hb).1 (bltOk_inv hb).2 (star_cons hs) hpl
abbrev OB := List PyData → (PyData → Prop) → Prop
def bLen : OB := fun ds Φ => match ds with
  | [.list xs] => Φ (.int xs.length)
  | [.tuple xs] => Φ (.int xs.length)
  | [.str z] => z.length ≤ 100000 ∧ Go (Φ (.int z.length))
  | _ => False
theorem re_len (hm : X.mg "len" = none) (h : RA X W [e] ra) (hg : X.env.kindOf "len" = some .globalImplicit := by kernel_rfl) (hs : isStar e = false := by rfl) : RE X W (.Call (.Name "len" p) [e] [] pos) (eB bLen ra) := re_callB call_lenA (fun ds Φ h => by
  unfold bLen at h
  split at h
  · exact wlen rfl h
  · exact wlen rfl h
  · exact wlen (by show (if _ then _ else _) = _; rw [if_pos h.1]) h.2
  · exact h.elim) hm bb_len h hg (by decide +kernel) hs rfl
def bAbs : OB := fun ds Φ => match ds with
  | [.int i] => Φ (.int (if i < 0 then -i else i))
  | _ => False
theorem re_abs (hm : X.mg "abs" = none) (h : RA X W [e] ra) (hg : X.env.kindOf "abs" = some .globalImplicit := by kernel_rfl) (hs : isStar e = false := by rfl) : RE X W (.Call (.Name "abs" p) [e] [] pos) (eB bAbs ra) := re_callB call_absA (fun ds Φ h => by
  unfold bAbs at h
  split at h
  · exact wabs h
  · exact h.elim) hm bb_abs h hg (by decide +kernel) hs rfl
/-- the ints of data -/
def intsD : List PyData → Option (List Int)
  | [] => some []
  | .int i :: ds => match intsD ds with
    | some ns => some (i :: ns)
    | none => none
  | _ :: _ => none
theorem intsD_inv : ∀ {ds : List PyData} {ns : List Int}, intsD ds = some ns → ds = ns.map PyData.int
  | [], ns, h => by cases h; rfl
  | .int d :: as, ds, h => by
    unfold intsD at h
    cases e : intsD as with
    | none => rw [e] at h; cases h
    | some es => rw [e] at h; cases h; rw [intsD_inv e]; rfl
  | .none :: _, _, h => by cases h
  | .bool _ :: _, _, h => by cases h
  | .str _ :: _, _, h => by cases h
  | .list _ :: _, _, h => by cases h
  | .tuple _ :: _, _, h => by cases h
  | .dict _ :: _, _, h => by cases h
theorem intsD_map : ∀ ns : List Int, intsD (ns.map PyData.int) = some ns
  | [] => rfl
  | n :: ns => by rw [List.map_cons, intsD, intsD_map ns]
theorem intsD_mapN : ∀ ns : List Nat, intsD (ns.map fun n : Nat => PyData.int (n : Int)) = some (ns.map fun n : Nat => (n : Int))
  | [] => rfl
  | n :: ns => by rw [List.map_cons, intsD, intsD_mapN ns]; rfl
def bMax : OB := fun ds Φ => match ds with
  | [.int i, .int j] => Φ (.int (if j > i then j else i))
  | [.list xs] => someK (intsD xs) fun ns => ns ≠ [] ∧ ∀ m, m ∈ ns → (∀ y, y ∈ ns → y ≤ m) → Go (Φ (.int m))
  | _ => False
theorem re_max (hc : X.calm = true) (hm : X.mg "max" = none) (h : RA X W (e :: es) ra) (hg : X.env.kindOf "max" = some .globalImplicit := by kernel_rfl) (hs : isStar e = false := by rfl) (hpl : (backTo pos (starEach es X.env)).any (·.1) = false := by rfl) : RE X W (.Call (.Name "max" p) (e :: es) [] pos) (eB bMax ra) := re_callB (call_max3 hc) (fun ds Φ h => by
  unfold bMax at h
  split at h
  · exact wmax2 h
  · obtain ⟨ns, e, h1, h2⟩ := someK_inv h
    rw [intsD_inv e]
    exact wmax h1 h2
  · exact h.elim) hm bb_max h hg (by decide +kernel) hs hpl
def bMin : OB := fun ds Φ => match ds with
  | [.int i, .int j] => Φ (.int (if j < i then j else i))
  | [.list xs] => someK (intsD xs) fun ns => ns ≠ [] ∧ ∀ m, m ∈ ns → (∀ y, y ∈ ns → m ≤ y) → Go (Φ (.int m))
  | _ => False
theorem re_min (hc : X.calm = true) (hm : X.mg "min" = none) (h : RA X W (e :: es) ra) (hg : X.env.kindOf "min" = some .globalImplicit := by kernel_rfl) (hs : isStar e = false := by rfl) (hpl : (backTo pos (starEach es X.env)).any (·.1) = false := by rfl) : RE X W (.Call (.Name "min" p) (e :: es) [] pos) (eB bMin ra) := re_callB (call_min3 hc) (fun ds Φ h => by
  unfold bMin at h
  split at h
  · exact wmin2 h
  · obtain ⟨ns, e, h1, h2⟩ := someK_inv h
    rw [intsD_inv e]
    exact wmin h1 h2
  · exact h.elim) hm bb_min h hg (by decide +kernel) hs hpl
def bSum : OB := fun ds Φ => match ds with
  | [.list xs] => someK (intsD xs) fun ns => Φ (.int ns.sum)
  | _ => False
theorem re_sum (hc : X.calm = true) (hm : X.mg "sum" = none) (h : RA X W [e] ra) (hg : X.env.kindOf "sum" = some .globalImplicit := by kernel_rfl) (hs : isStar e = false := by rfl) : RE X W (.Call (.Name "sum" p) [e] [] pos) (eB bSum ra) := re_callB (cr_sum hc) (fun ds Φ h => by
  unfold bSum at h
  split at h
  · obtain ⟨ns, e, h1⟩ := someK_inv h
    rw [intsD_inv e]
    exact wsum h1
  · exact h.elim) hm bb_sum h hg (by decide +kernel) hs rfl
def blsD : List PyData → Option (List Bool)
  | [] => some []
  | .bool i :: ds => match blsD ds with
    | some ns => some (i :: ns)
    | none => none
  | _ :: _ => none
theorem blsD_inv : ∀ {ds : List PyData} {ns : List Bool}, blsD ds = some ns → ds = ns.map PyData.bool
  | [], ns, h => by cases h; rfl
  | .bool d :: as, ds, h => by
    unfold blsD at h
    cases e : blsD as with
    | none => rw [e] at h; cases h
    | some es => rw [e] at h; cases h; rw [blsD_inv e]; rfl
  | .none :: _, _, h => by cases h
  | .int _ :: _, _, h => by cases h
  | .str _ :: _, _, h => by cases h
  | .list _ :: _, _, h => by cases h
  | .tuple _ :: _, _, h => by cases h
  | .dict _ :: _, _, h => by cases h
theorem blsD_map : ∀ ns : List Bool, blsD (ns.map PyData.bool) = some ns
  | [] => rfl
  | n :: ns => by rw [List.map_cons, blsD, blsD_map ns]
theorem blsD_mapF {α : Type} (f : α → Bool) : ∀ ns : List α, blsD (ns.map fun n => PyData.bool (f n)) = some (ns.map f)
  | [] => rfl
  | n :: ns => by rw [List.map_cons, blsD, blsD_mapF f ns]; rfl
theorem intsD_mapF {α : Type} (f : α → Int) : ∀ ns : List α, intsD (ns.map fun n => PyData.int (f n)) = some (ns.map f)
  | [] => rfl
  | n :: ns => by rw [List.map_cons, intsD, intsD_mapF f ns]; rfl
def bAll : OB := fun ds Φ => match ds with
  | [.list xs] => someK (blsD xs) fun ns => Φ (.bool (ns.all id))
  | _ => False
theorem re_all (hc : X.calm = true) (hm : X.mg "all" = none) (h : RA X W [e] ra) (hg : X.env.kindOf "all" = some .globalImplicit := by kernel_rfl) (hs : isStar e = false := by rfl) : RE X W (.Call (.Name "all" p) [e] [] pos) (eB bAll ra) := re_callB (cr_all hc) (fun ds Φ h => by
  unfold bAll at h
  split at h
  · obtain ⟨ns, e, h1⟩ := someK_inv h
    rw [blsD_inv e]
    exact wall h1
  · exact h.elim) hm bb_all h hg (by decide +kernel) hs rfl
def bList : OB := fun ds Φ => match ds with
  | [.list xs] => Φ (.list xs)
  | [.tuple xs] => Φ (.list xs)
  | _ => False
theorem re_list (hm : X.mg "list" = none) (h : RA X W [e] ra) (hg : X.env.kindOf "list" = some .globalImplicit := by kernel_rfl) (hs : isStar e = false := by rfl) : RE X W (.Call (.Name "list" p) [e] [] pos) (eB bList ra) := re_callTy call_listA (fun ds Φ h => by
  unfold bList at h
  split at h
  · exact wlist rfl h
  · exact wlist rfl h
  · exact h.elim) hm bb_list h hg (by decide +kernel) hs rfl
def bTuple : OB := fun ds Φ => match ds with
  | [.list xs] => Φ (.tuple xs)
  | [.tuple xs] => Φ (.tuple xs)
  | _ => False
theorem re_tuple (hm : X.mg "tuple" = none) (h : RA X W [e] ra) (hg : X.env.kindOf "tuple" = some .globalImplicit := by kernel_rfl) (hs : isStar e = false := by rfl) : RE X W (.Call (.Name "tuple" p) [e] [] pos) (eB bTuple ra) := re_callTy call_tupleA (fun ds Φ h => by
  unfold bTuple at h
  split at h
  · exact wtuple rfl h
  · exact wtuple rfl h
  · exact h.elim) hm bb_tuple h hg (by decide +kernel) hs rfl
def bInt : OB := fun ds Φ => match ds with
  | [.int i] => Φ (.int i)
  | [.str z] => ∃ n, PySem.intText? z = some n ∧ z.length ≤ 640 ∧ Go (Φ (.int n))
  | _ => False
theorem re_intOf (hm : X.mg "int" = none) (h : RA X W [e] ra) (hg : X.env.kindOf "int" = some .globalImplicit := by kernel_rfl) (hs : isStar e = false := by rfl) : RE X W (.Call (.Name "int" p) [e] [] pos) (eB bInt ra) := re_callTy call_intA (fun ds Φ h => by
  unfold bInt at h
  split at h
  · exact wint_int h
  · obtain ⟨n, h1, h2, h3⟩ := h
    exact wint_str h1 h2 h3
  · exact h.elim) hm bb_int h hg (by decide +kernel) hs rfl
def bStr : OB := fun ds Φ => match ds with
  | [.int i] => i.natAbs.log2 < 1920 ∧ Go (Φ (.str (toString i)))
  | _ => False
theorem re_strOf (hm : X.mg "str" = none) (h : RA X W [e] ra) (hg : X.env.kindOf "str" = some .globalImplicit := by kernel_rfl) (hs : isStar e = false := by rfl) : RE X W (.Call (.Name "str" p) [e] [] pos) (eB bStr ra) := re_callTy call_strA (fun ds Φ h => by
  unfold bStr at h
  split at h
  · exact wstr_int h.1 h.2
  · exact h.elim) hm bb_str h hg (by decide +kernel) hs rfl
/-- isinstance -/
def eIsi (f : PyData → Bool) (t : DE) : DE := fun ρ Ξ Φ => t ρ Ξ fun d => Φ (.bool (f d))
theorem re_isi {x : Str} {t : String} {f : PyData → Bool} {px : Pos} (hm : X.mg "isinstance" = none) (hx : X.mg x = none) (hv : bootBuiltins x = some (.type t)) (hf : ∀ d, isTy t d = some (f d)) (h : RE X W e te) (hg : X.env.kindOf "isinstance" = some .globalImplicit := by kernel_rfl) (hgx : X.env.kindOf x = some .globalImplicit := by kernel_rfl) (hb : bltOk x = true := by kernel_rfl)
    (hs : isStar e = false := by rfl) : RE X W (.Call (.Name "isinstance" p) [e, .Name x px] [] pos) (eIsi f te) := fun _ _ _ k =>
  we_isi hm hx hv ((h _ _ _ k).mono fun d z => ⟨_, hf d, z⟩) hg hgx (bltOk_inv hb).1 (bltOk_inv hb).2 (star_cons hs) rfl rfl
theorem re_isi2 {px py pt : Pos} {k1} (hm : X.mg "isinstance" = none) (h1 : X.mg "list" = none) (h2 : X.mg "tuple" = none) (h : RE X W e te) (hg : X.env.kindOf "isinstance" = some .globalImplicit := by kernel_rfl) (hgx : X.env.kindOf "list" = some .globalImplicit := by kernel_rfl) (hgy : X.env.kindOf "tuple" = some .globalImplicit := by kernel_rfl)
    (hs : isStar e = false := by rfl) : RE X W (.Call (.Name "isinstance" p) [e, .Tuple [.Name "list" px, .Name "tuple" py] k1 pt] [] pos) (eIsi (fun d => isList d || isTuple d) te) := fun _ _ _ k =>
  we_isi2 hm h1 bb_list h2 bb_tuple ((h _ _ _ k).mono fun d z => ⟨_, _, is_list d, is_tuple d, z⟩) hg hgx hgy (by decide) (by decide) (by decide) (by decide) (star_cons hs) rfl rfl rfl rfl
/-- an own def -/
@[irreducible] def CallK (p : Prop) : Prop := p
theorem callK_of {p : Prop} (h : p) : CallK p := by unfold CallK; exact h
theorem CallK.out {p : Prop} (h : CallK p) : p := by unfold CallK at h; exact h
def kCall (pr : Pr) (r : DA) : DK := fun ρ Ξ Ψ => r ρ Ξ fun as => CallK (pr as Ψ Ξ)
theorem rk_call {x : Str} {n k : Nat} {pr : Pr} (D : Def X.prog X.w X.K X.mg X.base x n k pr) (C : Cxt X W) (hr : Room k X.A) (h : RA X W (e :: es) ra) (hg : X.env.kindOf x = some .globalImplicit := by kernel_rfl) (hb : bltOk x = true := by kernel_rfl)
    (hs : isStar e = false := by rfl) (hpl : (backTo pos (starEach es X.env)).any (·.1) = false := by rfl) : RK X W (.Call (.Name x p) (e :: es) [] pos) (kCall pr ra) := fun _ _ _ k =>
  wk_call D C hr ((h _ _ _ k).mono fun _ z => z.out) hg (bltOk_inv hb).2 (star_cons hs) hpl
end
end Mv

set_option maxRecDepth 100000
set_option maxHeartbeats 4000000
/-! readings of statements, loops, comprehensions; defs by their readings -/
namespace Mv
open PySem L2
section
variable {X : Cx} {W : WX} {a b c e tg : Expr} {es : List Expr} {ta tb tc te : DE} {tk : DK} {t : DT} {pos p px : Pos} {st : Stmt} {ss : List Stmt} {ts tr : DS}
/-! ### what is walked -/
def iSq (t : DE) : DI := fun ρ Ξ Φ => t ρ Ξ fun d => someK (itemsD d) Φ
theorem ri_seq (h : RE X W e te) : RI X W tg e (iSq te) := fun _ _ _ k => wi_seq ((h _ _ _ k).mono fun _ z => someK_inv z)
def iScr (i : Nat) : DI := fun ρ _ Φ => match nth ρ i with
  | some (.scr ns) => Φ (ns.map .int)
  | _ => False
theorem ri_scr (i : Nat) {x : Str} (hx : nmOk X.env.scope x = true := by kernel_rfl) (hN : X.N[i]? = some x := by kernel_rfl) : RI X W tg (.Name x pos) (iScr i) := fun ρ Ξ Φ h => by
  unfold iScr at h
  split at h
  · obtain ⟨h1, h2, h3⟩ := nmOk_inv hx
    exact wi_scr i (by rw [← nth_eq]; assumption) h hN h1 h2 h3
  · exact h.elim
def iRange1 (t : DE) : DI := fun ρ Ξ Φ => t ρ Ξ fun d => asI d fun j => (-(2 ^ 62) ≤ j ∧ j < 2 ^ 62) ∧ Go (Φ (rangeD 0 j.toNat))
theorem ri_range1 (hm : X.mg "range" = none) (h : RE X W a ta) (hg : X.env.kindOf "range" = some .globalImplicit := by kernel_rfl) (hs : isStar a = false := by rfl) : RI X W tg (.Call (.Name "range" p) [a] [] pos) (iRange1 ta) := fun _ _ _ k =>
  wi_range1 hm ((h _ _ _ k).mono fun _ z => by
    obtain ⟨j, e, h1, h2⟩ := asI_inv z
    exact ⟨j, e, h1.1, h1.2, h2⟩) hg (star_cons hs)
def iRange2 (s t : DE) : DI := fun ρ Ξ Φ => s ρ Ξ fun x => t ρ Ξ fun y => asI x fun i => asI y fun j => (-(2 ^ 62) ≤ i ∧ i < 2 ^ 62 ∧ -(2 ^ 62) ≤ j ∧ j < 2 ^ 62) ∧ Go (Φ (rangeD i (j - i).toNat))
theorem ri_range2 (hm : X.mg "range" = none) (h : RE X W a ta) (h2 : RE X W b tb) (hg : X.env.kindOf "range" = some .globalImplicit := by kernel_rfl) (hs : isStar a = false := by rfl) (hs2 : isStar b = false := by rfl) : RI X W tg (.Call (.Name "range" p) [a, b] [] pos) (iRange2 ta tb) := fun _ _ _ k =>
  wi_range2 hm ((h _ _ _ k).mono fun _ z => (h2 _ _ _ z).mono fun _ z => by
    obtain ⟨i, e1, z⟩ := asI_inv z
    obtain ⟨j, e2, z1, z2⟩ := asI_inv z
    exact ⟨i, j, e1, e2, z1, z2⟩) hg (by rw [star_cons hs, star_cons hs2]; rfl) (by rw [star_cons hs2]; rfl)
/-! ### targets -/
def gNm (i : Nat) : DG := fun d ρ Φ => Φ (ρ.set i (.dat d))
def gAll : List DG → List PyData → List Sl → (List Sl → Prop) → Prop
  | [], [], ρ, Φ => Φ ρ
  | g :: gs, d :: ds, ρ, Φ => g d ρ fun ρ' => gAll gs ds ρ' Φ
  | _, _, _, _ => False
def gTup (gs : List DG) : DG := fun d ρ Φ => match d with
  | .tuple ds => match Nat.beq ds.length gs.length with
    | true => gAll gs ds ρ Φ
    | false => False
  | _ => False
theorem gTup_inv {gs : List DG} {d : PyData} {ρ : List Sl} {Φ : List Sl → Prop} (h : gTup gs d ρ Φ) : ∃ ds, d = .tuple ds ∧ ds.length = gs.length ∧ gAll gs ds ρ Φ := by
  unfold gTup at h
  split at h
  · split at h
    · rename_i e
      exact ⟨_, rfl, Nat.eq_of_beq_eq_true e, h⟩
    · exact h.elim
  · exact h.elim
variable {T : Nat → Prop} {g : DG} {gs : List DG} {d : PyData} {ds : List PyData} {ρ : List Sl} {Ξ : Exn → Prop}
theorem WG.mono {Φ Ψ : List Sl → Prop} (h : WG X ρ e d T Φ) (k : ∀ ρ, Φ ρ → Ψ ρ) : WG X ρ e d T Ψ := fun B F H σ v env r Q q => h B F H σ v env r Q fun ρ' σ' w => q ρ' σ' (k _ w)
theorem WGs.mono {Φ Ψ : List Sl → Prop} (h : WGs X ρ es ds T Φ) (k : ∀ ρ, Φ ρ → Ψ ρ) : WGs X ρ es ds T Ψ := fun B F H σ v env r Q q => h B F H σ v env r Q fun ρ' σ' w => q ρ' σ' (k _ w)
theorem rg_nm (i : Nat) {x : Str} (nd : X.N.Nodup) (hT : T i) (hN : X.N[i]? = some x := by kernel_rfl) (hx : stOk X x = true := by kernel_rfl) : RG X (.Name x pos) T (gNm i) := fun _ _ _ h => wg_name i nd hT h hN (stOk_inv hx).1 (stOk_inv hx).2
def RGs (X : Cx) (T : Nat → Prop) (es : List Expr) (gs : List DG) : Prop := es.length = gs.length ∧ ∀ ds ρ Φ, gAll gs ds ρ Φ → WGs X ρ es ds T Φ
theorem rgs_nil : RGs X T [] [] := ⟨rfl, fun ds ρ Φ h => by
  cases ds with
  | nil => exact wgs_nil h
  | cons _ _ => exact h.elim⟩
theorem gs_cons {env : Env} (h : isStar e = false) : (assignEach (e :: es) env) = (false, assign e env) :: (assignEach es env) := by
  cases e <;> first | rfl | cases h
theorem rgs_cons (h : RG X e T g) (r : RGs X T es gs) (hs : isStar e = false := by rfl) : RGs X T (e :: es) (g :: gs) := ⟨by rw [List.length_cons, List.length_cons, r.1], fun ds ρ Φ k => by
  cases ds with
  | nil => exact k.elim
  | cons d ds =>
    have w : WG X ρ e d T fun ρ' => WGs X ρ' es ds T Φ := (h d ρ _ k).mono fun ρ' z => r.2 ds ρ' Φ z
    exact wgs_cons w (by rw [gs_cons hs]; rfl)⟩
theorem rg_tup {k : Nat} (hc : X.calm = true) (h : RGs X T es gs) (hn : (assignEach es X.env).length = es.length := by rfl) (hst : (assignEach es X.env).findIdx? (·.1) = none := by rfl) : RG X (.Tuple es k pos) T (gTup gs) := fun d ρ Φ z => by
  obtain ⟨ds, rfl, hl, z⟩ := gTup_inv z
  exact wg_tup hc (h.2 ds ρ Φ z) (by rw [hl, h.1]) hn hst

/-! ### statements -/
def sNil : DS := fun ρ _ E => Go (E.nx ρ)
def En.to (E : En) (nx : List Sl → Prop) : En := { E with nx := nx }
def En.lp (E : En) (I : List Sl → Prop) : En := { nx := I, ct := I, bk := E.nx, rt := E.rt }
def sCons (s r : DS) : DS := fun ρ Ξ E => s ρ Ξ (E.to fun ρ' => r ρ' Ξ E)
theorem W1.mono {ρ : List Sl} {Ξ : Xi} {E E' : En} (h : W1 X W ρ st Ξ E) (k1 : ∀ ρ, E.nx ρ → E'.nx ρ) (k2 : ∀ s, E.rt s → E'.rt s) (k3 : ∀ ρ, E.bk ρ → E'.bk ρ) (k4 : ∀ ρ, E.ct ρ → E'.ct ρ) : W1 X W ρ st Ξ E' := fun B F H σ env D d dx =>
  h B F H σ env D ⟨fun ρ' F2 H2 σ2 w env2 => d.nx ρ' F2 H2 σ2 (k1 _ w) env2, fun v s F2 H2 w => d.rt v s F2 H2 (k2 _ w), fun ρ' F2 H2 σ2 w env2 => d.bk ρ' F2 H2 σ2 (k3 _ w) env2, fun ρ' F2 H2 σ2 w env2 => d.ct ρ' F2 H2 σ2 (k4 _ w) env2⟩ dx
theorem rs_nil : RS X W [] sNil := fun _ _ _ h => ws_nil h
theorem rs_cons (h : R1 X W st ts) (r : RS X W ss tr) : RS X W (st :: ss) (sCons ts tr) := fun ρ Ξ E k => ws_cons ((h ρ Ξ _ k).mono (fun _ z => r _ _ _ z) (fun _ z => z) (fun _ z => z) (fun _ z => z))
theorem rs_one (h : R1 X W st ts) : RS X W [st] ts := fun ρ Ξ E k => ws_cons ((h ρ Ξ _ k).mono (fun _ z => ws_nil z) (fun _ z => z) (fun _ z => z) (fun _ z => z))
def sRet (k : DK) : DS := fun ρ Ξ E => k ρ (xat Ξ ρ) E.rt
theorem r1_ret (h : RK X W e tk) : R1 X W (.Return (some e) pos) (sRet tk) := fun _ _ _ k => w1_ret (h _ _ _ k)
def sRetN : DS := fun _ _ E => E.rt (.dat .none)
theorem r1_retN : R1 X W (.Return none pos) sRetN := fun _ _ _ k => w1_retN k
/-- return of a name, own or data -/
def sRetV (i : Nat) : DS := fun ρ _ E => match nth ρ i with
  | some (.own ds) => E.rt (.own ds)
  | some (.dat d) => E.rt (.dat d)
  | _ => False
theorem r1_retV (i : Nat) {x : Str} (hx : nmOk X.env.scope x = true := by kernel_rfl) (hN : X.N[i]? = some x := by kernel_rfl) : R1 X W (.Return (some (.Name x px)) pos) (sRetV i) := fun ρ Ξ E h => by
  obtain ⟨h1, h2, h3⟩ := nmOk_inv hx
  unfold sRetV at h
  split at h
  · exact w1_retO i (by rw [← nth_eq]; assumption) h hN h1 h2 h3
  · exact w1_ret (wk_of_we (we_name i (by rw [← nth_eq]; assumption) h hN h1 h2 h3))
  · exact h.elim
def sExpr (k : DK) : DS := fun ρ Ξ E => k ρ (xat Ξ ρ) fun _ => Go (E.nx ρ)
theorem r1_expr (h : RK X W e tk) (hs : swapsWith e none pos.line X.env = pure false := by rfl) : R1 X W (.Expr e pos) (sExpr tk) := fun _ _ _ k => w1_expr (h _ _ _ k) hs
def sIf (t : DT) (a b : DS) : DS := fun ρ Ξ E => t ρ (xat Ξ ρ) fun k => brk k (Go (a ρ Ξ E)) (Go (b ρ Ξ E))
theorem r1_if {la lb : List Stmt} {sa sb : DS} (h : RT X W c t) (ha : RS X W la sa) (hb : RS X W lb sb) : R1 X W (.If c la lb pos) (sIf t sa sb) := fun _ _ _ k => w1_if ((h _ _ _ k).mono fun _ z => ⟨fun e => ha _ _ _ (z.t e), fun e => hb _ _ _ (z.f e)⟩)
def sPass : DS := fun ρ _ E => Go (E.nx ρ)
theorem r1_pass : R1 X W (.Pass pos) sPass := fun _ _ _ k => w1_pass k
def sSet (i : Nat) (k : DK) : DS := fun ρ Ξ E => k ρ (xat Ξ ρ) fun s => E.nx (ρ.set i s)
theorem r1_set (i : Nat) {x : Str} (nd : X.N.Nodup) (h : RK X W e tk) (hN : X.N[i]? = some x := by kernel_rfl) (hx : stOk X x = true := by kernel_rfl) (hs : swapsWith e (some (.Name x px)) pos.line X.env = pure false := by rfl) : R1 X W (.Assign [.Name x px] e pos) (sSet i tk) := fun _ _ _ k =>
  w1_set i nd (h _ _ _ k) hN (stOk_inv hx).1 hs (stOk_inv hx).2
/-- what is own becomes data -/
def sFrz (i : Nat) (r : DS) : DS := fun ρ Ξ E => match nth ρ i with
  | some (.own ds) => r (ρ.set i (.dat (.list ds))) Ξ E
  | _ => r ρ Ξ E
theorem rs_frz (i : Nat) (h : RS X W ss ts) : RS X W ss (sFrz i ts) := fun ρ Ξ E k => by
  unfold sFrz at k
  split at k
  · exact ws_freeze i (by rw [← nth_eq]; assumption) (h _ _ _ k)
  · exact h _ _ _ k
def flatK (d : PyData) (Φ : PyData → Prop) : Prop := match flatD d with
  | true => Φ d
  | false => False
theorem flatK_inv {d : PyData} {Φ : PyData → Prop} (h : flatK d Φ) : flatD d = true ∧ Φ d := by
  unfold flatK at h
  split at h
  · rename_i z; exact ⟨z, h⟩
  · exact h.elim
/-- own lists' items, sizes, for the while: what is found is flat -/
def eMelt (i : Nat) (t : DE) : DE := fun ρ Ξ Φ => match nth ρ i with
  | some (.own ds) => t (ρ.set i (.dat (.list ds))) X0 fun d => flatK d Φ
  | _ => t ρ Ξ Φ
theorem rp_flat {K : PySem.W.Frag} {F F' : Hp} {v : V} {d : PyData} (h : flatD d = true) (r : Rp K F v d) : Rp K F' v d := by
  cases r with
  | non => exact .non
  | bl b => exact .bl b
  | int i => exact .int i
  | str x => exact .str x
  | _ => cases h
theorem re_melt (i : Nat) (h : RE X W e te) : RE X W e (eMelt i te) := fun ρ Ξ Φ k => by
  unfold eMelt at k
  split at k
  · rename_i ds hi
    rw [nth_eq] at hi
    intro B F H σ env Q q qx
    obtain ⟨p, vs, e1, hp, fp, h0, nm, r⟩ := env.sl i _ hi
    obtain ⟨F2, s2, env2⟩ := env.freeze hi
    -- back: what was frozen for the while is none of F
    have back : ∀ {F3 H3 : Hp}, Step B.M F2 H F3 H3 → Step B.M F H (fun a => if H a = none then F3 a else F a) H3 := fun {F3 H3} st => ⟨fun a x e => by
        show (if H a = none then F3 a else F a) = some x
        rw [if_neg (by rw [env.sub a x e]; exact fun z => nomatch z)]; exact e,
      fun a x e => by
        have e' : (if H a = none then F3 a else F a) = some x := e
        by_cases z : H a = none
        · rw [if_pos z] at e'; exact st.sub a x e'
        · rw [if_neg z] at e'; exact st.sub a x (st.fr a x (s2 a x e')),
      st.keep, fun a n => by
        show (if H a = none then F3 a else F a) = F a
        rw [if_neg n], st.alive, st.dr⟩
    exact h _ _ _ k B F2 H σ env2 Q (fun v d F3 H3 hd st rv => q v d _ H3 (flatK_inv hd).2 (back st) (rp_flat (flatK_inv hd).1 rv)) (fun _ _ _ _ _ z => z.elim)
  · exact h _ _ _ k
end
end Mv

set_option maxRecDepth 100000
set_option maxHeartbeats 4000000
/-! readings: names set together, items, calls that change lists, raise, try, loops, comprehensions, defs -/
namespace Mv
open PySem L2
section
variable {X : Cx} {W : WX} {a b c e tg : Expr} {es : List Expr} {ta tb tc te : DE} {tk uk vk : DK} {t : DT} {pos p px py pz pt : Pos} {st : Stmt} {ss : List Stmt} {ts tr : DS} {ρ : List Sl} {Ξ : Exn → Prop}

/-! ### x, y, .. = a, b, .. -/
abbrev DKs := List Sl → (Exn → Prop) → (List Sl → Prop) → Prop
def RKs (X : Cx) (W : WX) (es : List Expr) (t : DKs) : Prop := ∀ ρ Ξ Φ, t ρ Ξ Φ → WKs X W ρ es Ξ Φ
def partOk (s : Sl) : Bool := match s with
  | .dat d => flatD d
  | s => s.isOwn
def apartK (s : Sl) (ss : List Sl) (P : Prop) : Prop := match s.isOwn with
  | true => match ss.all partOk with
    | true => P
    | false => False
  | false => P
theorem apartK_inv {s : Sl} {ss : List Sl} {P : Prop} (h : apartK s ss P) : (s.isOwn = true → ∀ t ∈ ss, t.isOwn = true ∨ ∃ d, t = .dat d ∧ flatD d = true) ∧ P := by
  unfold apartK at h
  split at h
  · split at h
    · rename_i e
      refine ⟨fun _ t ht => ?_, h⟩
      have q := List.all_eq_true.mp e t ht
      cases t with
      | dat d => exact .inr ⟨d, rfl, q⟩
      | own _ => exact .inl rfl
      | odk _ => exact .inl rfl
      | _ => cases q
    · exact h.elim
  · rename_i e
    exact ⟨fun z => (by rw [e] at z; cases z), h⟩
def ksNil : DKs := fun _ _ Φ => Φ []
def ksCons (k : DK) (r : DKs) : DKs := fun ρ Ξ Φ => k ρ Ξ fun s => r ρ Ξ fun ss => apartK s ss (Φ (s :: ss))
variable {ks : DKs}
theorem WKs.mono {Φ Ψ : List Sl → Prop} (h : WKs X W ρ es Ξ Φ) (k : ∀ s, Φ s → Ψ s) : WKs X W ρ es Ξ Ψ := fun B F H σ env Q q qx => h B F H σ env Q (fun vs ss F2 H2 z => q vs ss F2 H2 (k _ z)) qx
theorem rks_nil : RKs X W [] ksNil := fun _ _ _ h => wks_nil h
theorem rks_cons (h : RK X W e tk) (r : RKs X W es ks) (hs : isStar e = false := by rfl) : RKs X W (e :: es) (ksCons tk ks) := fun _ _ _ k => wks_cons ((h _ _ _ k).mono fun s z => (r _ _ _ z).mono fun ss z => apartK_inv z) (star_cons hs)
def setsV : L2.St → List Nat → List V → L2.St
  | σ, i :: is, v :: vs => setsV (σ.set i (some v)) is vs
  | σ, _, _ => σ
theorem EnvOk.putsAll {K : PySem.W.Frag} {B : Base} {F H H2 : Hp} (hH : ∀ p, H p = none → B.H0 p = none) (hM : ∀ p, B.M p → B.H0 p ≠ none) : ∀ (vs : List V) (ss : List Sl) (l : List Nat) (σ : L2.St) (ρ : List Sl), EnvOk K B F H2 σ ρ → SlVs K H F H2 vs ss →
    (∀ (j : Nat) (s : Sl) (p : Addr), ρ[j]? = some s → s.isOwn = true → σ[j]? = some (some (.ref p)) → H p ≠ none ∨ V.ref p ∉ vs) → EnvOk K B F H2 (setsV σ l vs) (setAll ρ l ss)
  | _, _, l, σ, ρ, env, .nil, _ => by
    cases l <;> exact env
  | _, _, [], σ, ρ, env, .cons _ _ _, _ => env
  | v :: vs, s :: ss, i :: l, σ, ρ, env, .cons r a h, ap => by
    have ok : SlOk K B F H2 (some (some v)) s := by
      cases s with
      | dat d => exact ⟨v, rfl, r⟩
      | own ds =>
        obtain ⟨p, vs, rfl, hp, h2, f2, ra⟩ := r
        exact ⟨p, vs, rfl, h2, f2, hH p hp, fun m => hM p m (hH p hp), ra⟩
      | odk ds =>
        obtain ⟨p, vs, rfl, hp, h2, f2, ra⟩ := r
        exact ⟨p, vs, rfl, h2, f2, hH p hp, fun m => hM p m (hH p hp), ra⟩
      | _ => exact r.elim
    have new : s.isOwn = true → ∃ p, v = .ref p ∧ H p = none := fun o => by
      cases s with
      | own ds => obtain ⟨p, vs, e, hp, _⟩ := r; exact ⟨p, e, hp⟩
      | odk ds => obtain ⟨p, vs, e, hp, _⟩ := r; exact ⟨p, e, hp⟩
      | _ => cases o
    have env1 : EnvOk K B F H2 (σ.set i (some v)) (ρ.set i s) := env.put ok fun o j t _ e ot z => by
      obtain ⟨p, rfl, hp⟩ := new o
      rcases ap j t p e ot z with q | q
      · exact q hp
      · exact q List.mem_cons_self
    have fin := EnvOk.putsAll hH hM vs ss l _ _ env1 h fun j t p e ot z => by
      by_cases hj : j = i
      · subst hj
        have hlt : j < (ρ.set j s).length := (List.getElem?_eq_some_iff.mp e).1
        rw [List.length_set] at hlt
        rw [List.getElem?_set_self hlt] at e
        cases e
        rw [List.getElem?_set_self (by rw [env.len]; exact hlt)] at z
        refine .inr fun hu => a ot _ hu ?_
        exact (Option.some.inj (Option.some.inj z)).symm
      · rw [List.getElem?_set_ne (Ne.symm hj)] at e z
        rcases ap j t p e ot z with q | q
        · exact .inl q
        · exact .inr fun hu => q (List.mem_cons_of_mem _ hu)
    exact fin
theorem EnvOk.putsK {K : PySem.W.Frag} {B : Base} {F H F2 H2 : Hp} {σ : L2.St} {vs : List V} {ss : List Sl} (env : EnvOk K B F H σ ρ) (st : Step B.M F H F2 H2) (r : SlVs K H F2 H2 vs ss) (l : List Nat) : EnvOk K B F2 H2 (setsV σ l vs) (setAll ρ l ss) :=
  EnvOk.putsAll (fun p hp => env.fresh0 hp) env.mh vs ss l σ ρ (env.step st) r fun j s p e o q => .inl (env.ownAt e o q)
theorem SlVs.len {K : PySem.W.Frag} {H F2 H2 : Hp} : ∀ {vs : List V} {ss : List Sl}, SlVs K H F2 H2 vs ss → vs.length = ss.length
  | _, _, .nil => rfl
  | _, _, .cons _ _ h => by rw [List.length_cons, List.length_cons, h.len]
/-- what is asked: as many kinds as names -/
def sPar (l : List Nat) (k : DKs) : DS := fun ρ Ξ E => k ρ (xat Ξ ρ) fun ss => match Nat.beq ss.length l.length with
  | true => E.nx (setAll ρ l ss)
  | false => False
theorem sPar_inv {l : List Nat} {ss : List Sl} {P : Prop} (h : match Nat.beq ss.length l.length with
  | true => P
  | false => False) : ss.length = l.length ∧ P := by
  split at h
  · rename_i e; exact ⟨Nat.eq_of_beq_eq_true e, h⟩
  · exact h.elim
theorem r1_par2 (i j : Nat) {x y : Str} {kt k2 : Nat} (C : Cxt X W) (h : RKs X W [a, b] ks) (hi : X.N[i]? = some x := by kernel_rfl) (hj : X.N[j]? = some y := by kernel_rfl) (hij : i ≠ j := by decide)
    (hx : X.env.scope.names.lookup x = some .local := by kernel_rfl) (hy : X.env.scope.names.lookup y = some .local := by kernel_rfl)
    (hw : swappedStores [.Tuple [.Name x px, .Name y py] kt pt] (.Tuple [a, b] k2 p) X.env = pure (some [x, y]) := by rfl) : R1 X W (.Assign [.Tuple [.Name x px, .Name y py] kt pt] (.Tuple [a, b] k2 p) pos) (sPar [i, j] ks) := fun ρ Ξ E k B F H σ env D d dx =>
  wS1_of (ps_par C.calm C.nd hi hj hij hx hy pa_w hw rfl) (h _ _ _ k B F H σ env _ (fun vs ss F2 H2 hss st rs => by
    obtain ⟨hl, hn⟩ := sPar_inv hss
    have hl2 := rs.len.trans hl
    match vs, hl2 with
    | [v, w], _ => exact ⟨v, w, rfl, d.nx _ F2 H2 _ hn (env.putsK st rs [i, j])⟩) (dx.at env))
theorem r1_par3 (i j l : Nat) {x y z : Str} {kt k2 : Nat} (C : Cxt X W) (h : RKs X W [a, b, c] ks) (hi : X.N[i]? = some x := by kernel_rfl) (hj : X.N[j]? = some y := by kernel_rfl) (hl : X.N[l]? = some z := by kernel_rfl) (hij : i ≠ j := by decide) (hil : i ≠ l := by decide) (hjl : j ≠ l := by decide)
    (hx : X.env.scope.names.lookup x = some .local := by kernel_rfl) (hy : X.env.scope.names.lookup y = some .local := by kernel_rfl) (hz : X.env.scope.names.lookup z = some .local := by kernel_rfl)
    (hw : swappedStores [.Tuple [.Name x px, .Name y py, .Name z pz] kt pt] (.Tuple [a, b, c] k2 p) X.env = pure (some [x, y, z]) := by rfl) : R1 X W (.Assign [.Tuple [.Name x px, .Name y py, .Name z pz] kt pt] (.Tuple [a, b, c] k2 p) pos) (sPar [i, j, l] ks) := fun ρ Ξ E k B F H σ env D d dx =>
  wS1_of (ps_par3 C.calm C.nd hi hj hl hij hil hjl hx hy hz pa_w hw rfl) (h _ _ _ k B F H σ env _ (fun vs ss F2 H2 hss st rs => by
    obtain ⟨hl, hn⟩ := sPar_inv hss
    have hl2 := rs.len.trans hl
    match vs, hl2 with
    | [v, w, u], _ => exact ⟨v, w, u, rfl, d.nx _ F2 H2 _ hn (env.putsK st rs [i, j, l])⟩) (dx.at env))
/-- names only -/
inductive Nms (X : Cx) : List Expr → List Nat → Prop
  | nil : Nms X [] []
  | cons {x : Str} {px : Pos} {es : List Expr} {l : List Nat} (i : Nat) (hN : X.N[i]? = some x) (hx : stOk X x = true) (r : Nms X es l) : Nms X (.Name x px :: es) (i :: l)
theorem Nms.mk {x : Str} (i : Nat) {l : List Nat} (r : Nms X es l) (hN : X.N[i]? = some x := by kernel_rfl) (hx : stOk X x = true := by kernel_rfl) : Nms X (.Name x px :: es) (i :: l) := .cons i hN hx r
theorem Nms.len : ∀ {es : List Expr} {l : List Nat}, Nms X es l → es.length = l.length
  | _, _, .nil => rfl
  | _, _, .cons _ _ _ r => by rw [List.length_cons, List.length_cons, r.len]
theorem Nms.run (nd : X.N.Nodup) {H : Hp} {Q : L2.St → Hp → Prop} : ∀ (es : List Expr) (l : List Nat) (vs : List V) (σ : L2.St), Nms X es l → vs.length = l.length → Q (setsV σ l vs) H → wGs X es vs σ H Q
  | _, _, vs, σ, .nil, hl, q => by
    intro pins s us I rv
    match vs, hl with
    | [], _ => exact (pgs_nil (X := X)).run pins s σ H [] us Q I rv ⟨rfl, q⟩
  | _, _, vs, σ, .cons (es := es) (l := l) i hN hx r, hl, q => by
    intro pins s us I rv
    match vs, hl with
    | v :: vs, hl => exact (pgs_cons (pg_name (i := i) nd hN (stOk_inv hx).1 (stOk_inv hx).2) pgs_w rfl).run pins s σ H (v :: vs) us Q I rv ⟨v, vs, rfl, Nms.run nd es l vs _ r (by simpa using hl) q⟩
/-- through a tuple -/
theorem r1_parT {l : List Nat} {ns : List Expr} {kt k2 : Nat} (C : Cxt X W) (h : RKs X W es ks) (n : Nms X ns l) (hn : (assignEach ns X.env).length = ns.length := by rfl) (hst : (assignEach ns X.env).findIdx? (·.1) = none := by rfl) (hz : Nat.ble l.length 100 = true := by rfl)
    (hs : swapsWithSole [.Tuple ns kt pt] (.Tuple es k2 p) pos.line X.env = pure false := by rfl) (hw : swappedStores [.Tuple ns kt pt] (.Tuple es k2 p) X.env = pure none := by rfl) (h1 : (assignEach [.Tuple ns kt pt] X.env).map (·.2) = [assign (.Tuple ns kt pt) X.env] := by rfl) : R1 X W (.Assign [.Tuple ns kt pt] (.Tuple es k2 p) pos) (sPar l ks) := fun ρ Ξ E k B F H σ env D d dx =>
  wS1_of (ps_asg (pe_tup pa_w) (pg_tup C.calm pgs_w hn hst) hs hw h1) (h _ _ _ k B F H σ env _ (fun vs ss F2 H2 hss st rs => by
    obtain ⟨hl, hx⟩ := sPar_inv hss
    have hl2 := rs.len.trans hl
    have hz' := Nat.le_of_ble_eq_true hz
    refine ⟨Nat.le_trans (by rw [hl2]; exact hz') (by decide), fun q hq => ?_⟩
    have st2 : Step B.M F2 H2 F2 (upd H2 q (.tup vs)) := Step.own st.sub hq
    refine ⟨q, vs, rfl, SqT.of upd_same, by rw [hl2, n.len], Nms.run C.nd _ _ _ _ n hl2 ?_⟩
    refine d.nx _ F2 _ _ hx (env.putsK (st.trans st2) ?_ l)
    have hM : ∀ p, H p = none → ¬ B.M p := fun p hp => env.notM (env.fresh0 hp)
    clear hss hx hl hl2
    generalize upd H2 q (.tup vs) = H3 at st2
    induction rs with
    | nil => exact .nil
    | cons r a _ ih => exact .cons (r.step hM st2) a ih) (dx.at env))

/-! ### own lists changed -/
def ownK (o : Option Sl) (Φ : List PyData → Prop) : Prop := match o with
  | some (.own ds) => Φ ds
  | _ => False
theorem ownK_inv {o : Option Sl} {Φ : List PyData → Prop} (h : ownK o Φ) : ∃ ds, o = some (.own ds) ∧ Φ ds := by
  unfold ownK at h
  split at h
  · exact ⟨_, rfl, h⟩
  · exact h.elim
def sApp (i : Nat) (t : DE) : DS := fun ρ Ξ E => ownK (nth ρ i) fun ds => t ρ (xat Ξ ρ) fun d => ds.length < 100000 ∧ Go (E.nx (ρ.set i (.own (ds ++ [d]))))
theorem r1_app (i : Nat) {x : Str} {ap cp : Pos} (h : RE X W e te) (hx : nmOk X.env.scope x = true := by kernel_rfl) (hN : X.N[i]? = some x := by kernel_rfl)
    (pe : PE X (.Call (.Attribute (.Name x px) "append" ap) [e] [] cp) (tBM X.K "list" rAppend (tVar i) (tCons (wE X e) tNil)) := by exact pe_bm PySem.F.plainAttrs_list PySem.F.slot_list_append PySem.F.type_list_append mt_append (pv _) (pa_cons pe_w pa_nil))
    (hs : swapsWith (.Call (.Attribute (.Name x px) "append" ap) [e] [] cp) none pos.line X.env = pure false := by rfl) : R1 X W (.Expr (.Call (.Attribute (.Name x px) "append" ap) [e] [] cp) pos) (sApp i te) := fun ρ Ξ E k => by
  obtain ⟨ds, e, k⟩ := ownK_inv k
  obtain ⟨h1, h2, h3⟩ := nmOk_inv hx
  exact w1_append i (by rw [← nth_eq]; exact e) ((h _ _ _ k).mono fun _ z => ⟨z.1, z.2⟩) hN h1 h2 h3 pe hs
def sExt (i : Nat) (t : DE) : DS := fun ρ Ξ E => ownK (nth ρ i) fun ds => t ρ (xat Ξ ρ) fun d => match d with
  | .list es => ds.length + es.length ≤ 100000 ∧ Go (E.nx (ρ.set i (.own (ds ++ es))))
  | _ => False
theorem r1_ext (i : Nat) {x : Str} {ap cp : Pos} (h : RE X W e te) (hx : nmOk X.env.scope x = true := by kernel_rfl) (hN : X.N[i]? = some x := by kernel_rfl)
    (pe : PE X (.Call (.Attribute (.Name x px) "extend" ap) [e] [] cp) (tBM X.K "list" rExtend (tVar i) (tCons (wE X e) tNil)) := by exact pe_bm PySem.F.plainAttrs_list PySem.F.slot_list_extend PySem.F.type_list_extend mt_extend (pv _) (pa_cons pe_w pa_nil))
    (hs : swapsWith (.Call (.Attribute (.Name x px) "extend" ap) [e] [] cp) none pos.line X.env = pure false := by rfl) : R1 X W (.Expr (.Call (.Attribute (.Name x px) "extend" ap) [e] [] cp) pos) (sExt i te) := fun ρ Ξ E k => by
  obtain ⟨ds, e, k⟩ := ownK_inv k
  obtain ⟨h1, h2, h3⟩ := nmOk_inv hx
  exact w1_extend i (by rw [← nth_eq]; exact e) ((h _ _ _ k).mono fun d z => by
    split at z
    · exact ⟨_, rfl, z.1, z.2⟩
    · exact z.elim) hN h1 h2 h3 pe hs
/-- targets that may be items of own lists -/
abbrev DX := PyData → List Sl → (Exn → Prop) → (List Sl → Prop) → Prop
def RX (X : Cx) (W : WX) (tg : Expr) (t : DX) : Prop := ∀ d ρ Ξ Φ, t d ρ Ξ Φ → WGx X W ρ tg d Ξ Φ
def xNm (i : Nat) : DX := fun d ρ _ Φ => Φ (ρ.set i (.dat d))
def xIt (i : Nat) (t : DE) : DX := fun d ρ Ξ Φ => ownK (nth ρ i) fun ds => t ρ Ξ fun y => asI y fun k => someK (ixN ds.length k) fun j => Φ (ρ.set i (.own (ds.set j d)))
theorem rx_nm (i : Nat) {x : Str} (nd : X.N.Nodup) (hN : X.N[i]? = some x := by kernel_rfl) (hx : stOk X x = true := by kernel_rfl) : RX X W (.Name x pos) (xNm i) := fun _ _ _ _ h => wgx_name i nd h hN (stOk_inv hx).1 (stOk_inv hx).2
theorem rx_it (i : Nat) {x : Str} (h : RE X W e te) (hx : nmOk X.env.scope x = true := by kernel_rfl) (hN : X.N[i]? = some x := by kernel_rfl)
    (ha : ∀ v, assign (.Subscript (.Name x px) e pos) X.env v = (do
      let ov ← holding [v] (eval (.Name x px) X.env)
      let iv ← holding [v, ov] (eval e X.env)
      standAt pos
      holding [v, ov, iv] (setItem ov iv v)
      release [v, ov, iv] []) := by intro _; rfl) : RX X W (.Subscript (.Name x px) e pos) (xIt i te) := fun d ρ Ξ Φ k => by
  obtain ⟨ds, e, k⟩ := ownK_inv k
  obtain ⟨h1, h2, h3⟩ := nmOk_inv hx
  exact wgx_item i (by rw [← nth_eq]; exact e) ((h _ _ _ k).mono fun y z => by
    obtain ⟨q, e1, z⟩ := asI_inv z
    obtain ⟨j, e2, z⟩ := someK_inv z
    exact ⟨q, j, e1, e2, z⟩) hN h1 h2 h3 ha
def sItem (t : DE) (g : DX) : DS := fun ρ Ξ E => t ρ (xat Ξ ρ) fun d => g d ρ (xat Ξ ρ) fun ρ' => E.nx ρ'
theorem r1_item {g : DX} (h : RE X W e te) (r : RX X W tg g) (hs : swapsWithSole [tg] e pos.line X.env = pure false := by rfl) (hw : swappedStores [tg] e X.env = pure none := by rfl) (h1 : (assignEach [tg] X.env).map (·.2) = [assign tg X.env] := by rfl) : R1 X W (.Assign [tg] e pos) (sItem te g) := fun _ _ _ k =>
  w1_setItem ((h _ _ _ k).mono fun _ z => r _ _ _ _ z) hs hw h1
def xAll : List DX → List PyData → List Sl → (List Sl → Prop) → Prop
  | [], [], ρ, Φ => Φ ρ
  | g :: gs, d :: ds, ρ, Φ => g d ρ X0 fun ρ' => xAll gs ds ρ' Φ
  | _, _, _, _ => False
def RXs (X : Cx) (W : WX) (es : List Expr) (gs : List DX) : Prop := es.length = gs.length ∧ ∀ ds ρ Φ, xAll gs ds ρ Φ → WGxs X W ρ es ds X0 Φ
theorem WGx.mono {d : PyData} {Φ Ψ : List Sl → Prop} (h : WGx X W ρ e d Ξ Φ) (k : ∀ ρ, Φ ρ → Ψ ρ) : WGx X W ρ e d Ξ Ψ := fun B F H σ v env r Q q qx => h B F H σ v env r Q (fun ρ' σ' F' H' w => q ρ' σ' F' H' (k _ w)) qx
theorem rxs_nil : RXs X W [] [] := ⟨rfl, fun ds ρ Φ h => by
  cases ds with
  | nil => exact wgxs_nil h
  | cons _ _ => exact h.elim⟩
theorem rxs_cons {g : DX} {gs : List DX} (h : RX X W e g) (r : RXs X W es gs) (hs : isStar e = false := by rfl) : RXs X W (e :: es) (g :: gs) := ⟨by rw [List.length_cons, List.length_cons, r.1], fun ds ρ Φ k => by
  cases ds with
  | nil => exact k.elim
  | cons d ds =>
    have w : WGx X W ρ e d X0 fun ρ' => WGxs X W ρ' es ds X0 Φ := (h d ρ X0 _ k).mono fun ρ' z => r.2 ds ρ' Φ z
    exact wgxs_cons w (by rw [gs_cons hs]; rfl)⟩
/-- t1, t2, .. = e -/
def sUnp (t : DE) (gs : List DX) : DS := fun ρ Ξ E => t ρ (xat Ξ ρ) fun d => match d with
  | .tuple ds => match Nat.beq ds.length gs.length with
    | true => xAll gs ds ρ E.nx
    | false => False
  | _ => False
theorem r1_unp {gs : List DX} {ns : List Expr} {k : Nat} {tp : Pos} (C : Cxt X W) (h : RE X W e te) (r : RXs X W ns gs) (hn : (assignEach ns X.env).length = ns.length := by rfl) (hst : (assignEach ns X.env).findIdx? (·.1) = none := by rfl)
    (hs : swapsWithSole [.Tuple ns k tp] e pos.line X.env = pure false := by rfl) (hw : swappedStores [.Tuple ns k tp] e X.env = pure none := by rfl) (h1 : (assignEach [.Tuple ns k tp] X.env).map (·.2) = [assign (.Tuple ns k tp) X.env] := by rfl) : R1 X W (.Assign [.Tuple ns k tp] e pos) (sUnp te gs) := fun ρ Ξ E z =>
  w1_unpack C ((h _ _ _ z).mono fun d z => by
    split at z
    · split at z
      · rename_i e
        exact ⟨_, rfl, (Nat.eq_of_beq_eq_true e).trans r.1.symm, r.2 _ _ _ z⟩
      · exact z.elim
    · exact z.elim) hn hst hs hw h1

/-! ### raise, try -/
def sRaise (k : Kd) : DS := fun ρ Ξ _ => Ξ ⟨k, []⟩ ρ
/-- the classes that the program has, without own __init__ -/
structure ExcK (K : PySem.W.Frag) (mg : Str → Option Value) (k : Kd) : Prop where
  ex : ExcC K mg k.nm (kA K k)
theorem r1_raise (k : Kd) {x : Str} {cp : Pos} (C : Cxt X W) (T : ExcK X.K X.mg k) (e : x = k.nm := by rfl) (hg : X.env.kindOf x = some .globalImplicit := by kernel_rfl) (hb : bltOk x = true := by kernel_rfl) : R1 X W (.Raise (some (.Call (.Name x p) [] [] cp)) none pos) (sRaise k) := fun ρ Ξ E h => by
  subst e
  exact w1_raise C T.ex rfl h hg (bltOk_inv hb).2
/-- the classes of the program, what they catch -/
structure Ecs (K : PySem.W.Frag) (mg : Str → Option Value) (l : List Kd) : Prop where
  g : ∀ k ∈ l, mg k.nm = some (.ref (kA K k))
  m : ∀ a ∈ l, ∀ b ∈ l, PySem.W.exmOne K (.ref (kA K a)) (.ref (kA K b)) = some (b.takes a)
def memK (l : List Kd) (k : Kd) : Bool := match l with
  | [] => false
  | a :: r => match decide (a = k) with
    | true => true
    | false => memK r k
theorem memK_inv : ∀ {l : List Kd} {k : Kd}, memK l k = true → k ∈ l
  | [], _, h => by cases h
  | a :: r, k, h => by
    unfold memK at h
    split at h
    · rename_i e; rw [of_decide_eq_true e]; exact List.mem_cons_self
    · exact List.mem_cons_of_mem _ (memK_inv h)
/-- an error meets the clauses -/
def catchD (l : List Kd) (Ξ : Xi) (E : En) (x : Exn) (ρ : List Sl) : List (Kd × DS) → Prop
  | [] => Go (Ξ x ρ)
  | (c, s) :: r => match memK l x.k with
    | true => match c.takes x.k with
      | true => Go (s ρ (fun _ _ => False) E)
      | false => catchD l Ξ E x ρ r
    | false => False
def sTry (l : List Kd) (body : DS) (cs : List (Kd × DS)) : DS := fun ρ Ξ E => body ρ (fun x ρ' => catchD l Ξ E x ρ' cs) E
/-- the clauses -/
inductive Cls (X : Cx) (l : List Kd) : List ExceptHandler → List (Value × List Stmt) → List (Kd × DS) → Prop
  | nil : Cls X l [] [] []
  | cons {x : Str} {k : Kd} {b₀ : Stmt} {suite : List Stmt} {np pos' : Pos} {hds : List ExceptHandler} {vs : List (Value × List Stmt)} {cs : List (Kd × DS)} {s : DS} (m : memK l k = true) (nm : Names X x (.ref (kA X.K k))) (h : ∀ a oe pn, RS (X.suite a ((a, oe) :: pn)) W0 (b₀ :: suite) s) (r : Cls X l hds vs cs) :
    Cls X l (.ExceptHandler (some (.Name x np)) none (b₀ :: suite) pos' :: hds) ((.ref (kA X.K k), b₀ :: suite) :: vs) ((k, s) :: cs)
theorem Cls.mk {l : List Kd} (Y : Ecs X.K X.mg l) (k : Kd) {x : Str} {b₀ : Stmt} {suite : List Stmt} {np pos' : Pos} {hds : List ExceptHandler} {vs : List (Value × List Stmt)} {cs : List (Kd × DS)} {s : DS} (h : ∀ a oe pn, RS (X.suite a ((a, oe) :: pn)) W0 (b₀ :: suite) s) (r : Cls X l hds vs cs) (m : memK l k = true := by rfl) (e : x = k.nm := by rfl) (hg : X.env.kindOf x = some .globalImplicit := by kernel_rfl) (hb : (x == ("__debug__" : Str)) = false := by decide) :
    Cls X l (.ExceptHandler (some (.Name x np)) none (b₀ :: suite) pos' :: hds) ((.ref (kA X.K k), b₀ :: suite) :: vs) ((k, s) :: cs) :=
  .cons m ⟨hg, hb, .inl (by subst e; exact Y.g k (memK_inv m))⟩ h r
theorem Cls.hds : ∀ {l : List Kd} {hds : List ExceptHandler} {vs : List (Value × List Stmt)} {cs : List (Kd × DS)}, Cls X l hds vs cs → HdsD X hds vs
  | _, _, _, _, .nil => .nil
  | _, _, _, _, .cons _ nm _ r => .cons nm r.hds
theorem Cls.run {E : En} {Ξ : Xi} {x : Exn} {ρ : List Sl} : ∀ {l : List Kd} {hds : List ExceptHandler} {vs : List (Value × List Stmt)} {cs : List (Kd × DS)}, Ecs X.K X.mg l → Cls X l hds vs cs → catchD l Ξ E x ρ cs → Catch X Ξ E x ρ vs
  | _, _, _, _, _, .nil, h => h
  | l, _, _, _, Y, .cons (k := k) m nm hs r, h => by
    unfold catchD at h
    split at h
    · rename_i mx
      refine ⟨k.takes x.k, Y.m _ (memK_inv mx) _ (memK_inv m), fun e a oe pn => ?_, fun e => ?_⟩
      · rw [e] at h
        exact hs a oe pn _ _ _ h
      · rw [e] at h
        exact Cls.run Y r h
    · exact h.elim
theorem r1_try {l : List Kd} {body : List Stmt} {h₀ : ExceptHandler} {hds : List ExceptHandler} {vs : List (Value × List Stmt)} {cs : List (Kd × DS)} (C : Cxt X W) (Y : Ecs X.K X.mg l) (c : Cls X l (h₀ :: hds) vs cs)
    (h : ∀ W' pn xe, Cxt (X.tr pn xe) W' → RS (X.tr pn xe) W' body ts) (hs : X.stack = X.env :: X.outer := by rfl) (hf : X.env.frame = some X.env.locals := by rfl) : R1 X W (.Try body (h₀ :: hds) [] [] pos) (sTry l ts cs) := fun ρ Ξ E k =>
  w1_try C hs hf c.hds fun W' pn xe C' => (fun B F H σ env D d dx => h W' pn xe C' ρ _ E k B F H σ env D d fun cls dd x ρ' F2 H2 σ2 hx => dx cls dd x ρ' F2 H2 σ2 (c.run Y hx))

/-! ### loops -/
def sFor (it : DI) (g : DG) (body : DS) : DS := fun ρ Ξ E => it ρ (xat Ξ ρ) fun ds => ∃ I : Nat → List Sl → Prop, I 0 ρ ∧ (∀ i d ρ', ds[i]? = some d → I i ρ' → Go (g d ρ' fun ρ2 => body ρ2 Ξ (E.lp (I (i + 1))))) ∧ ∀ ρ', I ds.length ρ' → Go (E.nx ρ')
theorem WI.mono {Φ Ψ : List PyData → Prop} (h : WI X W ρ tg e Ξ Φ) (k : ∀ d, Φ d → Ψ d) : WI X W ρ tg e Ξ Ψ := fun B F H σ env R q qx => h B F H σ env R (fun J ds F2 H2 z => q J ds F2 H2 (k _ z)) qx
theorem r1_for {it : DI} {g : DG} {body : List Stmt} (C : Cxt X W) (h : RI X W tg e it) (r : RG X tg (fun _ => True) g) (q : RS X W body ts) (hs : ∀ x, foldedSetIterable e X.env x = pure x := by intro _; rfl) : R1 X W (.For tg e body [] pos) (sFor it g ts) := fun ρ Ξ E k =>
  w1_for C ((h _ _ _ k).mono fun ds ⟨I, i0, st, fin⟩ => ⟨I, i0, fun i d ρ' e hI => (r _ _ _ (st i d ρ' e hI)).mono fun ρ2 z => q _ _ _ z, fin⟩) hs
def sWhile (c : DT) (body : DS) : DS := fun ρ Ξ E => ∃ (I : Nat → List Sl → Prop) (m0 : Nat), I m0 ρ ∧ ∀ m ρ', I m ρ' → Go (c ρ' (xat Ξ ρ') fun k => brk k (Go (body ρ' Ξ (E.lp fun ρ2 => ∃ m', m' < m ∧ I m' ρ2))) (Go (E.nx ρ')))
theorem r1_while {body : List Stmt} (C : Cxt X W) (h : RT X W c t) (q : RS X W body ts) : R1 X W (.While c body [] pos) (sWhile t ts) := fun ρ Ξ E ⟨I, m0, i0, st⟩ =>
  w1_while C I m0 i0 fun m ρ' hI => (h _ _ _ (st m ρ' hI)).mono fun b z => ⟨fun e => q _ _ _ (z.t e), fun e => z.f e⟩

/-! ### comprehensions -/
def tsNil : DT := fun _ _ Θ => Θ true
def RTs (X : Cx) (ifs : List Expr) (t : DT) : Prop := ∀ ρ Φ, t ρ X0 Φ → WTs X ρ ifs Φ
theorem rts_nil : RTs X [] tsNil := fun _ _ h => wts_nil h
theorem rts_one (h : RT X W0 c t) : RTs X [c] t := fun _ _ k => wts_one (h _ _ _ k)
/-- a turn of a comprehension -/
def turnD (vs : List Nat) (g : DG) (tt : DT) (te : DE) (ρ : List Sl) (d : PyData) (P1 : PyData → Prop) (P0 : Prop) : Prop :=
  g d (wipeS ρ vs) fun ρ2 => tt ρ2 X0 fun b => brk b (Go (te ρ2 X0 P1)) (Go P0)
/-- the items by an invariant, or each by itself -/
def lcD (turn : PyData → (PyData → Prop) → Prop → Prop) (ds : List PyData) (Ψ : List PyData → Prop) : Prop :=
  (∃ I : Nat → List PyData → Prop, I 0 [] ∧ (∀ i d acc, ds[i]? = some d → I i acc → acc.length < 100000 ∧ Go (turn d (fun y => I (i + 1) (acc ++ [y])) (I (i + 1) acc))) ∧ ∀ acc, I ds.length acc → Go (Ψ acc)) ∨
  (∃ (f : PyData → PyData) (c : PyData → Bool), ds.length ≤ 100000 ∧ (∀ d ∈ ds, Go (turn d (fun y => c d = true ∧ y = f d) (c d = false))) ∧ Go (Ψ ((ds.filter c).map f)))
def kLc (vs : List Nat) (it : DI) (g : DG) (tt : DT) (te : DE) : DK := fun ρ Ξ Φ => it ρ Ξ fun ds => lcD (turnD vs g tt te ρ) ds fun acc => Φ (.own acc)
theorem wts_mono {ifs : List Expr} {Θ Θ' : Bool → Prop} (h : WTs X ρ ifs Θ) (k : ∀ b, Θ b → Θ' b) : WTs X ρ ifs Θ' := by
  match ifs, h with
  | [], h => exact k _ h
  | [c], h => exact WT.mono h k
variable {scope : Scope} {own : List (Str × Nat)} {elt : Expr} {ifs : List Expr} {it : DI} {g : DG} {tt : DT}
theorem lc_turn (hg : ∀ s H C cl fp, Cxt (blkX X scope s H C cl fp) W0 → RG (blkX X scope s H C cl fp) tg (· ∈ own.map (·.2)) g) (ht : ∀ s H C cl fp, Cxt (blkX X scope s H C cl fp) W0 → RTs (blkX X scope s H C cl fp) ifs tt)
    (he : ∀ s H C cl fp, Cxt (blkX X scope s H C cl fp) W0 → RE (blkX X scope s H C cl fp) W0 elt te) {d : PyData} {P1 : PyData → Prop} {P0 : Prop} (h : turnD (own.map (·.2)) g tt te ρ d P1 P0) : LcTurn X scope (own.map (·.2)) (wipeS ρ (own.map (·.2))) tg ifs elt d P1 P0 := fun s H C cl fp Cb =>
  (hg s H C cl fp Cb d _ _ h).mono fun ρ2 z s H C cl fp Cb => wts_mono (ht s H C cl fp Cb _ _ z) fun b z => ⟨fun e s H C cl fp Cb => he s H C cl fp Cb _ _ _ (z.t e), fun e => z.f e⟩
theorem LcTurn.mono {vs : List Nat} {ρ : List Sl} {d : PyData} {P1 P1' : PyData → Prop} {P0 P0' : Prop} (h : LcTurn X scope vs ρ tg ifs elt d P1 P0) (k1 : ∀ y, P1 y → P1' y) (k0 : P0 → P0') : LcTurn X scope vs ρ tg ifs elt d P1' P0' := fun s H C cl fp Cb =>
  (h s H C cl fp Cb).mono fun ρ2 z s H C cl fp Cb => wts_mono (z s H C cl fp Cb) fun b z => ⟨fun e s H C cl fp Cb => (z.1 e s H C cl fp Cb).mono k1, fun e => k0 (z.2 e)⟩
theorem lc_ok (hi : RI X W tg e it) (hg : ∀ s H C cl fp, Cxt (blkX X scope s H C cl fp) W0 → RG (blkX X scope s H C cl fp) tg (· ∈ own.map (·.2)) g) (ht : ∀ s H C cl fp, Cxt (blkX X scope s H C cl fp) W0 → RTs (blkX X scope s H C cl fp) ifs tt)
    (he : ∀ s H C cl fp, Cxt (blkX X scope s H C cl fp) W0 → RE (blkX X scope s H C cl fp) W0 elt te) {Ξ : Exn → Prop} {Φ : Sl → Prop} (h : kLc (own.map (·.2)) it g tt te ρ Ξ Φ) : LcOk X W ρ scope own tg e elt ifs Ξ Φ :=
  (hi _ _ _ h).mono fun ds z => by
    rcases z with ⟨I, i0, st, fin⟩ | ⟨f, c, hl, st, fin⟩
    · exact ⟨I, i0, fun i d acc e hI => ⟨(st i d acc e hI).1, lc_turn hg ht he (st i d acc e hI).2⟩, fin⟩
    · refine ⟨fun i acc => acc = ((ds.take i).filter c).map f, by simp, fun i d acc e hI => ⟨?_, ?_⟩, fun acc hI => ?_⟩
      · have hlt := (List.getElem?_eq_some_iff.mp e).1
        have h1 := List.length_filter_le c (ds.take i)
        rw [hI, List.length_map]
        rw [List.length_take] at h1
        omega
      · have ht' : ds.take (i + 1) = ds.take i ++ [d] := by rw [List.take_add_one, e]; rfl
        have hI : acc = ((ds.take i).filter c).map f := hI
        refine (lc_turn hg ht he (st d (List.mem_of_getElem? e))).mono (fun y q => ?_) (fun q => ?_)
        · show acc ++ [y] = ((ds.take (i + 1)).filter c).map f
          rw [hI, ht', q.2]
          simp [q.1]
        · show acc = ((ds.take (i + 1)).filter c).map f
          rw [hI, ht']
          simp [q]
      · have hI : acc = ((ds.take ds.length).filter c).map f := hI
        rw [hI, List.take_length]
        exact fin
theorem rk_lc (C : Cxt X W) (ok : BlkOk X.N X.env.scope scope own) (hi : RI X W tg e it) (hg : ∀ s H C cl fp, Cxt (blkX X scope s H C cl fp) W0 → RG (blkX X scope s H C cl fp) tg (· ∈ own.map (·.2)) g) (ht : ∀ s H C cl fp, Cxt (blkX X scope s H C cl fp) W0 → RTs (blkX X scope s H C cl fp) ifs tt)
    (he : ∀ s H C cl fp, Cxt (blkX X scope s H C cl fp) W0 → RE (blkX X scope s H C cl fp) W0 elt te) (hs : ∀ x, foldedSetIterable e X.env x = pure x := by intro _; rfl) : RK X W (.ListComp elt [⟨tg, e, ifs, 0⟩] scope pos) (kLc (own.map (·.2)) it g tt te) := fun ρ Ξ Φ h =>
  wk_lc C ok (lc_ok hi hg ht he h) hs
theorem r1_setLc (i : Nat) {x : Str} (C : Cxt X W) (ok : BlkOk X.N X.env.scope scope own) (hi : RI X W tg e it) (hg : ∀ s H C cl fp, Cxt (blkX X scope s H C cl fp) W0 → RG (blkX X scope s H C cl fp) tg (· ∈ own.map (·.2)) g) (ht : ∀ s H C cl fp, Cxt (blkX X scope s H C cl fp) W0 → RTs (blkX X scope s H C cl fp) ifs tt)
    (he : ∀ s H C cl fp, Cxt (blkX X scope s H C cl fp) W0 → RE (blkX X scope s H C cl fp) W0 elt te) (hN : X.N[i]? = some x := by kernel_rfl) (hy : X.env.scope.names.lookup x = some .local := by kernel_rfl)
    (hsw : swapsWith (.ListComp elt [⟨tg, e, ifs, 0⟩] scope p) (some (.Name x px)) pos.line X.env = pure true := by exact sw_true rfl rfl rfl (by decide +kernel))
    (hs : ∀ x, foldedSetIterable e X.env x = pure x := by intro _; rfl) : R1 X W (.Assign [.Name x px] (.ListComp elt [⟨tg, e, ifs, 0⟩] scope p) pos) (sSet i (kLc (own.map (·.2)) it g tt te)) := fun ρ Ξ E h =>
  w1_setLc i C ok (lc_ok hi hg ht he h) hN hy hsw hs

/-! ### the law's draws: an own list of ints becomes them -/
def drwOk : List PyData → Bool
  | .int a :: .int b :: r => decide (0 ≤ a) && (decide (0 ≤ b) && r.all fun d => match d with
    | .int i => decide (0 ≤ i)
    | _ => false)
  | _ => false
end

/-! ### a def by its reading -/
section
variable {P : Program} {w : World} {K : PySem.W.Frag} {mg : Str → Option Value} {base : Heap}
theorem fn_rd {x : Str} {st : Stmt} {N ps : List Str} {k : Nat} {pr : Pr} {t : DS} (F : Fn K mg x st ps) (S : FnScope N ps (defScope st))
    (hq : ∀ (f : Addr) (cdv : Value) (A : Around) (outer : List Env) (s : Shared) (H : Hp) (E : XK), Room k (A.deeper (PyProof.Rows.envOfC x (defScope st) s.heap.objs.size f cdv)) → Cxt (cxOf (L2.CX P w) P w K mg base N x (defScope st) f cdv A outer s H E) (wDef E) →
      RS (cxOf (L2.CX P w) P w K mg base N x (defScope st) f cdv A outer s H E) (wDef E) (defBody st) t)
    (hp : ∀ as Φ Ξ, pr as Φ Ξ → as.length = ps.length ∧ t (slots as N.length) (fun y _ => Ξ y) { nx := fun _ => Φ (.dat .none), rt := Φ }) :
    Def P w K mg base x ps.length (k + 1) pr :=
  fn_def F S (fun as Φ Ξ h => (hp as Φ Ξ h).1) fun f cdv A outer s H E hr C as Φ Ξ h => hq f cdv A outer s H E hr C _ _ _ (hp as Φ Ξ h).2
end
end Mv

set_option maxRecDepth 100000
set_option maxHeartbeats 4000000
/-! further readings -/
namespace Mv
open PySem L2
def isInteger : PyData → Bool
  | .int _ => true
  | _ => false
def isFrom (d : PyData) (lo hi : Int) : Bool := match d with
  | .int i => decide (lo ≤ i) && decide (i ≤ hi)
  | _ => false
theorem isFrom_inv {d : PyData} {lo hi : Int} (h : isFrom d lo hi = true) : ∃ i, d = .int i ∧ lo ≤ i ∧ i ≤ hi := by
  cases d <;> simp [isFrom] at h
  exact ⟨_, rfl, h.1, h.2⟩
def pint (n : Nat) : PyData := .int (n : Int)
theorem ixN_of {n j : Nat} (hj : j < n) : ixN n (j : Int) = some j := by
  unfold ixN
  simp
  omega
theorem at_pint {ns : List Nat} {z : Int} (j : Nat) (hj : j < ns.length) (e : z = (j : Int)) : atI (ns.map pint) z = some (.int (ns.getD j 0 : Nat)) := by
  rw [e]
  exact atI_nat (by simp [List.getD_eq_getElem?_getD, hj, pint])
theorem at_last {ds : List PyData} {d : PyData} {n : Nat} (hn : ds.length = n + 1) (h : ds[n]? = some d) : atI ds (-1) = some d := by
  unfold atI ixN
  rw [if_neg (by omega), if_pos (by omega), hn]
  show ds[((-1 : Int) + ((n + 1 : Nat) : Int)).toNat]? = some d
  rw [show ((-1 : Int) + ((n + 1 : Nat) : Int)).toNat = n by omega]
  exact h
theorem inD_pint {x : Nat} : ∀ {l : List Nat}, inD (.int (x : Int)) (l.map pint) = decide (x ∈ l)
  | [] => by simp [inD]
  | a :: l => by
    have ih := inD_pint (x := x) (l := l)
    unfold inD at ih ⊢
    rw [List.map_cons, List.any_cons, ih]
    have e : PyData.eqv (pint a) (.int (x : Int)) = decide (x = a) := by
      show PyData.eqv (.int (a : Int)) (.int (x : Int)) = _
      simp only [PyData.eqv]
      by_cases h : x = a
      · subst h; simp
      · have : ¬ (a : Int) = (x : Int) := by omega
        simp [h, this]
    rw [e]
    simp [List.mem_cons]
theorem flat_pint : ∀ l : List Nat, (l.map pint).all flatD = true
  | [] => rfl
  | _ :: l => by rw [List.map_cons, List.all_cons, flat_pint l]; rfl
theorem ix_of {n : Nat} {z : Int} (j : Nat) (hj : j < n) (e : z = (j : Int)) : ixN n z = some j := by rw [e]; exact ixN_of hj
section
variable {X : Cx} {W : WX} {a b c e tg : Expr} {es : List Expr} {ta tb tc te : DE} {tk uk vk : DK} {t : DT} {pos p p2 px : Pos} {st : Stmt} {ss : List Stmt} {ts tr : DS} {ρ : List Sl} {Ξ : Exn → Prop} {ra : DA}
/-! -e -/
def eNeg (t : DE) : DE := fun ρ Ξ Φ => t ρ Ξ fun d => asI d fun i => Φ (.int (-i))
theorem re_neg (h : RE X W a ta) : RE X W (.UnaryOp .USub a pos) (eNeg ta) := fun ρ Ξ Φ k B F H σ env Q q qx =>
  wE_of (pe_un un_neg pe_w) (h _ _ _ k B F H σ env _ (fun v d F1 H1 hd st r => by
    obtain ⟨i, rfl, z⟩ := asI_inv hd
    exact ⟨i, r.int_inv, q _ _ F1 H1 z st (.int _)⟩) qx)
theorem re_neg1 {i : Int} {j} (v : Int) (hv : -i = v := by rfl) : RE X W (.UnaryOp .USub (.Constant (.int i) j p) pos) (eC (.int v)) := fun ρ Ξ Φ k => re_neg re_int ρ Ξ Φ (by
  show Φ (.int (-i))
  rw [hv]; exact k)
/-- what is never come to -/
def eNo : DE := fun _ _ _ => False
theorem re_no : RE X W e eNo := fun _ _ _ h => h.elim
def sNo : DS := fun _ _ _ => False
theorem r1_no : R1 X W st sNo := fun _ _ _ h => h.elim
/-! sorted -/
def bSorted : OB := fun ds Φ => match ds with
  | [.list xs] => someK (intsD xs) fun ns => ∀ ns' : List Int, ns'.Perm ns → ns'.Pairwise (· ≤ ·) → Go (Φ (.list (ns'.map .int)))
  | _ => False
theorem re_sorted (C : Cxt X W) (hm : X.mg "sorted" = none) (h : RA X W [e] ra) (hg : X.env.kindOf "sorted" = some .globalImplicit := by kernel_rfl) (hs : isStar e = false := by rfl) : RE X W (.Call (.Name "sorted" p) [e] [] pos) (eB bSorted ra) := re_callB cr_sortedI (fun ds Φ h => by
  unfold bSorted at h
  split at h
  · obtain ⟨ns, e, h1⟩ := someK_inv h
    rw [intsD_inv e]
    intro M F H vs s rs Q q
    obtain ⟨v, rfl, r⟩ := rp1 rs
    obtain ⟨a, xs, rfl, ha, ra⟩ := r.lst_inv
    obtain rfl := ra.ints_inv
    refine ⟨a, ns, rfl, SqL.of (s _ _ ha), fun ns' p h2 h3 hp => ?_⟩
    have st : Step M F H (upd F p (.lst (ns'.map V.int))) (upd H p (.lst (ns'.map V.int))) := Step.frz s hp
    exact q _ _ _ _ (h1 ns' h2 h3) st (.lst upd_same (RpAll.ints _ _ _))
  · exact h.elim) hm bb_sorted h hg (by decide +kernel) hs rfl
/-- a test over own lists for the while -/
def tMelt (i : Nat) (t : DT) : DT := fun ρ Ξ Θ => match nth ρ i with
  | some (.own ds) => t (ρ.set i (.dat (.list ds))) X0 Θ
  | _ => t ρ Ξ Θ
theorem Step.melt {M : Addr → Prop} {F F2 H F3 H3 : Hp} (sub : Same F H) (s2 : Same F F2) (st : Step M F2 H F3 H3) : Step M F H (fun a => if H a = none then F3 a else F a) H3 := ⟨fun a x e => by
    show (if H a = none then F3 a else F a) = some x
    rw [if_neg (by rw [sub a x e]; exact fun z => nomatch z)]; exact e,
  fun a x e => by
    have e' : (if H a = none then F3 a else F a) = some x := e
    by_cases z : H a = none
    · rw [if_pos z] at e'; exact st.sub a x e'
    · rw [if_neg z] at e'; exact st.sub a x (st.fr a x (s2 a x e')),
  st.keep, fun a n => by
    show (if H a = none then F3 a else F a) = F a
    rw [if_neg n], st.alive, st.dr⟩
theorem rt_melt (i : Nat) (h : RT X W e t) : RT X W e (tMelt i t) := fun ρ Ξ Φ k => by
  unfold tMelt at k
  split at k
  · rename_i ds hi
    rw [nth_eq] at hi
    intro B F H σ env Q q qx
    obtain ⟨F2, s2, env2⟩ := env.freeze hi
    exact h _ _ _ k B F2 H σ env2 Q (fun b F3 H3 hd st => q b _ H3 hd (st.melt env.sub s2)) (fun _ _ _ _ _ z => z.elim)
  · exact h _ _ _ k
/-! the law's draws -/
def noOwn (ρ : List Sl) : Bool := ρ.all fun s => !s.isOwn
theorem drwOk_inv {ds : List PyData} (h : drwOk ds = true) : ∃ a b ns, ds = (a :: b :: ns).map PyData.int ∧ 0 ≤ a ∧ 0 ≤ b ∧ ∀ n ∈ ns, (0 : Int) ≤ n := by
  unfold drwOk at h
  split at h
  · rename_i a b r
    simp only [Bool.and_eq_true, decide_eq_true_eq] at h
    obtain ⟨ha, hb, hr⟩ := h
    have all : ∀ r : List PyData, (r.all fun d => match d with
      | .int i => decide (0 ≤ i)
      | _ => false) = true → ∃ ns : List Int, r = ns.map PyData.int ∧ ∀ n ∈ ns, (0 : Int) ≤ n := by
      intro r hr
      induction r with
      | nil => exact ⟨[], rfl, by simp⟩
      | cons d r ih =>
        rw [List.all_cons, Bool.and_eq_true] at hr
        obtain ⟨ns, rfl, h2⟩ := ih hr.2
        cases d with
        | int i =>
          refine ⟨i :: ns, rfl, ?_⟩
          intro n hn
          rcases List.mem_cons.mp hn with rfl | hn
          · exact of_decide_eq_true hr.1
          · exact h2 n hn
        | _ => cases hr.1
    obtain ⟨ns, rfl, h2⟩ := all r hr
    exact ⟨a, b, ns, rfl, ha, hb, h2⟩
  · cases h
def sDrw (i : Nat) (r : DS) : DS := fun ρ _ E => ownK (nth ρ i) fun ds => (drwOk ds = true ∧ noOwn (ρ.set i .drw) = true) ∧ Go (r (ρ.set i .drw) (fun _ _ => False) (En.lp { nx := fun _ => False, rt := E.rt } fun _ => False))
theorem rs_drw (i : Nat) (h : RS X W ss ts) : RS X W ss (sDrw i ts) := fun ρ Ξ E k => by
  obtain ⟨ds, hi, ⟨hd, hn⟩, k⟩ := ownK_inv k
  rw [nth_eq] at hi
  intro B F H σ env D d dx
  obtain ⟨p, vs, e1, hp, fp, h0, nm, ra⟩ := env.sl i _ hi
  obtain ⟨a, b, ns, rfl, ha, hb, hns⟩ := drwOk_inv hd
  obtain rfl := ra.ints_inv
  have hno : ∀ (j : Nat) (s : Sl), (ρ.set i .drw)[j]? = some s → s.isOwn = false := fun j s e => by
    have q := List.all_eq_true.mp hn s (List.mem_of_getElem? e)
    simpa using q
  have env2 : EnvOk X.K { G := F, M := fun q => B.M q ∨ q = p, F0 := F, H0 := H } F H σ (ρ.set i .drw) := by
    refine ⟨Step.refl env.sub, fun q m => ?_, Same.refl F, by rw [List.length_set]; exact env.len, fun j s e => ?_, fun j l s t q n e1 e2 o1 => ?_⟩
    · rcases m with m | rfl
      · exact env.st.alive q (env.mh q m)
      · show H q ≠ none
        rw [hp]; exact fun z => nomatch z
    · by_cases hj : j = i
      · subst hj
        have hlt : j < ρ.length := by
          have := (List.getElem?_eq_some_iff.mp e).1
          rwa [List.length_set] at this
        rw [List.getElem?_set_self hlt] at e
        cases e
        exact ⟨p, e1, .inr rfl, ⟨a, b, ns, ha, hb, hns, hp⟩, fp⟩
      · have no := hno j s e
        rw [List.getElem?_set_ne (Ne.symm hj)] at e
        have z := env.sl j s e
        cases s with
        | dat _ => exact z
        | own _ => cases no
        | odk _ => cases no
        | drw =>
          obtain ⟨q, e2, m, dr, f⟩ := z
          exact ⟨q, e2, .inl m, dr, f⟩
        | scr _ => exact z
        | unk => trivial
    · rw [hno j s e1] at o1
      cases o1
  have older : ∀ q, H q = none → B.H0 q = none := fun q hq => env.fresh0 hq
  have st : ∀ {F2 H2 : Hp}, Step (fun q => B.M q ∨ q = p) F H F2 H2 → Step B.M B.F0 B.H0 F2 H2 := fun {F2 H2} st => {
    fr := env.st.fr.trans st.fr
    sub := st.sub
    keep := fun q o n e => st.keep q o (fun z => by
      rcases z with z | z
      · exact n z
      · rw [z, h0] at e; cases e) (env.st.keep q o n e)
    new := fun q n => (st.new q (env.st.alive q n)).trans (env.st.new q n)
    alive := fun q n => st.alive q (env.st.alive q n)
    dr := fun q m dr => st.dr q (.inl m) (env.st.dr q m dr) }
  exact h _ _ _ k _ F H σ env2 D ⟨fun _ _ _ _ z => z.elim, fun v s F2 H2 z st2 r => d.rt v s F2 H2 z (st st2) (r.older older), fun _ _ _ _ z => z.elim, fun _ _ _ _ z => z.elim⟩ (fun _ _ _ _ _ _ _ z => z.elim)
end
end Mv

set_option maxRecDepth 100000
set_option maxHeartbeats 4000000
/-! further readings: ranges as lists, is True, += -/
namespace Mv
open PySem L2
section
variable {X : Cx} {W : WX} {a b c e tg : Expr} {es : List Expr} {ta tb tc te : DE} {tk uk vk : DK} {t : DT} {pos p p2 px : Pos} {st : Stmt} {ss : List Stmt} {ts tr : DS} {ρ : List Sl} {Ξ : Exn → Prop} {ra : DA}
/-! list(range(..)), tuple(range(..)) -/
theorem rgV_rp {K : PySem.W.Frag} {F : Hp} (a b : Int) : RpAll K F (rgV a b) (rangeD a (b - a).toNat) := by
  unfold rgV rangeD
  generalize List.range (b - a).toNat = l
  induction l with
  | nil => exact .nil
  | cons x l ih => exact .cons (.int _) ih
def rgOk (a b : Int) : Prop := 0 ≤ a ∧ a ≤ 1000000 ∧ b ≤ 1000000 ∧ 0 ≤ b
def kRg (a b : DE) : DK := fun ρ Ξ Φ => a ρ Ξ fun x => b ρ Ξ fun y => asI x fun i => asI y fun j => (0 ≤ i ∧ i ≤ 100000 ∧ j ≤ 100000 ∧ 0 ≤ j) ∧ Go (Φ (.own (rangeD i (j - i).toNat)))
def eRgT (a b : DE) : DE := fun ρ Ξ Φ => a ρ Ξ fun x => b ρ Ξ fun y => asI x fun i => asI y fun j => (0 ≤ i ∧ i ≤ 100000 ∧ j ≤ 100000 ∧ 0 ≤ j) ∧ Go (Φ (.tuple (rangeD i (j - i).toNat)))
theorem rg2_run {B : Base} {F H : Hp} {σ : L2.St} {Ψ : Int → Int → Prop} {R : Int → Int → Hp → Prop} (ha : RE X W a ta) (hb : RE X W b tb) (env : EnvOk X.K B F H σ ρ) (qx : ExE X.K B.M F H W σ Ξ) (h : ta ρ Ξ fun x => tb ρ Ξ fun y => asI x fun i => asI y fun j => Ψ i j)
    (q : ∀ i j F1 H1, Ψ i j → Step B.M F H F1 H1 → R i j H1) : tRg2 (wE X a) (wE X b) σ H R :=
  ha _ _ _ h B F H σ env _ (fun v x F1 H1 hx st1 r1 => hb _ _ _ hx B F1 H1 σ (env.step st1) _ (fun w y F2 H2 hy st2 r2 => by
    obtain ⟨i, rfl, z⟩ := asI_inv hy
    obtain ⟨j, rfl, z⟩ := asI_inv z
    exact ⟨i, j, r1.int_inv, r2.int_inv, q i j F2 H2 z (st1.trans st2)⟩) (qx.step st1)) qx
theorem rk_rg2 (C : Cxt X W) (hm : X.mg "list" = none) (hr : X.mg "range" = none) (ha : RE X W a ta) (hb : RE X W b tb) (hg : X.env.kindOf "list" = some .globalImplicit := by kernel_rfl) (hg2 : X.env.kindOf "range" = some .globalImplicit := by kernel_rfl) (hs : isStar a = false := by rfl) (hs2 : isStar b = false := by rfl) :
    RK X W (.Call (.Name "list" p) [.Call (.Name "range" p2) [a, b] [] px] [] pos) (kRg ta tb) := fun ρ Ξ Φ h B F H σ env Q q qx => by
  refine wE_of (pe_listRg C.calm hg hm (prg_2 hg2 hr pe_w pe_w (star_cons hs) (star_cons hs2) (by rw [star_cons hs2]; rfl))) ?_
  refine rg2_run ha hb env qx h fun i j F1 H1 z st => ⟨RgOk.of_le z.1.1 (by omega) (by omega) z.1.2.2.2, fun l hl => ?_⟩
  exact q _ (.own _) _ _ z.2 (st.trans (Step.own st.sub hl)) ⟨l, _, rfl, st.back l hl, upd_same, none_sub st.sub hl, rgV_rp i j⟩
theorem rk_rg1 (C : Cxt X W) (hm : X.mg "list" = none) (hr : X.mg "range" = none) (ha : RE X W a ta) (hg : X.env.kindOf "list" = some .globalImplicit := by kernel_rfl) (hg2 : X.env.kindOf "range" = some .globalImplicit := by kernel_rfl) (hs : isStar a = false := by rfl) :
    RK X W (.Call (.Name "list" p) [.Call (.Name "range" p2) [a] [] px] [] pos) (kRg (eC (.int 0)) ta) := fun ρ Ξ Φ h B F H σ env Q q qx => by
  refine wE_of (pe_listRg C.calm hg hm (prg_1 hg2 hr pe_w (star_cons hs))) ?_
  refine ha _ _ _ h B F H σ env _ (fun v x F1 H1 hx st r1 => ?_) qx
  obtain ⟨i, e0, z⟩ := asI_inv hx
  cases e0
  obtain ⟨j, rfl, z⟩ := asI_inv z
  refine ⟨j, r1.int_inv, RgOk.of_le z.1.1 (by omega) (by omega) z.1.2.2.2, fun l hl => ?_⟩
  exact q _ (.own _) _ _ z.2 (st.trans (Step.own st.sub hl)) ⟨l, _, rfl, st.back l hl, upd_same, none_sub st.sub hl, rgV_rp 0 j⟩
theorem re_rgT2 (C : Cxt X W) (hm : X.mg "tuple" = none) (hr : X.mg "range" = none) (ha : RE X W a ta) (hb : RE X W b tb) (hg : X.env.kindOf "tuple" = some .globalImplicit := by kernel_rfl) (hg2 : X.env.kindOf "range" = some .globalImplicit := by kernel_rfl) (hs : isStar a = false := by rfl) (hs2 : isStar b = false := by rfl) :
    RE X W (.Call (.Name "tuple" p) [.Call (.Name "range" p2) [a, b] [] px] [] pos) (eRgT ta tb) := fun ρ Ξ Φ h B F H σ env Q q qx => by
  refine wE_of (pe_tupRg C.calm hg hm (prg_2 hg2 hr pe_w pe_w (star_cons hs) (star_cons hs2) (by rw [star_cons hs2]; rfl))) ?_
  refine rg2_run ha hb env qx h fun i j F1 H1 z st => ⟨RgOk.of_le z.1.1 (by omega) (by omega) z.1.2.2.2, fun l hl => ?_⟩
  have st2 : Step B.M F1 H1 (upd F1 l (.tup (rgV i j))) (upd H1 l (.tup (rgV i j))) := Step.frz st.sub hl
  exact q _ _ _ _ z.2 (st.trans st2) (.tup (SqT.of upd_same) (rgV_rp i j))
/-! is True -/
def eIsT (n : Bool) (a : DE) : DE := fun ρ Ξ Φ => a ρ Ξ fun d => match d with
  | .bool b => Φ (.bool (if n then !b else b))
  | .none => Φ (.bool n)
  | .int _ => Φ (.bool n)
  | _ => False
end
/-! == of like data -/
/-- data without dicts, n deep at most, texts of plain signs -/
def goodD : Nat → PyData → Bool
  | _, .none => true
  | _, .bool _ => true
  | _, .int _ => true
  | _, .str x => PyData.strOk x
  | n + 1, .tuple ds => ds.all (goodD n)
  | n + 1, .list ds => ds.all (goodD n)
  | _, _ => false
theorem goodAll {n : Nat} {ds : List PyData} (ih : ∀ d, goodD n d = true → noDict d = true ∧ d.canLay0 = true ∧ d.depth ≤ n ∧ PyData.eqv d d = true) : ds.all (goodD n) = true → noDictAll ds = true ∧ PyData.canLayAll0 ds = true ∧ PyData.depthAll ds ≤ n ∧ PyData.eqvAll ds ds = true := by
  induction ds with
  | nil => intro _; simp [noDictAll, PyData.canLayAll0, PyData.depthAll, PyData.eqvAll]
  | cons d ds ih2 =>
    intro h
    rw [List.all_cons, Bool.and_eq_true] at h
    obtain ⟨h1, h2, h3, h4⟩ := ih d h.1
    obtain ⟨k1, k2, k3, k4⟩ := ih2 h.2
    simp [noDictAll, PyData.canLayAll0, PyData.depthAll, PyData.eqvAll, h1, h2, h4, k1, k2, k4]
    omega
theorem good_all : ∀ (n : Nat) (d : PyData), goodD n d = true → noDict d = true ∧ d.canLay0 = true ∧ d.depth ≤ n ∧ PyData.eqv d d = true
  | n, .none, _ => by simp [noDict, PyData.canLay0, PyData.depth, PyData.eqv]
  | n, .bool _, _ => by simp [noDict, PyData.canLay0, PyData.depth, PyData.eqv]
  | n, .int _, _ => by simp [noDict, PyData.canLay0, PyData.depth, PyData.eqv]
  | n, .str x, h => by
    have h' : PyData.strOk x = true := by cases n <;> exact h
    simp [noDict, PyData.canLay0, PyData.depth, PyData.eqv, h']
  | 0, .list ds, h => by cases h
  | 0, .tuple ds, h => by cases h
  | n + 1, .list ds, h => by
    obtain ⟨h1, h2, h3, h4⟩ := goodAll (good_all n) (show ds.all (goodD n) = true from h)
    simp [noDict, PyData.canLay0, PyData.depth, PyData.eqv, h1, h2, h4]
    omega
  | n + 1, .tuple ds, h => by
    obtain ⟨h1, h2, h3, h4⟩ := goodAll (good_all n) (show ds.all (goodD n) = true from h)
    simp [noDict, PyData.canLay0, PyData.depth, PyData.eqv, h1, h2, h4]
    omega
  | 0, .dict _, h => by cases h
  | _ + 1, .dict _, h => by cases h
theorem good_eq {x y : PyData} (hx : goodD 8 x = true) (hy : goodD 8 y = true) : noDict x = true ∧ noDict y = true ∧ SeqAt.shaped x = true ∧ SeqAt.shaped y = true := by
  obtain ⟨h1, h2, h3, _⟩ := good_all 8 x hx
  obtain ⟨k1, k2, k3, _⟩ := good_all 8 y hy
  refine ⟨h1, k1, ?_, ?_⟩
  · unfold SeqAt.shaped
    rw [h2, decide_eq_true (by omega)]; rfl
  · unfold SeqAt.shaped
    rw [k2, decide_eq_true (by omega)]; rfl
theorem eqK_same {neg : Bool} {d : PyData} {Φ : PyData → Prop} (h : goodD 8 d = true) (k : Φ (.bool (!neg))) : eqK neg d d Φ := by
  obtain ⟨_, _, _, e⟩ := good_all 8 d h
  refine eqK_mk (good_eq h h) ?_
  rw [e]
  cases neg <;> exact k
theorem eqK_b {neg : Bool} {x y : PyData} {Φ : PyData → Prop} (b : Bool) (hx : goodD 8 x = true) (hy : goodD 8 y = true) (e : PyData.eqv x y = b) (k : Φ (.bool (if neg then !b else b))) : eqK neg x y Φ := by
  refine eqK_mk (good_eq hx hy) ?_
  rw [e]
  exact k
theorem good_pint (n : Nat) : ∀ l : List Nat, (l.map pint).all (goodD n) = true
  | [] => rfl
  | _ :: l => by
    rw [List.map_cons, List.all_cons, good_pint n l]
    cases n <;> rfl
theorem rangeD_pint (a n : Nat) : rangeD (a : Int) n = ((List.range n).map (a + ·)).map pint := by
  unfold rangeD
  rw [List.map_map]
  refine List.map_congr_left fun i _ => ?_
  show PyData.int _ = PyData.int _
  simp
theorem rangeD0_pint (n : Nat) : rangeD 0 n = (List.range n).map pint := by
  have := rangeD_pint 0 n
  simp only [Nat.zero_add, List.map_id'] at this
  exact this
/-- what a def gives: data or an error -/
inductive Res where
  | ok (d : PyData)
  | err (x : Exn)
@[irreducible] def resK (r : Res) (Φ : PyData → Prop) (Ξ : Exn → Prop) : Prop := match r with
  | .ok d => Φ d
  | .err x => Ξ x
theorem resK_ok {r : Res} {Φ : PyData → Prop} {Ξ : Exn → Prop} {d : PyData} (e : r = .ok d) (k : Go (Φ d)) : resK r Φ Ξ := by
  subst e; unfold resK; exact k
theorem resK_err {r : Res} {Φ : PyData → Prop} {Ξ : Exn → Prop} {x : Exn} (e : r = .err x) (k : Go (Ξ x)) : resK r Φ Ξ := by
  subst e; unfold resK; exact k
theorem resK_okI {r : Res} {Φ : PyData → Prop} {Ξ : Exn → Prop} {d : PyData} (h : resK r Φ Ξ) (e : r = .ok d) : Φ d := by
  subst e; unfold resK at h; exact h
theorem resK_errI {r : Res} {Φ : PyData → Prop} {Ξ : Exn → Prop} {x : Exn} (h : resK r Φ Ξ) (e : r = .err x) : Ξ x := by
  subst e; unfold resK at h; exact h
def natD : PyData → Nat
  | .int i => i.toNat
  | _ => 0
section
variable {P : Program} {w : World} {K : PySem.W.Frag} {mg : Str → Option Value} {base : Heap}
/-- the law's own def, its object given -/
theorem fn_rdL {x : Str} {st : Stmt} {N ps : List Str} {k : Nat} {pr : Pr} {t : DS} {f : Addr} {fd : FuncData} (F : Fun K x x st f fd) (S : FnScope N ps (defScope st))
    (hq : ∀ (f : Addr) (cdv : Value) (A : Around) (outer : List Env) (s : Shared) (H : Hp) (E : XK), Room k (A.deeper (PyProof.Rows.envOfC x (defScope st) s.heap.objs.size f cdv)) → Cxt (cxOf (L2.CX P w) P w K mg base N x (defScope st) f cdv A outer s H E) (wDef E) →
      RS (cxOf (L2.CX P w) P w K mg base N x (defScope st) f cdv A outer s H E) (wDef E) (defBody st) t)
    (hp : ∀ as Φ Ξ, pr as Φ Ξ → as.length = ps.length ∧ t (slots as N.length) (fun y _ => Ξ y) { nx := fun _ => Φ (.dat .none), rt := Φ }) :
    FnOk P w K mg base (L2.CX P w) (k + 1) f fd ps (spd K pr) := by
  refine F.okX S (fun vs H Q E h => ?_) fun cdv A outer s H vs Q E hr h => ?_
  · obtain ⟨M, F0, as, Φ, Ξ, _, _, ra, hpr, _⟩ := h
    rw [ag_len ra]
    exact (hp _ _ _ hpr).1
  · obtain ⟨M, F0, as, Φ, Ξ, sf, hM, ra, hpr, q, qx⟩ := h
    have C : Cxt (cxOf (L2.CX P w) P w K mg base N x (defScope st) f cdv A outer s H E) (wDef E) := ⟨takes_of rfl rfl rfl rfl, passes_of rfl, rfl, S.nd, hr.units⟩
    refine ⟨_, pss_w, hq f cdv A outer s H E hr C _ _ _ (hp as Φ Ξ hpr).2 ⟨F0, M, F0, H⟩ F0 H _ (env_start sf hM ra) _ ⟨fun ρ F2 H2 σ hn env => ?_, fun v t F2 H2 hs st r => q v t F2 H2 hs st r, fun _ _ _ _ z => z.elim, fun _ _ _ _ z => z.elim⟩ ?_⟩
    · exact q _ (.dat .none) F2 H2 hn env.st Rp.non
    · exact fun cls dd y ρ F2 H2 σ hy env r => qx cls dd y F2 H2 hy env.st r
/-- a def that raises nothing -/
theorem fn_calm {f : Addr} {fd : FuncData} {ps : List Str} {k : Nat} {sp : Sp} (F : FnOk P w K mg base (L2.CX P w) k f fd ps sp) : FnOk P w K mg base L2.CX0 k f fd ps (fun vs H Q _ => sp vs H Q fun _ _ _ => False) where
  len := fun vs H Q E h => F.len vs H Q _ h
  run := fun A outer s H args us vs Q E hr he hb hv hs => PySem.codeAny_mono (F.run A outer s H args us vs Q _ hr he hb hv hs) fun r s' h => by
    match r, h with
    | .ok (.ret u), h => exact h
    | .error e, h =>
      obtain ⟨a, B, H', cls, d, _, _, _, _, _, _, _, z⟩ := h
      exact z.elim
/-- what a law is asked -/
theorem law_end {H : Hp} {a : Addr} {ns : List Int} (hs : SqL K H a (ns.map V.int)) (pr : Pr) (h : pr [.scr ns] (fun s => s = .dat (.bool true)) (fun _ => False)) : spd K pr [.ref a] H (fun v _ => v = .bl true) fun _ _ _ => False := by
  refine ⟨fun _ => False, H, [.scr ns], _, _, fun _ _ e => e, fun _ z => z.elim, .cons ⟨a, rfl, hs⟩ .nil, h, fun v s F2 H2 e st r => ?_, fun _ _ _ _ _ z => z.elim⟩
  subst e
  exact Rp.bl_inv r
/-- a def as the head tells it -/
theorem fn_of_head {x : Str} {st : Stmt} {ps : List Str} {f : Addr} {fd : FuncData} (F : FunD K x x (defArgs st) (defBody st) (defScope st) [] [] f fd) (hm : mg x = some (.ref f))
    (h : ∀ (kV doc pm : Value) (an : Option Addr) (cdv ct : Value) (us : List Value), us.length = ps.length → bindArgs (PySem.W.fnOf x x (defArgs st) (defBody st) (defScope st) .none kV doc pm an cdv ct) ⟨us, []⟩ = pure (ps.zip us)) : Fn K mg x st ps := by
  refine ⟨f, fd, ?_, hm, F.bindsN h⟩
  obtain ⟨oc, od, dV, kV, doc, pm, an, cdv, ct, osl, e, lk, hcd, hD, hK⟩ := F.ex
  rcases hD with ⟨_, rfl⟩ | ⟨e, _⟩
  · exact ⟨⟨oc, od, kV, doc, pm, an, cdv, ct, osl, e, lk, hcd⟩, F.kp⟩
  · exact absurd rfl e
theorem fun_of_head {x : Str} {st : Stmt} {f : Addr} {fd : FuncData} (F : FunD K x x (defArgs st) (defBody st) (defScope st) [] [] f fd) : Fun K x x st f fd := by
  obtain ⟨oc, od, dV, kV, doc, pm, an, cdv, ct, osl, e, lk, hcd, hD, hK⟩ := F.ex
  rcases hD with ⟨_, rfl⟩ | ⟨e, _⟩
  · exact ⟨⟨oc, od, kV, doc, pm, an, cdv, ct, osl, e, lk, hcd⟩, F.kp⟩
  · exact absurd rfl e
theorem says_mem {fa : List He.Fa} {fn : List He.DefD} (c : He.SaysD fa fn K) {f : He.Fa} (h : f ∈ fa) : f.ok K = true := by
  have c1 := (He.ba (show ((fa.all fun f => f.ok K) && fn.all fun d => d.ok K) = true from congrArg (fun z : He.AlD => z.1) c)).1
  exact List.all_eq_true.mp c1 f h
/-- the facts of error classes -/
def faErr (l : List Kd) : List He.Fa := (l.map fun k => .glo k.nm) ++ l.flatMap fun a => l.map fun b => .exm a.nm b.nm (b.takes a)
theorem ecs_of {h : Heap} (X : K.In h) (G : h.Ns mainGlobals mg) {fa : List He.Fa} {fn : List He.DefD} (c : He.SaysD fa fn K) {l : List Kd} (hl : ∀ f ∈ faErr l, f ∈ fa) : Ecs K mg l where
  g := fun k hk => He.glo_ok X G (says_mem c (hl _ (List.mem_append_left _ (List.mem_map_of_mem (f := fun k : Kd => He.Fa.glo k.nm) hk))))
  m := fun a ha b hb => He.exm_ok (says_mem c (hl _ (List.mem_append_right _ (List.mem_flatMap.mpr ⟨a, ha, List.mem_map_of_mem (f := fun b : Kd => He.Fa.exm a.nm b.nm (b.takes a)) hb⟩))))
theorem excK_of {h : Heap} (X : K.In h) (G : h.Ns mainGlobals mg) {k : Kd} (g : (He.Fa.glo k.nm).ok K = true) (c : (He.Fa.exc k.nm).ok K = true) : ExcK K mg k := by
  obtain ⟨h1, h2, h3, h4⟩ := He.exc_ok c
  exact ⟨He.glo_ok X G g, h1, h2, h3, h4⟩
end
end Mv

/-! a stretch turned about, exchange by exchange -/
namespace Mv
def turn1 (lo hi k : Nat) (r : List Nat × Nat) : List Nat × Nat :=
    if lo + k < hi - 1 - k then ((r.1.set (lo + k) (r.1.getD (hi - 1 - k) 0)).set (hi - 1 - k) (r.1.getD (lo + k) 0), r.2 + 1) else r
def turnN (lo hi : Nat) (ns : List Nat) : Nat → List Nat × Nat
  | 0 => (ns, 0)
  | k + 1 => turn1 lo hi k (turnN lo hi ns k)
theorem turnN_len (lo hi : Nat) (ns : List Nat) : ∀ k, (turnN lo hi ns k).1.length = ns.length
  | 0 => rfl
  | k + 1 => by
    have := turnN_len lo hi ns k
    rw [turnN, turn1]
    split <;> simp [this]
theorem turnN_many (lo hi : Nat) (ns : List Nat) : ∀ k, (turnN lo hi ns k).2 ≤ k
  | 0 => Nat.le_refl _
  | k + 1 => by
    have := turnN_many lo hi ns k
    rw [turnN, turn1]
    split <;> simp <;> omega
theorem turnN_count (lo hi : Nat) (ns : List Nat) : ∀ k, k ≤ hi - lo → (turnN lo hi ns k).2 = min k ((hi - lo) / 2)
  | 0, _ => by simp [turnN]
  | k + 1, h => by
    have := turnN_count lo hi ns k (by omega)
    rw [turnN, turn1]
    split
    · show (turnN lo hi ns k).2 + 1 = _
      omega
    · omega
theorem getD_set {l : List Nat} {i j v : Nat} (hi : i < l.length) : (l.set i v).getD j 0 = if j = i then v else l.getD j 0 := by
  rw [List.getD_eq_getElem?_getD, List.getD_eq_getElem?_getD, List.getElem?_set]
  by_cases h : i = j
  · subst h
    simp [hi]
  · rw [if_neg h, if_neg (Ne.symm h)]
theorem turnN_at (lo hi : Nat) (ns : List Nat) (hn : hi ≤ ns.length) : ∀ k, k ≤ hi - lo → ∀ i, (turnN lo hi ns k).1.getD i 0 = if lo ≤ i ∧ i < hi ∧ (i < lo + k ∨ hi ≤ i + k) then ns.getD (lo + hi - 1 - i) 0 else ns.getD i 0
  | 0, _, i => by
    rw [if_neg (by omega)]; rfl
  | k + 1, h, i => by
    have ih := turnN_at lo hi ns hn k (by omega)
    have hl := turnN_len lo hi ns k
    rw [turnN, turn1]
    split
    · rename_i hlt
      show (((turnN lo hi ns k).1.set (lo + k) ((turnN lo hi ns k).1.getD (hi - 1 - k) 0)).set (hi - 1 - k) ((turnN lo hi ns k).1.getD (lo + k) 0)).getD i 0 = _
      rw [getD_set (by simp; omega), getD_set (by omega)]
      by_cases h1 : i = hi - 1 - k
      · rw [if_pos h1, ih, if_neg (by omega), if_pos (by omega)]
        congr 1; omega
      · rw [if_neg h1]
        by_cases h2 : i = lo + k
        · rw [if_pos h2, ih, if_neg (by omega), if_pos (by omega)]
          congr 1; omega
        · rw [if_neg h2, ih]
          by_cases h3 : lo ≤ i ∧ i < hi ∧ (i < lo + k ∨ hi ≤ i + k)
          · rw [if_pos h3, if_pos (by omega)]
          · rw [if_neg h3, if_neg (by omega)]
    · rename_i hge
      rw [ih]
      by_cases h3 : lo ≤ i ∧ i < hi ∧ (i < lo + k ∨ hi ≤ i + k)
      · rw [if_pos h3, if_pos (by omega)]
      · rw [if_neg h3]
        by_cases h4 : lo ≤ i ∧ i < hi ∧ (i < lo + (k + 1) ∨ hi ≤ i + (k + 1))
        · rw [if_pos h4]
          congr 1; omega
        · rw [if_neg h4]
/-- the whole stretch -/
theorem turnAll_at (lo hi : Nat) (ns : List Nat) (hn : hi ≤ ns.length) (i : Nat) : (turnN lo hi ns (hi - lo)).1.getD i 0 = if lo ≤ i ∧ i < hi then ns.getD (lo + hi - 1 - i) 0 else ns.getD i 0 := by
  rw [turnN_at lo hi ns hn _ (Nat.le_refl _)]
  by_cases h : lo ≤ i ∧ i < hi
  · rw [if_pos h, if_pos (by omega)]
  · rw [if_neg h, if_neg (by omega)]
theorem list_eq_getD {l m : List Nat} (hl : l.length = m.length) (h : ∀ i, i < l.length → l.getD i 0 = m.getD i 0) : l = m := by
  refine List.ext_getElem hl fun i h1 h2 => ?_
  have := h i h1
  simpa [List.getD_eq_getElem?_getD, h1, h2] using this
/-- both blocks turned about, then the whole: they have changed places -/
theorem turned_thrice (a b : Nat) : (turnN 0 (a + b) (turnN a (a + b) (turnN 0 a (List.range (a + b)) (a - 0)).1 (a + b - a)).1 (a + b - 0)).1 = (List.range b).map (a + ·) ++ List.range a := by
  have r : ∀ i, i < a + b → (List.range (a + b)).getD i 0 = i := fun i hi => by simp [List.getD_eq_getElem?_getD, hi]
  refine list_eq_getD (by rw [turnN_len, turnN_len, turnN_len]; simp; omega) fun i hi => ?_
  rw [turnN_len, turnN_len, turnN_len, List.length_range] at hi
  rw [turnAll_at _ _ _ (by rw [turnN_len, turnN_len]; simp), if_pos ⟨Nat.zero_le _, hi⟩, turnAll_at _ _ _ (by rw [turnN_len]; simp)]
  by_cases h : i < b
  · rw [if_pos (by omega), turnAll_at _ _ _ (by simp), if_neg (by omega), r _ (by omega)]
    rw [List.getD_eq_getElem?_getD, List.getElem?_append_left (by simp; exact h)]
    simp [h]
    omega
  · rw [if_neg (by omega), turnAll_at _ _ _ (by simp), if_pos (by omega), r _ (by omega)]
    rw [List.getD_eq_getElem?_getD, List.getElem?_append_right (by simp; omega)]
    simp [show i - b < a by omega]
    omega
end Mv

/-! rings of a map on 0 .. n - 1 -/
namespace Mv
def iter (f : Nat → Nat) : Nat → Nat → Nat
  | 0, x => x
  | k + 1, x => f (iter f k x)
theorem iter_add (f : Nat → Nat) (x : Nat) (b : Nat) : ∀ a, iter f (a + b) x = iter f a (iter f b x)
  | 0 => by rw [Nat.zero_add]; rfl
  | a + 1 => by rw [Nat.succ_add]; show f _ = f _; rw [iter_add f x b a]
theorem iter_succ' (f : Nat → Nat) (k x : Nat) : iter f (k + 1) x = iter f k (f x) := iter_add f x 1 k
structure PermN (n : Nat) (f : Nat → Nat) : Prop where
  lt : ∀ x, x < n → f x < n
  inj : ∀ x y, x < n → y < n → f x = f y → x = y
/-- no more unlike numbers below n than n -/
theorem nodup_le : ∀ (n : Nat) (l : List Nat), l.Nodup → (∀ x ∈ l, x < n) → l.length ≤ n
  | 0, l, _, h => by
    cases l with
    | nil => exact Nat.le_refl _
    | cons a l => exact absurd (h a List.mem_cons_self) (Nat.not_lt_zero _)
  | n + 1, l, nd, h => by
    have e : (l.erase n).length + 1 ≥ l.length := by
      rw [List.length_erase]
      split <;> omega
    have := nodup_le n (l.erase n) (nd.erase n) fun x hx => by
      have h1 := h x (List.mem_of_mem_erase hx)
      have h2 : x ≠ n := fun z => by
        subst z
        exact (List.Nodup.not_mem_erase nd) hx
      omega
    omega
theorem PermN.iter_lt {n : Nat} {f : Nat → Nat} (P : PermN n f) {x : Nat} (hx : x < n) : ∀ k, iter f k x < n
  | 0 => hx
  | k + 1 => P.lt _ (P.iter_lt hx k)
theorem PermN.iter_inj {n : Nat} {f : Nat → Nat} (P : PermN n f) {x y : Nat} (hx : x < n) (hy : y < n) : ∀ k, iter f k x = iter f k y → x = y
  | 0, e => e
  | k + 1, e => P.iter_inj hx hy k (P.inj _ _ (P.iter_lt hx k) (P.iter_lt hy k) e)
/-- back behind L turns, not ahead of them -/
structure Back (f : Nat → Nat) (x L : Nat) : Prop where
  pos : 0 < L
  back : iter f L x = x
  least : ∀ k, 0 < k → k < L → iter f k x ≠ x
theorem Back.mul {f : Nat → Nat} {x L : Nat} (B : Back f x L) : ∀ k, iter f (k * L) x = x
  | 0 => by rw [Nat.zero_mul]; rfl
  | k + 1 => by rw [Nat.succ_mul, iter_add, B.back, B.mul k]
theorem Back.mod {f : Nat → Nat} {x L : Nat} (B : Back f x L) (k : Nat) : iter f k x = iter f (k % L) x := by
  have e : k = k % L + k / L * L := by rw [Nat.mul_comm]; exact (Nat.mod_add_div k L).symm
  conv => lhs; rw [e]
  rw [iter_add, B.mul]
theorem Back.dvd {f : Nat → Nat} {x L : Nat} (B : Back f x L) (k : Nat) : iter f k x = x ↔ L ∣ k := by
  rw [B.mod k]
  refine ⟨fun h => ?_, fun h => by rw [Nat.mod_eq_zero_of_dvd h]; rfl⟩
  refine Nat.dvd_of_mod_eq_zero ?_
  by_cases z : k % L = 0
  · exact z
  · exact absurd h (B.least _ (Nat.pos_of_ne_zero z) (Nat.mod_lt _ B.pos))
theorem Back.uniq {f : Nat → Nat} {x L L' : Nat} (B : Back f x L) (B' : Back f x L') : L = L' :=
  Nat.dvd_antisymm ((B.dvd L').mp B'.back) ((B'.dvd L).mp B.back)
/-- each turn of the ring is another place -/
theorem Back.inj {n : Nat} {f : Nat → Nat} {x L : Nat} (P : PermN n f) (hx : x < n) (B : Back f x L) {i j : Nat} (hi : i < L) (hj : j < L) (e : iter f i x = iter f j x) : i = j := by
  have key : ∀ {i j : Nat}, i ≤ j → j < L → iter f i x = iter f j x → i = j := fun {i j} hij hj e => by
    obtain ⟨d, rfl⟩ := Nat.le.dest hij
    rw [iter_add f x d i] at e
    have e2 := P.iter_inj hx (P.iter_lt hx d) i e
    by_cases z : d = 0
    · omega
    · exact absurd e2.symm (B.least d (by omega) (by omega))
  rcases Nat.le_total i j with h | h
  · exact key h hj e
  · exact (key h hi e.symm).symm
def ringL (f : Nat → Nat) (x L : Nat) : List Nat := (List.range L).map fun k => iter f k x
theorem ringL_len (f : Nat → Nat) (x L : Nat) : (ringL f x L).length = L := by simp [ringL]
theorem ringL_at {f : Nat → Nat} {x L k : Nat} (hk : k < L) : (ringL f x L)[k]? = some (iter f k x) := by
  simp [ringL, hk]
theorem ringL_succ (f : Nat → Nat) (x L : Nat) : ringL f x (L + 1) = ringL f x L ++ [iter f L x] := by
  simp [ringL, List.range_succ]
theorem Back.nodup {n : Nat} {f : Nat → Nat} {x L : Nat} (P : PermN n f) (hx : x < n) (B : Back f x L) : (ringL f x L).Nodup := by
  unfold ringL
  rw [List.Nodup, List.pairwise_map]
  refine (List.nodup_range (n := L)).imp_of_mem ?_
  intro a b ha hb hab e
  exact hab (B.inj P hx (List.mem_range.mp ha) (List.mem_range.mp hb) e)
theorem Back.le {n : Nat} {f : Nat → Nat} {x L : Nat} (P : PermN n f) (hx : x < n) (B : Back f x L) : L ≤ n := by
  have := nodup_le n (ringL f x L) (B.nodup P hx) fun y hy => by
    obtain ⟨k, _, rfl⟩ := List.mem_map.mp hy
    exact P.iter_lt hx k
  rwa [ringL_len] at this
/-- every place is back some time -/
theorem PermN.back {n : Nat} {f : Nat → Nat} (P : PermN n f) {x : Nat} (hx : x < n) : ∃ L, Back f x L := by
  have some : ∃ k, 0 < k ∧ iter f k x = x := by
    apply Classical.byContradiction
    intro no
    have nd : (ringL f x (n + 1)).Nodup := by
      unfold ringL
      rw [List.Nodup, List.pairwise_map]
      refine (List.nodup_range (n := n + 1)).imp_of_mem ?_
      intro a b _ _ hab e
      have key : ∀ {i j : Nat}, i ≤ j → i ≠ j → iter f i x = iter f j x → False := fun {i j} hij hne e => by
        obtain ⟨d, rfl⟩ := Nat.le.dest hij
        rw [iter_add f x d i] at e
        exact no ⟨d, by omega, (P.iter_inj hx (P.iter_lt hx d) i e).symm⟩
      rcases Nat.le_total a b with h | h
      · exact key h hab e
      · exact key h (Ne.symm hab) e.symm
    have := nodup_le n _ nd fun y hy => by
      obtain ⟨k, _, rfl⟩ := List.mem_map.mp hy
      exact P.iter_lt hx k
    rw [ringL_len] at this
    omega
  -- the least
  obtain ⟨k, hk⟩ := some
  induction k using Nat.strongRecOn with
  | ind k ih =>
    by_cases h : ∃ j, j < k ∧ 0 < j ∧ iter f j x = x
    · obtain ⟨j, h1, h2⟩ := h
      exact ih j h1 h2
    · exact ⟨k, hk.1, hk.2, fun j h1 h2 e => h ⟨j, h2, h1, e⟩⟩
/-- a ring's places have rings of the same length -/
theorem Back.shift {n : Nat} {f : Nat → Nat} {x L : Nat} (P : PermN n f) (hx : x < n) (B : Back f x L) (k : Nat) : Back f (iter f k x) L where
  pos := B.pos
  back := by rw [← iter_add, Nat.add_comm, iter_add, B.back]
  least := fun j h1 h2 e => by
    rw [← iter_add, Nat.add_comm, iter_add] at e
    exact B.least j h1 h2 (P.iter_inj (P.iter_lt hx j) hx k e)

/-! blocks that change places: x goes to (x + s) % n -/
def addN (n s x : Nat) : Nat := (x + s) % n
theorem addN_iter {n s x : Nat} (hx : x < n) : ∀ k, iter (addN n s) k x = (x + k * s) % n
  | 0 => by rw [Nat.zero_mul, Nat.add_zero, Nat.mod_eq_of_lt hx]; rfl
  | k + 1 => by
    show addN n s (iter (addN n s) k x) = _
    rw [addN_iter hx k, addN, Nat.mod_add_mod, Nat.succ_mul, Nat.add_assoc]
theorem addN_perm {n s : Nat} : PermN n (addN n s) := ⟨fun x hx => Nat.mod_lt _ (by omega), fun x y hx hy e => by
  unfold addN at e
  have h : ∀ {x y : Nat}, x < n → y < n → x ≤ y → (x + s) % n = (y + s) % n → x = y := fun {x y} hx hy hxy e => by
    have d : n ∣ (y + s) - (x + s) := Nat.dvd_of_mod_eq_zero (Nat.sub_mod_eq_zero_of_mod_eq e.symm)
    have e2 : (y + s) - (x + s) = y - x := by omega
    rw [e2] at d
    have := Nat.eq_zero_of_dvd_of_lt d (by omega)
    omega
  rcases Nat.le_total x y with h1 | h1
  · exact h hx hy h1 e
  · exact (h hy hx h1 e.symm).symm⟩
theorem dvd_mul_gcd {n s k : Nat} (hn : 0 < n) : n ∣ k * s ↔ n / Nat.gcd n s ∣ k := by
  have g0 : 0 < Nat.gcd n s := Nat.gcd_pos_of_pos_left _ hn
  have e1 : n = n / Nat.gcd n s * Nat.gcd n s := (Nat.div_mul_cancel (Nat.gcd_dvd_left n s)).symm
  have e2 : s = s / Nat.gcd n s * Nat.gcd n s := (Nat.div_mul_cancel (Nat.gcd_dvd_right n s)).symm
  have c : Nat.Coprime (n / Nat.gcd n s) (s / Nat.gcd n s) := Nat.coprime_div_gcd_div_gcd g0
  constructor
  · intro h
    have h2 : n / Nat.gcd n s * Nat.gcd n s ∣ k * (s / Nat.gcd n s) * Nat.gcd n s := by
      rw [← e1, Nat.mul_assoc, ← e2]; exact h
    exact c.dvd_of_dvd_mul_right (Nat.dvd_of_mul_dvd_mul_right g0 h2)
  · intro ⟨d, hd⟩
    refine ⟨d * (s / Nat.gcd n s), ?_⟩
    calc k * s = n / Nat.gcd n s * d * (s / Nat.gcd n s * Nat.gcd n s) := by rw [← hd, ← e2]
      _ = n / Nat.gcd n s * Nat.gcd n s * (d * (s / Nat.gcd n s)) := by ac_rfl
      _ = n * (d * (s / Nat.gcd n s)) := by rw [← e1]
theorem addN_same {n s x k : Nat} (hx : x < n) : (x + k * s) % n = x ↔ n ∣ k * s := by
  have hx' : x % n = x := Nat.mod_eq_of_lt hx
  constructor
  · intro h
    have := Nat.dvd_of_mod_eq_zero (Nat.sub_mod_eq_zero_of_mod_eq (show (x + k * s) % n = x % n by rw [h, hx']))
    have e : x + k * s - x = k * s := by omega
    rwa [e] at this
  · intro ⟨d, hd⟩
    rw [hd, Nat.add_mul_mod_self_left, hx']
theorem addN_back {n s x : Nat} (hx : x < n) : Back (addN n s) x (n / Nat.gcd n s) where
  pos := Nat.div_pos (Nat.le_of_dvd (by omega) (Nat.gcd_dvd_left n s)) (Nat.gcd_pos_of_pos_left _ (by omega))
  back := by rw [addN_iter hx, addN_same hx, dvd_mul_gcd (by omega)]; exact Nat.dvd_refl _
  least := fun k h1 h2 e => by
    rw [addN_iter hx, addN_same hx, dvd_mul_gcd (by omega)] at e
    have := Nat.le_of_dvd h1 e
    omega
end Mv

/-! the rings of two blocks, counted place by place -/
namespace Mv
theorem all_of_nodup {n : Nat} {l : List Nat} (nd : l.Nodup) (lt : ∀ x ∈ l, x < n) (len : n ≤ l.length) : ∀ x, x < n → x ∈ l := fun x hx => by
  apply Classical.byContradiction
  intro no
  have := nodup_le n (x :: l) (List.nodup_cons.mpr ⟨no, nd⟩) fun y hy => by
    rcases List.mem_cons.mp hy with rfl | hy
    · exact hx
    · exact lt y hy
  rw [List.length_cons] at this
  omega
structure Kn (n s p : Nat) (kn : List Nat) : Prop where
  few : p ≤ Nat.gcd n s → kn.Nodup ∧ kn.length = p * (n / Nat.gcd n s)
  all : Nat.gcd n s ≤ p → ∀ x, x < n → x ∈ kn
  res : ∀ x ∈ kn, x < n ∧ ∃ q, q < p ∧ x % Nat.gcd n s = q % Nat.gcd n s
  len : kn.length ≤ p * n
theorem kn_zero {n s : Nat} (hn : 0 < n) : Kn n s 0 [] :=
  ⟨fun _ => ⟨List.nodup_nil, by simp⟩, fun h => absurd (Nat.gcd_pos_of_pos_left s hn) (by omega), fun x h => (by cases h), by simp⟩
theorem ring_res {n s p : Nat} (hp : p < n) {x : Nat} (h : x ∈ ringL (addN n s) p (n / Nat.gcd n s)) : x < n ∧ x % Nat.gcd n s = p % Nat.gcd n s := by
  obtain ⟨k, _, rfl⟩ := List.mem_map.mp h
  rw [addN_iter hp]
  refine ⟨Nat.mod_lt _ (by omega), ?_⟩
  rw [Nat.mod_mod_of_dvd _ (Nat.gcd_dvd_left n s)]
  obtain ⟨d, hd⟩ := Nat.gcd_dvd_right n s
  have : k * s = Nat.gcd n s * (k * d) := by
    conv => lhs; rw [hd]
    ac_rfl
  rw [this, Nat.add_mul_mod_self_left]
theorem Kn.next {n s p : Nat} {kn : List Nat} (hp : p < n) (h : Kn n s p kn) : Kn n s (p + 1) (kn ++ ringL (addN n s) p (n / Nat.gcd n s)) := by
  have g0 : 0 < Nat.gcd n s := Nat.gcd_pos_of_pos_left _ (by omega)
  have few : p + 1 ≤ Nat.gcd n s → (kn ++ ringL (addN n s) p (n / Nat.gcd n s)).Nodup ∧ (kn ++ ringL (addN n s) p (n / Nat.gcd n s)).length = (p + 1) * (n / Nat.gcd n s) := fun hg => by
    obtain ⟨nd, len⟩ := h.few (by omega)
    refine ⟨List.nodup_append.mpr ⟨nd, (addN_back hp).nodup addN_perm hp, fun a ha b hb e => ?_⟩, ?_⟩
    · subst e
      obtain ⟨_, q, hq, e1⟩ := h.res a ha
      have e2 := (ring_res hp hb).2
      rw [e1, Nat.mod_eq_of_lt (by omega), Nat.mod_eq_of_lt (by omega)] at e2
      omega
    · rw [List.length_append, len, ringL_len, Nat.succ_mul]
  have res : ∀ x ∈ kn ++ ringL (addN n s) p (n / Nat.gcd n s), x < n ∧ ∃ q, q < p + 1 ∧ x % Nat.gcd n s = q % Nat.gcd n s := fun x hx => by
    rcases List.mem_append.mp hx with hx | hx
    · obtain ⟨h1, q, h2, h3⟩ := h.res x hx
      exact ⟨h1, q, by omega, h3⟩
    · exact ⟨(ring_res hp hx).1, p, by omega, (ring_res hp hx).2⟩
  refine ⟨few, fun hg x hx => ?_, res, ?_⟩
  · by_cases z : Nat.gcd n s ≤ p
    · exact List.mem_append_left _ (h.all z x hx)
    · have e : p + 1 = Nat.gcd n s := by omega
      obtain ⟨nd, len⟩ := few (by omega)
      refine all_of_nodup nd (fun y hy => (res y hy).1) ?_ x hx
      rw [len, e, Nat.mul_div_cancel' (Nat.gcd_dvd_left n s)]
      exact Nat.le_refl _
  · rw [List.length_append, ringL_len, Nat.succ_mul]
    have := h.len
    have := Nat.div_le_self n (Nat.gcd n s)
    omega
/-- a place is new just below the divisor -/
theorem Kn.new {n s p : Nat} {kn : List Nat} (hp : p < n) (h : Kn n s p kn) : p ∈ kn ↔ Nat.gcd n s ≤ p := by
  refine ⟨fun hm => ?_, fun hg => h.all hg p hp⟩
  apply Classical.byContradiction
  intro z
  obtain ⟨_, q, hq, e⟩ := h.res p hm
  rw [Nat.mod_eq_of_lt (by omega), Nat.mod_eq_of_lt (by omega)] at e
  omega
def ringMoves (n s p : Nat) : Nat := min p (Nat.gcd n s) * (if 1 < n / Nat.gcd n s then n / Nat.gcd n s + 1 else 0)
theorem ringMoves_zero (n s : Nat) : ringMoves n s 0 = 0 := by simp [ringMoves]
theorem ringMoves_succ {n s p : Nat} : ringMoves n s (p + 1) = ringMoves n s p + (if p < Nat.gcd n s ∧ 1 < n / Nat.gcd n s then n / Nat.gcd n s + 1 else 0) := by
  unfold ringMoves
  by_cases h : p < Nat.gcd n s
  · rw [Nat.min_eq_left (by omega), Nat.min_eq_left (by omega), Nat.succ_mul]
    by_cases h2 : 1 < n / Nat.gcd n s
    · rw [if_pos h2, if_pos ⟨h, h2⟩]
    · rw [if_neg h2, if_neg (fun z => h2 z.2)]
  · rw [Nat.min_eq_right (by omega), Nat.min_eq_right (by omega), if_neg (show ¬ (p < Nat.gcd n s ∧ 1 < n / Nat.gcd n s) from fun z => h z.1)]
    omega
theorem ringMoves_end {a b : Nat} (ha : 0 < a) (hb : 0 < b) : ringMoves (a + b) b (a + b) = a + b + Nat.gcd a b := by
  have e : Nat.gcd (a + b) b = Nat.gcd a b := by rw [Nat.gcd_add_self_left]
  have hd := Nat.gcd_dvd_left (a + b) b
  have g0 : 0 < Nat.gcd (a + b) b := Nat.gcd_pos_of_pos_left _ (by omega)
  have gb : Nat.gcd (a + b) b ≤ b := Nat.gcd_le_right _ hb
  have L : 1 < (a + b) / Nat.gcd (a + b) b := by
    rw [Nat.lt_div_iff_mul_lt' hd]
    omega
  unfold ringMoves
  rw [if_pos L, Nat.min_eq_right (by omega), Nat.mul_add, Nat.mul_div_cancel' hd, e]
  omega
end Mv

namespace Mv
open PySem L2
def topS (i : Nat) : Stmt := PySem.Challenge.pw_movedinplace_k08_whole_costs_of_blocks.main.body.getD i (.Pass ⟨0, 0, 0, 0⟩)
abbrev s_is_integer : Stmt := topS 5
abbrev n_is_integer : List Str := ["value"]
theorem sc_is_integer : FnScope n_is_integer ["value"] (defScope s_is_integer) := ⟨rfl, rfl, rfl, by decide +kernel, rfl, by decide +kernel, by decide +kernel⟩
abbrev s_is_from : Stmt := topS 6
abbrev n_is_from : List Str := ["value", "low", "high"]
theorem sc_is_from : FnScope n_is_from ["value", "low", "high"] (defScope s_is_from) := ⟨rfl, rfl, rfl, by decide +kernel, rfl, by decide +kernel, by decide +kernel⟩
abbrev s_divisor : Stmt := topS 8
abbrev n_divisor : List Str := ["one", "other"]
theorem sc_divisor : FnScope n_divisor ["one", "other"] (defScope s_divisor) := ⟨rfl, rfl, rfl, by decide +kernel, rfl, by decide +kernel, by decide +kernel⟩
abbrev s_block_costs : Stmt := topS 10
abbrev n_block_costs : List Str := ["first", "second", "size", "common"]
theorem sc_block_costs : FnScope n_block_costs ["first", "second"] (defScope s_block_costs) := ⟨rfl, rfl, rfl, by decide +kernel, rfl, by decide +kernel, by decide +kernel⟩
abbrev s_law_random : Stmt := topS 12
abbrev n_law_random : List Str := ["_law_script", "_law_salt", "_law_seed", "_law_cell"]
theorem sc_law_random : FnScope n_law_random ["_law_script", "_law_salt"] (defScope s_law_random) := ⟨rfl, rfl, rfl, by decide +kernel, rfl, by decide +kernel, by decide +kernel⟩
abbrev s_law_below : Stmt := topS 13
abbrev n_law_below : List Str := ["_law_d", "_law_size", "_law_result"]
theorem sc_law_below : FnScope n_law_below ["_law_d", "_law_size"] (defScope s_law_below) := ⟨rfl, rfl, rfl, by decide +kernel, rfl, by decide +kernel, by decide +kernel⟩
abbrev s_law_pick : Stmt := topS 14
abbrev n_law_pick : List Str := ["_law_d", "_law_items"]
theorem sc_law_pick : FnScope n_law_pick ["_law_d", "_law_items"] (defScope s_law_pick) := ⟨rfl, rfl, rfl, by decide +kernel, rfl, by decide +kernel, by decide +kernel⟩
abbrev s_law_equal : Stmt := topS 15
abbrev n_law_equal : List Str := ["_law_actual", "_law_expected", "_law_key", "_law_k"]
theorem sc_law_equal : FnScope n_law_equal ["_law_actual", "_law_expected"] (defScope s_law_equal) := ⟨rfl, rfl, rfl, by decide +kernel, rfl, by decide +kernel, by decide +kernel⟩
abbrev s_law_refused : Stmt := topS 16
abbrev n_law_refused : List Str := ["_law_first", "_law_second", "_law_found"]
theorem sc_law_refused : FnScope n_law_refused ["_law_first", "_law_second"] (defScope s_law_refused) := ⟨rfl, rfl, rfl, by decide +kernel, rfl, by decide +kernel, by decide +kernel⟩
abbrev s_law_turned : Stmt := topS 17
abbrev n_law_turned : List Str := ["_law_row", "_law_low", "_law_high", "_law_found", "_law_many", "_law_k", "_law_one", "_law_other"]
theorem sc_law_turned : FnScope n_law_turned ["_law_row", "_law_low", "_law_high"] (defScope s_law_turned) := ⟨rfl, rfl, rfl, by decide +kernel, rfl, by decide +kernel, by decide +kernel⟩
abbrev s_law_like : Stmt := topS 18
abbrev n_law_like : List Str := ["_law_first", "_law_second", "_law_many", "_law_one", "_law_other", "_law_lap"]
theorem sc_law_like : FnScope n_law_like ["_law_first", "_law_second"] (defScope s_law_like) := ⟨rfl, rfl, rfl, by decide +kernel, rfl, by decide +kernel, by decide +kernel⟩
abbrev s_law_rings : Stmt := topS 19
abbrev n_law_rings : List Str := ["_law_first", "_law_second", "_law_n", "_law_known", "_law_many", "_law_place", "_law_row", "_law_lap", "_law_later"]
theorem sc_law_rings : FnScope n_law_rings ["_law_first", "_law_second"] (defScope s_law_rings) := ⟨rfl, rfl, rfl, by decide +kernel, rfl, by decide +kernel, by decide +kernel⟩
abbrev s_law : Stmt := topS 20
abbrev n_law : List Str := ["_law_script", "_law_d", "_law_turn", "_law_first", "_law_second", "_law_row", "_law_one", "_law_other", "_law_last", "_law_due", "_law_common", "_law_size", "_law_part", "_law_told", "_law_value", "_law_by"]
theorem sc_law : FnScope n_law ["_law_script"] (defScope s_law) := ⟨rfl, rfl, rfl, by decide +kernel, rfl, by decide +kernel, by decide +kernel⟩
def ks : List Kd := [.PlaceError, .BadBlocks]

local macro_rules | `(tactic| walk_at "br") => do
  let e := Lean.mkIdent `e
  `(tactic| (refine brk_of (fun $e => ?_) (fun $e => ?_) <;> (first | (cases $e:ident; done) | (simp only [Bool.not_eq_eq_eq_not, Bool.not_true, Bool.not_false, Bool.not_not, decide_eq_true_eq, decide_eq_false_iff_not, Bool.and_eq_true, Bool.or_eq_true, Bool.and_eq_false_imp, Bool.or_eq_false_iff, ne_eq, Decidable.not_not, isInt, isBool, isStr, isTuple, isList, isDict, isNone, isInteger, reduceCtorEq, not_true_eq_false, not_false_eq_true, if_true, if_false, Bool.false_eq_true, Int.not_lt, Int.not_le] at $e:ident; done) | (simp only [Bool.not_eq_eq_eq_not, Bool.not_true, Bool.not_false, Bool.not_not, decide_eq_true_eq, decide_eq_false_iff_not, Bool.and_eq_true, Bool.or_eq_true, Bool.and_eq_false_imp, Bool.or_eq_false_iff, ne_eq, Decidable.not_not, isInt, isBool, isStr, isTuple, isList, isDict, isNone, isInteger, reduceCtorEq, not_true_eq_false, not_false_eq_true, if_true, if_false, Bool.false_eq_true, Int.not_lt, Int.not_le] at $e:ident) | skip)))
local macro_rules | `(tactic| walk_at "sd") => `(tactic| first
  | ((with_reducible show _ < BIG); exact big_of (by omega) (by omega))
  | omega
  | (with_reducible assumption)
  | exact rfl
  | ((with_reducible show _ ∧ _); refine ⟨?_, ?_⟩ <;> walk_at "sd")
  | (simp only [List.length_map, List.length_append, List.length_range, List.length_cons, List.length_nil, rangeD_len]; omega))
local macro_rules | `(tactic| walk_at "st") => `(tactic| first
  | ((with_reducible refine go_of ?_); conv => whnf)
  | ((with_reducible refine callK_of ?_); (conv => whnf); (first | refine ⟨_, rfl, ?_⟩ | refine ⟨_, _, rfl, ?_⟩ | refine ⟨_, _, _, rfl, ?_⟩ | refine ⟨_, _, _, _, rfl, ?_⟩ | skip); (try (conv => whnf)))
  | (with_reducible refine brk_t ?_) | (with_reducible refine brk_f ?_)
  | ((with_reducible show _ ∧ Go _); refine ⟨by walk_at "sd", ?_⟩)
  | ((with_reducible show _ ∧ _ ∧ Go _); refine ⟨by walk_at "sd", by walk_at "sd", ?_⟩)
  | ((with_reducible show brk (decide _) _ _); walk_at "br")
  | (refine brk_is (c := true) (by exact rfl) ?_; with_reducible refine brk_t ?_)
  | (refine brk_is (c := false) (by exact rfl) ?_; with_reducible refine brk_f ?_)
  | ((with_reducible show brk _ _ _); walk_at "br"))
local macro_rules | `(tactic| walk_at "z") => `(tactic| repeat' (walk_at "st"))
local macro_rules | `(tactic| walk_at "zz") => `(tactic| ((conv => whnf); walk_at "z"))
section
variable {P : Program} {w : World} {K : PySem.W.Frag} {mg : Str → Option Value} {base : Heap}
def p_is_integer : Pr := fun as Φ _ => ∃ d, as = [.dat d] ∧ Φ (.dat (.bool (isInteger d)))
def t_is_integer : DS := (sRet (kE (eAnd (eIsi isInt (eNm 0)) (eNot (eIsi isBool (eNm 0))))))
theorem q_is_integer (T : Txt mg) (f : Addr) (cdv : Value) (A : Around) (outer : List Env) (s : Shared) (H : Hp) (E : XK) (hr : Room 0 (A.deeper (PyProof.Rows.envOfC "is_integer" (defScope s_is_integer) s.heap.objs.size f cdv))) (C : Cxt (cxOf (L2.CX P w) P w K mg base n_is_integer "is_integer" (defScope s_is_integer) f cdv A outer s H E) (wDef E)) : RS (cxOf (L2.CX P w) P w K mg base n_is_integer "is_integer" (defScope s_is_integer) f cdv A outer s H E) (wDef E) (defBody s_is_integer) t_is_integer :=
  (rs_one (r1_ret (rk_e (re_and (re_isi T.isinstance T.int bb_int is_int (re_nm 0)) (re_bool1 (re_not (re_isi T.isinstance T.bool bb_bool is_bool (re_nm 0))))))))
theorem e_is_integer (T : Txt mg) {pr : Pr} (F : Fn K mg "is_integer" s_is_integer ["value"]) (hp : ∀ as Φ Ξ, pr as Φ Ξ → as.length = 1 ∧ t_is_integer (slots as 1) (fun y _ => Ξ y) { nx := fun _ => Φ (.dat .none), rt := Φ }) : Def P w K mg base "is_integer" 1 1 pr := fn_rd F sc_is_integer (q_is_integer T) hp
theorem d_is_integer (T : Txt mg) (F : Fn K mg "is_integer" s_is_integer ["value"]) : Def P w K mg base "is_integer" 1 1 p_is_integer := by
  refine e_is_integer T F fun as Φ Ξ h => ?_
  obtain ⟨d, rfl, q⟩ := h
  refine ⟨rfl, ?_⟩
  cases d <;> walk_at "zz"
  all_goals exact q
def p_is_from : Pr := fun as Φ _ => ∃ d lo hi, as = [.dat d, .dat (.int lo), .dat (.int hi)] ∧ Φ (.dat (.bool (isFrom d lo hi)))
def t_is_from : DS := (sRet (kE (eAnd (eK (kCall (p_is_integer) (aCons (eNm 0) aNil))) (eChain oLe oLe (eNm 1) (eNm 0) (eNm 2)))))
theorem q_is_from (T : Txt mg) (D_is_integer : Def P w K mg base "is_integer" 1 1 (p_is_integer)) (f : Addr) (cdv : Value) (A : Around) (outer : List Env) (s : Shared) (H : Hp) (E : XK) (hr : Room 1 (A.deeper (PyProof.Rows.envOfC "is_from" (defScope s_is_from) s.heap.objs.size f cdv))) (C : Cxt (cxOf (L2.CX P w) P w K mg base n_is_from "is_from" (defScope s_is_from) f cdv A outer s H E) (wDef E)) : RS (cxOf (L2.CX P w) P w K mg base n_is_from "is_from" (defScope s_is_from) f cdv A outer s H E) (wDef E) (defBody s_is_from) t_is_from :=
  (rs_one (r1_ret (rk_e (re_and (re_k (rk_call D_is_integer C (Room.mono hr (by decide)) (ra_cons (re_nm 0) ra_nil))) (re_bool1 (re_chain op_le op_le is_oInt is_oInt (re_nm 1) (re_nm 0) (re_nm 2)))))))
theorem e_is_from (T : Txt mg) (D_is_integer : Def P w K mg base "is_integer" 1 1 (p_is_integer)) {pr : Pr} (F : Fn K mg "is_from" s_is_from ["value", "low", "high"]) (hp : ∀ as Φ Ξ, pr as Φ Ξ → as.length = 3 ∧ t_is_from (slots as 3) (fun y _ => Ξ y) { nx := fun _ => Φ (.dat .none), rt := Φ }) : Def P w K mg base "is_from" 3 2 pr := fn_rd F sc_is_from (q_is_from T D_is_integer) hp
theorem d_is_from (T : Txt mg) (D_is_integer : Def P w K mg base "is_integer" 1 1 (p_is_integer)) (F : Fn K mg "is_from" s_is_from ["value", "low", "high"]) : Def P w K mg base "is_from" 3 2 p_is_from := by
  refine e_is_from T D_is_integer F fun as Φ Ξ h => ?_
  obtain ⟨d, lo, hi, rfl, q⟩ := h
  refine ⟨rfl, ?_⟩
  cases d <;> walk_at "zz"
  all_goals first
    | exact q
    | (refine fin_dat q ?_; simp [isFrom]; try omega)
def p_divisor : Pr := fun as Φ _ => ∃ a b : Nat, as = [.dat (.int a), .dat (.int b)] ∧ Φ (.dat (.int (Nat.gcd a b)))
def t_divisor : DS := (sCons (sWhile (tV (eOp oNe (eNm 1) (eC (.int 0)))) (sPar [0, 1] (ksCons (kE (eNm 1)) (ksCons (kE (eOp oMod (eNm 0) (eNm 1))) ksNil)))) (sRetV 0))
theorem q_divisor (T : Txt mg) (f : Addr) (cdv : Value) (A : Around) (outer : List Env) (s : Shared) (H : Hp) (E : XK) (hr : Room 0 (A.deeper (PyProof.Rows.envOfC "divisor" (defScope s_divisor) s.heap.objs.size f cdv))) (C : Cxt (cxOf (L2.CX P w) P w K mg base n_divisor "divisor" (defScope s_divisor) f cdv A outer s H E) (wDef E)) : RS (cxOf (L2.CX P w) P w K mg base n_divisor "divisor" (defScope s_divisor) f cdv A outer s H E) (wDef E) (defBody s_divisor) t_divisor :=
  (rs_cons (r1_while C (rt_ne C (re_nm 1) re_int) (rs_one (by first | exact r1_par2 0 1 C (rks_cons (rk_e (re_nm 1)) (rks_cons (rk_e (re_mod (re_nm 0) (re_nm 1))) rks_nil)) | exact r1_parT (l := [0, 1]) C (rks_cons (rk_e (re_nm 1)) (rks_cons (rk_e (re_mod (re_nm 0) (re_nm 1))) rks_nil)) (Nms.mk 0 (Nms.mk 1 .nil))))) (rs_one (r1_retV 0)))
theorem e_divisor (T : Txt mg) {pr : Pr} (F : Fn K mg "divisor" s_divisor ["one", "other"]) (hp : ∀ as Φ Ξ, pr as Φ Ξ → as.length = 2 ∧ t_divisor (slots as 2) (fun y _ => Ξ y) { nx := fun _ => Φ (.dat .none), rt := Φ }) : Def P w K mg base "divisor" 2 1 pr := fn_rd F sc_divisor (q_divisor T) hp
theorem d_divisor (T : Txt mg) (F : Fn K mg "divisor" s_divisor ["one", "other"]) : Def P w K mg base "divisor" 2 1 p_divisor := by
  refine e_divisor T F fun as Φ Ξ h => ?_
  obtain ⟨a, b, rfl, q⟩ := h
  refine ⟨rfl, ?_⟩
  walk_at "zz"
  refine ⟨fun m ρ => ∃ x y : Nat, ρ = [.dat (.int x), .dat (.int y)] ∧ m = y ∧ Nat.gcd x y = Nat.gcd a b, b, ⟨a, b, rfl, rfl, rfl⟩, ?_⟩
  rintro m ρ ⟨x, y, rfl, rfl, hg⟩
  walk_at "z"
  · refine ⟨x % m, Nat.mod_lt _ (by omega), m, x % m, ?_, rfl, ?_⟩
    · show [Sl.dat (PyData.int (m : Int)), Sl.dat (PyData.int ((x : Int) % (m : Int)))] = _
      rw [Int.natCast_emod]
    · rw [← hg, Nat.gcd_comm x m, Nat.gcd_rec m x, Nat.gcd_comm]
  · have e0 : m = 0 := by omega
    subst e0
    refine fin_dat q ?_
    rw [← hg, Nat.gcd_zero_right]
def blocksOk (d e : PyData) : Bool := match d, e with
  | .int i, .int j => decide (0 ≤ i) && decide (i ≤ 1000000000000000000000000000000) && (decide (0 ≤ j) && decide (j ≤ 1000000000000000000000000000000)) && (decide (1 ≤ i + j) && decide (i + j ≤ 1000000000000000000000000000000))
  | _, _ => false
def costs (i j : Nat) : PyData := if i = 0 ∨ j = 0 then .tuple [.int 0, .int 0, .int 0] else
  .tuple [.int ((i : Int) / 2 + (j : Int) / 2 + ((i : Int) + j) / 2), .int ((i : Int) + j + Nat.gcd i j), .int ((i : Int) + j - Nat.gcd i j)]
def costR (d e : PyData) : Res := match blocksOk d e with
  | true => .ok (costs (natD d) (natD e))
  | false => .err ⟨.BadBlocks, []⟩
theorem costR_no {d e : PyData} (h : blocksOk d e = false) : costR d e = .err ⟨.BadBlocks, []⟩ := by unfold costR; rw [h]
theorem costR_ok {i j : Nat} (h1 : 1 ≤ i + j) (h2 : i + j ≤ 1000000000000000000000000000000) : costR (.int i) (.int j) = .ok (costs i j) := by
  have : blocksOk (.int i) (.int j) = true := by simp [blocksOk]; omega
  unfold costR; rw [this]; rfl
theorem costR_pos {i j : Nat} (h0 : 0 < i) (h1 : 0 < j) (h2 : i + j ≤ 1000000000000000000000000000000) : costR (.int i) (.int j) = .ok (.tuple [.int ((i : Int) / 2 + (j : Int) / 2 + ((i : Int) + j) / 2), .int ((i : Int) + j + Nat.gcd i j), .int ((i : Int) + j - Nat.gcd i j)]) := by
  rw [costR_ok (by omega) h2]
  unfold costs
  rw [if_neg (by omega)]
theorem costR_zero {i j : Nat} (h0 : i = 0 ∨ j = 0) (h1 : 1 ≤ i + j) (h2 : i + j ≤ 1000000000000000000000000000000) : costR (.int i) (.int j) = .ok (.tuple [.int 0, .int 0, .int 0]) := by
  rw [costR_ok h1 h2]
  unfold costs
  rw [if_pos h0]
def p_block_costs : Pr := fun as Φ Ξ => ∃ d e, as = [.dat d, .dat e] ∧ resK (costR d e) (fun d => Φ (.dat d)) Ξ
theorem blocks_no {d e : PyData} (h : isFrom d 0 1000000000000000000000000000000 = false ∨ isFrom e 0 1000000000000000000000000000000 = false) : blocksOk d e = false := by
  cases d <;> cases e <;> simp [blocksOk, isFrom] at h ⊢
  rcases h with h | h <;> omega
def t_block_costs : DS := (sCons (sIf (tOr (tNot (tV (eK (kCall (p_is_from) (aCons (eNm 0) (aCons (eC (.int 0)) (aCons (eC (.int 1000000000000000000000000000000)) aNil))))))) (tOr (tNot (tV (eK (kCall (p_is_from) (aCons (eNm 1) (aCons (eC (.int 0)) (aCons (eC (.int 1000000000000000000000000000000)) aNil))))))) (tNot (tV (eChain oLe oLe (eC (.int 1)) (eOp oAdd (eNm 0) (eNm 1)) (eC (.int 1000000000000000000000000000000))))))) (sRaise .BadBlocks) sNil) (sCons (sIf (tOr (tV (eOp oEq (eNm 0) (eC (.int 0)))) (tV (eOp oEq (eNm 1) (eC (.int 0))))) (sRet (kE (eTup (aCons (eC (.int 0)) (aCons (eC (.int 0)) (aCons (eC (.int 0)) aNil)))))) sNil) (sCons (sPar [2, 3] (ksCons (kE (eOp oAdd (eNm 0) (eNm 1))) (ksCons (kE (eK (kCall (p_divisor) (aCons (eNm 0) (aCons (eNm 1) aNil))))) ksNil))) (sRet (kE (eTup (aCons (eOp oAdd (eOp oAdd (eOp oDiv (eNm 0) (eC (.int 2))) (eOp oDiv (eNm 1) (eC (.int 2)))) (eOp oDiv (eNm 2) (eC (.int 2)))) (aCons (eOp oAdd (eNm 2) (eNm 3)) (aCons (eOp oSub (eNm 2) (eNm 3)) aNil)))))))))
theorem q_block_costs (T : Txt mg) (c_MOST_SIZE : Cst K mg "MOST_SIZE" (.int 1000000000000000000000000000000)) (c_BadBlocks : ExcK K mg .BadBlocks) (D_is_from : Def P w K mg base "is_from" 3 2 (p_is_from)) (D_divisor : Def P w K mg base "divisor" 2 1 (p_divisor)) (f : Addr) (cdv : Value) (A : Around) (outer : List Env) (s : Shared) (H : Hp) (E : XK) (hr : Room 2 (A.deeper (PyProof.Rows.envOfC "block_costs" (defScope s_block_costs) s.heap.objs.size f cdv))) (C : Cxt (cxOf (L2.CX P w) P w K mg base n_block_costs "block_costs" (defScope s_block_costs) f cdv A outer s H E) (wDef E)) : RS (cxOf (L2.CX P w) P w K mg base n_block_costs "block_costs" (defScope s_block_costs) f cdv A outer s H E) (wDef E) (defBody s_block_costs) t_block_costs :=
  (rs_cons (r1_if (rt_w (rw_or (rt_not (rt_val (re_k (rk_call D_is_from C (Room.mono hr (by decide)) (ra_cons (re_nm 0) (ra_cons re_int (ra_cons (re_cst c_MOST_SIZE) ra_nil))))))) (rw_or (rt_not (rt_val (re_k (rk_call D_is_from C (Room.mono hr (by decide)) (ra_cons (re_nm 1) (ra_cons re_int (ra_cons (re_cst c_MOST_SIZE) ra_nil))))))) (rw_or1 (rt_not (rt_chain op_le op_le is_oInt is_oInt re_int (re_add (re_nm 0) (re_nm 1)) (re_cst c_MOST_SIZE))))))) (rs_one (r1_raise .BadBlocks C c_BadBlocks)) rs_nil) (rs_cons (r1_if (rt_w (rw_or (rt_eq C (re_nm 0) re_int) (rw_or1 (rt_eq C (re_nm 1) re_int)))) (rs_one (r1_ret (rk_e (re_tup (ra_cons re_int (ra_cons re_int (ra_cons re_int ra_nil))))))) rs_nil) (rs_cons (by first | exact r1_par2 2 3 C (rks_cons (rk_e (re_add (re_nm 0) (re_nm 1))) (rks_cons (rk_e (re_k (rk_call D_divisor C (Room.mono hr (by decide)) (ra_cons (re_nm 0) (ra_cons (re_nm 1) ra_nil))))) rks_nil)) | exact r1_parT (l := [2, 3]) C (rks_cons (rk_e (re_add (re_nm 0) (re_nm 1))) (rks_cons (rk_e (re_k (rk_call D_divisor C (Room.mono hr (by decide)) (ra_cons (re_nm 0) (ra_cons (re_nm 1) ra_nil))))) rks_nil)) (Nms.mk 2 (Nms.mk 3 .nil))) (rs_one (r1_ret (rk_e (re_tup (ra_cons (re_add (re_add (re_div (re_nm 0) re_int) (re_div (re_nm 1) re_int)) (re_div (re_nm 2) re_int)) (ra_cons (re_add (re_nm 2) (re_nm 3)) (ra_cons (re_sub (re_nm 2) (re_nm 3)) ra_nil))))))))))
theorem e_block_costs (T : Txt mg) (c_MOST_SIZE : Cst K mg "MOST_SIZE" (.int 1000000000000000000000000000000)) (c_BadBlocks : ExcK K mg .BadBlocks) (D_is_from : Def P w K mg base "is_from" 3 2 (p_is_from)) (D_divisor : Def P w K mg base "divisor" 2 1 (p_divisor)) {pr : Pr} (F : Fn K mg "block_costs" s_block_costs ["first", "second"]) (hp : ∀ as Φ Ξ, pr as Φ Ξ → as.length = 2 ∧ t_block_costs (slots as 4) (fun y _ => Ξ y) { nx := fun _ => Φ (.dat .none), rt := Φ }) : Def P w K mg base "block_costs" 2 3 pr := fn_rd F sc_block_costs (q_block_costs T c_MOST_SIZE c_BadBlocks D_is_from D_divisor) hp
theorem d_block_costs (T : Txt mg) (c_MOST_SIZE : Cst K mg "MOST_SIZE" (.int 1000000000000000000000000000000)) (c_BadBlocks : ExcK K mg .BadBlocks) (D_is_from : Def P w K mg base "is_from" 3 2 (p_is_from)) (D_divisor : Def P w K mg base "divisor" 2 1 (p_divisor)) (F : Fn K mg "block_costs" s_block_costs ["first", "second"]) : Def P w K mg base "block_costs" 2 3 p_block_costs := by
  refine e_block_costs T c_MOST_SIZE c_BadBlocks D_is_from D_divisor F fun as Φ Ξ h => ?_
  obtain ⟨d, d', rfl, q0⟩ := h
  refine ⟨rfl, ?_⟩
  by_cases h1 : isFrom d 0 1000000000000000000000000000000 = true ∧ isFrom d' 0 1000000000000000000000000000000 = true
  · obtain ⟨h1, h2⟩ := h1
    obtain ⟨i, rfl, i0, i1⟩ := isFrom_inv h1
    obtain ⟨j, rfl, j0, j1⟩ := isFrom_inv h2
    obtain ⟨i, rfl⟩ := Int.eq_ofNat_of_zero_le i0
    obtain ⟨j, rfl⟩ := Int.eq_ofNat_of_zero_le j0
    have q' : 1 ≤ (i : Int) + j → (i : Int) + j ≤ 1000000000000000000000000000000 → Φ (.dat (costs i j)) := fun a b => resK_okI q0 (costR_ok (by omega) (by omega))
    have qx' : ¬ (1 ≤ (i : Int) + j ∧ (i : Int) + j ≤ 1000000000000000000000000000000) → Ξ ⟨.BadBlocks, []⟩ := fun z => resK_errI q0 (costR_no (by simp [blocksOk]; omega))
    walk_at "zz"
    all_goals try (exfalso; simp_all; done)
    all_goals try (refine qx' ?_; omega)
    all_goals try (refine fin_dat (q' ?_ ?_) ?_ <;> first | omega | (unfold costs; rw [if_pos (by omega)]; done))
    refine fin_dat (q' (by omega) (by omega)) ?_
    unfold costs
    rw [if_neg (by omega)]
  · have qx := resK_errI q0 (costR_no (blocks_no (by by_cases h : isFrom d 0 1000000000000000000000000000000 = true <;> simp_all)))
    walk_at "zz"
    all_goals first
      | exact qx
      | exact absurd ⟨by assumption, by assumption⟩ h1
def p_law_random : Pr := fun as Φ _ => ∃ (ns : List Int) (salt : Int), as = [.scr ns, .dat (.int salt)] ∧ ((ns.length ≤ 63 ∧ 0 ≤ salt ∧ salt < 2147483647) ∧ Go (∀ (a b : Int) (ms : List Int), 0 ≤ a → 0 ≤ b → (∀ m ∈ ms, 0 ≤ m) → Φ (.own ((a :: b :: ms).map .int))))
def t_law_random : DS := (sCons (sSet 2 (kE (eNm 1))) (sCons (sFor (iScr 0) (gNm 3) (sSet 2 (kE (eOp oMod (eB bInt (aCons (eOp oAdd (eOp oMul (eNm 2) (eC (.int 31))) (eB bAbs (aCons (eNm 3) aNil))) aNil)) (eC (.int 2147483647)))))) (sRet (kCat (eLst (aCons (eNm 2) (aCons (eC (.int 0)) aNil))) (eK (kLc [3] (iScr 0) (gNm 3) (tV (eOp oGe (eNm 3) (eC (.int 1000000000000000000)))) (eNm 3)))))))
theorem q_law_random (T : Txt mg) (f : Addr) (cdv : Value) (A : Around) (outer : List Env) (s : Shared) (H : Hp) (E : XK) (hr : Room 0 (A.deeper (PyProof.Rows.envOfC "_law_random" (defScope s_law_random) s.heap.objs.size f cdv))) (C : Cxt (cxOf (L2.CX P w) P w K mg base n_law_random "_law_random" (defScope s_law_random) f cdv A outer s H E) (wDef E)) : RS (cxOf (L2.CX P w) P w K mg base n_law_random "_law_random" (defScope s_law_random) f cdv A outer s H E) (wDef E) (defBody s_law_random) t_law_random :=
  (rs_cons (r1_set 2 C.nd (rk_e (re_nm 1))) (rs_cons (r1_for C (ri_scr 0) (rg_nm 3 C.nd trivial) (rs_one (r1_set 2 C.nd (rk_e (re_mod (re_intOf T.int (ra_cons (re_add (re_mul (re_nm 2) re_int) (re_abs T.abs (ra_cons (re_nm 3) ra_nil))) ra_nil)) re_int))))) (rs_one (r1_ret (rk_cat (re_lst (ra_cons (re_nm 2) (ra_cons re_int ra_nil))) (re_k (rk_lc (own := [("_law_cell", 3)]) C (blkOk_by (by kernel_rfl)) (ri_scr 0) (fun s H cc cl fp Cb => (rg_nm 3 Cb.nd (by decide))) (fun s H cc cl fp Cb => (rts_one (rt_ge (re_nm 3) (re_pow10 18 1000000000000000000)))) (fun s H cc cl fp Cb => (re_nm 3)))))))))
theorem e_law_random (T : Txt mg) {pr : Pr} (F : Fn K mg "_law_random" s_law_random ["_law_script", "_law_salt"]) (hp : ∀ as Φ Ξ, pr as Φ Ξ → as.length = 2 ∧ t_law_random (slots as 4) (fun y _ => Ξ y) { nx := fun _ => Φ (.dat .none), rt := Φ }) : Def P w K mg base "_law_random" 2 1 pr := fn_rd F sc_law_random (q_law_random T) hp
theorem d_law_random (T : Txt mg) (F : Fn K mg "_law_random" s_law_random ["_law_script", "_law_salt"]) : Def P w K mg base "_law_random" 2 1 p_law_random := by
  refine e_law_random T F fun as Φ Ξ h => ?_
  obtain ⟨ns, salt, rfl, ⟨hn, h0, h1⟩, q⟩ := h
  refine ⟨rfl, ?_⟩
  walk_at "zz"
  refine ⟨fun _ ρ => ∃ z x, ρ = [.scr ns, .dat (.int salt), .dat (.int z), x] ∧ 0 ≤ z ∧ z < 2147483647, ⟨salt, .unk, rfl, h0, h1⟩, ?_, ?_⟩
  · rintro i d ρ hd ⟨z, x, rfl, z0, z1⟩
    obtain ⟨n, _, rfl⟩ := List.getElem?_map .. ▸ hd |> fun h => by simpa using h
    walk_at "z"
    exact ⟨_, _, rfl, by omega, by omega⟩
  · rintro ρ ⟨z, x, rfl, z0, z1⟩
    walk_at "z"
    refine .inl ⟨fun i acc => ∃ ms : List Int, acc = ms.map .int ∧ (∀ m ∈ ms, 0 ≤ m) ∧ ms.length ≤ i, ⟨[], rfl, by simp, Nat.le_refl _⟩, ?_, ?_⟩
    · rintro i d acc hd ⟨ms, rfl, hm, hl⟩
      have hi : i < ns.length := by
        have := (List.getElem?_eq_some_iff.mp hd).1
        rwa [List.length_map] at this
      obtain ⟨n, _, rfl⟩ := List.getElem?_map .. ▸ hd |> fun h => by simpa using h
      refine ⟨by rw [List.length_map]; omega, ?_⟩
      walk_at "z"
      · exact ⟨ms ++ [n], by simp, by simp; intro m h; rcases h with h | h; exact hm m h; omega, by simp; omega⟩
      · exact ⟨ms, rfl, hm, by omega⟩
    · rintro acc ⟨ms, rfl, hm, hl⟩
      walk_at "z"
      refine ⟨by simp at hl ⊢; omega, ?_⟩
      exact fin_own (q z 0 ms (by omega) (by omega) hm) rfl
-- raw
-- binders (T : Txt mg)
def p_law_below : Pr := fun as Φ _ => ∃ n : Int, as = [.drw, .dat (.int n)] ∧ ((0 < n ∧ n.natAbs < BIG) ∧ Go (∀ r : Int, 0 ≤ r → r < n → Φ (.dat (.int r))))
theorem ixN_nat' {n j : Nat} (hj : j < n) : ixN n (j : Int) = some j := by
  unfold ixN
  rw [if_pos (by omega), if_pos (by omega)]
  simp
theorem below_step {M : Addr → Prop} {F H : Hp} {p : Addr} {a b a' b' : Int} {ns ms : List Int} (s : Same F H) (hp : H p = some (.lst ((a :: b :: ns).map V.int))) (m : M p) (f : F p = none) (h1 : 0 ≤ a') (h2 : 0 ≤ b') (h3 : ∀ n ∈ ms, 0 ≤ n) : Step M F H F (upd H p (.lst ((a' :: b' :: ms).map V.int))) where
  fr := Same.refl F
  sub := fun q x e => by
    have np : q ≠ p := fun z => by rw [z, f] at e; cases e
    rw [upd_ne np]; exact s q x e
  keep := fun q x n e => by
    have np : q ≠ p := fun z => n (by rw [z]; exact m)
    rw [upd_ne np]; exact e
  new := fun _ _ => rfl
  alive := fun q n => by
    by_cases z : q = p
    · rw [z, upd_same]; exact fun z => nomatch z
    · rw [upd_ne z]; exact n
  dr := fun q _ d => by
    by_cases z : q = p
    · subst z; exact ⟨a', b', ms, h1, h2, h3, upd_same⟩
    · obtain ⟨x, y, ns, z1, z2, z3, z4⟩ := d
      exact ⟨x, y, ns, z1, z2, z3, by rw [upd_ne z]; exact z4⟩
theorem d_law_below (T : Txt mg) (F : Fn K mg "_law_below" s_law_below ["_law_d", "_law_size"]) : Def P w K mg base "_law_below" 2 1 p_law_below := by
  obtain ⟨f, fd, F, hm, hb⟩ := F.ex
  refine ⟨f, fd, _, hm, F.kp, hb, rfl, F.okX sc_law_below (fun vs H Q E h => ?_) fun cdv A outer s H vs Q E hr h => ?_⟩
  · obtain ⟨M, F0, as, Φ, Ξ, sf, hM, ra, ⟨n, rfl, _⟩, _⟩ := h
    rw [ag_len ra]; rfl
  · obtain ⟨M, F0, as, Φ, Ξ, sf, hM, ra, ⟨n, rfl, ⟨hn, hb⟩, q⟩, ok, _⟩ := h
    obtain ⟨p, rfl, mp, ⟨a, b, ns, ha, hb0, hns, hp⟩, fp⟩ : ∃ p, vs = [.ref p, .int n] ∧ M p ∧ DrOk H p ∧ F0 p = none := by
      cases ra with
      | cons h1 t =>
        cases t with
        | cons h2 t =>
          cases t
          obtain ⟨p, e, m, d, fp⟩ := h1
          exact ⟨p, by rw [e, Rp.int_inv h2], m, d, fp⟩
    have nd := sc_law_below.nd
    have at0 : ∀ {x y : Int} {zs : List Int}, atI ((x :: y :: zs).map V.int) 0 = some (.int x) := fun {x y zs} => atI_nat (j := 0) rfl
    have at1 : ∀ {x y : Int} {zs : List Int}, atI ((x :: y :: zs).map V.int) 1 = some (.int y) := fun {x y zs} => atI_nat (j := 1) rfl
    have fin : ∀ (r : Int) (a' b' : Int) (ms : List Int), 0 ≤ r → r < n → 0 ≤ a' → 0 ≤ b' → (∀ n ∈ ms, 0 ≤ n) → Q (.int r) (upd H p (.lst ((a' :: b' :: ms).map V.int))) := fun r a' b' ms r0 r1 h1 h2 h3 =>
      ok _ (.dat (.int r)) F0 _ (q r r0 r1) (below_step sf hp mp fp h1 h2 h3) (.int r)
    -- the second statement on
    have tail : ∀ (b' : Int) (ms : List Int) (H1 : Hp), 0 ≤ b' → (∀ n ∈ ms, 0 ≤ n) → H1 = upd H p (.lst ((a :: b' :: ms).map V.int)) →
        wSs (cxOf (L2.CX P w) P w K mg base n_law_below "_law_below" (defScope s_law_below) f cdv A outer s H E) ((defBody s_law_below).tail) { nx := fun _ H' => Q .non H', rt := Q } [some (.ref p), some (.int n), none] H1 := fun b' ms H1 hb' hms eH => by
      subst eH
      refine wSs_of (pss_cons (ps_if (pt_cmpR op_gt (pe_ix ix_list (pv 0) pe_int (fun _ _ => rfl)) pe_int (nomark _))
        (pss_cons (ps_set (i := 2) nd rfl (.inl rfl) (pe_op op_mod (pe_callTy call_int1 (by rfl) T.int (by decide +kernel) (pa_cons (pe_ix ix_list (pv 0) pe_int (fun _ _ => rfl)) pa_nil)) (pv 1)))
          (pss_cons (ps_asg (pe_op op_fdivW (pe_ix ix_list (pv 0) pe_int (fun _ _ => rfl)) (pv 1)) (pg_sub (pv 0) pe_int set_list)) (pss_one (ps_ret (pv 2))))) pss_nil)
      (pss_cons (ps_asg (pe_op op_mod (pe_callTy call_int1 (by rfl) T.int (by decide +kernel) (pa_cons (pe_op op_add (pe_op op_mul (pe_ix ix_list (pv 0) pe_int (fun _ _ => rfl)) pe_int) pe_int) pa_nil)) pe_int) (pg_sub (pv 0) pe_int set_list))
        (pss_one (ps_ret (pe_op op_mod (pe_callTy call_int1 (by rfl) T.int (by decide +kernel) (pa_cons (pe_op op_fdiv (pe_ix ix_list (pv 0) pe_int (fun _ _ => rfl)) pe_int) pa_nil)) (pv 1)))))) ?_
      have h1 : (upd H p (.lst ((a :: b' :: ms).map V.int))) p = some (.lst ((a :: b' :: ms).map V.int)) := upd_same
      refine ⟨_, rfl, p, _, _, _, rfl, rfl, SqL.of h1, at1, _, _, rfl, rfl, _, rfl, ite2 (fun e => ?_) (fun e => ?_)⟩
      · refine ⟨_, rfl, p, _, _, _, rfl, rfl, SqL.of h1, at1, .inl ⟨_, rfl, _, rfl, _, _, rfl, rfl, hn, ?_⟩⟩
        refine ⟨_, rfl, p, _, _, _, rfl, rfl, SqL.of h1, at1, _, rfl, _, _, rfl, rfl, wide_div hn hb (by decide) (by decide), _, rfl, p, _, _, 1, rfl, rfl, h1, ixN_nat' (j := 1) (by simp), _, rfl, ?_⟩
        rw [upd_upd]
        exact fin _ a (b' / n) ms (Int.emod_nonneg _ (by omega)) (Int.emod_lt_of_pos _ hn) ha (Int.ediv_nonneg hb' (by omega)) hms
      · refine ⟨_, rfl, p, _, _, _, rfl, rfl, SqL.of h1, at0, _, _, rfl, rfl, .inr (by decide), _, _, rfl, rfl, .inl ⟨_, rfl, _, _, rfl, rfl, (by show (0 : Int) < 2147483647; decide), _, rfl, p, _, _, 0, rfl, rfl, h1, ixN_nat' (j := 0) (by simp), ?_⟩⟩
        refine ⟨_, rfl, p, _, _, _, rfl, rfl, SqL.of upd_same, at0 (x := (a * 48271 + 11) % 2147483647) (y := b') (zs := ms), _, _, rfl, rfl, ⟨by decide, by decide⟩, .inl ⟨_, rfl, _, rfl, _, _, rfl, rfl, hn, ?_⟩⟩
        rw [upd_upd]
        exact fin _ ((a * 48271 + 11) % 2147483647) b' ms (Int.emod_nonneg _ (by omega)) (Int.emod_lt_of_pos _ hn) (Int.emod_nonneg _ (by omega)) hb' hms
    have same : upd H p (.lst ((a :: b :: ns).map V.int)) = H := by
      funext z
      by_cases hz : z = p
      · rw [hz, upd_same, hp]
      · rw [upd_ne hz]
    refine ⟨_, pss_cons (ps_if (PW.pt (pw_and (pt_cmpR op_eq (pe_ix ix_list (pv 0) pe_int (fun _ _ => rfl)) pe_int (nomark _)) (pw_and1 (pt_cmpR op_gt (pe_callB call_len_seq (by rfl) T.len PySem.boot_len (pa_cons (pv 0) pa_nil)) pe_int (nomark _)))))
        (pss_one (ps_asg (pe_bm PySem.F.plainAttrs_list PySem.F.slot_list_pop PySem.F.type_list_pop mt_popAt (pv 0) (pa_cons pe_int pa_nil)) (pg_sub (pv 0) pe_int set_list))) pss_nil) pss_w, ?_⟩
    refine ⟨_, rfl, p, _, _, _, rfl, rfl, SqL.of hp, at1, rfl, _, rfl, ite2 (fun e => ?_) (fun e => ?_)⟩
    · refine ⟨_, rfl, p, _, rfl, .inl (SqL.of hp), _, _, rfl, rfl, _, rfl, ite2 (fun e2 => ?_) (fun e2 => ?_)⟩
      · obtain ⟨m, ms, rfl⟩ : ∃ m ms, ns = m :: ms := by
          cases ns with
          | nil => simp at e2
          | cons m ms => exact ⟨m, ms, rfl⟩
        refine ⟨_, rfl, .inl ⟨rfl, _, SqL.of hp⟩, p, _, 2, 2, .int m, rfl, rfl, hp, by decide, by decide, ?_, rfl, _, rfl, p, _, _, 1, rfl, rfl, upd_same, ixN_nat' (j := 1) (by simp), ?_⟩
        · rw [seqIndex_of (by decide) (by simp; omega)]; rfl
        · rw [upd_upd]
          exact tail m ms _ (hns m (by simp)) (fun n hn => hns n (by simp [hn])) rfl
      · exact tail b ns _ hb0 hns same.symm
    · exact tail b ns _ hb0 hns same.symm
/-- data that the law's own comparison is asked about: n deep at most -/
def eqOk : Nat → PyData → Bool
  | _, .none => true
  | _, .bool _ => true
  | _, .int _ => true
  | _, .str _ => true
  | n + 1, .tuple ds => decide (ds.length ≤ 50000) && ds.all (eqOk n)
  | n + 1, .list ds => decide (ds.length ≤ 50000) && ds.all (eqOk n)
  | _, _ => false
def pl_equal : Nat → Pr
  | 0 => fun _ _ _ => False
  | n + 1 => fun as Φ _ => ∃ d, as = [.dat d, .dat d] ∧ (eqOk n d = true ∧ Go (Φ (.dat (.bool true))))
def p_law_equal : Pr := pl_equal 6
theorem use_equal {x y : PyData} {P : Prop} (e : x = y) (h : eqOk 5 y = true) (k : P) : ∃ d, [Ag.dat x, Ag.dat y] = [Ag.dat d, Ag.dat d] ∧ (eqOk 5 d = true ∧ P) := by
  subst e
  exact ⟨_, rfl, h, k⟩
theorem all_true : ∀ n : Nat, ((List.replicate n true).all id) = true
  | 0 => rfl
  | n + 1 => by rw [List.replicate_succ, List.all_cons, all_true n]; rfl
theorem rangeD_map {f : PyData → PyData} {lo : Int} {n : Nat} : (rangeD lo n).map f = (List.range n).map fun i : Nat => f (.int (lo + (i : Int))) := by
  unfold rangeD
  rw [List.map_map]; rfl
theorem mem_rangeD {lo : Int} {n : Nat} {d : PyData} (h : d ∈ rangeD lo n) : ∃ i : Nat, i < n ∧ d = .int (lo + (i : Int)) := by
  unfold rangeD at h
  obtain ⟨i, hi, e⟩ := List.mem_map.mp h
  exact ⟨i, List.mem_range.mp hi, e.symm⟩
theorem lift_atD {ds : List PyData} {i : Nat} (h : i < ds.length) : atI ds (i : Int) = some ds[i] := atI_nat (List.getElem?_eq_getElem h)
def t_law_equal (pe : Pr) : DS := (sCons (sIf (tV (eIsN false (eNm 1))) (sRet (kE (eIsN false (eNm 0)))) sNil) (sCons (sIf (tV (eIsi isBool (eNm 1))) (sRet (kE (eAnd (eIsi isBool (eNm 0)) (eOp oEq (eNm 0) (eNm 1))))) sNil) (sCons (sIf (tV (eIsi isInt (eNm 1))) (sRet (kE (eAnd (eIsi isInt (eNm 0)) (eAnd (eNot (eIsi isBool (eNm 0))) (eOp oEq (eNm 0) (eNm 1)))))) sNil) (sCons (sIf (tV (eIsi isStr (eNm 1))) (sRet (kE (eAnd (eIsi isStr (eNm 0)) (eOp oEq (eNm 0) (eNm 1))))) sNil) (sCons (sIf (tV (eIsi isDict (eNm 1))) (sCons (sIf (tOr (tNot (tV (eIsi isDict (eNm 0)))) (tV (eOp oNe (eB bList (aCons (eNm 0) aNil)) (eB bSorted (aCons (eB bList (aCons (eNm 1) aNil)) aNil))))) (sRet (kE (eC (.bool false)))) sNil) (sRet (kE (eB bAll (aCons (eK (kLc [2] (iSq (eB bList (aCons (eNm 0) aNil))) (gNm 2) tsNil (eK (kCall pe (aCons (eOp oIx (eNm 0) (eNm 2)) (aCons (eOp oIx (eNm 1) (eNm 2)) aNil)))))) aNil))))) sNil) (sCons (sIf (tV (eOp oNe (eIsi isTuple (eNm 1)) (eIsi isTuple (eNm 0)))) (sRet (kE (eC (.bool false)))) sNil) (sCons (sIf (tV (eOp oNe (eIsi isList (eNm 1)) (eIsi isList (eNm 0)))) (sRet (kE (eC (.bool false)))) sNil) (sCons (sIf (tV (eOp oNe (eB bLen (aCons (eNm 0) aNil)) (eB bLen (aCons (eNm 1) aNil)))) (sRet (kE (eC (.bool false)))) sNil) (sRet (kE (eB bAll (aCons (eK (kLc [3] (iRange1 (eB bLen (aCons (eNm 1) aNil))) (gNm 3) tsNil (eK (kCall pe (aCons (eOp oIx (eNm 0) (eNm 3)) (aCons (eOp oIx (eNm 1) (eNm 3)) aNil)))))) aNil))))))))))))
theorem q_law_equal (T : Txt mg) {lv : Nat} {pe : Pr} (D_law_equal : Def P w K mg base "_law_equal" 2 lv pe) (f : Addr) (cdv : Value) (A : Around) (outer : List Env) (s : Shared) (H : Hp) (E : XK) (hr : Room lv (A.deeper (PyProof.Rows.envOfC "_law_equal" (defScope s_law_equal) s.heap.objs.size f cdv))) (C : Cxt (cxOf (L2.CX P w) P w K mg base n_law_equal "_law_equal" (defScope s_law_equal) f cdv A outer s H E) (wDef E)) : RS (cxOf (L2.CX P w) P w K mg base n_law_equal "_law_equal" (defScope s_law_equal) f cdv A outer s H E) (wDef E) (defBody s_law_equal) (t_law_equal pe) :=
  (rs_cons (r1_if (rt_isN (re_nm 1)) (rs_one (r1_ret (rk_e (re_isN (re_nm 0))))) rs_nil) (rs_cons (r1_if (rt_val (re_isi T.isinstance T.bool bb_bool is_bool (re_nm 1))) (rs_one (r1_ret (rk_e (re_and (re_isi T.isinstance T.bool bb_bool is_bool (re_nm 0)) (re_bool1 (re_eq C (re_nm 0) (re_nm 1))))))) rs_nil) (rs_cons (r1_if (rt_val (re_isi T.isinstance T.int bb_int is_int (re_nm 1))) (rs_one (r1_ret (rk_e (re_and (re_isi T.isinstance T.int bb_int is_int (re_nm 0)) (re_and (re_not (re_isi T.isinstance T.bool bb_bool is_bool (re_nm 0))) (re_bool1 (re_eq C (re_nm 0) (re_nm 1)))))))) rs_nil) (rs_cons (r1_if (rt_val (re_isi T.isinstance T.str bb_str is_str (re_nm 1))) (rs_one (r1_ret (rk_e (re_and (re_isi T.isinstance T.str bb_str is_str (re_nm 0)) (re_bool1 (re_eq C (re_nm 0) (re_nm 1))))))) rs_nil) (rs_cons (r1_if (rt_val (re_isi T.isinstance T.dict bb_dict is_dict (re_nm 1))) (rs_cons (r1_if (rt_w (rw_or (rt_not (rt_val (re_isi T.isinstance T.dict bb_dict is_dict (re_nm 0)))) (rw_or1 (rt_ne C (re_list T.list (ra_cons (re_nm 0) ra_nil)) (re_sorted C T.sorted (ra_cons (re_list T.list (ra_cons (re_nm 1) ra_nil)) ra_nil)))))) (rs_one (r1_ret (rk_e re_bl))) rs_nil) (rs_one (r1_ret (rk_e (re_all C.calm T.all (ra_cons (re_k (rk_lc (own := [("_law_key", 2)]) C (blkOk_by (by kernel_rfl)) (ri_seq (re_list T.list (ra_cons (re_nm 0) ra_nil))) (fun s H cc cl fp Cb => (rg_nm 2 Cb.nd (by decide))) (fun s H cc cl fp Cb => rts_nil) (fun s H cc cl fp Cb => (re_k (rk_call D_law_equal Cb hr (ra_cons (re_ix (re_nm 0) (re_nm 2)) (ra_cons (re_ix (re_nm 1) (re_nm 2)) ra_nil))))))) ra_nil)))))) rs_nil) (rs_cons (r1_if (rt_ne C (re_isi T.isinstance T.tuple bb_tuple is_tuple (re_nm 1)) (re_isi T.isinstance T.tuple bb_tuple is_tuple (re_nm 0))) (rs_one (r1_ret (rk_e re_bl))) rs_nil) (rs_cons (r1_if (rt_ne C (re_isi T.isinstance T.list bb_list is_list (re_nm 1)) (re_isi T.isinstance T.list bb_list is_list (re_nm 0))) (rs_one (r1_ret (rk_e re_bl))) rs_nil) (rs_cons (r1_if (rt_ne C (re_len T.len (ra_cons (re_nm 0) ra_nil)) (re_len T.len (ra_cons (re_nm 1) ra_nil))) (rs_one (r1_ret (rk_e re_bl))) rs_nil) (rs_one (r1_ret (rk_e (re_all C.calm T.all (ra_cons (re_k (rk_lc (own := [("_law_k", 3)]) C (blkOk_by (by kernel_rfl)) (ri_range1 T.range (re_len T.len (ra_cons (re_nm 1) ra_nil))) (fun s H cc cl fp Cb => (rg_nm 3 Cb.nd (by decide))) (fun s H cc cl fp Cb => rts_nil) (fun s H cc cl fp Cb => (re_k (rk_call D_law_equal Cb hr (ra_cons (re_ix (re_nm 0) (re_nm 3)) (ra_cons (re_ix (re_nm 1) (re_nm 3)) ra_nil))))))) ra_nil)))))))))))))
theorem e_law_equal (T : Txt mg) {lv : Nat} {pe : Pr} (D_law_equal : Def P w K mg base "_law_equal" 2 lv pe) {pr : Pr} (F : Fn K mg "_law_equal" s_law_equal ["_law_actual", "_law_expected"]) (hp : ∀ as Φ Ξ, pr as Φ Ξ → as.length = 2 ∧ t_law_equal pe (slots as 4) (fun y _ => Ξ y) { nx := fun _ => Φ (.dat .none), rt := Φ }) : Def P w K mg base "_law_equal" 2 (lv + 1) pr := fn_rd F sc_law_equal (q_law_equal T D_law_equal) hp
theorem b_law_equal (T : Txt mg) (F : Fn K mg "_law_equal" s_law_equal ["_law_actual", "_law_expected"]) (n : Nat) (D : Def P w K mg base "_law_equal" 2 (n + 1) (pl_equal n)) : Def P w K mg base "_law_equal" 2 (n + 1 + 1) (pl_equal (n + 1)) := by
  refine e_law_equal T D F fun as Φ Ξ h => ?_
  obtain ⟨d, rfl, hd, q⟩ := h
  refine ⟨rfl, ?_⟩
  cases d with
  | dict ds => cases n <;> simp [eqOk] at hd
  | tuple ds =>
    obtain ⟨m, rfl⟩ : ∃ m, n = m + 1 := by
      cases n with
      | zero => simp [eqOk] at hd
      | succ m => exact ⟨m, rfl⟩
    simp only [eqOk, Bool.and_eq_true, decide_eq_true_eq] at hd
    walk_at "zz"
    all_goals try (exfalso; simp_all; done)
    all_goals try exact absurd rfl (by assumption)
    refine .inr ⟨fun _ => .bool true, fun _ => true, by rw [rangeD_len]; omega, fun d hd' => ?_, ?_⟩
    · obtain ⟨i, hi, rfl⟩ := mem_rangeD hd'
      have hi : i < ds.length := by simpa using hi
      walk_at "z"
      rw [show (0 : Int) + (i : Int) = (i : Int) by omega]
      refine someK_of (lift_atD hi) ?_
      walk_at "zz"
      refine someK_of (lift_atD hi) ?_
      walk_at "zz"
      refine ⟨List.all_eq_true.mp hd.2 _ (List.getElem_mem hi), ?_⟩
      exact ⟨rfl, rfl⟩
    · walk_at "z"
      refine someK_of (d := List.replicate ds.length true) ?_ ?_
      · have : ∀ l : List PyData, blsD ((l.filter fun _ => true).map fun _ => PyData.bool true) = some (List.replicate l.length true) := by
          intro l
          induction l with
          | nil => rfl
          | cons a l ih => simp only [List.filter_cons, if_true, List.map_cons, blsD, ih]; rfl
        rw [this, rangeD_len]; simp
      · rw [all_true]; exact q
  | list ds =>
    obtain ⟨m, rfl⟩ : ∃ m, n = m + 1 := by
      cases n with
      | zero => simp [eqOk] at hd
      | succ m => exact ⟨m, rfl⟩
    simp only [eqOk, Bool.and_eq_true, decide_eq_true_eq] at hd
    walk_at "zz"
    all_goals try (exfalso; simp_all; done)
    all_goals try exact absurd rfl (by assumption)
    refine .inr ⟨fun _ => .bool true, fun _ => true, by rw [rangeD_len]; omega, fun d hd' => ?_, ?_⟩
    · obtain ⟨i, hi, rfl⟩ := mem_rangeD hd'
      have hi : i < ds.length := by simpa using hi
      walk_at "z"
      rw [show (0 : Int) + (i : Int) = (i : Int) by omega]
      refine someK_of (lift_atD hi) ?_
      walk_at "zz"
      refine someK_of (lift_atD hi) ?_
      walk_at "zz"
      refine ⟨List.all_eq_true.mp hd.2 _ (List.getElem_mem hi), ?_⟩
      exact ⟨rfl, rfl⟩
    · walk_at "z"
      refine someK_of (d := List.replicate ds.length true) ?_ ?_
      · have : ∀ l : List PyData, blsD ((l.filter fun _ => true).map fun _ => PyData.bool true) = some (List.replicate l.length true) := by
          intro l
          induction l with
          | nil => rfl
          | cons a l ih => simp only [List.filter_cons, if_true, List.map_cons, blsD, ih]; rfl
        rw [this, rangeD_len]; simp
      · rw [all_true]; exact q
  | _ =>
    walk_at "zz"
    all_goals first
      | exact q
      | (refine fin_dat q ?_; simp; done)
      | (exfalso; simp_all; done)
theorem d_law_equal0 (T : Txt mg) (F : Fn K mg "_law_equal" s_law_equal ["_law_actual", "_law_expected"]) : ∀ n : Nat, Def P w K mg base "_law_equal" 2 (n + 1) (pl_equal n)
  | 0 => fn_def F sc_law_equal (fun _ _ _ h => h.elim) fun _ _ _ _ _ _ _ _ _ _ _ _ h => h.elim
  | n + 1 => b_law_equal T F n (d_law_equal0 T F n)
theorem d_law_equal (T : Txt mg) (F : Fn K mg "_law_equal" s_law_equal ["_law_actual", "_law_expected"]) : Def P w K mg base "_law_equal" 2 7 p_law_equal := d_law_equal0 T F 6
def p_law_refused : Pr := fun as Φ _ => ∃ d e, as = [.dat d, .dat e] ∧ Φ (.dat (.bool (!blocksOk d e)))
def t_law_refused : DS := (sCons (sSet 2 (kE (eC (.bool false)))) (sCons (sTry ks (sExpr (kCall (p_block_costs) (aCons (eNm 0) (aCons (eNm 1) aNil)))) [(.BadBlocks, (sSet 2 (kE (eC (.bool true)))))]) (sRetV 2)))
theorem q_law_refused (T : Txt mg) (Y : Ecs K mg ks) (D_block_costs : Def P w K mg base "block_costs" 2 3 (p_block_costs)) (f : Addr) (cdv : Value) (A : Around) (outer : List Env) (s : Shared) (H : Hp) (E : XK) (hr : Room 3 (A.deeper (PyProof.Rows.envOfC "_law_refused" (defScope s_law_refused) s.heap.objs.size f cdv))) (C : Cxt (cxOf (L2.CX P w) P w K mg base n_law_refused "_law_refused" (defScope s_law_refused) f cdv A outer s H E) (wDef E)) : RS (cxOf (L2.CX P w) P w K mg base n_law_refused "_law_refused" (defScope s_law_refused) f cdv A outer s H E) (wDef E) (defBody s_law_refused) t_law_refused :=
  (rs_cons (r1_set 2 C.nd (rk_e re_bl)) (rs_cons (r1_try C Y (Cls.mk Y .BadBlocks (fun a oe pn => (rs_one (r1_set 2 C.nd (rk_e re_bl)))) .nil) fun W2 pn xe C2 => (rs_one (r1_expr (rk_call D_block_costs C2 (Room.mono hr (by decide)) (ra_cons (re_nm 0) (ra_cons (re_nm 1) ra_nil)))))) (rs_one (r1_retV 2))))
theorem e_law_refused (T : Txt mg) (Y : Ecs K mg ks) (D_block_costs : Def P w K mg base "block_costs" 2 3 (p_block_costs)) {pr : Pr} (F : Fn K mg "_law_refused" s_law_refused ["_law_first", "_law_second"]) (hp : ∀ as Φ Ξ, pr as Φ Ξ → as.length = 2 ∧ t_law_refused (slots as 3) (fun y _ => Ξ y) { nx := fun _ => Φ (.dat .none), rt := Φ }) : Def P w K mg base "_law_refused" 2 4 pr := fn_rd F sc_law_refused (q_law_refused T Y D_block_costs) hp
theorem d_law_refused (T : Txt mg) (Y : Ecs K mg ks) (D_block_costs : Def P w K mg base "block_costs" 2 3 (p_block_costs)) (F : Fn K mg "_law_refused" s_law_refused ["_law_first", "_law_second"]) : Def P w K mg base "_law_refused" 2 4 p_law_refused := by
  refine e_law_refused T Y D_block_costs F fun as Φ Ξ h => ?_
  obtain ⟨d, d', rfl, q⟩ := h
  refine ⟨rfl, ?_⟩
  walk_at "zz"
  cases h : blocksOk d d' with
  | false =>
    rw [h] at q
    refine resK_err (costR_no h) ?_
    walk_at "z"
    exact q
  | true =>
    rw [h] at q
    refine resK_ok (by unfold costR; rw [h]) ?_
    walk_at "z"
    exact q
-- math turn
def p_law_turned : Pr := fun as Φ _ => ∃ (ns : List Nat) (lo hi : Nat), as = [.dat (.list (ns.map pint)), .dat (.int lo), .dat (.int hi)] ∧ ((lo ≤ hi ∧ hi ≤ ns.length ∧ ns.length ≤ 100000) ∧
  Go (Φ (.dat (.tuple [.list ((turnN lo hi ns (hi - lo)).1.map pint), .int ((turnN lo hi ns (hi - lo)).2 : Nat)]))))
def t_law_turned : DS := (sCons (sPar [3, 4] (ksCons (kListOf (eNm 0)) (ksCons (kE (eC (.int 0))) ksNil))) (sCons (sFor (iRange1 (eOp oSub (eNm 2) (eNm 1))) (gNm 5) (sCons (sPar [6, 7] (ksCons (kE (eOp oAdd (eNm 1) (eNm 5))) (ksCons (kE (eOp oSub (eOp oSub (eNm 2) (eC (.int 1))) (eNm 5))) ksNil))) (sIf (tV (eOp oLt (eNm 6) (eNm 7))) (sCons (sUnp (eTup (aCons (eMelt 3 (eOp oIx (eNm 3) (eNm 7))) (aCons (eMelt 3 (eOp oIx (eNm 3) (eNm 6))) aNil))) [(xIt 3 (eNm 6)), (xIt 3 (eNm 7))]) (sSet 4 (kE (eOp oAdd (eNm 4) (eC (.int 1)))))) sNil))) (sFrz 3 (sRet (kE (eTup (aCons (eNm 3) (aCons (eNm 4) aNil))))))))
theorem q_law_turned (T : Txt mg) (f : Addr) (cdv : Value) (A : Around) (outer : List Env) (s : Shared) (H : Hp) (E : XK) (hr : Room 0 (A.deeper (PyProof.Rows.envOfC "_law_turned" (defScope s_law_turned) s.heap.objs.size f cdv))) (C : Cxt (cxOf (L2.CX P w) P w K mg base n_law_turned "_law_turned" (defScope s_law_turned) f cdv A outer s H E) (wDef E)) : RS (cxOf (L2.CX P w) P w K mg base n_law_turned "_law_turned" (defScope s_law_turned) f cdv A outer s H E) (wDef E) (defBody s_law_turned) t_law_turned :=
  (rs_cons (by first | exact r1_par2 3 4 C (rks_cons (rk_listOf T.list (re_nm 0)) (rks_cons (rk_e re_int) rks_nil)) | exact r1_parT (l := [3, 4]) C (rks_cons (rk_listOf T.list (re_nm 0)) (rks_cons (rk_e re_int) rks_nil)) (Nms.mk 3 (Nms.mk 4 .nil))) (rs_cons (r1_for C (ri_range1 T.range (re_sub (re_nm 2) (re_nm 1))) (rg_nm 5 C.nd trivial) (rs_cons (by first | exact r1_par2 6 7 C (rks_cons (rk_e (re_add (re_nm 1) (re_nm 5))) (rks_cons (rk_e (re_sub (re_sub (re_nm 2) re_int) (re_nm 5))) rks_nil)) | exact r1_parT (l := [6, 7]) C (rks_cons (rk_e (re_add (re_nm 1) (re_nm 5))) (rks_cons (rk_e (re_sub (re_sub (re_nm 2) re_int) (re_nm 5))) rks_nil)) (Nms.mk 6 (Nms.mk 7 .nil))) (rs_one (r1_if (rt_lt (re_nm 6) (re_nm 7)) (rs_cons (r1_unp C (re_tup (ra_cons (re_melt 3 (re_ix (re_nm 3) (re_nm 7))) (ra_cons (re_melt 3 (re_ix (re_nm 3) (re_nm 6))) ra_nil))) (rxs_cons (rx_it 3 (re_nm 6)) (rxs_cons (rx_it 3 (re_nm 7)) rxs_nil))) (rs_one (r1_set 4 C.nd (rk_e (re_add (re_nm 4) re_int))))) rs_nil)))) (rs_frz 3 (rs_one (r1_ret (rk_e (re_tup (ra_cons (re_nm 3) (ra_cons (re_nm 4) ra_nil)))))))))
theorem e_law_turned (T : Txt mg) {pr : Pr} (F : Fn K mg "_law_turned" s_law_turned ["_law_row", "_law_low", "_law_high"]) (hp : ∀ as Φ Ξ, pr as Φ Ξ → as.length = 3 ∧ t_law_turned (slots as 8) (fun y _ => Ξ y) { nx := fun _ => Φ (.dat .none), rt := Φ }) : Def P w K mg base "_law_turned" 3 1 pr := fn_rd F sc_law_turned (q_law_turned T) hp
theorem d_law_turned (T : Txt mg) (F : Fn K mg "_law_turned" s_law_turned ["_law_row", "_law_low", "_law_high"]) : Def P w K mg base "_law_turned" 3 1 p_law_turned := by
  refine e_law_turned T F fun as Φ Ξ h => ?_
  obtain ⟨ns, lo, hi, rfl, ⟨h1, h2, h3⟩, q⟩ := h
  refine ⟨rfl, ?_⟩
  walk_at "zz"
  refine ⟨fun i ρ => ∃ x y z : Sl, ρ = [.dat (.list (ns.map pint)), .dat (.int lo), .dat (.int hi), .own ((turnN lo hi ns i).1.map pint), .dat (.int ((turnN lo hi ns i).2 : Nat)), x, y, z], ⟨_, _, _, rfl⟩, ?_, ?_⟩
  · rintro i d ρ hd ⟨x, y, z, rfl⟩
    obtain ⟨hi', rfl⟩ := rangeD_get hd
    have hm := turnN_many lo hi ns i
    have hl := turnN_len lo hi ns i
    walk_at "z"
    · refine someK_of (at_pint (hi - 1 - i) (by omega) (by omega)) ?_
      walk_at "zz"
      refine someK_of (at_pint (lo + i) (by omega) (by omega)) ?_
      walk_at "zz"
      refine someK_of (ix_of (lo + i) (by simp [hl]; omega) (by omega)) ?_
      walk_at "zz"
      refine someK_of (ix_of (hi - 1 - i) (by simp [hl]; omega) (by omega)) ?_
      walk_at "zz"
      refine ⟨.dat (.int (0 + i)), .dat (.int (lo + (0 + i))), .dat (.int (hi - 1 - (0 + i))), ?_⟩
      rw [turnN, turn1, if_pos (by omega)]
      show [_, _, _, Sl.own _, _, _, _, _] = _
      simp [pint]
    · refine ⟨.dat (.int (0 + i)), .dat (.int (lo + (0 + i))), .dat (.int (hi - 1 - (0 + i))), ?_⟩
      rw [turnN, turn1, if_neg (by omega)]
      rfl
  · rintro ρ ⟨x, y, z, rfl⟩
    rw [rangeD_len] at *
    walk_at "z"
    refine fin_dat q ?_
    rw [show ((hi : Int) - lo).toNat = hi - lo by omega]
/-- one exchange of like blocks -/
def like1 (s : Nat × Nat × Nat) : Nat × Nat × Nat := if 0 < s.2.1 ∧ 0 < s.2.2 then (s.1 + min s.2.1 s.2.2, if s.2.2 ≤ s.2.1 then (s.2.1 - s.2.2, s.2.2) else (s.2.1, s.2.2 - s.2.1)) else s
def likeN (a b : Nat) : Nat → Nat × Nat × Nat
  | 0 => (0, a, b)
  | n + 1 => like1 (likeN a b n)
/-- the sum of both and what is counted stays; the divisor stays -/
theorem likeN_inv (a b : Nat) : ∀ n, (likeN a b n).1 + (likeN a b n).2.1 + (likeN a b n).2.2 = a + b ∧ Nat.gcd (likeN a b n).2.1 (likeN a b n).2.2 = Nat.gcd a b
  | 0 => by simp [likeN]
  | n + 1 => by
    obtain ⟨h1, h2⟩ := likeN_inv a b n
    rw [likeN, like1]
    split
    · rename_i h
      split
      · rename_i h'
        refine ⟨by simp only; omega, ?_⟩
        simp only
        rw [← h2, Nat.gcd_sub_self_left h']
      · rename_i h'
        refine ⟨by simp only; omega, ?_⟩
        simp only
        rw [← h2, Nat.gcd_sub_self_right (by omega)]
    · exact ⟨h1, h2⟩
theorem likeN_end (a b : Nat) : ∀ n, (0 < (likeN a b n).2.1 ∧ 0 < (likeN a b n).2.2) → (likeN a b n).2.1 + (likeN a b n).2.2 + n ≤ a + b
  | 0, _ => by simp [likeN]
  | n + 1, h => by
    have i1 := (likeN_inv a b (n + 1)).1
    rw [likeN, like1] at h ⊢
    split at h
    · rename_i h0
      have := likeN_end a b n h0
      rw [if_pos h0]
      split at h
      · rename_i h'
        simp only at h ⊢
        rw [if_pos h']
        simp only
        omega
      · rename_i h'
        simp only at h ⊢
        rw [if_neg h']
        simp only
        omega
    · rename_i h0
      exact absurd h h0
theorem like_is {a b : Nat} (ha : 0 < a) (hb : 0 < b) : (likeN a b (a + b)).1 = a + b - Nat.gcd a b := by
  obtain ⟨h1, h2⟩ := likeN_inv a b (a + b)
  have h3 : ¬ (0 < (likeN a b (a + b)).2.1 ∧ 0 < (likeN a b (a + b)).2.2) := fun h => by
    have := likeN_end a b (a + b) h
    omega
  have g0 : 0 < Nat.gcd a b := Nat.gcd_pos_of_pos_left _ ha
  by_cases z : (likeN a b (a + b)).2.1 = 0
  · rw [z, Nat.gcd_zero_left] at h2
    rw [z] at h1
    omega
  · have z2 : (likeN a b (a + b)).2.2 = 0 := by omega
    rw [z2, Nat.gcd_zero_right] at h2
    rw [z2] at h1
    omega
def p_law_like : Pr := fun as Φ _ => ∃ a b : Nat, as = [.dat (.int a), .dat (.int b)] ∧ (a + b ≤ 100000 ∧ Go (Φ (.dat (.int ((likeN a b (a + b)).1 : Nat)))))
def t_law_like : DS := (sCons (sPar [2, 3, 4] (ksCons (kE (eC (.int 0))) (ksCons (kE (eNm 0)) (ksCons (kE (eNm 1)) ksNil)))) (sCons (sFor (iRange1 (eOp oAdd (eNm 0) (eNm 1))) (gNm 5) (sIf (tAnd (tV (eOp oGt (eNm 3) (eC (.int 0)))) (tV (eOp oGt (eNm 4) (eC (.int 0))))) (sCons (sSet 2 (kE (eOp oAdd (eNm 2) (eB bMin (aCons (eLst (aCons (eNm 3) (aCons (eNm 4) aNil))) aNil))))) (sUnp (eIf (tV (eOp oGe (eNm 3) (eNm 4))) (eTup (aCons (eOp oSub (eNm 3) (eNm 4)) (aCons (eNm 4) aNil))) (eTup (aCons (eNm 3) (aCons (eOp oSub (eNm 4) (eNm 3)) aNil)))) [(xNm 3), (xNm 4)])) sNil)) (sRetV 2)))
theorem q_law_like (T : Txt mg) (f : Addr) (cdv : Value) (A : Around) (outer : List Env) (s : Shared) (H : Hp) (E : XK) (hr : Room 0 (A.deeper (PyProof.Rows.envOfC "_law_like" (defScope s_law_like) s.heap.objs.size f cdv))) (C : Cxt (cxOf (L2.CX P w) P w K mg base n_law_like "_law_like" (defScope s_law_like) f cdv A outer s H E) (wDef E)) : RS (cxOf (L2.CX P w) P w K mg base n_law_like "_law_like" (defScope s_law_like) f cdv A outer s H E) (wDef E) (defBody s_law_like) t_law_like :=
  (rs_cons (by first | exact r1_par3 2 3 4 C (rks_cons (rk_e re_int) (rks_cons (rk_e (re_nm 0)) (rks_cons (rk_e (re_nm 1)) rks_nil))) | exact r1_parT (l := [2, 3, 4]) C (rks_cons (rk_e re_int) (rks_cons (rk_e (re_nm 0)) (rks_cons (rk_e (re_nm 1)) rks_nil))) (Nms.mk 2 (Nms.mk 3 (Nms.mk 4 .nil)))) (rs_cons (r1_for C (ri_range1 T.range (re_add (re_nm 0) (re_nm 1))) (rg_nm 5 C.nd trivial) (rs_one (r1_if (rt_w (rw_and (rt_gt (re_nm 3) re_int) (rw_and1 (rt_gt (re_nm 4) re_int)))) (rs_cons (r1_set 2 C.nd (rk_e (re_add (re_nm 2) (re_min C.calm T.min (ra_cons (re_lst (ra_cons (re_nm 3) (ra_cons (re_nm 4) ra_nil))) ra_nil))))) (rs_one (r1_unp C (re_if (rt_ge (re_nm 3) (re_nm 4)) (re_tup (ra_cons (re_sub (re_nm 3) (re_nm 4)) (ra_cons (re_nm 4) ra_nil))) (re_tup (ra_cons (re_nm 3) (ra_cons (re_sub (re_nm 4) (re_nm 3)) ra_nil)))) (rxs_cons (rx_nm 3 C.nd) (rxs_cons (rx_nm 4 C.nd) rxs_nil))))) rs_nil))) (rs_one (r1_retV 2))))
theorem e_law_like (T : Txt mg) {pr : Pr} (F : Fn K mg "_law_like" s_law_like ["_law_first", "_law_second"]) (hp : ∀ as Φ Ξ, pr as Φ Ξ → as.length = 2 ∧ t_law_like (slots as 6) (fun y _ => Ξ y) { nx := fun _ => Φ (.dat .none), rt := Φ }) : Def P w K mg base "_law_like" 2 1 pr := fn_rd F sc_law_like (q_law_like T) hp
theorem d_law_like (T : Txt mg) (F : Fn K mg "_law_like" s_law_like ["_law_first", "_law_second"]) : Def P w K mg base "_law_like" 2 1 p_law_like := by
  refine e_law_like T F fun as Φ Ξ h => ?_
  obtain ⟨a, b, rfl, h1, q⟩ := h
  refine ⟨rfl, ?_⟩
  walk_at "zz"
  refine ⟨fun i ρ => ∃ x : Sl, ρ = [.dat (.int a), .dat (.int b), .dat (.int ((likeN a b i).1 : Nat)), .dat (.int ((likeN a b i).2.1 : Nat)), .dat (.int ((likeN a b i).2.2 : Nat)), x], ⟨_, rfl⟩, ?_, ?_⟩
  · rintro i d ρ hd ⟨x, rfl⟩
    obtain ⟨hi', rfl⟩ := rangeD_get hd
    have h2 := likeN_inv a b i
    walk_at "z"
    · refine ⟨by simp, fun m hm hle => ?_⟩
      walk_at "z"
      · refine ⟨.dat (.int (0 + i)), ?_⟩
        have hm' : m = (likeN a b i).2.2 := by
          have l1 := hle _ (List.mem_cons_self)
          have l2 := hle _ (List.mem_cons_of_mem _ List.mem_cons_self)
          simp at hm
          omega
        rw [likeN, like1, if_pos (by omega), if_pos (by omega)]
        show [_, _, Sl.dat _, Sl.dat _, Sl.dat _, _] = _
        simp
        omega
      · refine ⟨.dat (.int (0 + i)), ?_⟩
        have hm' : m = (likeN a b i).2.1 := by
          have l1 := hle _ (List.mem_cons_self)
          have l2 := hle _ (List.mem_cons_of_mem _ List.mem_cons_self)
          simp at hm
          omega
        rw [likeN, like1, if_pos (by omega), if_neg (by omega)]
        show [_, _, Sl.dat _, Sl.dat _, Sl.dat _, _] = _
        simp
        omega
    all_goals
      refine ⟨.dat (.int (0 + i)), ?_⟩
      rw [likeN, like1, if_neg (by omega)]
      rfl
  · rintro ρ ⟨x, rfl⟩
    rw [rangeD_len] at *
    walk_at "z"
    refine fin_dat q ?_
    rw [show ((a : Int) + b).toNat = a + b by omega]
-- math rings8
def p_law_rings : Pr := fun as Φ _ => ∃ a b : Nat, as = [.dat (.int a), .dat (.int b)] ∧ ((0 < a + b ∧ a + b ≤ 100) ∧ Go (Φ (.dat (.int (ringMoves (a + b) b (a + b) : Nat)))))
def t_law_rings : DS := (sCons (sPar [2, 3, 4] (ksCons (kE (eOp oAdd (eNm 0) (eNm 1))) (ksCons (kE (eLst aNil)) (ksCons (kE (eC (.int 0))) ksNil)))) (sCons (sFor (iRange1 (eNm 2)) (gNm 5) (sCons (sSet 6 (kE (eLst (aCons (eNm 5) aNil)))) (sCons (sFor (iRange1 (eNm 2)) (gNm 7) (sCons (sSet 8 (kE (eOp oMod (eOp oAdd (eOp oIx (eNm 6) (eC (.int (-1)))) (eNm 1)) (eNm 2)))) (sSet 6 (kE (eIf (tV (eOp oEq (eNm 8) (eNm 5))) (eNm 6) (eOp oAdd (eNm 6) (eLst (aCons (eNm 8) aNil)))))))) (sCons (sIf (tAnd (tV (eOp (oIn true) (eNm 5) (eNm 3))) (tV (eOp oGt (eB bLen (aCons (eNm 6) aNil)) (eC (.int 1))))) (sSet 4 (kE (eOp oAdd (eOp oAdd (eNm 4) (eB bLen (aCons (eNm 6) aNil))) (eC (.int 1))))) sNil) (sSet 3 (kE (eOp oAdd (eNm 3) (eNm 6)))))))) (sRetV 4)))
theorem q_law_rings (T : Txt mg) (f : Addr) (cdv : Value) (A : Around) (outer : List Env) (s : Shared) (H : Hp) (E : XK) (hr : Room 0 (A.deeper (PyProof.Rows.envOfC "_law_rings" (defScope s_law_rings) s.heap.objs.size f cdv))) (C : Cxt (cxOf (L2.CX P w) P w K mg base n_law_rings "_law_rings" (defScope s_law_rings) f cdv A outer s H E) (wDef E)) : RS (cxOf (L2.CX P w) P w K mg base n_law_rings "_law_rings" (defScope s_law_rings) f cdv A outer s H E) (wDef E) (defBody s_law_rings) t_law_rings :=
  (rs_cons (by first | exact r1_par3 2 3 4 C (rks_cons (rk_e (re_add (re_nm 0) (re_nm 1))) (rks_cons (rk_e (re_lst ra_nil)) (rks_cons (rk_e re_int) rks_nil))) | exact r1_parT (l := [2, 3, 4]) C (rks_cons (rk_e (re_add (re_nm 0) (re_nm 1))) (rks_cons (rk_e (re_lst ra_nil)) (rks_cons (rk_e re_int) rks_nil))) (Nms.mk 2 (Nms.mk 3 (Nms.mk 4 .nil)))) (rs_cons (r1_for C (ri_range1 T.range (re_nm 2)) (rg_nm 5 C.nd trivial) (rs_cons (r1_set 6 C.nd (rk_e (re_lst (ra_cons (re_nm 5) ra_nil)))) (rs_cons (r1_for C (ri_range1 T.range (re_nm 2)) (rg_nm 7 C.nd trivial) (rs_cons (r1_set 8 C.nd (rk_e (re_mod (re_add (re_ix (re_nm 6) (re_neg1 (-1))) (re_nm 1)) (re_nm 2)))) (rs_one (r1_set 6 C.nd (rk_e (re_if (rt_eq C (re_nm 8) (re_nm 5)) (re_nm 6) (re_add (re_nm 6) (re_lst (ra_cons (re_nm 8) ra_nil))))))))) (rs_cons (r1_if (rt_w (rw_and (rt_nin (re_nm 5) (re_nm 3)) (rw_and1 (rt_gt (re_len T.len (ra_cons (re_nm 6) ra_nil)) re_int)))) (rs_one (r1_set 4 C.nd (rk_e (re_add (re_add (re_nm 4) (re_len T.len (ra_cons (re_nm 6) ra_nil))) re_int)))) rs_nil) (rs_one (r1_set 3 C.nd (rk_e (re_add (re_nm 3) (re_nm 6))))))))) (rs_one (r1_retV 4))))
theorem e_law_rings (T : Txt mg) {pr : Pr} (F : Fn K mg "_law_rings" s_law_rings ["_law_first", "_law_second"]) (hp : ∀ as Φ Ξ, pr as Φ Ξ → as.length = 2 ∧ t_law_rings (slots as 9) (fun y _ => Ξ y) { nx := fun _ => Φ (.dat .none), rt := Φ }) : Def P w K mg base "_law_rings" 2 1 pr := fn_rd F sc_law_rings (q_law_rings T) hp
theorem d_law_rings (T : Txt mg) (F : Fn K mg "_law_rings" s_law_rings ["_law_first", "_law_second"]) : Def P w K mg base "_law_rings" 2 1 p_law_rings := by
  refine e_law_rings T F fun as Φ Ξ h => ?_
  obtain ⟨a, b, rfl, ⟨h1, h2⟩, q⟩ := h
  refine ⟨rfl, ?_⟩
  obtain ⟨n, hn⟩ : ∃ n, n = a + b := ⟨_, rfl⟩
  have hn' : (a : Int) + b = (n : Int) := by omega
  rw [← hn] at q
  have g0 : 0 < Nat.gcd n b := Nat.gcd_pos_of_pos_left _ (by omega)
  have L0 : 0 < n / Nat.gcd n b := Nat.div_pos (Nat.le_of_dvd (by omega) (Nat.gcd_dvd_left n b)) g0
  have L1 : n / Nat.gcd n b ≤ n := Nat.div_le_self _ _
  walk_at "zz"
  rw [hn']
  refine ⟨fun p ρ => ∃ (kn : List Nat) (x y z u : Sl), ρ = [.dat (.int a), .dat (.int b), .dat (.int n), .dat (.list (kn.map pint)), .dat (.int (ringMoves n b p : Nat)), x, y, z, u] ∧ Kn n b p kn, ⟨[], .unk, .unk, .unk, .unk, by rw [ringMoves_zero]; rfl, kn_zero (by omega)⟩, ?_, ?_⟩
  · rintro p d ρ hd ⟨kn, x, y, z, u, rfl, hk⟩
    obtain ⟨hp, rfl⟩ := rangeD_get hd
    have hp : p < n := by omega
    rw [show (0 : Int) + (p : Int) = (p : Int) by omega]
    walk_at "z"
    refine ⟨fun i ρ => ∃ x y : Sl, ρ = [.dat (.int a), .dat (.int b), .dat (.int n), .dat (.list (kn.map pint)), .dat (.int (ringMoves n b p : Nat)), .dat (.int p), .dat (.list ((ringL (addN n b) p (min (i + 1) (n / Nat.gcd n b))).map pint)), x, y], ⟨z, u, ?_⟩, ?_, ?_⟩
    · rw [Nat.min_eq_left (by omega)]
      rfl
    · rintro i d ρ hd ⟨x, y, rfl⟩
      obtain ⟨hi, rfl⟩ := rangeD_get hd
      rw [Int.toNat_natCast] at hi
      have m0 : 0 < min (i + 1) (n / Nat.gcd n b) := by omega
      obtain ⟨m, hm⟩ : ∃ m, min (i + 1) (n / Nat.gcd n b) = m + 1 := ⟨_, (Nat.succ_pred_eq_of_pos m0).symm⟩
      rw [hm]
      have next : iter (addN n b) (m + 1) p = (iter (addN n b) m p + b) % n := rfl
      have B := addN_back (n := n) (s := b) hp
      walk_at "z"
      have hc : ((iter (addN n b) m p : Nat) + (b : Int)) % (n : Int) = (iter (addN n b) (m + 1) p : Nat) := by rw [next]; simp
      refine someK_of (at_last (n := m) (by simp [ringL_len]) (by rw [List.getElem?_map, ringL_at (by omega)]; rfl)) ?_
      walk_at "zz"
      · have e := e
        rw [hc] at e
        have e2 : iter (addN n b) (m + 1) p = p := by omega
        have hL : m + 1 = n / Nat.gcd n b := by
          have h1 := Nat.le_of_dvd (by omega) ((B.dvd _).mp e2)
          omega
        rw [show min (i + 1 + 1) (n / Nat.gcd n b) = m + 1 by omega]
        exact ⟨_, _, rfl⟩
      · have e := e
        rw [hc] at e
        have hL : m + 1 ≠ n / Nat.gcd n b := fun z => e (by rw [z, B.back])
        refine ⟨by simp [ringL_len]; omega, ?_⟩
        walk_at "z"
        rw [show min (i + 1 + 1) (n / Nat.gcd n b) = m + 1 + 1 by omega, ringL_succ, List.map_append]
        refine ⟨.dat (.int (0 + i)), .dat (.int (((iter (addN n b) m p : Nat) + (b : Int)) % (n : Int))), ?_⟩
        show [_, _, _, _, _, _, Sl.dat _, _, _] = _
        simp [hc, pint, ringL_succ]
    · rintro ρ ⟨x, y, rfl⟩
      rw [rangeD_len, Int.toNat_natCast, show min (n + 1) (n / Nat.gcd n b) = n / Nat.gcd n b by omega]
      have hm : decide (p ∈ kn) = decide (Nat.gcd n b ≤ p) := decide_eq_decide.mpr (hk.new hp)
      walk_at "z"
      refine ⟨⟨rfl, flat_pint _⟩, ?_⟩
      rw [inD_pint, hm]
      have hkl : kn.length + n ≤ 100000 := by
        have h1 := hk.len
        have h2 : p * n ≤ 100 * 100 := Nat.mul_le_mul (by omega) (by omega)
        omega
      have hrl : (ringL (addN n b) p (n / Nat.gcd n b)).length = n / Nat.gcd n b := ringL_len _ _ _
      walk_at "z"
      all_goals (rw [← List.map_append])
      · have e := e
        rw [List.length_map] at e
        refine ⟨_, .dat (.int p), .dat (.list ((ringL (addN n b) p (n / Nat.gcd n b)).map pint)), x, y, ?_, hk.next hp⟩
        rw [ringMoves_succ, if_pos (by omega)]
        show [_, _, _, _, Sl.dat _, _, _, _, _] = _
        simp [hrl]
        omega
      · have e := e
        rw [List.length_map] at e
        refine ⟨_, .dat (.int p), .dat (.list ((ringL (addN n b) p (n / Nat.gcd n b)).map pint)), x, y, ?_, hk.next hp⟩
        rw [ringMoves_succ, if_neg (by omega)]
        rfl
      · refine ⟨_, .dat (.int p), .dat (.list ((ringL (addN n b) p (n / Nat.gcd n b)).map pint)), x, y, ?_, hk.next hp⟩
        rw [ringMoves_succ, if_neg (by omega)]
        rfl
  · rintro ρ ⟨kn, x, y, z, u, rfl, hk⟩
    rw [rangeD_len, Int.toNat_natCast] at *
    walk_at "z"
    exact q
-- math turn
-- math rings8
def p_law : Pr := fun as Φ _ => ∃ ns : List Int, as = [.scr ns] ∧ (ns.length ≤ 63 ∧ Go (Φ (.dat (.bool true))))
theorem drw_ints {a b : Int} {ms : List Int} (h0 : 0 ≤ a) (h1 : 0 ≤ b) (h2 : ∀ m ∈ ms, 0 ≤ m) : drwOk ((a :: b :: ms).map .int) = true := by
  show (decide (0 ≤ a) && (decide (0 ≤ b) && _)) = true
  rw [decide_eq_true h0, decide_eq_true h1, Bool.true_and, Bool.true_and]
  induction ms with
  | nil => rfl
  | cons m ms ih =>
    rw [List.map_cons, List.all_cons, ih fun m hm => h2 m (List.mem_cons_of_mem _ hm), Bool.and_true]
    exact decide_eq_true (h2 m List.mem_cons_self)
def t_law : DS := (sCons (sSet 1 (kCall (p_law_random) (aScr 0 (aCons (eC (.int 2508)) aNil)))) (sDrw 1 (sCons (sFor (iRange1 (eC (.int 2))) (gNm 2) (sCons (sPar [3, 4] (ksCons (kE (eK (kCall (p_law_below) (aDrw 1 (aCons (eC (.int 20)) aNil))))) (ksCons (kE (eK (kCall (p_law_below) (aDrw 1 (aCons (eC (.int 20)) aNil))))) ksNil))) (sIf (tV (eOp oGt (eOp oAdd (eNm 3) (eNm 4)) (eC (.int 0)))) (sCons (sUnp (eK (kCall (p_law_turned) (aCons (eK (kRg (eC (.int 0)) (eOp oAdd (eNm 3) (eNm 4)))) (aCons (eC (.int 0)) (aCons (eNm 3) aNil))))) [(xNm 5), (xNm 6)]) (sCons (sUnp (eK (kCall (p_law_turned) (aCons (eNm 5) (aCons (eNm 3) (aCons (eOp oAdd (eNm 3) (eNm 4)) aNil))))) [(xNm 5), (xNm 7)]) (sCons (sUnp (eK (kCall (p_law_turned) (aCons (eNm 5) (aCons (eC (.int 0)) (aCons (eOp oAdd (eNm 3) (eNm 4)) aNil))))) [(xNm 5), (xNm 8)]) (sCons (sIf (tV (eOp oNe (eNm 5) (eOp oAdd (eK (kRg (eNm 3) (eOp oAdd (eNm 3) (eNm 4)))) (eK (kRg (eC (.int 0)) (eNm 3)))))) (sRet (kE (eC (.bool false)))) sNil) (sCons (sSet 9 (kE (eTup (aCons (eOp oAdd (eOp oAdd (eNm 6) (eNm 7)) (eNm 8)) (aCons (eK (kCall (p_law_rings) (aCons (eNm 3) (aCons (eNm 4) aNil)))) (aCons (eK (kCall (p_law_like) (aCons (eNm 3) (aCons (eNm 4) aNil)))) aNil)))))) (sIf (tNot (tV (eK (kCall (p_law_equal) (aCons (eK (kCall (p_block_costs) (aCons (eNm 3) (aCons (eNm 4) aNil)))) (aCons (eIf (tV (eOp oGt (eOp oMul (eNm 3) (eNm 4)) (eC (.int 0)))) (eNm 9) (eTup (aCons (eC (.int 0)) (aCons (eC (.int 0)) (aCons (eC (.int 0)) aNil))))) aNil)))))) (sRet (kE (eC (.bool false)))) sNil)))))) sNil))) (sCons (sSet 10 (kE (eOp oAdd (eC (.int 1)) (eK (kCall (p_law_below) (aDrw 1 (aCons (eC (.int 1000000000)) aNil))))))) (sCons (sPar [3, 4] (ksCons (kE (eOp oMul (eNm 10) (eC (.int 1000000000000000)))) (ksCons (kE (eOp oMul (eNm 10) (eOp oAdd (eC (.int 10000000000000000)) (eC (.int 1))))) ksNil))) (sCons (sSet 11 (kE (eOp oAdd (eNm 3) (eNm 4)))) (sCons (sIf (tNot (tV (eK (kCall (p_law_equal) (aCons (eSl (eK (kCall (p_block_costs) (aCons (eNm 3) (aCons (eNm 4) aNil)))) (some (eC (.int 1))) none) (aCons (eTup (aCons (eOp oAdd (eNm 11) (eNm 10)) (aCons (eOp oSub (eNm 11) (eNm 10)) aNil))) aNil)))))) (sRet (kE (eC (.bool false)))) sNil) (sCons (sIf (tOr (tV (eOp oNe (eOp oIx (eK (kCall (p_block_costs) (aCons (eNm 3) (aCons (eNm 4) aNil)))) (eC (.int 0))) (eOp oAdd (eOp oAdd (eOp oDiv (eNm 3) (eC (.int 2))) (eOp oDiv (eNm 4) (eC (.int 2)))) (eOp oDiv (eNm 11) (eC (.int 2)))))) (tNot (tV (eK (kCall (p_law_refused) (aCons (eC (.int 1000000000000000000000000000000)) (aCons (eC (.int 1)) aNil))))))) (sRet (kE (eC (.bool false)))) sNil) (sCons (sSet 12 (kE (eOp oAdd (eC (.int 1)) (eK (kCall (p_law_below) (aDrw 1 (aCons (eC (.int 9)) aNil))))))) (sCons (sSet 10 (kE (eOp oMul (eC (.int 100000000000000000000000000000)) (eB bMax (aCons (eK (kLc [15] (iRange2 (eC (.int 1)) (eC (.int 10))) (gNm 15) (tAnd (tV (eOp oEq (eOp oMod (eNm 12) (eNm 15)) (eC (.int 0)))) (tV (eOp oEq (eOp oMod (eC (.int 10)) (eNm 15)) (eC (.int 0))))) (eNm 15))) aNil))))) (sCons (sSet 13 (kE (eK (kCall (p_block_costs) (aCons (eOp oMul (eNm 12) (eC (.int 100000000000000000000000000000))) (aCons (eOp oMul (eOp oSub (eC (.int 10)) (eNm 12)) (eC (.int 100000000000000000000000000000))) aNil)))))) (sCons (sIf (tNot (tV (eK (kCall (p_law_equal) (aCons (eSl (eNm 13) (some (eC (.int 1))) none) (aCons (eTup (aCons (eOp oAdd (eC (.int 1000000000000000000000000000000)) (eNm 10)) (aCons (eOp oSub (eC (.int 1000000000000000000000000000000)) (eNm 10)) aNil))) aNil)))))) (sRet (kE (eC (.bool false)))) sNil) (sCons (sFor (iSq (eLst (aCons (eC .none) (aCons (eC (.int (-1))) (aCons (eC (.str "3")) (aCons (eC (.bool true)) (aCons (eOp oAdd (eC (.int 1000000000000000000000000000000)) (eC (.int 1))) aNil))))))) (gNm 14) (sIf (tOr (tNot (tV (eK (kCall (p_law_refused) (aCons (eNm 14) (aCons (eC (.int 2)) aNil)))))) (tNot (tV (eK (kCall (p_law_refused) (aCons (eC (.int 2)) (aCons (eNm 14) aNil))))))) (sRet (kE (eC (.bool false)))) sNil)) (sRet (kCall (p_law_refused) (aCons (eC (.int 0)) (aCons (eC (.int 0)) aNil)))))))))))))))))
theorem q_law (T : Txt mg) (D_block_costs : Def P w K mg base "block_costs" 2 3 (p_block_costs)) (D_law_random : Def P w K mg base "_law_random" 2 1 (p_law_random)) (D_law_below : Def P w K mg base "_law_below" 2 1 (p_law_below)) (D_law_equal : Def P w K mg base "_law_equal" 2 7 (p_law_equal)) (D_law_refused : Def P w K mg base "_law_refused" 2 4 (p_law_refused)) (D_law_turned : Def P w K mg base "_law_turned" 3 1 (p_law_turned)) (D_law_like : Def P w K mg base "_law_like" 2 1 (p_law_like)) (D_law_rings : Def P w K mg base "_law_rings" 2 1 (p_law_rings)) (f : Addr) (cdv : Value) (A : Around) (outer : List Env) (s : Shared) (H : Hp) (E : XK) (hr : Room 7 (A.deeper (PyProof.Rows.envOfC "law" (defScope s_law) s.heap.objs.size f cdv))) (C : Cxt (cxOf (L2.CX P w) P w K mg base n_law "law" (defScope s_law) f cdv A outer s H E) (wDef E)) : RS (cxOf (L2.CX P w) P w K mg base n_law "law" (defScope s_law) f cdv A outer s H E) (wDef E) (defBody s_law) t_law :=
  (rs_cons (r1_set 1 C.nd (rk_call D_law_random C (Room.mono hr (by decide)) (ra_scr 0 (ra_cons re_int ra_nil)))) (rs_drw 1 (rs_cons (r1_for C (ri_range1 T.range re_int) (rg_nm 2 C.nd trivial) (rs_cons (by first | exact r1_par2 3 4 C (rks_cons (rk_e (re_k (rk_call D_law_below C (Room.mono hr (by decide)) (ra_drw 1 (ra_cons re_int ra_nil))))) (rks_cons (rk_e (re_k (rk_call D_law_below C (Room.mono hr (by decide)) (ra_drw 1 (ra_cons re_int ra_nil))))) rks_nil)) | exact r1_parT (l := [3, 4]) C (rks_cons (rk_e (re_k (rk_call D_law_below C (Room.mono hr (by decide)) (ra_drw 1 (ra_cons re_int ra_nil))))) (rks_cons (rk_e (re_k (rk_call D_law_below C (Room.mono hr (by decide)) (ra_drw 1 (ra_cons re_int ra_nil))))) rks_nil)) (Nms.mk 3 (Nms.mk 4 .nil))) (rs_one (r1_if (rt_gt (re_add (re_nm 3) (re_nm 4)) re_int) (rs_cons (r1_unp C (re_k (rk_call D_law_turned C (Room.mono hr (by decide)) (ra_cons (re_k (rk_rg1 C T.list T.range (re_add (re_nm 3) (re_nm 4)))) (ra_cons re_int (ra_cons (re_nm 3) ra_nil))))) (rxs_cons (rx_nm 5 C.nd) (rxs_cons (rx_nm 6 C.nd) rxs_nil))) (rs_cons (r1_unp C (re_k (rk_call D_law_turned C (Room.mono hr (by decide)) (ra_cons (re_nm 5) (ra_cons (re_nm 3) (ra_cons (re_add (re_nm 3) (re_nm 4)) ra_nil))))) (rxs_cons (rx_nm 5 C.nd) (rxs_cons (rx_nm 7 C.nd) rxs_nil))) (rs_cons (r1_unp C (re_k (rk_call D_law_turned C (Room.mono hr (by decide)) (ra_cons (re_nm 5) (ra_cons re_int (ra_cons (re_add (re_nm 3) (re_nm 4)) ra_nil))))) (rxs_cons (rx_nm 5 C.nd) (rxs_cons (rx_nm 8 C.nd) rxs_nil))) (rs_cons (r1_if (rt_ne C (re_nm 5) (re_add (re_k (rk_rg2 C T.list T.range (re_nm 3) (re_add (re_nm 3) (re_nm 4)))) (re_k (rk_rg1 C T.list T.range (re_nm 3))))) (rs_one (r1_ret (rk_e re_bl))) rs_nil) (rs_cons (r1_set 9 C.nd (rk_e (re_tup (ra_cons (re_add (re_add (re_nm 6) (re_nm 7)) (re_nm 8)) (ra_cons (re_k (rk_call D_law_rings C (Room.mono hr (by decide)) (ra_cons (re_nm 3) (ra_cons (re_nm 4) ra_nil)))) (ra_cons (re_k (rk_call D_law_like C (Room.mono hr (by decide)) (ra_cons (re_nm 3) (ra_cons (re_nm 4) ra_nil)))) ra_nil)))))) (rs_one (r1_if (rt_not (rt_val (re_k (rk_call D_law_equal C (Room.mono hr (by decide)) (ra_cons (re_k (rk_call D_block_costs C (Room.mono hr (by decide)) (ra_cons (re_nm 3) (ra_cons (re_nm 4) ra_nil)))) (ra_cons (re_if (rt_gt (re_mul (re_nm 3) (re_nm 4)) re_int) (re_nm 9) (re_tup (ra_cons re_int (ra_cons re_int (ra_cons re_int ra_nil))))) ra_nil)))))) (rs_one (r1_ret (rk_e re_bl))) rs_nil))))))) rs_nil)))) (rs_cons (r1_set 10 C.nd (rk_e (re_add re_int (re_k (rk_call D_law_below C (Room.mono hr (by decide)) (ra_drw 1 (ra_cons (re_pow10 9 1000000000) ra_nil))))))) (rs_cons (by first | exact r1_par2 3 4 C (rks_cons (rk_e (re_mul (re_nm 10) (re_pow10 15 1000000000000000))) (rks_cons (rk_e (re_mul (re_nm 10) (re_add (re_pow10 16 10000000000000000) re_int))) rks_nil)) | exact r1_parT (l := [3, 4]) C (rks_cons (rk_e (re_mul (re_nm 10) (re_pow10 15 1000000000000000))) (rks_cons (rk_e (re_mul (re_nm 10) (re_add (re_pow10 16 10000000000000000) re_int))) rks_nil)) (Nms.mk 3 (Nms.mk 4 .nil))) (rs_cons (r1_set 11 C.nd (rk_e (re_add (re_nm 3) (re_nm 4)))) (rs_cons (r1_if (rt_not (rt_val (re_k (rk_call D_law_equal C (Room.mono hr (by decide)) (ra_cons (re_slice (re_k (rk_call D_block_costs C (Room.mono hr (by decide)) (ra_cons (re_nm 3) (ra_cons (re_nm 4) ra_nil)))) (ro_some re_int) ro_none) (ra_cons (re_tup (ra_cons (re_add (re_nm 11) (re_nm 10)) (ra_cons (re_sub (re_nm 11) (re_nm 10)) ra_nil))) ra_nil)))))) (rs_one (r1_ret (rk_e re_bl))) rs_nil) (rs_cons (r1_if (rt_w (rw_or (rt_ne C (re_ix (re_k (rk_call D_block_costs C (Room.mono hr (by decide)) (ra_cons (re_nm 3) (ra_cons (re_nm 4) ra_nil)))) re_int) (re_add (re_add (re_div (re_nm 3) re_int) (re_div (re_nm 4) re_int)) (re_div (re_nm 11) re_int))) (rw_or1 (rt_not (rt_val (re_k (rk_call D_law_refused C (Room.mono hr (by decide)) (ra_cons (re_pow10 30 1000000000000000000000000000000) (ra_cons re_int ra_nil))))))))) (rs_one (r1_ret (rk_e re_bl))) rs_nil) (rs_cons (r1_set 12 C.nd (rk_e (re_add re_int (re_k (rk_call D_law_below C (Room.mono hr (by decide)) (ra_drw 1 (ra_cons re_int ra_nil))))))) (rs_cons (r1_set 10 C.nd (rk_e (re_mul (re_pow10 29 100000000000000000000000000000) (re_max C.calm T.max (ra_cons (re_k (rk_lc (own := [("_law_by", 15)]) C (blkOk_by (by kernel_rfl)) (ri_range2 T.range re_int re_int) (fun s H cc cl fp Cb => (rg_nm 15 Cb.nd (by decide))) (fun s H cc cl fp Cb => (rts_one (rt_w (rw_and (rt_eq Cb (re_mod (re_nm 12) (re_nm 15)) re_int) (rw_and1 (rt_eq Cb (re_mod re_int (re_nm 15)) re_int)))))) (fun s H cc cl fp Cb => (re_nm 15)))) ra_nil))))) (rs_cons (r1_set 13 C.nd (rk_e (re_k (rk_call D_block_costs C (Room.mono hr (by decide)) (ra_cons (re_mul (re_nm 12) (re_pow10 29 100000000000000000000000000000)) (ra_cons (re_mul (re_sub re_int (re_nm 12)) (re_pow10 29 100000000000000000000000000000)) ra_nil)))))) (rs_cons (r1_if (rt_not (rt_val (re_k (rk_call D_law_equal C (Room.mono hr (by decide)) (ra_cons (re_slice (re_nm 13) (ro_some re_int) ro_none) (ra_cons (re_tup (ra_cons (re_add (re_pow10 30 1000000000000000000000000000000) (re_nm 10)) (ra_cons (re_sub (re_pow10 30 1000000000000000000000000000000) (re_nm 10)) ra_nil))) ra_nil)))))) (rs_one (r1_ret (rk_e re_bl))) rs_nil) (rs_cons (r1_for C (ri_seq (re_lst (ra_cons re_non (ra_cons (re_neg1 (-1)) (ra_cons re_str (ra_cons re_bl (ra_cons (re_add (re_pow10 30 1000000000000000000000000000000) re_int) ra_nil))))))) (rg_nm 14 C.nd trivial) (rs_one (r1_if (rt_w (rw_or (rt_not (rt_val (re_k (rk_call D_law_refused C (Room.mono hr (by decide)) (ra_cons (re_nm 14) (ra_cons re_int ra_nil)))))) (rw_or1 (rt_not (rt_val (re_k (rk_call D_law_refused C (Room.mono hr (by decide)) (ra_cons re_int (ra_cons (re_nm 14) ra_nil))))))))) (rs_one (r1_ret (rk_e re_bl))) rs_nil))) (rs_one (r1_ret (rk_call D_law_refused C (Room.mono hr (by decide)) (ra_cons re_int (ra_cons re_int ra_nil))))))))))))))))))
theorem e_law (T : Txt mg) (D_block_costs : Def P w K mg base "block_costs" 2 3 (p_block_costs)) (D_law_random : Def P w K mg base "_law_random" 2 1 (p_law_random)) (D_law_below : Def P w K mg base "_law_below" 2 1 (p_law_below)) (D_law_equal : Def P w K mg base "_law_equal" 2 7 (p_law_equal)) (D_law_refused : Def P w K mg base "_law_refused" 2 4 (p_law_refused)) (D_law_turned : Def P w K mg base "_law_turned" 3 1 (p_law_turned)) (D_law_like : Def P w K mg base "_law_like" 2 1 (p_law_like)) (D_law_rings : Def P w K mg base "_law_rings" 2 1 (p_law_rings)) {pr : Pr} {f : Addr} {fd : FuncData} (F : Fun K "law" "law" s_law f fd) (hp : ∀ as Φ Ξ, pr as Φ Ξ → as.length = 1 ∧ t_law (slots as 16) (fun y _ => Ξ y) { nx := fun _ => Φ (.dat .none), rt := Φ }) : FnOk P w K mg base (L2.CX P w) 8 f fd ["_law_script"] (spd K pr) := fn_rdL F sc_law (q_law T D_block_costs D_law_random D_law_below D_law_equal D_law_refused D_law_turned D_law_like D_law_rings) hp
theorem d_law (T : Txt mg) (D_block_costs : Def P w K mg base "block_costs" 2 3 (p_block_costs)) (D_law_random : Def P w K mg base "_law_random" 2 1 (p_law_random)) (D_law_below : Def P w K mg base "_law_below" 2 1 (p_law_below)) (D_law_equal : Def P w K mg base "_law_equal" 2 7 (p_law_equal)) (D_law_refused : Def P w K mg base "_law_refused" 2 4 (p_law_refused)) (D_law_turned : Def P w K mg base "_law_turned" 3 1 (p_law_turned)) (D_law_like : Def P w K mg base "_law_like" 2 1 (p_law_like)) (D_law_rings : Def P w K mg base "_law_rings" 2 1 (p_law_rings)) {f : Addr} {fd : FuncData} (F : Fun K "law" "law" s_law f fd) : FnOk P w K mg base (L2.CX P w) 8 f fd ["_law_script"] (spd K p_law) := by
  refine e_law T D_block_costs D_law_random D_law_below D_law_equal D_law_refused D_law_turned D_law_like D_law_rings F fun as Φ Ξ h => ?_
  obtain ⟨ns, rfl, hl, q⟩ := h
  refine ⟨rfl, ?_⟩
  walk_at "zz"
  intro a b ms h0 h1 h2
  walk_at "zz"
  refine ⟨⟨drw_ints h0 h1 h2, rfl⟩, ?_⟩
  walk_at "z"
  refine ⟨fun i ρ => ∃ x2 x3 x4 x5 x6 x7 x8 x9 : Sl, ρ = [.scr ns, .drw, x2, x3, x4, x5, x6, x7, x8, x9, .unk, .unk, .unk, .unk, .unk, .unk], ⟨.unk, .unk, .unk, .unk, .unk, .unk, .unk, .unk, rfl⟩, ?_, ?_⟩
  · rintro i d ρ hd ⟨x2, x3, x4, x5, x6, x7, x8, x9, rfl⟩
    walk_at "z"
    intro f f0 f1
    walk_at "zz"
    intro s s0 s1
    obtain ⟨f, rfl⟩ := Int.eq_ofNat_of_zero_le f0
    obtain ⟨s, rfl⟩ := Int.eq_ofNat_of_zero_le s0
    have r1 : rangeD 0 ((f : Int) + s - 0).toNat = (List.range (f + s)).map pint := by
      rw [show ((f : Int) + s - 0).toNat = f + s by omega]; exact rangeD0_pint _
    have r2 : rangeD (f : Int) ((f : Int) + s - f).toNat = ((List.range s).map (f + ·)).map pint := by
      rw [show ((f : Int) + s - f).toNat = s by omega]; exact rangeD_pint _ _
    have r3 : rangeD 0 ((f : Int) - 0).toNat = (List.range f).map pint := by
      rw [show ((f : Int) - 0).toNat = f by omega]; exact rangeD0_pint _
    have e1 : (f : Int) + s = (f + s : Nat) := by omega
    walk_at "zz"
    · have l1 := turnN_len 0 f (List.range (f + s)) (f - 0)
      rw [List.length_range] at l1
      refine ⟨List.range (f + s), 0, f, by rw [r1]; rfl, ⟨by omega, by simp, by simp; omega⟩, ?_⟩
      have l2 := turnN_len f (f + s) (turnN 0 f (List.range (f + s)) (f - 0)).1 (f + s - f)
      rw [l1] at l2
      walk_at "z"
      rw [r2, r3, ← List.map_append, turned_thrice]
      refine eqK_same (by show List.all _ _ = true; exact good_pint _ _) ?_
      walk_at "zz"
      have hc : (turnN 0 f (List.range (f + s)) (f - 0)).2 + (turnN f (f + s) (turnN 0 f (List.range (f + s)) (f - 0)).1 (f + s - f)).2 + (turnN 0 (f + s) (turnN f (f + s) (turnN 0 f (List.range (f + s)) (f - 0)).1 (f + s - f)).1 (f + s - 0)).2 = f / 2 + s / 2 + (f + s) / 2 := by
        rw [turnN_count _ _ _ _ (Nat.le_refl _), turnN_count _ _ _ _ (Nat.le_refl _), turnN_count _ _ _ _ (Nat.le_refl _)]
        omega
      by_cases hz : 0 < f ∧ 0 < s
      · refine resK_ok (costR_pos hz.1 hz.2 (by omega)) ?_
        have hm : (0 : Int) < f * s := Int.mul_pos (by omega) (by omega)
        walk_at "z"
        · refine use_equal ?_ rfl ?_
          · rw [ringMoves_end hz.1 hz.2, like_is hz.1 hz.2]
            have hg : Nat.gcd f s ≤ f := Nat.gcd_le_left s hz.1
            simp only [PyData.tuple.injEq, List.cons.injEq, PyData.int.injEq, and_true]
            omega
          walk_at "z"
          exact ⟨_, _, _, _, _, _, _, _, rfl⟩
        · omega
      · have hm : (f : Int) * s = 0 := by
          have : f = 0 ∨ s = 0 := by omega
          rcases this with h | h <;> rw [h] <;> simp
        refine resK_ok (costR_zero (by omega) (by omega) (by omega)) ?_
        walk_at "z"
        · omega
        · exact ⟨_, _, _, _, _, _, _, _, rfl⟩
    · exact ⟨_, _, _, _, _, _, _, _, rfl⟩
  · rintro ρ ⟨x2, x3, x4, x5, x6, x7, x8, x9, rfl⟩
    walk_at "z"
    intro c c0 c1
    obtain ⟨c, rfl⟩ := Int.eq_ofNat_of_zero_le c0
    walk_at "zz"
    obtain ⟨A, hA⟩ : ∃ A : Nat, (A : Int) = (1 + (c : Int)) * 1000000000000000 := ⟨((1 + (c : Int)) * 1000000000000000).toNat, by omega⟩
    obtain ⟨B, hB⟩ : ∃ B : Nat, (B : Int) = (1 + (c : Int)) * (10000000000000000 + 1) := ⟨((1 + (c : Int)) * (10000000000000000 + 1)).toNat, by omega⟩
    have hg : (Nat.gcd A B : Nat) = 1 + c := by
      have e1 : A = (1 + c) * 1000000000000000 := by omega
      have e2 : B = (1 + c) * 10000000000000001 := by omega
      rw [e1, e2, Nat.gcd_mul_left, show Nat.gcd 1000000000000000 10000000000000001 = 1 by decide +kernel, Nat.mul_one]
    rw [← hA, ← hB]
    refine resK_ok (costR_pos (by omega) (by omega) (by omega)) ?_
    walk_at "z"
    refine use_equal ?_ rfl ?_
    · rw [hg]
      show PyData.tuple [PyData.int _, PyData.int _] = _
      simp only [PyData.tuple.injEq, List.cons.injEq, PyData.int.injEq, and_true]
      omega
    walk_at "z"
    refine resK_ok (costR_pos (by omega) (by omega) (by omega)) ?_
    walk_at "z"
    intro p p0 p1
    have hp : p = 0 ∨ p = 1 ∨ p = 2 ∨ p = 3 ∨ p = 4 ∨ p = 5 ∨ p = 6 ∨ p = 7 ∨ p = 8 := by omega
    walk_at "zz"
    refine .inr ⟨fun d => d, fun d => decide ((1 + p) % (natD d : Int) = 0) && decide (10 % (natD d : Int) = 0), by decide, fun d hd => ?_, ?_⟩
    · obtain ⟨i, hi, rfl⟩ := mem_rangeD hd
      have hn : ((natD (.int (1 + (i : Int))) : Nat) : Int) = 1 + (i : Int) := by simp only [natD]; omega
      walk_at "z"
      all_goals (simp only [hn]; simp [*])
    · have hx : ∃ m : Nat, 1 ≤ m ∧ m ≤ 9 ∧ Nat.gcd (1 + p).toNat (10 - (1 + p)).toNat = m ∧ ((List.filter (fun d => decide ((1 + p) % (natD d : Int) = 0) && decide (10 % (natD d : Int) = 0)) (rangeD 1 (10 - 1 : Int).toNat)).map fun d => d) = (((List.range 10).filter fun k => decide (0 < k) && (decide ((1 + p).toNat % k = 0) && decide (10 % k = 0))).map pint) ∧
          (∀ x ∈ (List.range 10).filter (fun k => decide (0 < k) && (decide ((1 + p).toNat % k = 0) && decide (10 % k = 0))), x ≤ m) ∧ m ∈ (List.range 10).filter (fun k => decide (0 < k) && (decide ((1 + p).toNat % k = 0) && decide (10 % k = 0))) := by
        rcases hp with rfl | rfl | rfl | rfl | rfl | rfl | rfl | rfl | rfl
        · exact ⟨1, by decide, by decide, by decide, rfl, by decide, by decide⟩
        · exact ⟨2, by decide, by decide, by decide, rfl, by decide, by decide⟩
        · exact ⟨1, by decide, by decide, by decide, rfl, by decide, by decide⟩
        · exact ⟨2, by decide, by decide, by decide, rfl, by decide, by decide⟩
        · exact ⟨5, by decide, by decide, by decide, rfl, by decide, by decide⟩
        · exact ⟨2, by decide, by decide, by decide, rfl, by decide, by decide⟩
        · exact ⟨1, by decide, by decide, by decide, rfl, by decide, by decide⟩
        · exact ⟨2, by decide, by decide, by decide, rfl, by decide, by decide⟩
        · exact ⟨1, by decide, by decide, by decide, rfl, by decide, by decide⟩
      obtain ⟨m, m1, m9, hgcd, hlist, hmax, hmem⟩ := hx
      rw [hlist]
      walk_at "z"
      refine someK_of (intsD_mapN _) ?_
      refine ⟨?_, fun x hx hle => ?_⟩
      · intro z
        have := List.mem_map_of_mem (f := fun n : Nat => (n : Int)) hmem
        rw [z] at this
        cases this
      obtain ⟨x, hx2, rfl⟩ := List.mem_map.mp hx
      have hxm : x = m := by
        have h1 := hmax x hx2
        have h2 := hle m (List.mem_map_of_mem (f := fun n : Nat => (n : Int)) hmem)
        omega
      subst hxm
      walk_at "z"
      obtain ⟨A, hA⟩ : ∃ A : Nat, (A : Int) = (1 + p) * 100000000000000000000000000000 := ⟨((1 + p) * 100000000000000000000000000000).toNat, by omega⟩
      obtain ⟨B, hB⟩ : ∃ B : Nat, (B : Int) = (10 - (1 + p)) * 100000000000000000000000000000 := ⟨((10 - (1 + p)) * 100000000000000000000000000000).toNat, by omega⟩
      have hg : (Nat.gcd A B : Nat) = 100000000000000000000000000000 * x := by
        have e1 : A = (1 + p).toNat * 100000000000000000000000000000 := by omega
        have e2 : B = (10 - (1 + p)).toNat * 100000000000000000000000000000 := by omega
        rw [e1, e2, Nat.gcd_mul_right, hgcd, Nat.mul_comm]
      rw [← hA, ← hB]
      refine resK_ok (costR_pos (by omega) (by omega) (by omega)) ?_
      walk_at "z"
      refine use_equal ?_ rfl ?_
      · rw [hg]
        show PyData.tuple [PyData.int _, PyData.int _] = _
        simp only [PyData.tuple.injEq, List.cons.injEq, PyData.int.injEq, and_true]
        omega
      walk_at "z"
      refine ⟨fun i ρ => ∃ y0 y1 y2 y3 y4 y5 y6 y7 y8 y9 y10 y11 y12 y13 : Sl, ρ = [.scr ns, .drw, y0, y1, y2, y3, y4, y5, y6, y7, y8, y9, y10, y11, y12, y13], ⟨_, _, _, _, _, _, _, _, _, _, _, _, _, _, rfl⟩, ?_, ?_⟩
      · rintro i d ρ hd ⟨y0, y1, y2, y3, y4, y5, y6, y7, y8, y9, y10, y11, y12, y13, rfl⟩
        have hd := List.mem_of_getElem? hd
        simp only [List.mem_cons, List.not_mem_nil, or_false] at hd
        rcases hd with rfl | rfl | rfl | rfl | rfl
        all_goals (walk_at "z")
        all_goals exact ⟨_, _, _, _, _, _, _, _, _, _, _, _, _, _, rfl⟩
      · rintro ρ ⟨y0, y1, y2, y3, y4, y5, y6, y7, y8, y9, y10, y11, y12, y13, rfl⟩
        walk_at "z"
        exact q
end
def hfa : List He.Fa := [.glo "is_integer", .glo "is_from", .glo "divisor", .glo "block_costs", .glo "_law_random", .glo "_law_below", .glo "_law_equal", .glo "_law_refused", .glo "_law_turned", .glo "_law_like", .glo "_law_rings", .glo "law", .free "abs", .free "all", .free "any", .free "bool", .free "dict", .free "enumerate", .free "int", .free "isinstance", .free "len", .free "list", .free "max", .free "min", .free "range", .free "set", .free "sorted", .free "str", .free "sum", .free "tuple", .int "MOST_SIZE" 1000000000000000000000000000000, .glo "BadBlocks", .exc "BadBlocks"] ++ faErr ks
def hfn : List He.DefD := [⟨("is_integer", none), "is_integer", "is_integer", defArgs s_is_integer, defBody s_is_integer, defScope s_is_integer, [], []⟩, ⟨("is_from", none), "is_from", "is_from", defArgs s_is_from, defBody s_is_from, defScope s_is_from, [], []⟩, ⟨("divisor", none), "divisor", "divisor", defArgs s_divisor, defBody s_divisor, defScope s_divisor, [], []⟩, ⟨("block_costs", none), "block_costs", "block_costs", defArgs s_block_costs, defBody s_block_costs, defScope s_block_costs, [], []⟩, ⟨("_law_random", none), "_law_random", "_law_random", defArgs s_law_random, defBody s_law_random, defScope s_law_random, [], []⟩, ⟨("_law_below", none), "_law_below", "_law_below", defArgs s_law_below, defBody s_law_below, defScope s_law_below, [], []⟩, ⟨("_law_equal", none), "_law_equal", "_law_equal", defArgs s_law_equal, defBody s_law_equal, defScope s_law_equal, [], []⟩, ⟨("_law_refused", none), "_law_refused", "_law_refused", defArgs s_law_refused, defBody s_law_refused, defScope s_law_refused, [], []⟩, ⟨("_law_turned", none), "_law_turned", "_law_turned", defArgs s_law_turned, defBody s_law_turned, defScope s_law_turned, [], []⟩, ⟨("_law_like", none), "_law_like", "_law_like", defArgs s_law_like, defBody s_law_like, defScope s_law_like, [], []⟩, ⟨("_law_rings", none), "_law_rings", "_law_rings", defArgs s_law_rings, defBody s_law_rings, defScope s_law_rings, [], []⟩, ⟨("law", none), "law", "law", defArgs s_law, defBody s_law, defScope s_law, [], []⟩]
abbrev hR : PySem.W.OpenRow := PySem.W.OpenLaw.row PySem.Challenge.rw_movedinplace_k08_whole_costs_of_blocks
abbrev hk : PySem.W.Hook := He.hookD 4 hfa hfn
def hob (s : PySem.W.SharedT) : He.AlD := He.obsDG 4 hfa hfn (HandSHeadRun.getT s)
def hloose : List PySem.Str := (["PlaceError", "BadBlocks", "MOST_SIZE", "is_integer", "is_from", "divisor", "block_costs", "_law_random", "_law_below", "_law_pick", "_law_equal", "_law_refused", "_law_turned", "_law_like", "_law_rings"] : List PySem.Str)
theorem hob_eq (s : PySem.W.SharedT) : hob s = hk.obs s.abs := He.obsDG_eq (HandSHeadRun.getT_eq s)
theorem hrun (w : World) : HandSHeadRun.RunEq hR (PySem.W.view hR.prog [20]) hk hob 4000 hloose w := by
  intro os
  kernel_rfl
theorem hfacts {P : Program} {w : World} {K : PySem.W.Frag} {h : Heap} {mg : Str → Option Value} {f : Addr} (X : K.In h) (G : h.Ns mainGlobals mg) (hfa0 : mg ("law" : Str) = some (.ref f)) (c : He.SaysD hfa hfn K) :
    ∃ fd : FuncData, (∀ (s : Shared) (v : Value), BindsTo s fd ⟨[v], []⟩ [("_law_script", v)]) ∧ ∀ base : Heap, K.In base → base.Ns mainGlobals mg → FnOk P w K mg base L2.CX0 8 f fd ["_law_script"] (fun vs H Q _ => spd K p_law vs H Q fun _ _ _ => False) := by
  have fac : ∀ (i : Nat) {x : He.Fa}, hfa[i]? = some x → x.ok K = true := fun i {x} hx => c.fact i hx
  obtain ⟨fd_is_integer, G_is_integer⟩ := c.def_ 0 (d := ⟨("is_integer", none), "is_integer", "is_integer", defArgs s_is_integer, defBody s_is_integer, defScope s_is_integer, [], []⟩) rfl
  have F_is_integer : Fn K mg "is_integer" s_is_integer ["value"] := fn_of_head G_is_integer (He.glo_ok X G (fac 0 (x := .glo "is_integer") rfl)) fun _ _ _ _ _ _ us hl => match us, hl with | [_], _ => rfl
  obtain ⟨fd_is_from, G_is_from⟩ := c.def_ 1 (d := ⟨("is_from", none), "is_from", "is_from", defArgs s_is_from, defBody s_is_from, defScope s_is_from, [], []⟩) rfl
  have F_is_from : Fn K mg "is_from" s_is_from ["value", "low", "high"] := fn_of_head G_is_from (He.glo_ok X G (fac 1 (x := .glo "is_from") rfl)) fun _ _ _ _ _ _ us hl => match us, hl with | [_, _, _], _ => rfl
  obtain ⟨fd_divisor, G_divisor⟩ := c.def_ 2 (d := ⟨("divisor", none), "divisor", "divisor", defArgs s_divisor, defBody s_divisor, defScope s_divisor, [], []⟩) rfl
  have F_divisor : Fn K mg "divisor" s_divisor ["one", "other"] := fn_of_head G_divisor (He.glo_ok X G (fac 2 (x := .glo "divisor") rfl)) fun _ _ _ _ _ _ us hl => match us, hl with | [_, _], _ => rfl
  obtain ⟨fd_block_costs, G_block_costs⟩ := c.def_ 3 (d := ⟨("block_costs", none), "block_costs", "block_costs", defArgs s_block_costs, defBody s_block_costs, defScope s_block_costs, [], []⟩) rfl
  have F_block_costs : Fn K mg "block_costs" s_block_costs ["first", "second"] := fn_of_head G_block_costs (He.glo_ok X G (fac 3 (x := .glo "block_costs") rfl)) fun _ _ _ _ _ _ us hl => match us, hl with | [_, _], _ => rfl
  obtain ⟨fd_law_random, G_law_random⟩ := c.def_ 4 (d := ⟨("_law_random", none), "_law_random", "_law_random", defArgs s_law_random, defBody s_law_random, defScope s_law_random, [], []⟩) rfl
  have F_law_random : Fn K mg "_law_random" s_law_random ["_law_script", "_law_salt"] := fn_of_head G_law_random (He.glo_ok X G (fac 4 (x := .glo "_law_random") rfl)) fun _ _ _ _ _ _ us hl => match us, hl with | [_, _], _ => rfl
  obtain ⟨fd_law_below, G_law_below⟩ := c.def_ 5 (d := ⟨("_law_below", none), "_law_below", "_law_below", defArgs s_law_below, defBody s_law_below, defScope s_law_below, [], []⟩) rfl
  have F_law_below : Fn K mg "_law_below" s_law_below ["_law_d", "_law_size"] := fn_of_head G_law_below (He.glo_ok X G (fac 5 (x := .glo "_law_below") rfl)) fun _ _ _ _ _ _ us hl => match us, hl with | [_, _], _ => rfl
  obtain ⟨fd_law_equal, G_law_equal⟩ := c.def_ 6 (d := ⟨("_law_equal", none), "_law_equal", "_law_equal", defArgs s_law_equal, defBody s_law_equal, defScope s_law_equal, [], []⟩) rfl
  have F_law_equal : Fn K mg "_law_equal" s_law_equal ["_law_actual", "_law_expected"] := fn_of_head G_law_equal (He.glo_ok X G (fac 6 (x := .glo "_law_equal") rfl)) fun _ _ _ _ _ _ us hl => match us, hl with | [_, _], _ => rfl
  obtain ⟨fd_law_refused, G_law_refused⟩ := c.def_ 7 (d := ⟨("_law_refused", none), "_law_refused", "_law_refused", defArgs s_law_refused, defBody s_law_refused, defScope s_law_refused, [], []⟩) rfl
  have F_law_refused : Fn K mg "_law_refused" s_law_refused ["_law_first", "_law_second"] := fn_of_head G_law_refused (He.glo_ok X G (fac 7 (x := .glo "_law_refused") rfl)) fun _ _ _ _ _ _ us hl => match us, hl with | [_, _], _ => rfl
  obtain ⟨fd_law_turned, G_law_turned⟩ := c.def_ 8 (d := ⟨("_law_turned", none), "_law_turned", "_law_turned", defArgs s_law_turned, defBody s_law_turned, defScope s_law_turned, [], []⟩) rfl
  have F_law_turned : Fn K mg "_law_turned" s_law_turned ["_law_row", "_law_low", "_law_high"] := fn_of_head G_law_turned (He.glo_ok X G (fac 8 (x := .glo "_law_turned") rfl)) fun _ _ _ _ _ _ us hl => match us, hl with | [_, _, _], _ => rfl
  obtain ⟨fd_law_like, G_law_like⟩ := c.def_ 9 (d := ⟨("_law_like", none), "_law_like", "_law_like", defArgs s_law_like, defBody s_law_like, defScope s_law_like, [], []⟩) rfl
  have F_law_like : Fn K mg "_law_like" s_law_like ["_law_first", "_law_second"] := fn_of_head G_law_like (He.glo_ok X G (fac 9 (x := .glo "_law_like") rfl)) fun _ _ _ _ _ _ us hl => match us, hl with | [_, _], _ => rfl
  obtain ⟨fd_law_rings, G_law_rings⟩ := c.def_ 10 (d := ⟨("_law_rings", none), "_law_rings", "_law_rings", defArgs s_law_rings, defBody s_law_rings, defScope s_law_rings, [], []⟩) rfl
  have F_law_rings : Fn K mg "_law_rings" s_law_rings ["_law_first", "_law_second"] := fn_of_head G_law_rings (He.glo_ok X G (fac 10 (x := .glo "_law_rings") rfl)) fun _ _ _ _ _ _ us hl => match us, hl with | [_, _], _ => rfl
  obtain ⟨fd, F_law⟩ := c.def_ 11 (d := ⟨("law", none), "law", "law", defArgs s_law, defBody s_law, defScope s_law, [], []⟩) rfl
  have e := hfa0.symm.trans (He.glo_ok X G (fac 11 (x := .glo "law") rfl))
  cases e
  have b := FunD.bindsA (ps := ["_law_script"]) F_law fun _ _ _ _ _ _ us hl => match us, hl with | [_], _ => rfl
  have T : Txt mg := {abs := He.free_ok X G (fac 12 (x := .free "abs") rfl), all := He.free_ok X G (fac 13 (x := .free "all") rfl), any := He.free_ok X G (fac 14 (x := .free "any") rfl), bool := He.free_ok X G (fac 15 (x := .free "bool") rfl), dict := He.free_ok X G (fac 16 (x := .free "dict") rfl), enumerate := He.free_ok X G (fac 17 (x := .free "enumerate") rfl), int := He.free_ok X G (fac 18 (x := .free "int") rfl), isinstance := He.free_ok X G (fac 19 (x := .free "isinstance") rfl), len := He.free_ok X G (fac 20 (x := .free "len") rfl), list := He.free_ok X G (fac 21 (x := .free "list") rfl), max := He.free_ok X G (fac 22 (x := .free "max") rfl), min := He.free_ok X G (fac 23 (x := .free "min") rfl), range := He.free_ok X G (fac 24 (x := .free "range") rfl), set := He.free_ok X G (fac 25 (x := .free "set") rfl), sorted := He.free_ok X G (fac 26 (x := .free "sorted") rfl), str := He.free_ok X G (fac 27 (x := .free "str") rfl), sum := He.free_ok X G (fac 28 (x := .free "sum") rfl), tuple := He.free_ok X G (fac 29 (x := .free "tuple") rfl)}
  have c_MOST_SIZE : Cst K mg "MOST_SIZE" (.int 1000000000000000000000000000000) := by
    obtain ⟨t, e⟩ := He.int_ok X G (fac 30 (x := .int "MOST_SIZE" 1000000000000000000000000000000) rfl)
    exact cst_int e
  have c_BadBlocks : ExcK K mg .BadBlocks := excK_of X G (fac 31 rfl) (fac 32 rfl)
  have Y : Ecs K mg ks := ecs_of X G c fun f hf => List.mem_append_right _ hf
  refine ⟨fd, fun s v => b s [v] rfl, fun base _ _ => ?_⟩
  have D_is_integer := d_is_integer (P := P) (w := w) (base := base) T F_is_integer
  have D_is_from := d_is_from (P := P) (w := w) (base := base) T D_is_integer F_is_from
  have D_divisor := d_divisor (P := P) (w := w) (base := base) T F_divisor
  have D_block_costs := d_block_costs (P := P) (w := w) (base := base) T c_MOST_SIZE c_BadBlocks D_is_from D_divisor F_block_costs
  have D_law_random := d_law_random (P := P) (w := w) (base := base) T F_law_random
  have D_law_below := d_law_below (P := P) (w := w) (base := base) T F_law_below
  have D_law_equal := d_law_equal (P := P) (w := w) (base := base) T F_law_equal
  have D_law_refused := d_law_refused (P := P) (w := w) (base := base) T Y D_block_costs F_law_refused
  have D_law_turned := d_law_turned (P := P) (w := w) (base := base) T F_law_turned
  have D_law_like := d_law_like (P := P) (w := w) (base := base) T F_law_like
  have D_law_rings := d_law_rings (P := P) (w := w) (base := base) T F_law_rings
  exact fn_calm (d_law T D_block_costs D_law_random D_law_below D_law_equal D_law_refused D_law_turned D_law_like D_law_rings (fun_of_head F_law))
end Mv
open PySem PySem.W PySem.Calls PyProof.Rows
theorem PySem.Challenge.cw_movedinplace_k08_whole_costs_of_blocks_holds : PySem.Challenge.rw_movedinplace_k08_whole_costs_of_blocks.Holds := by
  w_on; o_law
  refine HandSHeadRun.head_any (r := OpenLaw.row PySem.Challenge.rw_movedinplace_k08_whole_costs_of_blocks) (q := view (OpenLaw.row PySem.Challenge.rw_movedinplace_k08_whole_costs_of_blocks).prog [20]) (H := Mv.hk) (ob := Mv.hob) (M := 4000) (loose := Mv.hloose) (d := HandSHeadRun.topDef (OpenLaw.row PySem.Challenge.rw_movedinplace_k08_whole_costs_of_blocks).prog 20) (kwd := []) Mv.hob_eq
    (by kernel_rfl) (fun s => by kernel_rfl) Mv.hrun (by kernel_rfl) (by kernel_rfl) (by kernel_rfl) (by rfl) (by first | assumption | decide +kernel) (by decide +kernel) ⟨rfl, rfl, rfl, rfl, rfl, by decide +kernel⟩ ?hw ?hc
  case hw => w_witness2
  case hc =>
    refine L2.walk_ofE (l := PySem.Challenge.rw_movedinplace_k08_whole_costs_of_blocks) (n := 63) (k := 8) (x := "_law_script") (CX := L2.CX0) rfl (by decide) (by kernel_rfl) ⟨rfl, by decide, by decide⟩ ?F (fun _ _ _ _ z => z)
    case F =>
      intro w mg fa h Y G hmg0
      obtain ⟨K, KX, c⟩ := Y
      have hmg : mg ("law" : PySem.Str) = some (.ref fa) := by
        have e : (HandSHeadRun.topDef (OpenLaw.row PySem.Challenge.rw_movedinplace_k08_whole_costs_of_blocks).prog 20).name = ("law" : PySem.Str) := by kernel_rfl
        rw [← e]
        exact hmg0
      obtain ⟨fd, hb, hF⟩ := Mv.hfacts (P := (PySem.Challenge.rw_movedinplace_k08_whole_costs_of_blocks).prog) (w := w) KX G hmg c
      exact ⟨K, fd, (fun vs H Q _ => Mv.spd K Mv.p_law vs H Q fun _ _ _ => False), KX, hb, fun H a ns hl _ hS => Mv.law_end hS Mv.p_law ⟨ns, rfl, hl, rfl⟩, hF⟩
