import PyProof.Rows.All
import Wide.All
import OpenK.AllK
import Wide.FinOn
import HandS.ForMost
import HandS.ForExc
import HandS.IsInst
import HandS.Wide
import HandS.TupAny
import HandS.TupMul
import HandS.SortInts
import HandS.TryMany
import HandS.ExcInit
import HandS.ExcField
import HandS.Style
import HandS.Small
import KE.KStateDown
import HandS.Conv
import HandS.Star
import HandS.SetFor
import HandS.DictComp
import KE.KDictCopyH
import HandS.Zip
import HandS.Defaults
import HandS.Head0
import HandS.Head1
import HandS.Head2
import HandS.HeadEnd
import HandS.HeadHook1
import HandS.HeadHook2
import HandS.ExcValue
import KE.KExcIs
import HandS.CallSlots
import KE.KDictLaws
import HandS.Iter
import KE.GoesEnum
import KE.KSortTupG
import HandS.HeadHook3
import PyProof.Rows.ListStrD
import PyProof.StrOps2
import HandS.DictTup
import HandS.OwnIter
import HandS.Property
import HandS.Deep
import PySem.Challenge.RW_movedinplace_k14_errors_apart
set_option Elab.async false
set_option linter.all false
set_option maxRecDepth 100000
set_option maxHeartbeats 4000000
set_option maxRecDepth 100000
set_option maxHeartbeats 4000000
/-! data over frozen heaps, steps of the heap, the slots' words -/
namespace Mv
open PySem L2

/-! ### data -/
mutual
inductive Rp (K : PySem.W.Frag) (F : Hp) : V → PyData → Prop
  | non : Rp K F .non .none
  | bl (b : Bool) : Rp K F (.bl b) (.bool b)
  | int (i : Int) : Rp K F (.int i) (.int i)
  | str (x : Str) : Rp K F (.str x) (.str x)
  | lst {a : Addr} {xs : List V} {ds : List PyData} : F a = some (.lst xs) → RpAll K F xs ds → Rp K F (.ref a) (.list ds)
  | tup {a : Addr} {xs : List V} {ds : List PyData} : SqT K F a xs → RpAll K F xs ds → Rp K F (.ref a) (.tuple ds)
  | dct {a : Addr} : F a = some (.dK []) → Rp K F (.ref a) (.dict [])
  | ex0 {a : Addr} {n : Str} : F a = some (ExO (.ref (He.ga K n)) a) → Rp K F (.ref a) (.dict [(.str n, .none)])
  | ex1 {a dx : Addr} {n f : Str} {y : V} {d : PyData} : F a = some (exo a (He.ga K n) (some dx)) → F dx = some (exd dx [(f, y)]) → Rp K F y d → Rp K F (.ref a) (.dict [(.str n, .tuple [.str f, d])])
inductive RpAll (K : PySem.W.Frag) (F : Hp) : List V → List PyData → Prop
  | nil : RpAll K F [] []
  | cons {v : V} {vs : List V} {d : PyData} {ds : List PyData} : Rp K F v d → RpAll K F vs ds → RpAll K F (v :: vs) (d :: ds)
end

theorem same_t {K : PySem.W.Frag} {H H' : Hp} {a : Addr} {xs : List V} (e : Same H H') (h : SqT K H a xs) : SqT K H' a xs := by
  rcases h with (h | ⟨o, h⟩) | h
  · exact .inl (.inl (e _ _ h))
  · exact .inl (.inr ⟨o, e _ _ h⟩)
  · exact .inr h
theorem same_new {H : Hp} {p : Addr} {o : HO} (h : H p = none) : Same H (upd H p o) := fun b x e => by
  rw [upd_ne (ne_of_none e h)]
  exact e

theorem Rp.mono {K : PySem.W.Frag} {F F' : Hp} (e : Same F F') (d : PyData) (v : V) (h : Rp K F v d) : Rp K F' v d :=
  Rp.rec (motive_1 := fun v d _ => Rp K F' v d) (motive_2 := fun vs ds _ => RpAll K F' vs ds) .non (fun b => .bl b) (fun i => .int i) (fun x => .str x) (fun s _ ih => .lst (e _ _ s) ih) (fun s _ ih => .tup (same_t e s) ih) (fun s => .dct (e _ _ s)) (fun s => .ex0 (e _ _ s)) (fun s t _ ih => .ex1 (e _ _ s) (e _ _ t) ih) .nil (fun _ _ h1 h2 => .cons h1 h2) h
theorem RpAll.mono {K : PySem.W.Frag} {F F' : Hp} (e : Same F F') (ds : List PyData) (vs : List V) (h : RpAll K F vs ds) : RpAll K F' vs ds :=
  RpAll.rec (motive_1 := fun v d _ => Rp K F' v d) (motive_2 := fun vs ds _ => RpAll K F' vs ds) .non (fun b => .bl b) (fun i => .int i) (fun x => .str x) (fun s _ ih => .lst (e _ _ s) ih) (fun s _ ih => .tup (same_t e s) ih) (fun s => .dct (e _ _ s)) (fun s => .ex0 (e _ _ s)) (fun s t _ ih => .ex1 (e _ _ s) (e _ _ t) ih) .nil (fun _ _ h1 h2 => .cons h1 h2) h

/-! no dict within -/
mutual
def noDict : PyData → Bool
  | .list ds => noDictAll ds
  | .tuple ds => noDictAll ds
  | .dict _ => false
  | _ => true
def noDictAll : List PyData → Bool
  | [] => true
  | d :: ds => noDict d && noDictAll ds
end
mutual
theorem Rp.dp {K : PySem.W.Frag} {F : Hp} : ∀ (d : PyData) (v : V), noDict d = true → Rp K F v d → Dp K F v d
  | .none, _, _, h => by cases h; exact .non
  | .bool _, _, _, h => by cases h; exact .bl _
  | .int _, _, _, h => by cases h; exact .int _
  | .str _, _, _, h => by cases h; exact .str _
  | .list ds, _, n, h => by
    cases h with
    | lst s a => exact .lst (SqL.of s) (RpAll.dp ds _ (by simpa [noDict] using n) a)
  | .tuple ds, _, n, h => by
    cases h with
    | tup s a => exact .tup s (RpAll.dp ds _ (by simpa [noDict] using n) a)
  | .dict _, _, n, _ => by simp [noDict] at n
theorem RpAll.dp {K : PySem.W.Frag} {F : Hp} : ∀ (ds : List PyData) (vs : List V), noDictAll ds = true → RpAll K F vs ds → DpAll K F vs ds
  | [], _, _, h => by cases h; exact .nil
  | d :: ds, _, n, h => by
    cases h with
    | cons h1 h2 =>
      have n' : noDict d = true ∧ noDictAll ds = true := by simpa [noDictAll] using n
      exact .cons (Rp.dp d _ n'.1 h1) (RpAll.dp ds _ n'.2 h2)
end

section
variable {K : PySem.W.Frag} {F F' : Hp}
theorem RpAll.len : ∀ {vs : List V} {ds : List PyData}, RpAll K F vs ds → vs.length = ds.length
  | _, _, .nil => rfl
  | _, _, .cons _ h => by rw [List.length_cons, List.length_cons, h.len]
theorem RpAll.get : ∀ {vs : List V} {ds : List PyData} {i : Nat} {d : PyData}, RpAll K F vs ds → ds[i]? = some d → ∃ v, vs[i]? = some v ∧ Rp K F v d
  | _, _, _, _, .nil, e => by simp at e
  | _, _, 0, _, .cons r _, e => by simp at e; subst e; exact ⟨_, rfl, r⟩
  | _, _, i + 1, d, .cons _ t, e => by
    obtain ⟨v, h1, h2⟩ := RpAll.get (i := i) (d := d) t (by simpa using e)
    exact ⟨v, by simpa using h1, h2⟩
theorem RpAll.getV : ∀ {vs : List V} {ds : List PyData} {i : Nat} {v : V}, RpAll K F vs ds → vs[i]? = some v → ∃ d, ds[i]? = some d ∧ Rp K F v d
  | _, _, _, _, .nil, e => by simp at e
  | _, _, 0, _, .cons r _, e => by simp at e; subst e; exact ⟨_, rfl, r⟩
  | _, _, i + 1, d, .cons _ t, e => by
    obtain ⟨v, h1, h2⟩ := RpAll.getV (i := i) (v := d) t (by simpa using e)
    exact ⟨v, by simpa using h1, h2⟩
theorem RpAll.append : ∀ {vs ws : List V} {ds es : List PyData}, RpAll K F vs ds → RpAll K F ws es → RpAll K F (vs ++ ws) (ds ++ es)
  | _, _, _, _, .nil, h => h
  | _, _, _, _, .cons r t, h => .cons r (t.append h)
theorem RpAll.take : ∀ {vs : List V} {ds : List PyData} (n : Nat), RpAll K F vs ds → RpAll K F (vs.take n) (ds.take n)
  | _, _, 0, _ => by simpa using RpAll.nil
  | _, _, _ + 1, .nil => by simpa using RpAll.nil
  | _, _, n + 1, .cons r t => by simpa using RpAll.cons r (t.take n)
theorem RpAll.drop : ∀ {vs : List V} {ds : List PyData} (n : Nat), RpAll K F vs ds → RpAll K F (vs.drop n) (ds.drop n)
  | _, _, 0, h => by simpa using h
  | _, _, _ + 1, .nil => by simpa using RpAll.nil
  | _, _, n + 1, .cons _ t => by simpa using t.drop n
theorem RpAll.set : ∀ {vs : List V} {ds : List PyData} {v : V} {d : PyData} (i : Nat), RpAll K F vs ds → Rp K F v d → RpAll K F (vs.set i v) (ds.set i d)
  | _, _, _, _, _, .nil, _ => by simpa using RpAll.nil
  | _, _, _, _, 0, .cons _ t, h => by simpa using RpAll.cons h t
  | _, _, _, _, i + 1, .cons r t, h => by simpa using RpAll.cons r (t.set i h)
theorem RpAll.reverse : ∀ {vs : List V} {ds : List PyData}, RpAll K F vs ds → RpAll K F vs.reverse ds.reverse
  | _, _, .nil => .nil
  | _, _, .cons r t => by
    rw [List.reverse_cons, List.reverse_cons]
    exact t.reverse.append (.cons r .nil)
theorem Rp.non_inv {v : V} (h : Rp K F v .none) : v = .non := by cases h; rfl
theorem Rp.bl_inv {v : V} {b : Bool} (h : Rp K F v (.bool b)) : v = .bl b := by cases h; rfl
theorem Rp.int_inv {v : V} {i : Int} (h : Rp K F v (.int i)) : v = .int i := by cases h; rfl
theorem Rp.str_inv {v : V} {i : Str} (h : Rp K F v (.str i)) : v = .str i := by cases h; rfl
theorem Rp.lst_inv {v : V} {ds : List PyData} (h : Rp K F v (.list ds)) : ∃ a xs, v = .ref a ∧ F a = some (.lst xs) ∧ RpAll K F xs ds := by
  cases h with
  | lst s a => exact ⟨_, _, rfl, s, a⟩
theorem Rp.tup_inv {v : V} {ds : List PyData} (h : Rp K F v (.tuple ds)) : ∃ a xs, v = .ref a ∧ SqT K F a xs ∧ RpAll K F xs ds := by
  cases h with
  | tup s a => exact ⟨_, _, rfl, s, a⟩
/-- ints as values, as data -/
theorem RpAll.ints (K : PySem.W.Frag) (F : Hp) : ∀ (ns : List Int), RpAll K F (ns.map V.int) (ns.map PyData.int)
  | [] => .nil
  | n :: ns => .cons (.int n) (RpAll.ints K F ns)
theorem RpAll.ints_inv : ∀ {ns : List Int} {vs : List V}, RpAll K F vs (ns.map PyData.int) → vs = ns.map V.int
  | [], _, h => by cases h; rfl
  | n :: ns, _, h => by
    cases h with
    | cons h1 h2 => rw [h1.int_inv, RpAll.ints_inv h2]; rfl
theorem RpAll.bls_inv : ∀ {ns : List Bool} {vs : List V}, RpAll K F vs (ns.map PyData.bool) → vs = ns.map V.bl
  | [], _, h => by cases h; rfl
  | n :: ns, _, h => by
    cases h with
    | cons h1 h2 => rw [h1.bl_inv, RpAll.bls_inv h2]; rfl
theorem RpAll.strs_inv : ∀ {ns : List Str} {vs : List V}, RpAll K F vs (ns.map PyData.str) → vs = ns.map V.str
  | [], _, h => by cases h; rfl
  | n :: ns, _, h => by
    cases h with
    | cons h1 h2 => rw [h1.str_inv, RpAll.strs_inv h2]; rfl
theorem RpAll.strs (K : PySem.W.Frag) (F : Hp) : ∀ (ns : List Str), RpAll K F (ns.map V.str) (ns.map PyData.str)
  | [] => .nil
  | n :: ns => .cons (.str n) (RpAll.strs K F ns)
end

/-! ### the draws -/
/-- the state of the draws: a list of ints, the first two not below 0 -/
def DrOk (H : Hp) (p : Addr) : Prop := ∃ a b ns, 0 ≤ a ∧ 0 ≤ b ∧ (∀ n ∈ ns, (0 : Int) ≤ n) ∧ H p = some (.lst ((a :: b :: ns).map V.int))

/-! ### steps of the heap: F the frozen part, H all; M may change -/
structure StepE (M : Addr → Prop) (F H F2 H2 : Hp) : Prop where
  fr : Same F F2
  sub : Same F2 H2
  keep : ∀ a o, ¬ M a → H a = some o → H2 a = some o
  new : ∀ a, H a ≠ none → F2 a = F a
  alive : ∀ a, H a ≠ none → H2 a ≠ none
  dr : ∀ a, M a → DrOk H a → DrOk H2 a
/-- .. of M only draws change -/
structure Step (M : Addr → Prop) (F H F2 H2 : Hp) : Prop where
  fr : Same F F2
  sub : Same F2 H2
  keepD : ∀ a o, ¬ (M a ∧ DrOk H a) → H a = some o → H2 a = some o
  new : ∀ a, H a ≠ none → F2 a = F a
  alive : ∀ a, H a ≠ none → H2 a ≠ none
  dr : ∀ a, M a → DrOk H a → DrOk H2 a
theorem DrOk.same {H H2 : Hp} {a : Addr} (e : H a = H2 a) (d : DrOk H a) : DrOk H2 a := by
  obtain ⟨x, y, ns, h1, h2, h3, h4⟩ := d
  exact ⟨x, y, ns, h1, h2, h3, by rw [← e]; exact h4⟩
theorem DrOk.lst {H : Hp} {a : Addr} {o : HO} (d : DrOk H a) (e : H a = some o) : ∃ xs, o = .lst xs := by
  obtain ⟨x, y, ns, h1, h2, h3, h4⟩ := d
  rw [e] at h4
  cases h4
  exact ⟨_, rfl⟩
section
variable {M M' : Addr → Prop} {F H F1 H1 F2 H2 : Hp}
theorem Step.keep (st : Step M F H F2 H2) : ∀ a o, ¬ M a → H a = some o → H2 a = some o := fun a o n e => st.keepD a o (fun z => n z.1) e
theorem Step.e (st : Step M F H F2 H2) : StepE M F H F2 H2 := ⟨st.fr, st.sub, st.keep, st.new, st.alive, st.dr⟩
theorem StepE.refl (h : Same F H) : StepE M F H F H := ⟨Same.refl F, h, fun _ _ _ e => e, fun _ _ => rfl, fun _ h => h, fun _ _ h => h⟩
theorem StepE.trans (a : StepE M F H F1 H1) (b : StepE M F1 H1 F2 H2) : StepE M F H F2 H2 where
  fr := a.fr.trans b.fr
  sub := b.sub
  keep := fun p o n e => b.keep p o n (a.keep p o n e)
  new := fun p n => (b.new p (a.alive p n)).trans (a.new p n)
  alive := fun p n => b.alive p (a.alive p n)
  dr := fun p m d => b.dr p m (a.dr p m d)
/-- a callee that may change draws alone -/
theorem StepE.lift (st : StepE (fun a => M a ∧ DrOk H a) F H F2 H2) : Step M F H F2 H2 := ⟨st.fr, st.sub, st.keep, st.new, st.alive, fun a m d => st.dr a ⟨m, d⟩ d⟩
theorem Step.refl (h : Same F H) : Step M F H F H := ⟨Same.refl F, h, fun _ _ _ e => e, fun _ _ => rfl, fun _ h => h, fun _ _ h => h⟩
theorem Step.trans (a : Step M F H F1 H1) (b : Step M F1 H1 F2 H2) : Step M F H F2 H2 where
  fr := a.fr.trans b.fr
  sub := b.sub
  keepD := fun p o n e => b.keepD p o (fun z => n ⟨z.1, z.2.same ((a.keepD p o n e).trans e.symm)⟩) (a.keepD p o n e)
  new := fun p n => (b.new p (a.alive p n)).trans (a.new p n)
  alive := fun p n => b.alive p (a.alive p n)
  dr := fun p m d => b.dr p m (a.dr p m d)
/-- nothing is frozen, the heap grows by p -/
theorem Step.own (h : Same F H) {p : Addr} {o : HO} (hp : H p = none) : Step M F H F (upd H p o) where
  fr := Same.refl F
  sub := h.trans (same_new hp)
  keepD := fun a x _ e => same_new hp a x e
  new := fun _ _ => rfl
  alive := fun a n => by
    cases e : H a with
    | none => exact absurd e n
    | some x => rw [same_new hp a x e]; exact fun z => nomatch z
  dr := fun a _ ⟨x, y, ns, h1, h2, h3, e⟩ => ⟨x, y, ns, h1, h2, h3, same_new hp _ _ e⟩
theorem none_sub {F H : Hp} (h : Same F H) {p : Addr} (hp : H p = none) : F p = none := Same.free h hp
/-- the new object at p is frozen at once -/
theorem Step.frz (h : Same F H) {p : Addr} {o : HO} (hp : H p = none) : Step M F H (upd F p o) (upd H p o) where
  fr := same_new (none_sub h hp)
  sub := fun a x e => by
    by_cases z : a = p
    · subst z; rw [upd_same] at e; rw [upd_same]; exact e
    · rw [upd_ne z] at e; rw [upd_ne z]; exact h a x e
  keepD := fun a x _ e => same_new hp a x e
  new := fun a n => by
    have z : a ≠ p := fun z => n (by rw [z]; exact hp)
    rw [upd_ne z]
  alive := fun a n => by
    cases e : H a with
    | none => exact absurd e n
    | some x => rw [same_new hp a x e]; exact fun z => nomatch z
  dr := fun a _ ⟨x, y, ns, h1, h2, h3, e⟩ => ⟨x, y, ns, h1, h2, h3, same_new hp _ _ e⟩
/-- what stood in the heap is frozen later -/
def fz (F : Hp) (p : Addr) (o : HO) : Hp := upd F p o
end

/-! ### slots -/
inductive Sl where
  /-- data that stands still -/
  | dat (d : PyData)
  /-- a list of this def's own, its items -/
  | own (ds : List PyData)
  /-- a dict of this def's own, keys ints and texts -/
  | odk (kvs : List (Key × PyData))
  /-- the draws -/
  | drw
  /-- the script -/
  | scr (ns : List Int)
  /-- an exception that is caught: where it stands, its dict, its fields -/
  | exc (a : Addr) (d : Option Addr) (fs : List (Str × PyData))
  /-- a list of this def's own that is being walked: where it stands, its items -/
  | owp (p : Addr) (ds : List PyData)
  /-- a dict that is not changed any more -/
  | fdk (kvs : List (Key × PyData))
  /-- a dict of this def's own, keys ints and None, values ints -/
  | odn (kvs : List (Option Int × Int))
  /-- .. that is not changed any more -/
  | fdn (kvs : List (Option Int × Int))
  /-- an instance with its attributes, all data -/
  | row (p : Addr) (st : List (Str × PyData))
  /-- a result, and what the instance at p is then -/
  | rwd (p : Addr) (st : List (Str × PyData)) (s : Sl)
  /-- a new list of new lists -/
  | own2 (dss : List (List PyData))
  | unk
structure Base where
  /-- what the loops around stand upon -/
  G : Hp
  M : Addr → Prop
  F0 : Hp
  H0 : Hp
inductive KvRp (K : PySem.W.Frag) (F : Hp) : List (Key × V) → List (Key × PyData) → Prop
  | nil : KvRp K F [] []
  | cons {k : Key} {v : V} {d : PyData} {vs : List (Key × V)} {ds : List (Key × PyData)} : Rp K F v d → KvRp K F vs ds → KvRp K F ((k, v) :: vs) ((k, d) :: ds)
theorem KvRp.mono {K : PySem.W.Frag} {F F' : Hp} (e : Same F F') : ∀ {vs : List (Key × V)} {ds : List (Key × PyData)}, KvRp K F vs ds → KvRp K F' vs ds
  | _, _, .nil => .nil
  | _, _, .cons h t => .cons (h.mono e) (t.mono e)
inductive FsRp (K : PySem.W.Frag) (F : Hp) : List (Str × V) → List (Str × PyData) → Prop
  | nil : FsRp K F [] []
  | cons {k : Str} {v : V} {d : PyData} {vs : List (Str × V)} {ds : List (Str × PyData)} : Rp K F v d → FsRp K F vs ds → FsRp K F ((k, v) :: vs) ((k, d) :: ds)
theorem FsRp.mono {K : PySem.W.Frag} {F F' : Hp} (e : Same F F') : ∀ {vs : List (Str × V)} {ds : List (Str × PyData)}, FsRp K F vs ds → FsRp K F' vs ds
  | _, _, .nil => .nil
  | _, _, .cons h t => .cons (h.mono e) (t.mono e)
theorem FsRp.look {K : PySem.W.Frag} {F : Hp} {f : Str} {d : PyData} : ∀ {vs : List (Str × V)} {ds : List (Str × PyData)}, FsRp K F vs ds → ds.lookup f = some d → ∃ v, vs.lookup f = some v ∧ Rp K F v d
  | _, _, .nil, h => by cases h
  | _, _, .cons (k := k) h t, e => by
    rw [List.lookup_cons] at e ⊢
    cases hk : f == k with
    | true =>
      rw [hk] at e
      cases e
      exact ⟨_, rfl, h⟩
    | false =>
      rw [hk] at e
      exact t.look e
/-- a dict whose keys are ints and None, its values ints -/
def isO : Option Int → Value → Bool
  | none, .none => true
  | some i, .int j _ => decide (j = i)
  | _, _ => false
def hashN : Option Int → Int
  | none => reduceHash 0xFCA86420
  | some i => hashInt i
inductive EnN : List DictEntry → List (Option Int × Int) → Prop
  | nil : EnN [] []
  | cons {e : DictEntry} {es : List DictEntry} {k : Option Int} {i : Int} {t : Tok} {kvs : List (Option Int × Int)} : isO k e.key = true → e.hash = hashN k → e.val = .int i t → EnN es kvs → EnN (e :: es) ((k, i) :: kvs)
def NdAt (h : Heap) (a : Addr) (kvs : List (Option Int × Int)) : Prop :=
  (a == sysModules) = false ∧ kvs.length ≤ sizeLine ∧ (kvs.map (·.1)).Nodup ∧ ∃ o es ep, h.get? a = some o ∧ o.ExactDict ∧ o.data = .dict es ep ∧ EnN es.toList kvs
def NdO (a : Addr) (kvs : List (Option Int × Int)) : HO := .ext fun h => NdAt h a kvs
/-- the instance of the class Row at p -/
def RowAt (K : PySem.W.Frag) (F H : Hp) (p : Addr) (st : List (Str × PyData)) : Prop := ∃ dx vs, H p = some (.ins (He.ga K "Row") dx vs) ∧ FsRp K F vs st
def SlOk (K : PySem.W.Frag) (B : Base) (F H : Hp) (o : Option (Option V)) : Sl → Prop
  | .dat d => ∃ v, o = some (some v) ∧ Rp K F v d
  | .own ds => ∃ p vs, o = some (some (.ref p)) ∧ H p = some (.lst vs) ∧ F p = none ∧ B.H0 p = none ∧ ¬ B.M p ∧ RpAll K F vs ds
  | .odk kvs => ∃ p vs, o = some (some (.ref p)) ∧ H p = some (.dK vs) ∧ F p = none ∧ B.H0 p = none ∧ ¬ B.M p ∧ KvRp K F vs kvs
  | .drw => ∃ p, o = some (some (.ref p)) ∧ B.M p ∧ DrOk H p ∧ F p = none
  | .scr ns => ∃ p, o = some (some (.ref p)) ∧ SqL K F p (ns.map V.int)
  | .exc a d fs => o = some (some (.ref a)) ∧ (fs = [] ∨ ∃ dd vs, d = some dd ∧ F dd = some (.xd vs) ∧ FsRp K F vs fs)
  | .owp p ds => ∃ vs, o = some (some (.ref p)) ∧ H p = some (.lst vs) ∧ F p = none ∧ B.H0 p = none ∧ ¬ B.M p ∧ RpAll K F vs ds
  | .fdk kvs => ∃ p ob vs, o = some (some (.ref p)) ∧ F p = some (.frz ob (.dK vs)) ∧ KvRp K F vs kvs
  | .odn kvs => ∃ p, o = some (some (.ref p)) ∧ H p = some (NdO p kvs) ∧ F p = none ∧ B.H0 p = none ∧ ¬ B.M p
  | .fdn kvs => ∃ p ob, o = some (some (.ref p)) ∧ F p = some (.frz ob (NdO p kvs))
  | .row p st => o = some (some (.ref p)) ∧ RowAt K F H p st ∧ F p = none ∧ (B.M p ∨ B.H0 p = none)
  | .rwd _ _ _ => True
  | .own2 _ => True
  | .unk => True
def Sl.isOwn : Sl → Bool
  | .own _ => true
  | .owp _ _ => true
  | .odk _ => true
  | .odn _ => true
  | _ => false
structure EnvOk (K : PySem.W.Frag) (B : Base) (F H : Hp) (σ : L2.St) (ρ : List Sl) : Prop where
  st : StepE B.M B.F0 B.H0 F H
  mh : ∀ p, B.M p → B.H0 p ≠ none
  gf : Same B.G F
  len : σ.length = ρ.length
  sl : ∀ (i : Nat) (s : Sl), ρ[i]? = some s → SlOk K B F H σ[i]? s
  ne : ∀ (i j : Nat) (s t : Sl) (p : Addr), i ≠ j → ρ[i]? = some s → ρ[j]? = some t → s.isOwn = true → t.isOwn = true → σ[i]? = some (some (.ref p)) → σ[j]? = some (some (.ref p)) → False
section
variable {K : PySem.W.Frag} {B : Base} {F H F2 H2 : Hp} {σ : L2.St} {ρ : List Sl}
theorem EnvOk.sub (h : EnvOk K B F H σ ρ) : Same F H := h.st.sub
theorem SlOk.step {o : Option (Option V)} {s : Sl} (st : Step B.M F H F2 H2) (h : SlOk K B F H o s) : SlOk K B F2 H2 o s := by
  cases s with
  | dat d =>
    obtain ⟨v, e, r⟩ := h
    exact ⟨v, e, r.mono st.fr⟩
  | own ds =>
    obtain ⟨p, vs, e, hp, fp, h0, nm, r⟩ := h
    exact ⟨p, vs, e, st.keep p _ nm hp, by rw [st.new p (by rw [hp]; exact fun z => nomatch z)]; exact fp, h0, nm, r.mono st.fr⟩
  | owp p ds =>
    obtain ⟨vs, e, hp, fp, h0, nm, r⟩ := h
    exact ⟨vs, e, st.keep p _ nm hp, by rw [st.new p (by rw [hp]; exact fun z => nomatch z)]; exact fp, h0, nm, r.mono st.fr⟩
  | odk ds =>
    obtain ⟨p, vs, e, hp, fp, h0, nm, r⟩ := h
    exact ⟨p, vs, e, st.keep p _ nm hp, by rw [st.new p (by rw [hp]; exact fun z => nomatch z)]; exact fp, h0, nm, r.mono st.fr⟩
  | fdk ds =>
    obtain ⟨p, ob, vs, e, hp, r⟩ := h
    exact ⟨p, ob, vs, e, st.fr _ _ hp, r.mono st.fr⟩
  | odn ds =>
    obtain ⟨p, e, hp, fp, h0, nm⟩ := h
    exact ⟨p, e, st.keep p _ nm hp, by rw [st.new p (by rw [hp]; exact fun z => nomatch z)]; exact fp, h0, nm⟩
  | fdn ds =>
    obtain ⟨p, ob, e, hp⟩ := h
    exact ⟨p, ob, e, st.fr _ _ hp⟩
  | row p fs =>
    obtain ⟨e, ⟨dx, vs, hp, r⟩, fp, m⟩ := h
    exact ⟨e, ⟨dx, vs, st.keepD p _ (fun z => by obtain ⟨xs, q⟩ := z.2.lst hp; cases q) hp, r.mono st.fr⟩, by rw [st.new p (by rw [hp]; exact fun z => nomatch z)]; exact fp, m⟩
  | rwd _ _ _ => trivial
  | own2 _ => trivial
  | drw =>
    obtain ⟨p, e, m, d, fp⟩ := h
    refine ⟨p, e, m, st.dr p m d, ?_⟩
    obtain ⟨a, b, ns, _, _, _, q⟩ := d
    rw [st.new p (by rw [q]; exact fun z => nomatch z)]
    exact fp
  | scr ns =>
    obtain ⟨p, e, q⟩ := h
    exact ⟨p, e, st.fr.seq q⟩
  | exc a d fs =>
    obtain ⟨e, h⟩ := h
    refine ⟨e, ?_⟩
    rcases h with h | ⟨dd, vs, e1, e2, r⟩
    · exact .inl h
    · exact .inr ⟨dd, vs, e1, st.fr _ _ e2, r.mono st.fr⟩
  | unk => trivial
theorem EnvOk.step (h : EnvOk K B F H σ ρ) (st : Step B.M F H F2 H2) : EnvOk K B F2 H2 σ ρ :=
  ⟨h.st.trans st.e, h.mh, h.gf.trans st.fr, h.len, fun i s e => (h.sl i s e).step st, h.ne⟩
theorem EnvOk.lt {i : Nat} {s : Sl} (h : EnvOk K B F H σ ρ) (e : ρ[i]? = some s) : i < σ.length := by
  rw [h.len]
  exact (List.getElem?_eq_some_iff.mp e).1
/-- a slot is set to data -/
theorem EnvOk.set {i : Nat} {v : V} {d : PyData} (h : EnvOk K B F H σ ρ) (r : Rp K F v d) : EnvOk K B F H (σ.set i (some v)) (ρ.set i (.dat d)) where
  st := h.st
  mh := h.mh
  gf := h.gf
  len := by rw [List.length_set, List.length_set, h.len]
  sl := fun j s e => by
    by_cases hj : j = i
    · subst hj
      have hlt : j < ρ.length := by
        have := (List.getElem?_eq_some_iff.mp e).1
        rwa [List.length_set] at this
      rw [List.getElem?_set_self hlt] at e
      cases e
      rw [List.getElem?_set_self (by rw [h.len]; exact hlt)]
      exact ⟨v, rfl, r⟩
    · rw [List.getElem?_set_ne (Ne.symm hj)] at e ⊢
      exact h.sl j s e
  ne := fun a b s t p n e1 e2 o1 o2 q1 q2 => by
    have ha : a ≠ i := fun z => by
      subst z
      have hlt : a < ρ.length := by
        have := (List.getElem?_eq_some_iff.mp e1).1
        rwa [List.length_set] at this
      rw [List.getElem?_set_self hlt] at e1
      cases e1
      cases o1
    have hb : b ≠ i := fun z => by
      subst z
      have hlt : b < ρ.length := by
        have := (List.getElem?_eq_some_iff.mp e2).1
        rwa [List.length_set] at this
      rw [List.getElem?_set_self hlt] at e2
      cases e2
      cases o2
    rw [List.getElem?_set_ne (Ne.symm ha)] at e1 q1
    rw [List.getElem?_set_ne (Ne.symm hb)] at e2 q2
    exact h.ne a b s t p n e1 e2 o1 o2 q1 q2
/-- fresh now: not the caller's, not borrowed -/
theorem EnvOk.fresh0 (h : EnvOk K B F H σ ρ) {p : Addr} (hp : H p = none) : B.H0 p = none := by
  cases e : B.H0 p with
  | none => rfl
  | some x => exact absurd hp (h.st.alive p (by rw [e]; exact fun z => nomatch z))
theorem EnvOk.notM (h : EnvOk K B F H σ ρ) {p : Addr} (hp : B.H0 p = none) : ¬ B.M p := fun m => h.mh p m hp
/-- a slot is set: what is not own must be as it says, what is own must stand apart -/
theorem EnvOk.put {i : Nat} {v : V} {t : Sl} (h : EnvOk K B F H σ ρ) (ok : SlOk K B F H (some (some v)) t) (ap : t.isOwn = true → ∀ j s, j ≠ i → ρ[j]? = some s → s.isOwn = true → σ[j]? ≠ some (some v)) : EnvOk K B F H (σ.set i (some v)) (ρ.set i t) where
  st := h.st
  mh := h.mh
  gf := h.gf
  len := by rw [List.length_set, List.length_set, h.len]
  sl := fun j s e => by
    by_cases hj : j = i
    · subst hj
      have hlt : j < ρ.length := by
        have := (List.getElem?_eq_some_iff.mp e).1
        rwa [List.length_set] at this
      rw [List.getElem?_set_self hlt] at e
      cases e
      rw [List.getElem?_set_self (by rw [h.len]; exact hlt)]
      exact ok
    · rw [List.getElem?_set_ne (Ne.symm hj)] at e ⊢
      exact h.sl j s e
  ne := fun a b s u p n e1 e2 o1 o2 q1 q2 => by
    have look : ∀ {c : Nat} {z : Sl}, c = i → (ρ.set i t)[c]? = some z → (σ.set i (some v))[c]? = some (some (.ref p)) → z = t ∧ v = .ref p := fun {c z} hc e q => by
      subst hc
      have hlt : c < ρ.length := by
        have := (List.getElem?_eq_some_iff.mp e).1
        rwa [List.length_set] at this
      rw [List.getElem?_set_self hlt] at e
      rw [List.getElem?_set_self (by rw [h.len]; exact hlt)] at q
      cases e
      cases q
      exact ⟨rfl, rfl⟩
    by_cases ha : a = i
    · obtain ⟨z1, z2⟩ := look ha e1 q1
      subst z1
      have hb : b ≠ i := fun z => n (ha.trans z.symm)
      rw [List.getElem?_set_ne (Ne.symm hb)] at e2 q2
      exact ap o1 b u hb e2 o2 (by rw [q2, z2])
    · rw [List.getElem?_set_ne (Ne.symm ha)] at e1 q1
      by_cases hb : b = i
      · obtain ⟨z1, z2⟩ := look hb e2 q2
        subst z1
        exact ap o2 a s ha e1 o1 (by rw [q1, z2])
      · rw [List.getElem?_set_ne (Ne.symm hb)] at e2 q2
        exact h.ne a b s u p n e1 e2 o1 o2 q1 q2
/-- what is said of slots may be forgotten -/
theorem EnvOk.forget {i : Nat} (h : EnvOk K B F H σ ρ) (o : Option V) : EnvOk K B F H (σ.set i o) (ρ.set i .unk) where
  st := h.st
  mh := h.mh
  gf := h.gf
  len := by rw [List.length_set, List.length_set, h.len]
  sl := fun j s e => by
    by_cases hj : j = i
    · subst hj
      have hlt : j < ρ.length := by
        have := (List.getElem?_eq_some_iff.mp e).1
        rwa [List.length_set] at this
      rw [List.getElem?_set_self hlt] at e
      cases e
      trivial
    · rw [List.getElem?_set_ne (Ne.symm hj)] at e ⊢
      exact h.sl j s e
  ne := fun a b s u p n e1 e2 o1 o2 q1 q2 => by
    have look : ∀ {c : Nat} {z : Sl}, z.isOwn = true → (ρ.set i .unk)[c]? = some z → c ≠ i := fun {c z} hz e hc => by
      subst hc
      have hlt : c < ρ.length := by
        have := (List.getElem?_eq_some_iff.mp e).1
        rwa [List.length_set] at this
      rw [List.getElem?_set_self hlt] at e
      cases e
      cases hz
    have ha := look o1 e1
    have hb := look o2 e2
    rw [List.getElem?_set_ne (Ne.symm ha)] at e1 q1
    rw [List.getElem?_set_ne (Ne.symm hb)] at e2 q2
    exact h.ne a b s u p n e1 e2 o1 o2 q1 q2
/-- the ground of the loops is raised, and taken back -/
theorem EnvOk.up (h : EnvOk K B F H σ ρ) {G : Hp} (g : Same G F) : EnvOk K { B with G := G } F H σ ρ := ⟨h.st, h.mh, g, h.len, h.sl, h.ne⟩
theorem EnvOk.down {G : Hp} (h : EnvOk K { B with G := G } F H σ ρ) (g : Same B.G G) : EnvOk K B F H σ ρ := ⟨h.st, h.mh, g.trans h.gf, h.len, h.sl, h.ne⟩
theorem EnvOk.forget' {i : Nat} (h : EnvOk K B F H σ ρ) : EnvOk K B F H σ (ρ.set i .unk) := by
  by_cases hi : i < σ.length
  · have e := h.forget (i := i) σ[i]
    rwa [List.set_getElem_self hi] at e
  · have hr : ρ.set i .unk = ρ := List.set_eq_of_length_le (by rw [← h.len]; omega)
    rw [hr]
    exact h
end
end Mv

set_option maxRecDepth 100000
set_option maxHeartbeats 4000000
/-! expressions by data: WE, WT, WA -/
namespace Mv
open PySem L2

/-! ### the canonical readings -/
def wE (X : Cx) (e : Expr) : TE := fun σ H Q => ∀ pins s, Inv X pins σ H s → wpAny (model X.prog X.w) X.A (eval e X.env) (EP X pins σ Q) X.xe s
def wT (X : Cx) (e : Expr) : TT := fun σ H Q => ∀ pins s, Inv X pins σ H s → wpAny (model X.prog X.w) X.A (isTrue e X.env (eval e X.env)) (TP X pins σ Q) X.xe s
def wW (X : Cx) (e : Expr) : TT := fun σ H Q => ∀ whole pins s, Inv X pins σ H s → wpAny (model X.prog X.w) X.A (isTrue e X.env whole) (TP X pins σ Q) X.xe s
def wA (X : Cx) (es : List Expr) : TA := fun σ H Q => ∀ pos pins s, Inv X pins σ H s → wpAny (model X.prog X.w) X.A (spliced (backTo pos (starEach es X.env))) (AP X pins σ Q) X.xe s
def wSs (X : Cx) (ss : List Stmt) : TS := fun D σ H => ∀ pins s, Inv X pins σ H s → wpAny (model X.prog X.w) X.A (execs ss X.env) (SP X pins D) X.xe s
section
variable {X : Cx} {e : Expr} {es : List Expr} {ss : List Stmt}
theorem pe_w : PE X e (wE X e) := ⟨fun pins s _ _ _ I h => h pins s I⟩
theorem pt_w : PT X e (wT X e) := ⟨fun pins s _ _ _ I h => h pins s I⟩
theorem pw_w : PW X e (wW X e) := ⟨fun wh pins s _ _ _ I h => h wh pins s I⟩
theorem pa_w : PA X es (wA X es) := ⟨fun pos pins s _ _ _ I h => h pos pins s I⟩
theorem pss_w : PSs X ss (wSs X ss) := ⟨fun pins s _ _ _ I h => h pins s I⟩
theorem wE_of {t : TE} {σ : L2.St} {H : Hp} {Q : VK} (h : PE X e t) (q : t σ H Q) : wE X e σ H Q := fun pins s I => h.run pins s σ H Q I q
theorem wT_of {t : TT} {σ : L2.St} {H : Hp} {Q : Bool → Hp → Prop} (h : PT X e t) (q : t σ H Q) : wT X e σ H Q := fun pins s I => h.run pins s σ H Q I q
theorem wW_of {t : TT} {σ : L2.St} {H : Hp} {Q : Bool → Hp → Prop} (h : PW X e t) (q : t σ H Q) : wW X e σ H Q := fun wh pins s I => h.run wh pins s σ H Q I q
theorem wA_of {t : TA} {σ : L2.St} {H : Hp} {Q : List V → Hp → Prop} (h : PA X es t) (q : t σ H Q) : wA X es σ H Q := fun pos pins s I => h.run pos pins s σ H Q I q
theorem wSs_of {t : TS} {D : Ends} {σ : L2.St} {H : Hp} (h : PSs X ss t) (q : t D σ H) : wSs X ss D σ H := fun pins s I => h.run pins s σ H D I q
end

/-! ### exceptions by data -/
/-- the classes of errors -/
inductive Kd where
  | PlaceError | BadOrder | BadPlace | BadTurns | TooGreat | BadSize | BadBlocks | BadSeen | BadThings | Unlike | BadText
deriving DecidableEq
def Kd.nm : Kd → Str
  | .PlaceError => "PlaceError"
  | .BadOrder => "BadOrder"
  | .BadPlace => "BadPlace"
  | .BadTurns => "BadTurns"
  | .TooGreat => "TooGreat"
  | .BadSize => "BadSize"
  | .BadBlocks => "BadBlocks"
  | .BadSeen => "BadSeen"
  | .BadThings => "BadThings"
  | .Unlike => "Unlike"
  | .BadText => "BadText"
/-- a class caught by the clause b -/
def Kd.takes : Kd → Kd → Bool
  | .PlaceError, _ => true
  | b, a => decide (a = b)
/-- where a class stands -/
def kA (K : PySem.W.Frag) (k : Kd) : Addr := He.ga K k.nm
structure Exn where
  k : Kd
  fs : List (Str × PyData)
def ExRp (K : PySem.W.Frag) (F H : Hp) (cls : Value) (dd : Option Addr) (x : Exn) : Prop :=
  cls = .ref (kA K x.k) ∧ (x.fs = [] ∨ ∃ d vs, dd = some d ∧ F d = some (.xd vs) ∧ FsRp K F vs x.fs)

/-! ### ends -/
def OkE (K : PySem.W.Frag) (M : Addr → Prop) (F H : Hp) (Φ : PyData → Prop) (Q : VK) : Prop := ∀ v d F2 H2, Φ d → Step M F H F2 H2 → Rp K F2 v d → Q v H2
def OkT (M : Addr → Prop) (F H : Hp) (Φ : Bool → Prop) (Q : Bool → Hp → Prop) : Prop := ∀ b F2 H2, Φ b → Step M F H F2 H2 → Q b H2
def ExE (K : PySem.W.Frag) (M : Addr → Prop) (F H : Hp) (W : WX) (σ : L2.St) (Ξ : Exn → Prop) : Prop := ∀ cls dd x F2 H2, Ξ x → Step M F H F2 H2 → ExRp K F2 H2 cls dd x → W cls dd σ H2
/-- an argument: data, the draws, the script -/
inductive Ag where
  | dat (d : PyData) | drw | scr (ns : List Int)
def AgOk (K : PySem.W.Frag) (M : Addr → Prop) (F H : Hp) (v : V) : Ag → Prop
  | .dat d => Rp K F v d
  | .drw => ∃ p, v = .ref p ∧ M p ∧ DrOk H p ∧ F p = none
  | .scr ns => ∃ p, v = .ref p ∧ SqL K F p (ns.map V.int)
inductive AgAll (K : PySem.W.Frag) (M : Addr → Prop) (F H : Hp) : List V → List Ag → Prop
  | nil : AgAll K M F H [] []
  | cons {v : V} {vs : List V} {a : Ag} {as : List Ag} : AgOk K M F H v a → AgAll K M F H vs as → AgAll K M F H (v :: vs) (a :: as)
def OkA (K : PySem.W.Frag) (M : Addr → Prop) (F H : Hp) (Φ : List Ag → Prop) (Q : List V → Hp → Prop) : Prop := ∀ vs as F2 H2, Φ as → Step M F H F2 H2 → AgAll K M F2 H2 vs as → Q vs H2
section
variable {K : PySem.W.Frag} {M : Addr → Prop} {F H F1 H1 F2 H2 : Hp} {W : WX} {σ : L2.St} {Ξ : Exn → Prop} {Φ : PyData → Prop} {Q : VK}
theorem ExE.step (h : ExE K M F H W σ Ξ) (st : Step M F H F1 H1) : ExE K M F1 H1 W σ Ξ := fun cls dd x F2 H2 hx s2 r => h cls dd x F2 H2 hx (st.trans s2) r
theorem OkE.step (h : OkE K M F H Φ Q) (st : Step M F H F1 H1) : OkE K M F1 H1 Φ Q := fun v d F2 H2 hd s2 r => h v d F2 H2 hd (st.trans s2) r
theorem OkT.step {Φ : Bool → Prop} {Q : Bool → Hp → Prop} (h : OkT M F H Φ Q) (st : Step M F H F1 H1) : OkT M F1 H1 Φ Q := fun b F2 H2 hd s2 => h b F2 H2 hd (st.trans s2)
theorem OkA.step {Φ : List Ag → Prop} {Q : List V → Hp → Prop} (h : OkA K M F H Φ Q) (st : Step M F H F1 H1) : OkA K M F1 H1 Φ Q := fun v d F2 H2 hd s2 r => h v d F2 H2 hd (st.trans s2) r
theorem AgOk.step {v : V} {a : Ag} (st : Step M F H F1 H1) (h : AgOk K M F H v a) : AgOk K M F1 H1 v a := by
  cases a with
  | dat d => exact Rp.mono st.fr _ _ h
  | drw =>
    obtain ⟨p, e, m, d, fp⟩ := h
    refine ⟨p, e, m, st.dr p m d, ?_⟩
    obtain ⟨a, b, ns, _, _, _, q⟩ := d
    rw [st.new p (by rw [q]; exact fun z => nomatch z)]
    exact fp
  | scr ns =>
    obtain ⟨p, e, q⟩ := h
    exact ⟨p, e, st.fr.seq q⟩
theorem AgAll.step (st : Step M F H F1 H1) : ∀ {vs : List V} {as : List Ag}, AgAll K M F H vs as → AgAll K M F1 H1 vs as
  | _, _, .nil => .nil
  | _, _, .cons h t => .cons (h.step st) (t.step st)
end

/-! ### the words -/
/-- the def's context: what is raised is W's -/
structure Cxt (X : Cx) (W : WX) : Prop where
  tk : Takes X W
  po : PassesOwn (model X.prog X.w) X.A X.env X.xe
  calm : X.calm = true
  nd : X.N.Nodup
  hu : X.A.units + 64 < cLine
def WE (X : Cx) (W : WX) (ρ : List Sl) (e : Expr) (Ξ : Exn → Prop) (Φ : PyData → Prop) : Prop :=
  ∀ B F H σ, EnvOk X.K B F H σ ρ → ∀ Q, OkE X.K B.M F H Φ Q → ExE X.K B.M F H W σ Ξ → wE X e σ H Q
def WT (X : Cx) (W : WX) (ρ : List Sl) (e : Expr) (Ξ : Exn → Prop) (Φ : Bool → Prop) : Prop :=
  ∀ B F H σ, EnvOk X.K B F H σ ρ → ∀ Q, OkT B.M F H Φ Q → ExE X.K B.M F H W σ Ξ → wT X e σ H Q
/-- and, or as tests: whatever the whole is -/
def WW (X : Cx) (W : WX) (ρ : List Sl) (e : Expr) (Ξ : Exn → Prop) (Φ : Bool → Prop) : Prop :=
  ∀ B F H σ, EnvOk X.K B F H σ ρ → ∀ Q, OkT B.M F H Φ Q → ExE X.K B.M F H W σ Ξ → wW X e σ H Q
def WA (X : Cx) (W : WX) (ρ : List Sl) (es : List Expr) (Ξ : Exn → Prop) (Φ : List Ag → Prop) : Prop :=
  ∀ B F H σ, EnvOk X.K B F H σ ρ → ∀ Q, OkA X.K B.M F H Φ Q → ExE X.K B.M F H W σ Ξ → wA X es σ H Q
/-- an operation by values: r takes x and y to what Φ says; it may lay new objects -/
def WOp (X : Cx) (r : R2) (x y : PyData) (Φ : PyData → Prop) : Prop :=
  ∀ M F H vx vy, Same F H → Rp X.K F vx x → Rp X.K F vy y → ∀ Q, OkE X.K M F H Φ Q → r vx vy H Q
section
variable {X : Cx} {W : WX} {ρ : List Sl} {e a b c : Expr} {es : List Expr} {Ξ : Exn → Prop} {Φ Ψ : PyData → Prop} {pos : Pos}
theorem WE.mono (h : WE X W ρ e Ξ Φ) (k : ∀ d, Φ d → Ψ d) : WE X W ρ e Ξ Ψ := fun B F H σ env Q q qx =>
  h B F H σ env Q (fun v d F2 H2 hd st r => q v d F2 H2 (k d hd) st r) qx
theorem WT.mono {Φ Ψ : Bool → Prop} (h : WT X W ρ e Ξ Φ) (k : ∀ d, Φ d → Ψ d) : WT X W ρ e Ξ Ψ := fun B F H σ env Q q qx =>
  h B F H σ env Q (fun v F2 H2 hd st => q v F2 H2 (k v hd) st) qx

/-! names, constants -/
theorem we_name (i : Nat) {x : Str} {d : PyData} (hi : ρ[i]? = some (.dat d)) (h : Φ d) (hN : X.N[i]? = some x := by rfl) (hv : Vis X.env.scope x := by first | exact Or.inl rfl | exact Or.inr (Or.inl rfl) | exact Or.inr (Or.inr rfl))
    (hd : (x == ("__debug__" : Str)) = false := by decide) (hcd : (x == ("__classdict__" : Str)) = false := by decide) : WE X W ρ (.Name x pos) Ξ Φ := fun B F H σ env Q q _ => by
  obtain ⟨v, e1, r⟩ := env.sl i _ hi
  exact wE_of (pv i hN hv hd hcd) ⟨v, e1, q v d F H h (Step.refl env.sub) r⟩
theorem we_int {i : Int} {j} (h : Φ (.int i)) : WE X W ρ (.Constant (.int i) j pos) Ξ Φ := fun B F H σ env Q q _ =>
  wE_of pe_int (q _ _ F H h (Step.refl env.sub) (.int i))
theorem we_bl {i : Bool} {j} (h : Φ (.bool i)) : WE X W ρ (.Constant (.bool i) j pos) Ξ Φ := fun B F H σ env Q q _ =>
  wE_of pe_bl (q _ _ F H h (Step.refl env.sub) (.bl i))
theorem we_non {j} (h : Φ .none) : WE X W ρ (.Constant .none j pos) Ξ Φ := fun B F H σ env Q q _ =>
  wE_of pe_non (q _ _ F H h (Step.refl env.sub) .non)
theorem we_str {x : Str} {j} (h : Φ (.str x)) : WE X W ρ (.Constant (.str x) j pos) Ξ Φ := fun B F H σ env Q q _ =>
  wE_of pe_str (q _ _ F H h (Step.refl env.sub) (.str x))
/-- a module's constant -/
theorem we_glob {x : Str} {v : V} {u : Value} {d : PyData} (hm : X.mg x = some u) (r : RelV v u) (rd : ∀ F, Rp X.K F v d) (h : Φ d) (hg : Gl X x := by rfl) (hd : (x == ("__debug__" : Str)) = false := by decide) : WE X W ρ (.Name x pos) Ξ Φ := fun B F H σ env Q q _ =>
  wE_of (pe_glob hg hm r hd) (q _ _ F H h (Step.refl env.sub) (rd F))

/-! two-place operations -/
theorem we_op {op : Operator} {r : R2} (ho : OpR X (binaryOp op) r) (h : WE X W ρ a Ξ fun x => WE X W ρ b Ξ fun y => WOp X r x y Φ) : WE X W ρ (.BinOp a op b pos) Ξ Φ := fun B F H σ env Q q qx =>
  wE_of (pe_op ho pe_w pe_w) (h B F H σ env _ (fun v x F1 H1 hx st1 r1 => hx B F1 H1 σ (env.step st1) _
    (fun w y F2 H2 hy st2 r2 => hy B.M F2 H2 v w st2.sub (r1.mono st2.fr) r2 Q (q.step (st1.trans st2))) (qx.step st1)) qx)
theorem we_cmp {op : CmpOp} {r : R2} (ho : OpR X (compareOp op) r) (hm : behindInMarks op b = false) (h : WE X W ρ a Ξ fun x => WE X W ρ b Ξ fun y => WOp X r x y Φ) : WE X W ρ (.Compare a [op] [b] pos) Ξ Φ := fun B F H σ env Q q qx =>
  wE_of (pe_cmpR ho pe_w pe_w hm) (h B F H σ env _ (fun v x F1 H1 hx st1 r1 => hx B F1 H1 σ (env.step st1) _
    (fun w y F2 H2 hy st2 r2 => hy B.M F2 H2 v w st2.sub (r1.mono st2.fr) r2 Q (q.step (st1.trans st2))) (qx.step st1)) qx)
theorem wt_cmp {Φ : Bool → Prop} {op : CmpOp} {r : R2} (ho : OpR X (compareOp op) r) (hm : behindInMarks op b = false) (h : WE X W ρ a Ξ fun x => WE X W ρ b Ξ fun y => WOp X r x y fun d => ∃ c, d = .bool c ∧ Φ c) : WT X W ρ (.Compare a [op] [b] pos) Ξ Φ := fun B F H σ env Q q qx =>
  wT_of (pt_cmpR ho pe_w pe_w hm) (h B F H σ env _ (fun v x F1 H1 hx st1 r1 => hx B F1 H1 σ (env.step st1) _
    (fun w y F2 H2 hy st2 r2 => hy B.M F2 H2 v w st2.sub (r1.mono st2.fr) r2 _ (fun z d F3 H3 hd st3 r3 => by
      obtain ⟨c, rfl, hc⟩ := hd
      exact ⟨c, r3.bl_inv, q c F3 H3 hc ((st1.trans st2).trans st3)⟩)) (qx.step st1)) qx)
/-- a op b op' c -/
theorem we_chain {op op' : CmpOp} {r r' : R2} (ho : OpR X (compareOp op) r) (ho' : OpR X (compareOp op') r') (hm : lastMarks [op, op'] [b, c] = false)
    (h : WE X W ρ a Ξ fun x => WE X W ρ b Ξ fun y => WOp X r x y fun d => ∃ k, d = .bool k ∧ (k = true → WE X W ρ c Ξ fun z => WOp X r' y z Φ) ∧ (k = false → Φ (.bool false))) : WE X W ρ (.Compare a [op, op'] [b, c] pos) Ξ Φ := fun B F H σ env Q q qx =>
  wE_of (pe_chain ho ho' pe_w pe_w pe_w hm) (h B F H σ env _ (fun v x F1 H1 hx st1 r1 => hx B F1 H1 σ (env.step st1) _
    (fun w y F2 H2 hy st2 r2 => hy B.M F2 H2 v w st2.sub (r1.mono st2.fr) r2 _ (fun z d F3 H3 hd st3 r3 => by
      obtain ⟨k, rfl, h1, h2⟩ := hd
      refine ⟨k, r3.bl_inv, ?_⟩
      have st := (st1.trans st2).trans st3
      cases k with
      | false =>
        rw [if_neg Bool.false_ne_true]
        exact q _ _ F3 H3 (h2 rfl) st (.bl false)
      | true =>
        rw [if_pos rfl]
        exact h1 rfl B F3 H3 σ (env.step st) _ (fun w3 z3 F4 H4 hz st4 r4 => hz B.M F4 H4 w w3 st4.sub (r2.mono (st3.fr.trans st4.fr)) r4 Q (q.step (st.trans st4))) (qx.step st))) (qx.step st1)) qx)
theorem wt_chain {Φ : Bool → Prop} {op op' : CmpOp} {r r' : R2} (ho : OpR X (compareOp op) r) (ho' : OpR X (compareOp op') r') (hm : lastMarks [op, op'] [b, c] = false)
    (h : WE X W ρ a Ξ fun x => WE X W ρ b Ξ fun y => WOp X r x y fun d => ∃ k, d = .bool k ∧ (k = true → WE X W ρ c Ξ fun z => WOp X r' y z fun d => ∃ c, d = .bool c ∧ Φ c) ∧ (k = false → Φ false)) : WT X W ρ (.Compare a [op, op'] [b, c] pos) Ξ Φ := fun B F H σ env Q q qx =>
  wT_of (pt_chain ho ho' pe_w pe_w pe_w hm) (h B F H σ env _ (fun v x F1 H1 hx st1 r1 => hx B F1 H1 σ (env.step st1) _
    (fun w y F2 H2 hy st2 r2 => hy B.M F2 H2 v w st2.sub (r1.mono st2.fr) r2 _ (fun z d F3 H3 hd st3 r3 => by
      obtain ⟨k, rfl, h1, h2⟩ := hd
      refine ⟨k, r3.bl_inv, ?_⟩
      have st := (st1.trans st2).trans st3
      cases k with
      | false =>
        rw [if_neg Bool.false_ne_true]
        exact ⟨false, rfl, q _ F3 H3 (h2 rfl) st⟩
      | true =>
        rw [if_pos rfl]
        exact h1 rfl B F3 H3 σ (env.step st) _ (fun w3 z3 F4 H4 hz st4 r4 => hz B.M F4 H4 w w3 st4.sub (r2.mono (st3.fr.trans st4.fr)) r4 _ (fun z5 d5 F5 H5 hd5 st5 r5 => by
          obtain ⟨c, rfl, hc⟩ := hd5
          exact ⟨c, r5.bl_inv, q c F5 H5 hc ((st.trans st4).trans st5)⟩)) (qx.step st))) (qx.step st1)) qx)

/-! tests, and, or, not, if else -/
theorem wt_val (h : WE X W ρ e Ξ fun d => ∃ c, d = .bool c ∧ Φ' c) (he : ∀ whole, isTrue e X.env whole = (do let v ← whole; standAt e.pos; holding [v] (truthy v)) := by intro _; rfl) : WT X W ρ e Ξ Φ' := fun B F H σ env Q q qx =>
  wT_of (pt_val pe_w he) (h B F H σ env _ (fun v d F1 H1 hd st r => by
    obtain ⟨c, rfl, hc⟩ := hd
    exact ⟨c, r.bl_inv, q c F1 H1 hc st⟩) qx)
theorem wt_w {Φ : Bool → Prop} (h : WW X W ρ e Ξ Φ) : WT X W ρ e Ξ Φ := fun B F H σ env Q q qx => wT_of (pw_w (X := X) (e := e)).pt (h B F H σ env Q q qx)
variable {rest : List Expr} {Θ : Bool → Prop}
theorem ww_and1 (h : WT X W ρ a Ξ Θ) : WW X W ρ (.BoolOp .And [a] pos) Ξ Θ := fun B F H σ env Q q qx => wW_of (pw_and1 pt_w) (h B F H σ env Q q qx)
theorem ww_or1 (h : WT X W ρ a Ξ Θ) : WW X W ρ (.BoolOp .Or [a] pos) Ξ Θ := fun B F H σ env Q q qx => wW_of (pw_or1 pt_w) (h B F H σ env Q q qx)
theorem ww_and (h : WT X W ρ a Ξ fun k => (k = true → WW X W ρ (.BoolOp .And (b :: rest) pos) Ξ Θ) ∧ (k = false → Θ false)) : WW X W ρ (.BoolOp .And (a :: b :: rest) pos) Ξ Θ := fun B F H σ env Q q qx =>
  wW_of (pw_and pt_w pw_w) (h B F H σ env _ (fun k F1 H1 hk st => by
    cases k with
    | true =>
      rw [if_pos rfl]
      exact hk.1 rfl B F1 H1 σ (env.step st) Q (q.step st) (qx.step st)
    | false =>
      rw [if_neg Bool.false_ne_true]
      exact q _ F1 H1 (hk.2 rfl) st) qx)
theorem ww_or (h : WT X W ρ a Ξ fun k => (k = false → WW X W ρ (.BoolOp .Or (b :: rest) pos) Ξ Θ) ∧ (k = true → Θ true)) : WW X W ρ (.BoolOp .Or (a :: b :: rest) pos) Ξ Θ := fun B F H σ env Q q qx =>
  wW_of (pw_or pt_w pw_w) (h B F H σ env _ (fun k F1 H1 hk st => by
    cases k with
    | false =>
      rw [if_neg Bool.false_ne_true]
      exact hk.1 rfl B F1 H1 σ (env.step st) Q (q.step st) (qx.step st)
    | true =>
      rw [if_pos rfl]
      exact q _ F1 H1 (hk.2 rfl) st) qx)
theorem wt_not (h : WT X W ρ a Ξ fun k => Θ (!k)) : WT X W ρ (.UnaryOp .Not a pos) Ξ Θ := fun B F H σ env Q q qx =>
  wT_of (pt_not pt_w) (h B F H σ env _ (fun k F1 H1 hk st => q _ F1 H1 hk st) qx)
/-- as values: all but the last are bools -/
theorem we_bool1 {op : BoolOp} (h : WE X W ρ a Ξ Φ) : WE X W ρ (.BoolOp op [a] pos) Ξ Φ := fun B F H σ env Q q qx => wE_of (pe_one pe_w) (h B F H σ env Q q qx)
theorem we_and (h : WE X W ρ a Ξ fun d => ∃ k, d = .bool k ∧ (k = true → WE X W ρ (.BoolOp .And (b :: rest) pos) Ξ Φ) ∧ (k = false → Φ (.bool false))) : WE X W ρ (.BoolOp .And (a :: b :: rest) pos) Ξ Φ := fun B F H σ env Q q qx =>
  wE_of (pe_and pe_w pe_w) (h B F H σ env _ (fun v d F1 H1 hd st r => by
    obtain ⟨k, rfl, h1, h2⟩ := hd
    refine ⟨k, r.bl_inv, ?_⟩
    cases k with
    | true =>
      rw [if_pos rfl]
      exact h1 rfl B F1 H1 σ (env.step st) Q (q.step st) (qx.step st)
    | false =>
      rw [if_neg Bool.false_ne_true]
      exact q _ _ F1 H1 (h2 rfl) st (.bl false)) qx)
theorem we_or (h : WE X W ρ a Ξ fun d => ∃ k, d = .bool k ∧ (k = false → WE X W ρ (.BoolOp .Or (b :: rest) pos) Ξ Φ) ∧ (k = true → Φ (.bool true))) : WE X W ρ (.BoolOp .Or (a :: b :: rest) pos) Ξ Φ := fun B F H σ env Q q qx =>
  wE_of (pe_or pe_w pe_w) (h B F H σ env _ (fun v d F1 H1 hd st r => by
    obtain ⟨k, rfl, h1, h2⟩ := hd
    refine ⟨k, r.bl_inv, ?_⟩
    cases k with
    | false =>
      rw [if_neg Bool.false_ne_true]
      exact h1 rfl B F1 H1 σ (env.step st) Q (q.step st) (qx.step st)
    | true =>
      rw [if_pos rfl]
      exact q _ _ F1 H1 (h2 rfl) st (.bl true)) qx)
theorem we_not (h : WE X W ρ a Ξ fun d => ∃ k, d = .bool k ∧ Φ (.bool (!k))) : WE X W ρ (.UnaryOp .Not a pos) Ξ Φ := fun B F H σ env Q q qx =>
  wE_of (pe_not pe_w) (h B F H σ env _ (fun v d F1 H1 hd st r => by
    obtain ⟨k, rfl, h1⟩ := hd
    exact ⟨k, r.bl_inv, q _ _ F1 H1 h1 st (.bl _)⟩) qx)
theorem we_if (h : WT X W ρ c Ξ fun k => (k = true → WE X W ρ a Ξ Φ) ∧ (k = false → WE X W ρ b Ξ Φ)) : WE X W ρ (.IfExp c a b pos) Ξ Φ := fun B F H σ env Q q qx =>
  wE_of (pe_ifExp pt_w pe_w pe_w) (h B F H σ env _ (fun k F1 H1 hk st => by
    cases k with
    | true =>
      rw [if_pos rfl]
      exact hk.1 rfl B F1 H1 σ (env.step st) Q (q.step st) (qx.step st)
    | false =>
      rw [if_neg Bool.false_ne_true]
      exact hk.2 rfl B F1 H1 σ (env.step st) Q (q.step st) (qx.step st)) qx)

/-! argument lists, displays -/
theorem wa_nil {Φ : List Ag → Prop} (h : Φ []) : WA X W ρ [] Ξ Φ := fun B F H σ env Q q qx => wA_of pa_nil (q [] [] F H h (Step.refl env.sub) .nil)
theorem wa_cons {Φ : List Ag → Prop} (h : WE X W ρ e Ξ fun d => WA X W ρ es Ξ fun as => Φ (.dat d :: as)) (hs : starEach (e :: es) X.env = (false, eval e X.env) :: starEach es X.env := by rfl) : WA X W ρ (e :: es) Ξ Φ := fun B F H σ env Q q qx =>
  wA_of (pa_cons pe_w pa_w hs) (h B F H σ env _ (fun v d F1 H1 hd st r => hd B F1 H1 σ (env.step st) _ (fun vs as F2 H2 ha st2 rs =>
    q (v :: vs) (.dat d :: as) F2 H2 ha (st.trans st2) (.cons (Rp.mono st2.fr _ _ r) rs)) (qx.step st)) qx)
/-- the draws, the script, handed on -/
theorem wa_drw (i : Nat) {x : Str} {Φ : List Ag → Prop} (hi : ρ[i]? = some .drw) (h : WA X W ρ es Ξ fun as => Φ (.drw :: as)) (hN : X.N[i]? = some x := by rfl) (hv : Vis X.env.scope x := by first | exact Or.inl rfl | exact Or.inr (Or.inl rfl) | exact Or.inr (Or.inr rfl))
    (hd : (x == ("__debug__" : Str)) = false := by decide) (hcd : (x == ("__classdict__" : Str)) = false := by decide) (hs : starEach (.Name x pos :: es) X.env = (false, eval (.Name x pos) X.env) :: starEach es X.env := by rfl) : WA X W ρ (.Name x pos :: es) Ξ Φ := fun B F H σ env Q q qx => by
  obtain ⟨p, e1, m, d, fp⟩ := env.sl i _ hi
  exact wA_of (pa_cons (pv i hN hv hd hcd) pa_w hs) ⟨_, e1, h B F H σ env _ (fun vs as F2 H2 ha st2 rs =>
    q (.ref p :: vs) (.drw :: as) F2 H2 ha st2 (.cons (AgOk.step st2 (a := .drw) ⟨p, rfl, m, d, fp⟩) rs)) qx⟩
theorem wa_scr (i : Nat) {x : Str} {ns : List Int} {Φ : List Ag → Prop} (hi : ρ[i]? = some (.scr ns)) (h : WA X W ρ es Ξ fun as => Φ (.scr ns :: as)) (hN : X.N[i]? = some x := by rfl) (hv : Vis X.env.scope x := by first | exact Or.inl rfl | exact Or.inr (Or.inl rfl) | exact Or.inr (Or.inr rfl))
    (hd : (x == ("__debug__" : Str)) = false := by decide) (hcd : (x == ("__classdict__" : Str)) = false := by decide) (hs : starEach (.Name x pos :: es) X.env = (false, eval (.Name x pos) X.env) :: starEach es X.env := by rfl) : WA X W ρ (.Name x pos :: es) Ξ Φ := fun B F H σ env Q q qx => by
  obtain ⟨p, e1, hq⟩ := env.sl i _ hi
  exact wA_of (pa_cons (pv i hN hv hd hcd) pa_w hs) ⟨_, e1, h B F H σ env _ (fun vs as F2 H2 ha st2 rs =>
    q (.ref p :: vs) (.scr ns :: as) F2 H2 ha st2 (.cons (AgOk.step st2 (a := .scr ns) ⟨p, rfl, hq⟩) rs)) qx⟩
/-- all of them data -/
def dats (as : List Ag) (Φ : List PyData → Prop) : Prop := ∃ ds, as = ds.map Ag.dat ∧ Φ ds
theorem AgAll.dats {K : PySem.W.Frag} {M : Addr → Prop} {F H : Hp} : ∀ {vs : List V} {ds : List PyData}, AgAll K M F H vs (ds.map Ag.dat) → RpAll K F vs ds
  | _, [], h => by cases h; exact .nil
  | _, d :: ds, h => by
    cases h with
    | cons h t => exact .cons h t.dats
theorem we_tup {k1} (h : WA X W ρ es Ξ fun as => dats as fun ds => ds.length ≤ 8000000 ∧ Φ (.tuple ds)) : WE X W ρ (.Tuple es k1 pos) Ξ Φ := fun B F H σ env Q q qx =>
  wE_of (pe_tup pa_w) (h B F H σ env _ (fun vs as F1 H1 ha st rs => by
    obtain ⟨ds, rfl, hl, hΦ⟩ := ha
    have r := rs.dats
    refine ⟨Nat.le_trans (by rw [r.len]; exact hl) (by decide), fun p hp => ?_⟩
    have st2 : Step B.M F1 H1 (upd F1 p (.tup vs)) (upd H1 p (.tup vs)) := Step.frz st.sub hp
    exact q _ _ _ _ hΦ (st.trans st2) (.tup (SqT.of upd_same) (RpAll.mono st2.fr _ _ r))) qx)
theorem we_lst (h : WA X W ρ es Ξ fun as => dats as fun ds => ds.length ≤ 8000000 ∧ Φ (.list ds)) : WE X W ρ (.List es pos) Ξ Φ := fun B F H σ env Q q qx =>
  wE_of (pe_lst pa_w) (h B F H σ env _ (fun vs as F1 H1 ha st rs => by
    obtain ⟨ds, rfl, hl, hΦ⟩ := ha
    have r := rs.dats
    refine ⟨Nat.le_trans (by rw [r.len]; exact hl) (by decide), fun p hp => ?_⟩
    have st2 : Step B.M F1 H1 (upd F1 p (.lst vs)) (upd H1 p (.lst vs)) := Step.frz st.sub hp
    exact q _ _ _ _ hΦ (st.trans st2) (.lst upd_same (RpAll.mono st2.fr _ _ r))) qx)
end
end Mv

set_option maxRecDepth 100000
set_option maxHeartbeats 4000000
/-! operations by data: + - * // %, comparisons, in, subscripts, slices, built-in calls -/
namespace Mv
open PySem L2

/-- a bound for factors and divisors -/
def BIG : Nat := 2 ^ 4000
theorem big_of {i : Int} (h1 : -1000000000000000000000000000000000000000000000000000000000000 ≤ i) (h2 : i ≤ 1000000000000000000000000000000000000000000000000000000000000) : i.natAbs < BIG := Nat.lt_of_lt_of_le (show i.natAbs < 2 ^ 200 by omega) (Nat.pow_le_pow_right (by decide) (by decide))
theorem big_mul {i j : Int} (h1 : i.natAbs < 2 ^ 1000) (h2 : j.natAbs < 2 ^ 1000) : (i * j).natAbs < BIG := Nat.lt_of_lt_of_le (wide_lt h1 h2) (Nat.pow_le_pow_right (by decide) (by decide))
section
variable {X : Cx} {Φ : PyData → Prop} {x y : PyData}
theorem wop_inl {r r' : R2} (h : WOp X r x y Φ) : WOp X (fun x y H Q => r x y H Q ∨ r' x y H Q) x y Φ := fun M F H vx vy s rx ry Q q => .inl (h M F H vx vy s rx ry Q q)
theorem wop_inr {r r' : R2} (h : WOp X r' x y Φ) : WOp X (fun x y H Q => r x y H Q ∨ r' x y H Q) x y Φ := fun M F H vx vy s rx ry Q q => .inr (h M F H vx vy s rx ry Q q)
/-! ints -/
theorem wop_I0 {i j : Int} {g : Int → Int → Int} (h : Φ (.int (g i j))) : WOp X (rI0 fun i j => .int (g i j)) (.int i) (.int j) Φ := fun M F H vx vy s rx ry Q q =>
  ⟨i, j, rx.int_inv, ry.int_inv, q _ _ F H h (Step.refl s) (.int _)⟩
theorem wop_I {C : Int → Int → Prop} {i j : Int} {g : Int → Int → Int} (hc : C i j) (h : Φ (.int (g i j))) : WOp X (rI C fun i j => .int (g i j)) (.int i) (.int j) Φ := fun M F H vx vy s rx ry Q q =>
  ⟨i, j, rx.int_inv, ry.int_inv, hc, q _ _ F H h (Step.refl s) (.int _)⟩
theorem wop_B0 {i j : Int} {g : Int → Int → Bool} (h : Φ (.bool (g i j))) : WOp X (rI0 fun i j => .bl (g i j)) (.int i) (.int j) Φ := fun M F H vx vy s rx ry Q q =>
  ⟨i, j, rx.int_inv, ry.int_inv, q _ _ F H h (Step.refl s) (.bl _)⟩

/-! + -/
def rAddS : R2 := fun x y H Q => ∃ i j, x = .str i ∧ y = .str j ∧ i.length + j.length ≤ sizeLine ∧ Q (.str (i ++ j)) H
def rAdd (K : PySem.W.Frag) : R2 := fun x y H Q => (rI0 (fun i j => .int (i + j)) x y H Q) ∨ ((rAddS x y H Q) ∨ (rCatA K x y H Q ∨ rCat x y H Q))
theorem op_addA : OpR X (binaryOp .Add) (rAdd X.K) := op_add.or (OpR.or (r := rAddS) op_add_str (op_catA.or op_cat))
theorem wadd_int {i j : Int} (h : Φ (.int (i + j))) : WOp X (rAdd X.K) (.int i) (.int j) Φ := wop_inl (wop_I0 h)
theorem wadd_str {i j : Str} (hz : i.length + j.length ≤ 8000000) (h : Φ (.str (i ++ j))) : WOp X (rAdd X.K) (.str i) (.str j) Φ := wop_inr (wop_inl fun M F H vx vy s rx ry Q q =>
  ⟨i, j, rx.str_inv, ry.str_inv, Nat.le_trans hz (by decide), q _ _ F H h (Step.refl s) (.str _)⟩)
theorem wadd_tup {ds es : List PyData} (hz : ds.length + es.length ≤ 8000000) (h : Φ (.tuple (ds ++ es))) : WOp X (rAdd X.K) (.tuple ds) (.tuple es) Φ := wop_inr (wop_inr (wop_inl fun M F H vx vy s rx ry Q q => by
  obtain ⟨a, xs, rfl, ha, ra⟩ := rx.tup_inv
  obtain ⟨b, ys, rfl, hb, rb⟩ := ry.tup_inv
  refine ⟨a, b, xs, ys, rfl, rfl, same_t s ha, same_t s hb, Nat.le_trans (by rw [ra.len, rb.len]; exact hz) (by decide), fun e => ?_, fun _ e => ?_, fun _ _ p hp => ?_⟩
  · subst e
    cases ra
    exact q _ _ F H h (Step.refl s) (.tup hb rb)
  · subst e
    cases rb
    rw [List.append_nil] at h
    exact q _ _ F H h (Step.refl s) (.tup ha ra)
  · have st : Step M F H (upd F p (.tup (xs ++ ys))) (upd H p (.tup (xs ++ ys))) := Step.frz s hp
    exact q _ _ _ _ h st (.tup (SqT.of upd_same) (RpAll.mono st.fr _ _ (ra.append rb)))))
theorem wadd_lst {ds es : List PyData} (hz : ds.length + es.length ≤ 8000000) (h : Φ (.list (ds ++ es))) : WOp X (rAdd X.K) (.list ds) (.list es) Φ := wop_inr (wop_inr (wop_inr fun M F H vx vy s rx ry Q q => by
  obtain ⟨a, xs, rfl, ha, ra⟩ := rx.lst_inv
  obtain ⟨b, ys, rfl, hb, rb⟩ := ry.lst_inv
  refine ⟨a, b, xs, ys, rfl, rfl, s _ _ ha, s _ _ hb, Nat.le_trans (by rw [ra.len, rb.len]; exact hz) (by decide), fun p hp => ?_⟩
  have st : Step M F H (upd F p (.lst (xs ++ ys))) (upd H p (.lst (xs ++ ys))) := Step.frz s hp
  exact q _ _ _ _ h st (.lst upd_same (RpAll.mono st.fr _ _ (ra.append rb)))))

/-! * : ints; a list, a tuple by an int -/
def rMulA (K : PySem.W.Frag) : R2 := fun x y H Q => (rI CMulW (fun i j => .int (i * j)) x y H Q) ∨ (rRep x y H Q ∨ rRepT K x y H Q)
theorem op_mulA : OpR X (binaryOp .Mult) (rMulA X.K) := op_mulW.or (op_rep.or op_repT)
theorem wmul_int {i j : Int} (hi : i.natAbs < BIG) (hj : j.natAbs < BIG) (h : Φ (.int (i * j))) : WOp X (rMulA X.K) (.int i) (.int j) Φ := wop_inl (wop_I (wide_mul hi hj (by decide) (by decide) (by decide)) h)
theorem rp_flatten {K : PySem.W.Frag} {F : Hp} {vs : List V} {ds : List PyData} (h : RpAll K F vs ds) : ∀ n : Nat, RpAll K F (List.replicate n vs).flatten (List.replicate n ds).flatten
  | 0 => .nil
  | n + 1 => by
    rw [List.replicate_succ, List.replicate_succ, List.flatten_cons, List.flatten_cons]
    exact h.append (rp_flatten h n)
theorem wmul_lst {ds : List PyData} {k : Int} (h1 : -(2 ^ 63) ≤ k) (h2 : k < 2 ^ 63) (hz : ds.length * k.toNat ≤ 8000000) (h : Φ (.list (List.replicate k.toNat ds).flatten)) : WOp X (rMulA X.K) (.list ds) (.int k) Φ := wop_inr (wop_inl fun M F H vx vy s rx ry Q q => by
  obtain ⟨a, xs, rfl, ha, ra⟩ := rx.lst_inv
  refine ⟨a, k, xs, rfl, ry.int_inv, s _ _ ha, h1, h2, Nat.le_trans (by rw [ra.len]; exact hz) (by decide), fun p hp => ?_⟩
  have st : Step M F H (upd F p (.lst (List.replicate k.toNat xs).flatten)) (upd H p (.lst (List.replicate k.toNat xs).flatten)) := Step.frz s hp
  exact q _ _ _ _ h st (.lst upd_same (RpAll.mono st.fr _ _ (rp_flatten ra _))))
theorem wmul_tup {ds : List PyData} {k : Int} (hne : ds ≠ []) (h1 : 2 ≤ k) (h2 : k ≤ 1000) (hz : ds.length ≤ 1000) (h : Φ (.tuple (List.replicate k.toNat ds).flatten)) : WOp X (rMulA X.K) (.tuple ds) (.int k) Φ := wop_inr (wop_inr fun M F H vx vy s rx ry Q q => by
  obtain ⟨a, xs, rfl, ha, ra⟩ := rx.tup_inv
  refine ⟨a, k, xs, rfl, ry.int_inv, same_t s ha, fun e => hne (by subst e; cases ra; rfl), h1, h2, by rw [ra.len]; exact hz, fun p hp => ?_⟩
  have st : Step M F H (upd F p (.tup (List.replicate k.toNat xs).flatten)) (upd H p (.tup (List.replicate k.toNat xs).flatten)) := Step.frz s hp
  exact q _ _ _ _ h st (.tup (SqT.of upd_same) (RpAll.mono st.fr _ _ (rp_flatten ra _))))
theorem wsub_int {i j : Int} (h : Φ (.int (i - j))) : WOp X (rI0 fun i j => .int (i - j)) (.int i) (.int j) Φ := wop_I0 h
theorem wdiv_int {i j : Int} (hj : 0 < j) (hb : j.natAbs < BIG) (h : Φ (.int (i / j))) : WOp X (rI CDivW fun i j => .int (i / j)) (.int i) (.int j) Φ := wop_I (wide_div hj hb (by decide) (by decide)) h
theorem wmod_int {i j : Int} (hj : 0 < j) (h : Φ (.int (i % j))) : WOp X (rI (fun _ j => 0 < j) fun i j => .int (i % j)) (.int i) (.int j) Φ := wop_I hj h

/-! ** -/
theorem wpow_int {i j : Int} (h1 : 0 ≤ j) (h2 : j ≤ 1000000) (h3 : i.natAbs < 2 ^ 64) (h : Φ (.int (i ^ j.toNat))) : WOp X (rI CPow fun i j => .int (i ^ j.toNat)) (.int i) (.int j) Φ := wop_I ⟨h1, h2, h3⟩ h

/-! == and != of any data but dicts -/
def rEqA (K : PySem.W.Frag) : R2 := fun x y H Q => (rEq x y H Q) ∨ rEqD K x y H Q
def rNeA (K : PySem.W.Frag) : R2 := fun x y H Q => (rNe x y H Q) ∨ rNeD K x y H Q
theorem op_eqA (hu : X.A.units + 64 < cLine) : OpR X (compareOp .Eq) (rEqA X.K) := op_eq.or (op_eqD hu)
theorem op_neA (hu : X.A.units + 64 < cLine) : OpR X (compareOp .NotEq) (rNeA X.K) := op_ne.or (op_neD hu)
theorem weq_dat (h1 : noDict x = true) (h2 : noDict y = true) (s1 : SeqAt.shaped x = true) (s2 : SeqAt.shaped y = true) (h : Φ (.bool (PyData.eqv x y))) : WOp X (rEqA X.K) x y Φ := wop_inr fun M F H vx vy s rx ry Q q =>
  ⟨x, y, (rx.mono s).dp _ _ h1, (ry.mono s).dp _ _ h2, s1, s2, q _ _ F H h (Step.refl s) (.bl _)⟩
theorem wne_dat (h1 : noDict x = true) (h2 : noDict y = true) (s1 : SeqAt.shaped x = true) (s2 : SeqAt.shaped y = true) (h : Φ (.bool (!PyData.eqv x y))) : WOp X (rNeA X.K) x y Φ := wop_inr fun M F H vx vy s rx ry Q q =>
  ⟨x, y, (rx.mono s).dp _ _ h1, (ry.mono s).dp _ _ h2, s1, s2, q _ _ F H h (Step.refl s) (.bl _)⟩
theorem weq_int {i j : Int} (h : Φ (.bool (decide (i = j)))) : WOp X (rEqA X.K) (.int i) (.int j) Φ := wop_inl fun M F H vx vy s rx ry Q q => by
  obtain rfl := rx.int_inv
  obtain rfl := ry.int_inv
  refine ⟨rfl, ?_⟩
  rw [dec_int, Bool.beq_eq_decide_eq]
  exact q _ _ F H h (Step.refl s) (.bl _)
theorem wne_int {i j : Int} (h : Φ (.bool (decide (i ≠ j)))) : WOp X (rNeA X.K) (.int i) (.int j) Φ := wop_inl fun M F H vx vy s rx ry Q q => by
  obtain rfl := rx.int_inv
  obtain rfl := ry.int_inv
  refine ⟨rfl, ?_⟩
  rw [dec_int, Bool.beq_eq_decide_eq, ← decide_not]
  exact q _ _ F H h (Step.refl s) (.bl _)
theorem weq_str {i j : Str} (h : Φ (.bool (decide (i = j)))) : WOp X (rEqA X.K) (.str i) (.str j) Φ := wop_inl fun M F H vx vy s rx ry Q q => by
  obtain rfl := rx.str_inv
  obtain rfl := ry.str_inv
  refine ⟨rfl, ?_⟩
  rw [dec_str, Bool.beq_eq_decide_eq]
  exact q _ _ F H h (Step.refl s) (.bl _)
theorem wne_str {i j : Str} (h : Φ (.bool (decide (i ≠ j)))) : WOp X (rNeA X.K) (.str i) (.str j) Φ := wop_inl fun M F H vx vy s rx ry Q q => by
  obtain rfl := rx.str_inv
  obtain rfl := ry.str_inv
  refine ⟨rfl, ?_⟩
  rw [dec_str, Bool.beq_eq_decide_eq, ← decide_not]
  exact q _ _ F H h (Step.refl s) (.bl _)
theorem weq_bl {i j : Bool} (h : Φ (.bool (decide (i = j)))) : WOp X (rEqA X.K) (.bool i) (.bool j) Φ := wop_inl fun M F H vx vy s rx ry Q q => by
  obtain rfl := rx.bl_inv
  obtain rfl := ry.bl_inv
  refine ⟨rfl, ?_⟩
  rw [dec_bl, Bool.beq_eq_decide_eq]
  exact q _ _ F H h (Step.refl s) (.bl _)
theorem wne_bl {i j : Bool} (h : Φ (.bool (decide (i ≠ j)))) : WOp X (rNeA X.K) (.bool i) (.bool j) Φ := wop_inl fun M F H vx vy s rx ry Q q => by
  obtain rfl := rx.bl_inv
  obtain rfl := ry.bl_inv
  refine ⟨rfl, ?_⟩
  rw [dec_bl, Bool.beq_eq_decide_eq, ← decide_not]
  exact q _ _ F H h (Step.refl s) (.bl _)

/-! in, not in: flat items in a list, a tuple -/
def flatD : PyData → Bool
  | .none => true
  | .bool _ => true
  | .int _ => true
  | .str _ => true
  | _ => false
theorem flat_of {K : PySem.W.Frag} {F : Hp} {v : V} {d : PyData} (r : Rp K F v d) (h : flatD d = true) : flatV v = true := by
  cases r <;> first | rfl | cases h
theorem flat_all {K : PySem.W.Frag} {F : Hp} : ∀ {vs : List V} {ds : List PyData}, RpAll K F vs ds → ds.all flatD = true → vs.all flatV = true
  | _, _, .nil, _ => rfl
  | _, _, .cons r t, h => by
    rw [List.all_cons, Bool.and_eq_true] at h ⊢
    exact ⟨flat_of r h.1, flat_all t h.2⟩
theorem eqV_of {K : PySem.W.Frag} {F : Hp} {v u : V} {d e : PyData} (r : Rp K F v d) (q : Rp K F u e) (h : flatD d = true) (k : flatD e = true) : eqV v u = PyData.eqv d e := by
  cases r <;> cases q <;> first | rfl | cases h | cases k | (simp [eqV, PyData.eqv]; done)
def inD (x : PyData) (ds : List PyData) : Bool := ds.any fun y => PyData.eqv y x
theorem inV_of {K : PySem.W.Frag} {F : Hp} {v : V} {d : PyData} (q : Rp K F v d) (k : flatD d = true) : ∀ {vs : List V} {ds : List PyData}, RpAll K F vs ds → ds.all flatD = true → inV v vs = inD d ds
  | _, _, .nil, _ => rfl
  | _, _, .cons r t, h => by
    rw [List.all_cons, Bool.and_eq_true] at h
    show (eqV _ v || inV v _) = (PyData.eqv _ d || inD d _)
    rw [eqV_of r q h.1 k, inV_of q k t h.2]
theorem win_lst {neg : Bool} {ds : List PyData} (h1 : flatD x = true) (h2 : ds.all flatD = true) (h : Φ (.bool (if neg then !inD x ds else inD x ds))) : WOp X (rIn X.K neg) x (.list ds) Φ := fun M F H vx vy s rx ry Q q => by
  obtain ⟨b, ys, rfl, hb, rb⟩ := ry.lst_inv
  exact ⟨b, ys, rfl, .inl (SqL.of (s _ _ hb)), flat_of rx h1, flat_all rb h2, by rw [inV_of rx h1 rb h2]; exact q _ _ F H h (Step.refl s) (.bl _)⟩
theorem win_tup {neg : Bool} {ds : List PyData} (h1 : flatD x = true) (h2 : ds.all flatD = true) (h : Φ (.bool (if neg then !inD x ds else inD x ds))) : WOp X (rIn X.K neg) x (.tuple ds) Φ := fun M F H vx vy s rx ry Q q => by
  obtain ⟨b, ys, rfl, hb, rb⟩ := ry.tup_inv
  exact ⟨b, ys, rfl, .inr (same_t s hb), flat_of rx h1, flat_all rb h2, by rw [inV_of rx h1 rb h2]; exact q _ _ F H h (Step.refl s) (.bl _)⟩
end

/-! is None, is not None -/
section
variable {X : Cx} {W : WX} {ρ : List Sl} {e a b : Expr} {es : List Expr} {Ξ : Exn → Prop} {Φ : PyData → Prop} {Θ : Bool → Prop} {pos : Pos}
def isNone : PyData → Bool
  | .none => true
  | _ => false
theorem rp_isNone {K : PySem.W.Frag} {F : Hp} {v : V} {d : PyData} (r : Rp K F v d) : decide (v = .non) = isNone d := by
  cases r <;> rfl
theorem we_isN {j p2} (h : WE X W ρ a Ξ fun d => Φ (.bool (isNone d))) : WE X W ρ (.Compare a [.Is] [.Constant .none j p2] pos) Ξ Φ := fun B F H σ env Q q qx =>
  wE_of (pe_cmp (pc_isN pe_w) rfl) (h B F H σ env _ (fun v d F1 H1 hd st r => by rw [rp_isNone r]; exact q _ _ F1 H1 hd st (.bl _)) qx)
theorem we_notN {j p2} (h : WE X W ρ a Ξ fun d => Φ (.bool (!isNone d))) : WE X W ρ (.Compare a [.IsNot] [.Constant .none j p2] pos) Ξ Φ := fun B F H σ env Q q qx =>
  wE_of (pe_cmp (pc_notN pe_w) rfl) (h B F H σ env _ (fun v d F1 H1 hd st r => by rw [rp_isNone r]; exact q _ _ F1 H1 hd st (.bl _)) qx)
theorem wt_isN {j p2} (h : WE X W ρ a Ξ fun d => Θ (isNone d)) : WT X W ρ (.Compare a [.Is] [.Constant .none j p2] pos) Ξ Θ := fun B F H σ env Q q qx =>
  wT_of (pt_cmp (pc_isN pe_w) rfl) (h B F H σ env _ (fun v d F1 H1 hd st r => by rw [rp_isNone r]; exact ⟨_, rfl, q _ F1 H1 hd st⟩) qx)
theorem wt_notN {j p2} (h : WE X W ρ a Ξ fun d => Θ (!isNone d)) : WT X W ρ (.Compare a [.IsNot] [.Constant .none j p2] pos) Ξ Θ := fun B F H σ env Q q qx =>
  wT_of (pt_cmp (pc_notN pe_w) rfl) (h B F H σ env _ (fun v d F1 H1 hd st r => by rw [rp_isNone r]; exact ⟨_, rfl, q _ F1 H1 hd st⟩) qx)

/-! subscripts -/
theorem we_ix {r : R2} (ho : IxR X r) (h : WE X W ρ a Ξ fun x => WE X W ρ b Ξ fun y => WOp X r x y Φ) (hs : PlainIx b := by exact fun _ _ => rfl) : WE X W ρ (.Subscript a b pos) Ξ Φ := fun B F H σ env Q q qx =>
  wE_of (pe_ix ho pe_w pe_w hs) (h B F H σ env _ (fun v x F1 H1 hx st1 r1 => hx B F1 H1 σ (env.step st1) _
    (fun w y F2 H2 hy st2 r2 => hy B.M F2 H2 v w st2.sub (r1.mono st2.fr) r2 Q (q.step (st1.trans st2))) (qx.step st1)) qx)
def rIx3 (K : PySem.W.Frag) : R2 := fun x y H Q => (rIxL K x y H Q) ∨ ((rIxT K x y H Q) ∨ rIxS x y H Q)
theorem ix_3 : IxR X (rIx3 X.K) := ix_list.or (ix_tup.or ix_str)
theorem rp_atI {K : PySem.W.Frag} {F : Hp} {vs : List V} {ds : List PyData} {i : Int} {d : PyData} (r : RpAll K F vs ds) (h : atI ds i = some d) : ∃ v, atI vs i = some v ∧ Rp K F v d := by
  unfold atI at h ⊢
  rw [r.len]
  cases e : ixN ds.length i with
  | none => rw [e] at h; cases h
  | some j =>
    rw [e] at h
    exact r.get h
theorem wix_lst {ds : List PyData} {i : Int} {d : PyData} (hi : atI ds i = some d) (h : Φ d) : WOp X (rIx3 X.K) (.list ds) (.int i) Φ := wop_inl fun M F H vx vy s rx ry Q q => by
  obtain ⟨a, xs, rfl, ha, ra⟩ := rx.lst_inv
  obtain ⟨v, e, rv⟩ := rp_atI ra hi
  exact ⟨a, xs, i, v, rfl, ry.int_inv, SqL.of (s _ _ ha), e, q _ _ F H h (Step.refl s) rv⟩
theorem wix_tup {ds : List PyData} {i : Int} {d : PyData} (hi : atI ds i = some d) (h : Φ d) : WOp X (rIx3 X.K) (.tuple ds) (.int i) Φ := wop_inr (wop_inl fun M F H vx vy s rx ry Q q => by
  obtain ⟨a, xs, rfl, ha, ra⟩ := rx.tup_inv
  obtain ⟨v, e, rv⟩ := rp_atI ra hi
  exact ⟨a, xs, i, v, rfl, ry.int_inv, same_t s ha, e, q _ _ F H h (Step.refl s) rv⟩)
theorem wix_str {z : Str} {i : Int} {c : Nat} (hz : z.length ≤ 8000000) (hi : atI z.cps.toList i = some c) (h : Φ (.str ⟨#[c]⟩)) : WOp X (rIx3 X.K) (.str z) (.int i) Φ := wop_inr (wop_inr fun M F H vx vy s rx ry Q q =>
  ⟨z, i, c, rx.str_inv, ry.int_inv, Nat.le_trans hz (by decide), hi, q _ _ F H h (Step.refl s) (.str _)⟩)
/-- an item of an own list -/
theorem we_ixO (i : Nat) {x : Str} {ds : List PyData} {px : Pos} (hi : ρ[i]? = some (.own ds)) (h : WE X W ρ b Ξ fun y => ∃ k d, y = .int k ∧ atI ds k = some d ∧ Φ d) (hs : PlainIx b := by exact fun _ _ => rfl)
    (hN : X.N[i]? = some x := by rfl) (hv : Vis X.env.scope x := by first | exact Or.inl rfl | exact Or.inr (Or.inl rfl) | exact Or.inr (Or.inr rfl))
    (hd : (x == ("__debug__" : Str)) = false := by decide) (hcd : (x == ("__classdict__" : Str)) = false := by decide) : WE X W ρ (.Subscript (.Name x px) b pos) Ξ Φ := fun B F H σ env Q q qx => by
  obtain ⟨p, vs, e1, hp, fp, h0, nm, r⟩ := env.sl i _ hi
  refine wE_of (pe_ix ix_list (pv i hN hv hd hcd) pe_w hs) ⟨_, e1, h B F H σ env _ (fun w y F2 H2 hy st2 r2 => ?_) qx⟩
  obtain ⟨k, d, rfl, ha, hΦ⟩ := hy
  obtain ⟨v, e, rv⟩ := rp_atI r ha
  exact ⟨p, vs, k, v, rfl, r2.int_inv, SqL.of (st2.keep _ _ nm hp), e, q _ _ F2 H2 hΦ st2 (rv.mono st2.fr)⟩

/-! slices -/
def cutD (ds : List PyData) (lo hi : Option Int) : List PyData := (ds.drop (HT.sIx ds.length 0 lo)).take (HT.sIx ds.length ds.length hi - HT.sIx ds.length 0 lo)
theorem rp_cut {K : PySem.W.Frag} {F : Hp} {vs : List V} {ds : List PyData} (r : RpAll K F vs ds) (lo hi : Option Int) : RpAll K F (cutV vs lo hi) (cutD ds lo hi) := by
  unfold cutV cutD
  rw [r.len]
  exact (r.drop _).take _
theorem cutD_whole {ds : List PyData} {lo hi : Option Int} (h : HT.sIx ds.length 0 lo = 0 ∧ HT.sIx ds.length ds.length hi = ds.length) : cutD ds lo hi = ds := by
  unfold cutD
  rw [h.1, h.2, List.drop_zero, Nat.sub_zero, List.take_length]
/-- a slice's part -/
def WO (X : Cx) (W : WX) (ρ : List Sl) (e : Option Expr) (Ξ : Exn → Prop) (Θ : Option Int → Prop) : Prop := match e with
  | none => Θ none
  | some e => WE X W ρ e Ξ fun d => ∃ i, d = .int i ∧ Θ (some i)
def rSl3 (K : PySem.W.Frag) : V → Option Int → Option Int → Hp → VK → Prop := fun x lo hi H Q => rSlL K x lo hi H Q ∨ (rSlA K x lo hi H Q ∨ rSlS x lo hi H Q)
theorem sl_3 : SlR X (rSl3 X.K) := sl_list.or (sl_tupA.or sl_str)
/-- what a slice of x gives -/
def sliceD (x : PyData) (lo hi : Option Int) (Φ : PyData → Prop) : Prop := match x with
  | .list ds => Φ (.list (cutD ds lo hi))
  | .tuple ds => Φ (.tuple (cutD ds lo hi))
  | .str z => z.length ≤ 8000000 ∧ Φ (.str (cutS z lo hi))
  | _ => False
theorem slice_dat {M : Addr → Prop} {F H : Hp} {v : V} {x : PyData} {lo hi : Option Int} {Q : VK} (s : Same F H) (r : Rp X.K F v x) (h : sliceD x lo hi Φ) (q : OkE X.K M F H Φ Q) : rSl3 X.K v lo hi H Q := by
  cases x with
  | list ds =>
    obtain ⟨a, xs, rfl, ha, ra⟩ := r.lst_inv
    refine .inl ⟨a, xs, rfl, SqL.of (s _ _ ha), fun p hp => ?_⟩
    have st : Step M F H (upd F p (.lst (cutV xs lo hi))) (upd H p (.lst (cutV xs lo hi))) := Step.frz s hp
    exact q _ _ _ _ h st (.lst upd_same (RpAll.mono st.fr _ _ (rp_cut ra _ _)))
  | tuple ds =>
    obtain ⟨a, xs, rfl, ha, ra⟩ := r.tup_inv
    refine .inr (.inl ⟨a, xs, rfl, same_t s ha, fun hw => ?_, fun _ p hp => ?_⟩)
    · rw [ra.len] at hw
      have h' : Φ (.tuple (cutD ds lo hi)) := h
      rw [cutD_whole hw] at h'
      exact q _ _ F H h' (Step.refl s) (.tup ha ra)
    · have st : Step M F H (upd F p (.tup (cutV xs lo hi))) (upd H p (.tup (cutV xs lo hi))) := Step.frz s hp
      exact q _ _ _ _ h st (.tup (SqT.of upd_same) (RpAll.mono st.fr _ _ (rp_cut ra _ _)))
  | str z => exact .inr (.inr ⟨z, r.str_inv, Nat.le_trans h.1 (by decide), q _ _ F H h.2 (Step.refl s) (.str _)⟩)
  | _ => exact h.elim
def wO (X : Cx) (e : Option Expr) : TO := match e with
  | none => tNoPart
  | some e => tPart (wE X e)
theorem po_w {o : Option Expr} : PO X o (wO X o) := match o with
  | none => po_none
  | some _ => po_some pe_w
theorem wo_run {o : Option Expr} {Θ : Option Int → Prop} {B : Base} {F H : Hp} {σ : L2.St} {Q : Option Int → Hp → Prop} (h : WO X W ρ o Ξ Θ) (env : EnvOk X.K B F H σ ρ) (q : ∀ k F1 H1, Θ k → Step B.M F H F1 H1 → Q k H1) (qx : ExE X.K B.M F H W σ Ξ) : wO X o σ H Q := by
  cases o with
  | none => exact q none F H h (Step.refl env.sub)
  | some e => exact (show WE X W ρ e Ξ _ from h) B F H σ env _ (fun v d F1 H1 hd st r => by
      obtain ⟨i, rfl, hi⟩ := hd
      exact ⟨i, r.int_inv, q _ F1 H1 hi st⟩) qx
theorem we_slice {lo hi : Option Expr} {p2 : Pos} (h : WE X W ρ a Ξ fun x => WO X W ρ lo Ξ fun l => WO X W ρ hi Ξ fun u => sliceD x l u Φ) : WE X W ρ (.Subscript a (.Slice lo hi none p2) pos) Ξ Φ := fun B F H σ env Q q qx =>
  wE_of (pe_slice sl_3 pe_w po_w po_w) (h B F H σ env _ (fun v x F1 H1 hx st1 r1 => wo_run hx (env.step st1) (fun l F2 H2 hl st2 =>
    wo_run hl ((env.step st1).step st2) (fun u F3 H3 hu st3 => slice_dat st3.sub (r1.mono (st2.fr.trans st3.fr)) hu (q.step ((st1.trans st2).trans st3))) ((qx.step st1).step st2)) (qx.step st1)) qx)

/-! built-in calls -/
theorem callR_or {f : Value} {r r' : List V → Hp → VK → Prop} (h : CallR X f r) (h' : CallR X f r') : CallR X f (fun xs H Q => r xs H Q ∨ r' xs H Q) := by
  intro pins s σ H xs us Q I rx q
  rcases q with q | q
  · exact h pins s σ H xs us Q I rx q
  · exact h' pins s σ H xs us Q I rx q
def WCall (X : Cx) (r : List V → Hp → VK → Prop) (ds : List PyData) (Φ : PyData → Prop) : Prop :=
  ∀ M F H vs, Same F H → RpAll X.K F vs ds → ∀ Q, OkE X.K M F H Φ Q → r vs H Q
theorem we_callB {x : Str} {id : String} {r : List V → Hp → VK → Prop} {p : Pos} (hc : CallR X (.builtin id) r) (hm : X.mg x = none) (hv : bootBuiltins x = some (.builtin id)) (h : WA X W ρ (e :: es) Ξ fun as => dats as fun ds => WCall X r ds Φ) (hg : Gl X x := by rfl) (hn : x ≠ "__name__" := by decide) (hdb : (x == ("__debug__" : Str)) = false := by decide)
    (he : starEach (e :: es) X.env = (false, eval e X.env) :: starEach es X.env := by rfl) (hpl : (backTo pos (starEach es X.env)).any (·.1) = false := by rfl) : WE X W ρ (.Call (.Name x p) (e :: es) [] pos) Ξ Φ := fun B F H σ env Q q qx =>
  wE_of (pe_callB hc hg hm hv pa_w hn hdb he hpl) (h B F H σ env _ (fun vs as F1 H1 ha st rs => by
    obtain ⟨ds, rfl, hr⟩ := ha
    exact hr B.M F1 H1 vs st.sub rs.dats Q (q.step st)) qx)
theorem we_callTy {x : Str} {T : String} {r : List V → Hp → VK → Prop} {p : Pos} (hc : CallR X (.type T) r) (hm : X.mg x = none) (hv : bootBuiltins x = some (.type T)) (h : WA X W ρ (e :: es) Ξ fun as => dats as fun ds => WCall X r ds Φ) (hg : Gl X x := by rfl) (hn : x ≠ "__name__" := by decide) (hdb : (x == ("__debug__" : Str)) = false := by decide)
    (he : starEach (e :: es) X.env = (false, eval e X.env) :: starEach es X.env := by rfl) (hpl : (backTo pos (starEach es X.env)).any (·.1) = false := by rfl) : WE X W ρ (.Call (.Name x p) (e :: es) [] pos) Ξ Φ := fun B F H σ env Q q qx =>
  wE_of (pe_callTy hc hg hm hv pa_w hn hdb he hpl) (h B F H σ env _ (fun vs as F1 H1 ha st rs => by
    obtain ⟨ds, rfl, hr⟩ := ha
    exact hr B.M F1 H1 vs st.sub rs.dats Q (q.step st)) qx)
theorem rp1 {K : PySem.W.Frag} {F : Hp} {vs : List V} {d : PyData} (h : RpAll K F vs [d]) : ∃ v, vs = [v] ∧ Rp K F v d := by
  cases h with
  | cons r t => cases t; exact ⟨_, rfl, r⟩
theorem rp2 {K : PySem.W.Frag} {F : Hp} {vs : List V} {d e : PyData} (h : RpAll K F vs [d, e]) : ∃ v w, vs = [v, w] ∧ Rp K F v d ∧ Rp K F w e := by
  cases h with
  | cons r t => cases t with
    | cons r2 t => cases t; exact ⟨_, _, rfl, r, r2⟩
def rLen (K : PySem.W.Frag) : List V → Hp → VK → Prop := fun xs H Q => ∃ x n, xs = [x] ∧ LenV K x H n ∧ Q (.int n) H
theorem call_lenA : CallR X (.builtin "len") (rLen X.K) := call_len
def lenD : PyData → Option Nat
  | .list ds => some ds.length
  | .tuple ds => some ds.length
  | .str z => if z.length ≤ 8000000 then some z.length else none
  | _ => none
theorem wlen {d : PyData} {n : Nat} (hd : lenD d = some n) (h : Φ (.int n)) : WCall X (rLen X.K) [d] Φ := fun M F H vs s rs Q q => by
  obtain ⟨v, rfl, r⟩ := rp1 rs
  have fin : Q (.int n) H := q _ _ F H h (Step.refl s) (.int _)
  cases d with
  | list ds =>
    obtain ⟨a, xs, rfl, ha, ra⟩ := r.lst_inv
    cases hd
    exact ⟨_, _, rfl, .inl ⟨xs, SqL.of (s _ _ ha), ra.len.symm⟩, fin⟩
  | tuple ds =>
    obtain ⟨a, xs, rfl, ha, ra⟩ := r.tup_inv
    cases hd
    exact ⟨_, _, rfl, .inr ⟨xs, same_t s ha, ra.len.symm⟩, fin⟩
  | str z =>
    have e : (if z.length ≤ 8000000 then some z.length else none) = some n := hd
    by_cases hz : z.length ≤ 8000000
    · rw [if_pos hz] at e
      cases e
      obtain rfl := r.str_inv
      exact ⟨_, _, rfl, ⟨Nat.le_trans hz (by decide), rfl⟩, fin⟩
    · rw [if_neg hz] at e
      cases e
  | _ => cases hd
def rAbs : List V → Hp → VK → Prop := fun xs H Q => ∃ i, xs = [.int i] ∧ Q (.int (if i < 0 then -i else i)) H
theorem call_absA : CallR X (.builtin "abs") rAbs := call_abs
theorem wabs {i : Int} (h : Φ (.int (if i < 0 then -i else i))) : WCall X rAbs [.int i] Φ := fun M F H vs s rs Q q => by
  obtain ⟨v, rfl, r⟩ := rp1 rs
  exact ⟨i, by rw [r.int_inv], q _ _ F H h (Step.refl s) (.int _)⟩
/-- max, min of two ints, of a list of ints -/
def rMax3 (K : PySem.W.Frag) : List V → Hp → VK → Prop := fun xs H Q => (∃ i j, xs = [.int i, .int j] ∧ Q (.int (if j > i then j else i)) H) ∨ rMax K xs H Q
def rMin3 (K : PySem.W.Frag) : List V → Hp → VK → Prop := fun xs H Q => (∃ i j, xs = [.int i, .int j] ∧ Q (.int (if j < i then j else i)) H) ∨ rMin K xs H Q
theorem call_max3 (hc : X.calm = true) : CallR X (.builtin "max") (rMax3 X.K) := callR_or (call_max2 hc) (cr_max hc)
theorem call_min3 (hc : X.calm = true) : CallR X (.builtin "min") (rMin3 X.K) := callR_or (call_min2 hc) (cr_min hc)
theorem wmax2 {i j : Int} (h : Φ (.int (if j > i then j else i))) : WCall X (rMax3 X.K) [.int i, .int j] Φ := fun M F H vs s rs Q q => by
  obtain ⟨v, w, rfl, r, r2⟩ := rp2 rs
  exact .inl ⟨i, j, by rw [r.int_inv, r2.int_inv], q _ _ F H h (Step.refl s) (.int _)⟩
theorem wmin2 {i j : Int} (h : Φ (.int (if j < i then j else i))) : WCall X (rMin3 X.K) [.int i, .int j] Φ := fun M F H vs s rs Q q => by
  obtain ⟨v, w, rfl, r, r2⟩ := rp2 rs
  exact .inl ⟨i, j, by rw [r.int_inv, r2.int_inv], q _ _ F H h (Step.refl s) (.int _)⟩
theorem wmax {ns : List Int} (hn : ns ≠ []) (h : ∀ m, m ∈ ns → (∀ y, y ∈ ns → y ≤ m) → Φ (.int m)) : WCall X (rMax3 X.K) [.list (ns.map .int)] Φ := fun M F H vs s rs Q q => by
  obtain ⟨v, rfl, r⟩ := rp1 rs
  obtain ⟨a, xs, rfl, ha, ra⟩ := r.lst_inv
  obtain rfl := ra.ints_inv
  exact .inr ⟨a, ns, rfl, SqL.of (s _ _ ha), List.length_pos_iff.mpr hn, fun m h1 h2 => q _ _ F H (h m h1 h2) (Step.refl s) (.int _)⟩
theorem wmin {ns : List Int} (hn : ns ≠ []) (h : ∀ m, m ∈ ns → (∀ y, y ∈ ns → m ≤ y) → Φ (.int m)) : WCall X (rMin3 X.K) [.list (ns.map .int)] Φ := fun M F H vs s rs Q q => by
  obtain ⟨v, rfl, r⟩ := rp1 rs
  obtain ⟨a, xs, rfl, ha, ra⟩ := r.lst_inv
  obtain rfl := ra.ints_inv
  exact .inr ⟨a, ns, rfl, SqL.of (s _ _ ha), List.length_pos_iff.mpr hn, fun m h1 h2 => q _ _ F H (h m h1 h2) (Step.refl s) (.int _)⟩
theorem wsum {ns : List Int} (h : Φ (.int ns.sum)) : WCall X (rSum X.K) [.list (ns.map .int)] Φ := fun M F H vs s rs Q q => by
  obtain ⟨v, rfl, r⟩ := rp1 rs
  obtain ⟨a, xs, rfl, ha, ra⟩ := r.lst_inv
  obtain rfl := ra.ints_inv
  exact ⟨a, ns, rfl, SqL.of (s _ _ ha), q _ _ F H h (Step.refl s) (.int _)⟩
theorem wall {bs : List Bool} (h : Φ (.bool (bs.all id))) : WCall X (rAll X.K) [.list (bs.map .bool)] Φ := fun M F H vs s rs Q q => by
  obtain ⟨v, rfl, r⟩ := rp1 rs
  obtain ⟨a, xs, rfl, ha, ra⟩ := r.lst_inv
  obtain rfl := ra.bls_inv
  exact ⟨a, bs, rfl, SqL.of (s _ _ ha), q _ _ F H h (Step.refl s) (.bl _)⟩
theorem wany {bs : List Bool} (h : Φ (.bool (bs.any id))) : WCall X (rAny X.K) [.list (bs.map .bool)] Φ := fun M F H vs s rs Q q => by
  obtain ⟨v, rfl, r⟩ := rp1 rs
  obtain ⟨a, xs, rfl, ha, ra⟩ := r.lst_inv
  obtain rfl := ra.bls_inv
  exact ⟨a, bs, rfl, SqL.of (s _ _ ha), q _ _ F H h (Step.refl s) (.bl _)⟩
/-- list(..), tuple(..) of a list, a tuple -/
def rListOf (K : PySem.W.Frag) : List V → Hp → VK → Prop := fun xs H Q => ∃ p ys, xs = [.ref p] ∧ (SqL K H p ys ∨ SqT K H p ys) ∧ ∀ l, H l = none → Q (.ref l) (upd H l (.lst ys))
def rTupleOf (K : PySem.W.Frag) : List V → Hp → VK → Prop := fun xs H Q => ∃ p ys, xs = [.ref p] ∧ ((SqL K H p ys ∧ ∀ l, H l = none → Q (.ref l) (upd H l (.tup ys))) ∨ (SqT K H p ys ∧ Q (.ref p) H))
theorem call_listA : CallR X (.type "list") (rListOf X.K) := call_list_of
theorem call_tupleA : CallR X (.type "tuple") (rTupleOf X.K) := call_tuple_of
def itemsD : PyData → Option (List PyData)
  | .list ds => some ds
  | .tuple ds => some ds
  | _ => none
theorem rp_items {K : PySem.W.Frag} {F H : Hp} {v : V} {d : PyData} {ds : List PyData} (s : Same F H) (r : Rp K F v d) (h : itemsD d = some ds) : ∃ p ys, v = .ref p ∧ (SqL K H p ys ∨ SqT K H p ys) ∧ RpAll K F ys ds := by
  cases d with
  | list es =>
    obtain ⟨a, xs, rfl, ha, ra⟩ := r.lst_inv
    cases h
    exact ⟨a, xs, rfl, .inl (SqL.of (s _ _ ha)), ra⟩
  | tuple es =>
    obtain ⟨a, xs, rfl, ha, ra⟩ := r.tup_inv
    cases h
    exact ⟨a, xs, rfl, .inr (same_t s ha), ra⟩
  | _ => cases h
theorem wlist {d : PyData} {ds : List PyData} (hd : itemsD d = some ds) (h : Φ (.list ds)) : WCall X (rListOf X.K) [d] Φ := fun M F H vs s rs Q q => by
  obtain ⟨v, rfl, r⟩ := rp1 rs
  obtain ⟨p, ys, rfl, hs, ra⟩ := rp_items s r hd
  refine ⟨p, ys, rfl, hs, fun l hl => ?_⟩
  have st : Step M F H (upd F l (.lst ys)) (upd H l (.lst ys)) := Step.frz s hl
  exact q _ _ _ _ h st (.lst upd_same (RpAll.mono st.fr _ _ ra))
theorem wtuple {d : PyData} {ds : List PyData} (hd : itemsD d = some ds) (h : Φ (.tuple ds)) : WCall X (rTupleOf X.K) [d] Φ := fun M F H vs s rs Q q => by
  obtain ⟨v, rfl, r⟩ := rp1 rs
  cases d with
  | list es =>
    obtain ⟨a, xs, rfl, ha, ra⟩ := r.lst_inv
    cases hd
    refine ⟨a, xs, rfl, .inl ⟨SqL.of (s _ _ ha), fun l hl => ?_⟩⟩
    have st : Step M F H (upd F l (.tup xs)) (upd H l (.tup xs)) := Step.frz s hl
    exact q _ _ _ _ h st (.tup (SqT.of upd_same) (RpAll.mono st.fr _ _ ra))
  | tuple es =>
    obtain ⟨a, xs, rfl, ha, ra⟩ := r.tup_inv
    cases hd
    exact ⟨a, xs, rfl, .inr ⟨same_t s ha, q _ _ F H h (Step.refl s) (.tup ha ra)⟩⟩
  | _ => cases hd
/-- int(..) of an int -/
def rInt1 : List V → Hp → VK → Prop := fun xs H Q => (∃ i, xs = [.int i] ∧ Q (.int i) H) ∨ ∃ k, xs = [.bl k] ∧ Q (.int (if k then 1 else 0)) H
def rIntS : List V → Hp → VK → Prop := fun xs H Q => ∃ a n, xs = [.str a] ∧ PySem.intText? a = some n ∧ a.length ≤ 640 ∧ Q (.int n) H
def rInt (xs : List V) (H : Hp) (Q : VK) : Prop := rInt1 xs H Q ∨ rIntS xs H Q
theorem call_intA : CallR X (.type "int") rInt := callR_or (r := rInt1) (r' := rIntS) call_int1 call_int_str
theorem wint_int {i : Int} (h : Φ (.int i)) : WCall X rInt [.int i] Φ := fun M F H vs s rs Q q => by
  obtain ⟨v, rfl, r⟩ := rp1 rs
  exact .inl (.inl ⟨i, by rw [r.int_inv], q _ _ F H h (Step.refl s) (.int _)⟩)
theorem wint_str {a : Str} {n : Int} (hn : PySem.intText? a = some n) (hl : a.length ≤ 640) (h : Φ (.int n)) : WCall X rInt [.str a] Φ := fun M F H vs s rs Q q => by
  obtain ⟨v, rfl, r⟩ := rp1 rs
  exact .inr ⟨a, n, by rw [r.str_inv], hn, hl, q _ _ F H h (Step.refl s) (.int _)⟩
def rStrI : List V → Hp → VK → Prop := fun xs H Q => ∃ i, xs = [.int i] ∧ i.natAbs.log2 < 1920 ∧ Q (.str (toString i)) H
theorem call_strA : CallR X (.type "str") rStrI := call_str_int
theorem wstr_int {i : Int} (hi : i.natAbs.log2 < 1920) (h : Φ (.str (toString i))) : WCall X rStrI [.int i] Φ := fun M F H vs s rs Q q => by
  obtain ⟨v, rfl, r⟩ := rp1 rs
  exact ⟨i, by rw [r.int_inv], hi, q _ _ F H h (Step.refl s) (.str _)⟩
end
end Mv

set_option maxRecDepth 100000
set_option maxHeartbeats 4000000
/-! values with their kind (WK), statements (W1, WS), loops, comprehensions, promises -/
namespace Mv
open PySem L2

/-! ### values with their kind -/
/-- lists of one's own, made since the heap H -/
inductive Own2 (K : PySem.W.Frag) (H F2 H2 : Hp) : List Addr → List (List PyData) → Prop
  | nil : Own2 K H F2 H2 [] []
  | cons {q : Addr} {qs : List Addr} {vs : List V} {ds : List PyData} {dss : List (List PyData)} : H q = none → H2 q = some (.lst vs) → F2 q = none → RpAll K F2 vs ds → Own2 K H F2 H2 qs dss → Own2 K H F2 H2 (q :: qs) (ds :: dss)
theorem Own2.older {K : PySem.W.Frag} {H0 H F2 H2 : Hp} (h : ∀ p, H p = none → H0 p = none) : ∀ {qs : List Addr} {dss : List (List PyData)}, Own2 K H F2 H2 qs dss → Own2 K H0 F2 H2 qs dss
  | _, _, .nil => .nil
  | _, _, .cons a b c d t => .cons (h _ a) b c d (t.older h)
theorem Own2.step {K : PySem.W.Frag} {M : Addr → Prop} {H F1 H1 F2 H2 : Hp} (hM : ∀ p, H p = none → ¬ M p) (st : Step M F1 H1 F2 H2) : ∀ {qs : List Addr} {dss : List (List PyData)}, Own2 K H F1 H1 qs dss → Own2 K H F2 H2 qs dss
  | _, _, .nil => .nil
  | _, _, .cons a b c d t => .cons a (st.keep _ _ (hM _ a) b) (by rw [st.new _ (by rw [b]; exact fun z => nomatch z)]; exact c) (RpAll.mono st.fr _ _ d) (t.step hM st)
/-- a value v of the kind s, made since the heap H: data, or a new list, a new dict of one's own -/
def SlV (K : PySem.W.Frag) (H F2 H2 : Hp) (v : V) : Sl → Prop
  | .dat d => Rp K F2 v d
  | .own ds => ∃ p vs, v = .ref p ∧ H p = none ∧ H2 p = some (.lst vs) ∧ F2 p = none ∧ RpAll K F2 vs ds
  | .odk ds => ∃ p vs, v = .ref p ∧ H p = none ∧ H2 p = some (.dK vs) ∧ F2 p = none ∧ KvRp K F2 vs ds
  | .odn ds => ∃ p, v = .ref p ∧ H p = none ∧ H2 p = some (NdO p ds) ∧ F2 p = none
  | .rwd p st (.dat d) => RowAt K F2 H2 p st ∧ F2 p = none ∧ Rp K F2 v d
  | .own2 dss => ∃ p qs, v = .ref p ∧ H p = none ∧ (p :: qs).Nodup ∧ H2 p = some (.lst (qs.map V.ref)) ∧ F2 p = none ∧ Own2 K H F2 H2 qs dss
  | .row p st => v = .ref p ∧ H p = none ∧ RowAt K F2 H2 p st ∧ F2 p = none
  | _ => False
def OkK (K : PySem.W.Frag) (M : Addr → Prop) (F H : Hp) (Φ : Sl → Prop) (Q : VK) : Prop := ∀ v s F2 H2, Φ s → Step M F H F2 H2 → SlV K H F2 H2 v s → Q v H2
def WK (X : Cx) (W : WX) (ρ : List Sl) (e : Expr) (Ξ : Exn → Prop) (Φ : Sl → Prop) : Prop :=
  ∀ B F H σ, EnvOk X.K B F H σ ρ → ∀ Q, OkK X.K B.M F H Φ Q → ExE X.K B.M F H W σ Ξ → wE X e σ H Q
/-- seen as data: an own list is frozen -/
def asDat (Φ : PyData → Prop) : Sl → Prop
  | .dat d => Φ d
  | .own ds => Φ (.list ds)
  | .odk [] => Φ (.dict [])
  | .own2 dss => Φ (.list (dss.map .list))
  | _ => False
def asSl (Φ : Sl → Prop) : PyData → Prop := fun d => Φ (.dat d)
section
variable {X : Cx} {W : WX} {ρ : List Sl} {e a b c : Expr} {es : List Expr} {Ξ : Exn → Prop} {Φ : PyData → Prop} {Ψ : Sl → Prop} {pos : Pos}
theorem SlV.older {K : PySem.W.Frag} {H0 H F2 H2 : Hp} {v : V} {s : Sl} (h : ∀ p, H p = none → H0 p = none) (r : SlV K H F2 H2 v s) : SlV K H0 F2 H2 v s := by
  cases s with
  | dat d => exact r
  | own ds => obtain ⟨p, vs, e, hp, q⟩ := r; exact ⟨p, vs, e, h p hp, q⟩
  | odk ds => obtain ⟨p, vs, e, hp, q⟩ := r; exact ⟨p, vs, e, h p hp, q⟩
  | odn ds => obtain ⟨p, e, hp, q⟩ := r; exact ⟨p, e, h p hp, q⟩
  | rwd p st s => cases s <;> exact r
  | own2 dss => obtain ⟨p, qs, e, hp, n, h2, f2, q⟩ := r; exact ⟨p, qs, e, h p hp, n, h2, f2, q.older h⟩
  | row p st => obtain ⟨e, hp, q⟩ := r; exact ⟨e, h p hp, q⟩
  | _ => exact r
theorem StepE.back {M : Addr → Prop} {F H F2 H2 : Hp} (st : StepE M F H F2 H2) : ∀ p, H2 p = none → H p = none := fun p hp => by
  cases e : H p with
  | none => rfl
  | some x => exact absurd hp (st.alive p (by rw [e]; exact fun z => nomatch z))
theorem Step.back {M : Addr → Prop} {F H F2 H2 : Hp} (st : Step M F H F2 H2) : ∀ p, H2 p = none → H p = none := fun p hp => by
  cases e : H p with
  | none => rfl
  | some x => exact absurd hp (st.alive p (by rw [e]; exact fun z => nomatch z))
/-- what is made now stays through a step -/
theorem SlV.step {K : PySem.W.Frag} {M : Addr → Prop} {H F1 H1 F2 H2 : Hp} {v : V} {s : Sl} (hM : ∀ p, H p = none → ¬ M p) (r : SlV K H F1 H1 v s) (st : Step M F1 H1 F2 H2) : SlV K H F2 H2 v s := by
  cases s with
  | dat d => exact Rp.mono st.fr _ _ r
  | own ds =>
    obtain ⟨p, vs, e, hp, h1, f1, q⟩ := r
    exact ⟨p, vs, e, hp, st.keep p _ (hM p hp) h1, by rw [st.new p (by rw [h1]; exact fun z => nomatch z)]; exact f1, RpAll.mono st.fr _ _ q⟩
  | odk ds =>
    obtain ⟨p, vs, e, hp, h1, f1, q⟩ := r
    exact ⟨p, vs, e, hp, st.keep p _ (hM p hp) h1, by rw [st.new p (by rw [h1]; exact fun z => nomatch z)]; exact f1, q.mono st.fr⟩
  | odn ds =>
    obtain ⟨p, e, hp, h1, f1⟩ := r
    exact ⟨p, e, hp, st.keep p _ (hM p hp) h1, by rw [st.new p (by rw [h1]; exact fun z => nomatch z)]; exact f1⟩
  | rwd p fs s =>
    cases s with
    | dat d =>
      obtain ⟨⟨dx, vs, hp, rr⟩, fp, rd⟩ := r
      exact ⟨⟨dx, vs, st.keepD p _ (fun z => by obtain ⟨xs, q⟩ := z.2.lst hp; cases q) hp, rr.mono st.fr⟩, by rw [st.new p (by rw [hp]; exact fun z => nomatch z)]; exact fp, Rp.mono st.fr _ _ rd⟩
    | _ => exact r.elim
  | own2 dss =>
    obtain ⟨p, qs, e, hp, n, h2, f2, q⟩ := r
    exact ⟨p, qs, e, hp, n, st.keep p _ (hM p hp) h2, by rw [st.new p (by rw [h2]; exact fun z => nomatch z)]; exact f2, q.step hM st⟩
  | row p fs =>
    obtain ⟨e, hn, ⟨dx, vs, hp, rr⟩, fp⟩ := r
    exact ⟨e, hn, ⟨dx, vs, st.keep p _ (hM p hn) hp, rr.mono st.fr⟩, by rw [st.new p (by rw [hp]; exact fun z => nomatch z)]; exact fp⟩
  | _ => exact r
/-- an own thing of the end is frozen -/
theorem Step.freeze {M : Addr → Prop} {F H F2 H2 : Hp} (st : Step M F H F2 H2) {p : Addr} {o : HO} (hp : H p = none) (h2 : H2 p = some o) (f2 : F2 p = none) : Step M F H (upd F2 p o) H2 where
  fr := fun a x e => by
    by_cases z : a = p
    · subst z
      rw [st.fr _ _ e] at f2
      cases f2
    · rw [upd_ne z]
      exact st.fr a x e
  sub := fun a x e => by
    by_cases z : a = p
    · subst z
      rw [upd_same] at e
      rw [h2]
      exact e
    · rw [upd_ne z] at e
      exact st.sub a x e
  keepD := st.keepD
  new := fun a n => by
    have z : a ≠ p := fun z => n (by rw [z]; exact hp)
    rw [upd_ne z]
    exact st.new a n
  alive := st.alive
  dr := st.dr
theorem StepE.freeze {M : Addr → Prop} {F H F2 H2 : Hp} (st : StepE M F H F2 H2) {p : Addr} {o : HO} (hp : H p = none) (h2 : H2 p = some o) (f2 : F2 p = none) : StepE M F H (upd F2 p o) H2 where
  fr := fun a x e => by
    by_cases z : a = p
    · subst z
      rw [st.fr _ _ e] at f2
      cases f2
    · rw [upd_ne z]
      exact st.fr a x e
  sub := fun a x e => by
    by_cases z : a = p
    · subst z
      rw [upd_same] at e
      rw [h2]
      exact e
    · rw [upd_ne z] at e
      exact st.sub a x e
  keep := st.keep
  new := fun a n => by
    have z : a ≠ p := fun z => n (by rw [z]; exact hp)
    rw [upd_ne z]
    exact st.new a n
  alive := st.alive
  dr := st.dr
theorem Own2.fz {K : PySem.W.Frag} {H F2 H2 : Hp} {q : Addr} {o : HO} (fq : F2 q = none) : ∀ {qs : List Addr} {dss : List (List PyData)}, q ∉ qs → Own2 K H F2 H2 qs dss → Own2 K H (upd F2 q o) H2 qs dss
  | _, _, _, .nil => .nil
  | _, _, n, .cons a b c d t => .cons a b (by rw [upd_ne (fun z => n (by rw [z]; exact List.mem_cons_self))]; exact c) (RpAll.mono (same_new fq) _ _ d) (t.fz fq fun z => n (List.mem_cons_of_mem _ z))
/-- all are frozen -/
theorem Own2.frozen {K : PySem.W.Frag} {M : Addr → Prop} {H F H2 : Hp} : ∀ {qs : List Addr} {dss : List (List PyData)} {F2 : Hp}, Own2 K H F2 H2 qs dss → qs.Nodup → Step M F H F2 H2 → ∃ F3, Step M F H F3 H2 ∧ Same F2 F3 ∧ RpAll K F3 (qs.map V.ref) (dss.map .list) ∧ ∀ a, a ∉ qs → F3 a = F2 a
  | _, _, F2, .nil, _, st => ⟨F2, st, Same.refl _, .nil, fun _ _ => rfl⟩
  | q :: qs, ds :: dss, F2, .cons (vs := vs) a b c d t, nd, st => by
    have nd := List.nodup_cons.mp nd
    obtain ⟨F3, st3, s3, r3, n3⟩ := (t.fz (o := .lst vs) c nd.1).frozen nd.2 (st.freeze a b c)
    have s2 : Same F2 (upd F2 q (.lst vs)) := same_new c
    refine ⟨F3, st3, s2.trans s3, .cons (.lst (s3 _ _ upd_same) (RpAll.mono (s2.trans s3) _ _ d)) r3, fun x hx => ?_⟩
    rw [n3 x fun z => hx (List.mem_cons_of_mem _ z), upd_ne (fun z => hx (by rw [z]; exact List.mem_cons_self))]
theorem we_of_wk (h : WK X W ρ e Ξ (asDat Φ)) : WE X W ρ e Ξ Φ := fun B F H σ env Q q qx => h B F H σ env Q (fun v s F2 H2 hs st r => by
  cases s with
  | dat d => exact q v d F2 H2 hs st r
  | own ds =>
    obtain ⟨p, vs, rfl, hp, h2, f2, ra⟩ := r
    have s2 : Same F2 (upd F2 p (.lst vs)) := same_new f2
    exact q _ _ _ H2 hs (st.freeze hp h2 f2) (.lst upd_same (RpAll.mono s2 _ _ ra))
  | odk ds =>
    cases ds with
    | nil =>
      obtain ⟨p, vs, rfl, hp, h2, f2, ra⟩ := r
      cases ra
      exact q _ _ _ H2 hs (st.freeze hp h2 f2) (.dct upd_same)
    | cons _ _ => exact hs.elim
  | own2 dss =>
    obtain ⟨p, qs, rfl, hp, nd, h2, f2, o2⟩ := r
    have nd := List.nodup_cons.mp nd
    obtain ⟨F3, st3, s3, r3, n3⟩ := o2.frozen nd.2 st
    have f3 : F3 p = none := by rw [n3 p nd.1]; exact f2
    exact q _ _ _ H2 hs (st3.freeze hp h2 f3) (.lst upd_same (RpAll.mono (same_new f3) _ _ r3))
  | _ => exact hs.elim) qx
theorem wk_of_we (h : WE X W ρ e Ξ (asSl Ψ)) : WK X W ρ e Ξ Ψ := fun B F H σ env Q q qx => h B F H σ env Q (fun v d F2 H2 hs st r => q v (.dat d) F2 H2 hs st r) qx
theorem WK.mono {Ψ' : Sl → Prop} (h : WK X W ρ e Ξ Ψ) (k : ∀ s, Ψ s → Ψ' s) : WK X W ρ e Ξ Ψ' := fun B F H σ env Q q qx => h B F H σ env Q (fun v s F2 H2 hs st r => q v s F2 H2 (k s hs) st r) qx
/-- a display -/
theorem wk_lst (h : WA X W ρ es Ξ fun as => dats as fun ds => ds.length ≤ 8000000 ∧ Ψ (.own ds)) : WK X W ρ (.List es pos) Ξ Ψ := fun B F H σ env Q q qx =>
  wE_of (pe_lst pa_w) (h B F H σ env _ (fun vs as F1 H1 ha st rs => by
    obtain ⟨ds, rfl, hl, hΦ⟩ := ha
    have r := rs.dats
    refine ⟨Nat.le_trans (by rw [r.len]; exact hl) (by decide), fun p hp => ?_⟩
    exact q _ (.own ds) _ _ hΦ (st.trans (Step.own st.sub hp)) ⟨p, vs, rfl, st.back p hp, upd_same, none_sub st.sub hp, r⟩) qx)
/-- list(..) -/
theorem wk_listOf {p : Pos} (hm : X.mg "list" = none) (h : WE X W ρ e Ξ fun d => ∃ ds, itemsD d = some ds ∧ Ψ (.own ds)) (hg : Gl X "list" := by rfl)
    (he : starEach (e :: []) X.env = (false, eval e X.env) :: starEach [] X.env := by rfl) (hpl : (backTo pos (starEach [] X.env)).any (·.1) = false := by rfl) : WK X W ρ (.Call (.Name "list" p) [e] [] pos) Ξ Ψ := fun B F H σ env Q q qx =>
  wE_of (pe_callTy call_listA hg hm (by decide +kernel) (pa_cons pe_w pa_nil he) (by decide) (by decide) he hpl) (h B F H σ env _ (fun v d F1 H1 hd st r => by
    obtain ⟨ds, hi, hΦ⟩ := hd
    obtain ⟨p, ys, rfl, hs, ra⟩ := rp_items st.sub r hi
    exact ⟨p, ys, rfl, hs, fun l hl => q _ (.own ds) _ _ hΦ (st.trans (Step.own st.sub hl)) ⟨l, ys, rfl, st.back l hl, upd_same, none_sub st.sub hl, ra⟩⟩) qx)
/-- [] of lists put together -/
theorem wk_cat (h : WE X W ρ a Ξ fun x => WE X W ρ b Ξ fun y => ∃ ds es, x = .list ds ∧ y = .list es ∧ ds.length + es.length ≤ 8000000 ∧ Ψ (.own (ds ++ es))) : WK X W ρ (.BinOp a .Add b pos) Ξ Ψ := fun B F H σ env Q q qx =>
  wE_of (pe_op op_cat pe_w pe_w) (h B F H σ env _ (fun v x F1 H1 hx st1 r1 => hx B F1 H1 σ (env.step st1) _ (fun w y F2 H2 hy st2 r2 => by
    obtain ⟨ds, es, rfl, rfl, hz, hΦ⟩ := hy
    obtain ⟨a, xs, rfl, ha, ra⟩ := (Rp.mono st2.fr _ _ r1).lst_inv
    obtain ⟨b, ys, rfl, hb, rb⟩ := r2.lst_inv
    exact ⟨a, b, xs, ys, rfl, rfl, st2.sub _ _ ha, st2.sub _ _ hb, Nat.le_trans (by rw [ra.len, rb.len]; exact hz) (by decide), fun p hp =>
      q _ (.own (ds ++ es)) _ _ hΦ ((st1.trans st2).trans (Step.own st2.sub hp)) ⟨p, _, rfl, (st1.trans st2).back p hp, upd_same, none_sub st2.sub hp, ra.append rb⟩⟩) (qx.step st1)) qx)
/-- a list by an int -/
theorem wk_rep (h : WE X W ρ a Ξ fun x => WE X W ρ b Ξ fun y => ∃ ds k, x = .list ds ∧ y = .int k ∧ -(2 ^ 63) ≤ k ∧ k < 2 ^ 63 ∧ ds.length * k.toNat ≤ 8000000 ∧ Ψ (.own (List.replicate k.toNat ds).flatten)) : WK X W ρ (.BinOp a .Mult b pos) Ξ Ψ := fun B F H σ env Q q qx =>
  wE_of (pe_op op_rep pe_w pe_w) (h B F H σ env _ (fun v x F1 H1 hx st1 r1 => hx B F1 H1 σ (env.step st1) _ (fun w y F2 H2 hy st2 r2 => by
    obtain ⟨ds, k, rfl, rfl, h1, h2, hz, hΦ⟩ := hy
    obtain ⟨a, xs, rfl, ha, ra⟩ := (Rp.mono st2.fr _ _ r1).lst_inv
    exact ⟨a, k, xs, rfl, r2.int_inv, st2.sub _ _ ha, h1, h2, Nat.le_trans (by rw [ra.len]; exact hz) (by decide), fun p hp =>
      q _ (.own _) _ _ hΦ ((st1.trans st2).trans (Step.own st2.sub hp)) ⟨p, _, rfl, (st1.trans st2).back p hp, upd_same, none_sub st2.sub hp, rp_flatten ra _⟩⟩) (qx.step st1)) qx)
theorem wk_if (h : WT X W ρ c Ξ fun k => (k = true → WK X W ρ a Ξ Ψ) ∧ (k = false → WK X W ρ b Ξ Ψ)) : WK X W ρ (.IfExp c a b pos) Ξ Ψ := fun B F H σ env Q q qx =>
  wE_of (pe_ifExp pt_w pe_w pe_w) (h B F H σ env _ (fun k F1 H1 hk st => by
    have q' : OkK X.K B.M F1 H1 Ψ Q := fun v s F2 H2 hs st2 r => q v s F2 H2 hs (st.trans st2) (r.older st.back)
    cases k with
    | true =>
      rw [if_pos rfl]
      exact hk.1 rfl B F1 H1 σ (env.step st) Q q' (qx.step st)
    | false =>
      rw [if_neg Bool.false_ne_true]
      exact hk.2 rfl B F1 H1 σ (env.step st) Q q' (qx.step st)) qx)
/-- {} -/
theorem wk_dict0 {p2} (h : Ψ (.odk [])) : WK X W ρ (.Dict [] [] p2) Ξ Ψ := fun B F H σ env Q q qx =>
  wE_of pe_dnewK fun d hd => q _ (.odk []) _ _ h (Step.own env.sub hd) ⟨d, [], rfl, hd, upd_same, none_sub env.sub hd, .nil⟩
end

/-! ### promises -/
/-- the kinds of results and of exceptions that a def promises for arguments -/
abbrev Pr := List Ag → (Sl → Prop) → (Exn → Prop) → Prop
def spd (K : PySem.W.Frag) (P : Pr) : Sp := fun vs H Q E => ∃ M F as Φ Ξ, Same F H ∧ (∀ p, M p → H p ≠ none) ∧ AgAll K M F H vs as ∧ P as Φ Ξ ∧ (∀ v s F2 H2, Φ s → StepE M F H F2 H2 → SlV K H F2 H2 v s → Q v H2) ∧ (∀ cls dd x F2 H2, Ξ x → StepE M F H F2 H2 → ExRp K F2 H2 cls dd x → E cls dd H2)
/-- a def is as it was promised -/
structure Def (P : Program) (w : World) (K : PySem.W.Frag) (mg : Str → Option Value) (base : Heap) (x : Str) (n : Nat) (k : Nat) (pr : Pr) : Prop where
  ex : ∃ f fd ps, mg x = some (.ref f) ∧ PySem.W.keepIn K (.ref f) = true ∧ Binds K fd ps [] ∧ ps.length = n ∧ FnOk P w K mg base (L2.CX P w) k f fd ps (spd K pr)
/-- the callee may change the draws alone -/
theorem AgAll.drs {K : PySem.W.Frag} {M : Addr → Prop} {F H : Hp} : ∀ {vs : List V} {as : List Ag}, AgAll K M F H vs as → AgAll K (fun a => M a ∧ DrOk H a) F H vs as
  | _, _, .nil => .nil
  | _, _, .cons (a := .dat d) h t => .cons h t.drs
  | _, _, .cons (a := .scr ns) h t => .cons h t.drs
  | _, _, .cons (a := .drw) ⟨p, e, m, d, f⟩ t => .cons (a := .drw) ⟨p, e, ⟨m, d⟩, d, f⟩ t.drs
section
variable {X : Cx} {W : WX} {ρ : List Sl} {e : Expr} {es : List Expr} {Ξ : Exn → Prop} {Φ : PyData → Prop} {Ψ : Sl → Prop} {p pos : Pos}
/-- f(e, ..) -/
theorem wk_call {x : Str} {n k : Nat} {pr : Pr} (D : Def X.prog X.w X.K X.mg X.base x n k pr) (C : Cxt X W) (hr : Room k X.A) (h : WA X W ρ (e :: es) Ξ fun as => pr as Ψ Ξ) (hg : Gl X x := by rfl) (hdb : (x == ("__debug__" : Str)) = false := by decide)
    (he : starEach (e :: es) X.env = (false, eval e X.env) :: starEach es X.env := by rfl) (hpl : (backTo pos (starEach es X.env)).any (·.1) = false := by rfl) : WK X W ρ (.Call (.Name x p) (e :: es) [] pos) Ξ Ψ := fun B F H σ env Q q qx => by
  obtain ⟨f, fd, ps, hm, hk, hb, hn, F0⟩ := D.ex
  refine wE_of (pe_callS (E := L2.WE W) F0 hr hg hm hk hb (fun σ => passAt C.tk σ) pa_w hdb he hpl) ?_
  refine h B F H σ env _ (fun vs as F1 H1 ha st rs => ?_) qx
  exact ⟨fun a => B.M a ∧ DrOk H1 a, F1, as, Ψ, Ξ, st.sub, fun a m => st.alive a (env.st.alive a (env.mh a m.1)), rs.drs, ha, fun v s F2 H2 hs st2 r => q v s F2 H2 hs (st.trans st2.lift) (r.older st.back), fun cls dd y F2 H2 hy st2 r => qx cls dd y F2 H2 hy (st.trans st2.lift) r⟩
end

/-! ### statements -/
structure En where
  nx : List Sl → Prop
  rt : Sl → Prop
  bk : List Sl → Prop := fun _ => False
  ct : List Sl → Prop := fun _ => False
structure DOk (K : PySem.W.Frag) (B : Base) (E : En) (D : Ends) : Prop where
  nx : ∀ ρ F H σ, E.nx ρ → EnvOk K B F H σ ρ → D.nx σ H
  rt : ∀ v s F H, E.rt s → StepE B.M B.F0 B.H0 F H → SlV K B.H0 F H v s → D.rt v H
  bk : ∀ ρ F H σ, E.bk ρ → EnvOk K B F H σ ρ → D.bk σ H
  ct : ∀ ρ F H σ, E.ct ρ → EnvOk K B F H σ ρ → D.ct σ H
abbrev Xi := Exn → List Sl → Prop
def DEx (K : PySem.W.Frag) (B : Base) (W : WX) (Ξ : Xi) : Prop := ∀ cls dd x ρ F H σ, Ξ x ρ → EnvOk K B F H σ ρ → ExRp K F H cls dd x → W cls dd σ H
def wS1 (X : Cx) (st : Stmt) : TS := fun D σ H => ∀ pins s, Inv X pins σ H s → wpAny (model X.prog X.w) X.A (exec st X.env) (SP X pins D) X.xe s
def WS (X : Cx) (W : WX) (ρ : List Sl) (ss : List Stmt) (Ξ : Xi) (E : En) : Prop := ∀ B F H σ, EnvOk X.K B F H σ ρ → ∀ D, DOk X.K B E D → DEx X.K B W Ξ → wSs X ss D σ H
def W1 (X : Cx) (W : WX) (ρ : List Sl) (st : Stmt) (Ξ : Xi) (E : En) : Prop := ∀ B F H σ, EnvOk X.K B F H σ ρ → ∀ D, DOk X.K B E D → DEx X.K B W Ξ → wS1 X st D σ H
abbrev xat (Ξ : Xi) (ρ : List Sl) : Exn → Prop := fun x => Ξ x ρ
section
variable {X : Cx} {W : WX} {ρ : List Sl} {st : Stmt} {ss : List Stmt} {e c : Expr} {Ξ : Xi} {E : En} {pos : Pos}
theorem ps_w : PS X st (wS1 X st) := ⟨fun pins s _ _ _ I h => h pins s I⟩
theorem wS1_of {t : TS} {D : Ends} {σ : L2.St} {H : Hp} (h : PS X st t) (q : t D σ H) : wS1 X st D σ H := fun pins s I => h.run pins s σ H D I q
theorem DEx.at {K : PySem.W.Frag} {B : Base} {F H : Hp} {σ : L2.St} (h : DEx K B W Ξ) (env : EnvOk K B F H σ ρ) : ExE K B.M F H W σ (xat Ξ ρ) := fun cls dd x F2 H2 hx st r => h cls dd x ρ F2 H2 σ hx (env.step st) r
theorem ws_nil (h : E.nx ρ) : WS X W ρ [] Ξ E := fun B F H σ env D d _ => wSs_of pss_nil (d.nx ρ F H σ h env)
theorem ws_cons (h : W1 X W ρ st Ξ { E with nx := fun ρ' => WS X W ρ' ss Ξ E }) : WS X W ρ (st :: ss) Ξ E := fun B F H σ env D d dx =>
  wSs_of (pss_cons ps_w pss_w) (h B F H σ env { D with nx := wSs X ss D } ⟨fun ρ' F2 H2 σ2 w env2 => w B F2 H2 σ2 env2 D d dx, d.rt, d.bk, d.ct⟩ dx)
theorem WS.mono {E' : En} (h : WS X W ρ ss Ξ E) (k1 : ∀ ρ, E.nx ρ → E'.nx ρ) (k2 : ∀ s, E.rt s → E'.rt s) (k3 : ∀ ρ, E.bk ρ → E'.bk ρ) (k4 : ∀ ρ, E.ct ρ → E'.ct ρ) : WS X W ρ ss Ξ E' := fun B F H σ env D d dx =>
  h B F H σ env D ⟨fun ρ' F2 H2 σ2 w env2 => d.nx ρ' F2 H2 σ2 (k1 _ w) env2, fun v s F2 H2 w => d.rt v s F2 H2 (k2 _ w), fun ρ' F2 H2 σ2 w env2 => d.bk ρ' F2 H2 σ2 (k3 _ w) env2, fun ρ' F2 H2 σ2 w env2 => d.ct ρ' F2 H2 σ2 (k4 _ w) env2⟩ dx
/-- return e -/
theorem w1_ret (h : WK X W ρ e (xat Ξ ρ) E.rt) : W1 X W ρ (.Return (some e) pos) Ξ E := fun B F H σ env D d dx =>
  wS1_of (ps_ret pe_w) (h B F H σ env D.rt (fun v s F2 H2 hs st r => d.rt v s F2 H2 hs (env.st.trans st.e) (r.older env.st.back)) (dx.at env))
/-- return of an own list -/
theorem w1_retO (i : Nat) {x : Str} {ds : List PyData} {px : Pos} (hi : ρ[i]? = some (.own ds)) (h : E.rt (.own ds))
    (hN : X.N[i]? = some x := by rfl) (hv : Vis X.env.scope x := by first | exact Or.inl rfl | exact Or.inr (Or.inl rfl) | exact Or.inr (Or.inr rfl))
    (hd : (x == ("__debug__" : Str)) = false := by decide) (hcd : (x == ("__classdict__" : Str)) = false := by decide) : W1 X W ρ (.Return (some (.Name x px)) pos) Ξ E := fun B F H σ env D d dx => by
  obtain ⟨p, vs, e1, hp, fp, h0, nm, r⟩ := env.sl i _ hi
  exact wS1_of (ps_ret (pv i hN hv hd hcd)) ⟨_, e1, d.rt _ (.own ds) F H h env.st ⟨p, vs, rfl, h0, hp, fp, r⟩⟩
theorem w1_retN (h : E.rt (.dat .none)) : W1 X W ρ (.Return none pos) Ξ E := fun B F H σ env D d dx =>
  wS1_of ps_retN (d.rt _ (.dat .none) F H h env.st Rp.non)
/-- an expression alone -/
theorem w1_expr (h : WK X W ρ e (xat Ξ ρ) fun _ => E.nx ρ) (hs : swapsWith e none pos.line X.env = pure false := by rfl) : W1 X W ρ (.Expr e pos) Ξ E := fun B F H σ env D d dx =>
  wS1_of (ps_expr pe_w hs) (h B F H σ env _ (fun v s F2 H2 hs st _ => d.nx ρ F2 H2 σ hs (env.step st)) (dx.at env))
theorem w1_if {a b : List Stmt} (h : WT X W ρ c (xat Ξ ρ) fun k => (k = true → WS X W ρ a Ξ E) ∧ (k = false → WS X W ρ b Ξ E)) : W1 X W ρ (.If c a b pos) Ξ E := fun B F H σ env D d dx =>
  wS1_of (ps_if pt_w pss_w pss_w) (h B F H σ env _ (fun k F1 H1 hk st => by
    cases k with
    | true =>
      rw [if_pos rfl]
      exact hk.1 rfl B F1 H1 σ (env.step st) D d dx
    | false =>
      rw [if_neg Bool.false_ne_true]
      exact hk.2 rfl B F1 H1 σ (env.step st) D d dx) (dx.at env))
theorem w1_pass (h : E.nx ρ) : W1 X W ρ (.Pass pos) Ξ E := fun B F H σ env D d dx => wS1_of ps_pass (d.nx ρ F H σ h env)

/-! assignment -/
theorem SlV.ok {K : PySem.W.Frag} {B : Base} {F H F2 H2 : Hp} {σ : L2.St} {v : V} {s : Sl} (env : EnvOk K B F H σ ρ) (st : Step B.M F H F2 H2) (r : SlV K H F2 H2 v s) : SlOk K B F2 H2 (some (some v)) s := by
  cases s with
  | dat d => exact ⟨v, rfl, r⟩
  | own ds =>
    obtain ⟨p, vs, rfl, hp, h2, f2, ra⟩ := r
    exact ⟨p, vs, rfl, h2, f2, env.fresh0 hp, env.notM (env.fresh0 hp), ra⟩
  | odk ds =>
    obtain ⟨p, vs, rfl, hp, h2, f2, ra⟩ := r
    exact ⟨p, vs, rfl, h2, f2, env.fresh0 hp, env.notM (env.fresh0 hp), ra⟩
  | odn ds =>
    obtain ⟨p, rfl, hp, h2, f2⟩ := r
    exact ⟨p, rfl, h2, f2, env.fresh0 hp, env.notM (env.fresh0 hp)⟩
  | rwd p fs s => trivial
  | own2 dss => trivial
  | row p st =>
    obtain ⟨rfl, hp, ra, fp⟩ := r
    exact ⟨rfl, ra, fp, .inr (env.fresh0 hp)⟩
  | _ => exact r.elim
/-- an own thing of a slot stands in the heap -/
theorem EnvOk.ownAt {K : PySem.W.Frag} {B : Base} {F H : Hp} {σ : L2.St} (env : EnvOk K B F H σ ρ) {j : Nat} {s : Sl} {p : Addr} (e : ρ[j]? = some s) (o : s.isOwn = true) (q : σ[j]? = some (some (.ref p))) : H p ≠ none := by
  have z := env.sl j s e
  cases s with
  | own ds =>
    obtain ⟨p', vs, e1, h1, _⟩ := z
    rw [q] at e1
    cases e1
    rw [h1]
    exact fun z => nomatch z
  | odk ds =>
    obtain ⟨p', vs, e1, h1, _⟩ := z
    rw [q] at e1
    cases e1
    rw [h1]
    exact fun z => nomatch z
  | owp p' ds =>
    obtain ⟨vs, e1, h1, _⟩ := z
    rw [q] at e1
    cases e1
    rw [h1]
    exact fun z => nomatch z
  | odn ds =>
    obtain ⟨p', e1, h1, _⟩ := z
    rw [q] at e1
    cases e1
    rw [h1]
    exact fun z => nomatch z
  | _ => cases o
theorem SlV.apart {K : PySem.W.Frag} {B : Base} {F H F2 H2 : Hp} {σ : L2.St} {v : V} {s : Sl} (env : EnvOk K B F H σ ρ) (r : SlV K H F2 H2 v s) (o : s.isOwn = true) {j : Nat} {t : Sl} (e : ρ[j]? = some t) (ot : t.isOwn = true) : σ[j]? ≠ some (some v) := fun q => by
  cases s with
  | own ds =>
    obtain ⟨p, vs, rfl, hp, _⟩ := r
    exact env.ownAt e ot q hp
  | odk ds =>
    obtain ⟨p, vs, rfl, hp, _⟩ := r
    exact env.ownAt e ot q hp
  | odn ds =>
    obtain ⟨p, rfl, hp, _⟩ := r
    exact env.ownAt e ot q hp
  | owp p ds => exact r.elim
  | _ => cases o
theorem EnvOk.putK {K : PySem.W.Frag} {B : Base} {F H F2 H2 : Hp} {σ : L2.St} {v : V} {s : Sl} {i : Nat} (env : EnvOk K B F H σ ρ) (st : Step B.M F H F2 H2) (r : SlV K H F2 H2 v s) : EnvOk K B F2 H2 (σ.set i (some v)) (ρ.set i s) :=
  (env.step st).put (r.ok env st) fun o j t _ e ot => r.apart env o e ot
theorem w1_set (i : Nat) {x : Str} {px : Pos} (nd : X.N.Nodup) (h : WK X W ρ e (xat Ξ ρ) fun s => E.nx (ρ.set i s)) (hN : X.N[i]? = some x := by rfl) (hx : Loc X.env.scope x := by first | exact Or.inl rfl | exact Or.inr rfl)
    (hs : swapsWith e (some (.Name x px)) pos.line X.env = pure false := by rfl) (hf : X.fn x = true ∨ X.env.scope.names.lookup x = some .local := by first | exact .inl rfl | exact .inr rfl) : W1 X W ρ (.Assign [.Name x px] e pos) Ξ E := fun B F H σ env D d dx =>
  wS1_of (ps_set nd hN hx pe_w hs hf) (h B F H σ env _ (fun v s F2 H2 hs st r => d.nx _ F2 H2 _ hs (env.putK st r)) (dx.at env))
/-- an own thing is changed: what else stands -/
theorem SlOk.upd {K : PySem.W.Frag} {B : Base} {F H : Hp} {o : Option (Option V)} {t : Sl} {p : Addr} {ob o' : HO} (hp : H p = some ob) (nm : ¬ B.M p) (ap : t.isOwn = true → o ≠ some (some (.ref p))) (ni : ∀ C dx vs, ob ≠ .ins C dx vs) (h : SlOk K B F H o t) : SlOk K B F (L2.upd H p o') o t := by
  cases t with
  | own ds =>
    obtain ⟨p', vs, q, h1, r⟩ := h
    exact ⟨p', vs, q, by rw [upd_ne (fun z => ap rfl (by rw [q, z]))]; exact h1, r⟩
  | owp p' ds =>
    obtain ⟨vs, q, h1, r⟩ := h
    exact ⟨vs, q, by rw [upd_ne (fun z => ap rfl (by rw [q, z]))]; exact h1, r⟩
  | odk ds =>
    obtain ⟨p', vs, q, h1, r⟩ := h
    exact ⟨p', vs, q, by rw [upd_ne (fun z => ap rfl (by rw [q, z]))]; exact h1, r⟩
  | odn ds =>
    obtain ⟨p', q, h1, r⟩ := h
    exact ⟨p', q, by rw [upd_ne (fun z => ap rfl (by rw [q, z]))]; exact h1, r⟩
  | row p' st =>
    obtain ⟨q, ⟨dx, vs, h1, r⟩, m⟩ := h
    exact ⟨q, ⟨dx, vs, by rw [upd_ne (fun z => by rw [z, hp] at h1; exact ni _ _ _ (Option.some.inj h1))]; exact h1, r⟩, m⟩
  | drw =>
    obtain ⟨p', q, m, ⟨x, y, ns, h1, h2, h3, h4⟩, f1⟩ := h
    exact ⟨p', q, m, ⟨x, y, ns, h1, h2, h3, by rw [upd_ne (fun z => nm (by rw [← z]; exact m))]; exact h4⟩, f1⟩
  | _ => exact h
/-- an own thing is frozen: what else stands -/
theorem SlOk.frz {K : PySem.W.Frag} {B : Base} {F H : Hp} {o : Option (Option V)} {t : Sl} {p : Addr} {ob o' : HO} (hp : H p = some ob) (fp : F p = none) (nm : ¬ B.M p) (ap : t.isOwn = true → o ≠ some (some (.ref p))) (ni : ∀ C dx vs, ob ≠ .ins C dx vs) (h : SlOk K B F H o t) : SlOk K B (L2.upd F p o') H o t := by
  have s2 : Same F (L2.upd F p o') := same_new fp
  cases t with
  | dat d => obtain ⟨v, q, rv⟩ := h; exact ⟨v, q, rv.mono s2⟩
  | own ds =>
    obtain ⟨p', vs, q, h1, f1, h2, h3, r⟩ := h
    exact ⟨p', vs, q, h1, by rw [upd_ne (fun z => ap rfl (by rw [q, z]))]; exact f1, h2, h3, RpAll.mono s2 _ _ r⟩
  | owp p' ds =>
    obtain ⟨vs, q, h1, f1, h2, h3, r⟩ := h
    exact ⟨vs, q, h1, by rw [upd_ne (fun z => ap rfl (by rw [q, z]))]; exact f1, h2, h3, RpAll.mono s2 _ _ r⟩
  | odk ds =>
    obtain ⟨p', vs, q, h1, f1, h2, h3, r⟩ := h
    exact ⟨p', vs, q, h1, by rw [upd_ne (fun z => ap rfl (by rw [q, z]))]; exact f1, h2, h3, r.mono s2⟩
  | odn ds =>
    obtain ⟨p', q, h1, f1, h2⟩ := h
    exact ⟨p', q, h1, by rw [upd_ne (fun z => ap rfl (by rw [q, z]))]; exact f1, h2⟩
  | fdk ds =>
    obtain ⟨p', ob', vs, q, h1, r⟩ := h
    exact ⟨p', ob', vs, q, s2 _ _ h1, r.mono s2⟩
  | fdn ds =>
    obtain ⟨p', ob', q, h1⟩ := h
    exact ⟨p', ob', q, s2 _ _ h1⟩
  | row p' st =>
    obtain ⟨q, ⟨dx, vs, h1, r⟩, f1, m⟩ := h
    exact ⟨q, ⟨dx, vs, h1, r.mono s2⟩, by rw [upd_ne (fun z => by rw [z, hp] at h1; exact ni _ _ _ (Option.some.inj h1))]; exact f1, m⟩
  | drw =>
    obtain ⟨p', q, m, dr, f1⟩ := h
    exact ⟨p', q, m, dr, by rw [upd_ne (fun z => nm (by rw [← z]; exact m))]; exact f1⟩
  | scr ns => obtain ⟨p', q, hq⟩ := h; exact ⟨p', q, s2.seq hq⟩
  | exc a d fs =>
    obtain ⟨q, z⟩ := h
    refine ⟨q, ?_⟩
    rcases z with z | ⟨dd, vs, e1, e2, r⟩
    · exact .inl z
    · exact .inr ⟨dd, vs, e1, s2 _ _ e2, r.mono s2⟩
  | _ => exact h
/-- where an own thing stands -/
theorem SlOk.ownAt {K : PySem.W.Frag} {B : Base} {F H : Hp} {o : Option (Option V)} {t : Sl} (h : SlOk K B F H o t) (k : t.isOwn = true) : ∃ p ob, o = some (some (.ref p)) ∧ H p = some ob ∧ F p = none ∧ B.H0 p = none ∧ ¬ B.M p ∧ ∀ C dx vs, ob ≠ .ins C dx vs := by
  cases t with
  | own ds => obtain ⟨p, vs, q, h1, f1, h2, h3, r⟩ := h; exact ⟨p, _, q, h1, f1, h2, h3, fun _ _ _ z => nomatch z⟩
  | owp p ds => obtain ⟨vs, q, h1, f1, h2, h3, r⟩ := h; exact ⟨p, _, q, h1, f1, h2, h3, fun _ _ _ z => nomatch z⟩
  | odk ds => obtain ⟨p, vs, q, h1, f1, h2, h3, r⟩ := h; exact ⟨p, _, q, h1, f1, h2, h3, fun _ _ _ z => nomatch z⟩
  | odn ds => obtain ⟨p, q, h1, f1, h2, h3⟩ := h; exact ⟨p, _, q, h1, f1, h2, h3, fun _ _ _ z => by unfold NdO at z; cases z⟩
  | _ => cases k
/-- the own thing in slot i is changed, and is t from then on -/
theorem EnvOk.updOwn {K : PySem.W.Frag} {B : Base} {F H : Hp} {σ : L2.St} {i : Nat} {s t : Sl} {p : Addr} {o : HO} (env : EnvOk K B F H σ ρ) (hi : ρ[i]? = some s) (hs : s.isOwn = true) (q : σ[i]? = some (some (.ref p))) (ok : SlOk K B F (upd H p o) σ[i]? t) : EnvOk K B F (upd H p o) σ (ρ.set i t) := by
  obtain ⟨p', ob, e1, hp, fp, h0, nm, ni⟩ := (env.sl i _ hi).ownAt hs
  rw [q] at e1
  cases e1
  have hlt : i < ρ.length := (List.getElem?_eq_some_iff.mp hi).1
  refine ⟨⟨env.st.fr, fun a x e => ?_, fun a o n e => ?_, env.st.new, fun a n => ?_, fun a m dr => ?_⟩, env.mh, env.gf, by rw [List.length_set]; exact env.len, fun j u e => ?_, fun a b u v z n e1' e2' o1 o2 q1 q2 => ?_⟩
  · have np : a ≠ p := fun z => by rw [z, fp] at e; cases e
    rw [upd_ne np]
    exact env.st.sub a x e
  · have np : a ≠ p := fun z => by rw [z, h0] at e; cases e
    rw [upd_ne np]
    exact env.st.keep a o n e
  · have np : a ≠ p := fun z => n (by rw [z]; exact h0)
    rw [upd_ne np]
    exact env.st.alive a n
  · have np : a ≠ p := fun z => nm (by rw [← z]; exact m)
    exact (env.st.dr a m dr).same (upd_ne np).symm
  · by_cases hj : j = i
    · subst hj
      rw [List.getElem?_set_self hlt] at e
      cases e
      exact ok
    · rw [List.getElem?_set_ne (Ne.symm hj)] at e
      exact (env.sl j u e).upd hp nm (fun ou z => env.ne i j s u p (Ne.symm hj) hi e hs ou q z) ni
  · have tr : ∀ {c : Nat} {z : Sl}, z.isOwn = true → (ρ.set i t)[c]? = some z → ∃ z', ρ[c]? = some z' ∧ z'.isOwn = true := fun {c z} hz e => by
      by_cases hc : c = i
      · subst hc
        exact ⟨_, hi, hs⟩
      · rw [List.getElem?_set_ne (Ne.symm hc)] at e
        exact ⟨z, e, hz⟩
    obtain ⟨u', x1, x2⟩ := tr o1 e1'
    obtain ⟨v', y1, y2⟩ := tr o2 e2'
    exact env.ne a b u' v' z n x1 y1 x2 y2 q1 q2
/-- the own thing in slot i is frozen, and is t, not own, from then on -/
theorem EnvOk.frzOwn {K : PySem.W.Frag} {B : Base} {F H : Hp} {σ : L2.St} {i : Nat} {s t : Sl} {p : Addr} {o : HO} (env : EnvOk K B F H σ ρ) (hi : ρ[i]? = some s) (hs : s.isOwn = true) (q : σ[i]? = some (some (.ref p))) (hp : H p = some o) (ok : SlOk K B (upd F p o) H σ[i]? t) (ht : t.isOwn = false) : EnvOk K B (upd F p o) H σ (ρ.set i t) := by
  obtain ⟨p', ob, e1, hp', fp, h0, nm, ni⟩ := (env.sl i _ hi).ownAt hs
  rw [q] at e1
  cases e1
  have s2 : Same F (upd F p o) := same_new fp
  have hlt : i < ρ.length := (List.getElem?_eq_some_iff.mp hi).1
  refine ⟨env.st.freeze h0 hp fp, env.mh, env.gf.trans s2, by rw [List.length_set]; exact env.len, fun j u e => ?_, fun a b u v n0 n e1' e2' o1 o2 q1 q2 => ?_⟩
  · by_cases hj : j = i
    · subst hj
      rw [List.getElem?_set_self hlt] at e
      cases e
      exact ok
    · rw [List.getElem?_set_ne (Ne.symm hj)] at e
      exact (env.sl j u e).frz hp' fp nm (fun ou z => env.ne i j s u p (Ne.symm hj) hi e hs ou q z) ni
  · have look : ∀ {c : Nat} {z : Sl}, z.isOwn = true → (ρ.set i t)[c]? = some z → c ≠ i := fun {c z} hz e hc => by
      subst hc
      rw [List.getElem?_set_self hlt] at e
      cases e
      rw [ht] at hz
      cases hz
    have ha := look o1 e1'
    have hb := look o2 e2'
    rw [List.getElem?_set_ne (Ne.symm ha)] at e1'
    rw [List.getElem?_set_ne (Ne.symm hb)] at e2'
    exact env.ne a b u v n0 n e1' e2' o1 o2 q1 q2
/-- what is own becomes data that stands still -/
theorem EnvOk.freeze {K : PySem.W.Frag} {B : Base} {F H : Hp} {σ : L2.St} {i : Nat} {ds : List PyData} (env : EnvOk K B F H σ ρ) (hi : ρ[i]? = some (.own ds)) : ∃ F2, Same F F2 ∧ EnvOk K B F2 H σ (ρ.set i (.dat (.list ds))) := by
  obtain ⟨p, vs, e1, hp, fp, h0, nm, r⟩ := env.sl i _ hi
  have s2 : Same F (upd F p (.lst vs)) := same_new fp
  exact ⟨upd F p (.lst vs), s2, env.frzOwn hi rfl e1 hp ⟨.ref p, e1, .lst upd_same (RpAll.mono s2 _ _ r)⟩ rfl⟩
theorem ws_freeze (i : Nat) {ds : List PyData} (hi : ρ[i]? = some (.own ds)) (h : WS X W (ρ.set i (.dat (.list ds))) ss Ξ E) : WS X W ρ ss Ξ E := fun B F H σ env D d dx => by
  obtain ⟨F2, _, env2⟩ := env.freeze hi
  exact h B F2 H σ env2 D d dx
/-- xs.append(e), xs own -/
theorem EnvOk.setOwn {K : PySem.W.Frag} {B : Base} {F H : Hp} {σ : L2.St} {i : Nat} {ds es : List PyData} {p : Addr} {ws : List V} (env : EnvOk K B F H σ ρ) (hi : ρ[i]? = some (.own ds)) (q : σ[i]? = some (some (.ref p))) (r : RpAll K F ws es) : EnvOk K B F (upd H p (.lst ws)) σ (ρ.set i (.own es)) := by
  obtain ⟨p', vs, e1, hp, fp, h0, nm, _⟩ := env.sl i _ hi
  have e2 := e1
  rw [q] at e1
  cases e1
  exact env.updOwn hi rfl q ⟨p, ws, e2, upd_same, fp, h0, nm, r⟩
theorem w1_append (i : Nat) {x : Str} {ds : List PyData} {px ap cp : Pos} (hi : ρ[i]? = some (.own ds)) (h : WE X W ρ e (xat Ξ ρ) fun d => ds.length < 8000000 ∧ E.nx (ρ.set i (.own (ds ++ [d]))))
    (hN : X.N[i]? = some x := by rfl) (hv : Vis X.env.scope x := by first | exact Or.inl rfl | exact Or.inr (Or.inl rfl) | exact Or.inr (Or.inr rfl))
    (hd : (x == ("__debug__" : Str)) = false := by decide) (hcd : (x == ("__classdict__" : Str)) = false := by decide)
    (pe : PE X (.Call (.Attribute (.Name x px) "append" ap) [e] [] cp) (tBM X.K "list" rAppend (tVar i) (tCons (wE X e) tNil)) := by exact pe_bm PySem.F.plainAttrs_list PySem.F.slot_list_append PySem.F.type_list_append mt_append (pv _) (pa_cons pe_w pa_nil))
    (hs : swapsWith (.Call (.Attribute (.Name x px) "append" ap) [e] [] cp) none pos.line X.env = pure false := by rfl) : W1 X W ρ (.Expr (.Call (.Attribute (.Name x px) "append" ap) [e] [] cp) pos) Ξ E := fun B F H σ env D d dx => by
  obtain ⟨p, vs, e1, hp, fp, h0, nm, r⟩ := env.sl i _ hi
  refine wS1_of (ps_expr pe hs) ⟨_, e1, .inl ⟨rfl, _, SqL.of hp⟩, h B F H σ env _ (fun v y F2 H2 hy st ry => ?_) (dx.at env)⟩
  have h2 : H2 p = some (.lst vs) := st.keep p _ nm hp
  refine ⟨p, vs, v, rfl, rfl, h2, Nat.lt_of_lt_of_le (by rw [r.len]; exact hy.1) (by decide : 8000000 ≤ sizeLine), ?_⟩
  have env2 := env.step st
  exact d.nx _ F2 _ σ hy.2 (env2.setOwn hi e1 ((RpAll.mono st.fr _ _ r).append (.cons ry .nil)))
end
end Mv

set_option maxRecDepth 100000
set_option maxHeartbeats 4000000
/-! what is walked, targets, for, while, comprehensions; a def by its body -/
namespace Mv
open PySem L2

/-! ### what is walked -/
/-- an iterator that yields the data ds, as long as F stands -/
structure ItOk (K : PySem.W.Frag) (M : Addr → Prop) (F : Hp) (J : It) (ds : List PyData) : Prop where
  go : ∀ i F' H', Same F F' → Same F' H' → i < ds.length → J.go i H'
  yld : ∀ i F' H' v H'' d, Same F F' → Same F' H' → ds[i]? = some d → J.yld i H' v H'' → ∃ F'', Step M F' H' F'' H'' ∧ Rp K F'' v d
  stop : ∀ i F' H', Same F F' → Same F' H' → ds.length ≤ i → J.stop i H'
def wI (X : Cx) (tg iter : Expr) : TI := fun σ H R => ∀ pins s, Inv X pins σ H s → wpAny (model X.prog X.w) X.A (eval iter X.env) (fun v s1 => wpAny (model X.prog X.w) X.A (pyIter v) (PIE X pins σ tg R) X.xe s1) X.xe s
theorem pi_w {X : Cx} {tg iter : Expr} : PI X tg iter (wI X tg iter) := ⟨fun pins s _ _ _ I h => h pins s I⟩
theorem wI_of {X : Cx} {tg iter : Expr} {t : TI} {σ : L2.St} {H : Hp} {R : It → Hp → Prop} (h : PI X tg iter t) (q : t σ H R) : wI X tg iter σ H R := fun pins s I => h.run pins s σ H R I q
def WI (X : Cx) (W : WX) (ρ : List Sl) (tg iter : Expr) (Ξ : Exn → Prop) (Φ : List PyData → Prop) : Prop :=
  ∀ B F H σ, EnvOk X.K B F H σ ρ → ∀ R : It → Hp → Prop, (∀ J ds F2 H2, Φ ds → Step B.M F H F2 H2 → ItOk X.K B.M F2 J ds → R J H2) → ExE X.K B.M F H W σ Ξ → wI X tg iter σ H R
section
variable {X : Cx} {W : WX} {ρ : List Sl} {tg e : Expr} {es : List Expr} {Ξ : Exn → Prop} {Φ : List PyData → Prop} {pos : Pos}
theorem itOk_list {K : PySem.W.Frag} {M : Addr → Prop} {F : Hp} {a : Addr} {xs : List V} {ds : List PyData} (h : SqL K F a xs) (r : RpAll K F xs ds) : ItOk K M F (Itl K a) ds where
  go := fun i F' H' s1 s2 hi => by
    obtain ⟨v, e, _⟩ := r.get (List.getElem?_eq_getElem hi)
    exact ⟨xs, v, s2.seq (s1.seq h), e⟩
  yld := fun i F' H' v H'' d s1 s2 hd y => by
    obtain ⟨rfl, y⟩ := y
    obtain ⟨u, e, ru⟩ := r.get hd
    have e2 := y xs (s2.seq (s1.seq h))
    rw [e] at e2
    cases e2
    exact ⟨F', Step.refl s2, ru.mono s1⟩
  stop := fun i F' H' s1 s2 hi => ⟨xs, s2.seq (s1.seq h), by rw [r.len]; exact hi⟩
theorem itOk_tup {K : PySem.W.Frag} {M : Addr → Prop} {F : Hp} {a : Addr} {xs : List V} {ds : List PyData} (h : SqT K F a xs) (r : RpAll K F xs ds) : ItOk K M F (Itt K a) ds where
  go := fun i F' H' s1 s2 hi => by
    obtain ⟨v, e, _⟩ := r.get (List.getElem?_eq_getElem hi)
    exact ⟨xs, v, same_t s2 (same_t s1 h), e⟩
  yld := fun i F' H' v H'' d s1 s2 hd y => by
    obtain ⟨rfl, y⟩ := y
    obtain ⟨u, e, ru⟩ := r.get hd
    have e2 := y xs (same_t s2 (same_t s1 h))
    rw [e] at e2
    cases e2
    exact ⟨F', Step.refl s2, ru.mono s1⟩
  stop := fun i F' H' s1 s2 hi => ⟨xs, same_t s2 (same_t s1 h), by rw [r.len]; exact hi⟩
def rangeD (lo : Int) (n : Nat) : List PyData := (List.range n).map fun i : Nat => .int (lo + (i : Int))
theorem rangeD_len (lo : Int) (n : Nat) : (rangeD lo n).length = n := by simp [rangeD]
theorem rangeD_get {lo : Int} {n i : Nat} {d : PyData} (h : (rangeD lo n)[i]? = some d) : i < n ∧ d = .int (lo + i) := by
  have hi : i < n := by
    have := (List.getElem?_eq_some_iff.mp h).1
    rwa [rangeD_len] at this
  simp [rangeD, hi] at h
  exact ⟨hi, h.symm⟩
theorem itOk_range {K : PySem.W.Frag} {M : Addr → Prop} {F : Hp} (lo : Int) (n : Nat) : ItOk K M F (Itr lo n) (rangeD lo n) where
  go := fun i F' H' s1 s2 hi => by rw [rangeD_len] at hi; exact hi
  yld := fun i F' H' v H'' d s1 s2 hd y => by
    obtain ⟨rfl, rfl⟩ := y
    obtain ⟨_, rfl⟩ := rangeD_get hd
    exact ⟨F', Step.refl s2, .int _⟩
  stop := fun i F' H' s1 s2 hi => by rw [rangeD_len] at hi; exact hi
/-- a list or a tuple -/
def iSeq (K : PySem.W.Frag) (tl : TE) : TI := fun σ H R => tl σ H fun x H1 => ∃ a, x = .ref a ∧ (((∃ xs, SqL K H1 a xs) ∧ R (Itl K a) H1) ∨ ((∃ xs, SqT K H1 a xs) ∧ R (Itt K a) H1))
theorem pi_seq {l : Expr} {tl : TE} (hl : PE X l tl) : PI X tg l (iSeq X.K tl) := by
  refine ⟨fun pins s σ H R I h => ?_⟩
  refine thn (hl.run pins s σ H _ I h) fun v s1 ⟨x, H1, I1, r1, q1⟩ => ?_
  obtain ⟨a, e, q⟩ := q1
  subst e
  cases r1
  rcases q with ⟨⟨xs, hq⟩, q⟩ | ⟨⟨xs, hq⟩, q⟩
  · obtain ⟨its, rv, p, hz⟩ := I1.list hq
    refine wpAny_pyIter_list p.isList ?_
    refine ⟨s1.heap.objs.size, [s1.heap.objs.size], _, _, H1, rfl, I1.kept (t' := s1.toks) fun b o e => Heap.get?_push_of_some _ e, turn_list a _, ⟨_, Heap.get?_push_size _ rfl, rfl, rfl⟩, fun b hb => ?_, q⟩
    have e : b = s1.heap.objs.size := by simpa using hb
    subst e
    exact I1.fpOk (Nat.le_refl _) (I1.hok.fresh (Nat.le_refl _))
  · obtain ⟨its, rv, p, hz⟩ := I1.tuple hq
    refine wpAny_pyIter_tuple (show s1.heap.IsTuple a its.toArray from p) ?_
    refine ⟨s1.heap.objs.size, [s1.heap.objs.size], _, _, H1, rfl, I1.kept (t' := s1.toks) fun b o e => Heap.get?_push_of_some _ e, turn_tuple a _, ⟨_, Heap.get?_push_size _ rfl, rfl, rfl⟩, fun b hb => ?_, q⟩
    have e : b = s1.heap.objs.size := by simpa using hb
    subst e
    exact I1.fpOk (Nat.le_refl _) (I1.hok.fresh (Nat.le_refl _))
theorem wi_seq (h : WE X W ρ e Ξ fun d => ∃ ds, itemsD d = some ds ∧ Φ ds) : WI X W ρ tg e Ξ Φ := fun B F H σ env R q qx =>
  wI_of (pi_seq pe_w) (h B F H σ env _ (fun v d F1 H1 hd st r => by
    obtain ⟨ds, hi, hΦ⟩ := hd
    cases d with
    | list es =>
      obtain ⟨a, xs, rfl, ha, ra⟩ := r.lst_inv
      cases hi
      exact ⟨a, rfl, .inl ⟨⟨xs, SqL.of (st.sub _ _ ha)⟩, q _ _ F1 H1 hΦ st (itOk_list (SqL.of ha) ra)⟩⟩
    | tuple es =>
      obtain ⟨a, xs, rfl, ha, ra⟩ := r.tup_inv
      cases hi
      exact ⟨a, rfl, .inr ⟨⟨xs, same_t st.sub ha⟩, q _ _ F1 H1 hΦ st (itOk_tup ha ra)⟩⟩
    | _ => cases hi) qx)
/-- the script -/
theorem wi_scr (i : Nat) {x : Str} {ns : List Int} (hi : ρ[i]? = some (.scr ns)) (h : Φ (ns.map .int)) (hN : X.N[i]? = some x := by rfl) (hv : Vis X.env.scope x := by first | exact Or.inl rfl | exact Or.inr (Or.inl rfl) | exact Or.inr (Or.inr rfl))
    (hd : (x == ("__debug__" : Str)) = false := by decide) (hcd : (x == ("__classdict__" : Str)) = false := by decide) : WI X W ρ tg (.Name x pos) Ξ Φ := fun B F H σ env R q qx => by
  obtain ⟨p, e1, hq⟩ := env.sl i _ hi
  exact wI_of (pi_list (pv i hN hv hd hcd)) ⟨_, e1, p, rfl, ⟨_, env.sub.seq hq⟩, q _ _ F H h (Step.refl env.sub) (itOk_list hq (RpAll.ints _ _ _))⟩
/-- an own list that the body leaves alone is walked best when frozen ahead (ws_freeze) -/
theorem wi_range1 {a : Expr} {p : Pos} (hm : X.mg "range" = none) (h : WE X W ρ a Ξ fun d => ∃ j : Int, d = .int j ∧ -(2 ^ 62) ≤ j ∧ j < 2 ^ 62 ∧ Φ (rangeD 0 j.toNat)) (hg : Gl X "range" := by rfl) (hs : starEach [a] X.env = [(false, eval a X.env)] := by rfl) : WI X W ρ tg (.Call (.Name "range" p) [a] [] pos) Ξ Φ := fun B F H σ env R q qx =>
  wI_of (pi_range1 hg hm (pa_cons pe_w pa_nil hs) hs) (h B F H σ env _ (fun v d F1 H1 hd st r => by
    obtain ⟨j, rfl, h1, h2, hΦ⟩ := hd
    exact ⟨j, by rw [r.int_inv], h1, h2, q _ _ F1 H1 hΦ st (itOk_range 0 _)⟩) qx)
theorem wi_range2 {a b : Expr} {p : Pos} (hm : X.mg "range" = none) (h : WE X W ρ a Ξ fun x => WE X W ρ b Ξ fun y => ∃ i j : Int, x = .int i ∧ y = .int j ∧ (-(2 ^ 62) ≤ i ∧ i < 2 ^ 62 ∧ -(2 ^ 62) ≤ j ∧ j < 2 ^ 62) ∧ Φ (rangeD i (j - i).toNat)) (hg : Gl X "range" := by rfl)
    (hs : starEach [a, b] X.env = [(false, eval a X.env), (false, eval b X.env)] := by rfl) (hs2 : starEach [b] X.env = [(false, eval b X.env)] := by rfl) : WI X W ρ tg (.Call (.Name "range" p) [a, b] [] pos) Ξ Φ := fun B F H σ env R q qx =>
  wI_of (pi_range2 hg hm (pa_cons pe_w (pa_cons pe_w pa_nil hs2) (by rw [hs, hs2])) hs hs2) (h B F H σ env _ (fun v x F1 H1 hx st1 r1 => hx B F1 H1 σ (env.step st1) _ (fun w y F2 H2 hy st2 r2 => by
    obtain ⟨i, j, rfl, rfl, hb, hΦ⟩ := hy
    exact ⟨i, j, by rw [r1.int_inv, r2.int_inv], hb, q _ _ F2 H2 hΦ (st1.trans st2) (itOk_range i _)⟩) (qx.step st1)) qx)
end

/-! ### targets -/
def wG (X : Cx) (tg : Expr) : TG := fun v σ H Q => ∀ pins s u, Inv X pins σ H s → RelV v u → wpAny (model X.prog X.w) X.A (assign tg X.env u) (fun _ s' => ∃ σ' H', Inv X pins σ' H' s' ∧ Q σ' H') X.xe s
theorem pg_w {X : Cx} {tg : Expr} : PG X tg (wG X tg) := ⟨fun pins s _ _ _ u _ I r h => h pins s u I r⟩
theorem wG_of {X : Cx} {tg : Expr} {t : TG} {v : V} {σ : L2.St} {H : Hp} {Q : L2.St → Hp → Prop} (h : PG X tg t) (q : t v σ H Q) : wG X tg v σ H Q := fun pins s u I r => h.run pins s σ H v u Q I r q
/-- data d is put where tg says, into slots of T; the heap stays -/
def WG (X : Cx) (ρ : List Sl) (tg : Expr) (d : PyData) (T : Nat → Prop) (Φ : List Sl → Prop) : Prop :=
  ∀ B F H σ v, EnvOk X.K B F H σ ρ → Rp X.K F v d → ∀ Q : L2.St → Hp → Prop, (∀ ρ' σ', Φ ρ' → EnvOk X.K B F H σ' ρ' → σ'.length = σ.length → (∀ j, ¬ T j → σ'[j]? = σ[j]?) → Q σ' H) → wG X tg v σ H Q
section
variable {X : Cx} {W : WX} {ρ : List Sl} {tg e : Expr} {es : List Expr} {d : PyData} {T : Nat → Prop} {Φ : List Sl → Prop} {pos : Pos}
theorem wg_name (i : Nat) {x : Str} (nd : X.N.Nodup) (hT : T i) (h : Φ (ρ.set i (.dat d))) (hN : X.N[i]? = some x := by rfl) (hx : Loc X.env.scope x := by first | exact Or.inl rfl | exact Or.inr rfl)
    (hf : X.fn x = true ∨ X.env.scope.names.lookup x = some .local := by first | exact .inl rfl | exact .inr rfl) : WG X ρ (.Name x pos) d T Φ := fun B F H σ v env r Q q =>
  wG_of (pg_name nd hN hx hf) (q _ _ h (env.set r) (List.length_set) fun j hj => List.getElem?_set_ne (fun z => hj (by rw [← z]; exact hT)))
def wGs (X : Cx) (ts : List Expr) : TGs := fun vs σ H Q => ∀ pins s us, Inv X pins σ H s → Vals vs us → wpAny (model X.prog X.w) X.A (assignInOrder ((assignEach ts X.env).map (·.2)) us) (fun _ s' => ∃ σ' H', Inv X pins σ' H' s' ∧ Q σ' H') X.xe s
theorem pgs_w {X : Cx} {ts : List Expr} : PGs X ts (wGs X ts) := ⟨fun pins s _ _ _ us _ I r h => h pins s us I r⟩
def WGs (X : Cx) (ρ : List Sl) (ts : List Expr) (ds : List PyData) (T : Nat → Prop) (Φ : List Sl → Prop) : Prop :=
  ∀ B F H σ vs, EnvOk X.K B F H σ ρ → RpAll X.K F vs ds → ∀ Q : L2.St → Hp → Prop, (∀ ρ' σ', Φ ρ' → EnvOk X.K B F H σ' ρ' → σ'.length = σ.length → (∀ j, ¬ T j → σ'[j]? = σ[j]?) → Q σ' H) → wGs X ts vs σ H Q
theorem wgs_nil (h : Φ ρ) : WGs X ρ [] [] T Φ := fun B F H σ vs env r Q q pins s us I rv => by
  cases r
  exact (pgs_nil (X := X)).run pins s σ H [] us Q I rv ⟨rfl, q ρ σ h env rfl fun _ _ => rfl⟩
theorem wgs_cons {ds : List PyData} (h : WG X ρ e d T fun ρ' => WGs X ρ' es ds T Φ) (hs : (assignEach (e :: es) X.env).map (·.2) = assign e X.env :: (assignEach es X.env).map (·.2) := by rfl) : WGs X ρ (e :: es) (d :: ds) T Φ := fun B F H σ vs env r Q q pins s us I rv => by
  cases r with
  | cons r1 r2 =>
    rename_i v vs'
    exact (pgs_cons pg_w pgs_w hs).run pins s σ H (v :: vs') us Q I rv ⟨v, vs', rfl, h B F H σ v env r1 _ fun ρ' σ' w env' l1 t1 => w B F H σ' vs' env' r2 Q fun ρ2 σ2 w2 env2 l2 t2 => q ρ2 σ2 w2 env2 (l2.trans l1) fun j hj => (t2 j hj).trans (t1 j hj)⟩
theorem wg_tup {k : Nat} {ds : List PyData} (hc : X.calm = true) (h : WGs X ρ es ds T Φ) (hl : ds.length = es.length := by rfl) (hn : (assignEach es X.env).length = es.length := by rfl) (hst : (assignEach es X.env).findIdx? (·.1) = none := by rfl) : WG X ρ (.Tuple es k pos) (.tuple ds) T Φ := fun B F H σ v env r Q q => by
  obtain ⟨a, xs, rfl, ha, ra⟩ := r.tup_inv
  exact wG_of (pg_tup hc pgs_w hn hst) ⟨a, xs, rfl, same_t env.sub ha, by rw [ra.len]; exact hl, h B F H σ xs env ra Q q⟩
end

/-! ### for, while -/
section
variable {X : Cx} {W : WX} {ρ : List Sl} {tg e c : Expr} {body : List Stmt} {Ξ : Xi} {E : En} {pos : Pos}
theorem w1_for (C : Cxt X W) (h : WI X W ρ tg e (xat Ξ ρ) fun ds => ∃ I : Nat → List Sl → Prop, I 0 ρ ∧ (∀ i d ρ', ds[i]? = some d → I i ρ' → WG X ρ' tg d (fun _ => True) fun ρ2 => WS X W ρ2 body Ξ { nx := I (i + 1), ct := I (i + 1), bk := E.nx, rt := E.rt }) ∧ ∀ ρ', I ds.length ρ' → E.nx ρ')
    (hs : ∀ x, foldedSetIterable e X.env x = pure x := by intro _; rfl) : W1 X W ρ (.For tg e body [] pos) Ξ E := fun B F H σ env D d dx =>
  wS1_of (ps_for C.po C.calm pi_w pg_w pss_w hs) (h B F H σ env _ (fun J ds F1 H1 hI st ok => by
    obtain ⟨I, i0, step, fin⟩ := hI
    refine ⟨fun i m σ H => m = ds.length - i ∧ i ≤ ds.length ∧ ∃ ρ' F', I i ρ' ∧ Same F1 F' ∧ EnvOk X.K B F' H σ ρ', ⟨_, rfl, Nat.zero_le _, ρ, F1, i0, Same.refl _, env.step st⟩, ?_⟩
    rintro i m σ2 H2 ⟨rfl, hi, ρ', F', hI, sF, env2⟩
    by_cases hlt : i < ds.length
    · refine .inr ⟨ok.go i F' H2 sF env2.sub hlt, fun σ' H' => ∃ ρ'' F'', I (i + 1) ρ'' ∧ Same F1 F'' ∧ EnvOk X.K B F'' H' σ' ρ'', fun σ' H' ⟨ρ'', F'', q1, q2, q3⟩ => ⟨ds.length - (i + 1), by omega, rfl, hlt, ρ'', F'', q1, q2, q3⟩, fun v H3 hy => ?_⟩
      obtain ⟨F3, st3, rv⟩ := ok.yld i F' H2 v H3 ds[i] sF env2.sub (List.getElem?_eq_getElem hlt) hy
      have env3 := env2.step st3
      refine step i _ ρ' (List.getElem?_eq_getElem hlt) hI B F3 H3 σ2 v env3 rv _ fun ρ2 σ3 w env4 _ _ => ?_
      have sG : Same F1 F3 := sF.trans st3.fr
      refine w { B with G := F3 } F3 H3 σ3 (env4.up (Same.refl F3)) _ ⟨fun ρ5 F5 H5 σ5 n5 env5 => ⟨ρ5, F5, n5, sG.trans env5.gf, env5.down (env3.gf)⟩, d.rt, fun ρ5 F5 H5 σ5 n5 env5 => d.nx ρ5 F5 H5 σ5 n5 (env5.down env3.gf), fun ρ5 F5 H5 σ5 n5 env5 => ⟨ρ5, F5, n5, sG.trans env5.gf, env5.down (env3.gf)⟩⟩ ?_
      exact fun cls dd y ρ5 F5 H5 σ5 hy env5 r5 => dx cls dd y ρ5 F5 H5 σ5 hy (env5.down env3.gf) r5
    · have e : i = ds.length := by omega
      subst e
      exact .inl ⟨ok.stop _ F' H2 sF env2.sub (Nat.le_refl _), d.nx ρ' F' H2 σ2 (fin ρ' hI) env2⟩) (dx.at env))
theorem w1_while (C : Cxt X W) (I : Nat → List Sl → Prop) (m0 : Nat) (h0 : I m0 ρ)
    (h : ∀ m ρ', I m ρ' → WT X W ρ' c (xat Ξ ρ') fun k => (k = true → WS X W ρ' body Ξ { nx := fun ρ2 => ∃ m', m' < m ∧ I m' ρ2, ct := fun ρ2 => ∃ m', m' < m ∧ I m' ρ2, bk := E.nx, rt := E.rt }) ∧ (k = false → E.nx ρ')) : W1 X W ρ (.While c body [] pos) Ξ E := fun B F H σ env D d dx =>
  wS1_of (ps_while C.po pt_w pss_w) ⟨fun m σ H => ∃ ρ' F', I m ρ' ∧ EnvOk X.K B F' H σ ρ', ⟨m0, ρ, F, h0, env⟩, by
    rintro m σ2 H2 ⟨ρ', F', hI, env2⟩
    refine h m ρ' hI B F' H2 σ2 env2 _ (fun k F3 H3 hk st => ?_) (dx.at env2)
    cases k with
    | true =>
      rw [if_pos rfl]
      refine ⟨fun σ' H' => ∃ m', m' < m ∧ ∃ ρ'' F'', I m' ρ'' ∧ EnvOk X.K B F'' H' σ' ρ'', fun σ' H' ⟨m', hm, q⟩ => ⟨m', hm, q⟩, ?_⟩
      exact hk.1 rfl B F3 H3 σ2 (env2.step st) _ ⟨fun ρ5 F5 H5 σ5 ⟨m', hm, n5⟩ env5 => ⟨m', hm, ρ5, F5, n5, env5⟩, d.rt, d.nx, fun ρ5 F5 H5 σ5 ⟨m', hm, n5⟩ env5 => ⟨m', hm, ρ5, F5, n5, env5⟩⟩ dx
    | false =>
      rw [if_neg Bool.false_ne_true]
      exact d.nx ρ' F3 H3 σ2 (hk.2 rfl) (env2.step st)⟩
end

/-! ### comprehensions -/
def wipeS (ρ : List Sl) : List Nat → List Sl
  | [] => ρ
  | i :: r => (wipeS ρ r).set i .unk
theorem EnvOk.wipe {K : PySem.W.Frag} {B : Base} {F H : Hp} {σ : L2.St} {ρ : List Sl} (h : EnvOk K B F H σ ρ) : ∀ vs : List Nat, EnvOk K B F H (L2.wipe σ vs) (wipeS ρ vs)
  | [] => h
  | i :: r => (h.wipe r).forget none
theorem wipe_get {σ : L2.St} {j : Nat} : ∀ {vs : List Nat}, (L2.wipe σ vs)[j]? = if j ∈ vs then (if j < σ.length then some none else none) else σ[j]?
  | [] => by simp [L2.wipe]
  | i :: r => by
    show ((L2.wipe σ r).set i none)[j]? = _
    by_cases hj : j = i
    · subst hj
      rw [if_pos (by simp)]
      by_cases hl : j < σ.length
      · rw [if_pos hl, List.getElem?_set_self (by rw [wipe_length]; exact hl)]
      · rw [if_neg hl]
        exact List.getElem?_eq_none (by rw [List.length_set, wipe_length]; omega)
    · rw [List.getElem?_set_ne (Ne.symm hj), wipe_get]
      have e : (j ∈ i :: r) = (j ∈ r) := by simp [hj]
      simp only [e]
theorem wipe_eq {σ σ' : L2.St} {vs : List Nat} (hl : σ'.length = σ.length) (h : ∀ j, ¬ j ∈ vs → σ'[j]? = σ[j]?) : L2.wipe σ' vs = L2.wipe σ vs := by
  refine List.ext_getElem? fun j => ?_
  rw [wipe_get, wipe_get, hl]
  by_cases hj : j ∈ vs
  · rw [if_pos hj, if_pos hj]
  · rw [if_neg hj, if_neg hj, h j hj]
theorem wipe_wipe {σ : L2.St} {vs : List Nat} : L2.wipe (L2.wipe σ vs) vs = L2.wipe σ vs := wipe_eq (wipe_length σ vs) fun j hj => by rw [wipe_get, if_neg hj]
abbrev W0 : WX := fun _ _ _ _ => False
abbrev X0 : Exn → Prop := fun _ => False
/-- the context of a comprehension's block -/
abbrev blkX (X : Cx) (scope : Scope) (s : Shared) (H : Hp) (C : Addr) (cl : List (Str × Addr)) (fp : List Addr) : Cx := X.blk s H scope (compEnvC scope cl C X.env) fp
theorem Cxt.blk {X : Cx} {W : WX} (C : Cxt X W) {scope : Scope} {s : Shared} {H : Hp} {c : Addr} {cl : List (Str × Addr)} {fp : List Addr} : Cxt (blkX X scope s H c cl fp) W0 := ⟨takes0, PassesOwn.never, C.calm, C.nd, C.hu⟩
/-- the tests of a comprehension: none or one -/
def WTs (X : Cx) (ρ : List Sl) (ifs : List Expr) (Θ : Bool → Prop) : Prop := match ifs with
  | [] => Θ true
  | [c] => WT X W0 ρ c X0 Θ
  | _ => False
def wTs (X : Cx) (ifs : List Expr) : TT := fun σ H Q => ∀ pins s, Inv X pins σ H s → wpAny (model X.prog X.w) X.A (forIn ifs true fun c r => if r = true then do let ok ← isTrue c X.env (eval c X.env); pure (ForInStep.yield ok) else pure (ForInStep.yield r)) (TP X pins σ Q) X.xe s
theorem pts_w {X : Cx} {ifs : List Expr} : PTs X ifs (wTs X ifs) := ⟨fun pins s _ _ _ I h => h pins s I⟩
theorem wts_run {X : Cx} {ρ : List Sl} {ifs : List Expr} {Θ : Bool → Prop} {B : Base} {F H : Hp} {σ : L2.St} {Q : Bool → Hp → Prop} (h : WTs X ρ ifs Θ) (env : EnvOk X.K B F H σ ρ) (q : OkT B.M F H Θ Q) : wTs X ifs σ H Q := by
  match ifs, h with
  | [], h => exact fun pins s I => (pts_nil (X := X)).run pins s σ H Q I (q true F H h (Step.refl env.sub))
  | [c], h => exact fun pins s I => (pts_one (X := X) pt_w).run pins s σ H Q I (h B F H σ env Q q fun _ _ _ _ _ z => z.elim)
section
variable {X : Cx} {W : WX} {ρ : List Sl} {tg iter elt : Expr} {ifs : List Expr} {scope : Scope} {own : List (Str × Nat)} {Ξ : Exn → Prop} {Ψ : Sl → Prop} {pos : Pos}
/-- one turn: acc grows by y, or stays -/
def LcTurn (X : Cx) (scope : Scope) (vs : List Nat) (ρ : List Sl) (tg : Expr) (ifs : List Expr) (elt : Expr) (d : PyData) (P1 : PyData → Prop) (P0 : Prop) : Prop :=
  ∀ s H C cl fp, Cxt (blkX X scope s H C cl fp) W0 → WG (blkX X scope s H C cl fp) ρ tg d (· ∈ vs) fun ρ2 => ∀ s H C cl fp, Cxt (blkX X scope s H C cl fp) W0 → WTs (blkX X scope s H C cl fp) ρ2 ifs fun b =>
    (b = true → ∀ s H C cl fp, Cxt (blkX X scope s H C cl fp) W0 → WE (blkX X scope s H C cl fp) W0 ρ2 elt X0 P1) ∧ (b = false → P0)
/-- the reading of a comprehension -/
abbrev tLcW (X : Cx) (scope : Scope) (own : List (Str × Nat)) (tg iter elt : Expr) (ifs : List Expr) : TE :=
  tLc (wI X tg iter) (fun v σ H Q => ∀ s H0 C cl fp, wG (blkX X scope s H0 C cl fp) tg v σ H Q) (fun σ H Q => ∀ s H0 C cl fp, wTs (blkX X scope s H0 C cl fp) ifs σ H Q) (fun σ H Q => ∀ s H0 C cl fp, wE (blkX X scope s H0 C cl fp) elt σ H Q) (own.map (·.2))
/-- what is asked of a comprehension -/
def LcOk (X : Cx) (W : WX) (ρ : List Sl) (scope : Scope) (own : List (Str × Nat)) (tg iter elt : Expr) (ifs : List Expr) (Ξ : Exn → Prop) (Ψ : Sl → Prop) : Prop :=
  WI X W ρ tg iter Ξ fun ds => ∃ I : Nat → List PyData → Prop, I 0 [] ∧ (∀ i d acc, ds[i]? = some d → I i acc → acc.length < 8000000 ∧ LcTurn X scope (own.map (·.2)) (wipeS ρ (own.map (·.2))) tg ifs elt d (fun y => I (i + 1) (acc ++ [y])) (I (i + 1) acc)) ∧ ∀ acc, I ds.length acc → Ψ (.own acc)
theorem lc_run (C : Cxt X W) (h : LcOk X W ρ scope own tg iter elt ifs Ξ Ψ) {B : Base} {F H : Hp} {σ : L2.St} (env : EnvOk X.K B F H σ ρ) {Q : VK} (q : OkK X.K B.M F H Ψ Q) (qx : ExE X.K B.M F H W σ Ξ) : tLcW X scope own tg iter elt ifs σ H Q := by
  refine h B F H σ env _ (fun J ds F1 H1 hI st ok2 => ?_) qx
  obtain ⟨I, i0, step, fin⟩ := hI
  intro D hD
  have env1 := env.step st
  have nD : ¬ B.M D := env1.notM (env1.fresh0 hD)
  -- behind i turns
  refine ⟨fun i m H' => m = ds.length - i ∧ i ≤ ds.length ∧ ∃ F' acc accV, I i acc ∧ Step B.M F1 H1 F' H' ∧ F' D = none ∧ H' D = some (.lst accV) ∧ RpAll X.K F' accV acc, ⟨_, rfl, Nat.zero_le _, F1, [], [], i0, Step.own st.sub hD, none_sub st.sub hD, upd_same, .nil⟩, ?_⟩
  rintro i m H2 ⟨rfl, hi, F2, acc, accV, hI, st2, fD, hD2, ra⟩
  by_cases hlt : i < ds.length
  · refine .inr ⟨ok2.go i F2 H2 st2.fr st2.sub hlt, fun H' => ∃ F' acc accV, I (i + 1) acc ∧ Step B.M F1 H1 F' H' ∧ F' D = none ∧ H' D = some (.lst accV) ∧ RpAll X.K F' accV acc, fun H' q' => ⟨ds.length - (i + 1), by omega, rfl, hlt, q'⟩, fun v H3 hy => ?_⟩
    obtain ⟨F3, st3, rv⟩ := ok2.yld i F2 H2 v H3 ds[i] st2.fr st2.sub (List.getElem?_eq_getElem hlt) hy
    obtain ⟨hlen, turn⟩ := step i _ acc (List.getElem?_eq_getElem hlt) hI
    have envW := ((env1.step (st2.trans st3)).wipe (own.map (·.2)))
    intro s0 H0 c0 cl0 fp0
    refine turn s0 H0 c0 cl0 fp0 C.blk B F3 H3 _ v envW rv _ fun ρ2 σ2 tst env4 hl hT => ⟨?_, fun s5 H5 c5 cl5 fp5 => ?_⟩
    · rw [wipe_eq (vs := own.map (·.2)) hl hT, wipe_wipe]
    · refine wts_run (tst s5 H5 c5 cl5 fp5 C.blk) env4 fun b F6 H6 hb st6 => ?_
      have fD6 : F6 D = none := by
        rw [st6.new D (by rw [st3.keep D _ nD hD2]; exact fun z => nomatch z), st3.new D (by rw [hD2]; exact fun z => nomatch z)]
        exact fD
      have hD6 : H6 D = some (.lst accV) := st6.keep D _ nD (st3.keep D _ nD hD2)
      cases b with
      | true =>
        rw [if_pos rfl]
        intro s7 H7 c7 cl7 fp7
        refine hb.1 rfl s7 H7 c7 cl7 fp7 C.blk B F6 H6 σ2 (env4.step st6) _ (fun y d F8 H8 hy8 st8 ry => ?_) (fun _ _ _ _ _ z => z.elim)
        have hD8 : H8 D = some (.lst accV) := st8.keep D _ nD hD6
        have fD8 : F8 D = none := by
          rw [st8.new D (by rw [hD6]; exact fun z => nomatch z)]
          exact fD6
        have all := ((st2.trans st3).trans st6).trans st8
        refine ⟨accV, hD8, Nat.lt_of_lt_of_le (by rw [ra.len]; exact hlen) (by decide : 8000000 ≤ sizeLine), F8, acc ++ [d], accV ++ [y], hy8, ⟨all.fr, fun a x e => ?_, fun a x n e => ?_, all.new, fun a n => ?_, fun a m dr => ?_⟩, fD8, upd_same, (RpAll.mono ((st3.fr.trans st6.fr).trans st8.fr) _ _ ra).append (.cons ry .nil)⟩
        · have np : a ≠ D := fun z => by rw [z, fD8] at e; cases e
          rw [upd_ne np]
          exact all.sub a x e
        · have np : a ≠ D := fun z => by rw [z, hD] at e; cases e
          rw [upd_ne np]
          exact all.keepD a x n e
        · have np : a ≠ D := fun z => n (by rw [z]; exact hD)
          rw [upd_ne np]
          exact all.alive a n
        · have np : a ≠ D := fun z => nD (by rw [← z]; exact m)
          obtain ⟨x, y', ns, h1, h2, h3, h4⟩ := all.dr a m dr
          exact ⟨x, y', ns, h1, h2, h3, by rw [upd_ne np]; exact h4⟩
      | false =>
        rw [if_neg Bool.false_ne_true]
        exact ⟨F6, acc, accV, hb.2 rfl, (st2.trans st3).trans st6, fD6, hD6, RpAll.mono (st3.fr.trans st6.fr) _ _ ra⟩
  · have e : i = ds.length := by omega
    subst e
    exact .inl ⟨ok2.stop _ F2 H2 st2.fr st2.sub (Nat.le_refl _), q _ (.own acc) F2 H2 (fin acc hI) (st.trans st2) ⟨D, accV, rfl, st.back D hD, hD2, fD, ra⟩⟩
theorem wk_lc (C : Cxt X W) (ok : BlkOk X.N X.env.scope scope own) (h : LcOk X W ρ scope own tg iter elt ifs Ξ Ψ) (hs : ∀ x, foldedSetIterable iter X.env x = pure x := by intro _; rfl) : WK X W ρ (.ListComp elt [⟨tg, iter, ifs, 0⟩] scope pos) Ξ Ψ := fun B F H σ env Q q qx =>
  wE_of (pe_lc C.calm C.nd pi_w ok (fun s H0 C cl fp => ⟨fun pins s1 σ H v u Q I r h => h s H0 C cl fp pins s1 u I r⟩) (fun s H0 C cl fp => ⟨fun pins s1 σ H Q I h => h s H0 C cl fp pins s1 I⟩) (fun s H0 C cl fp => ⟨fun pins s1 σ H Q I h => h s H0 C cl fp pins s1 I⟩) hs) (lc_run C h env q qx)
/-- x = [..] on one line -/
theorem w1_setLc {Ξ : Xi} {E : En} (i : Nat) {x : Str} {px spos : Pos} (C : Cxt X W) (ok : BlkOk X.N X.env.scope scope own) (h : LcOk X W ρ scope own tg iter elt ifs (xat Ξ ρ) fun s => E.nx (ρ.set i s)) (hN : X.N[i]? = some x := by rfl) (hy : X.env.scope.names.lookup x = some .local := by rfl)
    (hsw : swapsWith (.ListComp elt [⟨tg, iter, ifs, 0⟩] scope pos) (some (.Name x px)) spos.line X.env = pure true := by exact sw_true rfl rfl rfl (by decide +kernel))
    (hs : ∀ x, foldedSetIterable iter X.env x = pure x := by intro _; rfl) : W1 X W ρ (.Assign [.Name x px] (.ListComp elt [⟨tg, iter, ifs, 0⟩] scope pos) spos) Ξ E := fun B F H σ env D d dx =>
  wS1_of (ps_setLc C.calm C.nd hN hy hsw pi_w ok (fun s H0 C cl fp => ⟨fun pins s1 σ H v u Q I r h => h s H0 C cl fp pins s1 u I r⟩) (fun s H0 C cl fp => ⟨fun pins s1 σ H Q I h => h s H0 C cl fp pins s1 I⟩) (fun s H0 C cl fp => ⟨fun pins s1 σ H Q I h => h s H0 C cl fp pins s1 I⟩) hs)
    (lc_run C h env (Q := fun v H1 => gName i v σ H1 D.nx) (fun v s F2 H2 hs st r => d.nx _ F2 H2 _ hs (env.putK st r)) (dx.at env))
end

/-! ### a def by its body -/
def Ag.sl : Ag → Sl
  | .dat d => .dat d
  | .drw => .drw
  | .scr ns => .scr ns
section
variable {P : Program} {w : World} {K : PySem.W.Frag} {mg : Str → Option Value} {base : Heap}
theorem ag_len {M : Addr → Prop} {F H : Hp} : ∀ {vs : List V} {as : List Ag}, AgAll K M F H vs as → vs.length = as.length
  | _, _, .nil => rfl
  | _, _, .cons _ t => by rw [List.length_cons, List.length_cons, ag_len t]
theorem ag_get {M : Addr → Prop} {F H : Hp} : ∀ {vs : List V} {as : List Ag} {i : Nat} {a : Ag}, AgAll K M F H vs as → as[i]? = some a → ∃ v, vs[i]? = some v ∧ AgOk K M F H v a
  | _, _, _, _, .nil, e => by simp at e
  | _, _, 0, _, .cons r _, e => by simp at e; subst e; exact ⟨_, rfl, r⟩
  | _, _, i + 1, a, .cons _ t, e => by
    obtain ⟨v, h1, h2⟩ := ag_get (i := i) (a := a) t (by simpa using e)
    exact ⟨v, by simpa using h1, h2⟩
/-- the slots at a def's entry -/
def slots (as : List Ag) (n : Nat) : List Sl := as.map Ag.sl ++ List.replicate (n - as.length) .unk
theorem env_start {N : List Str} {M : Addr → Prop} {F H : Hp} {vs : List V} {as : List Ag} (s : Same F H) (hM : ∀ p, M p → H p ≠ none) (r : AgAll K M F H vs as) : EnvOk K ⟨F, M, F, H⟩ F H (start N vs) (slots as N.length) where
  st := StepE.refl s
  mh := hM
  gf := Same.refl F
  len := by simp [L2.start, slots, ag_len r]
  sl := fun i t e => by
    unfold slots at e
    by_cases hi : i < as.length
    · rw [List.getElem?_append_left (by rw [List.length_map]; exact hi), List.getElem?_map, List.getElem?_eq_getElem hi] at e
      cases e
      obtain ⟨v, ev, ok⟩ := ag_get r (List.getElem?_eq_getElem hi)
      have hv : (start N vs)[i]? = some (some v) := by
        unfold L2.start
        rw [List.getElem?_append_left (by rw [List.length_map, ag_len r]; exact hi), List.getElem?_map, ev]
        rfl
      rw [hv]
      cases h : as[i] with
      | dat d => rw [h] at ok; exact ⟨v, rfl, ok⟩
      | drw =>
        rw [h] at ok
        obtain ⟨p, rfl, m, d, f⟩ := ok
        exact ⟨p, rfl, m, d, f⟩
      | scr ns =>
        rw [h] at ok
        obtain ⟨p, rfl, q⟩ := ok
        exact ⟨p, rfl, q⟩
    · rw [List.getElem?_append_right (by rw [List.length_map]; omega), List.getElem?_replicate] at e
      split at e
      · cases e
        trivial
      · cases e
  ne := fun i j t u p n e1 e2 o1 o2 _ _ => by
    have noOwn : ∀ {k : Nat} {z : Sl}, (slots as N.length)[k]? = some z → z.isOwn = false := fun {k z} e => by
      unfold slots at e
      by_cases hi : k < as.length
      · rw [List.getElem?_append_left (by rw [List.length_map]; exact hi), List.getElem?_map, List.getElem?_eq_getElem hi] at e
        cases e
        cases as[k] <;> rfl
      · rw [List.getElem?_append_right (by rw [List.length_map]; omega), List.getElem?_replicate] at e
        split at e
        · cases e
          rfl
        · cases e
    rw [noOwn e1] at o1
    cases o1
/-- the wish of a def's own frame -/
abbrev wDef (E : XK) : WX := fun cls d _ H => E cls d H
theorem def_of {x qual : Str} {st : Stmt} {f : Addr} {fd : FuncData} {N ps : List Str} {k : Nat} {pr : Pr} (F : Fun K x qual st f fd) (S : FnScope N ps (defScope st)) (hm : mg x = some (.ref f)) (hb : Binds K fd ps []) (hl : ∀ as Φ Ξ, pr as Φ Ξ → as.length = ps.length)
    (body : ∀ (cdv : Value) (A : Around) (outer : List Env) (s : Shared) (H : Hp) (E : XK), Room k (A.deeper (PyProof.Rows.envOfC qual (defScope st) s.heap.objs.size f cdv)) → Cxt (cxOf (L2.CX P w) P w K mg base N qual (defScope st) f cdv A outer s H E) (wDef E) →
      ∀ as Φ Ξ, pr as Φ Ξ → WS (cxOf (L2.CX P w) P w K mg base N qual (defScope st) f cdv A outer s H E) (wDef E) (slots as N.length) (defBody st) (fun y _ => Ξ y) { nx := fun _ => Φ (.dat .none), rt := Φ }) :
    Def P w K mg base x ps.length (k + 1) pr := by
  refine ⟨f, fd, ps, hm, F.kp, hb, rfl, F.okX S (fun vs H Q E h => ?_) fun cdv A outer s H vs Q E hr h => ?_⟩
  · obtain ⟨M, F0, as, Φ, Ξ, _, _, ra, hp, _⟩ := h
    rw [ag_len ra]
    exact hl _ _ _ hp
  · obtain ⟨M, F0, as, Φ, Ξ, sf, hM, ra, hp, q, qx⟩ := h
    have C : Cxt (cxOf (L2.CX P w) P w K mg base N qual (defScope st) f cdv A outer s H E) (wDef E) := ⟨takes_of rfl rfl rfl rfl, passes_of rfl, rfl, S.nd, hr.units⟩
    refine ⟨_, pss_w, body cdv A outer s H E hr C as Φ Ξ hp ⟨F0, M, F0, H⟩ F0 H _ (env_start sf hM ra) _ ⟨fun ρ F2 H2 σ hn env => ?_, fun v t F2 H2 hs st r => q v t F2 H2 hs st r, fun _ _ _ _ z => z.elim, fun _ _ _ _ z => z.elim⟩ ?_⟩
    · exact q _ (.dat .none) F2 H2 hn env.st Rp.non
    · exact fun cls dd y ρ F2 H2 σ hy env r => qx cls dd y F2 H2 hy env.st r
end
end Mv

set_option maxRecDepth 100000
set_option maxHeartbeats 4000000
/-! isinstance, assignments of several, items stored, extend, raise, try -/
namespace Mv
open PySem L2

/-! ### isinstance of built-in classes -/
def tyName : PyData → String
  | .none => "NoneType"
  | .bool _ => "bool"
  | .int _ => "int"
  | .str _ => "str"
  | .list _ => "list"
  | .tuple _ => "tuple"
  | .dict _ => "dict"
def isTy (T : String) (d : PyData) : Option Bool := match d with
  | .dict _ => none
  | d => kitB (tyName d) T
theorem isTy_inv {T : String} {d : PyData} {b : Bool} (h : isTy T d = some b) : kitB (tyName d) T = some b := by
  cases d with
  | dict _ => cases h
  | _ => exact h
theorem rp_ty {K : PySem.W.Frag} {F H : Hp} {v : V} {d : PyData} (s : Same F H) (r : Rp K F v d) {T : String} {b : Bool} (hb : isTy T d = some b) : TyX K H v (.type (tyName d)) := by
  cases r with
  | non => exact .base .non
  | bl b => exact .base (.bl b)
  | int i => exact .base (.int i)
  | str x => exact .base (.str x)
  | lst h _ => exact .base (.lst (s _ _ h))
  | tup h _ =>
    rcases h with (h | ⟨o, h⟩) | ⟨o, its, n, hk, hc, _⟩
    · exact .base (.tup (s _ _ h))
    · exact .fTuple (s _ _ h)
    · exact .kTuple hk hc
  | dct _ => cases hb
  | ex0 _ => cases hb
  | ex1 _ _ _ => cases hb
section
variable {X : Cx} {W : WX} {ρ : List Sl} {e : Expr} {es : List Expr} {Ξ : Exn → Prop} {Φ : PyData → Prop} {pos : Pos}
theorem we_isi {x : Str} {t : String} {p px : Pos} (hm : X.mg "isinstance" = none) (hx : X.mg x = none) (hv : bootBuiltins x = some (.type t)) (h : WE X W ρ e Ξ fun d => ∃ b, isTy t d = some b ∧ Φ (.bool b)) (hg : Gl X "isinstance" := by rfl) (hgx : Gl X x := by rfl) (hn : x ≠ "__name__" := by decide) (hdb : (x == ("__debug__" : Str)) = false := by decide)
    (he : starEach [e, .Name x px] X.env = (false, eval e X.env) :: starEach [.Name x px] X.env := by rfl) (he2 : starEach [.Name x px] X.env = (false, eval (.Name x px) X.env) :: starEach [] X.env := by rfl) (hpl : (backTo pos (starEach [.Name x px] X.env)).any (·.1) = false := by rfl) : WE X W ρ (.Call (.Name "isinstance" p) [e, .Name x px] [] pos) Ξ Φ := fun B F H σ env Q q qx =>
  wE_of (pe_callB call_isi hg hm (by decide +kernel) (pa_cons pe_w (pa_cons (pe_bltn (v := .ty t) hgx hx hv rfl hn hdb) pa_nil he2) he) (by decide) (by decide) he hpl) (h B F H σ env _ (fun v d F1 H1 hd st r => by
    obtain ⟨b, hb, hΦ⟩ := hd
    exact ⟨v, .ty t, .type (tyName d), .type t, b, rfl, .ty t, rp_ty st.sub r hb, kit_ty (isTy_inv hb), q _ _ F1 H1 hΦ st (.bl b)⟩) qx)
/-- isinstance(x, (T, U)) -/
theorem we_isi2 {x y : Str} {t u : String} {p px py pt : Pos} {k1} (hm : X.mg "isinstance" = none) (hx : X.mg x = none) (hv : bootBuiltins x = some (.type t)) (hy : X.mg y = none) (hw : bootBuiltins y = some (.type u)) (h : WE X W ρ e Ξ fun d => ∃ b c, isTy t d = some b ∧ isTy u d = some c ∧ Φ (.bool (b || c))) (hg : Gl X "isinstance" := by rfl) (hgx : Gl X x := by rfl) (hgy : Gl X y := by rfl) (hn : x ≠ "__name__" := by decide) (hdb : (x == ("__debug__" : Str)) = false := by decide) (hn2 : y ≠ "__name__" := by decide) (hdb2 : (y == ("__debug__" : Str)) = false := by decide)
    (he : starEach [e, .Tuple [.Name x px, .Name y py] k1 pt] X.env = (false, eval e X.env) :: starEach [.Tuple [.Name x px, .Name y py] k1 pt] X.env := by rfl) (he2 : starEach [.Tuple [.Name x px, .Name y py] k1 pt] X.env = (false, eval (.Tuple [.Name x px, .Name y py] k1 pt) X.env) :: starEach [] X.env := by rfl)
    (he3 : starEach [.Name x px, .Name y py] X.env = (false, eval (.Name x px) X.env) :: starEach [.Name y py] X.env := by rfl) (he4 : starEach [.Name y py] X.env = (false, eval (.Name y py) X.env) :: starEach [] X.env := by rfl)
    (hpl : (backTo pos (starEach [.Tuple [.Name x px, .Name y py] k1 pt] X.env)).any (·.1) = false := by rfl) : WE X W ρ (.Call (.Name "isinstance" p) [e, .Tuple [.Name x px, .Name y py] k1 pt] [] pos) Ξ Φ := fun B F H σ env Q q qx =>
  wE_of (pe_callB call_isiT hg hm (by decide +kernel) (pa_cons pe_w (pa_cons (pe_tup (pa_cons (pe_bltn (v := .ty t) hgx hx hv rfl hn hdb) (pa_cons (pe_bltn (v := .ty u) hgy hy hw rfl hn2 hdb2) pa_nil he4) he3)) pa_nil he2) he) (by decide) (by decide) he hpl) (h B F H σ env _ (fun v d F1 H1 hd st r => by
    obtain ⟨b, c, hb, hc, hΦ⟩ := hd
    refine ⟨by show 2 ≤ sizeLine; decide, fun p hp => ?_⟩
    have st2 : Step B.M F1 H1 F1 (upd H1 p (.tup [.ty t, .ty u])) := Step.own st.sub hp
    refine ⟨v, p, [.ty t, .ty u], .type (tyName d), [.type t, .type u], b || c, rfl, upd_same, .cons (.ty t) (.cons (.ty u) .nil), rp_ty st2.sub r hb, ?_, q _ _ F1 _ hΦ (st.trans st2) (.bl _)⟩
    refine kitAny_cons (kit_ty (isTy_inv hb)) (fun z => ?_) (fun z => by rw [z]; rfl)
    rw [z]
    refine kitAny_cons (kit_ty (isTy_inv hc)) (fun z => ?_) (fun z => by rw [z]; rfl)
    rw [z]
    exact kitAny_nil) qx)
end
def isInt : PyData → Bool
  | .int _ => true
  | .bool _ => true
  | _ => false
def isBool : PyData → Bool
  | .bool _ => true
  | _ => false
def isStr : PyData → Bool
  | .str _ => true
  | _ => false
def isTuple : PyData → Bool
  | .tuple _ => true
  | _ => false
def isList : PyData → Bool
  | .list _ => true
  | _ => false
def isDict : PyData → Bool
  | .dict _ => true
  | _ => false

/-! ### several values with their kinds -/
inductive SlVs (K : PySem.W.Frag) (H F2 H2 : Hp) : List V → List Sl → Prop
  | nil : SlVs K H F2 H2 [] []
  | cons {v : V} {s : Sl} {vs : List V} {ss : List Sl} : SlV K H F2 H2 v s → (s.isOwn = true → ∀ u ∈ vs, u ≠ v) → SlVs K H F2 H2 vs ss → SlVs K H F2 H2 (v :: vs) (s :: ss)
def WKs (X : Cx) (W : WX) (ρ : List Sl) (es : List Expr) (Ξ : Exn → Prop) (Φ : List Sl → Prop) : Prop :=
  ∀ B F H σ, EnvOk X.K B F H σ ρ → ∀ Q : List V → Hp → Prop, (∀ vs ss F2 H2, Φ ss → Step B.M F H F2 H2 → SlVs X.K H F2 H2 vs ss → Q vs H2) → ExE X.K B.M F H W σ Ξ → wA X es σ H Q
section
variable {X : Cx} {W : WX} {ρ : List Sl} {e : Expr} {es : List Expr} {Ξ : Exn → Prop} {Φ : List Sl → Prop} {pos : Pos}
theorem wks_nil (h : Φ []) : WKs X W ρ [] Ξ Φ := fun B F H σ env Q q qx => wA_of pa_nil (q [] [] F H h (Step.refl env.sub) .nil)
/-- what is made later is not what stood before, if it is new: for data, say so by its kind -/
theorem wks_cons (h : WK X W ρ e Ξ fun s => WKs X W ρ es Ξ fun ss => (s.isOwn = true → ∀ t ∈ ss, t.isOwn = true ∨ ∃ d, t = .dat d ∧ flatD d = true) ∧ Φ (s :: ss)) (hs : starEach (e :: es) X.env = (false, eval e X.env) :: starEach es X.env := by rfl) : WKs X W ρ (e :: es) Ξ Φ := fun B F H σ env Q q qx =>
  wA_of (pa_cons pe_w pa_w hs) (h B F H σ env _ (fun v s F1 H1 hd st r => hd B F1 H1 σ (env.step st) _ (fun vs ss F2 H2 ha st2 rs => by
    have hM : ∀ p, H p = none → ¬ B.M p := fun p hp => env.notM (env.fresh0 hp)
    refine q (v :: vs) (s :: ss) F2 H2 ha.2 (st.trans st2) (.cons (r.step hM st2) (fun o u hu => ?_) ?_)
    · -- apart: v stands in H1, the others are new since H1, or flat
      have vH : ∃ p, v = .ref p ∧ H1 p ≠ none := by
        cases s with
        | own ds => obtain ⟨p, vs', e, _, h1, _⟩ := r; exact ⟨p, e, by rw [h1]; exact fun z => nomatch z⟩
        | odk ds => obtain ⟨p, vs', e, _, h1, _⟩ := r; exact ⟨p, e, by rw [h1]; exact fun z => nomatch z⟩
        | odn ds => obtain ⟨p, e, _, h1, _⟩ := r; exact ⟨p, e, by rw [h1]; exact fun z => nomatch z⟩
        | owp p ds => exact r.elim
        | _ => cases o
      obtain ⟨p, rfl, hp⟩ := vH
      have all := ha.1 o
      clear ha q hd
      induction rs with
      | nil => cases hu
      | @cons v2 s2 vs2 ss2 r2 _ _ ih =>
        rcases List.mem_cons.mp hu with rfl | hu
        · rcases all s2 List.mem_cons_self with o2 | ⟨d, rfl, fd⟩
          · cases s2 with
            | own ds => obtain ⟨p2, _, e, h0, _⟩ := r2; intro z; rw [e] at z; cases z; exact hp h0
            | odk ds => obtain ⟨p2, _, e, h0, _⟩ := r2; intro z; rw [e] at z; cases z; exact hp h0
            | odn ds => obtain ⟨p2, e, h0, _⟩ := r2; intro z; rw [e] at z; cases z; exact hp h0
            | owp _ _ => exact r2.elim
            | _ => cases o2
          · intro z
            subst z
            have r2' : Rp X.K F2 (.ref p) d := r2
            cases r2' <;> cases fd
        · exact ih hu fun t ht => all t (List.mem_cons_of_mem _ ht)
    · clear ha q hd
      induction rs with
      | nil => exact .nil
      | cons r2 a2 _ ih => exact .cons (r2.older st.back) a2 ih) (qx.step st)) qx)
end

/-! ### a, b = x, y and so on -/
def setAll : List Sl → List Nat → List Sl → List Sl
  | ρ, i :: is, s :: ss => setAll (ρ.set i s) is ss
  | ρ, _, _ => ρ
section
variable {X : Cx} {W : WX} {ρ : List Sl} {st : Stmt} {e c : Expr} {Ξ : Xi} {E : En} {pos : Pos}
/-- one after the other -/
theorem EnvOk.puts {K : PySem.W.Frag} {B : Base} {F H F2 H2 : Hp} {σ : L2.St} {v w : V} {s t : Sl} {i j : Nat} (env : EnvOk K B F H σ ρ) (st : Step B.M F H F2 H2) (h : SlVs K H F2 H2 [v, w] [s, t]) (hij : i ≠ j) : EnvOk K B F2 H2 ((σ.set i (some v)).set j (some w)) ((ρ.set i s).set j t) := by
  cases h with
  | cons r1 a1 h =>
    cases h with
    | cons r2 a2 h =>
      refine (env.putK st r1).put (r2.ok env st) fun o k u hk e ou => ?_
      by_cases hk' : k = i
      · subst hk'
        have hlt : k < (ρ.set k s).length := (List.getElem?_eq_some_iff.mp e).1
        rw [List.length_set] at hlt
        rw [List.getElem?_set_self hlt] at e
        cases e
        rw [List.getElem?_set_self (by rw [env.len]; exact hlt)]
        intro z
        exact a1 ou w List.mem_cons_self (Option.some.inj (Option.some.inj z)).symm
      · rw [List.getElem?_set_ne (Ne.symm hk')] at e ⊢
        exact r2.apart env o e ou
theorem w1_par (i j : Nat) {x y : Str} {a b : Expr} {px py pt : Pos} {kt k2 pt2} (C : Cxt X W) (h : WKs X W ρ [a, b] (xat Ξ ρ) fun ss => ∃ s t, ss = [s, t] ∧ E.nx ((ρ.set i s).set j t)) (hi : X.N[i]? = some x := by rfl) (hj : X.N[j]? = some y := by rfl) (hij : i ≠ j := by decide)
    (hx : X.env.scope.names.lookup x = some .local := by rfl) (hy : X.env.scope.names.lookup y = some .local := by rfl)
    (hw : swappedStores [.Tuple [.Name x px, .Name y py] kt pt] (.Tuple [a, b] k2 pt2) X.env = pure (some [x, y]) := by rfl)
    (hs : swapsWithSole [.Tuple [.Name x px, .Name y py] kt pt] (.Tuple [a, b] k2 pt2) pos.line X.env = pure false := by rfl) : W1 X W ρ (.Assign [.Tuple [.Name x px, .Name y py] kt pt] (.Tuple [a, b] k2 pt2) pos) Ξ E := fun B F H σ env D d dx =>
  wS1_of (ps_par C.calm C.nd hi hj hij hx hy pa_w hw hs) (h B F H σ env _ (fun vs ss F2 H2 hss st rs => by
    obtain ⟨s, t, rfl, hn⟩ := hss
    obtain ⟨v, w, rfl⟩ : ∃ v w, vs = [v, w] := by
      cases rs with
      | cons _ _ r => cases r with
        | cons _ _ r => cases r; exact ⟨_, _, rfl⟩
    exact ⟨v, w, rfl, d.nx _ F2 H2 _ hn (env.puts st rs hij)⟩) (dx.at env))

/-! ### targets that may be items of own lists -/
def WGx (X : Cx) (W : WX) (ρ : List Sl) (tg : Expr) (d : PyData) (Ξ : Exn → Prop) (Φ : List Sl → Prop) : Prop :=
  ∀ B F H σ v, EnvOk X.K B F H σ ρ → Rp X.K F v d → ∀ Q : L2.St → Hp → Prop, (∀ ρ' σ' F' H', Φ ρ' → EnvOk X.K B F' H' σ' ρ' → Same F F' → Q σ' H') → ExE X.K B.M F H W σ Ξ → wG X tg v σ H Q
theorem wgx_name (i : Nat) {x : Str} {d : PyData} {Ξ : Exn → Prop} {Φ : List Sl → Prop} (nd : X.N.Nodup) (h : Φ (ρ.set i (.dat d))) (hN : X.N[i]? = some x := by rfl) (hx : Loc X.env.scope x := by first | exact Or.inl rfl | exact Or.inr rfl)
    (hf : X.fn x = true ∨ X.env.scope.names.lookup x = some .local := by first | exact .inl rfl | exact .inr rfl) : WGx X W ρ (.Name x pos) d Ξ Φ := fun B F H σ v env r Q q _ =>
  wG_of (pg_name nd hN hx hf) (q _ _ F H h (env.set r) (Same.refl F))
theorem wgx_item (i : Nat) {x : Str} {px : Pos} {d : PyData} {ds : List PyData} {Ξ : Exn → Prop} {Φ : List Sl → Prop} (hi : ρ[i]? = some (.own ds)) (h : WE X W ρ e Ξ fun y => ∃ k j, y = .int k ∧ ixN ds.length k = some j ∧ Φ (ρ.set i (.own (ds.set j d))))
    (hN : X.N[i]? = some x := by rfl) (hv : Vis X.env.scope x := by first | exact Or.inl rfl | exact Or.inr (Or.inl rfl) | exact Or.inr (Or.inr rfl))
    (hd : (x == ("__debug__" : Str)) = false := by decide) (hcd : (x == ("__classdict__" : Str)) = false := by decide)
    (ha : ∀ v, assign (.Subscript (.Name x px) e pos) X.env v = (do
      let ov ← holding [v] (eval (.Name x px) X.env)
      let iv ← holding [v, ov] (eval e X.env)
      standAt pos
      holding [v, ov, iv] (setItem ov iv v)
      release [v, ov, iv] []) := by intro _; rfl) : WGx X W ρ (.Subscript (.Name x px) e pos) d Ξ Φ := fun B F H σ v env r Q q qx => by
  obtain ⟨p, vs, e1, hp, fp, h0, nm, ra⟩ := env.sl i _ hi
  refine wG_of (pg_sub (pv i hN hv hd hcd) pe_w set_list ha) ⟨_, e1, h B F H σ env _ (fun u y F2 H2 hy st ry => ?_) qx⟩
  obtain ⟨k, j, rfl, hj, hΦ⟩ := hy
  exact ⟨p, vs, k, j, rfl, ry.int_inv, st.keep p _ nm hp, by rw [ra.len]; exact hj, q _ _ F2 _ hΦ ((env.step st).setOwn hi e1 ((RpAll.mono st.fr _ _ ra).set j (r.mono st.fr))) st.fr⟩
def WGxs (X : Cx) (W : WX) (ρ : List Sl) (ts : List Expr) (ds : List PyData) (Ξ : Exn → Prop) (Φ : List Sl → Prop) : Prop :=
  ∀ B F H σ vs, EnvOk X.K B F H σ ρ → RpAll X.K F vs ds → ∀ Q : L2.St → Hp → Prop, (∀ ρ' σ' F' H', Φ ρ' → EnvOk X.K B F' H' σ' ρ' → Same F F' → Q σ' H') → DEx X.K B W (fun x _ => Ξ x) → wGs X ts vs σ H Q
theorem wgxs_nil {Ξ : Exn → Prop} {Φ : List Sl → Prop} (h : Φ ρ) : WGxs X W ρ [] [] Ξ Φ := fun B F H σ vs env r Q q _ pins s us I rv => by
  cases r
  exact (pgs_nil (X := X)).run pins s σ H [] us Q I rv ⟨rfl, q ρ σ F H h env (Same.refl F)⟩
theorem wgxs_cons {es : List Expr} {d : PyData} {ds : List PyData} {Ξ : Exn → Prop} {Φ : List Sl → Prop} (h : WGx X W ρ e d Ξ fun ρ' => WGxs X W ρ' es ds Ξ Φ) (hs : (assignEach (e :: es) X.env).map (·.2) = assign e X.env :: (assignEach es X.env).map (·.2) := by rfl) : WGxs X W ρ (e :: es) (d :: ds) Ξ Φ := fun B F H σ vs env r Q q qx pins s us I rv => by
  cases r with
  | cons r1 r2 =>
    rename_i v vs'
    exact (pgs_cons pg_w pgs_w hs).run pins s σ H (v :: vs') us Q I rv ⟨v, vs', rfl, h B F H σ v env r1 _ (fun ρ' σ' F' H' w env' s' => w B F' H' σ' vs' env' (RpAll.mono s' _ _ r2) Q (fun ρ2 σ2 F2 H2 w2 env2 s2 => q ρ2 σ2 F2 H2 w2 env2 (s'.trans s2)) qx) (fun cls dd y F2 H2 hy st r => qx cls dd y ρ F2 H2 σ hy (env.step st) r)⟩
theorem wgx_tup {es : List Expr} {k : Nat} {ds : List PyData} {Ξ : Exn → Prop} {Φ : List Sl → Prop} (hc : X.calm = true) (h : WGxs X W ρ es ds Ξ Φ) (hl : ds.length = es.length := by rfl) (hn : (assignEach es X.env).length = es.length := by rfl) (hst : (assignEach es X.env).findIdx? (·.1) = none := by rfl) :
    ∀ B F H σ v, EnvOk X.K B F H σ ρ → Rp X.K F v (.tuple ds) → ∀ Q : L2.St → Hp → Prop, (∀ ρ' σ' F' H', Φ ρ' → EnvOk X.K B F' H' σ' ρ' → Same F F' → Q σ' H') → DEx X.K B W (fun x _ => Ξ x) → wG X (.Tuple es k pos) v σ H Q := fun B F H σ v env r Q q qx => by
  obtain ⟨a, xs, rfl, ha, ra⟩ := r.tup_inv
  exact wG_of (pg_tup hc pgs_w hn hst) ⟨a, xs, rfl, same_t env.sub ha, by rw [ra.len]; exact hl, h B F H σ xs env ra Q q qx⟩
/-- xs[i] = e -/
theorem w1_setItem {tg : Expr} (h : WE X W ρ e (xat Ξ ρ) fun d => WGx X W ρ tg d (xat Ξ ρ) E.nx) (hs : swapsWithSole [tg] e pos.line X.env = pure false := by rfl) (hw : swappedStores [tg] e X.env = pure none := by rfl) (h1 : (assignEach [tg] X.env).map (·.2) = [assign tg X.env] := by rfl) : W1 X W ρ (.Assign [tg] e pos) Ξ E := fun B F H σ env D d dx =>
  wS1_of (ps_asg pe_w pg_w hs hw h1) (h B F H σ env _ (fun v x F1 H1 hx st r => hx B F1 H1 σ v (env.step st) r _ (fun ρ' σ' F' H' w env' _ => d.nx ρ' F' H' σ' w env') ((dx.at env).step st)) (dx.at env))
/-- t1, t2, .. = e, e data; nothing is raised meanwhile -/
theorem w1_unpack {ts : List Expr} {k : Nat} {tp : Pos} (C : Cxt X W) (h : WE X W ρ e (xat Ξ ρ) fun d => ∃ ds, d = .tuple ds ∧ ds.length = ts.length ∧ WGxs X W ρ ts ds X0 E.nx) (hn : (assignEach ts X.env).length = ts.length := by rfl) (hst : (assignEach ts X.env).findIdx? (·.1) = none := by rfl)
    (hs : swapsWithSole [.Tuple ts k tp] e pos.line X.env = pure false := by rfl) (hw : swappedStores [.Tuple ts k tp] e X.env = pure none := by rfl) (h1 : (assignEach [.Tuple ts k tp] X.env).map (·.2) = [assign (.Tuple ts k tp) X.env] := by rfl) : W1 X W ρ (.Assign [.Tuple ts k tp] e pos) Ξ E := fun B F H σ env D d dx =>
  wS1_of (ps_asg pe_w pg_w hs hw h1) (h B F H σ env _ (fun v x F1 H1 hx st r => by
    obtain ⟨ds, rfl, hl, hx⟩ := hx
    exact wgx_tup C.calm hx hl hn hst B F1 H1 σ v (env.step st) r _ (fun ρ' σ' F' H' w env' _ => d.nx ρ' F' H' σ' w env') (fun _ _ _ _ _ _ _ z => z.elim)) (dx.at env))
/-- xs.extend(e), xs own -/
theorem w1_extend (i : Nat) {x : Str} {ds : List PyData} {px ap cp : Pos} (hi : ρ[i]? = some (.own ds)) (h : WE X W ρ e (xat Ξ ρ) fun d => ∃ es, d = .list es ∧ ds.length + es.length ≤ 8000000 ∧ E.nx (ρ.set i (.own (ds ++ es))))
    (hN : X.N[i]? = some x := by rfl) (hv : Vis X.env.scope x := by first | exact Or.inl rfl | exact Or.inr (Or.inl rfl) | exact Or.inr (Or.inr rfl))
    (hd : (x == ("__debug__" : Str)) = false := by decide) (hcd : (x == ("__classdict__" : Str)) = false := by decide)
    (pe : PE X (.Call (.Attribute (.Name x px) "extend" ap) [e] [] cp) (tBM X.K "list" rExtend (tVar i) (tCons (wE X e) tNil)) := by exact pe_bm PySem.F.plainAttrs_list PySem.F.slot_list_extend PySem.F.type_list_extend mt_extend (pv _) (pa_cons pe_w pa_nil))
    (hs : swapsWith (.Call (.Attribute (.Name x px) "extend" ap) [e] [] cp) none pos.line X.env = pure false := by rfl) : W1 X W ρ (.Expr (.Call (.Attribute (.Name x px) "extend" ap) [e] [] cp) pos) Ξ E := fun B F H σ env D d dx => by
  obtain ⟨p, vs, e1, hp, fp, h0, nm, r⟩ := env.sl i _ hi
  refine wS1_of (ps_expr pe hs) ⟨_, e1, .inl ⟨rfl, _, SqL.of hp⟩, h B F H σ env _ (fun v y F2 H2 hy st ry => ?_) (dx.at env)⟩
  obtain ⟨es, rfl, hz, hE⟩ := hy
  obtain ⟨b, ys, rfl, hb, rb⟩ := ry.lst_inv
  have h2 : H2 p = some (.lst vs) := st.keep p _ nm hp
  have env2 := env.step st
  exact ⟨p, b, vs, ys, rfl, rfl, h2, st.sub _ _ hb, Nat.le_trans (by rw [r.len, rb.len]; exact hz) (by decide), d.nx _ F2 _ σ hE (env2.setOwn hi e1 ((RpAll.mono st.fr _ _ r).append rb))⟩
end

/-! ### raise, try -/
/-- an own exception class without own __init__, over ValueError -/
structure ExcC (K : PySem.W.Frag) (mg : Str → Option Value) (x : Str) (C : Addr) : Prop where
  g : mg x = some (.ref C)
  q : PySem.W.excIn K C [.type "ValueError", .type "Exception", .type "BaseException", .type "object"] "ValueError.__new__" = true
  k : PySem.W.keepIn K (.ref C) = true
  b : PySem.W.subIn K (.ref C) (.type "BaseException") = some true
  t : PySem.W.typeIn K (.ref C) = some (.type "type")
section
variable {X : Cx} {W : WX} {ρ : List Sl} {Ξ : Xi} {E : En} {pos : Pos}
theorem pmk_own0 {C : Addr} {bmB : List Value} {B newId initId : String} {x : Str} {p pos : Pos} (F : PySem.ExcBaseFacts B newId initId bmB) (q : PySem.W.excIn X.K C bmB newId = true) (gC : X.mg x = some (.ref C)) (kC : PySem.W.keepIn X.K (.ref C) = true) (r : Raises X (.ref C)) (hg : Gl X x)
    (hdb : (x == ("__debug__" : Str)) = false := by decide) : PMk X (.Call (.Name x p) [] [] pos) (fun _ H Q => Q (.ref C) none H) := by
  intro pins s σ H Q I h
  refine wpAny_Call_Name_kw (ld_glob I hg gC ?_ hdb)
  refine PySem.W.callWith_K0 I.kIn kC ?_
  show wpAny _ _ (call (.ref C) []) _ _ _
  obtain ⟨bm, N, nm, qn, bs, hdct, sn, sub, ab, col, dd, k0, k1, k2, k3, k5, mN, hC, hN, hni, T⟩ := exc_obj I.kIn q
  refine wpAny_call_exc_subT F T hC hN hni (fun h' e hm => ?_) (by show 0 ≤ sizeLine; decide)
  exact mk_of I hm r h (I.hok.gone hm.new)
theorem w1_raise {C : Addr} {x : Str} {p cp : Pos} (Cx : Cxt X W) (T : ExcC X.K X.mg x C) {k : Kd} (hk : C = kA X.K k) (h : Ξ ⟨k, []⟩ ρ) (hg : Gl X x := by rfl) (hdb : (x == ("__debug__" : Str)) = false := by decide) : W1 X W ρ (.Raise (some (.Call (.Name x p) [] [] cp)) none pos) Ξ E := fun B F H σ env D d dx =>
  wS1_of (ps_raise Cx.calm Cx.tk (pmk_own0 PySem.F.excBase_ValueError T.q T.g T.k (raises_own T.b T.t) hg hdb)) (dx _ _ ⟨k, []⟩ ρ F H σ h env ⟨by rw [hk], .inl rfl⟩)
/-- what the clauses do with an exception: the first that takes it -/
def Catch (X : Cx) (Ξ : Xi) (E : En) (x : Exn) (ρ : List Sl) : List (Value × List Stmt) → Prop
  | [] => Ξ x ρ
  | (c, suite) :: r => ∃ b, PySem.W.exmOne X.K (.ref (kA X.K x.k)) c = some b ∧ (b = true → ∀ a oe pn, WS (X.suite a ((a, oe) :: pn)) W0 ρ suite (fun _ _ => False) E) ∧ (b = false → Catch X Ξ E x ρ r)
inductive HdsD (X : Cx) : List ExceptHandler → List (Value × List Stmt) → Prop
  | nil : HdsD X [] []
  | cons {x : Str} {c : Value} {b₀ : Stmt} {suite : List Stmt} {np pos' : Pos} {hds : List ExceptHandler} {l : List (Value × List Stmt)} (hc : Names X x c) (r : HdsD X hds l) : HdsD X (.ExceptHandler (some (.Name x np)) none (b₀ :: suite) pos' :: hds) ((c, b₀ :: suite) :: l)
def suiteT (X : Cx) (ss : List Stmt) : Addr → Value → Option Addr → TS := fun a cls d D σ H => ∀ oe pn, Zc cls d oe → (∃ vs, oe.data = .fields vs) → wSs (X.suite a ((a, oe) :: pn)) ss D σ H
theorem HdsD.ok : ∀ {hds : List ExceptHandler} {l : List (Value × List Stmt)}, HdsD X hds l → HdsOk X hds (l.map fun p => (p.1, suiteT X p.2))
  | _, _, .nil => .nil
  | _, _, .cons hc r => .cons hc (fun a oe cls d pn hz hf => ⟨fun pins s σ H D I h => h oe pn hz hf pins s I⟩) r.ok
theorem catch_run {B : Base} {D : Ends} (d : DOk X.K B E D) (dx : DEx X.K B W Ξ) {cls : Value} {dd : Option Addr} {x : Exn} {F2 H2 : Hp} {σ2 : L2.St} (env2 : EnvOk X.K B F2 H2 σ2 ρ) (r : ExRp X.K F2 H2 cls dd x) : ∀ {l : List (Value × List Stmt)}, Catch X Ξ E x ρ l →
    wMany X.K W D (l.map fun p => (p.1, suiteT X p.2)) cls dd σ2 H2
  | [], hx => dx cls dd x ρ F2 H2 σ2 hx env2 r
  | (c, suite) :: l, hx => by
    obtain ⟨b, hb, h1, h2⟩ := hx
    have e : cls = .ref (kA X.K x.k) := r.1
    exact ⟨b, by rw [e]; exact hb, fun e a ha oe pn' _ _ => h1 e a oe pn' B F2 H2 σ2 env2 D ⟨d.nx, d.rt, d.bk, d.ct⟩ (fun _ _ _ _ _ _ _ z => z.elim), fun e => catch_run d dx env2 r (h2 e)⟩
theorem w1_try {body : List Stmt} {h₀ : ExceptHandler} {hds : List ExceptHandler} {l : List (Value × List Stmt)} (C : Cxt X W) (hs : X.stack = X.env :: X.outer) (hf : X.env.frame = some X.env.locals) (hh : HdsD X (h₀ :: hds) l)
    (h : ∀ W' pn xe, Cxt (X.tr pn xe) W' → WS (X.tr pn xe) W' ρ body (fun x ρ' => Catch X Ξ E x ρ' l) E) : W1 X W ρ (.Try body (h₀ :: hds) [] [] pos) Ξ E := fun B F H σ env D d dx => by
  refine wS1_of (ps_try_many (tb := fun W' D σ H => ∀ pn xe, Takes (X.tr pn xe) W' → PassesOwn (model X.prog X.w) X.A X.env xe → wSs (X.tr pn xe) body D σ H) hs hf C.tk (fun W' pn xe tk po => ⟨fun pins s σ H D I h => h pn xe tk po pins s I⟩) hh.ok) ?_
  intro pn xe tk po
  exact h _ pn xe ⟨tk, po, C.calm, C.nd, C.hu⟩ B F H σ env D ⟨d.nx, d.rt, d.bk, d.ct⟩ fun cls dd x ρ' F2 H2 σ2 hx env2 r => catch_run d dx env2 r hx
end
end Mv
namespace Mv
open PySem L2
theorem bb_len : bootBuiltins "len" = some (.builtin "len") := by decide +kernel
theorem bb_isinstance : bootBuiltins "isinstance" = some (.builtin "isinstance") := by decide +kernel
theorem bb_abs : bootBuiltins "abs" = some (.builtin "abs") := by decide +kernel
theorem bb_max : bootBuiltins "max" = some (.builtin "max") := by decide +kernel
theorem bb_min : bootBuiltins "min" = some (.builtin "min") := by decide +kernel
theorem bb_sum : bootBuiltins "sum" = some (.builtin "sum") := by decide +kernel
theorem bb_all : bootBuiltins "all" = some (.builtin "all") := by decide +kernel
theorem bb_any : bootBuiltins "any" = some (.builtin "any") := by decide +kernel
theorem bb_sorted : bootBuiltins "sorted" = some (.builtin "sorted") := by decide +kernel
theorem bb_int : bootBuiltins "int" = some (.type "int") := by decide +kernel
theorem bb_bool : bootBuiltins "bool" = some (.type "bool") := by decide +kernel
theorem bb_str : bootBuiltins "str" = some (.type "str") := by decide +kernel
theorem bb_tuple : bootBuiltins "tuple" = some (.type "tuple") := by decide +kernel
theorem bb_list : bootBuiltins "list" = some (.type "list") := by decide +kernel
theorem bb_dict : bootBuiltins "dict" = some (.type "dict") := by decide +kernel
theorem bb_set : bootBuiltins "set" = some (.type "set") := by decide +kernel
theorem bb_range : bootBuiltins "range" = some (.type "range") := by decide +kernel
theorem asDat_dat {Φ : PyData → Prop} {d : PyData} (h : Φ d) : asDat Φ (.dat d) := h
theorem asDat_own {Φ : PyData → Prop} {ds : List PyData} (h : Φ (.list ds)) : asDat Φ (.own ds) := h
theorem fin_dat {Φ : Sl → Prop} {x y : PyData} (q : Φ (.dat x)) (e : x = y) : Φ (.dat y) := e ▸ q
theorem fin_own {Φ : Sl → Prop} {x y : List PyData} (q : Φ (.own x)) (e : x = y) : Φ (.own y) := e ▸ q
/-- a def as the top has left it -/
structure Fn (K : PySem.W.Frag) (mg : Str → Option Value) (x : Str) (st : Stmt) (ps : List Str) : Prop where
  ex : ∃ f fd, Fun K x x st f fd ∧ mg x = some (.ref f) ∧ Binds K fd ps []
section
variable {P : Program} {w : World} {K : PySem.W.Frag} {mg : Str → Option Value} {base : Heap}
theorem fn_def {x : Str} {st : Stmt} {N ps : List Str} {k : Nat} {pr : Pr} (F : Fn K mg x st ps) (S : FnScope N ps (defScope st)) (hl : ∀ as Φ Ξ, pr as Φ Ξ → as.length = ps.length)
    (body : ∀ (f : Addr) (cdv : Value) (A : Around) (outer : List Env) (s : Shared) (H : Hp) (E : XK), Room k (A.deeper (PyProof.Rows.envOfC x (defScope st) s.heap.objs.size f cdv)) → Cxt (cxOf (L2.CX P w) P w K mg base N x (defScope st) f cdv A outer s H E) (wDef E) →
      ∀ as Φ Ξ, pr as Φ Ξ → WS (cxOf (L2.CX P w) P w K mg base N x (defScope st) f cdv A outer s H E) (wDef E) (slots as N.length) (defBody st) (fun y _ => Ξ y) { nx := fun _ => Φ (.dat .none), rt := Φ }) :
    Def P w K mg base x ps.length (k + 1) pr := by
  obtain ⟨f, fd, F, hm, hb⟩ := F.ex
  exact def_of F S hm hb hl (body f)
end
end Mv

set_option maxRecDepth 100000
set_option maxHeartbeats 4000000
/-! the built-in names, constants, further short rules -/
namespace Mv
open PySem L2
/-- no built-in name is taken by the module -/
structure Txt (mg : Str → Option Value) : Prop where
  abs : mg "abs" = none
  all : mg "all" = none
  any : mg "any" = none
  bool : mg "bool" = none
  dict : mg "dict" = none
  enumerate : mg "enumerate" = none
  int : mg "int" = none
  isinstance : mg "isinstance" = none
  len : mg "len" = none
  list : mg "list" = none
  max : mg "max" = none
  min : mg "min" = none
  range : mg "range" = none
  set : mg "set" = none
  sorted : mg "sorted" = none
  str : mg "str" = none
  sum : mg "sum" = none
  tuple : mg "tuple" = none
/-- a constant of the module -/
structure Cst (K : PySem.W.Frag) (mg : Str → Option Value) (x : Str) (d : PyData) : Prop where
  ex : ∃ v u, mg x = some u ∧ RelV v u ∧ ∀ F, Rp K F v d
theorem cst_int {K : PySem.W.Frag} {mg : Str → Option Value} {x : Str} {i : Int} {t : Tok} (h : mg x = some (.int i t)) : Cst K mg x (.int i) := ⟨.int i, _, h, ⟨t, rfl⟩, fun _ => .int i⟩
theorem cst_str {K : PySem.W.Frag} {mg : Str → Option Value} {x : Str} {i : Str} {t : Tok} (h : mg x = some (.str i t)) : Cst K mg x (.str i) := ⟨.str i, _, h, ⟨t, rfl⟩, fun _ => .str i⟩
section
variable {X : Cx} {W : WX} {ρ : List Sl} {st : Stmt} {e a b c : Expr} {Ξ : Exn → Prop} {Φ : PyData → Prop} {Ψ : Sl → Prop} {E : En} {pos : Pos}
theorem we_cst {x : Str} {d : PyData} (c : Cst X.K X.mg x d) (h : Φ d) (hg : Gl X x := by rfl) (hd : (x == ("__debug__" : Str)) = false := by decide) : WE X W ρ (.Name x pos) Ξ Φ := by
  obtain ⟨v, u, hm, r, rd⟩ := c.ex
  exact we_glob hm r rd h hg hd
theorem wpow_5 {X : Cx} {Φ : PyData → Prop} (h : Φ (.int 100000)) : WOp X (rI CPow fun i j => .int (i ^ j.toNat)) (.int 10) (.int 5) Φ := wpow_int (by decide) (by decide) (by decide) (by rw [show (10 : Int) ^ (5 : Int).toNat = 100000 from by decide +kernel]; exact h)
theorem wpow_6 {X : Cx} {Φ : PyData → Prop} (h : Φ (.int 1000000)) : WOp X (rI CPow fun i j => .int (i ^ j.toNat)) (.int 10) (.int 6) Φ := wpow_int (by decide) (by decide) (by decide) (by rw [show (10 : Int) ^ (6 : Int).toNat = 1000000 from by decide +kernel]; exact h)
theorem wpow_9 {X : Cx} {Φ : PyData → Prop} (h : Φ (.int 1000000000)) : WOp X (rI CPow fun i j => .int (i ^ j.toNat)) (.int 10) (.int 9) Φ := wpow_int (by decide) (by decide) (by decide) (by rw [show (10 : Int) ^ (9 : Int).toNat = 1000000000 from by decide +kernel]; exact h)
theorem wpow_10 {X : Cx} {Φ : PyData → Prop} (h : Φ (.int 10000000000)) : WOp X (rI CPow fun i j => .int (i ^ j.toNat)) (.int 10) (.int 10) Φ := wpow_int (by decide) (by decide) (by decide) (by rw [show (10 : Int) ^ (10 : Int).toNat = 10000000000 from by decide +kernel]; exact h)
theorem wpow_11 {X : Cx} {Φ : PyData → Prop} (h : Φ (.int 100000000000)) : WOp X (rI CPow fun i j => .int (i ^ j.toNat)) (.int 10) (.int 11) Φ := wpow_int (by decide) (by decide) (by decide) (by rw [show (10 : Int) ^ (11 : Int).toNat = 100000000000 from by decide +kernel]; exact h)
theorem wpow_12 {X : Cx} {Φ : PyData → Prop} (h : Φ (.int 1000000000000)) : WOp X (rI CPow fun i j => .int (i ^ j.toNat)) (.int 10) (.int 12) Φ := wpow_int (by decide) (by decide) (by decide) (by rw [show (10 : Int) ^ (12 : Int).toNat = 1000000000000 from by decide +kernel]; exact h)
theorem wpow_14 {X : Cx} {Φ : PyData → Prop} (h : Φ (.int 100000000000000)) : WOp X (rI CPow fun i j => .int (i ^ j.toNat)) (.int 10) (.int 14) Φ := wpow_int (by decide) (by decide) (by decide) (by rw [show (10 : Int) ^ (14 : Int).toNat = 100000000000000 from by decide +kernel]; exact h)
theorem wpow_15 {X : Cx} {Φ : PyData → Prop} (h : Φ (.int 1000000000000000)) : WOp X (rI CPow fun i j => .int (i ^ j.toNat)) (.int 10) (.int 15) Φ := wpow_int (by decide) (by decide) (by decide) (by rw [show (10 : Int) ^ (15 : Int).toNat = 1000000000000000 from by decide +kernel]; exact h)
theorem wpow_16 {X : Cx} {Φ : PyData → Prop} (h : Φ (.int 10000000000000000)) : WOp X (rI CPow fun i j => .int (i ^ j.toNat)) (.int 10) (.int 16) Φ := wpow_int (by decide) (by decide) (by decide) (by rw [show (10 : Int) ^ (16 : Int).toNat = 10000000000000000 from by decide +kernel]; exact h)
theorem wpow_18 {X : Cx} {Φ : PyData → Prop} (h : Φ (.int 1000000000000000000)) : WOp X (rI CPow fun i j => .int (i ^ j.toNat)) (.int 10) (.int 18) Φ := wpow_int (by decide) (by decide) (by decide) (by rw [show (10 : Int) ^ (18 : Int).toNat = 1000000000000000000 from by decide +kernel]; exact h)
theorem wpow_20 {X : Cx} {Φ : PyData → Prop} (h : Φ (.int 100000000000000000000)) : WOp X (rI CPow fun i j => .int (i ^ j.toNat)) (.int 10) (.int 20) Φ := wpow_int (by decide) (by decide) (by decide) (by rw [show (10 : Int) ^ (20 : Int).toNat = 100000000000000000000 from by decide +kernel]; exact h)
theorem wpow_24 {X : Cx} {Φ : PyData → Prop} (h : Φ (.int 1000000000000000000000000)) : WOp X (rI CPow fun i j => .int (i ^ j.toNat)) (.int 10) (.int 24) Φ := wpow_int (by decide) (by decide) (by decide) (by rw [show (10 : Int) ^ (24 : Int).toNat = 1000000000000000000000000 from by decide +kernel]; exact h)
theorem wpow_25 {X : Cx} {Φ : PyData → Prop} (h : Φ (.int 10000000000000000000000000)) : WOp X (rI CPow fun i j => .int (i ^ j.toNat)) (.int 10) (.int 25) Φ := wpow_int (by decide) (by decide) (by decide) (by rw [show (10 : Int) ^ (25 : Int).toNat = 10000000000000000000000000 from by decide +kernel]; exact h)
theorem wpow_29 {X : Cx} {Φ : PyData → Prop} (h : Φ (.int 100000000000000000000000000000)) : WOp X (rI CPow fun i j => .int (i ^ j.toNat)) (.int 10) (.int 29) Φ := wpow_int (by decide) (by decide) (by decide) (by rw [show (10 : Int) ^ (29 : Int).toNat = 100000000000000000000000000000 from by decide +kernel]; exact h)
theorem wpow_30 {X : Cx} {Φ : PyData → Prop} (h : Φ (.int 1000000000000000000000000000000)) : WOp X (rI CPow fun i j => .int (i ^ j.toNat)) (.int 10) (.int 30) Φ := wpow_int (by decide) (by decide) (by decide) (by rw [show (10 : Int) ^ (30 : Int).toNat = 1000000000000000000000000000000 from by decide +kernel]; exact h)
theorem at_D {α : Type} {xs : List α} {z : Int} {j : Nat} {v : α} (h : xs[j]? = some v) (e : z = (j : Int)) : atI xs z = some v := by
  rw [e]
  exact atI_nat h
theorem wts_nil {Θ : Bool → Prop} (h : Θ true) : WTs X ρ [] Θ := h
theorem wts_one {Θ : Bool → Prop} (h : WT X W0 ρ c X0 Θ) : WTs X ρ [c] Θ := h
theorem asSl_mk {d : PyData} (h : Ψ (.dat d)) : asSl Ψ d := h
theorem flat_int (i : Int) : flatD (.int i) = true := rfl
/-- a, b = x, y, data both -/
theorem w1_parD {Ξ : Xi} (i j : Nat) {x y : Str} {px py pt : Pos} {kt k2 pt2} (C : Cxt X W) (h : WE X W ρ a (xat Ξ ρ) fun u => WE X W ρ b (xat Ξ ρ) fun v => E.nx ((ρ.set i (.dat u)).set j (.dat v))) (hi : X.N[i]? = some x := by rfl) (hj : X.N[j]? = some y := by rfl) (hij : i ≠ j := by decide)
    (hx : X.env.scope.names.lookup x = some .local := by rfl) (hy : X.env.scope.names.lookup y = some .local := by rfl)
    (hw : swappedStores [.Tuple [.Name x px, .Name y py] kt pt] (.Tuple [a, b] k2 pt2) X.env = pure (some [x, y]) := by rfl)
    (hs : swapsWithSole [.Tuple [.Name x px, .Name y py] kt pt] (.Tuple [a, b] k2 pt2) pos.line X.env = pure false := by rfl)
    (he : starEach [a, b] X.env = (false, eval a X.env) :: starEach [b] X.env := by rfl) (he2 : starEach [b] X.env = (false, eval b X.env) :: starEach [] X.env := by rfl) : W1 X W ρ (.Assign [.Tuple [.Name x px, .Name y py] kt pt] (.Tuple [a, b] k2 pt2) pos) Ξ E :=
  w1_par i j C (wks_cons (wk_of_we (h.mono fun u hu => wks_cons (wk_of_we (hu.mono fun v hv => wks_nil ⟨(fun z => nomatch z), (fun z => nomatch z), _, _, rfl, hv⟩)) he2)) he) hi hj hij hx hy hw hs
end
end Mv
namespace Mv
abbrev M30 : Int := 1000000000000000000000000000000
end Mv

set_option maxRecDepth 100000
set_option maxHeartbeats 4000000
/-! readings by data: what a piece of syntax asks, as a term that computes -/
namespace Mv
open PySem L2
abbrev DE := List Sl → (Exn → Prop) → (PyData → Prop) → Prop
abbrev DK := List Sl → (Exn → Prop) → (Sl → Prop) → Prop
abbrev DT := List Sl → (Exn → Prop) → (Bool → Prop) → Prop
abbrev DA := List Sl → (Exn → Prop) → (List Ag → Prop) → Prop
abbrev DI := List Sl → (Exn → Prop) → (List PyData → Prop) → Prop
abbrev DG := PyData → List Sl → (List Sl → Prop) → Prop
abbrev DS := List Sl → Xi → En → Prop
/-- what goes on -/
def Go (p : Prop) : Prop := p
theorem go_of {p : Prop} (h : p) : Go p := h
theorem go_out {p : Prop} (h : Go p) : p := h
/-- one of two ways -/
@[irreducible] def brk (b : Bool) (A B : Prop) : Prop := (b = true → A) ∧ (b = false → B)
theorem brk_of {b : Bool} {A B : Prop} (h1 : b = true → A) (h2 : b = false → B) : brk b A B := by unfold brk; exact ⟨h1, h2⟩
theorem brk_t {A B : Prop} (h : A) : brk true A B := brk_of (fun _ => h) (fun z => nomatch z)
theorem brk_f {A B : Prop} (h : B) : brk false A B := brk_of (fun z => nomatch z) (fun _ => h)
theorem brk.t {b : Bool} {A B : Prop} (h : brk b A B) : b = true → A := by unfold brk at h; exact h.1
theorem brk.f {b : Bool} {A B : Prop} (h : brk b A B) : b = false → B := by unfold brk at h; exact h.2
theorem brk_is {b c : Bool} {A B : Prop} (e : b = c) (h : brk c A B) : brk b A B := by rw [e]; exact h
/-- the n-th -/
def nth {α : Type} : List α → Nat → Option α
  | [], _ => none
  | a :: _, 0 => some a
  | _ :: l, n + 1 => nth l n
theorem nth_eq {α : Type} : ∀ (l : List α) (n : Nat), nth l n = l[n]?
  | [], _ => rfl
  | _ :: _, 0 => rfl
  | _ :: l, n + 1 => nth_eq l n
def atDat (o : Option Sl) (Φ : PyData → Prop) : Prop := match o with
  | some (.dat d) => Φ d
  | _ => False
theorem atDat_inv {o : Option Sl} {Φ : PyData → Prop} (h : atDat o Φ) : ∃ d, o = some (.dat d) ∧ Φ d := by
  unfold atDat at h
  split at h
  · exact ⟨_, rfl, h⟩
  · exact h.elim
def isBl (d : PyData) (Θ : Bool → Prop) : Prop := match d with
  | .bool b => Θ b
  | _ => False
theorem isBl_inv {d : PyData} {Θ : Bool → Prop} (h : isBl d Θ) : ∃ b, d = .bool b ∧ Θ b := by
  unfold isBl at h
  split at h
  · exact ⟨_, rfl, h⟩
  · exact h.elim
def someK {α : Type} (o : Option α) (Φ : α → Prop) : Prop := match o with
  | some d => Φ d
  | none => False
theorem someK_inv {α : Type} {o : Option α} {Φ : α → Prop} (h : someK o Φ) : ∃ d, o = some d ∧ Φ d := by
  cases o with
  | none => exact h.elim
  | some d => exact ⟨d, rfl, h⟩
theorem someK_of {α : Type} {o : Option α} {Φ : α → Prop} {d : α} (e : o = some d) (h : Φ d) : someK o Φ := by rw [e]; exact h

/-! ### what is asked of a piece -/
def RE (X : Cx) (W : WX) (e : Expr) (t : DE) : Prop := ∀ ρ Ξ Φ, t ρ Ξ Φ → WE X W ρ e Ξ Φ
def RK (X : Cx) (W : WX) (e : Expr) (t : DK) : Prop := ∀ ρ Ξ Φ, t ρ Ξ Φ → WK X W ρ e Ξ Φ
def RT (X : Cx) (W : WX) (e : Expr) (t : DT) : Prop := ∀ ρ Ξ Φ, t ρ Ξ Φ → WT X W ρ e Ξ Φ
def RW (X : Cx) (W : WX) (e : Expr) (t : DT) : Prop := ∀ ρ Ξ Φ, t ρ Ξ Φ → WW X W ρ e Ξ Φ
def RA (X : Cx) (W : WX) (e : List Expr) (t : DA) : Prop := ∀ ρ Ξ Φ, t ρ Ξ Φ → WA X W ρ e Ξ Φ
def RI (X : Cx) (W : WX) (tg e : Expr) (t : DI) : Prop := ∀ ρ Ξ Φ, t ρ Ξ Φ → WI X W ρ tg e Ξ Φ
def RG (X : Cx) (e : Expr) (T : Nat → Prop) (t : DG) : Prop := ∀ d ρ Φ, t d ρ Φ → WG X ρ e d T Φ
def R1 (X : Cx) (W : WX) (s : Stmt) (t : DS) : Prop := ∀ ρ Ξ E, t ρ Ξ E → W1 X W ρ s Ξ E
def RS (X : Cx) (W : WX) (s : List Stmt) (t : DS) : Prop := ∀ ρ Ξ E, t ρ Ξ E → WS X W ρ s Ξ E

/-! ### names -/
def nmOk (sc : Scope) (x : Str) : Bool := (match sc.names.lookup x with
  | some .local => true
  | some .cell => true
  | some .free => true
  | _ => false) && (!(x == ("__debug__" : Str)) && !(x == ("__classdict__" : Str)))
theorem nmOk_inv {sc : Scope} {x : Str} (h : nmOk sc x = true) : Vis sc x ∧ (x == ("__debug__" : Str)) = false ∧ (x == ("__classdict__" : Str)) = false := by
  unfold nmOk at h
  rw [Bool.and_eq_true, Bool.and_eq_true] at h
  refine ⟨?_, by simpa using h.2.1, by simpa using h.2.2⟩
  have h1 := h.1
  split at h1
  · exact .inl (by assumption)
  · exact .inr (.inl (by assumption))
  · exact .inr (.inr (by assumption))
  · cases h1
def stOk (X : Cx) (x : Str) : Bool := match X.env.scope.names.lookup x with
  | some .local => true
  | some .cell => X.fn x
  | _ => false
theorem stOk_inv {X : Cx} {x : Str} (h : stOk X x = true) : Loc X.env.scope x ∧ (X.fn x = true ∨ X.env.scope.names.lookup x = some .local) := by
  unfold stOk at h
  split at h
  · exact ⟨.inl (by assumption), .inr (by assumption)⟩
  · exact ⟨.inr (by assumption), .inl h⟩
  · cases h
def bltOk (x : Str) : Bool := !(x == ("__name__" : Str)) && !(x == ("__debug__" : Str))
theorem bltOk_inv {x : Str} (h : bltOk x = true) : x ≠ "__name__" ∧ (x == ("__debug__" : Str)) = false := by
  unfold bltOk at h
  rw [Bool.and_eq_true] at h
  refine ⟨?_, by simpa using h.2⟩
  intro z
  subst z
  simp at h

def eNm (i : Nat) : DE := fun ρ _ Φ => atDat (nth ρ i) Φ
def eC (d : PyData) : DE := fun _ _ Φ => Φ d
section
variable {X : Cx} {W : WX} {a b c e : Expr} {es : List Expr} {ta tb tc te : DE} {pos p : Pos}
theorem re_nm (i : Nat) {x : Str} (hx : nmOk X.env.scope x = true := by kernel_rfl) (hN : X.N[i]? = some x := by kernel_rfl) : RE X W (.Name x pos) (eNm i) := fun ρ Ξ Φ h => by
  obtain ⟨d, e, hd⟩ := atDat_inv h
  obtain ⟨h1, h2, h3⟩ := nmOk_inv hx
  exact we_name i (by rw [← nth_eq]; exact e) hd hN h1 h2 h3
theorem re_int {i : Int} {j} : RE X W (.Constant (.int i) j pos) (eC (.int i)) := fun _ _ _ h => we_int h
theorem re_str {i : Str} {j} : RE X W (.Constant (.str i) j pos) (eC (.str i)) := fun _ _ _ h => we_str h
theorem re_bl {i : Bool} {j} : RE X W (.Constant (.bool i) j pos) (eC (.bool i)) := fun _ _ _ h => we_bl h
theorem re_non {j} : RE X W (.Constant .none j pos) (eC .none) := fun _ _ _ h => we_non h
theorem re_cst {x : Str} {d : PyData} (c : Cst X.K X.mg x d) (hg : X.env.kindOf x = some .globalImplicit := by kernel_rfl) (hb : bltOk x = true := by kernel_rfl) : RE X W (.Name x pos) (eC d) := fun _ _ _ h => we_cst c h hg (bltOk_inv hb).2
theorem re_pow10 (n : Nat) (v : Int) {i j} {p1 p2 : Pos} (hv : (10 : Int) ^ n = v := by kernel_rfl) (hn : n ≤ 1000 := by decide) : RE X W (.BinOp (.Constant (.int 10) i p1) .Pow (.Constant (.int n) j p2) pos) (eC (.int v)) := fun _ _ _ h =>
  we_op op_pow (we_int (we_int (wpow_int (by omega) (by omega) (by decide) (by rw [Int.toNat_natCast, hv]; exact h))))

/-! ### two-place operations -/
abbrev OP := PyData → PyData → (PyData → Prop) → Prop
def eOp (o : OP) (a b : DE) : DE := fun ρ Ξ Φ => a ρ Ξ fun x => b ρ Ξ fun y => o x y Φ
def OpIs (X : Cx) (r : R2) (o : OP) : Prop := ∀ x y Φ, o x y Φ → WOp X r x y Φ
theorem re_op {op : Operator} {r : R2} {o : OP} (ho : OpR X (binaryOp op) r) (q : OpIs X r o) (ha : RE X W a ta) (hb : RE X W b tb) : RE X W (.BinOp a op b pos) (eOp o ta tb) := fun ρ Ξ Φ h =>
  we_op ho ((ha _ _ _ h).mono fun x h => (hb _ _ _ h).mono fun y h => q x y Φ h)
def oAdd : OP := fun x y Φ => match x, y with
  | .int i, .int j => Φ (.int (i + j))
  | .str i, .str j => i.length + j.length ≤ 8000000 ∧ Go (Φ (.str (i ++ j)))
  | .tuple ds, .tuple es => ds.length + es.length ≤ 8000000 ∧ Go (Φ (.tuple (ds ++ es)))
  | .list ds, .list es => ds.length + es.length ≤ 8000000 ∧ Go (Φ (.list (ds ++ es)))
  | _, _ => False
theorem is_oAdd : OpIs X (rAdd X.K) oAdd := fun x y Φ h => by
  unfold oAdd at h
  split at h
  · exact wadd_int h
  · exact wadd_str h.1 h.2
  · exact wadd_tup h.1 h.2
  · exact wadd_lst h.1 h.2
  · exact h.elim
theorem re_add (ha : RE X W a ta) (hb : RE X W b tb) : RE X W (.BinOp a .Add b pos) (eOp oAdd ta tb) := re_op op_addA is_oAdd ha hb
def oSub : OP := fun x y Φ => match x, y with
  | .int i, .int j => Φ (.int (i - j))
  | _, _ => False
theorem re_sub (ha : RE X W a ta) (hb : RE X W b tb) : RE X W (.BinOp a .Sub b pos) (eOp oSub ta tb) := re_op op_sub (fun x y Φ h => by
  unfold oSub at h
  split at h
  · exact wsub_int h
  · exact h.elim) ha hb
def oMul : OP := fun x y Φ => match x, y with
  | .int i, .int j => i.natAbs < BIG ∧ j.natAbs < BIG ∧ Go (Φ (.int (i * j)))
  | .list ds, .int k => (-(2 ^ 63) ≤ k ∧ k < 2 ^ 63 ∧ ds.length * k.toNat ≤ 8000000) ∧ Go (Φ (.list (List.replicate k.toNat ds).flatten))
  | .tuple ds, .int k => (ds ≠ [] ∧ 2 ≤ k ∧ k ≤ 1000 ∧ ds.length ≤ 1000) ∧ Go (Φ (.tuple (List.replicate k.toNat ds).flatten))
  | _, _ => False
theorem re_mul (ha : RE X W a ta) (hb : RE X W b tb) : RE X W (.BinOp a .Mult b pos) (eOp oMul ta tb) := re_op op_mulA (fun x y Φ h => by
  unfold oMul at h
  split at h
  · exact wmul_int h.1 h.2.1 h.2.2
  · exact wmul_lst h.1.1 h.1.2.1 h.1.2.2 h.2
  · exact wmul_tup h.1.1 h.1.2.1 h.1.2.2.1 h.1.2.2.2 h.2
  · exact h.elim) ha hb
def oDiv : OP := fun x y Φ => match x, y with
  | .int i, .int j => 0 < j ∧ j.natAbs < BIG ∧ Go (Φ (.int (i / j)))
  | _, _ => False
theorem re_div (ha : RE X W a ta) (hb : RE X W b tb) : RE X W (.BinOp a .FloorDiv b pos) (eOp oDiv ta tb) := re_op op_fdivW (fun x y Φ h => by
  unfold oDiv at h
  split at h
  · exact wdiv_int h.1 h.2.1 h.2.2
  · exact h.elim) ha hb
def oMod : OP := fun x y Φ => match x, y with
  | .int i, .int j => 0 < j ∧ Go (Φ (.int (i % j)))
  | _, _ => False
theorem re_mod (ha : RE X W a ta) (hb : RE X W b tb) : RE X W (.BinOp a .Mod b pos) (eOp oMod ta tb) := re_op op_mod (fun x y Φ h => by
  unfold oMod at h
  split at h
  · exact wmod_int h.1 h.2
  · exact h.elim) ha hb

/-! ### comparisons: as values, as tests -/
theorem WOp.mono {r : R2} {x y : PyData} {Φ Ψ : PyData → Prop} (z : WOp X r x y Φ) (h : ∀ d, Φ d → Ψ d) : WOp X r x y Ψ := fun M F H vx vy s rx ry Q k => z M F H vx vy s rx ry Q fun v d F2 H2 hd st r => k v d F2 H2 (h d hd) st r
theorem re_cmp {op : CmpOp} {r : R2} {o : OP} (ho : OpR X (compareOp op) r) (hm : behindInMarks op b = false) (q : OpIs X r o) (ha : RE X W a ta) (hb : RE X W b tb) : RE X W (.Compare a [op] [b] pos) (eOp o ta tb) := fun ρ Ξ Φ h =>
  we_cmp ho hm ((ha _ _ _ h).mono fun x h => (hb _ _ _ h).mono fun y h => q x y Φ h)
def tV (t : DE) : DT := fun ρ Ξ Θ => t ρ Ξ fun d => isBl d Θ
theorem rt_cmp {op : CmpOp} {r : R2} {o : OP} (ho : OpR X (compareOp op) r) (hm : behindInMarks op b = false) (q : OpIs X r o) (ha : RE X W a ta) (hb : RE X W b tb) : RT X W (.Compare a [op] [b] pos) (tV (eOp o ta tb)) := fun ρ Ξ Φ h =>
  wt_cmp ho hm ((ha _ _ _ h).mono fun x h => (hb _ _ _ h).mono fun y h => WOp.mono (q x y _ h) fun _ hd => isBl_inv hd)
def oInt (g : Int → Int → Bool) : OP := fun x y Φ => match x, y with
  | .int i, .int j => Φ (.bool (g i j))
  | _, _ => False
theorem is_oInt {g : Int → Int → Bool} : OpIs X (rI0 fun i j => .bl (g i j)) (oInt g) := fun x y Φ h => by
  unfold oInt at h
  split at h
  · exact wop_B0 h
  · exact h.elim
abbrev oLt : OP := oInt fun i j => decide (i < j)
abbrev oLe : OP := oInt fun i j => decide (i ≤ j)
abbrev oGt : OP := oInt fun i j => decide (j < i)
abbrev oGe : OP := oInt fun i j => decide (j ≤ i)
theorem is_lt : OpIs X (rI0 fun i j => .bl (decide (i < j))) oLt := is_oInt
/-- == of data (neg: !=) -/
@[irreducible] def eqK (neg : Bool) (x y : PyData) (Φ : PyData → Prop) : Prop := (noDict x = true ∧ noDict y = true ∧ SeqAt.shaped x = true ∧ SeqAt.shaped y = true) ∧ Φ (.bool (if neg then !PyData.eqv x y else PyData.eqv x y))
theorem eqK_inv {neg : Bool} {x y : PyData} {Φ : PyData → Prop} (h : eqK neg x y Φ) : (noDict x = true ∧ noDict y = true ∧ SeqAt.shaped x = true ∧ SeqAt.shaped y = true) ∧ Φ (.bool (if neg then !PyData.eqv x y else PyData.eqv x y)) := by
  unfold eqK at h; exact h
theorem eqK_mk {neg : Bool} {x y : PyData} {Φ : PyData → Prop} (h : (noDict x = true ∧ noDict y = true ∧ SeqAt.shaped x = true ∧ SeqAt.shaped y = true)) (k : Φ (.bool (if neg then !PyData.eqv x y else PyData.eqv x y))) : eqK neg x y Φ := by
  unfold eqK; exact ⟨h, k⟩
def oEq : OP := fun x y Φ => match x, y with
  | .int i, .int j => Φ (.bool (decide (i = j)))
  | .str i, .str j => Φ (.bool (decide (i = j)))
  | .bool i, .bool j => Φ (.bool (decide (i = j)))
  | x, y => eqK false x y Φ
def oNe : OP := fun x y Φ => match x, y with
  | .int i, .int j => Φ (.bool (decide (i ≠ j)))
  | .str i, .str j => Φ (.bool (decide (i ≠ j)))
  | .bool i, .bool j => Φ (.bool (decide (i ≠ j)))
  | x, y => eqK true x y Φ
theorem is_oEq : OpIs X (rEqA X.K) oEq := fun x y Φ h => by
  unfold oEq at h
  split at h
  · exact weq_int h
  · exact weq_str h
  · exact weq_bl h
  · obtain ⟨⟨h1, h2, h3, h4⟩, h⟩ := eqK_inv h
    exact weq_dat h1 h2 h3 h4 h
theorem is_oNe : OpIs X (rNeA X.K) oNe := fun x y Φ h => by
  unfold oNe at h
  split at h
  · exact wne_int h
  · exact wne_str h
  · exact wne_bl h
  · obtain ⟨⟨h1, h2, h3, h4⟩, h⟩ := eqK_inv h
    exact wne_dat h1 h2 h3 h4 h
def oIn (neg : Bool) : OP := fun x y Φ => match y with
  | .list ds => (flatD x = true ∧ ds.all flatD = true) ∧ Go (Φ (.bool (if neg then !inD x ds else inD x ds)))
  | .tuple ds => (flatD x = true ∧ ds.all flatD = true) ∧ Go (Φ (.bool (if neg then !inD x ds else inD x ds)))
  | _ => False
theorem is_oIn {neg : Bool} : OpIs X (rIn X.K neg) (oIn neg) := fun x y Φ h => by
  unfold oIn at h
  split at h
  · exact win_lst h.1.1 h.1.2 h.2
  · exact win_tup h.1.1 h.1.2 h.2
  · exact h.elim
theorem re_lt (ha : RE X W a ta) (hb : RE X W b tb) : RE X W (.Compare a [.Lt] [b] pos) (eOp oLt ta tb) := re_cmp op_lt (nomark _) is_oInt ha hb
theorem re_le (ha : RE X W a ta) (hb : RE X W b tb) : RE X W (.Compare a [.LtE] [b] pos) (eOp oLe ta tb) := re_cmp op_le (nomark _) is_oInt ha hb
theorem re_gt (ha : RE X W a ta) (hb : RE X W b tb) : RE X W (.Compare a [.Gt] [b] pos) (eOp oGt ta tb) := re_cmp op_gt (nomark _) is_oInt ha hb
theorem re_ge (ha : RE X W a ta) (hb : RE X W b tb) : RE X W (.Compare a [.GtE] [b] pos) (eOp oGe ta tb) := re_cmp op_ge (nomark _) is_oInt ha hb
theorem re_eq (C : Cxt X W) (ha : RE X W a ta) (hb : RE X W b tb) : RE X W (.Compare a [.Eq] [b] pos) (eOp oEq ta tb) := re_cmp (op_eqA C.hu) (nomark _) is_oEq ha hb
theorem re_ne (C : Cxt X W) (ha : RE X W a ta) (hb : RE X W b tb) : RE X W (.Compare a [.NotEq] [b] pos) (eOp oNe ta tb) := re_cmp (op_neA C.hu) (nomark _) is_oNe ha hb
theorem re_in (ha : RE X W a ta) (hb : RE X W b tb) (hm : behindInMarks .In b = false := by rfl) : RE X W (.Compare a [.In] [b] pos) (eOp (oIn false) ta tb) := re_cmp op_in_seq hm is_oIn ha hb
theorem re_nin (ha : RE X W a ta) (hb : RE X W b tb) (hm : behindInMarks .NotIn b = false := by rfl) : RE X W (.Compare a [.NotIn] [b] pos) (eOp (oIn true) ta tb) := re_cmp op_notIn_seq hm is_oIn ha hb
theorem rt_lt (ha : RE X W a ta) (hb : RE X W b tb) : RT X W (.Compare a [.Lt] [b] pos) (tV (eOp oLt ta tb)) := rt_cmp op_lt (nomark _) is_oInt ha hb
theorem rt_le (ha : RE X W a ta) (hb : RE X W b tb) : RT X W (.Compare a [.LtE] [b] pos) (tV (eOp oLe ta tb)) := rt_cmp op_le (nomark _) is_oInt ha hb
theorem rt_gt (ha : RE X W a ta) (hb : RE X W b tb) : RT X W (.Compare a [.Gt] [b] pos) (tV (eOp oGt ta tb)) := rt_cmp op_gt (nomark _) is_oInt ha hb
theorem rt_ge (ha : RE X W a ta) (hb : RE X W b tb) : RT X W (.Compare a [.GtE] [b] pos) (tV (eOp oGe ta tb)) := rt_cmp op_ge (nomark _) is_oInt ha hb
theorem rt_eq (C : Cxt X W) (ha : RE X W a ta) (hb : RE X W b tb) : RT X W (.Compare a [.Eq] [b] pos) (tV (eOp oEq ta tb)) := rt_cmp (op_eqA C.hu) (nomark _) is_oEq ha hb
theorem rt_ne (C : Cxt X W) (ha : RE X W a ta) (hb : RE X W b tb) : RT X W (.Compare a [.NotEq] [b] pos) (tV (eOp oNe ta tb)) := rt_cmp (op_neA C.hu) (nomark _) is_oNe ha hb
theorem rt_in (ha : RE X W a ta) (hb : RE X W b tb) (hm : behindInMarks .In b = false := by rfl) : RT X W (.Compare a [.In] [b] pos) (tV (eOp (oIn false) ta tb)) := rt_cmp op_in_seq hm is_oIn ha hb
theorem rt_nin (ha : RE X W a ta) (hb : RE X W b tb) (hm : behindInMarks .NotIn b = false := by rfl) : RT X W (.Compare a [.NotIn] [b] pos) (tV (eOp (oIn true) ta tb)) := rt_cmp op_notIn_seq hm is_oIn ha hb
/-- a op b op' c -/
def eChain (o o' : OP) (a b c : DE) : DE := fun ρ Ξ Φ => a ρ Ξ fun x => b ρ Ξ fun y => o x y fun d => isBl d fun k => brk k (Go (c ρ Ξ fun z => o' y z Φ)) (Go (Φ (.bool false)))
theorem re_chain {op op' : CmpOp} {r r' : R2} {o o' : OP} (ho : OpR X (compareOp op) r) (ho' : OpR X (compareOp op') r') (q : OpIs X r o) (q' : OpIs X r' o') (ha : RE X W a ta) (hb : RE X W b tb) (hc : RE X W c tc) (hm : lastMarks [op, op'] [b, c] = false := by rfl) : RE X W (.Compare a [op, op'] [b, c] pos) (eChain o o' ta tb tc) := fun ρ Ξ Φ h =>
  we_chain ho ho' hm ((ha _ _ _ h).mono fun x h => (hb _ _ _ h).mono fun y h M F H vx vy s rx ry Q k => q x y _ h M F H vx vy s rx ry Q fun v d F2 H2 hd st r => k v d F2 H2 (by
    obtain ⟨b, e, h1⟩ := isBl_inv hd
    exact ⟨b, e, fun e => (hc _ _ _ (h1.t e)).mono fun z h => q' y z Φ h, h1.f⟩) st r)
theorem rt_chain {op op' : CmpOp} {r r' : R2} {o o' : OP} (ho : OpR X (compareOp op) r) (ho' : OpR X (compareOp op') r') (q : OpIs X r o) (q' : OpIs X r' o') (ha : RE X W a ta) (hb : RE X W b tb) (hc : RE X W c tc) (hm : lastMarks [op, op'] [b, c] = false := by rfl) : RT X W (.Compare a [op, op'] [b, c] pos) (tV (eChain o o' ta tb tc)) := fun ρ Ξ Φ h =>
  wt_chain ho ho' hm ((ha _ _ _ h).mono fun x h => (hb _ _ _ h).mono fun y h M F H vx vy s rx ry Q k => q x y _ h M F H vx vy s rx ry Q fun v d F2 H2 hd st r => k v d F2 H2 (by
    obtain ⟨b, e, h1⟩ := isBl_inv hd
    exact ⟨b, e, fun e => (hc _ _ _ (h1.t e)).mono fun z h M F H vx vy s rx ry Q k => q' y z _ h M F H vx vy s rx ry Q fun v d F2 H2 hd st r => k v d F2 H2 (isBl_inv hd) st r, fun e => h1.f e⟩) st r)
def eIsN (n : Bool) (a : DE) : DE := fun ρ Ξ Φ => a ρ Ξ fun d => Φ (.bool (if n then !isNone d else isNone d))
theorem re_isN {j p2} (h : RE X W a ta) : RE X W (.Compare a [.Is] [.Constant .none j p2] pos) (eIsN false ta) := fun _ _ _ k => we_isN (h _ _ _ k)
theorem re_notN {j p2} (h : RE X W a ta) : RE X W (.Compare a [.IsNot] [.Constant .none j p2] pos) (eIsN true ta) := fun _ _ _ k => we_notN (h _ _ _ k)
theorem rt_isN {j p2} (h : RE X W a ta) : RT X W (.Compare a [.Is] [.Constant .none j p2] pos) (tV (eIsN false ta)) := fun _ _ _ k => wt_isN (h _ _ _ k)
theorem rt_notN {j p2} (h : RE X W a ta) : RT X W (.Compare a [.IsNot] [.Constant .none j p2] pos) (tV (eIsN true ta)) := fun _ _ _ k => wt_notN (h _ _ _ k)

/-! ### tests -/
theorem rt_val (h : RE X W e te) (he : ∀ whole, isTrue e X.env whole = (do let v ← whole; standAt e.pos; holding [v] (truthy v)) := by intro _; rfl) : RT X W e (tV te) := fun _ _ _ k => wt_val ((h _ _ _ k).mono fun _ z => isBl_inv z) he
def tNot (t : DT) : DT := fun ρ Ξ Θ => t ρ Ξ fun b => Θ (!b)
def tAnd (s t : DT) : DT := fun ρ Ξ Θ => s ρ Ξ fun k => brk k (Go (t ρ Ξ Θ)) (Go (Θ false))
def tOr (s t : DT) : DT := fun ρ Ξ Θ => s ρ Ξ fun k => brk k (Go (Θ true)) (Go (t ρ Ξ Θ))
variable {s t : DT} {rest : List Expr}
theorem rt_not (h : RT X W a t) : RT X W (.UnaryOp .Not a pos) (tNot t) := fun _ _ _ k => wt_not (h _ _ _ k)
theorem rt_w (h : RW X W a t) : RT X W a t := fun _ _ _ k => wt_w (h _ _ _ k)
theorem rw_and1 (h : RT X W a t) : RW X W (.BoolOp .And [a] pos) t := fun _ _ _ k => ww_and1 (h _ _ _ k)
theorem rw_or1 (h : RT X W a t) : RW X W (.BoolOp .Or [a] pos) t := fun _ _ _ k => ww_or1 (h _ _ _ k)
theorem rw_and (h : RT X W a s) (r : RW X W (.BoolOp .And (b :: rest) pos) t) : RW X W (.BoolOp .And (a :: b :: rest) pos) (tAnd s t) := fun _ _ _ k => ww_and ((h _ _ _ k).mono fun _ z => ⟨fun e => r _ _ _ (z.t e), fun e => z.f e⟩)
theorem rw_or (h : RT X W a s) (r : RW X W (.BoolOp .Or (b :: rest) pos) t) : RW X W (.BoolOp .Or (a :: b :: rest) pos) (tOr s t) := fun _ _ _ k => ww_or ((h _ _ _ k).mono fun _ z => ⟨fun e => r _ _ _ (z.f e), fun e => z.t e⟩)
/-- as values: all but the last are bools -/
def eAnd (a b : DE) : DE := fun ρ Ξ Φ => a ρ Ξ fun d => isBl d fun k => brk k (Go (b ρ Ξ Φ)) (Go (Φ (.bool false)))
def eOr (a b : DE) : DE := fun ρ Ξ Φ => a ρ Ξ fun d => isBl d fun k => brk k (Go (Φ (.bool true))) (Go (b ρ Ξ Φ))
def eNot (a : DE) : DE := fun ρ Ξ Φ => a ρ Ξ fun d => isBl d fun k => Φ (.bool (!k))
theorem re_bool1 {op : BoolOp} (h : RE X W a ta) : RE X W (.BoolOp op [a] pos) ta := fun _ _ _ k => we_bool1 (h _ _ _ k)
theorem re_and (h : RE X W a ta) (r : RE X W (.BoolOp .And (b :: rest) pos) tb) : RE X W (.BoolOp .And (a :: b :: rest) pos) (eAnd ta tb) := fun _ _ _ k => we_and ((h _ _ _ k).mono fun _ z => by
  obtain ⟨b, e, z⟩ := isBl_inv z
  exact ⟨b, e, fun e => r _ _ _ (z.t e), fun e => z.f e⟩)
theorem re_or (h : RE X W a ta) (r : RE X W (.BoolOp .Or (b :: rest) pos) tb) : RE X W (.BoolOp .Or (a :: b :: rest) pos) (eOr ta tb) := fun _ _ _ k => we_or ((h _ _ _ k).mono fun _ z => by
  obtain ⟨b, e, z⟩ := isBl_inv z
  exact ⟨b, e, fun e => r _ _ _ (z.f e), fun e => z.t e⟩)
theorem re_not (h : RE X W a ta) : RE X W (.UnaryOp .Not a pos) (eNot ta) := fun _ _ _ k => we_not ((h _ _ _ k).mono fun _ z => by
  obtain ⟨b, e, z⟩ := isBl_inv z
  exact ⟨b, e, z⟩)
def eIf (c : DT) (a b : DE) : DE := fun ρ Ξ Φ => c ρ Ξ fun k => brk k (Go (a ρ Ξ Φ)) (Go (b ρ Ξ Φ))
theorem re_if (h : RT X W c t) (ha : RE X W a ta) (hb : RE X W b tb) : RE X W (.IfExp c a b pos) (eIf t ta tb) := fun _ _ _ k => we_if ((h _ _ _ k).mono fun _ z => ⟨fun e => ha _ _ _ (z.t e), fun e => hb _ _ _ (z.f e)⟩)

/-! ### argument lists, displays -/
def aNil : DA := fun _ _ Φ => Φ []
def aCons (t : DE) (r : DA) : DA := fun ρ Ξ Φ => t ρ Ξ fun d => r ρ Ξ fun as => Φ (.dat d :: as)
def aDrw (i : Nat) (r : DA) : DA := fun ρ Ξ Φ => match nth ρ i with
  | some .drw => r ρ Ξ fun as => Φ (.drw :: as)
  | _ => False
def aScr (i : Nat) (r : DA) : DA := fun ρ Ξ Φ => match nth ρ i with
  | some (.scr ns) => r ρ Ξ fun as => Φ (.scr ns :: as)
  | _ => False
def isStar : Expr → Bool
  | .Starred .. => true
  | _ => false
theorem star_cons {env : Env} (h : isStar e = false) : starEach (e :: es) env = (false, eval e env) :: starEach es env := by
  cases e <;> first | rfl | cases h
variable {ra : DA}
theorem WA.mono {ρ : List Sl} {Ξ : Exn → Prop} {Φ Ψ : List Ag → Prop} (h : WA X W ρ es Ξ Φ) (k : ∀ d, Φ d → Ψ d) : WA X W ρ es Ξ Ψ := fun B F H σ env Q q qx =>
  h B F H σ env Q (fun v d F2 H2 hd st r => q v d F2 H2 (k d hd) st r) qx
theorem ra_nil : RA X W [] aNil := fun _ _ _ h => wa_nil h
theorem ra_cons (h : RE X W e te) (r : RA X W es ra) (hs : isStar e = false := by rfl) : RA X W (e :: es) (aCons te ra) := fun _ _ _ k => wa_cons ((h _ _ _ k).mono fun _ z => r _ _ _ z) (star_cons hs)
theorem ra_drw (i : Nat) {x : Str} (r : RA X W es ra) (hx : nmOk X.env.scope x = true := by kernel_rfl) (hN : X.N[i]? = some x := by kernel_rfl) : RA X W (.Name x pos :: es) (aDrw i ra) := fun ρ Ξ Φ h => by
  unfold aDrw at h
  split at h
  · obtain ⟨h1, h2, h3⟩ := nmOk_inv hx
    exact wa_drw i (by rw [← nth_eq]; assumption) (r _ _ _ h) hN h1 h2 h3 (star_cons rfl)
  · exact h.elim
theorem ra_scr (i : Nat) {x : Str} (r : RA X W es ra) (hx : nmOk X.env.scope x = true := by kernel_rfl) (hN : X.N[i]? = some x := by kernel_rfl) : RA X W (.Name x pos :: es) (aScr i ra) := fun ρ Ξ Φ h => by
  unfold aScr at h
  split at h
  · obtain ⟨h1, h2, h3⟩ := nmOk_inv hx
    exact wa_scr i (by rw [← nth_eq]; assumption) (r _ _ _ h) hN h1 h2 h3 (star_cons rfl)
  · exact h.elim
/-- all of them data -/
def allD : List Ag → Option (List PyData)
  | [] => some []
  | .dat d :: as => match allD as with
    | some ds => some (d :: ds)
    | none => none
  | _ :: _ => none
theorem allD_inv : ∀ {as : List Ag} {ds : List PyData}, allD as = some ds → as = ds.map Ag.dat
  | [], ds, h => by cases h; rfl
  | .dat d :: as, ds, h => by
    unfold allD at h
    cases e : allD as with
    | none => rw [e] at h; cases h
    | some es => rw [e] at h; cases h; rw [allD_inv e]; rfl
  | .drw :: _, _, h => by cases h
  | .scr _ :: _, _, h => by cases h
def fewD (as : List Ag) : Option (List PyData) := match allD as with
  | some ds => match Nat.ble ds.length 1000 with
    | true => some ds
    | false => none
  | none => none
theorem fewD_inv {as : List Ag} {ds : List PyData} (h : fewD as = some ds) : as = ds.map Ag.dat ∧ ds.length ≤ 1000 := by
  unfold fewD at h
  split at h
  · rename_i es e
    split at h
    · rename_i l
      cases h
      exact ⟨allD_inv e, Nat.le_of_ble_eq_true l⟩
    · cases h
  · cases h
def eTup (r : DA) : DE := fun ρ Ξ Φ => r ρ Ξ fun as => someK (fewD as) fun ds => Φ (.tuple ds)
def eLst (r : DA) : DE := fun ρ Ξ Φ => r ρ Ξ fun as => someK (fewD as) fun ds => Φ (.list ds)
def kLst (r : DA) : DK := fun ρ Ξ Φ => r ρ Ξ fun as => someK (fewD as) fun ds => Φ (.own ds)
theorem few_dats {as : List Ag} {Φ : List PyData → Prop} (h : someK (fewD as) Φ) : dats as fun ds => ds.length ≤ 8000000 ∧ Φ ds := by
  obtain ⟨ds, e, h⟩ := someK_inv h
  obtain ⟨e1, e2⟩ := fewD_inv e
  exact ⟨ds, e1, by omega, h⟩
theorem all_dats {as : List Ag} {Φ : List PyData → Prop} (h : someK (allD as) Φ) : dats as Φ := by
  obtain ⟨ds, e, h⟩ := someK_inv h
  exact ⟨ds, allD_inv e, h⟩
theorem re_tup {k1} (h : RA X W es ra) : RE X W (.Tuple es k1 pos) (eTup ra) := fun _ _ _ k => we_tup ((h _ _ _ k).mono fun _ z => few_dats z)
theorem re_lst (h : RA X W es ra) : RE X W (.List es pos) (eLst ra) := fun _ _ _ k => we_lst ((h _ _ _ k).mono fun _ z => few_dats z)
theorem rk_lst (h : RA X W es ra) : RK X W (.List es pos) (kLst ra) := fun _ _ _ k => wk_lst ((h _ _ _ k).mono fun _ z => few_dats z)

/-! ### subscripts, slices -/
def oIx : OP := fun x y Φ => match x, y with
  | .list ds, .int i => someK (atI ds i) Φ
  | .tuple ds, .int i => someK (atI ds i) Φ
  | _, _ => False
theorem re_ix (ha : RE X W a ta) (hb : RE X W b tb) (hs : PlainIx b := by exact fun _ _ => rfl) : RE X W (.Subscript a b pos) (eOp oIx ta tb) := fun ρ Ξ Φ h =>
  we_ix ix_3 ((ha _ _ _ h).mono fun x h => (hb _ _ _ h).mono fun y h => by
    unfold oIx at h
    split at h
    · obtain ⟨d, e, h⟩ := someK_inv h
      exact wix_lst e h
    · obtain ⟨d, e, h⟩ := someK_inv h
      exact wix_tup e h
    · exact h.elim) hs
def asI (d : PyData) (Φ : Int → Prop) : Prop := match d with
  | .int i => Φ i
  | _ => False
theorem asI_inv {d : PyData} {Θ : Int → Prop} (h : asI d Θ) : ∃ b, d = .int b ∧ Θ b := by
  unfold asI at h
  split at h
  · exact ⟨_, rfl, h⟩
  · exact h.elim
def oPart (o : Option DE) (ρ : List Sl) (Ξ : Exn → Prop) (Θ : Option Int → Prop) : Prop := match o with
  | none => Θ none
  | some t => t ρ Ξ fun d => asI d fun i => Θ (some i)
def eSl (a : DE) (lo hi : Option DE) : DE := fun ρ Ξ Φ => a ρ Ξ fun x => oPart lo ρ Ξ fun lo => oPart hi ρ Ξ fun hi => sliceD x lo hi Φ
def RO (X : Cx) (W : WX) : Option Expr → Option DE → Prop
  | none, none => True
  | some e, some t => RE X W e t
  | _, _ => False
theorem ro_none : RO X W none none := trivial
theorem ro_some (h : RE X W e te) : RO X W (some e) (some te) := h
theorem ro_run {o : Option Expr} {t : Option DE} {ρ : List Sl} {Ξ : Exn → Prop} {Θ : Option Int → Prop} (r : RO X W o t) (h : oPart t ρ Ξ Θ) : WO X W ρ o Ξ Θ := by
  cases o <;> cases t
  · exact h
  · exact r.elim
  · exact r.elim
  · exact ((show RE X W _ _ from r) _ _ _ h).mono fun _ z => asI_inv z
theorem WO.mono {o : Option Expr} {ρ : List Sl} {Ξ : Exn → Prop} {Θ Θ' : Option Int → Prop} (h : WO X W ρ o Ξ Θ) (k : ∀ z, Θ z → Θ' z) : WO X W ρ o Ξ Θ' := by
  cases o with
  | none => exact k _ h
  | some e => exact WE.mono h fun _ ⟨i, q, z⟩ => ⟨i, q, k _ z⟩
theorem re_slice {lo hi : Option Expr} {tl th : Option DE} {p2 : Pos} (ha : RE X W a ta) (hl : RO X W lo tl) (hh : RO X W hi th) : RE X W (.Subscript a (.Slice lo hi none p2) pos) (eSl ta tl th) := fun ρ Ξ Φ h =>
  we_slice ((ha ρ Ξ _ h).mono fun _ h => (ro_run hl h).mono fun _ h => ro_run hh h)

/-! ### kinds -/
def eK (t : DK) : DE := fun ρ Ξ Φ => t ρ Ξ (asDat Φ)
def kE (t : DE) : DK := fun ρ Ξ Φ => t ρ Ξ fun d => Φ (.dat d)
variable {tk uk : DK}
theorem re_k (h : RK X W e tk) : RE X W e (eK tk) := fun _ _ _ k => we_of_wk (h _ _ _ k)
theorem rk_e (h : RE X W e te) : RK X W e (kE te) := fun _ _ _ k => wk_of_we (h _ _ _ k)
def kIf (c : DT) (a b : DK) : DK := fun ρ Ξ Φ => c ρ Ξ fun k => brk k (Go (a ρ Ξ Φ)) (Go (b ρ Ξ Φ))
theorem rk_if (h : RT X W c t) (ha : RK X W a tk) (hb : RK X W b uk) : RK X W (.IfExp c a b pos) (kIf t tk uk) := fun _ _ _ k => wk_if ((h _ _ _ k).mono fun _ z => ⟨fun e => ha _ _ _ (z.t e), fun e => hb _ _ _ (z.f e)⟩)
def kDict0 : DK := fun _ _ Φ => Φ (.odk [])
theorem rk_dict0 {p2} : RK X W (.Dict [] [] p2) kDict0 := fun _ _ _ h => wk_dict0 h
def kListOf (t : DE) : DK := fun ρ Ξ Φ => t ρ Ξ fun d => someK (itemsD d) fun ds => Φ (.own ds)
theorem rk_listOf (hm : X.mg "list" = none) (h : RE X W e te) (hg : X.env.kindOf "list" = some .globalImplicit := by kernel_rfl) (hs : isStar e = false := by rfl) : RK X W (.Call (.Name "list" p) [e] [] pos) (kListOf te) := fun _ _ _ k =>
  wk_listOf hm ((h _ _ _ k).mono fun _ z => someK_inv z) hg (star_cons hs) rfl
def kCat (s t : DE) : DK := fun ρ Ξ Φ => s ρ Ξ fun x => t ρ Ξ fun y => match x, y with
  | .list ds, .list es => ds.length + es.length ≤ 8000000 ∧ Go (Φ (.own (ds ++ es)))
  | _, _ => False
theorem rk_cat (ha : RE X W a ta) (hb : RE X W b tb) : RK X W (.BinOp a .Add b pos) (kCat ta tb) := fun _ _ _ h => wk_cat ((ha _ _ _ h).mono fun x h => (hb _ _ _ h).mono fun y h => by
  split at h
  · exact ⟨_, _, rfl, rfl, h.1, h.2⟩
  · exact h.elim)
def kRep (s t : DE) : DK := fun ρ Ξ Φ => s ρ Ξ fun x => t ρ Ξ fun y => match x, y with
  | .list ds, .int k => (-(2 ^ 63) ≤ k ∧ k < 2 ^ 63 ∧ ds.length * k.toNat ≤ 8000000) ∧ Go (Φ (.own (List.replicate k.toNat ds).flatten))
  | _, _ => False
theorem rk_rep (ha : RE X W a ta) (hb : RE X W b tb) : RK X W (.BinOp a .Mult b pos) (kRep ta tb) := fun _ _ _ h => wk_rep ((ha _ _ _ h).mono fun x h => (hb _ _ _ h).mono fun y h => by
  split at h
  · exact ⟨_, _, rfl, rfl, h.1.1, h.1.2.1, h.1.2.2, h.2⟩
  · exact h.elim)

/-! ### calls -/
theorem noStar_any : ∀ {l : List (Bool × Sem Value)} {n : Nat}, (l.map (·.1)) = List.replicate n false → l.any (·.1) = false
  | [], _, _ => rfl
  | (b, _) :: r, 0, h => by simp at h
  | (b, _) :: r, n + 1, h => by
    rw [List.replicate_succ, List.map_cons] at h
    injection h with h1 h2
    rw [List.any_cons, noStar_any h2]
    simpa using h1
def eB (o : List PyData → (PyData → Prop) → Prop) (r : DA) : DE := fun ρ Ξ Φ => r ρ Ξ fun as => someK (allD as) fun ds => o ds Φ
def CallIs (X : Cx) (r : List V → Hp → VK → Prop) (o : List PyData → (PyData → Prop) → Prop) : Prop := ∀ ds Φ, o ds Φ → WCall X r ds Φ
theorem re_callB {x : Str} {id : String} {r : List V → Hp → VK → Prop} {o : List PyData → (PyData → Prop) → Prop} (hc : CallR X (.builtin id) r) (q : CallIs X r o) (hm : X.mg x = none) (hv : bootBuiltins x = some (.builtin id)) (h : RA X W (e :: es) ra) (hg : X.env.kindOf x = some .globalImplicit := by kernel_rfl) (hb : bltOk x = true := by kernel_rfl)
    (hs : isStar e = false := by rfl) (hpl : (backTo pos (starEach es X.env)).any (·.1) = false := by rfl) : RE X W (.Call (.Name x p) (e :: es) [] pos) (eB o ra) := fun _ _ _ k =>
  we_callB hc hm hv ((h _ _ _ k).mono fun as z => by
    obtain ⟨ds, e1, z⟩ := someK_inv z
    exact ⟨ds, allD_inv e1, q ds _ z⟩) hg (bltOk_inv hb).1 (bltOk_inv hb).2 (star_cons hs) hpl
theorem re_callTy {x : Str} {T : String} {r : List V → Hp → VK → Prop} {o : List PyData → (PyData → Prop) → Prop} (hc : CallR X (.type T) r) (q : CallIs X r o) (hm : X.mg x = none) (hv : bootBuiltins x = some (.type T)) (h : RA X W (e :: es) ra) (hg : X.env.kindOf x = some .globalImplicit := by kernel_rfl) (hb : bltOk x = true := by kernel_rfl)
    (hs : isStar e = false := by rfl) (hpl : (backTo pos (starEach es X.env)).any (·.1) = false := by rfl) : RE X W (.Call (.Name x p) (e :: es) [] pos) (eB o ra) := fun _ _ _ k =>
  we_callTy hc hm hv ((h _ _ _ k).mono fun as z => by
    obtain ⟨ds, e1, z⟩ := someK_inv z
    exact ⟨ds, allD_inv e1, q ds _ z⟩) hg (bltOk_inv hb).1 (bltOk_inv hb).2 (star_cons hs) hpl
abbrev OB := List PyData → (PyData → Prop) → Prop
def bLen : OB := fun ds Φ => match ds with
  | [.list xs] => Φ (.int xs.length)
  | [.tuple xs] => Φ (.int xs.length)
  | [.str z] => z.length ≤ 8000000 ∧ Go (Φ (.int z.length))
  | _ => False
theorem re_len (hm : X.mg "len" = none) (h : RA X W [e] ra) (hg : X.env.kindOf "len" = some .globalImplicit := by kernel_rfl) (hs : isStar e = false := by rfl) : RE X W (.Call (.Name "len" p) [e] [] pos) (eB bLen ra) := re_callB call_lenA (fun ds Φ h => by
  unfold bLen at h
  split at h
  · exact wlen rfl h
  · exact wlen rfl h
  · exact wlen (by show (if _ then _ else _) = _; rw [if_pos h.1]) h.2
  · exact h.elim) hm bb_len h hg (by decide +kernel) hs rfl
def bAbs : OB := fun ds Φ => match ds with
  | [.int i] => Φ (.int (if i < 0 then -i else i))
  | _ => False
theorem re_abs (hm : X.mg "abs" = none) (h : RA X W [e] ra) (hg : X.env.kindOf "abs" = some .globalImplicit := by kernel_rfl) (hs : isStar e = false := by rfl) : RE X W (.Call (.Name "abs" p) [e] [] pos) (eB bAbs ra) := re_callB call_absA (fun ds Φ h => by
  unfold bAbs at h
  split at h
  · exact wabs h
  · exact h.elim) hm bb_abs h hg (by decide +kernel) hs rfl
/-- the ints of data -/
def intsD : List PyData → Option (List Int)
  | [] => some []
  | .int i :: ds => match intsD ds with
    | some ns => some (i :: ns)
    | none => none
  | _ :: _ => none
theorem intsD_inv : ∀ {ds : List PyData} {ns : List Int}, intsD ds = some ns → ds = ns.map PyData.int
  | [], ns, h => by cases h; rfl
  | .int d :: as, ds, h => by
    unfold intsD at h
    cases e : intsD as with
    | none => rw [e] at h; cases h
    | some es => rw [e] at h; cases h; rw [intsD_inv e]; rfl
  | .none :: _, _, h => by cases h
  | .bool _ :: _, _, h => by cases h
  | .str _ :: _, _, h => by cases h
  | .list _ :: _, _, h => by cases h
  | .tuple _ :: _, _, h => by cases h
  | .dict _ :: _, _, h => by cases h
theorem intsD_map : ∀ ns : List Int, intsD (ns.map PyData.int) = some ns
  | [] => rfl
  | n :: ns => by rw [List.map_cons, intsD, intsD_map ns]
theorem intsD_mapN : ∀ ns : List Nat, intsD (ns.map fun n : Nat => PyData.int (n : Int)) = some (ns.map fun n : Nat => (n : Int))
  | [] => rfl
  | n :: ns => by rw [List.map_cons, intsD, intsD_mapN ns]; rfl
def bMax : OB := fun ds Φ => match ds with
  | [.int i, .int j] => Φ (.int (if j > i then j else i))
  | [.list xs] => someK (intsD xs) fun ns => ns ≠ [] ∧ ∀ m, m ∈ ns → (∀ y, y ∈ ns → y ≤ m) → Go (Φ (.int m))
  | _ => False
theorem re_max (hc : X.calm = true) (hm : X.mg "max" = none) (h : RA X W (e :: es) ra) (hg : X.env.kindOf "max" = some .globalImplicit := by kernel_rfl) (hs : isStar e = false := by rfl) (hpl : (backTo pos (starEach es X.env)).any (·.1) = false := by rfl) : RE X W (.Call (.Name "max" p) (e :: es) [] pos) (eB bMax ra) := re_callB (call_max3 hc) (fun ds Φ h => by
  unfold bMax at h
  split at h
  · exact wmax2 h
  · obtain ⟨ns, e, h1, h2⟩ := someK_inv h
    rw [intsD_inv e]
    exact wmax h1 h2
  · exact h.elim) hm bb_max h hg (by decide +kernel) hs hpl
def bMin : OB := fun ds Φ => match ds with
  | [.int i, .int j] => Φ (.int (if j < i then j else i))
  | [.list xs] => someK (intsD xs) fun ns => ns ≠ [] ∧ ∀ m, m ∈ ns → (∀ y, y ∈ ns → m ≤ y) → Go (Φ (.int m))
  | _ => False
theorem re_min (hc : X.calm = true) (hm : X.mg "min" = none) (h : RA X W (e :: es) ra) (hg : X.env.kindOf "min" = some .globalImplicit := by kernel_rfl) (hs : isStar e = false := by rfl) (hpl : (backTo pos (starEach es X.env)).any (·.1) = false := by rfl) : RE X W (.Call (.Name "min" p) (e :: es) [] pos) (eB bMin ra) := re_callB (call_min3 hc) (fun ds Φ h => by
  unfold bMin at h
  split at h
  · exact wmin2 h
  · obtain ⟨ns, e, h1, h2⟩ := someK_inv h
    rw [intsD_inv e]
    exact wmin h1 h2
  · exact h.elim) hm bb_min h hg (by decide +kernel) hs hpl
def bSum : OB := fun ds Φ => match ds with
  | [.list xs] => someK (intsD xs) fun ns => Φ (.int ns.sum)
  | _ => False
theorem re_sum (hc : X.calm = true) (hm : X.mg "sum" = none) (h : RA X W [e] ra) (hg : X.env.kindOf "sum" = some .globalImplicit := by kernel_rfl) (hs : isStar e = false := by rfl) : RE X W (.Call (.Name "sum" p) [e] [] pos) (eB bSum ra) := re_callB (cr_sum hc) (fun ds Φ h => by
  unfold bSum at h
  split at h
  · obtain ⟨ns, e, h1⟩ := someK_inv h
    rw [intsD_inv e]
    exact wsum h1
  · exact h.elim) hm bb_sum h hg (by decide +kernel) hs rfl
def blsD : List PyData → Option (List Bool)
  | [] => some []
  | .bool i :: ds => match blsD ds with
    | some ns => some (i :: ns)
    | none => none
  | _ :: _ => none
theorem blsD_inv : ∀ {ds : List PyData} {ns : List Bool}, blsD ds = some ns → ds = ns.map PyData.bool
  | [], ns, h => by cases h; rfl
  | .bool d :: as, ds, h => by
    unfold blsD at h
    cases e : blsD as with
    | none => rw [e] at h; cases h
    | some es => rw [e] at h; cases h; rw [blsD_inv e]; rfl
  | .none :: _, _, h => by cases h
  | .int _ :: _, _, h => by cases h
  | .str _ :: _, _, h => by cases h
  | .list _ :: _, _, h => by cases h
  | .tuple _ :: _, _, h => by cases h
  | .dict _ :: _, _, h => by cases h
theorem blsD_map : ∀ ns : List Bool, blsD (ns.map PyData.bool) = some ns
  | [] => rfl
  | n :: ns => by rw [List.map_cons, blsD, blsD_map ns]
theorem blsD_mapF {α : Type} (f : α → Bool) : ∀ ns : List α, blsD (ns.map fun n => PyData.bool (f n)) = some (ns.map f)
  | [] => rfl
  | n :: ns => by rw [List.map_cons, blsD, blsD_mapF f ns]; rfl
theorem intsD_mapF {α : Type} (f : α → Int) : ∀ ns : List α, intsD (ns.map fun n => PyData.int (f n)) = some (ns.map f)
  | [] => rfl
  | n :: ns => by rw [List.map_cons, intsD, intsD_mapF f ns]; rfl
def bAll : OB := fun ds Φ => match ds with
  | [.list xs] => someK (blsD xs) fun ns => Φ (.bool (ns.all id))
  | _ => False
theorem re_all (hc : X.calm = true) (hm : X.mg "all" = none) (h : RA X W [e] ra) (hg : X.env.kindOf "all" = some .globalImplicit := by kernel_rfl) (hs : isStar e = false := by rfl) : RE X W (.Call (.Name "all" p) [e] [] pos) (eB bAll ra) := re_callB (cr_all hc) (fun ds Φ h => by
  unfold bAll at h
  split at h
  · obtain ⟨ns, e, h1⟩ := someK_inv h
    rw [blsD_inv e]
    exact wall h1
  · exact h.elim) hm bb_all h hg (by decide +kernel) hs rfl
def bList : OB := fun ds Φ => match ds with
  | [.list xs] => Φ (.list xs)
  | [.tuple xs] => Φ (.list xs)
  | _ => False
theorem re_list (hm : X.mg "list" = none) (h : RA X W [e] ra) (hg : X.env.kindOf "list" = some .globalImplicit := by kernel_rfl) (hs : isStar e = false := by rfl) : RE X W (.Call (.Name "list" p) [e] [] pos) (eB bList ra) := re_callTy call_listA (fun ds Φ h => by
  unfold bList at h
  split at h
  · exact wlist rfl h
  · exact wlist rfl h
  · exact h.elim) hm bb_list h hg (by decide +kernel) hs rfl
def bTuple : OB := fun ds Φ => match ds with
  | [.list xs] => Φ (.tuple xs)
  | [.tuple xs] => Φ (.tuple xs)
  | _ => False
theorem re_tuple (hm : X.mg "tuple" = none) (h : RA X W [e] ra) (hg : X.env.kindOf "tuple" = some .globalImplicit := by kernel_rfl) (hs : isStar e = false := by rfl) : RE X W (.Call (.Name "tuple" p) [e] [] pos) (eB bTuple ra) := re_callTy call_tupleA (fun ds Φ h => by
  unfold bTuple at h
  split at h
  · exact wtuple rfl h
  · exact wtuple rfl h
  · exact h.elim) hm bb_tuple h hg (by decide +kernel) hs rfl
def bInt : OB := fun ds Φ => match ds with
  | [.int i] => Φ (.int i)
  | [.str z] => ∃ n, PySem.intText? z = some n ∧ z.length ≤ 640 ∧ Go (Φ (.int n))
  | _ => False
theorem re_intOf (hm : X.mg "int" = none) (h : RA X W [e] ra) (hg : X.env.kindOf "int" = some .globalImplicit := by kernel_rfl) (hs : isStar e = false := by rfl) : RE X W (.Call (.Name "int" p) [e] [] pos) (eB bInt ra) := re_callTy call_intA (fun ds Φ h => by
  unfold bInt at h
  split at h
  · exact wint_int h
  · obtain ⟨n, h1, h2, h3⟩ := h
    exact wint_str h1 h2 h3
  · exact h.elim) hm bb_int h hg (by decide +kernel) hs rfl
def bStr : OB := fun ds Φ => match ds with
  | [.int i] => i.natAbs.log2 < 1920 ∧ Go (Φ (.str (toString i)))
  | _ => False
theorem re_strOf (hm : X.mg "str" = none) (h : RA X W [e] ra) (hg : X.env.kindOf "str" = some .globalImplicit := by kernel_rfl) (hs : isStar e = false := by rfl) : RE X W (.Call (.Name "str" p) [e] [] pos) (eB bStr ra) := re_callTy call_strA (fun ds Φ h => by
  unfold bStr at h
  split at h
  · exact wstr_int h.1 h.2
  · exact h.elim) hm bb_str h hg (by decide +kernel) hs rfl
/-- isinstance -/
def eIsi (f : PyData → Bool) (t : DE) : DE := fun ρ Ξ Φ => t ρ Ξ fun d => Φ (.bool (f d))
theorem re_isi {x : Str} {t : String} {f : PyData → Bool} {px : Pos} (hm : X.mg "isinstance" = none) (hx : X.mg x = none) (hv : bootBuiltins x = some (.type t)) (hf : ∀ d, isTy t d = some (f d)) (h : RE X W e te) (hg : X.env.kindOf "isinstance" = some .globalImplicit := by kernel_rfl) (hgx : X.env.kindOf x = some .globalImplicit := by kernel_rfl) (hb : bltOk x = true := by kernel_rfl)
    (hs : isStar e = false := by rfl) : RE X W (.Call (.Name "isinstance" p) [e, .Name x px] [] pos) (eIsi f te) := fun _ _ _ k =>
  we_isi hm hx hv ((h _ _ _ k).mono fun d z => ⟨_, hf d, z⟩) hg hgx (bltOk_inv hb).1 (bltOk_inv hb).2 (star_cons hs) rfl rfl
/-- an own def -/
@[irreducible] def CallK (p : Prop) : Prop := p
theorem callK_of {p : Prop} (h : p) : CallK p := by unfold CallK; exact h
theorem CallK.out {p : Prop} (h : CallK p) : p := by unfold CallK at h; exact h
def kCall (pr : Pr) (r : DA) : DK := fun ρ Ξ Ψ => r ρ Ξ fun as => CallK (pr as Ψ Ξ)
theorem rk_call {x : Str} {n k : Nat} {pr : Pr} (D : Def X.prog X.w X.K X.mg X.base x n k pr) (C : Cxt X W) (hr : Room k X.A) (h : RA X W (e :: es) ra) (hg : X.env.kindOf x = some .globalImplicit := by kernel_rfl) (hb : bltOk x = true := by kernel_rfl)
    (hs : isStar e = false := by rfl) (hpl : (backTo pos (starEach es X.env)).any (·.1) = false := by rfl) : RK X W (.Call (.Name x p) (e :: es) [] pos) (kCall pr ra) := fun _ _ _ k =>
  wk_call D C hr ((h _ _ _ k).mono fun _ z => z.out) hg (bltOk_inv hb).2 (star_cons hs) hpl
end
end Mv

set_option maxRecDepth 100000
set_option maxHeartbeats 4000000
/-! readings of statements, loops, comprehensions; defs by their readings -/
namespace Mv
open PySem L2
section
variable {X : Cx} {W : WX} {a b c e tg : Expr} {es : List Expr} {ta tb tc te : DE} {tk : DK} {t : DT} {pos p px : Pos} {st : Stmt} {ss : List Stmt} {ts tr : DS}
/-! ### what is walked -/
def iSq (t : DE) : DI := fun ρ Ξ Φ => t ρ Ξ fun d => someK (itemsD d) Φ
theorem ri_seq (h : RE X W e te) : RI X W tg e (iSq te) := fun _ _ _ k => wi_seq ((h _ _ _ k).mono fun _ z => someK_inv z)
def iScr (i : Nat) : DI := fun ρ _ Φ => match nth ρ i with
  | some (.scr ns) => Φ (ns.map .int)
  | _ => False
theorem ri_scr (i : Nat) {x : Str} (hx : nmOk X.env.scope x = true := by kernel_rfl) (hN : X.N[i]? = some x := by kernel_rfl) : RI X W tg (.Name x pos) (iScr i) := fun ρ Ξ Φ h => by
  unfold iScr at h
  split at h
  · obtain ⟨h1, h2, h3⟩ := nmOk_inv hx
    exact wi_scr i (by rw [← nth_eq]; assumption) h hN h1 h2 h3
  · exact h.elim
def iRange1 (t : DE) : DI := fun ρ Ξ Φ => t ρ Ξ fun d => asI d fun j => (-(2 ^ 62) ≤ j ∧ j < 2 ^ 62) ∧ Go (Φ (rangeD 0 j.toNat))
theorem ri_range1 (hm : X.mg "range" = none) (h : RE X W a ta) (hg : X.env.kindOf "range" = some .globalImplicit := by kernel_rfl) (hs : isStar a = false := by rfl) : RI X W tg (.Call (.Name "range" p) [a] [] pos) (iRange1 ta) := fun _ _ _ k =>
  wi_range1 hm ((h _ _ _ k).mono fun _ z => by
    obtain ⟨j, e, h1, h2⟩ := asI_inv z
    exact ⟨j, e, h1.1, h1.2, h2⟩) hg (star_cons hs)
def iRange2 (s t : DE) : DI := fun ρ Ξ Φ => s ρ Ξ fun x => t ρ Ξ fun y => asI x fun i => asI y fun j => (-(2 ^ 62) ≤ i ∧ i < 2 ^ 62 ∧ -(2 ^ 62) ≤ j ∧ j < 2 ^ 62) ∧ Go (Φ (rangeD i (j - i).toNat))
theorem ri_range2 (hm : X.mg "range" = none) (h : RE X W a ta) (h2 : RE X W b tb) (hg : X.env.kindOf "range" = some .globalImplicit := by kernel_rfl) (hs : isStar a = false := by rfl) (hs2 : isStar b = false := by rfl) : RI X W tg (.Call (.Name "range" p) [a, b] [] pos) (iRange2 ta tb) := fun _ _ _ k =>
  wi_range2 hm ((h _ _ _ k).mono fun _ z => (h2 _ _ _ z).mono fun _ z => by
    obtain ⟨i, e1, z⟩ := asI_inv z
    obtain ⟨j, e2, z1, z2⟩ := asI_inv z
    exact ⟨i, j, e1, e2, z1, z2⟩) hg (by rw [star_cons hs, star_cons hs2]; rfl) (by rw [star_cons hs2]; rfl)
/-! ### targets -/
def gNm (i : Nat) : DG := fun d ρ Φ => Φ (ρ.set i (.dat d))
def gAll : List DG → List PyData → List Sl → (List Sl → Prop) → Prop
  | [], [], ρ, Φ => Φ ρ
  | g :: gs, d :: ds, ρ, Φ => g d ρ fun ρ' => gAll gs ds ρ' Φ
  | _, _, _, _ => False
def gTup (gs : List DG) : DG := fun d ρ Φ => match d with
  | .tuple ds => match Nat.beq ds.length gs.length with
    | true => gAll gs ds ρ Φ
    | false => False
  | _ => False
theorem gTup_inv {gs : List DG} {d : PyData} {ρ : List Sl} {Φ : List Sl → Prop} (h : gTup gs d ρ Φ) : ∃ ds, d = .tuple ds ∧ ds.length = gs.length ∧ gAll gs ds ρ Φ := by
  unfold gTup at h
  split at h
  · split at h
    · rename_i e
      exact ⟨_, rfl, Nat.eq_of_beq_eq_true e, h⟩
    · exact h.elim
  · exact h.elim
variable {T : Nat → Prop} {g : DG} {gs : List DG} {d : PyData} {ds : List PyData} {ρ : List Sl} {Ξ : Exn → Prop}
theorem WG.mono {Φ Ψ : List Sl → Prop} (h : WG X ρ e d T Φ) (k : ∀ ρ, Φ ρ → Ψ ρ) : WG X ρ e d T Ψ := fun B F H σ v env r Q q => h B F H σ v env r Q fun ρ' σ' w => q ρ' σ' (k _ w)
theorem WGs.mono {Φ Ψ : List Sl → Prop} (h : WGs X ρ es ds T Φ) (k : ∀ ρ, Φ ρ → Ψ ρ) : WGs X ρ es ds T Ψ := fun B F H σ v env r Q q => h B F H σ v env r Q fun ρ' σ' w => q ρ' σ' (k _ w)
theorem rg_nm (i : Nat) {x : Str} (nd : X.N.Nodup) (hT : T i) (hN : X.N[i]? = some x := by kernel_rfl) (hx : stOk X x = true := by kernel_rfl) : RG X (.Name x pos) T (gNm i) := fun _ _ _ h => wg_name i nd hT h hN (stOk_inv hx).1 (stOk_inv hx).2
def RGs (X : Cx) (T : Nat → Prop) (es : List Expr) (gs : List DG) : Prop := es.length = gs.length ∧ ∀ ds ρ Φ, gAll gs ds ρ Φ → WGs X ρ es ds T Φ
theorem rgs_nil : RGs X T [] [] := ⟨rfl, fun ds ρ Φ h => by
  cases ds with
  | nil => exact wgs_nil h
  | cons _ _ => exact h.elim⟩
theorem gs_cons {env : Env} (h : isStar e = false) : (assignEach (e :: es) env) = (false, assign e env) :: (assignEach es env) := by
  cases e <;> first | rfl | cases h
theorem rgs_cons (h : RG X e T g) (r : RGs X T es gs) (hs : isStar e = false := by rfl) : RGs X T (e :: es) (g :: gs) := ⟨by rw [List.length_cons, List.length_cons, r.1], fun ds ρ Φ k => by
  cases ds with
  | nil => exact k.elim
  | cons d ds =>
    have w : WG X ρ e d T fun ρ' => WGs X ρ' es ds T Φ := (h d ρ _ k).mono fun ρ' z => r.2 ds ρ' Φ z
    exact wgs_cons w (by rw [gs_cons hs]; rfl)⟩
theorem rg_tup {k : Nat} (hc : X.calm = true) (h : RGs X T es gs) (hn : (assignEach es X.env).length = es.length := by rfl) (hst : (assignEach es X.env).findIdx? (·.1) = none := by rfl) : RG X (.Tuple es k pos) T (gTup gs) := fun d ρ Φ z => by
  obtain ⟨ds, rfl, hl, z⟩ := gTup_inv z
  exact wg_tup hc (h.2 ds ρ Φ z) (by rw [hl, h.1]) hn hst

/-! ### statements -/
def sNil : DS := fun ρ _ E => Go (E.nx ρ)
def En.to (E : En) (nx : List Sl → Prop) : En := { E with nx := nx }
def En.lp (E : En) (I : List Sl → Prop) : En := { nx := I, ct := I, bk := E.nx, rt := E.rt }
def sCons (s r : DS) : DS := fun ρ Ξ E => s ρ Ξ (E.to fun ρ' => r ρ' Ξ E)
theorem W1.mono {ρ : List Sl} {Ξ : Xi} {E E' : En} (h : W1 X W ρ st Ξ E) (k1 : ∀ ρ, E.nx ρ → E'.nx ρ) (k2 : ∀ s, E.rt s → E'.rt s) (k3 : ∀ ρ, E.bk ρ → E'.bk ρ) (k4 : ∀ ρ, E.ct ρ → E'.ct ρ) : W1 X W ρ st Ξ E' := fun B F H σ env D d dx =>
  h B F H σ env D ⟨fun ρ' F2 H2 σ2 w env2 => d.nx ρ' F2 H2 σ2 (k1 _ w) env2, fun v s F2 H2 w => d.rt v s F2 H2 (k2 _ w), fun ρ' F2 H2 σ2 w env2 => d.bk ρ' F2 H2 σ2 (k3 _ w) env2, fun ρ' F2 H2 σ2 w env2 => d.ct ρ' F2 H2 σ2 (k4 _ w) env2⟩ dx
theorem rs_nil : RS X W [] sNil := fun _ _ _ h => ws_nil h
theorem rs_cons (h : R1 X W st ts) (r : RS X W ss tr) : RS X W (st :: ss) (sCons ts tr) := fun ρ Ξ E k => ws_cons ((h ρ Ξ _ k).mono (fun _ z => r _ _ _ z) (fun _ z => z) (fun _ z => z) (fun _ z => z))
theorem rs_one (h : R1 X W st ts) : RS X W [st] ts := fun ρ Ξ E k => ws_cons ((h ρ Ξ _ k).mono (fun _ z => ws_nil z) (fun _ z => z) (fun _ z => z) (fun _ z => z))
def sRet (k : DK) : DS := fun ρ Ξ E => k ρ (xat Ξ ρ) E.rt
theorem r1_ret (h : RK X W e tk) : R1 X W (.Return (some e) pos) (sRet tk) := fun _ _ _ k => w1_ret (h _ _ _ k)
def sRetN : DS := fun _ _ E => E.rt (.dat .none)
theorem r1_retN : R1 X W (.Return none pos) sRetN := fun _ _ _ k => w1_retN k
/-- return of a name, own or data -/
def sRetV (i : Nat) : DS := fun ρ _ E => match nth ρ i with
  | some (.own ds) => E.rt (.own ds)
  | some (.dat d) => E.rt (.dat d)
  | _ => False
theorem r1_retV (i : Nat) {x : Str} (hx : nmOk X.env.scope x = true := by kernel_rfl) (hN : X.N[i]? = some x := by kernel_rfl) : R1 X W (.Return (some (.Name x px)) pos) (sRetV i) := fun ρ Ξ E h => by
  obtain ⟨h1, h2, h3⟩ := nmOk_inv hx
  unfold sRetV at h
  split at h
  · exact w1_retO i (by rw [← nth_eq]; assumption) h hN h1 h2 h3
  · exact w1_ret (wk_of_we (we_name i (by rw [← nth_eq]; assumption) h hN h1 h2 h3))
  · exact h.elim
def sExpr (k : DK) : DS := fun ρ Ξ E => k ρ (xat Ξ ρ) fun _ => Go (E.nx ρ)
theorem r1_expr (h : RK X W e tk) (hs : swapsWith e none pos.line X.env = pure false := by rfl) : R1 X W (.Expr e pos) (sExpr tk) := fun _ _ _ k => w1_expr (h _ _ _ k) hs
def sIf (t : DT) (a b : DS) : DS := fun ρ Ξ E => t ρ (xat Ξ ρ) fun k => brk k (Go (a ρ Ξ E)) (Go (b ρ Ξ E))
theorem r1_if {la lb : List Stmt} {sa sb : DS} (h : RT X W c t) (ha : RS X W la sa) (hb : RS X W lb sb) : R1 X W (.If c la lb pos) (sIf t sa sb) := fun _ _ _ k => w1_if ((h _ _ _ k).mono fun _ z => ⟨fun e => ha _ _ _ (z.t e), fun e => hb _ _ _ (z.f e)⟩)
def sPass : DS := fun ρ _ E => Go (E.nx ρ)
theorem r1_pass : R1 X W (.Pass pos) sPass := fun _ _ _ k => w1_pass k
def sSet (i : Nat) (k : DK) : DS := fun ρ Ξ E => k ρ (xat Ξ ρ) fun s => E.nx (ρ.set i s)
theorem r1_set (i : Nat) {x : Str} (nd : X.N.Nodup) (h : RK X W e tk) (hN : X.N[i]? = some x := by kernel_rfl) (hx : stOk X x = true := by kernel_rfl) (hs : swapsWith e (some (.Name x px)) pos.line X.env = pure false := by rfl) : R1 X W (.Assign [.Name x px] e pos) (sSet i tk) := fun _ _ _ k =>
  w1_set i nd (h _ _ _ k) hN (stOk_inv hx).1 hs (stOk_inv hx).2
/-- what is own becomes data -/
def sFrz (i : Nat) (r : DS) : DS := fun ρ Ξ E => match nth ρ i with
  | some (.own ds) => r (ρ.set i (.dat (.list ds))) Ξ E
  | _ => r ρ Ξ E
theorem rs_frz (i : Nat) (h : RS X W ss ts) : RS X W ss (sFrz i ts) := fun ρ Ξ E k => by
  unfold sFrz at k
  split at k
  · exact ws_freeze i (by rw [← nth_eq]; assumption) (h _ _ _ k)
  · exact h _ _ _ k
def flatK (d : PyData) (Φ : PyData → Prop) : Prop := match flatD d with
  | true => Φ d
  | false => False
theorem flatK_inv {d : PyData} {Φ : PyData → Prop} (h : flatK d Φ) : flatD d = true ∧ Φ d := by
  unfold flatK at h
  split at h
  · rename_i z; exact ⟨z, h⟩
  · exact h.elim
/-- own lists' items, sizes, for the while: what is found is flat -/
def eMelt (i : Nat) (t : DE) : DE := fun ρ Ξ Φ => match nth ρ i with
  | some (.own ds) => t (ρ.set i (.dat (.list ds))) X0 fun d => flatK d Φ
  | _ => t ρ Ξ Φ
theorem rp_flat {K : PySem.W.Frag} {F F' : Hp} {v : V} {d : PyData} (h : flatD d = true) (r : Rp K F v d) : Rp K F' v d := by
  cases r with
  | non => exact .non
  | bl b => exact .bl b
  | int i => exact .int i
  | str x => exact .str x
  | _ => cases h
theorem re_melt (i : Nat) (h : RE X W e te) : RE X W e (eMelt i te) := fun ρ Ξ Φ k => by
  unfold eMelt at k
  split at k
  · rename_i ds hi
    rw [nth_eq] at hi
    intro B F H σ env Q q qx
    obtain ⟨p, vs, e1, hp, fp, h0, nm, r⟩ := env.sl i _ hi
    obtain ⟨F2, s2, env2⟩ := env.freeze hi
    -- back: what was frozen for the while is none of F
    have back : ∀ {F3 H3 : Hp}, Step B.M F2 H F3 H3 → Step B.M F H (fun a => if H a = none then F3 a else F a) H3 := fun {F3 H3} st => ⟨fun a x e => by
        show (if H a = none then F3 a else F a) = some x
        rw [if_neg (by rw [env.sub a x e]; exact fun z => nomatch z)]; exact e,
      fun a x e => by
        have e' : (if H a = none then F3 a else F a) = some x := e
        by_cases z : H a = none
        · rw [if_pos z] at e'; exact st.sub a x e'
        · rw [if_neg z] at e'; exact st.sub a x (st.fr a x (s2 a x e')),
      st.keepD, fun a n => by
        show (if H a = none then F3 a else F a) = F a
        rw [if_neg n], st.alive, st.dr⟩
    exact h _ _ _ k B F2 H σ env2 Q (fun v d F3 H3 hd st rv => q v d _ H3 (flatK_inv hd).2 (back st) (rp_flat (flatK_inv hd).1 rv)) (fun _ _ _ _ _ z => z.elim)
  · exact h _ _ _ k
end
end Mv

set_option maxRecDepth 100000
set_option maxHeartbeats 4000000
/-! readings: names set together, items, calls that change lists, raise, try, loops, comprehensions, defs -/
namespace Mv
open PySem L2
section
variable {X : Cx} {W : WX} {a b c e tg : Expr} {es : List Expr} {ta tb tc te : DE} {tk uk vk : DK} {t : DT} {pos p px py pz pt : Pos} {st : Stmt} {ss : List Stmt} {ts tr : DS} {ρ : List Sl} {Ξ : Exn → Prop}

/-! ### x, y, .. = a, b, .. -/
abbrev DKs := List Sl → (Exn → Prop) → (List Sl → Prop) → Prop
def RKs (X : Cx) (W : WX) (es : List Expr) (t : DKs) : Prop := ∀ ρ Ξ Φ, t ρ Ξ Φ → WKs X W ρ es Ξ Φ
def partOk (s : Sl) : Bool := match s with
  | .dat d => flatD d
  | s => s.isOwn
def apartK (s : Sl) (ss : List Sl) (P : Prop) : Prop := match s.isOwn with
  | true => match ss.all partOk with
    | true => P
    | false => False
  | false => P
theorem apartK_inv {s : Sl} {ss : List Sl} {P : Prop} (h : apartK s ss P) : (s.isOwn = true → ∀ t ∈ ss, t.isOwn = true ∨ ∃ d, t = .dat d ∧ flatD d = true) ∧ P := by
  unfold apartK at h
  split at h
  · split at h
    · rename_i e
      refine ⟨fun _ t ht => ?_, h⟩
      have q := List.all_eq_true.mp e t ht
      cases t with
      | dat d => exact .inr ⟨d, rfl, q⟩
      | own _ => exact .inl rfl
      | odk _ => exact .inl rfl
      | odn _ => exact .inl rfl
      | owp _ _ => exact .inl rfl
      | _ => cases q
    · exact h.elim
  · rename_i e
    exact ⟨fun z => (by rw [e] at z; cases z), h⟩
def ksNil : DKs := fun _ _ Φ => Φ []
def ksCons (k : DK) (r : DKs) : DKs := fun ρ Ξ Φ => k ρ Ξ fun s => r ρ Ξ fun ss => apartK s ss (Φ (s :: ss))
variable {ks : DKs}
theorem WKs.mono {Φ Ψ : List Sl → Prop} (h : WKs X W ρ es Ξ Φ) (k : ∀ s, Φ s → Ψ s) : WKs X W ρ es Ξ Ψ := fun B F H σ env Q q qx => h B F H σ env Q (fun vs ss F2 H2 z => q vs ss F2 H2 (k _ z)) qx
theorem rks_nil : RKs X W [] ksNil := fun _ _ _ h => wks_nil h
theorem rks_cons (h : RK X W e tk) (r : RKs X W es ks) (hs : isStar e = false := by rfl) : RKs X W (e :: es) (ksCons tk ks) := fun _ _ _ k => wks_cons ((h _ _ _ k).mono fun s z => (r _ _ _ z).mono fun ss z => apartK_inv z) (star_cons hs)
def setsV : L2.St → List Nat → List V → L2.St
  | σ, i :: is, v :: vs => setsV (σ.set i (some v)) is vs
  | σ, _, _ => σ
theorem EnvOk.putsAll {K : PySem.W.Frag} {B : Base} {F H H2 : Hp} (hH : ∀ p, H p = none → B.H0 p = none) (hM : ∀ p, B.M p → B.H0 p ≠ none) : ∀ (vs : List V) (ss : List Sl) (l : List Nat) (σ : L2.St) (ρ : List Sl), EnvOk K B F H2 σ ρ → SlVs K H F H2 vs ss →
    (∀ (j : Nat) (s : Sl) (p : Addr), ρ[j]? = some s → s.isOwn = true → σ[j]? = some (some (.ref p)) → H p ≠ none ∨ V.ref p ∉ vs) → EnvOk K B F H2 (setsV σ l vs) (setAll ρ l ss)
  | _, _, l, σ, ρ, env, .nil, _ => by
    cases l <;> exact env
  | _, _, [], σ, ρ, env, .cons _ _ _, _ => env
  | v :: vs, s :: ss, i :: l, σ, ρ, env, .cons r a h, ap => by
    have ok : SlOk K B F H2 (some (some v)) s := by
      cases s with
      | dat d => exact ⟨v, rfl, r⟩
      | own ds =>
        obtain ⟨p, vs, rfl, hp, h2, f2, ra⟩ := r
        exact ⟨p, vs, rfl, h2, f2, hH p hp, fun m => hM p m (hH p hp), ra⟩
      | odk ds =>
        obtain ⟨p, vs, rfl, hp, h2, f2, ra⟩ := r
        exact ⟨p, vs, rfl, h2, f2, hH p hp, fun m => hM p m (hH p hp), ra⟩
      | odn ds =>
        obtain ⟨p, rfl, hp, h2, f2⟩ := r
        exact ⟨p, rfl, h2, f2, hH p hp, fun m => hM p m (hH p hp)⟩
      | rwd _ _ _ => trivial
      | own2 _ => trivial
      | row p st =>
        obtain ⟨rfl, hp, ra, fp⟩ := r
        exact ⟨rfl, ra, fp, .inr (hH p hp)⟩
      | _ => exact r.elim
    have new : s.isOwn = true → ∃ p, v = .ref p ∧ H p = none := fun o => by
      cases s with
      | own ds => obtain ⟨p, vs, e, hp, _⟩ := r; exact ⟨p, e, hp⟩
      | odk ds => obtain ⟨p, vs, e, hp, _⟩ := r; exact ⟨p, e, hp⟩
      | odn ds => obtain ⟨p, e, hp, _⟩ := r; exact ⟨p, e, hp⟩
      | owp _ _ => exact r.elim
      | _ => cases o
    have env1 : EnvOk K B F H2 (σ.set i (some v)) (ρ.set i s) := env.put ok fun o j t _ e ot z => by
      obtain ⟨p, rfl, hp⟩ := new o
      rcases ap j t p e ot z with q | q
      · exact q hp
      · exact q List.mem_cons_self
    have fin := EnvOk.putsAll hH hM vs ss l _ _ env1 h fun j t p e ot z => by
      by_cases hj : j = i
      · subst hj
        have hlt : j < (ρ.set j s).length := (List.getElem?_eq_some_iff.mp e).1
        rw [List.length_set] at hlt
        rw [List.getElem?_set_self hlt] at e
        cases e
        rw [List.getElem?_set_self (by rw [env.len]; exact hlt)] at z
        refine .inr fun hu => a ot _ hu ?_
        exact (Option.some.inj (Option.some.inj z)).symm
      · rw [List.getElem?_set_ne (Ne.symm hj)] at e z
        rcases ap j t p e ot z with q | q
        · exact .inl q
        · exact .inr fun hu => q (List.mem_cons_of_mem _ hu)
    exact fin
theorem EnvOk.putsK {K : PySem.W.Frag} {B : Base} {F H F2 H2 : Hp} {σ : L2.St} {vs : List V} {ss : List Sl} (env : EnvOk K B F H σ ρ) (st : Step B.M F H F2 H2) (r : SlVs K H F2 H2 vs ss) (l : List Nat) : EnvOk K B F2 H2 (setsV σ l vs) (setAll ρ l ss) :=
  EnvOk.putsAll (fun p hp => env.fresh0 hp) env.mh vs ss l σ ρ (env.step st) r fun j s p e o q => .inl (env.ownAt e o q)
theorem SlVs.len {K : PySem.W.Frag} {H F2 H2 : Hp} : ∀ {vs : List V} {ss : List Sl}, SlVs K H F2 H2 vs ss → vs.length = ss.length
  | _, _, .nil => rfl
  | _, _, .cons _ _ h => by rw [List.length_cons, List.length_cons, h.len]
/-- what is asked: as many kinds as names -/
def sPar (l : List Nat) (k : DKs) : DS := fun ρ Ξ E => k ρ (xat Ξ ρ) fun ss => match Nat.beq ss.length l.length with
  | true => E.nx (setAll ρ l ss)
  | false => False
theorem sPar_inv {l : List Nat} {ss : List Sl} {P : Prop} (h : match Nat.beq ss.length l.length with
  | true => P
  | false => False) : ss.length = l.length ∧ P := by
  split at h
  · rename_i e; exact ⟨Nat.eq_of_beq_eq_true e, h⟩
  · exact h.elim
theorem r1_par2 (i j : Nat) {x y : Str} {kt k2 : Nat} (C : Cxt X W) (h : RKs X W [a, b] ks) (hi : X.N[i]? = some x := by kernel_rfl) (hj : X.N[j]? = some y := by kernel_rfl) (hij : i ≠ j := by decide)
    (hx : X.env.scope.names.lookup x = some .local := by kernel_rfl) (hy : X.env.scope.names.lookup y = some .local := by kernel_rfl)
    (hw : swappedStores [.Tuple [.Name x px, .Name y py] kt pt] (.Tuple [a, b] k2 p) X.env = pure (some [x, y]) := by rfl) : R1 X W (.Assign [.Tuple [.Name x px, .Name y py] kt pt] (.Tuple [a, b] k2 p) pos) (sPar [i, j] ks) := fun ρ Ξ E k B F H σ env D d dx =>
  wS1_of (ps_par C.calm C.nd hi hj hij hx hy pa_w hw rfl) (h _ _ _ k B F H σ env _ (fun vs ss F2 H2 hss st rs => by
    obtain ⟨hl, hn⟩ := sPar_inv hss
    have hl2 := rs.len.trans hl
    match vs, hl2 with
    | [v, w], _ => exact ⟨v, w, rfl, d.nx _ F2 H2 _ hn (env.putsK st rs [i, j])⟩) (dx.at env))
theorem r1_par3 (i j l : Nat) {x y z : Str} {kt k2 : Nat} (C : Cxt X W) (h : RKs X W [a, b, c] ks) (hi : X.N[i]? = some x := by kernel_rfl) (hj : X.N[j]? = some y := by kernel_rfl) (hl : X.N[l]? = some z := by kernel_rfl) (hij : i ≠ j := by decide) (hil : i ≠ l := by decide) (hjl : j ≠ l := by decide)
    (hx : X.env.scope.names.lookup x = some .local := by kernel_rfl) (hy : X.env.scope.names.lookup y = some .local := by kernel_rfl) (hz : X.env.scope.names.lookup z = some .local := by kernel_rfl)
    (hw : swappedStores [.Tuple [.Name x px, .Name y py, .Name z pz] kt pt] (.Tuple [a, b, c] k2 p) X.env = pure (some [x, y, z]) := by rfl) : R1 X W (.Assign [.Tuple [.Name x px, .Name y py, .Name z pz] kt pt] (.Tuple [a, b, c] k2 p) pos) (sPar [i, j, l] ks) := fun ρ Ξ E k B F H σ env D d dx =>
  wS1_of (ps_par3 C.calm C.nd hi hj hl hij hil hjl hx hy hz pa_w hw rfl) (h _ _ _ k B F H σ env _ (fun vs ss F2 H2 hss st rs => by
    obtain ⟨hl, hn⟩ := sPar_inv hss
    have hl2 := rs.len.trans hl
    match vs, hl2 with
    | [v, w, u], _ => exact ⟨v, w, u, rfl, d.nx _ F2 H2 _ hn (env.putsK st rs [i, j, l])⟩) (dx.at env))
/-- names only -/
inductive Nms (X : Cx) : List Expr → List Nat → Prop
  | nil : Nms X [] []
  | cons {x : Str} {px : Pos} {es : List Expr} {l : List Nat} (i : Nat) (hN : X.N[i]? = some x) (hx : stOk X x = true) (r : Nms X es l) : Nms X (.Name x px :: es) (i :: l)
theorem Nms.mk {x : Str} (i : Nat) {l : List Nat} (r : Nms X es l) (hN : X.N[i]? = some x := by kernel_rfl) (hx : stOk X x = true := by kernel_rfl) : Nms X (.Name x px :: es) (i :: l) := .cons i hN hx r
theorem Nms.len : ∀ {es : List Expr} {l : List Nat}, Nms X es l → es.length = l.length
  | _, _, .nil => rfl
  | _, _, .cons _ _ _ r => by rw [List.length_cons, List.length_cons, r.len]
theorem Nms.run (nd : X.N.Nodup) {H : Hp} {Q : L2.St → Hp → Prop} : ∀ (es : List Expr) (l : List Nat) (vs : List V) (σ : L2.St), Nms X es l → vs.length = l.length → Q (setsV σ l vs) H → wGs X es vs σ H Q
  | _, _, vs, σ, .nil, hl, q => by
    intro pins s us I rv
    match vs, hl with
    | [], _ => exact (pgs_nil (X := X)).run pins s σ H [] us Q I rv ⟨rfl, q⟩
  | _, _, vs, σ, .cons (es := es) (l := l) i hN hx r, hl, q => by
    intro pins s us I rv
    match vs, hl with
    | v :: vs, hl => exact (pgs_cons (pg_name (i := i) nd hN (stOk_inv hx).1 (stOk_inv hx).2) pgs_w rfl).run pins s σ H (v :: vs) us Q I rv ⟨v, vs, rfl, Nms.run nd es l vs _ r (by simpa using hl) q⟩
/-- through a tuple -/
theorem r1_parT {l : List Nat} {ns : List Expr} {kt k2 : Nat} (C : Cxt X W) (h : RKs X W es ks) (n : Nms X ns l) (hn : (assignEach ns X.env).length = ns.length := by rfl) (hst : (assignEach ns X.env).findIdx? (·.1) = none := by rfl) (hz : Nat.ble l.length 100 = true := by rfl)
    (hs : swapsWithSole [.Tuple ns kt pt] (.Tuple es k2 p) pos.line X.env = pure false := by rfl) (hw : swappedStores [.Tuple ns kt pt] (.Tuple es k2 p) X.env = pure none := by rfl) (h1 : (assignEach [.Tuple ns kt pt] X.env).map (·.2) = [assign (.Tuple ns kt pt) X.env] := by rfl) : R1 X W (.Assign [.Tuple ns kt pt] (.Tuple es k2 p) pos) (sPar l ks) := fun ρ Ξ E k B F H σ env D d dx =>
  wS1_of (ps_asg (pe_tup pa_w) (pg_tup C.calm pgs_w hn hst) hs hw h1) (h _ _ _ k B F H σ env _ (fun vs ss F2 H2 hss st rs => by
    obtain ⟨hl, hx⟩ := sPar_inv hss
    have hl2 := rs.len.trans hl
    have hz' := Nat.le_of_ble_eq_true hz
    refine ⟨Nat.le_trans (by rw [hl2]; exact hz') (by decide), fun q hq => ?_⟩
    have st2 : Step B.M F2 H2 F2 (upd H2 q (.tup vs)) := Step.own st.sub hq
    refine ⟨q, vs, rfl, SqT.of upd_same, by rw [hl2, n.len], Nms.run C.nd _ _ _ _ n hl2 ?_⟩
    refine d.nx _ F2 _ _ hx (env.putsK (st.trans st2) ?_ l)
    have hM : ∀ p, H p = none → ¬ B.M p := fun p hp => env.notM (env.fresh0 hp)
    clear hss hx hl hl2
    generalize upd H2 q (.tup vs) = H3 at st2
    induction rs with
    | nil => exact .nil
    | cons r a _ ih => exact .cons (r.step hM st2) a ih) (dx.at env))

/-! ### own lists changed -/
def ownK (o : Option Sl) (Φ : List PyData → Prop) : Prop := match o with
  | some (.own ds) => Φ ds
  | _ => False
theorem ownK_inv {o : Option Sl} {Φ : List PyData → Prop} (h : ownK o Φ) : ∃ ds, o = some (.own ds) ∧ Φ ds := by
  unfold ownK at h
  split at h
  · exact ⟨_, rfl, h⟩
  · exact h.elim
def sApp (i : Nat) (t : DE) : DS := fun ρ Ξ E => ownK (nth ρ i) fun ds => t ρ (xat Ξ ρ) fun d => ds.length < 8000000 ∧ Go (E.nx (ρ.set i (.own (ds ++ [d]))))
theorem r1_app (i : Nat) {x : Str} {ap cp : Pos} (h : RE X W e te) (hx : nmOk X.env.scope x = true := by kernel_rfl) (hN : X.N[i]? = some x := by kernel_rfl)
    (pe : PE X (.Call (.Attribute (.Name x px) "append" ap) [e] [] cp) (tBM X.K "list" rAppend (tVar i) (tCons (wE X e) tNil)) := by exact pe_bm PySem.F.plainAttrs_list PySem.F.slot_list_append PySem.F.type_list_append mt_append (pv _) (pa_cons pe_w pa_nil))
    (hs : swapsWith (.Call (.Attribute (.Name x px) "append" ap) [e] [] cp) none pos.line X.env = pure false := by rfl) : R1 X W (.Expr (.Call (.Attribute (.Name x px) "append" ap) [e] [] cp) pos) (sApp i te) := fun ρ Ξ E k => by
  obtain ⟨ds, e, k⟩ := ownK_inv k
  obtain ⟨h1, h2, h3⟩ := nmOk_inv hx
  exact w1_append i (by rw [← nth_eq]; exact e) ((h _ _ _ k).mono fun _ z => ⟨z.1, z.2⟩) hN h1 h2 h3 pe hs
def sExt (i : Nat) (t : DE) : DS := fun ρ Ξ E => ownK (nth ρ i) fun ds => t ρ (xat Ξ ρ) fun d => match d with
  | .list es => ds.length + es.length ≤ 8000000 ∧ Go (E.nx (ρ.set i (.own (ds ++ es))))
  | _ => False
theorem r1_ext (i : Nat) {x : Str} {ap cp : Pos} (h : RE X W e te) (hx : nmOk X.env.scope x = true := by kernel_rfl) (hN : X.N[i]? = some x := by kernel_rfl)
    (pe : PE X (.Call (.Attribute (.Name x px) "extend" ap) [e] [] cp) (tBM X.K "list" rExtend (tVar i) (tCons (wE X e) tNil)) := by exact pe_bm PySem.F.plainAttrs_list PySem.F.slot_list_extend PySem.F.type_list_extend mt_extend (pv _) (pa_cons pe_w pa_nil))
    (hs : swapsWith (.Call (.Attribute (.Name x px) "extend" ap) [e] [] cp) none pos.line X.env = pure false := by rfl) : R1 X W (.Expr (.Call (.Attribute (.Name x px) "extend" ap) [e] [] cp) pos) (sExt i te) := fun ρ Ξ E k => by
  obtain ⟨ds, e, k⟩ := ownK_inv k
  obtain ⟨h1, h2, h3⟩ := nmOk_inv hx
  exact w1_extend i (by rw [← nth_eq]; exact e) ((h _ _ _ k).mono fun d z => by
    split at z
    · exact ⟨_, rfl, z.1, z.2⟩
    · exact z.elim) hN h1 h2 h3 pe hs
/-- targets that may be items of own lists -/
abbrev DX := PyData → List Sl → (Exn → Prop) → (List Sl → Prop) → Prop
def RX (X : Cx) (W : WX) (tg : Expr) (t : DX) : Prop := ∀ d ρ Ξ Φ, t d ρ Ξ Φ → WGx X W ρ tg d Ξ Φ
def xNm (i : Nat) : DX := fun d ρ _ Φ => Φ (ρ.set i (.dat d))
def xIt (i : Nat) (t : DE) : DX := fun d ρ Ξ Φ => ownK (nth ρ i) fun ds => t ρ Ξ fun y => asI y fun k => someK (ixN ds.length k) fun j => Φ (ρ.set i (.own (ds.set j d)))
theorem rx_nm (i : Nat) {x : Str} (nd : X.N.Nodup) (hN : X.N[i]? = some x := by kernel_rfl) (hx : stOk X x = true := by kernel_rfl) : RX X W (.Name x pos) (xNm i) := fun _ _ _ _ h => wgx_name i nd h hN (stOk_inv hx).1 (stOk_inv hx).2
theorem rx_it (i : Nat) {x : Str} (h : RE X W e te) (hx : nmOk X.env.scope x = true := by kernel_rfl) (hN : X.N[i]? = some x := by kernel_rfl)
    (ha : ∀ v, assign (.Subscript (.Name x px) e pos) X.env v = (do
      let ov ← holding [v] (eval (.Name x px) X.env)
      let iv ← holding [v, ov] (eval e X.env)
      standAt pos
      holding [v, ov, iv] (setItem ov iv v)
      release [v, ov, iv] []) := by intro _; rfl) : RX X W (.Subscript (.Name x px) e pos) (xIt i te) := fun d ρ Ξ Φ k => by
  obtain ⟨ds, e, k⟩ := ownK_inv k
  obtain ⟨h1, h2, h3⟩ := nmOk_inv hx
  exact wgx_item i (by rw [← nth_eq]; exact e) ((h _ _ _ k).mono fun y z => by
    obtain ⟨q, e1, z⟩ := asI_inv z
    obtain ⟨j, e2, z⟩ := someK_inv z
    exact ⟨q, j, e1, e2, z⟩) hN h1 h2 h3 ha
def sItem (t : DE) (g : DX) : DS := fun ρ Ξ E => t ρ (xat Ξ ρ) fun d => g d ρ (xat Ξ ρ) fun ρ' => E.nx ρ'
theorem r1_item {g : DX} (h : RE X W e te) (r : RX X W tg g) (hs : swapsWithSole [tg] e pos.line X.env = pure false := by rfl) (hw : swappedStores [tg] e X.env = pure none := by rfl) (h1 : (assignEach [tg] X.env).map (·.2) = [assign tg X.env] := by rfl) : R1 X W (.Assign [tg] e pos) (sItem te g) := fun _ _ _ k =>
  w1_setItem ((h _ _ _ k).mono fun _ z => r _ _ _ _ z) hs hw h1
def xAll : List DX → List PyData → List Sl → (List Sl → Prop) → Prop
  | [], [], ρ, Φ => Φ ρ
  | g :: gs, d :: ds, ρ, Φ => g d ρ X0 fun ρ' => xAll gs ds ρ' Φ
  | _, _, _, _ => False
def RXs (X : Cx) (W : WX) (es : List Expr) (gs : List DX) : Prop := es.length = gs.length ∧ ∀ ds ρ Φ, xAll gs ds ρ Φ → WGxs X W ρ es ds X0 Φ
theorem WGx.mono {d : PyData} {Φ Ψ : List Sl → Prop} (h : WGx X W ρ e d Ξ Φ) (k : ∀ ρ, Φ ρ → Ψ ρ) : WGx X W ρ e d Ξ Ψ := fun B F H σ v env r Q q qx => h B F H σ v env r Q (fun ρ' σ' F' H' w => q ρ' σ' F' H' (k _ w)) qx
theorem rxs_nil : RXs X W [] [] := ⟨rfl, fun ds ρ Φ h => by
  cases ds with
  | nil => exact wgxs_nil h
  | cons _ _ => exact h.elim⟩
theorem rxs_cons {g : DX} {gs : List DX} (h : RX X W e g) (r : RXs X W es gs) (hs : isStar e = false := by rfl) : RXs X W (e :: es) (g :: gs) := ⟨by rw [List.length_cons, List.length_cons, r.1], fun ds ρ Φ k => by
  cases ds with
  | nil => exact k.elim
  | cons d ds =>
    have w : WGx X W ρ e d X0 fun ρ' => WGxs X W ρ' es ds X0 Φ := (h d ρ X0 _ k).mono fun ρ' z => r.2 ds ρ' Φ z
    exact wgxs_cons w (by rw [gs_cons hs]; rfl)⟩
/-- t1, t2, .. = e -/
def sUnp (t : DE) (gs : List DX) : DS := fun ρ Ξ E => t ρ (xat Ξ ρ) fun d => match d with
  | .tuple ds => match Nat.beq ds.length gs.length with
    | true => xAll gs ds ρ E.nx
    | false => False
  | _ => False
theorem r1_unp {gs : List DX} {ns : List Expr} {k : Nat} {tp : Pos} (C : Cxt X W) (h : RE X W e te) (r : RXs X W ns gs) (hn : (assignEach ns X.env).length = ns.length := by rfl) (hst : (assignEach ns X.env).findIdx? (·.1) = none := by rfl)
    (hs : swapsWithSole [.Tuple ns k tp] e pos.line X.env = pure false := by rfl) (hw : swappedStores [.Tuple ns k tp] e X.env = pure none := by rfl) (h1 : (assignEach [.Tuple ns k tp] X.env).map (·.2) = [assign (.Tuple ns k tp) X.env] := by rfl) : R1 X W (.Assign [.Tuple ns k tp] e pos) (sUnp te gs) := fun ρ Ξ E z =>
  w1_unpack C ((h _ _ _ z).mono fun d z => by
    split at z
    · split at z
      · rename_i e
        exact ⟨_, rfl, (Nat.eq_of_beq_eq_true e).trans r.1.symm, r.2 _ _ _ z⟩
      · exact z.elim
    · exact z.elim) hn hst hs hw h1

/-! ### raise, try -/
def sRaise (k : Kd) : DS := fun ρ Ξ _ => Ξ ⟨k, []⟩ ρ
/-- the classes that the program has, without own __init__ -/
structure ExcK (K : PySem.W.Frag) (mg : Str → Option Value) (k : Kd) : Prop where
  ex : ExcC K mg k.nm (kA K k)
theorem r1_raise (k : Kd) {x : Str} {cp : Pos} (C : Cxt X W) (T : ExcK X.K X.mg k) (e : x = k.nm := by rfl) (hg : X.env.kindOf x = some .globalImplicit := by kernel_rfl) (hb : bltOk x = true := by kernel_rfl) : R1 X W (.Raise (some (.Call (.Name x p) [] [] cp)) none pos) (sRaise k) := fun ρ Ξ E h => by
  subst e
  exact w1_raise C T.ex rfl h hg (bltOk_inv hb).2
/-- the classes of the program, what they catch -/
structure Ecs (K : PySem.W.Frag) (mg : Str → Option Value) (l : List Kd) : Prop where
  g : ∀ k ∈ l, mg k.nm = some (.ref (kA K k))
  m : ∀ a ∈ l, ∀ b ∈ l, PySem.W.exmOne K (.ref (kA K a)) (.ref (kA K b)) = some (b.takes a)
def memK (l : List Kd) (k : Kd) : Bool := match l with
  | [] => false
  | a :: r => match decide (a = k) with
    | true => true
    | false => memK r k
theorem memK_inv : ∀ {l : List Kd} {k : Kd}, memK l k = true → k ∈ l
  | [], _, h => by cases h
  | a :: r, k, h => by
    unfold memK at h
    split at h
    · rename_i e; rw [of_decide_eq_true e]; exact List.mem_cons_self
    · exact List.mem_cons_of_mem _ (memK_inv h)
/-- an error meets the clauses -/
def catchD (l : List Kd) (Ξ : Xi) (E : En) (x : Exn) (ρ : List Sl) : List (Kd × DS) → Prop
  | [] => Go (Ξ x ρ)
  | (c, s) :: r => match memK l x.k with
    | true => match c.takes x.k with
      | true => Go (s ρ (fun _ _ => False) E)
      | false => catchD l Ξ E x ρ r
    | false => False
def sTry (l : List Kd) (body : DS) (cs : List (Kd × DS)) : DS := fun ρ Ξ E => body ρ (fun x ρ' => catchD l Ξ E x ρ' cs) E
/-- the clauses -/
inductive Cls (X : Cx) (l : List Kd) : List ExceptHandler → List (Value × List Stmt) → List (Kd × DS) → Prop
  | nil : Cls X l [] [] []
  | cons {x : Str} {k : Kd} {b₀ : Stmt} {suite : List Stmt} {np pos' : Pos} {hds : List ExceptHandler} {vs : List (Value × List Stmt)} {cs : List (Kd × DS)} {s : DS} (m : memK l k = true) (nm : Names X x (.ref (kA X.K k))) (h : ∀ a oe pn, RS (X.suite a ((a, oe) :: pn)) W0 (b₀ :: suite) s) (r : Cls X l hds vs cs) :
    Cls X l (.ExceptHandler (some (.Name x np)) none (b₀ :: suite) pos' :: hds) ((.ref (kA X.K k), b₀ :: suite) :: vs) ((k, s) :: cs)
theorem Cls.mk {l : List Kd} (Y : Ecs X.K X.mg l) (k : Kd) {x : Str} {b₀ : Stmt} {suite : List Stmt} {np pos' : Pos} {hds : List ExceptHandler} {vs : List (Value × List Stmt)} {cs : List (Kd × DS)} {s : DS} (h : ∀ a oe pn, RS (X.suite a ((a, oe) :: pn)) W0 (b₀ :: suite) s) (r : Cls X l hds vs cs) (m : memK l k = true := by rfl) (e : x = k.nm := by rfl) (hg : X.env.kindOf x = some .globalImplicit := by kernel_rfl) (hb : (x == ("__debug__" : Str)) = false := by decide) :
    Cls X l (.ExceptHandler (some (.Name x np)) none (b₀ :: suite) pos' :: hds) ((.ref (kA X.K k), b₀ :: suite) :: vs) ((k, s) :: cs) :=
  .cons m ⟨hg, hb, .inl (by subst e; exact Y.g k (memK_inv m))⟩ h r
theorem Cls.hds : ∀ {l : List Kd} {hds : List ExceptHandler} {vs : List (Value × List Stmt)} {cs : List (Kd × DS)}, Cls X l hds vs cs → HdsD X hds vs
  | _, _, _, _, .nil => .nil
  | _, _, _, _, .cons _ nm _ r => .cons nm r.hds
theorem Cls.run {E : En} {Ξ : Xi} {x : Exn} {ρ : List Sl} : ∀ {l : List Kd} {hds : List ExceptHandler} {vs : List (Value × List Stmt)} {cs : List (Kd × DS)}, Ecs X.K X.mg l → Cls X l hds vs cs → catchD l Ξ E x ρ cs → Catch X Ξ E x ρ vs
  | _, _, _, _, _, .nil, h => h
  | l, _, _, _, Y, .cons (k := k) m nm hs r, h => by
    unfold catchD at h
    split at h
    · rename_i mx
      refine ⟨k.takes x.k, Y.m _ (memK_inv mx) _ (memK_inv m), fun e a oe pn => ?_, fun e => ?_⟩
      · rw [e] at h
        exact hs a oe pn _ _ _ h
      · rw [e] at h
        exact Cls.run Y r h
    · exact h.elim
theorem r1_try {l : List Kd} {body : List Stmt} {h₀ : ExceptHandler} {hds : List ExceptHandler} {vs : List (Value × List Stmt)} {cs : List (Kd × DS)} (C : Cxt X W) (Y : Ecs X.K X.mg l) (c : Cls X l (h₀ :: hds) vs cs)
    (h : ∀ W' pn xe, Cxt (X.tr pn xe) W' → RS (X.tr pn xe) W' body ts) (hs : X.stack = X.env :: X.outer := by rfl) (hf : X.env.frame = some X.env.locals := by rfl) : R1 X W (.Try body (h₀ :: hds) [] [] pos) (sTry l ts cs) := fun ρ Ξ E k =>
  w1_try C hs hf c.hds fun W' pn xe C' => (fun B F H σ env D d dx => h W' pn xe C' ρ _ E k B F H σ env D d fun cls dd x ρ' F2 H2 σ2 hx => dx cls dd x ρ' F2 H2 σ2 (c.run Y hx))

/-! ### loops -/
def sFor (it : DI) (g : DG) (body : DS) : DS := fun ρ Ξ E => it ρ (xat Ξ ρ) fun ds => ∃ I : Nat → List Sl → Prop, I 0 ρ ∧ (∀ i d ρ', ds[i]? = some d → I i ρ' → Go (g d ρ' fun ρ2 => body ρ2 Ξ (E.lp (I (i + 1))))) ∧ ∀ ρ', I ds.length ρ' → Go (E.nx ρ')
theorem WI.mono {Φ Ψ : List PyData → Prop} (h : WI X W ρ tg e Ξ Φ) (k : ∀ d, Φ d → Ψ d) : WI X W ρ tg e Ξ Ψ := fun B F H σ env R q qx => h B F H σ env R (fun J ds F2 H2 z => q J ds F2 H2 (k _ z)) qx
theorem r1_for {it : DI} {g : DG} {body : List Stmt} (C : Cxt X W) (h : RI X W tg e it) (r : RG X tg (fun _ => True) g) (q : RS X W body ts) (hs : ∀ x, foldedSetIterable e X.env x = pure x := by intro _; rfl) : R1 X W (.For tg e body [] pos) (sFor it g ts) := fun ρ Ξ E k =>
  w1_for C ((h _ _ _ k).mono fun ds ⟨I, i0, st, fin⟩ => ⟨I, i0, fun i d ρ' e hI => (r _ _ _ (st i d ρ' e hI)).mono fun ρ2 z => q _ _ _ z, fin⟩) hs
def sWhile (c : DT) (body : DS) : DS := fun ρ Ξ E => ∃ (I : Nat → List Sl → Prop) (m0 : Nat), I m0 ρ ∧ ∀ m ρ', I m ρ' → Go (c ρ' (xat Ξ ρ') fun k => brk k (Go (body ρ' Ξ (E.lp fun ρ2 => ∃ m', m' < m ∧ I m' ρ2))) (Go (E.nx ρ')))
theorem r1_while {body : List Stmt} (C : Cxt X W) (h : RT X W c t) (q : RS X W body ts) : R1 X W (.While c body [] pos) (sWhile t ts) := fun ρ Ξ E ⟨I, m0, i0, st⟩ =>
  w1_while C I m0 i0 fun m ρ' hI => (h _ _ _ (st m ρ' hI)).mono fun b z => ⟨fun e => q _ _ _ (z.t e), fun e => z.f e⟩

/-! ### comprehensions -/
def tsNil : DT := fun _ _ Θ => Θ true
def RTs (X : Cx) (ifs : List Expr) (t : DT) : Prop := ∀ ρ Φ, t ρ X0 Φ → WTs X ρ ifs Φ
theorem rts_nil : RTs X [] tsNil := fun _ _ h => wts_nil h
theorem rts_one (h : RT X W0 c t) : RTs X [c] t := fun _ _ k => wts_one (h _ _ _ k)
/-- a turn of a comprehension -/
def turnD (vs : List Nat) (g : DG) (tt : DT) (te : DE) (ρ : List Sl) (d : PyData) (P1 : PyData → Prop) (P0 : Prop) : Prop :=
  g d (wipeS ρ vs) fun ρ2 => tt ρ2 X0 fun b => brk b (Go (te ρ2 X0 P1)) (Go P0)
/-- the items by an invariant, or each by itself -/
def lcD (turn : PyData → (PyData → Prop) → Prop → Prop) (ds : List PyData) (Ψ : List PyData → Prop) : Prop :=
  (∃ I : Nat → List PyData → Prop, I 0 [] ∧ (∀ i d acc, ds[i]? = some d → I i acc → acc.length < 8000000 ∧ Go (turn d (fun y => I (i + 1) (acc ++ [y])) (I (i + 1) acc))) ∧ ∀ acc, I ds.length acc → Go (Ψ acc)) ∨
  (∃ (f : PyData → PyData) (c : PyData → Bool), ds.length ≤ 8000000 ∧ (∀ d ∈ ds, Go (turn d (fun y => c d = true ∧ y = f d) (c d = false))) ∧ Go (Ψ ((ds.filter c).map f))) ∨
  (∃ f : PyData → PyData, ds.length ≤ 8000000 ∧ (∀ d ∈ ds, Go (turn d (fun y => y = f d) False)) ∧ Go (Ψ (ds.map f)))
def kLc (vs : List Nat) (it : DI) (g : DG) (tt : DT) (te : DE) : DK := fun ρ Ξ Φ => it ρ Ξ fun ds => lcD (turnD vs g tt te ρ) ds fun acc => Φ (.own acc)
theorem wts_mono {ifs : List Expr} {Θ Θ' : Bool → Prop} (h : WTs X ρ ifs Θ) (k : ∀ b, Θ b → Θ' b) : WTs X ρ ifs Θ' := by
  match ifs, h with
  | [], h => exact k _ h
  | [c], h => exact WT.mono h k
variable {scope : Scope} {own : List (Str × Nat)} {elt : Expr} {ifs : List Expr} {it : DI} {g : DG} {tt : DT}
theorem lc_turn (hg : ∀ s H C cl fp, Cxt (blkX X scope s H C cl fp) W0 → RG (blkX X scope s H C cl fp) tg (· ∈ own.map (·.2)) g) (ht : ∀ s H C cl fp, Cxt (blkX X scope s H C cl fp) W0 → RTs (blkX X scope s H C cl fp) ifs tt)
    (he : ∀ s H C cl fp, Cxt (blkX X scope s H C cl fp) W0 → RE (blkX X scope s H C cl fp) W0 elt te) {d : PyData} {P1 : PyData → Prop} {P0 : Prop} (h : turnD (own.map (·.2)) g tt te ρ d P1 P0) : LcTurn X scope (own.map (·.2)) (wipeS ρ (own.map (·.2))) tg ifs elt d P1 P0 := fun s H C cl fp Cb =>
  (hg s H C cl fp Cb d _ _ h).mono fun ρ2 z s H C cl fp Cb => wts_mono (ht s H C cl fp Cb _ _ z) fun b z => ⟨fun e s H C cl fp Cb => he s H C cl fp Cb _ _ _ (z.t e), fun e => z.f e⟩
theorem LcTurn.mono {vs : List Nat} {ρ : List Sl} {d : PyData} {P1 P1' : PyData → Prop} {P0 P0' : Prop} (h : LcTurn X scope vs ρ tg ifs elt d P1 P0) (k1 : ∀ y, P1 y → P1' y) (k0 : P0 → P0') : LcTurn X scope vs ρ tg ifs elt d P1' P0' := fun s H C cl fp Cb =>
  (h s H C cl fp Cb).mono fun ρ2 z s H C cl fp Cb => wts_mono (z s H C cl fp Cb) fun b z => ⟨fun e s H C cl fp Cb => (z.1 e s H C cl fp Cb).mono k1, fun e => k0 (z.2 e)⟩
theorem lc_ok (hi : RI X W tg e it) (hg : ∀ s H C cl fp, Cxt (blkX X scope s H C cl fp) W0 → RG (blkX X scope s H C cl fp) tg (· ∈ own.map (·.2)) g) (ht : ∀ s H C cl fp, Cxt (blkX X scope s H C cl fp) W0 → RTs (blkX X scope s H C cl fp) ifs tt)
    (he : ∀ s H C cl fp, Cxt (blkX X scope s H C cl fp) W0 → RE (blkX X scope s H C cl fp) W0 elt te) {Ξ : Exn → Prop} {Φ : Sl → Prop} (h : kLc (own.map (·.2)) it g tt te ρ Ξ Φ) : LcOk X W ρ scope own tg e elt ifs Ξ Φ :=
  (hi _ _ _ h).mono fun ds z => by
    rcases z with ⟨I, i0, st, fin⟩ | ⟨f, c, hl, st, fin⟩ | ⟨f, hl, st, fin⟩
    · exact ⟨I, i0, fun i d acc e hI => ⟨(st i d acc e hI).1, lc_turn hg ht he (st i d acc e hI).2⟩, fin⟩
    · refine ⟨fun i acc => acc = ((ds.take i).filter c).map f, by simp, fun i d acc e hI => ⟨?_, ?_⟩, fun acc hI => ?_⟩
      · have hlt := (List.getElem?_eq_some_iff.mp e).1
        have h1 := List.length_filter_le c (ds.take i)
        rw [hI, List.length_map]
        rw [List.length_take] at h1
        omega
      · have ht' : ds.take (i + 1) = ds.take i ++ [d] := by rw [List.take_add_one, e]; rfl
        have hI : acc = ((ds.take i).filter c).map f := hI
        refine (lc_turn hg ht he (st d (List.mem_of_getElem? e))).mono (fun y q => ?_) (fun q => ?_)
        · show acc ++ [y] = ((ds.take (i + 1)).filter c).map f
          rw [hI, ht', q.2]
          simp [q.1]
        · show acc = ((ds.take (i + 1)).filter c).map f
          rw [hI, ht']
          simp [q]
      · have hI : acc = ((ds.take ds.length).filter c).map f := hI
        rw [hI, List.take_length]
        exact fin
    · refine ⟨fun i acc => acc = (ds.take i).map f, by simp, fun i d acc e hI => ⟨?_, ?_⟩, fun acc hI => ?_⟩
      · have hlt := (List.getElem?_eq_some_iff.mp e).1
        rw [hI, List.length_map, List.length_take]
        omega
      · have ht' : ds.take (i + 1) = ds.take i ++ [d] := by rw [List.take_add_one, e]; rfl
        have hI : acc = (ds.take i).map f := hI
        refine (lc_turn hg ht he (st d (List.mem_of_getElem? e))).mono (fun y q => ?_) (fun q => q.elim)
        show acc ++ [y] = (ds.take (i + 1)).map f
        rw [hI, ht', q, List.map_append]; rfl
      · have hI : acc = (ds.take ds.length).map f := hI
        rw [hI, List.take_length]
        exact fin
theorem rk_lc (C : Cxt X W) (ok : BlkOk X.N X.env.scope scope own) (hi : RI X W tg e it) (hg : ∀ s H C cl fp, Cxt (blkX X scope s H C cl fp) W0 → RG (blkX X scope s H C cl fp) tg (· ∈ own.map (·.2)) g) (ht : ∀ s H C cl fp, Cxt (blkX X scope s H C cl fp) W0 → RTs (blkX X scope s H C cl fp) ifs tt)
    (he : ∀ s H C cl fp, Cxt (blkX X scope s H C cl fp) W0 → RE (blkX X scope s H C cl fp) W0 elt te) (hs : ∀ x, foldedSetIterable e X.env x = pure x := by intro _; rfl) : RK X W (.ListComp elt [⟨tg, e, ifs, 0⟩] scope pos) (kLc (own.map (·.2)) it g tt te) := fun ρ Ξ Φ h =>
  wk_lc C ok (lc_ok hi hg ht he h) hs
theorem r1_setLc (i : Nat) {x : Str} (C : Cxt X W) (ok : BlkOk X.N X.env.scope scope own) (hi : RI X W tg e it) (hg : ∀ s H C cl fp, Cxt (blkX X scope s H C cl fp) W0 → RG (blkX X scope s H C cl fp) tg (· ∈ own.map (·.2)) g) (ht : ∀ s H C cl fp, Cxt (blkX X scope s H C cl fp) W0 → RTs (blkX X scope s H C cl fp) ifs tt)
    (he : ∀ s H C cl fp, Cxt (blkX X scope s H C cl fp) W0 → RE (blkX X scope s H C cl fp) W0 elt te) (hN : X.N[i]? = some x := by kernel_rfl) (hy : X.env.scope.names.lookup x = some .local := by kernel_rfl)
    (hsw : swapsWith (.ListComp elt [⟨tg, e, ifs, 0⟩] scope p) (some (.Name x px)) pos.line X.env = pure true := by exact sw_true rfl rfl rfl (by decide +kernel))
    (hs : ∀ x, foldedSetIterable e X.env x = pure x := by intro _; rfl) : R1 X W (.Assign [.Name x px] (.ListComp elt [⟨tg, e, ifs, 0⟩] scope p) pos) (sSet i (kLc (own.map (·.2)) it g tt te)) := fun ρ Ξ E h =>
  w1_setLc i C ok (lc_ok hi hg ht he h) hN hy hsw hs

/-! ### the law's draws: an own list of ints becomes them -/
def drwOk : List PyData → Bool
  | .int a :: .int b :: r => decide (0 ≤ a) && (decide (0 ≤ b) && r.all fun d => match d with
    | .int i => decide (0 ≤ i)
    | _ => false)
  | _ => false
end

/-! ### a def by its reading -/
section
variable {P : Program} {w : World} {K : PySem.W.Frag} {mg : Str → Option Value} {base : Heap}
theorem fn_rd {x : Str} {st : Stmt} {N ps : List Str} {k : Nat} {pr : Pr} {t : DS} (F : Fn K mg x st ps) (S : FnScope N ps (defScope st))
    (hq : ∀ (f : Addr) (cdv : Value) (A : Around) (outer : List Env) (s : Shared) (H : Hp) (E : XK), Room k (A.deeper (PyProof.Rows.envOfC x (defScope st) s.heap.objs.size f cdv)) → Cxt (cxOf (L2.CX P w) P w K mg base N x (defScope st) f cdv A outer s H E) (wDef E) →
      RS (cxOf (L2.CX P w) P w K mg base N x (defScope st) f cdv A outer s H E) (wDef E) (defBody st) t)
    (hp : ∀ as Φ Ξ, pr as Φ Ξ → as.length = ps.length ∧ t (slots as N.length) (fun y _ => Ξ y) { nx := fun _ => Φ (.dat .none), rt := Φ }) :
    Def P w K mg base x ps.length (k + 1) pr :=
  fn_def F S (fun as Φ Ξ h => (hp as Φ Ξ h).1) fun f cdv A outer s H E hr C as Φ Ξ h => hq f cdv A outer s H E hr C _ _ _ (hp as Φ Ξ h).2
end
end Mv

set_option maxRecDepth 100000
set_option maxHeartbeats 4000000
/-! further readings -/
namespace Mv
open PySem L2
def isInteger : PyData → Bool
  | .int _ => true
  | _ => false
def isFrom (d : PyData) (lo hi : Int) : Bool := match d with
  | .int i => decide (lo ≤ i) && decide (i ≤ hi)
  | _ => false
theorem isFrom_inv {d : PyData} {lo hi : Int} (h : isFrom d lo hi = true) : ∃ i, d = .int i ∧ lo ≤ i ∧ i ≤ hi := by
  cases d <;> simp [isFrom] at h
  exact ⟨_, rfl, h.1, h.2⟩
def pint (n : Nat) : PyData := .int (n : Int)
theorem ixN_of {n j : Nat} (hj : j < n) : ixN n (j : Int) = some j := by
  unfold ixN
  simp
  omega
theorem at_pint {ns : List Nat} {z : Int} (j : Nat) (hj : j < ns.length) (e : z = (j : Int)) : atI (ns.map pint) z = some (.int (ns.getD j 0 : Nat)) := by
  rw [e]
  exact atI_nat (by simp [List.getD_eq_getElem?_getD, hj, pint])
theorem at_last {ds : List PyData} {d : PyData} {n : Nat} (hn : ds.length = n + 1) (h : ds[n]? = some d) : atI ds (-1) = some d := by
  unfold atI ixN
  rw [if_neg (by omega), if_pos (by omega), hn]
  show ds[((-1 : Int) + ((n + 1 : Nat) : Int)).toNat]? = some d
  rw [show ((-1 : Int) + ((n + 1 : Nat) : Int)).toNat = n by omega]
  exact h
theorem inD_pint {x : Nat} : ∀ {l : List Nat}, inD (.int (x : Int)) (l.map pint) = decide (x ∈ l)
  | [] => by simp [inD]
  | a :: l => by
    have ih := inD_pint (x := x) (l := l)
    unfold inD at ih ⊢
    rw [List.map_cons, List.any_cons, ih]
    have e : PyData.eqv (pint a) (.int (x : Int)) = decide (x = a) := by
      show PyData.eqv (.int (a : Int)) (.int (x : Int)) = _
      simp only [PyData.eqv]
      by_cases h : x = a
      · subst h; simp
      · have : ¬ (a : Int) = (x : Int) := by omega
        simp [h, this]
    rw [e]
    simp [List.mem_cons]
theorem flat_pint : ∀ l : List Nat, (l.map pint).all flatD = true
  | [] => rfl
  | _ :: l => by rw [List.map_cons, List.all_cons, flat_pint l]; rfl
theorem ix_of {n : Nat} {z : Int} (j : Nat) (hj : j < n) (e : z = (j : Int)) : ixN n z = some j := by rw [e]; exact ixN_of hj
section
variable {X : Cx} {W : WX} {a b c e tg : Expr} {es : List Expr} {ta tb tc te : DE} {tk uk vk : DK} {t : DT} {pos p p2 px : Pos} {st : Stmt} {ss : List Stmt} {ts tr : DS} {ρ : List Sl} {Ξ : Exn → Prop} {ra : DA}
/-! -e -/
def eNeg (t : DE) : DE := fun ρ Ξ Φ => t ρ Ξ fun d => asI d fun i => Φ (.int (-i))
theorem re_neg (h : RE X W a ta) : RE X W (.UnaryOp .USub a pos) (eNeg ta) := fun ρ Ξ Φ k B F H σ env Q q qx =>
  wE_of (pe_un un_neg pe_w) (h _ _ _ k B F H σ env _ (fun v d F1 H1 hd st r => by
    obtain ⟨i, rfl, z⟩ := asI_inv hd
    exact ⟨i, r.int_inv, q _ _ F1 H1 z st (.int _)⟩) qx)
theorem re_neg1 {i : Int} {j} (v : Int) (hv : -i = v := by rfl) : RE X W (.UnaryOp .USub (.Constant (.int i) j p) pos) (eC (.int v)) := fun ρ Ξ Φ k => re_neg re_int ρ Ξ Φ (by
  show Φ (.int (-i))
  rw [hv]; exact k)
/-- what is never come to -/
def eNo : DE := fun _ _ _ => False
theorem re_no : RE X W e eNo := fun _ _ _ h => h.elim
def sNo : DS := fun _ _ _ => False
theorem r1_no : R1 X W st sNo := fun _ _ _ h => h.elim
/-! sorted -/
def bSorted : OB := fun ds Φ => match ds with
  | [.list xs] => someK (intsD xs) fun ns => ∀ ns' : List Int, ns'.Perm ns → ns'.Pairwise (· ≤ ·) → Go (Φ (.list (ns'.map .int)))
  | _ => False
theorem re_sorted (C : Cxt X W) (hm : X.mg "sorted" = none) (h : RA X W [e] ra) (hg : X.env.kindOf "sorted" = some .globalImplicit := by kernel_rfl) (hs : isStar e = false := by rfl) : RE X W (.Call (.Name "sorted" p) [e] [] pos) (eB bSorted ra) := re_callB cr_sortedI (fun ds Φ h => by
  unfold bSorted at h
  split at h
  · obtain ⟨ns, e, h1⟩ := someK_inv h
    rw [intsD_inv e]
    intro M F H vs s rs Q q
    obtain ⟨v, rfl, r⟩ := rp1 rs
    obtain ⟨a, xs, rfl, ha, ra⟩ := r.lst_inv
    obtain rfl := ra.ints_inv
    refine ⟨a, ns, rfl, SqL.of (s _ _ ha), fun ns' p h2 h3 hp => ?_⟩
    have st : Step M F H (upd F p (.lst (ns'.map V.int))) (upd H p (.lst (ns'.map V.int))) := Step.frz s hp
    exact q _ _ _ _ (h1 ns' h2 h3) st (.lst upd_same (RpAll.ints _ _ _))
  · exact h.elim) hm bb_sorted h hg (by decide +kernel) hs rfl
/-- a test over own lists for the while -/
def tMelt (i : Nat) (t : DT) : DT := fun ρ Ξ Θ => match nth ρ i with
  | some (.own ds) => t (ρ.set i (.dat (.list ds))) X0 Θ
  | _ => t ρ Ξ Θ
theorem Step.melt {M : Addr → Prop} {F F2 H F3 H3 : Hp} (sub : Same F H) (s2 : Same F F2) (st : Step M F2 H F3 H3) : Step M F H (fun a => if H a = none then F3 a else F a) H3 := ⟨fun a x e => by
    show (if H a = none then F3 a else F a) = some x
    rw [if_neg (by rw [sub a x e]; exact fun z => nomatch z)]; exact e,
  fun a x e => by
    have e' : (if H a = none then F3 a else F a) = some x := e
    by_cases z : H a = none
    · rw [if_pos z] at e'; exact st.sub a x e'
    · rw [if_neg z] at e'; exact st.sub a x (st.fr a x (s2 a x e')),
  st.keepD, fun a n => by
    show (if H a = none then F3 a else F a) = F a
    rw [if_neg n], st.alive, st.dr⟩
theorem rt_melt (i : Nat) (h : RT X W e t) : RT X W e (tMelt i t) := fun ρ Ξ Φ k => by
  unfold tMelt at k
  split at k
  · rename_i ds hi
    rw [nth_eq] at hi
    intro B F H σ env Q q qx
    obtain ⟨F2, s2, env2⟩ := env.freeze hi
    exact h _ _ _ k B F2 H σ env2 Q (fun b F3 H3 hd st => q b _ H3 hd (st.melt env.sub s2)) (fun _ _ _ _ _ z => z.elim)
  · exact h _ _ _ k
/-! the law's draws -/
def Sl.isRow : Sl → Bool
  | .row _ _ => true
  | _ => false
def noOwn (ρ : List Sl) : Bool := ρ.all fun s => !s.isOwn && !s.isRow
theorem drwOk_inv {ds : List PyData} (h : drwOk ds = true) : ∃ a b ns, ds = (a :: b :: ns).map PyData.int ∧ 0 ≤ a ∧ 0 ≤ b ∧ ∀ n ∈ ns, (0 : Int) ≤ n := by
  unfold drwOk at h
  split at h
  · rename_i a b r
    simp only [Bool.and_eq_true, decide_eq_true_eq] at h
    obtain ⟨ha, hb, hr⟩ := h
    have all : ∀ r : List PyData, (r.all fun d => match d with
      | .int i => decide (0 ≤ i)
      | _ => false) = true → ∃ ns : List Int, r = ns.map PyData.int ∧ ∀ n ∈ ns, (0 : Int) ≤ n := by
      intro r hr
      induction r with
      | nil => exact ⟨[], rfl, by simp⟩
      | cons d r ih =>
        rw [List.all_cons, Bool.and_eq_true] at hr
        obtain ⟨ns, rfl, h2⟩ := ih hr.2
        cases d with
        | int i =>
          refine ⟨i :: ns, rfl, ?_⟩
          intro n hn
          rcases List.mem_cons.mp hn with rfl | hn
          · exact of_decide_eq_true hr.1
          · exact h2 n hn
        | _ => cases hr.1
    obtain ⟨ns, rfl, h2⟩ := all r hr
    exact ⟨a, b, ns, rfl, ha, hb, h2⟩
  · cases h
def sDrw (i : Nat) (r : DS) : DS := fun ρ _ E => ownK (nth ρ i) fun ds => (drwOk ds = true ∧ noOwn (ρ.set i .drw) = true) ∧ Go (r (ρ.set i .drw) (fun _ _ => False) (En.lp { nx := fun _ => False, rt := E.rt } fun _ => False))
theorem rs_drw (i : Nat) (h : RS X W ss ts) : RS X W ss (sDrw i ts) := fun ρ Ξ E k => by
  obtain ⟨ds, hi, ⟨hd, hn⟩, k⟩ := ownK_inv k
  rw [nth_eq] at hi
  intro B F H σ env D d dx
  obtain ⟨p, vs, e1, hp, fp, h0, nm, ra⟩ := env.sl i _ hi
  obtain ⟨a, b, ns, rfl, ha, hb, hns⟩ := drwOk_inv hd
  obtain rfl := ra.ints_inv
  have hno2 : ∀ (j : Nat) (s : Sl), (ρ.set i .drw)[j]? = some s → s.isOwn = false ∧ s.isRow = false := fun j s e => by
    have q := List.all_eq_true.mp hn s (List.mem_of_getElem? e)
    simpa using q
  have hno : ∀ (j : Nat) (s : Sl), (ρ.set i .drw)[j]? = some s → s.isOwn = false := fun j s e => (hno2 j s e).1
  have env2 : EnvOk X.K { G := F, M := fun q => B.M q ∨ q = p, F0 := F, H0 := H } F H σ (ρ.set i .drw) := by
    refine ⟨StepE.refl env.sub, fun q m => ?_, Same.refl F, by rw [List.length_set]; exact env.len, fun j s e => ?_, fun j l s t q n e1 e2 o1 => ?_⟩
    · rcases m with m | rfl
      · exact env.st.alive q (env.mh q m)
      · show H q ≠ none
        rw [hp]; exact fun z => nomatch z
    · by_cases hj : j = i
      · subst hj
        have hlt : j < ρ.length := by
          have := (List.getElem?_eq_some_iff.mp e).1
          rwa [List.length_set] at this
        rw [List.getElem?_set_self hlt] at e
        cases e
        exact ⟨p, e1, .inr rfl, ⟨a, b, ns, ha, hb, hns, hp⟩, fp⟩
      · have no := hno j s e
        have nr := (hno2 j s e).2
        rw [List.getElem?_set_ne (Ne.symm hj)] at e
        have z := env.sl j s e
        cases s with
        | dat _ => exact z
        | own _ => cases no
        | odk _ => cases no
        | odn _ => cases no
        | fdk _ => exact z
        | fdn _ => exact z
        | row _ _ => cases nr
        | rwd _ _ _ => trivial
        | own2 _ => trivial
        | owp _ _ => cases no
        | drw =>
          obtain ⟨q, e2, m, dr, f⟩ := z
          exact ⟨q, e2, .inl m, dr, f⟩
        | scr _ => exact z
        | exc _ _ _ => exact z
        | unk => trivial
    · rw [hno j s e1] at o1
      cases o1
  have older : ∀ q, H q = none → B.H0 q = none := fun q hq => env.fresh0 hq
  have st : ∀ {F2 H2 : Hp}, StepE (fun q => B.M q ∨ q = p) F H F2 H2 → StepE B.M B.F0 B.H0 F2 H2 := fun {F2 H2} st => {
    fr := env.st.fr.trans st.fr
    sub := st.sub
    keep := fun q o n e => st.keep q o (fun z => by
      rcases z with z | z
      · exact n z
      · rw [z, h0] at e; cases e) (env.st.keep q o n e)
    new := fun q n => (st.new q (env.st.alive q n)).trans (env.st.new q n)
    alive := fun q n => st.alive q (env.st.alive q n)
    dr := fun q m dr => st.dr q (.inl m) (env.st.dr q m dr) }
  exact h _ _ _ k _ F H σ env2 D ⟨fun _ _ _ _ z => z.elim, fun v s F2 H2 z st2 r => d.rt v s F2 H2 z (st st2) (r.older older), fun _ _ _ _ z => z.elim, fun _ _ _ _ z => z.elim⟩ (fun _ _ _ _ _ _ _ z => z.elim)
end
end Mv

set_option maxRecDepth 100000
set_option maxHeartbeats 4000000
/-! further readings: ranges as lists, is True, += -/
namespace Mv
open PySem L2
section
variable {X : Cx} {W : WX} {a b c e tg : Expr} {es : List Expr} {ta tb tc te : DE} {tk uk vk : DK} {t : DT} {pos p p2 px : Pos} {st : Stmt} {ss : List Stmt} {ts tr : DS} {ρ : List Sl} {Ξ : Exn → Prop} {ra : DA}
/-! list(range(..)), tuple(range(..)) -/
theorem rgV_rp {K : PySem.W.Frag} {F : Hp} (a b : Int) : RpAll K F (rgV a b) (rangeD a (b - a).toNat) := by
  unfold rgV rangeD
  generalize List.range (b - a).toNat = l
  induction l with
  | nil => exact .nil
  | cons x l ih => exact .cons (.int _) ih
def rgOk (a b : Int) : Prop := 0 ≤ a ∧ a ≤ 1000000 ∧ b ≤ 1000000 ∧ 0 ≤ b
def kRg (a b : DE) : DK := fun ρ Ξ Φ => a ρ Ξ fun x => b ρ Ξ fun y => asI x fun i => asI y fun j => (0 ≤ i ∧ i ≤ 8000000 ∧ j ≤ 8000000 ∧ 0 ≤ j) ∧ Go (Φ (.own (rangeD i (j - i).toNat)))
def eRgT (a b : DE) : DE := fun ρ Ξ Φ => a ρ Ξ fun x => b ρ Ξ fun y => asI x fun i => asI y fun j => (0 ≤ i ∧ i ≤ 8000000 ∧ j ≤ 8000000 ∧ 0 ≤ j) ∧ Go (Φ (.tuple (rangeD i (j - i).toNat)))
theorem rg2_run {B : Base} {F H : Hp} {σ : L2.St} {Ψ : Int → Int → Prop} {R : Int → Int → Hp → Prop} (ha : RE X W a ta) (hb : RE X W b tb) (env : EnvOk X.K B F H σ ρ) (qx : ExE X.K B.M F H W σ Ξ) (h : ta ρ Ξ fun x => tb ρ Ξ fun y => asI x fun i => asI y fun j => Ψ i j)
    (q : ∀ i j F1 H1, Ψ i j → Step B.M F H F1 H1 → R i j H1) : tRg2 (wE X a) (wE X b) σ H R :=
  ha _ _ _ h B F H σ env _ (fun v x F1 H1 hx st1 r1 => hb _ _ _ hx B F1 H1 σ (env.step st1) _ (fun w y F2 H2 hy st2 r2 => by
    obtain ⟨i, rfl, z⟩ := asI_inv hy
    obtain ⟨j, rfl, z⟩ := asI_inv z
    exact ⟨i, j, r1.int_inv, r2.int_inv, q i j F2 H2 z (st1.trans st2)⟩) (qx.step st1)) qx
theorem rk_rg2 (C : Cxt X W) (hm : X.mg "list" = none) (hr : X.mg "range" = none) (ha : RE X W a ta) (hb : RE X W b tb) (hg : X.env.kindOf "list" = some .globalImplicit := by kernel_rfl) (hg2 : X.env.kindOf "range" = some .globalImplicit := by kernel_rfl) (hs : isStar a = false := by rfl) (hs2 : isStar b = false := by rfl) :
    RK X W (.Call (.Name "list" p) [.Call (.Name "range" p2) [a, b] [] px] [] pos) (kRg ta tb) := fun ρ Ξ Φ h B F H σ env Q q qx => by
  refine wE_of (pe_listRg C.calm hg hm (prg_2 hg2 hr pe_w pe_w (star_cons hs) (star_cons hs2) (by rw [star_cons hs2]; rfl))) ?_
  refine rg2_run ha hb env qx h fun i j F1 H1 z st => ⟨RgOk.of_le z.1.1 (by omega) (by omega) z.1.2.2.2, fun l hl => ?_⟩
  exact q _ (.own _) _ _ z.2 (st.trans (Step.own st.sub hl)) ⟨l, _, rfl, st.back l hl, upd_same, none_sub st.sub hl, rgV_rp i j⟩
theorem rk_rg1 (C : Cxt X W) (hm : X.mg "list" = none) (hr : X.mg "range" = none) (ha : RE X W a ta) (hg : X.env.kindOf "list" = some .globalImplicit := by kernel_rfl) (hg2 : X.env.kindOf "range" = some .globalImplicit := by kernel_rfl) (hs : isStar a = false := by rfl) :
    RK X W (.Call (.Name "list" p) [.Call (.Name "range" p2) [a] [] px] [] pos) (kRg (eC (.int 0)) ta) := fun ρ Ξ Φ h B F H σ env Q q qx => by
  refine wE_of (pe_listRg C.calm hg hm (prg_1 hg2 hr pe_w (star_cons hs))) ?_
  refine ha _ _ _ h B F H σ env _ (fun v x F1 H1 hx st r1 => ?_) qx
  obtain ⟨i, e0, z⟩ := asI_inv hx
  cases e0
  obtain ⟨j, rfl, z⟩ := asI_inv z
  refine ⟨j, r1.int_inv, RgOk.of_le z.1.1 (by omega) (by omega) z.1.2.2.2, fun l hl => ?_⟩
  exact q _ (.own _) _ _ z.2 (st.trans (Step.own st.sub hl)) ⟨l, _, rfl, st.back l hl, upd_same, none_sub st.sub hl, rgV_rp 0 j⟩
theorem re_rgT2 (C : Cxt X W) (hm : X.mg "tuple" = none) (hr : X.mg "range" = none) (ha : RE X W a ta) (hb : RE X W b tb) (hg : X.env.kindOf "tuple" = some .globalImplicit := by kernel_rfl) (hg2 : X.env.kindOf "range" = some .globalImplicit := by kernel_rfl) (hs : isStar a = false := by rfl) (hs2 : isStar b = false := by rfl) :
    RE X W (.Call (.Name "tuple" p) [.Call (.Name "range" p2) [a, b] [] px] [] pos) (eRgT ta tb) := fun ρ Ξ Φ h B F H σ env Q q qx => by
  refine wE_of (pe_tupRg C.calm hg hm (prg_2 hg2 hr pe_w pe_w (star_cons hs) (star_cons hs2) (by rw [star_cons hs2]; rfl))) ?_
  refine rg2_run ha hb env qx h fun i j F1 H1 z st => ⟨RgOk.of_le z.1.1 (by omega) (by omega) z.1.2.2.2, fun l hl => ?_⟩
  have st2 : Step B.M F1 H1 (upd F1 l (.tup (rgV i j))) (upd H1 l (.tup (rgV i j))) := Step.frz st.sub hl
  exact q _ _ _ _ z.2 (st.trans st2) (.tup (SqT.of upd_same) (rgV_rp i j))
/-! is True -/
def eIsT (n : Bool) (a : DE) : DE := fun ρ Ξ Φ => a ρ Ξ fun d => match d with
  | .bool b => Φ (.bool (if n then !b else b))
  | .none => Φ (.bool n)
  | .int _ => Φ (.bool n)
  | _ => False
end
/-! == of like data -/
/-- data without dicts, n deep at most, texts of plain signs -/
def goodD : Nat → PyData → Bool
  | _, .none => true
  | _, .bool _ => true
  | _, .int _ => true
  | _, .str x => PyData.strOk x
  | n + 1, .tuple ds => ds.all (goodD n)
  | n + 1, .list ds => ds.all (goodD n)
  | _, _ => false
theorem goodAll {n : Nat} {ds : List PyData} (ih : ∀ d, goodD n d = true → noDict d = true ∧ d.canLay0 = true ∧ d.depth ≤ n ∧ PyData.eqv d d = true) : ds.all (goodD n) = true → noDictAll ds = true ∧ PyData.canLayAll0 ds = true ∧ PyData.depthAll ds ≤ n ∧ PyData.eqvAll ds ds = true := by
  induction ds with
  | nil => intro _; simp [noDictAll, PyData.canLayAll0, PyData.depthAll, PyData.eqvAll]
  | cons d ds ih2 =>
    intro h
    rw [List.all_cons, Bool.and_eq_true] at h
    obtain ⟨h1, h2, h3, h4⟩ := ih d h.1
    obtain ⟨k1, k2, k3, k4⟩ := ih2 h.2
    simp [noDictAll, PyData.canLayAll0, PyData.depthAll, PyData.eqvAll, h1, h2, h4, k1, k2, k4]
    omega
theorem good_all : ∀ (n : Nat) (d : PyData), goodD n d = true → noDict d = true ∧ d.canLay0 = true ∧ d.depth ≤ n ∧ PyData.eqv d d = true
  | n, .none, _ => by simp [noDict, PyData.canLay0, PyData.depth, PyData.eqv]
  | n, .bool _, _ => by simp [noDict, PyData.canLay0, PyData.depth, PyData.eqv]
  | n, .int _, _ => by simp [noDict, PyData.canLay0, PyData.depth, PyData.eqv]
  | n, .str x, h => by
    have h' : PyData.strOk x = true := by cases n <;> exact h
    simp [noDict, PyData.canLay0, PyData.depth, PyData.eqv, h']
  | 0, .list ds, h => by cases h
  | 0, .tuple ds, h => by cases h
  | n + 1, .list ds, h => by
    obtain ⟨h1, h2, h3, h4⟩ := goodAll (good_all n) (show ds.all (goodD n) = true from h)
    simp [noDict, PyData.canLay0, PyData.depth, PyData.eqv, h1, h2, h4]
    omega
  | n + 1, .tuple ds, h => by
    obtain ⟨h1, h2, h3, h4⟩ := goodAll (good_all n) (show ds.all (goodD n) = true from h)
    simp [noDict, PyData.canLay0, PyData.depth, PyData.eqv, h1, h2, h4]
    omega
  | 0, .dict _, h => by cases h
  | _ + 1, .dict _, h => by cases h
theorem good_eq {x y : PyData} (hx : goodD 8 x = true) (hy : goodD 8 y = true) : noDict x = true ∧ noDict y = true ∧ SeqAt.shaped x = true ∧ SeqAt.shaped y = true := by
  obtain ⟨h1, h2, h3, _⟩ := good_all 8 x hx
  obtain ⟨k1, k2, k3, _⟩ := good_all 8 y hy
  refine ⟨h1, k1, ?_, ?_⟩
  · unfold SeqAt.shaped
    rw [h2, decide_eq_true (by omega)]; rfl
  · unfold SeqAt.shaped
    rw [k2, decide_eq_true (by omega)]; rfl
theorem eqK_same {neg : Bool} {d : PyData} {Φ : PyData → Prop} (h : goodD 8 d = true) (k : Φ (.bool (!neg))) : eqK neg d d Φ := by
  obtain ⟨_, _, _, e⟩ := good_all 8 d h
  refine eqK_mk (good_eq h h) ?_
  rw [e]
  cases neg <;> exact k
theorem eqK_b {neg : Bool} {x y : PyData} {Φ : PyData → Prop} (b : Bool) (hx : goodD 8 x = true) (hy : goodD 8 y = true) (e : PyData.eqv x y = b) (k : Φ (.bool (if neg then !b else b))) : eqK neg x y Φ := by
  refine eqK_mk (good_eq hx hy) ?_
  rw [e]
  exact k
theorem good_pint (n : Nat) : ∀ l : List Nat, (l.map pint).all (goodD n) = true
  | [] => rfl
  | _ :: l => by
    rw [List.map_cons, List.all_cons, good_pint n l]
    cases n <;> rfl
theorem rangeD_pint (a n : Nat) : rangeD (a : Int) n = ((List.range n).map (a + ·)).map pint := by
  unfold rangeD
  rw [List.map_map]
  refine List.map_congr_left fun i _ => ?_
  show PyData.int _ = PyData.int _
  simp
theorem rangeD0_pint (n : Nat) : rangeD 0 n = (List.range n).map pint := by
  have := rangeD_pint 0 n
  simp only [Nat.zero_add, List.map_id'] at this
  exact this
/-- what a def gives: data or an error -/
inductive Res where
  | ok (d : PyData)
  | err (x : Exn)
@[irreducible] def resK (r : Res) (Φ : PyData → Prop) (Ξ : Exn → Prop) : Prop := match r with
  | .ok d => Φ d
  | .err x => Ξ x
theorem resK_ok {r : Res} {Φ : PyData → Prop} {Ξ : Exn → Prop} {d : PyData} (e : r = .ok d) (k : Go (Φ d)) : resK r Φ Ξ := by
  subst e; unfold resK; exact k
theorem resK_err {r : Res} {Φ : PyData → Prop} {Ξ : Exn → Prop} {x : Exn} (e : r = .err x) (k : Go (Ξ x)) : resK r Φ Ξ := by
  subst e; unfold resK; exact k
theorem resK_okI {r : Res} {Φ : PyData → Prop} {Ξ : Exn → Prop} {d : PyData} (h : resK r Φ Ξ) (e : r = .ok d) : Φ d := by
  subst e; unfold resK at h; exact h
theorem resK_errI {r : Res} {Φ : PyData → Prop} {Ξ : Exn → Prop} {x : Exn} (h : resK r Φ Ξ) (e : r = .err x) : Ξ x := by
  subst e; unfold resK at h; exact h
def natD : PyData → Nat
  | .int i => i.toNat
  | _ => 0
section
variable {P : Program} {w : World} {K : PySem.W.Frag} {mg : Str → Option Value} {base : Heap}
/-- the law's own def, its object given -/
theorem fn_rdL {x : Str} {st : Stmt} {N ps : List Str} {k : Nat} {pr : Pr} {t : DS} {f : Addr} {fd : FuncData} (F : Fun K x x st f fd) (S : FnScope N ps (defScope st))
    (hq : ∀ (f : Addr) (cdv : Value) (A : Around) (outer : List Env) (s : Shared) (H : Hp) (E : XK), Room k (A.deeper (PyProof.Rows.envOfC x (defScope st) s.heap.objs.size f cdv)) → Cxt (cxOf (L2.CX P w) P w K mg base N x (defScope st) f cdv A outer s H E) (wDef E) →
      RS (cxOf (L2.CX P w) P w K mg base N x (defScope st) f cdv A outer s H E) (wDef E) (defBody st) t)
    (hp : ∀ as Φ Ξ, pr as Φ Ξ → as.length = ps.length ∧ t (slots as N.length) (fun y _ => Ξ y) { nx := fun _ => Φ (.dat .none), rt := Φ }) :
    FnOk P w K mg base (L2.CX P w) (k + 1) f fd ps (spd K pr) := by
  refine F.okX S (fun vs H Q E h => ?_) fun cdv A outer s H vs Q E hr h => ?_
  · obtain ⟨M, F0, as, Φ, Ξ, _, _, ra, hpr, _⟩ := h
    rw [ag_len ra]
    exact (hp _ _ _ hpr).1
  · obtain ⟨M, F0, as, Φ, Ξ, sf, hM, ra, hpr, q, qx⟩ := h
    have C : Cxt (cxOf (L2.CX P w) P w K mg base N x (defScope st) f cdv A outer s H E) (wDef E) := ⟨takes_of rfl rfl rfl rfl, passes_of rfl, rfl, S.nd, hr.units⟩
    refine ⟨_, pss_w, hq f cdv A outer s H E hr C _ _ _ (hp as Φ Ξ hpr).2 ⟨F0, M, F0, H⟩ F0 H _ (env_start sf hM ra) _ ⟨fun ρ F2 H2 σ hn env => ?_, fun v t F2 H2 hs st r => q v t F2 H2 hs st r, fun _ _ _ _ z => z.elim, fun _ _ _ _ z => z.elim⟩ ?_⟩
    · exact q _ (.dat .none) F2 H2 hn env.st Rp.non
    · exact fun cls dd y ρ F2 H2 σ hy env r => qx cls dd y F2 H2 hy env.st r
/-- a def that raises nothing -/
theorem fn_calm {f : Addr} {fd : FuncData} {ps : List Str} {k : Nat} {sp : Sp} (F : FnOk P w K mg base (L2.CX P w) k f fd ps sp) : FnOk P w K mg base L2.CX0 k f fd ps (fun vs H Q _ => sp vs H Q fun _ _ _ => False) where
  len := fun vs H Q E h => F.len vs H Q _ h
  run := fun A outer s H args us vs Q E hr he hb hv hs => PySem.codeAny_mono (F.run A outer s H args us vs Q _ hr he hb hv hs) fun r s' h => by
    match r, h with
    | .ok (.ret u), h => exact h
    | .error e, h =>
      obtain ⟨a, B, H', cls, d, _, _, _, _, _, _, _, z⟩ := h
      exact z.elim
/-- what a law is asked -/
theorem law_end {H : Hp} {a : Addr} {ns : List Int} (hs : SqL K H a (ns.map V.int)) (pr : Pr) (h : pr [.scr ns] (fun s => s = .dat (.bool true)) (fun _ => False)) : spd K pr [.ref a] H (fun v _ => v = .bl true) fun _ _ _ => False := by
  refine ⟨fun _ => False, H, [.scr ns], _, _, fun _ _ e => e, fun _ z => z.elim, .cons ⟨a, rfl, hs⟩ .nil, h, fun v s F2 H2 e st r => ?_, fun _ _ _ _ _ z => z.elim⟩
  subst e
  exact Rp.bl_inv r
/-- a def as the head tells it -/
theorem fn_of_head {x : Str} {st : Stmt} {ps : List Str} {f : Addr} {fd : FuncData} (F : FunD K x x (defArgs st) (defBody st) (defScope st) [] [] f fd) (hm : mg x = some (.ref f))
    (h : ∀ (kV doc pm : Value) (an : Option Addr) (cdv ct : Value) (us : List Value), us.length = ps.length → bindArgs (PySem.W.fnOf x x (defArgs st) (defBody st) (defScope st) .none kV doc pm an cdv ct) ⟨us, []⟩ = pure (ps.zip us)) : Fn K mg x st ps := by
  refine ⟨f, fd, ?_, hm, F.bindsN h⟩
  obtain ⟨oc, od, dV, kV, doc, pm, an, cdv, ct, osl, e, lk, hcd, hD, hK⟩ := F.ex
  rcases hD with ⟨_, rfl⟩ | ⟨e, _⟩
  · exact ⟨⟨oc, od, kV, doc, pm, an, cdv, ct, osl, e, lk, hcd⟩, F.kp⟩
  · exact absurd rfl e
theorem fun_of_head {x : Str} {st : Stmt} {f : Addr} {fd : FuncData} (F : FunD K x x (defArgs st) (defBody st) (defScope st) [] [] f fd) : Fun K x x st f fd := by
  obtain ⟨oc, od, dV, kV, doc, pm, an, cdv, ct, osl, e, lk, hcd, hD, hK⟩ := F.ex
  rcases hD with ⟨_, rfl⟩ | ⟨e, _⟩
  · exact ⟨⟨oc, od, kV, doc, pm, an, cdv, ct, osl, e, lk, hcd⟩, F.kp⟩
  · exact absurd rfl e
theorem says_mem {fa : List He.Fa} {fn : List He.DefD} (c : He.SaysD fa fn K) {f : He.Fa} (h : f ∈ fa) : f.ok K = true := by
  have c1 := (He.ba (show ((fa.all fun f => f.ok K) && fn.all fun d => d.ok K) = true from congrArg (fun z : He.AlD => z.1) c)).1
  exact List.all_eq_true.mp c1 f h
/-- the facts of error classes -/
def faErr (l : List Kd) : List He.Fa := (l.map fun k => .glo k.nm) ++ l.flatMap fun a => l.map fun b => .exm a.nm b.nm (b.takes a)
theorem ecs_of {h : Heap} (X : K.In h) (G : h.Ns mainGlobals mg) {fa : List He.Fa} {fn : List He.DefD} (c : He.SaysD fa fn K) {l : List Kd} (hl : ∀ f ∈ faErr l, f ∈ fa) : Ecs K mg l where
  g := fun k hk => He.glo_ok X G (says_mem c (hl _ (List.mem_append_left _ (List.mem_map_of_mem (f := fun k : Kd => He.Fa.glo k.nm) hk))))
  m := fun a ha b hb => He.exm_ok (says_mem c (hl _ (List.mem_append_right _ (List.mem_flatMap.mpr ⟨a, ha, List.mem_map_of_mem (f := fun b : Kd => He.Fa.exm a.nm b.nm (b.takes a)) hb⟩))))
theorem excK_of {h : Heap} (X : K.In h) (G : h.Ns mainGlobals mg) {k : Kd} (g : (He.Fa.glo k.nm).ok K = true) (c : (He.Fa.exc k.nm).ok K = true) : ExcK K mg k := by
  obtain ⟨h1, h2, h3, h4⟩ := He.exc_ok c
  exact ⟨He.glo_ok X G g, h1, h2, h3, h4⟩
end
end Mv

set_option maxRecDepth 100000
set_option maxHeartbeats 4000000
/-! further readings: stars, len(set(..)), += -/
namespace Mv
open PySem L2
section
variable {X : Cx} {W : WX} {a b c e tg : Expr} {es : List Expr} {ta tb tc te : DE} {tk uk vk : DK} {t : DT} {pos p p2 px : Pos} {st : Stmt} {ss : List Stmt} {ts tr : DS} {ρ : List Sl} {Ξ : Exn → Prop} {ra : DA}
/-! displays with stars -/
abbrev DP := List Sl → (Exn → Prop) → (List PyData → Prop) → Prop
def RP (X : Cx) (W : WX) (es : List Expr) (t : DP) : Prop := ∀ ρ Ξ Φ, t ρ Ξ Φ → ∀ B F H σ, EnvOk X.K B F H σ ρ → ∀ Q : List V → Hp → Prop, (∀ vs ds F2 H2, Φ ds → Step B.M F H F2 H2 → RpAll X.K F2 vs ds → Q vs H2) → ExE X.K B.M F H W σ Ξ → wA X es σ H Q
def pNil : DP := fun _ _ Φ => Φ []
def pCons (t : DE) (r : DP) : DP := fun ρ Ξ Φ => t ρ Ξ fun d => r ρ Ξ fun ds => Φ (d :: ds)
def pStar (t : DE) (r : DP) : DP := fun ρ Ξ Φ => t ρ Ξ fun d => someK (itemsD d) fun xs => r ρ Ξ fun ds => Φ (xs ++ ds)
variable {rp : DP}
theorem rp_nil : RP X W [] pNil := fun ρ Ξ Φ h B F H σ env Q q qx => wA_of pa_nil (q [] [] F H h (Step.refl env.sub) .nil)
theorem rp_cons (h : RE X W e te) (r : RP X W es rp) (hs : isStar e = false := by rfl) : RP X W (e :: es) (pCons te rp) := fun ρ Ξ Φ k B F H σ env Q q qx =>
  wA_of (pa_cons pe_w pa_w (star_cons hs)) (h _ _ _ k B F H σ env _ (fun v d F1 H1 hd st r1 => r _ _ _ hd B F1 H1 σ (env.step st) _ (fun vs ds F2 H2 ha st2 rs =>
    q (v :: vs) (d :: ds) F2 H2 ha (st.trans st2) (.cons (Rp.mono st2.fr _ _ r1) rs)) (qx.step st)) qx)
theorem rp_star (h : RE X W e te) (r : RP X W es rp) : RP X W (.Starred e p :: es) (pStar te rp) := fun ρ Ξ Φ k B F H σ env Q q qx =>
  wA_of (StX.pa_star pe_w pa_w rfl) (h _ _ _ k B F H σ env _ (fun v d F1 H1 hd st r1 => by
    obtain ⟨xs, hx, hd⟩ := someK_inv hd
    obtain ⟨a, ys, rfl, hs, ra⟩ := rp_items st.sub r1 hx
    exact ⟨a, ys, rfl, hs.symm, r _ _ _ hd B F1 H1 σ (env.step st) _ (fun vs ds F2 H2 ha st2 rs => q (ys ++ vs) (xs ++ ds) F2 H2 ha (st.trans st2) ((RpAll.mono st2.fr _ _ ra).append rs)) (qx.step st)⟩) qx)
def eSTup (r : DP) : DE := fun ρ Ξ Φ => r ρ Ξ fun ds => ds.length ≤ 8000000 ∧ Go (Φ (.tuple ds))
def eSLst (r : DP) : DE := fun ρ Ξ Φ => r ρ Ξ fun ds => ds.length ≤ 8000000 ∧ Go (Φ (.list ds))
theorem re_stup {k1} (h : RP X W es rp) : RE X W (.Tuple es k1 pos) (eSTup rp) := fun ρ Ξ Φ k B F H σ env Q q qx =>
  wE_of (pe_tup pa_w) (h _ _ _ k B F H σ env _ (fun vs ds F1 H1 ha st r => by
    refine ⟨Nat.le_trans (by rw [r.len]; exact ha.1) (by decide), fun p hp => ?_⟩
    have st2 : Step B.M F1 H1 (upd F1 p (.tup vs)) (upd H1 p (.tup vs)) := Step.frz st.sub hp
    exact q _ _ _ _ ha.2 (st.trans st2) (.tup (SqT.of upd_same) (RpAll.mono st2.fr _ _ r))) qx)
theorem re_slst (h : RP X W es rp) : RE X W (.List es pos) (eSLst rp) := fun ρ Ξ Φ k B F H σ env Q q qx =>
  wE_of (pe_lst pa_w) (h _ _ _ k B F H σ env _ (fun vs ds F1 H1 ha st r => by
    refine ⟨Nat.le_trans (by rw [r.len]; exact ha.1) (by decide), fun p hp => ?_⟩
    have st2 : Step B.M F1 H1 (upd F1 p (.lst vs)) (upd H1 p (.lst vs)) := Step.frz st.sub hp
    exact q _ _ _ _ ha.2 (st.trans st2) (.lst upd_same (RpAll.mono st2.fr _ _ r))) qx)
/-! len(set(..)) of a tuple of ints -/
def lenSetD (d : PyData) (Φ : PyData → Prop) : Prop := match d with
  | .tuple xs => someK (intsD xs) fun ns => ns.length ≤ 4000 ∧ Go (∀ l : List Int, l.Nodup → (∀ k, k ∈ l ↔ k ∈ ns) → Φ (.int l.length))
  | _ => False
def eLenSet (t : DE) : DE := fun ρ Ξ Φ => t ρ Ξ fun d => lenSetD d Φ
theorem re_lenSet (C : Cxt X W) (hm : X.mg "len" = none) (hm2 : X.mg "set" = none) (ha : RE X W a ta) (hg : X.env.kindOf "len" = some .globalImplicit := by kernel_rfl) (hg2 : X.env.kindOf "set" = some .globalImplicit := by kernel_rfl) (hs : isStar a = false := by rfl) :
    RE X W (.Call (.Name "len" p) [.Call (.Name "set" p2) [a] [] px] [] pos) (eLenSet ta) := fun ρ Ξ Φ k B F H σ env Q q qx => by
  intro pins s I
  refine PyProof.Rows.Call_ (ld_blt I hg hm PySem.boot_len ?_)
  refine PyProof.Rows.callWith_builtin1 (PyProof.Rows.args_cons ?_ rfl) rfl rfl
  refine PyProof.Rows.Call_ (ld_blt I hg2 hm2 bb_set ?_)
  refine PyProof.Rows.callWith_type1 (PyProof.Rows.args_cons (thn (ha ρ Ξ _ k B F H σ env (fun (v : V) (H1 : Hp) => ∃ (p : Addr) (ns : List Int), v = .ref p ∧ SqT X.K H1 p (ns.map V.int) ∧ ns.length ≤ 4000 ∧ ∀ l : List Int, l.Nodup → (∀ k, k ∈ l ↔ k ∈ ns) → Q (.int l.length) H1) (fun v d F1 H1 hd st r => ?_) qx pins s I) fun v s1 ⟨x, H1, I1, r1, q1⟩ => PyProof.Rows.args_nil ?_) (star_cons hs)) (star_cons hs) rfl
  · have hd : lenSetD d Φ := hd
    unfold lenSetD at hd
    split at hd
    · obtain ⟨ns, e, h1, h2⟩ := someK_inv hd
      obtain ⟨p, vs, rfl, hp, rv⟩ := r.tup_inv
      rw [intsD_inv e] at rv
      obtain rfl := rv.ints_inv
      exact ⟨p, ns, rfl, same_t st.sub hp, h1, fun l l1 l2 => q _ _ F1 H1 (h2 l l1 l2) st (.int _)⟩
    · exact hd.elim
  · obtain ⟨l, ns, rfl, hq, hl, q1⟩ := q1
    cases r1
    obtain ⟨its, r, pl, hz⟩ := I1.tuple hq
    have hlen : its.length = ns.length := by rw [← r.length, List.length_map]
    refine call_set_tupI ns (I1.ok.hd C.calm) pl (by simpa using RZ.intsAre_vals r) (by unfold scanBound; omega) fun h' tk c hS hc hk => ?_
    refine PyProof.Rows.args_nil ?_
    obtain ⟨o, es, ep, t, ho, hex, hd, _, hnd, hmem, _, hf, hn, _⟩ := hS
    have I2 : Inv X pins σ H1 { s1 with heap := h', toks := tk } := I1.kept hk
    have q2 := q1 (es.toList.map keyOf) hnd fun k => by rw [← hmem k]; simp
    rw [List.length_map, Array.length_toList] at q2
    exact call_len_set ho hex hd hf (by omega) ⟨.int es.size, H1, I2.tok _, ⟨_, rfl⟩, q2⟩
/-! x += e -/
def sAugI (i : Nat) (t : DE) : DS := fun ρ Ξ E => atDat (nth ρ i) fun d => asI d fun x => t ρ (xat Ξ ρ) fun y => asI y fun z => Go (E.nx (ρ.set i (.dat (.int (x + z)))))
theorem r1_augI (i : Nat) {x : Str} (nd : X.N.Nodup) (h : RE X W e te) (hN : X.N[i]? = some x := by kernel_rfl) (hx : stOk X x = true := by kernel_rfl) : R1 X W (.AugAssign (.Name x px) .Add e pos) (sAugI i te) := fun ρ Ξ E k B F H σ env D d dx => by
  obtain ⟨d0, e0, k⟩ := atDat_inv k
  obtain ⟨z, rfl, k⟩ := asI_inv k
  rw [nth_eq] at e0
  obtain ⟨v, e1, r⟩ := env.sl i _ e0
  obtain rfl := r.int_inv
  refine wS1_of (ps_aug nd hN (stOk_inv hx).1 pe_w ip_add (stOk_inv hx).2) ⟨_, e1, h _ _ _ k B F H σ env _ (fun u y F1 H1 hy st ry => ?_) (dx.at env)⟩
  obtain ⟨j, rfl, hy⟩ := asI_inv hy
  obtain rfl := ry.int_inv
  exact ⟨z, j, rfl, rfl, d.nx _ F1 H1 _ hy ((env.step st).set (.int (z + j)))⟩
end
theorem blsD_mapD (f : PyData → Bool) (ds : List PyData) : blsD (ds.map fun d => PyData.bool (f d)) = some (ds.map f) := blsD_mapF f ds
theorem inD_int {x : Int} : ∀ {l : List Int}, inD (.int x) (l.map PyData.int) = decide (x ∈ l)
  | [] => by simp [inD]
  | a :: l => by
    have ih := inD_int (x := x) (l := l)
    unfold inD at ih ⊢
    rw [List.map_cons, List.any_cons, ih]
    have e : PyData.eqv (.int a) (.int x) = decide (x = a) := by
      simp only [PyData.eqv]
      by_cases h : x = a
      · subst h; simp
      · have : ¬ a = x := fun z => h z.symm
        simp [h, this]
    rw [e]
    simp [List.mem_cons]
theorem inD_str {x : Str} : ∀ {l : List Str}, inD (.str x) (l.map PyData.str) = decide (x ∈ l)
  | [] => by simp [inD]
  | a :: l => by
    have ih := inD_str (x := x) (l := l)
    unfold inD at ih ⊢
    rw [List.map_cons, List.any_cons, ih]
    have e : PyData.eqv (.str a) (.str x) = decide (x = a) := by
      simp only [PyData.eqv]
      by_cases h : x = a
      · subst h; simp
      · have : ¬ a = x := fun z => h z.symm
        simp [h, this]
    rw [e]
    simp [List.mem_cons]
end Mv

set_option maxRecDepth 100000
set_option maxHeartbeats 4000000
/-! further readings: defs with defaults -/
namespace Mv
open PySem L2
/-- a def with defaults as the top has left it -/
structure FnD (K : PySem.W.Frag) (mg : Str → Option Value) (x : Str) (st : Stmt) (ps : List Str) (dds : List PyData) : Prop where
  ex : ∃ f fd dvs ds, FunD K x x (defArgs st) (defBody st) (defScope st) dvs [] f fd ∧ mg x = some (.ref f) ∧ (∀ F, RpAll K F dvs dds) ∧ Vals dvs ds ∧ Binds K fd ps [] ∧ Binds K fd ps ds
/-- such a def is as it was promised -/
structure DefA (P : Program) (w : World) (K : PySem.W.Frag) (mg : Str → Option Value) (base : Heap) (x : Str) (n : Nat) (k : Nat) (pr : Pr) (dds : List PyData) : Prop where
  full : Def P w K mg base x n k pr
  ex : ∃ f fd ps dvs ds, mg x = some (.ref f) ∧ PySem.W.keepIn K (.ref f) = true ∧ Binds K fd ps ds ∧ Vals dvs ds ∧ (∀ F, RpAll K F dvs dds) ∧ FnOk P w K mg base (L2.CX P w) k f fd ps (spd K pr)
section
variable {P : Program} {w : World} {K : PySem.W.Frag} {mg : Str → Option Value} {base : Heap}
theorem def_ofD {x : Str} {st : Stmt} {N ps : List Str} {k : Nat} {pr : Pr} {dds : List PyData} (F : FnD K mg x st ps dds) (S : FnScope N ps (defScope st)) (hl : ∀ as Φ Ξ, pr as Φ Ξ → as.length = ps.length)
    (body : ∀ (f : Addr) (cdv : Value) (A : Around) (outer : List Env) (s : Shared) (H : Hp) (E : XK), Room k (A.deeper (PyProof.Rows.envOfC x (defScope st) s.heap.objs.size f cdv)) → Cxt (cxOf (L2.CX P w) P w K mg base N x (defScope st) f cdv A outer s H E) (wDef E) →
      ∀ as Φ Ξ, pr as Φ Ξ → WS (cxOf (L2.CX P w) P w K mg base N x (defScope st) f cdv A outer s H E) (wDef E) (slots as N.length) (defBody st) (fun y _ => Ξ y) { nx := fun _ => Φ (.dat .none), rt := Φ }) :
    DefA P w K mg base x ps.length (k + 1) pr dds := by
  obtain ⟨f, fd, dvs, ds, F, hm, hr, hd, hb0, hb⟩ := F.ex
  have ok : FnOk P w K mg base (L2.CX P w) (k + 1) f fd ps (spd K pr) := F.ok S (fun vs H Q E h => by
    obtain ⟨M, F0, as, Φ, Ξ, _, _, ra, hp, _⟩ := h
    rw [ag_len ra]
    exact hl _ _ _ hp) fun cdv A outer s H vs Q E hr h => by
    obtain ⟨M, F0, as, Φ, Ξ, sf, hM, ra, hp, q, qx⟩ := h
    have C : Cxt (cxOf (L2.CX P w) P w K mg base N x (defScope st) f cdv A outer s H E) (wDef E) := ⟨takes_of rfl rfl rfl rfl, passes_of rfl, rfl, S.nd, hr.units⟩
    refine ⟨_, pss_w, body f cdv A outer s H E hr C as Φ Ξ hp ⟨F0, M, F0, H⟩ F0 H _ (env_start sf hM ra) _ ⟨fun ρ F2 H2 σ hn env => ?_, fun v t F2 H2 hs st r => q v t F2 H2 hs st r, fun _ _ _ _ z => z.elim, fun _ _ _ _ z => z.elim⟩ ?_⟩
    · exact q _ (.dat .none) F2 H2 hn env.st Rp.non
    · exact fun cls dd y ρ F2 H2 σ hy env r => qx cls dd y F2 H2 hy env.st r
  exact ⟨⟨f, fd, ps, hm, F.kp, hb0, rfl, ok⟩, f, fd, ps, dvs, ds, hm, F.kp, hb, hd, hr, ok⟩
theorem fn_rdD {x : Str} {st : Stmt} {N ps : List Str} {k : Nat} {pr : Pr} {t : DS} {dds : List PyData} (F : FnD K mg x st ps dds) (S : FnScope N ps (defScope st))
    (hq : ∀ (f : Addr) (cdv : Value) (A : Around) (outer : List Env) (s : Shared) (H : Hp) (E : XK), Room k (A.deeper (PyProof.Rows.envOfC x (defScope st) s.heap.objs.size f cdv)) → Cxt (cxOf (L2.CX P w) P w K mg base N x (defScope st) f cdv A outer s H E) (wDef E) →
      RS (cxOf (L2.CX P w) P w K mg base N x (defScope st) f cdv A outer s H E) (wDef E) (defBody st) t)
    (hp : ∀ as Φ Ξ, pr as Φ Ξ → as.length = ps.length ∧ t (slots as N.length) (fun y _ => Ξ y) { nx := fun _ => Φ (.dat .none), rt := Φ }) :
    DefA P w K mg base x ps.length (k + 1) pr dds :=
  def_ofD F S (fun as Φ Ξ h => (hp as Φ Ξ h).1) fun f cdv A outer s H E hr C as Φ Ξ h => hq f cdv A outer s H E hr C _ _ _ (hp as Φ Ξ h).2
/-- such a def as the head tells it: n given ones and the defaults, or all -/
theorem fnD_of_head {x : Str} {st : Stmt} {ps : List Str} {f : Addr} {fd : FuncData} {dvs : List V} {dds : List PyData} (F : FunD K x x (defArgs st) (defBody st) (defScope st) dvs [] f fd) (hm : mg x = some (.ref f)) (hd : dvs ≠ []) (hr : ∀ F, RpAll K F dvs dds) (n : Nat) (hn : n + dvs.length = ps.length)
    (h1 : ∀ (T : Addr) (kV doc pm : Value) (an : Option Addr) (cdv ct : Value) (us its : List Value), us.length = n → its.length = dvs.length →
      ∃ k, bindArgs (PySem.W.fnOf x x (defArgs st) (defBody st) (defScope st) (.ref T) kV doc pm an cdv ct) ⟨us, []⟩ = seqItems? (.ref T) >>= k ∧ k (some its.toArray) = pure (ps.zip (us ++ its.drop 0)))
    (h2 : ∀ (T : Addr) (kV doc pm : Value) (an : Option Addr) (cdv ct : Value) (us its : List Value), us.length = n + dvs.length → its.length = dvs.length →
      ∃ k, bindArgs (PySem.W.fnOf x x (defArgs st) (defBody st) (defScope st) (.ref T) kV doc pm an cdv ct) ⟨us, []⟩ = seqItems? (.ref T) >>= k ∧ k (some its.toArray) = pure (ps.zip (us ++ its.drop dvs.length))) : FnD K mg x st ps dds := by
  obtain ⟨ds, v1, b1⟩ := F.binds1 n 0 hd (by omega) h1
  obtain ⟨ds0, v0, b0⟩ := F.binds1 (n + dvs.length) dvs.length hd (by omega) h2
  rw [List.drop_length] at v0
  cases v0
  exact ⟨f, fd, dvs, ds, F, hm, hr, by simpa using v1, b0, b1⟩
end
theorem agAll_dat {K : PySem.W.Frag} {M : Addr → Prop} {F H : Hp} : ∀ {vs : List V} {ds : List PyData}, RpAll K F vs ds → AgAll K M F H vs (ds.map .dat)
  | _, _, .nil => .nil
  | _, _, .cons r t => .cons r (agAll_dat t)
theorem agAll_append {K : PySem.W.Frag} {M : Addr → Prop} {F H : Hp} : ∀ {vs ws : List V} {as bs : List Ag}, AgAll K M F H vs as → AgAll K M F H ws bs → AgAll K M F H (vs ++ ws) (as ++ bs)
  | _, _, _, _, .nil, h => h
  | _, _, _, _, .cons r t, h => .cons r (agAll_append t h)
def kCallA (pr : Pr) (dds : List PyData) (r : DA) : DK := fun ρ Ξ Ψ => r ρ Ξ fun as => CallK (pr (as ++ dds.map .dat) Ψ Ξ)
section
variable {X : Cx} {W : WX} {e : Expr} {es : List Expr} {p pos : Pos} {ra : DA}
theorem rk_callA {x : Str} {n k : Nat} {pr : Pr} {dds : List PyData} (D : DefA X.prog X.w X.K X.mg X.base x n k pr dds) (C : Cxt X W) (hr : Room k X.A) (h : RA X W (e :: es) ra) (hg : X.env.kindOf x = some .globalImplicit := by kernel_rfl) (hb : bltOk x = true := by kernel_rfl)
    (hs : isStar e = false := by rfl) (hpl : (backTo pos (starEach es X.env)).any (·.1) = false := by rfl) : RK X W (.Call (.Name x p) (e :: es) [] pos) (kCallA pr dds ra) := fun ρ Ξ Ψ k B F H σ env Q q qx => by
  obtain ⟨f, fd, ps, dvs, ds, hm, hk, hbd, hv, hrp, F0⟩ := D.ex
  refine wE_of (pe_callSD (E := L2.WE W) F0 hr hg hm hk hbd hv (fun σ => passAt C.tk σ) pa_w (bltOk_inv hb).2 (star_cons hs) hpl) ?_
  refine h _ _ _ k B F H σ env _ (fun vs as F1 H1 ha st rs => ?_) qx
  exact ⟨fun a => B.M a ∧ DrOk H1 a, F1, as ++ dds.map .dat, Ψ, Ξ, st.sub, fun a m => st.alive a (env.st.alive a (env.mh a m.1)), agAll_append rs.drs (agAll_dat (hrp _)), ha.out, fun v s F2 H2 hs st2 r => q v s F2 H2 hs (st.trans st2.lift) (r.older st.back), fun cls dd y F2 H2 hy st2 r => qx cls dd y F2 H2 hy (st.trans st2.lift) r⟩
end
theorem mem_rangeD {lo : Int} {n : Nat} {d : PyData} (h : d ∈ rangeD lo n) : ∃ i : Nat, i < n ∧ d = .int (lo + (i : Int)) := by
  unfold rangeD at h
  obtain ⟨i, hi, e⟩ := List.mem_map.mp h
  exact ⟨i, List.mem_range.mp hi, e.symm⟩
theorem lift_atD {ds : List PyData} {i : Nat} (h : i < ds.length) : atI ds (i : Int) = some ds[i] := atI_nat (List.getElem?_eq_getElem h)
end Mv

set_option maxRecDepth 100000
set_option maxHeartbeats 4000000
/-! further readings: dicts of a def's own -/
namespace Mv
open PySem L2
def keyD : PyData → Option Key
  | .int i => some (.inl i)
  | .str s => some (.inr s)
  | _ => none
def keyB : Key → PyData
  | .inl i => .int i
  | .inr s => .str s
def valD (kvs : List (Key × PyData)) (k : Key) : Option PyData := (kvs.find? fun kv => decide (kv.1 = k)).map (·.2)
def putDk (kvs : List (Key × PyData)) (k : Key) (d : PyData) : List (Key × PyData) :=
  if (kvs.any fun kv => decide (kv.1 = k)) = true then kvs.map (fun kv => if kv.1 = k then (kv.1, d) else kv) else kvs ++ [(k, d)]
def mergeD (kvs more : List (Key × PyData)) : List (Key × PyData) := more.foldl (fun acc kv => putDk acc kv.1 kv.2) kvs
theorem valD_pos {p : Key × PyData} {r : List (Key × PyData)} {k : Key} (e : p.1 = k) : valD (p :: r) k = some p.2 := by simp [valD, List.find?_cons, e]
theorem valD_neg {p : Key × PyData} {r : List (Key × PyData)} {k : Key} (e : ¬ p.1 = k) : valD (p :: r) k = valD r k := by simp [valD, List.find?_cons, e]
theorem putDk_len (kvs : List (Key × PyData)) (k : Key) (d : PyData) : (putDk kvs k d).length ≤ kvs.length + 1 := by
  unfold putDk
  split <;> simp
theorem mergeD_len : ∀ (more kvs : List (Key × PyData)), (mergeD kvs more).length ≤ kvs.length + more.length
  | [], kvs => by show kvs.length ≤ kvs.length + 0; omega
  | p :: r, kvs => by
    have h1 := mergeD_len r (putDk kvs p.1 p.2)
    have h2 := putDk_len kvs p.1 p.2
    show (mergeD (putDk kvs p.1 p.2) r).length ≤ _
    rw [List.length_cons]; omega
section
variable {K : PySem.W.Frag} {F : Hp}
theorem keyD_rp {v : V} {d : PyData} {k : Key} (h : keyD d = some k) (r : Rp K F v d) : v = kV k := by
  cases r <;> first | (cases h; rfl) | (cases h; done)
theorem KvRp.len {vs : List (Key × V)} {ds : List (Key × PyData)} (r : KvRp K F vs ds) : vs.length = ds.length := by
  induction r with
  | nil => rfl
  | cons _ _ ih => rw [List.length_cons, List.length_cons, ih]
theorem KvRp.val {vs : List (Key × V)} {ds : List (Key × PyData)} (r : KvRp K F vs ds) (k : Key) : (∃ v d, valV vs k = some v ∧ valD ds k = some d ∧ Rp K F v d) ∨ (valV vs k = none ∧ valD ds k = none) := by
  induction r with
  | nil => exact .inr ⟨rfl, rfl⟩
  | @cons k0 v d vs ds r t ih =>
    by_cases e : k0 = k
    · exact .inl ⟨v, d, valV_pos (p := (k0, v)) e, valD_pos (p := (k0, d)) e, r⟩
    · rw [valV_neg (p := (k0, v)) e, valD_neg (p := (k0, d)) e]
      exact ih
theorem KvRp.any {vs : List (Key × V)} {ds : List (Key × PyData)} (r : KvRp K F vs ds) (k : Key) : (vs.any fun kv => decide (kv.1 = k)) = (ds.any fun kv => decide (kv.1 = k)) := by
  induction r with
  | nil => rfl
  | cons _ _ ih => rw [List.any_cons, List.any_cons, ih]
theorem KvRp.append {vs vs' : List (Key × V)} {ds ds' : List (Key × PyData)} (r : KvRp K F vs ds) (r' : KvRp K F vs' ds') : KvRp K F (vs ++ vs') (ds ++ ds') := by
  induction r with
  | nil => exact r'
  | cons h _ ih => exact .cons h ih
theorem KvRp.mapIf {vs : List (Key × V)} {ds : List (Key × PyData)} {v : V} {d : PyData} (r : KvRp K F vs ds) (k : Key) (h : Rp K F v d) : KvRp K F (vs.map fun kv => if kv.1 = k then (kv.1, v) else kv) (ds.map fun kv => if kv.1 = k then (kv.1, d) else kv) := by
  induction r with
  | nil => exact .nil
  | @cons k0 v0 d0 vs ds r0 t ih =>
    rw [List.map_cons, List.map_cons]
    by_cases e : k0 = k
    · rw [if_pos e, if_pos e]; exact .cons h ih
    · rw [if_neg e, if_neg e]; exact .cons r0 ih
theorem KvRp.put {vs : List (Key × V)} {ds : List (Key × PyData)} {v : V} {d : PyData} (r : KvRp K F vs ds) (k : Key) (h : Rp K F v d) : KvRp K F (putK vs k v) (putDk ds k d) := by
  unfold putK putDk
  rw [r.any k]
  split
  · exact r.mapIf k h
  · exact r.append (.cons h .nil)
theorem KvRp.merge {more : List (Key × V)} {moreD : List (Key × PyData)} (m : KvRp K F more moreD) : ∀ {vs : List (Key × V)} {ds : List (Key × PyData)}, KvRp K F vs ds → KvRp K F (mergeK vs more) (mergeD ds moreD) := by
  induction m with
  | nil => exact fun r => r
  | cons h _ ih => exact fun r => ih (r.put _ h)
end
def odkK (o : Option Sl) (Φ : List (Key × PyData) → Prop) : Prop := match o with
  | some (.odk ds) => Φ ds
  | _ => False
theorem odkK_inv {o : Option Sl} {Φ : List (Key × PyData) → Prop} (h : odkK o Φ) : ∃ ds, o = some (.odk ds) ∧ Φ ds := by
  unfold odkK at h
  split at h
  · exact ⟨_, rfl, h⟩
  · exact h.elim
theorem EnvOk.setOdk {K : PySem.W.Frag} {B : Base} {F H : Hp} {σ : L2.St} {ρ : List Sl} {i : Nat} {ds es : List (Key × PyData)} {p : Addr} {ws : List (Key × V)} (env : EnvOk K B F H σ ρ) (hi : ρ[i]? = some (.odk ds)) (q : σ[i]? = some (some (.ref p))) (r : KvRp K F ws es) : EnvOk K B F (upd H p (.dK ws)) σ (ρ.set i (.odk es)) := by
  obtain ⟨p', vs, e1, hp, fp, h0, nm, _⟩ := env.sl i _ hi
  have e2 := e1
  rw [q] at e1
  cases e1
  exact env.updOwn hi rfl q ⟨p, ws, e2, upd_same, fp, h0, nm, r⟩
section
variable {X : Cx} {W : WX} {a b c e tg kx vx : Expr} {es : List Expr} {ta tb tc te tk tv : DE} {pos p px : Pos} {ρ : List Sl}
/-- what is found of a dict by a key -/
theorem dget_of {K : PySem.W.Frag} {B : Base} {F H F1 H1 : Hp} {σ : L2.St} {i : Nat} {ds : List (Key × PyData)} {v : V} {y : PyData} {k : Key} (env : EnvOk K B F H σ ρ) (hi : ρ[i]? = some (.odk ds)) (st : Step B.M F H F1 H1) (r : Rp K F1 v y) (hk : keyD y = some k) :
    ∃ p o, σ[i]? = some (some (.ref p)) ∧ DGet H1 p v o ∧ ((∃ w d, o = some w ∧ valD ds k = some d ∧ Rp K F1 w d) ∨ (o = none ∧ valD ds k = none)) := by
  obtain ⟨p, vs, e1, hp, fp, h0, nm, kr⟩ := env.sl i _ hi
  have h2 := st.keep p _ nm hp
  refine ⟨p, valV vs k, e1, ?_, (kr.mono st.fr).val k⟩
  rw [keyD_rp hk r]
  exact .inl ⟨vs, k, .inl h2, rfl, rfl⟩
def eInD (neg : Bool) (i : Nat) (t : DE) : DE := fun ρ Ξ Φ => t ρ Ξ fun y => odkK (nth ρ i) fun kvs => someK (keyD y) fun k => Φ (.bool (cond neg (!(valD kvs k).isSome) (valD kvs k).isSome))
theorem we_inD {Ξ : Exn → Prop} {Φ : PyData → Prop} (C : Cxt X W) (i : Nat) {x : Str} (ha : RE X W a ta) (h : eInD false i ta ρ Ξ Φ) (hx : nmOk X.env.scope x = true) (hN : X.N[i]? = some x) (hm : behindInMarks .In (.Name x px) = false) : WE X W ρ (.Compare a [.In] [.Name x px] pos) Ξ Φ := fun B F H σ env Q q qx => by
  obtain ⟨h1, h2, h3⟩ := nmOk_inv hx
  refine wE_of (pe_cmp (pc_din (Nat.lt_of_le_of_lt (by omega) C.hu) pe_w (pv i hN h1 h2 h3)) hm) (ha _ _ _ h B F H σ env _ (fun v y F1 H1 hy st r => ?_) qx)
  obtain ⟨ds, hi, hy⟩ := odkK_inv hy
  obtain ⟨k, hk, hy⟩ := someK_inv hy
  obtain ⟨p, o, e1, g, hr⟩ := dget_of env (by rw [← nth_eq]; exact hi) st r hk
  refine ⟨.ref p, e1, p, o, rfl, g, q _ (.bool (valD ds k).isSome) F1 H1 hy st ?_⟩
  rcases hr with ⟨w, d, rfl, e2, _⟩ | ⟨rfl, e2⟩
  · rw [e2]; exact .bl true
  · rw [e2]; exact .bl false
theorem we_ninD {Ξ : Exn → Prop} {Φ : PyData → Prop} (C : Cxt X W) (i : Nat) {x : Str} (ha : RE X W a ta) (h : eInD true i ta ρ Ξ Φ) (hx : nmOk X.env.scope x = true) (hN : X.N[i]? = some x) (hm : behindInMarks .NotIn (.Name x px) = false) : WE X W ρ (.Compare a [.NotIn] [.Name x px] pos) Ξ Φ := fun B F H σ env Q q qx => by
  obtain ⟨h1, h2, h3⟩ := nmOk_inv hx
  refine wE_of (pe_cmp (pc_dnotin (Nat.lt_of_le_of_lt (by omega) C.hu) pe_w (pv i hN h1 h2 h3)) hm) (ha _ _ _ h B F H σ env _ (fun v y F1 H1 hy st r => ?_) qx)
  obtain ⟨ds, hi, hy⟩ := odkK_inv hy
  obtain ⟨k, hk, hy⟩ := someK_inv hy
  obtain ⟨p, o, e1, g, hr⟩ := dget_of env (by rw [← nth_eq]; exact hi) st r hk
  refine ⟨.ref p, e1, p, o, rfl, g, q _ (.bool (!(valD ds k).isSome)) F1 H1 hy st ?_⟩
  rcases hr with ⟨w, d, rfl, e2, _⟩ | ⟨rfl, e2⟩
  · rw [e2]; exact .bl false
  · rw [e2]; exact .bl true
theorem re_inD (C : Cxt X W) (i : Nat) {x : Str} (ha : RE X W a ta) (hx : nmOk X.env.scope x = true := by kernel_rfl) (hN : X.N[i]? = some x := by kernel_rfl) (hm : behindInMarks .In (.Name x px) = false := by rfl) : RE X W (.Compare a [.In] [.Name x px] pos) (eInD false i ta) := fun _ _ _ h => we_inD C i ha h hx hN hm
theorem re_ninD (C : Cxt X W) (i : Nat) {x : Str} (ha : RE X W a ta) (hx : nmOk X.env.scope x = true := by kernel_rfl) (hN : X.N[i]? = some x := by kernel_rfl) (hm : behindInMarks .NotIn (.Name x px) = false := by rfl) : RE X W (.Compare a [.NotIn] [.Name x px] pos) (eInD true i ta) := fun _ _ _ h => we_ninD C i ha h hx hN hm
theorem rt_inD (C : Cxt X W) (i : Nat) {x : Str} (ha : RE X W a ta) (hx : nmOk X.env.scope x = true := by kernel_rfl) (hN : X.N[i]? = some x := by kernel_rfl) (hm : behindInMarks .In (.Name x px) = false := by rfl) : RT X W (.Compare a [.In] [.Name x px] pos) (tV (eInD false i ta)) := fun ρ Ξ Θ h B F H σ env Q q qx => by
  obtain ⟨h1, h2, h3⟩ := nmOk_inv hx
  refine wT_of (pt_cmp (pc_din (Nat.lt_of_le_of_lt (by omega) C.hu) pe_w (pv i hN h1 h2 h3)) hm) (ha _ _ _ h B F H σ env _ (fun v y F1 H1 hy st r => ?_) qx)
  obtain ⟨ds, hi, hy⟩ := odkK_inv hy
  obtain ⟨k, hk, hy⟩ := someK_inv hy
  obtain ⟨p, o, e1, g, hr⟩ := dget_of env (by rw [← nth_eq]; exact hi) st r hk
  refine ⟨.ref p, e1, p, o, rfl, g, o.isSome, rfl, ?_⟩
  rcases hr with ⟨w, d, rfl, e2, _⟩ | ⟨rfl, e2⟩
  · rw [e2] at hy; exact q _ F1 H1 hy st
  · rw [e2] at hy; exact q _ F1 H1 hy st
theorem rt_ninD (C : Cxt X W) (i : Nat) {x : Str} (ha : RE X W a ta) (hx : nmOk X.env.scope x = true := by kernel_rfl) (hN : X.N[i]? = some x := by kernel_rfl) (hm : behindInMarks .NotIn (.Name x px) = false := by rfl) : RT X W (.Compare a [.NotIn] [.Name x px] pos) (tV (eInD true i ta)) := fun ρ Ξ Θ h B F H σ env Q q qx => by
  obtain ⟨h1, h2, h3⟩ := nmOk_inv hx
  refine wT_of (pt_cmp (pc_dnotin (Nat.lt_of_le_of_lt (by omega) C.hu) pe_w (pv i hN h1 h2 h3)) hm) (ha _ _ _ h B F H σ env _ (fun v y F1 H1 hy st r => ?_) qx)
  obtain ⟨ds, hi, hy⟩ := odkK_inv hy
  obtain ⟨k, hk, hy⟩ := someK_inv hy
  obtain ⟨p, o, e1, g, hr⟩ := dget_of env (by rw [← nth_eq]; exact hi) st r hk
  refine ⟨.ref p, e1, p, o, rfl, g, !o.isSome, rfl, ?_⟩
  rcases hr with ⟨w, d, rfl, e2, _⟩ | ⟨rfl, e2⟩
  · rw [e2] at hy; exact q _ F1 H1 hy st
  · rw [e2] at hy; exact q _ F1 H1 hy st
/-- d[e] -/
def eGetD (i : Nat) (t : DE) : DE := fun ρ Ξ Φ => odkK (nth ρ i) fun kvs => t ρ Ξ fun y => someK (keyD y) fun k => someK (valD kvs k) Φ
theorem re_getD (C : Cxt X W) (i : Nat) {x : Str} (ha : RE X W a ta) (hx : nmOk X.env.scope x = true := by kernel_rfl) (hN : X.N[i]? = some x := by kernel_rfl) (hs : NoSl a := by intro _ _; rfl) : RE X W (.Subscript (.Name x px) a pos) (eGetD i ta) := fun ρ Ξ Φ h B F H σ env Q q qx => by
  obtain ⟨h1, h2, h3⟩ := nmOk_inv hx
  obtain ⟨ds, hi, h⟩ := odkK_inv h
  have hi : ρ[i]? = some (.odk ds) := by rw [← nth_eq]; exact hi
  obtain ⟨p, vs, e1, _⟩ := env.sl i _ hi
  refine wE_of (pe_dget (Nat.lt_of_le_of_lt (by omega) C.hu) (pv i hN h1 h2 h3) pe_w hs) ⟨.ref p, e1, ha _ _ _ h B F H σ env _ (fun v y F1 H1 hy st r => ?_) qx⟩
  obtain ⟨k, hk, hy⟩ := someK_inv hy
  obtain ⟨d, hd, hy⟩ := someK_inv hy
  obtain ⟨p', o, e2, g, hr⟩ := dget_of env hi st r hk
  rw [e1] at e2
  cases e2
  rcases hr with ⟨w, d', rfl, e2, rw'⟩ | ⟨rfl, e2⟩
  · rw [hd] at e2
    cases e2
    exact ⟨p, w, rfl, g, q w d F1 H1 hy st rw'⟩
  · rw [hd] at e2
    cases e2
/-- d.get(e, f) -/
def eDget (i : Nat) (t u : DE) : DE := fun ρ Ξ Φ => odkK (nth ρ i) fun kvs => t ρ Ξ fun y => u ρ Ξ fun z => someK (keyD y) fun k => Φ ((valD kvs k).getD z)
theorem re_dget (C : Cxt X W) (i : Nat) {x : Str} {ap cp : Pos} (ha : RE X W a ta) (hb : RE X W b tb) (hx : nmOk X.env.scope x = true := by kernel_rfl) (hN : X.N[i]? = some x := by kernel_rfl) (m : M2 X (.Name x px) "get" ap a b cp := by exact ⟨rfl, rfl, rfl, rfl⟩) : RE X W (.Call (.Attribute (.Name x px) "get" ap) [a, b] [] cp) (eDget i ta tb) := fun ρ Ξ Φ h B F H σ env Q q qx => by
  obtain ⟨h1, h2, h3⟩ := nmOk_inv hx
  obtain ⟨ds, hi, h⟩ := odkK_inv h
  have hi : ρ[i]? = some (.odk ds) := by rw [← nth_eq]; exact hi
  obtain ⟨p, vs, e1, hp, _⟩ := env.sl i _ hi
  refine wE_of (pe_dget2 (Nat.lt_of_le_of_lt (by omega) C.hu) (pv i hN h1 h2 h3) pe_w pe_w m) ⟨.ref p, e1, p, rfl, .inl ⟨vs, .inl hp⟩, ha _ _ _ h B F H σ env _ (fun v y F1 H1 hy st1 r1 => hb _ _ _ hy B F1 H1 σ (env.step st1) _ (fun w z F2 H2 hz st2 r2 => ?_) (qx.step st1)) qx⟩
  obtain ⟨k, hk, hz⟩ := someK_inv hz
  obtain ⟨p', o, e2, g, hr⟩ := dget_of env hi (st1.trans st2) (r1.mono st2.fr) hk
  rw [e1] at e2
  cases e2
  refine ⟨o, g, q _ _ F2 H2 hz (st1.trans st2) ?_⟩
  rcases hr with ⟨w', d', rfl, e2, rw'⟩ | ⟨rfl, e2⟩
  · rw [e2]; exact rw'
  · rw [e2]; exact r2
/-- d[e] = v -/
def sDput (i : Nat) (t u : DE) : DS := fun ρ Ξ E => u ρ (xat Ξ ρ) fun z => odkK (nth ρ i) fun kvs => t ρ (xat Ξ ρ) fun y => someK (keyD y) fun k => kvs.length < 8000000 ∧ Go (E.nx (ρ.set i (.odk (putDk kvs k z))))
theorem r1_dput (C : Cxt X W) (i : Nat) {x : Str} {p2 : Pos} (ha : RE X W a ta) (hb : RE X W b tb) (hx : nmOk X.env.scope x = true := by kernel_rfl) (hN : X.N[i]? = some x := by kernel_rfl) (hs : swapsWith b (some (.Subscript (.Name x px) a p2)) pos.line X.env = pure false := by rfl) : R1 X W (.Assign [.Subscript (.Name x px) a p2] b pos) (sDput i ta tb) := fun ρ Ξ E h B F H σ env D d dx => by
  obtain ⟨h1, h2, h3⟩ := nmOk_inv hx
  refine wS1_of (ps_dput (Nat.lt_of_le_of_lt (by omega) C.hu) (pv i hN h1 h2 h3) pe_w pe_w hs) (hb _ _ _ h B F H σ env _ (fun w z F1 H1 hz st1 r1 => ?_) (dx.at env))
  obtain ⟨ds, hi, hz⟩ := odkK_inv hz
  have hi : ρ[i]? = some (.odk ds) := by rw [← nth_eq]; exact hi
  obtain ⟨p, vs, e1, hp, fp, h0, nm, kr⟩ := env.sl i _ hi
  refine ⟨.ref p, e1, ha _ _ _ hz B F1 H1 σ (env.step st1) _ (fun v y F2 H2 hy st2 r2 => ?_) (dx.at (env.step st1))⟩
  obtain ⟨k, hk, hl, hy⟩ := someK_inv hy
  have st := st1.trans st2
  have h2 := st.keep p _ nm hp
  refine ⟨p, _, rfl, .inl ⟨vs, k, h2, keyD_rp hk r2, ?_, rfl⟩, ?_⟩
  · exact Nat.lt_of_lt_of_le (by rw [kr.len]; exact hl) (by decide : 8000000 ≤ sizeLine)
  · exact d.nx _ F2 _ σ hy ((env.step st).setOdk hi e1 ((kr.mono st.fr).put k (r1.mono st2.fr)))
/-- d.update(e) -/
def tDUpd (td te : TE) : TE := fun σ H Q => td σ H fun x H1 => ∃ a, x = .ref a ∧ IsD H1 a ∧ te σ H1 fun y H2 => ∃ b kvs ls, y = .ref b ∧ a ≠ b ∧ H2 a = some (.dK kvs) ∧ H2 b = some (.dK ls) ∧ kvs.length + ls.length ≤ sizeLine ∧ Q .non (upd H2 a (.dK (mergeK kvs ls)))
theorem mergeK_len : ∀ (more kvs : List (Key × V)), (mergeK kvs more).length ≤ kvs.length + more.length := length_mergeK
theorem pe_dupd {o e : Expr} {td te : TE} {apos cpos : Pos} (ho : PE X o td) (he : PE X e te) (m : M1 X o "update" apos e cpos) : PE X (.Call (.Attribute o "update" apos) [e] [] cpos) (tDUpd td te) := by
  refine ⟨fun pins s σ H Q I h => ?_⟩
  refine wpAny_Call_method m.base m.few m.line PySem.F.plainAttrs_dict PySem.F.slot_dict_update PySem.F.type_dict_update (thn (ho.run pins s σ H _ I h) fun u s1 ⟨x, H1, I1, rx, a, ex, d, q1⟩ => ?_)
  subst ex
  obtain rfl : u = Value.ref a := rx
  obtain ⟨t1, t2, _⟩ := isD_at I1 d
  refine ⟨t1, t2, ?_⟩
  rw [m.trees]
  refine Calls.callWith_builtin rfl (Calls.evalArgs_plain (Calls.spliced_cons (thn (he.run pins s1 σ H1 _ I1 q1) fun iv s2 ⟨y, H2, I2, ry, b, kvs, ls, ey, ne, ea, eb, l, q2⟩ => Calls.spliced_nil ?_)))
  subst ey
  obtain rfl : iv = Value.ref b := ry
  obtain ⟨z, hd, vs, rel, dd⟩ := dk_of I2.hok ea
  obtain ⟨z2, hd2, vs2, rel2, dd2⟩ := dk_of I2.hok eb
  refine call_meetsIn PySem.F.slot_dict_update dd.typeIs PySem.F.entry_dict_update (PySem.F.args_dict_update_2 _ _) (meets_dict_update (mixKind X.prog X.w) a b ne hd2) ⟨vs, vs2, dd, dd2, by rw [← rel.length, ← rel2.length]; exact l, fun h' dd' _ hs => ?_⟩
  have he : ∃ q, h'.get? a = some q := let ⟨q, _, _, hq, _⟩ := dd'; ⟨q, hq⟩
  have hl : (mergeK kvs ls).length ≤ sizeLine := Nat.le_trans (length_mergeK ls kvs) l
  exact ⟨.non, _, d_write (t' := s2.toks) I2 (by rw [ea]; exact True.intro) hs he (dk_new hl hd (rel2.merge rel) dd'), rfl, q2⟩
def sUpd (i : Nat) (k : DK) : DS := fun ρ Ξ E => odkK (nth ρ i) fun kvs => k ρ (xat Ξ ρ) fun s => match s with
  | .odk ls => kvs.length + ls.length ≤ 8000000 ∧ Go (E.nx (ρ.set i (.odk (mergeD kvs ls))))
  | _ => False
theorem r1_upd (i : Nat) {x : Str} {ap cp : Pos} {kd : DK} (hk : RK X W e kd) (hx : nmOk X.env.scope x = true := by kernel_rfl) (hN : X.N[i]? = some x := by kernel_rfl) (m : M1 X (.Name x px) "update" ap e cp := by exact ⟨rfl, rfl, rfl, rfl⟩)
    (hs : swapsWith (.Call (.Attribute (.Name x px) "update" ap) [e] [] cp) none pos.line X.env = pure false := by rfl) : R1 X W (.Expr (.Call (.Attribute (.Name x px) "update" ap) [e] [] cp) pos) (sUpd i kd) := fun ρ Ξ E h B F H σ env D d dx => by
  obtain ⟨h1, h2, h3⟩ := nmOk_inv hx
  obtain ⟨ds, hi, h⟩ := odkK_inv h
  have hi : ρ[i]? = some (.odk ds) := by rw [← nth_eq]; exact hi
  obtain ⟨p, vs, e1, hp, fp, h0, nm, kr⟩ := env.sl i _ hi
  refine wS1_of (ps_expr (pe_dupd (pv i hN h1 h2 h3) pe_w m) hs) ⟨_, e1, p, rfl, .inl ⟨vs, .inl hp⟩, hk _ _ _ h B F H σ env _ (fun v s F1 H1 hs' st r => ?_) (dx.at env)⟩
  dsimp only at hs'
  split at hs'
  · rename_i ls
    obtain ⟨p2, ws, rfl, hn, hp2, f2, kr2⟩ := r
    obtain ⟨hl, hs'⟩ := hs'
    have h2 := st.keep p _ nm hp
    refine ⟨p2, vs, ws, rfl, (fun z => by rw [← z, hp] at hn; cases hn), h2, hp2, ?_, ?_⟩
    · exact Nat.le_trans (by rw [kr.len, kr2.len]; exact hl) (by decide : 8000000 ≤ sizeLine)
    · exact d.nx _ F1 _ σ hs' ((env.step st).setOdk hi e1 (kr2.merge (kr.mono st.fr)))
  · exact hs'.elim
/-- list(d): its keys -/
def kListDk (i : Nat) : DK := fun ρ _ Φ => odkK (nth ρ i) fun kvs => Φ (.own (kvs.map fun kv => keyB kv.1))
theorem keys_rp {K : PySem.W.Frag} {F F2 : Hp} {vs : List (Key × V)} {ds : List (Key × PyData)} (r : KvRp K F vs ds) : RpAll K F2 (vs.map fun kv => kV kv.1) (ds.map fun kv => keyB kv.1) := by
  induction r with
  | nil => exact .nil
  | @cons k v d vs ds _ _ ih =>
    refine .cons ?_ ih
    cases k with
    | inl i => exact .int i
    | inr s => exact .str s
theorem rk_listDk (C : Cxt X W) (i : Nat) {x : Str} (hm : X.mg "list" = none) (hx : nmOk X.env.scope x = true := by kernel_rfl) (hN : X.N[i]? = some x := by kernel_rfl) (hg : X.env.kindOf "list" = some .globalImplicit := by kernel_rfl) : RK X W (.Call (.Name "list" p) [.Name x px] [] pos) (kListDk i) := fun ρ Ξ Φ h B F H σ env Q q qx => by
  obtain ⟨h1, h2, h3⟩ := nmOk_inv hx
  obtain ⟨ds, hi, h⟩ := odkK_inv h
  have hi : ρ[i]? = some (.odk ds) := by rw [← nth_eq]; exact hi
  obtain ⟨p, vs, e1, hp, fp, h0, nm, kr⟩ := env.sl i _ hi
  exact wE_of (pe_callTy (call_list_dK C.calm) hg hm (by decide +kernel) (pa_cons (pv i hN h1 h2 h3) pa_nil rfl) (by decide) (by decide) rfl rfl) ⟨.ref p, e1, p, vs, rfl, hp, fun l hl => q _ (.own _) _ _ h (Step.own env.sub hl) ⟨l, _, rfl, hl, upd_same, none_sub env.sub hl, keys_rp kr⟩⟩
end
/-! ### dict comprehensions -/
section
variable {X : Cx} {W : WX} {ρ : List Sl} {tg iter kx vx : Expr} {ifs : List Expr} {scope : Scope} {own : List (Str × Nat)} {Ξ : Exn → Prop} {Ψ : Sl → Prop} {pos : Pos}
def DcTurn (X : Cx) (scope : Scope) (vs : List Nat) (ρ : List Sl) (tg : Expr) (ifs : List Expr) (kx vx : Expr) (d : PyData) (P1 : Key → PyData → Prop) (P0 : Prop) : Prop :=
  ∀ s H C cl fp, Cxt (blkX X scope s H C cl fp) W0 → WG (blkX X scope s H C cl fp) ρ tg d (· ∈ vs) fun ρ2 => ∀ s H C cl fp, Cxt (blkX X scope s H C cl fp) W0 → WTs (blkX X scope s H C cl fp) ρ2 ifs fun b =>
    (b = true → ∀ s H C cl fp, Cxt (blkX X scope s H C cl fp) W0 → WE (blkX X scope s H C cl fp) W0 ρ2 kx X0 fun y => ∃ k, keyD y = some k ∧ ∀ s H C cl fp, Cxt (blkX X scope s H C cl fp) W0 → WE (blkX X scope s H C cl fp) W0 ρ2 vx X0 (P1 k)) ∧ (b = false → P0)
def DcOk (X : Cx) (W : WX) (ρ : List Sl) (scope : Scope) (own : List (Str × Nat)) (tg iter kx vx : Expr) (ifs : List Expr) (Ξ : Exn → Prop) (Ψ : Sl → Prop) : Prop :=
  WI X W ρ tg iter Ξ fun ds => ∃ I : Nat → List (Key × PyData) → Prop, I 0 [] ∧ (∀ i d acc, ds[i]? = some d → I i acc → acc.length < 8000000 ∧ DcTurn X scope (own.map (·.2)) (wipeS ρ (own.map (·.2))) tg ifs kx vx d (fun k y => I (i + 1) (putDk acc k y)) (I (i + 1) acc)) ∧ ∀ acc, I ds.length acc → Ψ (.odk acc)
abbrev tDcW (X : Cx) (scope : Scope) (own : List (Str × Nat)) (tg iter kx vx : Expr) (ifs : List Expr) : TE :=
  tDc (wI X tg iter) (fun v σ H Q => ∀ s H0 C cl fp, wG (blkX X scope s H0 C cl fp) tg v σ H Q) (fun σ H Q => ∀ s H0 C cl fp, wTs (blkX X scope s H0 C cl fp) ifs σ H Q) (fun σ H Q => ∀ s H0 C cl fp, wE (blkX X scope s H0 C cl fp) kx σ H Q) (fun σ H Q => ∀ s H0 C cl fp, wE (blkX X scope s H0 C cl fp) vx σ H Q) (own.map (·.2))
theorem dc_run (C : Cxt X W) (h : DcOk X W ρ scope own tg iter kx vx ifs Ξ Ψ) {B : Base} {F H : Hp} {σ : L2.St} (env : EnvOk X.K B F H σ ρ) {Q : VK} (q : OkK X.K B.M F H Ψ Q) (qx : ExE X.K B.M F H W σ Ξ) : tDcW X scope own tg iter kx vx ifs σ H Q := by
  refine h B F H σ env _ (fun J ds F1 H1 hI st ok2 => ?_) qx
  obtain ⟨I, i0, step, fin⟩ := hI
  intro D hD
  have env1 := env.step st
  have nD : ¬ B.M D := env1.notM (env1.fresh0 hD)
  refine ⟨fun i m H' => m = ds.length - i ∧ i ≤ ds.length ∧ ∃ F' acc accV, I i acc ∧ Step B.M F1 H1 F' H' ∧ F' D = none ∧ H' D = some (.dK accV) ∧ KvRp X.K F' accV acc, ⟨_, rfl, Nat.zero_le _, F1, [], [], i0, Step.own st.sub hD, none_sub st.sub hD, upd_same, .nil⟩, ?_⟩
  rintro i m H2 ⟨rfl, hi, F2, acc, accV, hI, st2, fD, hD2, ra⟩
  by_cases hlt : i < ds.length
  · refine .inr ⟨ok2.go i F2 H2 st2.fr st2.sub hlt, fun H' => ∃ F' acc accV, I (i + 1) acc ∧ Step B.M F1 H1 F' H' ∧ F' D = none ∧ H' D = some (.dK accV) ∧ KvRp X.K F' accV acc, fun H' q' => ⟨ds.length - (i + 1), by omega, rfl, hlt, q'⟩, fun v H3 hy => ?_⟩
    obtain ⟨F3, st3, rv⟩ := ok2.yld i F2 H2 v H3 ds[i] st2.fr st2.sub (List.getElem?_eq_getElem hlt) hy
    obtain ⟨hlen, turn⟩ := step i _ acc (List.getElem?_eq_getElem hlt) hI
    have envW := ((env1.step (st2.trans st3)).wipe (own.map (·.2)))
    intro s0 H0 c0 cl0 fp0
    refine turn s0 H0 c0 cl0 fp0 C.blk B F3 H3 _ v envW rv _ fun ρ2 σ2 tst env4 hl hT => ⟨?_, fun s5 H5 c5 cl5 fp5 => ?_⟩
    · rw [wipe_eq (vs := own.map (·.2)) hl hT, wipe_wipe]
    · refine wts_run (tst s5 H5 c5 cl5 fp5 C.blk) env4 fun b F6 H6 hb st6 => ?_
      have fD6 : F6 D = none := by
        rw [st6.new D (by rw [st3.keep D _ nD hD2]; exact fun z => nomatch z), st3.new D (by rw [hD2]; exact fun z => nomatch z)]
        exact fD
      have hD6 : H6 D = some (.dK accV) := st6.keep D _ nD (st3.keep D _ nD hD2)
      cases b with
      | true =>
        rw [if_pos rfl]
        intro s7 H7 c7 cl7 fp7
        refine hb.1 rfl s7 H7 c7 cl7 fp7 C.blk B F6 H6 σ2 (env4.step st6) _ (fun yk dk F7 H7' hk st7 rk => ?_) (fun _ _ _ _ _ z => z.elim)
        obtain ⟨k, ek, hv⟩ := hk
        have hD7 : H7' D = some (.dK accV) := st7.keep D _ nD hD6
        have fD7 : F7 D = none := by
          rw [st7.new D (by rw [hD6]; exact fun z => nomatch z)]
          exact fD6
        intro s8 H8' c8 cl8 fp8
        refine hv s8 H8' c8 cl8 fp8 C.blk B F7 H7' σ2 ((env4.step st6).step st7) _ (fun y d F8 H8 hy8 st8 ry => ?_) (fun _ _ _ _ _ z => z.elim)
        have hD8 : H8 D = some (.dK accV) := st8.keep D _ nD hD7
        have fD8 : F8 D = none := by
          rw [st8.new D (by rw [hD7]; exact fun z => nomatch z)]
          exact fD7
        have all := (((st2.trans st3).trans st6).trans st7).trans st8
        refine ⟨accV, k, keyD_rp ek rk, hD8, Nat.lt_of_lt_of_le (by rw [ra.len]; exact hlen) (by decide : 8000000 ≤ sizeLine), F8, putDk acc k d, putK accV k y, hy8, ⟨all.fr, fun a x e => ?_, fun a x n e => ?_, all.new, fun a n => ?_, fun a m dr => ?_⟩, fD8, upd_same, (ra.mono (((st3.fr.trans st6.fr).trans st7.fr).trans st8.fr)).put k ry⟩
        · have np : a ≠ D := fun z => by rw [z, fD8] at e; cases e
          rw [upd_ne np]
          exact all.sub a x e
        · have np : a ≠ D := fun z => by rw [z, hD] at e; cases e
          rw [upd_ne np]
          exact all.keepD a x n e
        · have np : a ≠ D := fun z => n (by rw [z]; exact hD)
          rw [upd_ne np]
          exact all.alive a n
        · have np : a ≠ D := fun z => nD (by rw [← z]; exact m)
          obtain ⟨x, y', ns, h1, h2, h3, h4⟩ := all.dr a m dr
          exact ⟨x, y', ns, h1, h2, h3, by rw [upd_ne np]; exact h4⟩
      | false =>
        rw [if_neg Bool.false_ne_true]
        exact ⟨F6, acc, accV, hb.2 rfl, (st2.trans st3).trans st6, fD6, hD6, ra.mono (st3.fr.trans st6.fr)⟩
  · have e : i = ds.length := by omega
    subst e
    exact .inl ⟨ok2.stop _ F2 H2 st2.fr st2.sub (Nat.le_refl _), q _ (.odk acc) F2 H2 (fin acc hI) (st.trans st2) ⟨D, accV, rfl, st.back D hD, hD2, fD, ra⟩⟩
theorem wk_dc (C : Cxt X W) (ok : BlkOk X.N X.env.scope scope own) (h : DcOk X W ρ scope own tg iter kx vx ifs Ξ Ψ) (hs : ∀ x, foldedSetIterable iter X.env x = pure x := by intro _; rfl) : WK X W ρ (.DictComp kx vx [⟨tg, iter, ifs, 0⟩] scope pos) Ξ Ψ := fun B F H σ env Q q qx =>
  wE_of (pe_dc C.calm C.nd pi_w ok (fun s H0 C cl fp => ⟨fun pins s1 σ H v u Q I r h => h s H0 C cl fp pins s1 u I r⟩) (fun s H0 C cl fp => ⟨fun pins s1 σ H Q I h => h s H0 C cl fp pins s1 I⟩) (fun s H0 C cl fp => ⟨fun pins s1 σ H Q I h => h s H0 C cl fp pins s1 I⟩) (fun s H0 C cl fp => ⟨fun pins s1 σ H Q I h => h s H0 C cl fp pins s1 I⟩) hs) (dc_run C h env q qx)
variable {e : Expr} {it : DI} {g : DG} {tt : DT} {tk tv : DE}
def turnDc (vs : List Nat) (g : DG) (tt : DT) (tk tv : DE) (ρ : List Sl) (d : PyData) (P1 : Key → PyData → Prop) (P0 : Prop) : Prop :=
  g d (wipeS ρ vs) fun ρ2 => tt ρ2 X0 fun b => brk b (Go (tk ρ2 X0 fun y => someK (keyD y) fun k => tv ρ2 X0 (P1 k))) (Go P0)
/-- the items by an invariant, or each by itself -/
def dcD (turn : PyData → (Key → PyData → Prop) → Prop → Prop) (ds : List PyData) (Ψ : List (Key × PyData) → Prop) : Prop :=
  (∃ I : Nat → List (Key × PyData) → Prop, I 0 [] ∧ (∀ i d acc, ds[i]? = some d → I i acc → acc.length < 8000000 ∧ Go (turn d (fun k y => I (i + 1) (putDk acc k y)) (I (i + 1) acc))) ∧ ∀ acc, I ds.length acc → Go (Ψ acc)) ∨
  (∃ f : PyData → Key × PyData, ds.length ≤ 8000000 ∧ (∀ d ∈ ds, Go (turn d (fun k y => (k, y) = f d) False)) ∧ Go (Ψ (mergeD [] (ds.map f))))
def kDc (vs : List Nat) (it : DI) (g : DG) (tt : DT) (tk tv : DE) : DK := fun ρ Ξ Φ => it ρ Ξ fun ds => dcD (turnDc vs g tt tk tv ρ) ds fun acc => Φ (.odk acc)
theorem mergeD_append (kvs more more' : List (Key × PyData)) : mergeD kvs (more ++ more') = mergeD (mergeD kvs more) more' := by unfold mergeD; rw [List.foldl_append]
theorem dc_turn (hg : ∀ s H C cl fp, Cxt (blkX X scope s H C cl fp) W0 → RG (blkX X scope s H C cl fp) tg (· ∈ own.map (·.2)) g) (ht : ∀ s H C cl fp, Cxt (blkX X scope s H C cl fp) W0 → RTs (blkX X scope s H C cl fp) ifs tt)
    (hk : ∀ s H C cl fp, Cxt (blkX X scope s H C cl fp) W0 → RE (blkX X scope s H C cl fp) W0 kx tk) (hv : ∀ s H C cl fp, Cxt (blkX X scope s H C cl fp) W0 → RE (blkX X scope s H C cl fp) W0 vx tv) {d : PyData} {P1 : Key → PyData → Prop} {P0 : Prop} (h : turnDc (own.map (·.2)) g tt tk tv ρ d P1 P0) : DcTurn X scope (own.map (·.2)) (wipeS ρ (own.map (·.2))) tg ifs kx vx d P1 P0 := fun s H C cl fp Cb =>
  (hg s H C cl fp Cb d _ _ h).mono fun ρ2 z s H C cl fp Cb => wts_mono (ht s H C cl fp Cb _ _ z) fun b z => ⟨fun e s H C cl fp Cb => (hk s H C cl fp Cb _ _ _ (z.t e)).mono fun y z => by
    obtain ⟨k, ek, z⟩ := someK_inv z
    exact ⟨k, ek, fun s H C cl fp Cb => hv s H C cl fp Cb _ _ _ z⟩, fun e => z.f e⟩
theorem DcTurn.mono {vs : List Nat} {ρ : List Sl} {d : PyData} {P1 P1' : Key → PyData → Prop} {P0 P0' : Prop} (h : DcTurn X scope vs ρ tg ifs kx vx d P1 P0) (k1 : ∀ k y, P1 k y → P1' k y) (k0 : P0 → P0') : DcTurn X scope vs ρ tg ifs kx vx d P1' P0' := fun s H C cl fp Cb =>
  (h s H C cl fp Cb).mono fun ρ2 z s H C cl fp Cb => wts_mono (z s H C cl fp Cb) fun b z => ⟨fun e s H C cl fp Cb => (z.1 e s H C cl fp Cb).mono fun y ⟨k, ek, z⟩ => ⟨k, ek, fun s H C cl fp Cb => (z s H C cl fp Cb).mono (k1 k)⟩, fun e => k0 (z.2 e)⟩
theorem dc_ok (hi : RI X W tg e it) (hg : ∀ s H C cl fp, Cxt (blkX X scope s H C cl fp) W0 → RG (blkX X scope s H C cl fp) tg (· ∈ own.map (·.2)) g) (ht : ∀ s H C cl fp, Cxt (blkX X scope s H C cl fp) W0 → RTs (blkX X scope s H C cl fp) ifs tt)
    (hk : ∀ s H C cl fp, Cxt (blkX X scope s H C cl fp) W0 → RE (blkX X scope s H C cl fp) W0 kx tk) (hv : ∀ s H C cl fp, Cxt (blkX X scope s H C cl fp) W0 → RE (blkX X scope s H C cl fp) W0 vx tv) {Ξ : Exn → Prop} {Φ : Sl → Prop} (h : kDc (own.map (·.2)) it g tt tk tv ρ Ξ Φ) : DcOk X W ρ scope own tg e kx vx ifs Ξ Φ :=
  (hi _ _ _ h).mono fun ds z => by
    rcases z with ⟨I, i0, st, fin⟩ | ⟨f, hl, st, fin⟩
    · exact ⟨I, i0, fun i d acc e hI => ⟨(st i d acc e hI).1, dc_turn hg ht hk hv (st i d acc e hI).2⟩, fin⟩
    · refine ⟨fun i acc => acc = mergeD [] ((ds.take i).map f), by simp [mergeD], fun i d acc e hI => ⟨?_, ?_⟩, fun acc hI => ?_⟩
      · have hlt := (List.getElem?_eq_some_iff.mp e).1
        have h1 := mergeD_len ((ds.take i).map f) []
        have hI : acc = mergeD [] ((ds.take i).map f) := hI
        rw [hI]
        rw [List.length_map, List.length_take, List.length_nil] at h1
        omega
      · have ht' : ds.take (i + 1) = ds.take i ++ [d] := by rw [List.take_add_one, e]; rfl
        have hI : acc = mergeD [] ((ds.take i).map f) := hI
        refine (dc_turn hg ht hk hv (st d (List.mem_of_getElem? e))).mono (fun k y q => ?_) (fun q => q.elim)
        show putDk acc k y = mergeD [] ((ds.take (i + 1)).map f)
        rw [hI, ht', List.map_append, mergeD_append]
        show _ = putDk _ (f d).1 (f d).2
        rw [← q]
      · have hI : acc = mergeD [] ((ds.take ds.length).map f) := hI
        rw [hI, List.take_length]
        exact fin
theorem rk_dc (C : Cxt X W) (ok : BlkOk X.N X.env.scope scope own) (hi : RI X W tg e it) (hg : ∀ s H C cl fp, Cxt (blkX X scope s H C cl fp) W0 → RG (blkX X scope s H C cl fp) tg (· ∈ own.map (·.2)) g) (ht : ∀ s H C cl fp, Cxt (blkX X scope s H C cl fp) W0 → RTs (blkX X scope s H C cl fp) ifs tt)
    (hk : ∀ s H C cl fp, Cxt (blkX X scope s H C cl fp) W0 → RE (blkX X scope s H C cl fp) W0 kx tk) (hv : ∀ s H C cl fp, Cxt (blkX X scope s H C cl fp) W0 → RE (blkX X scope s H C cl fp) W0 vx tv) (hs : ∀ x, foldedSetIterable e X.env x = pure x := by intro _; rfl) : RK X W (.DictComp kx vx [⟨tg, e, ifs, 0⟩] scope pos) (kDc (own.map (·.2)) it g tt tk tv) := fun ρ Ξ Φ h =>
  wk_dc C ok (dc_ok hi hg ht hk hv h) hs
end
end Mv

set_option maxRecDepth 100000
set_option maxHeartbeats 4000000
/-! further readings: list.index -/
namespace Mv
open PySem L2
theorem pint_flat {K : PySem.W.Frag} {F : Hp} {ps : List Nat} {xs : List V} (r : RpAll K F xs (ps.map pint)) : xs = ps.map fun p : Nat => V.int (p : Int) := by
  induction ps generalizing xs with
  | nil => cases r; rfl
  | cons p ps ih =>
    rw [List.map_cons] at r
    cases r with
    | cons h t =>
      rw [ih t, List.map_cons]
      congr 1
      exact h.int_inv
section
variable {X : Cx} {W : WX} {a b : Expr} {ta tb : DE} {ap cp : Pos}
/-- a.index(b), numbers -/
def eMindex (s t : DE) : DE := fun ρ Ξ Φ => s ρ Ξ fun x => match x with
  | .list ds => t ρ Ξ fun y => ∃ (ps : List Nat) (p j : Nat), ds = ps.map pint ∧ y = .int p ∧ ps[j]? = some p ∧ (∀ m, m < j → ps[m]? ≠ some p) ∧ Go (Φ (.int j))
  | _ => False
theorem re_index (C : Cxt X W) (ha : RE X W a ta) (hb : RE X W b tb) (pe : PE X (.Call (.Attribute a "index" ap) [b] [] cp) (tBM X.K "list" (rIndex X.K) (wE X a) (tCons (wE X b) tNil)) := by exact pe_bm PySem.F.plainAttrs_list PySem.F.slot_list_index PySem.F.type_list_index mt_index pe_w (pa_cons pe_w pa_nil)) : RE X W (.Call (.Attribute a "index" ap) [b] [] cp) (eMindex ta tb) := fun ρ Ξ Φ h B F H σ env Q q qx => by
  refine wE_of pe (ha _ _ _ h B F H σ env _ (fun v x F1 H1 hx st1 r1 => ?_) qx)
  dsimp only at hx
  split at hx
  · rename_i ds
    obtain ⟨l, xs, rfl, hl, ra⟩ := r1.lst_inv
    refine ⟨.inl ⟨rfl, xs, SqL.of (st1.sub _ _ hl)⟩, hb _ _ _ hx B F1 H1 σ (env.step st1) _ (fun w y F2 H2 hy st2 r2 => ?_) (qx.step st1)⟩
    obtain ⟨ps, p, j, rfl, rfl, h1, h2, h3⟩ := hy
    have ea := pint_flat ra
    rw [ea] at hl
    have g : ∀ {m r : Nat}, ps[m]? = some r → (ps.map fun p : Nat => V.int (p : Int))[m]? = some (V.int (r : Int)) := fun {m r} e => by rw [List.getElem?_map, e]; rfl
    refine ⟨l, _, V.int p, j, V.int p, rfl, by rw [r2.int_inv], SqL.of (st2.sub _ _ (st2.fr _ _ hl)), rfl, ?_, g h1, by simp [eqV], fun m z hm e => ?_, q _ _ F2 H2 h3 (st1.trans st2) (.int _)⟩
    · rw [List.all_map]
      exact List.all_eq_true.mpr fun _ _ => rfl
    · rw [List.getElem?_map] at e
      cases e1 : ps[m]? with
      | none => rw [e1] at e; cases e
      | some r =>
        rw [e1] at e
        cases e
        have := h2 m hm
        rw [e1] at this
        show ((r : Int) == (p : Int)) = false
        have hne : r ≠ p := fun z => this (by rw [z])
        rw [beq_eq_false_iff_ne]
        omega
  · exact hx.elim
end
end Mv

set_option maxRecDepth 100000
set_option maxHeartbeats 4000000
/-! further readings: enumerate of lists and tuples -/
namespace Mv
open PySem L2
theorem meets_enumT (a : Addr) (items : Array Value) :
    Meets (Builtin.«enumerate.__new__» ⟨[.type "enumerate", .ref a], []⟩) (fun _ R s => s.heap.IsTuple a items ∧
      R (.ok (.ret (.ref (s.heap.push { cls := .type "tuple_iterator", data := .fields #[.ref a, .int 0 0] }).objs.size)))
        { s with heap := (s.heap.push { cls := .type "tuple_iterator", data := .fields #[.ref a, .int 0 0] }).push { cls := .type "enumerate", data := .fields #[.none, .bool false, .ref s.heap.objs.size, rawInt 0, .none, .none] } }) :=
  .of_wp fun prog w A R s h => by
    obtain ⟨hp, g, d, tk, os⟩ := s; obtain ⟨hl, h⟩ := h
    have hsub := sub_enumerate
    have q1 : ∀ {A' : Around} {E : Value → Shared → Prop} {Q : Value → Shared → Prop}, Q (.ref hp.objs.size) ⟨hp.push { cls := .type "tuple_iterator", data := .fields #[.ref a, .int 0 0] }, g, d, tk, os⟩ → wpAny (model prog w) A' (pyIter (.ref a)) Q E ⟨hp, g, d, tk, os⟩ :=
      fun q => wpAny_pyIter_tuple hl q
    have hld := hl
    obtain ⟨o, ho, hc, hd⟩ := hld
    wp_walk using AutoSeq1.wpAny_loadPart' ho, q1
    refine wpAny_stack_any fun st => wpAny_pure ?_
    split
    · rename_i c _ _ _ _ _
      cases (c == Value.type "enumerate")
      · wp_walk using AutoSeq1.wpAny_loadPart' ho, q1
        exact ⟨_, rfl, h⟩
      · wp_walk using AutoSeq1.wpAny_loadPart' ho, q1
        exact ⟨_, rfl, h⟩
    · wp_walk using AutoSeq1.wpAny_loadPart' ho, q1
      exact ⟨_, rfl, h⟩
section
variable {prog : Program} {w : World} {A : Around} {E : Value → Shared → Prop} {s : Shared}
theorem call_enumT {a : Addr} {items : Array Value} {Q : Value → Shared → Prop} (hL : s.heap.IsTuple a items)
    (h : ∀ h', IsEnum h' (s.heap.objs.size + 1) s.heap.objs.size 0 .none → h'.IsTupleIter s.heap.objs.size a 0 → h'.objs.size = s.heap.objs.size + 2 →
      (∀ b o, s.heap.get? b = some o → h'.get? b = some o) → Q (.ref (s.heap.objs.size + 1)) { s with heap := h' }) :
    wpAny (model prog w) A (call (.type "enumerate") [.ref a]) Q E s := by
  refine callType_new F.called_enumerate (by decide) (F.typeCall_enumerate_1 _) (F.newCall_enumerate_1 _) (fun obj => F.args_object_init_2 obj _) F.entry_enumerate_new
    (meets_enumT a items) ⟨hL, ?_⟩
  have hz : (s.heap.push { cls := .type "tuple_iterator", data := .fields #[.ref a, .int 0 0] }).objs.size = s.heap.objs.size + 1 := Heap.size_push ..
  show _ ∧ _
  rw [hz]
  have he : IsEnum ((s.heap.push { cls := .type "tuple_iterator", data := .fields #[.ref a, .int 0 0] }).push
      { cls := .type "enumerate", data := .fields #[.none, .bool false, .ref s.heap.objs.size, rawInt 0, .none, .none] }) (s.heap.objs.size + 1) s.heap.objs.size 0 .none := by
    have := Heap.get?_push_size (s.heap.push { cls := .type "tuple_iterator", data := .fields #[.ref a, .int 0 0] })
      (o := { cls := .type "enumerate", data := .fields #[.none, .bool false, .ref s.heap.objs.size, rawInt 0, .none, .none] }) rfl
    rw [hz] at this; exact this
  refine ⟨⟨_, he, rfl⟩, h _ he ⟨_, Heap.get?_push_of_some _ (Heap.get?_push_size _ rfl), rfl, rfl⟩ (by rw [Heap.size_push, hz]) fun b o x => Heap.get?_push_of_some _ (Heap.get?_push_of_some _ x)⟩
end
/-- the tuple at a, each item in a new pair -/
def IteT (K : PySem.W.Frag) (a : Addr) (n : Nat) : It :=
  ⟨fun i H => ∃ (xs : List V) (x : V), SqT K H a xs ∧ xs.length = n ∧ xs[i]? = some x, fun i H v H' => ∃ T x, v = .ref T ∧ H T = none ∧ H' = upd H T (.tup [.int (i : Nat), x]) ∧ ∀ xs, SqT K H a xs → xs[i]? = some x, fun i H => ∃ xs : List V, SqT K H a xs ∧ xs.length = n ∧ xs.length ≤ i⟩
theorem turn_enumT {P : Program} {w : World} {K : PySem.W.Frag} {elts : List Expr} {kk : Nat} {tpos : Pos} (a e it : Addr) (n : Nat) :
    Turn P w K (.Tuple elts kk tpos) (IteT K a n) [e, it] e (fun i h => (∃ old, IsEnum h e it ((i : Nat) : Int) old) ∧ h.IsTupleIter it a i ∧ (e ≠ it ∧ e ≠ a ∧ a ≠ it) ∧ i ≤ n) where
  mem := by simp
  obj := fun i h st b hb => by
    obtain ⟨⟨old, he⟩, ⟨o, ho, hc, hd⟩, _⟩ := st
    have e' : b = e ∨ b = it := by simpa using hb
    rcases e' with z | z
    · rw [z]; exact ⟨_, he, fun v q => nomatch q⟩
    · rw [z]; exact ⟨o, ho, fun v q => by rw [hd] at q; cases q⟩
  keep := fun i h h' st k => let ⟨⟨old, he⟩, hi, hne⟩ := st; ⟨⟨old, k e (by simp) _ he⟩, hi.at fun o q => k it (by simp) o q, hne⟩
  item := by
    intro X hP hw hK hc i pins s σ H E I hf st hg
    subst hP hw hK
    obtain ⟨⟨old, he⟩, hit, ⟨hne, hea, hai⟩, hin⟩ := st
    obtain ⟨xs, x, hq, hn, hx⟩ := hg
    obtain ⟨its, rv, p, hz⟩ := I.tuple hq
    obtain ⟨u, hu, ru⟩ := rv.get hx
    have hl := rv.length
    have hlt : i < xs.length := (List.getElem?_eq_some_iff.mp hx).1
    have hel : e < s.heap.objs.size := Heap.lt_size he
    have hil : it < s.heap.objs.size := by obtain ⟨_, q, _⟩ := hit; exact Heap.lt_size q
    have pt : s.heap.IsTuple a its.toArray := p
    refine wpAny_pyNext_enum_itemC (Draws.tuple (show X.A.in1.handled = none from I.ok.hd hc) it a hai its.toArray) he ⟨hit, pt⟩ (by simp; omega) hne (by simp [hne, hea]) fun y h' tk hP ho hit' hT hsz hk => ?_
    have hy : y = u := by
      have h1 : its.toArray[i]? = some y := hP
      have h2 : its.toArray[i]? = some u := by simpa using hu
      rw [h1] at h2
      exact Option.some.inj h2
    subst hy
    refine ⟨_, rfl, wpAny_letOwnedTupleGo_enum (s := { s with heap := h', toks := tk + 1 }) ho fun h'' he' sb => ?_⟩
    have hT2 : h''.get? s.heap.objs.size = some { cls := .type "tuple", data := .seq #[.int i tk, y] } := (sb.2 _ (Nat.ne_of_gt hel)).trans hT
    have new : ObjOk X.prog X.w (upd H s.heap.objs.size (.tup [.int (i : Nat), x])) h'' s.heap.objs.size (.tup [.int (i : Nat), x]) :=
      ⟨by show 2 ≤ sizeLine; decide, [.int i tk, y], .cons ⟨_, rfl⟩ (.cons ru .nil), ⟨_, hT2, rfl, _, rfl⟩⟩
    have I1 : Inv X pins σ (upd H s.heap.objs.size (.tup [.int (i : Nat), x])) { s with heap := h'', toks := tk + 1 } :=
      I.turnedNew (ch := [e, it]) (fun b ob hb q => (sb.2 b (fun z => hb (by simp [z]))).trans (hk b ob (fun z => hb (by simp [z])) (fun z => hb (by simp [z])) q)) hf (Nat.le_refl _) new
    refine ⟨.ref s.heap.objs.size, _, I1, rfl, ⟨_, x, rfl, I.hok.fresh (Nat.le_refl _), rfl, fun ys hy => by rw [I.tuple_inj hy hq]; exact hx⟩, ⟨⟨y, ?_⟩, hit'.1.at fun o q => (sb.2 it (Ne.symm hne)).trans q, ⟨hne, hea, hai⟩, by omega⟩, fun b hb => ?_⟩
    · have e1 : ((i + 1 : Nat) : Int) = (i : Int) + 1 := by omega
      rw [e1]; exact he'
    · have hb' : b < s.heap.objs.size := by
        have e' : b = e ∨ b = it := by simpa using hb
        rcases e' with z | z
        · rw [z]; exact hel
        · rw [z]; exact hil
      rw [upd_ne (Nat.ne_of_lt hb')]
      exact (hf b hb).1
  done := by
    intro X hP hw hK hc i pins s σ H E I hf st hg
    subst hP hw hK
    obtain ⟨⟨old, he⟩, hit, ⟨hne, hea, hai⟩, hin⟩ := st
    obtain ⟨xs, hq, hn, hx⟩ := hg
    obtain ⟨its, rv, p, hz⟩ := I.tuple hq
    obtain ⟨f0, f1, f2, f3, f4, f5⟩ := hf it (by simp)
    have hl := rv.length
    have ei : i = its.toArray.size := by simp; omega
    have pt : s.heap.IsTuple a its.toArray := p
    rw [ei] at hit
    exact wpAny_pyNext_enum_endD (Draws.tuple (show X.A.in1.handled = none from I.ok.hd hc) it a hai its.toArray) he ⟨hit, pt⟩ fun h' eb => ⟨rfl, I.turned (t' := s.toks) (fun b o hb q => eb b o hb q) f0 f1 f3 f4 f5⟩
  self := fun A i s Q E st h => let ⟨⟨_, he⟩, _⟩ := st; wpAny_pyIter_enum he h
/-- enumerate of a list or a tuple -/
def iEnumS (K : PySem.W.Frag) (ta : TE) : TI := fun σ H R => ta σ H fun v H1 => ∃ a, [v] = [V.ref a] ∧ (((∃ xs, SqL K H1 a xs) ∧ R (Ite K a) H1) ∨ (∃ xs, SqT K H1 a xs ∧ R (IteT K a xs.length) H1))
theorem pi_enumS {X : Cx} {e : Expr} {te : TE} {p pos tpos : Pos} {elts : List Expr} {kk : Nat} (hg : Gl X "enumerate") (hm : X.mg "enumerate" = none) (he : PE X e te) (hs : starEach [e] X.env = [(false, eval e X.env)] := by rfl) :
    PI X (.Tuple elts kk tpos) (.Call (.Name "enumerate" p) [e] [] pos) (iEnumS X.K te) := by
  refine ⟨fun pins s σ H R I h => ?_⟩
  refine PyProof.Rows.Call_ (ld_blt I hg hm PyProof.Rows.boot_enumerate (PyProof.Rows.callWith_type1 (thn ((pa_cons he pa_nil hs).run pos pins s σ H (fun vs H1 => ∃ a, vs = [V.ref a] ∧ (((∃ xs, SqL X.K H1 a xs) ∧ R (Ite X.K a) H1) ∨ (∃ xs, SqT X.K H1 a xs ∧ R (IteT X.K a xs.length) H1))) I h) fun us s1 ⟨vs, H1, I1, r1, q1⟩ => ?_) hs rfl))
  obtain ⟨a, ex, q⟩ := q1
  subst ex
  cases r1 with
  | cons r rr =>
    cases rr
    cases r
    rcases q with ⟨⟨xs, hq⟩, q⟩ | ⟨xs, hq, q⟩
    · obtain ⟨its, rv, p', hz⟩ := I1.list hq
      refine call_enumerate_list p'.isList fun h' he hit hsz hk => wpAny_pyIter_enum he ?_
      have I2 : Inv X pins σ H1 { s1 with heap := h' } := I1.kept (t' := s1.toks) hk
      refine ⟨s1.heap.objs.size + 1, [s1.heap.objs.size + 1, s1.heap.objs.size], _, _, H1, rfl, I2, turn_enum a (s1.heap.objs.size + 1) s1.heap.objs.size, ⟨⟨.none, he⟩, hit, Nat.succ_ne_self _⟩, fun b hb => ?_, q⟩
      have e' : b = s1.heap.objs.size + 1 ∨ b = s1.heap.objs.size := by simpa using hb
      have hle : s1.heap.objs.size ≤ b := by
        rcases e' with z | z
        · rw [z]; exact Nat.le_add_right _ _
        · rw [z]; exact Nat.le_refl _
      exact I1.fpOk hle (I1.hok.fresh hle)
    · obtain ⟨its, rv, p', hz⟩ := I1.tuple hq
      have pt : s1.heap.IsTuple a its.toArray := p'
      have hal : a < s1.heap.objs.size := by obtain ⟨_, q, _⟩ := pt; exact Heap.lt_size q
      refine call_enumT pt fun h' he hit hsz hk => wpAny_pyIter_enum he ?_
      have I2 : Inv X pins σ H1 { s1 with heap := h' } := I1.kept (t' := s1.toks) hk
      refine ⟨s1.heap.objs.size + 1, [s1.heap.objs.size + 1, s1.heap.objs.size], _, _, H1, rfl, I2, turn_enumT a (s1.heap.objs.size + 1) s1.heap.objs.size xs.length, ⟨⟨.none, he⟩, hit, ⟨Nat.succ_ne_self _, (by show s1.heap.objs.size + 1 ≠ a; exact Nat.ne_of_gt (Nat.lt_succ_of_lt hal)), Nat.ne_of_lt hal⟩, Nat.zero_le _⟩, fun b hb => ?_, q⟩
      have e' : b = s1.heap.objs.size + 1 ∨ b = s1.heap.objs.size := by simpa using hb
      have hle : s1.heap.objs.size ≤ b := by
        rcases e' with z | z
        · rw [z]; exact Nat.le_add_right _ _
        · rw [z]; exact Nat.le_refl _
      exact I1.fpOk hle (I1.hok.fresh hle)
def enumD (ds : List PyData) : List PyData := (List.range ds.length).map fun i => .tuple [.int (i : Nat), ds.getD i .none]
theorem enumD_len (ds : List PyData) : (enumD ds).length = ds.length := by simp [enumD]
theorem enumD_get {ds : List PyData} {i : Nat} {d : PyData} (h : (enumD ds)[i]? = some d) : ∃ x, ds[i]? = some x ∧ i < ds.length ∧ d = .tuple [.int (i : Nat), x] := by
  have hi : i < ds.length := by
    have := (List.getElem?_eq_some_iff.mp h).1
    rwa [enumD_len] at this
  unfold enumD at h
  rw [List.getElem?_map, List.getElem?_range hi] at h
  cases h
  refine ⟨ds[i], List.getElem?_eq_getElem hi, hi, ?_⟩
  show PyData.tuple [.int (i : Nat), ds.getD i .none] = _
  rw [List.getD_eq_getElem?_getD, List.getElem?_eq_getElem hi]
  rfl
theorem enumD_mem {ds : List PyData} {d : PyData} (h : d ∈ enumD ds) : ∃ i x, ds[i]? = some x ∧ i < ds.length ∧ d = .tuple [.int (i : Nat), x] := by
  obtain ⟨i, hi, e⟩ := List.getElem_of_mem h
  have e2 : (enumD ds)[i]? = some d := by rw [List.getElem?_eq_getElem hi, e]
  obtain ⟨x, h1, h2, h3⟩ := enumD_get e2
  exact ⟨i, x, h1, h2, h3⟩
theorem itOk_enumL {K : PySem.W.Frag} {M : Addr → Prop} {F : Hp} {a : Addr} {xs : List V} {ds : List PyData} (h : SqL K F a xs) (r : RpAll K F xs ds) : ItOk K M F (Ite K a) (enumD ds) where
  go := fun i F' H' s1 s2 hi => by
    rw [enumD_len] at hi
    obtain ⟨v, e, _⟩ := r.get (List.getElem?_eq_getElem hi)
    exact ⟨xs, v, s2.seq (s1.seq h), e⟩
  yld := fun i F' H' v H'' d s1 s2 hd y => by
    obtain ⟨T, x, rfl, hT, rfl, y⟩ := y
    obtain ⟨z, hz, hi, rfl⟩ := enumD_get hd
    obtain ⟨u, e, ru⟩ := r.get hz
    have e2 := y xs (s2.seq (s1.seq h))
    rw [e] at e2
    cases e2
    have st : Step M F' H' (upd F' T (.tup [.int (i : Nat), x])) (upd H' T (.tup [.int (i : Nat), x])) := Step.frz s2 hT
    exact ⟨_, st, .tup (SqT.of upd_same) (.cons (.int _) (.cons (ru.mono (s1.trans st.fr)) .nil))⟩
  stop := fun i F' H' s1 s2 hi => ⟨xs, s2.seq (s1.seq h), by rw [enumD_len] at hi; rw [r.len]; exact hi⟩
theorem itOk_enumT {K : PySem.W.Frag} {M : Addr → Prop} {F : Hp} {a : Addr} {xs : List V} {ds : List PyData} (h : SqT K F a xs) (r : RpAll K F xs ds) : ItOk K M F (IteT K a xs.length) (enumD ds) where
  go := fun i F' H' s1 s2 hi => by
    rw [enumD_len] at hi
    obtain ⟨v, e, _⟩ := r.get (List.getElem?_eq_getElem hi)
    exact ⟨xs, v, same_t s2 (same_t s1 h), rfl, e⟩
  yld := fun i F' H' v H'' d s1 s2 hd y => by
    obtain ⟨T, x, rfl, hT, rfl, y⟩ := y
    obtain ⟨z, hz, hi, rfl⟩ := enumD_get hd
    obtain ⟨u, e, ru⟩ := r.get hz
    have e2 := y xs (same_t s2 (same_t s1 h))
    rw [e] at e2
    cases e2
    have st : Step M F' H' (upd F' T (.tup [.int (i : Nat), x])) (upd H' T (.tup [.int (i : Nat), x])) := Step.frz s2 hT
    exact ⟨_, st, .tup (SqT.of upd_same) (.cons (.int _) (.cons (ru.mono (s1.trans st.fr)) .nil))⟩
  stop := fun i F' H' s1 s2 hi => ⟨xs, same_t s2 (same_t s1 h), rfl, by rw [enumD_len] at hi; rw [r.len]; exact hi⟩
section
variable {X : Cx} {W : WX} {ρ : List Sl} {a e : Expr} {ta : DE} {pos p tpos : Pos} {Ξ : Exn → Prop} {Φ : List PyData → Prop} {elts : List Expr} {kk : Nat}
theorem wi_enum (hm : X.mg "enumerate" = none) (h : WE X W ρ e Ξ fun d => ∃ ds, itemsD d = some ds ∧ Φ (enumD ds)) (hg : Gl X "enumerate" := by rfl) (hs : starEach [e] X.env = [(false, eval e X.env)] := by rfl) : WI X W ρ (.Tuple elts kk tpos) (.Call (.Name "enumerate" p) [e] [] pos) Ξ Φ := fun B F H σ env R q qx =>
  wI_of (pi_enumS hg hm pe_w hs) (h B F H σ env _ (fun v d F1 H1 hd st r => by
    obtain ⟨ds, hi, hΦ⟩ := hd
    cases d with
    | list es =>
      obtain ⟨a, xs, rfl, ha, ra⟩ := r.lst_inv
      cases hi
      exact ⟨a, rfl, .inl ⟨⟨xs, SqL.of (st.sub _ _ ha)⟩, q _ _ F1 H1 hΦ st (itOk_enumL (SqL.of ha) ra)⟩⟩
    | tuple es =>
      obtain ⟨a, xs, rfl, ha, ra⟩ := r.tup_inv
      cases hi
      exact ⟨a, rfl, .inr ⟨xs, same_t st.sub ha, q _ _ F1 H1 hΦ st (itOk_enumT ha ra)⟩⟩
    | _ => cases hi) qx)
def iEnum (t : DE) : DI := fun ρ Ξ Φ => t ρ Ξ fun d => someK (itemsD d) fun ds => Φ (enumD ds)
theorem ri_enum (hm : X.mg "enumerate" = none) (h : RE X W a ta) (hg : X.env.kindOf "enumerate" = some .globalImplicit := by kernel_rfl) (hs : isStar a = false := by rfl) : RI X W (.Tuple elts kk tpos) (.Call (.Name "enumerate" p) [a] [] pos) (iEnum ta) := fun _ _ _ k =>
  wi_enum hm ((h _ _ _ k).mono fun _ z => someK_inv z) hg (star_cons hs)
end
end Mv

set_option maxRecDepth 100000
set_option maxHeartbeats 4000000
/-! further readings: x[::-1], range with a step, min and max of tuples, an empty dict as data -/
namespace HT
open PySem PyProof.Rows
section
variable {prog : Program} {w : World} {A : Around} {E : Value → Shared → Prop} {s : Shared}
theorem sliceApplied_rev {sl : Addr} {vl vu vs : Value} {n : Nat} {Q : Int × Int × Nat → Shared → Prop} (hs : s.heap.IsSliceOf sl vl vu vs) (pl : IsPart vl none) (pu : IsPart vu none) (ps : IsPart vs (some (-1)))
    (h : Q ((n : Int) - 1, -1, n) s) : wpAny (model prog w) A (Builtin.Slice.sliceApplied (.ref sl) (pure (n : Int))) Q E s := by
  obtain ⟨os, hos, hcs, hds⟩ := id hs
  unfold Builtin.Slice.sliceApplied Builtin.Slice.sliceFields
  refine wpAny_bind (wpAny_bind (wpAny_field hos hds (x := vl) rfl (wpAny_bind (wpAny_field hos hds (x := vu) rfl (wpAny_bind (wpAny_field hos hds (x := vs) rfl (wpAny_pure ?_)))))))
  refine wpAny_bind (slicePart_ ps ?_)
  show wpAny _ _ (if ((-1 : Int) == 0) = true then _ else _) _ _ s
  rw [if_neg (by decide)]
  refine wpAny_bind (slicePart_ pl (wpAny_bind (slicePart_ pu (wpAny_bind (wpAny_pure ?_)))))
  have e1 : Builtin.Slice.sliceAdjust none none (-1) (n : Int) = ((n : Int) - 1, -1) := by
    unfold Builtin.Slice.sliceAdjust
    simp
  have e2 : Builtin.Slice.slicePlaces ((n : Int) - 1) (-1) (-1) = n := by
    unfold Builtin.Slice.slicePlaces
    simp
    split <;> omega
  show wpAny _ _ (match Builtin.Slice.sliceAdjust none none (-1) (n : Int) with | (lo, hi) => pure (lo, (-1 : Int), Builtin.Slice.slicePlaces lo hi (-1))) _ _ s
  rw [e1]
  show wpAny _ _ (pure ((n : Int) - 1, (-1 : Int), Builtin.Slice.slicePlaces ((n : Int) - 1) (-1) (-1))) _ _ s
  rw [e2]
  exact wpAny_pure h
theorem fm_map {β : Type} {f : Nat → Option β} {g : Nat → β} : ∀ {l : List Nat}, (∀ m ∈ l, f m = some (g m)) → l.filterMap f = l.map g
  | [], _ => rfl
  | a :: l, h => by
    rw [List.filterMap_cons_some (h a List.mem_cons_self), List.map_cons, fm_map fun m hm => h m (List.mem_cons_of_mem _ hm)]
theorem pick_rev (xs : Array Value) : ((List.range xs.size).filterMap fun (m : Nat) => xs[(((xs.size : Nat) : Int) - 1 + (m : Int) * (-1)).toNat]?).toArray = xs.toList.reverse.toArray := by
  congr 1
  refine List.ext_getElem? fun i => ?_
  have e : ((List.range xs.size).filterMap fun (m : Nat) => xs[(((xs.size : Nat) : Int) - 1 + (m : Int) * (-1)).toNat]?) = (List.range xs.size).map fun m => xs.toList.getD (xs.size - 1 - m) .none := by
    refine fm_map fun m hm => ?_
    have hm := List.mem_range.mp hm
    rw [show (((xs.size : Nat) : Int) - 1 + (m : Int) * (-1)).toNat = xs.size - 1 - m by omega, Array.getElem?_eq_getElem (show xs.size - 1 - m < xs.size by omega)]
    show _ = some (xs.toList.getD (xs.size - 1 - m) .none)
    rw [List.getD_eq_getElem?_getD, List.getElem?_eq_getElem (by simp; omega)]
    simp
  rw [e]
  by_cases hi : i < xs.size
  · rw [List.getElem?_map, List.getElem?_range hi, List.getElem?_reverse (by simpa using hi)]
    show some (xs.toList.getD (xs.size - 1 - i) .none) = _
    rw [List.getD_eq_getElem?_getD, Array.length_toList, List.getElem?_eq_getElem (by simp; omega)]
    rfl
  · rw [List.getElem?_eq_none (by simp; omega), List.getElem?_eq_none (by simp; omega)]
theorem getItem_tuple_rev {t sl : Addr} {items : Array Value} {vl vu vs : Value} {Q : Value → Shared → Prop} (ht : IsTup s.heap t items) (hs : s.heap.IsSliceOf sl vl vu vs) (pl : IsPart vl none) (pu : IsPart vu none) (ps : IsPart vs (some (-1)))
    (h : Q (.ref s.heap.objs.size) { s with heap := s.heap.push { cls := .type "tuple", data := .seq items.toList.reverse.toArray } })
    (hsz : items.size ≤ sizeLine) : wpAny (model prog w) A (getItem (.ref t) (.ref sl)) Q E s := by
  have htake : sizeOk (.seq items.toList.reverse.toArray) := by
    show items.toList.reverse.toArray.size ≤ sizeLine
    rw [List.size_toArray, List.length_reverse, Array.length_toList]
    exact hsz
  obtain ⟨os, hos, hcs, hds⟩ := id hs
  have hTs : s.TypeIs (.ref sl) "slice" := ⟨os, hos, hcs⟩
  unfold getItem
  try with_reducible refine wpAny_holding ?_
  first | refine wpAny_bind (wpAny_pure ?_) | skip
  refine wpAny_bind (wpAny_sequenceKey ht.typeIs (by decide) ?_)
  refine wpAny_bind (wpAny_callSpecial?_slot (name := Str.ofString "__getitem__") ht.typeIs PyProof.Rows.slot_tuple_getitem
    (wpAny_call_entry PyProof.Rows.slot_tuple_getitem ht.typeIs entry_tuple_getitem ?_ (args_tuple_getitem _ _)))
  show wpAny _ _ (Builtin.Tuple.tupleItemsOf (.ref t) >>= _) _ _ s
  refine wpAny_bind (tupleItemsOf_ ht ?_)
  refine wpAny_bind (wpAny_typeOf hTs ?_)
  rw [if_pos (by decide)]
  refine wpAny_bind (sliceApplied_rev hs pl pu ps ?_)
  have hno : ¬ ((((items.size : Nat) : Int) - 1 == 0 && (-1 : Int) == 1 && items.size == items.size) = true) := by
    intro q
    rw [Bool.and_eq_true, Bool.and_eq_true] at q
    exact absurd q.1.2 (by decide)
  show wpAny _ _ (if (((items.size : Nat) : Int) - 1 == 0 && (-1 : Int) == 1 && items.size == items.size) = true then _ else _) _ _ s
  rw [if_neg hno, pick_rev]
  first
    | exact wpAny_bind (m := Builtin.Tuple.tupleExact _) (wpAny_newObj_type (wpAny_pure ⟨_, rfl, wpAny_pure h⟩) htake)
    | exact wpAny_bind (m := Builtin.Tuple.tupleExact _) (wpAny_newObj_type (wpAny_bind (wpAny_pure (wpAny_pure ⟨_, rfl, wpAny_pure h⟩))) htake)
    | exact wpAny_bind (wpAny_bind (m := Builtin.Tuple.tupleExact _) (wpAny_newObj_type (wpAny_pure (wpAny_pure ⟨_, rfl, wpAny_pure h⟩)) htake))
    | exact wpAny_bind (wpAny_bind (m := Builtin.Tuple.tupleExact _) (wpAny_newObj_type (wpAny_pure ⟨_, rfl, wpAny_pure h⟩) htake))
end
end HT
namespace Mv
open PySem L2
/-! ### x[::-1] of a list or a tuple -/
def tRevS (K : PySem.W.Frag) (te : TE) : TE := fun σ H Q => te σ H fun x H1 => ∃ a xs, x = .ref a ∧ ((SqL K H1 a xs ∧ ∀ p, H1 p = none → Q (.ref p) (upd H1 p (.lst xs.reverse))) ∨ (SqT K H1 a xs ∧ ∀ p, H1 p = none → Q (.ref p) (upd H1 p (.tup xs.reverse))))
section
variable {X : Cx}
theorem pe_revS {e : Expr} {te : TE} {k : Nat} {p1 p2 p3 pos : Pos} (he : PE X e te) : PE X (.Subscript e (.Slice none none (some (.UnaryOp .USub (.Constant (.int 1) k p1) p2)) p3) pos) (tRevS X.K te) := by
  refine ⟨fun pins s σ H Q I h => ?_⟩
  refine PyProof.Rows.Subscript_ (thn (he.run pins s σ H _ I h) fun v s1 ⟨x, H1, I1, r1, q1⟩ => ?_)
  obtain ⟨a, xs, ex, q⟩ := q1
  subst ex
  cases r1
  have hst : PO X (some (.UnaryOp .USub (.Constant (.int 1) k p1) p2)) (tPart (tUn (rU fun i => .int (-i)) (tC (.int 1)))) := po_some (pe_un un_neg pe_int)
  refine wpAny_Slice (thn (po_none.run pins s1 σ H1 (fun o H2 => o = none ∧ H2 = H1) I1 ⟨rfl, rfl⟩) fun vl s2 ⟨l, H2, I2, pl, el, e2⟩ => ?_)
  subst el e2
  refine thn (po_none.run pins s2 σ H2 (fun o H3 => o = none ∧ H3 = H2) I2 ⟨rfl, rfl⟩) fun vu s3 ⟨u, H3, I3, pu, eu, e3⟩ => ?_
  subst eu e3
  refine thn (hst.run pins s3 σ H3 (fun o H4 => o = some (-1) ∧ H4 = H3) I3 ⟨1, rfl, -1, rfl, rfl, rfl⟩) fun vs s4 ⟨o, H4, I4, ps, eo, e4⟩ => ?_
  subst eo e4
  have I5 : Inv X pins σ H4 { s4 with heap := s4.heap.push { cls := .type "slice", data := .fields #[vl, vu, vs] } } := I4.kept (t' := s4.toks) fun b ob q => Heap.get?_push_of_some _ q
  rcases q with ⟨hx, q⟩ | ⟨hx, q⟩
  · obtain ⟨its, r, ht, hz⟩ := I5.list hx
    have hlen := r.length
    show wpAny (model X.prog X.w) X.A (PyProof.Rows.subscriptTail e (.Slice none none (some (.UnaryOp .USub (.Constant (.int 1) k p1) p2)) p3) (.ref a) (.ref s4.heap.objs.size)) (EP X pins σ Q) X.xe { s4 with heap := s4.heap.push { cls := .type "slice", data := .fields #[vl, vu, vs] } }
    refine PyProof.Rows.tail_any (ops := [.ref a, .ref s4.heap.objs.size]) ht.isList.typeIs (PySem.slot_list_getitem.lookup) ?_ (by with_unfolding_all rfl)
    refine wpAny_getItem_list_slice ht.isList (Heap.IsSliceOf.new _ vl vu vs) pl pu ps (by decide) ?_ (by rw [List.size_toArray]; omega)
    rw [PySem.W.krv_pick]
    refine ⟨.ref _, _, I5.laid (t' := s4.toks) (o := .lst xs.reverse) (fun b ob q => Heap.get?_push_of_some _ q) (Nat.le_refl _) ?_, rfl, q _ (I5.hok.fresh (Nat.le_refl _))⟩
    exact ⟨by rw [List.length_reverse]; exact hz, _, 0, r.reverse, Heap.get?_push_size _ rfl⟩
  · obtain ⟨its, r, ht, hz⟩ := I5.tuple hx
    have hlen := r.length
    show wpAny (model X.prog X.w) X.A (PyProof.Rows.subscriptTail e (.Slice none none (some (.UnaryOp .USub (.Constant (.int 1) k p1) p2)) p3) (.ref a) (.ref s4.heap.objs.size)) (EP X pins σ Q) X.xe { s4 with heap := s4.heap.push { cls := .type "slice", data := .fields #[vl, vu, vs] } }
    refine PyProof.Rows.tail_any (ops := [.ref a, .ref s4.heap.objs.size]) ht.typeIs (PyProof.Rows.slot_tuple_getitem.lookup) ?_ (by with_unfolding_all rfl)
    refine HT.getItem_tuple_rev ht (Heap.IsSliceOf.new _ vl vu vs) pl pu ps ?_ (by rw [List.size_toArray]; omega)
    refine ⟨.ref _, _, I5.laid (t' := s4.toks) (o := .tup xs.reverse) (fun b ob q => Heap.get?_push_of_some _ q) (Nat.le_refl _) ?_, rfl, q _ (I5.hok.fresh (Nat.le_refl _))⟩
    exact ⟨by rw [List.length_reverse]; exact hz, _, r.reverse, PyProof.Rows.IsTup.new _ _⟩
end
section
variable {X : Cx} {W : WX} {ρ : List Sl} {a b c e tg : Expr} {es : List Expr} {ta tb tc te : DE} {pos p px : Pos} {Ξ : Exn → Prop} {Φ : List PyData → Prop}
def revK (d : PyData) (Φ : PyData → Prop) : Prop := match d with
  | .list ds => Φ (.list ds.reverse)
  | .tuple ds => Φ (.tuple ds.reverse)
  | _ => False
def eRev (t : DE) : DE := fun ρ Ξ Φ => t ρ Ξ fun d => revK d Φ
theorem re_rev {k : Nat} {p1 p2 p3 : Pos} (h : RE X W a ta) : RE X W (.Subscript a (.Slice none none (some (.UnaryOp .USub (.Constant (.int 1) k p1) p2)) p3) pos) (eRev ta) := fun ρ Ξ Φ k B F H σ env Q q qx =>
  wE_of (pe_revS pe_w) (h _ _ _ k B F H σ env _ (fun v x F1 H1 hx st r => by
    cases x with
    | list ds =>
      obtain ⟨a, xs, rfl, ha, ra⟩ := r.lst_inv
      refine ⟨a, xs, rfl, .inl ⟨SqL.of (st.sub _ _ ha), fun p hp => ?_⟩⟩
      have st2 : Step B.M F1 H1 (upd F1 p (.lst xs.reverse)) (upd H1 p (.lst xs.reverse)) := Step.frz st.sub hp
      exact q _ (.list ds.reverse) _ _ hx (st.trans st2) (.lst upd_same (RpAll.mono st2.fr _ _ ra.reverse))
    | tuple ds =>
      obtain ⟨a, xs, rfl, ha, ra⟩ := r.tup_inv
      refine ⟨a, xs, rfl, .inr ⟨same_t st.sub ha, fun p hp => ?_⟩⟩
      have st2 : Step B.M F1 H1 (upd F1 p (.tup xs.reverse)) (upd H1 p (.tup xs.reverse)) := Step.frz st.sub hp
      exact q _ (.tuple ds.reverse) _ _ hx (st.trans st2) (.tup (SqT.of upd_same) (RpAll.mono st2.fr _ _ ra.reverse))
    | _ => exact hx.elim) qx)
/-! ### range(i, j, -1) -/
def downD (i : Int) (n : Nat) : List PyData := (List.range n).map fun k : Nat => .int (i + (k : Int) * (-1))
theorem downD_len (i : Int) (n : Nat) : (downD i n).length = n := by simp [downD]
theorem downD_get {lo : Int} {n i : Nat} {d : PyData} (h : (downD lo n)[i]? = some d) : i < n ∧ d = .int (lo + (i : Int) * (-1)) := by
  have hi : i < n := by
    have := (List.getElem?_eq_some_iff.mp h).1
    rwa [downD_len] at this
  simp only [downD, List.getElem?_map, List.getElem?_range hi] at h
  cases h
  exact ⟨hi, rfl⟩
theorem itOk_down {K : PySem.W.Frag} {M : Addr → Prop} {F : Hp} (lo : Int) (n : Nat) : ItOk K M F (Itc lo (-1) n) (downD lo n) where
  go := fun i F' H' s1 s2 hi => by rw [downD_len] at hi; exact hi
  yld := fun i F' H' v H'' d s1 s2 hd y => by
    obtain ⟨rfl, rfl⟩ := y
    obtain ⟨_, rfl⟩ := downD_get hd
    exact ⟨F', Step.refl s2, .int _⟩
  stop := fun i F' H' s1 s2 hi => by rw [downD_len] at hi; exact hi
def iRange3 (s t u : DE) : DI := fun ρ Ξ Φ => s ρ Ξ fun x => t ρ Ξ fun y => u ρ Ξ fun z => asI x fun i => asI y fun j => asI z fun k => (k = -1 ∧ -(2 ^ 62) ≤ i ∧ i < 2 ^ 62 ∧ -(2 ^ 62) ≤ j ∧ j < 2 ^ 62) ∧ Go (Φ (downD i (i - j).toNat))
theorem ri_range3 (hm : X.mg "range" = none) (h1 : RE X W a ta) (h2 : RE X W b tb) (h3 : RE X W c tc) (hg : X.env.kindOf "range" = some .globalImplicit := by kernel_rfl) (hs : isStar a = false := by rfl) (hs2 : isStar b = false := by rfl) (hs3 : isStar c = false := by rfl) :
    RI X W tg (.Call (.Name "range" p) [a, b, c] [] pos) (iRange3 ta tb tc) := fun ρ Ξ Φ k B F H σ env R q qx => by
  have e3 : starEach [c] X.env = [(false, eval c X.env)] := star_cons hs3
  have e2 : starEach [b, c] X.env = (false, eval b X.env) :: starEach [c] X.env := star_cons hs2
  have e1 : starEach [a, b, c] X.env = (false, eval a X.env) :: starEach [b, c] X.env := star_cons hs
  refine wI_of (pi_range3 hg hm (pa_cons pe_w (pa_cons pe_w (pa_cons pe_w pa_nil e3) e2) e1) e1 (by rw [e2, e3]; rfl)) ?_
  refine h1 _ _ _ k B F H σ env _ (fun v x F1 H1 hx st1 r1 => h2 _ _ _ hx B F1 H1 σ (env.step st1) _ (fun v2 y F2 H2 hy st2 r2 => h3 _ _ _ hy B F2 H2 σ (env.step (st1.trans st2)) _ (fun v3 z F3 H3 hz st3 r3 => ?_) (qx.step (st1.trans st2))) (qx.step st1)) qx
  obtain ⟨i, e4, hz4⟩ := asI_inv hz
  obtain ⟨j, e5, hz5⟩ := asI_inv hz4
  obtain ⟨l, e6, ⟨e7, b1, b2, b3, b4⟩, hz6⟩ := asI_inv hz5
  subst e4 e5 e6 e7
  exact ⟨i, j, -1, (i - j).toNat, by rw [r1.int_inv, r2.int_inv, r3.int_inv], RgC.neg b1 b2 b3 b4, q _ _ F3 H3 hz6 ((st1.trans st2).trans st3) (itOk_down i _)⟩
/-! ### len(set(xs)), xs ints -/
theorem firstMet_nodup (val : Nat → Int) : ∀ i, (PyProof.Rows.firstMet val i).Nodup
  | 0 => List.nodup_nil
  | i + 1 => by
    rw [PyProof.Rows.firstMet_succ]
    have ih := firstMet_nodup val i
    unfold PyProof.Rows.step_dedup
    split
    · exact ih
    · rename_i h
      rw [List.nodup_append]
      refine ⟨ih, by simp, fun a ha b hb e => ?_⟩
      rw [List.mem_singleton.mp hb] at e
      exact h (List.any_eq_true.mpr ⟨a, ha, by simp [e]⟩)
theorem firstMet_mem {ns : List Int} {k : Int} : k ∈ PyProof.Rows.firstMet (fun i => ns.getD i 0) ns.length ↔ k ∈ ns := by
  have h := PyProof.Rows.firstMet_any (fun i => ns.getD i 0) ns.length k
  have e : (List.range ns.length).map (fun i => ns.getD i 0) = ns := by
    refine List.ext_getElem? fun i => ?_
    by_cases hi : i < ns.length
    · rw [List.getElem?_map, List.getElem?_range hi, List.getElem?_eq_getElem hi]
      show some (ns.getD i 0) = _
      rw [List.getD_eq_getElem?_getD, List.getElem?_eq_getElem hi]
      rfl
    · rw [List.getElem?_eq_none (by simp; omega), List.getElem?_eq_none (by omega)]
  rw [e] at h
  have h1 : ∀ l : List Int, (l.any (· == k)) = true ↔ k ∈ l := fun l => by simp
  rw [← h1, h, h1]
def lenSetL (d : PyData) (Φ : PyData → Prop) : Prop := match d with
  | .list xs => someK (intsD xs) fun ns => ns.length ≤ 4000 ∧ Go (∀ l : List Int, l.Nodup → (∀ k, k ∈ l ↔ k ∈ ns) → Φ (.int l.length))
  | _ => False
def eLenSetL (t : DE) : DE := fun ρ Ξ Φ => t ρ Ξ fun d => lenSetL d Φ
theorem re_lenSetL {p2 : Pos} (C : Cxt X W) (hm : X.mg "len" = none) (hm2 : X.mg "set" = none) (ha : RE X W a ta) (hg : X.env.kindOf "len" = some .globalImplicit := by kernel_rfl) (hg2 : X.env.kindOf "set" = some .globalImplicit := by kernel_rfl) (hs : isStar a = false := by rfl) :
    RE X W (.Call (.Name "len" p) [.Call (.Name "set" p2) [a] [] px] [] pos) (eLenSetL ta) := fun ρ Ξ Φ k B F H σ env Q q qx => by
  intro pins s I
  refine PyProof.Rows.Call_ (ld_blt I hg hm PySem.boot_len ?_)
  refine PyProof.Rows.callWith_builtin1 (PyProof.Rows.args_cons ?_ rfl) rfl rfl
  refine PyProof.Rows.Call_ (ld_blt I hg2 hm2 bb_set ?_)
  refine PyProof.Rows.callWith_type1 (PyProof.Rows.args_cons (thn (ha ρ Ξ _ k B F H σ env (fun (v : V) (H1 : Hp) => ∃ (p : Addr) (ns : List Int), v = .ref p ∧ SqL X.K H1 p (ns.map V.int) ∧ ns.length ≤ 4000 ∧ ∀ l : List Int, l.Nodup → (∀ k, k ∈ l ↔ k ∈ ns) → Q (.int l.length) H1) (fun v d F1 H1 hd st r => ?_) qx pins s I) fun v s1 ⟨x, H1, I1, r1, q1⟩ => PyProof.Rows.args_nil ?_) (star_cons hs)) (star_cons hs) rfl
  · have hd : lenSetL d Φ := hd
    unfold lenSetL at hd
    split at hd
    · obtain ⟨ns, e, h1, h2⟩ := someK_inv hd
      obtain ⟨p, vs, rfl, hp, rv⟩ := r.lst_inv
      rw [intsD_inv e] at rv
      obtain rfl := rv.ints_inv
      exact ⟨p, ns, rfl, SqL.of (st.sub _ _ hp), h1, fun l l1 l2 => q _ _ F1 H1 (h2 l l1 l2) st (.int _)⟩
    · exact hd.elim
  · obtain ⟨l, ns, rfl, hq, hl, q1⟩ := q1
    cases r1
    obtain ⟨its, r, pl, hz⟩ := I1.list hq
    have hlen : its.length = ns.length := by rw [← r.length, List.length_map]
    have hsz : its.toArray.size = ns.length := by rw [List.size_toArray, hlen]
    refine PySem.call_set_list (ns := ns) (I1.ok.hd C.calm) pl.isList (by simpa using RZ.intsAre_vals r) (by rw [hsz]; unfold scanBound; omega) fun h' tk hS hk => ?_
    refine PyProof.Rows.args_nil ?_
    rw [hsz] at hS
    obtain ⟨o, es, ep, t, ho, hex, hd, _, _, _, hf, hn⟩ := hS
    have I2 : Inv X pins σ H1 { s1 with heap := h', toks := tk } := I1.kept fun b o e => hk b o (Heap.lt_size e) e
    have q2 := q1 _ (firstMet_nodup _ _) fun k => firstMet_mem
    have hle := PyProof.Rows.firstMet_length_le (fun i => ns.getD i 0) ns.length
    exact call_len_set ho hex hd hf (by rw [hn]; omega) ⟨.int (PyProof.Rows.firstMet (fun i => ns.getD i 0) ns.length).length, H1, I2.tok _, ⟨_, by rw [hn]⟩, q2⟩
end
/-! ### min of a tuple of ints -/
section
variable {prog : Program} {w : World} {A : Around} {E : Value → Shared → Prop} {s : Shared} {l : Addr}
theorem min_intTup {xs : Array (Int × Tok)} {Q : Value → Shared → Prop} (hh : A.handled = none) (hl : s.heap.IsTuple l (intItems xs)) (hne : 0 < xs.size)
    (h : ∀ v h' tk, (intItems xs)[argBest (fun i j => decide (numAt xs i < numAt xs j)) (xs.size - 1)]? = some v → (∀ b o, s.heap.get? b = some o → h'.get? b = some o) → Q v { s with heap := h', toks := tk }) :
    wpAny (model prog w) A (call (.builtin "min") [.ref l]) Q E s := by
  have hlt : l < s.heap.objs.size := by obtain ⟨_, e, _⟩ := hl; exact Heap.lt_size e
  refine call_min_walk (wpAny_pyIter_tuple hl ?_)
  refine ⟨_, _, _, _, _, _, _, rfl, Walks.tuple (A := A.in1) hh _ l (Nat.ne_of_lt hlt) (intItems xs), ⟨⟨_, Heap.get?_push_size _ rfl, rfl, rfl⟩, hl.push _⟩, fun b hb => ?_, by simpa [intItems] using hne, CmpOf.ints_lt (numAt xs) (fun _ _ => intItems_at), fun v h' tk hP hk => ?_⟩
  · show b < (s.heap.push _).objs.size
    rw [Heap.size_push]
    have e' : b = s.heap.objs.size ∨ b = l := by simpa using hb
    rcases e' with z | z
    · rw [z]; exact Nat.lt_succ_self _
    · rw [z]; exact Nat.lt_succ_of_lt hlt
  · exact h v h' tk (by simpa [intItems] using hP) fun b o e => hk b o (by simp; exact Nat.ne_of_lt (Heap.lt_size e)) (Heap.get?_push_of_some _ e)
theorem min_rawT {its : List Value} {ns : List Int} {Q : Value → Shared → Prop} (hh : A.handled = none) (hl : s.heap.IsTuple l its.toArray) (hi : PyProof.Rows.IntsAre its ns) (hne : 0 < ns.length)
    (h : ∀ h' tk M t', (∀ b o, s.heap.get? b = some o → h'.get? b = some o) → M ∈ ns → (∀ a, a ∈ ns → M ≤ a) → Q (.int M t') { s with heap := h', toks := tk }) : wpAny (model prog w) A (call (.builtin "min") [.ref l]) Q E s := by
  obtain ⟨xs, e⟩ := hi.allInts.items
  have hn : numsOf (intItems xs).toList = ns := by rw [← e]; exact hi.numsOf
  rw [nums_intItems] at hn
  subst hn
  rw [e] at hl
  have hsz : 0 < xs.size := by simpa using hne
  refine min_intTup hh hl hsz fun v h' tk hv hk => ?_
  obtain ⟨t, rfl⟩ := intItems_at hv
  obtain ⟨h1, h2⟩ := argBest_lt (numAt xs) (xs.size - 1)
  refine h h' tk _ t hk ?_ fun a ha => ?_
  · rw [numAt_eq]; exact PySem.getD_mem (by rw [List.length_map, Array.length_toList]; omega)
  · obtain ⟨j, hj, rfl⟩ := mem_getD ha
    rw [List.length_map, Array.length_toList] at hj
    rw [← numAt_eq]; exact h2 j (by omega)
end
section
variable {X : Cx} {W : WX} {e : Expr} {es : List Expr} {ra : DA} {pos p : Pos}
def rMinT (K : PySem.W.Frag) : List V → Hp → VK → Prop := fun vs H Q => ∃ (a : Addr) (ns : List Int), vs = [V.ref a] ∧ SqT K H a (ns.map V.int) ∧ 0 < ns.length ∧ ∀ m, m ∈ ns → (∀ y, y ∈ ns → m ≤ y) → Q (.int m) H
theorem cr_minT (hc : X.calm = true) : CallR X (.builtin "min") (rMinT X.K) := by
  intro pins s σ H vs us Q I r h
  obtain ⟨a, ns, rfl, hs, hne, q⟩ := h
  obtain ⟨its, rv, hl, _⟩ := I.tuple hs
  rw [Vals.ref1 r]
  exact min_rawT (I.ok.hd hc) hl rv.ints hne fun h' tk m t' hk h1 h2 => ⟨.int _, H, I.kept hk, ⟨_, rfl⟩, q m h1 h2⟩
def rMin4 (K : PySem.W.Frag) : List V → Hp → VK → Prop := fun xs H Q => rMin3 K xs H Q ∨ rMinT K xs H Q
theorem call_min4 (hc : X.calm = true) : CallR X (.builtin "min") (rMin4 X.K) := callR_or (call_min3 hc) (cr_minT hc)
def bMin2 : OB := fun ds Φ => match ds with
  | [.int i, .int j] => Φ (.int (if j < i then j else i))
  | [.list xs] => someK (intsD xs) fun ns => ns ≠ [] ∧ ∀ m, m ∈ ns → (∀ y, y ∈ ns → m ≤ y) → Go (Φ (.int m))
  | [.tuple xs] => someK (intsD xs) fun ns => ns ≠ [] ∧ ∀ m, m ∈ ns → (∀ y, y ∈ ns → m ≤ y) → Go (Φ (.int m))
  | _ => False
theorem re_min2 (hc : X.calm = true) (hm : X.mg "min" = none) (h : RA X W (e :: es) ra) (hg : X.env.kindOf "min" = some .globalImplicit := by kernel_rfl) (hs : isStar e = false := by rfl) (hpl : (backTo pos (starEach es X.env)).any (·.1) = false := by rfl) : RE X W (.Call (.Name "min" p) (e :: es) [] pos) (eB bMin2 ra) := re_callB (call_min4 hc) (fun ds Φ h => by
  unfold bMin2 at h
  split at h
  · exact fun M F H vs s rs Q q => .inl (wmin2 h M F H vs s rs Q q)
  · obtain ⟨ns, e, h1, h2⟩ := someK_inv h
    rw [intsD_inv e]
    exact fun M F H vs s rs Q q => .inl (wmin h1 h2 M F H vs s rs Q q)
  · obtain ⟨ns, e, h1, h2⟩ := someK_inv h
    rw [intsD_inv e]
    exact fun M F H vs s rs Q q => by
      obtain ⟨v, rfl, r⟩ := rp1 rs
      obtain ⟨a, xs, rfl, ha, ra⟩ := r.tup_inv
      obtain rfl := ra.ints_inv
      exact .inr ⟨a, ns, rfl, same_t s ha, List.length_pos_iff.mpr h1, fun m h3 h4 => q _ _ F H (h2 m h3 h4) (Step.refl s) (.int _)⟩
  · exact h.elim) hm bb_min h hg (by decide +kernel) hs hpl
/-! ### an empty dict as data -/
def eDict0 : DE := fun _ _ Φ => Φ (.dict [])
theorem re_dict0 {p2 : Pos} : RE X W (.Dict [] [] p2) eDict0 := fun ρ Ξ Φ k B F H σ env Q q qx =>
  wE_of pe_dnewK fun d hd => q _ (.dict []) _ _ k (Step.frz env.sub hd) (.dct upd_same)
end
end Mv

set_option maxRecDepth 100000
set_option maxHeartbeats 4000000
/-! further readings: a call of a def without arguments -/
namespace Mv
open PySem L2
section
variable {X : Cx} {W : WX} {ρ : List Sl} {pos p : Pos} {Ξ : Exn → Prop} {Ψ : Sl → Prop}
theorem pe_callS0 {CX : CXT} {k : Nat} {f : Addr} {fd : FuncData} {ps : List Str} {sp : Sp} {E : St → XK} {x : Str} (F : FnOk X.prog X.w X.K X.mg X.base CX k f fd ps sp) (hr : Room k X.A) (hg : Gl X x) (hm : X.mg x = some (.ref f)) (hk : PySem.W.keepIn X.K (.ref f) = true) (hb : Binds X.K fd ps []) (hx : ∀ σ, PassesAt CX X σ (E σ))
    (hdb : (x == ("__debug__" : Str)) = false := by decide) : PE X (.Call (.Name x p) [] [] pos) (tCallS sp E tNil) := by
  refine ⟨fun pins s σ H Q I h => ?_⟩
  refine wpAny_Call_Name_kw (ld_glob I hg hm ?_ hdb)
  exact PySem.W.callWith_K0 I.kIn hk (run_fnS (us := []) F hr hb (hx σ) I .nil h)
theorem wk_call0 {x : Str} {k : Nat} {pr : Pr} (D : Def X.prog X.w X.K X.mg X.base x 0 k pr) (C : Cxt X W) (hr : Room k X.A) (h : pr [] Ψ Ξ) (hg : Gl X x := by rfl) (hdb : (x == ("__debug__" : Str)) = false := by decide) : WK X W ρ (.Call (.Name x p) [] [] pos) Ξ Ψ := fun B F H σ env Q q qx => by
  obtain ⟨f, fd, ps, hm, hk, hb, hn, F0⟩ := D.ex
  refine wE_of (pe_callS0 (E := L2.WE W) F0 hr hg hm hk hb (fun σ => passAt C.tk σ) hdb) ?_
  exact ⟨fun a => B.M a ∧ DrOk H a, F, [], Ψ, Ξ, env.sub, fun a m => env.st.alive a (env.mh a m.1), .nil, h, fun v s F2 H2 hs st2 r => q v s F2 H2 hs st2.lift r, fun cls dd y F2 H2 hy st2 r => qx cls dd y F2 H2 hy st2.lift r⟩
def kCall0 (pr : Pr) : DK := fun ρ Ξ Ψ => CallK (pr [] Ψ Ξ)
theorem rk_call0 {x : Str} {k : Nat} {pr : Pr} (D : Def X.prog X.w X.K X.mg X.base x 0 k pr) (C : Cxt X W) (hr : Room k X.A) (hg : X.env.kindOf x = some .globalImplicit := by kernel_rfl) (hb : bltOk x = true := by kernel_rfl) : RK X W (.Call (.Name x p) [] [] pos) (kCall0 pr) := fun _ _ _ k =>
  wk_call0 D C hr k.out hg (bltOk_inv hb).2
end
end Mv

set_option maxRecDepth 100000
set_option maxHeartbeats 4000000
/-! errors with fields: raised, caught by a name, read -/
namespace Mv
open PySem L2 PySem.Spec PyProof.Rows
/-! ### try with clauses of both kinds -/
abbrev Clx := Value × Option Nat × (Addr → Value → Option Addr → TS)
def offN (j : Nat) (D : Ends) : Ends := { nx := fun τ G => D.nx (τ.set j none) G, rt := D.rt, bk := fun τ G => D.bk (τ.set j none) G, ct := fun τ G => D.ct (τ.set j none) G }
def wNamed (K : PySem.W.Frag) (Wo : WX) (D : Ends) : List Clx → WX
  | [] => Wo
  | (c, none, t) :: r => fun cl dd τ G => ∃ b, PySem.W.exmOne K cl c = some b ∧ (b = true → ∀ e, G e = none → t e cl dd D τ G) ∧ (b = false → wNamed K Wo D r cl dd τ G)
  | (c, some j, t) :: r => fun cl dd τ G => ∃ b, PySem.W.exmOne K cl c = some b ∧ (b = true → ∀ e, G e = none → t e cl dd (offN j D) (τ.set j (some (.ref e))) G) ∧ (b = false → wNamed K Wo D r cl dd τ G)
def SuiteOk (X : Cx) (su : List Stmt) (t : Addr → Value → Option Addr → TS) : Prop := ∀ (e : Addr) (ob : Obj) (cl : Value) (dd : Option Addr) (qs : List (Addr × Obj)), Zc cl dd ob → (∃ vs, ob.data = .fields vs) → PSs (X.suite e ((e, ob) :: qs)) su (t e cl dd)
inductive HdsN (X : Cx) : List ExceptHandler → List Clx → Prop
  | nil : HdsN X [] []
  | bare {x : Str} {c : Value} {t : Addr → Value → Option Addr → TS} {b₀ : Stmt} {su : List Stmt} {p1 p2 : Pos} {hds : List ExceptHandler} {l : List Clx} (hc : Names X x c) (ok : SuiteOk X (b₀ :: su) t) (r : HdsN X hds l) :
      HdsN X (.ExceptHandler (some (.Name x p1)) none (b₀ :: su) p2 :: hds) ((c, none, t) :: l)
  | as_ {x n : Str} {j : Nat} {c : Value} {t : Addr → Value → Option Addr → TS} {b₀ : Stmt} {su : List Stmt} {p1 p2 : Pos} {hds : List ExceptHandler} {l : List Clx} (hj : X.N[j]? = some n) (hk : X.env.kindOf n = some .local) (hc : Names X x c) (ok : SuiteOk X (b₀ :: su) t) (r : HdsN X hds l) :
      HdsN X (.ExceptHandler (some (.Name x p1)) (some n) (b₀ :: su) p2 :: hds) ((c, some j, t) :: l)
section
variable {X : Cx} {body : List Stmt} {h₀ : ExceptHandler} {hds : List ExceptHandler} {l : List Clx} {pos : Pos} {tb : WX → TS} {Wo : WX}
theorem ps_try_named (st : X.stack = X.env :: X.outer) (fr : X.env.frame = some X.env.locals) (nd : X.N.Nodup) (tk : Takes X Wo)
    (hb : ∀ (W : WX) (qs : List (Addr × Obj)) (xe : Value → Shared → Prop), Takes (X.tr qs xe) W → PassesOwn (model X.prog X.w) X.A X.env xe → PSs (X.tr qs xe) body (tb W)) (all : HdsN X (h₀ :: hds) l) :
    PS X (.Try body (h₀ :: hds) [] [] pos) (fun D τ G => tb (wNamed X.K Wo D l) D τ G) := by
  refine ⟨fun pins s τ G D inv wish => ?_⟩
  have okX := inv.ok
  have frames : X.A.frames = some (X.env :: X.outer) := by rw [okX.frames, st]
  refine wpAny_Try_except ?_
  refine wpAny_mono ((hb (wNamed X.K Wo D l) (X.pn ++ pins) (fun er s1 => wpAny (model X.prog X.w) X.A (noteFrame er X.env) (fun _ s2 => wpAny (model X.prog X.w) X.A (setFlight er none) (fun _ s3 => wpAny (model X.prog X.w) X.A (handleBy er X.env (h₀ :: hds)) (SP X pins D) X.xe s3) X.xe s2) X.xe s1)
    (fun u s' caught => ?_) PassesOwn.looking).run [] s τ G D (inv.toTry _) wish) (fun fl s1 done => ?_) fun _ _ z => z
  · obtain ⟨e, Bh, sI, qs, τ', G', cl, dd, rfl, invT, nb, up, sky, fresh, os, bare, goal⟩ := caught
    have inv1 : Inv X pins τ' G' sI := invT.ofTry okX
    show wpAny (model X.prog X.w) X.A (noteFrame (.ref e) X.env) _ _ _
    refine Sky.land Zc.steady frames fr (by rw [← st]; exact sky) fun h3 fly up3 => ?_
    have inv3 : Inv X pins τ' G' { s' with heap := h3 } := inv1.landed nb fly.1 (up.trans up3) os bare
    obtain ⟨ob, vs, at3, z3, dat3⟩ := fly.there
    have off : e ∉ frs (X.env :: X.outer) := fun m => by
      obtain ⟨_, o', q, nof⟩ := Heap.FunFrames.mem fly.2.2.1 m
      rw [at3] at q
      cases q
      exact nof _ dat3
    have offL : e ≠ X.env.locals := fun z => off (List.mem_filterMap.mpr ⟨X.env, List.mem_cons_self, by rw [fr, z]⟩)
    have offF : e ∉ X.fs := fun m => by
      obtain ⟨en, hen, q⟩ := List.mem_filterMap.mp m
      exact off (List.mem_filterMap.mpr ⟨en, List.mem_cons_of_mem _ hen, q⟩)
    have inS := inv3.suite at3 dat3 fresh offL offF
    have each : ∀ {ks : List ExceptHandler} {cs : List Clx}, HdsN X ks cs → wNamed X.K Wo D cs cl dd τ' G' → wpAny (model X.prog X.w) X.A (handleBy (.ref e) X.env ks) (SP X pins D) X.xe { s' with heap := h3 } := by
      intro ks cs hk
      have looksC : PySem.W.Looks (model X.prog X.w) h3 (typeOf (.ref e)) cl := fun A Q E s k q => wpAny_typeOf_ref (k _ _ at3) (by rw [z3.1]; exact q)
      have test : ∀ {x : Str} {c : Value} {p1 : Pos} {Q E : Value → Shared → Prop}, Names X x c → Q c { s' with heap := h3 } → wpAny (model X.prog X.w) (X.A.mark (some (.ref e))) (eval (.Name x p1) X.env) Q E { s' with heap := h3 } := fun {x c p1 Q E} hc q => by
        obtain ⟨hg, hdbg, hm | ⟨hm, hv, hnn⟩⟩ := hc
        · exact ld_glob (X := X.suite e ((e, ob) :: (X.pn ++ pins))) inS hg hm q hdbg
        · exact ld_blt (X := X.suite e ((e, ob) :: (X.pn ++ pins))) inS hg hm hv q hnn hdbg
      induction hk with
      | nil =>
        intro goal
        refine wpAny_handleBy_nil ?_
        obtain ⟨_, _, _, oe, ws, T, oT, ts, q1, q2, q3, q4, q5⟩ := id fly
        unfold PySem.passOn
        refine wpAny_bind (wpAny_field q1 q3 q4 ?_)
        rw [if_neg (show ¬ ((Value.ref T == Value.none) = true) from by simp)]
        have out : wpAny (model X.prog X.w) X.A (setFlight (.ref e) X.env.frame) (fun _ s4 => wpAny (model X.prog X.w) X.A (throw (.ref e) : Sem Flow) (SP X pins D) X.xe s4) X.xe { s' with heap := h3 } := by
          rw [fr]
          exact HandSPX.setFlight_upZ fly fun h4 g4 up4 => wpAny_throw (tk _ _ ⟨e, Bh, sI, pins, τ', G', cl, dd, rfl, inv1, nb, (up.trans up3).trans up4, .inr (.inr (by rw [st]; exact g4)), fresh, os, bare, goal⟩)
        first
          | exact wpAny_bind (wpAny_pure (wpAny_bind out))
          | exact wpAny_bind out
      | @bare x c t b₀ su p1 p2 ks2 cs2 hc ok r ih =>
        rintro ⟨b, hb1, yes, no⟩
        refine wpAny_handleBy_cons (codeAny_handlers_test (test hc ((PySem.W.exm_one (M := model X.prog X.w) inv3.kIn looksC hb1).here ?_))) (by intro q; cases q)
        cases b with
        | false => exact ih (no rfl)
        | true =>
          refine codeAny_handlers_suite (HandSPX.lands_againZ fly fun h4 fly4 up4 => ?_)
          have inv4 : Inv X pins τ' G' { s' with heap := h4 } := inv1.landed nb fly4.1 ((up.trans up3).trans up4) os bare
          obtain ⟨o4, v4, at4, z4, dat4⟩ := fly4.there
          refine wpAny_mono ((ok e o4 cl dd (X.pn ++ pins) z4 ⟨_, dat4⟩).run [] _ _ G' _ (inv4.suite at4 dat4 fresh offL offF) (yes rfl e fresh)) (fun f s6 hsp => ?_) (fun _ _ z => False.elim z)
          cases f with
          | ret u => obtain ⟨v6, τ6, G6, i6, r6, q6⟩ := hsp; exact ⟨_, _, _, i6.unsuite okX, r6, q6⟩
          | next => obtain ⟨τ6, G6, i6, q6⟩ := hsp; exact ⟨_, _, i6.unsuite okX, q6⟩
          | brk => obtain ⟨τ6, G6, i6, q6⟩ := hsp; exact ⟨_, _, i6.unsuite okX, q6⟩
          | cont => obtain ⟨τ6, G6, i6, q6⟩ := hsp; exact ⟨_, _, i6.unsuite okX, q6⟩
      | @as_ x n j c t b₀ su p1 p2 ks2 cs2 hj hk hc ok r ih =>
        rintro ⟨b, hb1, yes, no⟩
        refine wpAny_handleBy_cons (codeAny_handlers_test (test hc ((PySem.W.exm_one (M := model X.prog X.w) inv3.kIn looksC hb1).here ?_))) (by intro q; cases q)
        cases b with
        | false => exact ih (no rfl)
        | true =>
          refine codeAny_handlers_suite_as (HandSPX.lands_againZ fly fun h4 fly4 up4 => ?_)
          have inv4 : Inv X pins τ' G' { s' with heap := h4 } := inv1.landed nb fly4.1 ((up.trans up3).trans up4) os bare
          obtain ⟨o4, v4, at4, z4, dat4⟩ := fly4.there
          refine store_ok (X := X.suite e ((e, o4) :: (X.pn ++ pins))) (v := .ref e) (inv4.suite at4 dat4 fresh offL offF) nd hj (.inl hk) rfl (fun s5 i5 => ?_) (.inr hk)
          refine wpAny_mono ((ok e o4 cl dd (X.pn ++ pins) z4 ⟨_, dat4⟩).run [] s5 _ G' _ i5 (yes rfl e fresh)) (fun f s6 hsp => ?_) (fun _ _ z => False.elim z)
          have fin : ∀ {τ6 : L2.St} {G6 : Hp} {Q : Shared → Prop}, Inv (X.suite e ((e, o4) :: (X.pn ++ pins))) [] τ6 G6 s6 → (∀ s7, Inv X pins (τ6.set j none) G6 s7 → Q s7) → wpAny (model X.prog X.w) X.A (do bindName X.env n .none; unbindBehindTheSuite X.env n p2) (fun _ s7 => Q s7) X.xe s6 := fun {τ6 G6 Q} i6 q => gone_ok (i6.unsuite okX) nd hj hk q
          cases f with
          | ret u => obtain ⟨v6, τ6, G6, i6, r6, q6⟩ := hsp; exact fin i6 fun s7 i7 => ⟨_, _, _, i7, r6, q6⟩
          | next => obtain ⟨τ6, G6, i6, q6⟩ := hsp; exact fin i6 fun s7 i7 => ⟨_, _, i7, q6⟩
          | brk => obtain ⟨τ6, G6, i6, q6⟩ := hsp; exact fin i6 fun s7 i7 => ⟨_, _, i7, q6⟩
          | cont => obtain ⟨τ6, G6, i6, q6⟩ := hsp; exact fin i6 fun s7 i7 => ⟨_, _, i7, q6⟩
    exact each all goal
  · cases fl with
    | ret u => obtain ⟨v, τ', G', i', r, q⟩ := done; exact ⟨v, τ', G', i'.ofTry okX, r, q⟩
    | next => obtain ⟨τ', G', i', q⟩ := done; exact wpAny_execs_nil ⟨τ', G', i'.ofTry okX, q⟩
    | brk => obtain ⟨τ', G', i', q⟩ := done; exact ⟨τ', G', i'.ofTry okX, q⟩
    | cont => obtain ⟨τ', G', i', q⟩ := done; exact ⟨τ', G', i'.ofTry okX, q⟩
end

/-! ### such clauses over data -/
/-- a clause's suite as it is read: plain, or by the name of its slot -/
inductive Clz where
  | bare (s : DS)
  | named (j : Nat) (s : Addr → Option Addr → DS)
def En.off (j : Nat) (E : En) : En := { nx := fun ρ => E.nx (ρ.set j .unk), rt := E.rt, bk := fun ρ => E.bk (ρ.set j .unk), ct := fun ρ => E.ct (ρ.set j .unk) }
/-- an error meets the clauses -/
def catchN (l : List Kd) (Ξ : Xi) (E : En) (x : Exn) (ρ : List Sl) : List (Kd × Clz) → Prop
  | [] => Go (Ξ x ρ)
  | (c, .bare s) :: r => match memK l x.k with
    | true => match c.takes x.k with
      | true => Go (s ρ (fun _ _ => False) E)
      | false => catchN l Ξ E x ρ r
    | false => False
  | (c, .named j s) :: r => match memK l x.k with
    | true => match c.takes x.k with
      | true => ∀ a d, Go (s a d (ρ.set j (.exc a d x.fs)) (fun _ _ => False) (E.off j))
      | false => catchN l Ξ E x ρ r
    | false => False
def sTryN (l : List Kd) (body : DS) (cs : List (Kd × Clz)) : DS := fun ρ Ξ E => body ρ (fun x ρ' => catchN l Ξ E x ρ' cs) E
def suiteN (X : Cx) (ss : List Stmt) : Addr → Value → Option Addr → TS := fun a cls d D σ H => ∀ oe pn, Zc cls d oe → (∃ vs, oe.data = .fields vs) → wSs (X.suite a ((a, oe) :: pn)) ss D σ H
theorem suiteN_ok {X : Cx} {ss : List Stmt} : SuiteOk X ss (suiteN X ss) := fun _ ob _ _ qs z f => ⟨fun pins s _ _ _ I h => h ob qs z f pins s I⟩
/-- the clauses -/
inductive ClsN (X : Cx) (l : List Kd) : List ExceptHandler → List Clx → List (Kd × Clz) → Prop
  | nil : ClsN X l [] [] []
  | bare {x : Str} {k : Kd} {b₀ : Stmt} {su : List Stmt} {p1 p2 : Pos} {hds : List ExceptHandler} {vs : List Clx} {cs : List (Kd × Clz)} {s : DS} (m : memK l k = true) (nm : Names X x (.ref (kA X.K k))) (h : ∀ a oe pn, RS (X.suite a ((a, oe) :: pn)) W0 (b₀ :: su) s) (r : ClsN X l hds vs cs) :
    ClsN X l (.ExceptHandler (some (.Name x p1)) none (b₀ :: su) p2 :: hds) ((.ref (kA X.K k), none, suiteN X (b₀ :: su)) :: vs) ((k, .bare s) :: cs)
  | named {x n : Str} {j : Nat} {k : Kd} {b₀ : Stmt} {su : List Stmt} {p1 p2 : Pos} {hds : List ExceptHandler} {vs : List Clx} {cs : List (Kd × Clz)} {s : Addr → Option Addr → DS} (m : memK l k = true) (nm : Names X x (.ref (kA X.K k))) (hj : X.N[j]? = some n) (hl : X.env.kindOf n = some .local) (hk : ∀ y, k.takes y = true → y = k)
      (h : ∀ a d oe pn, Zc (.ref (kA X.K k)) d oe → (∃ vs, oe.data = .fields vs) → RS (X.suite a ((a, oe) :: pn)) W0 (b₀ :: su) (s a d)) (r : ClsN X l hds vs cs) :
    ClsN X l (.ExceptHandler (some (.Name x p1)) (some n) (b₀ :: su) p2 :: hds) ((.ref (kA X.K k), some j, suiteN X (b₀ :: su)) :: vs) ((k, .named j s) :: cs)
section
variable {X : Cx} {W : WX} {pos : Pos} {ts : DS}
theorem ClsN.hds {l : List Kd} {hds : List ExceptHandler} {vs : List Clx} {cs : List (Kd × Clz)} (c : ClsN X l hds vs cs) : HdsN X hds vs := by
  induction c with
  | nil => exact .nil
  | bare m nm h r ih => exact .bare nm suiteN_ok ih
  | named m nm hj hl hk h r ih => exact .as_ hj hl nm suiteN_ok ih
theorem ClsN.mkB {l : List Kd} (Y : Ecs X.K X.mg l) (k : Kd) {x : Str} {b₀ : Stmt} {su : List Stmt} {p1 p2 : Pos} {hds : List ExceptHandler} {vs : List Clx} {cs : List (Kd × Clz)} {s : DS} (h : ∀ a oe pn, RS (X.suite a ((a, oe) :: pn)) W0 (b₀ :: su) s) (r : ClsN X l hds vs cs) (m : memK l k = true := by rfl) (e : x = k.nm := by rfl) (hg : X.env.kindOf x = some .globalImplicit := by kernel_rfl) (hb : (x == ("__debug__" : Str)) = false := by decide) :
    ClsN X l (.ExceptHandler (some (.Name x p1)) none (b₀ :: su) p2 :: hds) ((.ref (kA X.K k), none, suiteN X (b₀ :: su)) :: vs) ((k, .bare s) :: cs) :=
  .bare m ⟨hg, hb, .inl (by subst e; exact Y.g k (memK_inv m))⟩ h r
theorem ClsN.mkN {l : List Kd} (Y : Ecs X.K X.mg l) (k : Kd) (j : Nat) {x n : Str} {b₀ : Stmt} {su : List Stmt} {p1 p2 : Pos} {hds : List ExceptHandler} {vs : List Clx} {cs : List (Kd × Clz)} {s : Addr → Option Addr → DS} (h : ∀ a d oe pn, Zc (.ref (kA X.K k)) d oe → (∃ vs, oe.data = .fields vs) → RS (X.suite a ((a, oe) :: pn)) W0 (b₀ :: su) (s a d)) (r : ClsN X l hds vs cs) (hk : ∀ y, k.takes y = true → y = k := by intro y h; cases y <;> first | rfl | exact absurd h (by decide)) (m : memK l k = true := by rfl) (e : x = k.nm := by rfl)
    (hj : X.N[j]? = some n := by kernel_rfl) (hl : X.env.kindOf n = some .local := by kernel_rfl) (hg : X.env.kindOf x = some .globalImplicit := by kernel_rfl) (hb : (x == ("__debug__" : Str)) = false := by decide) :
    ClsN X l (.ExceptHandler (some (.Name x p1)) (some n) (b₀ :: su) p2 :: hds) ((.ref (kA X.K k), some j, suiteN X (b₀ :: su)) :: vs) ((k, .named j s) :: cs) :=
  .named m ⟨hg, hb, .inl (by subst e; exact Y.g k (memK_inv m))⟩ hj hl hk h r
theorem catchN_run {l : List Kd} {B : Base} {E : En} {D : Ends} {Ξ : Xi} (Y : Ecs X.K X.mg l) (d : DOk X.K B E D) (dx : DEx X.K B W Ξ) {dd : Option Addr} {x : Exn} {F2 H2 : Hp} {σ2 : L2.St} {ρ : List Sl} (env2 : EnvOk X.K B F2 H2 σ2 ρ) (r : ExRp X.K F2 H2 (.ref (kA X.K x.k)) dd x) {hds : List ExceptHandler} {vs : List Clx} {cs : List (Kd × Clz)} (c : ClsN X l hds vs cs) (h : catchN l Ξ E x ρ cs) :
    wNamed X.K W D vs (.ref (kA X.K x.k)) dd σ2 H2 := by
  induction c with
  | nil => exact dx _ dd x ρ F2 H2 σ2 h env2 r
  | @bare xn k b₀ su p1 p2 hds vs cs s m nm hs rr ih =>
    unfold catchN at h
    split at h
    · rename_i mx
      refine ⟨k.takes x.k, Y.m _ (memK_inv mx) _ (memK_inv m), fun e a ha oe pn' _ _ => ?_, fun e => ?_⟩
      · rw [e] at h
        exact hs a oe pn' _ _ _ h B F2 H2 σ2 env2 D ⟨d.nx, d.rt, d.bk, d.ct⟩ (fun _ _ _ _ _ _ _ z => z.elim)
      · rw [e] at h
        exact ih h
    · exact h.elim
  | @named xn n j k b₀ su p1 p2 hds vs cs s m nm hj hl hk hs rr ih =>
    unfold catchN at h
    split at h
    · rename_i mx
      refine ⟨k.takes x.k, Y.m _ (memK_inv mx) _ (memK_inv m), fun e a ha oe pn' z f => ?_, fun e => ?_⟩
      · rw [e] at h
        have ek := hk _ e
        have env3 := env2.put (i := j) (v := .ref a) (t := .exc a dd x.fs) ⟨rfl, r.2⟩ (fun z => nomatch z)
        refine hs a dd oe pn' (by rw [← ek]; exact z) f _ _ _ (h a dd) B F2 H2 _ env3 (offN j D) ⟨fun ρ F H σ q en => d.nx _ F H _ q (en.forget none), d.rt, fun ρ F H σ q en => d.bk _ F H _ q (en.forget none), fun ρ F H σ q en => d.ct _ F H _ q (en.forget none)⟩ (fun _ _ _ _ _ _ _ z => z.elim)
      · rw [e] at h
        exact ih h
    · exact h.elim
theorem r1_tryN {l : List Kd} {body : List Stmt} {h₀ : ExceptHandler} {hds : List ExceptHandler} {vs : List Clx} {cs : List (Kd × Clz)} (C : Cxt X W) (Y : Ecs X.K X.mg l) (c : ClsN X l (h₀ :: hds) vs cs)
    (h : ∀ W' pn xe, Cxt (X.tr pn xe) W' → RS (X.tr pn xe) W' body ts) (hs : X.stack = X.env :: X.outer := by rfl) (hf : X.env.frame = some X.env.locals := by rfl) : R1 X W (.Try body (h₀ :: hds) [] [] pos) (sTryN l ts cs) := fun ρ Ξ E k B F H σ env D d dx => by
  refine wS1_of (ps_try_named (tb := fun W' D σ H => ∀ pn xe, Takes (X.tr pn xe) W' → PassesOwn (model X.prog X.w) X.A X.env xe → wSs (X.tr pn xe) body D σ H) hs hf C.nd C.tk (fun W' pn xe tk po => ⟨fun pins s σ H D I h => h pn xe tk po pins s I⟩) c.hds) ?_
  intro pn xe tk po
  exact h _ pn xe ⟨tk, po, C.calm, C.nd, C.hu⟩ _ _ _ k B F H σ env D ⟨d.nx, d.rt, d.bk, d.ct⟩ fun cls dd x ρ' F2 H2 σ2 hx env2 r => by
    have e : cls = .ref (kA X.K x.k) := r.1
    subst e
    exact catchN_run Y d dx env2 r c hx

/-! ### a caught error's field -/
theorem tF {a b : Addr} {d e : Option Addr} (h : a = b ∧ d = e) : a = b ∧ d = e := h
def eXf (a : Addr) (d : Option Addr) (j : Nat) (f : Str) : DE := fun ρ _ Φ => match nth ρ j with
  | some (.exc a' d' fs) => (a' = a ∧ d' = d) ∧ Go (someK (fs.lookup f) Φ)
  | _ => False
theorem re_xf {a C : Addr} {d : Option Addr} {oe : Obj} {pn : List (Addr × Obj)} (j : Nat) {n f : Str} {p1 p2 : Pos} (T : XfC X.K C) (hno : PySem.W.findIn X.K (.ref C) f = some none) (hz : Zc (.ref C) d oe) (hf : ∃ vs, oe.data = .fields vs) (hx : nmOk (X.suite a ((a, oe) :: pn)).env.scope n = true := by kernel_rfl) (hN : (X.suite a ((a, oe) :: pn)).N[j]? = some n := by kernel_rfl)
    (hb : attributeBase (.Name n p1) f (X.suite a ((a, oe) :: pn)).env (eval (.Name n p1) (X.suite a ((a, oe) :: pn)).env) = eval (.Name n p1) (X.suite a ((a, oe) :: pn)).env := by rfl) : RE (X.suite a ((a, oe) :: pn)) W (.Attribute (.Name n p1) f p2) (eXf a d j f) := fun ρ Ξ Φ h B F H σ env Q q qx => by
  unfold eXf at h
  split at h
  · rename_i a' d' fs hn
    obtain ⟨⟨e1, e2⟩, h⟩ := h
    subst e1
    subst e2
    obtain ⟨y, hy, hΦ⟩ := someK_inv (go_out h)
    obtain ⟨h1, h2, h3⟩ := nmOk_inv hx
    obtain ⟨ea, z⟩ := env.sl j _ (by rw [← nth_eq]; exact hn)
    rcases z with z | ⟨dx, vs, e3, e4, r⟩
    · rw [z] at hy; cases hy
    · obtain ⟨v, hv, rv⟩ := r.look hy
      exact wE_of (pe_xf (X := X) T hno hz hf (pv j hN h1 h2 h3) hb) ⟨_, ea, rfl, rfl, dx, vs, v, e3, env.sub _ _ e4, hv, q v y F H hΦ (Step.refl env.sub) rv⟩
  · exact h.elim

/-! ### an own class with its __init__ that stores a field; raised -/
/-- self.f = f -/
def spI (K : PySem.W.Frag) (f : Str) : Sp := fun vs H Q _ => ∃ (a : Addr) (y : V) (C : Addr), vs = [.ref a, y] ∧ H a = some (exo a C none) ∧ OexC K C ∧ PySem.W.findIn K (.ref C) f = some none ∧ ∀ dx, H dx = none → dx ≠ a → Q .non (upd (upd H dx (exd dx [(f, y)])) a (exo a C (some dx)))
structure ExcF (P : Program) (w : World) (K : PySem.W.Frag) (mg : Str → Option Value) (base : Heap) (k : Kd) (f : Str) : Prop where
  ex : ∃ fI fd, FnOk P w K mg base (L2.CX P w) 1 fI fd ["self", f] (spI K f) ∧ Binds K fd ["self", f] [] ∧ PySem.W.findIn K (.ref (kA K k)) "__init__" = some (some (.ref fI)) ∧ PySem.W.typeIn K (.ref fI) = some (.type "function")
  g : mg k.nm = some (.ref (kA K k))
  oex : OexC K (kA K k)
  no : PySem.W.findIn K (.ref (kA K k)) f = some none
  xf : XfC K (kA K k)
def sRaiseF (k : Kd) (f : Str) (t : DE) : DS := fun ρ Ξ _ => t ρ (xat Ξ ρ) fun d => Ξ ⟨k, [(f, d)]⟩ ρ
theorem r1_raiseF (k : Kd) {x f : Str} {e : Expr} {te : DE} {p cp : Pos} (C : Cxt X W) (T : ExcF X.prog X.w X.K X.mg X.base k f) (hr : Room 2 X.A) (he : RE X W e te) (ex : x = k.nm := by rfl) (hg : X.env.kindOf x = some .globalImplicit := by kernel_rfl) (hb : bltOk x = true := by kernel_rfl) (hs : isStar e = false := by rfl) : R1 X W (.Raise (some (.Call (.Name x p) [e] [] cp)) none pos) (sRaiseF k f te) := fun ρ Ξ E h B F H σ env D d dx => by
  subst ex
  obtain ⟨fI, fd, F1, hbi, iC, tI⟩ := T.ex
  refine wS1_of (ps_raise C.calm C.tk (pmk_oex T.oex iC tI F1 hr hbi (dvs := []) .nil (passes_call C.tk (E := fun _ _ _ => False) fun _ _ _ _ z => z.elim) hg T.g (pa_cons pe_w pa_nil (star_cons hs)) (bltOk_inv hb).2 (star_cons hs) rfl)) ?_
  refine he _ _ _ h B F H σ env _ (fun v y F1 H1 hy st r => ?_) (dx.at env)
  refine ⟨by simp, fun a ha => ⟨a, v, _, rfl, upd_same, T.oex, T.no, fun z n ne => ⟨rfl, z, [(f, v)], upd_same, ?_, ?_, ?_⟩⟩⟩
  · rw [upd_ne ne, upd_same]
  · rw [upd_ne ne] at n; exact n
  · have hz : H1 z = none := by rw [upd_ne ne] at n; exact n
    have e2 : upd (del (upd (upd (upd H1 a (exo a (kA X.K k) none)) z (exd z [(f, v)])) a (exo a (kA X.K k) (some z))) a) z (.xd [(f, v)]) = upd H1 z (.xd [(f, v)]) := by
      funext b
      by_cases h1 : b = z
      · rw [h1, upd_same, upd_same]
      · rw [upd_ne h1, upd_ne h1]
        by_cases h2 : b = a
        · rw [h2, del_same, ha]
        · rw [del_ne h2, upd_ne h2, upd_ne h1, upd_ne h2]
    rw [e2]
    have st2 := st.trans (Step.frz st.sub (o := .xd [(f, v)]) hz)
    exact dx _ _ ⟨k, [(f, y)]⟩ ρ _ _ σ hy (env.step st2) ⟨rfl, .inr ⟨z, [(f, v)], rfl, upd_same, .cons (r.mono (same_new (none_sub st.sub hz))) .nil⟩⟩
end
section
variable {P : Program} {w : World} {K : PySem.W.Frag} {mg : Str → Option Value} {base : Heap}
theorem init_ok {f qual : Str} {st : Stmt} {fI : Addr} {fd : FuncData} {p1 p2 p3 p4 : Pos} (F : Fun K "__init__" qual st fI fd) (S : FnScope ["self", f] ["self", f] (defScope st)) (hb : defBody st = [.Assign [.Attribute (.Name "self" p1) f p2] (.Name f p3) p4])
    (h1 : (f == ("__debug__" : Str)) = false) (h2 : (f == ("__classdict__" : Str)) = false) : FnOk P w K mg base (L2.CX P w) 1 fI fd ["self", f] (spI K f) := by
  refine F.okX S (fun vs H Q E h => ?_) fun cdv A outer s H vs Q E hr h => ?_
  · obtain ⟨a, y, C, rfl, _⟩ := h
    rfl
  · obtain ⟨a, y, C, rfl, ha, T, hno, q⟩ := h
    rw [hb]
    have v1 : Vis (defScope st) "self" := by rcases S.par "self" (by simp) with h | h; exact .inl h; exact .inr (.inl h)
    have v2 : Vis (defScope st) f := by rcases S.par f (by simp) with h | h; exact .inl h; exact .inr (.inl h)
    refine ⟨_, pss_one (ps_ost (pv 0 rfl v1) (pv 1 rfl v2 h1 h2)), ?_⟩
    refine ⟨y, rfl, .ref a, rfl, a, C, rfl, T, hno, .inl ⟨ha, fun dx n ne => q dx n ne⟩⟩
/-- the facts of such a class as the head tells them -/
def oexB (K : PySem.W.Frag) (C : Addr) : Bool := (match K.lookup C with
  | some ⟨.type "type", _, .cls cd, sl⟩ => (match cd.mro, sl.toList with
    | .ref C' :: bm, [_, _, _, _, some (.builtin n), _] => C' == C && n == "ValueError.__new__" && !cd.hasDel && cd.hasDict && PySem.HandSPX.refsVE bm
    | _, _ => false)
  | _ => false) && (decide (PySem.W.findIn K (.ref C) "__setattr__" = some (some (.builtin "object.__setattr__"))) && (decide (PySem.W.subIn K (.ref C) (.type "BaseException") = some true) && (decide (PySem.W.typeIn K (.ref C) = some (.type "type")) && PySem.W.keepIn K (.ref C))))
theorem oexB_ok {C : Addr} (h : oexB K C = true) : OexC K C := by
  unfold oexB at h
  simp only [Bool.and_eq_true, decide_eq_true_eq] at h
  obtain ⟨q, h1, h2, h3, h4⟩ := h
  refine ⟨?_, h1, h2, h3, h4⟩
  split at q
  · rename_i dd cd sl ho
    split at q
    · rename_i C' bm k0 k1 k2 k3 n k5 hm hs
      simp only [Bool.and_eq_true, beq_iff_eq, Bool.not_eq_true'] at q
      obtain ⟨⟨⟨⟨e1, e2⟩, e3⟩, e4⟩, e5⟩ := q
      obtain ⟨nm, bs, mro, ns, qn, hd, sn, sub, ab, col, del⟩ := cd
      have hsl : sl = #[k0, k1, k2, k3, some (.builtin n), k5] := by
        obtain ⟨l⟩ := sl
        simp only at hs
        rw [hs]
      dsimp only at hm e3 e4
      subst e1
      subst e2
      subst hsl
      subst hm
      subst e3
      subst e4
      exact ⟨_, _, _, _, _, _, _, _, _, _, _, _, _, _, _, ho, e5⟩
    · cases q
  · cases q
theorem fun_of_headQ {x qual : Str} {st : Stmt} {f : Addr} {fd : FuncData} (F : FunD K x qual (defArgs st) (defBody st) (defScope st) [] [] f fd) : Fun K x qual st f fd := by
  obtain ⟨oc, od, dV, kV, doc, pm, an, cdv, ct, osl, e, lk, hcd, hD, hK⟩ := F.ex
  rcases hD with ⟨_, rfl⟩ | ⟨z, _⟩
  · exact ⟨⟨oc, od, kV, doc, pm, an, cdv, ct, osl, e, lk, hcd⟩, F.kp⟩
  · exact absurd rfl z
/-- what the head is asked of such a class -/
def excFB (K : PySem.W.Frag) (k : Kd) (f : Str) : Bool := oexB K (kA K k) && (xfB K (kA K k) && decide (PySem.W.findIn K (.ref (kA K k)) f = some none))
theorem excF_of {h : Heap} (X : K.In h) (G : h.Ns mainGlobals mg) {k : Kd} {f qual : Str} {st : Stmt} {p1 p2 p3 p4 : Pos} (g : (He.Fa.glo k.nm).ok K = true) (m : (He.Fa.meth k.nm "__init__").ok K = true) (b : excFB K k f = true) {fd : FuncData} (D : FunD K "__init__" qual (defArgs st) (defBody st) (defScope st) [] [] (He.fAd K (k.nm, some "__init__")) fd)
    (S : FnScope ["self", f] ["self", f] (defScope st)) (hb : defBody st = [.Assign [.Attribute (.Name "self" p1) f p2] (.Name f p3) p4]) (h1 : (f == ("__debug__" : Str)) = false) (h2 : (f == ("__classdict__" : Str)) = false)
    (bi : ∀ (kV doc pm : Value) (an : Option Addr) (cdv ct : Value) (us : List Value), us.length = (["self", f] : List Str).length → bindArgs (PySem.W.fnOf "__init__" qual (defArgs st) (defBody st) (defScope st) .none kV doc pm an cdv ct) ⟨us, []⟩ = pure ((["self", f] : List Str).zip us)) : ExcF P w K mg base k f := by
  unfold excFB at b
  simp only [Bool.and_eq_true, decide_eq_true_eq] at b
  have M := He.meth_ok m
  refine ⟨⟨_, fd, init_ok (fun_of_headQ D) S hb h1 h2, fun s us _ hl => ?_, M.at_, ?_⟩, He.glo_ok X G g, oexB_ok b.1, b.2.2, xfB_ok b.2.1⟩
  · rw [List.append_nil] at hl ⊢
    exact FunD.bindsA D bi s us hl
  · have := M.fn
    unfold PySem.W.isFn at this
    exact eq_of_beq this
end
end Mv

set_option maxRecDepth 100000
set_option maxHeartbeats 4000000
/-! sorted of lists of tuples -/
namespace Mv
open PySem L2 PySem.Spec PyProof.Rows
abbrev KeyT := List (Int ⊕ List Nat)
/-- the key of a tuple's items: at the place i stands a text (shape i) or a number -/
def keyVs (shape : Nat → Bool) : Nat → List V → Option KeyT
  | _, [] => some []
  | i, .int n :: r => if shape i = true then none else (keyVs shape (i + 1) r).map (Sum.inl n :: ·)
  | i, .str z :: r => if shape i = true then (keyVs shape (i + 1) r).map (Sum.inr z.cps.toList :: ·) else none
  | _, _ :: _ => none
def keyDs (shape : Nat → Bool) : Nat → List PyData → Option KeyT
  | _, [] => some []
  | i, .int n :: r => if shape i = true then none else (keyDs shape (i + 1) r).map (Sum.inl n :: ·)
  | i, .str z :: r => if shape i = true then (keyDs shape (i + 1) r).map (Sum.inr z.cps.toList :: ·) else none
  | _, _ :: _ => none
def keyT (shape : Nat → Bool) : PyData → KeyT
  | .tuple ds => (keyDs shape 0 ds).getD []
  | _ => []
def isKeyT (shape : Nat → Bool) : PyData → Bool
  | .tuple (d :: ds) => (keyDs shape 0 (d :: ds)).isSome
  | _ => false
/-- not above -/
def leT (shape : Nat → Bool) (a b : PyData) : Prop := lexLt itemOrd (keyT shape b) (keyT shape a) = false
theorem keyVs_tup {shape : Nat → Bool} : ∀ {vs : List V} {us : List Value} {i : Nat} {k : KeyT}, Vals vs us → keyVs shape i vs = some k → tupItems shape i us = some k
  | _, _, _, _, .nil, h => h
  | v :: vs, u :: us, i, k, .cons r t, h => by
    cases v with
    | int n =>
      obtain ⟨tk, rfl⟩ := r
      unfold keyVs at h
      unfold tupItems
      split at h
      · cases h
      · rename_i hs
        rw [if_neg hs]
        cases e : keyVs shape (i + 1) vs with
        | none => rw [e] at h; cases h
        | some k2 => rw [e] at h; rw [keyVs_tup t e]; exact h
    | str z =>
      obtain ⟨tk, rfl⟩ := r
      unfold keyVs at h
      unfold tupItems
      split at h
      · rename_i hs
        rw [if_pos hs]
        cases e : keyVs shape (i + 1) vs with
        | none => rw [e] at h; cases h
        | some k2 => rw [e] at h; rw [keyVs_tup t e]; exact h
      · cases h
    | _ => cases h
theorem keyDs_vs {K : PySem.W.Frag} {F : Hp} {shape : Nat → Bool} : ∀ {vs : List V} {ds : List PyData} {i : Nat} {k : KeyT}, RpAll K F vs ds → keyDs shape i ds = some k → keyVs shape i vs = some k
  | _, _, _, _, .nil, h => h
  | _, d :: ds, i, k, .cons r t, h => by
    cases d with
    | int n =>
      obtain rfl := r.int_inv
      unfold keyDs at h
      unfold keyVs
      split at h
      · cases h
      · rename_i hs
        rw [if_neg hs]
        cases e : keyDs shape (i + 1) ds with
        | none => rw [e] at h; cases h
        | some k2 => rw [e] at h; rw [keyDs_vs t e]; exact h
    | str z =>
      obtain rfl := r.str_inv
      unfold keyDs at h
      unfold keyVs
      split at h
      · rename_i hs
        rw [if_pos hs]
        cases e : keyDs shape (i + 1) ds with
        | none => rw [e] at h; cases h
        | some k2 => rw [e] at h; rw [keyDs_vs t e]; exact h
      · cases h
    | _ => cases h
theorem lift_perm {α β : Type} {f : α → β} : ∀ {out l0 : List β}, out.Perm l0 → ∀ {l : List α}, l0 = l.map f → ∃ l' : List α, l'.Perm l ∧ l'.map f = out := by
  intro out l0 h
  induction h with
  | nil =>
    intro l e
    cases l with
    | nil => exact ⟨[], .nil, rfl⟩
    | cons a l => cases e
  | cons x p ih =>
    intro l e
    cases l with
    | nil => cases e
    | cons a l =>
      cases e
      obtain ⟨l', p', e'⟩ := ih rfl
      exact ⟨a :: l', p'.cons a, by rw [List.map_cons, e']⟩
  | swap x y r =>
    intro l e
    match l, e with
    | a :: b :: l, e =>
      cases e
      exact ⟨b :: a :: l, .swap a b l, rfl⟩
  | trans p q ihp ihq =>
    intro l e
    obtain ⟨l1, p1, e1⟩ := ihq e
    obtain ⟨l2, p2, e2⟩ := ihp e1.symm
    exact ⟨l2, p2.trans p1, e2⟩
section
variable {X : Cx} {W : WX}
def rSortedT (K : PySem.W.Frag) : List V → Hp → VK → Prop := fun vs H Q => ∃ (a : Addr) (L : List (V × PyData)) (shape : Nat → Bool), vs = [V.ref a] ∧ SqL K H a (L.map (·.1)) ∧ (∀ x ∈ L, ∃ t ys k, x.1 = V.ref t ∧ SqT K H t ys ∧ ys ≠ [] ∧ keyVs shape 0 ys = some k ∧ keyT shape x.2 = k) ∧
  ∀ (L' : List (V × PyData)) (p : Addr), L'.Perm L → L'.Pairwise (fun u v => leT shape u.2 v.2) → H p = none → Q (.ref p) (upd H p (.lst (L'.map (·.1))))
theorem cr_sortedT : CallR X (.builtin "sorted") (rSortedT X.K) := by
  intro pins s σ H vs us Q I r h
  obtain ⟨a, L, shape, rfl, hs, hx, q⟩ := h
  obtain ⟨its, rv, hl, hz⟩ := I.list hs
  rw [Vals.ref1 r]
  have refs : ∀ x ∈ L.map (·.1), ∃ t, x = V.ref t := fun x m => by
    obtain ⟨y, hy, rfl⟩ := List.mem_map.mp m
    obtain ⟨t, _, _, e, _⟩ := hx y hy
    exact ⟨t, e⟩
  obtain ⟨e1, e2⟩ := refs_back rv refs
  have hlen : its.length = L.length := by rw [← rv.length, List.length_map]
  -- each value with its key
  have key : ∀ z ∈ its.zip L, backV z.1 = z.2.1 ∧ (∃ a, z.1 = Value.ref a) ∧ G.tupKeyC s.heap shape z.1 = some (keyT shape z.2.2) ∧ ∃ f, TupOf s.heap shape z.1 f := fun z hz2 => by
    obtain ⟨i, hi, e⟩ := List.mem_iff_getElem.mp hz2
    rw [List.getElem_zip] at e
    have hi1 : i < its.length := by rw [List.length_zip] at hi; omega
    have hi2 : i < L.length := by rw [List.length_zip] at hi; omega
    obtain ⟨t, ys, k, ex, hq, hne, hk1, hk2⟩ := hx L[i] (List.getElem_mem hi2)
    obtain ⟨u, hu, ru⟩ := Vals.get (i := i) (x := (L[i]).1) rv (by rw [List.getElem?_map, List.getElem?_eq_getElem hi2]; rfl)
    rw [List.getElem?_eq_getElem hi1] at hu
    have hu := Option.some.inj hu
    subst e
    rw [ex] at ru
    obtain rfl : u = Value.ref t := ru
    obtain ⟨its2, rv2, p, hz3⟩ := I.tuple hq
    obtain ⟨o, ho, hc, n, hd⟩ := (show IsTup s.heap t its2.toArray from p)
    have hti := keyVs_tup rv2 hk1
    have hti2 : tupItems shape 0 its2.toArray.toList = some k := hti
    show backV its[i] = (L[i]).1 ∧ _
    rw [hu]
    refine ⟨ex.symm, ⟨t, rfl⟩, ?_, ?_⟩
    · have e5 : tupKey s.heap shape (Value.ref t) = some k := by
        simp only [tupKey, ho, hd]
        exact hti
      show G.tupKeyC s.heap shape (Value.ref t) = some (keyT shape (L[i]).2)
      unfold G.tupKeyC
      rw [if_pos (by simp [G.isTupObj, ho, hc]), e5, hk2]
    · cases rv2 with
      | nil => exact absurd rfl hne
      | @cons v0 u0 vs2 us2 r0 rr =>
        refine ⟨u0, t, o, _, n, rfl, ho, hc, hd, rfl, fun e0 => ?_, fun e0 => ?_⟩
        · cases v0 with
          | int m => exact ⟨m, r0⟩
          | str x => unfold keyVs at hk1; rw [e0] at hk1; cases hk1
          | _ => cases hk1
        · cases v0 with
          | str m => exact ⟨m, r0⟩
          | int x => unfold keyVs at hk1; rw [e0] at hk1; cases hk1
          | _ => cases hk1
  have zf : (its.zip L).map (·.1) = its := List.map_fst_zip (Nat.le_of_eq hlen)
  have zs : (its.zip L).map (·.2) = L := List.map_snd_zip (Nat.le_of_eq hlen.symm)
  have inZ : ∀ u ∈ its, ∃ z ∈ its.zip L, z.1 = u := fun u hu => by
    rw [← zf] at hu
    obtain ⟨z, h1, h2⟩ := List.mem_map.mp hu
    exact ⟨z, h1, h2⟩
  have tups : ∀ l : List Value, (∀ u ∈ l, ∃ f, TupOf s.heap shape u f) → ∃ fs, TupsOf s.heap shape l fs := fun l => by
    induction l with
    | nil => exact fun _ => ⟨[], .nil⟩
    | cons u l ih =>
      intro h
      obtain ⟨f, hf⟩ := h u List.mem_cons_self
      obtain ⟨fs, hfs⟩ := ih fun v hv => h v (List.mem_cons_of_mem _ hv)
      exact ⟨f :: fs, .cons hf hfs⟩
  obtain ⟨fs, hfs⟩ := tups its fun u hu => by
    obtain ⟨z, hz2, rfl⟩ := inZ u hu
    exact (key z hz2).2.2.2
  refine G.sorted_tups hl.isList hfs (fun v hv => ?_) (by rw [← rv.length]; exact hz) fun st' hp hsrt _ => ?_
  · obtain ⟨z, hz2, rfl⟩ := inZ v hv
    exact ⟨_, (key z hz2).2.2.1⟩
  have hpl : (arrOf st').toList.Perm (its.zip its) := by
    have := Array.perm_iff_toList_perm.mp hp
    rwa [pairsOf_toList] at this
  have same : ∀ p ∈ (arrOf st').toList, p.1 = p.2 := fun p hp2 => by
    obtain ⟨i, hi, e⟩ := List.mem_iff_getElem.mp (hpl.mem_iff.mp hp2)
    rw [List.getElem_zip] at e
    rw [← e]
  have hout : (((arrOf st').map (·.2)).toList).Perm its := by
    rw [Array.toList_map]
    have := hpl.map (·.2)
    rwa [List.map_snd_zip (Nat.le_refl _)] at this
  obtain ⟨Z', pz, ez⟩ := lift_perm hout (l := its.zip L) (f := (·.1)) zf.symm
  have hkZ : ∀ z ∈ Z', backV z.1 = z.2.1 ∧ (∃ a, z.1 = Value.ref a) ∧ G.tupKeyC s.heap shape z.1 = some (keyT shape z.2.2) := fun z hz2 => by
    obtain ⟨h1, h2, h3, _⟩ := key z (pz.mem_iff.mp hz2)
    exact ⟨h1, h2, h3⟩
  have pL : (Z'.map (·.2)).Perm L := by rw [← zs]; exact pz.map _
  have eL : (Z'.map (·.2)).map (·.1) = ((arrOf st').map (·.2)).toList.map backV := by
    rw [← ez, List.map_map, List.map_map]
    exact List.map_congr_left fun z hz2 => (hkZ z hz2).1.symm
  have hlZ : Z'.length = (arrOf st').size := by
    have := congrArg List.length ez
    rw [List.length_map, Array.toList_map, List.length_map, Array.length_toList] at this
    exact this
  have srt : (Z'.map (·.2)).Pairwise (fun u v => leT shape u.2 v.2) := by
    rw [List.pairwise_iff_getElem]
    intro i j hi hj hij
    rw [List.length_map] at hi hj
    have at_ : ∀ k (hk : k < Z'.length), KK (G.tupKindC s.heap shape) (arrOf st') k = keyT shape (Z'[k]).2.2 := fun k hk => by
      have hk2 : k < (arrOf st').size := by omega
      have e1 : (arrOf st')[k].2 = (Z'[k]).1 := by
        have h1 : (Z'.map (·.1))[k]? = some (Z'[k]).1 := by rw [List.getElem?_map, List.getElem?_eq_getElem hk]; rfl
        rw [ez, Array.toList_map, List.getElem?_map, Array.getElem?_toList, Array.getElem?_eq_getElem hk2] at h1
        exact Option.some.inj h1
      have e2 : (arrOf st')[k].1 = (arrOf st')[k].2 := same _ (by rw [Array.mem_toList_iff]; exact Array.getElem_mem hk2)
      unfold KK
      rw [Array.getElem?_eq_getElem hk2]
      show (G.tupKeyC s.heap shape (arrOf st')[k].1).getD _ = _
      rw [e2, e1, (hkZ _ (List.getElem_mem hk)).2.2]
      rfl
    have hn : (pairsOf its).size = Z'.length := by rw [hlZ]; exact hp.size_eq.symm
    have := hsrt i j (Nat.le_of_lt hij) (by omega)
    rw [at_ i hi, at_ j hj] at this
    rw [List.getElem_map, List.getElem_map]
    exact this
  have h3 : ∀ u ∈ ((arrOf st').map (·.2)).toList, ∃ a, u = Value.ref a := fun u hu => e2 u (hout.mem_iff.mp hu)
  obtain ⟨ep, hat⟩ := sortedAll_at s.heap its ((arrOf st').map (·.2))
  refine ⟨.ref (s.heap.objs.size + 1), upd H (s.heap.objs.size + 1) (.lst (((arrOf st').map (·.2)).toList.map backV)), I.laid (t' := s.toks) (fun _ _ => sortedAll_old) (Nat.le_succ _) ⟨?_, _, ep, vals_back h3, hat⟩, rfl, ?_⟩
  · rw [List.length_map, hout.length_eq, ← rv.length]; exact hz
  · rw [← eL]
    exact q _ _ pL srt (I.hok.fresh (Nat.le_succ _))
variable {e : Expr} {ra : DA} {pos p : Pos}
/-- sorted of a list of tuples -/
def bSortedT : OB := fun ds Φ => match ds with
  | [.list ds0] => ∃ shape : Nat → Bool, (∀ d ∈ ds0, isKeyT shape d = true) ∧ ∀ ys : List PyData, ys.Perm ds0 → ys.Pairwise (leT shape) → Go (Φ (.list ys))
  | _ => False
theorem RpAll.zip {K : PySem.W.Frag} {F : Hp} : ∀ {vs : List V} {ds : List PyData}, RpAll K F vs ds → ∀ z ∈ vs.zip ds, Rp K F z.1 z.2
  | _, _, .nil, z, hz => by cases hz
  | _, _, .cons h t, z, hz => by
    rw [List.zip_cons_cons] at hz
    rcases List.mem_cons.mp hz with rfl | hz
    · exact h
    · exact RpAll.zip t z hz
theorem RpAll.of_zip {K : PySem.W.Frag} {F : Hp} : ∀ {L : List (V × PyData)}, (∀ z ∈ L, Rp K F z.1 z.2) → RpAll K F (L.map (·.1)) (L.map (·.2))
  | [], _ => .nil
  | z :: L, h => .cons (h z List.mem_cons_self) (RpAll.of_zip fun y hy => h y (List.mem_cons_of_mem _ hy))
theorem re_sortedT (hm : X.mg "sorted" = none) (h : RA X W [e] ra) (hg : X.env.kindOf "sorted" = some .globalImplicit := by kernel_rfl) (hs : isStar e = false := by rfl) : RE X W (.Call (.Name "sorted" p) [e] [] pos) (eB bSortedT ra) := re_callB cr_sortedT (fun ds Φ h => by
  unfold bSortedT at h
  split at h
  · rename_i ds0
    obtain ⟨shape, hk, h1⟩ := h
    intro M F H vs s rs Q q
    obtain ⟨v, rfl, r⟩ := rp1 rs
    obtain ⟨a, xs, rfl, ha, ra⟩ := r.lst_inv
    have f1 : (xs.zip ds0).map (·.1) = xs := List.map_fst_zip (Nat.le_of_eq ra.len)
    have f2 : (xs.zip ds0).map (·.2) = ds0 := List.map_snd_zip (Nat.le_of_eq ra.len.symm)
    refine ⟨a, xs.zip ds0, shape, rfl, by rw [f1]; exact SqL.of (s _ _ ha), fun x hx => ?_, fun L' p hp hw hf => ?_⟩
    · have hr := ra.zip x hx
      have hd : x.2 ∈ ds0 := by rw [← f2]; exact List.mem_map.mpr ⟨x, hx, rfl⟩
      have h2 := hk _ hd
      obtain ⟨xv, xd⟩ := x
      cases xd with
      | tuple es =>
        cases es with
        | nil => cases h2
        | cons e0 es =>
          obtain ⟨t, ys, ev, hq, rq⟩ := hr.tup_inv
          have h2 : (keyDs shape 0 (e0 :: es)).isSome = true := h2
          obtain ⟨k, hk2⟩ := Option.isSome_iff_exists.mp h2
          refine ⟨t, ys, k, ev, same_t s hq, fun z => ?_, keyDs_vs rq hk2, ?_⟩
          · subst z; cases rq
          · show (keyDs shape 0 (e0 :: es)).getD [] = k
            rw [hk2]
            rfl
      | _ => cases h2
    · have st : Step M F H (upd F p (.lst (L'.map (·.1)))) (upd H p (.lst (L'.map (·.1)))) := Step.frz s hf
      have rz : ∀ z ∈ L', Rp X.K F z.1 z.2 := fun z hz => ra.zip z (hp.mem_iff.mp hz)
      refine q _ _ _ _ (go_out (h1 (L'.map (·.2)) (by have := hp.map (·.2); rwa [f2] at this) (List.pairwise_map.mpr hw))) st (.lst upd_same (RpAll.mono st.fr _ _ (RpAll.of_zip rz)))
  · exact h.elim) hm bb_sorted h hg (by decide +kernel) hs rfl
end
end Mv
namespace Mv
open PySem L2
/-- a place where ways meet again: it is gone on from by name -/
@[irreducible] def cut (t : DS) : DS := t
theorem cut_of {t : DS} {ρ : List Sl} {Ξ : Xi} {E : En} (h : t ρ Ξ E) : cut t ρ Ξ E := by unfold cut; exact h
theorem rs_cut {X : Cx} {W : WX} {ss : List Stmt} {t : DS} (h : RS X W ss t) : RS X W ss (cut t) := fun ρ Ξ E k => h ρ Ξ E (by unfold cut at k; exact k)
end Mv

set_option maxRecDepth 100000
set_option maxHeartbeats 4000000
/-! the head's facts with one more Bool; tuples as constants -/
namespace Mv
open PySem L2
def saysM (fa : List He.Fa) (fn : List He.DefD) (ex : PySem.W.Frag → Bool) (K : PySem.W.Frag) : He.AlD × Bool := (He.obsD fa fn K, ex K)
def obsM (n : Nat) (fa : List He.Fa) (fn : List He.DefD) (ex : PySem.W.Frag → Bool) (g : Addr → Option Obj) : He.AlD × Bool := saysM fa fn ex (He.frG g (He.asD g n))
def hookM (n : Nat) (fa : List He.Fa) (fn : List He.DefD) (ex : PySem.W.Frag → Bool) : PySem.W.Hook where
  α := He.AlD × Bool
  obs := fun s => obsM n fa fn ex s.heap.get?
  val := fun _ => (He.valD fn, true)
  says := fun _ h => ∃ K : PySem.W.Frag, K.In h ∧ He.SaysD fa fn K ∧ ex K = true
  of := fun _ _ e => ⟨_, He.frG_in, congrArg Prod.fst e, congrArg Prod.snd e⟩
  keeps := fun _ _ _ ⟨K, hK, c⟩ k => ⟨K, PySem.W.Frag.In.keeps hK k, c⟩
theorem obsM_eq {n : Nat} {fa : List He.Fa} {fn : List He.DefD} {ex : PySem.W.Frag → Bool} {g : Addr → Option Obj} {s : Shared} (h : ∀ a, g a = s.heap.get? a) : obsM n fa fn ex g = (hookM n fa fn ex).obs s := by
  have e : g = s.heap.get? := funext h
  rw [e] <;> rfl
theorem cst_tup {K : PySem.W.Frag} {mg : Str → Option Value} {x : Str} {vs : List He.Dv} {ds : List PyData} (h : He.tupB K x vs = true) (g : mg x = some (.ref (He.ga K x))) (r : ∀ F, RpAll K F (vs.map (He.Dv.v K)) ds) : Cst K mg x (.tuple ds) :=
  ⟨.ref (He.ga K x), _, g, rfl, fun F => .tup (He.tupB_ok h F) (r F)⟩
theorem ba2 {a b : Bool} (h : (a && b) = true) : a = true ∧ b = true := by simpa using h
end Mv

set_option maxRecDepth 100000
set_option maxHeartbeats 4000000
/-! texts: join, split, signs; a table of the module with text keys -/
namespace Mv
open PySem L2 PySem.Spec PyProof.Rows
def strsD : List PyData → Option (List Str)
  | [] => some []
  | .str x :: ds => match strsD ds with
    | some xs => some (x :: xs)
    | none => none
  | _ :: _ => none
theorem strsD_inv : ∀ {ds : List PyData} {xs : List Str}, strsD ds = some xs → ds = xs.map PyData.str
  | [], xs, h => by cases h; rfl
  | d :: ds, xs, h => by
    cases d with
    | str x =>
      unfold strsD at h
      split at h
      · rename_i ys e
        cases h
        rw [strsD_inv e]
        rfl
      · cases h
    | _ => cases h
theorem strsD_map : ∀ xs : List Str, strsD (xs.map PyData.str) = some xs
  | [] => rfl
  | x :: xs => by rw [List.map_cons]; unfold strsD; rw [strsD_map xs]
section
variable {X : Cx} {W : WX} {a b e : Expr} {es : List Expr} {ta tb te : DE} {ra : DA} {pos p ap cp : Pos} {tg : Expr}
def asS (d : PyData) (Φ : Str → Prop) : Prop := match d with
  | .str z => Φ z
  | _ => False
theorem asS_inv {d : PyData} {Θ : Str → Prop} (h : asS d Θ) : ∃ b, d = .str b ∧ Θ b := by
  unfold asS at h
  split at h
  · exact ⟨_, rfl, h⟩
  · exact h.elim
/-- a.join(b) -/
def joinD (z : Str) (y : PyData) (Φ : PyData → Prop) : Prop := match y with
  | .list ds => someK (strsD ds) fun ys => (ys.map (·.length)).sum + ys.length * z.length ≤ 8000000 ∧ Go (Φ (.str (Txt.join z ys)))
  | _ => False
def eMjoin (s t : DE) : DE := fun ρ Ξ Φ => s ρ Ξ fun x => asS x fun z => t ρ Ξ fun y => joinD z y Φ
theorem re_join (ha : RE X W a ta) (hb : RE X W b tb) (hs : isStar b = false := by rfl) (hbase : attributeBase a "join" X.env (eval a X.env) = eval a X.env := by rfl) (hline : (ap.endLine == cp.line) = true := by rfl) : RE X W (.Call (.Attribute a "join" ap) [b] [] cp) (eMjoin ta tb) := fun ρ Ξ Φ h B F H σ env Q q qx => by
  refine wE_of (pe_join pe_w pe_w (star_cons hs) hbase hline) (ha _ _ _ h B F H σ env _ (fun v x F1 H1 hx st r => ?_) qx)
  obtain ⟨z, rfl, hx⟩ := asS_inv hx
  obtain rfl := r.str_inv
  refine ⟨⟨z, rfl⟩, hb _ _ _ hx B F1 H1 σ (env.step st) _ (fun w y F2 H2 hy st2 r2 => ?_) (qx.step st)⟩
  have hy : joinD z y Φ := hy
  unfold joinD at hy
  split at hy
  · obtain ⟨ys, e1, hz, hy⟩ := someK_inv hy
    rw [strsD_inv e1] at r2
    obtain ⟨c, vs, rfl, hc, rc⟩ := r2.lst_inv
    obtain rfl := rc.strs_inv
    exact ⟨z, c, ys, rfl, rfl, .inl (SqL.of (st2.sub _ _ hc)), Nat.le_trans hz (by decide), q _ _ F2 H2 (go_out hy) (st.trans st2) (.str _)⟩
  · exact hy.elim
/-- a.split(b) -/
def eMsplit (s t : DE) : DE := fun ρ Ξ Φ => s ρ Ξ fun x => asS x fun z => t ρ Ξ fun y => asS y fun w => ((w.length == 0) = false ∧ z.length ≤ 7000000) ∧ Go (Φ (.list ((Txt.split z w).map .str)))
theorem re_split (ha : RE X W a ta) (hb : RE X W b tb) (hs : isStar b = false := by rfl) (hbase : attributeBase a "split" X.env (eval a X.env) = eval a X.env := by rfl) (hline : (ap.endLine == cp.line) = true := by rfl) : RE X W (.Call (.Attribute a "split" ap) [b] [] cp) (eMsplit ta tb) := fun ρ Ξ Φ h B F H σ env Q q qx => by
  refine wE_of (pe_split pe_w pe_w (star_cons hs) hbase hline) (ha _ _ _ h B F H σ env _ (fun v x F1 H1 hx st r => ?_) qx)
  obtain ⟨z, rfl, hx⟩ := asS_inv hx
  obtain rfl := r.str_inv
  refine ⟨⟨z, rfl⟩, hb _ _ _ hx B F1 H1 σ (env.step st) _ (fun w y F2 H2 hy st2 r2 => ?_) (qx.step st)⟩
  obtain ⟨u, rfl, ⟨h1, h2⟩, hy⟩ := asS_inv hy
  obtain rfl := r2.str_inv
  refine ⟨z, u, rfl, rfl, h1, Nat.le_trans (Nat.add_le_add_right h2 2) (by decide), fun p hp => ?_⟩
  exact q _ _ _ _ (go_out hy) ((st.trans st2).trans (Step.frz st2.sub hp)) (.lst upd_same (RpAll.strs _ _ _))
/-! ### signs -/
def signD (c : Nat) : PyData := .str ⟨#[c]⟩
def signsD (z : Str) : List PyData := z.cps.toList.map signD
theorem itOk_str {K : PySem.W.Frag} {M : Addr → Prop} {F : Hp} (x : Str) : ItOk K M F (Its x) (signsD x) where
  go := fun i F' H' s1 s2 hi => by
    unfold signsD at hi
    rw [List.length_map, Array.length_toList] at hi
    exact hi
  yld := fun i F' H' v H'' d s1 s2 hd y => by
    obtain ⟨rfl, c, hc, rfl⟩ := y
    unfold signsD at hd
    rw [List.getElem?_map, Array.getElem?_toList, hc] at hd
    cases hd
    exact ⟨F', Step.refl s2, .str _⟩
  stop := fun i F' H' s1 s2 hi => by
    unfold signsD at hi
    rw [List.length_map, Array.length_toList] at hi
    exact hi
def iSqS (t : DE) : DI := fun ρ Ξ Φ => t ρ Ξ fun d => asS d fun z => Φ (signsD z)
theorem ri_str (h : RE X W e te) : RI X W tg e (iSqS te) := fun ρ Ξ Φ k B F H σ env R q qx =>
  wI_of (pi_str pe_w) (h _ _ _ k B F H σ env _ (fun v d F1 H1 hd st r => by
    obtain ⟨z, rfl, hd⟩ := asS_inv hd
    obtain rfl := r.str_inv
    exact ⟨z, rfl, q _ _ F1 H1 hd st (itOk_str z)⟩) qx)
/-- one sign of a text -/
def oIxS : OP := fun x y Φ => match x, y with
  | .str z, .int i => z.length ≤ 8000000 ∧ Go (someK (atI z.cps.toList i) fun c => Φ (signD c))
  | _, _ => False
theorem re_ixS (ha : RE X W a ta) (hb : RE X W b tb) (hs : PlainIx b := by exact fun _ _ => rfl) : RE X W (.Subscript a b pos) (eOp oIxS ta tb) := fun ρ Ξ Φ h =>
  we_ix ix_str ((ha _ _ _ h).mono fun x h => (hb _ _ _ h).mono fun y h M F H vx vy s rx ry Q q => by
    unfold oIxS at h
    split at h
    · obtain ⟨hz, h⟩ := h
      obtain ⟨c, e, h⟩ := someK_inv (go_out h)
      obtain rfl := rx.str_inv
      obtain rfl := ry.int_inv
      exact ⟨_, _, c, rfl, rfl, Nat.le_trans hz (by decide), e, q _ _ F H h (Step.refl s) (.str _)⟩
    · exact h.elim) hs
/-- a sign in a text -/
def oneS (x : PyData) : Option Nat := match x with
  | .str z => match z.cps.toList with
    | [c] => some c
    | _ => none
  | _ => none
theorem oneS_inv {x : PyData} {c : Nat} (h : oneS x = some c) : x = signD c := by
  unfold oneS at h
  split at h
  · rename_i z
    split at h
    · rename_i c2 e
      cases h
      have : z = ⟨#[c]⟩ := Str.ext' (Array.toList_inj.mp e)
      rw [this]
      rfl
    · cases h
  · cases h
theorem oneS_sign (c : Nat) : oneS (signD c) = some c := rfl
def oInS (neg : Bool) : OP := fun x y Φ => asS y fun z => someK (oneS x) fun c => Φ (.bool (if neg then !decide (c ∈ z.cps.toList) else decide (c ∈ z.cps.toList)))
def rInS (neg : Bool) : R2 := fun x y H Q => ∃ (c : Nat) (z : Str), x = .str ⟨#[c]⟩ ∧ y = .str z ∧ Q (.bl (if neg then !decide (c ∈ z.cps.toList) else decide (c ∈ z.cps.toList))) H
theorem is_oInS {neg : Bool} : OpIs X (rInS neg) (oInS neg) := fun x y Φ h M F H vx vy s rx ry Q q => by
  obtain ⟨z, rfl, h⟩ := asS_inv h
  obtain ⟨c, e, h⟩ := someK_inv h
  obtain rfl := oneS_inv e
  obtain rfl := rx.str_inv
  obtain rfl := ry.str_inv
  exact ⟨c, z, rfl, rfl, q _ _ F H h (Step.refl s) (.bl _)⟩
theorem op_inS : OpR X (compareOp .In) (rInS false) := op_in_sign
theorem op_ninS : OpR X (compareOp .NotIn) (rInS true) := op_notIn_sign
theorem re_inS (ha : RE X W a ta) (hb : RE X W b tb) (hm : behindInMarks .In b = false := by rfl) : RE X W (.Compare a [.In] [b] pos) (eOp (oInS false) ta tb) := re_cmp op_inS hm is_oInS ha hb
theorem re_ninS (ha : RE X W a ta) (hb : RE X W b tb) (hm : behindInMarks .NotIn b = false := by rfl) : RE X W (.Compare a [.NotIn] [b] pos) (eOp (oInS true) ta tb) := re_cmp op_ninS hm is_oInS ha hb
theorem rt_inS (ha : RE X W a ta) (hb : RE X W b tb) (hm : behindInMarks .In b = false := by rfl) : RT X W (.Compare a [.In] [b] pos) (tV (eOp (oInS false) ta tb)) := rt_cmp op_inS hm is_oInS ha hb
theorem rt_ninS (ha : RE X W a ta) (hb : RE X W b tb) (hm : behindInMarks .NotIn b = false := by rfl) : RT X W (.Compare a [.NotIn] [b] pos) (tV (eOp (oInS true) ta tb)) := rt_cmp op_ninS hm is_oInS ha hb
end
/-! ### a table of the module -/
structure KdC (K : PySem.W.Frag) (w : World) (mg : Str → Option Value) (x : Str) (kvs : List (Str × Int)) : Prop where
  ex : ∃ (a : Addr) (es : Array DictEntry) (n : Nat), mg x = some (.ref a) ∧ KDict K w a es n ∧ (∀ z i, kvs.lookup z = some i → ∃ t, PySem.W.nsIn K a z = some (some (.int i t))) ∧ ∀ z, kvs.lookup z = none → PySem.W.nsIn K a z = some none
section
variable {X : Cx} {W : WX} {a b e : Expr} {ta : DE} {pos p p1 : Pos}
def oInK (neg : Bool) (kvs : List (Str × Int)) (x : PyData) (Φ : PyData → Prop) : Prop := asS x fun z => Φ (.bool (if neg then !(kvs.lookup z).isSome else (kvs.lookup z).isSome))
def eInK (neg : Bool) (kvs : List (Str × Int)) (t : DE) : DE := fun ρ Ξ Φ => t ρ Ξ fun x => oInK neg kvs x Φ
def eIxK (kvs : List (Str × Int)) (t : DE) : DE := fun ρ Ξ Φ => t ρ Ξ fun x => asS x fun z => someK (kvs.lookup z) fun i => Φ (.int i)
theorem kd_name {x : Str} {kvs : List (Str × Int)} {σ : L2.St} {H : Hp} {Q : VK} (c : KdC X.K X.w X.mg x kvs) (hg : Gl X x) (hd : (x == ("__debug__" : Str)) = false) {a0 : Addr} (hm : X.mg x = some (.ref a0)) (q : Q (.ref a0) H) : wE X (.Name x p) σ H Q := fun pins s I => ld_glob I hg hm ⟨.ref a0, H, I, rfl, q⟩ hd
theorem re_inK {x : Str} {kvs : List (Str × Int)} (c : KdC X.K X.w X.mg x kvs) (ha : RE X W a ta) (hg : X.env.kindOf x = some .globalImplicit := by kernel_rfl) (hb : bltOk x = true := by kernel_rfl) (hm : behindInMarks .In (.Name x p1) = false := by rfl) : RE X W (.Compare a [.In] [.Name x p1] pos) (eInK false kvs ta) := fun ρ Ξ Φ h B F H σ env Q q qx => by
  obtain ⟨a0, es, n, hm0, D, h1, h2⟩ := id c.ex
  refine wE_of (pe_cmpR (op_in_kd D) pe_w pe_w hm) (ha _ _ _ h B F H σ env _ (fun v y F1 H1 hy st r => ?_) qx)
  obtain ⟨z, rfl, hz⟩ := asS_inv hy
  obtain rfl := r.str_inv
  refine kd_name c hg (bltOk_inv hb).2 hm0 ?_
  cases e : kvs.lookup z with
  | none =>
    rw [e] at hz
    exact ⟨z, none, rfl, rfl, h2 z e, q _ _ F1 H1 hz st (.bl _)⟩
  | some i =>
    rw [e] at hz
    obtain ⟨t, et⟩ := h1 z i e
    exact ⟨z, _, rfl, rfl, et, q _ _ F1 H1 hz st (.bl _)⟩
theorem rt_ninK {x : Str} {kvs : List (Str × Int)} (c : KdC X.K X.w X.mg x kvs) (ha : RE X W a ta) (hg : X.env.kindOf x = some .globalImplicit := by kernel_rfl) (hb : bltOk x = true := by kernel_rfl) (hm : behindInMarks .NotIn (.Name x p1) = false := by rfl) : RT X W (.Compare a [.NotIn] [.Name x p1] pos) (tV (eInK true kvs ta)) := fun ρ Ξ Θ h B F H σ env Q q qx => by
  obtain ⟨a0, es, n, hm0, D, h1, h2⟩ := id c.ex
  refine wT_of (pt_cmpR (op_notIn_kd D) pe_w pe_w hm) (ha _ _ _ h B F H σ env _ (fun v y F1 H1 hy st r => ?_) qx)
  obtain ⟨z, rfl, hz⟩ := asS_inv hy
  obtain rfl := r.str_inv
  refine kd_name c hg (bltOk_inv hb).2 hm0 ?_
  cases e : kvs.lookup z with
  | none =>
    rw [e] at hz
    exact ⟨z, none, rfl, rfl, h2 z e, _, rfl, q _ F1 H1 hz st⟩
  | some i =>
    rw [e] at hz
    obtain ⟨t, et⟩ := h1 z i e
    exact ⟨z, _, rfl, rfl, et, _, rfl, q _ F1 H1 hz st⟩
theorem re_ixK {x : Str} {kvs : List (Str × Int)} (c : KdC X.K X.w X.mg x kvs) (ha : RE X W a ta) (hg : X.env.kindOf x = some .globalImplicit := by kernel_rfl) (hb : bltOk x = true := by kernel_rfl) (hs : PlainIx a := by exact fun _ _ => rfl) : RE X W (.Subscript (.Name x p1) a pos) (eIxK kvs ta) := fun ρ Ξ Φ h B F H σ env Q q qx => by
  obtain ⟨a0, es, n, hm0, D, h1, h2⟩ := id c.ex
  refine wE_of (pe_ix ix_kdict pe_w pe_w hs) (kd_name c hg (bltOk_inv hb).2 hm0 (ha _ _ _ h B F H σ env _ (fun v y F1 H1 hy st r => ?_) qx))
  obtain ⟨z, rfl, hy⟩ := asS_inv hy
  obtain rfl := r.str_inv
  obtain ⟨i, e, hy⟩ := someK_inv hy
  obtain ⟨t, et⟩ := h1 z i e
  exact ⟨a0, z, .int i, rfl, rfl, ⟨es, n, _, D.at_, D.lit, et, ⟨t, rfl⟩⟩, q _ _ F1 H1 hy st (.int _)⟩
end
/-! ### the head with tables -/
theorem keyOf_none {P : Params} : ∀ {l : List DictEntry} {ks : List Str} {z : Str}, l.map He.keyOf = He.keysIn P ks → z ∉ ks → (l.find? (·.key.isStr z)) = none ∧ l.any (·.refKey) = false
  | [], _, _, _, _ => ⟨rfl, rfl⟩
  | e :: l, [], _, h, _ => by cases h
  | e :: l, k :: ks, z, h, hz => by
    have h1 : He.keyOf e :: l.map He.keyOf = some (k, PyData.keyHash P k) :: He.keysIn P ks := h
    injection h1 with h2 h3
    obtain ⟨i1, i2⟩ := keyOf_none h3 (fun m => hz (List.mem_cons_of_mem _ m))
    have hk : ∃ t, e.key = .str k t := by
      unfold He.keyOf at h2
      split at h2
      · rename_i x t q
        obtain ⟨h5, _⟩ := Prod.mk.inj (Option.some.inj h2)
        exact ⟨t, by rw [q, h5]⟩
      · cases h2
    obtain ⟨t, ek⟩ := hk
    have n1 : e.key.isStr z = false := by
      rw [ek]
      show (k == z) = false
      rw [beq_eq_false_iff_ne]
      exact fun q => hz (by rw [← q]; exact List.mem_cons_self)
    have n2 : e.refKey = false := by unfold DictEntry.refKey; rw [ek]
    exact ⟨by rw [List.find?_cons_of_neg (by rw [n1]; exact Bool.false_ne_true)]; exact i1, by rw [List.any_cons, n2, i2]; rfl⟩
/-- where the table stands, its keys -/
abbrev Tb : Type := Str × List Str
abbrev AlX : Type := He.AlD × Bool × List (Option (List (Option (Str × Int))))
def saysX (fa : List He.Fa) (fn : List He.DefD) (ex : PySem.W.Frag → Bool) (ts : List Tb) (K : PySem.W.Frag) : AlX := (He.obsD fa fn K, ex K, ts.map fun t : Tb => He.dicW K (He.ga K t.1))
def obsX (n : Nat) (fa : List He.Fa) (fn : List He.DefD) (ex : PySem.W.Frag → Bool) (ts : List Tb) (g : Addr → Option Obj) : AlX := saysX fa fn ex ts (He.frG g (He.asD g n))
def hookX (n : Nat) (fa : List He.Fa) (fn : List He.DefD) (ex : PySem.W.Frag → Bool) (ts : List Tb) : PySem.W.Hook where
  α := AlX
  obs := fun s => obsX n fa fn ex ts s.heap.get?
  val := fun w => (He.valD fn, true, ts.map fun t : Tb => some (He.keysIn w.params t.2))
  says := fun w h => ∃ K : PySem.W.Frag, K.In h ∧ He.SaysD fa fn K ∧ ex K = true ∧ (ts.map fun t : Tb => He.dicW K (He.ga K t.1)) = ts.map fun t : Tb => some (He.keysIn w.params t.2)
  of := fun _ _ e => ⟨_, He.frG_in, congrArg Prod.fst e, congrArg (fun z : AlX => z.2.1) e, congrArg (fun z : AlX => z.2.2) e⟩
  keeps := fun _ _ _ ⟨K, hK, c⟩ k => ⟨K, PySem.W.Frag.In.keeps hK k, c⟩
theorem obsX_eq {n : Nat} {fa : List He.Fa} {fn : List He.DefD} {ex : PySem.W.Frag → Bool} {ts : List Tb} {g : Addr → Option Obj} {s : Shared} (h : ∀ a, g a = s.heap.get? a) : obsX n fa fn ex ts g = (hookX n fa fn ex ts).obs s := by
  have e : g = s.heap.get? := funext h
  rw [e] <;> rfl
theorem dicW_ex {K : PySem.W.Frag} {w : World} {a : Addr} {ks : List Str} (h : He.dicW K a = some (He.keysIn w.params ks)) : ∃ es n, KDict K w a es n ∧ es.toList.map He.keyOf = He.keysIn w.params ks := by
  obtain ⟨es, n, D⟩ := He.dicW_ok h
  refine ⟨es, n, D, ?_⟩
  unfold He.dicW at h
  rw [D.at_] at h
  simp only at h
  split at h
  · exact Option.some.inj h
  · cases h
def kvB (K : PySem.W.Frag) (x : Str) (kvs : List (Str × Int)) : Bool := He.valsB K (He.ga K x) (kvs.map fun q => (q.1, He.Dv.int q.2))
theorem lookup_mem {z : Str} {i : Int} : ∀ {kvs : List (Str × Int)}, kvs.lookup z = some i → (z, i) ∈ kvs
  | [], h => by cases h
  | (k, v) :: r, h => by
    rw [List.lookup_cons] at h
    cases e : z == k with
    | true =>
      rw [e] at h
      cases h
      rw [eq_of_beq e]
      exact List.mem_cons_self
    | false =>
      rw [e] at h
      exact List.mem_cons_of_mem _ (lookup_mem h)
theorem lookup_none {z : Str} : ∀ {kvs : List (Str × Int)}, kvs.lookup z = none → z ∉ kvs.map (·.1)
  | [], _ => by simp
  | (k, v) :: r, h => by
    rw [List.lookup_cons] at h
    cases e : z == k with
    | true => rw [e] at h; cases h
    | false =>
      rw [e] at h
      have hne : z ≠ k := fun q => by rw [q] at e; simp at e
      rw [List.map_cons, List.mem_cons]
      rintro (q | q)
      · exact hne q
      · exact lookup_none h q
theorem kdC_of {K : PySem.W.Frag} {w : World} {h : Heap} {mg : Str → Option Value} (X : K.In h) (G : h.Ns mainGlobals mg) {x : Str} {kvs : List (Str × Int)} (g : (He.Fa.glo x).ok K = true) (b : kvB K x kvs = true) (t : He.dicW K (He.ga K x) = some (He.keysIn w.params (kvs.map (·.1)))) : KdC K w mg x kvs := by
  have b2 : He.valsB K (He.ga K x) (kvs.map fun q => (q.1, He.Dv.int q.2)) = true := b
  obtain ⟨es, n, D, hk⟩ := dicW_ex t
  refine ⟨He.ga K x, es, n, He.glo_ok X G g, D, fun z i hz => ?_, fun z hz => ?_⟩
  · have m := lookup_mem hz
    obtain ⟨u, hu, ru⟩ := He.valsB_ok b2 (q := (z, He.Dv.int i)) (List.mem_map.mpr ⟨_, m, rfl⟩)
    obtain ⟨t, rfl⟩ := ru
    exact ⟨t, hu⟩
  · obtain ⟨f1, f2⟩ := keyOf_none hk (lookup_none hz)
    unfold PySem.W.nsIn
    rw [D.at_]
    simp only
    rw [f1, f2]
    rfl
end Mv

set_option maxRecDepth 100000
set_option maxHeartbeats 4000000
/-! list(text), text * int -/
namespace Mv
open PySem L2 PySem.Spec PyProof.Rows
section
variable {X : Cx} {W : WX} {a b e : Expr} {es : List Expr} {ta tb te : DE} {ra : DA} {pos p : Pos}
def repS (z : Str) (n : Nat) : Str := ⟨(List.replicate n z.cps).foldl (· ++ ·) #[]⟩
theorem rep_len (c : Array Nat) : ∀ (n : Nat) (a : Array Nat), ((List.replicate n c).foldl (· ++ ·) a).size = a.size + n * c.size
  | 0, a => by simp
  | n + 1, a => by
    rw [List.replicate_succ, List.foldl_cons, rep_len c n (a ++ c), Array.size_append, Nat.add_mul]
    omega
def rMulS : R2 := fun x y H Q => ∃ z k, x = .str z ∧ y = .int k ∧ 2 ≤ k ∧ k ≤ 10000 ∧ 1 ≤ z.length ∧ z.length ≤ 100 ∧ Q (.str (repS z k.toNat)) H
theorem op_mulS : OpR X (binaryOp .Mult) rMulS := by
  intro pins s σ H x y v u Q I rx ry h
  obtain ⟨z, k, rfl, rfl, k1, k2, z1, z2, q⟩ := h
  obtain ⟨t, rfl⟩ := rx
  obtain ⟨t', rfl⟩ := ry
  have h1 : ¬ k < 1 := by omega
  have h2 : (k == 1 || z.length == 0) = false := by
    rw [Bool.or_eq_false_iff, beq_eq_false_iff_ne, beq_eq_false_iff_ne]
    exact ⟨by omega, by omega⟩
  refine P.mul_str (by rw [decide_eq_false (by omega), decide_eq_false (by omega)]; rfl) (fun _ _ => ?_) (fun _ _ => ?_) ?_
  · have : (900000000000000 : Int) ≤ (2 ^ 63 - 1) / k := by
      rw [Int.le_ediv_iff_mul_le (by omega)]
      omega
    omega
  · have : z.length * k.toNat ≤ 100 * 10000 := Nat.mul_le_mul z2 (by omega)
    unfold Builtin.Str.tooLong
    rw [decide_eq_false_iff_not, sizeLine_eq]
    omega
  · rw [if_neg h1, if_neg (by rw [h2]; exact Bool.false_ne_true)]
    refine ⟨?_, .str (repS z k.toNat), H, I.tok _, ⟨_, rfl⟩, q⟩
    have e := rep_len z.cps k.toNat #[]
    have : z.length * k.toNat ≤ 100 * 10000 := Nat.mul_le_mul z2 (by omega)
    show Array.size _ ≤ sizeLine
    rw [sizeLine_eq, e]
    have : z.cps.size = z.length := rfl
    have : k.toNat * z.cps.size ≤ 1000000 := by rw [Nat.mul_comm]; assumption
    simp only [List.size_toArray, List.length_nil]
    omega
def oMulS : OP := fun x y Φ => match x, y with
  | .str z, .int k => (2 ≤ k ∧ k ≤ 10000 ∧ 1 ≤ z.length ∧ z.length ≤ 100) ∧ Go (Φ (.str (repS z k.toNat)))
  | _, _ => False
theorem re_mulS (ha : RE X W a ta) (hb : RE X W b tb) : RE X W (.BinOp a .Mult b pos) (eOp oMulS ta tb) := re_op op_mulS (fun x y Φ h M F H vx vy s rx ry Q q => by
  unfold oMulS at h
  split at h
  · obtain ⟨⟨h1, h2, h3, h4⟩, h⟩ := h
    obtain rfl := rx.str_inv
    obtain rfl := ry.int_inv
    exact ⟨_, _, rfl, rfl, h1, h2, h3, h4, q _ _ F H (go_out h) (Step.refl s) (.str _)⟩
  · exact h.elim) ha hb
def rListS : List V → Hp → VK → Prop := fun xs H Q => ∃ z, xs = [.str z] ∧ z.length ≤ 8000000 ∧ ∀ l, H l = none → Q (.ref l) (upd H l (.lst (z.cps.toList.map fun c => V.str ⟨#[c]⟩)))
theorem signs_vals : ∀ (acc : List Value) (l : List Nat), acc.length = l.length → (∀ (j : Nat) (v : Value), acc[j]? = some v → ∃ (c : Nat) (u : Tok), l[j]? = some c ∧ v = Value.str ⟨#[c]⟩ u) → Vals (l.map fun c => V.str ⟨#[c]⟩) acc
  | [], [], _, _ => .nil
  | [], c :: l, hl, _ => by simp at hl
  | v :: acc, [], hl, _ => by simp at hl
  | v :: acc, c :: l, hl, h => by
    obtain ⟨c', u, e1, e2⟩ := h 0 v rfl
    cases e1
    exact .cons ⟨u, e2⟩ (signs_vals acc l (by simpa using hl) fun j w hw => h (j + 1) w hw)
theorem call_listS (hc : X.calm = true) : CallR X (.type "list") rListS := by
  intro pins s σ H vs us Q I r h
  obtain ⟨z, rfl, hz, q⟩ := h
  obtain ⟨u, rfl, ru⟩ := vals1 r
  obtain ⟨t, rfl⟩ := ru
  have hsz : z.cps.size ≤ sizeLine := by rw [sizeLine_eq]; exact Nat.le_trans hz (by decide)
  refine call_list_str (I.ok.hd hc) z t (hn := hsz) fun h' tk acc' c' hk hS' hacc => ?_
  have rv : Vals (z.cps.toList.map fun c => V.str ⟨#[c]⟩) acc'.toList   := signs_vals acc'.toList z.cps.toList (by rw [Array.length_toList, Array.length_toList]; exact hacc.1) fun j v hv => by
    rw [Array.getElem?_toList] at hv
    obtain ⟨c, u, h1, h2⟩ := hacc.2 j v hv
    exact ⟨c, u, by rw [Array.getElem?_toList]; exact h1, h2⟩
  refine ⟨.ref s.heap.objs.size, upd H s.heap.objs.size (.lst (z.cps.toList.map fun c => V.str ⟨#[c]⟩)), I.laid (t' := tk) hk (Nat.le_refl _) ⟨?_, acc'.toList, c', rv, by simpa using hS'⟩, rfl, q _ (I.hok.fresh (Nat.le_refl _))⟩
  rw [List.length_map, Array.length_toList]
  exact hsz
def bListS : OB := fun ds Φ => match ds with
  | [.str z] => z.length ≤ 8000000 ∧ Go (Φ (.list (signsD z)))
  | _ => False
theorem re_listS (hc : X.calm = true) (hm : X.mg "list" = none) (h : RA X W [e] ra) (hg : X.env.kindOf "list" = some .globalImplicit := by kernel_rfl) (hs : isStar e = false := by rfl) : RE X W (.Call (.Name "list" p) [e] [] pos) (eB bListS ra) := re_callTy (call_listS hc) (fun ds Φ h => by
  unfold bListS at h
  split at h
  · rename_i z
    obtain ⟨hz, h⟩ := h
    intro M F H vs s rs Q q
    obtain ⟨v, rfl, r⟩ := rp1 rs
    obtain rfl := r.str_inv
    refine ⟨z, rfl, hz, fun l hl => ?_⟩
    have rr : RpAll X.K (upd F l (.lst (z.cps.toList.map fun c => V.str ⟨#[c]⟩))) (z.cps.toList.map fun c => V.str ⟨#[c]⟩) (signsD z) := by
      have := RpAll.strs X.K (upd F l (.lst (z.cps.toList.map fun c => V.str ⟨#[c]⟩))) (z.cps.toList.map fun c => (⟨#[c]⟩ : Str))
      rw [List.map_map, List.map_map] at this
      exact this
    exact q _ _ _ _ (go_out h) (Step.frz s hl) (.lst upd_same rr)
  · exact h.elim) hm bb_list h hg (by decide +kernel) hs rfl
end
end Mv

set_option maxRecDepth 100000
set_option maxHeartbeats 4000000
/-! a for over a list of the def's own, which stands still as long as it is walked -/
namespace Mv
open PySem L2 PySem.Spec PyProof.Rows
theorem EnvOk.swap {K : PySem.W.Frag} {B : Base} {F H : Hp} {σ : L2.St} {ρ : List Sl} {i : Nat} {s t : Sl} (h : EnvOk K B F H σ ρ) (hi : ρ[i]? = some s) (ok : SlOk K B F H σ[i]? t) (o : t.isOwn = true → s.isOwn = true) : EnvOk K B F H σ (ρ.set i t) where
  st := h.st
  mh := h.mh
  gf := h.gf
  len := by rw [List.length_set, h.len]
  sl := fun j u e => by
    by_cases hj : j = i
    · subst hj
      have hlt : j < ρ.length := (List.getElem?_eq_some_iff.mp hi).1
      rw [List.getElem?_set_self hlt] at e
      cases e
      exact ok
    · rw [List.getElem?_set_ne (Ne.symm hj)] at e
      exact h.sl j u e
  ne := fun a b u v p n e1 e2 o1 o2 q1 q2 => by
    have look : ∀ {c : Nat} {z : Sl}, z.isOwn = true → (ρ.set i t)[c]? = some z → ∃ z', ρ[c]? = some z' ∧ z'.isOwn = true := fun {c z} hz e => by
      by_cases hc : c = i
      · subst hc
        have hlt : c < ρ.length := (List.getElem?_eq_some_iff.mp hi).1
        rw [List.getElem?_set_self hlt] at e
        cases e
        exact ⟨s, hi, o hz⟩
      · rw [List.getElem?_set_ne (Ne.symm hc)] at e
        exact ⟨z, e, hz⟩
    obtain ⟨u', e1', o1'⟩ := look o1 e1
    obtain ⟨v', e2', o2'⟩ := look o2 e2
    exact h.ne a b u' v' p n e1' e2' o1' o2' q1 q2
section
variable {X : Cx} {W : WX} {body : List Stmt} {tg : Expr} {pos p0 : Pos}
/-- a for over the own list in slot i -/
def sForO (i : Nat) (g : DG) (body : DS) : DS := fun ρ Ξ E => match nth ρ i with
  | some (.own ds) => ∀ p, ∃ I : Nat → List Sl → Prop, I 0 (ρ.set i (.owp p ds)) ∧ (∀ k d ρ', ds[k]? = some d → I k ρ' → nth ρ' i = some (.owp p ds) ∧ Go (g d ρ' fun ρ2 => body ρ2 Ξ (E.lp (I (k + 1))))) ∧ ∀ ρ', I ds.length ρ' → nth ρ' i = some (.owp p ds) ∧ Go (E.nx (ρ'.set i (.own ds)))
  | _ => False
theorem w1_forO {ρ : List Sl} {Ξ : Xi} {E : En} {ds : List PyData} (C : Cxt X W) (i : Nat) {x : Str} (hi : ρ[i]? = some (.own ds))
    (h : ∀ p, ∃ I : Nat → List Sl → Prop, I 0 (ρ.set i (.owp p ds)) ∧ (∀ k d ρ', ds[k]? = some d → I k ρ' → ρ'[i]? = some (.owp p ds) ∧ WG X ρ' tg d (fun _ => True) fun ρ2 => WS X W ρ2 body Ξ { nx := I (k + 1), ct := I (k + 1), bk := E.nx, rt := E.rt }) ∧ ∀ ρ', I ds.length ρ' → ρ'[i]? = some (.owp p ds) ∧ E.nx (ρ'.set i (.own ds)))
    (hN : X.N[i]? = some x) (hv : Vis X.env.scope x) (hd : (x == ("__debug__" : Str)) = false) (hcd : (x == ("__classdict__" : Str)) = false)
    (hs : ∀ y, foldedSetIterable (.Name x p0) X.env y = pure y := by intro _; rfl) : W1 X W ρ (.For tg (.Name x p0) body [] pos) Ξ E := fun B F H σ env D d dx => by
  obtain ⟨p, vs, e1, hp, fp, h0, nm, r⟩ := env.sl i _ hi
  have env1 : EnvOk X.K B F H σ (ρ.set i (.owp p ds)) := env.swap hi ⟨vs, e1, hp, fp, h0, nm, r⟩ (fun _ => rfl)
  obtain ⟨I, i0, step, fin⟩ := h p
  refine wS1_of (ps_for C.po C.calm (pi_seq (pv i hN hv hd hcd)) pg_w pss_w hs) ⟨.ref p, e1, p, rfl, .inl ⟨⟨vs, .inl (.inl hp)⟩, fun k m σ H => m = ds.length - k ∧ k ≤ ds.length ∧ ∃ ρ' F', I k ρ' ∧ Same F F' ∧ EnvOk X.K B F' H σ ρ', ⟨_, rfl, Nat.zero_le _, _, F, i0, Same.refl _, env1⟩, ?_⟩⟩
  rintro k m σ2 H2 ⟨rfl, hk, ρ', F', hI, sF, env2⟩
  by_cases hlt : k < ds.length
  · obtain ⟨hi', stp⟩ := step k _ ρ' (List.getElem?_eq_getElem hlt) hI
    obtain ⟨vs', e1', hp', fp', h0', nm', r'⟩ := env2.sl i _ hi'
    obtain ⟨u, hu, ru⟩ := r'.get (List.getElem?_eq_getElem hlt)
    refine .inr ⟨⟨vs', u, .inl (.inl hp'), hu⟩, fun σ' H' => ∃ ρ'' F'', I (k + 1) ρ'' ∧ Same F F'' ∧ EnvOk X.K B F'' H' σ' ρ'', fun σ' H' ⟨ρ'', F'', q1, q2, q3⟩ => ⟨ds.length - (k + 1), by omega, rfl, hlt, ρ'', F'', q1, q2, q3⟩, fun v H3 hy => ?_⟩
    obtain ⟨eH, y⟩ := hy
    subst eH
    have ev := y vs' (.inl (.inl hp'))
    rw [hu] at ev
    cases ev
    refine stp B F' _ σ2 u env2 ru _ fun ρ2 σ3 w env4 _ _ => ?_
    refine w { B with G := F' } F' _ σ3 (env4.up (Same.refl F')) _ ⟨fun ρ5 F5 H5 σ5 n5 env5 => ⟨ρ5, F5, n5, sF.trans env5.gf, env5.down (env2.gf)⟩, d.rt, fun ρ5 F5 H5 σ5 n5 env5 => d.nx ρ5 F5 H5 σ5 n5 (env5.down env2.gf), fun ρ5 F5 H5 σ5 n5 env5 => ⟨ρ5, F5, n5, sF.trans env5.gf, env5.down (env2.gf)⟩⟩ ?_
    exact fun cls dd y ρ5 F5 H5 σ5 hy env5 r5 => dx cls dd y ρ5 F5 H5 σ5 hy (env5.down env2.gf) r5
  · have e : k = ds.length := by omega
    subst e
    obtain ⟨hi', nx⟩ := fin ρ' hI
    obtain ⟨vs', e1', hp', fp', h0', nm', r'⟩ := env2.sl i _ hi'
    refine .inl ⟨⟨vs', .inl (.inl hp'), by rw [r'.len]; exact Nat.le_refl _⟩, d.nx _ F' H2 σ2 nx (env2.swap hi' ⟨p, vs', e1', hp', fp', h0', nm', r'⟩ (fun _ => rfl))⟩
theorem r1_forO {g : DG} {ts : DS} (i : Nat) {x : Str} (C : Cxt X W) (r : RG X tg (fun _ => True) g) (q : RS X W body ts) (hx : nmOk X.env.scope x = true := by kernel_rfl) (hN : X.N[i]? = some x := by kernel_rfl)
    (hs : ∀ y, foldedSetIterable (.Name x p0) X.env y = pure y := by intro _; rfl) : R1 X W (.For tg (.Name x p0) body [] pos) (sForO i g ts) := fun ρ Ξ E k => by
  unfold sForO at k
  split at k
  · rename_i ds hi
    rw [nth_eq] at hi
    obtain ⟨h1, h2, h3⟩ := nmOk_inv hx
    refine w1_forO C i hi (fun p => ?_) hN h1 h2 h3 hs
    obtain ⟨I, i0, st, fin⟩ := k p
    exact ⟨I, i0, fun k d ρ' e hI => ⟨by rw [← nth_eq]; exact (st k d ρ' e hI).1, (r _ _ _ (st k d ρ' e hI).2).mono fun ρ2 z => q _ _ _ z⟩, fun ρ' hI => ⟨by rw [← nth_eq]; exact (fin ρ' hI).1, (fin ρ' hI).2⟩⟩
  · exact k.elim
/-- a written power -/
theorem re_powC {p1 p2 : Pos} (b n : Nat) (v : Int) {i j} (hv : (b : Int) ^ n = v := by kernel_rfl) (hn : n ≤ 1000 := by decide) (hb : (b : Int).natAbs < 2 ^ 64 := by decide) : RE X W (.BinOp (.Constant (.int b) i p1) .Pow (.Constant (.int n) j p2) pos) (eC (.int v)) := fun _ _ _ h =>
  we_op op_pow (we_int (we_int (wpow_int (by omega) (by omega) hb (by rw [Int.toNat_natCast, hv]; exact h))))
end
end Mv

set_option maxRecDepth 100000
set_option maxHeartbeats 4000000
/-! list(d.items()) of an own dict -/
namespace Mv
open PySem L2 PySem.Spec PyProof.Rows
/-- the entries of a dict of ints and texts -/
theorem dk_raw {P : Program} {w : World} {H : Hp} {h : Heap} {a : Addr} {kvs : List (Key × V)} (ok : HOk P w H h) (e : Rd H a (.dK kvs)) : (a == sysModules) = false ∧ kvs.length ≤ sizeLine ∧ ∃ es ep, DT.Raw h a es ep ∧ es.size = kvs.length ∧ ∀ (j : Nat) (kv : Key × V), kvs[j]? = some kv → ∃ en, es[j]? = some en ∧ RelV (kV kv.1) en.key ∧ RelV kv.2 en.val := by
  obtain ⟨z, hd, vs, rel, o, es, ep, ho, hx, hdat, hkeys, hp, nd⟩ := dk_rd ok e
  refine ⟨hd, z, es, ep, ⟨o, ho, hx, hdat⟩, ?_, fun j kv hj => ?_⟩
  · have l1 : kvs.length = vs.length := Paired.length rel
    have len : ∀ (l : List DictEntry) (vs : List (Key × Value)), Pairs (mixKind P w) l vs → l.length = vs.length := by
      intro l vs hp
      induction hp with
      | nil => rfl
      | cons _ _ _ ih => simp [ih]
    have l2 := len _ _ hp
    rw [Array.length_toList] at l2
    omega
  · have key : ∀ (l : List DictEntry) (vs : List (Key × Value)) (kvs : List (Key × V)) (j : Nat) (kv : Key × V), Pairs (mixKind P w) l vs → KV kvs vs → kvs[j]? = some kv → ∃ en, l[j]? = some en ∧ RelV (kV kv.1) en.key ∧ RelV kv.2 en.val := by
      intro l vs kvs j kv hp rel hj
      induction hp generalizing kvs j with
      | nil =>
        cases rel
        simp at hj
      | cons h1 h2 _ ih =>
        cases rel with
        | cons r t =>
          cases j with
          | zero =>
            simp at hj
            subst hj
            refine ⟨_, rfl, ?_, ?_⟩
            · rw [r.1]; exact keyIs_rel h1
            · rw [h2]; exact r.2
          | succ j =>
            obtain ⟨en, e1, e2⟩ := ih _ j t (by simpa using hj)
            exact ⟨en, by simpa using e1, e2⟩
    obtain ⟨en, e1, e2⟩ := key es.toList vs kvs j kv hp rel hj
    exact ⟨en, by rw [← Array.getElem?_toList]; exact e1, e2⟩
section
variable {X : Cx}
def rItemsD : V → List V → Hp → VK → Prop := fun x xs H Q => ∃ (a : Addr) (kvs : List (Key × V)), x = .ref a ∧ xs = [] ∧ Rd H a (.dK kvs) ∧ ∀ p, H p = none → Q (.ref p) (upd H p (DX.itemsO p a))
theorem mt_itemsD : MtR X "dict.items" rItemsD := by
  intro pins s σ H x xs v us Q I rx rxs h
  obtain ⟨a, kvs, rfl, rfl, ha, q⟩ := h
  obtain rfl : v = .ref a := rx
  cases rxs
  obtain ⟨hd, _, es, ep, raw, _⟩ := dk_raw I.hok ha
  refine DT.callItems (es := es) (ep := ep) hd raw ?_
  exact ⟨.ref s.heap.objs.size, upd H s.heap.objs.size (DX.itemsO s.heap.objs.size a), I.laid (t' := s.toks) (fun b u e => Heap.get?_push_of_some _ e) (Nat.le_refl _) (DX.itemsO_ok (Heap.get?_push_size _ rfl)), rfl, q _ (I.hok.fresh (Nat.le_refl _))⟩
def rListIt : List V → Hp → VK → Prop := fun xs H Q => ∃ (p a : Addr) (kvs : List (Key × V)), xs = [.ref p] ∧ H p = some (DX.itemsO p a) ∧ Rd H a (.dK kvs) ∧
  ∀ (l : Addr) (ts : List Addr) (H2 : Hp), H l = none → ts.length = kvs.length → (∀ b o, H b = some o → H2 b = some o) → (∀ b ∈ ts, H b = none ∧ b ≠ l) →
    (∀ (j : Nat) (b : Addr) (kv : Key × V), ts[j]? = some b → kvs[j]? = some kv → H2 b = some (.tup [kV kv.1, kv.2])) → H2 l = some (.lst (ts.map V.ref)) → Q (.ref l) H2
theorem call_listIt (hc : X.calm = true) : CallR X (.type "list") rListIt := by
  intro pins s σ H xs us Q I r h
  obtain ⟨p, a, kvs, rfl, hp, ha, q⟩ := h
  obtain ⟨u, rfl, ru⟩ := vals1 r
  obtain rfl : u = Value.ref p := ru
  have view : s.heap.IsItemsView p a := (I.hok p _ hp).1
  obtain ⟨hd, hz, es, ep, raw, hsz, ent⟩ := dk_raw I.hok ha
  obtain ⟨S, hSe⟩ : ∃ S, S = s.heap.objs.size := ⟨_, rfl⟩
  obtain ⟨oL, hoL⟩ : ∃ oL : Obj, oL = { cls := .type "list", data := .seq #[] } := ⟨_, rfl⟩
  refine callType_codes (Q₁ := fun ob t => ob = .ref S ∧ t = { s with heap := s.heap.push oL }) PySem.F.called_list (PySem.F.typeCall_list_1 _) PySem.F.entry_list_init (code_list_new _ ⟨by rw [hSe], by rw [hoL]⟩) fun ob t ht => ?_
  obtain ⟨rfl, rfl⟩ := ht
  have g1 : (s.heap.push oL).get? S = some oL := by rw [hSe]; exact Heap.get?_push_size _ (by rw [hoL]; rfl)
  have g1' : (s.heap.push oL).get? S = some { cls := .type "list", data := .seq #[] } := by rw [g1, hoL]
  refine ⟨⟨_, g1', rfl⟩, PySem.F.args_list_init_2 _ _, ?_⟩
  show wpAny _ _ (do let old ← Builtin.List.listItems (.ref S); Builtin.List.listUpdate (.ref S) (fun _ => #[]); letGo old.toList.reverse; Builtin.List.listExtendWith (.ref S) (.ref p) .none) _ _ _
  refine wpAny_bind ?_
  unfold Builtin.List.listItems
  refine wpAny_bind (wpAny_seqItems g1' rfl (wpAny_pure ?_))
  show wpAny _ _ (updateSeq S (fun _ => #[]) >>= fun _ => letGo (#[] : Array Value).toList.reverse >>= fun _ => Builtin.List.listExtendWith (.ref S) (.ref p) .none) _ _ _
  refine wpAny_bind (wpAny_updateSeq g1' rfl ?_)
  refine wpAny_bind (wpAny_letGo ?_)
  have g2 := Heap.get?_update_self (Obj.mapSeq fun _ => (#[] : Array Value)) g1' rfl
  have old : ∀ b o, s.heap.get? b = some o → ((s.heap.push oL).update S (Obj.mapSeq fun _ => (#[] : Array Value))).get? b = some o := fun b o e => by
    have nb : b ≠ S := by rw [hSe]; exact Nat.ne_of_lt (Heap.lt_size e)
    exact (Heap.get?_update_other _ _ (Ne.symm nb)).trans (Heap.get?_push_of_some _ e)
  have viewS : (((s.heap.push oL).update S (Obj.mapSeq fun _ => (#[] : Array Value)))).IsItemsView p a := by
    obtain ⟨o, ho, rest⟩ := view
    exact ⟨o, old p o ho, rest⟩
  have pS : S ≠ p := by
    obtain ⟨o, ho, _⟩ := view
    rw [hSe]
    exact Nat.ne_of_gt (Heap.lt_size ho)
  have aS : a ≠ S := by
    rw [hSe]
    exact Nat.ne_of_lt raw.lt
  have nS : H S = none := I.hok.fresh (Nat.le_of_eq hSe.symm)
  have szS : ((s.heap.push oL).update S (Obj.mapSeq fun _ => (#[] : Array Value))).objs.size = s.heap.objs.size + 1 := by
    rw [Heap.size_update, Heap.size_push]
  refine DT.extI (A := X.A.in1) (es := es) (ep := ep) (show X.A.in1.handled = none from I.ok.hd hc) viewS (raw.at' fun o e => old a o e) S pS aS .none _ g2 (fun h' tk acc c as keep gS hlen made hacc => ?_) (by rw [hsz]; exact hz)
  have keep0 : ∀ b o, s.heap.get? b = some o → h'.get? b = some o := fun b o e => keep b o (by rw [hSe]; exact Nat.ne_of_lt (Heap.lt_size e)) (old b o e)
  have hb : ∀ b ∈ as, s.heap.objs.size < b := fun b m => by
    have h1 : ((s.heap.push oL).update S (Obj.mapSeq fun _ => (#[] : Array Value))).objs.size < b := made.above b m
    rw [szS] at h1
    exact Nat.lt_of_succ_lt h1
  have nd : as.Nodup := List.Pairwise.imp (fun h => Nat.ne_of_lt h) made.rise
  have lk : as.length = kvs.length := hlen.trans hsz
  have I1 : L2.Inv X pins σ (upd H S (.lst (as.map V.ref))) { s with heap := h', toks := tk } := by
    refine I.laid (t' := tk) keep0 (Nat.le_of_eq hSe.symm) ⟨by rw [List.length_map, lk]; exact hz, acc.toList, c, ?_, by simpa using gS⟩
    rw [hacc]
    clear made hacc hlen nd hb lk
    induction as with
    | nil => exact .nil
    | cons b as ih => exact .cons rfl ih
  obtain ⟨H2, I2, g, tk2⟩ := DX.takeT (P := fun b vs => ∃ (j : Nat) (kv : Key × V), as[j]? = some b ∧ kvs[j]? = some kv ∧ vs = [kV kv.1, kv.2]) I as _ I1 nd fun b m => by
    have nb : H b = none := I.hok.fresh (Nat.le_of_lt (hb b m))
    have bS : b ≠ S := by rw [hSe]; exact Nat.ne_of_gt (hb b m)
    obtain ⟨j, hj⟩ := List.mem_iff_getElem?.mp m
    obtain ⟨en, e1, e2⟩ := made.pairs j b hj
    have jl : j < kvs.length := by
      rw [← lk]
      exact (List.getElem?_eq_some_iff.mp hj).1
    obtain ⟨en2, e3, r1, r2⟩ := ent j _ (List.getElem?_eq_getElem jl)
    rw [e1] at e3
    cases e3
    exact ⟨Nat.le_of_lt (hb b m), by rw [upd_ne bS]; exact nb, _, ⟨j, _, hj, List.getElem?_eq_getElem jl, rfl⟩, fun H2 => ⟨by show 2 ≤ sizeLine; decide, [en.key, en.val], .cons r1 (.cons r2 .nil), ⟨_, e2, rfl, 0, rfl⟩⟩⟩
  refine ⟨rfl, .ref S, H2, I2, rfl, q S as H2 nS lk (fun b o e => g b o (by rw [upd_ne (fun z => by rw [z, nS] at e; cases e)]; exact e)) (fun b m => ⟨I.hok.fresh (Nat.le_of_lt (hb b m)), by rw [hSe]; exact Nat.ne_of_gt (hb b m)⟩) (fun j b kv hj hk => ?_) (g S _ upd_same)⟩
  obtain ⟨vs, ⟨j2, kv2, h1, h2, rfl⟩, h3⟩ := tk2 b (List.mem_of_getElem? hj)
  have ej : j2 = j := by
    have l1 := (List.getElem?_eq_some_iff.mp h1).1
    have l2 := (List.getElem?_eq_some_iff.mp hj).1
    exact (List.getElem?_inj l1 nd).mp (h1.trans hj.symm)
  subst ej
  rw [hk] at h2
  cases h2
  exact h3
variable {W : WX} {p px : Pos} {ap cp pos : Pos}
/-- an entry as a pair -/
def pairB (kv : Key × PyData) : PyData := .tuple [keyB kv.1, kv.2]
def kItemsDk (i : Nat) : DK := fun ρ _ Φ => odkK (nth ρ i) fun kvs => Φ (.own (kvs.map pairB))
theorem KvRp.at {K : PySem.W.Frag} {F : Hp} : ∀ {vs : List (Key × V)} {ds : List (Key × PyData)} {j : Nat} {d : Key × PyData}, KvRp K F vs ds → ds[j]? = some d → ∃ v, vs[j]? = some (d.1, v) ∧ Rp K F v d.2
  | _, _, 0, _, .cons r _, e => by
    simp at e
    subst e
    exact ⟨_, rfl, r⟩
  | _, _, j + 1, d, .cons _ t, e => by
    obtain ⟨v, h1, h2⟩ := KvRp.at (j := j) t (by simpa using e)
    exact ⟨v, by simpa using h1, h2⟩
theorem pairs_rp {K : PySem.W.Frag} {F : Hp} : ∀ {ds : List (Key × PyData)} {ts : List Addr}, ts.length = ds.length → (∀ (j : Nat) (b : Addr) (d : Key × PyData), ts[j]? = some b → ds[j]? = some d → Rp K F (.ref b) (pairB d)) → RpAll K F (ts.map V.ref) (ds.map pairB)
  | [], [], _, _ => .nil
  | [], _ :: _, h, _ => by simp at h
  | _ :: _, [], h, _ => by simp at h
  | d :: ds, b :: ts, h, q => .cons (q 0 b d rfl rfl) (pairs_rp (by simpa using h) fun j b' d' h1 h2 => q (j + 1) b' d' (by simpa using h1) (by simpa using h2))
/-- d.items(), whether d stands still or not -/
theorem pe_itemsR {o : Expr} {td : TE} {apos cpos : Pos} (ho : PE X o td) (hbase : attributeBase o "items" X.env (eval o X.env) = eval o X.env) (hline : (apos.endLine == cpos.line) = true) :
    PE X (.Call (.Attribute o "items" apos) [] [] cpos) (fun σ H Q => td σ H fun x H1 => rItemsD x [] H1 Q) := by
  refine ⟨fun pins s σ H Q I h => ?_⟩
  refine wpAny_Call_method0_late hbase hline (thn (ho.run pins s σ H _ I h) fun v s1 ⟨x, H1, I1, r1, q1⟩ => ?_)
  obtain ⟨a, kvs, rfl, e0, rd, q⟩ := id q1
  obtain rfl : v = Value.ref a := r1
  obtain ⟨_, _, vs, _, dd⟩ := dk_rd I1.hok rd
  exact ⟨"dict", "dict.items", PySem.F.plainAttrs_dict, PySem.F.slot_dict_items, PySem.F.type_dict_items, dd.typeIs, dd.mapOf.noDict, Calls.callWith_builtin rfl (PySem.evalArgs_none (mt_itemsD pins s1 σ H1 (.ref a) [] (.ref a) [] Q I1 rfl .nil q1))⟩
theorem listItems_run {B : Base} {F H : Hp} {σ : L2.St} {ds : List (Key × PyData)} {vs : List (Key × V)} {a : Addr} {Q : VK} (C : Cxt X W) (i : Nat) {x : Str} (hm : X.mg "list" = none) (hx : nmOk X.env.scope x = true) (hN : X.N[i]? = some x) (hg : X.env.kindOf "list" = some .globalImplicit)
    (hbase : attributeBase (.Name x px) "items" X.env (eval (.Name x px) X.env) = eval (.Name x px) X.env) (hline : (ap.endLine == cp.line) = true) (hs : starEach [.Call (.Attribute (.Name x px) "items" ap) [] [] cp] X.env = [(false, eval (.Call (.Attribute (.Name x px) "items" ap) [] [] cp) X.env)])
    (sub : Same F H) (e1 : σ[i]? = some (some (.ref a))) (ha : Rd H a (.dK vs)) (kr : KvRp X.K F vs ds) (q : ∀ v F2 H2, Step B.M F H F2 H2 → SlV X.K H F2 H2 v (.own (ds.map pairB)) → Q v H2) :
    wE X (.Call (.Name "list" p) [.Call (.Attribute (.Name x px) "items" ap) [] [] cp] [] pos) σ H Q := by
  obtain ⟨h1, h2, h3⟩ := nmOk_inv hx
  have up : ∀ {v : Addr} {o : HO}, H v = none → Rd (L2.upd H v o) a (.dK vs) := fun {v o} hv => by
    rcases ha with ha | ⟨ob, ha⟩
    · exact .inl (by rw [upd_ne (fun z => by rw [z, hv] at ha; cases ha)]; exact ha)
    · exact .inr ⟨ob, by rw [upd_ne (fun z => by rw [z, hv] at ha; cases ha)]; exact ha⟩
  refine wE_of (pe_callTy (call_listIt C.calm) hg hm (by decide +kernel) (pa_cons (pe_itemsR (pv i hN h1 h2 h3) hbase hline) pa_nil hs) (by decide) (by decide) hs rfl) ⟨.ref a, e1, a, vs, rfl, rfl, ha, fun v hv => ⟨v, a, vs, rfl, upd_same, up hv, fun l ts H2 nl lt old new pr li => ?_⟩⟩
  · have up : ∀ b o, H b = some o → H2 b = some o := fun b o e => old b o (by rw [upd_ne (fun z => by rw [z, hv] at e; cases e)]; exact e)
    have nt : ∀ b ∈ ts, H b = none := fun b m => by
      have hn := (new b m).1
      by_cases z : b = v
      · rw [z]; exact hv
      · rwa [upd_ne z] at hn
    have Hl : H l = none := by
      by_cases z : l = v
      · rw [z]; exact hv
      · rwa [upd_ne z] at nl
    obtain ⟨F2, hF2⟩ : ∃ F2 : Hp, F2 = fun b => if b ∈ ts then H2 b else F b := ⟨_, rfl⟩
    have fin : ∀ b ∈ ts, F2 b = H2 b := fun b m => by rw [hF2]; exact if_pos m
    have fout : ∀ b, b ∉ ts → F2 b = F b := fun b m => by rw [hF2]; exact if_neg m
    have notin : ∀ b, H b ≠ none → b ∉ ts := fun b hb m => hb (nt b m)
    have st : Step B.M F H F2 H2 := {
      fr := fun b o e => by
        rw [fout b (notin b (by rw [sub b o e]; exact fun z => nomatch z))]
        exact e
      sub := fun b o e => by
        by_cases m : b ∈ ts
        · rw [fin b m] at e; exact e
        · rw [fout b m] at e; exact up b o (sub b o e)
      keepD := fun b o _ e => up b o e
      new := fun b hb => fout b (notin b hb)
      alive := fun b hb => by
        cases e : H b with
        | none => exact absurd e hb
        | some o => rw [up b o e]; exact fun z => nomatch z
      dr := fun b _ d => by
        obtain ⟨x, y, ns, g1, g2, g3, g4⟩ := d
        exact ⟨x, y, ns, g1, g2, g3, up b _ g4⟩ }
    have lnt : l ∉ ts := fun m => (new l m).2 rfl
    refine q _ F2 H2 st ⟨l, ts.map V.ref, rfl, Hl, li, by rw [fout l lnt]; exact none_sub sub Hl, pairs_rp (lt.trans kr.len) fun j b d hb hd => ?_⟩
    obtain ⟨w, hw, rw'⟩ := kr.at hd
    have e2 := pr j b _ hb hw
    have m := List.mem_of_getElem? hb
    refine .tup (.inl (.inl (by rw [fin b m]; exact e2))) (.cons ?_ (.cons (rw'.mono st.fr) .nil))
    obtain ⟨k, d⟩ := d
    cases k with
    | inl n => exact .int n
    | inr z => exact .str z
theorem rk_listItems (C : Cxt X W) (i : Nat) {x : Str} (hm : X.mg "list" = none) (hx : nmOk X.env.scope x = true := by kernel_rfl) (hN : X.N[i]? = some x := by kernel_rfl) (hg : X.env.kindOf "list" = some .globalImplicit := by kernel_rfl)
    (hbase : attributeBase (.Name x px) "items" X.env (eval (.Name x px) X.env) = eval (.Name x px) X.env := by rfl) (hline : (ap.endLine == cp.line) = true := by rfl) (hs : starEach [.Call (.Attribute (.Name x px) "items" ap) [] [] cp] X.env = [(false, eval (.Call (.Attribute (.Name x px) "items" ap) [] [] cp) X.env)] := by rfl) :
    RK X W (.Call (.Name "list" p) [.Call (.Attribute (.Name x px) "items" ap) [] [] cp] [] pos) (kItemsDk i) := fun ρ Ξ Φ h B F H σ env Q q qx => by
  obtain ⟨ds, hi, h⟩ := odkK_inv h
  have hi : ρ[i]? = some (.odk ds) := by rw [← nth_eq]; exact hi
  obtain ⟨a, vs, e1, ha, fa, h0, nm, kr⟩ := env.sl i _ hi
  exact listItems_run (B := B) C i hm hx hN hg hbase hline hs env.sub e1 (.inl ha) kr fun v F2 H2 st r => q v _ F2 H2 h st r
def fdkK (o : Option Sl) (Φ : List (Key × PyData) → Prop) : Prop := match o with
  | some (.fdk ds) => Φ ds
  | _ => False
theorem fdkK_inv {o : Option Sl} {Φ : List (Key × PyData) → Prop} (h : fdkK o Φ) : ∃ ds, o = some (.fdk ds) ∧ Φ ds := by
  unfold fdkK at h
  split at h
  · exact ⟨_, rfl, h⟩
  · exact h.elim
def kItemsFk (i : Nat) : DK := fun ρ _ Φ => fdkK (nth ρ i) fun kvs => Φ (.own (kvs.map pairB))
theorem rk_listItemsF (C : Cxt X W) (i : Nat) {x : Str} (hm : X.mg "list" = none) (hx : nmOk X.env.scope x = true := by kernel_rfl) (hN : X.N[i]? = some x := by kernel_rfl) (hg : X.env.kindOf "list" = some .globalImplicit := by kernel_rfl)
    (hbase : attributeBase (.Name x px) "items" X.env (eval (.Name x px) X.env) = eval (.Name x px) X.env := by rfl) (hline : (ap.endLine == cp.line) = true := by rfl) (hs : starEach [.Call (.Attribute (.Name x px) "items" ap) [] [] cp] X.env = [(false, eval (.Call (.Attribute (.Name x px) "items" ap) [] [] cp) X.env)] := by rfl) :
    RK X W (.Call (.Name "list" p) [.Call (.Attribute (.Name x px) "items" ap) [] [] cp] [] pos) (kItemsFk i) := fun ρ Ξ Φ h B F H σ env Q q qx => by
  obtain ⟨ds, hi, h⟩ := fdkK_inv h
  have hi : ρ[i]? = some (.fdk ds) := by rw [← nth_eq]; exact hi
  obtain ⟨a, ob, vs, e1, ha, kr⟩ := env.sl i _ hi
  exact listItems_run (B := B) C i hm hx hN hg hbase hline hs env.sub e1 (.inr ⟨ob, env.sub _ _ ha⟩) kr fun v F2 H2 st r => q v _ F2 H2 h st r
/-- d[k] as one target of several, d an own dict -/
def xDit (i : Nat) (t : DE) : DX := fun d ρ Ξ Φ => odkK (nth ρ i) fun kvs => t ρ Ξ fun y => someK (keyD y) fun k => kvs.length < 8000000 ∧ Go (Φ (ρ.set i (.odk (putDk kvs k d))))
theorem rx_dit {e : Expr} {te : DE} (C : Cxt X W) (i : Nat) {x : Str} (he : RE X W e te) (hx : nmOk X.env.scope x = true := by kernel_rfl) (hN : X.N[i]? = some x := by kernel_rfl)
    (ha : ∀ v, assign (.Subscript (.Name x px) e pos) X.env v = (do
      let o ← holding [v] (eval (.Name x px) X.env)
      let k ← holding [v, o] (eval e X.env)
      standAt pos
      holding [v, o, k] (setItem o k v)
      release [v, o, k] []) := by intro _; rfl) : RX X W (.Subscript (.Name x px) e pos) (xDit i te) := fun d ρ Ξ Φ z B F H σ v env r Q q qx => by
  obtain ⟨h1, h2, h3⟩ := nmOk_inv hx
  obtain ⟨ds, hi, z⟩ := odkK_inv z
  have hi : ρ[i]? = some (.odk ds) := by rw [← nth_eq]; exact hi
  obtain ⟨a, vs, e1, hp, fp, h0, nm, kr⟩ := env.sl i _ hi
  refine wG_of (pg_sub (pv i hN h1 h2 h3) pe_w (set_dict (Nat.lt_of_le_of_lt (by omega) C.hu)) ha) ⟨.ref a, e1, he _ _ _ z B F H σ env _ (fun u y F2 H2 hy st ry => ?_) qx⟩
  obtain ⟨k, hk, hl, hy⟩ := someK_inv hy
  have hq := st.keep a _ nm hp
  refine ⟨a, _, rfl, .inl ⟨vs, k, hq, keyD_rp hk ry, ?_, rfl⟩, ?_⟩
  · exact Nat.lt_of_lt_of_le (by rw [kr.len]; exact hl) (by decide : 8000000 ≤ sizeLine)
  · exact q _ _ F2 _ hy ((env.step st).setOdk hi e1 ((kr.mono st.fr).put k (r.mono st.fr))) st.fr
end
end Mv

set_option maxRecDepth 100000
set_option maxHeartbeats 4000000
/-! dicts of one's own that are locked for the rest, and walked -/
namespace Mv
open PySem L2 PySem.Spec PyProof.Rows
/-- the own thing in slot i is something else from then on, and frozen -/
theorem EnvOk.lockOwn {K : PySem.W.Frag} {B : Base} {F H : Hp} {σ : L2.St} {ρ : List Sl} {i : Nat} {s t : Sl} {p : Addr} {o : HO} (env : EnvOk K B F H σ ρ) (hi : ρ[i]? = some s) (hs : s.isOwn = true) (q : σ[i]? = some (some (.ref p))) (no : ∀ C dx vs, o ≠ .ins C dx vs) (ok : SlOk K B (upd F p o) (upd H p o) σ[i]? t) (ht : t.isOwn = false) : EnvOk K B (upd F p o) (upd H p o) σ (ρ.set i t) := by
  obtain ⟨p', ob, e1, hp, fp, h0, nm, ni⟩ := (env.sl i _ hi).ownAt hs
  rw [q] at e1
  cases e1
  have s2 : Same F (upd F p o) := same_new fp
  have hlt : i < ρ.length := (List.getElem?_eq_some_iff.mp hi).1
  refine ⟨⟨env.st.fr.trans s2, fun a x e => ?_, fun a x n e => ?_, fun a n => ?_, fun a n => ?_, fun a m dr => ?_⟩, env.mh, env.gf.trans s2, by rw [List.length_set]; exact env.len, fun j u e => ?_, fun a b u v n0 n e1' e2' o1 o2 q1 q2 => ?_⟩
  · by_cases z : a = p
    · rw [z, upd_same] at e
      rw [z, upd_same]
      exact e
    · rw [upd_ne z] at e
      rw [upd_ne z]
      exact env.st.sub a x e
  · rw [upd_ne (fun z => by rw [z, h0] at e; cases e)]
    exact env.st.keep a x n e
  · rw [upd_ne (fun z => n (by rw [z]; exact h0))]
    exact env.st.new a n
  · rw [upd_ne (fun z => n (by rw [z]; exact h0))]
    exact env.st.alive a n
  · have np : a ≠ p := fun z => nm (by rw [← z]; exact m)
    exact (env.st.dr a m dr).same (upd_ne np).symm
  · by_cases hj : j = i
    · subst hj
      rw [List.getElem?_set_self hlt] at e
      cases e
      exact ok
    · rw [List.getElem?_set_ne (Ne.symm hj)] at e
      have ap : u.isOwn = true → σ[j]? ≠ some (some (.ref p)) := fun ou z => env.ne i j s u p (Ne.symm hj) hi e hs ou q z
      exact ((env.sl j u e).upd hp nm ap ni).frz (ob := o) upd_same fp nm ap no
  · have look : ∀ {c : Nat} {z : Sl}, z.isOwn = true → (ρ.set i t)[c]? = some z → c ≠ i := fun {c z} hz e hc => by
      subst hc
      rw [List.getElem?_set_self hlt] at e
      cases e
      rw [ht] at hz
      cases hz
    have ha := look o1 e1'
    have hb := look o2 e2'
    rw [List.getElem?_set_ne (Ne.symm ha)] at e1'
    rw [List.getElem?_set_ne (Ne.symm hb)] at e2'
    exact env.ne a b u v n0 n e1' e2' o1 o2 q1 q2
section
variable {X : Cx} {W : WX} {ss : List Stmt} {ts : DS} {tg : Expr} {pos : Pos}
/-- the own dict in slot i is not changed any more -/
def sLockD (i : Nat) (r : DS) : DS := fun ρ Ξ E => odkK (nth ρ i) fun ds => r (ρ.set i (.fdk ds)) Ξ E
theorem rs_lockD (i : Nat) (h : RS X W ss ts) : RS X W ss (sLockD i ts) := fun ρ Ξ E k B F H σ env D d dx pins s I => by
  obtain ⟨ds, hi, k⟩ := odkK_inv k
  have hi : ρ[i]? = some (.odk ds) := by rw [← nth_eq]; exact hi
  obtain ⟨p, vs, e1, hp, fp, h0, nm, r⟩ := env.sl i _ hi
  obtain ⟨od, I2⟩ := I.lock hp (show Mut (some (.dK vs)) from trivial)
  exact h _ _ _ k B _ _ σ (env.lockOwn (o := .frz od (.dK vs)) hi rfl e1 (fun _ _ _ z => nomatch z) ⟨p, od, vs, e1, upd_same, r.mono (same_new fp)⟩ rfl) D d dx pins s I2
/-- its keys, walked -/
def iDk (i : Nat) : DI := fun ρ _ Φ => fdkK (nth ρ i) fun kvs => Φ (kvs.map fun kv => keyB kv.1)
theorem keyB_rp {K : PySem.W.Frag} {F : Hp} (k : Key) : Rp K F (kV k) (keyB k) := by
  cases k with
  | inl i => exact .int i
  | inr x => exact .str x
theorem itOk_keys {K : PySem.W.Frag} {M : Addr → Prop} {F : Hp} {p : Addr} {ob : Obj} {vs : List (Key × V)} {ds : List (Key × PyData)} (h : F p = some (.frz ob (.dK vs))) (r : KvRp K F vs ds) : ItOk K M F (Itk p ob vs) (ds.map fun kv => keyB kv.1) where
  go := fun i F' H' s1 s2 hi => ⟨s2 _ _ (s1 _ _ h), by rw [r.len]; simpa using hi⟩
  yld := fun i F' H' v H'' d s1 s2 hd y => by
    obtain ⟨rfl, k, u, hk, rfl⟩ := y
    refine ⟨F', Step.refl s2, ?_⟩
    rw [List.getElem?_map] at hd
    obtain ⟨kv, e, rfl⟩ := Option.map_eq_some_iff.mp hd
    obtain ⟨u', hu, _⟩ := r.at e
    rw [hk] at hu
    cases hu
    exact keyB_rp _
  stop := fun i F' H' s1 s2 hi => ⟨s2 _ _ (s1 _ _ h), by rw [r.len]; simpa using hi⟩
theorem ri_dk (i : Nat) {x : Str} (hx : nmOk X.env.scope x = true := by kernel_rfl) (hN : X.N[i]? = some x := by kernel_rfl) : RI X W tg (.Name x pos) (iDk i) := fun ρ Ξ Φ h B F H σ env R q qx => by
  obtain ⟨ds, hi, h⟩ := fdkK_inv h
  rw [nth_eq] at hi
  obtain ⟨h1, h2, h3⟩ := nmOk_inv hx
  obtain ⟨p, ob, vs, e1, hp, r⟩ := env.sl i _ hi
  exact wI_of (pi_keys (pv i hN h1 h2 h3)) ⟨.ref p, e1, p, ob, rfl, .inl ⟨vs, env.sub _ _ hp, q _ _ F H h (Step.refl env.sub) (itOk_keys hp r)⟩⟩
end
end Mv

set_option maxRecDepth 100000
set_option maxHeartbeats 4000000
/-! dicts whose keys are ints and None, their values ints -/
namespace Mv
open PySem L2 PySem.Spec PyProof.Rows
def keyVN : Option Int → V
  | none => .non
  | some i => .int i
def valN (kvs : List (Option Int × Int)) (k : Option Int) : Option Int := (kvs.find? fun kv => decide (kv.1 = k)).map (·.2)
def putN (kvs : List (Option Int × Int)) (k : Option Int) (n : Int) : List (Option Int × Int) :=
  if (kvs.any fun kv => decide (kv.1 = k)) = true then kvs.map (fun kv => if kv.1 = k then (kv.1, n) else kv) else kvs ++ [(k, n)]
def keyN : Option Int → Leaf
  | none => .none
  | some i => .num i
theorem keyN_inj {a b : Option Int} (h : keyN a = keyN b) : a = b := by
  cases a <;> cases b <;> first | rfl | (injection h with h; rw [h]) | cases h
theorem keyN_dec (a b : Option Int) : decide (keyN a = keyN b) = decide (a = b) := decide_eq_decide.mpr ⟨keyN_inj, fun e => by rw [e]⟩
theorem isO_rel {k : Option Int} {u : Value} (h : isO k u = true) : RelV (keyVN k) u := by
  cases k with
  | none => cases u <;> first | rfl | exact absurd h Bool.false_ne_true
  | some i =>
    cases u with
    | int j t =>
      have e : j = i := of_decide_eq_true h
      exact ⟨t, by rw [e]⟩
    | _ => exact absurd h Bool.false_ne_true
theorem keyVN_is {k : Option Int} {u : Value} (r : RelV (keyVN k) u) : isO k u = true := by
  cases k with
  | none => cases (show u = Value.none from r); rfl
  | some i => obtain ⟨t, rfl⟩ := r; exact decide_eq_true rfl
theorem isO_leaf {k : Option Int} {u : Value} (h : isO k u = true) : Leaf.isOf (keyN k) u = true := by
  have r := isO_rel h
  cases k with
  | none => cases (show u = Value.none from r); rfl
  | some i => obtain ⟨t, rfl⟩ := r; exact decide_eq_true rfl
/-- such keys, as a kind of the library -/
def optKind (P : Program) (w : World) : PySem.KeyKind P w (Option Int) where
  is := isO
  hash := hashN
  inj := fun v a b ha hb => keyN_inj ((leafKind P w).inj v _ _ (isO_leaf ha) (isO_leaf hb))
  byValue := fun k v h => Leaf.byValue (isO_leaf h)
  pyHash := fun {A E s k v Q} hv h => pyHash_leaf (isO_leaf hv) (by
    have e : (keyN k).key.hash w = hashN k := by cases k <;> rfl
    rw [e]
    exact h)
  eqBool := fun {A E s a b u v Q} hu hv h => eqAt_leaf (isO_leaf hu) (isO_leaf hv) _ _ _ _ (by rw [keyN_dec]; exact h)
  «strs» := fun k x t v h => by cases k <;> exact absurd h Bool.false_ne_true
/-- the entries, as the library tells them -/
inductive NvR : List (Option Int × Int) → List (Option Int × Value) → Prop
  | nil : NvR [] []
  | cons {k : Option Int} {i : Int} {t : Tok} {a : List (Option Int × Int)} {b : List (Option Int × Value)} : NvR a b → NvR ((k, i) :: a) ((k, .int i t) :: b)
theorem NvR.len {a : List (Option Int × Int)} {b : List (Option Int × Value)} (h : NvR a b) : a.length = b.length := by
  induction h with
  | nil => rfl
  | cons _ ih => rw [List.length_cons, List.length_cons, ih]
theorem NvR.keys {a : List (Option Int × Int)} {b : List (Option Int × Value)} (h : NvR a b) : b.map (·.1) = a.map (·.1) := by
  induction h with
  | nil => rfl
  | cons _ ih => rw [List.map_cons, List.map_cons, ih]
theorem NvR.val {a : List (Option Int × Int)} {b : List (Option Int × Value)} (h : NvR a b) (k : Option Int) : (∃ i t, valN a k = some i ∧ valueAt b k = some (.int i t)) ∨ (valN a k = none ∧ valueAt b k = none) := by
  induction h with
  | nil => exact .inr ⟨rfl, rfl⟩
  | @cons k0 i t a b _ ih =>
    by_cases e : k0 = k
    · exact .inl ⟨i, t, by simp [valN, e], by simp [valueAt, e]⟩
    · have v1 : valN ((k0, i) :: a) k = valN a k := by simp [valN, e]
      have v2 : valueAt ((k0, Value.int i t) :: b) k = valueAt b k := by simp [valueAt, e]
      rw [v1, v2]
      exact ih
theorem NvR.there {a : List (Option Int × Int)} {b : List (Option Int × Value)} (h : NvR a b) (k : Option Int) : (valueAt b k).isSome = (valN a k).isSome := by
  rcases h.val k with ⟨i, t, e1, e2⟩ | ⟨e1, e2⟩
  · rw [e1, e2]; rfl
  · rw [e1, e2]; rfl
theorem NvR.any {a : List (Option Int × Int)} {b : List (Option Int × Value)} (h : NvR a b) (k : Option Int) : (b.any fun kv => decide (kv.1 = k)) = a.any fun kv => decide (kv.1 = k) := by
  induction h with
  | nil => rfl
  | cons _ ih => rw [List.any_cons, List.any_cons, ih]
theorem NvR.snoc {a : List (Option Int × Int)} {b : List (Option Int × Value)} (h : NvR a b) (k : Option Int) (n : Int) (t : Tok) : NvR (a ++ [(k, n)]) (b ++ [(k, .int n t)]) := by
  induction h with
  | nil => exact .cons .nil
  | cons _ ih => exact .cons ih
theorem NvR.repl {a : List (Option Int × Int)} {b : List (Option Int × Value)} (h : NvR a b) (k : Option Int) (n : Int) (t : Tok) : NvR (a.map fun kv => if kv.1 = k then (kv.1, n) else kv) (b.map fun kv => if kv.1 = k then (kv.1, .int n t) else kv) := by
  induction h with
  | nil => exact .nil
  | @cons k0 i t0 a b _ ih =>
    rw [List.map_cons, List.map_cons]
    by_cases e : k0 = k
    · rw [if_pos e, if_pos e]; exact .cons ih
    · rw [if_neg e, if_neg e]; exact .cons ih
theorem NvR.put {a : List (Option Int × Int)} {b : List (Option Int × Value)} (h : NvR a b) (k : Option Int) (n : Int) (t : Tok) : NvR (putN a k n) (stored b k (.int n t)) := by
  unfold putN stored
  rw [← h.any k]
  split
  · exact h.repl k n t
  · exact h.snoc k n t
theorem putN_len (a : List (Option Int × Int)) (k : Option Int) (n : Int) : (putN a k n).length ≤ a.length + 1 := by
  unfold putN
  split <;> simp
section
variable {P : Program} {w : World} {h : Heap} {d : Addr} {kvs : List (Option Int × Int)}
theorem enN_pairs {es : List DictEntry} {kvs : List (Option Int × Int)} (h : EnN es kvs) : ∃ vs, NvR kvs vs ∧ Pairs (optKind P w) es vs ∧ ∀ e ∈ es, ∃ k, (optKind P w).is k e.key = true ∧ e.hash = (optKind P w).hash k := by
  induction h with
  | nil => exact ⟨[], .nil, .nil, fun _ z => nomatch z⟩
  | @cons e es k i t kvs h1 h2 h3 _ ih =>
    obtain ⟨vs, r, p, q⟩ := ih
    refine ⟨(k, .int i t) :: vs, .cons r, .cons h1 h3 p, fun x hx => ?_⟩
    rcases List.mem_cons.mp hx with rfl | hx
    · exact ⟨k, h1, h2⟩
    · exact q x hx
theorem enN_of {es : List DictEntry} {vs : List (Option Int × Value)} (p : Pairs (optKind P w) es vs) : ∀ {kvs : List (Option Int × Int)}, (∀ e ∈ es, ∃ k, (optKind P w).is k e.key = true ∧ e.hash = (optKind P w).hash k) → NvR kvs vs → EnN es kvs := by
  induction p with
  | nil => intro kvs _ r; cases r; exact .nil
  | cons h1 h2 _ ih =>
    intro kvs q r
    cases r with
    | cons r =>
      obtain ⟨k, k1, k2⟩ := q _ List.mem_cons_self
      have e := (optKind P w).inj _ _ _ k1 h1
      subst e
      exact .cons h1 k2 h2 (ih (fun e he => q e (List.mem_cons_of_mem _ he)) r)
theorem nd_dict (x : NdAt h d kvs) : (d == sysModules) = false ∧ kvs.length ≤ sizeLine ∧ ∃ vs, NvR kvs vs ∧ h.DictOf (optKind P w) d vs := by
  obtain ⟨h1, h2, h3, o, es, ep, h4, h5, h6, h7⟩ := x
  obtain ⟨vs, r, p, q⟩ := enN_pairs (P := P) (w := w) h7
  refine ⟨h1, h2, vs, r, o, es, ep, h4, h5, h6, fun e he => q e (by simpa using he), p, ?_⟩
  rw [r.keys]
  exact h3
theorem nd_of {vs : List (Option Int × Value)} (h1 : (d == sysModules) = false) (h2 : kvs.length ≤ sizeLine) (r : NvR kvs vs) (x : h.DictOf (optKind P w) d vs) : NdAt h d kvs := by
  obtain ⟨o, es, ep, h4, h5, h6, h7, h8, h9⟩ := x
  refine ⟨h1, h2, by rw [← r.keys]; exact h9, o, es, ep, h4, h5, h6, enN_of h8 (fun e he => h7 e (by simpa using he)) r⟩
theorem nd_ok {H : Hp} (x : NdAt h d kvs) : ObjOk P w H h d (NdO d kvs) := ⟨x, let ⟨_, _, _, o, _, _, e, _⟩ := x; ⟨o, e⟩, fun g1 g2 ⟨a, b, c, o, es, ep, e, r⟩ k => ⟨a, b, c, o, es, ep, k o e, r⟩⟩
end
section
variable {X : Cx} {pins : List (Addr × Obj)} {σ : L2.St} {H : Hp} {s : Shared} {A : Around} {E : Value → Shared → Prop} {d : Addr} {kvs : List (Option Int × Int)} {k : Option Int} {u : Value}
theorem nd_rd (I : Inv X pins σ H s) (e : Rd H d (NdO d kvs)) : NdAt s.heap d kvs := by
  have z := e.ok I.hok
  exact z.1
theorem nd_in {Q : Value → Shared → Prop} (I : Inv X pins σ H s) (e : Rd H d (NdO d kvs)) (ry : RelV (keyVN k) u) (h : ∀ s', Inv X pins σ H s' → Q (.bool (valN kvs k).isSome) s') : wpAny (model X.prog X.w) A (compareOp .In u (.ref d)) Q E s := by
  obtain ⟨hd, _, vs, r, dd⟩ := nd_dict (P := X.prog) (w := X.w) (nd_rd I e)
  refine wpAny_in_of (keyVN_is ry) hd dd.mapOf ?_
  rw [r.there k]
  exact h _ (I.tok _)
theorem nd_nin {Q : Value → Shared → Prop} (I : Inv X pins σ H s) (e : Rd H d (NdO d kvs)) (ry : RelV (keyVN k) u) (h : ∀ s', Inv X pins σ H s' → Q (.bool (!(valN kvs k).isSome)) s') : wpAny (model X.prog X.w) A (compareOp .NotIn u (.ref d)) Q E s := by
  obtain ⟨hd, _, vs, r, dd⟩ := nd_dict (P := X.prog) (w := X.w) (nd_rd I e)
  refine wpAny_notIn_of (keyVN_is ry) hd dd.mapOf ?_
  rw [r.there k]
  exact h _ (I.tok _)
theorem nd_get {n : Int} {Q : Value → Shared → Prop} (I : Inv X pins σ H s) (e : Rd H d (NdO d kvs)) (ry : RelV (keyVN k) u) (v : valN kvs k = some n) (h : ∀ s' t, Inv X pins σ H s' → Q (.int n t) s') : wpAny (model X.prog X.w) A (getItem (.ref d) u) Q E s := by
  obtain ⟨hd, _, vs, r, dd⟩ := nd_dict (P := X.prog) (w := X.w) (nd_rd I e)
  rcases r.val k with ⟨i, t, e1, e2⟩ | ⟨e1, e2⟩
  · rw [v] at e1
    cases e1
    exact wpAny_getItem_of (keyVN_is ry) dd.mapOf e2 (h _ t (I.tok _))
  · rw [v] at e1
    cases e1
theorem nd_mut : Mut (some (NdO d kvs)) := trivial
theorem nd_set {n : Int} {v : Value} {Q : Unit → Shared → Prop} (I : Inv X pins σ H s) (e : H d = some (NdO d kvs)) (hz : kvs.length < sizeLine) (ry : RelV (keyVN k) u) (rv : RelV (.int n) v) (h : ∀ s', Inv X pins σ (upd H d (NdO d (putN kvs k n))) s' → Q () s') : wpAny (model X.prog X.w) A (setItem (.ref d) u v) Q E s := by
  obtain ⟨hd, _, vs, r, dd⟩ := nd_dict (P := X.prog) (w := X.w) (nd_rd I (.inl e))
  obtain ⟨t, rfl⟩ := rv
  have hl := putN_len kvs k n
  refine wpAny_setItem_pairs (hsz := by rw [← r.len]; omega) (keyVN_is ry) dd fun h' dd' hs => h _ ?_
  have new := nd_of hd (by omega) (r.put k n t) dd'
  exact d_write I (by rw [e]; exact nd_mut) hs (let ⟨q, _, _, hq, _⟩ := dd'; ⟨q, hq⟩) (nd_ok new)
/-- .. by a comprehension -/
theorem nd_store {n : Int} {v : Value} {Q : Unit → Shared → Prop} (I : Inv X pins σ H s) (e : H d = some (NdO d kvs)) (hz : kvs.length < sizeLine) (ry : RelV (keyVN k) u) (rv : RelV (.int n) v) (h : ∀ s', Inv X pins σ (upd H d (NdO d (putN kvs k n))) s' → Q () s') : wpAny (model X.prog X.w) A (dictSet d u v) Q E s := by
  obtain ⟨hd, _, vs, r, dd⟩ := nd_dict (P := X.prog) (w := X.w) (nd_rd I (.inl e))
  obtain ⟨t, rfl⟩ := rv
  have hl := putN_len kvs k n
  refine wpAny_dictSet_pairs (hsz := by rw [← r.len]; omega) (keyVN_is ry) dd fun h' dd' hs => h _ ?_
  have new := nd_of hd (by omega) (r.put k n t) dd'
  exact d_write I (by rw [e]; exact nd_mut) hs (let ⟨q, _, _, hq, _⟩ := dd'; ⟨q, hq⟩) (nd_ok new)
theorem nd_new (h : Heap) (hb : sysModules < h.objs.size) : NdAt (h.push { cls := .type "dict", data := .dict #[] }) h.objs.size [] :=
  ⟨by have : h.objs.size ≠ sysModules := Nat.ne_of_gt hb
      simpa using this, by simp, by simp, _, #[], 0, Heap.get?_push_size _ rfl, ⟨rfl, rfl, rfl⟩, rfl, .nil⟩
end
end Mv

set_option maxRecDepth 100000
set_option maxHeartbeats 4000000
/-! such dicts walked, and made by a comprehension -/
namespace Mv
open PySem L2 PySem.Spec PyProof.Rows
/-- the keys of such a dict that is locked -/
def Itn (d : Addr) (o : Obj) (kvs : List (Option Int × Int)) : It where
  go := fun i G => G d = some (.frz o (NdO d kvs)) ∧ i < kvs.length
  yld := fun i G x G' => G' = G ∧ ∃ k n, kvs[i]? = some (k, n) ∧ x = keyVN k
  stop := fun i G => G d = some (.frz o (NdO d kvs)) ∧ kvs.length ≤ i
theorem NvR.get {a : List (Option Int × Int)} {b : List (Option Int × Value)} (r : NvR a b) : ∀ {i : Nat} {k : Option Int} {n : Int}, a[i]? = some (k, n) → ∃ t, b[i]? = some (k, .int n t) := by
  induction r with
  | nil => intro i k n e; simp at e
  | @cons k0 n0 t a b _ ih =>
    intro i k n e
    cases i with
    | zero =>
      simp at e
      obtain ⟨rfl, rfl⟩ := e
      exact ⟨t, rfl⟩
    | succ i =>
      obtain ⟨t', h⟩ := ih (i := i) (k := k) (n := n) (by simpa using e)
      exact ⟨t', by simpa using h⟩
section
variable {X : Cx} {pins : List (Addr × Obj)} {σ : L2.St} {H : Hp} {s : Shared} {d : Addr} {o : Obj} {kvs : List (Option Int × Int)}
theorem frzN (I : Inv X pins σ H s) (e : H d = some (.frz o (NdO d kvs))) : (d == sysModules) = false ∧ s.heap.get? d = some o ∧ o.ExactDict ∧ ∃ es ep vs, o.data = .dict es ep ∧ es.size = kvs.length ∧ NvR kvs vs ∧ s.heap.DictAt (optKind X.prog X.w) d vs ep := by
  obtain ⟨at1, nd⟩ := I.hok d _ e
  obtain ⟨h1, h2, h3, o', es, ep, h4, h5, h6, h7⟩ : NdAt s.heap d kvs := nd.1
  rw [at1] at h4
  cases h4
  obtain ⟨vs, r, p, q⟩ := enN_pairs (P := X.prog) (w := X.w) h7
  have l1 := p.length
  have l2 := r.len
  rw [Array.length_toList] at l1
  exact ⟨h1, at1, h5, es, ep, vs, h6, by omega, r, o, es, at1, h5, h6, (fun e he => q e (by simpa using he)), p, by rw [r.keys]; exact h3⟩
theorem turn_n {P : Program} {w : World} {K : PySem.W.Frag} {tg : Expr} (it : Addr) {es : Array DictEntry} {ep : Nat} (dat : o.data = .dict es ep) : Turn P w K tg (Itn d o kvs) [it] it (fun i g => g.IsKeyIter it d i kvs.length ep) where
  mem := List.mem_singleton.mpr rfl
  obj := fun i g st b hb => by
    rw [List.mem_singleton.mp hb]
    obtain ⟨oi, e1, _, e2⟩ := st
    exact ⟨oi, e1, fun v z => by rw [e2] at z; cases z⟩
  keep := fun i g g' st k => st.at fun oi e1 => k it (List.mem_singleton.mpr rfl) oi e1
  item := by
    intro X e1 e2 e3 hc i pins s σ G E inv hf st ⟨at1, lt⟩
    subst e1; subst e2; subst e3
    obtain ⟨a0, a1, a2, a3, a4, a5⟩ := hf it (List.mem_singleton.mpr rfl)
    obtain ⟨_, _, _, es', ep', vs, dat', _, r, dat2⟩ := frzN inv at1
    obtain ⟨rfl, rfl⟩ := dict_ep dat dat'
    obtain ⟨⟨k, n⟩, hk⟩ : ∃ p, kvs[i]? = some p := ⟨kvs[i], List.getElem?_eq_getElem lt⟩
    obtain ⟨t, hv⟩ := r.get hk
    rw [r.len] at st
    refine wpAny_pyNext_dict_item st dat2 hv fun key g2 isk st2 but => ?_
    have inv2 : Inv X pins σ G { s with heap := g2 } := inv.turned (t' := s.toks) (fun b ob nb e => (but.2 b nb).trans e) a0 a1 a3 a4 a5
    obtain ⟨oi, q1, q2, q3⟩ := id st2
    refine ⟨key, rfl, L2.go_of (s := { s with heap := g2 }) q1 q2 q3 (by decide) ⟨keyVN k, G, inv2, isO_rel isk, ⟨rfl, k, n, hk, rfl⟩, ?_, fun b hb => (hf b hb).1⟩⟩
    show Heap.IsKeyIter g2 it d (i + 1) kvs.length _
    rw [r.len]
    exact st2
  done := by
    intro X e1 e2 e3 hc i pins s σ G E inv hf st ⟨at1, le⟩
    subst e1; subst e2; subst e3
    obtain ⟨a0, a1, a2, a3, a4, a5⟩ := hf it (List.mem_singleton.mpr rfl)
    obtain ⟨_, hat, _, es', ep', vs, dat', siz, r, dat2⟩ := frzN inv at1
    obtain ⟨rfl, rfl⟩ := dict_ep dat dat'
    exact next_key_end (inv.ok.hd hc) st hat dat' siz le fun g2 eb => ⟨rfl, inv.turned (t' := s.toks) (fun b ob nb e => eb b ob nb e) a0 a1 a3 a4 a5⟩
  self := fun A i s Q E st q => wpAny_pyIter_keyiter st q
theorem pi_n {tg e : Expr} {td : TE} (he : PE X e td) : PI X tg e (fun σ H R => td σ H fun x G => ∃ d o kvs, x = .ref d ∧ G d = some (.frz o (NdO d kvs)) ∧ R (Itn d o kvs) G) := by
  refine ⟨fun pins s σ H R inv wish => thn (he.run pins s σ H _ inv wish) fun u s1 ⟨x, G, inv1, rx, d, o, kvs, ex, at1, q⟩ => ?_⟩
  subst ex
  obtain rfl : u = Value.ref d := rx
  obtain ⟨h1, h2, h3, es, ep, vs, dat, siz, r, _⟩ := frzN inv1 at1
  refine iter_keys h1 h2 h3 dat (pi_one (tk := s1.toks) inv1 _ (turn_n _ dat) ⟨_, Heap.get?_push_size _ rfl, rfl, ?_⟩ q)
  rw [siz] <;> rfl
end
section
variable {X : Cx} {W : WX} {ss : List Stmt} {ts : DS} {tg : Expr} {pos : Pos}
def odnK (o : Option Sl) (Φ : List (Option Int × Int) → Prop) : Prop := match o with
  | some (.odn ds) => Φ ds
  | _ => False
theorem odnK_inv {o : Option Sl} {Φ : List (Option Int × Int) → Prop} (h : odnK o Φ) : ∃ ds, o = some (.odn ds) ∧ Φ ds := by
  unfold odnK at h
  split at h
  · exact ⟨_, rfl, h⟩
  · exact h.elim
/-- the own dict in slot i is not changed any more -/
def sLockN (i : Nat) (r : DS) : DS := fun ρ Ξ E => odnK (nth ρ i) fun ds => r (ρ.set i (.fdn ds)) Ξ E
theorem rs_lockN (i : Nat) (h : RS X W ss ts) : RS X W ss (sLockN i ts) := fun ρ Ξ E k B F H σ env D d dx pins s I => by
  obtain ⟨ds, hi, k⟩ := odnK_inv k
  have hi : ρ[i]? = some (.odn ds) := by rw [← nth_eq]; exact hi
  obtain ⟨p, e1, hp, fp, h0, nm⟩ := env.sl i _ hi
  obtain ⟨od, I2⟩ := I.lock hp nd_mut
  exact h _ _ _ k B _ _ σ (env.lockOwn (o := .frz od (NdO p ds)) hi rfl e1 (fun _ _ _ z => nomatch z) ⟨p, od, e1, upd_same⟩ rfl) D d dx pins s I2
def keyBN : Option Int → PyData
  | none => .none
  | some i => .int i
theorem keyBN_rp {K : PySem.W.Frag} {F : Hp} (k : Option Int) : Rp K F (keyVN k) (keyBN k) := by
  cases k with
  | none => exact .non
  | some i => exact .int i
theorem itOk_n {K : PySem.W.Frag} {M : Addr → Prop} {F : Hp} {p : Addr} {ob : Obj} {ds : List (Option Int × Int)} (h : F p = some (.frz ob (NdO p ds))) : ItOk K M F (Itn p ob ds) (ds.map fun kv => keyBN kv.1) where
  go := fun i F' H' s1 s2 hi => ⟨s2 _ _ (s1 _ _ h), by simpa using hi⟩
  yld := fun i F' H' v H'' d s1 s2 hd y => by
    obtain ⟨rfl, k, n, hk, rfl⟩ := y
    refine ⟨F', Step.refl s2, ?_⟩
    rw [List.getElem?_map, hk] at hd
    cases hd
    exact keyBN_rp _
  stop := fun i F' H' s1 s2 hi => ⟨s2 _ _ (s1 _ _ h), by simpa using hi⟩
/-- its keys, walked -/
def iDn (i : Nat) : DI := fun ρ _ Φ => match nth ρ i with
  | some (.fdn ds) => Φ (ds.map fun kv => keyBN kv.1)
  | _ => False
theorem ri_dn (i : Nat) {x : Str} (hx : nmOk X.env.scope x = true := by kernel_rfl) (hN : X.N[i]? = some x := by kernel_rfl) : RI X W tg (.Name x pos) (iDn i) := fun ρ Ξ Φ h B F H σ env R q qx => by
  unfold iDn at h
  split at h
  · rename_i ds hi
    rw [nth_eq] at hi
    obtain ⟨h1, h2, h3⟩ := nmOk_inv hx
    obtain ⟨p, ob, e1, hp⟩ := env.sl i _ hi
    exact wI_of (pi_n (pv i hN h1 h2 h3)) ⟨.ref p, e1, p, ob, ds, rfl, env.sub _ _ hp, q _ _ F H h (Step.refl env.sub) (itOk_n hp)⟩
  · exact h.elim
end
end Mv

set_option maxRecDepth 100000
set_option maxHeartbeats 4000000
/-! such dicts made by a comprehension; asked, read, stored into -/
namespace Mv
open PySem L2 PySem.Spec PyProof.Rows
section
variable {X : Cx}
/-- a turn of such a comprehension -/
def DcnAt (J : It) (g : TG) (tt : TT) (tk tv : TE) (vs : List Nat) (σ : L2.St) (D : Addr) (Q : VK) (W : Nat → Nat → Hp → Prop) (i m : Nat) (G : Hp) : Prop :=
  (J.stop i G ∧ Q (.ref D) G) ∨ (J.go i G ∧ ∃ Nx : Hp → Prop, (∀ G', Nx G' → ∃ m', m' < m ∧ W (i + 1) m' G') ∧ ∀ x G1, J.yld i G x G1 → g x (L2.wipe σ vs) G1 fun τ G2 => L2.wipe τ vs = L2.wipe σ vs ∧ tt τ G2 fun b G3 =>
    match b with
    | true => tk τ G3 fun y G4 => tv τ G4 fun z G5 => ∃ kvs k n, y = keyVN k ∧ z = .int n ∧ G5 D = some (NdO D kvs) ∧ kvs.length < sizeLine ∧ Nx (upd G5 D (NdO D (putN kvs k n)))
    | false => Nx G3)
def tDcn (wi : TI) (g : TG) (tt : TT) (tk tv : TE) (vs : List Nat) : TE := fun σ H Q => wi σ H fun J G => ∀ D, G D = none → ∃ W : Nat → Nat → Hp → Prop, (∃ m, W 0 m (upd G D (NdO D []))) ∧ ∀ i m G, W i m G → DcnAt J g tt tk tv vs σ D Q W i m G
theorem pe_dcn {kx vx tg iter : Expr} {ifs : List Expr} {scope : Scope} {own : List (Str × Nat)} {pos : Pos} {wi : TI} {g : TG} {tt : TT} {tk tv : TE} (calm : X.calm = true) (nd : X.N.Nodup) (pi : PI X tg iter wi) (ok : BlkOk X.N X.env.scope scope own)
    (pg : ∀ (s : Shared) (H : Hp) (C : Addr) (cl : List (Str × Addr)) (fp : List Addr), PG (blkX X scope s H C cl fp) tg g) (pt : ∀ (s : Shared) (H : Hp) (C : Addr) (cl : List (Str × Addr)) (fp : List Addr), PTs (blkX X scope s H C cl fp) ifs tt)
    (pk : ∀ (s : Shared) (H : Hp) (C : Addr) (cl : List (Str × Addr)) (fp : List Addr), PE (blkX X scope s H C cl fp) kx tk) (pv : ∀ (s : Shared) (H : Hp) (C : Addr) (cl : List (Str × Addr)) (fp : List Addr), PE (blkX X scope s H C cl fp) vx tv)
    (plain : ∀ x, foldedSetIterable iter X.env x = pure x := by intro _; rfl) : PE X (.DictComp kx vx [⟨tg, iter, ifs, 0⟩] scope pos) (tDcn wi g tt tk tv (own.map (·.2))) := by
  refine ⟨fun pins s σ H Q inv wish => ?_⟩
  have free : ∀ y ∈ scope.names, y.2 = .free → ∃ c, X.env.cells.lookup y.1 = some c := fun y hy e => (ok.free y hy e).elim (fun z => inv.ok.has _ (.inl z)) fun z => inv.ok.has _ (.inr z)
  rw [arm_eval_DictComp]
  refine wpAny_comprehension_free (use := none) rfl plain (closure_ok free) ok.kind (fun y hy e => by rw [ok.uniq y hy, e]) (thn (pi.run pins s σ H _ inv wish) fun _ s1 come => thn come fun _ s2 got => ?_)
  obtain ⟨it, fp, tn, J, G, rfl, inv2, T, at2, fine, turns⟩ := got
  refine wpAny_newObj_type (newEnv_comp ?_)
  obtain ⟨D, eD⟩ : ∃ D, s2.heap.objs.size = D := ⟨_, rfl⟩
  have noD : G D = none := inv2.hok.fresh (by rw [eD]; exact Nat.le_refl _)
  obtain ⟨Wv, ⟨m0, start⟩, go⟩ := turns D noD
  obtain ⟨s3, e3⟩ : ∃ s3 : Shared, { s2 with heap := s2.heap.push { cls := .type "dict", data := .dict #[] } } = s3 := ⟨_, rfl⟩
  have hp3 : s3.heap = s2.heap.push { cls := .type "dict", data := .dict #[] } := by rw [← e3]
  obtain ⟨G3, eG⟩ : ∃ G3, upd G D (NdO D []) = G3 := ⟨_, rfl⟩
  have inv3 : Inv X pins σ G3 s3 := by
    rw [← e3, ← eG]
    refine inv2.laid (t' := s2.toks) (fun b o e => Heap.get?_push_of_some _ e) (by rw [eD]; exact Nat.le_refl _) ?_
    have q := nd_new s2.heap inv2.big
    rw [eD] at q
    exact nd_ok q
  rw [eG] at start
  have small : ∀ b ∈ fp, b < s2.heap.objs.size := fun b hb => let ⟨_, e, _⟩ := T.obj _ _ at2 b hb; Heap.lt_size e
  have fine3 : ∀ b ∈ fp, FpOk X pins G3 b ∧ b < s3.heap.objs.size := fun b hb => by
    have lt := small b hb
    refine ⟨⟨?_, (fine b hb).2⟩, by rw [hp3, Heap.size_push]; exact Nat.lt_succ_of_lt lt⟩
    rw [← eG, upd_ne (by rw [← eD]; exact Nat.ne_of_lt lt)]
    exact (fine b hb).1
  have at3 : tn 0 s3.heap := T.keep _ _ _ at2 fun b _ o e => by rw [hp3]; exact Heap.get?_push_of_some _ e
  have inv4 := block_start inv3 ok nd fine3
  have pg := pg s3 G3 s3.heap.objs.size (cellsFrom (s3.heap.objs.size + 1) scope.names (cloFrom X.env.cells scope.names [])) fp
  have pt := pt s3 G3 s3.heap.objs.size (cellsFrom (s3.heap.objs.size + 1) scope.names (cloFrom X.env.cells scope.names [])) fp
  have pk := pk s3 G3 s3.heap.objs.size (cellsFrom (s3.heap.objs.size + 1) scope.names (cloFrom X.env.cells scope.names [])) fp
  have pv := pv s3 G3 s3.heap.objs.size (cellsFrom (s3.heap.objs.size + 1) scope.names (cloFrom X.env.cells scope.names [])) fp
  have none3 : ∀ b ∈ fp, G3 b = none := fun b hb => (fine3 b hb).1.1
  rw [eD, e3]
  show codeAny _ _ (.compStart (.DictComp kx vx [⟨tg, iter, ifs, 0⟩] scope pos) 0 (.ref it) (.ref D) (compEnvC scope (cellsFrom (s3.heap.objs.size + 1) scope.names (cloFrom X.env.cells scope.names [])) s3.heap.objs.size X.env)) (compPost (model X.prog X.w) X.A X.xe none (fun v s1 => EP X pins σ Q v s1) (.ref D) s3.heap.objs.size) { s3 with heap := pushCells (s3.heap.push { cls := .type "dict", data := .dict #[] }) scope.names }
  obtain ⟨ce, eC⟩ : ∃ ce, compEnvC scope (cellsFrom (s3.heap.objs.size + 1) scope.names (cloFrom X.env.cells scope.names [])) s3.heap.objs.size X.env = ce := ⟨_, rfl⟩
  have loc : ce.locals = s3.heap.objs.size := by rw [← eC]; rfl
  have blk : blkX X scope s3 G3 s3.heap.objs.size (cellsFrom (s3.heap.objs.size + 1) scope.names (cloFrom X.env.cells scope.names [])) fp = X.blk s3 G3 scope ce fp := by rw [← eC]
  rw [blk] at pg pt pk pv
  rw [eC] at inv4 ⊢
  obtain ⟨s4, e4⟩ : ∃ s4 : Shared, { s3 with heap := pushCells (s3.heap.push { cls := .type "dict", data := .dict #[] }) scope.names } = s4 := ⟨_, rfl⟩
  rw [e4] at inv4 ⊢
  have at4 : tn 0 s4.heap := T.keep _ _ _ at3 fun b _ o e => by rw [← e4]; exact pushCells_keeps _ _ _ _ (Heap.get?_push_of_some _ e)
  have fineB : ∀ {τ : L2.St} {G' : Hp} {s' : Shared}, Inv (X.blk s3 G3 scope ce fp) [] τ G' s' → (∀ b ∈ fp, G' b = none) → ∀ b ∈ fp, FpOk (X.blk s3 G3 scope ce fp) [] G' b := fun {τ G' s'} iv n b hb =>
    ⟨n b hb, (iv.ok.exf b hb).1, iv.ok.exfs b hb, .inl hb, fun x c e => (iv.ok.exf b hb).2 x c e, fun p hp => by cases (show p ∈ ([] : List (Addr × Obj)) from hp)⟩
  have loop : codeAny (model X.prog X.w) X.A (.compLoop (.DictComp kx vx [⟨tg, iter, ifs, 0⟩] scope pos) 0 (.ref it) (.ref D) ce) (compPost (model X.prog X.w) X.A X.xe none (fun v s1 => EP X pins σ Q v s1) (.ref D) s3.heap.objs.size) s4 := by
    refine compLoop_anyD (fun m s' => ∃ i G', Inv (X.blk s3 G3 scope ce fp) [] (L2.wipe σ (own.map (·.2))) G' s' ∧ tn i s'.heap ∧ (∀ b ∈ fp, G' b = none) ∧ Wv i m G') ?_ m0 ⟨0, G3, inv4, at4, none3, start⟩
    rintro m s5 ⟨i, G5, inv5, at5, none5, w5⟩
    rcases go i m G5 w5 with ⟨stop, done⟩ | ⟨goes, Nx, next, step⟩
    · refine thnF (T.done (X.blk s3 G3 scope ce fp) rfl rfl rfl calm i [] s5 _ G5 (fun _ _ => False) inv5 (fineB inv5 none5) at5 stop) fun r s6 ⟨er, inv6⟩ => ?_
      subst er
      have inv7 : Inv X pins σ G5 s6 := inv3.call' (ch := fp) inv6.os inv6.base inv6.hok inv6.bare fun b hb => let z := (fine3 b hb).1; ⟨z.2.2.2.1, z.2.1, z.2.2.2.2.1, z.2.2.2.2.2⟩
      have noC : G5 s3.heap.objs.size = none := by rw [← loc]; exact inv6.free
      obtain ⟨mm, ns, _⟩ := inv6.loc
      have ns : s6.heap.Ns ce.locals mm := ns
      rw [loc] at ns
      obtain ⟨a0, a1, a2, a3, a4, a5⟩ := inv3.fpOk (Nat.le_refl _) noC
      exact ⟨mm, ns, fun h'' sb => ⟨.ref D, G5, inv7.turned (t' := s6.toks) (fun b o nb e => (sb.2 b nb).trans e) a0 a1 a3 a4 a5, rfl, done⟩⟩
    · refine thnF (T.item (X.blk s3 G3 scope ce fp) rfl rfl rfl calm i [] s5 _ G5 (fun _ _ => False) inv5 (fineB inv5 none5) at5 goes) fun r s6 ⟨u, er, more⟩ => ?_
      subst er
      refine thnF more fun _ s7 ⟨x, G7, inv7, rx, yx, at7, none7⟩ => ?_
      refine thnF (pg.run _ s7 _ G7 x u _ (inv7.pinned (fineB inv7 none7) (T.obj _ _ at7)) rx (step x G7 yx)) fun _ s8 ⟨τ, G8, inv8, wip, more8⟩ => ?_
      refine thnF (pt.run _ s8 τ G8 _ inv8 more8) fun b s9 ⟨G9, inv9, more9⟩ => ?_
      have fin : ∀ {s' : Shared} {G' : Hp}, Inv (X.blk s3 G3 scope ce fp) ([] ++ pinsAt fp s7.heap) τ G' s' → Nx G' → ∃ m', m' < m ∧ ∃ i G', Inv (X.blk s3 G3 scope ce fp) [] (L2.wipe σ (own.map (·.2))) G' s' ∧ tn i s'.heap ∧ (∀ b ∈ fp, G' b = none) ∧ Wv i m' G' := fun {s' G'} iv nx => by
        obtain ⟨m', lt, w'⟩ := next G' nx
        have pin : ∀ b ∈ fp, ∀ o, s7.heap.get? b = some o → s'.heap.get? b = some o ∧ G' b = none := fun b hb o e =>
          let z := iv.pin (b, o) (List.mem_append_right _ (List.mem_append_right _ (mem_pinsAt hb e)))
          ⟨z.1, z.2.1⟩
        refine ⟨m', lt, i + 1, G', (iv.unpinned (pins := [])).weak (by rw [← wip, wipe_length]) (fun j v e => ?_), T.keep _ _ _ at7 fun b hb o e => (pin b hb o e).1, fun b hb => ?_, w'⟩
        · rw [← wip] at e
          exact (wipe_some e).1
        · obtain ⟨o, e, _⟩ := T.obj _ _ at7 b hb
          exact (pin b hb o e).2
      cases b with
      | false =>
        rw [if_neg Bool.false_ne_true]
        exact fin inv9 more9
      | true =>
        rw [if_pos rfl]
        refine thnF (pk.run _ s9 τ G9 _ inv9 more9) fun z s10 ⟨yk, Ga, inva, ra, morea⟩ => ?_
        refine thnF (pv.run _ s10 τ Ga _ inva morea) fun z2 s11 ⟨yv, Gb, invb, rb, kvs, k, n, ek, ev, atD, few, nx⟩ => ?_
        subst ek
        subst ev
        exact nd_store (X := X.blk s3 G3 scope ce fp) invb atD few ra rb fun s12 inv12 => fin inv12 nx
  exact codeAny_compStart_dict loop (T.self X.A 0 _ _ _ at4 loop)
end

/-! ### over data -/
section
variable {X : Cx} {W : WX} {ρ : List Sl} {tg iter kx vx : Expr} {ifs : List Expr} {scope : Scope} {own : List (Str × Nat)} {Ξ : Exn → Prop} {Ψ : Sl → Prop} {pos : Pos}
def keyNo : PyData → Option (Option Int)
  | .none => some none
  | .int i => some (some i)
  | _ => none
theorem keyNo_rp {K : PySem.W.Frag} {F : Hp} {v : V} {d : PyData} {k : Option Int} (h : keyNo d = some k) (r : Rp K F v d) : v = keyVN k := by
  cases r <;> first | (cases h; rfl) | (cases h; done)
def DcnTurn (X : Cx) (scope : Scope) (vs : List Nat) (ρ : List Sl) (tg : Expr) (ifs : List Expr) (kx vx : Expr) (d : PyData) (P1 : Option Int → Int → Prop) (P0 : Prop) : Prop :=
  ∀ s H C cl fp, Cxt (blkX X scope s H C cl fp) W0 → WG (blkX X scope s H C cl fp) ρ tg d (· ∈ vs) fun ρ2 => ∀ s H C cl fp, Cxt (blkX X scope s H C cl fp) W0 → WTs (blkX X scope s H C cl fp) ρ2 ifs fun b =>
    (b = true → ∀ s H C cl fp, Cxt (blkX X scope s H C cl fp) W0 → WE (blkX X scope s H C cl fp) W0 ρ2 kx X0 fun y => ∃ k, keyNo y = some k ∧ ∀ s H C cl fp, Cxt (blkX X scope s H C cl fp) W0 → WE (blkX X scope s H C cl fp) W0 ρ2 vx X0 fun z => ∃ n, z = .int n ∧ P1 k n) ∧ (b = false → P0)
def DcnOk (X : Cx) (W : WX) (ρ : List Sl) (scope : Scope) (own : List (Str × Nat)) (tg iter kx vx : Expr) (ifs : List Expr) (Ξ : Exn → Prop) (Ψ : Sl → Prop) : Prop :=
  WI X W ρ tg iter Ξ fun ds => ∃ I : Nat → List (Option Int × Int) → Prop, I 0 [] ∧ (∀ i d acc, ds[i]? = some d → I i acc → acc.length < 8000000 ∧ DcnTurn X scope (own.map (·.2)) (wipeS ρ (own.map (·.2))) tg ifs kx vx d (fun k y => I (i + 1) (putN acc k y)) (I (i + 1) acc)) ∧ ∀ acc, I ds.length acc → Ψ (.odn acc)
theorem dcn_run (C : Cxt X W) (h : DcnOk X W ρ scope own tg iter kx vx ifs Ξ Ψ) {B : Base} {F H : Hp} {σ : L2.St} (env : EnvOk X.K B F H σ ρ) {Q : VK} (q : OkK X.K B.M F H Ψ Q) (qx : ExE X.K B.M F H W σ Ξ) :
    tDcn (wI X tg iter) (fun v σ H Q => ∀ s H0 C cl fp, wG (blkX X scope s H0 C cl fp) tg v σ H Q) (fun σ H Q => ∀ s H0 C cl fp, wTs (blkX X scope s H0 C cl fp) ifs σ H Q) (fun σ H Q => ∀ s H0 C cl fp, wE (blkX X scope s H0 C cl fp) kx σ H Q) (fun σ H Q => ∀ s H0 C cl fp, wE (blkX X scope s H0 C cl fp) vx σ H Q) (own.map (·.2)) σ H Q := by
  refine h B F H σ env _ (fun J ds F1 H1 hI st ok2 => ?_) qx
  obtain ⟨I, i0, step, fin⟩ := hI
  intro D hD
  have env1 := env.step st
  have nD : ¬ B.M D := env1.notM (env1.fresh0 hD)
  refine ⟨fun i m H' => m = ds.length - i ∧ i ≤ ds.length ∧ ∃ F' acc, I i acc ∧ Step B.M F1 H1 F' H' ∧ F' D = none ∧ H' D = some (NdO D acc), ⟨_, rfl, Nat.zero_le _, F1, [], i0, Step.own st.sub hD, none_sub st.sub hD, upd_same⟩, ?_⟩
  rintro i m H2 ⟨rfl, hi, F2, acc, hI, st2, fD, hD2⟩
  by_cases hlt : i < ds.length
  · refine .inr ⟨ok2.go i F2 H2 st2.fr st2.sub hlt, fun H' => ∃ F' acc, I (i + 1) acc ∧ Step B.M F1 H1 F' H' ∧ F' D = none ∧ H' D = some (NdO D acc), fun H' q' => ⟨ds.length - (i + 1), by omega, rfl, hlt, q'⟩, fun v H3 hy => ?_⟩
    obtain ⟨F3, st3, rv⟩ := ok2.yld i F2 H2 v H3 ds[i] st2.fr st2.sub (List.getElem?_eq_getElem hlt) hy
    obtain ⟨hlen, turn⟩ := step i _ acc (List.getElem?_eq_getElem hlt) hI
    have envW := ((env1.step (st2.trans st3)).wipe (own.map (·.2)))
    intro s0 H0 c0 cl0 fp0
    refine turn s0 H0 c0 cl0 fp0 C.blk B F3 H3 _ v envW rv _ fun ρ2 σ2 tst env4 hl hT => ⟨?_, fun s5 H5 c5 cl5 fp5 => ?_⟩
    · rw [wipe_eq (vs := own.map (·.2)) hl hT, wipe_wipe]
    · refine wts_run (tst s5 H5 c5 cl5 fp5 C.blk) env4 fun b F6 H6 hb st6 => ?_
      have fD6 : F6 D = none := by
        rw [st6.new D (by rw [st3.keep D _ nD hD2]; exact fun z => nomatch z), st3.new D (by rw [hD2]; exact fun z => nomatch z)]
        exact fD
      have hD6 : H6 D = some (NdO D acc) := st6.keep D _ nD (st3.keep D _ nD hD2)
      cases b with
      | true =>
        intro s7 H7 c7 cl7 fp7
        refine hb.1 rfl s7 H7 c7 cl7 fp7 C.blk B F6 H6 σ2 (env4.step st6) _ (fun yk dk F7 H7' hk st7 rk => ?_) (fun _ _ _ _ _ z => z.elim)
        obtain ⟨k, ek, hv⟩ := hk
        have hD7 : H7' D = some (NdO D acc) := st7.keep D _ nD hD6
        have fD7 : F7 D = none := by
          rw [st7.new D (by rw [hD6]; exact fun z => nomatch z)]
          exact fD6
        intro s8 H8' c8 cl8 fp8
        refine hv s8 H8' c8 cl8 fp8 C.blk B F7 H7' σ2 ((env4.step st6).step st7) _ (fun y d F8 H8 hy8 st8 ry => ?_) (fun _ _ _ _ _ z => z.elim)
        obtain ⟨n, rfl, hy8⟩ := hy8
        have hD8 : H8 D = some (NdO D acc) := st8.keep D _ nD hD7
        have fD8 : F8 D = none := by
          rw [st8.new D (by rw [hD7]; exact fun z => nomatch z)]
          exact fD7
        have all := (((st2.trans st3).trans st6).trans st7).trans st8
        refine ⟨acc, k, n, keyNo_rp ek rk, ry.int_inv, hD8, Nat.lt_of_lt_of_le hlen (by decide : 8000000 ≤ sizeLine), F8, putN acc k n, hy8, ⟨all.fr, fun a x e => ?_, fun a x n e => ?_, all.new, fun a n => ?_, fun a m dr => ?_⟩, fD8, upd_same⟩
        · have np : a ≠ D := fun z => by rw [z, fD8] at e; cases e
          rw [upd_ne np]
          exact all.sub a x e
        · have np : a ≠ D := fun z => by rw [z, hD] at e; cases e
          rw [upd_ne np]
          exact all.keepD a x n e
        · have np : a ≠ D := fun z => n (by rw [z]; exact hD)
          rw [upd_ne np]
          exact all.alive a n
        · have np : a ≠ D := fun z => nD (by rw [← z]; exact m)
          exact (all.dr a m dr).same (upd_ne np).symm
      | false =>
        exact ⟨F6, acc, hb.2 rfl, (st2.trans st3).trans st6, fD6, hD6⟩
  · have e : i = ds.length := by omega
    subst e
    exact .inl ⟨ok2.stop _ F2 H2 st2.fr st2.sub (Nat.le_refl _), q _ (.odn acc) F2 H2 (fin acc hI) (st.trans st2) ⟨D, rfl, st.back D hD, hD2, fD⟩⟩
theorem wk_dcn (C : Cxt X W) (ok : BlkOk X.N X.env.scope scope own) (h : DcnOk X W ρ scope own tg iter kx vx ifs Ξ Ψ) (hs : ∀ x, foldedSetIterable iter X.env x = pure x := by intro _; rfl) : WK X W ρ (.DictComp kx vx [⟨tg, iter, ifs, 0⟩] scope pos) Ξ Ψ := fun B F H σ env Q q qx =>
  wE_of (pe_dcn C.calm C.nd pi_w ok (fun s H0 C cl fp => ⟨fun pins s1 σ H v u Q I r h => h s H0 C cl fp pins s1 u I r⟩) (fun s H0 C cl fp => ⟨fun pins s1 σ H Q I h => h s H0 C cl fp pins s1 I⟩) (fun s H0 C cl fp => ⟨fun pins s1 σ H Q I h => h s H0 C cl fp pins s1 I⟩) (fun s H0 C cl fp => ⟨fun pins s1 σ H Q I h => h s H0 C cl fp pins s1 I⟩) hs) (dcn_run C h env q qx)
variable {e : Expr} {it : DI} {g : DG} {tt : DT} {tk tv : DE}
def turnDcn (vs : List Nat) (g : DG) (tt : DT) (tk tv : DE) (ρ : List Sl) (d : PyData) (P1 : Option Int → Int → Prop) (P0 : Prop) : Prop :=
  g d (wipeS ρ vs) fun ρ2 => tt ρ2 X0 fun b => brk b (Go (tk ρ2 X0 fun y => someK (keyNo y) fun k => tv ρ2 X0 fun z => asI z (P1 k))) (Go P0)
def kDcn (vs : List Nat) (it : DI) (g : DG) (tt : DT) (tk tv : DE) : DK := fun ρ Ξ Φ => it ρ Ξ fun ds => ∃ I : Nat → List (Option Int × Int) → Prop, I 0 [] ∧ (∀ i d acc, ds[i]? = some d → I i acc → acc.length < 8000000 ∧ Go (turnDcn vs g tt tk tv ρ d (fun k y => I (i + 1) (putN acc k y)) (I (i + 1) acc))) ∧ ∀ acc, I ds.length acc → Go (Φ (.odn acc))
theorem dcn_turn (hg : ∀ s H C cl fp, Cxt (blkX X scope s H C cl fp) W0 → RG (blkX X scope s H C cl fp) tg (· ∈ own.map (·.2)) g) (ht : ∀ s H C cl fp, Cxt (blkX X scope s H C cl fp) W0 → RTs (blkX X scope s H C cl fp) ifs tt)
    (hk : ∀ s H C cl fp, Cxt (blkX X scope s H C cl fp) W0 → RE (blkX X scope s H C cl fp) W0 kx tk) (hv : ∀ s H C cl fp, Cxt (blkX X scope s H C cl fp) W0 → RE (blkX X scope s H C cl fp) W0 vx tv) {d : PyData} {P1 : Option Int → Int → Prop} {P0 : Prop} (h : turnDcn (own.map (·.2)) g tt tk tv ρ d P1 P0) : DcnTurn X scope (own.map (·.2)) (wipeS ρ (own.map (·.2))) tg ifs kx vx d P1 P0 := fun s H C cl fp Cb =>
  (hg s H C cl fp Cb d _ _ h).mono fun ρ2 z s H C cl fp Cb => wts_mono (ht s H C cl fp Cb _ _ z) fun b z => ⟨fun e s H C cl fp Cb => (hk s H C cl fp Cb _ _ _ (z.t e)).mono fun y z => by
    obtain ⟨k, ek, z⟩ := someK_inv z
    exact ⟨k, ek, fun s H C cl fp Cb => (hv s H C cl fp Cb _ _ _ z).mono fun v z => asI_inv z⟩, fun e => z.f e⟩
theorem rk_dcn (C : Cxt X W) (ok : BlkOk X.N X.env.scope scope own) (hi : RI X W tg e it) (hg : ∀ s H C cl fp, Cxt (blkX X scope s H C cl fp) W0 → RG (blkX X scope s H C cl fp) tg (· ∈ own.map (·.2)) g) (ht : ∀ s H C cl fp, Cxt (blkX X scope s H C cl fp) W0 → RTs (blkX X scope s H C cl fp) ifs tt)
    (hk : ∀ s H C cl fp, Cxt (blkX X scope s H C cl fp) W0 → RE (blkX X scope s H C cl fp) W0 kx tk) (hv : ∀ s H C cl fp, Cxt (blkX X scope s H C cl fp) W0 → RE (blkX X scope s H C cl fp) W0 vx tv) (hs : ∀ x, foldedSetIterable e X.env x = pure x := by intro _; rfl) : RK X W (.DictComp kx vx [⟨tg, e, ifs, 0⟩] scope pos) (kDcn (own.map (·.2)) it g tt tk tv) := fun ρ Ξ Φ h =>
  wk_dcn C ok ((hi _ _ _ h).mono fun ds ⟨I, i0, st, fin⟩ => ⟨I, i0, fun i d acc e hI => ⟨(st i d acc e hI).1, dcn_turn hg ht hk hv (st i d acc e hI).2⟩, fin⟩) hs
end
/-! asked, read, stored into -/
section
variable {X : Cx} {W : WX} {a b : Expr} {ta tb : DE} {pos px p2 : Pos} {ρ : List Sl} {o i value : Expr} {td ty tv : TE}
theorem pc_nin (hi : PE X i ty) (ho : PE X o td) : PC X .In i o (fun σ H Q => ty σ H fun y H1 => td σ H1 fun x H2 => ∃ a kvs k, x = .ref a ∧ y = keyVN k ∧ Rd H2 a (NdO a kvs) ∧ Q (.bl (valN kvs k).isSome) H2) := by
  refine ⟨fun pins s σ H Q I h => thn (hi.run pins s σ H _ I h) fun iv s1 ⟨y, H1, I1, ry, q1⟩ => thn (ho.run pins s1 σ H1 _ I1 q1) fun u s2 ⟨x, H2, I2, rx, a, kvs, k, ex, ey, rd, q2⟩ => ?_⟩
  subst ex
  subst ey
  obtain rfl : u = Value.ref a := rx
  exact nd_in I2 rd ry fun s3 I3 => ⟨.bl _, H2, I3, rfl, q2⟩
theorem pc_nnotin (hi : PE X i ty) (ho : PE X o td) : PC X .NotIn i o (fun σ H Q => ty σ H fun y H1 => td σ H1 fun x H2 => ∃ a kvs k, x = .ref a ∧ y = keyVN k ∧ Rd H2 a (NdO a kvs) ∧ Q (.bl (!(valN kvs k).isSome)) H2) := by
  refine ⟨fun pins s σ H Q I h => thn (hi.run pins s σ H _ I h) fun iv s1 ⟨y, H1, I1, ry, q1⟩ => thn (ho.run pins s1 σ H1 _ I1 q1) fun u s2 ⟨x, H2, I2, rx, a, kvs, k, ex, ey, rd, q2⟩ => ?_⟩
  subst ex
  subst ey
  obtain rfl : u = Value.ref a := rx
  exact nd_nin I2 rd ry fun s3 I3 => ⟨.bl _, H2, I3, rfl, q2⟩
theorem pe_nget (ho : PE X o td) (hi : PE X i ty) (hs : NoSl i) : PE X (.Subscript o i pos) (fun σ H Q => td σ H fun x H1 => ty σ H1 fun y H2 => ∃ a kvs k n, x = .ref a ∧ y = keyVN k ∧ Rd H2 a (NdO a kvs) ∧ valN kvs k = some n ∧ Q (.int n) H2) := by
  refine ⟨fun pins s σ H Q I h => subD_of PySem.F.slot_dict_getitem.lookup hs (thn (ho.run pins s σ H _ I h) fun u s1 ⟨x, H1, I1, rx, q1⟩ => thn (hi.run pins s1 σ H1 _ I1 q1) fun iv s2 ⟨y, H2, I2, ry, a, kvs, k, n, ex, ey, rd, v, q2⟩ => ?_)⟩
  subst ex
  subst ey
  obtain rfl : u = Value.ref a := rx
  obtain ⟨_, _, vs, _, dd⟩ := nd_dict (P := X.prog) (w := X.w) (nd_rd I2 rd)
  exact ⟨dd.typeIs, nd_get I2 rd ry v fun s3 t I3 => ⟨.int n, H2, I3, ⟨t, rfl⟩, q2⟩⟩
theorem ps_nput (ho : PE X o td) (hi : PE X i ty) (hv : PE X value tv) (hs : swapsWith value (some (.Subscript o i p2)) pos.line X.env = pure false) : PS X (.Assign [.Subscript o i p2] value pos) (fun D σ H => tv σ H fun v H1 => td σ H1 fun x H2 => ty σ H2 fun y H3 => ∃ a kvs k n, x = .ref a ∧ y = keyVN k ∧ v = .int n ∧ H3 a = some (NdO a kvs) ∧ kvs.length < sizeLine ∧ D.nx σ (upd H3 a (NdO a (putN kvs k n)))) := by
  refine ⟨fun pins s σ H D I h => wpAny_Assign_Subscript (thn (hv.run pins s σ H _ I h) fun r s1 ⟨v, H1, I1, rv, q1⟩ => thn (ho.run pins s1 σ H1 _ I1 q1) fun u s2 ⟨x, H2, I2, rx, q2⟩ => thn (hi.run pins s2 σ H2 _ I2 q2) fun iv s3 ⟨y, H3, I3, ry, a, kvs, k, n, ex, ey, ev, at1, few, q3⟩ => ?_) hs⟩
  subst ex
  subst ey
  subst ev
  obtain rfl : u = Value.ref a := rx
  exact nd_set I3 at1 few ry rv fun s4 I4 => ⟨σ, _, I4, q3⟩
/-- such a dict, changed or not -/
def ndK (o : Option Sl) (Φ : List (Option Int × Int) → Prop) : Prop := match o with
  | some (.odn ds) => Φ ds
  | some (.fdn ds) => Φ ds
  | _ => False
theorem ndK_at {B : Base} {K : PySem.W.Frag} {F H : Hp} {σ : L2.St} {j : Nat} {Φ : List (Option Int × Int) → Prop} (h : ndK (nth ρ j) Φ) (env : EnvOk K B F H σ ρ) : ∃ p ds, σ[j]? = some (some (.ref p)) ∧ Φ ds ∧ ∀ {F2 H2 : Hp}, Step B.M F H F2 H2 → Rd H2 p (NdO p ds) := by
  unfold ndK at h
  split at h
  · rename_i ds hi
    rw [nth_eq] at hi
    obtain ⟨p, e1, hp, fp, h0, nm⟩ := env.sl j _ hi
    exact ⟨p, ds, e1, h, fun st => .inl (st.keep p _ nm hp)⟩
  · rename_i ds hi
    rw [nth_eq] at hi
    obtain ⟨p, ob, e1, hp⟩ := env.sl j _ hi
    exact ⟨p, ds, e1, h, fun st => .inr ⟨ob, st.sub _ _ (st.fr _ _ hp)⟩⟩
  · exact h.elim
def eInN (neg : Bool) (j : Nat) (t : DE) : DE := fun ρ Ξ Φ => ndK (nth ρ j) fun kvs => t ρ Ξ fun y => someK (keyNo y) fun k => Φ (.bool (cond neg (!(valN kvs k).isSome) (valN kvs k).isSome))
theorem re_inN (j : Nat) {x : Str} (ha : RE X W a ta) (hx : nmOk X.env.scope x = true := by kernel_rfl) (hN : X.N[j]? = some x := by kernel_rfl) (hm : behindInMarks .In (.Name x px) = false := by rfl) : RE X W (.Compare a [.In] [.Name x px] pos) (eInN false j ta) := fun ρ Ξ Φ h B F H σ env Q q qx => by
  obtain ⟨h1, h2, h3⟩ := nmOk_inv hx
  obtain ⟨p, ds, e1, h, rd⟩ := ndK_at h env
  refine wE_of (pe_cmp (pc_nin pe_w (pv j hN h1 h2 h3)) hm) (ha _ _ _ h B F H σ env _ (fun v y F1 H1 hy st r => ?_) qx)
  obtain ⟨k, hk, hy⟩ := someK_inv hy
  exact ⟨.ref p, e1, p, ds, k, rfl, keyNo_rp hk r, rd st, q _ _ F1 H1 hy st (.bl _)⟩
theorem re_ninN (j : Nat) {x : Str} (ha : RE X W a ta) (hx : nmOk X.env.scope x = true := by kernel_rfl) (hN : X.N[j]? = some x := by kernel_rfl) (hm : behindInMarks .NotIn (.Name x px) = false := by rfl) : RE X W (.Compare a [.NotIn] [.Name x px] pos) (eInN true j ta) := fun ρ Ξ Φ h B F H σ env Q q qx => by
  obtain ⟨h1, h2, h3⟩ := nmOk_inv hx
  obtain ⟨p, ds, e1, h, rd⟩ := ndK_at h env
  refine wE_of (pe_cmp (pc_nnotin pe_w (pv j hN h1 h2 h3)) hm) (ha _ _ _ h B F H σ env _ (fun v y F1 H1 hy st r => ?_) qx)
  obtain ⟨k, hk, hy⟩ := someK_inv hy
  exact ⟨.ref p, e1, p, ds, k, rfl, keyNo_rp hk r, rd st, q _ _ F1 H1 hy st (.bl _)⟩
theorem rt_inN (j : Nat) {x : Str} (ha : RE X W a ta) (hx : nmOk X.env.scope x = true := by kernel_rfl) (hN : X.N[j]? = some x := by kernel_rfl) (hm : behindInMarks .In (.Name x px) = false := by rfl) : RT X W (.Compare a [.In] [.Name x px] pos) (tV (eInN false j ta)) := fun ρ Ξ Θ h B F H σ env Q q qx => by
  obtain ⟨h1, h2, h3⟩ := nmOk_inv hx
  obtain ⟨p, ds, e1, h, rd⟩ := ndK_at h env
  refine wT_of (pt_cmp (pc_nin pe_w (pv j hN h1 h2 h3)) hm) (ha _ _ _ h B F H σ env _ (fun v y F1 H1 hy st r => ?_) qx)
  obtain ⟨k, hk, hy⟩ := someK_inv hy
  exact ⟨.ref p, e1, p, ds, k, rfl, keyNo_rp hk r, rd st, _, rfl, q _ F1 H1 hy st⟩
theorem rt_ninN (j : Nat) {x : Str} (ha : RE X W a ta) (hx : nmOk X.env.scope x = true := by kernel_rfl) (hN : X.N[j]? = some x := by kernel_rfl) (hm : behindInMarks .NotIn (.Name x px) = false := by rfl) : RT X W (.Compare a [.NotIn] [.Name x px] pos) (tV (eInN true j ta)) := fun ρ Ξ Θ h B F H σ env Q q qx => by
  obtain ⟨h1, h2, h3⟩ := nmOk_inv hx
  obtain ⟨p, ds, e1, h, rd⟩ := ndK_at h env
  refine wT_of (pt_cmp (pc_nnotin pe_w (pv j hN h1 h2 h3)) hm) (ha _ _ _ h B F H σ env _ (fun v y F1 H1 hy st r => ?_) qx)
  obtain ⟨k, hk, hy⟩ := someK_inv hy
  exact ⟨.ref p, e1, p, ds, k, rfl, keyNo_rp hk r, rd st, _, rfl, q _ F1 H1 hy st⟩
def eGetN (j : Nat) (t : DE) : DE := fun ρ Ξ Φ => ndK (nth ρ j) fun kvs => t ρ Ξ fun y => someK (keyNo y) fun k => someK (valN kvs k) fun n => Φ (.int n)
theorem re_getN (j : Nat) {x : Str} (ha : RE X W a ta) (hx : nmOk X.env.scope x = true := by kernel_rfl) (hN : X.N[j]? = some x := by kernel_rfl) (hs : NoSl a := by intro _ _; rfl) : RE X W (.Subscript (.Name x px) a pos) (eGetN j ta) := fun ρ Ξ Φ h B F H σ env Q q qx => by
  obtain ⟨h1, h2, h3⟩ := nmOk_inv hx
  obtain ⟨p, ds, e1, h, rd⟩ := ndK_at h env
  refine wE_of (pe_nget (pv j hN h1 h2 h3) pe_w hs) ⟨.ref p, e1, ha _ _ _ h B F H σ env _ (fun v y F1 H1 hy st r => ?_) qx⟩
  obtain ⟨k, hk, hy⟩ := someK_inv hy
  obtain ⟨n, hn, hy⟩ := someK_inv hy
  exact ⟨p, ds, k, n, rfl, keyNo_rp hk r, rd st, hn, q _ _ F1 H1 hy st (.int n)⟩
def sPutN (j : Nat) (t u : DE) : DS := fun ρ Ξ E => u ρ (xat Ξ ρ) fun z => asI z fun n => odnK (nth ρ j) fun kvs => t ρ (xat Ξ ρ) fun y => someK (keyNo y) fun k => kvs.length < 8000000 ∧ Go (E.nx (ρ.set j (.odn (putN kvs k n))))
theorem r1_putN (j : Nat) {x : Str} (ha : RE X W a ta) (hb : RE X W b tb) (hx : nmOk X.env.scope x = true := by kernel_rfl) (hN : X.N[j]? = some x := by kernel_rfl) (hs : swapsWith b (some (.Subscript (.Name x px) a p2)) pos.line X.env = pure false := by rfl) : R1 X W (.Assign [.Subscript (.Name x px) a p2] b pos) (sPutN j ta tb) := fun ρ Ξ E h B F H σ env D d dx => by
  obtain ⟨h1, h2, h3⟩ := nmOk_inv hx
  refine wS1_of (ps_nput (pv j hN h1 h2 h3) pe_w pe_w hs) (hb _ _ _ h B F H σ env _ (fun w z F1 H1 hz st1 r1 => ?_) (dx.at env))
  obtain ⟨n, rfl, hz⟩ := asI_inv hz
  obtain ⟨ds, hi, hz⟩ := odnK_inv hz
  have hi : ρ[j]? = some (.odn ds) := by rw [← nth_eq]; exact hi
  obtain ⟨p, e1, hp, fp, h0, nm⟩ := env.sl j _ hi
  refine ⟨.ref p, e1, ha _ _ _ hz B F1 H1 σ (env.step st1) _ (fun v y F2 H2 hy st2 r2 => ?_) (dx.at (env.step st1))⟩
  obtain ⟨k, hk, hl, hy⟩ := someK_inv hy
  have st := st1.trans st2
  have env2 := env.step st
  obtain ⟨p', e1', hp', fp', h0', nm'⟩ := env2.sl j _ hi
  rw [e1] at e1'
  cases e1'
  refine ⟨p, ds, k, n, rfl, keyNo_rp hk r2, r1.int_inv, hp', Nat.lt_of_lt_of_le hl (by decide : 8000000 ≤ sizeLine), ?_⟩
  exact d.nx _ F2 _ σ hy (env2.updOwn hi rfl e1 ⟨p, e1, upd_same, fp', h0', nm'⟩)
end
end Mv

set_option maxRecDepth 100000
set_option maxHeartbeats 4000000
/-! lists of new lists: made, and one of two of them changed and thrown away; list.reverse -/
namespace Mv
open PySem L2 PySem.Spec PyProof.Rows
section
variable {X : Cx}
def rReverse : V → List V → Hp → VK → Prop := fun x vs H Q => ∃ l xs, x = .ref l ∧ vs = [] ∧ H l = some (.lst xs) ∧ xs.length ≤ sizeLine ∧ Q .non (upd H l (.lst xs.reverse))
theorem mt_reverse : MtM X "list.reverse" rReverse := by
  intro pins s σ H x vs v us Q I rx rv h
  obtain ⟨l, xs, rfl, rfl, hH, hz, q⟩ := h
  cases rx
  cases rv
  obtain ⟨z, its, n, r, hl, e⟩ := I.lstM hH
  refine call_meets PySem.F.slot_list_reverse ⟨_, e, rfl⟩ PySem.F.entry_list_reverse (PySem.F.args_list_reverse_1 _) (PySem.AutoSeq1.list_reverse_list_0 l its.toArray n (by rw [List.size_toArray]; omega)) ⟨e, ?_⟩
  refine ⟨.non, _, I.lset (its' := its.reverse) hH e (by simp) r.reverse ?_, rfl, q⟩
  rw [List.length_reverse]
  exact hz
end
section
variable {X : Cx} {W : WX} {ρ : List Sl} {st : Stmt} {a b e c : Expr} {es : List Expr} {ss body : List Stmt} {Ξ : Xi} {E : En} {pos : Pos} {tk uk : DK} {ts tr : DS} {ks : DKs} {px py pz pt p0 : Pos}
def sRevO (i : Nat) : DS := fun ρ _ E => ownK (nth ρ i) fun ds => ds.length ≤ 8000000 ∧ Go (E.nx (ρ.set i (.own ds.reverse)))
theorem r1_revO (i : Nat) {x : Str} {ap cp : Pos} (hx : nmOk X.env.scope x = true := by kernel_rfl) (hN : X.N[i]? = some x := by kernel_rfl)
    (pe : PE X (.Call (.Attribute (.Name x px) "reverse" ap) [] [] cp) (tBM0 X.K "list" rReverse (tVar i)) := by exact pe_bm0 PySem.F.plainAttrs_list PySem.F.slot_list_reverse PySem.F.type_list_reverse mt_reverse (pv _))
    (hs : swapsWith (.Call (.Attribute (.Name x px) "reverse" ap) [] [] cp) none pos.line X.env = pure false := by rfl) : R1 X W (.Expr (.Call (.Attribute (.Name x px) "reverse" ap) [] [] cp) pos) (sRevO i) := fun ρ Ξ E k => by
  obtain ⟨ds, e, k⟩ := ownK_inv k
  rw [nth_eq] at e
  intro B F H σ env D d dx
  obtain ⟨p, vs, e1, hp, fp, h0, nm, r⟩ := env.sl i _ e
  refine wS1_of (ps_expr pe hs) ⟨_, e1, .inl ⟨rfl, _, SqL.of hp⟩, ?_⟩
  refine ⟨p, vs, rfl, rfl, hp, Nat.le_trans (by rw [r.len]; exact k.1) (by decide : 8000000 ≤ sizeLine), ?_⟩
  exact d.nx _ F _ σ k.2 (env.setOwn e e1 r.reverse)
/-! ### [..] of own lists, returned -/
def ownsD : List Sl → Option (List (List PyData))
  | [] => some []
  | .own ds :: ss => match ownsD ss with
    | some dss => some (ds :: dss)
    | none => none
  | _ :: _ => none
theorem SlVs.owns {K : PySem.W.Frag} {H F2 H2 : Hp} : ∀ {ss : List Sl} {vs : List V} {dss : List (List PyData)}, SlVs K H F2 H2 vs ss → ownsD ss = some dss → ∃ qs : List Addr, vs = qs.map V.ref ∧ qs.Nodup ∧ Own2 K H F2 H2 qs dss
  | [], _, _, .nil, h => by cases h; exact ⟨[], rfl, List.nodup_nil, .nil⟩
  | s :: ss, _, dss, .cons r a t, h => by
    cases s with
    | own ds =>
      have h : (match ownsD ss with
        | some dss => some (ds :: dss)
        | none => none) = some dss := h
      cases e : ownsD ss with
      | none => rw [e] at h; cases h
      | some dss2 =>
        rw [e] at h
        cases h
        obtain ⟨qs, rfl, nd, o⟩ := t.owns e
        obtain ⟨p, vs, rfl, hp, h2, f2, ra⟩ := r
        refine ⟨p :: qs, rfl, List.nodup_cons.mpr ⟨fun hm => a rfl _ (List.mem_map.mpr ⟨p, hm, rfl⟩) rfl, nd⟩, .cons hp h2 f2 ra o⟩
    | _ => cases h
theorem Own2.ne {K : PySem.W.Frag} {H F2 H2 : Hp} {p : Addr} (hp : H2 p = none) : ∀ {qs : List Addr} {dss : List (List PyData)}, Own2 K H F2 H2 qs dss → p ∉ qs
  | _, _, .nil, h => nomatch h
  | _, _, .cons a b c d t, h => by
    rcases List.mem_cons.mp h with rfl | h
    · rw [b] at hp; cases hp
    · exact t.ne hp h
theorem Own2.len {K : PySem.W.Frag} {H F2 H2 : Hp} : ∀ {qs : List Addr} {dss : List (List PyData)}, Own2 K H F2 H2 qs dss → qs.length = dss.length
  | _, _, .nil => rfl
  | _, _, .cons _ _ _ _ t => by rw [List.length_cons, List.length_cons, t.len]
def sRet2 (i : Nat) (ks : DKs) : DS := fun ρ Ξ E => match nth ρ i with
  | some _ => ks ρ (xat Ξ ρ) fun ss => someK (ownsD ss) fun dss => dss.length ≤ 8000000 ∧ Go (E.rt (.own2 dss))
  | none => False
theorem rs_ret2 (i : Nat) {x : Str} {lp p2 rp : Pos} (C : Cxt X W) (h : RKs X W es ks) (hx : nmOk X.env.scope x = true := by kernel_rfl) (hN : X.N[i]? = some x := by kernel_rfl) (hl : stOk X x = true := by kernel_rfl)
    (hs : swapsWith (.List es lp) (some (.Name x px)) pos.line X.env = pure false := by rfl) : RS X W [.Assign [.Name x px] (.List es lp) pos, .Return (some (.Name x p2)) rp] (sRet2 i ks) := fun ρ Ξ E k B F H σ env D d dx => by
  unfold sRet2 at k
  split at k
  rotate_left
  · exact k.elim
  rename_i s0 hi0
  rw [nth_eq] at hi0
  obtain ⟨h1, h2, h3⟩ := nmOk_inv hx
  refine wSs_of (pss_cons (ps_set C.nd hN (stOk_inv hl).1 (pe_lst pa_w) hs (stOk_inv hl).2) (pss_cons (ps_ret (pv i hN h1 h2 h3)) pss_nil)) ?_
  refine h _ _ _ k B F H σ env _ (fun vs ss F2 H2 hss st rs => ?_) (dx.at env)
  obtain ⟨dss, ho, hlen, hrt⟩ := someK_inv hss
  obtain ⟨qs, rfl, nd, o⟩ := rs.owns ho
  refine ⟨Nat.le_trans (by rw [List.length_map, o.len]; exact hlen) (by decide : 8000000 ≤ sizeLine), fun p hp => ?_⟩
  have hi : i < σ.length := env.lt hi0
  refine ⟨.ref p, by rw [List.getElem?_set_self hi], ?_⟩
  have st2 : Step B.M F2 H2 F2 (upd H2 p (.lst (qs.map V.ref))) := Step.own st.sub hp
  have hM : ∀ p, H p = none → ¬ B.M p := fun p hp => env.notM (env.fresh0 hp)
  exact d.rt _ (.own2 dss) F2 _ hrt (env.st.trans (st.trans st2).e) ⟨p, qs, rfl, env.fresh0 (st.back p hp), List.nodup_cons.mpr ⟨o.ne hp, nd⟩, upd_same, none_sub st.sub hp, (o.step hM st2).older fun p hp => env.fresh0 hp⟩

/-! ### two lists of lists; the things of one are changed -/
/-- what stands but own things and rows -/
theorem SlOk.base {K : PySem.W.Frag} {B B' : Base} {F H : Hp} {o : Option (Option V)} {s : Sl} (no : s.isOwn = false ∧ s.isRow = false) (hM : ∀ p, B.M p → B'.M p) (h : SlOk K B F H o s) : SlOk K B' F H o s := by
  cases s with
  | dat _ => exact h
  | own _ => cases no.1
  | odk _ => cases no.1
  | odn _ => cases no.1
  | fdk _ => exact h
  | fdn _ => exact h
  | row _ _ => cases no.2
  | rwd _ _ _ => trivial
  | own2 _ => trivial
  | owp _ _ => cases no.1
  | drw =>
    obtain ⟨q, e2, m, dr, f⟩ := h
    exact ⟨q, e2, hM q m, dr, f⟩
  | scr _ => exact h
  | exc _ _ _ => exact h
  | unk => trivial
theorem noOwn_at {ρ : List Sl} (hn : noOwn ρ = true) (j : Nat) (s : Sl) (e : ρ[j]? = some s) : s.isOwn = false ∧ s.isRow = false := by
  have q := List.all_eq_true.mp hn s (List.mem_of_getElem? e)
  simpa using q
/-- all but q is the ground -/
def butQ (H : Hp) (q : Addr) : Hp := fun a => if a = q then none else H a
theorem butQ_ne {H : Hp} {q a : Addr} (h : a ≠ q) : butQ H q a = H a := if_neg h
theorem butQ_q {H : Hp} {q : Addr} : butQ H q q = none := if_pos rfl
theorem butQ_some {H : Hp} {q a : Addr} {o : HO} (h : butQ H q a = some o) : a ≠ q ∧ H a = some o := by
  by_cases z : a = q
  · rw [z, butQ_q] at h; cases h
  · exact ⟨z, by rwa [butQ_ne z] at h⟩
theorem butQ_live {H : Hp} {q a : Addr} (h : butQ H q a ≠ none) : a ≠ q ∧ H a ≠ none := by
  by_cases z : a = q
  · rw [z, butQ_q] at h; exact absurd rfl h
  · exact ⟨z, by rwa [butQ_ne z] at h⟩
def qBase (B : Base) (F H : Hp) (q : Addr) : Base := { G := F, M := B.M, F0 := F, H0 := butQ H q }
theorem EnvOk.rebase {K : PySem.W.Frag} {B : Base} {F H : Hp} {σ : L2.St} {ρ : List Sl} {q : Addr} (env : EnvOk K B F H σ ρ) (no : noOwn ρ = true) (hq : B.H0 q = none) : EnvOk K (qBase B F H q) F H σ ρ where
  st := ⟨Same.refl F, env.sub, fun a o _ e => (butQ_some e).2, fun _ _ => rfl, fun a n => (butQ_live n).2, fun a _ d => by
    obtain ⟨x, y, ns, h1, h2, h3, h4⟩ := d
    exact ⟨x, y, ns, h1, h2, h3, (butQ_some h4).2⟩⟩
  mh := fun p m => by
    have np : p ≠ q := fun z => env.mh p m (by rw [z]; exact hq)
    show butQ H q p ≠ none
    rw [butQ_ne np]
    exact env.st.alive p (env.mh p m)
  gf := Same.refl F
  len := env.len
  sl := fun j s e => SlOk.base (B := B) (B' := qBase B F H q) (noOwn_at no j s e) (fun _ m => m) (env.sl j s e)
  ne := fun a b s t p n e1 e2 o1 => by
    rw [(noOwn_at no a s e1).1] at o1
    cases o1
theorem EnvOk.unbase {K : PySem.W.Frag} {B : Base} {F H F2 H2 : Hp} {σ σ2 : L2.St} {ρ ρ2 : List Sl} {q : Addr} (env : EnvOk K B F H σ ρ) (env2 : EnvOk K (qBase B F H q) F2 H2 σ2 ρ2) (no : noOwn ρ2 = true) (hq : B.H0 q = none) : EnvOk K B F2 H2 σ2 ρ2 where
  st := by
    have nq : ∀ a, B.H0 a ≠ none → a ≠ q := fun a n z => n (by rw [z]; exact hq)
    exact {
      fr := env.st.fr.trans env2.st.fr
      sub := env2.st.sub
      keep := fun a o n e => env2.st.keep a o n (by show butQ H q a = _; rw [butQ_ne (nq a (by rw [e]; exact fun z => nomatch z))]; exact env.st.keep a o n e)
      new := fun a n => (env2.st.new a (by show butQ H q a ≠ _; rw [butQ_ne (nq a n)]; exact env.st.alive a n)).trans (env.st.new a n)
      alive := fun a n => env2.st.alive a (by show butQ H q a ≠ _; rw [butQ_ne (nq a n)]; exact env.st.alive a n)
      dr := fun a m d => env2.st.dr a m (by
        have d1 := env.st.dr a m d
        exact d1.same (butQ_ne (nq a (env.mh a m))).symm) }
  mh := env.mh
  gf := env.gf.trans env2.gf
  len := env2.len
  sl := fun j s e => SlOk.base (B := qBase B F H q) (B' := B) (noOwn_at no j s e) (fun _ m => m) (env2.sl j s e)
  ne := fun a b s t p n e1 e2 o1 => by
    rw [(noOwn_at no a s e1).1] at o1
    cases o1
/-- things made since H, but q -/
theorem Own2.but {K : PySem.W.Frag} {B : Base} {H F1 H1 F2 H2 : Hp} {q : Addr} (hM : ∀ p, H p = none → ¬ B.M p) (st : StepE B.M F1 (butQ H1 q) F2 H2) : ∀ {qs : List Addr} {dss : List (List PyData)}, Own2 K H F1 H1 qs dss → q ∉ qs → Own2 K H F2 H2 qs dss
  | _, _, .nil, _ => .nil
  | p :: _, _, .cons a b c d t, nq => by
    have np : p ≠ q := fun z => nq (by rw [z]; exact List.mem_cons_self)
    exact .cons a (st.keep p _ (hM p a) (by rw [butQ_ne np]; exact b)) (by rw [st.new p (by rw [butQ_ne np, b]; exact fun z => nomatch z)]; exact c) (RpAll.mono st.fr _ _ d) (t.but hM st fun z => nq (List.mem_cons_of_mem _ z))
theorem Own2.drop {K : PySem.W.Frag} {H F2 H2 : Hp} : ∀ {qs : List Addr} {dss : List (List PyData)} (k : Nat), Own2 K H F2 H2 qs dss → Own2 K H F2 H2 (qs.drop k) (dss.drop k)
  | _, _, 0, h => h
  | _, _, _ + 1, .nil => .nil
  | _, _, k + 1, .cons _ _ _ _ t => t.drop k
def frz2 (ρ : List Sl) (i j l : Nat) (d2 : List (List PyData)) : List Sl := ((ρ.set i .unk).set j (.dat (.list (d2.map .list)))).set l .unk
theorem ws_twice (i j l : Nat) {x y z : Str} {kt k2 pt2} {cp : Pos} (C : Cxt X W)
    (h : WK X W ρ a (xat Ξ ρ) fun s => WK X W ρ b (xat Ξ ρ) fun t => ∃ d1 d2, s = .own2 d1 ∧ t = .own2 d2 ∧ noOwn (frz2 ρ i j l d2) = true ∧ (∀ ds, ds ∈ d1 → WS X W ((frz2 ρ i j l d2).set l (.own ds)) body (fun _ _ => False) { nx := fun ρ' => ρ'.set l .unk = frz2 ρ i j l d2, rt := fun _ => False }) ∧ WS X W (frz2 ρ i j l d2) ss Ξ E)
    (hi0 : i < ρ.length) (hi : X.N[i]? = some x) (hj : X.N[j]? = some y) (hl : X.N[l]? = some z) (hij : i ≠ j)
    (hx : X.env.scope.names.lookup x = some .local) (hy : X.env.scope.names.lookup y = some .local) (hz : stOk X z = true)
    (vx : nmOk X.env.scope x = true)
    (hw : swappedStores [.Tuple [.Name x px, .Name y py] kt pt] (.Tuple [a, b] k2 pt2) X.env = pure (some [x, y]))
    (hs : swapsWithSole [.Tuple [.Name x px, .Name y py] kt pt] (.Tuple [a, b] k2 pt2) pos.line X.env = pure false)
    (st1 : starEach (a :: [b]) X.env = (false, eval a X.env) :: starEach [b] X.env) (st2 : starEach (b :: []) X.env = (false, eval b X.env) :: starEach [] X.env)
    (hf : ∀ y, foldedSetIterable (.Name x p0) X.env y = pure y) : WS X W ρ (.Assign [.Tuple [.Name x px, .Name y py] kt pt] (.Tuple [a, b] k2 pt2) pos :: .For (.Name z pz) (.Name x p0) body [] cp :: ss) Ξ E := fun B F H σ env D d dx => by
  obtain ⟨v1, v2, v3⟩ := nmOk_inv vx
  refine wSs_of (pss_cons (ps_par C.calm C.nd hi hj hij hx hy (pa_cons pe_w (pa_cons pe_w pa_nil st2) st1) hw hs) (pss_cons (ps_for C.po C.calm (pi_seq (pv i hi v1 v2 v3)) (pg_name C.nd hl (stOk_inv hz).1 (stOk_inv hz).2) pss_w hf) pss_w)) ?_
  refine h B F H σ env _ (fun v s F1 H1 hd sp r => ?_) (dx.at env)
  refine hd B F1 H1 σ (env.step sp) _ (fun w t F2 H2 ht sq r2 => ?_) ((dx.at env).step sp)
  obtain ⟨d1, d2, rfl, rfl, no, hb, hn⟩ := ht
  refine ⟨v, w, rfl, ?_⟩
  have hM : ∀ p, H p = none → ¬ B.M p := fun p hp => env.notM (env.fresh0 hp)
  obtain ⟨F4, sr, rw2⟩ : ∃ F4, Step B.M F1 H1 F4 H2 ∧ Rp X.K F4 w (.list (d2.map .list)) := by
    obtain ⟨p, qs, rfl, hp, nd, h2, f2, o2⟩ := r2
    have nd := List.nodup_cons.mp nd
    obtain ⟨F3, st3, s3, r3, n3⟩ := o2.frozen nd.2 sq
    have f3 : F3 p = none := by rw [n3 p nd.1]; exact f2
    exact ⟨_, st3.freeze hp h2 f3, .lst upd_same (RpAll.mono (same_new f3) _ _ r3)⟩
  have r := r.step hM sr
  have env5 := (((env.step sp).step sr).forget (i := i) (some v)).set (i := j) rw2
  obtain ⟨p, qs, rfl, hp, nd, h4, f4, o4⟩ := r
  have nd := List.nodup_cons.mp nd
  have e1 : ((σ.set i (some (.ref p))).set j (some w))[i]? = some (some (.ref p)) := by
    rw [List.getElem?_set_ne (Ne.symm hij), List.getElem?_set_self (by rw [env.len]; exact hi0)]
  have hmap : (qs.map V.ref).length = qs.length := List.length_map ..
  refine ⟨.ref p, e1, p, rfl, .inl ⟨⟨qs.map V.ref, .inl (.inl h4)⟩, fun k m σ H' => m = qs.length - k ∧ k ≤ qs.length ∧ ∃ F', EnvOk X.K B F' H' σ (frz2 ρ i j l d2) ∧ H' p = some (.lst (qs.map V.ref)) ∧ Own2 X.K H F' H' (qs.drop k) (d1.drop k), ⟨_, rfl, Nat.zero_le _, F4, env5.forget', h4, o4⟩, ?_⟩⟩
  rintro k m σ2 H3 ⟨rfl, hk, F', env6, hp6, o6⟩
  by_cases hlt : k < qs.length
  · have hlt2 : k < d1.length := by rw [← o4.len]; exact hlt
    rw [List.drop_eq_getElem_cons hlt, List.drop_eq_getElem_cons hlt2] at o6
    cases o6 with
    | cons a6 b6 c6 d6 t6 =>
      rename_i vs6
      have hu : (qs.map V.ref)[k]? = some (V.ref qs[k]) := by rw [List.getElem?_map, List.getElem?_eq_getElem hlt]; rfl
      refine .inr ⟨⟨qs.map V.ref, .ref qs[k], .inl (.inl hp6), hu⟩, fun σ' H' => ∃ F', EnvOk X.K B F' H' σ' (frz2 ρ i j l d2) ∧ H' p = some (.lst (qs.map V.ref)) ∧ Own2 X.K H F' H' (qs.drop (k + 1)) (d1.drop (k + 1)), fun σ' H' q => ⟨qs.length - (k + 1), by omega, rfl, hlt, q⟩, fun v H4 hy => ?_⟩
      obtain ⟨eH, y⟩ := hy
      subst eH
      have ev := y _ (.inl (.inl hp6))
      rw [hu] at ev
      cases ev
      have h0 : B.H0 qs[k] = none := env.fresh0 a6
      have nq : qs[k] ∉ qs.drop (k + 1) := by
        have := nd.2
        rw [← List.take_append_drop k qs, List.drop_eq_getElem_cons hlt] at this
        exact (List.nodup_cons.mp (List.nodup_append.mp this).2.1).1
      have np : p ≠ qs[k] := fun z => nd.1 (by rw [z]; exact List.getElem_mem _)
      have env7 := (env6.rebase no h0).put (i := l) (v := .ref qs[k]) (t := .own d1[k]) ⟨_, vs6, rfl, b6, c6, butQ_q, hM _ a6, d6⟩ fun _ j s hj e o => by
        rw [(noOwn_at no j s e).1] at o
        cases o
      refine hb _ (List.getElem_mem hlt2) (qBase B F' _ qs[k]) F' _ _ env7 _ ⟨fun ρ7 F7 H7 σ7 e7 env8 => ?_, fun _ _ _ _ z => z.elim, fun _ _ _ _ z => z.elim, fun _ _ _ _ z => z.elim⟩ (fun _ _ _ _ _ _ _ z => z.elim)
      have env9 := env8.forget' (i := l)
      rw [e7] at env9
      refine ⟨F7, env6.unbase env9 no h0, env8.st.keep p _ (hM p hp) (by show butQ _ qs[k] p = _; rw [butQ_ne np]; exact hp6), t6.but hM env8.st nq⟩
  · have e : k = qs.length := by omega
    subst e
    refine .inl ⟨⟨qs.map V.ref, .inl (.inl hp6), by rw [hmap]; exact Nat.le_refl _⟩, ?_⟩
    exact hn B F' H3 σ2 env6 D d dx
def sTwice (i j l : Nat) (tk uk : DK) (ts tr : DS) : DS := fun ρ Ξ E => match nth ρ i with
  | some _ => tk ρ (xat Ξ ρ) fun s => uk ρ (xat Ξ ρ) fun t => match s, t with
    | .own2 d1, .own2 d2 => (noOwn (frz2 ρ i j l d2) = true ∧ ∀ ds, ds ∈ d1 → Go (ts ((frz2 ρ i j l d2).set l (.own ds)) (fun _ _ => False) { nx := fun ρ' => ρ'.set l .unk = frz2 ρ i j l d2, rt := fun _ => False })) ∧ Go (tr (frz2 ρ i j l d2) Ξ E)
    | _, _ => False
  | none => False
theorem rs_twice (i j l : Nat) {x y z : Str} {kt k2 pt2} {cp : Pos} (C : Cxt X W) (h1 : RK X W a tk) (h2 : RK X W b uk) (h3 : RS X W body ts) (h4 : RS X W ss tr)
    (hi : X.N[i]? = some x := by kernel_rfl) (hj : X.N[j]? = some y := by kernel_rfl) (hl : X.N[l]? = some z := by kernel_rfl) (hij : i ≠ j := by decide)
    (hx : X.env.scope.names.lookup x = some .local := by kernel_rfl) (hy : X.env.scope.names.lookup y = some .local := by kernel_rfl) (hz : stOk X z = true := by kernel_rfl)
    (vx : nmOk X.env.scope x = true := by kernel_rfl) (sa : isStar a = false := by rfl) (sb : isStar b = false := by rfl)
    (hw : swappedStores [.Tuple [.Name x px, .Name y py] kt pt] (.Tuple [a, b] k2 pt2) X.env = pure (some [x, y]) := by rfl)
    (hs : swapsWithSole [.Tuple [.Name x px, .Name y py] kt pt] (.Tuple [a, b] k2 pt2) pos.line X.env = pure false := by rfl)
    (hf : ∀ y, foldedSetIterable (.Name x p0) X.env y = pure y := by intro _; rfl) : RS X W (.Assign [.Tuple [.Name x px, .Name y py] kt pt] (.Tuple [a, b] k2 pt2) pos :: .For (.Name z pz) (.Name x p0) body [] cp :: ss) (sTwice i j l tk uk ts tr) := fun ρ Ξ E k => by
  unfold sTwice at k
  split at k
  · rename_i s0 hi0
    rw [nth_eq] at hi0
    refine ws_twice i j l C ((h1 _ _ _ k).mono fun s z => (h2 _ _ _ z).mono fun t z => ?_) (List.getElem?_eq_some_iff.mp hi0).1 hi hj hl hij hx hy hz vx hw hs (star_cons sa) (star_cons sb) hf
    split at z
    · exact ⟨_, _, rfl, rfl, z.1.1, fun ds hd => h3 _ _ _ (z.1.2 ds hd), h4 _ _ _ z.2⟩
    · exact z.elim
  · exact k.elim
end
end Mv

set_option maxRecDepth 100000
set_option maxHeartbeats 4000000
/-! the class Row: its attributes read and set, its methods as defs -/
namespace Mv
open PySem L2 PySem.Spec PyProof.Rows
/-- the class, as the head tells it -/
structure RowC (K : PySem.W.Frag) : Prop where
  cls : L2.Cls K (He.ga K "Row")
  now : NoAttr K (He.ga K "Row") "now"
  past : NoAttr K (He.ga K "Row") "past"
  future : NoAttr K (He.ga K "Row") "future"
def fldOk (f : Str) : Bool := decide (f = "now") || (decide (f = "past") || decide (f = "future"))
theorem RowC.no {K : PySem.W.Frag} (R : RowC K) {f : Str} (h : fldOk f = true) : NoAttr K (He.ga K "Row") f := by
  unfold fldOk at h
  rcases Bool.or_eq_true_iff.mp h with h | h
  · rw [of_decide_eq_true h]; exact R.now
  · rcases Bool.or_eq_true_iff.mp h with h | h
    · rw [of_decide_eq_true h]; exact R.past
    · rw [of_decide_eq_true h]; exact R.future
def putFD (f : Str) (d : PyData) : List (Str × PyData) → List (Str × PyData)
  | [] => [(f, d)]
  | (g, x) :: r => if g = f then (g, d) :: r else (g, x) :: putFD f d r
theorem FsRp.put {K : PySem.W.Frag} {F : Hp} {f : Str} {v : V} {d : PyData} (r : Rp K F v d) : ∀ {vs : List (Str × V)} {st : List (Str × PyData)}, FsRp K F vs st → FsRp K F (putF f v vs) (putFD f d st)
  | _, _, .nil => .cons r .nil
  | _, _, .cons (k := k) h t => by
    unfold putF putFD
    by_cases e : k = f
    · rw [if_pos e, if_pos e]; exact .cons r t
    · rw [if_neg e, if_neg e]; exact .cons h (t.put r)
theorem FsRp.len {K : PySem.W.Frag} {F : Hp} : ∀ {vs : List (Str × V)} {st : List (Str × PyData)}, FsRp K F vs st → vs.length = st.length
  | _, _, .nil => rfl
  | _, _, .cons _ t => by rw [List.length_cons, List.length_cons, t.len]
/-- but for slot i there is no row -/
def oneRow (ρ : List Sl) (i : Nat) : Bool := (ρ.set i .unk).all fun s => !s.isRow
theorem oneRow_at {ρ : List Sl} {i : Nat} (h : oneRow ρ i = true) {j : Nat} {s : Sl} (hj : j ≠ i) (e : ρ[j]? = some s) : s.isRow = false := by
  have e2 : (ρ.set i .unk)[j]? = some s := by rw [List.getElem?_set_ne (Ne.symm hj)]; exact e
  have := List.all_eq_true.mp h s (List.mem_of_getElem? e2)
  simpa using this
/-- what stands when a row is changed -/
theorem SlOk.updRow {K : PySem.W.Frag} {B : Base} {F H : Hp} {o : Option (Option V)} {t : Sl} {p C dx : Addr} {vs : List (Str × V)} {o' : HO} (hp : H p = some (.ins C dx vs)) (nr : t.isRow = false) (h : SlOk K B F H o t) : SlOk K B F (L2.upd H p o') o t := by
  cases t with
  | own ds =>
    obtain ⟨p', vs, q, h1, r⟩ := h
    exact ⟨p', vs, q, by rw [upd_ne (fun z => by rw [z, hp] at h1; cases h1)]; exact h1, r⟩
  | owp p' ds =>
    obtain ⟨vs, q, h1, r⟩ := h
    exact ⟨vs, q, by rw [upd_ne (fun z => by rw [z, hp] at h1; cases h1)]; exact h1, r⟩
  | odk ds =>
    obtain ⟨p', vs, q, h1, r⟩ := h
    exact ⟨p', vs, q, by rw [upd_ne (fun z => by rw [z, hp] at h1; cases h1)]; exact h1, r⟩
  | odn ds =>
    obtain ⟨p', q, h1, r⟩ := h
    exact ⟨p', q, by rw [upd_ne (fun z => by rw [z, hp] at h1; unfold NdO at h1; cases h1)]; exact h1, r⟩
  | row p' st => cases nr
  | drw =>
    obtain ⟨p', q, m, ⟨x, y, ns, h1, h2, h3, h4⟩, f1⟩ := h
    exact ⟨p', q, m, ⟨x, y, ns, h1, h2, h3, by rw [upd_ne (fun z => by rw [z, hp] at h4; cases h4)]; exact h4⟩, f1⟩
  | _ => exact h
/-- the row in slot i is changed -/
theorem EnvOk.updRow {K : PySem.W.Frag} {B : Base} {F H : Hp} {σ : L2.St} {ρ : List Sl} {i : Nat} {st st2 : List (Str × PyData)} {p dx : Addr} {vs : List (Str × V)} (env : EnvOk K B F H σ ρ) (hi : ρ[i]? = some (.row p st)) (one : oneRow ρ i = true) (r : FsRp K F vs st2) : EnvOk K B F (upd H p (.ins (He.ga K "Row") dx vs)) σ (ρ.set i (.row p st2)) := by
  obtain ⟨e1, ⟨dx0, vs0, hp, _⟩, fp, m⟩ := env.sl i _ hi
  have hlt : i < ρ.length := (List.getElem?_eq_some_iff.mp hi).1
  refine ⟨⟨env.st.fr, fun a x e => ?_, fun a o n e => ?_, env.st.new, fun a n => ?_, fun a m2 dr => ?_⟩, env.mh, env.gf, by rw [List.length_set]; exact env.len, fun j u e => ?_, fun a b u v z n e1' e2' o1 o2 q1 q2 => ?_⟩
  · have np : a ≠ p := fun z => by rw [z, fp] at e; cases e
    rw [upd_ne np]
    exact env.st.sub a x e
  · have np : a ≠ p := fun z => by
      rcases m with m | m
      · exact n (by rw [z]; exact m)
      · rw [z, m] at e; cases e
    rw [upd_ne np]
    exact env.st.keep a o n e
  · by_cases z : a = p
    · rw [z, upd_same]; exact fun w => nomatch w
    · rw [upd_ne z]
      exact env.st.alive a n
  · have d1 := env.st.dr a m2 dr
    have np : a ≠ p := fun z => by
      obtain ⟨xs, q⟩ := d1.lst (by rw [z]; exact hp)
      cases q
    exact d1.same (upd_ne np).symm
  · by_cases hj : j = i
    · subst hj
      rw [List.getElem?_set_self hlt] at e
      cases e
      exact ⟨e1, ⟨dx, vs, upd_same, r⟩, fp, m⟩
    · rw [List.getElem?_set_ne (Ne.symm hj)] at e
      exact (env.sl j u e).updRow hp (oneRow_at one hj e)
  · have tr : ∀ {c : Nat} {z : Sl}, z.isOwn = true → (ρ.set i (.row p st2))[c]? = some z → ρ[c]? = some z := fun {c z} hz e => by
      by_cases hc : c = i
      · subst hc
        rw [List.getElem?_set_self hlt] at e
        cases e
        cases hz
      · rwa [List.getElem?_set_ne (Ne.symm hc)] at e
    exact env.ne a b u v z n (tr o1 e1') (tr o2 e2') o1 o2 q1 q2
section
variable {X : Cx} {W : WX} {ρ : List Sl} {e : Expr} {Ξ : Xi} {E : En} {pos px : Pos} {te : DE}
/-- x.f -/
def eFld (i : Nat) (f : Str) : DE := fun ρ _ Φ => match nth ρ i with
  | some (.row _ st) => someK (st.lookup f) Φ
  | _ => False
theorem re_fld (i : Nat) {x f : Str} (R : RowC X.K) (hx : nmOk X.env.scope x = true := by kernel_rfl) (hN : X.N[i]? = some x := by kernel_rfl) (hf : fldOk f = true := by kernel_rfl)
    (hb : attributeBase (.Name x px) f X.env (eval (.Name x px) X.env) = eval (.Name x px) X.env := by rfl) : RE X W (.Attribute (.Name x px) f pos) (eFld i f) := fun ρ Ξ Φ k B F H σ env Q q _ => by
  unfold eFld at k
  split at k
  · rename_i p st hi
    rw [nth_eq] at hi
    obtain ⟨d, hl, k⟩ := someK_inv k
    obtain ⟨h1, h2, h3⟩ := nmOk_inv hx
    obtain ⟨e1, ⟨dx, vs, hp, r⟩, fp, m⟩ := env.sl i _ hi
    obtain ⟨v, hv, rv⟩ := r.look hl
    exact wE_of (pe_fld (pv i hN h1 h2 h3) hb) ⟨.ref p, e1, p, _, dx, vs, v, rfl, hp, R.cls, R.no hf, hv, q v d F H k (Step.refl env.sub) rv⟩
  · exact k.elim
/-- x.f = e -/
def sFldR (i : Nat) (f : Str) (t : DE) : DS := fun ρ Ξ E => match nth ρ i with
  | some (.row p st) => t ρ (xat Ξ ρ) fun d => (oneRow ρ i = true ∧ st.length < 900) ∧ Go (E.nx (ρ.set i (.row p (putFD f d st))))
  | _ => False
theorem r1_fldR (i : Nat) {x f : Str} {ap : Pos} (R : RowC X.K) (h : RE X W e te) (hx : nmOk X.env.scope x = true := by kernel_rfl) (hN : X.N[i]? = some x := by kernel_rfl) (hf : fldOk f = true := by kernel_rfl)
    (hs : swapsWith e (some (.Attribute (.Name x px) f ap)) pos.line X.env = pure false := by rfl) : R1 X W (.Assign [.Attribute (.Name x px) f ap] e pos) (sFldR i f te) := fun ρ Ξ E k => by
  unfold sFldR at k
  split at k
  · rename_i p st hi
    rw [nth_eq] at hi
    obtain ⟨h1, h2, h3⟩ := nmOk_inv hx
    intro B F H σ env D d dx
    refine wS1_of (ps_fld (pv i hN h1 h2 h3) pe_w hs) (h _ _ _ k B F H σ env _ (fun v y F2 H2 hy st2 ry => ?_) (dx.at env))
    obtain ⟨⟨one, hlen⟩, hE⟩ := hy
    have env2 := env.step st2
    obtain ⟨e1, ⟨dx, vs, hp, r⟩, fp, m⟩ := env2.sl i _ hi
    refine ⟨.ref p, e1, p, _, dx, vs, rfl, hp, R.cls, R.no hf, by rw [r.len]; omega, ?_⟩
    exact d.nx _ F2 _ σ hE (env2.updRow hi one (r.put ry))
  · exact k.elim
/-- return e, and what the row in slot i is then -/
def sRetR (i : Nat) (t : DE) : DS := fun ρ Ξ E => match nth ρ i with
  | some (.row p st) => t ρ (xat Ξ ρ) fun d => E.rt (.rwd p st (.dat d))
  | _ => False
theorem r1_retR (i : Nat) (h : RE X W e te) : R1 X W (.Return (some e) pos) (sRetR i te) := fun ρ Ξ E k => by
  unfold sRetR at k
  split at k
  · rename_i p st hi
    rw [nth_eq] at hi
    intro B F H σ env D d dx
    refine wS1_of (ps_ret pe_w) (h _ _ _ k B F H σ env _ (fun v y F2 H2 hy st2 ry => ?_) (dx.at env))
    have env2 := env.step st2
    obtain ⟨e1, ra, fp, m⟩ := env2.sl i _ hi
    exact d.rt v (.rwd p st (.dat y)) F2 H2 hy env2.st ⟨ra, fp, ry⟩
  · exact k.elim
end
/-! ### defs with a row among what they are given -/
def SgOk (K : PySem.W.Frag) (M : Addr → Prop) (F H : Hp) (v : V) : Sl → Prop
  | .dat d => Rp K F v d
  | .drw => ∃ p, v = .ref p ∧ M p ∧ DrOk H p ∧ F p = none
  | .scr ns => ∃ p, v = .ref p ∧ SqL K F p (ns.map V.int)
  | .row p st => v = .ref p ∧ RowAt K F H p st ∧ F p = none ∧ M p
  | _ => False
inductive AgS (K : PySem.W.Frag) (M : Addr → Prop) (F H : Hp) : List V → List Sl → Prop
  | nil : AgS K M F H [] []
  | cons {v : V} {vs : List V} {s : Sl} {ss : List Sl} : SgOk K M F H v s → AgS K M F H vs ss → AgS K M F H (v :: vs) (s :: ss)
theorem AgS.len {K : PySem.W.Frag} {M : Addr → Prop} {F H : Hp} : ∀ {vs : List V} {ss : List Sl}, AgS K M F H vs ss → vs.length = ss.length
  | _, _, .nil => rfl
  | _, _, .cons _ t => by rw [List.length_cons, List.length_cons, t.len]
theorem AgS.get {K : PySem.W.Frag} {M : Addr → Prop} {F H : Hp} : ∀ {vs : List V} {ss : List Sl} {i : Nat} {s : Sl}, AgS K M F H vs ss → ss[i]? = some s → ∃ v, vs[i]? = some v ∧ SgOk K M F H v s
  | _, _, _, _, .nil, e => by simp at e
  | _, _, 0, _, .cons r _, e => by simp at e; subst e; exact ⟨_, rfl, r⟩
  | _, _, i + 1, a, .cons _ t, e => by
    obtain ⟨v, h1, h2⟩ := AgS.get (i := i) (s := a) t (by simpa using e)
    exact ⟨v, by simpa using h1, h2⟩
def slotsS (ss : List Sl) (n : Nat) : List Sl := ss ++ List.replicate (n - ss.length) .unk
theorem env_startS {K : PySem.W.Frag} {N : List Str} {M : Addr → Prop} {F H : Hp} {vs : List V} {ss : List Sl} (s : Same F H) (hM : ∀ p, M p → H p ≠ none) (r : AgS K M F H vs ss) : EnvOk K ⟨F, M, F, H⟩ F H (start N vs) (slotsS ss N.length) where
  st := StepE.refl s
  mh := hM
  gf := Same.refl F
  len := by simp [L2.start, slotsS, r.len]
  sl := fun i t e => by
    unfold slotsS at e
    by_cases hi : i < ss.length
    · rw [List.getElem?_append_left hi] at e
      obtain ⟨v, ev, ok⟩ := r.get e
      have hv : (start N vs)[i]? = some (some v) := by
        unfold L2.start
        rw [List.getElem?_append_left (by rw [List.length_map, r.len]; exact hi), List.getElem?_map, ev]
        rfl
      rw [hv]
      cases t with
      | dat d => exact ⟨v, rfl, ok⟩
      | drw => obtain ⟨p, rfl, m, d, f⟩ := ok; exact ⟨p, rfl, m, d, f⟩
      | scr ns => obtain ⟨p, rfl, q⟩ := ok; exact ⟨p, rfl, q⟩
      | row p st => obtain ⟨rfl, ra, fp, m⟩ := ok; exact ⟨rfl, ra, fp, .inl m⟩
      | _ => exact ok.elim
    · rw [List.getElem?_append_right (by omega), List.getElem?_replicate] at e
      split at e
      · cases e
        trivial
      · cases e
  ne := fun i j t u p n e1 e2 o1 o2 _ _ => by
    unfold slotsS at e1
    by_cases hi : i < ss.length
    · rw [List.getElem?_append_left hi] at e1
      obtain ⟨v, ev, ok⟩ := r.get e1
      cases t <;> first | exact (show False from ok).elim | cases o1
    · rw [List.getElem?_append_right (by omega), List.getElem?_replicate] at e1
      split at e1
      · cases e1
        cases o1
      · cases e1
abbrev PrR := List Sl → (Sl → Prop) → (Exn → Prop) → Prop
/-- the rows are as they were given -/
def RowsAt (K : PySem.W.Frag) (F H : Hp) (ss : List Sl) : Prop := ∀ p st, Sl.row p st ∈ ss → RowAt K F H p st ∧ F p = none
def spdR (K : PySem.W.Frag) (P : PrR) : Sp := fun vs H Q E => ∃ M F ss Φ Ξ, Same F H ∧ (∀ p, M p → H p ≠ none) ∧ AgS K M F H vs ss ∧ P ss Φ Ξ ∧ (∀ v s F2 H2, Φ s → StepE M F H F2 H2 → SlV K H F2 H2 v s → Q v H2) ∧ (∀ cls dd x F2 H2, Ξ x → StepE M F H F2 H2 → ExRp K F2 H2 cls dd x → RowsAt K F2 H2 ss → E cls dd H2)
def rowsKept : List Sl → List Sl → Prop
  | .row p st :: ss, r :: ρ => r = .row p st ∧ rowsKept ss ρ
  | _ :: ss, _ :: ρ => rowsKept ss ρ
  | [], _ => True
  | _ :: _, [] => False
theorem rowsKept_at {K : PySem.W.Frag} {B : Base} {F H : Hp} : ∀ {ss ρ : List Sl} {σ : L2.St}, rowsKept ss ρ → (∀ (i : Nat) (s : Sl), ρ[i]? = some s → SlOk K B F H σ[i]? s) → RowsAt K F H ss
  | [], _, _, _, _ => fun p st h => nomatch h
  | s :: ss, [], _, h, _ => by cases s <;> exact h.elim
  | s :: ss, r :: ρ, σ, h, ok => fun p st hm => by
    have tail : rowsKept ss ρ := by cases s <;> first | exact h.2 | exact h
    rcases List.mem_cons.mp hm with e | hm
    · subst e
      have h0 := ok 0 r rfl
      rw [h.1] at h0
      exact ⟨h0.2.1, h0.2.2.1⟩
    · exact rowsKept_at (σ := σ.drop 1) tail (fun i s e => by
        have := ok (i + 1) s e
        rwa [show σ[i + 1]? = (σ.drop 1)[i]? by rw [List.getElem?_drop, Nat.add_comm]] at this) p st hm
/-- the end of a def, its first thing a row -/
def endK (Φ : Sl → Prop) (ρ : List Sl) : Prop := match ρ with
  | .row p st :: _ => Φ (.rwd p st (.dat .none))
  | _ => False
section
variable {P : Program} {w : World} {K : PySem.W.Frag} {mg : Str → Option Value} {base : Heap}
theorem fn_rdR {x qual : Str} {st : Stmt} {N ps : List Str} {k : Nat} {pr : PrR} {t : DS} {f : Addr} {fd : FuncData} (F : Fun K x qual st f fd) (S : FnScope N ps (defScope st))
    (hq : ∀ (f : Addr) (cdv : Value) (A : Around) (outer : List Env) (s : Shared) (H : Hp) (E : XK), Room k (A.deeper (PyProof.Rows.envOfC qual (defScope st) s.heap.objs.size f cdv)) → Cxt (cxOf (L2.CX P w) P w K mg base N qual (defScope st) f cdv A outer s H E) (wDef E) →
      RS (cxOf (L2.CX P w) P w K mg base N qual (defScope st) f cdv A outer s H E) (wDef E) (defBody st) t)
    (hp : ∀ ss Φ Ξ, pr ss Φ Ξ → ss.length = ps.length ∧ t (slotsS ss N.length) (fun y ρ => Ξ y ∧ rowsKept ss ρ) { nx := endK Φ, rt := Φ }) :
    FnOk P w K mg base (L2.CX P w) (k + 1) f fd ps (spdR K pr) := by
  refine F.okX S (fun vs H Q E h => ?_) fun cdv A outer s H vs Q E hr h => ?_
  · obtain ⟨M, F0, ss, Φ, Ξ, _, _, ra, hpr, _⟩ := h
    rw [ra.len]
    exact (hp _ _ _ hpr).1
  · obtain ⟨M, F0, ss, Φ, Ξ, sf, hM, ra, hpr, q, qx⟩ := h
    have C : Cxt (cxOf (L2.CX P w) P w K mg base N qual (defScope st) f cdv A outer s H E) (wDef E) := ⟨takes_of rfl rfl rfl rfl, passes_of rfl, rfl, S.nd, hr.units⟩
    refine ⟨_, pss_w, hq f cdv A outer s H E hr C _ _ _ (hp ss Φ Ξ hpr).2 ⟨F0, M, F0, H⟩ F0 H _ (env_startS sf hM ra) _ ⟨fun ρ F2 H2 σ hn env => ?_, fun v t F2 H2 hs st r => q v t F2 H2 hs st r, fun _ _ _ _ z => z.elim, fun _ _ _ _ z => z.elim⟩ ?_⟩
    · have hn : endK Φ ρ := hn
      unfold endK at hn
      split at hn
      · obtain ⟨e1, ra2, fp, m⟩ := env.sl 0 _ rfl
        exact q _ _ F2 H2 hn env.st ⟨ra2, fp, Rp.non⟩
      · exact hn.elim
    · exact fun cls dd y ρ F2 H2 σ hy env r => qx cls dd y F2 H2 hy.1 env.st r (rowsKept_at hy.2 env.sl)
end
end Mv

set_option maxRecDepth 100000
set_option maxHeartbeats 4000000
/-! rows led from outside: expressions that change one, its making, its things and its length -/
namespace Mv
open PySem L2 PySem.Spec PyProof.Rows

/-! ### calls at a row, what is raised wished for at the caller's slots -/
section
variable {X : Cx} {CX : CXT} {k : Nat} {f C : Addr} {fd : FuncData} {ps : List Str} {sp : Sp} {dvs : List V} {ds : List Value} {E : L2.St → XK} {x m : Str} {p pos apos : Pos} {e o : Expr} {es : List Expr} {ta : TE} {t : TA}
/-- o.m(..), E by the slots -/
def tMeQ (C : Addr) (m : Str) (sp : Sp) (dvs : List V) (E : L2.St → XK) (ta : TE) (t : TA) : TE := fun σ H Q => ta σ H fun x H1 => (∃ a dx fs, x = .ref a ∧ H1 a = some (.ins C dx fs) ∧ fs.lookup m = none) ∧ t σ H1 fun vs H2 => sp (x :: (vs ++ dvs)) H2 Q (E σ)
theorem pe_meQ {pl : Sem Bool} (he : PE X o ta) (c : L2.Cls X.K C) (hm : Meth X.K C m f) (F : FnOk X.prog X.w X.K X.mg X.base CX k f fd ps sp) (hr : Room k X.A) (hb : Binds X.K fd ps ds) (hd : Vals dvs ds) (hx : ∀ σ, PassesAt CX X σ (E σ)) (ha : PA X (e :: es) t)
    (hst : starEach (e :: es) X.env = (false, eval e X.env) :: starEach es X.env) (hpl : (backTo pos (starEach es X.env)).any (·.1) = false)
    (ht : eval (.Call (.Attribute o m apos) (e :: es) [] pos) X.env = (do
      let u ← eval o X.env
      standAt apos.atName
      let (g, own) ← holding [u] (getMethod u m pl)
      callWith pos g own (backTo pos (starEach (e :: es) X.env)) (backToKw pos (keywordEach [] X.env))) := by rfl) : PE X (.Call (.Attribute o m apos) (e :: es) [] pos) (tMeQ C m sp dvs E ta t) :=
  ⟨fun pins s0 σ H Q I h => PySem.W.methodCall_KW (pl := pl) (thn (he.run pins s0 σ H _ I h) fun u s1 ⟨x, H1, I1, rx, ⟨a, dx, fs, ex, ea, l⟩, q⟩ => by
    subst ex
    cases rx
    exact getmeth_ok I1 ea c hm l (PySem.W.callWith_K (first := [.ref a]) (h₀ := X.base) I.ok.mod.kin hm.kp (thn (ha.run pos pins s1 σ H1 _ I1 q) fun us s2 ⟨vs, H2, I2, r, q2⟩ => ⟨I2.kIn, run_fnSD (us := .ref a :: us) (vs := .ref a :: vs) F hr hb hd (hx σ) I2 (.cons rfl r) q2⟩) hst hpl)) ht⟩
theorem pe_meQ0 {pl : Sem Bool} (he : PE X o ta) (c : L2.Cls X.K C) (hm : Meth X.K C m f) (F : FnOk X.prog X.w X.K X.mg X.base CX k f fd ps sp) (hr : Room k X.A) (hb : Binds X.K fd ps ds) (hd : Vals dvs ds) (hx : ∀ σ, PassesAt CX X σ (E σ))
    (ht : eval (.Call (.Attribute o m apos) [] [] pos) X.env = (do
      let u ← eval o X.env
      standAt apos.atName
      let (g, own) ← holding [u] (getMethod u m pl)
      callWith pos g own (backTo pos (starEach [] X.env)) (backToKw pos (keywordEach [] X.env))) := by rfl) : PE X (.Call (.Attribute o m apos) [] [] pos) (tMeQ C m sp dvs E ta tNil) :=
  ⟨fun pins s0 σ H Q I h => PySem.W.methodCall_KW (pl := pl) (thn (he.run pins s0 σ H _ I h) fun u s1 ⟨x, H1, I1, rx, ⟨a, dx, fs, ex, ea, l⟩, q⟩ => by
    subst ex
    cases rx
    exact getmeth_ok I1 ea c hm l (PySem.W.callWith_K0 (first := [.ref a]) I1.kIn hm.kp (run_fnSD (us := [.ref a]) (vs := [.ref a]) F hr hb hd (hx σ) I1 (.cons rfl .nil) q))) ht⟩
/-- C(..), E by the slots -/
def tMkQ (C : Addr) (sp : Sp) (E : L2.St → XK) (t : TA) : TE := fun σ H Q => t σ H fun vs H1 => ∀ x dx, H1 x = none → H1 dx = none → dx ≠ x → sp (.ref x :: vs) (upd (upd H1 dx (.own x)) x (.ins C dx [])) (fun v H2 => v = .non ∧ Q (.ref x) H2) (E σ)
theorem run_mkQ {pins : List (Addr × Obj)} {σ : L2.St} {H : Hp} {s : Shared} {Q : VK} {us : List Value} {vs : List V} (M : Mk X.K C f) (F : FnOk X.prog X.w X.K X.mg X.base CX k f fd ps sp) (hr : Room (k + 1) X.A) (hb : Binds X.K fd ps []) (hx : PassesAt CX X σ (E σ)) (I : Inv X pins σ H s) (r : Vals vs us)
    (h : ∀ x dx, H x = none → H dx = none → dx ≠ x → sp (.ref x :: vs) (upd (upd H dx (.own x)) x (.ins C dx [])) (fun v H2 => v = .non ∧ Q (.ref x) H2) (E σ)) : wpAny (model X.prog X.w) X.A (call (.ref C) us) (EP X pins σ Q) X.xe s := by
  have J := Inv.made (C := C) I
  have hq := h (s.heap.objs.size + 1) s.heap.objs.size (I.hok.fresh (by omega)) (I.hok.fresh (by omega)) (fun z => by have z2 : s.heap.objs.size = s.heap.objs.size + 1 := z; omega)
  have r2 : Vals (V.ref (s.heap.objs.size + 1) :: vs) (Value.ref (s.heap.objs.size + 1) :: us) := .cons rfl r
  have hl : (Value.ref (s.heap.objs.size + 1) :: us).length = ps.length := by rw [← r2.length]; exact F.len _ _ _ _ hq
  have bn := hb _ (Value.ref (s.heap.objs.size + 1) :: us) J.kIn (by rw [List.append_nil]; exact hl)
  rw [List.append_nil] at bn
  refine wpAny_call (make_map (f := f) I.kIn M.makes M.init (beq_iff_eq.mp M.fn) (codeAny_mono (F.run _ X.stack _ _ _ _ _ _ (E σ) (hr.make C us []) (J.env0.make C us []) bn r2 hq) fun z s' hz => ?_))
  match z, hz with
  | .error e, hz => exact hx pins _ _ e s' J hz
  | .ok (.ret u), hz =>
    obtain ⟨v, H', I3, rv, ev, q3⟩ := J.after hz
    subst ev
    exact ⟨rv, .ref (s.heap.objs.size + 1), H', I3, rfl, q3⟩
  | .ok .next, hz => exact hz.elim
  | .ok .brk, hz => exact hz.elim
  | .ok .cont, hz => exact hz.elim
theorem pe_mkQ (M : Mk X.K C f) (F : FnOk X.prog X.w X.K X.mg X.base CX k f fd ps sp) (hr : Room (k + 1) X.A) (hg : Gl X x) (hm : X.mg x = some (.ref C)) (hb : Binds X.K fd ps []) (hx : ∀ σ, PassesAt CX X σ (E σ)) (ha : PA X (e :: es) t) (hdb : (x == ("__debug__" : Str)) = false)
    (he : starEach (e :: es) X.env = (false, eval e X.env) :: starEach es X.env) (hpl : (backTo pos (starEach es X.env)).any (·.1) = false) : PE X (.Call (.Name x p) (e :: es) [] pos) (tMkQ C sp E t) :=
  ⟨fun pins s0 σ H Q I h => wpAny_Call_Name_kw (ld_glob I hg hm (PySem.W.callWith_K (h₀ := X.base) I.ok.mod.kin M.kp (thn (ha.run pos pins s0 σ H _ I h) fun us s1 ⟨vs, H1, I1, r, q⟩ => ⟨I1.kIn, run_mkQ M F hr hb (hx σ) I1 r q⟩) he hpl) hdb)⟩
end

/-! ### the class, as the head tells it: its property and its length -/
/-- what __len__ promises -/
def spLenK (K : PySem.W.Frag) : Sp := fun vs H Q _ => ∃ a dx fs q ys, vs = [.ref a] ∧ H a = some (.ins (He.ga K "Row") dx fs) ∧ fs.lookup ("past" : Str) = some (V.ref q) ∧ SqT K H q ys ∧ Q (.int ys.length) H
structure RowX (P : Program) (w : World) (K : PySem.W.Frag) (mg : Str → Option Value) (base : Heap) : Prop where
  R : RowC K
  th : ∃ p g fd, PropOf K (He.ga K "Row") "things" p g ∧ FnOk P w K mg base (L2.CX P w) 1 g fd ["self"] (getSp (He.ga K "Row") "now") ∧ Binds K fd ["self"] []
  ln : ∃ g fd, PySem.W.findIn K (.ref (He.ga K "Row")) "__len__" = some (some (.ref g)) ∧ PySem.W.isFn K (.ref g) = true ∧ FnOk P w K mg base (L2.CX P w) 1 g fd ["self"] (spLenK K) ∧ Binds K fd ["self"] []
theorem passF {P : Program} {w : World} {X : Cx} : Passes (L2.CX P w) X (fun _ _ _ => False) := fun _ _ _ _ _ _ _ ⟨_, _, _, _, _, _, _, _, _, _, _, _, h⟩ => h.elim
section
variable {X : Cx} {W : WX} {ρ : List Sl} {e a b c : Expr} {es : List Expr} {Ξ : Xi} {pos px p apos : Pos} {te : DE}
def eThings (i : Nat) : DE := fun ρ _ Φ => match nth ρ i with
  | some (.row _ st) => someK (st.lookup ("now" : Str)) Φ
  | _ => False
theorem re_things (i : Nat) {x : Str} (T : RowX X.prog X.w X.K X.mg X.base) (hr : Room 2 X.A) (hx : nmOk X.env.scope x = true := by kernel_rfl) (hN : X.N[i]? = some x := by kernel_rfl)
    (hb : attributeBase (.Name x px) "things" X.env (eval (.Name x px) X.env) = eval (.Name x px) X.env := by rfl) : RE X W (.Attribute (.Name x px) "things" pos) (eThings i) := fun ρ Ξ Φ k B F H σ env Q q _ => by
  unfold eThings at k
  split at k
  · rename_i p st hi
    rw [nth_eq] at hi
    obtain ⟨d, hl, k⟩ := someK_inv k
    obtain ⟨h1, h2, h3⟩ := nmOk_inv hx
    obtain ⟨e1, ⟨dx, vs, hp, r⟩, fp, m⟩ := env.sl i _ hi
    obtain ⟨v, hv, rv⟩ := r.look hl
    obtain ⟨pp, g, fd, po, F0, bi⟩ := T.th
    exact wE_of (pe_prop (pv i hN h1 h2 h3) T.R.cls po F0 hr bi (dvs := []) .nil passF hb) ⟨.ref p, e1, p, dx, vs, rfl, hp, p, dx, vs, v, rfl, hp, hv, q v d F H k (Step.refl env.sub) rv⟩
  · exact k.elim
def rLenRow (X : Cx) : List V → Hp → VK → Prop := fun xs H Q => ∃ a dx fs q ys, xs = [.ref a] ∧ H a = some (.ins (He.ga X.K "Row") dx fs) ∧ fs.lookup ("past" : Str) = some (V.ref q) ∧ SqT X.K H q ys ∧ Q (.int ys.length) H
theorem call_lenRow (T : RowX X.prog X.w X.K X.mg X.base) (hr : Room 2 X.A) : CallR X (.builtin "len") (rLenRow X) := fun pins s σ H xs us Q I rx h => by
  obtain ⟨a, dx, fs, q, ys, rfl, ea, hl, hq, k⟩ := h
  cases rx with
  | cons r0 rn =>
  cases rn
  cases r0
  obtain ⟨g, fd, fin, isf, F0, bi⟩ := T.ln
  obtain ⟨mA, O, _⟩ := ins_get I.hok ea
  obtain ⟨od, J, _⟩ := O.look
  obtain ⟨mm, hF⟩ := I.fr
  obtain ⟨_, _, _, hz⟩ := I.tuple hq
  have hsp : spLenK X.K [.ref a] H (fun v H' => v = .int ys.length ∧ Q v H') (fun _ _ _ => False) := ⟨a, dx, fs, q, ys, rfl, ea, hl, hq, rfl, k⟩
  have bn := bi s [.ref a] I.kIn rfl
  refine PySem.W.len_K hF I.ok.mod.kin J fin isf (wpAny_call (codeAny_mono (F0.run X.A.in1 X.stack s H _ _ [.ref a] _ _ hr.in1 I.env0.in1 bn (.cons rfl .nil) hsp) fun z s' hz' => ?_))
  match z, hz' with
  | .error e, hz' => exact passF pins σ H s e s' I hz'
  | .ok (.ret u), hz' =>
    obtain ⟨v, H', I3, rv, ev, q3⟩ := I.after hz'
    subst ev
    obtain ⟨t, rfl⟩ := (show ∃ t, u = Value.int ys.length t from rv)
    rw [sizeLine_eq] at hz
    exact ⟨⟨by omega, by omega⟩, .int ys.length, H', I3.tok _, ⟨_, rfl⟩, q3⟩
  | .ok .next, hz' => exact hz'.elim
  | .ok .brk, hz' => exact hz'.elim
  | .ok .cont, hz' => exact hz'.elim
def eLenRow (i : Nat) : DE := fun ρ _ Φ => match nth ρ i with
  | some (.row _ st) => someK (st.lookup ("past" : Str)) fun d => match d with
    | .tuple ds => Φ (.int ds.length)
    | _ => False
  | _ => False
theorem re_lenRow (i : Nat) {x : Str} (T : RowX X.prog X.w X.K X.mg X.base) (hr : Room 2 X.A) (hm : X.mg "len" = none) (hx : nmOk X.env.scope x = true := by kernel_rfl) (hN : X.N[i]? = some x := by kernel_rfl) (hg : X.env.kindOf "len" = some .globalImplicit := by kernel_rfl) : RE X W (.Call (.Name "len" p) [.Name x px] [] pos) (eLenRow i) := fun ρ Ξ Φ k B F H σ env Q q _ => by
  unfold eLenRow at k
  split at k
  · rename_i p0 st hi
    rw [nth_eq] at hi
    obtain ⟨d, hl, k⟩ := someK_inv k
    split at k
    · rename_i ds
      obtain ⟨h1, h2, h3⟩ := nmOk_inv hx
      obtain ⟨e1, ⟨dx, vs, hp, r⟩, fp, m⟩ := env.sl i _ hi
      obtain ⟨v, hv, rv⟩ := r.look hl
      obtain ⟨z, ys, rfl, hs, ra⟩ := rv.tup_inv
      refine wE_of (pe_callB (call_lenRow T hr) hg hm bb_len (pa_cons (pv i hN h1 h2 h3) pa_nil rfl) (by decide) (by decide) rfl rfl) ⟨.ref p0, e1, p0, dx, vs, z, ys, rfl, hp, hv, same_t env.sub hs, ?_⟩
      rw [ra.len]
      exact q _ _ F H k (Step.refl env.sub) (.int _)
    · exact k.elim
  · exact k.elim
end

/-! ### a row is made -/
structure MkR (P : Program) (w : World) (K : PySem.W.Frag) (mg : Str → Option Value) (base : Heap) (n k : Nat) (pr : PrR) : Prop where
  ex : ∃ f fd ps, mg "Row" = some (.ref (He.ga K "Row")) ∧ Mk K (He.ga K "Row") f ∧ Binds K fd ps [] ∧ ps.length = n ∧ FnOk P w K mg base (L2.CX P w) k f fd ps (spdR K pr)
/-- what goes on behind the making: the row as __init__ leaves it -/
def madeK (p : Addr) (Φ : Sl → Prop) : Sl → Prop
  | .rwd p' st (.dat .none) => p' = p ∧ Φ (.row p' st)
  | _ => False
def kRow (pr : PrR) (r : DA) : DK := fun ρ Ξ Ψ => r ρ Ξ fun as => someK (allD as) fun ds => ∀ p, CallK (pr (.row p [] :: ds.map .dat) (madeK p Ψ) Ξ)
theorem agS_dats {K : PySem.W.Frag} {M : Addr → Prop} {F H : Hp} : ∀ {vs : List V} {ds : List PyData}, RpAll K F vs ds → AgS K M F H vs (ds.map .dat)
  | _, _, .nil => .nil
  | _, _, .cons r t => .cons r (agS_dats t)
theorem stepMade {M : Addr → Prop} {F1 H1 F2 H2 : Hp} {x dx : Addr} {o o' : HO} (hx : H1 x = none) (hd : H1 dx = none) (st : StepE (fun a => a = x ∨ M a ∧ DrOk H1 a) F1 (upd (upd H1 dx o) x o') F2 H2) : Step M F1 H1 F2 H2 := by
  have ne : ∀ a, H1 a ≠ none → upd (upd H1 dx o) x o' a = H1 a := fun a n => by
    rw [upd_ne (fun z => n (by rw [z]; exact hx)), upd_ne (fun z => n (by rw [z]; exact hd))]
  exact {
    fr := st.fr
    sub := st.sub
    keepD := fun a u n e => by
      have na : H1 a ≠ none := by rw [e]; exact fun z => nomatch z
      refine st.keep a u (fun z => ?_) (by rw [ne a na]; exact e)
      rcases z with z | z
      · exact na (by rw [z]; exact hx)
      · exact n z
    new := fun a n => st.new a (by rw [ne a n]; exact n)
    alive := fun a n => st.alive a (by rw [ne a n]; exact n)
    dr := fun a m d => by
      have na : H1 a ≠ none := by
        obtain ⟨_, _, _, _, _, _, e⟩ := d
        rw [e]
        exact fun z => nomatch z
      exact st.dr a (.inr ⟨m, d⟩) (d.same (ne a na).symm) }
theorem rk_row {X : Cx} {W : WX} {e : Expr} {es : List Expr} {p pos : Pos} {ra : DA} {n k : Nat} {pr : PrR} (D : MkR X.prog X.w X.K X.mg X.base n k pr) (C : Cxt X W) (hr : Room (k + 1) X.A) (h : RA X W (e :: es) ra) (hg : X.env.kindOf "Row" = some .globalImplicit := by kernel_rfl)
    (hs : isStar e = false := by rfl) (hpl : (backTo pos (starEach es X.env)).any (·.1) = false := by rfl) : RK X W (.Call (.Name "Row" p) (e :: es) [] pos) (kRow pr ra) := fun ρ Ξ Ψ kk B F H σ env Q q qx => by
  obtain ⟨f, fd, ps, hm, M, hb, hn, F0⟩ := D.ex
  refine wE_of (pe_mkQ (E := L2.WE W) M F0 hr hg hm hb (fun σ => passAt C.tk σ) pa_w (by decide) (star_cons hs) hpl) ?_
  refine h _ _ _ kk B F H σ env _ (fun vs as F1 H1 ha st rs => ?_) qx
  obtain ⟨ds, e0, hz⟩ := someK_inv ha
  have ea := allD_inv e0
  subst ea
  intro x dx hx hdx ne
  have sub : Same F1 (upd (upd H1 dx (.own x)) x (.ins (He.ga X.K "Row") dx [])) := by
    have s1 : Same F1 (upd H1 dx (.own x)) := st.sub.trans (same_new hdx)
    exact s1.trans (same_new (by rw [upd_ne (Ne.symm ne)]; exact hx))
  refine ⟨fun a => a = x ∨ B.M a ∧ DrOk H1 a, F1, _, madeK x Ψ, Ξ, sub, fun a m => ?_, .cons (s := .row x []) ⟨rfl, ⟨dx, [], upd_same, .nil⟩, none_sub st.sub hx, .inl rfl⟩ (agS_dats rs.dats), (hz x).out, fun v s F2 H2 hs st2 r => ?_, fun cls dd y F2 H2 hy st2 r _ => ?_⟩
  · rcases m with m | m
    · rw [m, upd_same]; exact fun z => nomatch z
    · have na : H1 a ≠ none := st.alive a (env.st.alive a (env.mh a m.1))
      rw [upd_ne (fun z => na (by rw [z]; exact hx)), upd_ne (fun z => na (by rw [z]; exact hdx))]
      exact na
  · cases s with
    | rwd p' st' t =>
      cases t with
      | dat d =>
        cases d with
        | none =>
          obtain ⟨rfl, hs⟩ := hs
          obtain ⟨ra, fp, rd⟩ := r
          obtain rfl := rd.non_inv
          exact ⟨rfl, q _ _ F2 H2 hs (st.trans (stepMade hx hdx st2)) ⟨rfl, st.back _ hx, ra, fp⟩⟩
        | _ => exact hs.elim
      | _ => exact hs.elim
    | _ => exact hs.elim
  · exact qx cls dd y F2 H2 hy (st.trans (stepMade hx hdx st2)) r

/-! ### expressions that change what the slots say -/
def WV (X : Cx) (W : WX) (ρ : List Sl) (e : Expr) (Ξ : Xi) (Φ : PyData → List Sl → Prop) : Prop :=
  ∀ B F H σ, EnvOk X.K B F H σ ρ → ∀ Q : VK, (∀ v d ρ2 F2 H2, Φ d ρ2 → Same F F2 → EnvOk X.K B F2 H2 σ ρ2 → Rp X.K F2 v d → Q v H2) → DEx X.K B W Ξ → wE X e σ H Q
def WVT (X : Cx) (W : WX) (ρ : List Sl) (e : Expr) (Ξ : Xi) (Φ : Bool → List Sl → Prop) : Prop :=
  ∀ B F H σ, EnvOk X.K B F H σ ρ → ∀ Q : Bool → Hp → Prop, (∀ b ρ2 F2 H2, Φ b ρ2 → Same F F2 → EnvOk X.K B F2 H2 σ ρ2 → Q b H2) → DEx X.K B W Ξ → wT X e σ H Q
def WVW (X : Cx) (W : WX) (ρ : List Sl) (e : Expr) (Ξ : Xi) (Φ : Bool → List Sl → Prop) : Prop :=
  ∀ B F H σ, EnvOk X.K B F H σ ρ → ∀ Q : Bool → Hp → Prop, (∀ b ρ2 F2 H2, Φ b ρ2 → Same F F2 → EnvOk X.K B F2 H2 σ ρ2 → Q b H2) → DEx X.K B W Ξ → wW X e σ H Q
def WVA (X : Cx) (W : WX) (ρ : List Sl) (es : List Expr) (Ξ : Xi) (Φ : List PyData → List Sl → Prop) : Prop :=
  ∀ B F H σ, EnvOk X.K B F H σ ρ → ∀ Q : List V → Hp → Prop, (∀ vs ds ρ2 F2 H2, Φ ds ρ2 → Same F F2 → EnvOk X.K B F2 H2 σ ρ2 → RpAll X.K F2 vs ds → Q vs H2) → DEx X.K B W Ξ → wA X es σ H Q
abbrev DV := List Sl → Xi → (PyData → List Sl → Prop) → Prop
abbrev DVT := List Sl → Xi → (Bool → List Sl → Prop) → Prop
abbrev DVA := List Sl → Xi → (List PyData → List Sl → Prop) → Prop
def RV (X : Cx) (W : WX) (e : Expr) (t : DV) : Prop := ∀ ρ Ξ Φ, t ρ Ξ Φ → WV X W ρ e Ξ Φ
def RVT (X : Cx) (W : WX) (e : Expr) (t : DVT) : Prop := ∀ ρ Ξ Φ, t ρ Ξ Φ → WVT X W ρ e Ξ Φ
def RVW (X : Cx) (W : WX) (e : Expr) (t : DVT) : Prop := ∀ ρ Ξ Φ, t ρ Ξ Φ → WVW X W ρ e Ξ Φ
def RVA (X : Cx) (W : WX) (es : List Expr) (t : DVA) : Prop := ∀ ρ Ξ Φ, t ρ Ξ Φ → WVA X W ρ es Ξ Φ
section
variable {X : Cx} {W : WX} {ρ : List Sl} {e a b c : Expr} {es rest : List Expr} {pos px p apos : Pos} {te : DE} {ta tb : DV} {t s : DVT} {tt : DT} {tr : DVA}
/-! what changes nothing -/
def vE (t : DE) : DV := fun ρ Ξ Φ => t ρ (xat Ξ ρ) fun d => Φ d ρ
theorem rv_e (h : RE X W e te) : RV X W e (vE te) := fun ρ Ξ Φ k B F H σ env Q q dx => h _ _ _ k B F H σ env Q (fun v d F2 H2 hd st r => q v d ρ F2 H2 hd st.fr (env.step st) r) (dx.at env)
def vT (t : DT) : DVT := fun ρ Ξ Φ => t ρ (xat Ξ ρ) fun d => Φ d ρ
theorem rvt_t (h : RT X W e tt) : RVT X W e (vT tt) := fun ρ Ξ Φ k B F H σ env Q q dx => h _ _ _ k B F H σ env Q (fun d F2 H2 hd st => q d ρ F2 H2 hd st.fr (env.step st)) (dx.at env)
/-! tests -/
def vtV (t : DV) : DVT := fun ρ Ξ Φ => t ρ Ξ fun d ρ' => isBl d fun b => Φ b ρ'
theorem rvt_val (h : RV X W e ta) (he : ∀ whole, isTrue e X.env whole = (do let v ← whole; standAt e.pos; holding [v] (truthy v)) := by intro _; rfl) : RVT X W e (vtV ta) := fun ρ Ξ Φ k B F H σ env Q q dx =>
  wT_of (pt_val pe_w he) (h _ _ _ k B F H σ env _ (fun v d ρ2 F2 H2 hd sm env2 r => by
    obtain ⟨b, rfl, hb⟩ := isBl_inv hd
    exact ⟨b, r.bl_inv, q b ρ2 F2 H2 hb sm env2⟩) dx)
def vtNot (t : DVT) : DVT := fun ρ Ξ Φ => t ρ Ξ fun b ρ' => Φ (!b) ρ'
theorem rvt_not (h : RVT X W a t) : RVT X W (.UnaryOp .Not a pos) (vtNot t) := fun ρ Ξ Φ k B F H σ env Q q dx =>
  wT_of (pt_not pt_w) (h _ _ _ k B F H σ env _ (fun b ρ2 F2 H2 hd sm env2 => q _ ρ2 F2 H2 hd sm env2) dx)
theorem rvt_w (h : RVW X W a t) : RVT X W a t := fun ρ Ξ Φ k B F H σ env Q q dx => wT_of (pw_w (X := X) (e := a)).pt (h _ _ _ k B F H σ env Q q dx)
theorem rvw_and1 (h : RVT X W a t) : RVW X W (.BoolOp .And [a] pos) t := fun ρ Ξ Φ k B F H σ env Q q dx => wW_of (pw_and1 pt_w) (h _ _ _ k B F H σ env Q q dx)
theorem rvw_or1 (h : RVT X W a t) : RVW X W (.BoolOp .Or [a] pos) t := fun ρ Ξ Φ k B F H σ env Q q dx => wW_of (pw_or1 pt_w) (h _ _ _ k B F H σ env Q q dx)
def vtAnd (s t : DVT) : DVT := fun ρ Ξ Φ => s ρ Ξ fun k ρ' => brk k (Go (t ρ' Ξ Φ)) (Go (Φ false ρ'))
def vtOr (s t : DVT) : DVT := fun ρ Ξ Φ => s ρ Ξ fun k ρ' => brk k (Go (Φ true ρ')) (Go (t ρ' Ξ Φ))
theorem rvw_and (h : RVT X W a s) (r : RVW X W (.BoolOp .And (b :: rest) pos) t) : RVW X W (.BoolOp .And (a :: b :: rest) pos) (vtAnd s t) := fun ρ Ξ Φ k B F H σ env Q q dx =>
  wW_of (pw_and pt_w pw_w) (h _ _ _ k B F H σ env _ (fun b ρ2 F2 H2 hd sm env2 => by
    cases b with
    | true =>
      rw [if_pos rfl]
      exact r _ _ _ (hd.t rfl) B F2 H2 σ env2 Q (fun c ρ3 F3 H3 hc s3 env3 => q c ρ3 F3 H3 hc (sm.trans s3) env3) dx
    | false =>
      rw [if_neg Bool.false_ne_true]
      exact q _ ρ2 F2 H2 (hd.f rfl) sm env2) dx)
theorem rvw_or (h : RVT X W a s) (r : RVW X W (.BoolOp .Or (b :: rest) pos) t) : RVW X W (.BoolOp .Or (a :: b :: rest) pos) (vtOr s t) := fun ρ Ξ Φ k B F H σ env Q q dx =>
  wW_of (pw_or pt_w pw_w) (h _ _ _ k B F H σ env _ (fun b ρ2 F2 H2 hd sm env2 => by
    cases b with
    | false =>
      rw [if_neg Bool.false_ne_true]
      exact r _ _ _ (hd.f rfl) B F2 H2 σ env2 Q (fun c ρ3 F3 H3 hc s3 env3 => q c ρ3 F3 H3 hc (sm.trans s3) env3) dx
    | true =>
      rw [if_pos rfl]
      exact q _ ρ2 F2 H2 (hd.t rfl) sm env2) dx)
/-! values -/
theorem rv_bool1 {op : BoolOp} (h : RV X W a ta) : RV X W (.BoolOp op [a] pos) ta := fun ρ Ξ Φ k B F H σ env Q q dx => wE_of (pe_one pe_w) (h _ _ _ k B F H σ env Q q dx)
def vAnd (s t : DV) : DV := fun ρ Ξ Φ => s ρ Ξ fun d ρ' => isBl d fun k => brk k (Go (t ρ' Ξ Φ)) (Go (Φ (.bool false) ρ'))
theorem rv_and (h : RV X W a ta) (r : RV X W (.BoolOp .And (b :: rest) pos) tb) : RV X W (.BoolOp .And (a :: b :: rest) pos) (vAnd ta tb) := fun ρ Ξ Φ k B F H σ env Q q dx =>
  wE_of (pe_and pe_w pe_w) (h _ _ _ k B F H σ env _ (fun v d ρ2 F2 H2 hd sm env2 rv => by
    obtain ⟨b, rfl, hb⟩ := isBl_inv hd
    refine ⟨b, rv.bl_inv, ?_⟩
    cases b with
    | true =>
      rw [if_pos rfl]
      exact r _ _ _ (hb.t rfl) B F2 H2 σ env2 Q (fun v3 c ρ3 F3 H3 hc s3 env3 r3 => q v3 c ρ3 F3 H3 hc (sm.trans s3) env3 r3) dx
    | false =>
      rw [if_neg Bool.false_ne_true]
      exact q _ _ ρ2 F2 H2 (hb.f rfl) sm env2 (.bl false)) dx)
def vNot (t : DV) : DV := fun ρ Ξ Φ => t ρ Ξ fun d ρ' => isBl d fun b => Φ (.bool (!b)) ρ'
theorem rv_not (h : RV X W a ta) : RV X W (.UnaryOp .Not a pos) (vNot ta) := fun ρ Ξ Φ k B F H σ env Q q dx =>
  wE_of (pe_not pe_w) (h _ _ _ k B F H σ env _ (fun v d ρ2 F2 H2 hd sm env2 rv => by
    obtain ⟨b, rfl, hb⟩ := isBl_inv hd
    exact ⟨b, rv.bl_inv, q _ _ ρ2 F2 H2 hb sm env2 (.bl _)⟩) dx)
def vIf (c : DT) (s t : DV) : DV := fun ρ Ξ Φ => c ρ (xat Ξ ρ) fun k => brk k (Go (s ρ Ξ Φ)) (Go (t ρ Ξ Φ))
theorem rv_if (hc : RT X W c tt) (h : RV X W a ta) (r : RV X W b tb) : RV X W (.IfExp c a b pos) (vIf tt ta tb) := fun ρ Ξ Φ k B F H σ env Q q dx =>
  wE_of (pe_ifExp pt_w pe_w pe_w) (hc _ _ _ k B F H σ env _ (fun k F1 H1 hk st => by
    have q1 : ∀ v d ρ2 F2 H2, Φ d ρ2 → Same F1 F2 → EnvOk X.K B F2 H2 σ ρ2 → Rp X.K F2 v d → Q v H2 := fun v d ρ2 F2 H2 hd sm e2 rv => q v d ρ2 F2 H2 hd (st.fr.trans sm) e2 rv
    cases k with
    | true =>
      rw [if_pos rfl]
      exact h _ _ _ (hk.t rfl) B F1 H1 σ (env.step st) Q q1 dx
    | false =>
      rw [if_neg Bool.false_ne_true]
      exact r _ _ _ (hk.f rfl) B F1 H1 σ (env.step st) Q q1 dx) (dx.at env))
/-! comparisons -/
def vOp (o : OP) (s t : DV) : DV := fun ρ Ξ Φ => s ρ Ξ fun x ρ1 => t ρ1 Ξ fun y ρ2 => o x y fun d => Φ d ρ2
theorem rv_cmp {op : CmpOp} {r : R2} {o : OP} (ho : OpR X (compareOp op) r) (hm : behindInMarks op b = false) (z : OpIs X r o) (ha : RV X W a ta) (hb : RV X W b tb) : RV X W (.Compare a [op] [b] pos) (vOp o ta tb) := fun ρ Ξ Φ k B F H σ env Q q dx =>
  wE_of (pe_cmpR ho pe_w pe_w hm) (ha _ _ _ k B F H σ env _ (fun v x ρ1 F1 H1 hx s1 env1 r1 => hb _ _ _ hx B F1 H1 σ env1 _ (fun w y ρ2 F2 H2 hy s2 env2 r2 =>
    z x y _ hy B.M F2 H2 v w env2.sub (r1.mono s2) r2 Q (fun u d F3 H3 hd st3 r3 => q u d ρ2 F3 H3 hd ((s1.trans s2).trans st3.fr) (env2.step st3) r3)) dx) dx)
theorem rv_eq (C : Cxt X W) (ha : RV X W a ta) (hb : RV X W b tb) : RV X W (.Compare a [.Eq] [b] pos) (vOp oEq ta tb) := rv_cmp (op_eqA C.hu) (nomark _) is_oEq ha hb
theorem rv_ne (C : Cxt X W) (ha : RV X W a ta) (hb : RV X W b tb) : RV X W (.Compare a [.NotEq] [b] pos) (vOp oNe ta tb) := rv_cmp (op_neA C.hu) (nomark _) is_oNe ha hb
/-- is not, of bools -/
def oNotB : OP := fun x y Φ => match x, y with
  | .bool i, .bool j => Φ (.bool (!decide (i = j)))
  | _, _ => False
theorem is_oNotB : OpIs X rNotB oNotB := fun x y Φ h => by
  unfold oNotB at h
  split at h
  · exact fun M F H vx vy s rx ry Q q => ⟨_, _, rx.bl_inv, ry.bl_inv, q _ _ F H h (Step.refl s) (.bl _)⟩
  · exact h.elim
theorem rv_isnot (ha : RV X W a ta) (hb : RV X W b tb) : RV X W (.Compare a [.IsNot] [b] pos) (vOp oNotB ta tb) := rv_cmp op_notBl (nomark _) is_oNotB ha hb
theorem rt_isnotB {ea eb : DE} (ha : RE X W a ea) (hb : RE X W b eb) : RT X W (.Compare a [.IsNot] [b] pos) (tV (eOp oNotB ea eb)) := rt_cmp op_notBl (nomark _) is_oNotB ha hb
theorem rvt_cmp {op : CmpOp} {r : R2} {o : OP} (ho : OpR X (compareOp op) r) (hm : behindInMarks op b = false) (z : OpIs X r o) (ha : RV X W a ta) (hb : RV X W b tb) : RVT X W (.Compare a [op] [b] pos) (vtV (vOp o ta tb)) := fun ρ Ξ Φ k B F H σ env Q q dx =>
  wT_of (pt_cmpR ho pe_w pe_w hm) (ha _ _ _ k B F H σ env _ (fun v x ρ1 F1 H1 hx s1 env1 r1 => hb _ _ _ hx B F1 H1 σ env1 _ (fun w y ρ2 F2 H2 hy s2 env2 r2 =>
    z x y _ hy B.M F2 H2 v w env2.sub (r1.mono s2) r2 _ (fun u d F3 H3 hd st3 r3 => by
      obtain ⟨c, rfl, hc⟩ := isBl_inv hd
      exact ⟨c, r3.bl_inv, q c ρ2 F3 H3 hc ((s1.trans s2).trans st3.fr) (env2.step st3)⟩)) dx) dx)
theorem rvt_eq (C : Cxt X W) (ha : RV X W a ta) (hb : RV X W b tb) : RVT X W (.Compare a [.Eq] [b] pos) (vtV (vOp oEq ta tb)) := rvt_cmp (op_eqA C.hu) (nomark _) is_oEq ha hb
theorem rvt_ne (C : Cxt X W) (ha : RV X W a ta) (hb : RV X W b tb) : RVT X W (.Compare a [.NotEq] [b] pos) (vtV (vOp oNe ta tb)) := rvt_cmp (op_neA C.hu) (nomark _) is_oNe ha hb
theorem rvt_isnot (ha : RV X W a ta) (hb : RV X W b tb) : RVT X W (.Compare a [.IsNot] [b] pos) (vtV (vOp oNotB ta tb)) := rvt_cmp op_notBl (nomark _) is_oNotB ha hb
/-! calls of defs that take data -/
def vaNil : DVA := fun ρ _ Φ => Φ [] ρ
def vaCons (t : DV) (r : DVA) : DVA := fun ρ Ξ Φ => t ρ Ξ fun d ρ1 => r ρ1 Ξ fun ds ρ2 => Φ (d :: ds) ρ2
theorem rva_nil : RVA X W [] vaNil := fun ρ Ξ Φ k B F H σ env Q q dx => wA_of pa_nil (q [] [] ρ F H k (Same.refl F) env .nil)
theorem rva_cons (h : RV X W e ta) (r : RVA X W es tr) (hs : isStar e = false := by rfl) : RVA X W (e :: es) (vaCons ta tr) := fun ρ Ξ Φ k B F H σ env Q q dx =>
  wA_of (pa_cons pe_w pa_w (star_cons hs)) (h _ _ _ k B F H σ env _ (fun v d ρ1 F1 H1 hd s1 env1 r1 => r _ _ _ hd B F1 H1 σ env1 _ (fun vs ds ρ2 F2 H2 ha s2 env2 rs =>
    q (v :: vs) (d :: ds) ρ2 F2 H2 ha (s1.trans s2) env2 (.cons (r1.mono s2) rs)) dx) dx)
def datK (Φ : PyData → Prop) : Sl → Prop
  | .dat d => Φ d
  | _ => False
def vCall (pr : Pr) (r : DVA) : DV := fun ρ Ξ Φ => r ρ Ξ fun ds ρ' => CallK (pr (ds.map .dat) (datK fun d => Φ d ρ') (xat Ξ ρ'))
theorem rv_call {x : Str} {n k : Nat} {pr : Pr} (D : Def X.prog X.w X.K X.mg X.base x n k pr) (C : Cxt X W) (hr : Room k X.A) (h : RVA X W (e :: es) tr) (hg : X.env.kindOf x = some .globalImplicit := by kernel_rfl) (hb : bltOk x = true := by kernel_rfl)
    (hs : isStar e = false := by rfl) (hpl : (backTo pos (starEach es X.env)).any (·.1) = false := by rfl) : RV X W (.Call (.Name x p) (e :: es) [] pos) (vCall pr tr) := fun ρ Ξ Φ kk B F H σ env Q q dx => by
  obtain ⟨f, fd, ps, hm, hk, hbi, hn, F0⟩ := D.ex
  refine wE_of (pe_callS (E := L2.WE W) F0 hr hg hm hk hbi (fun σ => passAt C.tk σ) pa_w (bltOk_inv hb).2 (star_cons hs) hpl) ?_
  refine h _ _ _ kk B F H σ env _ (fun vs ds ρ1 F1 H1 ha s1 env1 rs => ?_) dx
  refine ⟨fun a => B.M a ∧ DrOk H1 a, F1, _, _, _, env1.sub, fun a m => env1.st.alive a (env1.mh a m.1), agAll_dat rs, ha.out, fun v s F2 H2 hs st2 r => ?_, fun cls dd y F2 H2 hy st2 r => (dx.at env1) cls dd y F2 H2 hy st2.lift r⟩
  cases s with
  | dat d => exact q v d ρ1 F2 H2 hs (s1.trans st2.fr) (env1.step st2.lift) r
  | _ => exact hs.elim
end

/-! ### what stands behind a call that may change the row -/
/-- one of M at p may have been changed: what is not the row -/
theorem SlOk.stepR {K : PySem.W.Frag} {B : Base} {F H F2 H2 : Hp} {o : Option (Option V)} {t : Sl} {p C dx0 : Addr} {fs : List (Str × V)} (hp : H p = some (.ins C dx0 fs)) (nr : t.isRow = false) (st : StepE (fun a => a = p ∨ B.M a ∧ DrOk H a) F H F2 H2) (h : SlOk K B F H o t) : SlOk K B F2 H2 o t := by
  have kp : ∀ a u, ¬ B.M a → H a = some u → (∀ C dx vs, u ≠ .ins C dx vs) → H2 a = some u := fun a u n e ni => st.keep a u (fun z => by
    rcases z with z | z
    · rw [z, hp] at e
      exact ni _ _ _ (Option.some.inj e).symm
    · exact n z.1) e
  have fz : ∀ a u, H a = some u → F a = none → F2 a = none := fun a u e f => by rw [st.new a (by rw [e]; exact fun z => nomatch z)]; exact f
  cases t with
  | dat d =>
    obtain ⟨v, e, r⟩ := h
    exact ⟨v, e, r.mono st.fr⟩
  | own ds =>
    obtain ⟨q, vs, e, hq, fp, h0, nm, r⟩ := h
    exact ⟨q, vs, e, kp q _ nm hq (fun _ _ _ z => nomatch z), fz q _ hq fp, h0, nm, r.mono st.fr⟩
  | owp q ds =>
    obtain ⟨vs, e, hq, fp, h0, nm, r⟩ := h
    exact ⟨vs, e, kp q _ nm hq (fun _ _ _ z => nomatch z), fz q _ hq fp, h0, nm, r.mono st.fr⟩
  | odk ds =>
    obtain ⟨q, vs, e, hq, fp, h0, nm, r⟩ := h
    exact ⟨q, vs, e, kp q _ nm hq (fun _ _ _ z => nomatch z), fz q _ hq fp, h0, nm, r.mono st.fr⟩
  | fdk ds =>
    obtain ⟨q, ob, vs, e, hq, r⟩ := h
    exact ⟨q, ob, vs, e, st.fr _ _ hq, r.mono st.fr⟩
  | odn ds =>
    obtain ⟨q, e, hq, fp, h0, nm⟩ := h
    exact ⟨q, e, kp q _ nm hq (fun _ _ _ z => by unfold NdO at z; cases z), fz q _ hq fp, h0, nm⟩
  | fdn ds =>
    obtain ⟨q, ob, e, hq⟩ := h
    exact ⟨q, ob, e, st.fr _ _ hq⟩
  | row q fs => cases nr
  | rwd _ _ _ => trivial
  | own2 _ => trivial
  | drw =>
    obtain ⟨q, e, m, d, fp⟩ := h
    have d2 := d
    obtain ⟨a, b, ns, _, _, _, hq⟩ := d2
    exact ⟨q, e, m, st.dr q (.inr ⟨m, d⟩) d, fz q _ hq fp⟩
  | scr ns =>
    obtain ⟨q, e, hq⟩ := h
    exact ⟨q, e, st.fr.seq hq⟩
  | exc a d fs =>
    obtain ⟨e, h⟩ := h
    refine ⟨e, ?_⟩
    rcases h with h | ⟨dd, vs, e1, e2, r⟩
    · exact .inl h
    · exact .inr ⟨dd, vs, e1, st.fr _ _ e2, r.mono st.fr⟩
  | unk => trivial
theorem EnvOk.stepR {K : PySem.W.Frag} {B : Base} {F H F2 H2 : Hp} {σ : L2.St} {ρ : List Sl} {i : Nat} {p : Addr} {st st2 : List (Str × PyData)} (env : EnvOk K B F H σ ρ) (hi : ρ[i]? = some (.row p st)) (one : oneRow ρ i = true) (sp : StepE (fun a => a = p ∨ B.M a ∧ DrOk H a) F H F2 H2) (ra : RowAt K F2 H2 p st2) (fp : F2 p = none) : EnvOk K B F2 H2 σ (ρ.set i (.row p st2)) := by
  obtain ⟨e1, ⟨dx, vs, hp, _⟩, _, m⟩ := env.sl i _ hi
  have hlt : i < ρ.length := (List.getElem?_eq_some_iff.mp hi).1
  refine ⟨⟨env.st.fr.trans sp.fr, sp.sub, fun a o n e => ?_, fun a n => ?_, fun a n => sp.alive a (env.st.alive a n), fun a ma d => ?_⟩, env.mh, env.gf.trans sp.fr, by rw [List.length_set]; exact env.len, fun j u e => ?_, fun a b u v z n e1' e2' o1 o2 q1 q2 => ?_⟩
  · refine sp.keep a o (fun z => ?_) (env.st.keep a o n e)
    rcases z with z | z
    · rcases m with m | m
      · exact n (by rw [z]; exact m)
      · rw [z, m] at e; cases e
    · exact n z.1
  · rw [sp.new a (env.st.alive a n)]
    exact env.st.new a n
  · have d1 := env.st.dr a ma d
    exact sp.dr a (.inr ⟨ma, d1⟩) d1
  · by_cases hj : j = i
    · subst hj
      rw [List.getElem?_set_self hlt] at e
      cases e
      exact ⟨e1, ra, fp, m⟩
    · rw [List.getElem?_set_ne (Ne.symm hj)] at e
      exact (env.sl j u e).stepR hp (oneRow_at one hj e) sp
  · have tr : ∀ {c : Nat} {z : Sl}, z.isOwn = true → (ρ.set i (.row p st2))[c]? = some z → ρ[c]? = some z := fun {c z} hz e => by
      by_cases hc : c = i
      · subst hc
        rw [List.getElem?_set_self hlt] at e
        cases e
        cases hz
      · rwa [List.getElem?_set_ne (Ne.symm hc)] at e
    exact env.ne a b u v z n (tr o1 e1') (tr o2 e2') o1 o2 q1 q2
theorem set_id {ρ : List Sl} {i : Nat} {s : Sl} (h : ρ[i]? = some s) : ρ.set i s = ρ := by
  obtain ⟨hlt, e⟩ := List.getElem?_eq_some_iff.mp h
  rw [← e, List.set_getElem_self]
/-- a result, and the row as it is then -/
def rwdK (p : Addr) (i : Nat) (ρ : List Sl) (Φ : PyData → List Sl → Prop) : Sl → Prop
  | .rwd p' st (.dat d) => p' = p ∧ Φ d (ρ.set i (.row p' st))
  | _ => False
/-- a call with the row p among what is given -/
theorem spdR_run {K : PySem.W.Frag} {W : WX} {B : Base} {F H : Hp} {σ : L2.St} {ρ : List Sl} {i : Nat} {p : Addr} {st : List (Str × PyData)} {pr : PrR} {vs : List V} {ss : List Sl} {Ξ : Xi} {Φ : PyData → List Sl → Prop} {Q : VK} (env : EnvOk K B F H σ ρ) (hi : ρ[i]? = some (.row p st)) (one : oneRow ρ i = true)
    (ag : AgS K (fun a => a = p ∨ B.M a ∧ DrOk H a) F H vs ss) (hm : Sl.row p st ∈ ss) (hp : pr ss (rwdK p i ρ Φ) (xat Ξ ρ)) (q : ∀ v d ρ2 F2 H2, Φ d ρ2 → Same F F2 → EnvOk K B F2 H2 σ ρ2 → Rp K F2 v d → Q v H2) (dx : DEx K B W Ξ) : spdR K pr vs H Q (L2.WE W σ) := by
  have h0 := env.sl i _ hi
  refine ⟨fun a => a = p ∨ B.M a ∧ DrOk H a, F, ss, _, _, env.sub, fun a m => ?_, ag, hp, fun v s F2 H2 hs sp r => ?_, fun cls dd y F2 H2 hy sp r ro => ?_⟩
  · rcases m with m | m
    · obtain ⟨_, ⟨_, _, h, _⟩, _⟩ := h0
      rw [m, h]
      exact fun z => nomatch z
    · exact env.st.alive a (env.mh a m.1)
  · cases s with
    | rwd p' st' t =>
      cases t with
      | dat d =>
        obtain ⟨rfl, hs⟩ := hs
        obtain ⟨ra, fp, rd⟩ := r
        exact q v d _ F2 H2 hs sp.fr (env.stepR hi one sp ra fp) rd
      | _ => exact hs.elim
    | _ => exact hs.elim
  · obtain ⟨ra, fp⟩ := ro p st hm
    have e2 := env.stepR hi one sp ra fp
    rw [set_id hi] at e2
    exact dx cls dd y ρ F2 H2 σ hy e2 r
/-- a method of the class -/
structure MethR (P : Program) (w : World) (K : PySem.W.Frag) (mg : Str → Option Value) (base : Heap) (m : Str) (n k : Nat) (pr : PrR) (dds : List PyData) : Prop where
  c : L2.Cls K (He.ga K "Row")
  ex : ∃ f fd ps dvs ds, Meth K (He.ga K "Row") m f ∧ Binds K fd ps [] ∧ Binds K fd ps ds ∧ Vals dvs ds ∧ (∀ F, RpAll K F dvs dds) ∧ ps.length = n ∧ FnOk P w K mg base (L2.CX P w) k f fd ps (spdR K pr)
/-- a def that takes a row among others -/
structure DefR (P : Program) (w : World) (K : PySem.W.Frag) (mg : Str → Option Value) (base : Heap) (x : Str) (n k : Nat) (pr : PrR) : Prop where
  ex : ∃ f fd ps, mg x = some (.ref f) ∧ PySem.W.keepIn K (.ref f) = true ∧ Binds K fd ps [] ∧ ps.length = n ∧ FnOk P w K mg base (L2.CX P w) k f fd ps (spdR K pr)
section
variable {X : Cx} {W : WX} {ρ : List Sl} {e a b c : Expr} {es rest : List Expr} {pos px p apos : Pos} {ra : DA}
def vMeth0 (i : Nat) (m : Str) (pr : PrR) : DV := fun ρ Ξ Φ => match nth ρ i with
  | some (.row p st) => (oneRow ρ i = true ∧ st.lookup m = none) ∧ CallK (pr [.row p st] (rwdK p i ρ Φ) (xat Ξ ρ))
  | _ => False
theorem FsRp.no {K : PySem.W.Frag} {F : Hp} {f : Str} : ∀ {vs : List (Str × V)} {ds : List (Str × PyData)}, FsRp K F vs ds → ds.lookup f = none → vs.lookup f = none
  | _, _, .nil, _ => rfl
  | _, _, .cons (k := k) h t, e => by
    rw [List.lookup_cons] at e ⊢
    cases hk : f == k with
    | true => rw [hk] at e; cases e
    | false => rw [hk] at e; exact t.no e
theorem AgS.row {K : PySem.W.Frag} {B : Base} {F H : Hp} {σ : L2.St} {i : Nat} {p : Addr} {st : List (Str × PyData)} {vs : List V} {ss : List Sl} (env : EnvOk K B F H σ ρ) (hi : ρ[i]? = some (.row p st)) (t : AgS K (fun a => a = p ∨ B.M a ∧ DrOk H a) F H vs ss) : AgS K (fun a => a = p ∨ B.M a ∧ DrOk H a) F H (.ref p :: vs) (.row p st :: ss) := by
  obtain ⟨_, ra, fp, _⟩ := env.sl i _ hi
  exact .cons ⟨rfl, ra, fp, .inl rfl⟩ t
theorem rv_meth0 (i : Nat) {x m : Str} {n k : Nat} {pr : PrR} (D : MethR X.prog X.w X.K X.mg X.base m n k pr []) (C : Cxt X W) (hr : Room k X.A) (hx : nmOk X.env.scope x = true := by kernel_rfl) (hN : X.N[i]? = some x := by kernel_rfl)
    (ht : ∃ pl : Sem Bool, eval (.Call (.Attribute (.Name x px) m apos) [] [] pos) X.env = (do
      let u ← eval (.Name x px) X.env
      standAt apos.atName
      let (g, own) ← holding [u] (getMethod u m pl)
      callWith pos g own (backTo pos (starEach [] X.env)) (backToKw pos (keywordEach [] X.env))) := by exact ⟨_, rfl⟩) : RV X W (.Call (.Attribute (.Name x px) m apos) [] [] pos) (vMeth0 i m pr) := fun ρ Ξ Φ kk B F H σ env Q q dx => by
  unfold vMeth0 at kk
  split at kk
  · rename_i p st hi
    rw [nth_eq] at hi
    obtain ⟨⟨one, hl⟩, kk⟩ := kk
    obtain ⟨f, fd, ps, dvs, ds, M, hb, _, _, _, hn, F0⟩ := D.ex
    obtain ⟨pl, ht⟩ := ht
    obtain ⟨h1, h2, h3⟩ := nmOk_inv hx
    obtain ⟨e1, ⟨dx0, vs, hp, r⟩, _⟩ := env.sl i _ hi
    refine wE_of (pe_meQ0 (pl := pl) (E := L2.WE W) (pv i hN h1 h2 h3) D.c M F0 hr hb (dvs := []) .nil (fun σ => passAt C.tk σ) ht) ⟨.ref p, e1, ⟨p, dx0, vs, rfl, hp, r.no hl⟩, ?_⟩
    exact spdR_run env hi one (AgS.row env hi .nil) (List.mem_singleton.mpr rfl) kk.out q dx
  · exact kk.elim
def vMeth (i : Nat) (m : Str) (pr : PrR) (r : DA) (dds : List PyData) : DV := fun ρ Ξ Φ => match nth ρ i with
  | some (.row p st) => (oneRow ρ i = true ∧ st.lookup m = none) ∧ Go (r ρ (xat Ξ ρ) fun as => someK (allD as) fun ds => CallK (pr (.row p st :: (ds ++ dds).map .dat) (rwdK p i ρ Φ) (xat Ξ ρ)))
  | _ => False
theorem rv_methD (i : Nat) {x m : Str} {n k : Nat} {pr : PrR} {dds : List PyData} (D : MethR X.prog X.w X.K X.mg X.base m n k pr dds) (C : Cxt X W) (hr : Room k X.A) (h : RA X W (e :: es) ra) (hx : nmOk X.env.scope x = true := by kernel_rfl) (hN : X.N[i]? = some x := by kernel_rfl)
    (hs : isStar e = false := by rfl) (hpl : (backTo pos (starEach es X.env)).any (·.1) = false := by rfl)
    (ht : ∃ pl : Sem Bool, eval (.Call (.Attribute (.Name x px) m apos) (e :: es) [] pos) X.env = (do
      let u ← eval (.Name x px) X.env
      standAt apos.atName
      let (g, own) ← holding [u] (getMethod u m pl)
      callWith pos g own (backTo pos (starEach (e :: es) X.env)) (backToKw pos (keywordEach [] X.env))) := by exact ⟨_, rfl⟩) : RV X W (.Call (.Attribute (.Name x px) m apos) (e :: es) [] pos) (vMeth i m pr ra dds) := fun ρ Ξ Φ kk B F H σ env Q q dx => by
  unfold vMeth at kk
  split at kk
  · rename_i p st hi
    rw [nth_eq] at hi
    obtain ⟨⟨one, hl⟩, kk⟩ := kk
    obtain ⟨f, fd, ps, dvs, ds, M, _, hb, hv, hd, hn, F0⟩ := D.ex
    obtain ⟨pl, ht⟩ := ht
    obtain ⟨h1, h2, h3⟩ := nmOk_inv hx
    obtain ⟨e1, ⟨dx0, vs, hp, r⟩, _⟩ := env.sl i _ hi
    refine wE_of (pe_meQ (pl := pl) (E := L2.WE W) (pv i hN h1 h2 h3) D.c M F0 hr hb hv (fun σ => passAt C.tk σ) pa_w (star_cons hs) hpl ht) ⟨.ref p, e1, ⟨p, dx0, vs, rfl, hp, r.no hl⟩, ?_⟩
    refine h _ _ _ kk B F H σ env _ (fun ws as F1 H1 ha st1 rs => ?_) (dx.at env)
    obtain ⟨xs, e0, hz⟩ := someK_inv ha
    have ea := allD_inv e0
    subst ea
    have env1 := env.step st1
    refine spdR_run env1 hi one (AgS.row env1 hi (agS_dats (rs.dats.append (hd F1)))) (List.mem_cons_self ..) ?_ (fun v d ρ2 F2 H2 hh sm => q v d ρ2 F2 H2 hh (st1.fr.trans sm)) dx
    exact hz.out
  · exact kk.elim
theorem MethR.full {P : Program} {w : World} {K : PySem.W.Frag} {mg : Str → Option Value} {base : Heap} {m : Str} {n k : Nat} {pr : PrR} {dds : List PyData} (D : MethR P w K mg base m n k pr dds) : MethR P w K mg base m n k pr [] := by
  obtain ⟨f, fd, ps, dvs, ds, M, hb, _, _, _, hn, F0⟩ := D.ex
  exact ⟨D.c, f, fd, ps, [], [], M, hb, hb, .nil, fun _ => .nil, hn, F0⟩
/-! what is given, a row among it -/
def WAS (X : Cx) (W : WX) (ρ : List Sl) (p : Addr) (es : List Expr) (Ξ : Exn → Prop) (Φ : List Sl → Prop) : Prop :=
  ∀ B F H σ, EnvOk X.K B F H σ ρ → ∀ Q : List V → Hp → Prop, (∀ vs ss F2 H2, Φ ss → Step B.M F H F2 H2 → AgS X.K (fun a => a = p ∨ B.M a ∧ DrOk H2 a) F2 H2 vs ss → Q vs H2) → ExE X.K B.M F H W σ Ξ → wA X es σ H Q
abbrev DAS := List Sl → Addr → (Exn → Prop) → (List Sl → Prop) → Prop
def RAS (X : Cx) (W : WX) (es : List Expr) (t : DAS) : Prop := ∀ ρ p Ξ Φ, t ρ p Ξ Φ → WAS X W ρ p es Ξ Φ
theorem SgOk.step {K : PySem.W.Frag} {M : Addr → Prop} {F H F2 H2 : Hp} {p : Addr} {v : V} {s : Sl} (st : Step M F H F2 H2) (h : SgOk K (fun a => a = p ∨ M a ∧ DrOk H a) F H v s) (hp : ∀ q st, s = .row q st → q = p) : SgOk K (fun a => a = p ∨ M a ∧ DrOk H2 a) F2 H2 v s := by
  cases s with
  | dat d => exact Rp.mono st.fr _ _ h
  | drw =>
    obtain ⟨q, e, m, d, f⟩ := h
    have d2 := d
    obtain ⟨_, _, _, _, _, _, hq⟩ := d2
    have f2 : F2 q = none := by rw [st.new q (by rw [hq]; exact fun z => nomatch z)]; exact f
    rcases m with m | m
    · have dd : DrOk H2 q := by
        by_cases hM : M q
        · exact st.dr q hM d
        · exact d.same ((hq.trans (st.keep q _ hM hq).symm))
      exact ⟨q, e, .inl m, dd, f2⟩
    · exact ⟨q, e, .inr ⟨m.1, st.dr q m.1 d⟩, st.dr q m.1 d, f2⟩
  | scr ns => obtain ⟨q, e, hq⟩ := h; exact ⟨q, e, st.fr.seq hq⟩
  | row q fs =>
    obtain ⟨e, ⟨dx, vs, hq, r⟩, f, m⟩ := h
    exact ⟨e, ⟨dx, vs, st.keepD q _ (fun z => by obtain ⟨xs, w⟩ := z.2.lst hq; cases w) hq, r.mono st.fr⟩, by rw [st.new q (by rw [hq]; exact fun z => nomatch z)]; exact f, .inl (hp q fs rfl)⟩
  | _ => exact h.elim
def asNil : DAS := fun _ _ _ Φ => Φ []
def asCons (t : DE) (r : DAS) : DAS := fun ρ p Ξ Φ => t ρ Ξ fun d => r ρ p Ξ fun ss => Φ (.dat d :: ss)
def asDrw (i : Nat) (r : DAS) : DAS := fun ρ p Ξ Φ => match nth ρ i with
  | some .drw => r ρ p Ξ fun ss => Φ (.drw :: ss)
  | _ => False
def asRow (i : Nat) (r : DAS) : DAS := fun ρ p Ξ Φ => match nth ρ i with
  | some (.row q st) => q = p ∧ Go (r ρ p Ξ fun ss => Φ (.row q st :: ss))
  | _ => False
variable {te : DE} {rs : DAS}
theorem ras_nil : RAS X W [] asNil := fun ρ p Ξ Φ k B F H σ env Q q qx => wA_of pa_nil (q [] [] F H k (Step.refl env.sub) .nil)
theorem ras_cons (h : RE X W e te) (r : RAS X W es rs) (hs : isStar e = false := by rfl) : RAS X W (e :: es) (asCons te rs) := fun ρ p Ξ Φ k B F H σ env Q q qx =>
  wA_of (pa_cons pe_w pa_w (star_cons hs)) (h _ _ _ k B F H σ env _ (fun v d F1 H1 hd st r1 => r _ _ _ _ hd B F1 H1 σ (env.step st) _ (fun vs ss F2 H2 ha st2 rs =>
    q (v :: vs) (.dat d :: ss) F2 H2 ha (st.trans st2) (.cons (Rp.mono st2.fr _ _ r1) rs)) (qx.step st)) qx)
theorem ras_drw (i : Nat) {x : Str} (r : RAS X W es rs) (hx : nmOk X.env.scope x = true := by kernel_rfl) (hN : X.N[i]? = some x := by kernel_rfl) : RAS X W (.Name x px :: es) (asDrw i rs) := fun ρ p Ξ Φ k B F H σ env Q q qx => by
  unfold asDrw at k
  split at k
  · rename_i hi
    rw [nth_eq] at hi
    obtain ⟨h1, h2, h3⟩ := nmOk_inv hx
    obtain ⟨w, e1, m, d, fp⟩ := env.sl i _ hi
    exact wA_of (pa_cons (pv i hN h1 h2 h3) pa_w rfl) ⟨_, e1, r _ _ _ _ k B F H σ env _ (fun vs ss F2 H2 ha st2 rs =>
      q (.ref w :: vs) (.drw :: ss) F2 H2 ha st2 (.cons (SgOk.step st2 (s := .drw) ⟨w, rfl, .inr ⟨m, d⟩, d, fp⟩ (fun _ _ z => nomatch z)) rs)) qx⟩
  · exact k.elim
theorem ras_row (i : Nat) {x : Str} (r : RAS X W es rs) (hx : nmOk X.env.scope x = true := by kernel_rfl) (hN : X.N[i]? = some x := by kernel_rfl) : RAS X W (.Name x px :: es) (asRow i rs) := fun ρ p Ξ Φ k B F H σ env Q q qx => by
  unfold asRow at k
  split at k
  · rename_i w st hi
    rw [nth_eq] at hi
    obtain ⟨rfl, k⟩ := k
    obtain ⟨h1, h2, h3⟩ := nmOk_inv hx
    obtain ⟨e1, ra, fp, _⟩ := env.sl i _ hi
    exact wA_of (pa_cons (pv i hN h1 h2 h3) pa_w rfl) ⟨_, e1, r _ _ _ _ k B F H σ env _ (fun vs ss F2 H2 ha st2 rs =>
      q (.ref w :: vs) (.row w st :: ss) F2 H2 ha st2 (.cons (SgOk.step st2 (s := .row w st) ⟨rfl, ra, fp, .inl rfl⟩ (fun _ _ z => by cases z; rfl)) rs)) qx⟩
  · exact k.elim
/-- the row is among what is given -/
def rowIn (p : Addr) (st : List (Str × PyData)) : List Sl → Prop
  | .row q st' :: _ => q = p ∧ st' = st
  | _ :: ss => rowIn p st ss
  | [] => False
theorem rowIn_mem {p : Addr} {st : List (Str × PyData)} : ∀ {ss : List Sl}, rowIn p st ss → Sl.row p st ∈ ss
  | [], h => h.elim
  | s :: ss, h => by
    cases s with
    | row q st' => obtain ⟨rfl, rfl⟩ := h; exact List.mem_cons_self ..
    | _ => exact List.mem_cons_of_mem _ (rowIn_mem (ss := ss) h)
def vCallR (i : Nat) (pr : PrR) (r : DAS) : DV := fun ρ Ξ Φ => match nth ρ i with
  | some (.row p st) => oneRow ρ i = true ∧ Go (r ρ p (xat Ξ ρ) fun ss => rowIn p st ss ∧ Go (CallK (pr ss (rwdK p i ρ Φ) (xat Ξ ρ))))
  | _ => False
theorem rv_callR (i : Nat) {x : Str} {n k : Nat} {pr : PrR} (D : DefR X.prog X.w X.K X.mg X.base x n k pr) (C : Cxt X W) (hr : Room k X.A) (h : RAS X W (e :: es) rs) (hg : X.env.kindOf x = some .globalImplicit := by kernel_rfl) (hb : bltOk x = true := by kernel_rfl)
    (hs : isStar e = false := by rfl) (hpl : (backTo pos (starEach es X.env)).any (·.1) = false := by rfl) : RV X W (.Call (.Name x px) (e :: es) [] pos) (vCallR i pr rs) := fun ρ Ξ Φ kk B F H σ env Q q dx => by
  unfold vCallR at kk
  split at kk
  · rename_i p st hi
    rw [nth_eq] at hi
    obtain ⟨one, kk⟩ := kk
    obtain ⟨f, fd, ps, hm, hk, hbi, hn, F0⟩ := D.ex
    refine wE_of (pe_callS (E := L2.WE W) F0 hr hg hm hk hbi (fun σ => passAt C.tk σ) pa_w (bltOk_inv hb).2 (star_cons hs) hpl) ?_
    refine h _ _ _ _ kk B F H σ env _ (fun vs ss F1 H1 ha st1 ag => ?_) (dx.at env)
    exact spdR_run (env.step st1) hi one ag (rowIn_mem ha.1) ha.2.out (fun v d ρ2 F2 H2 hh sm => q v d ρ2 F2 H2 hh (st1.fr.trans sm)) dx
  · exact kk.elim
end

/-! ### statements -/
section
variable {X : Cx} {W : WX} {ρ : List Sl} {e c : Expr} {pos px : Pos} {ta : DV} {t : DVT}
def sIfV (c : DVT) (a b : DS) : DS := fun ρ Ξ E => c ρ Ξ fun k ρ' => brk k (Go (a ρ' Ξ E)) (Go (b ρ' Ξ E))
theorem r1_ifV {la lb : List Stmt} {sa sb : DS} (h : RVT X W c t) (ha : RS X W la sa) (hb : RS X W lb sb) : R1 X W (.If c la lb pos) (sIfV t sa sb) := fun ρ Ξ E k B F H σ env D d dx =>
  wS1_of (ps_if pt_w pss_w pss_w) (h _ _ _ k B F H σ env _ (fun k ρ2 F2 H2 hk _ env2 => by
    cases k with
    | true =>
      rw [if_pos rfl]
      exact ha _ _ _ (hk.t rfl) B F2 H2 σ env2 D d dx
    | false =>
      rw [if_neg Bool.false_ne_true]
      exact hb _ _ _ (hk.f rfl) B F2 H2 σ env2 D d dx) dx)
def sSetV (i : Nat) (t : DV) : DS := fun ρ Ξ E => t ρ Ξ fun d ρ' => E.nx (ρ'.set i (.dat d))
theorem r1_setV (i : Nat) {x : Str} (nd : X.N.Nodup) (h : RV X W e ta) (hN : X.N[i]? = some x := by kernel_rfl) (hx : stOk X x = true := by kernel_rfl) (hs : swapsWith e (some (.Name x px)) pos.line X.env = pure false := by rfl) : R1 X W (.Assign [.Name x px] e pos) (sSetV i ta) := fun ρ Ξ E k B F H σ env D d dx =>
  wS1_of (ps_set nd hN (stOk_inv hx).1 pe_w hs (stOk_inv hx).2) (h _ _ _ k B F H σ env _ (fun v y ρ2 F2 H2 hy _ env2 r => d.nx _ F2 H2 _ hy (env2.set r)) dx)
def sExprV (t : DV) : DS := fun ρ Ξ E => t ρ Ξ fun _ ρ' => E.nx ρ'
theorem r1_exprV (h : RV X W e ta) (hs : swapsWith e none pos.line X.env = pure false := by rfl) : R1 X W (.Expr e pos) (sExprV ta) := fun ρ Ξ E k B F H σ env D d dx =>
  wS1_of (ps_expr pe_w hs) (h _ _ _ k B F H σ env _ (fun v y ρ2 F2 H2 hy _ env2 r => d.nx ρ2 F2 H2 σ hy env2) dx)
def sRetW (t : DV) : DS := fun ρ Ξ E => t ρ Ξ fun d _ => E.rt (.dat d)
theorem r1_retW (h : RV X W e ta) : R1 X W (.Return (some e) pos) (sRetW ta) := fun ρ Ξ E k B F H σ env D d dx =>
  wS1_of (ps_ret pe_w) (h _ _ _ k B F H σ env _ (fun v y ρ2 F2 H2 hy _ env2 r => d.rt v (.dat y) F2 H2 hy env2.st r) dx)
def sUnpV (t : DV) (gs : List DX) : DS := fun ρ Ξ E => t ρ Ξ fun d ρ' => match d with
  | .tuple ds => match Nat.beq ds.length gs.length with
    | true => xAll gs ds ρ' E.nx
    | false => False
  | _ => False
theorem r1_unpV {gs : List DX} {ns : List Expr} {k : Nat} {tp : Pos} (C : Cxt X W) (h : RV X W e ta) (r : RXs X W ns gs) (hn : (assignEach ns X.env).length = ns.length := by rfl) (hst : (assignEach ns X.env).findIdx? (·.1) = none := by rfl)
    (hs : swapsWithSole [.Tuple ns k tp] e pos.line X.env = pure false := by rfl) (hw : swappedStores [.Tuple ns k tp] e X.env = pure none := by rfl) (h1 : (assignEach [.Tuple ns k tp] X.env).map (·.2) = [assign (.Tuple ns k tp) X.env] := by rfl) : R1 X W (.Assign [.Tuple ns k tp] e pos) (sUnpV ta gs) := fun ρ Ξ E z B F H σ env D d dx =>
  wS1_of (ps_asg pe_w pg_w hs hw h1) (h _ _ _ z B F H σ env _ (fun v y ρ2 F2 H2 hy _ env2 rv => by
    split at hy
    · split at hy
      · rename_i e
        exact wgx_tup C.calm (r.2 _ _ _ hy) ((Nat.eq_of_beq_eq_true e).trans r.1.symm) hn hst B F2 H2 σ v env2 rv _ (fun ρ' σ' F' H' w env' _ => d.nx ρ' F' H' σ' w env') (fun _ _ _ _ _ _ _ z => z.elim)
      · exact hy.elim
    · exact hy.elim) dx)
end

/-! ### a method of a row that is made in the same expression -/
theorem stepNew {M : Addr → Prop} {F H F2 H2 F3 H3 : Hp} {p : Addr} (hp : H p = none) (st : Step M F H F2 H2) (sp : StepE (fun a => a = p ∨ M a ∧ DrOk H2 a) F2 H2 F3 H3) : Step M F H F3 H3 where
  fr := st.fr.trans sp.fr
  sub := sp.sub
  keepD := fun a u n e => by
    have e2 := st.keepD a u n e
    refine sp.keep a u (fun z => ?_) e2
    rcases z with z | z
    · rw [z, hp] at e; cases e
    · exact n ⟨z.1, z.2.same (e2.trans e.symm)⟩
  new := fun a n => (sp.new a (st.alive a n)).trans (st.new a n)
  alive := fun a n => sp.alive a (st.alive a n)
  dr := fun a m d => by
    have d2 := st.dr a m d
    exact sp.dr a (.inr ⟨m, d2⟩) d2
def rwdN (Φ : PyData → Prop) : Sl → Prop
  | .rwd _ _ (.dat d) => Φ d
  | _ => False
def eMakeDo (m : Str) (pr : PrR) (tk : DK) (r : DA) (dds : List PyData) : DE := fun ρ Ξ Φ => tk ρ Ξ fun s => match s with
  | .row p st => st.lookup m = none ∧ Go (r ρ Ξ fun as => someK (allD as) fun ds => CallK (pr (.row p st :: (ds ++ dds).map .dat) (rwdN Φ) Ξ))
  | _ => False
theorem re_makeDo {X : Cx} {W : WX} {o e : Expr} {es : List Expr} {pos apos : Pos} {tk : DK} {ra : DA} {m : Str} {n k : Nat} {pr : PrR} {dds : List PyData} (D : MethR X.prog X.w X.K X.mg X.base m n k pr dds) (C : Cxt X W) (hr : Room k X.A) (ho : RK X W o tk) (h : RA X W (e :: es) ra)
    (hs : isStar e = false := by rfl) (hpl : (backTo pos (starEach es X.env)).any (·.1) = false := by rfl)
    (ht : ∃ pl : Sem Bool, eval (.Call (.Attribute o m apos) (e :: es) [] pos) X.env = (do
      let u ← eval o X.env
      standAt apos.atName
      let (g, own) ← holding [u] (getMethod u m pl)
      callWith pos g own (backTo pos (starEach (e :: es) X.env)) (backToKw pos (keywordEach [] X.env))) := by exact ⟨_, rfl⟩) : RE X W (.Call (.Attribute o m apos) (e :: es) [] pos) (eMakeDo m pr tk ra dds) := fun ρ Ξ Φ kk B F H σ env Q q qx => by
  obtain ⟨f, fd, ps, dvs, ds, M, _, hb, hv, hd, hn, F0⟩ := D.ex
  obtain ⟨pl, ht⟩ := ht
  refine wE_of (pe_meQ (pl := pl) (E := L2.WE W) pe_w D.c M F0 hr hb hv (fun σ => passAt C.tk σ) pa_w (star_cons hs) hpl ht) ?_
  refine ho _ _ _ kk B F H σ env _ (fun v s F1 H1 hk st1 rv => ?_) qx
  cases s with
  | row p st0 =>
    obtain ⟨rfl, hp, ⟨dx0, vs, h1, r⟩, f1⟩ := rv
    obtain ⟨hl, hk⟩ := hk
    have nM : ¬ B.M p := env.notM (env.fresh0 hp)
    refine ⟨⟨p, dx0, vs, rfl, h1, r.no hl⟩, ?_⟩
    refine h _ _ _ hk B F1 H1 σ (env.step st1) _ (fun ws as F2 H2 ha st2 rs => ?_) (qx.step st1)
    obtain ⟨xs, e0, hz⟩ := someK_inv ha
    have ea := allD_inv e0
    subst ea
    have h2 : H2 p = some (.ins (He.ga X.K "Row") dx0 vs) := st2.keep p _ nM h1
    have f2 : F2 p = none := by rw [st2.new p (by rw [h1]; exact fun z => nomatch z)]; exact f1
    have st := st1.trans st2
    refine ⟨fun a => a = p ∨ B.M a ∧ DrOk H2 a, F2, _, rwdN Φ, Ξ, st2.sub, fun a m => ?_, .cons (s := .row p st0) ⟨rfl, ⟨dx0, vs, h2, r.mono st2.fr⟩, f2, .inl rfl⟩ (agS_dats (rs.dats.append (hd F2))), hz.out, fun u s F3 H3 hs3 sp r3 => ?_, fun cls dd y F3 H3 hy sp r3 _ => ?_⟩
    · rcases m with m | m
      · rw [m, h2]; exact fun z => nomatch z
      · exact st.alive a (env.st.alive a (env.mh a m.1))
    · cases s with
      | rwd p' st' t =>
        cases t with
        | dat d => exact q u d F3 H3 hs3 (stepNew hp st sp) r3.2.2
        | _ => exact hs3.elim
      | _ => exact hs3.elim
    · exact qx cls dd y F3 H3 hy (stepNew hp st sp) r3
  | _ => exact hk.elim

/-! ### is not of bools as a value, in among nested data -/
section
variable {X : Cx} {W : WX} {a b : Expr} {pos : Pos} {ea eb : DE}
theorem re_isnotB (ha : RE X W a ea) (hb : RE X W b eb) : RE X W (.Compare a [.IsNot] [b] pos) (eOp oNotB ea eb) := re_cmp op_notBl (nomark _) is_oNotB ha hb
def oInD (neg : Bool) : OP := fun x y Φ => match y with
  | .list ds => (noDict x = true ∧ noDictAll ds = true ∧ SeqAt.shaped x = true ∧ SeqAt.shaped (.list ds) = true) ∧ Go (Φ (.bool (if neg then !(ds.any fun z => PyData.eqv z x) else ds.any fun z => PyData.eqv z x)))
  | _ => False
theorem is_oInD : OpIs X (rInD X.K) (oInD false) := fun x y Φ h => by
  unfold oInD at h
  split at h
  · obtain ⟨⟨h1, h2, h3, h4⟩, h⟩ := h
    exact fun M F H vx vy s rx ry Q q => ⟨x, _, (rx.mono s).dp _ _ h1, (ry.mono s).dp _ _ h2, h3, h4, q _ _ F H h (Step.refl s) (.bl _)⟩
  · exact h.elim
theorem is_oNinD : OpIs X (rNotInD X.K) (oInD true) := fun x y Φ h => by
  unfold oInD at h
  split at h
  · obtain ⟨⟨h1, h2, h3, h4⟩, h⟩ := h
    exact fun M F H vx vy s rx ry Q q => ⟨x, _, (rx.mono s).dp _ _ h1, (ry.mono s).dp _ _ h2, h3, h4, q _ _ F H h (Step.refl s) (.bl _)⟩
  · exact h.elim
theorem re_inDD (hr : Room 0 X.A) (ha : RE X W a ea) (hb : RE X W b eb) (hm : behindInMarks .In b = false := by rfl) : RE X W (.Compare a [.In] [b] pos) (eOp (oInD false) ea eb) := re_cmp (op_inD (by have := hr.un; omega)) hm is_oInD ha hb
theorem re_ninDD (hr : Room 0 X.A) (ha : RE X W a ea) (hb : RE X W b eb) (hm : behindInMarks .NotIn b = false := by rfl) : RE X W (.Compare a [.NotIn] [b] pos) (eOp (oInD true) ea eb) := re_cmp (op_notInD (by have := hr.un; omega)) hm is_oNinD ha hb
end

/-! ### a, b = e, xs.pop() -/
section
variable {X : Cx} {W : WX} {a : Expr} {pos px py pz pt p ap cp : Pos} {tk : DK}
def sPopPar (i j l : Nat) (k : DK) : DS := fun ρ Ξ E => k ρ (xat Ξ ρ) fun s => ownK (nth ρ l) fun ds => ∃ es d, ds = es ++ [d] ∧ Go (E.nx (((ρ.set l (.own es)).set i s).set j (.dat d)))
theorem r1_popPar (i j l : Nat) {x y z : Str} {kt k2 : Nat} (C : Cxt X W) (h : RK X W a tk) (hi : X.N[i]? = some x := by kernel_rfl) (hj : X.N[j]? = some y := by kernel_rfl) (hz : nmOk X.env.scope z = true := by kernel_rfl) (hN : X.N[l]? = some z := by kernel_rfl) (hij : i ≠ j := by decide)
    (hx : X.env.scope.names.lookup x = some .local := by kernel_rfl) (hy : X.env.scope.names.lookup y = some .local := by kernel_rfl) (hs : isStar a = false := by rfl)
    (pe : PE X (.Call (.Attribute (.Name z pz) "pop" ap) [] [] cp) (tBM0 X.K "list" rPop (tVar l)) := by exact pe_bm0 PySem.F.plainAttrs_list PySem.F.slot_list_pop PySem.F.type_list_pop mt_pop (pv _))
    (hw : swappedStores [.Tuple [.Name x px, .Name y py] kt pt] (.Tuple [a, .Call (.Attribute (.Name z pz) "pop" ap) [] [] cp] k2 p) X.env = pure (some [x, y]) := by rfl) : R1 X W (.Assign [.Tuple [.Name x px, .Name y py] kt pt] (.Tuple [a, .Call (.Attribute (.Name z pz) "pop" ap) [] [] cp] k2 p) pos) (sPopPar i j l tk) := fun ρ Ξ E k B F H σ env D d dx => by
  refine wS1_of (ps_par C.calm C.nd hi hj hij hx hy (pa_cons pe_w (pa_cons pe pa_nil rfl) (star_cons hs)) hw rfl) ?_
  refine h _ _ _ k B F H σ env _ (fun v s F1 H1 hk st r => ?_) (dx.at env)
  obtain ⟨ds, e, hk⟩ := ownK_inv hk
  rw [nth_eq] at e
  obtain ⟨es, dd, rfl, hn⟩ := hk
  obtain ⟨q, vs, e1, hp, fp, h0, nm, ra⟩ := env.sl l _ e
  have hp1 : H1 q = some (.lst vs) := st.keep q _ nm hp
  have ra1 := RpAll.mono st.fr _ _ ra
  have hl : vs.length = es.length + 1 := by rw [ra.len]; simp
  obtain ⟨u, hu, ru⟩ := ra1.get (i := es.length) (d := dd) (by simp)
  have rd : RpAll X.K F1 vs.dropLast es := by
    have t := ra1.take es.length
    rw [List.take_left] at t
    rwa [List.dropLast_eq_take, hl]
  refine ⟨_, e1, .inl ⟨rfl, _, SqL.of hp1⟩, ?_⟩
  refine ⟨q, vs, u, rfl, rfl, hp1, by rw [hl]; exact hu, ⟨v, u, rfl, ?_⟩⟩
  have env1 := env.step st
  have env2 := env1.setOwn e e1 rd
  have ok := (r.ok env st).upd (o' := .lst vs.dropLast) hp1 nm (fun o w => (r.apart env o e rfl) (by rw [e1, ← w])) (fun _ _ _ w => nomatch w)
  have env3 := env2.put (i := i) ok (fun o j' t hj' ej ot => by
    by_cases hjl : j' = l
    · subst hjl
      exact r.apart env o e rfl
    · rw [List.getElem?_set_ne (Ne.symm hjl)] at ej
      exact r.apart env o ej ot)
  exact d.nx _ F1 _ _ hn (env3.set ru)
end

/-! ### a, b, c = x, y, z, the second data -/
section
variable {X : Cx} {W : WX} {a b c : Expr} {pos px py pz pt p : Pos} {tk uk : DK} {te : DE}
def sPar3D (i j l : Nat) (k : DK) (t : DE) (m : DK) : DS := fun ρ Ξ E => k ρ (xat Ξ ρ) fun s => t ρ (xat Ξ ρ) fun d => m ρ (xat Ξ ρ) fun u => Go (E.nx (((ρ.set i s).set j (.dat d)).set l u))
theorem SlV.isAt {K : PySem.W.Frag} {H F2 H2 : Hp} {v : V} {s : Sl} (r : SlV K H F2 H2 v s) (o : s.isOwn = true) : ∃ q, v = .ref q ∧ H q = none ∧ H2 q ≠ none := by
  cases s with
  | own ds => obtain ⟨q, vs, e, hp, h2, _⟩ := r; exact ⟨q, e, hp, by rw [h2]; exact fun z => nomatch z⟩
  | odk ds => obtain ⟨q, vs, e, hp, h2, _⟩ := r; exact ⟨q, e, hp, by rw [h2]; exact fun z => nomatch z⟩
  | odn ds => obtain ⟨q, e, hp, h2, _⟩ := r; exact ⟨q, e, hp, by rw [h2]; exact fun z => nomatch z⟩
  | owp _ _ => exact r.elim
  | _ => cases o
theorem r1_par3D (i j l : Nat) {x y z : Str} {kt k2 : Nat} (C : Cxt X W) (h1 : RK X W a tk) (h2 : RE X W b te) (h3 : RK X W c uk) (hi : X.N[i]? = some x := by kernel_rfl) (hj : X.N[j]? = some y := by kernel_rfl) (hl : X.N[l]? = some z := by kernel_rfl) (hij : i ≠ j := by decide) (hil : i ≠ l := by decide) (hjl : j ≠ l := by decide)
    (hx : X.env.scope.names.lookup x = some .local := by kernel_rfl) (hy : X.env.scope.names.lookup y = some .local := by kernel_rfl) (hz : X.env.scope.names.lookup z = some .local := by kernel_rfl) (s1 : isStar a = false := by rfl) (s2 : isStar b = false := by rfl) (s3 : isStar c = false := by rfl)
    (hw : swappedStores [.Tuple [.Name x px, .Name y py, .Name z pz] kt pt] (.Tuple [a, b, c] k2 p) X.env = pure (some [x, y, z]) := by rfl) : R1 X W (.Assign [.Tuple [.Name x px, .Name y py, .Name z pz] kt pt] (.Tuple [a, b, c] k2 p) pos) (sPar3D i j l tk te uk) := fun ρ Ξ E k B F H σ env D d dx => by
  refine wS1_of (ps_par3 C.calm C.nd hi hj hl hij hil hjl hx hy hz (pa_cons pe_w (pa_cons pe_w (pa_cons pe_w pa_nil (star_cons s3)) (star_cons s2)) (star_cons s1)) hw rfl) ?_
  refine h1 _ _ _ k B F H σ env _ (fun v s F1 H1 hk st r => ?_) (dx.at env)
  refine h2 _ _ _ hk B F1 H1 σ (env.step st) _ (fun w y F2 H2 hk st2 rw => ?_) ((dx.at env).step st)
  have st12 := st.trans st2
  refine h3 _ _ _ hk B F2 H2 σ (env.step st12) _ (fun u t F3 H3 hk st3 ru => ?_) ((dx.at env).step st12)
  have env2 := env.step st12
  have hM : ∀ q, H q = none → ¬ B.M q := fun q hq => env.notM (env.fresh0 hq)
  have r3 := r.step hM (st2.trans st3)
  have e1 := env.putK (i := i) (st12.trans st3) r3
  have e2 := e1.set (i := j) (rw.mono st3.fr)
  refine ⟨v, w, u, rfl, d.nx _ F3 H3 _ hk (e2.put (ru.ok env2 st3) fun o j' t' hj' ej ot => ?_)⟩
  have hlen : ∀ {n : Nat} {τ : Sl} {ρ' : List Sl}, ρ'[n]? = some τ → n < ρ'.length := fun e => (List.getElem?_eq_some_iff.mp e).1
  by_cases hj1 : j' = j
  · subst hj1
    have lt := hlen ej
    rw [List.length_set] at lt
    rw [List.getElem?_set_self lt] at ej
    cases ej
    cases ot
  · rw [List.getElem?_set_ne (Ne.symm hj1)] at ej ⊢
    by_cases hj2 : j' = i
    · subst hj2
      have lt := hlen ej
      rw [List.length_set] at lt
      rw [List.getElem?_set_self lt] at ej
      cases ej
      rw [List.getElem?_set_self (by rw [env.len]; exact lt)]
      intro z
      obtain ⟨q, rfl, hq, hq2⟩ := r.isAt ot
      obtain ⟨q', rfl, hq', _⟩ := ru.isAt o
      cases z
      exact st2.alive q hq2 hq'
    · rw [List.getElem?_set_ne (Ne.symm hj2)] at ej ⊢
      exact ru.apart env2 o ej ot
end

/-! ### defs by their bodies -/
section
variable {P : Program} {w : World} {K : PySem.W.Frag} {mg : Str → Option Value} {base : Heap}
/-- a method as the head tells it, its defaults -/
structure FnM (K : PySem.W.Frag) (m qual : Str) (st : Stmt) (ps : List Str) (dds : List PyData) : Prop where
  c : L2.Cls K (He.ga K "Row")
  ex : ∃ f fd dvs ds, FunD K m qual (defArgs st) (defBody st) (defScope st) dvs [] f fd ∧ Meth K (He.ga K "Row") m f ∧ (∀ F, RpAll K F dvs dds) ∧ Vals dvs ds ∧ Binds K fd ps [] ∧ Binds K fd ps ds
/-- __init__ as the head tells it -/
structure FnI (K : PySem.W.Frag) (mg : Str → Option Value) (st : Stmt) (ps : List Str) : Prop where
  g : mg "Row" = some (.ref (He.ga K "Row"))
  ex : ∃ f fd, FunD K "__init__" "Row.__init__" (defArgs st) (defBody st) (defScope st) [] [] f fd ∧ Mk K (He.ga K "Row") f ∧ Binds K fd ps []
theorem fn_rdRD {x qual : Str} {st : Stmt} {N ps : List Str} {k : Nat} {pr : PrR} {t : DS} {dvs : List V} {f : Addr} {fd : FuncData} (F : FunD K x qual (defArgs st) (defBody st) (defScope st) dvs [] f fd) (S : FnScope N ps (defScope st))
    (hq : ∀ (f : Addr) (cdv : Value) (A : Around) (outer : List Env) (s : Shared) (H : Hp) (E : XK), Room k (A.deeper (PyProof.Rows.envOfC qual (defScope st) s.heap.objs.size f cdv)) → Cxt (cxOf (L2.CX P w) P w K mg base N qual (defScope st) f cdv A outer s H E) (wDef E) →
      RS (cxOf (L2.CX P w) P w K mg base N qual (defScope st) f cdv A outer s H E) (wDef E) (defBody st) t)
    (hp : ∀ ss Φ Ξ, pr ss Φ Ξ → ss.length = ps.length ∧ t (slotsS ss N.length) (fun y ρ => Ξ y ∧ rowsKept ss ρ) { nx := endK Φ, rt := Φ }) :
    FnOk P w K mg base (L2.CX P w) (k + 1) f fd ps (spdR K pr) := by
  refine F.ok S (fun vs H Q E h => ?_) fun cdv A outer s H vs Q E hr h => ?_
  · obtain ⟨M, F0, ss, Φ, Ξ, _, _, ra, hpr, _⟩ := h
    rw [ra.len]
    exact (hp _ _ _ hpr).1
  · obtain ⟨M, F0, ss, Φ, Ξ, sf, hM, ra, hpr, q, qx⟩ := h
    have C : Cxt (cxOf (L2.CX P w) P w K mg base N qual (defScope st) f cdv A outer s H E) (wDef E) := ⟨takes_of rfl rfl rfl rfl, passes_of rfl, rfl, S.nd, hr.units⟩
    refine ⟨_, pss_w, hq f cdv A outer s H E hr C _ _ _ (hp ss Φ Ξ hpr).2 ⟨F0, M, F0, H⟩ F0 H _ (env_startS sf hM ra) _ ⟨fun ρ F2 H2 σ hn env => ?_, fun v t F2 H2 hs st r => q v t F2 H2 hs st r, fun _ _ _ _ z => z.elim, fun _ _ _ _ z => z.elim⟩ ?_⟩
    · have hn : endK Φ ρ := hn
      unfold endK at hn
      split at hn
      · obtain ⟨e1, ra2, fp, m⟩ := env.sl 0 _ rfl
        exact q _ _ F2 H2 hn env.st ⟨ra2, fp, Rp.non⟩
      · exact hn.elim
    · exact fun cls dd y ρ F2 H2 σ hy env r => qx cls dd y F2 H2 hy.1 env.st r (rowsKept_at hy.2 env.sl)
theorem meth_rd {m qual : Str} {st : Stmt} {N ps : List Str} {k : Nat} {pr : PrR} {t : DS} {dds : List PyData} (F : FnM K m qual st ps dds) (S : FnScope N ps (defScope st))
    (hq : ∀ (f : Addr) (cdv : Value) (A : Around) (outer : List Env) (s : Shared) (H : Hp) (E : XK), Room k (A.deeper (PyProof.Rows.envOfC qual (defScope st) s.heap.objs.size f cdv)) → Cxt (cxOf (L2.CX P w) P w K mg base N qual (defScope st) f cdv A outer s H E) (wDef E) →
      RS (cxOf (L2.CX P w) P w K mg base N qual (defScope st) f cdv A outer s H E) (wDef E) (defBody st) t)
    (hp : ∀ ss Φ Ξ, pr ss Φ Ξ → ss.length = ps.length ∧ t (slotsS ss N.length) (fun y ρ => Ξ y ∧ rowsKept ss ρ) { nx := endK Φ, rt := Φ }) : MethR P w K mg base m ps.length (k + 1) pr dds := by
  obtain ⟨f, fd, dvs, ds, F0, M, hd, hv, hb, hb2⟩ := F.ex
  exact ⟨F.c, f, fd, ps, dvs, ds, M, hb, hb2, hv, hd, rfl, fn_rdRD F0 S hq hp⟩
theorem init_rd {st : Stmt} {N ps : List Str} {k : Nat} {pr : PrR} {t : DS} (F : FnI K mg st ps) (S : FnScope N ps (defScope st))
    (hq : ∀ (f : Addr) (cdv : Value) (A : Around) (outer : List Env) (s : Shared) (H : Hp) (E : XK), Room k (A.deeper (PyProof.Rows.envOfC "Row.__init__" (defScope st) s.heap.objs.size f cdv)) → Cxt (cxOf (L2.CX P w) P w K mg base N "Row.__init__" (defScope st) f cdv A outer s H E) (wDef E) →
      RS (cxOf (L2.CX P w) P w K mg base N "Row.__init__" (defScope st) f cdv A outer s H E) (wDef E) (defBody st) t)
    (hp : ∀ ss Φ Ξ, pr ss Φ Ξ → ss.length = ps.length ∧ t (slotsS ss N.length) (fun y ρ => Ξ y ∧ rowsKept ss ρ) { nx := endK Φ, rt := Φ }) : MkR P w K mg base ps.length (k + 1) pr := by
  obtain ⟨f, fd, F0, M, hb⟩ := F.ex
  exact ⟨f, fd, ps, F.g, M, hb, rfl, fn_rdRD F0 S hq hp⟩
theorem defR_rd {x : Str} {st : Stmt} {N ps : List Str} {k : Nat} {pr : PrR} {t : DS} (F : Fn K mg x st ps) (S : FnScope N ps (defScope st))
    (hq : ∀ (f : Addr) (cdv : Value) (A : Around) (outer : List Env) (s : Shared) (H : Hp) (E : XK), Room k (A.deeper (PyProof.Rows.envOfC x (defScope st) s.heap.objs.size f cdv)) → Cxt (cxOf (L2.CX P w) P w K mg base N x (defScope st) f cdv A outer s H E) (wDef E) →
      RS (cxOf (L2.CX P w) P w K mg base N x (defScope st) f cdv A outer s H E) (wDef E) (defBody st) t)
    (hp : ∀ ss Φ Ξ, pr ss Φ Ξ → ss.length = ps.length ∧ t (slotsS ss N.length) (fun y ρ => Ξ y ∧ rowsKept ss ρ) { nx := endK Φ, rt := Φ }) : DefR P w K mg base x ps.length (k + 1) pr := by
  obtain ⟨f, fd, F0, hm, hb⟩ := F.ex
  exact ⟨f, fd, ps, hm, F0.kp, hb, rfl, fn_rdR F0 S hq hp⟩
/-- the property's getter -/
theorem things_ok {st : Stmt} {g : Addr} {fd : FuncData} {p1 p2 p3 : Pos} (R : RowC K) (F : FunD K "things" "Row.things" (defArgs st) (defBody st) (defScope st) [] [] g fd) (S : FnScope ["self"] ["self"] (defScope st)) (hb : defBody st = [.Return (some (.Attribute (.Name "self" p1) "now" p2)) p3]) : FnOk P w K mg base (L2.CX P w) 1 g fd ["self"] (getSp (He.ga K "Row") "now") := by
  refine F.ok S (fun vs H Q E h => ?_) fun cdv A outer s H vs Q E hr h => ?_
  · obtain ⟨a, dx, fs, v, rfl, _⟩ := h
    rfl
  · obtain ⟨a, dx, fs, v, rfl, ea, l, q⟩ := h
    rw [hb]
    have v1 : Vis (defScope st) "self" := by rcases S.par "self" (by simp) with h | h; exact .inl h; exact .inr (.inl h)
    exact ⟨_, pss_one (ps_ret (pe_fld (pv 0 rfl v1) rfl)), .ref a, rfl, a, _, dx, fs, v, rfl, ea, R.cls, R.now, l, q⟩
theorem len_ok {st : Stmt} {g : Addr} {fd : FuncData} {p1 p2 p3 p4 p5 : Pos} (R : RowC K) (hm : mg "len" = none) (F : FunD K "__len__" "Row.__len__" (defArgs st) (defBody st) (defScope st) [] [] g fd) (S : FnScope ["self"] ["self"] (defScope st)) (hb : defBody st = [.Return (some (.Call (.Name "len" p1) [.Attribute (.Name "self" p2) "past" p3] [] p4)) p5])
    (hg : (defScope st).names.lookup ("len" : Str) = some .globalImplicit) : FnOk P w K mg base (L2.CX P w) 1 g fd ["self"] (spLenK K) := by
  refine F.ok S (fun vs H Q E h => ?_) fun cdv A outer s H vs Q E hr h => ?_
  · obtain ⟨a, dx, fs, q, ys, rfl, _⟩ := h
    rfl
  · obtain ⟨a, dx, fs, z, ys, rfl, ea, l, hz, q⟩ := h
    rw [hb]
    have v1 : Vis (defScope st) "self" := by rcases S.par "self" (by simp) with h | h; exact .inl h; exact .inr (.inl h)
    exact ⟨_, pss_one (ps_ret (pe_callB call_lenA hg hm bb_len (pa_cons (pe_fld (pv 0 rfl v1) rfl) pa_nil rfl) (by decide) (by decide) rfl rfl)), .ref a, rfl, a, _, dx, fs, .ref z, rfl, ea, R.cls, R.past, l, .ref z, ys.length, rfl, .inr ⟨ys, hz, rfl⟩, q⟩

/-- methods, __init__, as the head tells them -/
theorem fnM_of_head {m qual : Str} {st : Stmt} {ps : List Str} {f : Addr} {fd : FuncData} (c : L2.Cls K (He.ga K "Row")) (F : FunD K m qual (defArgs st) (defBody st) (defScope st) [] [] f fd) (M : Meth K (He.ga K "Row") m f)
    (h : ∀ (kV doc pm : Value) (an : Option Addr) (cdv ct : Value) (us : List Value), us.length = ps.length → bindArgs (PySem.W.fnOf m qual (defArgs st) (defBody st) (defScope st) .none kV doc pm an cdv ct) ⟨us, []⟩ = pure (ps.zip us)) : FnM K m qual st ps [] :=
  ⟨c, f, fd, [], [], F, M, fun _ => .nil, .nil, F.bindsN h, F.bindsN h⟩
theorem fnM_of_headD {m qual : Str} {st : Stmt} {ps : List Str} {f : Addr} {fd : FuncData} {dvs : List V} {dds : List PyData} (c : L2.Cls K (He.ga K "Row")) (F : FunD K m qual (defArgs st) (defBody st) (defScope st) dvs [] f fd) (M : Meth K (He.ga K "Row") m f) (hd : dvs ≠ []) (hr : ∀ F, RpAll K F dvs dds) (n : Nat) (hn : n + dvs.length = ps.length)
    (h1 : ∀ (T : Addr) (kV doc pm : Value) (an : Option Addr) (cdv ct : Value) (us its : List Value), us.length = n → its.length = dvs.length →
      ∃ k, bindArgs (PySem.W.fnOf m qual (defArgs st) (defBody st) (defScope st) (.ref T) kV doc pm an cdv ct) ⟨us, []⟩ = seqItems? (.ref T) >>= k ∧ k (some its.toArray) = pure (ps.zip (us ++ its.drop 0)))
    (h2 : ∀ (T : Addr) (kV doc pm : Value) (an : Option Addr) (cdv ct : Value) (us its : List Value), us.length = n + dvs.length → its.length = dvs.length →
      ∃ k, bindArgs (PySem.W.fnOf m qual (defArgs st) (defBody st) (defScope st) (.ref T) kV doc pm an cdv ct) ⟨us, []⟩ = seqItems? (.ref T) >>= k ∧ k (some its.toArray) = pure (ps.zip (us ++ its.drop dvs.length))) : FnM K m qual st ps dds := by
  obtain ⟨ds, v1, b1⟩ := F.binds1 n 0 hd (by omega) h1
  obtain ⟨ds0, v0, b0⟩ := F.binds1 (n + dvs.length) dvs.length hd (by omega) h2
  rw [List.drop_length] at v0
  cases v0
  exact ⟨c, f, fd, dvs, ds, F, M, hr, by simpa using v1, b0, b1⟩
/-! ### the head -/
/-- where the getter stands -/
def gAd (K : PySem.W.Frag) : Addr := match PySem.W.recIn K (He.ma K (He.ga K "Row") "things") "property" with
  | some (.ref g :: _) => g
  | _ => 0
def fnWa (K : PySem.W.Frag) (a : Addr) : He.FnW := match K.lookup a with
  | some ⟨_, _, .func fd, _⟩ => some (fd.name, fd.qualname, fd.params, fd.body, fd.scope, fd.globals, fd.closure, fd.builtins)
  | _ => none
def fnBa (K : PySem.W.Frag) (a : Addr) (qual : Str) : Bool := PySem.W.keepIn K (.ref a) && (match K.lookup a with
  | some ⟨_, _, .func fd, _⟩ => PySem.W.codeIn K fd.code qual && (He.dflB K fd.defaults [] && He.kwdB K fd.kwdefaults [])
  | _ => false)
theorem funD_at {a : Addr} {x qual : Str} {st : Stmt} (e : fnWa K a = some (x, qual, defArgs st, .stmts (defBody st), defScope st, mainGlobals, [], builtinsNs)) (c : fnBa K a qual = true) : ∃ fd, FunD K x qual (defArgs st) (defBody st) (defScope st) [] [] a fd := by
  obtain ⟨kp, c2⟩ := ba2 c
  unfold fnWa at e
  split at e
  · rename_i o1 o2 fd o3 lk
    rw [lk] at c2
    obtain ⟨n1, n2, n3, n4, n5, n6, n7, n8, n9, n10, n11, n12, n13, n14, n15⟩ := fd
    simp only [Option.some.injEq, Prod.mk.injEq] at e
    obtain ⟨h1, h2, h3, h4, h5, h6, h7, h8⟩ := e
    subst h1 h2 h3 h4 h5 h6 h7 h8
    obtain ⟨k1, k2⟩ := ba2 c2
    obtain ⟨k3, k4⟩ := ba2 k2
    exact ⟨_, ⟨o1, o2, n8, n9, n10, n11, n12, n13, n14, o3, rfl, lk, k1, He.dflB_ok k3, He.kwdB_ok k4⟩, kp⟩
  · cases e
/-- what the head is asked of the class -/
def rowB (K : PySem.W.Frag) : Bool := (match PySem.W.recIn K (He.ma K (He.ga K "Row") "things") "property" with
  | some (.ref _ :: _) => true
  | _ => false) && (decide (PySem.W.findIn K (.ref (He.ga K "Row")) "things" = some (some (.ref (He.ma K (He.ga K "Row") "things")))) && (decide (PySem.W.specialIn K (.ref (He.ma K (He.ga K "Row") "things")) "__get__" = some (some (.builtin "property.__get__"))) && (decide (PySem.W.takesIn K (.ref (He.ma K (He.ga K "Row") "things")) = some true) && fnBa K (gAd K) "Row.things")))
theorem prop_of (b : rowB K = true) : PropOf K (He.ga K "Row") "things" (He.ma K (He.ga K "Row") "things") (gAd K) ∧ fnBa K (gAd K) "Row.things" = true := by
  unfold rowB at b
  obtain ⟨b1, b⟩ := ba2 b
  obtain ⟨b2, b⟩ := ba2 b
  obtain ⟨b3, b⟩ := ba2 b
  obtain ⟨b4, b5⟩ := ba2 b
  refine ⟨⟨of_decide_eq_true b2, of_decide_eq_true b3, of_decide_eq_true b4, ?_⟩, b5⟩
  unfold gAd
  split at b1
  · rename_i g r e
    rw [e]
    exact ⟨_, rfl⟩
  · cases b1
abbrev AlR : Type := He.AlD × Bool × He.FnW
def saysR (fa : List He.Fa) (fn : List He.DefD) (ex : PySem.W.Frag → Bool) (K : PySem.W.Frag) : AlR := (He.obsD fa fn K, ex K, fnWa K (gAd K))
def obsR (n : Nat) (fa : List He.Fa) (fn : List He.DefD) (ex : PySem.W.Frag → Bool) (g : Addr → Option Obj) : AlR := saysR fa fn ex (He.frG g (He.asD g n))
def hookR (n : Nat) (fa : List He.Fa) (fn : List He.DefD) (ex : PySem.W.Frag → Bool) (v : He.FnW) : PySem.W.Hook where
  α := AlR
  obs := fun s => obsR n fa fn ex s.heap.get?
  val := fun _ => (He.valD fn, true, v)
  says := fun _ h => ∃ K : PySem.W.Frag, K.In h ∧ He.SaysD fa fn K ∧ ex K = true ∧ fnWa K (gAd K) = v
  of := fun _ _ e => ⟨_, He.frG_in, congrArg (fun z : AlR => z.1) e, congrArg (fun z : AlR => z.2.1) e, congrArg (fun z : AlR => z.2.2) e⟩
  keeps := fun _ _ _ ⟨K, hK, c⟩ k => ⟨K, PySem.W.Frag.In.keeps hK k, c⟩
/-- .. with tables of the top -/
abbrev AlXR : Type := AlX × He.FnW
def obsXR (n : Nat) (fa : List He.Fa) (fn : List He.DefD) (ex : PySem.W.Frag → Bool) (ts : List Tb) (g : Addr → Option Obj) : AlXR := (saysX fa fn ex ts (He.frG g (He.asD g n)), fnWa (He.frG g (He.asD g n)) (gAd (He.frG g (He.asD g n))))
def hookXR (n : Nat) (fa : List He.Fa) (fn : List He.DefD) (ex : PySem.W.Frag → Bool) (ts : List Tb) (v : He.FnW) : PySem.W.Hook where
  α := AlXR
  obs := fun s => obsXR n fa fn ex ts s.heap.get?
  val := fun w => ((hookX n fa fn ex ts).val w, v)
  says := fun w h => ∃ K : PySem.W.Frag, K.In h ∧ He.SaysD fa fn K ∧ ex K = true ∧ ((ts.map fun t : Tb => He.dicW K (He.ga K t.1)) = ts.map fun t : Tb => some (He.keysIn w.params t.2)) ∧ fnWa K (gAd K) = v
  of := fun _ _ e => ⟨_, He.frG_in, congrArg (fun z : AlXR => z.1.1) e, congrArg (fun z : AlXR => z.1.2.1) e, congrArg (fun z : AlXR => z.1.2.2) e, congrArg (fun z : AlXR => z.2) e⟩
  keeps := fun _ _ _ ⟨K, hK, c⟩ k => ⟨K, PySem.W.Frag.In.keeps hK k, c⟩
theorem obsXR_eq {n : Nat} {fa : List He.Fa} {fn : List He.DefD} {ex : PySem.W.Frag → Bool} {ts : List Tb} {v : He.FnW} {g : Addr → Option Obj} {s : Shared} (h : ∀ a, g a = s.heap.get? a) : obsXR n fa fn ex ts g = (hookXR n fa fn ex ts v).obs s := by
  have e : g = s.heap.get? := funext h
  rw [e] <;> rfl
theorem obsR_eq {n : Nat} {fa : List He.Fa} {fn : List He.DefD} {ex : PySem.W.Frag → Bool} {v : He.FnW} {g : Addr → Option Obj} {s : Shared} (h : ∀ a, g a = s.heap.get? a) : obsR n fa fn ex g = (hookR n fa fn ex v).obs s := by
  have e : g = s.heap.get? := funext h
  rw [e] <;> rfl
end
end Mv

set_option maxRecDepth 100000
set_option maxHeartbeats 4000000
/-! exceptions as values -/
namespace Mv
open PySem L2
def excD (k : Kd) : Option (Str × PyData) → PyData
  | none => .dict [(.str k.nm, .none)]
  | some (f, d) => .dict [(.str k.nm, .tuple [.str f, d])]
/-- an exception of the kind k at a -/
def XAt (K : PySem.W.Frag) (H : Hp) (a : Addr) (k : Kd) : Prop := H a = some (ExO (.ref (kA K k)) a) ∨ ∃ dx fs, H a = some (exo a (kA K k) (some dx)) ∧ H dx = some (exd dx fs)
theorem excD_at {K : PySem.W.Frag} {F : Hp} {v : V} {k : Kd} {fs : Option (Str × PyData)} (h : Rp K F v (excD k fs)) : ∃ a, v = .ref a ∧ XAt K F a k := by
  cases fs with
  | none =>
    have h : Rp K F v (.dict [(.str k.nm, .none)]) := h
    cases h with
    | ex0 e => exact ⟨_, rfl, .inl e⟩
  | some p =>
    obtain ⟨f, d⟩ := p
    have h : Rp K F v (.dict [(.str k.nm, .tuple [.str f, d])]) := h
    cases h with
    | ex1 e1 e2 _ => exact ⟨_, rfl, .inr ⟨_, _, e1, e2⟩⟩
theorem excD_fld {K : PySem.W.Frag} {F : Hp} {v : V} {k : Kd} {f : Str} {d : PyData} (h : Rp K F v (excD k (some (f, d)))) : ∃ a dx y, v = .ref a ∧ F a = some (exo a (kA K k) (some dx)) ∧ F dx = some (exd dx [(f, y)]) ∧ Rp K F y d := by
  have h : Rp K F v (.dict [(.str k.nm, .tuple [.str f, d])]) := h
  cases h with
  | ex1 e1 e2 r => exact ⟨_, _, _, rfl, e1, e2, r⟩
theorem XAt.mono {K : PySem.W.Frag} {F H : Hp} {a : Addr} {k : Kd} (s : Same F H) (h : XAt K F a k) : XAt K H a k := by
  rcases h with h | ⟨dx, fs, h1, h2⟩
  · exact .inl (s _ _ h)
  · exact .inr ⟨dx, fs, s _ _ h1, s _ _ h2⟩
theorem XAt.inst {X : Cx} {pins : List (Addr × Obj)} {σ : L2.St} {H : Hp} {s : Shared} {a : Addr} {k : Kd} (I : Inv X pins σ H s) (h : XAt X.K H a k) : ∃ ox od, PySem.W.InstAt s.heap a ox (kA X.K k) od := by
  rcases h with h | ⟨dx, fs, h1, h2⟩
  · obtain ⟨⟨oe, vs, ho, hz, hd, _⟩, _, _⟩ := I.hok a _ h
    obtain ⟨oc, od, oda, osl⟩ := oe
    obtain ⟨z1, z2⟩ := hz
    dsimp only at z1 z2 hd
    subst z1 z2 hd
    exact ⟨_, none, ho, rfl, rfl, trivial⟩
  · obtain ⟨t1, ho⟩ := exo_at I.hok h1
    obtain ⟨mA, hns, _⟩ := exd_at I.hok h2
    obtain ⟨od, hod, _⟩ := lookIn_ns hns
    exact ⟨_, some od, ho, rfl, rfl, hod⟩
/-- what a class must say, so that isinstance asks its instances rightly -/
structure IsC (K : PySem.W.Frag) (C : Addr) : Prop where
  cl : (PySem.W.clsIn K C).isSome = true
  ga : PySem.W.findIn K (.ref C) "__getattribute__" = some (some (.builtin "BaseException.__getattribute__"))
  gt : PySem.W.findIn K (.ref C) "__getattr__" = some none
  sub : PySem.W.subIn K (.ref C) (.type "BaseException") = some true
  ca : PySem.W.findIn K (.ref C) "__class__" = some (some (.builtin "object.__class__"))
  ds : PySem.W.specialIn K (.builtin "object.__class__") "__get__" = some (some (.builtin "getset_descriptor.__get__"))
  tk : PySem.W.takesIn K (.builtin "object.__class__") = some true
  mr : PySem.W.mroIn K C (.type "object") = some true
def isCB (K : PySem.W.Frag) (C : Addr) : Bool := (PySem.W.clsIn K C).isSome && (decide (PySem.W.findIn K (.ref C) "__getattribute__" = some (some (.builtin "BaseException.__getattribute__"))) && (decide (PySem.W.findIn K (.ref C) "__getattr__" = some none) && (decide (PySem.W.subIn K (.ref C) (.type "BaseException") = some true) && (decide (PySem.W.findIn K (.ref C) "__class__" = some (some (.builtin "object.__class__"))) &&
  (decide (PySem.W.specialIn K (.builtin "object.__class__") "__get__" = some (some (.builtin "getset_descriptor.__get__"))) && (decide (PySem.W.takesIn K (.builtin "object.__class__") = some true) && decide (PySem.W.mroIn K C (.type "object") = some true)))))))
theorem isCB_ok {K : PySem.W.Frag} {C : Addr} (h : isCB K C = true) : IsC K C := by
  unfold isCB at h
  simp only [Bool.and_eq_true, decide_eq_true_eq] at h
  obtain ⟨h1, h2, h3, h4, h5, h6, h7, h8⟩ := h
  exact ⟨h1, h2, h3, h4, h5, h6, h7, h8⟩
def kAll : List Kd := [.PlaceError, .BadOrder, .BadPlace, .BadTurns, .TooGreat, .BadSize, .BadBlocks, .BadSeen, .BadThings, .Unlike, .BadText]
theorem kAll_mem (k : Kd) : k ∈ kAll := by cases k <;> decide
structure IsX (K : PySem.W.Frag) (mg : Str → Option Value) : Prop where
  g : ∀ k : Kd, mg k.nm = some (.ref (kA K k))
  c : ∀ k : Kd, IsC K (kA K k)
  m : ∀ a b : Kd, PySem.W.kitOne K (.ref (kA K a)) (.ref (kA K b)) = some (b.takes a)
  v : ∀ k : Kd, PySem.W.kitOne K (.ref (kA K k)) (.type "ValueError") = some true
def isXB (K : PySem.W.Frag) : Bool := kAll.all fun a => isCB K (kA K a) && (decide (PySem.W.kitOne K (.ref (kA K a)) (.type "ValueError") = some true) && kAll.all fun b => decide (PySem.W.kitOne K (.ref (kA K a)) (.ref (kA K b)) = some (b.takes a)))
theorem isX_of {K : PySem.W.Frag} {mg : Str → Option Value} (h : isXB K = true) (g : ∀ k : Kd, mg k.nm = some (.ref (kA K k))) : IsX K mg := by
  have h1 := fun a => List.all_eq_true.mp h a (kAll_mem a)
  simp only [Bool.and_eq_true, decide_eq_true_eq] at h1
  exact ⟨g, fun k => isCB_ok (h1 k).1, fun a b => of_decide_eq_true (List.all_eq_true.mp (h1 a).2.2 b (kAll_mem b)), fun k => (h1 k).2.1⟩
section
variable {X : Cx} {W : WX} {e : Expr} {es : List Expr} {te : DE} {p px pos : Pos}
def rIsX (K : PySem.W.Frag) : List V → Hp → VK → Prop := fun xs H Q => ∃ a c cv k b, xs = [.ref a, c] ∧ (∀ u, RelV c u → u = cv) ∧ XAt K H a k ∧ IsC K (kA K k) ∧ PySem.W.kitOne K (.ref (kA K k)) cv = some b ∧ Q (.bl b) H
theorem call_isX : CallR X (.builtin "isinstance") (rIsX X.K) := by
  intro pins s σ H xs us Q I r h
  obtain ⟨a, c, cv, k, b, rfl, hcv, hx, C, e, q⟩ := h
  obtain ⟨u1, u2, rfl, r1, r2⟩ := vals2 r
  obtain rfl : u1 = Value.ref a := r1
  obtain rfl := hcv _ r2
  obtain ⟨ox, od, J⟩ := hx.inst I
  exact PySem.W.kia_one (PySem.W.kitx_exc (od := od) (ox := ox) C.cl C.ga C.gt C.sub C.ca C.ds C.tk C.mr) I.kIn J e (fun z => nomatch z) fun tk => ⟨.bl b, H, I.tok tk, rfl, q⟩
/-- isinstance(e, C), e an exception -/
def eIsX (c : Kd) (t : DE) : DE := fun ρ Ξ Φ => t ρ Ξ fun d => ∃ k fs, d = excD k fs ∧ Go (Φ (.bool (c.takes k)))
theorem re_isX (c : Kd) {x : Str} (Y : IsX X.K X.mg) (hm : X.mg "isinstance" = none) (h : RE X W e te) (ex : x = c.nm := by rfl) (hg : X.env.kindOf "isinstance" = some .globalImplicit := by kernel_rfl) (hgx : X.env.kindOf x = some .globalImplicit := by kernel_rfl) (hb : bltOk x = true := by kernel_rfl) (hs : isStar e = false := by rfl) :
    RE X W (.Call (.Name "isinstance" p) [e, .Name x px] [] pos) (eIsX c te) := fun ρ Ξ Φ k B F H σ env Q q qx => by
  subst ex
  exact wE_of (pe_callB call_isX hg hm (by decide +kernel) (pa_cons pe_w (pa_cons (pe_glob (v := .ref (kA X.K c)) hgx (Y.g c) rfl (bltOk_inv hb).2) pa_nil rfl) (star_cons hs)) (by decide) (by decide) (star_cons hs) rfl) (h _ _ _ k B F H σ env _ (fun v d F1 H1 hd st r => by
    obtain ⟨k2, fs, rfl, hΦ⟩ := hd
    obtain ⟨a, rfl, hx⟩ := excD_at r
    exact ⟨a, .ref (kA X.K c), .ref (kA X.K c), k2, _, rfl, fun u z => z, hx.mono st.sub, Y.c k2, Y.m k2 c, q _ _ F1 H1 (go_out hΦ) st (.bl _)⟩) qx)
/-- isinstance(e, ValueError), e an exception -/
def eIsV (t : DE) : DE := fun ρ Ξ Φ => t ρ Ξ fun d => ∃ k fs, d = excD k fs ∧ Go (Φ (.bool true))
theorem re_isV (Y : IsX X.K X.mg) (hm : X.mg "isinstance" = none) (hv : X.mg "ValueError" = none) (h : RE X W e te) (hg : X.env.kindOf "isinstance" = some .globalImplicit := by kernel_rfl) (hgx : X.env.kindOf "ValueError" = some .globalImplicit := by kernel_rfl) (hs : isStar e = false := by rfl) :
    RE X W (.Call (.Name "isinstance" p) [e, .Name "ValueError" px] [] pos) (eIsV te) := fun ρ Ξ Φ k B F H σ env Q q qx => by
  exact wE_of (pe_callB call_isX hg hm (by decide +kernel) (pa_cons pe_w (pa_cons (pe_bltn (v := .ty "ValueError") hgx hv (by decide +kernel : bootBuiltins "ValueError" = some (.type "ValueError")) rfl (by decide) (by decide)) pa_nil rfl) (star_cons hs)) (by decide) (by decide) (star_cons hs) rfl) (h _ _ _ k B F H σ env _ (fun v d F1 H1 hd st r => by
    obtain ⟨k2, fs, rfl, hΦ⟩ := hd
    obtain ⟨a, rfl, hx⟩ := excD_at r
    exact ⟨a, .ty "ValueError", .type "ValueError", k2, _, rfl, fun u z => z, hx.mono st.sub, Y.c k2, Y.v k2, q _ _ F1 H1 (go_out hΦ) st (.bl _)⟩) qx)
theorem pe_exc0 {C : Addr} {bmB : List Value} {B newId initId : String} {x : Str} (F : PySem.ExcBaseFacts B newId initId bmB) (q : PySem.W.excIn X.K C bmB newId = true) (gC : X.mg x = some (.ref C)) (kC : PySem.W.keepIn X.K (.ref C) = true) (hg : Gl X x)
    (hdb : (x == ("__debug__" : Str)) = false := by decide) : PE X (.Call (.Name x p) [] [] pos) (fun σ H Q => ∀ a, H a = none → Q (.ref a) (upd H a (ExO (.ref C) a))) := by
  refine ⟨fun pins s σ H Q I h => ?_⟩
  refine wpAny_Call_Name_kw (ld_glob I hg gC ?_ hdb)
  refine PySem.W.callWith_K0 I.kIn kC ?_
  show wpAny _ _ (call (.ref C) []) _ _ _
  obtain ⟨bm, N, nm, qn, bs, hdct, sn, sub, ab, col, dd, k0, k1, k2, k3, k5, mN, hC, hN, hni, T⟩ := exc_obj I.kIn q
  refine wpAny_call_exc_subT F T hC hN hni (fun h' a hm => ?_) (by show 0 ≤ sizeLine; decide)
  have hn : H a = none := I.hok.gone hm.new
  obtain ⟨t, ht, _, _⟩ := hm.there
  exact ⟨.ref a, upd H a (ExO (.ref C) a), I.laidN hm.keeps hm.new hn (exO_ok ht ⟨rfl, rfl⟩ rfl rfl rfl (show 4 < 6 by decide)), rfl, h a hn⟩
/-- C(), C an own exception class without __init__ -/
def eX0 (k : Kd) : DE := fun _ _ Φ => Φ (excD k none)
theorem re_exc0 (k : Kd) {x : Str} (T : ExcC X.K X.mg k.nm (kA X.K k)) (ex : x = k.nm := by rfl) (hg : X.env.kindOf x = some .globalImplicit := by kernel_rfl) (hb : bltOk x = true := by kernel_rfl) : RE X W (.Call (.Name x p) [] [] pos) (eX0 k) := fun ρ Ξ Φ h B F H σ env Q q qx => by
  subst ex
  exact wE_of (pe_exc0 PySem.F.excBase_ValueError T.q T.g T.k hg (bltOk_inv hb).2) fun a ha => q _ _ _ _ h (Step.frz env.sub ha) (.ex0 upd_same)
theorem pe_oexV {ta : TA} {CX : CXT} {x : Str} {C fI : Addr} {k : Nat} {fd : FuncData} {ps : List Str} {sp : Sp} {ds : List Value} {dvs : List V} (T : OexC X.K C) (iC : PySem.W.findIn X.K (.ref C) "__init__" = some (some (.ref fI))) (tI : PySem.W.typeIn X.K (.ref fI) = some (.type "function"))
    (F1 : FnOk X.prog X.w X.K X.mg X.base CX k fI fd ps sp) (hr : Room (k + 1) X.A) (hb : Binds X.K fd ps ds) (hd : Vals dvs ds) (hx : Passes CX X (fun _ _ _ => False)) (hg : Gl X x) (hm : X.mg x = some (.ref C)) (ha : PA X (e :: es) ta)
    (hdb : (x == ("__debug__" : Str)) = false := by decide) (he : starEach (e :: es) X.env = (false, eval e X.env) :: starEach es X.env := by rfl) (hpl : (backTo pos (starEach es X.env)).any (·.1) = false := by rfl) :
    PE X (.Call (.Name x p) (e :: es) [] pos) (fun σ H Q => ta σ H fun vs H1 => vs.length ≤ 1000 ∧ ∀ a, H1 a = none → sp (.ref a :: (vs ++ dvs)) (upd H1 a (exo a C none)) (fun v H2 => v = .non ∧ Q (.ref a) H2) (fun _ _ _ => False)) := by
  refine ⟨fun pins s σ H Q I h => ?_⟩
  obtain ⟨nm, q, N, bs, bm, sn, sub, ab, col, dd, k0, k1, k2, k3, k5, hC, hbm⟩ := T.cls
  refine wpAny_Call_Name_kw (ld_glob I hg hm ?_ hdb)
  refine PySem.W.callWith_K (h₀ := X.base) I.ok.mod.kin T.kC (thn (ha.run pos pins s σ H _ I h) fun us s1 ⟨vs, H1, I1, r1, hz, q1⟩ => ⟨I1.kIn, ?_⟩) he hpl
  show wpAny _ _ (call (.ref C) us) _ _ _
  obtain ⟨hp, g, dr, tk, os⟩ := s1
  have hsz : hp.objs.size ≤ hp.objs.size + 1 := Nat.le_succ _
  have hn : H1 (hp.objs.size + 1) = none := I1.hok.fresh hsz
  have hq := q1 (hp.objs.size + 1) hn
  have kk : ∀ b o, hp.get? b = some o → ((hp.push (PySem.W.kdv_tup us)).push (PySem.HandSPX.excO C hp.objs.size)).get? b = some o := fun b o e => Heap.get?_push_of_some _ (Heap.get?_push_of_some _ e)
  have hget : ((hp.push (PySem.W.kdv_tup us)).push (PySem.HandSPX.excO C hp.objs.size)).get? (hp.objs.size + 1) = some (PySem.HandSPX.excO C hp.objs.size) := by heap_get
  have I2 : Inv X pins σ (upd H1 (hp.objs.size + 1) (exo (hp.objs.size + 1) C none)) ⟨(hp.push (PySem.W.kdv_tup us)).push (PySem.HandSPX.excO C hp.objs.size), g, dr, tk, os⟩ :=
    I1.laid (t' := tk) (a := hp.objs.size + 1) (o := exo (hp.objs.size + 1) C none) (h' := (hp.push (PySem.W.kdv_tup us)).push (PySem.HandSPX.excO C hp.objs.size)) kk hsz (exo_ok hget)
  have r2 : Vals (V.ref (hp.objs.size + 1) :: (vs ++ dvs)) (Value.ref (hp.objs.size + 1) :: (us ++ ds)) := .cons rfl (r1.append hd)
  have hl : (Value.ref (hp.objs.size + 1) :: us ++ ds).length = ps.length := by
    have e := r2.length
    rw [F1.len _ _ _ _ hq] at e
    exact e.symm
  have hus : us.length ≤ sizeLine := by
    rw [← Paired.length r1, sizeLine_eq]
    omega
  refine wpAny_call (PySem.HandSPX.call_own F.excBase_ValueError (fun Y => PySem.HandSPX.refsVE_contains Y bm hbm) (I1.kIn _ _ hC) (PySem.W.looks_findIn I1.kIn iC) (fun self => PySem.W.bind_fn I1.kIn self tI) hus
    (codeAny_mono (F1.run _ X.stack _ _ ⟨Value.ref (hp.objs.size + 1) :: us, []⟩ (Value.ref (hp.objs.size + 1) :: (us ++ ds)) _ _ (fun _ _ _ => False) (hr.make C us []) (I2.env0.make C us []) (hb _ (Value.ref (hp.objs.size + 1) :: us) I2.kIn hl) r2 hq) fun r s' hq' => ?_))
  cases r with
  | error er => exact hx pins σ _ _ er s' I2 hq'
  | ok fl =>
    cases fl with
    | ret u =>
      obtain ⟨v, H2, os2, bare2, un2, hok2, rv, ev, q2⟩ := hq'
      subst ev
      have J : Inv X pins σ H2 s' := I2.call' (ch := []) os2 un2 hok2 bare2 (fun b z => absurd z (by simp))
      exact ⟨rv, .ref (hp.objs.size + 1), H2, J, rfl, q2⟩
    | next => exact False.elim hq'
    | brk => exact False.elim hq'
    | cont => exact False.elim hq'
/-- C(e), C an own exception class whose __init__ stores a field -/
def eX1 (k : Kd) (f : Str) (t : DE) : DE := fun ρ Ξ Φ => t ρ Ξ fun d => Φ (excD k (some (f, d)))
theorem re_excF (k : Kd) {x : Str} (f : Str) (C : Cxt X W) (T : ExcF X.prog X.w X.K X.mg X.base k f) (hr : Room 2 X.A) (he : RE X W e te) (ex : x = k.nm := by rfl) (hg : X.env.kindOf x = some .globalImplicit := by kernel_rfl) (hb : bltOk x = true := by kernel_rfl) (hs : isStar e = false := by rfl) : RE X W (.Call (.Name x p) [e] [] pos) (eX1 k f te) := fun ρ Ξ Φ h B F H σ env Q q qx => by
  subst ex
  obtain ⟨fI, fd, F1, hbi, iC, tI⟩ := T.ex
  refine wE_of (pe_oexV T.oex iC tI F1 hr hbi (dvs := []) .nil (passes_call C.tk (E := fun _ _ _ => False) fun _ _ _ _ z => z.elim) hg T.g (pa_cons pe_w pa_nil (star_cons hs)) (bltOk_inv hb).2 (star_cons hs) rfl) ?_
  refine he _ _ _ h B F H σ env _ (fun v y F1 H1 hy st r => ?_) qx
  refine ⟨by simp, fun a ha => ⟨a, v, _, rfl, upd_same, T.oex, T.no, fun z n ne => ⟨rfl, ?_⟩⟩⟩
  have hz : H1 z = none := by rw [upd_ne ne] at n; exact n
  have e2 : upd (upd (upd H1 a (exo a (kA X.K k) none)) z (exd z [(f, v)])) a (exo a (kA X.K k) (some z)) = upd (upd H1 z (exd z [(f, v)])) a (exo a (kA X.K k) (some z)) := by
    funext b
    by_cases h2 : b = a
    · rw [h2, upd_same, upd_same]
    · rw [upd_ne h2, upd_ne h2]
      by_cases h1 : b = z
      · rw [h1, upd_same, upd_same]
      · rw [upd_ne h1, upd_ne h2, upd_ne h1]
  rw [e2]
  have s1 := st.trans (Step.frz st.sub (o := exd z [(f, v)]) hz)
  have ha2 : upd H1 z (exd z [(f, v)]) a = none := by rw [upd_ne (Ne.symm ne)]; exact ha
  have s0 := Step.frz (M := B.M) s1.sub (o := exo a (kA X.K k) (some z)) ha2
  exact q _ _ _ _ hy (s1.trans s0) (.ex1 upd_same (by rw [upd_ne ne, upd_same]) (Rp.mono s0.fr _ _ (Rp.mono (Step.frz (M := B.M) st.sub (o := exd z [(f, v)]) hz).fr _ _ r)))
theorem pe_xat {C : Addr} {t : TE} {n : Str} (T : XfC X.K C) (hno : PySem.W.findIn X.K (.ref C) n = some none) (he : PE X e t) (hb : attributeBase e n X.env (eval e X.env) = eval e X.env := by rfl) :
    PE X (.Attribute e n pos) (fun σ H Q => t σ H fun x H1 => ∃ a dx fs v, x = .ref a ∧ H1 a = some (exo a C (some dx)) ∧ H1 dx = some (exd dx fs) ∧ fs.lookup n = some v ∧ Q v H1) := by
  refine ⟨fun pins s σ H Q I h => ?_⟩
  refine attr_of hb (thn (he.run pins s σ H _ I h) fun u s1 hh => ?_)
  obtain ⟨x, H1, I1, rx, a, dx, fs, v, ex, ea, ed, l, q⟩ := hh
  subst ex
  obtain rfl : u = Value.ref a := rx
  obtain ⟨t1, ho⟩ := exo_at I1.hok ea
  obtain ⟨mA, hns, hr⟩ := exd_at I1.hok ed
  obtain ⟨od, hod, hl⟩ := lookIn_ns hns
  obtain ⟨u, hu, ru⟩ := RelO.some_of (v := v) (o := mA n) (by rw [← l]; exact hr n)
  have J : PySem.W.InstAt s1.heap a ({ cls := .ref C, dict := some dx, data := .fields #[.ref t1, .none, .none, .none, .bool false, .none] } : Obj) C (some od) := ⟨ho, rfl, rfl, hod⟩
  exact HandSPX.exc_get I1.kIn J T.ga T.gg T.exC (PySem.W.findObj_own T.hdC hno rfl (by rw [hl, hu])) (handed_of ru) ⟨v, H1, I1.tok _, ru, q⟩
/-- e.f, e an exception with the field -/
def eXat (k : Kd) (f : Str) (t : DE) : DE := fun ρ Ξ Φ => t ρ Ξ fun d => ∃ y, d = excD k (some (f, y)) ∧ Go (Φ y)
theorem re_xat (k : Kd) (f : Str) (T : ExcF X.prog X.w X.K X.mg X.base k f) (he : RE X W e te) (hb : attributeBase e f X.env (eval e X.env) = eval e X.env := by rfl) : RE X W (.Attribute e f pos) (eXat k f te) := fun ρ Ξ Φ h B F H σ env Q q qx =>
  wE_of (pe_xat T.xf T.no pe_w hb) (he _ _ _ h B F H σ env _ (fun v d F1 H1 hd st r => by
    obtain ⟨y, rfl, hΦ⟩ := hd
    obtain ⟨a, dx, z, rfl, e1, e2, r2⟩ := excD_fld r
    exact ⟨a, dx, _, z, rfl, st.sub _ _ e1, st.sub _ _ e2, by simp [List.lookup], q _ _ F1 H1 (go_out hΦ) st r2⟩) qx)
end
end Mv

namespace Mv
open PySem L2
def topS (i : Nat) : Stmt := PySem.Challenge.pw_movedinplace_k14_errors_apart.main.body.getD i (.Pass ⟨0, 0, 0, 0⟩)
abbrev s_BadSeen_init : Stmt := inClass (topS 8) 0
abbrev n_BadSeen_init : List Str := ["self", "index"]
theorem sc_BadSeen_init : FnScope n_BadSeen_init ["self", "index"] (defScope s_BadSeen_init) := ⟨rfl, rfl, rfl, by decide +kernel, rfl, by decide +kernel, by decide +kernel⟩
abbrev s_BadText_init : Stmt := inClass (topS 11) 0
abbrev n_BadText_init : List Str := ["self", "word"]
theorem sc_BadText_init : FnScope n_BadText_init ["self", "word"] (defScope s_BadText_init) := ⟨rfl, rfl, rfl, by decide +kernel, rfl, by decide +kernel, by decide +kernel⟩
abbrev s_law_random : Stmt := topS 13
abbrev n_law_random : List Str := ["_law_script", "_law_salt", "_law_seed", "_law_cell"]
theorem sc_law_random : FnScope n_law_random ["_law_script", "_law_salt"] (defScope s_law_random) := ⟨rfl, rfl, rfl, by decide +kernel, rfl, by decide +kernel, by decide +kernel⟩
abbrev s_law_below : Stmt := topS 14
abbrev n_law_below : List Str := ["_law_d", "_law_size", "_law_result"]
theorem sc_law_below : FnScope n_law_below ["_law_d", "_law_size"] (defScope s_law_below) := ⟨rfl, rfl, rfl, by decide +kernel, rfl, by decide +kernel, by decide +kernel⟩
abbrev s_law_pick : Stmt := topS 15
abbrev n_law_pick : List Str := ["_law_d", "_law_items"]
theorem sc_law_pick : FnScope n_law_pick ["_law_d", "_law_items"] (defScope s_law_pick) := ⟨rfl, rfl, rfl, by decide +kernel, rfl, by decide +kernel, by decide +kernel⟩
abbrev s_law_one : Stmt := topS 16
abbrev n_law_one : List Str := ["_law_d", "_law_one_here", "_law_error"]
theorem sc_law_one : FnScope n_law_one ["_law_d"] (defScope s_law_one) := ⟨rfl, rfl, rfl, by decide +kernel, rfl, by decide +kernel, by decide +kernel⟩
abbrev s_law_classes : Stmt := topS 17
abbrev n_law_classes : List Str := ["_law_error", "_law_found", "_law_one_here"]
theorem sc_law_classes : FnScope n_law_classes ["_law_error"] (defScope s_law_classes) := ⟨rfl, rfl, rfl, by decide +kernel, rfl, by decide +kernel, by decide +kernel⟩
abbrev s_law : Stmt := topS 18
abbrev n_law : List Str := ["_law_script", "_law_d", "_law_turn", "_law_error", "_law_is_right", "_law_errors", "_law_one_here"]
theorem sc_law : FnScope n_law ["_law_script"] (defScope s_law) := ⟨rfl, rfl, rfl, by decide +kernel, rfl, by decide +kernel, by decide +kernel⟩
def ks : List Kd := [.PlaceError, .BadOrder, .BadPlace, .BadTurns, .TooGreat, .BadSize, .BadBlocks, .BadSeen, .BadThings, .Unlike, .BadText]

local macro_rules | `(tactic| walk_at "br") => do
  let e := Lean.mkIdent `e
  `(tactic| (refine brk_of (fun $e => ?_) (fun $e => ?_) <;> (first | (cases $e:ident; done) | (simp only [Bool.not_eq_eq_eq_not, Bool.not_true, Bool.not_false, Bool.not_not, decide_eq_true_eq, decide_eq_false_iff_not, Bool.and_eq_true, Bool.or_eq_true, Bool.and_eq_false_imp, Bool.or_eq_false_iff, ne_eq, Decidable.not_not, isInt, isBool, isStr, isTuple, isList, isDict, isNone, isInteger, reduceCtorEq, not_true_eq_false, not_false_eq_true, if_true, if_false, Bool.false_eq_true, Int.not_lt, Int.not_le] at $e:ident; done) | (simp only [Bool.not_eq_eq_eq_not, Bool.not_true, Bool.not_false, Bool.not_not, decide_eq_true_eq, decide_eq_false_iff_not, Bool.and_eq_true, Bool.or_eq_true, Bool.and_eq_false_imp, Bool.or_eq_false_iff, ne_eq, Decidable.not_not, isInt, isBool, isStr, isTuple, isList, isDict, isNone, isInteger, reduceCtorEq, not_true_eq_false, not_false_eq_true, if_true, if_false, Bool.false_eq_true, Int.not_lt, Int.not_le] at $e:ident) | skip)))
local macro_rules | `(tactic| walk_at "sd") => `(tactic| first
  | ((with_reducible show _ < BIG); exact big_of (by omega) (by omega))
  | omega
  | (with_reducible assumption)
  | exact rfl
  | ((with_reducible show _ ∧ _); refine ⟨?_, ?_⟩ <;> walk_at "sd")
  | (simp only [List.length_map, List.length_append, List.length_range, List.length_cons, List.length_nil, rangeD_len]; omega))
local macro_rules | `(tactic| walk_at "on") => do
  let o := Lean.mkIdent `one
  `(tactic| first | exact rfl | assumption | exact $o _ | (apply $o <;> first | exact rfl | assumption))
local macro_rules | `(tactic| walk_at "st") => `(tactic| first
  | ((with_reducible refine go_of ?_); conv => whnf)
  | ((with_reducible refine callK_of ?_); (conv => whnf); (first | refine ⟨_, rfl, ?_⟩ | refine ⟨_, _, rfl, ?_⟩ | refine ⟨_, _, _, rfl, ?_⟩ | refine ⟨_, _, _, _, rfl, ?_⟩ | refine ⟨_, _, _, _, _, rfl, ?_⟩ | refine ⟨_, _, _, _, _, _, rfl, ?_⟩ | skip); (try (conv => whnf)))
  | (with_reducible refine brk_t ?_) | (with_reducible refine brk_f ?_)
  | ((with_reducible show (oneRow _ _ = true ∧ _) ∧ _); refine ⟨⟨by walk_at "on", by first | exact (by decide : (3 : Nat) < 900) | exact (by decide : (0 : Nat) < 900) | exact (by decide : (1 : Nat) < 900) | exact (by decide : (2 : Nat) < 900) | exact rfl⟩, ?_⟩)
  | ((with_reducible show oneRow _ _ = true ∧ Go _); refine ⟨by walk_at "on", ?_⟩)
  | ((with_reducible show rowIn _ _ _ ∧ _); refine ⟨⟨rfl, rfl⟩, ?_⟩)
  | ((with_reducible show _ ∧ Go _); refine ⟨by walk_at "sd", ?_⟩)
  | ((with_reducible show _ ∧ _ ∧ Go _); refine ⟨by walk_at "sd", by walk_at "sd", ?_⟩)
  | ((with_reducible show brk (decide _) _ _); first | (refine brk_is (c := true) (by decide) ?_; with_reducible refine brk_t ?_) | (refine brk_is (c := false) (by decide) ?_; with_reducible refine brk_f ?_) | walk_at "br")
  | (refine brk_is (c := true) (by exact rfl) ?_; with_reducible refine brk_t ?_)
  | (refine brk_is (c := false) (by exact rfl) ?_; with_reducible refine brk_f ?_)
  | ((with_reducible show brk _ _ _); walk_at "br"))
local macro_rules | `(tactic| walk_at "z") => `(tactic| repeat' (walk_at "st"))
local macro_rules | `(tactic| walk_at "zz") => `(tactic| ((conv => whnf); walk_at "z"))
local macro_rules | `(tactic| walk_at "oo") => `(tactic| all_goals (first | (exfalso; omega) | skip))
local macro_rules | `(tactic| walk_at "rd") => `(tactic| repeat (first | exact ra_nil | refine @ra_cons _ _ _ _ _ _ ?_ ?_ rfl | refine re_lst ?_ | refine re_tup ?_ | exact re_int | exact re_str | exact re_non | exact re_bl))
section
variable {P : Program} {w : World} {K : PySem.W.Frag} {mg : Str → Option Value} {base : Heap}
def p_law_random : Pr := fun as Φ _ => ∃ (ns : List Int) (salt : Int), as = [.scr ns, .dat (.int salt)] ∧ ((ns.length ≤ 63 ∧ 0 ≤ salt ∧ salt < 2147483647) ∧ Go (∀ (a b : Int) (ms : List Int), 0 ≤ a → 0 ≤ b → (∀ m ∈ ms, 0 ≤ m) → Φ (.own ((a :: b :: ms).map .int))))
def t_law_random : DS := (sCons (sSet 2 (kE (eNm 1))) (sCons (sFor (iScr 0) (gNm 3) (sSet 2 (kE (eOp oMod (eB bInt (aCons (eOp oAdd (eOp oMul (eNm 2) (eC (.int 31))) (eB bAbs (aCons (eNm 3) aNil))) aNil)) (eC (.int 2147483647)))))) (sRet (kCat (eLst (aCons (eNm 2) (aCons (eC (.int 0)) aNil))) (eK (kLc [3] (iScr 0) (gNm 3) (tV (eOp oGe (eNm 3) (eC (.int 1000000000000000000)))) (eNm 3)))))))
theorem q_law_random (T : Txt mg) (f : Addr) (cdv : Value) (A : Around) (outer : List Env) (s : Shared) (H : Hp) (E : XK) (hr : Room 0 (A.deeper (PyProof.Rows.envOfC "_law_random" (defScope s_law_random) s.heap.objs.size f cdv))) (C : Cxt (cxOf (L2.CX P w) P w K mg base n_law_random "_law_random" (defScope s_law_random) f cdv A outer s H E) (wDef E)) : RS (cxOf (L2.CX P w) P w K mg base n_law_random "_law_random" (defScope s_law_random) f cdv A outer s H E) (wDef E) (defBody s_law_random) t_law_random :=
  (@rs_cons _ _ _ _ _ _ (@r1_set _ _ _ _ _ _ 2 _ C.nd (@rk_e _ _ _ _ (@re_nm _ _ _ 1 _ (by kernel_rfl) (by kernel_rfl))) (by kernel_rfl) (by kernel_rfl) (by rfl)) (@rs_cons _ _ _ _ _ _ (@r1_for _ _ _ _ _ _ _ _ _ C (@ri_scr _ _ _ _ 0 _ (by kernel_rfl) (by kernel_rfl)) (@rg_nm _ _ _ 3 _ C.nd trivial (by kernel_rfl) (by kernel_rfl)) (@rs_one _ _ _ _ (@r1_set _ _ _ _ _ _ 2 _ C.nd (@rk_e _ _ _ _ (@re_mod _ _ _ _ _ _ _ (@re_intOf _ _ _ _ _ _ T.int (@ra_cons _ _ _ _ _ _ (@re_add _ _ _ _ _ _ _ (@re_mul _ _ _ _ _ _ _ (@re_nm _ _ _ 2 _ (by kernel_rfl) (by kernel_rfl)) (@re_int _ _ _ _ _)) (@re_abs _ _ _ _ _ _ T.abs (@ra_cons _ _ _ _ _ _ (@re_nm _ _ _ 3 _ (by kernel_rfl) (by kernel_rfl)) (@ra_nil _ _) (by rfl)) (by kernel_rfl) (by rfl))) (@ra_nil _ _) (by rfl)) (by kernel_rfl) (by rfl)) (@re_int _ _ _ _ _))) (by kernel_rfl) (by kernel_rfl) (by rfl))) (by intro _; rfl)) (@rs_one _ _ _ _ (@r1_ret _ _ _ _ _ (@rk_cat _ _ _ _ _ _ _ (@re_lst _ _ _ _ _ (@ra_cons _ _ _ _ _ _ (@re_nm _ _ _ 2 _ (by kernel_rfl) (by kernel_rfl)) (@ra_cons _ _ _ _ _ _ (@re_int _ _ _ _ _) (@ra_nil _ _) (by rfl)) (by rfl))) (@re_k _ _ _ _ (rk_lc (own := [("_law_cell", 3)]) C (blkOk_by (by kernel_rfl)) (@ri_scr _ _ _ _ 0 _ (by kernel_rfl) (by kernel_rfl)) (fun s H cc cl fp Cb => (@rg_nm _ _ _ 3 _ Cb.nd (by decide) (by kernel_rfl) (by kernel_rfl))) (fun s H cc cl fp Cb => (@rts_one _ _ _ (@rt_ge _ _ _ _ _ _ _ (@re_nm _ _ _ 3 _ (by kernel_rfl) (by kernel_rfl)) (@re_pow10 _ _ _ 18 1000000000000000000 _ _ _ _ (by kernel_rfl) (by decide))))) (fun s H cc cl fp Cb => (@re_nm _ _ _ 3 _ (by kernel_rfl) (by kernel_rfl))))))))))
theorem e_law_random (T : Txt mg) {pr : Pr} (F : Fn K mg "_law_random" s_law_random ["_law_script", "_law_salt"]) (hp : ∀ as Φ Ξ, pr as Φ Ξ → as.length = 2 ∧ t_law_random (slots as 4) (fun y _ => Ξ y) { nx := fun _ => Φ (.dat .none), rt := Φ }) : Def P w K mg base "_law_random" 2 1 pr := fn_rd F sc_law_random (@q_law_random P w K mg base T) hp
theorem d_law_random (T : Txt mg) (F : Fn K mg "_law_random" s_law_random ["_law_script", "_law_salt"]) : Def P w K mg base "_law_random" 2 1 p_law_random := by
  refine e_law_random T F fun as Φ Ξ h => ?_
  obtain ⟨ns, salt, rfl, ⟨hn, h0, h1⟩, q⟩ := h
  refine ⟨rfl, ?_⟩
  walk_at "zz"
  refine ⟨fun _ ρ => ∃ z x, ρ = [.scr ns, .dat (.int salt), .dat (.int z), x] ∧ 0 ≤ z ∧ z < 2147483647, ⟨salt, .unk, rfl, h0, h1⟩, ?_, ?_⟩
  · rintro i d ρ hd ⟨z, x, rfl, z0, z1⟩
    obtain ⟨n, _, rfl⟩ := List.getElem?_map .. ▸ hd |> fun h => by simpa using h
    walk_at "z"
    exact ⟨_, _, rfl, by omega, by omega⟩
  · rintro ρ ⟨z, x, rfl, z0, z1⟩
    walk_at "z"
    refine .inl ⟨fun i acc => ∃ ms : List Int, acc = ms.map .int ∧ (∀ m ∈ ms, 0 ≤ m) ∧ ms.length ≤ i, ⟨[], rfl, by simp, Nat.le_refl _⟩, ?_, ?_⟩
    · rintro i d acc hd ⟨ms, rfl, hm, hl⟩
      have hi : i < ns.length := by
        have := (List.getElem?_eq_some_iff.mp hd).1
        rwa [List.length_map] at this
      obtain ⟨n, _, rfl⟩ := List.getElem?_map .. ▸ hd |> fun h => by simpa using h
      refine ⟨by rw [List.length_map]; omega, ?_⟩
      walk_at "z"
      · exact ⟨ms ++ [n], by simp, by simp; intro m h; rcases h with h | h; exact hm m h; omega, by simp; omega⟩
      · exact ⟨ms, rfl, hm, by omega⟩
    · rintro acc ⟨ms, rfl, hm, hl⟩
      walk_at "z"
      refine ⟨by simp at hl ⊢; omega, ?_⟩
      exact fin_own (q z 0 ms (by omega) (by omega) hm) rfl
-- raw
-- binders (T : Txt mg)
def p_law_below : Pr := fun as Φ _ => ∃ n : Int, as = [.drw, .dat (.int n)] ∧ ((0 < n ∧ n.natAbs < BIG) ∧ Go (∀ r : Int, 0 ≤ r → r < n → Φ (.dat (.int r))))
theorem ixN_nat' {n j : Nat} (hj : j < n) : ixN n (j : Int) = some j := by
  unfold ixN
  rw [if_pos (by omega), if_pos (by omega)]
  simp
theorem below_step {M : Addr → Prop} {F H : Hp} {p : Addr} {a b a' b' : Int} {ns ms : List Int} (s : Same F H) (hp : H p = some (.lst ((a :: b :: ns).map V.int))) (m : M p) (f : F p = none) (h1 : 0 ≤ a') (h2 : 0 ≤ b') (h3 : ∀ n ∈ ms, 0 ≤ n) : StepE M F H F (upd H p (.lst ((a' :: b' :: ms).map V.int))) where
  fr := Same.refl F
  sub := fun q x e => by
    have np : q ≠ p := fun z => by rw [z, f] at e; cases e
    rw [upd_ne np]; exact s q x e
  keep := fun q x n e => by
    have np : q ≠ p := fun z => n (by rw [z]; exact m)
    rw [upd_ne np]; exact e
  new := fun _ _ => rfl
  alive := fun q n => by
    by_cases z : q = p
    · rw [z, upd_same]; exact fun z => nomatch z
    · rw [upd_ne z]; exact n
  dr := fun q _ d => by
    by_cases z : q = p
    · subst z; exact ⟨a', b', ms, h1, h2, h3, upd_same⟩
    · obtain ⟨x, y, ns, z1, z2, z3, z4⟩ := d
      exact ⟨x, y, ns, z1, z2, z3, by rw [upd_ne z]; exact z4⟩
theorem d_law_below (T : Txt mg) (F : Fn K mg "_law_below" s_law_below ["_law_d", "_law_size"]) : Def P w K mg base "_law_below" 2 1 p_law_below := by
  obtain ⟨f, fd, F, hm, hb⟩ := F.ex
  refine ⟨f, fd, _, hm, F.kp, hb, rfl, F.okX sc_law_below (fun vs H Q E h => ?_) fun cdv A outer s H vs Q E hr h => ?_⟩
  · obtain ⟨M, F0, as, Φ, Ξ, sf, hM, ra, ⟨n, rfl, _⟩, _⟩ := h
    rw [ag_len ra]; rfl
  · obtain ⟨M, F0, as, Φ, Ξ, sf, hM, ra, ⟨n, rfl, ⟨hn, hb⟩, q⟩, ok, _⟩ := h
    obtain ⟨p, rfl, mp, ⟨a, b, ns, ha, hb0, hns, hp⟩, fp⟩ : ∃ p, vs = [.ref p, .int n] ∧ M p ∧ DrOk H p ∧ F0 p = none := by
      cases ra with
      | cons h1 t =>
        cases t with
        | cons h2 t =>
          cases t
          obtain ⟨p, e, m, d, fp⟩ := h1
          exact ⟨p, by rw [e, Rp.int_inv h2], m, d, fp⟩
    have nd := sc_law_below.nd
    have at0 : ∀ {x y : Int} {zs : List Int}, atI ((x :: y :: zs).map V.int) 0 = some (.int x) := fun {x y zs} => atI_nat (j := 0) rfl
    have at1 : ∀ {x y : Int} {zs : List Int}, atI ((x :: y :: zs).map V.int) 1 = some (.int y) := fun {x y zs} => atI_nat (j := 1) rfl
    have fin : ∀ (r : Int) (a' b' : Int) (ms : List Int), 0 ≤ r → r < n → 0 ≤ a' → 0 ≤ b' → (∀ n ∈ ms, 0 ≤ n) → Q (.int r) (upd H p (.lst ((a' :: b' :: ms).map V.int))) := fun r a' b' ms r0 r1 h1 h2 h3 =>
      ok _ (.dat (.int r)) F0 _ (q r r0 r1) (below_step sf hp mp fp h1 h2 h3) (.int r)
    -- the second statement on
    have tail : ∀ (b' : Int) (ms : List Int) (H1 : Hp), 0 ≤ b' → (∀ n ∈ ms, 0 ≤ n) → H1 = upd H p (.lst ((a :: b' :: ms).map V.int)) →
        wSs (cxOf (L2.CX P w) P w K mg base n_law_below "_law_below" (defScope s_law_below) f cdv A outer s H E) ((defBody s_law_below).tail) { nx := fun _ H' => Q .non H', rt := Q } [some (.ref p), some (.int n), none] H1 := fun b' ms H1 hb' hms eH => by
      subst eH
      refine wSs_of (pss_cons (ps_if (pt_cmpR op_gt (pe_ix ix_list (pv 0) pe_int (fun _ _ => rfl)) pe_int (nomark _))
        (pss_cons (ps_set (i := 2) nd rfl (.inl rfl) (pe_op op_mod (pe_callTy call_int1 (by rfl) T.int (by decide +kernel) (pa_cons (pe_ix ix_list (pv 0) pe_int (fun _ _ => rfl)) pa_nil)) (pv 1)))
          (pss_cons (ps_asg (pe_op op_fdivW (pe_ix ix_list (pv 0) pe_int (fun _ _ => rfl)) (pv 1)) (pg_sub (pv 0) pe_int set_list)) (pss_one (ps_ret (pv 2))))) pss_nil)
      (pss_cons (ps_asg (pe_op op_mod (pe_callTy call_int1 (by rfl) T.int (by decide +kernel) (pa_cons (pe_op op_add (pe_op op_mul (pe_ix ix_list (pv 0) pe_int (fun _ _ => rfl)) pe_int) pe_int) pa_nil)) pe_int) (pg_sub (pv 0) pe_int set_list))
        (pss_one (ps_ret (pe_op op_mod (pe_callTy call_int1 (by rfl) T.int (by decide +kernel) (pa_cons (pe_op op_fdiv (pe_ix ix_list (pv 0) pe_int (fun _ _ => rfl)) pe_int) pa_nil)) (pv 1)))))) ?_
      have h1 : (upd H p (.lst ((a :: b' :: ms).map V.int))) p = some (.lst ((a :: b' :: ms).map V.int)) := upd_same
      refine ⟨_, rfl, p, _, _, _, rfl, rfl, SqL.of h1, at1, _, _, rfl, rfl, _, rfl, ite2 (fun e => ?_) (fun e => ?_)⟩
      · refine ⟨_, rfl, p, _, _, _, rfl, rfl, SqL.of h1, at1, .inl ⟨_, rfl, _, rfl, _, _, rfl, rfl, hn, ?_⟩⟩
        refine ⟨_, rfl, p, _, _, _, rfl, rfl, SqL.of h1, at1, _, rfl, _, _, rfl, rfl, wide_div hn hb (by decide) (by decide), _, rfl, p, _, _, 1, rfl, rfl, h1, ixN_nat' (j := 1) (by simp), _, rfl, ?_⟩
        rw [upd_upd]
        exact fin _ a (b' / n) ms (Int.emod_nonneg _ (by omega)) (Int.emod_lt_of_pos _ hn) ha (Int.ediv_nonneg hb' (by omega)) hms
      · refine ⟨_, rfl, p, _, _, _, rfl, rfl, SqL.of h1, at0, _, _, rfl, rfl, .inr (by decide), _, _, rfl, rfl, .inl ⟨_, rfl, _, _, rfl, rfl, (by show (0 : Int) < 2147483647; decide), _, rfl, p, _, _, 0, rfl, rfl, h1, ixN_nat' (j := 0) (by simp), ?_⟩⟩
        refine ⟨_, rfl, p, _, _, _, rfl, rfl, SqL.of upd_same, at0 (x := (a * 48271 + 11) % 2147483647) (y := b') (zs := ms), _, _, rfl, rfl, ⟨by decide, by decide⟩, .inl ⟨_, rfl, _, rfl, _, _, rfl, rfl, hn, ?_⟩⟩
        rw [upd_upd]
        exact fin _ ((a * 48271 + 11) % 2147483647) b' ms (Int.emod_nonneg _ (by omega)) (Int.emod_lt_of_pos _ hn) (Int.emod_nonneg _ (by omega)) hb' hms
    have same : upd H p (.lst ((a :: b :: ns).map V.int)) = H := by
      funext z
      by_cases hz : z = p
      · rw [hz, upd_same, hp]
      · rw [upd_ne hz]
    refine ⟨_, pss_cons (ps_if (PW.pt (pw_and (pt_cmpR op_eq (pe_ix ix_list (pv 0) pe_int (fun _ _ => rfl)) pe_int (nomark _)) (pw_and1 (pt_cmpR op_gt (pe_callB call_len_seq (by rfl) T.len PySem.boot_len (pa_cons (pv 0) pa_nil)) pe_int (nomark _)))))
        (pss_one (ps_asg (pe_bm PySem.F.plainAttrs_list PySem.F.slot_list_pop PySem.F.type_list_pop mt_popAt (pv 0) (pa_cons pe_int pa_nil)) (pg_sub (pv 0) pe_int set_list))) pss_nil) pss_w, ?_⟩
    refine ⟨_, rfl, p, _, _, _, rfl, rfl, SqL.of hp, at1, rfl, _, rfl, ite2 (fun e => ?_) (fun e => ?_)⟩
    · refine ⟨_, rfl, p, _, rfl, .inl (SqL.of hp), _, _, rfl, rfl, _, rfl, ite2 (fun e2 => ?_) (fun e2 => ?_)⟩
      · obtain ⟨m, ms, rfl⟩ : ∃ m ms, ns = m :: ms := by
          cases ns with
          | nil => simp at e2
          | cons m ms => exact ⟨m, ms, rfl⟩
        refine ⟨_, rfl, .inl ⟨rfl, _, SqL.of hp⟩, p, _, 2, 2, .int m, rfl, rfl, hp, by decide, by decide, ?_, rfl, _, rfl, p, _, _, 1, rfl, rfl, upd_same, ixN_nat' (j := 1) (by simp), ?_⟩
        · rw [seqIndex_of (by decide) (by simp; omega)]; rfl
        · rw [upd_upd]
          exact tail m ms _ (hns m (by simp)) (fun n hn => hns n (by simp [hn])) rfl
      · exact tail b ns _ hb0 hns same.symm
    · exact tail b ns _ hb0 hns same.symm
def pickC (xs : List PyData) (Φ : Sl → Prop) : Prop := (0 < xs.length ∧ xs.length ≤ 4000) ∧ Go (∀ x ∈ xs, Φ (.dat x))
def p_law_pick : Pr := fun as Φ _ => match as with
  | [.drw, .dat (.list xs)] => pickC xs Φ
  | [.drw, .dat (.tuple xs)] => pickC xs Φ
  | _ => False
def t_law_pick : DS := (sRet (kE (eOp oIx (eNm 1) (eK (kCall (p_law_below) (aDrw 0 (aCons (eB bLen (aCons (eNm 1) aNil)) aNil)))))))
theorem q_law_pick (T : Txt mg) (D_law_below : Def P w K mg base "_law_below" 2 1 (p_law_below)) (f : Addr) (cdv : Value) (A : Around) (outer : List Env) (s : Shared) (H : Hp) (E : XK) (hr : Room 1 (A.deeper (PyProof.Rows.envOfC "_law_pick" (defScope s_law_pick) s.heap.objs.size f cdv))) (C : Cxt (cxOf (L2.CX P w) P w K mg base n_law_pick "_law_pick" (defScope s_law_pick) f cdv A outer s H E) (wDef E)) : RS (cxOf (L2.CX P w) P w K mg base n_law_pick "_law_pick" (defScope s_law_pick) f cdv A outer s H E) (wDef E) (defBody s_law_pick) t_law_pick :=
  (@rs_one _ _ _ _ (@r1_ret _ _ _ _ _ (@rk_e _ _ _ _ (@re_ix _ _ _ _ _ _ _ (@re_nm _ _ _ 1 _ (by kernel_rfl) (by kernel_rfl)) (@re_k _ _ _ _ (@rk_call _ _ _ _ _ _ _ _ _ _ _ D_law_below C (Room.mono hr (by decide)) (@ra_drw _ _ _ _ _ 0 _ (@ra_cons _ _ _ _ _ _ (@re_len _ _ _ _ _ _ T.len (@ra_cons _ _ _ _ _ _ (@re_nm _ _ _ 1 _ (by kernel_rfl) (by kernel_rfl)) (@ra_nil _ _) (by rfl)) (by kernel_rfl) (by rfl)) (@ra_nil _ _) (by rfl)) (by kernel_rfl) (by kernel_rfl)) (by kernel_rfl) (by kernel_rfl) (by rfl) (by rfl))) (by exact fun _ _ => rfl)))))
theorem e_law_pick (T : Txt mg) (D_law_below : Def P w K mg base "_law_below" 2 1 (p_law_below)) {pr : Pr} (F : Fn K mg "_law_pick" s_law_pick ["_law_d", "_law_items"]) (hp : ∀ as Φ Ξ, pr as Φ Ξ → as.length = 2 ∧ t_law_pick (slots as 2) (fun y _ => Ξ y) { nx := fun _ => Φ (.dat .none), rt := Φ }) : Def P w K mg base "_law_pick" 2 2 pr := fn_rd F sc_law_pick (@q_law_pick P w K mg base T D_law_below) hp
theorem d_law_pick (T : Txt mg) (D_law_below : Def P w K mg base "_law_below" 2 1 (p_law_below)) (F : Fn K mg "_law_pick" s_law_pick ["_law_d", "_law_items"]) : Def P w K mg base "_law_pick" 2 2 p_law_pick := by
  refine e_law_pick T D_law_below F fun as Φ Ξ h => ?_
  unfold p_law_pick at h
  split at h
  · rename_i xs
    obtain ⟨⟨h0, h1⟩, q⟩ := h
    refine ⟨rfl, ?_⟩
    walk_at "zz"
    intro r r0 r1
    walk_at "zz"
    obtain ⟨i, rfl⟩ := Int.eq_ofNat_of_zero_le r0
    have hi : i < xs.length := by omega
    refine someK_of (lift_atD hi) ?_
    exact q _ (List.getElem_mem hi)
  · rename_i xs
    obtain ⟨⟨h0, h1⟩, q⟩ := h
    refine ⟨rfl, ?_⟩
    walk_at "zz"
    intro r r0 r1
    walk_at "zz"
    obtain ⟨i, rfl⟩ := Int.eq_ofNat_of_zero_le r0
    have hi : i < xs.length := by omega
    refine someK_of (lift_atD hi) ?_
    exact q _ (List.getElem_mem hi)
  · exact h.elim
def p_law_one : Pr := fun as Φ _ => as = [.drw] ∧ Go (∀ k fs, (k = Kd.BadSeen ∨ k = Kd.BadText) → Φ (.dat (.tuple [excD k fs, .bool true])))
def t_law_one : DS := (sCons (sSet 1 (kE (eK (kCall (p_law_pick) (aDrw 0 (aCons (eLst (aCons (eC (.int 0)) (aCons (eC (.int (-1))) (aCons (eC .none) (aCons (eC (.str "a")) (aCons (eTup aNil) aNil)))))) aNil)))))) (sCons (sIf (tV (eOp oEq (eK (kCall (p_law_below) (aDrw 0 (aCons (eC (.int 2)) aNil)))) (eC (.int 0)))) (sCons (sSet 2 (kE (eX1 .BadSeen "index" (eNm 1)))) (sRet (kE (eTup (aCons (eNm 2) (aCons (eOp oEq (eXat .BadSeen "index" (eNm 2)) (eNm 1)) aNil)))))) sNil) (sCons (sSet 2 (kE (eX1 .BadText "word" (eNm 1)))) (sRet (kE (eTup (aCons (eNm 2) (aCons (eOp oEq (eXat .BadText "word" (eNm 2)) (eNm 1)) aNil))))))))
theorem q_law_one (T : Txt mg) (c_BadSeen : ExcF P w K mg base .BadSeen "index") (c_BadText : ExcF P w K mg base .BadText "word") (D_law_below : Def P w K mg base "_law_below" 2 1 (p_law_below)) (D_law_pick : Def P w K mg base "_law_pick" 2 2 (p_law_pick)) (f : Addr) (cdv : Value) (A : Around) (outer : List Env) (s : Shared) (H : Hp) (E : XK) (hr : Room 2 (A.deeper (PyProof.Rows.envOfC "_law_one" (defScope s_law_one) s.heap.objs.size f cdv))) (C : Cxt (cxOf (L2.CX P w) P w K mg base n_law_one "_law_one" (defScope s_law_one) f cdv A outer s H E) (wDef E)) : RS (cxOf (L2.CX P w) P w K mg base n_law_one "_law_one" (defScope s_law_one) f cdv A outer s H E) (wDef E) (defBody s_law_one) t_law_one :=
  (@rs_cons _ _ _ _ _ _ (@r1_set _ _ _ _ _ _ 1 _ C.nd (@rk_e _ _ _ _ (@re_k _ _ _ _ (@rk_call _ _ _ _ _ _ _ _ _ _ _ D_law_pick C (Room.mono hr (by decide)) (@ra_drw _ _ _ _ _ 0 _ (@ra_cons _ _ _ _ _ _ (@re_lst _ _ _ _ _ (@ra_cons _ _ _ _ _ _ (@re_int _ _ _ _ _) (@ra_cons _ _ _ _ _ _ (@re_neg1 _ _ _ _ _ _ (-1) (by rfl)) (@ra_cons _ _ _ _ _ _ (@re_non _ _ _ _) (@ra_cons _ _ _ _ _ _ (@re_str _ _ _ _ _) (@ra_cons _ _ _ _ _ _ (@re_tup _ _ _ _ _ _ (@ra_nil _ _)) (@ra_nil _ _) (by rfl)) (by rfl)) (by rfl)) (by rfl)) (by rfl))) (@ra_nil _ _) (by rfl)) (by kernel_rfl) (by kernel_rfl)) (by kernel_rfl) (by kernel_rfl) (by rfl) (by rfl)))) (by kernel_rfl) (by kernel_rfl) (by rfl)) (@rs_cons _ _ _ _ _ _ (@r1_if _ _ _ _ _ _ _ _ _ (@rt_eq _ _ _ _ _ _ _ C (@re_k _ _ _ _ (@rk_call _ _ _ _ _ _ _ _ _ _ _ D_law_below C (Room.mono hr (by decide)) (@ra_drw _ _ _ _ _ 0 _ (@ra_cons _ _ _ _ _ _ (@re_int _ _ _ _ _) (@ra_nil _ _) (by rfl)) (by kernel_rfl) (by kernel_rfl)) (by kernel_rfl) (by kernel_rfl) (by rfl) (by rfl))) (@re_int _ _ _ _ _)) (@rs_cons _ _ _ _ _ _ (@r1_set _ _ _ _ _ _ 2 _ C.nd (@rk_e _ _ _ _ (@re_excF _ _ _ _ _ _ .BadSeen _ "index" C c_BadSeen (Room.mono hr (by decide)) (@re_nm _ _ _ 1 _ (by kernel_rfl) (by kernel_rfl)) (by rfl) (by kernel_rfl) (by kernel_rfl) (by rfl))) (by kernel_rfl) (by kernel_rfl) (by rfl)) (@rs_one _ _ _ _ (@r1_ret _ _ _ _ _ (@rk_e _ _ _ _ (@re_tup _ _ _ _ _ _ (@ra_cons _ _ _ _ _ _ (@re_nm _ _ _ 2 _ (by kernel_rfl) (by kernel_rfl)) (@ra_cons _ _ _ _ _ _ (@re_eq _ _ _ _ _ _ _ C (@re_xat _ _ _ _ _ .BadSeen "index" c_BadSeen (@re_nm _ _ _ 2 _ (by kernel_rfl) (by kernel_rfl)) (by rfl)) (@re_nm _ _ _ 1 _ (by kernel_rfl) (by kernel_rfl))) (@ra_nil _ _) (by rfl)) (by rfl))))))) (@rs_nil _ _)) (@rs_cons _ _ _ _ _ _ (@r1_set _ _ _ _ _ _ 2 _ C.nd (@rk_e _ _ _ _ (@re_excF _ _ _ _ _ _ .BadText _ "word" C c_BadText (Room.mono hr (by decide)) (@re_nm _ _ _ 1 _ (by kernel_rfl) (by kernel_rfl)) (by rfl) (by kernel_rfl) (by kernel_rfl) (by rfl))) (by kernel_rfl) (by kernel_rfl) (by rfl)) (@rs_one _ _ _ _ (@r1_ret _ _ _ _ _ (@rk_e _ _ _ _ (@re_tup _ _ _ _ _ _ (@ra_cons _ _ _ _ _ _ (@re_nm _ _ _ 2 _ (by kernel_rfl) (by kernel_rfl)) (@ra_cons _ _ _ _ _ _ (@re_eq _ _ _ _ _ _ _ C (@re_xat _ _ _ _ _ .BadText "word" c_BadText (@re_nm _ _ _ 2 _ (by kernel_rfl) (by kernel_rfl)) (by rfl)) (@re_nm _ _ _ 1 _ (by kernel_rfl) (by kernel_rfl))) (@ra_nil _ _) (by rfl)) (by rfl)))))))))
theorem e_law_one (T : Txt mg) (c_BadSeen : ExcF P w K mg base .BadSeen "index") (c_BadText : ExcF P w K mg base .BadText "word") (D_law_below : Def P w K mg base "_law_below" 2 1 (p_law_below)) (D_law_pick : Def P w K mg base "_law_pick" 2 2 (p_law_pick)) {pr : Pr} (F : Fn K mg "_law_one" s_law_one ["_law_d"]) (hp : ∀ as Φ Ξ, pr as Φ Ξ → as.length = 1 ∧ t_law_one (slots as 3) (fun y _ => Ξ y) { nx := fun _ => Φ (.dat .none), rt := Φ }) : Def P w K mg base "_law_one" 1 3 pr := fn_rd F sc_law_one (@q_law_one P w K mg base T c_BadSeen c_BadText D_law_below D_law_pick) hp
theorem d_law_one (T : Txt mg) (c_BadSeen : ExcF P w K mg base .BadSeen "index") (c_BadText : ExcF P w K mg base .BadText "word") (D_law_below : Def P w K mg base "_law_below" 2 1 (p_law_below)) (D_law_pick : Def P w K mg base "_law_pick" 2 2 (p_law_pick)) (F : Fn K mg "_law_one" s_law_one ["_law_d"]) : Def P w K mg base "_law_one" 1 3 p_law_one := by
  refine e_law_one T c_BadSeen c_BadText D_law_below D_law_pick F fun as Φ Ξ h => ?_
  obtain ⟨rfl, q⟩ := h
  refine ⟨rfl, ?_⟩
  walk_at "zz"
  intro x hx
  have hg : goodD 8 x = true := by
    simp only [List.mem_cons, List.not_mem_nil, or_false] at hx
    rcases hx with rfl | rfl | rfl | rfl | rfl <;> decide +kernel
  simp only [List.mem_cons, List.not_mem_nil, or_false] at hx
  rcases hx with rfl | rfl | rfl | rfl | rfl
  all_goals
    walk_at "zz"
    intro r r0 r1
    walk_at "zz"
    · refine ⟨_, rfl, ?_⟩
      walk_at "zz"
      try (refine eqK_same hg ?_; walk_at "zz")
      exact q .BadSeen (some ("index", _)) (.inl rfl)
    · refine ⟨_, rfl, ?_⟩
      walk_at "zz"
      try (refine eqK_same hg ?_; walk_at "zz")
      exact q .BadText (some ("word", _)) (.inr rfl)
def p_law_classes : Pr := fun as Φ _ => ∃ k fs, as = [.dat (excD k fs)] ∧ (k ≠ Kd.PlaceError ∧ Go (Φ (.dat (.int 1))))
def yesD : PyData → Bool
  | .bool b => b
  | _ => false
def t_law_classes : DS := (sCons (sSet 1 (kE (eLst (aCons (eIsX .BadBlocks (eNm 0)) (aCons (eIsX .BadOrder (eNm 0)) (aCons (eIsX .BadPlace (eNm 0)) aNil)))))) (sCons (sSet 1 (kE (eOp oAdd (eNm 1) (eLst (aCons (eIsX .BadSeen (eNm 0)) (aCons (eIsX .BadSize (eNm 0)) (aCons (eIsX .BadText (eNm 0)) aNil))))))) (sCons (sSet 1 (kE (eOp oAdd (eNm 1) (eLst (aCons (eIsX .BadThings (eNm 0)) (aCons (eIsX .BadTurns (eNm 0)) (aCons (eIsX .TooGreat (eNm 0)) aNil))))))) (sRet (kE (eB bLen (aCons (eK (kLc [2] (iSq (eOp oAdd (eNm 1) (eLst (aCons (eIsX .Unlike (eNm 0)) aNil)))) (gNm 2) (tV (eNm 2)) (eNm 2))) aNil)))))))
theorem q_law_classes (T : Txt mg) (IX : IsX K mg) (f : Addr) (cdv : Value) (A : Around) (outer : List Env) (s : Shared) (H : Hp) (E : XK) (hr : Room 0 (A.deeper (PyProof.Rows.envOfC "_law_classes" (defScope s_law_classes) s.heap.objs.size f cdv))) (C : Cxt (cxOf (L2.CX P w) P w K mg base n_law_classes "_law_classes" (defScope s_law_classes) f cdv A outer s H E) (wDef E)) : RS (cxOf (L2.CX P w) P w K mg base n_law_classes "_law_classes" (defScope s_law_classes) f cdv A outer s H E) (wDef E) (defBody s_law_classes) t_law_classes :=
  (@rs_cons _ _ _ _ _ _ (@r1_set _ _ _ _ _ _ 1 _ C.nd (@rk_e _ _ _ _ (@re_lst _ _ _ _ _ (@ra_cons _ _ _ _ _ _ (@re_isX _ _ _ _ _ _ _ .BadBlocks _ IX T.isinstance (@re_nm _ _ _ 0 _ (by kernel_rfl) (by kernel_rfl)) (by rfl) (by kernel_rfl) (by kernel_rfl) (by kernel_rfl) (by rfl)) (@ra_cons _ _ _ _ _ _ (@re_isX _ _ _ _ _ _ _ .BadOrder _ IX T.isinstance (@re_nm _ _ _ 0 _ (by kernel_rfl) (by kernel_rfl)) (by rfl) (by kernel_rfl) (by kernel_rfl) (by kernel_rfl) (by rfl)) (@ra_cons _ _ _ _ _ _ (@re_isX _ _ _ _ _ _ _ .BadPlace _ IX T.isinstance (@re_nm _ _ _ 0 _ (by kernel_rfl) (by kernel_rfl)) (by rfl) (by kernel_rfl) (by kernel_rfl) (by kernel_rfl) (by rfl)) (@ra_nil _ _) (by rfl)) (by rfl)) (by rfl)))) (by kernel_rfl) (by kernel_rfl) (by rfl)) (@rs_cons _ _ _ _ _ _ (@r1_set _ _ _ _ _ _ 1 _ C.nd (@rk_e _ _ _ _ (@re_add _ _ _ _ _ _ _ (@re_nm _ _ _ 1 _ (by kernel_rfl) (by kernel_rfl)) (@re_lst _ _ _ _ _ (@ra_cons _ _ _ _ _ _ (@re_isX _ _ _ _ _ _ _ .BadSeen _ IX T.isinstance (@re_nm _ _ _ 0 _ (by kernel_rfl) (by kernel_rfl)) (by rfl) (by kernel_rfl) (by kernel_rfl) (by kernel_rfl) (by rfl)) (@ra_cons _ _ _ _ _ _ (@re_isX _ _ _ _ _ _ _ .BadSize _ IX T.isinstance (@re_nm _ _ _ 0 _ (by kernel_rfl) (by kernel_rfl)) (by rfl) (by kernel_rfl) (by kernel_rfl) (by kernel_rfl) (by rfl)) (@ra_cons _ _ _ _ _ _ (@re_isX _ _ _ _ _ _ _ .BadText _ IX T.isinstance (@re_nm _ _ _ 0 _ (by kernel_rfl) (by kernel_rfl)) (by rfl) (by kernel_rfl) (by kernel_rfl) (by kernel_rfl) (by rfl)) (@ra_nil _ _) (by rfl)) (by rfl)) (by rfl))))) (by kernel_rfl) (by kernel_rfl) (by rfl)) (@rs_cons _ _ _ _ _ _ (@r1_set _ _ _ _ _ _ 1 _ C.nd (@rk_e _ _ _ _ (@re_add _ _ _ _ _ _ _ (@re_nm _ _ _ 1 _ (by kernel_rfl) (by kernel_rfl)) (@re_lst _ _ _ _ _ (@ra_cons _ _ _ _ _ _ (@re_isX _ _ _ _ _ _ _ .BadThings _ IX T.isinstance (@re_nm _ _ _ 0 _ (by kernel_rfl) (by kernel_rfl)) (by rfl) (by kernel_rfl) (by kernel_rfl) (by kernel_rfl) (by rfl)) (@ra_cons _ _ _ _ _ _ (@re_isX _ _ _ _ _ _ _ .BadTurns _ IX T.isinstance (@re_nm _ _ _ 0 _ (by kernel_rfl) (by kernel_rfl)) (by rfl) (by kernel_rfl) (by kernel_rfl) (by kernel_rfl) (by rfl)) (@ra_cons _ _ _ _ _ _ (@re_isX _ _ _ _ _ _ _ .TooGreat _ IX T.isinstance (@re_nm _ _ _ 0 _ (by kernel_rfl) (by kernel_rfl)) (by rfl) (by kernel_rfl) (by kernel_rfl) (by kernel_rfl) (by rfl)) (@ra_nil _ _) (by rfl)) (by rfl)) (by rfl))))) (by kernel_rfl) (by kernel_rfl) (by rfl)) (@rs_one _ _ _ _ (@r1_ret _ _ _ _ _ (@rk_e _ _ _ _ (@re_len _ _ _ _ _ _ T.len (@ra_cons _ _ _ _ _ _ (@re_k _ _ _ _ (rk_lc (own := [("_law_one_here", 2)]) C (blkOk_by (by kernel_rfl)) (@ri_seq _ _ _ _ _ (@re_add _ _ _ _ _ _ _ (@re_nm _ _ _ 1 _ (by kernel_rfl) (by kernel_rfl)) (@re_lst _ _ _ _ _ (@ra_cons _ _ _ _ _ _ (@re_isX _ _ _ _ _ _ _ .Unlike _ IX T.isinstance (@re_nm _ _ _ 0 _ (by kernel_rfl) (by kernel_rfl)) (by rfl) (by kernel_rfl) (by kernel_rfl) (by kernel_rfl) (by rfl)) (@ra_nil _ _) (by rfl))))) (fun s H cc cl fp Cb => (@rg_nm _ _ _ 2 _ Cb.nd (by decide) (by kernel_rfl) (by kernel_rfl))) (fun s H cc cl fp Cb => (@rts_one _ _ _ (@rt_val _ _ _ _ (@re_nm _ _ _ 2 _ (by kernel_rfl) (by kernel_rfl)) (by intro _; rfl)))) (fun s H cc cl fp Cb => (@re_nm _ _ _ 2 _ (by kernel_rfl) (by kernel_rfl))))) (@ra_nil _ _) (by rfl)) (by kernel_rfl) (by rfl))))))))
theorem e_law_classes (T : Txt mg) (IX : IsX K mg) {pr : Pr} (F : Fn K mg "_law_classes" s_law_classes ["_law_error"]) (hp : ∀ as Φ Ξ, pr as Φ Ξ → as.length = 1 ∧ t_law_classes (slots as 3) (fun y _ => Ξ y) { nx := fun _ => Φ (.dat .none), rt := Φ }) : Def P w K mg base "_law_classes" 1 1 pr := fn_rd F sc_law_classes (@q_law_classes P w K mg base T IX) hp
theorem d_law_classes (T : Txt mg) (IX : IsX K mg) (F : Fn K mg "_law_classes" s_law_classes ["_law_error"]) : Def P w K mg base "_law_classes" 1 1 p_law_classes := by
  refine e_law_classes T IX F fun as Φ Ξ h => ?_
  obtain ⟨k, fs, rfl, hk, q⟩ := h
  refine ⟨rfl, ?_⟩
  cases k
  · exact absurd rfl hk
  all_goals
    walk_at "zz"
    repeat (refine ⟨_, fs, rfl, ?_⟩; walk_at "zz")
    refine .inr (.inl ⟨fun d => d, yesD, Nat.le_of_ble_eq_true rfl, fun d hd => ?_, ?_⟩)
    · have hb : ∃ b, d = .bool b := by
        simp only [List.mem_append, List.mem_cons, List.not_mem_nil, or_false, or_assoc] at hd
        rcases hd with rfl | rfl | rfl | rfl | rfl | rfl | rfl | rfl | rfl | rfl <;> exact ⟨_, rfl⟩
      obtain ⟨b, rfl⟩ := hb
      cases b <;> walk_at "zz"
      · rfl
      · exact ⟨rfl, rfl⟩
    · walk_at "zz"
      exact q
theorem drw_ints4 {a b : Int} {ms : List Int} (h0 : 0 ≤ a) (h1 : 0 ≤ b) (h2 : ∀ m ∈ ms, 0 ≤ m) : drwOk ((a :: b :: ms).map .int) = true := by
  show (decide (0 ≤ a) && (decide (0 ≤ b) && _)) = true
  rw [decide_eq_true h0, decide_eq_true h1, Bool.true_and, Bool.true_and]
  induction ms with
  | nil => rfl
  | cons m ms ih =>
    rw [List.map_cons, List.all_cons, ih fun m hm => h2 m (List.mem_cons_of_mem _ hm), Bool.and_true]
    exact decide_eq_true (h2 m List.mem_cons_self)
def p_law : Pr := fun as Φ _ => ∃ ns : List Int, as = [.scr ns] ∧ (ns.length ≤ 63 ∧ Go (Φ (.dat (.bool true))))
def t_law : DS := (sCons (sSet 1 (kCall (p_law_random) (aScr 0 (aCons (eC (.int 2514)) aNil)))) (sDrw 1 (sCons (sFor (iRange1 (eC (.int 4))) (gNm 2) (sCons (sUnp (eK (kCall (p_law_one) (aDrw 1 aNil))) [(xNm 3), (xNm 4)]) (sCons (sIf (tOr (tNot (tV (eNm 4))) (tOr (tV (eOp oNe (eK (kCall (p_law_classes) (aCons (eNm 3) aNil))) (eC (.int 1)))) (tNot (tV (eIsX .PlaceError (eNm 3)))))) (sRet (kE (eC (.bool false)))) sNil) (sIf (tNot (tV (eIsV (eNm 3)))) (sRet (kE (eC (.bool false)))) sNil)))) (sCons (sSet 5 (kE (eLst (aCons (eX0 .BadOrder) (aCons (eX0 .BadPlace) (aCons (eX0 .BadTurns) (aCons (eX0 .TooGreat) (aCons (eX0 .BadSize) (aCons (eX0 .BadBlocks) (aCons (eX0 .BadThings) (aCons (eX0 .Unlike) aNil))))))))))) (sRet (kE (eOp oEq (eK (kLc [6] (iSq (eNm 5)) (gNm 6) (tOr (tV (eOp oNe (eK (kCall (p_law_classes) (aCons (eNm 6) aNil))) (eC (.int 1)))) (tNot (tV (eIsX .PlaceError (eNm 6))))) (eNm 6))) (eLst aNil))))))))
theorem q_law (T : Txt mg) (c_BadBlocks : ExcK K mg .BadBlocks) (c_BadOrder : ExcK K mg .BadOrder) (c_BadPlace : ExcK K mg .BadPlace) (c_BadSize : ExcK K mg .BadSize) (c_BadThings : ExcK K mg .BadThings) (c_BadTurns : ExcK K mg .BadTurns) (c_TooGreat : ExcK K mg .TooGreat) (c_Unlike : ExcK K mg .Unlike) (IX : IsX K mg) (VE : mg "ValueError" = none) (D_law_random : Def P w K mg base "_law_random" 2 1 (p_law_random)) (D_law_one : Def P w K mg base "_law_one" 1 3 (p_law_one)) (D_law_classes : Def P w K mg base "_law_classes" 1 1 (p_law_classes)) (f : Addr) (cdv : Value) (A : Around) (outer : List Env) (s : Shared) (H : Hp) (E : XK) (hr : Room 3 (A.deeper (PyProof.Rows.envOfC "law" (defScope s_law) s.heap.objs.size f cdv))) (C : Cxt (cxOf (L2.CX P w) P w K mg base n_law "law" (defScope s_law) f cdv A outer s H E) (wDef E)) : RS (cxOf (L2.CX P w) P w K mg base n_law "law" (defScope s_law) f cdv A outer s H E) (wDef E) (defBody s_law) t_law :=
  (@rs_cons _ _ _ _ _ _ (@r1_set _ _ _ _ _ _ 1 _ C.nd (@rk_call _ _ _ _ _ _ _ _ _ _ _ D_law_random C (Room.mono hr (by decide)) (@ra_scr _ _ _ _ _ 0 _ (@ra_cons _ _ _ _ _ _ (@re_int _ _ _ _ _) (@ra_nil _ _) (by rfl)) (by kernel_rfl) (by kernel_rfl)) (by kernel_rfl) (by kernel_rfl) (by rfl) (by rfl)) (by kernel_rfl) (by kernel_rfl) (by rfl)) (@rs_drw _ _ _ _ 1 (@rs_cons _ _ _ _ _ _ (@r1_for _ _ _ _ _ _ _ _ _ C (@ri_range1 _ _ _ _ _ _ _ T.range (@re_int _ _ _ _ _) (by kernel_rfl) (by rfl)) (@rg_nm _ _ _ 2 _ C.nd trivial (by kernel_rfl) (by kernel_rfl)) (@rs_cons _ _ _ _ _ _ (@r1_unp _ _ _ _ _ _ _ _ _ C (@re_k _ _ _ _ (@rk_call _ _ _ _ _ _ _ _ _ _ _ D_law_one C (Room.mono hr (by decide)) (@ra_drw _ _ _ _ _ 1 _ (@ra_nil _ _) (by kernel_rfl) (by kernel_rfl)) (by kernel_rfl) (by kernel_rfl) (by rfl) (by rfl))) (@rxs_cons _ _ _ _ _ _ (@rx_nm _ _ _ 3 _ C.nd (by kernel_rfl) (by kernel_rfl)) (@rxs_cons _ _ _ _ _ _ (@rx_nm _ _ _ 4 _ C.nd (by kernel_rfl) (by kernel_rfl)) (@rxs_nil _ _) (by rfl)) (by rfl)) (by rfl) (by rfl) (by rfl) (by rfl) (by rfl)) (@rs_cons _ _ _ _ _ _ (@r1_if _ _ _ _ _ _ _ _ _ (@rt_w _ _ _ _ (@rw_or _ _ _ _ _ _ _ _ (@rt_not _ _ _ _ _ (@rt_val _ _ _ _ (@re_nm _ _ _ 4 _ (by kernel_rfl) (by kernel_rfl)) (by intro _; rfl))) (@rw_or _ _ _ _ _ _ _ _ (@rt_ne _ _ _ _ _ _ _ C (@re_k _ _ _ _ (@rk_call _ _ _ _ _ _ _ _ _ _ _ D_law_classes C (Room.mono hr (by decide)) (@ra_cons _ _ _ _ _ _ (@re_nm _ _ _ 3 _ (by kernel_rfl) (by kernel_rfl)) (@ra_nil _ _) (by rfl)) (by kernel_rfl) (by kernel_rfl) (by rfl) (by rfl))) (@re_int _ _ _ _ _)) (@rw_or1 _ _ _ _ _ (@rt_not _ _ _ _ _ (@rt_val _ _ _ _ (@re_isX _ _ _ _ _ _ _ .PlaceError _ IX T.isinstance (@re_nm _ _ _ 3 _ (by kernel_rfl) (by kernel_rfl)) (by rfl) (by kernel_rfl) (by kernel_rfl) (by kernel_rfl) (by rfl)) (by intro _; rfl))))))) (@rs_one _ _ _ _ (@r1_ret _ _ _ _ _ (@rk_e _ _ _ _ (@re_bl _ _ _ _ _)))) (@rs_nil _ _)) (@rs_one _ _ _ _ (@r1_if _ _ _ _ _ _ _ _ _ (@rt_not _ _ _ _ _ (@rt_val _ _ _ _ (@re_isV _ _ _ _ _ _ _ IX T.isinstance VE (@re_nm _ _ _ 3 _ (by kernel_rfl) (by kernel_rfl)) (by kernel_rfl) (by kernel_rfl) (by rfl)) (by intro _; rfl))) (@rs_one _ _ _ _ (@r1_ret _ _ _ _ _ (@rk_e _ _ _ _ (@re_bl _ _ _ _ _)))) (@rs_nil _ _))))) (by intro _; rfl)) (@rs_cons _ _ _ _ _ _ (@r1_set _ _ _ _ _ _ 5 _ C.nd (@rk_e _ _ _ _ (@re_lst _ _ _ _ _ (@ra_cons _ _ _ _ _ _ (@re_exc0 _ _ _ _ .BadOrder _ c_BadOrder.ex (by rfl) (by kernel_rfl) (by kernel_rfl)) (@ra_cons _ _ _ _ _ _ (@re_exc0 _ _ _ _ .BadPlace _ c_BadPlace.ex (by rfl) (by kernel_rfl) (by kernel_rfl)) (@ra_cons _ _ _ _ _ _ (@re_exc0 _ _ _ _ .BadTurns _ c_BadTurns.ex (by rfl) (by kernel_rfl) (by kernel_rfl)) (@ra_cons _ _ _ _ _ _ (@re_exc0 _ _ _ _ .TooGreat _ c_TooGreat.ex (by rfl) (by kernel_rfl) (by kernel_rfl)) (@ra_cons _ _ _ _ _ _ (@re_exc0 _ _ _ _ .BadSize _ c_BadSize.ex (by rfl) (by kernel_rfl) (by kernel_rfl)) (@ra_cons _ _ _ _ _ _ (@re_exc0 _ _ _ _ .BadBlocks _ c_BadBlocks.ex (by rfl) (by kernel_rfl) (by kernel_rfl)) (@ra_cons _ _ _ _ _ _ (@re_exc0 _ _ _ _ .BadThings _ c_BadThings.ex (by rfl) (by kernel_rfl) (by kernel_rfl)) (@ra_cons _ _ _ _ _ _ (@re_exc0 _ _ _ _ .Unlike _ c_Unlike.ex (by rfl) (by kernel_rfl) (by kernel_rfl)) (@ra_nil _ _) (by rfl)) (by rfl)) (by rfl)) (by rfl)) (by rfl)) (by rfl)) (by rfl)) (by rfl)))) (by kernel_rfl) (by kernel_rfl) (by rfl)) (@rs_one _ _ _ _ (@r1_ret _ _ _ _ _ (@rk_e _ _ _ _ (@re_eq _ _ _ _ _ _ _ C (@re_k _ _ _ _ (rk_lc (own := [("_law_one_here", 6)]) C (blkOk_by (by kernel_rfl)) (@ri_seq _ _ _ _ _ (@re_nm _ _ _ 5 _ (by kernel_rfl) (by kernel_rfl))) (fun s H cc cl fp Cb => (@rg_nm _ _ _ 6 _ Cb.nd (by decide) (by kernel_rfl) (by kernel_rfl))) (fun s H cc cl fp Cb => (@rts_one _ _ _ (@rt_w _ _ _ _ (@rw_or _ _ _ _ _ _ _ _ (@rt_ne _ _ _ _ _ _ _ Cb (@re_k _ _ _ _ (@rk_call _ _ _ _ _ _ _ _ _ _ _ D_law_classes Cb (Room.mono hr (by decide)) (@ra_cons _ _ _ _ _ _ (@re_nm _ _ _ 6 _ (by kernel_rfl) (by kernel_rfl)) (@ra_nil _ _) (by rfl)) (by kernel_rfl) (by kernel_rfl) (by rfl) (by rfl))) (@re_int _ _ _ _ _)) (@rw_or1 _ _ _ _ _ (@rt_not _ _ _ _ _ (@rt_val _ _ _ _ (@re_isX _ _ _ _ _ _ _ .PlaceError _ IX T.isinstance (@re_nm _ _ _ 6 _ (by kernel_rfl) (by kernel_rfl)) (by rfl) (by kernel_rfl) (by kernel_rfl) (by kernel_rfl) (by rfl)) (by intro _; rfl)))))))) (fun s H cc cl fp Cb => (@re_nm _ _ _ 6 _ (by kernel_rfl) (by kernel_rfl))))) (@re_lst _ _ _ _ _ (@ra_nil _ _))))))))))
theorem e_law (T : Txt mg) (c_BadBlocks : ExcK K mg .BadBlocks) (c_BadOrder : ExcK K mg .BadOrder) (c_BadPlace : ExcK K mg .BadPlace) (c_BadSize : ExcK K mg .BadSize) (c_BadThings : ExcK K mg .BadThings) (c_BadTurns : ExcK K mg .BadTurns) (c_TooGreat : ExcK K mg .TooGreat) (c_Unlike : ExcK K mg .Unlike) (IX : IsX K mg) (VE : mg "ValueError" = none) (D_law_random : Def P w K mg base "_law_random" 2 1 (p_law_random)) (D_law_one : Def P w K mg base "_law_one" 1 3 (p_law_one)) (D_law_classes : Def P w K mg base "_law_classes" 1 1 (p_law_classes)) {pr : Pr} {f : Addr} {fd : FuncData} (F : Fun K "law" "law" s_law f fd) (hp : ∀ as Φ Ξ, pr as Φ Ξ → as.length = 1 ∧ t_law (slots as 7) (fun y _ => Ξ y) { nx := fun _ => Φ (.dat .none), rt := Φ }) : FnOk P w K mg base (L2.CX P w) 4 f fd ["_law_script"] (spd K pr) := fn_rdL F sc_law (@q_law P w K mg base T c_BadBlocks c_BadOrder c_BadPlace c_BadSize c_BadThings c_BadTurns c_TooGreat c_Unlike IX VE D_law_random D_law_one D_law_classes) hp
theorem d_law (T : Txt mg) (c_BadBlocks : ExcK K mg .BadBlocks) (c_BadOrder : ExcK K mg .BadOrder) (c_BadPlace : ExcK K mg .BadPlace) (c_BadSize : ExcK K mg .BadSize) (c_BadThings : ExcK K mg .BadThings) (c_BadTurns : ExcK K mg .BadTurns) (c_TooGreat : ExcK K mg .TooGreat) (c_Unlike : ExcK K mg .Unlike) (IX : IsX K mg) (VE : mg "ValueError" = none) (D_law_random : Def P w K mg base "_law_random" 2 1 (p_law_random)) (D_law_one : Def P w K mg base "_law_one" 1 3 (p_law_one)) (D_law_classes : Def P w K mg base "_law_classes" 1 1 (p_law_classes)) {f : Addr} {fd : FuncData} (F : Fun K "law" "law" s_law f fd) : FnOk P w K mg base (L2.CX P w) 4 f fd ["_law_script"] (spd K p_law) := by
  refine e_law T c_BadBlocks c_BadOrder c_BadPlace c_BadSize c_BadThings c_BadTurns c_TooGreat c_Unlike IX VE D_law_random D_law_one D_law_classes F fun as Φ Ξ h => ?_
  obtain ⟨ns, rfl, hl, q⟩ := h
  refine ⟨rfl, ?_⟩
  walk_at "zz"
  intro a b ms h0 h1 h2
  walk_at "zz"
  refine ⟨⟨drw_ints4 h0 h1 h2, rfl⟩, ?_⟩
  walk_at "zz"
  refine ⟨fun i ρ => ∃ x2 x3 x4 : Sl, ρ = [.scr ns, .drw, x2, x3, x4, .unk, .unk], ⟨_, _, _, rfl⟩, ?_, ?_⟩
  · rintro i d ρ hd ⟨x2, x3, x4, rfl⟩
    walk_at "z"
    intro k fs hk
    walk_at "zz"
    refine ⟨by rcases hk with rfl | rfl <;> decide, ?_⟩
    walk_at "zz"
    refine ⟨k, fs, rfl, ?_⟩
    walk_at "zz"
    refine ⟨k, fs, rfl, ?_⟩
    walk_at "zz"
    exact ⟨_, _, _, rfl⟩
  · rintro ρ ⟨x2, x3, x4, rfl⟩
    walk_at "z"
    refine .inr (.inl ⟨fun d => d, fun _ => false, Nat.le_of_ble_eq_true rfl, fun d hd => ?_, ?_⟩)
    · have hb : ∃ k : Kd, k ≠ .PlaceError ∧ d = excD k none := by
        simp only [List.mem_cons, List.not_mem_nil, or_false] at hd
        rcases hd with rfl | rfl | rfl | rfl | rfl | rfl | rfl | rfl <;> exact ⟨_, by decide, rfl⟩
      obtain ⟨k, hk, rfl⟩ := hb
      walk_at "zz"
      refine ⟨k, none, rfl, ?_⟩
      walk_at "zz"
    · rw [show ∀ ds : List PyData, (ds.filter fun _ => false).map (fun d => d) = [] from fun ds => by simp]
      walk_at "zz"
      refine eqK_same rfl ?_
      walk_at "zz"
      exact q
end
def hfa : List He.Fa := [.glo "_law_random", .glo "_law_below", .glo "_law_pick", .glo "_law_one", .glo "_law_classes", .glo "law", .free "abs", .free "all", .free "any", .free "bool", .free "dict", .free "enumerate", .free "int", .free "isinstance", .free "len", .free "list", .free "max", .free "min", .free "range", .free "set", .free "sorted", .free "str", .free "sum", .free "tuple", .glo "BadBlocks", .exc "BadBlocks", .glo "BadOrder", .exc "BadOrder", .glo "BadPlace", .exc "BadPlace", .glo "BadSize", .exc "BadSize", .glo "BadThings", .exc "BadThings", .glo "BadTurns", .exc "BadTurns", .glo "TooGreat", .exc "TooGreat", .glo "Unlike", .exc "Unlike", .glo "BadSeen", .meth "BadSeen" "__init__", .glo "BadText", .meth "BadText" "__init__", .glo "PlaceError", .glo "BadOrder", .glo "BadPlace", .glo "BadTurns", .glo "TooGreat", .glo "BadSize", .glo "BadBlocks", .glo "BadSeen", .glo "BadThings", .glo "Unlike", .glo "BadText", .free "ValueError"]
def hex : PySem.W.Frag → Bool := fun K => (excFB K .BadSeen "index" && (excFB K .BadText "word" && (isXB K && true)))
def hfn : List He.DefD := [⟨("_law_random", none), "_law_random", "_law_random", defArgs s_law_random, defBody s_law_random, defScope s_law_random, [], []⟩, ⟨("_law_below", none), "_law_below", "_law_below", defArgs s_law_below, defBody s_law_below, defScope s_law_below, [], []⟩, ⟨("_law_pick", none), "_law_pick", "_law_pick", defArgs s_law_pick, defBody s_law_pick, defScope s_law_pick, [], []⟩, ⟨("_law_one", none), "_law_one", "_law_one", defArgs s_law_one, defBody s_law_one, defScope s_law_one, [], []⟩, ⟨("_law_classes", none), "_law_classes", "_law_classes", defArgs s_law_classes, defBody s_law_classes, defScope s_law_classes, [], []⟩, ⟨("law", none), "law", "law", defArgs s_law, defBody s_law, defScope s_law, [], []⟩, ⟨("BadSeen", some "__init__"), "__init__", "BadSeen.__init__", defArgs s_BadSeen_init, defBody s_BadSeen_init, defScope s_BadSeen_init, [], []⟩, ⟨("BadText", some "__init__"), "__init__", "BadText.__init__", defArgs s_BadText_init, defBody s_BadText_init, defScope s_BadText_init, [], []⟩]
abbrev hR : PySem.W.OpenRow := PySem.W.OpenLaw.row PySem.Challenge.rw_movedinplace_k14_errors_apart
abbrev hk : PySem.W.Hook := hookM 6 hfa hfn hex
def hob (s : PySem.W.SharedT) : He.AlD × Bool := obsM 6 hfa hfn hex (HandSHeadRun.getT s)
def hloose : List PySem.Str := (["PlaceError", "BadOrder", "BadPlace", "BadTurns", "TooGreat", "BadSize", "BadBlocks", "BadSeen", "BadThings", "Unlike", "BadText", "_law_random", "_law_below", "_law_pick", "_law_one", "_law_classes"] : List PySem.Str)
theorem hob_eq (s : PySem.W.SharedT) : hob s = hk.obs s.abs := obsM_eq (HandSHeadRun.getT_eq s)
theorem hrun (w : World) : HandSHeadRun.RunEq hR (PySem.W.view hR.prog [18]) hk hob 12000 hloose w := by
  intro os
  kernel_rfl
theorem hfacts {P : Program} {w : World} {K : PySem.W.Frag} {h : Heap} {mg : Str → Option Value} {f : Addr} (X : K.In h) (G : h.Ns mainGlobals mg) (hfa0 : mg ("law" : Str) = some (.ref f)) (c : He.SaysD hfa hfn K) (cx : hex K = true) :
    ∃ fd : FuncData, (∀ (s : Shared) (v : Value), BindsTo s fd ⟨[v], []⟩ [("_law_script", v)]) ∧ ∀ base : Heap, K.In base → base.Ns mainGlobals mg → FnOk P w K mg base L2.CX0 4 f fd ["_law_script"] (fun vs H Q _ => spd K p_law vs H Q fun _ _ _ => False) := by
  have fac : ∀ (i : Nat) {x : He.Fa}, hfa[i]? = some x → x.ok K = true := fun i {x} hx => c.fact i hx
  obtain ⟨fd_law_random, G_law_random⟩ := c.def_ 0 (d := ⟨("_law_random", none), "_law_random", "_law_random", defArgs s_law_random, defBody s_law_random, defScope s_law_random, [], []⟩) rfl
  have F_law_random : Fn K mg "_law_random" s_law_random ["_law_script", "_law_salt"] := fn_of_head G_law_random (He.glo_ok X G (fac 0 (x := .glo "_law_random") rfl)) fun _ _ _ _ _ _ us hl => match us, hl with | [_, _], _ => rfl
  obtain ⟨fd_law_below, G_law_below⟩ := c.def_ 1 (d := ⟨("_law_below", none), "_law_below", "_law_below", defArgs s_law_below, defBody s_law_below, defScope s_law_below, [], []⟩) rfl
  have F_law_below : Fn K mg "_law_below" s_law_below ["_law_d", "_law_size"] := fn_of_head G_law_below (He.glo_ok X G (fac 1 (x := .glo "_law_below") rfl)) fun _ _ _ _ _ _ us hl => match us, hl with | [_, _], _ => rfl
  obtain ⟨fd_law_pick, G_law_pick⟩ := c.def_ 2 (d := ⟨("_law_pick", none), "_law_pick", "_law_pick", defArgs s_law_pick, defBody s_law_pick, defScope s_law_pick, [], []⟩) rfl
  have F_law_pick : Fn K mg "_law_pick" s_law_pick ["_law_d", "_law_items"] := fn_of_head G_law_pick (He.glo_ok X G (fac 2 (x := .glo "_law_pick") rfl)) fun _ _ _ _ _ _ us hl => match us, hl with | [_, _], _ => rfl
  obtain ⟨fd_law_one, G_law_one⟩ := c.def_ 3 (d := ⟨("_law_one", none), "_law_one", "_law_one", defArgs s_law_one, defBody s_law_one, defScope s_law_one, [], []⟩) rfl
  have F_law_one : Fn K mg "_law_one" s_law_one ["_law_d"] := fn_of_head G_law_one (He.glo_ok X G (fac 3 (x := .glo "_law_one") rfl)) fun _ _ _ _ _ _ us hl => match us, hl with | [_], _ => rfl
  obtain ⟨fd_law_classes, G_law_classes⟩ := c.def_ 4 (d := ⟨("_law_classes", none), "_law_classes", "_law_classes", defArgs s_law_classes, defBody s_law_classes, defScope s_law_classes, [], []⟩) rfl
  have F_law_classes : Fn K mg "_law_classes" s_law_classes ["_law_error"] := fn_of_head G_law_classes (He.glo_ok X G (fac 4 (x := .glo "_law_classes") rfl)) fun _ _ _ _ _ _ us hl => match us, hl with | [_], _ => rfl
  obtain ⟨fd, F_law⟩ := c.def_ 5 (d := ⟨("law", none), "law", "law", defArgs s_law, defBody s_law, defScope s_law, [], []⟩) rfl
  have e := hfa0.symm.trans (He.glo_ok X G (fac 5 (x := .glo "law") rfl))
  cases e
  have b := FunD.bindsA (ps := ["_law_script"]) F_law fun _ _ _ _ _ _ us hl => match us, hl with | [_], _ => rfl
  have T : Txt mg := {abs := He.free_ok X G (fac 6 (x := .free "abs") rfl), all := He.free_ok X G (fac 7 (x := .free "all") rfl), any := He.free_ok X G (fac 8 (x := .free "any") rfl), bool := He.free_ok X G (fac 9 (x := .free "bool") rfl), dict := He.free_ok X G (fac 10 (x := .free "dict") rfl), enumerate := He.free_ok X G (fac 11 (x := .free "enumerate") rfl), int := He.free_ok X G (fac 12 (x := .free "int") rfl), isinstance := He.free_ok X G (fac 13 (x := .free "isinstance") rfl), len := He.free_ok X G (fac 14 (x := .free "len") rfl), list := He.free_ok X G (fac 15 (x := .free "list") rfl), max := He.free_ok X G (fac 16 (x := .free "max") rfl), min := He.free_ok X G (fac 17 (x := .free "min") rfl), range := He.free_ok X G (fac 18 (x := .free "range") rfl), set := He.free_ok X G (fac 19 (x := .free "set") rfl), sorted := He.free_ok X G (fac 20 (x := .free "sorted") rfl), str := He.free_ok X G (fac 21 (x := .free "str") rfl), sum := He.free_ok X G (fac 22 (x := .free "sum") rfl), tuple := He.free_ok X G (fac 23 (x := .free "tuple") rfl)}
  have c_BadBlocks : ExcK K mg .BadBlocks := excK_of X G (fac 24 rfl) (fac 25 rfl)
  have c_BadOrder : ExcK K mg .BadOrder := excK_of X G (fac 26 rfl) (fac 27 rfl)
  have c_BadPlace : ExcK K mg .BadPlace := excK_of X G (fac 28 rfl) (fac 29 rfl)
  have c_BadSize : ExcK K mg .BadSize := excK_of X G (fac 30 rfl) (fac 31 rfl)
  have c_BadThings : ExcK K mg .BadThings := excK_of X G (fac 32 rfl) (fac 33 rfl)
  have c_BadTurns : ExcK K mg .BadTurns := excK_of X G (fac 34 rfl) (fac 35 rfl)
  have c_TooGreat : ExcK K mg .TooGreat := excK_of X G (fac 36 rfl) (fac 37 rfl)
  have c_Unlike : ExcK K mg .Unlike := excK_of X G (fac 38 rfl) (fac 39 rfl)
  obtain ⟨fd_BadSeen, G_BadSeen⟩ := c.def_ 6 (d := ⟨("BadSeen", some "__init__"), "__init__", "BadSeen.__init__", defArgs s_BadSeen_init, defBody s_BadSeen_init, defScope s_BadSeen_init, [], []⟩) rfl
  have c_BadSeen : ∀ base : Heap, ExcF P w K mg base .BadSeen "index" := fun base => excF_of X G (fac 40 rfl) (fac 41 rfl) (ba2 cx).1 G_BadSeen sc_BadSeen_init rfl (by decide) (by decide) fun _ _ _ _ _ _ us hl => match us, hl with | [_, _], _ => rfl
  obtain ⟨fd_BadText, G_BadText⟩ := c.def_ 7 (d := ⟨("BadText", some "__init__"), "__init__", "BadText.__init__", defArgs s_BadText_init, defBody s_BadText_init, defScope s_BadText_init, [], []⟩) rfl
  have c_BadText : ∀ base : Heap, ExcF P w K mg base .BadText "word" := fun base => excF_of X G (fac 42 rfl) (fac 43 rfl) (ba2 (ba2 cx).2).1 G_BadText sc_BadText_init rfl (by decide) (by decide) fun _ _ _ _ _ _ us hl => match us, hl with | [_, _], _ => rfl
  have IX : IsX K mg := isX_of (ba2 (ba2 (ba2 cx).2).2).1 fun k => match k with
    | .PlaceError => He.glo_ok X G (fac 44 (x := .glo "PlaceError") rfl)
    | .BadOrder => He.glo_ok X G (fac 45 (x := .glo "BadOrder") rfl)
    | .BadPlace => He.glo_ok X G (fac 46 (x := .glo "BadPlace") rfl)
    | .BadTurns => He.glo_ok X G (fac 47 (x := .glo "BadTurns") rfl)
    | .TooGreat => He.glo_ok X G (fac 48 (x := .glo "TooGreat") rfl)
    | .BadSize => He.glo_ok X G (fac 49 (x := .glo "BadSize") rfl)
    | .BadBlocks => He.glo_ok X G (fac 50 (x := .glo "BadBlocks") rfl)
    | .BadSeen => He.glo_ok X G (fac 51 (x := .glo "BadSeen") rfl)
    | .BadThings => He.glo_ok X G (fac 52 (x := .glo "BadThings") rfl)
    | .Unlike => He.glo_ok X G (fac 53 (x := .glo "Unlike") rfl)
    | .BadText => He.glo_ok X G (fac 54 (x := .glo "BadText") rfl)
  have VE : mg "ValueError" = none := He.free_ok X G (fac 55 (x := .free "ValueError") rfl)
  refine ⟨fd, fun s v => b s [v] rfl, fun base _ _ => ?_⟩
  have c_BadSeen := c_BadSeen base
  have c_BadText := c_BadText base
  have D_law_random := d_law_random (P := P) (w := w) (base := base) T F_law_random
  have D_law_below := d_law_below (P := P) (w := w) (base := base) T F_law_below
  have D_law_pick := d_law_pick (P := P) (w := w) (base := base) T D_law_below F_law_pick
  have D_law_one := d_law_one (P := P) (w := w) (base := base) T c_BadSeen c_BadText D_law_below D_law_pick F_law_one
  have D_law_classes := d_law_classes (P := P) (w := w) (base := base) T IX F_law_classes
  exact fn_calm (d_law T c_BadBlocks c_BadOrder c_BadPlace c_BadSize c_BadThings c_BadTurns c_TooGreat c_Unlike IX VE D_law_random D_law_one D_law_classes (fun_of_head F_law))
end Mv
open PySem PySem.W PySem.Calls PyProof.Rows
theorem PySem.Challenge.cw_movedinplace_k14_errors_apart_holds : PySem.Challenge.rw_movedinplace_k14_errors_apart.Holds := by
  w_on; o_law
  refine HandSHeadRun.head_any (r := OpenLaw.row PySem.Challenge.rw_movedinplace_k14_errors_apart) (q := view (OpenLaw.row PySem.Challenge.rw_movedinplace_k14_errors_apart).prog [18]) (H := Mv.hk) (ob := Mv.hob) (M := 12000) (loose := Mv.hloose) (d := HandSHeadRun.topDef (OpenLaw.row PySem.Challenge.rw_movedinplace_k14_errors_apart).prog 18) (kwd := []) Mv.hob_eq
    (by kernel_rfl) (fun s => by kernel_rfl) Mv.hrun (by kernel_rfl) (by kernel_rfl) (by kernel_rfl) (by rfl) (by first | assumption | decide +kernel) (by decide +kernel) ⟨rfl, rfl, rfl, rfl, rfl, by decide +kernel⟩ ?hw ?hc
  case hw => w_witness2
  case hc =>
    refine L2.walk_ofE (l := PySem.Challenge.rw_movedinplace_k14_errors_apart) (n := 63) (k := 4) (x := "_law_script") (CX := L2.CX0) rfl (by decide) (by kernel_rfl) ⟨rfl, by decide, by decide⟩ ?F (fun _ _ _ _ z => z)
    case F =>
      intro w mg fa h Y G hmg0
      obtain ⟨K, KX, c, cx⟩ := Y
      have hmg : mg ("law" : PySem.Str) = some (.ref fa) := by
        have e : (HandSHeadRun.topDef (OpenLaw.row PySem.Challenge.rw_movedinplace_k14_errors_apart).prog 18).name = ("law" : PySem.Str) := by kernel_rfl
        rw [← e]
        exact hmg0
      obtain ⟨fd, hb, hF⟩ := Mv.hfacts (P := (PySem.Challenge.rw_movedinplace_k14_errors_apart).prog) (w := w) KX G hmg c cx
      exact ⟨K, fd, (fun vs H Q _ => Mv.spd K Mv.p_law vs H Q fun _ _ _ => False), KX, hb, fun H a ns hl _ hS => Mv.law_end hS Mv.p_law ⟨ns, rfl, hl, rfl⟩, hF⟩
