import PyProof.Rows.All
import Wide.All
import OpenK.AllK
import Wide.FinOn
import PyProof.EqAt
import PyProof.EqKinds
import PyProof.TupleCall
import HandS.Base
import HandS.Call
import HandS.List
import HandS.Comp
import HandS.Ends
import HandS.Dict
import HandS.Iter
import HandS.Text
import HandS.Exc
import HandS.TryOnly
import HandS.ExcOwn
import HandS.Words
import HandS.WordsList
import HandS.WordsDict
import HandS.WordsExc
import HandS.Defaults
import HandS.HeadHook1
import HandS.IsInst
import HandS.TupAny
import HandS.Deep
import HandS.Wide
import HandS.HeadEnd
import HandS.Head0
import HandS.Head1
import HandS.Head2
import HandS.HeadHook2
import HandS.Replace
import HandS.More
import HandS.ExcInit
import HandS.ExcField
import HandS.ExcIs
import KE.KExcIs
import KE.KIsAll
import HandS.SortOrd
import HandS.SortRule
import HandS.SortInts
import HandS.Conv
import HandS.ListItems
import HandS.DictTup
import HandS.Zip
import HandS.RevTup
import HandS.Rev
import HandS.RevRange
import HandS.TupSets
import HandS.SetFor
import PyProof.SliceList
import KE.IntTextLaws
import HandS.Codes
import PySem.Challenge.RW_claimwise_k03_kinds_refused
set_option Elab.async false
set_option linter.all false
set_option maxHeartbeats 4000000
set_option maxRecDepth 100000
/-! Value semantics over the hand layer: data, frozen heaps, owned lists and dicts; readings of expressions and statements as plain functions. -/
namespace DL
open PySem PySem.Spec PyProof.Rows L2

abbrev PD := PyData
/-- an exception: its class's name, its fields -/
structure Ec where
  cls : Str
  fs : List (Str × V)
/-- what a piece of code hands on -/
inductive R (α : Type) where
  | ok (a : α)
  | exc (c : Ec)
  | bad
def R.bind {α β : Type} : R α → (α → R β) → R β
  | .ok a, f => f a
  | .exc c, _ => .exc c
  | .bad, _ => .bad
theorem R.bind_ok {α β : Type} (a : α) (f : α → R β) : (R.ok a).bind f = f a := rfl
theorem R.bind_exc {α β : Type} (c : Ec) (f : α → R β) : (R.exc c).bind f = .exc c := rfl
theorem R.bind_bad {α β : Type} (f : α → R β) : (R.bad : R α).bind f = .bad := rfl

/-! ### heaps -/
/-- a tuple never changes: it may be frozen at any time -/
def tupO (o : HO) : Prop := ((∃ xs, o = .tup xs) ∨ ∃ xs, o = .xd xs) ∨ ∃ ob xs, o = .frz ob (.tup xs)
structure Ext (F H F' H' : Hp) : Prop where
  f : Same F F'
  g : Same F' H'
  h : Same H H'
  n : ∀ p, F' p ≠ none → F p ≠ none ∨ H p = none ∨ ∃ o, H p = some o ∧ tupO o
theorem Ext.refl {F H : Hp} (s : Same F H) : Ext F H F H := ⟨Same.refl F, s, Same.refl H, fun _ h => .inl h⟩
theorem Ext.trans {F H F1 H1 F2 H2 : Hp} (a : Ext F H F1 H1) (b : Ext F1 H1 F2 H2) : Ext F H F2 H2 := by
  refine ⟨a.f.trans b.f, b.g, a.h.trans b.h, fun p hp => ?_⟩
  rcases b.n p hp with q | q | ⟨o, q, t⟩
  · exact a.n p q
  · exact .inr (.inl (a.h.free q))
  · cases e : H p with
    | none => exact .inr (.inl rfl)
    | some u =>
      have := a.h p u e
      rw [q] at this
      cases this
      exact .inr (.inr ⟨_, rfl, t⟩)
theorem Ext.base {F0 H0 F H F' H' : Hp} (a : Ext F0 H0 F H) (b : Ext F H0 F' H') : Ext F0 H0 F' H' :=
  ⟨a.f.trans b.f, b.g, b.h, fun p hp => (b.n p hp).elim (fun q => a.n p q) .inr⟩
theorem Ext.keep {F H F' H' : Hp} (e : Ext F H F' H') {p : Addr} {o : HO} (hf : F p = none) (ho : H p = some o) (hn : ¬ tupO o) : F' p = none := by
  cases q : F' p with
  | none => rfl
  | some u =>
    rcases e.n p (by rw [q]; exact Option.some_ne_none u) with z | z | ⟨o', z, t⟩
    · exact absurd hf z
    · rw [ho] at z; cases z
    · rw [ho] at z; cases z; exact absurd t hn
theorem nt_lst {xs : List V} : ¬ tupO (.lst xs) := by
  rintro ((⟨_, h⟩ | ⟨_, h⟩) | ⟨_, _, h⟩) <;> cases h
theorem nt_dK {xs : List (Key × V)} : ¬ tupO (.dK xs) := by
  rintro ((⟨_, h⟩ | ⟨_, h⟩) | ⟨_, _, h⟩) <;> cases h
theorem nt_dT {xs : List (List Key × V)} : ¬ tupO (.dT xs) := by
  rintro ((⟨_, h⟩ | ⟨_, h⟩) | ⟨_, _, h⟩) <;> cases h
theorem nt_frzd {o : Obj} {xs : List (Key × V)} : ¬ tupO (.frz o (.dK xs)) := by
  rintro ((⟨_, h⟩ | ⟨_, h⟩) | ⟨_, _, h⟩) <;> cases h
/-- a new object, frozen -/
theorem Ext.new {F H : Hp} {p : Addr} {o : HO} (s : Same F H) (h : H p = none) : Ext F H (upd F p o) (upd H p o) := by
  have hf : F p = none := s.free h
  refine ⟨fun b u e => ?_, fun b u e => ?_, fun b u e => ?_, fun b e => ?_⟩
  · rw [upd_ne (ne_of_none e hf)]; exact e
  · by_cases hb : b = p
    · subst hb; rw [upd_same] at e ⊢; exact e
    · rw [upd_ne hb] at e ⊢; exact s b u e
  · rw [upd_ne (ne_of_none e h)]; exact e
  · by_cases hb : b = p
    · subst hb; exact .inr (.inl h)
    · rw [upd_ne hb] at e; exact .inl e
/-- a new object, not frozen -/
theorem Ext.own {F H : Hp} {p : Addr} {o : HO} (s : Same F H) (h : H p = none) : Ext F H F (upd H p o) := by
  have hf : F p = none := s.free h
  refine ⟨Same.refl F, fun b u e => ?_, fun b u e => ?_, fun b e => .inl e⟩
  · rw [upd_ne (ne_of_none e hf)]; exact s b u e
  · rw [upd_ne (ne_of_none e h)]; exact e
/-- only H grows -/
theorem Ext.heap {F H H' : Hp} (s : Same F H) (h : Same H H') : Ext F H F H' := ⟨Same.refl F, s.trans h, h, fun _ e => .inl e⟩
theorem seqL {K : PySem.W.Frag} {H H' : Hp} {a : Addr} {xs : List V} (e : Same H H') (h : SqL K H a xs) : SqL K H' a xs := e.seq h
theorem seqT {K : PySem.W.Frag} {H H' : Hp} {a : Addr} {xs : List V} (e : Same H H') (h : SqT K H a xs) : SqT K H' a xs := by
  rcases h with (h | ⟨o, h⟩) | h
  · exact .inl (.inl (e _ _ h))
  · exact .inl (.inr ⟨o, e _ _ h⟩)
  · exact .inr h
theorem rdM {H H' : Hp} {a : Addr} {u : HO} (e : Same H H') (h : Rd H a u) : Rd H' a u := by
  rcases h with h | ⟨o, h⟩
  · exact .inl (e _ _ h)
  · exact .inr ⟨o, e _ _ h⟩
/-- an error object, caught: its class, its fields' dict -/
def excO (cls : Value) (d : Option Addr) (a : Addr) : HO := .ext fun h => ∃ (oe : Obj) (vs : Array Value), h.get? a = some oe ∧ Zc cls d oe ∧ oe.data = .fields vs
theorem excO_ok {P : Program} {w : World} {H : Hp} {h : Heap} {a : Addr} {cls : Value} {d : Option Addr} {oe : Obj} {vs : Array Value} (e : h.get? a = some oe) (z : Zc cls d oe) (f : oe.data = .fields vs) : ObjOk P w H h a (excO cls d a) :=
  ⟨⟨oe, vs, e, z, f⟩, ⟨oe, e⟩, fun _ _ ⟨o, v, q, r⟩ k => ⟨o, v, k o q, r⟩⟩
/-- its fields, as data -/
def immV : V → Option PyData
  | .int i => some (.int i)
  | .str x => some (.str x)
  | .bl b => some (.bool b)
  | .non => some .none
  | _ => none
def immFs : List (Str × V) → Option (List (PyData × PyData))
  | [] => some []
  | (f, v) :: r => match immV v, immFs r with
    | some d, some l => some ((.str f, d) :: l)
    | _, _ => none
/-- .. as data: no dict that is frozen looks so -/
def encE (cls : Str) (gs : List (PyData × PyData)) : PyData := .dict ((.str cls, .none) :: gs)
/-! ### data in a heap: lists that the heap tracks (or that are known), tuples -/
mutual
inductive Dp (K : PySem.W.Frag) (F : Hp) : V → PyData → Prop
  | non : Dp K F .non .none
  | bl (b : Bool) : Dp K F (.bl b) (.bool b)
  | int (i : Int) : Dp K F (.int i) (.int i)
  | str (x : Str) : Dp K F (.str x) (.str x)
  | lst {a : Addr} {xs : List V} {ds : List PyData} : Rd F a (.lst xs) → DpAll K F xs ds → Dp K F (.ref a) (.list ds)
  | tup {a : Addr} {xs : List V} {ds : List PyData} : F a = some (.tup xs) → DpAll K F xs ds → Dp K F (.ref a) (.tuple ds)
  | exc {a : Addr} {cls : Str} {d : Option Addr} {fs : List (Str × V)} {gs : List (PyData × PyData)} : F a = some (excO (.ref (He.ga K cls)) d a) → ((d = none ∧ fs = []) ∨ ∃ dd, d = some dd ∧ F dd = some (.xd fs)) → immFs fs = some gs → Dp K F (.ref a) (encE cls gs)
inductive DpAll (K : PySem.W.Frag) (F : Hp) : List V → List PyData → Prop
  | nil : DpAll K F [] []
  | cons {v : V} {vs : List V} {d : PyData} {ds : List PyData} : Dp K F v d → DpAll K F vs ds → DpAll K F (v :: vs) (d :: ds)
end
mutual
theorem Dp.mono {K : PySem.W.Frag} {H H' : Hp} (e : Same H H') : ∀ {v : V} {d : PyData}, Dp K H v d → Dp K H' v d
  | _, _, .non => .non
  | _, _, .bl b => .bl b
  | _, _, .int i => .int i
  | _, _, .str x => .str x
  | _, _, .lst s a => .lst (rdM e s) (DpAll.mono e a)
  | _, _, .tup s a => .tup (e _ _ s) (DpAll.mono e a)
  | _, _, .exc s r g => .exc (e _ _ s) (r.imp id fun ⟨dd, h, k⟩ => ⟨dd, h, e _ _ k⟩) g
theorem DpAll.mono {K : PySem.W.Frag} {H H' : Hp} (e : Same H H') : ∀ {vs : List V} {ds : List PyData}, DpAll K H vs ds → DpAll K H' vs ds
  | _, _, .nil => .nil
  | _, _, .cons h t => .cons (Dp.mono e h) (DpAll.mono e t)
end
mutual
theorem Dp.l2 {K : PySem.W.Frag} {H : Hp} : ∀ {v : V} {d : PyData}, Dp K H v d → d.canLay0 = true → L2.Dp K H v d
  | _, _, .non, _ => .non
  | _, _, .bl b, _ => .bl b
  | _, _, .int i, _ => .int i
  | _, _, .str x, _ => .str x
  | _, _, .lst s a, c => .lst (.inl s) (DpAll.l2 a (by simpa [PyData.canLay0] using c))
  | _, _, .tup s a, c => .tup (SqT.of s) (DpAll.l2 a (by simpa [PyData.canLay0] using c))
  | _, _, .exc _ _ _, c => by simp [encE, PyData.canLay0] at c
theorem DpAll.l2 {K : PySem.W.Frag} {H : Hp} : ∀ {vs : List V} {ds : List PyData}, DpAll K H vs ds → PyData.canLayAll0 ds = true → L2.DpAll K H vs ds
  | _, _, .nil, _ => .nil
  | _, _, .cons (d := d) (ds := ds) h t, c => by
    have c' : d.canLay0 = true ∧ PyData.canLayAll0 ds = true := by simpa [PyData.canLayAll0] using c
    exact .cons (Dp.l2 h c'.1) (DpAll.l2 t c'.2)
end
section
variable {K : PySem.W.Frag} {F H : Hp}
theorem DpAll.length : ∀ {vs : List V} {ds : List PyData}, DpAll K H vs ds → vs.length = ds.length
  | _, _, .nil => rfl
  | _, _, .cons _ t => by rw [List.length_cons, List.length_cons, t.length]
theorem DpAll.append : ∀ {vs us : List V} {ds es : List PyData}, DpAll K H vs ds → DpAll K H us es → DpAll K H (vs ++ us) (ds ++ es)
  | _, _, _, _, .nil, u => u
  | _, _, _, _, .cons h t, u => .cons h (DpAll.append t u)
theorem DpAll.get : ∀ {vs : List V} {ds : List PyData} {i : Nat} {v : V}, DpAll K H vs ds → vs[i]? = some v → ∃ d, ds[i]? = some d ∧ Dp K H v d
  | _, _, _, _, .nil, e => by simp at e
  | _, _, 0, _, .cons h _, e => by simp at e; subst e; exact ⟨_, rfl, h⟩
  | _, _, i + 1, v, .cons _ t, e => by
    obtain ⟨d, h1, h2⟩ := DpAll.get (i := i) (v := v) t (by simpa using e)
    exact ⟨d, by simpa using h1, h2⟩
theorem DpAll.get' : ∀ {vs : List V} {ds : List PyData} {i : Nat} {d : PyData}, DpAll K H vs ds → ds[i]? = some d → ∃ v, vs[i]? = some v ∧ Dp K H v d
  | _, _, _, _, .nil, e => by simp at e
  | _, _, 0, _, .cons h _, e => by simp at e; subst e; exact ⟨_, rfl, h⟩
  | _, _, i + 1, d, .cons _ t, e => by
    obtain ⟨v, h1, h2⟩ := DpAll.get' (i := i) (d := d) t (by simpa using e)
    exact ⟨v, by simpa using h1, h2⟩
theorem DpAll.set : ∀ {vs : List V} {ds : List PyData} {v : V} {d : PyData} (i : Nat), DpAll K H vs ds → Dp K H v d → DpAll K H (vs.set i v) (ds.set i d)
  | _, _, _, _, _, .nil, _ => .nil
  | _, _, _, _, 0, .cons _ t, h => .cons h t
  | _, _, _, _, i + 1, .cons q t, h => .cons q (DpAll.set i t h)
theorem DpAll.take : ∀ {vs : List V} {ds : List PyData} (n : Nat), DpAll K H vs ds → DpAll K H (vs.take n) (ds.take n)
  | _, _, 0, _ => .nil
  | _, _, _ + 1, .nil => .nil
  | _, _, n + 1, .cons r t => .cons r (DpAll.take n t)
theorem DpAll.drop : ∀ {vs : List V} {ds : List PyData} (n : Nat), DpAll K H vs ds → DpAll K H (vs.drop n) (ds.drop n)
  | _, _, 0, r => r
  | _, _, _ + 1, .nil => .nil
  | _, _, n + 1, .cons _ t => DpAll.drop n t
theorem DpAll.ints : ∀ {ns : List Int}, DpAll K H (ns.map V.int) (ns.map PyData.int)
  | [] => .nil
  | _ :: _ => .cons (.int _) DpAll.ints
theorem DpAll.of_ints : ∀ {vs : List V} {ns : List Int}, DpAll K H vs (ns.map PyData.int) → vs = ns.map V.int
  | _, [], h => by cases h; rfl
  | _, n :: ns, h => by
    cases h with
    | cons a b => cases a; rw [DpAll.of_ints b]; rfl
theorem DpAll.of_strs : ∀ {vs : List V} {ns : List Str}, DpAll K H vs (ns.map PyData.str) → vs = ns.map V.str
  | _, [], h => by cases h; rfl
  | _, n :: ns, h => by
    cases h with
    | cons a b => cases a; rw [DpAll.of_strs b]; rfl
theorem DpAll.strs : ∀ {ns : List Str}, DpAll K H (ns.map V.str) (ns.map PyData.str)
  | [] => .nil
  | _ :: _ => .cons (.str _) DpAll.strs
theorem DpAll.of_bls : ∀ {vs : List V} {ns : List Bool}, DpAll K H vs (ns.map PyData.bool) → vs = ns.map V.bl
  | _, [], h => by cases h; rfl
  | _, n :: ns, h => by
    cases h with
    | cons a b => cases a; rw [DpAll.of_bls b]; rfl
end

/-! ### owned lists and dicts -/
def keyD : Key → PD
  | .inl i => .int i
  | .inr s => .str s
def keyT (ks : List Key) : PD := .tuple (ks.map keyD)
/-- entries of a dict -/
inductive KvR (K : PySem.W.Frag) (F : Hp) {κ : Type} (kd : κ → PD) : List (κ × V) → List (PD × PD) → Prop
  | nil : KvR K F kd [] []
  | cons {k : κ} {v : V} {d : PD} {es : List (κ × V)} {kvs : List (PD × PD)} : Dp K F v d → KvR K F kd es kvs → KvR K F kd ((k, v) :: es) ((kd k, d) :: kvs)
theorem KvR.mono {K : PySem.W.Frag} {F F' : Hp} {κ : Type} {kd : κ → PD} (e : Same F F') : ∀ {es : List (κ × V)} {kvs : List (PD × PD)}, KvR K F kd es kvs → KvR K F' kd es kvs
  | _, _, .nil => .nil
  | _, _, .cons h t => .cons (h.mono e) (t.mono e)
def DicAt (K : PySem.W.Frag) (F H : Hp) (p : Addr) (kvs : List (PD × PD)) : Prop :=
  ∃ es, H p = some (.dK es) ∧ KvR K F keyD es kvs
def OwnAt (K : PySem.W.Frag) (F H : Hp) (p : Addr) : PD → Prop
  | .list ds => ∃ vs, H p = some (.lst vs) ∧ DpAll K F vs ds
  | .dict kvs => DicAt K F H p kvs
  | _ => False
theorem OwnAt.mono {K : PySem.W.Frag} {F H F' H' : Hp} {p : Addr} {d : PD} (e : Same F F') (g : ∀ o, H p = some o → H' p = some o) (h : OwnAt K F H p d) : OwnAt K F' H' p d := by
  cases d with
  | list ds => obtain ⟨vs, a, b⟩ := h; exact ⟨vs, g _ a, b.mono e⟩
  | dict kvs =>
    obtain ⟨es, a, b⟩ := h
    exact ⟨es, g _ a, b.mono e⟩
  | _ => exact h.elim
theorem OwnAt.nt {K : PySem.W.Frag} {F H : Hp} {p : Addr} {d : PD} (h : OwnAt K F H p d) : ∃ o, H p = Option.some o ∧ ¬ tupO o := by
  cases d with
  | list ds => obtain ⟨vs, a, b⟩ := h; exact ⟨_, a, nt_lst⟩
  | dict kvs =>
    obtain ⟨es, a, b⟩ := h
    exact ⟨_, a, nt_dK⟩
  | _ => exact h.elim
theorem OwnAt.some {K : PySem.W.Frag} {F H : Hp} {p : Addr} {d : PD} (h : OwnAt K F H p d) : ∃ o, H p = some o := by
  cases d with
  | list ds => obtain ⟨vs, a, b⟩ := h; exact ⟨_, a⟩
  | dict kvs =>
    obtain ⟨es, a, b⟩ := h
    exact ⟨_, a⟩
  | _ => exact h.elim
/-- what may be read as data -/
def Rp (K : PySem.W.Frag) (F H : Hp) (v : V) (d : PD) : Prop := Dp K F v d ∨ ∃ p, v = .ref p ∧ OwnAt K F H p d
theorem Rp.ext {K : PySem.W.Frag} {F H F' H' : Hp} {v : V} {d : PD} (e : Same F F') (g : Same H H') : Rp K F H v d → Rp K F' H' v d
  | .inl h => .inl (h.mono e)
  | .inr ⟨p, a, h⟩ => .inr ⟨p, a, h.mono e fun o q => g p o q⟩
theorem Rp.dp {K : PySem.W.Frag} {F H : Hp} {v : V} {d : PD} (s : Same F H) (h : Rp K F H v d) (hd : ∀ kvs, d ≠ .dict kvs) : Dp K H v d := by
  rcases h with h | ⟨p, rfl, h⟩
  · exact h.mono s
  · cases d with
    | list ds => obtain ⟨vs, a, b⟩ := h; exact .lst (.inl a) (b.mono s)
    | dict kvs => exact absurd rfl (hd kvs)
    | _ => exact h.elim
/-- a list that may be read: its items are frozen -/
theorem Rp.list {K : PySem.W.Frag} {F H : Hp} {v : V} {ds : List PD} (s : Same F H) (h : Rp K F H v (.list ds)) : ∃ a vs, v = .ref a ∧ Rd H a (.lst vs) ∧ DpAll K F vs ds := by
  rcases h with h | ⟨p, rfl, vs, a, b⟩
  · cases h with
    | lst q r => exact ⟨_, _, rfl, rdM s q, r⟩
  · exact ⟨p, vs, rfl, .inl a, b⟩
theorem Rp.tuple {K : PySem.W.Frag} {F H : Hp} {v : V} {ds : List PD} (s : Same F H) (h : Rp K F H v (.tuple ds)) : ∃ a vs, v = .ref a ∧ SqT K H a vs ∧ DpAll K F vs ds := by
  rcases h with h | ⟨p, rfl, h⟩
  · cases h with
    | tup q r => exact ⟨_, _, rfl, SqT.of (s _ _ q), r⟩
  · exact h.elim
theorem Rp.int {K : PySem.W.Frag} {F H : Hp} {v : V} {i : Int} (h : Rp K F H v (.int i)) : v = .int i := by
  rcases h with h | ⟨p, rfl, h⟩
  · cases h; rfl
  · exact h.elim
theorem Rp.str {K : PySem.W.Frag} {F H : Hp} {v : V} {i : Str} (h : Rp K F H v (.str i)) : v = .str i := by
  rcases h with h | ⟨p, rfl, h⟩
  · cases h; rfl
  · exact h.elim
theorem Rp.bool {K : PySem.W.Frag} {F H : Hp} {v : V} {i : Bool} (h : Rp K F H v (.bool i)) : v = .bl i := by
  rcases h with h | ⟨p, rfl, h⟩
  · cases h; rfl
  · exact h.elim
theorem Rp.none {K : PySem.W.Frag} {F H : Hp} {v : V} (h : Rp K F H v .none) : v = .non := by
  rcases h with h | ⟨p, rfl, h⟩
  · cases h; rfl
  · exact h.elim
inductive RpAll (K : PySem.W.Frag) (F H : Hp) : List V → List PD → Prop
  | nil : RpAll K F H [] []
  | cons {v : V} {vs : List V} {d : PD} {ds : List PD} : Rp K F H v d → RpAll K F H vs ds → RpAll K F H (v :: vs) (d :: ds)
theorem RpAll.length {K : PySem.W.Frag} {F H : Hp} : ∀ {vs : List V} {ds : List PD}, RpAll K F H vs ds → vs.length = ds.length
  | _, _, .nil => rfl
  | _, _, .cons _ t => by rw [List.length_cons, List.length_cons, t.length]

/-! ### trees: what is one's own and may be changed -/
inductive Tv where
  | fr (d : PD)
  | own (x : PD)
  | dT (kvs : List (List Key × PD))
  | lst (ts : List Tv)
  | tup (ts : List Tv)
def KvT (K : PySem.W.Frag) (F : Hp) : List (List Key × V) → List (List Key × PD) → Prop := Paired fun p q => p.1 = q.1 ∧ Dp K F p.2 q.2
theorem KvT.mono {K : PySem.W.Frag} {F F' : Hp} (e : Same F F') {es : List (List Key × V)} {kvs : List (List Key × PD)} (h : KvT K F es kvs) : KvT K F' es kvs := by
  unfold KvT at h ⊢
  induction h with
  | nil => exact .nil
  | cons a _ ih => exact .cons ⟨a.1, a.2.mono e⟩ ih
mutual
inductive TvAt (K : PySem.W.Frag) (F H : Hp) : List Addr → V → Tv → Prop
  | fr {v : V} {d : PD} : Dp K F v d → TvAt K F H [] v (.fr d)
  | own {p : Addr} {x : PD} : OwnAt K F H p x → TvAt K F H [p] (.ref p) (.own x)
  | dT {p : Addr} {es : List (List Key × V)} {kvs : List (List Key × PD)} : H p = some (.dT es) → KvT K F es kvs → TvAt K F H [p] (.ref p) (.dT kvs)
  | lst {p : Addr} {vs : List V} {fp : List Addr} {ts : List Tv} : H p = some (.lst vs) → TvAll K F H fp vs ts → TvAt K F H (p :: fp) (.ref p) (.lst ts)
  | tup {p : Addr} {vs : List V} {fp : List Addr} {ts : List Tv} : H p = some (.tup vs) → TvAll K F H fp vs ts → TvAt K F H fp (.ref p) (.tup ts)
inductive TvAll (K : PySem.W.Frag) (F H : Hp) : List Addr → List V → List Tv → Prop
  | nil : TvAll K F H [] [] []
  | cons {fp fq : List Addr} {v : V} {t : Tv} {vs : List V} {ts : List Tv} : TvAt K F H fp v t → TvAll K F H fq vs ts → TvAll K F H (fp ++ fq) (v :: vs) (t :: ts)
end
/-- H' has what H has at the addresses fp, and its tuples -/
def KeepOn (fp : List Addr) (H H' : Hp) : Prop := ∀ p o, H p = some o → (p ∈ fp ∨ tupO o) → H' p = some o
theorem KeepOn.sub {fp fq : List Addr} {H H' : Hp} (h : KeepOn fp H H') (s : ∀ p ∈ fq, p ∈ fp) : KeepOn fq H H' := fun p o e c => h p o e (c.imp (s p) id)
theorem KeepOn.same {fp : List Addr} {H H' : Hp} (h : Same H H') : KeepOn fp H H' := fun p o e _ => h p o e
theorem KeepOn.tup {fp : List Addr} {H H' : Hp} (h : KeepOn fp H H') {p : Addr} {vs : List V} (s : H p = some (.tup vs)) : H' p = some (.tup vs) :=
  h _ _ s (.inr (.inl (.inl ⟨_, rfl⟩)))
theorem OwnAt.keep {K : PySem.W.Frag} {F H F' H' : Hp} {p : Addr} {d : PD} (e : Same F F') (g : KeepOn [p] H H') (h : OwnAt K F H p d) : OwnAt K F' H' p d := by
  cases d with
  | list ds => obtain ⟨vs, a, b⟩ := h; exact ⟨vs, g _ _ a (.inl (by simp)), b.mono e⟩
  | dict kvs => obtain ⟨es, a, b⟩ := h; exact ⟨es, g _ _ a (.inl (by simp)), b.mono e⟩
  | _ => exact h.elim
mutual
theorem TvAt.keep {K : PySem.W.Frag} {F H F' H' : Hp} (e : Same F F') : ∀ {fp : List Addr} {v : V} {t : Tv}, KeepOn fp H H' → TvAt K F H fp v t → TvAt K F' H' fp v t
  | _, _, _, _, .fr h => .fr (h.mono e)
  | _, _, _, g, .own h => .own (h.keep e g)
  | _, _, _, g, .dT h k => .dT (g _ _ h (.inl (by simp))) (k.mono e)
  | _, _, _, g, .lst h k => .lst (g _ _ h (.inl (by simp))) (TvAll.keep e (g.sub fun p hp => List.mem_cons_of_mem _ hp) k)
  | _, _, _, g, .tup h k => .tup (g.tup h) (TvAll.keep e g k)
theorem TvAll.keep {K : PySem.W.Frag} {F H F' H' : Hp} (e : Same F F') : ∀ {fp : List Addr} {vs : List V} {ts : List Tv}, KeepOn fp H H' → TvAll K F H fp vs ts → TvAll K F' H' fp vs ts
  | _, _, _, _, .nil => .nil
  | _, _, _, g, .cons h k => .cons (TvAt.keep e (g.sub fun p hp => List.mem_append_left _ hp) h) (TvAll.keep e (g.sub fun p hp => List.mem_append_right _ hp) k)
end
mutual
theorem TvAt.nt {K : PySem.W.Frag} {F H : Hp} : ∀ {fp : List Addr} {v : V} {t : Tv}, TvAt K F H fp v t → ∀ p ∈ fp, ∃ o, H p = some o ∧ ¬ tupO o
  | _, _, _, .fr _, p, hp => by cases hp
  | _, _, _, .own h, p, hp => by rw [List.mem_singleton.mp hp]; exact h.nt
  | _, _, _, .dT h _, p, hp => by rw [List.mem_singleton.mp hp]; exact ⟨_, h, nt_dT⟩
  | _, _, _, .lst h k, p, hp => by
    rcases List.mem_cons.mp hp with e | e
    · rw [e]; exact ⟨_, h, nt_lst⟩
    · exact TvAll.nt k p e
  | _, _, _, .tup _ k, p, hp => TvAll.nt k p hp
theorem TvAll.nt {K : PySem.W.Frag} {F H : Hp} : ∀ {fp : List Addr} {vs : List V} {ts : List Tv}, TvAll K F H fp vs ts → ∀ p ∈ fp, ∃ o, H p = some o ∧ ¬ tupO o
  | _, _, _, .nil, p, hp => by cases hp
  | _, _, _, .cons h k, p, hp => by
    rcases List.mem_append.mp hp with e | e
    · exact TvAt.nt h p e
    · exact TvAll.nt k p e
end
section
variable {K : PySem.W.Frag} {F F' : Hp} (e : ∀ (v : V) (d : PD), Dp K F v d → Dp K F' v d)
include e
theorem DpAll.map : ∀ {vs : List V} {ds : List PD}, DpAll K F vs ds → DpAll K F' vs ds
  | _, _, .nil => .nil
  | _, _, .cons h t => .cons (e _ _ h) (DpAll.map t)
theorem KvR.map {κ : Type} {kd : κ → PD} : ∀ {es : List (κ × V)} {kvs : List (PD × PD)}, KvR K F kd es kvs → KvR K F' kd es kvs
  | _, _, .nil => .nil
  | _, _, .cons h t => .cons (e _ _ h) (KvR.map t)
theorem KvT.map {es : List (List Key × V)} {kvs : List (List Key × PD)} (h : KvT K F es kvs) : KvT K F' es kvs := by
  unfold KvT at h ⊢
  induction h with
  | nil => exact .nil
  | cons a _ ih => exact .cons ⟨a.1, e _ _ a.2⟩ ih
theorem OwnAt.map {H H' : Hp} {p : Addr} {d : PD} (g : KeepOn [p] H H') (h : OwnAt K F H p d) : OwnAt K F' H' p d := by
  cases d with
  | list ds => obtain ⟨vs, a, b⟩ := h; exact ⟨vs, g _ _ a (.inl (by simp)), b.map e⟩
  | dict kvs => obtain ⟨es, a, b⟩ := h; exact ⟨es, g _ _ a (.inl (by simp)), b.map e⟩
  | _ => exact h.elim
mutual
theorem TvAt.map {H H' : Hp} : ∀ {fp : List Addr} {v : V} {t : Tv}, KeepOn fp H H' → TvAt K F H fp v t → TvAt K F' H' fp v t
  | _, _, _, _, .fr h => .fr (e _ _ h)
  | _, _, _, g, .own h => .own (h.map e g)
  | _, _, _, g, .dT h k => .dT (g _ _ h (.inl (by simp))) (k.map e)
  | _, _, _, g, .lst h k => .lst (g _ _ h (.inl (by simp))) (TvAll.map (g.sub fun p hp => List.mem_cons_of_mem _ hp) k)
  | _, _, _, g, .tup h k => .tup (g.tup h) (TvAll.map g k)
theorem TvAll.map {H H' : Hp} : ∀ {fp : List Addr} {vs : List V} {ts : List Tv}, KeepOn fp H H' → TvAll K F H fp vs ts → TvAll K F' H' fp vs ts
  | _, _, _, _, .nil => .nil
  | _, _, _, g, .cons h k => .cons (TvAt.map (g.sub fun p hp => List.mem_append_left _ hp) h) (TvAll.map (g.sub fun p hp => List.mem_append_right _ hp) k)
end
end
theorem TvAll.length {K : PySem.W.Frag} {F H : Hp} : ∀ {fp : List Addr} {vs : List V} {ts : List Tv}, TvAll K F H fp vs ts → vs.length = ts.length
  | _, _, _, .nil => rfl
  | _, _, _, .cons _ k => by rw [List.length_cons, List.length_cons, k.length]
mutual
/-- a tree as data, if it has no dicts -/
def Tv.toD : Tv → R PD
  | .fr d => .ok d
  | .own (.list l) => .ok (.list l)
  | .own _ => .bad
  | .dT _ => .bad
  | .lst ts => (Tv.toDs ts).bind fun l => .ok (.list l)
  | .tup ts => (Tv.toDs ts).bind fun l => .ok (.tuple l)
def Tv.toDs : List Tv → R (List PD)
  | [] => .ok []
  | t :: ts => (Tv.toD t).bind fun d => (Tv.toDs ts).bind fun l => .ok (d :: l)
end
theorem R.bind_inv {α β : Type} {r : R α} {f : α → R β} {b : β} (h : r.bind f = .ok b) : ∃ a, r = .ok a ∧ f a = .ok b := by
  cases r with
  | ok a => exact ⟨a, rfl, h⟩
  | exc c => cases h
  | bad => cases h
open Classical in
/-- all tuples and the objects at fp frozen -/
noncomputable def frzF (F H : Hp) (fp : List Addr) : Hp := fun p => if p ∈ fp ∨ ∃ o, H p = some o ∧ tupO o then H p else F p
theorem frz_f {F H : Hp} {fp : List Addr} (s : Same F H) : Same F (frzF F H fp) := fun p u e => by
  unfold frzF
  split
  · exact s p u e
  · exact e
theorem frz_g {F H : Hp} {fp : List Addr} (s : Same F H) : Same (frzF F H fp) H := fun p u e => by
  unfold frzF at e
  split at e
  · exact e
  · exact s p u e
theorem frz_n {F H : Hp} {fp : List Addr} {p : Addr} (h : frzF F H fp p ≠ none) : F p ≠ none ∨ p ∈ fp ∨ ∃ o, H p = some o ∧ tupO o := by
  unfold frzF at h
  split at h
  · rename_i c; exact .inr c
  · exact .inl h
theorem frz_keep {F H : Hp} {fp : List Addr} : KeepOn fp H (frzF F H fp) := fun p o e c => by
  unfold frzF
  rw [if_pos (c.imp id fun t => ⟨o, e, t⟩)]
  exact e
theorem frz_sub {F H : Hp} {fp fq : List Addr} (s : Same F H) (h : ∀ p ∈ fq, p ∈ fp) : Same (frzF F H fq) (frzF F H fp) := fun p u e => by
  unfold frzF at e ⊢
  split at e
  · rename_i c
    rw [if_pos (c.imp (h p) id)]
    exact e
  · split
    · exact s p u e
    · exact e
mutual
theorem TvAt.frz {K : PySem.W.Frag} {F H : Hp} (s : Same F H) : ∀ {fp : List Addr} {v : V} {t : Tv} {d : PD}, TvAt K F H fp v t → t.toD = .ok d → Dp K (frzF F H fp) v d
  | _, _, _, d, .fr h, e => by
    unfold Tv.toD at e
    cases e
    exact h.mono (frz_f s)
  | _, _, _, d, .own (p := p) (x := x) h, e => by
    cases x with
    | list l =>
      unfold Tv.toD at e
      cases e
      obtain ⟨vs, a, b⟩ := h
      exact .lst (.inl (frz_keep _ _ a (.inl (by simp)))) (b.mono (frz_f s))
    | _ => unfold Tv.toD at e; cases e
  | _, _, _, d, .dT _ _, e => by
    unfold Tv.toD at e
    cases e
  | _, _, _, d, .lst h k, e => by
    unfold Tv.toD at e
    obtain ⟨l, e1, e2⟩ := R.bind_inv e
    cases e2
    exact .lst (.inl (frz_keep _ _ h (.inl (by simp)))) ((TvAll.frz s k e1).mono (frz_sub s fun p hp => List.mem_cons_of_mem _ hp))
  | _, _, _, d, .tup h k, e => by
    unfold Tv.toD at e
    obtain ⟨l, e1, e2⟩ := R.bind_inv e
    cases e2
    exact .tup (frz_keep.tup h) (TvAll.frz s k e1)
theorem TvAll.frz {K : PySem.W.Frag} {F H : Hp} (s : Same F H) : ∀ {fp : List Addr} {vs : List V} {ts : List Tv} {ds : List PD}, TvAll K F H fp vs ts → Tv.toDs ts = .ok ds → DpAll K (frzF F H fp) vs ds
  | _, _, _, ds, .nil, e => by
    unfold Tv.toDs at e
    cases e
    exact .nil
  | _, _, _, ds, .cons h k, e => by
    unfold Tv.toDs at e
    obtain ⟨d, e1, e2⟩ := R.bind_inv e
    obtain ⟨l, e3, e4⟩ := R.bind_inv e2
    cases e4
    exact .cons ((TvAt.frz s h e1).mono (frz_sub s fun p hp => List.mem_append_left _ hp)) ((TvAll.frz s k e3).mono (frz_sub s fun p hp => List.mem_append_right _ hp))
end
mutual
/-- data without lists and dicts -/
def immD : PD → Bool
  | .list _ => false
  | .dict _ => false
  | .tuple l => immDs l
  | _ => true
def immDs : List PD → Bool
  | [] => true
  | d :: l => immD d && immDs l
end
mutual
theorem Dp.imm {K : PySem.W.Frag} {F F' H : Hp} (s : Same F' H) : ∀ {v : V} {d : PD}, Dp K F' v d → immD d = true → Dp K (frzF F H []) v d
  | _, _, .non, _ => .non
  | _, _, .bl b, _ => .bl b
  | _, _, .int i, _ => .int i
  | _, _, .str x, _ => .str x
  | _, _, .lst _ _, e => by unfold immD at e; cases e
  | _, _, .tup h k, e => by
    unfold immD at e
    exact .tup (frz_keep.tup (s _ _ h)) (DpAll.imm s k e)
theorem DpAll.imm {K : PySem.W.Frag} {F F' H : Hp} (s : Same F' H) : ∀ {vs : List V} {ds : List PD}, DpAll K F' vs ds → immDs ds = true → DpAll K (frzF F H []) vs ds
  | _, _, .nil, _ => .nil
  | _, _, .cons h k, e => by
    unfold immDs at e
    rw [Bool.and_eq_true] at e
    exact .cons (Dp.imm s h e.1) (DpAll.imm s k e.2)
end
theorem KvR.imm {K : PySem.W.Frag} {F F' H : Hp} {κ : Type} {kd : κ → PD} (s : Same F' H) : ∀ {es : List (κ × V)} {kvs : List (PD × PD)}, KvR K F' kd es kvs → kvs.all (fun q => immD q.2) = true → KvR K (frzF F H []) kd es kvs
  | _, _, .nil, _ => .nil
  | _, _, .cons h t, e => by
    rw [List.all_cons, Bool.and_eq_true] at e
    exact .cons (h.imm s e.1) (KvR.imm s t e.2)
theorem KvT.imm {K : PySem.W.Frag} {F F' H : Hp} (s : Same F' H) {es : List (List Key × V)} {kvs : List (List Key × PD)} (h : KvT K F' es kvs) : kvs.all (fun q => immD q.2) = true → KvT K (frzF F H []) es kvs := by
  unfold KvT at h ⊢
  induction h with
  | nil => exact fun _ => .nil
  | cons a _ ih =>
    intro e
    rw [List.all_cons, Bool.and_eq_true] at e
    exact .cons ⟨a.1, a.2.imm s e.1⟩ (ih e.2)
mutual
/-- a tree whose frozen parts have no lists -/
def Tv.imm : Tv → Bool
  | .fr d => immD d
  | .own (.list l) => immDs l
  | .own (.dict kvs) => kvs.all fun q => immD q.2
  | .own _ => false
  | .dT kvs => kvs.all fun q => immD q.2
  | .lst ts => Tv.imms ts
  | .tup ts => Tv.imms ts
def Tv.imms : List Tv → Bool
  | [] => true
  | t :: ts => Tv.imm t && Tv.imms ts
end
theorem OwnAt.imm {K : PySem.W.Frag} {F F' H : Hp} (s : Same F' H) {p : Addr} {x : PD} (h : OwnAt K F' H p x) (e : (Tv.own x).imm = true) : OwnAt K (frzF F H []) H p x := by
  cases x with
  | list l =>
    unfold Tv.imm at e
    obtain ⟨vs, a, b⟩ := h
    exact ⟨vs, a, b.imm s e⟩
  | dict kvs =>
    unfold Tv.imm at e
    obtain ⟨es, a, b⟩ := h
    exact ⟨es, a, b.imm s e⟩
  | _ => exact h.elim
mutual
theorem TvAt.imm {K : PySem.W.Frag} {F F' H : Hp} (s : Same F' H) : ∀ {fp : List Addr} {v : V} {t : Tv}, TvAt K F' H fp v t → t.imm = true → TvAt K (frzF F H []) H fp v t
  | _, _, _, .fr h, e => by unfold Tv.imm at e; exact .fr (h.imm s e)
  | _, _, _, .own h, e => .own (h.imm s e)
  | _, _, _, .dT h k, e => by unfold Tv.imm at e; exact .dT h (k.imm s e)
  | _, _, _, .lst h k, e => by unfold Tv.imm at e; exact .lst h (TvAll.imm s k e)
  | _, _, _, .tup h k, e => by unfold Tv.imm at e; exact .tup h (TvAll.imm s k e)
theorem TvAll.imm {K : PySem.W.Frag} {F F' H : Hp} (s : Same F' H) : ∀ {fp : List Addr} {vs : List V} {ts : List Tv}, TvAll K F' H fp vs ts → Tv.imms ts = true → TvAll K (frzF F H []) H fp vs ts
  | _, _, _, .nil, _ => .nil
  | _, _, _, .cons h k, e => by
    unfold Tv.imms at e
    rw [Bool.and_eq_true] at e
    exact .cons (TvAt.imm s h e.1) (TvAll.imm s k e.2)
end
/-- all tuples frozen: still an extension -/
theorem Ext.tups {F H H' : Hp} (s : Same F H) (h : Same H H') : Ext F H (frzF F H' []) H' := by
  refine ⟨frz_f (s.trans h), frz_g (s.trans h), h, fun p hp => ?_⟩
  rcases frz_n hp with q | q | ⟨o, q, t⟩
  · exact .inl q
  · cases q
  · cases e : H p with
    | none => exact .inr (.inl rfl)
    | some u =>
      have := h p u e
      rw [q] at this
      cases this
      exact .inr (.inr ⟨_, rfl, t⟩)
theorem frz_none {F H : Hp} {p : Addr} {o : HO} (hf : F p = none) (ho : H p = some o) (hn : ¬ tupO o) : frzF F H [] p = none := by
  unfold frzF
  rw [if_neg]
  · exact hf
  · rintro (h | ⟨u, h, t⟩)
    · cases h
    · rw [ho] at h; cases h; exact hn t

/-! ### the state -/
inductive Sl where
  | d (x : PD)
  | t (x : Tv)
  | l (x : PD)
abbrev Sl.o (x : PD) : Sl := .t (.own x)
/-- plain values as data -/
def encV : V → PD
  | .bl b => .bool b
  | .int i => .int i
  | .str x => .str x
  | .non => .none
  | _ => .dict []
def encF (fs : List (Str × V)) : List PD := fs.map fun q => .tuple [.str q.1, encV q.2]
/-- a dict that is walked; a caught exception: itself, its dict's place, its fields -/
def LckAt (K : PySem.W.Frag) (F : Hp) (p : Addr) : PD → Prop
  | .dict kvs => ∃ od es, F p = some (.frz od (.dK es)) ∧ KvR K F keyD es kvs
  | .tuple [.int a, .int b, .list es] => p = a.toNat ∧ ∃ fs, F b.toNat = some (.xd fs) ∧ es = encF fs
  | _ => False
theorem LckAt.mono {K : PySem.W.Frag} {F F' : Hp} {p : Addr} {d : PD} (e : Same F F') (h : LckAt K F p d) : LckAt K F' p d := by
  unfold LckAt at h ⊢
  split at h
  · obtain ⟨od, es, a, b⟩ := h; exact ⟨od, es, e _ _ a, b.mono e⟩
  · obtain ⟨q, fs, a, b⟩ := h; exact ⟨q, fs, e _ _ a, b⟩
  · exact h.elim
abbrev Rho := List (Option Sl)
/-- the state; φ: what each slot owns -/
structure StF (K : PySem.W.Frag) (F0 H0 F H : Hp) (σ : L2.St) (ρ : Rho) (φ : Nat → List Addr) : Prop where
  ext : Ext F0 H0 F H
  len : σ.length = ρ.length
  dat : ∀ (i : Nat) (x : PD), ρ[i]? = some (some (Sl.d x)) → ∃ v, σ[i]? = some (some v) ∧ Dp K F v x
  tre : ∀ (i : Nat) (x : Tv), ρ[i]? = some (some (Sl.t x)) → ∃ v, σ[i]? = some (some v) ∧ TvAt K F H (φ i) v x
  fre : ∀ (i : Nat) (p : Addr), p ∈ φ i → H0 p = none ∧ F p = none ∧ ∃ o, H p = some o ∧ ¬ tupO o
  nod : ∀ i, (φ i).Nodup
  dis : ∀ (i j : Nat) (p : Addr), p ∈ φ i → p ∈ φ j → i = j
  lck : ∀ (i : Nat) (x : PD), ρ[i]? = some (some (Sl.l x)) → ∃ p, σ[i]? = some (some (.ref p)) ∧ LckAt K F p x
def StR (K : PySem.W.Frag) (F0 H0 F H : Hp) (σ : L2.St) (ρ : Rho) : Prop := ∃ φ, StF K F0 H0 F H σ ρ φ
def phi (φ : Nat → List Addr) (i : Nat) (fp : List Addr) : Nat → List Addr := fun j => if j = i then fp else φ j
theorem phi_same {φ : Nat → List Addr} {i : Nat} {fp : List Addr} : phi φ i fp i = fp := if_pos rfl
theorem phi_ne {φ : Nat → List Addr} {i j : Nat} {fp : List Addr} (h : j ≠ i) : phi φ i fp j = φ j := if_neg h
section
variable {K : PySem.W.Frag} {F0 H0 F H F' H' : Hp} {σ : L2.St} {ρ : Rho} {φ : Nat → List Addr}
theorem StR.ext (S : StR K F0 H0 F H σ ρ) : Ext F0 H0 F H := let ⟨_, S⟩ := S; S.ext
theorem StR.len (S : StR K F0 H0 F H σ ρ) : σ.length = ρ.length := let ⟨_, S⟩ := S; S.len
theorem StR.dat (S : StR K F0 H0 F H σ ρ) : ∀ (i : Nat) (x : PD), ρ[i]? = some (some (Sl.d x)) → ∃ v, σ[i]? = some (some v) ∧ Dp K F v x := let ⟨_, S⟩ := S; S.dat
theorem StR.lck (S : StR K F0 H0 F H σ ρ) : ∀ (i : Nat) (x : PD), ρ[i]? = some (some (Sl.l x)) → ∃ p, σ[i]? = some (some (.ref p)) ∧ LckAt K F p x := let ⟨_, S⟩ := S; S.lck
theorem StF.own (S : StF K F0 H0 F H σ ρ φ) (i : Nat) (x : PD) (h : ρ[i]? = some (some (Sl.o x))) : ∃ p, σ[i]? = some (some (.ref p)) ∧ φ i = [p] ∧ H0 p = none ∧ F p = none ∧ OwnAt K F H p x := by
  obtain ⟨v, a, b⟩ := S.tre i _ h
  generalize hf : φ i = fp at b
  cases b with
  | own b =>
    obtain ⟨c, d, _⟩ := S.fre i _ (by rw [hf]; exact List.mem_singleton.mpr rfl)
    exact ⟨_, a, rfl, c, d, b⟩
theorem StR.own (S : StR K F0 H0 F H σ ρ) (i : Nat) (x : PD) (h : ρ[i]? = some (some (Sl.o x))) : ∃ p, σ[i]? = some (some (.ref p)) ∧ H0 p = none ∧ F p = none ∧ OwnAt K F H p x := by
  obtain ⟨φ, S⟩ := S
  obtain ⟨p, a, _, b⟩ := S.own i x h
  exact ⟨p, a, b⟩
theorem StR.dis (S : StR K F0 H0 F H σ ρ) (i j : Nat) (x y : PD) (p : Addr) (h1 : ρ[i]? = some (some (Sl.o x))) (h2 : ρ[j]? = some (some (Sl.o y))) (h3 : σ[i]? = some (some (.ref p))) (h4 : σ[j]? = some (some (.ref p))) : i = j := by
  obtain ⟨φ, S⟩ := S
  obtain ⟨p1, a1, b1, _⟩ := S.own i x h1
  obtain ⟨p2, a2, b2, _⟩ := S.own j y h2
  rw [h3] at a1; cases a1
  rw [h4] at a2; cases a2
  exact S.dis i j p (by rw [b1]; simp) (by rw [b2]; simp)
theorem StR.same (S : StR K F0 H0 F H σ ρ) : Same F H := S.ext.g
theorem StF.same (S : StF K F0 H0 F H σ ρ φ) : Same F H := S.ext.g
theorem StF.go (S : StF K F0 H0 F H σ ρ φ) (e : Ext F H F' H') : StF K F0 H0 F' H' σ ρ φ := by
  refine ⟨S.ext.trans e, S.len, fun i x h => ?_, fun i x h => ?_, fun i p h => ?_, S.nod, S.dis, fun i x h => let ⟨p, a, b⟩ := S.lck i x h; ⟨p, a, b.mono e.f⟩⟩
  · obtain ⟨v, a, b⟩ := S.dat i x h
    exact ⟨v, a, b.mono e.f⟩
  · obtain ⟨v, a, b⟩ := S.tre i x h
    exact ⟨v, a, b.keep e.f (KeepOn.same e.h)⟩
  · obtain ⟨a, b, o, c, d⟩ := S.fre i p h
    exact ⟨a, e.keep b c d, o, e.h p o c, d⟩
theorem StR.go (S : StR K F0 H0 F H σ ρ) (e : Ext F H F' H') : StR K F0 H0 F' H' σ ρ := let ⟨φ, S⟩ := S; ⟨φ, S.go e⟩
/-- the base's frozen part put to where one stands -/
theorem StR.rebase (S : StR K F0 H0 F H σ ρ) : StR K F H0 F H σ ρ := let ⟨φ, S⟩ := S;
  ⟨φ, ⟨Same.refl F, S.ext.g, S.ext.h, fun _ h => .inl h⟩, S.len, S.dat, S.tre, S.fre, S.nod, S.dis, S.lck⟩
theorem StR.unbase {F1 H1 : Hp} (b : Ext F0 H0 F H) (S : StR K F H0 F1 H1 σ ρ) : StR K F0 H0 F1 H1 σ ρ := let ⟨φ, S⟩ := S;
  ⟨φ, b.base S.ext, S.len, S.dat, S.tre, S.fre, S.nod, S.dis, S.lck⟩
theorem get_set {α : Type} {l : List (Option α)} {i j : Nat} {x : Option α} {y : α} (h : (l.set i x)[j]? = some (some y)) : (i = j ∧ i < l.length ∧ x = some y) ∨ (i ≠ j ∧ l[j]? = some (some y)) := by
  by_cases e : i = j
  · subst e
    by_cases hl : i < l.length
    · rw [List.getElem?_set_self hl] at h
      exact .inl ⟨rfl, hl, Option.some.inj h⟩
    · rw [List.getElem?_eq_none (by simpa using hl)] at h; cases h
  · rw [List.getElem?_set_ne e] at h
    exact .inr ⟨e, h⟩
/-- a slot is given new content that owns fp -/
theorem StF.put (S : StF K F0 H0 F H σ ρ φ) {i : Nat} {v : Option V} {x : Option Sl} {fp : List Addr}
    (hd : ∀ y, x = some (Sl.d y) → ∃ w, v = some w ∧ Dp K F w y) (ht : ∀ y, x = some (Sl.t y) → ∃ w, v = some w ∧ TvAt K F H fp w y) (hl : ∀ y, x = some (Sl.l y) → ∃ p, v = some (.ref p) ∧ LckAt K F p y)
    (hf : ∀ p ∈ fp, H0 p = none ∧ F p = none ∧ ∃ o, H p = some o ∧ ¬ tupO o) (hn : fp.Nodup) (hx : ∀ (j : Nat) (p : Addr), j ≠ i → p ∈ φ j → p ∉ fp) :
    StF K F0 H0 F H (σ.set i v) (ρ.set i x) (phi φ i fp) := by
  refine ⟨S.ext, by simpa using S.len, fun j y e => ?_, fun j y e => ?_, fun j p hp => ?_, fun j => ?_, fun j k p hj hk => ?_, fun j y e => ?_⟩
  · rcases get_set e with ⟨rfl, hj, q⟩ | ⟨hn, q⟩
    · obtain ⟨w, rfl, a⟩ := hd y q
      exact ⟨w, by rw [List.getElem?_set_self (by rw [S.len]; exact hj)], a⟩
    · obtain ⟨u, a, b⟩ := S.dat j y q
      exact ⟨u, by rw [List.getElem?_set_ne hn]; exact a, b⟩
  · rcases get_set e with ⟨rfl, hj, q⟩ | ⟨hn, q⟩
    · obtain ⟨w, rfl, a⟩ := ht y q
      exact ⟨w, by rw [List.getElem?_set_self (by rw [S.len]; exact hj)], by rw [phi_same]; exact a⟩
    · obtain ⟨u, a, b⟩ := S.tre j y q
      exact ⟨u, by rw [List.getElem?_set_ne hn]; exact a, by rw [phi_ne (Ne.symm hn)]; exact b⟩
  · by_cases c : j = i
    · subst c; rw [phi_same] at hp; exact hf p hp
    · rw [phi_ne c] at hp; exact S.fre j p hp
  · by_cases c : j = i
    · subst c; rw [phi_same]; exact hn
    · rw [phi_ne c]; exact S.nod j
  · by_cases c : j = i
    · by_cases c2 : k = i
      · rw [c, c2]
      · subst c
        rw [phi_same] at hj
        rw [phi_ne c2] at hk
        exact absurd hj (hx k p c2 hk)
    · by_cases c2 : k = i
      · subst c2
        rw [phi_same] at hk
        rw [phi_ne c] at hj
        exact absurd hk (hx j p c hj)
      · rw [phi_ne c] at hj
        rw [phi_ne c2] at hk
        exact S.dis j k p hj hk
  · rcases get_set e with ⟨rfl, hll, q⟩ | ⟨hn, q⟩
    · obtain ⟨w, rfl, a⟩ := hl y q
      exact ⟨w, by rw [List.getElem?_set_self (by rw [S.len]; exact hll)], a⟩
    · obtain ⟨u, a, b⟩ := S.lck j y q
      exact ⟨u, by rw [List.getElem?_set_ne hn]; exact a, b⟩
/-- a slot gets data -/
theorem StR.setD (S : StR K F0 H0 F H σ ρ) {i : Nat} {v : V} {x : PD} (h : Dp K F v x) : StR K F0 H0 F H (σ.set i (some v)) (ρ.set i (some (Sl.d x))) := by
  obtain ⟨φ, S⟩ := S
  refine ⟨_, S.put (fp := []) (fun y e => ?_) (fun y e => ?_) (fun y e => ?_) (fun p hp => by cases hp) List.nodup_nil (fun j p _ _ hp => by cases hp)⟩
  · cases e; exact ⟨v, rfl, h⟩
  · cases e
  · cases e
/-- a slot's reading is forgotten -/
theorem StR.kill (S : StR K F0 H0 F H σ ρ) (i : Nat) : StR K F0 H0 F H σ (ρ.set i none) := by
  obtain ⟨φ, S⟩ := S
  refine ⟨φ, S.ext, by simpa using S.len, fun j y e => ?_, fun j y e => ?_, S.fre, S.nod, S.dis, fun j y e => ?_⟩
  · rcases get_set e with ⟨_, _, q⟩ | ⟨_, q⟩
    · cases q
    · exact S.dat j y q
  · rcases get_set e with ⟨_, _, q⟩ | ⟨_, q⟩
    · cases q
    · exact S.tre j y q
  · rcases get_set e with ⟨_, _, q⟩ | ⟨_, q⟩
    · cases q
    · exact S.lck j y q
theorem StR.setU (S : StR K F0 H0 F H σ ρ) (i : Nat) : StR K F0 H0 F H (σ.set i none) (ρ.set i none) := by
  obtain ⟨φ, S⟩ := S
  exact ⟨_, S.put (fp := []) (fun y e => by cases e) (fun y e => by cases e) (fun y e => by cases e) (fun p hp => by cases hp) List.nodup_nil (fun j p _ _ hp => by cases hp)⟩
/-- a slot gets a tree that is new -/
theorem StR.setT {F1 H1 : Hp} (S : StR K F0 H0 F H σ ρ) {i : Nat} {v : V} {x : Tv} {fp : List Addr} (e : Ext F H F1 H1) (hp : ∀ p ∈ fp, H p = none ∧ F1 p = none) (hn : fp.Nodup) (h : TvAt K F1 H1 fp v x) :
    StR K F0 H0 F1 H1 (σ.set i (some v)) (ρ.set i (some (Sl.t x))) := by
  obtain ⟨φ, S⟩ := S
  have S1 := S.go e
  refine ⟨_, S1.put (fp := fp) (fun y e => by cases e) (fun y e => ?_) (fun y e => by cases e) (fun p q => ⟨S.ext.h.free (hp p q).1, (hp p q).2, h.nt p q⟩) hn (fun j p _ hj hq => ?_)⟩
  · cases e; exact ⟨v, rfl, h⟩
  · obtain ⟨_, _, o, a, _⟩ := S.fre j p hj
    rw [(hp p hq).1] at a; cases a
/-- a slot gets a new owned thing -/
theorem StR.setN {F1 H1 : Hp} (S : StR K F0 H0 F H σ ρ) {i : Nat} {p : Addr} {x : PD} (e : Ext F H F1 H1) (hp : H p = none) (hf : F1 p = none) (h : OwnAt K F1 H1 p x) :
    StR K F0 H0 F1 H1 (σ.set i (some (.ref p))) (ρ.set i (some (Sl.o x))) :=
  S.setT (fp := [p]) e (fun q hq => by rw [List.mem_singleton.mp hq]; exact ⟨hp, hf⟩) (by simp) (.own h)
/-- what a slot owns is changed in place -/
theorem StF.mutT (S : StF K F0 H0 F H σ ρ φ) {i : Nat} {y : Tv} {q : Addr} {o : HO} (hq : q ∈ φ i) (ho : ¬ tupO o) (h : ∀ v, σ[i]? = some (some v) → TvAt K F (upd H q o) (φ i) v y) (hs : ∃ v, σ[i]? = some (some v)) :
    StF K F0 H0 F (upd H q o) σ (ρ.set i (some (Sl.t y))) φ := by
  obtain ⟨b, c, u, hu, nu⟩ := S.fre i q hq
  have keep : ∀ j, j ≠ i → KeepOn (φ j) H (upd H q o) := fun j hj p u' e t => by
    by_cases z : p = q
    · subst z
      rcases t with t | t
      · exact absurd (S.dis j i p t hq) hj
      · rw [hu] at e; cases e; exact absurd t nu
    · rw [upd_ne z]; exact e
  refine ⟨⟨S.ext.f, fun r u e => ?_, fun r u e => ?_, S.ext.n⟩, by simpa using S.len, fun j z e => ?_, fun j z e => ?_, fun j p hp => ?_, S.nod, S.dis, fun j z e => ?_⟩
  · rw [upd_ne (ne_of_none e c)]; exact S.ext.g r u e
  · rw [upd_ne (ne_of_none e b)]; exact S.ext.h r u e
  · rcases get_set e with ⟨rfl, hl, q⟩ | ⟨hn, q⟩
    · injection q with q; cases q
    · exact S.dat j z q
  · rcases get_set e with ⟨rfl, hl, e⟩ | ⟨hn, e⟩
    · injection e with e; injection e with e; subst e
      obtain ⟨v, hv⟩ := hs
      exact ⟨v, hv, h v hv⟩
    · obtain ⟨v, a, b⟩ := S.tre j z e
      exact ⟨v, a, b.keep (Same.refl F) (keep j (Ne.symm hn))⟩
  · obtain ⟨x1, x2, u', x3, x4⟩ := S.fre j p hp
    refine ⟨x1, x2, ?_⟩
    by_cases z : p = q
    · subst z; exact ⟨o, upd_same, ho⟩
    · exact ⟨u', by rw [upd_ne z]; exact x3, x4⟩
  · rcases get_set e with ⟨rfl, hl, q⟩ | ⟨hn, q⟩
    · injection q with q; cases q
    · exact S.lck j z q
/-- an owned thing is changed in place -/
theorem StR.mut (S : StR K F0 H0 F H σ ρ) {i : Nat} {p : Addr} {x y : PD} {o : HO} (hi : ρ[i]? = some (some (Sl.o x))) (hs : σ[i]? = some (some (.ref p))) (h : OwnAt K F (upd H p o) p y) :
    StR K F0 H0 F (upd H p o) σ (ρ.set i (some (Sl.o y))) := by
  obtain ⟨φ, S⟩ := S
  obtain ⟨p', a, b, c, d, _⟩ := S.own i x hi
  rw [hs] at a; cases a
  obtain ⟨u, hu, nu⟩ := h.nt
  rw [upd_same] at hu
  cases hu
  refine ⟨φ, S.mutT (q := p) (by rw [b]; simp) nu (fun v hv => ?_) ⟨_, hs⟩⟩
  rw [hs] at hv; cases hv
  rw [b]; exact .own h
/-- .. the same for a dict with tuples as keys -/
theorem StR.mutD (S : StR K F0 H0 F H σ ρ) {i : Nat} {p : Addr} {x y : List (List Key × PD)} {es : List (List Key × V)} (hi : ρ[i]? = some (some (Sl.t (.dT x)))) (hs : σ[i]? = some (some (.ref p))) (h : KvT K F es y) :
    StR K F0 H0 F (upd H p (.dT es)) σ (ρ.set i (some (Sl.t (.dT y)))) := by
  obtain ⟨φ, S⟩ := S
  obtain ⟨v, a, b⟩ := S.tre i _ hi
  rw [hs] at a; cases a
  generalize hf : φ i = fp at b
  cases b with
  | dT h1 h2 =>
    refine ⟨φ, S.mutT (q := p) (by rw [hf]; simp) nt_dT (fun v hv => ?_) ⟨_, hs⟩⟩
    rw [hs] at hv; cases hv
    rw [hf]; exact .dT upd_same h
/-- an owned list becomes data -/
def frzS : Option Sl → Option Sl
  | some (Sl.t (.own (.list ds))) => some (Sl.d (.list ds))
  | s => s
/-- a tree becomes data -/
def frz1 (i : Nat) (ρ : Rho) : Rho := match ρ[i]? with
  | some (some (Sl.t t)) => (match t.toD with | .ok d => ρ.set i (some (Sl.d d)) | _ => ρ)
  | _ => ρ
theorem StF.frzT (S : StF K F0 H0 F H σ ρ φ) {i : Nat} {t : Tv} {d : PD} (hi : ρ[i]? = some (some (Sl.t t))) (e : t.toD = .ok d) :
    Ext F0 H0 (frzF F H (φ i)) H ∧ Same F (frzF F H (φ i)) ∧ StF K F0 H0 (frzF F H (φ i)) H σ (ρ.set i (some (Sl.d d))) (phi φ i []) := by
  have hs : Same F (frzF F H (φ i)) := frz_f S.same
  have ex : Ext F0 H0 (frzF F H (φ i)) H := by
    refine ⟨S.ext.f.trans hs, frz_g S.same, S.ext.h, fun p hp => ?_⟩
    rcases frz_n hp with q | q | ⟨o, q, t⟩
    · exact S.ext.n p q
    · exact .inr (.inl (S.fre i p q).1)
    · cases e : H0 p with
      | none => exact .inr (.inl rfl)
      | some u =>
        have := S.ext.h p u e
        rw [q] at this
        cases this
        exact .inr (.inr ⟨_, rfl, t⟩)
  obtain ⟨v, a, b⟩ := S.tre i _ hi
  refine ⟨ex, hs, ex, by simpa using S.len, fun j y e1 => ?_, fun j y e1 => ?_, fun j p hp => ?_, fun j => ?_, fun j k p hj hk => ?_, fun j y e1 => ?_⟩
  · rcases get_set e1 with ⟨rfl, hl, q⟩ | ⟨hn, q⟩
    · cases q; exact ⟨v, a, b.frz S.same e⟩
    · obtain ⟨u, a, b⟩ := S.dat j y q
      exact ⟨u, a, b.mono hs⟩
  · rcases get_set e1 with ⟨rfl, hl, q⟩ | ⟨hn, q⟩
    · cases q
    · obtain ⟨u, a, b⟩ := S.tre j y q
      exact ⟨u, a, by rw [phi_ne (Ne.symm hn)]; exact b.keep hs (KeepOn.same (Same.refl H))⟩
  · by_cases c : j = i
    · subst c; rw [phi_same] at hp; cases hp
    · rw [phi_ne c] at hp
      obtain ⟨x1, x2, o, x3, x4⟩ := S.fre j p hp
      refine ⟨x1, ?_, o, x3, x4⟩
      unfold frzF
      rw [if_neg]
      · exact x2
      · rintro (z | ⟨u, z, t⟩)
        · exact c (S.dis j i p hp z)
        · rw [x3] at z; cases z; exact x4 t
  · by_cases c : j = i
    · subst c; rw [phi_same]; exact List.nodup_nil
    · rw [phi_ne c]; exact S.nod j
  · have cj : j ≠ i := fun z => by subst z; rw [phi_same] at hj; cases hj
    have ck : k ≠ i := fun z => by subst z; rw [phi_same] at hk; cases hk
    rw [phi_ne cj] at hj
    rw [phi_ne ck] at hk
    exact S.dis j k p hj hk
  · rcases get_set e1 with ⟨rfl, hl, q⟩ | ⟨hn, q⟩
    · cases q
    · obtain ⟨u, a, b⟩ := S.lck j y q
      exact ⟨u, a, b.mono hs⟩
theorem StR.frz1 (S : StR K F0 H0 F H σ ρ) (i : Nat) : ∃ F', Ext F0 H0 F' H ∧ Same F F' ∧ StR K F0 H0 F' H σ (frz1 i ρ) := by
  have triv : ∃ F', Ext F0 H0 F' H ∧ Same F F' ∧ StR K F0 H0 F' H σ ρ := ⟨F, S.ext, Same.refl F, S⟩
  unfold DL.frz1
  split
  · rename_i t hi
    split
    · rename_i d e
      obtain ⟨φ, S⟩ := S
      obtain ⟨a, b, c⟩ := S.frzT hi e
      exact ⟨_, a, b, _, c⟩
    · exact triv
  · exact triv
end
end DL
namespace DL
open PySem PySem.Spec PyProof.Rows L2

/-! ### judgements -/
/-- an exception as the reading tells it, as the heap has it -/
def ExR (K : PySem.W.Frag) (c : Ec) (cls : Value) (d : Option Addr) (H : Hp) : Prop :=
  cls = .ref (He.ga K c.cls) ∧ ((c.fs = [] ∧ d = none) ∨ ∃ dd, d = some dd ∧ H dd = some (.xd c.fs))
/-- what follows -/
def Fin (K : PySem.W.Frag) (W : WX) (σ : L2.St) (F H : Hp) {α : Type} (r : R α) (P : α → Hp → Hp → Prop) : Prop :=
  match r with
  | .ok x => ∀ F' H', Ext F H F' H' → P x F' H'
  | .exc c => ∀ cls d F' H', Ext F H F' H' → ExR K c cls d H' → W cls d σ H'
  | .bad => False
section
variable {K : PySem.W.Frag} {W : WX} {σ : L2.St} {F H F1 H1 : Hp} {α β : Type}
theorem Fin.mono {r : R α} {P : α → Hp → Hp → Prop} (e : Ext F H F1 H1) (h : Fin K W σ F H r P) : Fin K W σ F1 H1 r P := by
  cases r with
  | ok x => exact fun F' H' q => h F' H' (e.trans q)
  | exc c => exact fun cls d F' H' q => h cls d F' H' (e.trans q)
  | bad => exact h
theorem Fin.imp {r : R α} {P P' : α → Hp → Hp → Prop} (h : Fin K W σ F H r P) (f : ∀ x F' H', Ext F H F' H' → P x F' H' → P' x F' H') : Fin K W σ F H r P' := by
  cases r with
  | ok x => exact fun F' H' q => f x F' H' q (h F' H' q)
  | exc c => exact h
  | bad => exact h
theorem Fin.bind {r : R α} {f : α → R β} {P : β → Hp → Hp → Prop} (h : Fin K W σ F H (r.bind f) P) : Fin K W σ F H r (fun x F1 H1 => Fin K W σ F1 H1 (f x) P) := by
  cases r with
  | ok x => exact fun F' H' q => Fin.mono q h
  | exc c => exact h
  | bad => exact h
/-- bind and go on -/
theorem Fin.then {r : R α} {f : α → R β} {P : β → Hp → Hp → Prop} {P' : α → Hp → Hp → Prop} (h : Fin K W σ F H (r.bind f) P) (g : ∀ x F1 H1, Ext F H F1 H1 → Fin K W σ F1 H1 (f x) P → P' x F1 H1) : Fin K W σ F H r P' :=
  (Fin.bind h).imp g
theorem Fin.okk (K : PySem.W.Frag) (W : WX) (σ : L2.St) {x : α} {P : α → Hp → Hp → Prop} (s : Same F H) (h : Fin K W σ F H (.ok x) P) : P x F H := h F H (Ext.refl s)
theorem Fin.ok {x : α} {P : α → Hp → Hp → Prop} (s : Same F H) (h : Fin K W σ F H (.ok x) P) : P x F H := h F H (Ext.refl s)
end

def DpQ (K : PySem.W.Frag) (Q : VK) : PD → Hp → Hp → Prop := fun x F' H' => ∀ v, Dp K F' v x → Q v H'
def RpQ (K : PySem.W.Frag) (Q : VK) : PD → Hp → Hp → Prop := fun x F' H' => ∀ v, Rp K F' H' v x → Q v H'
def OwQ (K : PySem.W.Frag) (H : Hp) (Q : VK) : PD → Hp → Hp → Prop := fun x F' H' => ∀ p, H p = none → F' p = none → OwnAt K F' H' p x → Q (.ref p) H'
def BoQ (Q : Bool → Hp → Prop) : Bool → Hp → Hp → Prop := fun b _ H' => Q b H'
/-- frozen data; readable data; a new owned thing; a test -/
def TDe (K : PySem.W.Frag) (W : WX) (t : TE) (g : Rho → R PD) : Prop := ∀ (F0 H0 F H : Hp) (σ : L2.St) (ρ : Rho) (Q : VK), StR K F0 H0 F H σ ρ → Fin K W σ F H (g ρ) (DpQ K Q) → t σ H Q
def TDr (K : PySem.W.Frag) (W : WX) (t : TE) (g : Rho → R PD) : Prop := ∀ (F0 H0 F H : Hp) (σ : L2.St) (ρ : Rho) (Q : VK), StR K F0 H0 F H σ ρ → Fin K W σ F H (g ρ) (RpQ K Q) → t σ H Q
def TDo (K : PySem.W.Frag) (W : WX) (t : TE) (g : Rho → R PD) : Prop := ∀ (F0 H0 F H : Hp) (σ : L2.St) (ρ : Rho) (Q : VK), StR K F0 H0 F H σ ρ → Fin K W σ F H (g ρ) (OwQ K H Q) → t σ H Q
def TDt (K : PySem.W.Frag) (W : WX) (t : TT) (g : Rho → R Bool) : Prop := ∀ (F0 H0 F H : Hp) (σ : L2.St) (ρ : Rho) (Q : Bool → Hp → Prop), StR K F0 H0 F H σ ρ → Fin K W σ F H (g ρ) (BoQ Q) → t σ H Q
/-- argument lists: frozen, readable -/
def TDa (K : PySem.W.Frag) (W : WX) (t : TA) (g : Rho → R (List PD)) : Prop := ∀ (F0 H0 F H : Hp) (σ : L2.St) (ρ : Rho) (Q : List V → Hp → Prop), StR K F0 H0 F H σ ρ → Fin K W σ F H (g ρ) (fun xs F' H' => ∀ vs, DpAll K F' vs xs → Q vs H') → t σ H Q
def TDq (K : PySem.W.Frag) (W : WX) (t : TA) (g : Rho → R (List PD)) : Prop := ∀ (F0 H0 F H : Hp) (σ : L2.St) (ρ : Rho) (Q : List V → Hp → Prop), StR K F0 H0 F H σ ρ → Fin K W σ F H (g ρ) (fun xs F' H' => ∀ vs, RpAll K F' H' vs xs → Q vs H') → t σ H Q

section
variable {K : PySem.W.Frag} {W : WX} {t ta tb tc : TE} {g ga gb gc : Rho → R PD} {tt : TT}
theorem TDe.r (h : TDe K W t g) : TDr K W t g := fun F0 H0 F H σ ρ Q S q => h F0 H0 F H σ ρ Q S (q.imp fun x F' H' e k v r => k v (.inl r))
def notDict : PD → R PD
  | .list xs => .ok (.list xs)
  | _ => .bad
def eFz (g : Rho → R PD) : Rho → R PD := fun ρ => (g ρ).bind notDict
theorem TDo.e (h : TDo K W t g) : TDe K W t (eFz g) := fun F0 H0 F H σ ρ Q S q => h F0 H0 F H σ ρ Q S (by
  unfold eFz at q
  cases e : g ρ with
  | exc c => rw [e] at q; exact q
  | bad => rw [e] at q; exact q
  | ok x =>
    rw [e] at q
    cases x with
    | list ds =>
      rintro F' H' ex p hp hf ⟨vs, a, b⟩
      have hs : Same F' (upd F' p (.lst vs)) := fun q u e => by rw [upd_ne (ne_of_none e hf)]; exact e
      refine q (upd F' p (.lst vs)) H' ⟨ex.f.trans hs, fun q u r => ?_, ex.h, fun q r => ?_⟩ _ (.lst (.inl upd_same) (b.mono hs))
      · by_cases hq : q = p
        · subst hq; rw [upd_same] at r; rw [← r]; exact a
        · rw [upd_ne hq] at r; exact ex.g q u r
      · by_cases hq : q = p
        · subst hq; exact .inr (.inl hp)
        · rw [upd_ne hq] at r; exact ex.n q r
    | _ => exact q.elim)
theorem TDo.r (h : TDo K W t g) : TDr K W t (eFz g) := h.e.r

/-! ### names, constants -/
def eVar (i : Nat) : Rho → R PD := fun ρ => match ρ[i]? with
  | some (some (.d x)) => .ok x
  | _ => .bad
def rVar (i : Nat) : Rho → R PD := fun ρ => match ρ[i]? with
  | some (some (.d x)) => .ok x
  | some (some (.t (.own x))) => .ok x
  | _ => .bad
theorem td_var (i : Nat) : TDe K W (tVar i) (eVar i) := fun F0 H0 F H σ ρ Q S q => by
  unfold eVar at q
  split at q
  · rename_i x e
    obtain ⟨v, a, b⟩ := S.dat i x e
    exact ⟨v, a, q.ok S.same v b⟩
  · exact q.elim
theorem tr_var (i : Nat) : TDr K W (tVar i) (rVar i) := fun F0 H0 F H σ ρ Q S q => by
  unfold rVar at q
  split at q
  · rename_i x e
    obtain ⟨v, a, b⟩ := S.dat i x e
    exact ⟨v, a, q.ok S.same v (.inl b)⟩
  · rename_i x e
    obtain ⟨p, a, _, _, d⟩ := S.own i x e
    exact ⟨_, a, q.ok S.same _ (.inr ⟨p, rfl, d⟩)⟩
  · exact q.elim
def eC (x : PD) : Rho → R PD := fun _ => .ok x
theorem td_int {i : Int} : TDe K W (tC (.int i)) (eC (.int i)) := fun F0 H0 F H σ ρ Q S q => q.ok S.same _ (.int i)
theorem td_str {i : Str} : TDe K W (tC (.str i)) (eC (.str i)) := fun F0 H0 F H σ ρ Q S q => q.ok S.same _ (.str i)
theorem td_bl {i : Bool} : TDe K W (tC (.bl i)) (eC (.bool i)) := fun F0 H0 F H σ ρ Q S q => q.ok S.same _ (.bl i)
theorem td_non : TDe K W (tC .non) (eC .none) := fun F0 H0 F H σ ρ Q S q => q.ok S.same _ .non

/-! ### operators -/
/-- a two-place operation by values -/
def RD (K : PySem.W.Frag) (r : R2) (f : PD → PD → R PD) : Prop := ∀ (W : WX) (σ : L2.St) (F H : Hp) (x y : V) (a b : PD) (Q : VK), Same F H → Rp K F H x a → Rp K F H y b → Fin K W σ F H (f a b) (DpQ K Q) → r x y H Q
/-- .. with a new owned result -/
def RDo (K : PySem.W.Frag) (r : R2) (f : PD → PD → R PD) : Prop := ∀ (W : WX) (σ : L2.St) (F H : Hp) (x y : V) (a b : PD) (Q : VK), Same F H → Rp K F H x a → Rp K F H y b → Fin K W σ F H (f a b) (OwQ K H Q) → r x y H Q
def RU (K : PySem.W.Frag) (r : V → Hp → VK → Prop) (f : PD → R PD) : Prop := ∀ (W : WX) (σ : L2.St) (F H : Hp) (x : V) (a : PD) (Q : VK), Same F H → Rp K F H x a → Fin K W σ F H (f a) (DpQ K Q) → r x H Q
def eOp (f : PD → PD → R PD) (ga gb : Rho → R PD) : Rho → R PD := fun ρ => (ga ρ).bind fun a => (gb ρ).bind fun b => f a b
def eUn (f : PD → R PD) (ga : Rho → R PD) : Rho → R PD := fun ρ => (ga ρ).bind f
variable {r r' : R2} {f f' : PD → PD → R PD}
theorem td_op (hr : RD K r f) (ha : TDr K W ta ga) (hb : TDr K W tb gb) : TDe K W (tOp r ta tb) (eOp f ga gb) := fun F0 H0 F H σ ρ Q S q =>
  ha F0 H0 F H σ ρ _ S (q.then fun a F1 H1 e1 k1 v rv => hb F0 H0 F1 H1 σ ρ _ (S.go e1) (k1.then fun b F2 H2 e2 k2 u ru =>
    hr W σ F2 H2 v u a b Q e2.g (rv.ext e2.f e2.h) ru k2))
theorem to_op (hr : RDo K r f) (ha : TDr K W ta ga) (hb : TDr K W tb gb) : TDo K W (tOp r ta tb) (eOp f ga gb) := fun F0 H0 F H σ ρ Q S q =>
  ha F0 H0 F H σ ρ _ S (by
    unfold eOp at q
    cases e : ga ρ with
    | exc c => rw [e] at q; exact q
    | bad => rw [e] at q; exact q
    | ok a =>
      rw [e] at q
      intro F1 H1 e1 v rv
      refine hb F0 H0 F1 H1 σ ρ _ (S.go e1) ?_
      have q : Fin K W σ F H ((gb ρ).bind fun b => f a b) (OwQ K H Q) := q
      cases e' : gb ρ with
      | exc c => rw [e'] at q; exact Fin.mono e1 (r := (.exc c : R PD)) q
      | bad => rw [e'] at q; exact q
      | ok b =>
        rw [e'] at q
        intro F2 H2 e2 u ru
        have q2 : Fin K W σ F2 H2 (f a b) (OwQ K H Q) := Fin.mono (e1.trans e2) q
        exact hr W σ F2 H2 v u a b Q e2.g (rv.ext e2.f e2.h) ru (q2.imp fun x F' H' e3 k p hp hf ho => k p ((e1.trans e2).h.free hp) hf ho))
theorem td_un {r : V → Hp → VK → Prop} {f : PD → R PD} (hr : RU K r f) (ha : TDr K W ta ga) : TDe K W (tUn r ta) (eUn f ga) := fun F0 H0 F H σ ρ Q S q =>
  ha F0 H0 F H σ ρ _ S (q.then fun a F1 H1 e1 k1 v rv => hr W σ F1 H1 v a Q e1.g rv k1)
theorem RD.or {g : PD → PD → R PD} (h : ∀ (W : WX) (σ : L2.St) (F H : Hp) (x y : V) (a b : PD) (Q : VK), Same F H → Rp K F H x a → Rp K F H y b → Fin K W σ F H (g a b) (DpQ K Q) → r x y H Q ∨ r' x y H Q) :
    RD K (fun x y H Q => r x y H Q ∨ r' x y H Q) g := h

/-! ### tests -/
def asB : PD → R Bool
  | .bool b => .ok b
  | _ => .bad
def bOf (g : Rho → R PD) : Rho → R Bool := fun ρ => (g ρ).bind asB
theorem asB_q {Q : Bool → Hp → Prop} {F1 H1 : Hp} {σ : L2.St} {a : PD} {v : V} (s : Same F1 H1) (r : Rp K F1 H1 v a) (k : Fin K W σ F1 H1 (asB a) (BoQ Q)) : ∃ c, v = .bl c ∧ Q c H1 := by
  cases a with
  | bool b =>
    have e := r.bool
    exact ⟨b, e, k.ok s⟩
  | _ => exact k.elim
theorem tt_test (h : TDr K W t g) : TDt K W (tTest t) (bOf g) := fun F0 H0 F H σ ρ Q S q =>
  h F0 H0 F H σ ρ _ S (q.then fun a F1 H1 e1 k1 v rv => asB_q e1.g rv k1)
theorem tt_B (h : TDr K W t g) : TDt K W (tB t) (bOf g) := fun F0 H0 F H σ ρ Q S q =>
  h F0 H0 F H σ ρ _ S (q.then fun a F1 H1 e1 k1 v rv => asB_q e1.g rv k1)
variable {t1 t2 : TT} {g1 g2 : Rho → R Bool}
def bAnd (g1 g2 : Rho → R Bool) : Rho → R Bool := fun ρ => (g1 ρ).bind fun c => if c = true then g2 ρ else .ok false
def bOr (g1 g2 : Rho → R Bool) : Rho → R Bool := fun ρ => (g1 ρ).bind fun c => if c = true then .ok true else g2 ρ
def bNot (g1 : Rho → R Bool) : Rho → R Bool := fun ρ => (g1 ρ).bind fun c => .ok !c
theorem tt_and (h1 : TDt K W t1 g1) (h2 : TDt K W t2 g2) : TDt K W (tAnd t1 t2) (bAnd g1 g2) := fun F0 H0 F H σ ρ Q S q =>
  h1 F0 H0 F H σ ρ _ S (q.then fun c F1 H1 e1 k1 => by
    cases c with
    | true => exact h2 F0 H0 F1 H1 σ ρ Q (S.go e1) k1
    | false => exact Fin.okk (x := false) K W σ e1.g k1)
theorem tt_or (h1 : TDt K W t1 g1) (h2 : TDt K W t2 g2) : TDt K W (tOr t1 t2) (bOr g1 g2) := fun F0 H0 F H σ ρ Q S q =>
  h1 F0 H0 F H σ ρ _ S (q.then fun c F1 H1 e1 k1 => by
    cases c with
    | false => exact h2 F0 H0 F1 H1 σ ρ Q (S.go e1) k1
    | true => exact Fin.okk (x := true) K W σ e1.g k1)
theorem tt_not (h1 : TDt K W t1 g1) : TDt K W (tNot t1) (bNot g1) := fun F0 H0 F H σ ρ Q S q =>
  h1 F0 H0 F H σ ρ _ S (q.then fun c F1 H1 e1 k1 => Fin.okk (x := !c) K W σ e1.g k1)
/-- .. as values -/
def eAnd (ga gb : Rho → R PD) : Rho → R PD := fun ρ => (ga ρ).bind fun a => (asB a).bind fun c => if c = true then gb ρ else .ok (.bool false)
def eOr (ga gb : Rho → R PD) : Rho → R PD := fun ρ => (ga ρ).bind fun a => (asB a).bind fun c => if c = true then .ok (.bool true) else gb ρ
def eNot (ga : Rho → R PD) : Rho → R PD := fun ρ => (ga ρ).bind fun a => (asB a).bind fun c => .ok (.bool !c)
theorem asB_k {P : PD → Hp → Hp → Prop} {F1 H1 : Hp} {σ : L2.St} {a : PD} {v : V} {k : Bool → R PD} (s : Same F1 H1) (r : Rp K F1 H1 v a) (h : Fin K W σ F1 H1 ((asB a).bind k) P) : ∃ c, v = .bl c ∧ Fin K W σ F1 H1 (k c) P := by
  cases a with
  | bool b => exact ⟨b, r.bool, h⟩
  | _ => exact h.elim
theorem td_and (ha : TDr K W ta ga) (hb : TDe K W tb gb) : TDe K W (tAndV ta tb) (eAnd ga gb) := fun F0 H0 F H σ ρ Q S q =>
  ha F0 H0 F H σ ρ _ S (q.then fun a F1 H1 e1 k1 v rv => by
    obtain ⟨c, e, k2⟩ := asB_k e1.g rv k1
    refine ⟨c, e, ?_⟩
    cases c with
    | true => exact hb F0 H0 F1 H1 σ ρ Q (S.go e1) k2
    | false => exact Fin.okk (x := PyData.bool false) K W σ e1.g k2 _ (.bl false))
theorem td_or (ha : TDr K W ta ga) (hb : TDe K W tb gb) : TDe K W (tOrV ta tb) (eOr ga gb) := fun F0 H0 F H σ ρ Q S q =>
  ha F0 H0 F H σ ρ _ S (q.then fun a F1 H1 e1 k1 v rv => by
    obtain ⟨c, e, k2⟩ := asB_k e1.g rv k1
    refine ⟨c, e, ?_⟩
    cases c with
    | false => exact hb F0 H0 F1 H1 σ ρ Q (S.go e1) k2
    | true => exact Fin.okk (x := PyData.bool true) K W σ e1.g k2 _ (.bl true))
theorem td_not (ha : TDr K W ta ga) : TDe K W (tNotV ta) (eNot ga) := fun F0 H0 F H σ ρ Q S q =>
  ha F0 H0 F H σ ρ _ S (q.then fun a F1 H1 e1 k1 v rv => by
    obtain ⟨c, e, k2⟩ := asB_k e1.g rv k1
    exact ⟨c, e, Fin.okk (x := PyData.bool !c) K W σ e1.g k2 _ (.bl _)⟩)
def eIf (gt : Rho → R Bool) (ga gb : Rho → R PD) : Rho → R PD := fun ρ => (gt ρ).bind fun c => if c = true then ga ρ else gb ρ
theorem td_if (h1 : TDt K W t1 g1) (ha : TDe K W ta ga) (hb : TDe K W tb gb) : TDe K W (tIf t1 ta tb) (eIf g1 ga gb) := fun F0 H0 F H σ ρ Q S q =>
  h1 F0 H0 F H σ ρ _ S (q.then fun c F1 H1 e1 k1 => by
    cases c with
    | true => exact ha F0 H0 F1 H1 σ ρ Q (S.go e1) k1
    | false => exact hb F0 H0 F1 H1 σ ρ Q (S.go e1) k1)
/-- a op b op' c -/
def eChain (f f' : PD → PD → R PD) (ga gb gc : Rho → R PD) : Rho → R PD := fun ρ => (ga ρ).bind fun a => (gb ρ).bind fun b => (f a b).bind fun z => (asB z).bind fun k => if k = true then (gc ρ).bind fun c => f' b c else .ok (.bool false)
theorem td_chain (hr : RD K r f) (hr' : RD K r' f') (ha : TDr K W ta ga) (hb : TDr K W tb gb) (hc : TDr K W tc gc) : TDe K W (tChain r r' ta tb tc) (eChain f f' ga gb gc) := fun F0 H0 F H σ ρ Q S q =>
  ha F0 H0 F H σ ρ _ S (q.then fun a F1 H1 e1 k1 v rv => hb F0 H0 F1 H1 σ ρ _ (S.go e1) (k1.then fun b F2 H2 e2 k2 u ru =>
    hr W σ F2 H2 v u a b _ e2.g (rv.ext e2.f e2.h) ru (k2.then fun z F3 H3 e3 k3 zv rz => by
      obtain ⟨c, e, k4⟩ := asB_k e3.g (.inl rz) k3
      refine ⟨c, e, ?_⟩
      cases c with
      | false => exact Fin.okk (x := PyData.bool false) K W σ e3.g k4 _ (.bl false)
      | true => exact hc F0 H0 F3 H3 σ ρ _ (((S.go e1).go e2).go e3) (k4.then fun w F4 H4 e4 k5 wv rw' =>
          hr' W σ F4 H4 u wv b w Q e4.g ((ru.ext e3.f e3.h).ext e4.f e4.h) rw' k5))))

/-! ### arguments, displays -/
def aNil : Rho → R (List PD) := fun _ => .ok []
def aCons (ga : Rho → R PD) (gr : Rho → R (List PD)) : Rho → R (List PD) := fun ρ => (ga ρ).bind fun a => (gr ρ).bind fun l => .ok (a :: l)
variable {tr : TA} {gr : Rho → R (List PD)}
theorem ta_nil : TDa K W tNil aNil := fun F0 H0 F H σ ρ Q S q => q.ok S.same _ .nil
theorem ta_cons (ha : TDe K W ta ga) (hr : TDa K W tr gr) : TDa K W (tCons ta tr) (aCons ga gr) := fun F0 H0 F H σ ρ Q S q =>
  ha F0 H0 F H σ ρ _ S (q.then fun a F1 H1 e1 k1 v rv => hr F0 H0 F1 H1 σ ρ _ (S.go e1) (k1.then fun l F2 H2 e2 k2 vs rs => k2.ok e2.g _ (.cons (rv.mono e2.f) rs)))
theorem tq_nil : TDq K W tNil aNil := fun F0 H0 F H σ ρ Q S q => q.ok S.same _ .nil
theorem tq_cons (ha : TDr K W ta ga) (hr : TDq K W tr gr) : TDq K W (tCons ta tr) (aCons ga gr) := fun F0 H0 F H σ ρ Q S q =>
  ha F0 H0 F H σ ρ _ S (q.then fun a F1 H1 e1 k1 v rv => hr F0 H0 F1 H1 σ ρ _ (S.go e1) (k1.then fun l F2 H2 e2 k2 vs rs => k2.ok e2.g _ (.cons (rv.ext e2.f e2.h) rs)))
def eTup (gr : Rho → R (List PD)) : Rho → R PD := fun ρ => (gr ρ).bind fun l => if l.length ≤ sizeLine then .ok (.tuple l) else .bad
def oLst (gr : Rho → R (List PD)) : Rho → R PD := fun ρ => (gr ρ).bind fun l => if l.length ≤ sizeLine then .ok (.list l) else .bad
theorem td_tup (hr : TDa K W tr gr) : TDe K W (tTup tr) (eTup gr) := fun F0 H0 F H σ ρ Q S q =>
  hr F0 H0 F H σ ρ _ S (q.then fun l F1 H1 e1 k1 vs rs => by
    by_cases hl : l.length ≤ sizeLine
    · rw [if_pos hl] at k1
      refine ⟨by rw [rs.length]; exact hl, fun p hp => ?_⟩
      have e2 := Ext.new (o := .tup vs) e1.g hp
      exact k1 _ _ e2 _ (.tup upd_same (rs.mono e2.f))
    · rw [if_neg hl] at k1
      exact k1.elim)
theorem to_lst (hr : TDa K W tr gr) : TDo K W (tLst tr) (oLst gr) := fun F0 H0 F H σ ρ Q S q =>
  hr F0 H0 F H σ ρ _ S (q.then fun l F1 H1 e1 k1 vs rs => by
    by_cases hl : l.length ≤ sizeLine
    · rw [if_pos hl] at k1
      refine ⟨by rw [rs.length]; exact hl, fun p hp => ?_⟩
      have e2 := Ext.own (o := .lst vs) e1.g hp
      exact k1 _ _ e2 p (e1.h.free hp) (e1.g.free hp) ⟨vs, upd_same, rs⟩
    · rw [if_neg hl] at k1
      exact k1.elim)
end

/-! ### statements -/
inductive SR where
  | nx (ρ : Rho)
  | rt (s : Sl)
  | bk (ρ : Rho)
  | ct (ρ : Rho)
  | exc (c : Ec)
  | bad
def SR.seq (a : SR) (k : Rho → SR) : SR := match a with
  | .nx ρ => k ρ
  | s => s
def SR.of {α : Type} (r : R α) (k : α → SR) : SR := match r with
  | .ok a => k a
  | .exc c => .exc c
  | .bad => .bad
def RetQ (K : PySem.W.Frag) (F0 H0 : Hp) (Q : VK) : Sl → Prop
  | .d x => ∀ v F H, Ext F0 H0 F H → Dp K F v x → Q v H
  | .t x => ∀ v fp F H, Ext F0 H0 F H → TvAt K F H fp v x → fp.Nodup → (∀ p ∈ fp, H0 p = none ∧ F p = none) → Q v H
  | .l _ => False
def FinS (K : PySem.W.Frag) (W : WX) (F0 H0 : Hp) (D : Ends) : SR → Prop
  | .nx ρ => ∀ σ F H, StR K F0 H0 F H σ ρ → D.nx σ H
  | .bk ρ => ∀ σ F H, StR K F0 H0 F H σ ρ → D.bk σ H
  | .ct ρ => ∀ σ F H, StR K F0 H0 F H σ ρ → D.ct σ H
  | .rt s => RetQ K F0 H0 D.rt s
  | .exc c => ∀ cls d σ F H, Ext F0 H0 F H → ExR K c cls d H → W cls d σ H
  | .bad => False
def TDS (K : PySem.W.Frag) (W : WX) (t : TS) (s : Rho → SR) : Prop := ∀ (F0 H0 F H : Hp) (σ : L2.St) (ρ : Rho) (D : Ends), StR K F0 H0 F H σ ρ → FinS K W F0 H0 D (s ρ) → t D σ H
section
variable {K : PySem.W.Frag} {W : WX} {F0 H0 F H : Hp} {D D' : Ends} {σ : L2.St} {ρ : Rho}
theorem FinS.of {α : Type} {r : R α} {k : α → SR} {P : α → Hp → Hp → Prop} (b : Ext F0 H0 F H) (h : FinS K W F0 H0 D (SR.of r k)) (f : ∀ x F1 H1, Ext F H F1 H1 → FinS K W F0 H0 D (k x) → P x F1 H1) : Fin K W σ F H r P := by
  cases r with
  | ok x => exact fun F1 H1 e => f x F1 H1 e h
  | exc c => exact fun cls d F1 H1 e q => h cls d σ F1 H1 (b.trans e) q
  | bad => exact h
/-- the base put to where one stands -/
theorem FinS.rebase {s : SR} (b : Ext F0 H0 F H) (h : FinS K W F0 H0 D s) : FinS K W F H0 D s := by
  cases s with
  | nx ρ => exact fun σ F1 H1 S => h σ F1 H1 (S.unbase b)
  | bk ρ => exact fun σ F1 H1 S => h σ F1 H1 (S.unbase b)
  | ct ρ => exact fun σ F1 H1 S => h σ F1 H1 (S.unbase b)
  | rt s =>
    cases s with
    | d x => exact fun v F1 H1 e q => h v F1 H1 (b.base e) q
    | t x => exact fun v fp F1 H1 e q1 q2 q3 => h v fp F1 H1 (b.base e) q1 q2 q3
    | l x => exact h
  | exc c => exact fun cls d σ F1 H1 e q => h cls d σ F1 H1 (b.base e) q
  | bad => exact h
theorem SR.seq_fin {s : SR} {k : Rho → SR} (h : FinS K W F0 H0 D (s.seq k)) (hn : ∀ ρ σ F H, StR K F0 H0 F H σ ρ → FinS K W F0 H0 D (k ρ) → D'.nx σ H) (e1 : D'.rt = D.rt) (e2 : D'.bk = D.bk) (e3 : D'.ct = D.ct) : FinS K W F0 H0 D' s := by
  cases s with
  | nx ρ => exact fun σ F H S => hn ρ σ F H S h
  | bk ρ => exact fun σ F H S => by rw [e2]; exact h σ F H S
  | ct ρ => exact fun σ F H S => by rw [e3]; exact h σ F H S
  | rt s =>
    show RetQ K F0 H0 D'.rt s
    rw [e1]; exact h
  | exc c => exact h
  | bad => exact h
end
section
variable {K : PySem.W.Frag} {W : WX} {t u : TS} {s s' : Rho → SR} {te : TE} {g : Rho → R PD} {tt : TT} {gt : Rho → R Bool}
def sNext : Rho → SR := .nx
theorem ds_next : TDS K W tNext sNext := fun F0 H0 F H σ ρ D S q => q σ F H S
def sSeq (s s' : Rho → SR) : Rho → SR := fun ρ => (s ρ).seq s'
theorem ds_seq (h : TDS K W t s) (h' : TDS K W u s') : TDS K W (tSeq t u) (sSeq s s') := fun F0 H0 F H σ ρ D S q =>
  h F0 H0 F H σ ρ _ S (SR.seq_fin (D' := { D with nx := u D }) q (fun ρ1 σ1 F1 H1 S1 q1 => h' F0 H0 F1 H1 σ1 ρ1 D S1 q1) rfl rfl rfl)
def sBreak : Rho → SR := .bk
def sCont : Rho → SR := .ct
theorem ds_break : TDS K W tBreak sBreak := fun F0 H0 F H σ ρ D S q => q σ F H S
theorem ds_cont : TDS K W tCont sCont := fun F0 H0 F H σ ρ D S q => q σ F H S
theorem ds_never : TDS K W tNever (fun _ => .bad) := fun F0 H0 F H σ ρ D S q => q
/-- ahead of a statement lists become data -/
def sFrz (is : List Nat) (s : Rho → SR) : Rho → SR := fun ρ => s (is.foldl (fun ρ i => frz1 i ρ) ρ)
theorem ds_frz (is : List Nat) (h : TDS K W t s) : TDS K W t (sFrz is s) := by
  unfold sFrz
  induction is with
  | nil => exact h
  | cons i is ih =>
    intro F0 H0 F H σ ρ D S q
    obtain ⟨F', e, _, S'⟩ := S.frz1 i
    exact ih F0 H0 F' H σ _ D S' q
def sRet (g : Rho → R PD) : Rho → SR := fun ρ => SR.of (g ρ) fun x => .rt (.d x)
def sRetO (g : Rho → R PD) : Rho → SR := fun ρ => SR.of (g ρ) fun x => .rt (.o x)
/-- return of a name -/
def sRetV (i : Nat) : Rho → SR := fun ρ => match ρ[i]? with
  | some (some s) => .rt s
  | _ => .bad
theorem ds_ret (h : TDe K W te g) : TDS K W (tRet te) (sRet g) := fun F0 H0 F H σ ρ D S q =>
  h F0 H0 F H σ ρ _ S (q.of S.ext fun x F1 H1 e k v r => k v F1 H1 (S.ext.trans e) r)
theorem RetQ.own {F0 H0 : Hp} {Q : VK} {x : PD} (h : RetQ K F0 H0 Q (.o x)) : ∀ p F H, Ext F0 H0 F H → H0 p = none → F p = none → OwnAt K F H p x → Q (.ref p) H :=
  fun p F H e h1 h2 h3 => h (.ref p) [p] F H e (.own h3) (by simp) fun q hq => by rw [List.mem_singleton.mp hq]; exact ⟨h1, h2⟩
theorem ds_retO (h : TDo K W te g) : TDS K W (tRet te) (sRetO g) := fun F0 H0 F H σ ρ D S q =>
  h F0 H0 F H σ ρ _ S (q.of S.ext fun x F1 H1 e k p hp hf ho => RetQ.own k p F1 H1 (S.ext.trans e) (S.ext.h.free hp) hf ho)
theorem ds_retV (i : Nat) : TDS K W (tRet (tVar i)) (sRetV i) := fun F0 H0 F H σ ρ D S q => by
  unfold sRetV at q
  split at q
  · rename_i s e
    cases s with
    | d x =>
      obtain ⟨v, a, b⟩ := S.dat i x e
      exact ⟨v, a, q v F H S.ext b⟩
    | t x =>
      obtain ⟨φ, S⟩ := S
      obtain ⟨v, a, b⟩ := S.tre i x e
      exact ⟨_, a, q v (φ i) F H S.ext b (S.nod i) fun p hp => let ⟨x1, x2, _⟩ := S.fre i p hp; ⟨x1, x2⟩⟩
    | l x => exact q.elim
  · exact q.elim
theorem ds_retN : TDS K W tRetN (fun _ => .rt (.d .none)) := fun F0 H0 F H σ ρ D S q => q .non F H S.ext .non
def sIf (gt : Rho → R Bool) (s s' : Rho → SR) : Rho → SR := fun ρ => SR.of (gt ρ) fun c => if c = true then s ρ else s' ρ
theorem ds_if (ht : TDt K W tt gt) (h : TDS K W t s) (h' : TDS K W u s') : TDS K W (tIfS tt t u) (sIf gt s s') := fun F0 H0 F H σ ρ D S q =>
  ht F0 H0 F H σ ρ _ S (q.of S.ext fun c F1 H1 e k => by
    cases c with
    | true => exact h F0 H0 F1 H1 σ ρ D (S.go e) k
    | false => exact h' F0 H0 F1 H1 σ ρ D (S.go e) k)
def sDrop (g : Rho → R PD) : Rho → SR := fun ρ => SR.of (g ρ) fun _ => .nx ρ
theorem ds_drop (h : TDe K W te g) : TDS K W (tDrop te) (sDrop g) := fun F0 H0 F H σ ρ D S q =>
  h F0 H0 F H σ ρ _ S (q.of S.ext fun x F1 H1 e k v r => k σ F1 H1 (S.go e))

/-! ### targets -/
/-- a target: names (of the slots vs) and tuples of them -/
def TDg (K : PySem.W.Frag) (vs : List Nat) (g : TG) (a : Rho → PD → R Rho) : Prop := ∀ (F0 H0 F H : Hp) (σ : L2.St) (ρ : Rho) (v : V) (x : PD) (Q : L2.St → Hp → Prop), StR K F0 H0 F H σ ρ → Dp K F v x →
  (match a ρ x with | .ok ρ' => ∀ σ', StR K F0 H0 F H σ' ρ' → wipe σ' vs = wipe σ vs → Q σ' H | _ => False) → g v σ H Q
def TDgs (K : PySem.W.Frag) (vs : List Nat) (g : TGs) (a : Rho → List PD → R Rho) : Prop := ∀ (F0 H0 F H : Hp) (σ : L2.St) (ρ : Rho) (us : List V) (xs : List PD) (Q : L2.St → Hp → Prop), StR K F0 H0 F H σ ρ → DpAll K F us xs →
  (match a ρ xs with | .ok ρ' => ∀ σ', StR K F0 H0 F H σ' ρ' → wipe σ' vs = wipe σ vs → Q σ' H | _ => False) → g us σ H Q
theorem wipe_set {σ : L2.St} {i : Nat} {x : Option V} : ∀ {vs : List Nat}, i ∈ vs → wipe (σ.set i x) vs = wipe σ vs
  | [], h => by cases h
  | v :: vs, h => by
    unfold wipe
    by_cases hm : i ∈ vs
    · rw [wipe_set hm]
    · have e : v = i := by
        rcases List.mem_cons.mp h with z | z
        · exact z.symm
        · exact absurd z hm
      subst e
      have go : ∀ {us : List Nat}, v ∉ us → wipe (σ.set v x) us = (wipe σ us).set v x := by
        intro us
        induction us with
        | nil => intro _; rfl
        | cons u us ih =>
          intro hn
          simp only [List.mem_cons, not_or] at hn
          unfold wipe
          rw [ih hn.2, List.set_comm _ _ hn.1]
      rw [go hm, List.set_set]
def aName (i : Nat) : Rho → PD → R Rho := fun ρ x => .ok (ρ.set i (some (.d x)))
theorem dg_name (i : Nat) {vs : List Nat} (h : i ∈ vs := by decide) : TDg K vs (gName i) (aName i) := fun F0 H0 F H σ ρ v x Q S r q => q _ (S.setD r) (wipe_set h)
def asNil : Rho → List PD → R Rho := fun ρ xs => match xs with
  | [] => .ok ρ
  | _ => .bad
def asCons (a : Rho → PD → R Rho) (b : Rho → List PD → R Rho) : Rho → List PD → R Rho := fun ρ xs => match xs with
  | x :: xs => (a ρ x).bind fun ρ' => b ρ' xs
  | [] => .bad
theorem dgs_nil {vs : List Nat} : TDgs K vs gNil asNil := fun F0 H0 F H σ ρ us xs Q S r q => by
  cases r with
  | nil => exact ⟨rfl, q σ S rfl⟩
  | cons _ _ => exact q.elim
theorem dgs_cons {vs : List Nat} {gx : TG} {gs : TGs} {a : Rho → PD → R Rho} {b : Rho → List PD → R Rho} (h : TDg K vs gx a) (hs : TDgs K vs gs b) : TDgs K vs (gCons gx gs) (asCons a b) := fun F0 H0 F H σ ρ us xs Q S r q => by
  cases r with
  | nil => exact q.elim
  | cons r1 r2 =>
    refine ⟨_, _, rfl, h F0 H0 F H σ ρ _ _ _ S r1 ?_⟩
    rename_i v us x xs
    have q : (match (a ρ x).bind fun ρ' => b ρ' xs with | .ok ρ' => ∀ σ', StR K F0 H0 F H σ' ρ' → wipe σ' vs = wipe σ vs → Q σ' H | _ => False) := q
    cases e : a ρ x with
    | ok ρ1 =>
      rw [e] at q
      intro σ1 S1 w1
      refine hs F0 H0 F H σ1 ρ1 _ _ _ S1 r2 ?_
      have q : (match b ρ1 xs with | .ok ρ' => ∀ σ', StR K F0 H0 F H σ' ρ' → wipe σ' vs = wipe σ vs → Q σ' H | _ => False) := q
      cases e2 : b ρ1 xs with
      | ok ρ2 => rw [e2] at q; exact fun σ2 S2 w2 => q σ2 S2 (w2.trans w1)
      | exc c => rw [e2] at q; exact q.elim
      | bad => rw [e2] at q; exact q.elim
    | exc c => rw [e] at q; exact q.elim
    | bad => rw [e] at q; exact q.elim
def aTup (n : Nat) (b : Rho → List PD → R Rho) : Rho → PD → R Rho := fun ρ x => match x with
  | .tuple xs => if xs.length = n then b ρ xs else .bad
  | _ => .bad
theorem dg_tup {vs : List Nat} {n : Nat} {gs : TGs} {b : Rho → List PD → R Rho} (hs : TDgs K vs gs b) : TDg K vs (gTup K n gs) (aTup n b) := fun F0 H0 F H σ ρ v x Q S r q => by
  unfold aTup at q
  cases r with
  | tup s a =>
    simp only at q
    split at q
    · rename_i e
      split at e
      · rename_i hl
        refine ⟨_, _, rfl, SqT.of (S.same _ _ s), by rw [a.length]; exact hl, hs F0 H0 F H σ ρ _ _ _ S a ?_⟩
        rw [e]; exact q
      · cases e
    · exact q.elim
  | _ => exact q.elim
/-- target = value -/
def SR.ofT : R Rho → SR
  | .ok ρ => .nx ρ
  | _ => .bad
def sAsg (g : Rho → R PD) (a : Rho → PD → R Rho) : Rho → SR := fun ρ => SR.of (g ρ) fun x => SR.ofT (a ρ x)
theorem ds_asg {vs : List Nat} {gx : TG} {a : Rho → PD → R Rho} (h : TDe K W te g) (hg : TDg K vs gx a) : TDS K W (tAsg te gx) (sAsg g a) := fun F0 H0 F H σ ρ D S q =>
  h F0 H0 F H σ ρ _ S (q.of S.ext fun x F1 H1 e k v r => hg F0 H0 F1 H1 σ ρ v x _ (S.go e) r (by
    have k : FinS K W F0 H0 D (SR.ofT (a ρ x)) := k
    cases e : a ρ x with
    | ok ρ1 => rw [e] at k; exact fun σ1 S1 _ => k σ1 F1 H1 S1
    | exc c => rw [e] at k; exact k
    | bad => rw [e] at k; exact k))
/-- name = a new list, a new dict -/
def sSetO (i : Nat) (g : Rho → R PD) : Rho → SR := fun ρ => SR.of (g ρ) fun x => .nx (ρ.set i (some (.o x)))
/-- name = data -/
def sSet (i : Nat) (g : Rho → R PD) : Rho → SR := fun ρ => SR.of (g ρ) fun x => .nx (ρ.set i (some (.d x)))
theorem ds_set (i : Nat) (h : TDe K W te g) : TDS K W (tAsg te (gName i)) (sSet i g) := fun F0 H0 F H σ ρ D S q =>
  h F0 H0 F H σ ρ _ S (q.of S.ext fun x F1 H1 e k v r => k _ F1 H1 ((S.go e).setD r))
theorem ds_setO (i : Nat) (h : TDo K W te g) : TDS K W (tAsg te (gName i)) (sSetO i g) := fun F0 H0 F H σ ρ D S q =>
  h F0 H0 F H σ ρ _ S (q.of S.ext fun x F1 H1 e k p hp hf ho => k _ F1 H1 (S.setN e hp hf ho))
end
end DL
namespace DL
open PySem PySem.Spec PyProof.Rows L2

/-! ### what is walked -/
def ItR (K : PySem.W.Frag) (F : Hp) (ds : List PD) (J : It) : Prop := ∀ (i : Nat) (F1 H1 : Hp), Same F F1 → Same F1 H1 →
  (∀ d, ds[i]? = some d → J.go i H1 ∧ ∀ x H2, J.yld i H1 x H2 → ∃ F2, Ext F1 H1 F2 H2 ∧ Dp K F2 x d) ∧ (ds.length ≤ i → J.stop i H1)
def TDi (K : PySem.W.Frag) (W : WX) (wi : TI) (gi : Rho → R (List PD)) : Prop := ∀ (F0 H0 F H : Hp) (σ : L2.St) (ρ : Rho) (Q : It → Hp → Prop), StR K F0 H0 F H σ ρ → Fin K W σ F H (gi ρ) (fun ds F' H' => ∀ J, ItR K F' ds J → Q J H') → wi σ H Q
theorem itr_list {K : PySem.W.Frag} {F : Hp} {a : Addr} {vs : List V} {ds : List PD} (s : SqL K F a vs) (r : DpAll K F vs ds) : ItR K F ds (Itl K a) := fun i F1 H1 e1 e2 => by
  have s1 := seqL (e1.trans e2) s
  refine ⟨fun d hd => ?_, fun hl => ⟨vs, s1, by rw [r.length]; exact hl⟩⟩
  obtain ⟨v, hv, rv⟩ := r.get' hd
  refine ⟨⟨vs, v, s1, hv⟩, fun x H2 y => ?_⟩
  obtain ⟨rfl, y⟩ := y
  have e := y vs s1
  rw [hv] at e; cases e
  exact ⟨F1, Ext.refl e2, rv.mono e1⟩
theorem itr_tup {K : PySem.W.Frag} {F : Hp} {a : Addr} {vs : List V} {ds : List PD} (s : SqT K F a vs) (r : DpAll K F vs ds) : ItR K F ds (Itt K a) := fun i F1 H1 e1 e2 => by
  have s1 := seqT (e1.trans e2) s
  refine ⟨fun d hd => ?_, fun hl => ⟨vs, s1, by rw [r.length]; exact hl⟩⟩
  obtain ⟨v, hv, rv⟩ := r.get' hd
  refine ⟨⟨vs, v, s1, hv⟩, fun x H2 y => ?_⟩
  obtain ⟨rfl, y⟩ := y
  have e := y vs s1
  rw [hv] at e; cases e
  exact ⟨F1, Ext.refl e2, rv.mono e1⟩
def signs (x : Str) : List PD := x.cps.toList.map fun c => .str ⟨#[c]⟩
theorem itr_str {K : PySem.W.Frag} {F : Hp} {x : Str} : ItR K F (signs x) (Its x) := fun i F1 H1 e1 e2 => by
  refine ⟨fun d hd => ?_, fun hl => by simpa [signs, Its] using hl⟩
  unfold signs at hd
  rw [List.getElem?_map] at hd
  cases e : x.cps.toList[i]? with
  | none => rw [e] at hd; cases hd
  | some c =>
    rw [e] at hd
    have hd : PyData.str ⟨#[c]⟩ = d := Option.some.inj hd
    subst hd
    have hc : x.cps[i]? = some c := by simpa using e
    refine ⟨(Array.getElem?_eq_some_iff.mp hc).1, fun v H2 y => ?_⟩
    obtain ⟨rfl, c', h', rfl⟩ := y
    rw [hc] at h'; cases h'
    exact ⟨F1, Ext.refl e2, .str _⟩
def rngD (lo : Int) (n : Nat) : List PD := (List.range n).map fun i => .int (lo + (i : Nat))
theorem itr_rng {K : PySem.W.Frag} {F : Hp} {lo : Int} {n : Nat} : ItR K F (rngD lo n) (Itr lo n) := fun i F1 H1 e1 e2 => by
  refine ⟨fun d hd => ?_, fun hl => by simpa [rngD, Itr] using hl⟩
  unfold rngD at hd
  rw [List.getElem?_map] at hd
  by_cases hn : i < n
  · rw [List.getElem?_range hn] at hd
    cases hd
    refine ⟨hn, fun v H2 y => ?_⟩
    obtain ⟨rfl, rfl⟩ := y
    exact ⟨F1, Ext.refl e2, .int _⟩
  · rw [List.getElem?_eq_none (by simpa using hn)] at hd; cases hd
def enumD (ds : List PD) : List PD := ds.zipIdx.map fun p => .tuple [.int (p.2 : Nat), p.1]
theorem enum_at {ds : List PD} {i : Nat} {d : PD} (h : (enumD ds)[i]? = some d) : ∃ x, ds[i]? = some x ∧ d = .tuple [.int (i : Nat), x] := by
  unfold enumD at h
  rw [List.getElem?_map, List.getElem?_zipIdx] at h
  cases e : ds[i]? with
  | none => rw [e] at h; cases h
  | some x =>
    rw [e] at h
    refine ⟨x, rfl, ?_⟩
    have h := (Option.some.inj h).symm
    simpa using h
theorem itr_enum {K : PySem.W.Frag} {F : Hp} {a : Addr} {vs : List V} {ds : List PD} (s : SqL K F a vs) (r : DpAll K F vs ds) : ItR K F (enumD ds) (Ite K a) := fun i F1 H1 e1 e2 => by
  have s1 := seqL (e1.trans e2) s
  refine ⟨fun d hd => ?_, fun hl => ⟨vs, s1, by rw [r.length]; simpa [enumD] using hl⟩⟩
  obtain ⟨x, hx, rfl⟩ := enum_at hd
  obtain ⟨v, hv, rv⟩ := r.get' hx
  refine ⟨⟨vs, v, s1, hv⟩, fun x' H2 y => ?_⟩
  obtain ⟨T, u, rfl, hT, rfl, y⟩ := y
  have e := y vs s1
  rw [hv] at e; cases e
  have ex := Ext.new (o := .tup [.int (i : Nat), v]) e2 hT
  exact ⟨_, ex, .tup upd_same (.cons (.int _) (.cons (rv.mono (e1.trans ex.f)) .nil))⟩
def zipD (ds es : List PD) : List PD := (ds.zip es).map fun p => .tuple [p.1, p.2]
theorem itr_zip {K : PySem.W.Frag} {F : Hp} {a b : Addr} {vs us : List V} {ds es : List PD} (s : SqL K F a vs) (r : DpAll K F vs ds) (s' : SqL K F b us) (r' : DpAll K F us es) : ItR K F (zipD ds es) (Itz K a b) := fun i F1 H1 e1 e2 => by
  have s1 := seqL (e1.trans e2) s
  have s2 := seqL (e1.trans e2) s'
  refine ⟨fun d hd => ?_, fun hl => ⟨vs, us, s1, s2, ?_⟩⟩
  · unfold zipD at hd
    rw [List.getElem?_map] at hd
    cases e : (ds.zip es)[i]? with
    | none => rw [e] at hd; cases hd
    | some p =>
      rw [e] at hd
      have hd : PyData.tuple [p.1, p.2] = d := Option.some.inj hd
      subst hd
      obtain ⟨h1, h2⟩ := List.getElem?_zip_eq_some.mp e
      obtain ⟨v, hv, rv⟩ := r.get' h1
      obtain ⟨u, hu, ru⟩ := r'.get' h2
      refine ⟨⟨vs, us, v, u, s1, s2, hv, hu⟩, fun x' H2 y => ?_⟩
      obtain ⟨T, v', u', rfl, hT, rfl, y1, y2⟩ := y
      have z1 := y1 vs s1
      have z2 := y2 us s2
      rw [hv] at z1; cases z1
      rw [hu] at z2; cases z2
      have ex := Ext.new (o := .tup [v, u]) e2 hT
      exact ⟨_, ex, .tup upd_same (.cons (rv.mono (e1.trans ex.f)) (.cons (ru.mono (e1.trans ex.f)) .nil))⟩
  · rw [r.length, r'.length]
    unfold zipD at hl
    rw [List.length_map, List.length_zip] at hl
    omega
theorem itr_rev {K : PySem.W.Frag} {F : Hp} {a : Addr} {vs : List V} {ds : List PD} (s : SqL K F a vs) (r : DpAll K F vs ds) : ItR K F ds.reverse (Itv K a vs.length) := fun i F1 H1 e1 e2 => by
  have s1 := seqL (e1.trans e2) s
  refine ⟨fun d hd => ?_, fun hl => by have := r.length; simp [Itv] at hl ⊢; omega⟩
  have hi : i < ds.length := by simpa using (List.getElem?_eq_some_iff.mp hd).1
  rw [List.getElem?_reverse hi] at hd
  obtain ⟨v, hv, rv⟩ := r.get' hd
  rw [← r.length] at hv
  refine ⟨⟨by rw [r.length]; exact hi, vs, v, s1, hv⟩, fun x H2 y => ?_⟩
  obtain ⟨rfl, y⟩ := y
  have e := y vs s1
  rw [hv] at e; cases e
  exact ⟨F1, Ext.refl e2, rv.mono e1⟩

/-- a list, a tuple or a text, by what it is -/
def iSeq (K : PySem.W.Frag) (tl : TE) : TI := fun σ H R => tl σ H fun x H1 => (∃ a, x = .ref a ∧ (∃ xs, SqL K H1 a xs) ∧ R (Itl K a) H1) ∨ (∃ a, x = .ref a ∧ (∃ xs, SqT K H1 a xs) ∧ R (Itt K a) H1) ∨ ∃ z, x = .str z ∧ R (Its z) H1
theorem pi_seq {X : Cx} {tg l : Expr} {tl : TE} (hl : PE X l tl) : PI X tg l (iSeq X.K tl) := by
  refine ⟨fun pn s σ H0 R I h => ?_⟩
  refine thn (hl.run pn s σ H0 _ I h) fun v t1 ⟨x, G1, J1, k1, q1⟩ => ?_
  rcases q1 with ⟨a, e, ⟨xs, hq⟩, q⟩ | ⟨a, e, ⟨xs, hq⟩, q⟩ | ⟨z, ex, q⟩
  · subst e
    cases k1
    obtain ⟨ys, ry, p, hle⟩ := J1.list hq
    refine wpAny_pyIter_list p.isList ?_
    refine ⟨t1.heap.objs.size, [t1.heap.objs.size], _, _, G1, rfl, J1.kept (t' := t1.toks) fun b o e => Heap.get?_push_of_some _ e, turn_list a _, ⟨_, Heap.get?_push_size _ rfl, rfl, rfl⟩, fun b hbm => ?_, q⟩
    have e : b = t1.heap.objs.size := by simpa using hbm
    subst e
    exact J1.fpOk (Nat.le_refl _) (J1.hok.fresh (Nat.le_refl _))
  · subst e
    cases k1
    obtain ⟨ys, ry, p, hle⟩ := J1.tuple hq
    refine wpAny_pyIter_tuple (show t1.heap.IsTuple a ys.toArray from p) ?_
    refine ⟨t1.heap.objs.size, [t1.heap.objs.size], _, _, G1, rfl, J1.kept (t' := t1.toks) fun b o e => Heap.get?_push_of_some _ e, turn_tuple a _, ⟨_, Heap.get?_push_size _ rfl, rfl, rfl⟩, fun b hbm => ?_, q⟩
    have e : b = t1.heap.objs.size := by simpa using hbm
    subst e
    exact J1.fpOk (Nat.le_refl _) (J1.hok.fresh (Nat.le_refl _))
  · subst ex
    obtain ⟨t, rfl⟩ := k1
    cases ha : z.cps.all (· < 128)
    · exact wpAny_pyIter_wide ha (pi_one (tk := t1.toks) J1 _ (turn_str _ z t "str_iterator" (.inr rfl)) ⟨_, Heap.get?_push_size _ rfl, rfl, rfl⟩ q)
    · exact wpAny_pyIter_ascii ha (pi_one (tk := t1.toks) J1 _ (turn_str _ z t "str_ascii_iterator" (.inl rfl)) ⟨_, Heap.get?_push_size _ rfl, rfl, rfl⟩ q)
def itemsOf : PD → R (List PD)
  | .list ds => .ok ds
  | .tuple ds => .ok ds
  | .str x => .ok (signs x)
  | _ => .bad
def iItems (g : Rho → R PD) : Rho → R (List PD) := fun ρ => (g ρ).bind itemsOf
section
variable {K : PySem.W.Frag} {W : WX} {t : TE} {g : Rho → R PD} {ta : TA} {ga : Rho → R (List PD)}
theorem di_seq (h : TDe K W t g) : TDi K W (iSeq K t) (iItems g) := fun F0 H0 F H σ ρ Q S q =>
  h F0 H0 F H σ ρ _ S (q.then fun a F1 H1 e1 k1 v rv => by
    cases rv with
    | lst s r => exact .inl ⟨_, rfl, ⟨_, .inl (rdM e1.g s)⟩, Fin.okk (x := _) K W σ e1.g k1 _ (itr_list (.inl s) r)⟩
    | tup s r => exact .inr (.inl ⟨_, rfl, ⟨_, SqT.of (e1.g _ _ s)⟩, Fin.okk (x := _) K W σ e1.g k1 _ (itr_tup (SqT.of s) r)⟩)
    | str x => exact .inr (.inr ⟨_, rfl, Fin.okk (x := _) K W σ e1.g k1 _ itr_str⟩)
    | _ => exact k1.elim)
def small62 (i : Int) : Bool := decide (-(2 ^ 62) ≤ i) && decide (i < 2 ^ 62)
theorem small62_ok {i : Int} (h : small62 i = true) : -(2 ^ 62) ≤ i ∧ i < 2 ^ 62 := by
  unfold small62 at h
  rw [Bool.and_eq_true] at h
  exact ⟨of_decide_eq_true h.1, of_decide_eq_true h.2⟩
def rng1 : List PD → R (List PD)
  | [.int j] => if small62 j = true then .ok (rngD 0 j.toNat) else .bad
  | _ => .bad
def rng2 : List PD → R (List PD)
  | [.int i, .int j] => if small62 i = true ∧ small62 j = true then .ok (rngD i (j - i).toNat) else .bad
  | _ => .bad
def iRng1D (ga : Rho → R (List PD)) : Rho → R (List PD) := fun ρ => (ga ρ).bind rng1
def iRng2D (ga : Rho → R (List PD)) : Rho → R (List PD) := fun ρ => (ga ρ).bind rng2
theorem di_rng1 (h : TDq K W ta ga) : TDi K W (iRng1 ta) (iRng1D ga) := fun F0 H0 F H σ ρ Q S q =>
  h F0 H0 F H σ ρ _ S (q.then fun l F1 H1 e1 k1 vs rs => by
    unfold rng1 at k1
    split at k1
    · split at k1
      · rename_i hs
        obtain ⟨h1, h2⟩ := small62_ok hs
        cases rs with
        | cons r1 r2 =>
          cases r2
          exact ⟨_, by rw [r1.int], h1, h2, Fin.okk (x := _) K W σ e1.g k1 _ itr_rng⟩
      · exact k1.elim
    · exact k1.elim)
theorem di_rng2 (h : TDq K W ta ga) : TDi K W (iRng2 ta) (iRng2D ga) := fun F0 H0 F H σ ρ Q S q =>
  h F0 H0 F H σ ρ _ S (q.then fun l F1 H1 e1 k1 vs rs => by
    unfold rng2 at k1
    split at k1
    · split at k1
      · rename_i hs
        obtain ⟨h1, h2⟩ := small62_ok hs.1
        obtain ⟨h3, h4⟩ := small62_ok hs.2
        cases rs with
        | cons r1 r2 =>
          cases r2 with
          | cons r2 r3 =>
            cases r3
            exact ⟨_, _, by rw [r1.int, r2.int], ⟨h1, h2, h3, h4⟩, Fin.okk (x := _) K W σ e1.g k1 _ itr_rng⟩
      · exact k1.elim
    · exact k1.elim)
def enumO : List PD → R (List PD)
  | [.list ds] => .ok (enumD ds)
  | _ => .bad
def iEnumD (ga : Rho → R (List PD)) : Rho → R (List PD) := fun ρ => (ga ρ).bind enumO
theorem di_enum (h : TDa K W ta ga) : TDi K W (iEnum K ta) (iEnumD ga) := fun F0 H0 F H σ ρ Q S q =>
  h F0 H0 F H σ ρ _ S (q.then fun l F1 H1 e1 k1 vs rs => by
    unfold enumO at k1
    split at k1
    · cases rs with
      | cons r1 r2 =>
        cases r2
        cases r1 with
        | lst s r => exact ⟨_, _, rfl, .inl (rdM e1.g s), Fin.okk (x := _) K W σ e1.g k1 _ (itr_enum (.inl s) r)⟩
    · exact k1.elim)
def zipO : List PD → R (List PD)
  | [.list ds, .list es] => .ok (zipD ds es)
  | _ => .bad
def iZipD (ga : Rho → R (List PD)) : Rho → R (List PD) := fun ρ => (ga ρ).bind zipO
theorem di_zip (h : TDa K W ta ga) : TDi K W (iZip K ta) (iZipD ga) := fun F0 H0 F H σ ρ Q S q =>
  h F0 H0 F H σ ρ _ S (q.then fun l F1 H1 e1 k1 vs rs => by
    unfold zipO at k1
    split at k1
    · cases rs with
      | cons r1 r2 =>
        cases r2 with
        | cons r2 r3 =>
          cases r3
          cases r1 with
          | lst s r =>
            cases r2 with
            | lst s' r' => exact ⟨_, _, _, _, rfl, .inl (rdM e1.g s), .inl (rdM e1.g s'), Fin.okk (x := _) K W σ e1.g k1 _ (itr_zip (.inl s) r (.inl s') r')⟩
    · exact k1.elim)
def revO : List PD → R (List PD)
  | [.list ds] => .ok ds.reverse
  | _ => .bad
def iRevD (ga : Rho → R (List PD)) : Rho → R (List PD) := fun ρ => (ga ρ).bind revO
theorem di_rev (h : TDa K W ta ga) : TDi K W (iRev K ta) (iRevD ga) := fun F0 H0 F H σ ρ Q S q =>
  h F0 H0 F H σ ρ _ S (q.then fun l F1 H1 e1 k1 vs rs => by
    unfold revO at k1
    split at k1
    · cases rs with
      | cons r1 r2 =>
        cases r2
        cases r1 with
        | lst s r => exact ⟨_, _, rfl, .inl (rdM e1.g s), Fin.okk (x := _) K W σ e1.g k1 _ (itr_rev (.inl s) r)⟩
    · exact k1.elim)
end

/-! ### for, while -/
def forD (a : Rho → PD → R Rho) (body : Rho → SR) : List PD → Rho → SR
  | [], ρ => .nx ρ
  | x :: xs, ρ => match a ρ x with
    | .ok ρ1 => (match body ρ1 with
      | .nx ρ2 => forD a body xs ρ2
      | .ct ρ2 => forD a body xs ρ2
      | .bk ρ2 => .nx ρ2
      | .rt s => .rt s
      | .exc c => .exc c
      | .bad => .bad)
    | _ => .bad
def sFor (gi : Rho → R (List PD)) (a : Rho → PD → R Rho) (body : Rho → SR) : Rho → SR := fun ρ => SR.of (gi ρ) fun ds => forD a body ds ρ
def whileD (c : Rho → R Bool) (body : Rho → SR) : Nat → Rho → SR
  | 0, _ => .bad
  | n + 1, ρ => SR.of (c ρ) fun b => if b = true then (match body ρ with
      | .nx ρ2 => whileD c body n ρ2
      | .ct ρ2 => whileD c body n ρ2
      | .bk ρ2 => .nx ρ2
      | .rt s => .rt s
      | .exc c => .exc c
      | .bad => .bad) else .nx ρ
def sWhile (n : Nat) (c : Rho → R Bool) (body : Rho → SR) : Rho → SR := fun ρ => whileD c body n ρ
section
variable {K : PySem.W.Frag} {W : WX}
theorem ds_for {vs : List Nat} {wi : TI} {gi : Rho → R (List PD)} {gx : TG} {a : Rho → PD → R Rho} {tb : TS} {body : Rho → SR} (hi : TDi K W wi gi) (hg : TDg K vs gx a) (hb : TDS K W tb body) : TDS K W (tFor wi gx tb) (sFor gi a body) := fun F0 H0 F H σ ρ D S q => by
  refine hi F0 H0 F H σ ρ _ S (q.of S.ext fun ds F1 H1 e1 k J hJ => ?_)
  have S1 := S.go e1
  refine ⟨fun i m σ H => m = ds.length - i ∧ ∃ F ρ, StR K F0 H0 F H σ ρ ∧ Same F1 F ∧ FinS K W F0 H0 D (forD a body (ds.drop i) ρ), ⟨_, rfl, F1, ρ, S1, Same.refl F1, k⟩, ?_⟩
  rintro i m σ2 H2 ⟨rfl, F2, ρ2, S2, e2, k2⟩
  cases hd : ds[i]? with
  | none =>
    have hl := List.getElem?_eq_none_iff.mp hd
    rw [List.drop_eq_nil_of_le hl] at k2
    exact .inl ⟨(hJ i F2 H2 e2 S2.same).2 hl, k2 σ2 F2 H2 S2⟩
  | some d =>
    have hl := (List.getElem?_eq_some_iff.mp hd).1
    rw [List.drop_eq_getElem_cons hl, (List.getElem?_eq_some_iff.mp hd).2] at k2
    obtain ⟨go, yl⟩ := (hJ i F2 H2 e2 S2.same).1 d hd
    refine .inr ⟨go, fun σ' H' => ∃ F ρ, StR K F0 H0 F H' σ' ρ ∧ Same F1 F ∧ FinS K W F0 H0 D (forD a body (ds.drop (i + 1)) ρ), fun σ' H' ⟨F', ρ', S', e', k'⟩ => ⟨_, by omega, rfl, F', ρ', S', e', k'⟩, fun x H3 y => ?_⟩
    obtain ⟨F3, e3, r3⟩ := yl x H3 y
    refine hg F0 H0 F3 H3 σ2 ρ2 x d _ (S2.go e3) r3 ?_
    unfold forD at k2
    cases ea : a ρ2 d with
    | ok ρ3 =>
      rw [ea] at k2
      intro σ3 S3 _
      have b3 := S3.ext
      refine hb F3 H0 F3 H3 σ3 ρ3 _ S3.rebase ?_
      simp only at k2
      cases eb : body ρ3 with
      | nx ρ4 =>
        rw [eb] at k2
        exact fun σ4 F4 H4 S4 => ⟨F4, ρ4, S4.unbase b3, (e2.trans e3.f).trans S4.ext.f, k2⟩
      | ct ρ4 =>
        rw [eb] at k2
        exact fun σ4 F4 H4 S4 => ⟨F4, ρ4, S4.unbase b3, (e2.trans e3.f).trans S4.ext.f, k2⟩
      | bk ρ4 =>
        rw [eb] at k2
        exact fun σ4 F4 H4 S4 => k2 σ4 F4 H4 (S4.unbase b3)
      | rt s =>
        rw [eb] at k2
        exact FinS.rebase (D := { D with nx := _, ct := _, bk := _ }) (s := .rt s) b3 k2
      | exc c =>
        rw [eb] at k2
        exact FinS.rebase (D := D) (s := .exc c) b3 k2
      | bad => rw [eb] at k2; exact k2
    | exc c => rw [ea] at k2; exact k2.elim
    | bad => rw [ea] at k2; exact k2.elim
theorem ds_while (n : Nat) {tt : TT} {c : Rho → R Bool} {tb : TS} {body : Rho → SR} (hc : TDt K W tt c) (hb : TDS K W tb body) : TDS K W (tWhile tt tb) (sWhile n c body) := fun F0 H0 F H σ ρ D S q => by
  refine ⟨fun m σ H => ∃ F ρ, StR K F0 H0 F H σ ρ ∧ FinS K W F0 H0 D (whileD c body m ρ), ⟨n, F, ρ, S, q⟩, ?_⟩
  rintro m σ2 H2 ⟨F2, ρ2, S2, k2⟩
  cases m with
  | zero => exact k2.elim
  | succ m =>
    unfold whileD at k2
    refine hc F0 H0 F2 H2 σ2 ρ2 _ S2 (k2.of S2.ext fun b F3 H3 e3 k3 => ?_)
    cases b with
    | false => exact k3 σ2 F3 H3 (S2.go e3)
    | true =>
      refine ⟨fun σ' H' => ∃ F ρ, StR K F0 H0 F H' σ' ρ ∧ FinS K W F0 H0 D (whileD c body m ρ), fun σ' H' h => ⟨m, Nat.lt_succ_self m, h⟩, ?_⟩
      refine hb F0 H0 F3 H3 σ2 ρ2 _ (S2.go e3) ?_
      simp only [if_true] at k3
      cases eb : body ρ2 with
      | nx ρ4 => rw [eb] at k3; exact fun σ4 F4 H4 S4 => ⟨F4, ρ4, S4, k3⟩
      | ct ρ4 => rw [eb] at k3; exact fun σ4 F4 H4 S4 => ⟨F4, ρ4, S4, k3⟩
      | bk ρ4 => rw [eb] at k3; exact fun σ4 F4 H4 S4 => k3 σ4 F4 H4 S4
      | rt s => rw [eb] at k3; exact k3
      | exc c => rw [eb] at k3; exact k3
      | bad => rw [eb] at k3; exact k3
end

/-! ### list comprehensions -/
def wipeD (ρ : Rho) : List Nat → Rho
  | [] => ρ
  | v :: vs => (wipeD ρ vs).set v none
theorem StR.wipe {K : PySem.W.Frag} {F0 H0 F H : Hp} {σ : L2.St} {ρ : Rho} (S : StR K F0 H0 F H σ ρ) : ∀ vs : List Nat, StR K F0 H0 F H (L2.wipe σ vs) (wipeD ρ vs)
  | [] => S
  | v :: vs => (StR.wipe S vs).setU v
theorem wipe_wipe (σ : L2.St) (vs : List Nat) : L2.wipe (L2.wipe σ vs) vs = L2.wipe σ vs := by
  have one : ∀ (v : Nat) (τ : L2.St) (us : List Nat), v ∈ us → L2.wipe (τ.set v none) us = L2.wipe τ us := fun v τ us h => wipe_set h
  have all : ∀ (us : List Nat), (∀ u ∈ us, u ∈ vs) → L2.wipe (L2.wipe σ us) vs = L2.wipe σ vs := by
    intro us
    induction us with
    | nil => intro _; rfl
    | cons u us ih =>
      intro h
      show L2.wipe ((L2.wipe σ us).set u none) vs = _
      rw [one u _ vs (h u List.mem_cons_self), ih fun x hx => h x (List.mem_cons_of_mem _ hx)]
  exact all vs fun _ h => h
/-- an item's share of a comprehension's list -/
def lcL (h : PD → R (Option PD)) : List PD → R (List PD)
  | [] => .ok []
  | x :: xs => (h x).bind fun o => (lcL h xs).bind fun l => .ok (o.toList ++ l)
def lcE (a : Rho → PD → R Rho) (gt : Rho → R Bool) (ge : Rho → R PD) (ρ : Rho) : PD → R (Option PD) := fun x =>
  (a ρ x).bind fun ρ1 => (gt ρ1).bind fun b => if b = true then (ge ρ1).bind fun y => .ok (some y) else .ok none
/-- nothing is raised within -/
def noExc {α : Type} : R α → R α
  | .exc _ => .bad
  | r => r
def oLc (gi : Rho → R (List PD)) (a : Rho → PD → R Rho) (gt : Rho → R Bool) (ge : Rho → R PD) (vs : List Nat) : Rho → R PD := fun ρ =>
  (gi ρ).bind fun ds => (noExc (lcL (lcE a gt ge (wipeD ρ vs)) ds)).bind fun l => if l.length ≤ sizeLine then .ok (.list l) else .bad
def W0 : WX := fun _ _ _ _ => False
theorem lcL_cons {h : PD → R (Option PD)} {x : PD} {xs l : List PD} (e : lcL h (x :: xs) = .ok l) : ∃ o l', h x = .ok o ∧ lcL h xs = .ok l' ∧ l = o.toList ++ l' := by
  unfold lcL at e
  cases eh : h x with
  | ok o =>
    rw [eh] at e
    have e : (lcL h xs).bind (fun l => R.ok (o.toList ++ l)) = .ok l := e
    cases el : lcL h xs with
    | ok l' =>
      rw [el] at e
      have e : R.ok (o.toList ++ l') = R.ok l := e
      cases e
      exact ⟨o, l', rfl, rfl, rfl⟩
    | exc c => rw [el] at e; cases e
    | bad => rw [el] at e; cases e
  | exc c => rw [eh] at e; cases e
  | bad => rw [eh] at e; cases e
section
variable {K : PySem.W.Frag} {W : WX}
theorem to_lc {vs : List Nat} {wi : TI} {gi : Rho → R (List PD)} {gx : TG} {a : Rho → PD → R Rho} {tt : TT} {gt : Rho → R Bool} {te : TE} {ge : Rho → R PD}
    (hi : TDi K W wi gi) (hg : TDg K vs gx a) (ht : TDt K W0 tt gt) (he : TDe K W0 te ge) : TDo K W (tLc wi gx tt te vs) (oLc gi a gt ge vs) := fun F0 H0 F H σ ρ Q S q => by
  refine hi F0 H0 F H σ ρ _ S ?_
  unfold oLc at q
  cases egi : gi ρ with
  | exc c => rw [egi] at q; exact q
  | bad => rw [egi] at q; exact q
  | ok ds =>
    rw [egi] at q
    have q : Fin K W σ F H ((noExc (lcL (lcE a gt ge (wipeD ρ vs)) ds)).bind fun l => if l.length ≤ sizeLine then R.ok (PyData.list l) else R.bad) (OwQ K H Q) := q
    cases el : lcL (lcE a gt ge (wipeD ρ vs)) ds with
    | exc c => rw [el] at q; exact q.elim
    | bad => rw [el] at q; exact q.elim
    | ok l =>
      rw [el] at q
      have q : Fin K W σ F H (if l.length ≤ sizeLine then R.ok (PyData.list l) else R.bad) (OwQ K H Q) := q
      by_cases hsz : l.length ≤ sizeLine
      · rw [if_pos hsz] at q
        intro F1 H1 e1 J hJ D hD
        have S1 := S.go e1
        -- the state: what is frozen by now, the new list with what is made so far
        refine ⟨fun i m H => m = ds.length - i ∧ ∃ F acc accv rest, Ext F1 H1 F H ∧ F D = none ∧ H D = some (.lst accv) ∧ DpAll K F accv acc ∧ lcL (lcE a gt ge (wipeD ρ vs)) (ds.drop i) = .ok rest ∧ l = acc ++ rest,
          ⟨_, rfl, F1, [], [], l, Ext.own e1.g hD, e1.g.free hD, upd_same, .nil, el, rfl⟩, ?_⟩
        rintro i m H2 ⟨rfl, F2, acc, accv, rest, e2, hFD, hHD, racc, erest, hl⟩
        have S2 : StR K F0 H0 F2 H2 σ ρ := S1.go e2
        cases hd : ds[i]? with
        | none =>
          have hle := List.getElem?_eq_none_iff.mp hd
          rw [List.drop_eq_nil_of_le hle] at erest
          have hr : rest = [] := by unfold lcL at erest; cases erest; rfl
          subst hr
          rw [List.append_nil] at hl
          subst hl
          exact .inl ⟨(hJ i F2 H2 e2.f e2.g).2 hle, q F2 H2 (e1.trans e2) D (e1.h.free hD) hFD ⟨accv, hHD, racc⟩⟩
        | some d =>
          have hlt := (List.getElem?_eq_some_iff.mp hd).1
          rw [List.drop_eq_getElem_cons hlt, (List.getElem?_eq_some_iff.mp hd).2] at erest
          obtain ⟨o, l', eo, el', er⟩ := lcL_cons erest
          obtain ⟨go, yl⟩ := (hJ i F2 H2 e2.f e2.g).1 d hd
          refine .inr ⟨go, fun H' => ∃ F acc accv rest, Ext F1 H1 F H' ∧ F D = none ∧ H' D = some (.lst accv) ∧ DpAll K F accv acc ∧ lcL (lcE a gt ge (wipeD ρ vs)) (ds.drop (i + 1)) = .ok rest ∧ l = acc ++ rest,
            fun H' ⟨F', acc', accv', rest', z⟩ => ⟨_, by omega, rfl, F', acc', accv', rest', z⟩, fun x H3 y => ?_⟩
          obtain ⟨F3, e3, r3⟩ := yl x H3 y
          have dne : ∀ {Fa Ha Fb Hb : Hp}, Ext Fa Ha Fb Hb → Fa D = none → Ha D = some (.lst accv) → Fb D = none ∧ Hb D = some (.lst accv) := fun {Fa Ha Fb Hb} e h1 h2 => ⟨e.keep h1 h2 nt_lst, e.h D _ h2⟩
          obtain ⟨hFD3, hHD3⟩ := dne e3 hFD hHD
          have S3 : StR K F0 H0 F3 H3 (L2.wipe σ vs) (wipeD ρ vs) := (S2.go e3).wipe vs
          refine hg F0 H0 F3 H3 _ _ x d _ S3 r3 ?_
          unfold lcE at eo
          cases ea : a (wipeD ρ vs) d with
          | exc c => rw [ea] at eo; cases eo
          | bad => rw [ea] at eo; cases eo
          | ok ρ4 =>
            rw [ea] at eo
            have eo : ((gt ρ4).bind fun b => if b = true then (ge ρ4).bind fun y => R.ok (some y) else R.ok none) = R.ok o := eo
            intro σ4 S4 hw
            refine ⟨by rw [hw, wipe_wipe], ?_⟩
            refine ht F0 H0 F3 H3 σ4 ρ4 _ S4 ?_
            cases et : gt ρ4 with
            | exc c => rw [et] at eo; cases eo
            | bad => rw [et] at eo; cases eo
            | ok b =>
              rw [et] at eo
              intro F5 H5 e5
              obtain ⟨hFD5, hHD5⟩ := dne e5 hFD3 hHD3
              have e15 : Ext F1 H1 F5 H5 := (e2.trans e3).trans e5
              cases b with
              | false =>
                have eo : R.ok none = R.ok o := eo
                cases eo
                show (∃ F acc accv rest, _)
                exact ⟨F5, acc, accv, l', e15, hFD5, hHD5, racc.mono (e3.f.trans e5.f), el', by rw [hl, er]; rfl⟩
              | true =>
                have eo : ((ge ρ4).bind fun y => R.ok (some y)) = R.ok o := eo
                show te σ4 H5 _
                refine he F0 H0 F5 H5 σ4 ρ4 _ (S4.go e5) ?_
                cases ey : ge ρ4 with
                | exc c => rw [ey] at eo; cases eo
                | bad => rw [ey] at eo; cases eo
                | ok yv =>
                  rw [ey] at eo
                  have eo : R.ok (some yv) = R.ok o := eo
                  cases eo
                  intro F6 H6 e6 v6 r6
                  obtain ⟨hFD6, hHD6⟩ := dne e6 hFD5 hHD5
                  have e16 : Ext F1 H1 F6 H6 := e15.trans e6
                  have hlen : l.length = acc.length + (1 + l'.length) := by rw [hl, er]; simp; omega
                  refine ⟨accv, hHD6, by rw [racc.length]; omega, F6, acc ++ [yv], accv ++ [v6], l', ⟨e16.f, fun b u z => ?_, fun b u z => ?_, e16.n⟩, hFD6, upd_same,
                    (racc.mono ((e3.f.trans e5.f).trans e6.f)).append (.cons r6 .nil), el', by rw [hl, er]; simp⟩
                  · rw [upd_ne (ne_of_none z hFD6)]; exact e16.g b u z
                  · rw [upd_ne (ne_of_none z hD)]; exact e16.h b u z
      · rw [if_neg hsz] at q
        exact q.elim
def gYes : Rho → R Bool := fun _ => .ok true
theorem tt_yes : TDt K W tYes gYes := fun F0 H0 F H σ ρ Q S q => q.ok S.same
end

/-! ### defs and their calls -/
inductive FR where
  | rt (s : Sl)
  | exc (c : Ec)
  | bad
def SR.fr : SR → FR
  | .nx _ => .rt (.d .none)
  | .rt s => .rt s
  | .exc c => .exc c
  | _ => .bad
def FRQ (K : PySem.W.Frag) (F H : Hp) (Q : VK) (E : XK) : FR → Prop
  | .rt s => RetQ K F H Q s
  | .exc c => ∀ cls d F' H', Ext F H F' H' → ExR K c cls d H' → E cls d H'
  | .bad => False
/-- a def's promise: it hands back what f tells of its arguments; what stood stands -/
def spD (K : PySem.W.Frag) (n : Nat) (f : List PD → FR) : Sp := fun vs H Q E => vs.length = n ∧ ∃ F ds, Same F H ∧ DpAll K F vs ds ∧ FRQ K F H Q E (f ds)
def startD (n : Nat) (ds : List PD) : Rho := ds.map (fun d => some (.d d)) ++ List.replicate (n - ds.length) none
def runD (n : Nat) (s : Rho → SR) (ds : List PD) : FR := (s (startD n ds)).fr
theorem start_ok {K : PySem.W.Frag} {F H : Hp} {N : List Str} {vs : List V} {ds : List PD} (s : Same F H) (r : DpAll K F vs ds) : StR K F H F H (start N vs) (startD N.length ds) := by
  have hl := r.length
  have gd : ∀ (j : Nat) (y : Sl), (startD N.length ds)[j]? = some (some y) → ∃ d, y = .d d ∧ ds[j]? = some d := fun j y e => by
    unfold startD at e
    by_cases hj : j < ds.length
    · rw [List.getElem?_append_left (by simpa using hj), List.getElem?_map] at e
      cases z : ds[j]? with
      | none => rw [z] at e; cases e
      | some d => rw [z] at e; cases e; exact ⟨d, rfl, rfl⟩
    · rw [List.getElem?_append_right (by simpa using hj), List.getElem?_replicate] at e
      split at e
      · cases e
      · cases e
  refine ⟨fun _ => [], Ext.refl s, ?_, fun i x e => ?_, fun i x e => ?_, fun i p h => by (cases h), fun i => List.nodup_nil, fun i j p h => by (cases h), fun i x e => ?_⟩
  · unfold L2.start startD; simp [hl]
  · obtain ⟨d, e1, e2⟩ := gd i _ e
    cases e1
    obtain ⟨v, a, b⟩ := r.get' e2
    refine ⟨v, ?_, b⟩
    unfold L2.start
    rw [List.getElem?_append_left (by simpa using (List.getElem?_eq_some_iff.mp a).1), List.getElem?_map, a]
    rfl
  · obtain ⟨d, e1, e2⟩ := gd i _ e
    cases e1
  · obtain ⟨d, e1, e2⟩ := gd i _ e
    cases e1
theorem fnD {P : Program} {w : World} {K : PySem.W.Frag} {mg : Str → Option Value} {base : Heap} {x qual : Str} {params : Arguments} {body : List Stmt} {scope : Scope} {f : Addr} {fd : FuncData} {N ps : List Str} {k : Nat} {s : Rho → SR}
    (F : FunD K x qual params body scope [] [] f fd) (S : FnScope N ps scope)
    (hb : ∀ (cdv : Value) (A : Around) (outer : List Env) (sh : Shared) (H : Hp) (E : XK), Room k (A.deeper (envOfC qual scope sh.heap.objs.size f cdv)) →
      Takes (cxOf (L2.CX P w) P w K mg base N qual scope f cdv A outer sh H E) (fun cls d _ H => E cls d H) →
      ∃ t, PSs (cxOf (L2.CX P w) P w K mg base N qual scope f cdv A outer sh H E) body t ∧ TDS K (fun cls d _ H => E cls d H) t s) : FnOk P w K mg base (L2.CX P w) (k + 1) f fd ps (spD K ps.length (runD N.length s)) := by
  refine F.ok S (fun vs H Q E h => h.1) (fun cdv A outer sh H vs Q E hr h => ?_)
  obtain ⟨hl, F0, ds, hs, hd, hq⟩ := h
  obtain ⟨t, h1, h2⟩ := hb cdv A outer sh H E hr (takes_of rfl rfl rfl (E₁ := _) rfl)
  refine ⟨t, h1, h2 F0 H F0 H _ _ _ (start_ok hs hd) ?_⟩
  unfold runD at hq
  cases e : s (startD N.length ds) with
  | nx ρ => rw [e] at hq; exact fun σ F1 H1 S1 => hq .non F1 H1 S1.ext .non
  | bk ρ => rw [e] at hq; exact hq.elim
  | ct ρ => rw [e] at hq; exact hq.elim
  | rt s => rw [e] at hq; exact hq
  | exc c => rw [e] at hq; exact fun cls d σ F1 H1 ex r => hq cls d F1 H1 ex r
  | bad => rw [e] at hq; exact hq.elim
def FR.toE : FR → R PD
  | .rt (.d x) => .ok x
  | .rt (.t x) => x.toD
  | .exc c => .exc c
  | _ => .bad
def FR.toO : FR → R PD
  | .rt (.t (.own x)) => .ok x
  | .exc c => .exc c
  | _ => .bad
def scalD : PD → Bool
  | .none => true
  | .bool _ => true
  | .int _ => true
  | .str _ => true
  | _ => false
def FR.toS : FR → R PD
  | .rt (.d x) => if scalD x = true then .ok x else .bad
  | .exc c => .exc c
  | _ => .bad
def isDict : PD → Bool
  | .dict _ => true
  | _ => false
theorem scal_dp {K : PySem.W.Frag} {F F' : Hp} {v : V} {x : PD} (h : scalD x = true) (r : Dp K F v x) : Dp K F' v x := by
  cases r with
  | non => exact .non
  | bl b => exact .bl b
  | int i => exact .int i
  | str i => exact .str i
  | lst _ _ => cases h
  | tup _ _ => cases h
  | exc _ _ _ => cases h
theorem ext_frz {F H F' H' : Hp} {fp : List Addr} (ex : Ext F H F' H') (hp : ∀ p ∈ fp, H p = none ∧ F' p = none) : Ext F H (frzF F' H' fp) H' := by
  refine ⟨ex.f.trans (frz_f ex.g), frz_g ex.g, ex.h, fun p h => ?_⟩
  rcases frz_n h with q | q | ⟨o, q, t⟩
  · exact ex.n p q
  · exact .inr (.inl (hp p q).1)
  · cases e : H p with
    | none => exact .inr (.inl rfl)
    | some u =>
      have := ex.h p u e
      rw [q] at this
      cases this
      exact .inr (.inr ⟨_, rfl, t⟩)
theorem own_frz {K : PySem.W.Frag} {F H F' H' : Hp} {fp : List Addr} {v : V} {t : Tv} {d : PD} (ex : Ext F H F' H') (tv : TvAt K F' H' fp v t) (hp : ∀ p ∈ fp, H p = none ∧ F' p = none) (e : t.toD = .ok d) : ∃ F'', Ext F H F'' H' ∧ Dp K F'' v d :=
  ⟨_, ext_frz ex hp, tv.frz ex.g e⟩
theorem toD_x : ∀ (t : Tv) (c : Ec), t.toD ≠ .exc c := by
  have both : ∀ n : Nat, (∀ (t : Tv) (c : Ec), sizeOf t < n → t.toD ≠ .exc c) ∧ ∀ (ts : List Tv) (c : Ec), sizeOf ts < n → Tv.toDs ts ≠ .exc c := by
    intro n
    induction n with
    | zero => exact ⟨fun _ _ h => absurd h (Nat.not_lt_zero _), fun _ _ h => absurd h (Nat.not_lt_zero _)⟩
    | succ n ih =>
      refine ⟨fun t c h => ?_, fun ts c h => ?_⟩
      · cases t with
        | fr d => unfold Tv.toD; exact fun z => by cases z
        | own x =>
          cases x <;> (unfold Tv.toD; exact fun z => by cases z)
        | dT k => unfold Tv.toD; exact fun z => by cases z
        | lst ts =>
          unfold Tv.toD
          cases e : Tv.toDs ts with
          | ok l => exact fun z => by cases z
          | bad => exact fun z => by cases z
          | exc c' => exact absurd e (ih.2 ts c' (by simp at h; omega))
        | tup ts =>
          unfold Tv.toD
          cases e : Tv.toDs ts with
          | ok l => exact fun z => by cases z
          | bad => exact fun z => by cases z
          | exc c' => exact absurd e (ih.2 ts c' (by simp at h; omega))
      · cases ts with
        | nil => unfold Tv.toDs; exact fun z => by cases z
        | cons t ts =>
          unfold Tv.toDs
          cases e : t.toD with
          | bad => exact fun z => by cases z
          | exc c' => exact absurd e (ih.1 t c' (by simp at h; omega))
          | ok d =>
            show (Tv.toDs ts).bind _ ≠ _
            cases e2 : Tv.toDs ts with
            | ok l => exact fun z => by cases z
            | bad => exact fun z => by cases z
            | exc c' => exact absurd e2 (ih.2 ts c' (by simp at h; omega))
  exact fun t c => (both (sizeOf t + 1)).1 t c (Nat.lt_succ_self _)
section
variable {K : PySem.W.Frag} {W : WX} {ta : TA} {ga : Rho → R (List PD)} {n : Nat} {f : List PD → FR}
def eCall (n : Nat) (f : List PD → FR) (ga : Rho → R (List PD)) : Rho → R PD := fun ρ => (ga ρ).bind fun ds => if ds.length = n then (f ds).toE else .bad
def oCall (n : Nat) (f : List PD → FR) (ga : Rho → R (List PD)) : Rho → R PD := fun ρ => (ga ρ).bind fun ds => if ds.length = n then (f ds).toO else .bad
/-- arguments that are only read, a plain answer -/
def eCallR (n : Nat) (f : List PD → FR) (ga : Rho → R (List PD)) : Rho → R PD := fun ρ => (ga ρ).bind fun ds => if ds.length = n ∧ ds.all (fun d => !isDict d) = true then (f ds).toS else .bad
theorem td_call (h : TDa K W ta ga) : TDe K W (tCallS (spD K n f) (WE W) ta) (eCall n f ga) := fun F0 H0 F H σ ρ Q S q =>
  h F0 H0 F H σ ρ _ S (q.then fun ds F1 H1 e1 k1 vs rs => by
    by_cases hn : ds.length = n
    · rw [if_pos hn] at k1
      refine ⟨by rw [rs.length]; exact hn, F1, ds, e1.g, rs, ?_⟩
      cases e : f ds with
      | rt s =>
        rw [e] at k1
        cases s with
        | d x => exact fun v F' H' ex r => k1 F' H' ex v r
        | t x =>
          intro v fp F' H' ex tv nd hp
          have k1 : Fin K W σ F1 H1 x.toD (DpQ K Q) := k1
          cases e2 : x.toD with
          | ok d =>
            rw [e2] at k1
            obtain ⟨F'', ex2, r⟩ := own_frz ex tv hp e2
            exact k1 F'' H' ex2 _ r
          | exc c => exact absurd e2 (toD_x x c)
          | bad => rw [e2] at k1; exact k1.elim
        | l x => exact k1.elim
      | exc c => rw [e] at k1; exact fun cls d F' H' ex r => k1 cls d F' H' ex r
      | bad => rw [e] at k1; exact k1.elim
    · rw [if_neg hn] at k1
      exact k1.elim)
theorem to_call (h : TDa K W ta ga) : TDo K W (tCallS (spD K n f) (WE W) ta) (oCall n f ga) := fun F0 H0 F H σ ρ Q S q =>
  h F0 H0 F H σ ρ _ S (by
    unfold oCall at q
    cases ea : ga ρ with
    | exc c => rw [ea] at q; exact q
    | bad => rw [ea] at q; exact q
    | ok ds =>
      rw [ea] at q
      have q : Fin K W σ F H (if ds.length = n then (f ds).toO else .bad) (OwQ K H Q) := q
      intro F1 H1 e1 vs rs
      by_cases hn : ds.length = n
      · rw [if_pos hn] at q
        refine ⟨by rw [rs.length]; exact hn, F1, ds, e1.g, rs, ?_⟩
        cases e : f ds with
        | rt s =>
          rw [e] at q
          cases s with
          | d x => exact q.elim
          | t x =>
            cases x with
            | own x =>
              intro v fp F' H' ex tv nd hp
              cases tv with
              | own ho =>
                obtain ⟨h1, h2⟩ := hp _ (List.mem_singleton.mpr rfl)
                exact q F' H' (e1.trans ex) _ (e1.h.free h1) h2 ho
            | _ => exact q.elim
          | l x => exact q.elim
        | exc c => rw [e] at q; exact fun cls d F' H' ex r => q cls d F' H' (e1.trans ex) r
        | bad => rw [e] at q; exact q.elim
      · rw [if_neg hn] at q
        exact q.elim)
theorem RpAll.dp {F H : Hp} (s : Same F H) : ∀ {vs : List V} {ds : List PD}, RpAll K F H vs ds → ds.all (fun d => !isDict d) = true → DpAll K H vs ds
  | _, _, .nil, _ => .nil
  | _, _, .cons r t, h => by
    rw [List.all_cons, Bool.and_eq_true] at h
    exact .cons (r.dp s fun kvs e => by rw [e] at h; cases h.1) (RpAll.dp s t h.2)
theorem td_callR (h : TDq K W ta ga) : TDe K W (tCallS (spD K n f) (WE W) ta) (eCallR n f ga) := fun F0 H0 F H σ ρ Q S q =>
  h F0 H0 F H σ ρ _ S (q.then fun ds F1 H1 e1 k1 vs rs => by
    by_cases hn : ds.length = n ∧ ds.all (fun d => !isDict d) = true
    · rw [if_pos hn] at k1
      refine ⟨by rw [rs.length]; exact hn.1, H1, ds, Same.refl H1, rs.dp e1.g hn.2, ?_⟩
      cases e : f ds with
      | rt s =>
        rw [e] at k1
        cases s with
        | d x =>
          intro v F' H' ex r
          have k1 : Fin K W σ F1 H1 (if scalD x = true then .ok x else .bad) (DpQ K Q) := k1
          by_cases hx : scalD x = true
          · rw [if_pos hx] at k1
            exact k1 F1 H' (Ext.heap e1.g ex.h) v (scal_dp hx r)
          · rw [if_neg hx] at k1
            exact k1.elim
        | t x => exact k1.elim
        | l x => exact k1.elim
      | exc c => rw [e] at k1; exact fun cls d F' H' ex r => k1 cls d F1 H' (Ext.heap e1.g ex.h) r
      | bad => rw [e] at k1; exact k1.elim
    · rw [if_neg hn] at k1
      exact k1.elim)
/-- without arguments, nothing raised -/
def eCall0 (f : List PD → FR) : Rho → R PD := fun _ => noExc (f []).toE
def oCall0 (f : List PD → FR) : Rho → R PD := fun _ => noExc (f []).toO
theorem td_call0 : TDe K W (tCall (spD K 0 f) [] E0 tNil) (eCall0 f) := fun F0 H0 F H σ ρ Q S q => by
  refine ⟨rfl, F, [], S.same, .nil, ?_⟩
  unfold eCall0 at q
  cases e : f [] with
  | rt s =>
    rw [e] at q
    cases s with
    | d x => exact fun v F' H' ex r => q F' H' ex v r
    | t x =>
      intro v fp F' H' ex tv nd hp
      have q : Fin K W σ F H (noExc x.toD) (DpQ K Q) := q
      cases e2 : x.toD with
      | ok d =>
        rw [e2] at q
        obtain ⟨F'', ex2, r⟩ := own_frz ex tv hp e2
        exact q F'' H' ex2 _ r
      | exc c => exact absurd e2 (toD_x x c)
      | bad => rw [e2] at q; exact q.elim
    | l x => exact q.elim
  | exc c => rw [e] at q; exact q.elim
  | bad => rw [e] at q; exact q.elim
theorem to_call0 : TDo K W (tCall (spD K 0 f) [] E0 tNil) (oCall0 f) := fun F0 H0 F H σ ρ Q S q => by
  refine ⟨rfl, F, [], S.same, .nil, ?_⟩
  unfold oCall0 at q
  cases e : f [] with
  | rt s =>
    rw [e] at q
    cases s with
    | d x => exact q.elim
    | t x =>
      cases x with
      | own x =>
        intro v fp F' H' ex tv nd hp
        cases tv with
        | own ho =>
          obtain ⟨h1, h2⟩ := hp _ (List.mem_singleton.mpr rfl)
          exact q F' H' ex _ h1 h2 ho
      | _ => exact q.elim
    | l x => exact q.elim
  | exc c => rw [e] at q; exact q.elim
  | bad => rw [e] at q; exact q.elim
end
end DL
namespace DL
open PySem PySem.Spec PyProof.Rows L2

/-! ### a new frozen object -/
section
variable {K : PySem.W.Frag} {W : WX} {σ : L2.St} {F H : Hp} {Q : VK}
theorem new_lst {vs : List V} {ds : List PD} {p : Addr} (s : Same F H) (r : DpAll K F vs ds) (k : Fin K W σ F H (.ok (PyData.list ds)) (DpQ K Q)) (hp : H p = none) : Q (.ref p) (upd H p (.lst vs)) := by
  have e := Ext.new (o := .lst vs) s hp
  exact k _ _ e _ (.lst (.inl upd_same) (r.mono e.f))
theorem new_tup {vs : List V} {ds : List PD} {p : Addr} (s : Same F H) (r : DpAll K F vs ds) (k : Fin K W σ F H (.ok (PyData.tuple ds)) (DpQ K Q)) (hp : H p = none) : Q (.ref p) (upd H p (.tup vs)) := by
  have e := Ext.new (o := .tup vs) s hp
  exact k _ _ e _ (.tup upd_same (r.mono e.f))
theorem own_lst {vs : List V} {ds : List PD} {p : Addr} (s : Same F H) (r : DpAll K F vs ds) (k : Fin K W σ F H (.ok (PyData.list ds)) (OwQ K H Q)) (hp : H p = none) : Q (.ref p) (upd H p (.lst vs)) := by
  have e := Ext.own (o := .lst vs) s hp
  exact k _ _ e p hp (s.free hp) ⟨vs, upd_same, r⟩
end

/-! ### + -/
/-- list + list, of tracked or known lists -/
def rCatR : R2 := fun x y H Q => ∃ l b xs zs, x = .ref l ∧ y = .ref b ∧ Rd H l (.lst xs) ∧ Rd H b (.lst zs) ∧ xs.length + zs.length ≤ sizeLine ∧ ∀ p, H p = none → Q (.ref p) (upd H p (.lst (xs ++ zs)))
theorem op_catR {X : Cx} : OpR X (binaryOp .Add) rCatR := by
  intro pn s σ H x y v u Q J rx ry h
  obtain ⟨l, b, xs, zs, rfl, rfl, hH, hB, hle, q⟩ := h
  cases rx
  cases ry
  obtain ⟨z, vs1, n, r, e⟩ := hH.ok J.hok
  obtain ⟨z2, vs2, n2, r2, e2⟩ := hB.ok J.hok
  have hl := r.length
  have hl2 := r2.length
  refine PySem.P.add_list e e2 ?_ (by rw [List.size_toArray, List.size_toArray]; omega)
  have ea : vs1.toArray ++ vs2.toArray = (vs1 ++ vs2).toArray := by simp
  rw [ea]
  exact ⟨.ref _, _, J.lnew (t' := s.toks) (r.append r2) (by rw [List.length_append]; omega), rfl, q _ J.fresh⟩
def rAdd2 (K : PySem.W.Frag) : R2 := fun x y H Q => rI0 (fun i j => .int (i + j)) x y H Q ∨ (∃ i j, x = .str i ∧ y = .str j ∧ i.length + j.length ≤ sizeLine ∧ Q (.str (i ++ j)) H) ∨ rCatR x y H Q ∨ rCatA K x y H Q
theorem op_add2 {X : Cx} : OpR X (binaryOp .Add) (rAdd2 X.K) := op_add.or (op_add_str.or (op_catR.or op_catA))
def addD : PD → PD → R PD
  | .int i, .int j => .ok (.int (i + j))
  | .str x, .str y => if x.length + y.length ≤ sizeLine then .ok (.str (x ++ y)) else .bad
  | .list xs, .list ys => if xs.length + ys.length ≤ sizeLine then .ok (.list (xs ++ ys)) else .bad
  | .tuple xs, .tuple ys => if xs.length + ys.length ≤ sizeLine then .ok (.tuple (xs ++ ys)) else .bad
  | _, _ => .bad
section
variable {K : PySem.W.Frag}
theorem rd_add : RD K (rAdd2 K) addD := fun W σ F H x y a b Q s ra rb q => by
  unfold addD at q
  split at q
  · exact .inl ⟨_, _, ra.int, rb.int, q.ok s _ (.int _)⟩
  · split at q
    · rename_i h
      exact .inr (.inl ⟨_, _, ra.str, rb.str, h, q.ok s _ (.str _)⟩)
    · exact q.elim
  · split at q
    · rename_i h
      obtain ⟨a, vs, rfl, s1, r1⟩ := ra.list s
      obtain ⟨b, us, rfl, s2, r2⟩ := rb.list s
      exact .inr (.inr (.inl ⟨_, _, _, _, rfl, rfl, s1, s2, by rw [r1.length, r2.length]; exact h, fun p hp => new_lst s (r1.append r2) q hp⟩))
    · exact q.elim
  · split at q
    · rename_i h
      obtain ⟨a, vs, rfl, s1, r1⟩ := ra.tuple s
      obtain ⟨b, us, rfl, s2, r2⟩ := rb.tuple s
      refine .inr (.inr (.inr ⟨_, _, _, _, rfl, rfl, s1, s2, by rw [r1.length, r2.length]; exact h, fun e => ?_, fun _ e => ?_, fun _ _ p hp => new_tup s (r1.append r2) q hp⟩))
      · subst e
        cases r1
        rename_i xs ys h
        cases ra with
        | inl ra =>
          cases rb with
          | inl rb => exact q.ok s _ rb
          | inr rb => obtain ⟨p, e, z⟩ := rb; exact z.elim
        | inr ra => obtain ⟨p, e, z⟩ := ra; exact z.elim
      · subst e
        cases r2
        rw [List.append_nil] at q
        cases ra with
        | inl ra => exact q.ok s _ ra
        | inr ra => obtain ⟨p, e, z⟩ := ra; exact z.elim
    · exact q.elim
  · exact q.elim
/-- list + list, the new list owned -/
def addL : PD → PD → R PD
  | .list xs, .list ys => if xs.length + ys.length ≤ sizeLine then .ok (.list (xs ++ ys)) else .bad
  | _, _ => .bad
theorem ro_add : RDo K (rAdd2 K) addL := fun W σ F H x y a b Q s ra rb q => by
  unfold addL at q
  split at q
  · split at q
    · rename_i h
      obtain ⟨a, vs, rfl, s1, r1⟩ := ra.list s
      obtain ⟨b, us, rfl, s2, r2⟩ := rb.list s
      exact .inr (.inr (.inl ⟨_, _, _, _, rfl, rfl, s1, s2, by rw [r1.length, r2.length]; exact h, fun p hp => own_lst s (r1.append r2) q hp⟩))
    · exact q.elim
  · exact q.elim

/-! ### arithmetic -/
def iiD (C : Int → Int → Bool) (g : Int → Int → Int) : PD → PD → R PD
  | .int i, .int j => if C i j = true then .ok (.int (g i j)) else .bad
  | _, _ => .bad
theorem rd_I {C : Int → Int → Prop} {B : Int → Int → Bool} {g : Int → Int → Int} (h : ∀ i j, B i j = true → C i j) : RD K (rI C fun i j => .int (g i j)) (iiD B g) := fun W σ F H x y a b Q s ra rb q => by
  unfold iiD at q
  split at q
  · split at q
    · rename_i hb
      exact ⟨_, _, ra.int, rb.int, h _ _ hb, q.ok s _ (.int _)⟩
    · exact q.elim
  · exact q.elim
def subD : PD → PD → R PD
  | .int i, .int j => .ok (.int (i - j))
  | _, _ => .bad
theorem rd_sub : RD K (rI0 fun i j => .int (i - j)) subD := fun W σ F H x y a b Q s ra rb q => by
  unfold subD at q
  split at q
  · exact ⟨_, _, ra.int, rb.int, q.ok s _ (.int _)⟩
  · exact q.elim
def modB (_ j : Int) : Bool := decide (j ≠ 0)
abbrev modD : PD → PD → R PD := iiD modB fun i j => i.fmod j
theorem rd_mod : RD K (rI (fun _ j => j ≠ 0) fun i j => .int (i.fmod j)) modD := rd_I fun i j h => of_decide_eq_true h
def divB (_ j : Int) : Bool := decide (j ≠ 0) && decide (j.natAbs < 1073741824)
abbrev divD : PD → PD → R PD := iiD divB fun i j => i.fdiv j
theorem rd_div : RD K (rI CDivN fun i j => .int (i.fdiv j)) divD := rd_I fun i j h => by
  unfold divB at h
  rw [Bool.and_eq_true] at h
  exact ⟨of_decide_eq_true h.1, of_decide_eq_true h.2⟩
/-- // by a great positive number too -/
def rDiv2 : R2 := fun x y H Q => rI CDivN (fun i j => .int (i.fdiv j)) x y H Q ∨ rI CDivW (fun i j => .int (i / j)) x y H Q
theorem op_div2 {X : Cx} : OpR X (binaryOp .FloorDiv) rDiv2 := op_fdivN.or op_fdivW
/-! ### * : ints; a text by an int; a list by an int -/
def mulB (i j : Int) : Bool := (decide (-(2 ^ 64) < i) && decide (i < 2 ^ 64)) || (decide (-(2 ^ 64) < j) && decide (j < 2 ^ 64))
theorem mulB_ok {i j : Int} (h : mulB i j = true) : CMul i j := by
  unfold mulB at h
  simp only [Bool.or_eq_true, Bool.and_eq_true, decide_eq_true_eq] at h
  exact h
def mulS (x : Str) (n : Int) : Str := if n < 1 then Str.empty else ⟨(List.replicate n.toNat x.cps).foldl (· ++ ·) #[]⟩
theorem fold_app : ∀ (l : List (Array Nat)) (a : Array Nat), (l.foldl (· ++ ·) a).size = a.size + (l.map (·.size)).sum
  | [], a => by simp
  | x :: l, a => by rw [List.foldl_cons, fold_app l]; simp; omega
theorem mulS_len (x : Str) (n : Int) : (mulS x n).length = x.length * n.toNat := by
  unfold mulS
  split
  · rename_i h
    have e : n.toNat = 0 := by omega
    rw [e]; rfl
  · show ((List.replicate n.toNat x.cps).foldl (· ++ ·) #[]).size = _
    rw [fold_app]
    simp [Str.length, Nat.mul_comm]
theorem tooLong_le {n : Nat} (h : n ≤ sizeLine) : Builtin.Str.tooLong n = false := by
  unfold Builtin.Str.tooLong
  exact decide_eq_false (by omega)
def rMulS : R2 := fun x y H Q => ∃ z k, x = .str z ∧ y = .int k ∧ -(2 ^ 62) ≤ k ∧ k < 2 ^ 62 ∧ z.length * k.toNat ≤ sizeLine ∧ Q (.str (mulS z k)) H
theorem op_mulS {X : Cx} : OpR X (binaryOp .Mult) rMulS := by
  intro pins s σ H x y v u Q I rx ry h
  obtain ⟨z, k, rfl, rfl, h1, h2, hz, q⟩ := h
  obtain ⟨t, rfl⟩ := rx
  obtain ⟨t', rfl⟩ := ry
  have hs := sizeLine_eq
  refine PySem.P.mul_str (by rw [decide_eq_false (show ¬ k < -(2 ^ 63 : Int) by omega), decide_eq_false (show ¬ k ≥ 2 ^ 63 by omega)]; rfl) (fun hn ho => ?_) (fun _ _ => tooLong_le hz) ?_
  · have hk : k.toNat = k := Int.toNat_of_nonneg (by omega)
    have h3 : ((z.length * k.toNat : Nat) : Int) ≤ 16777216 := by rw [hs] at hz; exact Int.ofNat_le.mpr hz
    intro hgt
    have h4 : (2 ^ 63 - 1 : Int) / k * k ≤ 2 ^ 63 - 1 := Int.ediv_mul_le _ (by omega)
    have h5 : (2 ^ 63 - 1 : Int) < ((2 ^ 63 - 1 : Int) / k + 1) * k := Int.lt_ediv_add_one_mul_self _ (by omega)
    have h6 : ((2 ^ 63 - 1 : Int) / k + 1) * k ≤ (z.length : Int) * k := Int.mul_le_mul_of_nonneg_right (by omega) (by omega)
    have h7 : (z.length : Int) * k = ((z.length * k.toNat : Nat) : Int) := by rw [Int.natCast_mul, hk]
    omega
  · by_cases c1 : k < 1
    · rw [if_pos c1]
      refine ⟨by decide, .str _, H, I.tok _, ⟨_, rfl⟩, ?_⟩
      unfold mulS at q
      rw [if_pos c1] at q
      exact q
    · rw [if_neg c1]
      have hl := mulS_len z k
      unfold mulS at q hl
      rw [if_neg c1] at q hl
      by_cases c2 : (k == 1 || z.length == 0) = true
      · rw [if_pos c2]
        refine ⟨.str z, H, I, ⟨t, rfl⟩, ?_⟩
        rw [Bool.or_eq_true] at c2
        have e : (⟨(List.replicate k.toNat z.cps).foldl (· ++ ·) #[]⟩ : Str) = z := by
          rcases c2 with c2 | c2
          · have : k = 1 := by simpa using c2
            subst this
            simp [List.replicate]
          · have c2 : z.cps.size = 0 := by simpa [Str.length] using c2
            have e0 : z.cps = #[] := Array.eq_empty_of_size_eq_zero c2
            have : ∀ n : Nat, (List.replicate n (#[] : Array Nat)).foldl (· ++ ·) #[] = #[] := by
              intro n
              induction n with
              | zero => rfl
              | succ n ih => rw [List.replicate_succ, List.foldl_cons]; simpa using ih
            rw [e0, this]
            cases z
            simp only at e0
            rw [e0]
        rw [e] at q
        exact q
      · rw [if_neg c2]
        refine ⟨?_, .str _, H, I.tok _, ⟨_, rfl⟩, q⟩
        rw [hl]
        exact hz
def rRepR : R2 := fun x y H Q => ∃ l k xs, x = .ref l ∧ y = .int k ∧ H l = some (.lst xs) ∧ -(2 ^ 63) ≤ k ∧ k < 2 ^ 63 ∧ xs.length * k.toNat ≤ sizeLine ∧ ∀ p, H p = none → Q (.ref p) (upd H p (.lst (List.replicate k.toNat xs).flatten))
def rMul2 : R2 := fun x y H Q => rI CMul (fun i j => .int (i * j)) x y H Q ∨ rMulS x y H Q
theorem op_mul2 {X : Cx} : OpR X (binaryOp .Mult) rMul2 := op_mul.or op_mulS
def mulD : PD → PD → R PD
  | .int i, .int j => if mulB i j = true then .ok (.int (i * j)) else .bad
  | .str z, .int k => if small62 k = true ∧ z.length * k.toNat ≤ sizeLine then .ok (.str (mulS z k)) else .bad
  | _, _ => .bad
theorem rd_mul : RD K rMul2 mulD := fun W σ F H x y a b Q s ra rb q => by
  unfold mulD at q
  split at q
  · split at q
    · rename_i h
      exact .inl ⟨_, _, ra.int, rb.int, mulB_ok h, q.ok s _ (.int _)⟩
    · exact q.elim
  · split at q
    · rename_i h
      obtain ⟨h1, h2⟩ := small62_ok h.1
      exact .inr ⟨_, _, ra.str, rb.int, h1, h2, h.2, q.ok s _ (.str _)⟩
    · exact q.elim
  · exact q.elim
def powB (i j : Int) : Bool := decide (0 ≤ j) && decide (j ≤ 1000000) && decide (i.natAbs < 2 ^ 64)
abbrev powD : PD → PD → R PD := iiD powB fun i j => i ^ j.toNat
theorem rd_pow : RD K (rI CPow fun i j => .int (i ^ j.toNat)) powD := rd_I fun i j h => by
  unfold powB at h
  simp only [Bool.and_eq_true, decide_eq_true_eq] at h
  exact ⟨h.1.1, h.1.2, h.2⟩
def negD : PD → R PD
  | .int i => .ok (.int (-i))
  | _ => .bad
theorem ru_neg : RU K (rU fun i => .int (-i)) negD := fun W σ F H x a Q s ra q => by
  unfold negD at q
  split at q
  · exact ⟨_, ra.int, q.ok s _ (.int _)⟩
  · exact q.elim
def cmpD (p : Int → Int → Bool) : PD → PD → R PD
  | .int i, .int j => .ok (.bool (p i j))
  | _, _ => .bad
theorem rd_cmp {p : Int → Int → Bool} : RD K (rI0 fun i j => .bl (p i j)) (cmpD p) := fun W σ F H x y a b Q s ra rb q => by
  unfold cmpD at q
  split at q
  · exact ⟨_, _, ra.int, rb.int, q.ok s _ (.bl _)⟩
  · exact q.elim
abbrev ltD : PD → PD → R PD := cmpD fun i j => decide (i < j)
abbrev leD : PD → PD → R PD := cmpD fun i j => decide (i ≤ j)
abbrev gtD : PD → PD → R PD := cmpD fun i j => decide (j < i)
abbrev geD : PD → PD → R PD := cmpD fun i j => decide (j ≤ i)

/-! ### ==, in, is -/
/-- == : scalars of one kind at once, all else as data -/
def eqB : PD → PD → R Bool
  | .int i, .int j => .ok (decide (i = j))
  | .str i, .str j => .ok (decide (i = j))
  | .bool i, .bool j => .ok (decide (i = j))
  | a, b => if SeqAt.shaped a = true ∧ SeqAt.shaped b = true then .ok (PyData.eqv a b) else .bad
def eqD : PD → PD → R PD := fun a b => (eqB a b).bind fun c => .ok (.bool c)
def neD : PD → PD → R PD := fun a b => (eqB a b).bind fun c => .ok (.bool !c)
theorem shaped_nodict {d : PD} (h : SeqAt.shaped d = true) : ∀ kvs, d ≠ .dict kvs := fun kvs e => by
  subst e
  have := SeqAt.canLay_of_shaped h
  simp [PyData.canLay0] at this
theorem shaped_lay {d : PD} (h : SeqAt.shaped d = true) : d.canLay0 = true := SeqAt.canLay_of_shaped h
def rEq2 (K : PySem.W.Frag) : R2 := fun x y H Q => rEq x y H Q ∨ rEqD K x y H Q
def rNe2 (K : PySem.W.Frag) : R2 := fun x y H Q => rNe x y H Q ∨ rNeD K x y H Q
theorem op_eq2 {X : Cx} (hu : X.A.units + 64 < cLine) : OpR X (compareOp .Eq) (rEq2 X.K) := op_eq.or (op_eqD hu)
theorem op_ne2 {X : Cx} (hu : X.A.units + 64 < cLine) : OpR X (compareOp .NotEq) (rNe2 X.K) := op_ne.or (op_neD hu)
theorem dec_inj_int {i j : Int} : decide (V.int i = V.int j) = decide (i = j) := by simp
theorem dec_inj_str {i j : Str} : decide (V.str i = V.str j) = decide (i = j) := by simp
theorem dec_inj_bl {i j : Bool} : decide (V.bl i = V.bl j) = decide (i = j) := by simp
theorem rd_eq : RD K (rEq2 K) eqD := fun W σ F H x y a b Q s ra rb q => by
  unfold eqD at q
  unfold eqB at q
  split at q
  · refine .inl ⟨by rw [ra.int, rb.int]; rfl, ?_⟩
    rw [ra.int, rb.int, dec_inj_int]
    exact Fin.okk (x := PyData.bool _) K W σ s q _ (.bl _)
  · refine .inl ⟨by rw [ra.str, rb.str]; rfl, ?_⟩
    rw [ra.str, rb.str, dec_inj_str]
    exact Fin.okk (x := PyData.bool _) K W σ s q _ (.bl _)
  · refine .inl ⟨by rw [ra.bool, rb.bool]; rfl, ?_⟩
    rw [ra.bool, rb.bool, dec_inj_bl]
    exact Fin.okk (x := PyData.bool _) K W σ s q _ (.bl _)
  · split at q
    · rename_i h
      exact .inr ⟨_, _, (ra.dp s (shaped_nodict h.1)).l2 (shaped_lay h.1), (rb.dp s (shaped_nodict h.2)).l2 (shaped_lay h.2), h.1, h.2, Fin.okk (x := PyData.bool _) K W σ s q _ (.bl _)⟩
    · exact q.elim
theorem rd_ne : RD K (rNe2 K) neD := fun W σ F H x y a b Q s ra rb q => by
  unfold neD at q
  unfold eqB at q
  split at q
  · refine .inl ⟨by rw [ra.int, rb.int]; rfl, ?_⟩
    rw [ra.int, rb.int, dec_inj_int]
    exact Fin.okk (x := PyData.bool _) K W σ s q _ (.bl _)
  · refine .inl ⟨by rw [ra.str, rb.str]; rfl, ?_⟩
    rw [ra.str, rb.str, dec_inj_str]
    exact Fin.okk (x := PyData.bool _) K W σ s q _ (.bl _)
  · refine .inl ⟨by rw [ra.bool, rb.bool]; rfl, ?_⟩
    rw [ra.bool, rb.bool, dec_inj_bl]
    exact Fin.okk (x := PyData.bool _) K W σ s q _ (.bl _)
  · split at q
    · rename_i h
      exact .inr ⟨_, _, (ra.dp s (shaped_nodict h.1)).l2 (shaped_lay h.1), (rb.dp s (shaped_nodict h.2)).l2 (shaped_lay h.2), h.1, h.2, Fin.okk (x := PyData.bool _) K W σ s q _ (.bl _)⟩
    · exact q.elim
/-- is None -/
def isNB : PD → Bool
  | .none => true
  | _ => false
def isND : PD → PD → R PD := fun a b => match b with
  | .none => .ok (.bool (isNB a))
  | _ => .bad
def notND : PD → PD → R PD := fun a b => match b with
  | .none => .ok (.bool (!isNB a))
  | _ => .bad
theorem isN_ok {F H : Hp} {x : V} {a : PD} (ra : Rp K F H x a) : decide (x = .non) = isNB a := by
  rcases ra with h | ⟨p, rfl, h⟩
  · cases h <;> simp [isNB, encE]
  · cases a with
    | list ds => simp [isNB]
    | dict kvs => simp [isNB]
    | _ => exact h.elim
theorem rd_isN : RD K (fun x y H Q => y = .non ∧ Q (.bl (decide (x = .non))) H) isND := fun W σ F H x y a b Q s ra rb q => by
  unfold isND at q
  split at q
  · refine ⟨rb.none, ?_⟩
    rw [isN_ok ra]
    exact q.ok s _ (.bl _)
  · exact q.elim
theorem rd_notN : RD K (fun x y H Q => y = .non ∧ Q (.bl (!decide (x = .non))) H) notND := fun W σ F H x y a b Q s ra rb q => by
  unfold notND at q
  split at q
  · refine ⟨rb.none, ?_⟩
    rw [isN_ok ra]
    exact q.ok s _ (.bl _)
  · exact q.elim
/-- in: a text in a text; flat data in a list or tuple of flat data; data in a list -/
def flatP : PD → Bool
  | .none => true
  | .bool _ => true
  | .int _ => true
  | .str _ => true
  | _ => false
def inS (i j : Str) : Bool := !(Builtin.Str.occurrences j i 0 j.length 1).isEmpty
def eqF : PD → PD → Bool
  | .none, .none => true
  | .bool a, .bool b => a == b
  | .bool a, .int b => (if a then 1 else 0) == b
  | .int a, .bool b => a == (if b then 1 else 0)
  | .int a, .int b => a == b
  | .str a, .str b => a == b
  | _, _ => false
def inB : PD → PD → R Bool
  | .str i, .str j => .ok (inS i j)
  | a, .list ds => if flatP a = true ∧ ds.all flatP = true then .ok (ds.any fun d => eqF d a)
      else if SeqAt.shaped a = true ∧ SeqAt.shaped (.list ds) = true then .ok (ds.any fun z => PyData.eqv z a) else .bad
  | a, .tuple ds => if flatP a = true ∧ ds.all flatP = true then .ok (ds.any fun d => eqF d a) else .bad
  | _, _ => .bad
def inD : PD → PD → R PD := fun a b => (inB a b).bind fun c => .ok (.bool c)
def ninD : PD → PD → R PD := fun a b => (inB a b).bind fun c => .ok (.bool !c)
theorem flat_ok {F H : Hp} {v : V} {d : PD} (r : Rp K F H v d) (h : flatP d = true) : flatV v = true := by
  rcases r with r | ⟨p, rfl, r⟩
  · cases r <;> first | rfl | cases h
  · cases d <;> first | exact False.elim r | cases h
theorem flats_ok {F : Hp} : ∀ {vs : List V} {ds : List PD}, DpAll K F vs ds → ds.all flatP = true → vs.all flatV = true
  | _, _, .nil, _ => rfl
  | _, _, .cons r t, h => by
    rw [List.all_cons, Bool.and_eq_true] at h ⊢
    exact ⟨flat_ok (F := F) (H := F) (.inl r) h.1, flats_ok t h.2⟩
theorem eqV_ok {F F' H : Hp} {v u : V} {d e : PD} (r : Dp K F v d) (r' : Rp K F' H u e) (h : flatP d = true) (h' : flatP e = true) : eqV v u = eqF d e := by
  rcases r' with r' | ⟨p, rfl, r'⟩
  · cases r <;> (try cases h) <;> cases r' <;> (try cases h') <;> rfl
  · cases e <;> first | exact False.elim r' | cases h'
theorem any_ok {F F' H : Hp} {u : V} {e : PD} (r' : Rp K F' H u e) (h' : flatP e = true) : ∀ {vs : List V} {ds : List PD}, DpAll K F vs ds → ds.all flatP = true → inV u vs = ds.any fun d => eqF d e
  | _, _, .nil, _ => rfl
  | _, _, .cons r t, h => by
    rw [List.all_cons, Bool.and_eq_true] at h
    have ih := any_ok r' h' t h.2
    unfold inV at ih ⊢
    rw [List.any_cons, List.any_cons, ih, eqV_ok r r' h.1 h']
def rIn2 (K : PySem.W.Frag) : R2 := fun x y H Q => (∃ i j, x = .str i ∧ y = .str j ∧ Q (.bl (!(Builtin.Str.occurrences j i 0 j.length 1).isEmpty)) H) ∨ rIn K false x y H Q ∨ rInD K x y H Q
def rNin2 (K : PySem.W.Frag) : R2 := fun x y H Q => (∃ i j, x = .str i ∧ y = .str j ∧ Q (.bl (!(!(Builtin.Str.occurrences j i 0 j.length 1).isEmpty))) H) ∨ rIn K true x y H Q ∨ rNotInD K x y H Q
theorem op_in2 {X : Cx} (hu : X.A.units + 65 < cLine) : OpR X (compareOp .In) (rIn2 X.K) := op_in_str.or (op_in_seq.or (op_inD hu))
theorem op_nin2 {X : Cx} (hu : X.A.units + 65 < cLine) : OpR X (compareOp .NotIn) (rNin2 X.K) := op_notIn_str.or (op_notIn_seq.or (op_notInD hu))
theorem rd_in : RD K (rIn2 K) inD := fun W σ F H x y a b Q s ra rb q => by
  unfold inD at q
  unfold inB at q
  split at q
  · exact .inl ⟨_, _, ra.str, rb.str, Fin.okk (x := PyData.bool _) K W σ s q _ (.bl _)⟩
  · split at q
    · rename_i h
      obtain ⟨p, vs, rfl, s1, r1⟩ := rb.list s
      refine .inr (.inl ⟨p, vs, rfl, .inl (.inl s1), flat_ok ra h.1, flats_ok r1 h.2, ?_⟩)
      rw [if_neg Bool.false_ne_true, any_ok ra h.1 r1 h.2]
      exact Fin.okk (x := PyData.bool _) K W σ s q _ (.bl _)
    · split at q
      · rename_i h
        exact .inr (.inr ⟨_, _, (ra.dp s (shaped_nodict h.1)).l2 (shaped_lay h.1), (rb.dp s (shaped_nodict h.2)).l2 (shaped_lay h.2), h.1, h.2, Fin.okk (x := PyData.bool _) K W σ s q _ (.bl _)⟩)
      · exact q.elim
  · split at q
    · rename_i h
      obtain ⟨p, vs, rfl, s1, r1⟩ := rb.tuple s
      refine .inr (.inl ⟨p, vs, rfl, .inr s1, flat_ok ra h.1, flats_ok r1 h.2, ?_⟩)
      rw [if_neg Bool.false_ne_true, any_ok ra h.1 r1 h.2]
      exact Fin.okk (x := PyData.bool _) K W σ s q _ (.bl _)
    · exact q.elim
  · exact q.elim
theorem rd_nin : RD K (rNin2 K) ninD := fun W σ F H x y a b Q s ra rb q => by
  unfold ninD at q
  unfold inB at q
  split at q
  · exact .inl ⟨_, _, ra.str, rb.str, Fin.okk (x := PyData.bool _) K W σ s q _ (.bl _)⟩
  · split at q
    · rename_i h
      obtain ⟨p, vs, rfl, s1, r1⟩ := rb.list s
      refine .inr (.inl ⟨p, vs, rfl, .inl (.inl s1), flat_ok ra h.1, flats_ok r1 h.2, ?_⟩)
      rw [if_pos rfl, any_ok ra h.1 r1 h.2]
      exact Fin.okk (x := PyData.bool _) K W σ s q _ (.bl _)
    · split at q
      · rename_i h
        exact .inr (.inr ⟨_, _, (ra.dp s (shaped_nodict h.1)).l2 (shaped_lay h.1), (rb.dp s (shaped_nodict h.2)).l2 (shaped_lay h.2), h.1, h.2, Fin.okk (x := PyData.bool _) K W σ s q _ (.bl _)⟩)
      · exact q.elim
  · split at q
    · rename_i h
      obtain ⟨p, vs, rfl, s1, r1⟩ := rb.tuple s
      refine .inr (.inl ⟨p, vs, rfl, .inr s1, flat_ok ra h.1, flats_ok r1 h.2, ?_⟩)
      rw [if_pos rfl, any_ok ra h.1 r1 h.2]
      exact Fin.okk (x := PyData.bool _) K W σ s q _ (.bl _)
    · exact q.elim
  · exact q.elim

/-! ### items, slices -/
theorem atI_ok {F : Hp} {vs : List V} {ds : List PD} {i : Int} {d : PD} (r : DpAll K F vs ds) (h : atI ds i = some d) : ∃ v, atI vs i = some v ∧ Dp K F v d := by
  unfold atI at h ⊢
  rw [r.length]
  cases e : ixN ds.length i with
  | none => rw [e] at h; cases h
  | some j =>
    rw [e] at h
    exact r.get' h
def ixD : PD → PD → R PD
  | .list ds, .int i => (match atI ds i with
    | some d => .ok d
    | none => .bad)
  | .tuple ds, .int i => (match atI ds i with
    | some d => .ok d
    | none => .bad)
  | .str z, .int i => if z.length ≤ sizeLine then (match atI z.cps.toList i with
    | some c => .ok (.str ⟨#[c]⟩)
    | none => .bad) else .bad
  | _, _ => .bad
theorem rd_ix : RD K (rIx K) ixD := fun W σ F H x y a b Q s ra rb q => by
  unfold ixD at q
  split at q
  · split at q
    · rename_i d e
      obtain ⟨p, vs, rfl, s1, r1⟩ := ra.list s
      obtain ⟨v, h1, h2⟩ := atI_ok r1 e
      exact .inl ⟨p, vs, _, v, rfl, rb.int, .inl s1, h1, q.ok s _ h2⟩
    · exact q.elim
  · split at q
    · rename_i d e
      obtain ⟨p, vs, rfl, s1, r1⟩ := ra.tuple s
      obtain ⟨v, h1, h2⟩ := atI_ok r1 e
      exact .inr (.inl ⟨p, vs, _, v, rfl, rb.int, s1, h1, q.ok s _ h2⟩)
    · exact q.elim
  · split at q
    · rename_i hz
      split at q
      · rename_i c e
        exact .inr (.inr ⟨_, _, c, ra.str, rb.int, hz, e, q.ok s _ (.str _)⟩)
      · exact q.elim
    · exact q.elim
  · exact q.elim
def TDp (K : PySem.W.Frag) (W : WX) (t : TO) (g : Rho → R (Option Int)) : Prop := ∀ (F0 H0 F H : Hp) (σ : L2.St) (ρ : Rho) (Q : Option Int → Hp → Prop), StR K F0 H0 F H σ ρ → Fin K W σ F H (g ρ) (fun o _ H' => Q o H') → t σ H Q
def pNo : Rho → R (Option Int) := fun _ => .ok none
def asI : PD → R Int
  | .int i => .ok i
  | _ => .bad
def pSo (g : Rho → R PD) : Rho → R (Option Int) := fun ρ => (g ρ).bind fun a => (asI a).bind fun i => .ok (some i)
variable {W : WX}
theorem tp_no : TDp K W tNoPart pNo := fun F0 H0 F H σ ρ Q S q => q.ok S.same
theorem tp_some {t : TE} {g : Rho → R PD} (h : TDr K W t g) : TDp K W (tPart t) (pSo g) := fun F0 H0 F H σ ρ Q S q =>
  h F0 H0 F H σ ρ _ S (q.then fun a F1 H1 e1 k1 v rv => by
    cases a with
    | int i => exact ⟨i, rv.int, Fin.okk (x := some i) K W σ e1.g k1⟩
    | _ => exact k1.elim)
def cutD (ds : List PD) (lo hi : Option Int) : List PD := (ds.drop (HT.sIx ds.length 0 lo)).take (HT.sIx ds.length ds.length hi - HT.sIx ds.length 0 lo)
theorem cut_ok {F : Hp} {vs : List V} {ds : List PD} {lo hi : Option Int} (r : DpAll K F vs ds) : DpAll K F (cutV vs lo hi) (cutD ds lo hi) := by
  unfold cutV cutD
  rw [r.length]
  exact (r.drop _).take _
def rSl2 (K : PySem.W.Frag) : V → Option Int → Option Int → Hp → VK → Prop := fun x lo hi H Q => rSlL K x lo hi H Q ∨ rSlA K x lo hi H Q ∨ rSlS x lo hi H Q
theorem sl_2 {X : Cx} : SlR X (rSl2 X.K) := sl_list.or (sl_tupA.or sl_str)
def slD (a : PD) (lo hi : Option Int) : R PD := match a with
  | .list ds => .ok (.list (cutD ds lo hi))
  | .tuple ds => .ok (.tuple (cutD ds lo hi))
  | .str z => if z.length ≤ sizeLine then .ok (.str (cutS z lo hi)) else .bad
  | _ => .bad
def eSl (g : Rho → R PD) (gl gh : Rho → R (Option Int)) : Rho → R PD := fun ρ => (g ρ).bind fun a => (gl ρ).bind fun l => (gh ρ).bind fun h => slD a l h
theorem cut_whole (vs : List V) {lo hi : Option Int} (h : HT.sIx vs.length 0 lo = 0 ∧ HT.sIx vs.length vs.length hi = vs.length) : cutV vs lo hi = vs := by
  unfold cutV
  rw [h.1, h.2]
  simp
theorem cut_same {F : Hp} {vs : List V} {ds : List PD} {lo hi : Option Int} (r : DpAll K F vs ds) (h : HT.sIx vs.length 0 lo = 0 ∧ HT.sIx vs.length vs.length hi = vs.length) : cutD ds lo hi = ds := by
  unfold cutD
  rw [r.length] at h
  rw [h.1, h.2]
  simp
theorem td_sl {t : TE} {g : Rho → R PD} {tl th : TO} {gl gh : Rho → R (Option Int)} (h : TDr K W t g) (hl : TDp K W tl gl) (hh : TDp K W th gh) : TDe K W (tSl (rSl2 K) t tl th) (eSl g gl gh) := fun F0 H0 F H σ ρ Q S q =>
  h F0 H0 F H σ ρ _ S (q.then fun a F1 H1 e1 k1 v rv => hl F0 H0 F1 H1 σ ρ _ (S.go e1) (k1.then fun lo F2 H2 e2 k2 => hh F0 H0 F2 H2 σ ρ _ ((S.go e1).go e2) (k2.then fun hi F3 H3 e3 k3 => by
    have rv := (rv.ext e2.f e2.h).ext e3.f e3.h
    unfold slD at k3
    split at k3
    · obtain ⟨p, vs, rfl, s1, r1⟩ := rv.list e3.g
      exact .inl ⟨p, vs, rfl, .inl s1, fun p hp => new_lst e3.g (cut_ok r1) k3 hp⟩
    · obtain ⟨p, vs, rfl, s1, r1⟩ := rv.tuple e3.g
      refine .inr (.inl ⟨p, vs, rfl, s1, fun hw => ?_, fun hw p hp => new_tup e3.g (cut_ok r1) k3 hp⟩)
      have e := cut_ok (lo := lo) (hi := hi) r1
      rw [cut_whole vs hw] at e
      refine Fin.okk (x := PyData.tuple _) K W σ e3.g k3 _ ?_
      rcases rv with rv | ⟨p', e', z⟩
      · rw [cut_same r1 hw]
        exact rv
      · exact z.elim
    · split at k3
      · rename_i hz
        exact .inr (.inr ⟨_, rv.str, hz, Fin.okk (x := PyData.str _) K W σ e3.g k3 _ (.str _)⟩)
      · exact k3.elim
    · exact k3.elim)))
def slL (a : PD) (lo hi : Option Int) : R PD := match a with
  | .list ds => .ok (.list (cutD ds lo hi))
  | _ => .bad
def oSl (g : Rho → R PD) (gl gh : Rho → R (Option Int)) : Rho → R PD := fun ρ => (g ρ).bind fun a => (gl ρ).bind fun l => (gh ρ).bind fun h => slL a l h
/-- readings whose result is new: the start's heap is told -/
theorem OwQ.back {F H F1 H1 : Hp} {σ : L2.St} {r : R PD} {Q : VK} (e : Ext F H F1 H1) (h : Fin K W σ F1 H1 r (OwQ K H Q)) : Fin K W σ F1 H1 r (OwQ K H1 Q) :=
  h.imp fun x F' H' e2 k p hp hf ho => k p (e.h.free hp) hf ho
theorem to_sl {t : TE} {g : Rho → R PD} {tl th : TO} {gl gh : Rho → R (Option Int)} (h : TDr K W t g) (hl : TDp K W tl gl) (hh : TDp K W th gh) : TDo K W (tSl (rSl2 K) t tl th) (oSl g gl gh) := fun F0 H0 F H σ ρ Q S q =>
  h F0 H0 F H σ ρ _ S (q.then fun a F1 H1 e1 k1 v rv => hl F0 H0 F1 H1 σ ρ _ (S.go e1) (k1.then fun lo F2 H2 e2 k2 => hh F0 H0 F2 H2 σ ρ _ ((S.go e1).go e2) (k2.then fun hi F3 H3 e3 k3 => by
    have rv := (rv.ext e2.f e2.h).ext e3.f e3.h
    have k3 := OwQ.back ((e1.trans e2).trans e3) k3
    unfold slL at k3
    split at k3
    · obtain ⟨p, vs, rfl, s1, r1⟩ := rv.list e3.g
      exact .inl ⟨p, vs, rfl, .inl s1, fun p hp => own_lst e3.g (cut_ok r1) k3 hp⟩
    · exact k3.elim)))

/-! ### built-in functions by name -/
def RC (K : PySem.W.Frag) (r : List V → Hp → VK → Prop) (f : List PD → R PD) : Prop := ∀ (W : WX) (σ : L2.St) (F H : Hp) (vs : List V) (ds : List PD) (Q : VK), Same F H → RpAll K F H vs ds → Fin K W σ F H (f ds) (DpQ K Q) → r vs H Q
def RCo (K : PySem.W.Frag) (r : List V → Hp → VK → Prop) (f : List PD → R PD) : Prop := ∀ (W : WX) (σ : L2.St) (F H : Hp) (vs : List V) (ds : List PD) (Q : VK), Same F H → RpAll K F H vs ds → Fin K W σ F H (f ds) (OwQ K H Q) → r vs H Q
variable {ta : TA} {ga : Rho → R (List PD)} {r : List V → Hp → VK → Prop} {f : List PD → R PD}
def eCB (f : List PD → R PD) (ga : Rho → R (List PD)) : Rho → R PD := fun ρ => (ga ρ).bind f
theorem td_cb (hr : RC K r f) (h : TDq K W ta ga) : TDe K W (tCB r ta) (eCB f ga) := fun F0 H0 F H σ ρ Q S q =>
  h F0 H0 F H σ ρ _ S (q.then fun ds F1 H1 e1 k1 vs rs => hr W σ F1 H1 vs ds Q e1.g rs k1)
theorem to_cb (hr : RCo K r f) (h : TDq K W ta ga) : TDo K W (tCB r ta) (eCB f ga) := fun F0 H0 F H σ ρ Q S q =>
  h F0 H0 F H σ ρ _ S (q.then fun ds F1 H1 e1 k1 vs rs => hr W σ F1 H1 vs ds Q e1.g rs (OwQ.back e1 k1))
theorem RpAll.one {F H : Hp} {vs : List V} {d : PD} (r : RpAll K F H vs [d]) : ∃ v, vs = [v] ∧ Rp K F H v d := by
  cases r with
  | cons a b => cases b; exact ⟨_, rfl, a⟩
theorem RpAll.two {F H : Hp} {vs : List V} {d e : PD} (r : RpAll K F H vs [d, e]) : ∃ v u, vs = [v, u] ∧ Rp K F H v d ∧ Rp K F H u e := by
  cases r with
  | cons a b =>
    obtain ⟨u, rfl, c⟩ := b.one
    exact ⟨_, _, rfl, a, c⟩
def lenD : List PD → R PD
  | [.list ds] => .ok (.int ds.length)
  | [.tuple ds] => .ok (.int ds.length)
  | [.str z] => if z.length ≤ sizeLine then .ok (.int z.length) else .bad
  | _ => .bad
theorem rc_len : RC K (fun xs H Q => ∃ x n, xs = [x] ∧ LenV K x H n ∧ Q (.int n) H) lenD := fun W σ F H vs ds Q s rs q => by
  unfold lenD at q
  split at q
  · obtain ⟨v, rfl, r⟩ := rs.one
    obtain ⟨p, us, rfl, s1, r1⟩ := r.list s
    exact ⟨_, _, rfl, .inl ⟨us, .inl s1, r1.length.symm⟩, q.ok s _ (.int _)⟩
  · obtain ⟨v, rfl, r⟩ := rs.one
    obtain ⟨p, us, rfl, s1, r1⟩ := r.tuple s
    exact ⟨_, _, rfl, .inr ⟨us, s1, r1.length.symm⟩, q.ok s _ (.int _)⟩
  · split at q
    · rename_i hz
      obtain ⟨v, rfl, r⟩ := rs.one
      exact ⟨_, _, rfl, by rw [r.str]; exact ⟨hz, rfl⟩, q.ok s _ (.int _)⟩
    · exact q.elim
  · exact q.elim
def rList (K : PySem.W.Frag) : List V → Hp → VK → Prop := fun xs H Q => ∃ p ys, xs = [.ref p] ∧ (SqL K H p ys ∨ SqT K H p ys) ∧ ∀ l, H l = none → Q (.ref l) (upd H l (.lst ys))
def listD : List PD → R PD
  | [.list ds] => .ok (.list ds)
  | [.tuple ds] => .ok (.list ds)
  | _ => .bad
theorem rco_list : RCo K (rList K) listD := fun W σ F H vs ds Q s rs q => by
  unfold listD at q
  split at q
  · obtain ⟨v, rfl, r⟩ := rs.one
    obtain ⟨p, us, rfl, s1, r1⟩ := r.list s
    exact ⟨_, _, rfl, .inl (.inl s1), fun l hl => own_lst s r1 q hl⟩
  · obtain ⟨v, rfl, r⟩ := rs.one
    obtain ⟨p, us, rfl, s1, r1⟩ := r.tuple s
    exact ⟨_, _, rfl, .inr s1, fun l hl => own_lst s r1 q hl⟩
  · exact q.elim
def rTuple (K : PySem.W.Frag) : List V → Hp → VK → Prop := fun xs H Q => ∃ p ys, xs = [.ref p] ∧ ((SqL K H p ys ∧ ∀ l, H l = none → Q (.ref l) (upd H l (.tup ys))) ∨ (SqT K H p ys ∧ Q (.ref p) H))
def tupleD : List PD → R PD
  | [.list ds] => .ok (.tuple ds)
  | [.tuple ds] => .ok (.tuple ds)
  | _ => .bad
theorem rc_tuple : RC K (rTuple K) tupleD := fun W σ F H vs ds Q s rs q => by
  unfold tupleD at q
  split at q
  · obtain ⟨v, rfl, r⟩ := rs.one
    obtain ⟨p, us, rfl, s1, r1⟩ := r.list s
    exact ⟨_, _, rfl, .inl ⟨.inl s1, fun l hl => new_tup s r1 q hl⟩⟩
  · obtain ⟨v, rfl, r⟩ := rs.one
    obtain ⟨p, us, rfl, s1, r1⟩ := r.tuple s
    refine ⟨_, _, rfl, .inr ⟨s1, ?_⟩⟩
    rcases r with r | ⟨p', e, z⟩
    · exact q.ok s _ r
    · exact z.elim
  · exact q.elim
/-- all of one kind -/
def asInts : List PD → Option (List Int)
  | [] => some []
  | .int i :: ds => (asInts ds).map (i :: ·)
  | _ => none
theorem asInts_ok : ∀ {ds : List PD} {ns : List Int}, asInts ds = some ns → ds = ns.map PyData.int
  | [], _, h => by cases h; rfl
  | d :: ds, ns, h => by
    cases d with
    | int i =>
      have h : (asInts ds).map (i :: ·) = some ns := h
      cases e : asInts ds with
      | none => rw [e] at h; cases h
      | some l => rw [e] at h; cases h; rw [asInts_ok e]; rfl
    | _ => cases h
theorem asInts_map : ∀ ns : List Int, asInts (ns.map PyData.int) = some ns
  | [] => rfl
  | n :: ns => by
    show (asInts (ns.map PyData.int)).map (n :: ·) = _
    rw [asInts_map ns]; rfl
def asStrs : List PD → Option (List Str)
  | [] => some []
  | .str i :: ds => (asStrs ds).map (i :: ·)
  | _ => none
theorem asStrs_ok : ∀ {ds : List PD} {ns : List Str}, asStrs ds = some ns → ds = ns.map PyData.str
  | [], _, h => by cases h; rfl
  | d :: ds, ns, h => by
    cases d with
    | str i =>
      have h : (asStrs ds).map (i :: ·) = some ns := h
      cases e : asStrs ds with
      | none => rw [e] at h; cases h
      | some l => rw [e] at h; cases h; rw [asStrs_ok e]; rfl
    | _ => cases h
theorem asStrs_map : ∀ ns : List Str, asStrs (ns.map PyData.str) = some ns
  | [] => rfl
  | n :: ns => by
    show (asStrs (ns.map PyData.str)).map (n :: ·) = _
    rw [asStrs_map ns]; rfl
def asBools : List PD → Option (List Bool)
  | [] => some []
  | .bool i :: ds => (asBools ds).map (i :: ·)
  | _ => none
theorem asBools_ok : ∀ {ds : List PD} {ns : List Bool}, asBools ds = some ns → ds = ns.map PyData.bool
  | [], _, h => by cases h; rfl
  | d :: ds, ns, h => by
    cases d with
    | bool i =>
      have h : (asBools ds).map (i :: ·) = some ns := h
      cases e : asBools ds with
      | none => rw [e] at h; cases h
      | some l => rw [e] at h; cases h; rw [asBools_ok e]; rfl
    | _ => cases h
theorem asBools_map : ∀ ns : List Bool, asBools (ns.map PyData.bool) = some ns
  | [] => rfl
  | n :: ns => by
    show (asBools (ns.map PyData.bool)).map (n :: ·) = _
    rw [asBools_map ns]; rfl
def sumD : List PD → R PD
  | [.list ds] => (match asInts ds with
    | some ns => .ok (.int ns.sum)
    | none => .bad)
  | _ => .bad
theorem rc_sum : RC K (rSum K) sumD := fun W σ F H vs ds Q s rs q => by
  unfold sumD at q
  split at q
  · split at q
    · rename_i ns e
      obtain ⟨v, rfl, r⟩ := rs.one
      obtain ⟨p, us, rfl, s1, r1⟩ := r.list s
      rw [asInts_ok e] at r1
      have e2 := r1.of_ints
      subst e2
      exact ⟨p, ns, rfl, .inl s1, q.ok s _ (.int _)⟩
    · exact q.elim
  · exact q.elim
def anyD : List PD → R PD
  | [.list ds] => (match asBools ds with
    | some bs => .ok (.bool (bs.any id))
    | none => .bad)
  | _ => .bad
def allD : List PD → R PD
  | [.list ds] => (match asBools ds with
    | some bs => .ok (.bool (bs.all id))
    | none => .bad)
  | _ => .bad
theorem rc_any : RC K (rAny K) anyD := fun W σ F H vs ds Q s rs q => by
  unfold anyD at q
  split at q
  · split at q
    · rename_i ns e
      obtain ⟨v, rfl, r⟩ := rs.one
      obtain ⟨p, us, rfl, s1, r1⟩ := r.list s
      rw [asBools_ok e] at r1
      have e2 := r1.of_bls
      subst e2
      exact ⟨p, ns, rfl, .inl s1, q.ok s _ (.bl _)⟩
    · exact q.elim
  · exact q.elim
theorem rc_all : RC K (rAll K) allD := fun W σ F H vs ds Q s rs q => by
  unfold allD at q
  split at q
  · split at q
    · rename_i ns e
      obtain ⟨v, rfl, r⟩ := rs.one
      obtain ⟨p, us, rfl, s1, r1⟩ := r.list s
      rw [asBools_ok e] at r1
      have e2 := r1.of_bls
      subst e2
      exact ⟨p, ns, rfl, .inl s1, q.ok s _ (.bl _)⟩
    · exact q.elim
  · exact q.elim
def rMax2 : List V → Hp → VK → Prop := fun xs H Q => ∃ i j, xs = [.int i, .int j] ∧ Q (.int (if j > i then j else i)) H
def rMin2 : List V → Hp → VK → Prop := fun xs H Q => ∃ i j, xs = [.int i, .int j] ∧ Q (.int (if j < i then j else i)) H
def max2D : List PD → R PD
  | [.int i, .int j] => .ok (.int (if j > i then j else i))
  | _ => .bad
def min2D : List PD → R PD
  | [.int i, .int j] => .ok (.int (if j < i then j else i))
  | _ => .bad
theorem rc_max2 : RC K rMax2 max2D := fun W σ F H vs ds Q s rs q => by
  unfold max2D at q
  split at q
  · obtain ⟨v, u, rfl, r1, r2⟩ := rs.two
    exact ⟨_, _, by rw [r1.int, r2.int], q.ok s _ (.int _)⟩
  · exact q.elim
theorem rc_min2 : RC K rMin2 min2D := fun W σ F H vs ds Q s rs q => by
  unfold min2D at q
  split at q
  · obtain ⟨v, u, rfl, r1, r2⟩ := rs.two
    exact ⟨_, _, by rw [r1.int, r2.int], q.ok s _ (.int _)⟩
  · exact q.elim
/-- str(n) -/
def strD : List PD → R PD
  | [.int i] => if i.natAbs.log2 < 1920 then .ok (.str (toString i)) else .bad
  | _ => .bad
theorem rc_str : RC K (fun xs H Q => ∃ i : Int, xs = [.int i] ∧ i.natAbs.log2 < 1920 ∧ Q (.str (toString i)) H) strD := fun W σ F H vs ds Q s rs q => by
  unfold strD at q
  split at q
  · split at q
    · rename_i h
      obtain ⟨v, rfl, r1⟩ := rs.one
      exact ⟨_, by rw [r1.int], h, q.ok s _ (.str _)⟩
    · exact q.elim
  · exact q.elim
/-- int(n), int(flag), int(text) -/
def rInt : List V → Hp → VK → Prop := fun xs H Q => ((∃ i, xs = [.int i] ∧ Q (.int i) H) ∨ ∃ k, xs = [.bl k] ∧ Q (.int (if k then 1 else 0)) H) ∨ ∃ a n, xs = [.str a] ∧ PySem.intText? a = some n ∧ a.length ≤ 640 ∧ Q (.int n) H
theorem call_int3 {X : Cx} : CallR X (.type "int") rInt := call_int1.or call_int_str
def intD : List PD → R PD
  | [.int i] => .ok (.int i)
  | [.bool k] => .ok (.int (if k = true then 1 else 0))
  | [.str a] => (match PySem.intText? a with
    | some n => if a.length ≤ 640 then .ok (.int n) else .bad
    | none => .bad)
  | _ => .bad
theorem rc_int : RC K rInt intD := fun W σ F H vs ds Q s rs q => by
  unfold intD at q
  split at q
  · obtain ⟨v, rfl, r1⟩ := rs.one
    exact .inl (.inl ⟨_, by rw [r1.int], q.ok s _ (.int _)⟩)
  · obtain ⟨v, rfl, r1⟩ := rs.one
    exact .inl (.inr ⟨_, by rw [r1.bool], q.ok s _ (.int _)⟩)
  · split at q
    · rename_i n e
      split at q
      · rename_i h
        obtain ⟨v, rfl, r1⟩ := rs.one
        exact .inr ⟨_, _, by rw [r1.str], e, h, q.ok s _ (.int _)⟩
      · exact q.elim
    · exact q.elim
  · exact q.elim
/-- isinstance(x, T), T a built-in type written -/
def tyName : PD → Option String
  | .none => some "NoneType"
  | .bool _ => some "bool"
  | .int _ => some "int"
  | .str _ => some "str"
  | .list _ => some "list"
  | .tuple _ => some "tuple"
  | .dict _ => none
def isiB (T : String) (a : PD) : Option Bool := (tyName a).bind fun n => kitB n T
def isiD (T : String) : PD → R PD := fun a => match isiB T a with
  | some b => .ok (.bool b)
  | none => .bad
theorem tyX_of {F H : Hp} {x : V} {a : PD} {n : String} (s : Same F H) (ra : Rp K F H x a) (h : tyName a = some n) : TyX K H x (.type n) := by
  cases a with
  | none => cases h; rw [ra.none]; exact .base .non
  | bool b => cases h; rw [ra.bool]; exact .base (.bl b)
  | int b => cases h; rw [ra.int]; exact .base (.int b)
  | str b => cases h; rw [ra.str]; exact .base (.str b)
  | list ds =>
    cases h
    obtain ⟨p, vs, rfl, s1, r1⟩ := ra.list s
    rcases s1 with z | ⟨o, z⟩
    · exact .base (.lst z)
    · exact .base (.frz z)
  | tuple ds =>
    cases h
    obtain ⟨p, vs, rfl, s1, r1⟩ := ra.tuple s
    rcases s1 with (z | ⟨o, z⟩) | ⟨o, its, n, z1, z2, _⟩
    · exact .base (.tup z)
    · exact .fTuple z
    · exact .kTuple z1 z2
  | dict kvs => cases h
def eIsi (T : String) (g : Rho → R PD) : Rho → R PD := fun ρ => (g ρ).bind (isiD T)
theorem td_isi {t : TE} {g : Rho → R PD} {T : String} (h : TDr K W t g) : TDe K W (tCB (rIsi K) (tCons t (tCons (tC (.ty T)) tNil))) (eIsi T g) := fun F0 H0 F H σ ρ Q S q =>
  h F0 H0 F H σ ρ _ S (q.then fun a F1 H1 e1 k1 v rv => by
    unfold isiD at k1
    split at k1
    · rename_i b e
      unfold isiB at e
      cases en : tyName a with
      | none => rw [en] at e; cases e
      | some n =>
        rw [en] at e
        exact ⟨v, .ty T, .type n, .type T, b, rfl, .ty T, tyX_of e1.g rv en, kit_ty e, k1.ok e1.g _ (.bl b)⟩
    · exact k1.elim)

/-! ### methods of texts -/
def RM (K : PySem.W.Frag) (r : V → List V → Hp → VK → Prop) (f : PD → List PD → R PD) : Prop := ∀ (W : WX) (σ : L2.St) (F H : Hp) (x : V) (a : PD) (vs : List V) (ds : List PD) (Q : VK), Same F H → Rp K F H x a → RpAll K F H vs ds → Fin K W σ F H (f a ds) (DpQ K Q) → r x vs H Q
def RMo (K : PySem.W.Frag) (r : V → List V → Hp → VK → Prop) (f : PD → List PD → R PD) : Prop := ∀ (W : WX) (σ : L2.St) (F H : Hp) (x : V) (a : PD) (vs : List V) (ds : List PD) (Q : VK), Same F H → Rp K F H x a → RpAll K F H vs ds → Fin K W σ F H (f a ds) (OwQ K H Q) → r x vs H Q
def strOf (a : PD) (k : R PD) : R PD := match a with
  | .str _ => k
  | _ => .bad
def eM0 (f : PD → List PD → R PD) (g : Rho → R PD) : Rho → R PD := fun ρ => (g ρ).bind fun a => strOf a (f a [])
def eM1 (f : PD → List PD → R PD) (g ge : Rho → R PD) : Rho → R PD := fun ρ => (g ρ).bind fun a => strOf a ((ge ρ).bind fun b => f a [b])
theorem strOf_k {F H : Hp} {σ : L2.St} {a : PD} {x : V} {k : R PD} {P : PD → Hp → Hp → Prop} (ra : Rp K F H x a) (h : Fin K W σ F H (strOf a k) P) : (∃ z, x = .str z) ∧ Fin K W σ F H k P := by
  unfold strOf at h
  split at h
  · exact ⟨⟨_, ra.str⟩, h⟩
  · exact h.elim
variable {t te : TE} {g ge : Rho → R PD} {rm : V → List V → Hp → VK → Prop} {fm : PD → List PD → R PD}
theorem td_m0 (hr : RM K rm fm) (h : TDr K W t g) : TDe K W (tM0 rm t) (eM0 fm g) := fun F0 H0 F H σ ρ Q S q =>
  h F0 H0 F H σ ρ _ S (q.then fun a F1 H1 e1 k1 v rv => by
    obtain ⟨z, k2⟩ := strOf_k rv k1
    exact ⟨z, hr W σ F1 H1 v a [] [] Q e1.g rv .nil k2⟩)
theorem to_m0 (hr : RMo K rm fm) (h : TDr K W t g) : TDo K W (tM0 rm t) (eM0 fm g) := fun F0 H0 F H σ ρ Q S q =>
  h F0 H0 F H σ ρ _ S (q.then fun a F1 H1 e1 k1 v rv => by
    obtain ⟨z, k2⟩ := strOf_k rv k1
    exact ⟨z, hr W σ F1 H1 v a [] [] Q e1.g rv .nil (OwQ.back e1 k2)⟩)
theorem td_m1 (hr : RM K rm fm) (h : TDr K W t g) (he : TDr K W te ge) : TDe K W (tM1 rm t te) (eM1 fm g ge) := fun F0 H0 F H σ ρ Q S q =>
  h F0 H0 F H σ ρ _ S (q.then fun a F1 H1 e1 k1 v rv => by
    obtain ⟨z, k2⟩ := strOf_k rv k1
    exact ⟨z, he F0 H0 F1 H1 σ ρ _ (S.go e1) (k2.then fun b F2 H2 e2 k3 u ru => hr W σ F2 H2 v a [u] [b] Q e2.g (rv.ext e2.f e2.h) (.cons ru .nil) k3)⟩)
theorem to_m1 (hr : RMo K rm fm) (h : TDr K W t g) (he : TDr K W te ge) : TDo K W (tM1 rm t te) (eM1 fm g ge) := fun F0 H0 F H σ ρ Q S q =>
  h F0 H0 F H σ ρ _ S (q.then fun a F1 H1 e1 k1 v rv => by
    obtain ⟨z, k2⟩ := strOf_k rv k1
    exact ⟨z, he F0 H0 F1 H1 σ ρ _ (S.go e1) (k2.then fun b F2 H2 e2 k3 u ru => hr W σ F2 H2 v a [u] [b] Q e2.g (rv.ext e2.f e2.h) (.cons ru .nil) (OwQ.back (e1.trans e2) k3))⟩)
def rSplit : V → List V → Hp → VK → Prop := fun x xs H Q => ∃ a b : Str, x = .str a ∧ xs = [.str b] ∧ (b.length == 0) = false ∧ a.length + 2 ≤ sizeLine ∧ rNewStrs (Txt.split a b) H Q
def splitD : PD → List PD → R PD
  | .str a, [.str b] => if (b.length == 0) = false ∧ a.length + 2 ≤ sizeLine then .ok (.list ((Txt.split a b).map PyData.str)) else .bad
  | _, _ => .bad
theorem rmo_split : RMo K rSplit splitD := fun W σ F H x a vs ds Q s ra rs q => by
  unfold splitD at q
  split at q
  · split at q
    · rename_i h
      obtain ⟨v, rfl, r1⟩ := rs.one
      exact ⟨_, _, ra.str, by rw [r1.str], h.1, h.2, fun p hp => own_lst s DpAll.strs q hp⟩
    · exact q.elim
  · exact q.elim
def rWords : V → List V → Hp → VK → Prop := fun x xs H Q => ∃ a : Str, x = .str a ∧ xs = [] ∧ a.length + 2 ≤ sizeLine ∧ rNewStrs (Txt.words a) H Q
def wordsD : PD → List PD → R PD
  | .str a, [] => if a.length + 2 ≤ sizeLine then .ok (.list ((Txt.words a).map PyData.str)) else .bad
  | _, _ => .bad
theorem rmo_words : RMo K rWords wordsD := fun W σ F H x a vs ds Q s ra rs q => by
  unfold wordsD at q
  split at q
  · split at q
    · rename_i h
      cases rs
      exact ⟨_, ra.str, rfl, h, fun p hp => own_lst s DpAll.strs q hp⟩
    · exact q.elim
  · exact q.elim
def rJoin (K : PySem.W.Frag) : V → List V → Hp → VK → Prop := fun x xs H Q => ∃ a p, ∃ ys : List Str, x = .str a ∧ xs = [.ref p] ∧ (SqL K H p (ys.map V.str) ∨ SqT K H p (ys.map V.str)) ∧
    (ys.map (·.length)).sum + ys.length * a.length ≤ 16777216 ∧ Q (.str (Txt.join a ys)) H
def joinD : PD → List PD → R PD
  | .str a, [.list ds] => (match asStrs ds with
    | some ys => if (ys.map (·.length)).sum + ys.length * a.length ≤ 16777216 then .ok (.str (Txt.join a ys)) else .bad
    | none => .bad)
  | _, _ => .bad
theorem rm_join : RM K (rJoin K) joinD := fun W σ F H x a vs ds Q s ra rs q => by
  unfold joinD at q
  split at q
  · split at q
    · rename_i ys e
      split at q
      · rename_i h
        obtain ⟨v, rfl, r1⟩ := rs.one
        obtain ⟨p, us, rfl, s1, r2⟩ := r1.list s
        rw [asStrs_ok e] at r2
        have e2 := r2.of_strs
        subst e2
        exact ⟨_, p, ys, ra.str, rfl, .inl (.inl s1), h, q.ok s _ (.str _)⟩
      · exact q.elim
    · exact q.elim
  · exact q.elim
def rStarts : V → List V → Hp → VK → Prop := fun x xs H Q => ∃ a b, x = .str a ∧ xs = [.str b] ∧ Q (.bl (Txt.startswith a b)) H
def startsD : PD → List PD → R PD
  | .str a, [.str b] => .ok (.bool (Txt.startswith a b))
  | _, _ => .bad
theorem rm_starts : RM K rStarts startsD := fun W σ F H x a vs ds Q s ra rs q => by
  unfold startsD at q
  split at q
  · obtain ⟨v, rfl, r1⟩ := rs.one
    exact ⟨_, _, ra.str, by rw [r1.str], q.ok s _ (.bl _)⟩
  · exact q.elim
def rCount : V → List V → Hp → VK → Prop := fun x xs H Q => ∃ a b, x = .str a ∧ xs = [.str b] ∧ Q (.int (Txt.count a b)) H
def countD : PD → List PD → R PD
  | .str a, [.str b] => .ok (.int (Txt.count a b))
  | _, _ => .bad
theorem rm_count : RM K rCount countD := fun W σ F H x a vs ds Q s ra rs q => by
  unfold countD at q
  split at q
  · obtain ⟨v, rfl, r1⟩ := rs.one
    exact ⟨_, _, ra.str, by rw [r1.str], q.ok s _ (.int _)⟩
  · exact q.elim

/-! ### lists changed in place: a name's own list -/
def ownL (ρ : Rho) (i : Nat) (k : List PD → SR) : SR := match ρ[i]? with
  | some (some (.t (.own (.list ds)))) => k ds
  | _ => .bad
def sAppend (i : Nat) (g : Rho → R PD) : Rho → SR := fun ρ => ownL ρ i fun ds => SR.of (g ρ) fun x => if ds.length < sizeLine then .nx (ρ.set i (some (.o (.list (ds ++ [x]))))) else .bad
theorem ownL_k {F0 H0 F H : Hp} {σ : L2.St} {ρ : Rho} {D : Ends} {i : Nat} {k : List PD → SR} (S : StR K F0 H0 F H σ ρ) (h : FinS K W F0 H0 D (ownL ρ i k)) :
    ∃ p ds vs, ρ[i]? = some (some (Sl.o (.list ds))) ∧ σ[i]? = some (some (.ref p)) ∧ H p = some (.lst vs) ∧ DpAll K F vs ds ∧ FinS K W F0 H0 D (k ds) := by
  unfold ownL at h
  split at h
  · rename_i ds e
    obtain ⟨p, a, b, c, vs, d1, d2⟩ := S.own i _ e
    exact ⟨p, ds, vs, e, a, d1, d2, h⟩
  · exact h.elim
theorem ds_append (i : Nat) (h : TDe K W te g) : TDS K W (tDrop (tBM K "list" rAppend (tVar i) (tCons te tNil))) (sAppend i g) := fun F0 H0 F H σ ρ D S q => by
  obtain ⟨p, ds, vs, h1, h2, h3, h4, k⟩ := ownL_k S q
  refine ⟨.ref p, h2, .inl ⟨rfl, vs, SqL.of h3⟩, h F0 H0 F H σ ρ _ S (k.of S.ext fun x F1 H1 e1 k v rv => ?_)⟩
  have k : FinS K W F0 H0 D (if ds.length < sizeLine then .nx (ρ.set i (some (.o (.list (ds ++ [x]))))) else .bad) := k
  by_cases hl : ds.length < sizeLine
  · rw [if_pos hl] at k
    refine ⟨p, vs, v, rfl, rfl, e1.h p _ h3, by rw [h4.length]; exact hl, ?_⟩
    exact k σ F1 _ ((S.go e1).mut h1 h2 ⟨_, upd_same, (h4.mono e1.f).append (.cons rv .nil)⟩)
  · rw [if_neg hl] at k
    exact k.elim
end
end DL
namespace DL
open PySem PySem.Spec PyProof.Rows L2

/-! ### a written part without lists -/
def isListO (o : Obj) : Bool := match o.cls with
  | .type c => c == "list"
  | _ => false
def frN (g : Addr → Option Obj) (as : List Addr) : PySem.W.Frag := (He.frG g as).filter fun q => !isListO q.2
theorem frG_mem {g : Addr → Option Obj} {as : List Addr} {a : Addr} {ob : Obj} (h : (a, ob) ∈ He.frG g as) : g a = some ob := by
  unfold He.frG at h
  obtain ⟨b, _, e⟩ := List.mem_filterMap.mp h
  cases hb : g b with
  | none =>
    rw [hb] at e
    cases e
  | some u =>
    rw [hb] at e
    have eq2 : (b, u) = (a, ob) := Option.some.inj e
    injection eq2 with e3 e4
    rw [← e3, ← e4]
    exact hb
theorem lookup_mem {a : Addr} {ob : Obj} : ∀ {l : List (Addr × Obj)}, l.lookup a = some ob → (a, ob) ∈ l
  | [], h => by cases h
  | (b, u) :: r, h => by
    have hq : (match a == b with | true => some u | false => r.lookup a) = some ob := h
    cases q : (a == b) with
    | true =>
      rw [q] at hq
      have eo : u = ob := Option.some.inj hq
      rw [beq_iff_eq.mp q, eo]
      exact List.mem_cons_self
    | false =>
      rw [q] at hq
      exact List.mem_cons_of_mem _ (lookup_mem hq)
theorem frN_in {as : List Addr} {h : Heap} : (frN h.get? as).In h := fun a o e => frG_mem (List.mem_filter.mp (lookup_mem e)).1
def NoLists (K : PySem.W.Frag) : Prop := ∀ a o, K.lookup a = some o → o.cls ≠ .type "list"
theorem frN_no {g : Addr → Option Obj} {as : List Addr} : NoLists (frN g as) := fun a o e z => by
  have h := (List.mem_filter.mp (lookup_mem e)).2
  simp only at h
  unfold isListO at h
  rw [z] at h
  simp at h
def obsN (n : Nat) (fa : List He.Fa) (fn : List He.DefD) (ex : PySem.W.Frag → Bool) (g : Addr → Option Obj) : Bool × He.AlD := (ex (frN g (He.asD g n)), He.obsD fa fn (frN g (He.asD g n)))
def hookN (n : Nat) (fa : List He.Fa) (fn : List He.DefD) (ex : PySem.W.Frag → Bool) : PySem.W.Hook where
  α := Bool × He.AlD
  obs := fun s => obsN n fa fn ex s.heap.get?
  val := fun _ => (true, He.valD fn)
  says := fun _ h => ∃ K : PySem.W.Frag, K.In h ∧ NoLists K ∧ ex K = true ∧ He.SaysD fa fn K
  of := fun _ s e => ⟨_, frN_in, frN_no, congrArg Prod.fst e, congrArg Prod.snd e⟩
  keeps := fun _ _ _ ⟨K, hK, c⟩ k => ⟨K, PySem.W.Frag.In.keeps hK k, c⟩
theorem obsN_eq {n : Nat} {fa : List He.Fa} {fn : List He.DefD} {ex : PySem.W.Frag → Bool} {g : Addr → Option Obj} {s : Shared} (h : ∀ a, g a = s.heap.get? a) : obsN n fa fn ex g = (hookN n fa fn ex).obs s := by
  have e : g = s.heap.get? := funext h
  rw [e] <;> rfl

/-! ### defs by name -/
/-- what callers use of a def -/
def Kept (P : Program) (w : World) (K : PySem.W.Frag) (mg : Str → Option Value) (base : Heap) (k n : Nat) (x : Str) (ps : List Str) (f : List PD → FR) : Prop :=
  ∃ fd : FuncData, PySem.W.keepIn K (.ref (He.ga K x)) = true ∧ mg x = some (.ref (He.ga K x)) ∧ Binds K fd ps [] ∧ FnOk P w K mg base (L2.CX P w) k (He.ga K x) fd ps (spD K n f)
theorem hu65 {A : Around} {k : Nat} (hr : Room k A) : A.units + 65 < cLine := by have := hr.un; omega
/-- the law's end -/
theorem law_end {l : PySem.W.OpenLaw} {n k : Nat} {q : Program} {loose : List Str} {XP : (Str → Option Value) → Heap → Prop} {d : DefRec} {fa : List He.Fa} {fn : List He.DefD} {ex : PySem.W.Frag → Bool} {YP : World → Heap → Prop} {x : Str} {f : List PD → FR}
    (hY : YP = (hookN n fa fn ex).says)
    (hn : l.most = some 63) (hdf : d.params.defaults = []) (hr : Room k callerA) (hd : d.name = ("law" : Str))
    (F : ∀ (w : World) (K : PySem.W.Frag) (h : Heap) (mg : Str → Option Value), K.In h → h.Ns mainGlobals mg → ex K = true → He.SaysD fa fn K →
      ∃ fd : FuncData, (∀ (s : Shared) (u : Value), BindsTo s fd ⟨[u], []⟩ [(x, u)]) ∧ mg ("law" : Str) = some (.ref (He.ga K ("law" : Str))) ∧ ∀ base : Heap, K.In base → base.Ns mainGlobals mg → FnOk l.prog w K mg base (L2.CX l.prog w) k (He.ga K ("law" : Str)) fd [x] (spD K 1 f))
    (T : ∀ ns : List Int, ns.length ≤ 63 → f [.list (ns.map PyData.int)] = .rt (.d (.bool true))) :
    PySem.W.WalkO q loose XP YP l.row.toRowW d [] (fun f vs => PySem.call f vs) := by
  subst hY
  refine Att.attach_call hn hdf fun w s₀ s₁ mg mb fa o pm cd doc a vs ns G Y ho hd' hcd hmg hobj hints hlen hg => ?_
  obtain ⟨K, KX, nol, hex, c⟩ := Y
  obtain ⟨fd, hb, hl, hF⟩ := F w K _ mg KX G.T.g hex c
  rw [hd, hl] at hmg
  cases hmg
  exact law_call KX G.T.g G.T.b G.T.builtins G.T.nolimit hg hobj hints (Nat.le_trans hlen (by decide)) hr hF hb (fun H hO hS => by
    refine ⟨rfl, H, [.list (ns.map PyData.int)], Same.refl H, .cons (.lst (xs := ns.map V.int) ?_ DpAll.ints) .nil, ?_⟩
    · rcases hS with h | ⟨o, its, m, h1, h2, _⟩
      · exact h
      · exact absurd h2 (nol _ _ h1)
    · rw [T ns hlen]
      intro v F1 H1 _ r
      cases r
      rfl) fun H e s' z => by
        obtain ⟨_, _, _, _, _, _, _, _, _, _, _, _, z⟩ := z
        exact z

/-! ### built-in names -/
theorem bb_len : bootBuiltins "len" = some (.builtin "len") := by decide +kernel
theorem bb_sum : bootBuiltins "sum" = some (.builtin "sum") := by decide +kernel
theorem bb_any : bootBuiltins "any" = some (.builtin "any") := by decide +kernel
theorem bb_all : bootBuiltins "all" = some (.builtin "all") := by decide +kernel
theorem bb_max : bootBuiltins "max" = some (.builtin "max") := by decide +kernel
theorem bb_min : bootBuiltins "min" = some (.builtin "min") := by decide +kernel
theorem bb_abs : bootBuiltins "abs" = some (.builtin "abs") := by decide +kernel
theorem bb_sorted : bootBuiltins "sorted" = some (.builtin "sorted") := by decide +kernel
theorem bb_isinstance : bootBuiltins "isinstance" = some (.builtin "isinstance") := by decide +kernel
theorem bb_int : bootBuiltins "int" = some (.type "int") := by decide +kernel
theorem bb_str : bootBuiltins "str" = some (.type "str") := by decide +kernel
theorem bb_bool : bootBuiltins "bool" = some (.type "bool") := by decide +kernel
theorem bb_list : bootBuiltins "list" = some (.type "list") := by decide +kernel
theorem bb_tuple : bootBuiltins "tuple" = some (.type "tuple") := by decide +kernel
theorem bb_dict : bootBuiltins "dict" = some (.type "dict") := by decide +kernel

/-! ### constants of the module -/
section
variable {K : PySem.W.Frag} {W : WX}
theorem dp_strs {F : Hp} : ∀ xs : List Str, DpAll K F ((xs.map He.Dv.str).map (He.Dv.v K)) (xs.map PyData.str)
  | [] => .nil
  | x :: xs => .cons (.str x) (dp_strs xs)
theorem strs_flat : ∀ xs : List Str, (xs.map PyData.str).all flatP = true
  | [] => rfl
  | x :: xs => by rw [List.map_cons, List.all_cons, strs_flat xs]; rfl
/-- x in a tuple of texts that is a constant of the module -/
def eInK (xs : List Str) (g : Rho → R PD) : Rho → R PD := fun ρ => (g ρ).bind fun a => if flatP a = true then .ok (.bool ((xs.map PyData.str).any fun d => eqF d a)) else .bad
theorem td_inK {a : Addr} {xs : List Str} {t : TE} {g : Rho → R PD} (hk : ∀ F : Hp, SqT K F a ((xs.map He.Dv.str).map (He.Dv.v K))) (h : TDr K W t g) : TDe K W (tOp (rIn2 K) t (tC (.ref a))) (eInK xs g) := fun F0 H0 F H σ ρ Q S q =>
  h F0 H0 F H σ ρ _ S (q.then fun d F1 H1 e1 k1 v rv => by
    by_cases hd : flatP d = true
    · rw [if_pos hd] at k1
      have fl := strs_flat xs
      refine .inr (.inl ⟨a, _, rfl, .inr (hk H1), flat_ok rv hd, flats_ok (dp_strs (F := F1) xs) fl, ?_⟩)
      rw [if_neg Bool.false_ne_true, any_ok rv hd (dp_strs (F := F1) xs) fl]
      exact Fin.okk (x := PyData.bool _) K W σ e1.g k1 _ (.bl _)
    · rw [if_neg hd] at k1
      exact k1.elim)

/-! ### more methods -/
def rSindex : V → List V → Hp → VK → Prop := fun x xs H Q => ∃ a b i rest, x = .str a ∧ xs = [.str b] ∧ Builtin.Str.occurrences a b 0 a.length 1 = i :: rest ∧ Q (.int (i : Nat)) H
def sindexD : PD → List PD → R PD
  | .str a, [.str b] => (match Builtin.Str.occurrences a b 0 a.length 1 with
    | i :: _ => .ok (.int (i : Nat))
    | [] => .bad)
  | _, _ => .bad
theorem rm_sindex : RM K rSindex sindexD := fun W σ F H x a vs ds Q s ra rs q => by
  unfold sindexD at q
  split at q
  · split at q
    · rename_i i r e
      obtain ⟨v, rfl, r1⟩ := rs.one
      exact ⟨_, _, i, r, ra.str, by rw [r1.str], e, q.ok s _ (.int _)⟩
    · exact q.elim
  · exact q.elim
end
end DL
namespace DL
open PySem PySem.Spec PyProof.Rows L2
/-- a def's promise: the form that the printed texts use -/
theorem fn_of0 {P : Program} {w : World} {K : PySem.W.Frag} {mg : Str → Option Value} {base : Heap} {x : Str} {params : Arguments} {body : List Stmt} {scope : Scope} {N ps : List Str} {k n : Nat} {s : Rho → SR} {f : List PD → FR} {fd : FuncData}
    (FD : FunD K x x params body scope [] [] (He.ga K x) fd) (S : FnScope N ps scope) (hn : ps.length = n) (hf : f = runD N.length s)
    (hb : ∀ (cdv : Value) (A : Around) (outer : List Env) (sh : Shared) (H : Hp) (E : XK), Room k (A.deeper (envOfC x scope sh.heap.objs.size (He.ga K x) cdv)) →
      Takes (cxOf (L2.CX P w) P w K mg base N x scope (He.ga K x) cdv A outer sh H E) (fun cls d _ H => E cls d H) →
      ∃ t, PSs (cxOf (L2.CX P w) P w K mg base N x scope (He.ga K x) cdv A outer sh H E) body t ∧ TDS K (fun cls d _ H => E cls d H) t s) : FnOk P w K mg base (L2.CX P w) (k + 1) (He.ga K x) fd ps (spD K n f) := by
  subst hn hf
  exact fnD FD S hb
/-- a def by its name: the form that the printed texts use -/
theorem kept_of {P : Program} {w : World} {K : PySem.W.Frag} {mg : Str → Option Value} {base : Heap} {x : Str} {params : Arguments} {body : List Stmt} {scope : Scope} {N ps : List Str} {k n : Nat} {s : Rho → SR} {f : List PD → FR}
    (hF : ∃ fd : FuncData, FunD K x x params body scope [] [] (He.ga K x) fd) (hg : mg x = some (.ref (He.ga K x))) (S : FnScope N ps scope) (hn : ps.length = n) (hf : f = runD N.length s)
    (hbd : ∀ (kV doc pm : Value) (an : Option Addr) (cdv ct : Value) (us : List Value), us.length = ps.length → bindArgs (PySem.W.fnOf x x params body scope .none kV doc pm an cdv ct) ⟨us, []⟩ = pure (ps.zip us))
    (hb : ∀ (cdv : Value) (A : Around) (outer : List Env) (sh : Shared) (H : Hp) (E : XK), Room k (A.deeper (envOfC x scope sh.heap.objs.size (He.ga K x) cdv)) →
      Takes (cxOf (L2.CX P w) P w K mg base N x scope (He.ga K x) cdv A outer sh H E) (fun cls d _ H => E cls d H) →
      ∃ t, PSs (cxOf (L2.CX P w) P w K mg base N x scope (He.ga K x) cdv A outer sh H E) body t ∧ TDS K (fun cls d _ H => E cls d H) t s) : Kept P w K mg base (k + 1) n x ps f := by
  obtain ⟨fd, FD⟩ := hF
  subst hn hf
  exact ⟨fd, FD.kp, hg, FD.bindsN hbd, fnD FD S hb⟩
end DL
/-! Dicts of int and text keys: owned in a slot; walked: locked. -/
namespace DL
open PySem PySem.Spec PyProof.Rows L2

def keyOf : PD → Option Key
  | .int i => some (.inl i)
  | .str s => some (.inr s)
  | _ => none
def valD : List (PD × PD) → Key → Option PD
  | [], _ => none
  | (a, d) :: r, k => if keyOf a = some k then some d else valD r k
def putD (kvs : List (PD × PD)) (k : Key) (d : PD) : List (PD × PD) :=
  if (valD kvs k).isSome = true then kvs.map fun kv => if keyOf kv.1 = some k then (kv.1, d) else kv else kvs ++ [(keyD k, d)]
theorem keyOf_keyD (k : Key) : keyOf (keyD k) = some k := by cases k <;> rfl
theorem keyD_of {d : PD} {k : Key} (h : keyOf d = some k) : d = keyD k := by
  cases d with
  | int i => cases h; rfl
  | str s => cases h; rfl
  | _ => cases h
theorem key_rp {K : PySem.W.Frag} {F H : Hp} {v : V} {k : Key} (r : Rp K F H v (keyD k)) : v = kV k := by
  cases k with
  | inl i => exact r.int
  | inr s => exact r.str
theorem key_dp {K : PySem.W.Frag} {F : Hp} (k : Key) : Dp K F (kV k) (keyD k) := by
  cases k with
  | inl i => exact .int i
  | inr s => exact .str s
section
variable {K : PySem.W.Frag} {F H : Hp}
theorem KvR.len {es : List (Key × V)} {kvs : List (PD × PD)} (r : KvR K F keyD es kvs) : es.length = kvs.length := by
  induction r with
  | nil => rfl
  | cons _ _ ih => rw [List.length_cons, List.length_cons, ih]
theorem KvR.keys {es : List (Key × V)} {kvs : List (PD × PD)} (r : KvR K F keyD es kvs) : kvs.map (·.1) = es.map fun e => keyD e.1 := by
  induction r with
  | nil => rfl
  | cons _ _ ih => rw [List.map_cons, List.map_cons, ih]
theorem KvR.val {es : List (Key × V)} {kvs : List (PD × PD)} (r : KvR K F keyD es kvs) (k : Key) : (valD kvs k = none ∧ valV es k = none) ∨ ∃ d v, valD kvs k = some d ∧ valV es k = some v ∧ Dp K F v d := by
  induction r with
  | nil => exact .inl ⟨rfl, rfl⟩
  | @cons k' v d es kvs h t ih =>
    by_cases e : k' = k
    · subst e
      exact .inr ⟨d, v, by unfold valD; rw [if_pos (keyOf_keyD k')], valV_pos rfl, h⟩
    · have e2 : ¬ keyOf (keyD k') = some k := by rw [keyOf_keyD]; exact fun q => e (Option.some.inj q)
      unfold valD
      rw [if_neg e2, valV_neg (show ¬ (k', v).1 = k from e)]
      exact ih
theorem KvR.snoc {es : List (Key × V)} {kvs : List (PD × PD)} (r : KvR K F keyD es kvs) (k : Key) {v : V} {d : PD} (h : Dp K F v d) : KvR K F keyD (es ++ [(k, v)]) (kvs ++ [(keyD k, d)]) := by
  induction r with
  | nil => exact .cons h .nil
  | cons a t ih => exact .cons a ih
theorem KvR.repl {es : List (Key × V)} {kvs : List (PD × PD)} (r : KvR K F keyD es kvs) (k : Key) {v : V} {d : PD} (h : Dp K F v d) :
    KvR K F keyD (es.map fun kv => if kv.1 = k then (kv.1, v) else kv) (kvs.map fun kv => if keyOf kv.1 = some k then (kv.1, d) else kv) := by
  induction r with
  | nil => exact .nil
  | @cons k' v' d' es kvs a t ih =>
    rw [List.map_cons, List.map_cons]
    by_cases e : k' = k
    · rw [if_pos (show (k', v').1 = k from e), if_pos (show keyOf (keyD k') = some k by rw [keyOf_keyD, e])]
      exact .cons h ih
    · rw [if_neg (show ¬ (k', v').1 = k from e), if_neg (show ¬ keyOf (keyD k') = some k by rw [keyOf_keyD]; exact fun q => e (Option.some.inj q))]
      exact .cons a ih
theorem KvR.put {es : List (Key × V)} {kvs : List (PD × PD)} (r : KvR K F keyD es kvs) (k : Key) {v : V} {d : PD} (h : Dp K F v d) : KvR K F keyD (putK es k v) (putD kvs k d) := by
  unfold putK putD
  rw [valV_any]
  rcases r.val k with ⟨a, b⟩ | ⟨d', v', a, b, _⟩
  · rw [a, b]; exact r.snoc k h
  · rw [a, b]; exact r.repl k h
def pairsD : List PD → Option (List (Key × PD))
  | [] => some []
  | .tuple [a, d] :: r => match keyOf a, pairsD r with
    | some k, some l => some ((k, d) :: l)
    | _, _ => none
  | _ => none
def mergeD (kvs : List (PD × PD)) (more : List (Key × PD)) : List (PD × PD) := more.foldl (fun acc kv => putD acc kv.1 kv.2) kvs
def dictD : List PD → R PD
  | [.list ds] => match pairsD ds with
    | some l => .ok (.dict (mergeD [] l))
    | none => .bad
  | _ => .bad
theorem KvR.merge : ∀ {ms : List (Key × V)} {more : List (Key × PD)} {es : List (Key × V)} {kvs : List (PD × PD)}, Paired (fun p q => p.1 = q.1 ∧ Dp K F p.2 q.2) ms more → KvR K F keyD es kvs → KvR K F keyD (mergeK es ms) (mergeD kvs more) := by
  intro ms more es kvs r
  induction r generalizing es kvs with
  | nil => exact fun q => q
  | @cons p q ps qs h t ih =>
    intro z
    obtain ⟨h1, h2⟩ := h
    have z2 := z.put p.1 h2
    show KvR K F keyD (mergeK (putK es p.1 p.2) ps) (mergeD (putD kvs q.1 q.2) qs)
    rw [← h1]
    exact ih z2
theorem pairs_dp : ∀ {ds : List PD} {vs : List V} {l : List (Key × PD)}, DpAll K F vs ds → pairsD ds = some l → ∃ (ps : List Addr) (ms : List (Key × V)), vs = ps.map V.ref ∧ Paired (fun p kv => SqT K F p [kV kv.1, kv.2]) ps ms ∧ Paired (fun p q => p.1 = q.1 ∧ Dp K F p.2 q.2) ms l
  | [], _, l, r, h => by
    cases r
    cases h
    exact ⟨[], [], rfl, .nil, .nil⟩
  | d :: ds, _, l, r, h => by
    cases r with
    | cons r1 r2 =>
      unfold pairsD at h
      split at h
      · rename_i e; cases e
      · rename_i a d' r' e
        cases e
        split at h
        · rename_i k l' e1 e2
          cases h
          obtain ⟨ps, ms, q1, q2, q3⟩ := pairs_dp r2 e2
          subst q1
          cases r1 with
          | tup s al =>
            cases al with
            | cons a1 a2 =>
              cases a2 with
              | cons a2 a3 =>
                cases a3
                rw [keyD_of e1] at a1
                have := key_rp (H := F) (.inl a1)
                subst this
                exact ⟨_ :: ps, (k, _) :: ms, rfl, .cons (SqT.of s) q2, .cons ⟨rfl, a2⟩ q3⟩
        · cases h
      · cases h
theorem rco_dict : RCo K (fun xs H Q => ∃ (a : Addr) (ps : List Addr) (kvs : List (Key × V)), xs = [.ref a] ∧ SqL K H a (ps.map V.ref) ∧ Paired (fun p kv => SqT K H p [kV kv.1, kv.2]) ps kvs ∧
    ∀ p, H p = none → Q (.ref p) (upd H p (.dK (mergeK [] kvs)))) dictD := fun W σ F H vs ds Q s rs q => by
  unfold dictD at q
  split at q
  · obtain ⟨v, rfl, r1⟩ := rs.one
    split at q
    · rename_i l e
      obtain ⟨a, us, rfl, r2, r3⟩ := r1.list s
      obtain ⟨ps, ms, rfl, q2, q3⟩ := pairs_dp r3 e
      refine ⟨a, ps, ms, rfl, .inl r2, Paired.mapP q2 fun _ _ z => seqT s z, fun p hp => ?_⟩
      exact q F _ (Ext.own s hp) p hp (s.free hp) ⟨_, upd_same, KvR.merge q3 .nil⟩
    · exact q.elim
  · exact q.elim
end
section
variable {K : PySem.W.Frag} {W : WX} {F0 H0 F H : Hp} {σ : L2.St} {ρ : Rho} {ty tv : TE} {g gk gv : Rho → R PD} {t : TS} {s : Rho → SR}
def dAt (ρ : Rho) (i : Nat) : R (List (PD × PD)) := match ρ[i]? with
  | some (some (.t (.own (.dict kvs)))) => .ok kvs
  | some (some (.l (.dict kvs))) => .ok kvs
  | _ => .bad
theorem dAt_x (ρ : Rho) (i : Nat) : (∃ kvs, dAt ρ i = .ok kvs) ∨ dAt ρ i = .bad := by
  unfold dAt
  split
  · exact .inl ⟨_, rfl⟩
  · exact .inl ⟨_, rfl⟩
  · exact .inr rfl
theorem dAt_ok (S : StR K F0 H0 F H σ ρ) {i : Nat} {kvs : List (PD × PD)} (h : dAt ρ i = .ok kvs) : ∃ p es, σ[i]? = some (some (.ref p)) ∧ Rd H p (.dK es) ∧ KvR K F keyD es kvs := by
  unfold dAt at h
  split at h
  · rename_i e
    cases h
    obtain ⟨p, a, b, c, es, d, r⟩ := S.own i _ e
    exact ⟨p, es, a, .inl d, r⟩
  · rename_i e
    cases h
    obtain ⟨p, a, od, es, d, r⟩ := S.lck i _ e
    exact ⟨p, es, a, .inr ⟨od, S.same _ _ d⟩, r⟩
  · cases h
def getD (kvs : List (PD × PD)) (y : PD) : R PD := match keyOf y with
  | some k => (match valD kvs k with
    | some d => .ok d
    | none => .bad)
  | none => .bad
def eDget (i : Nat) (g : Rho → R PD) : Rho → R PD := fun ρ => (dAt ρ i).bind fun kvs => (g ρ).bind fun y => getD kvs y
theorem td_dget (i : Nat) (h : TDr K W ty g) : TDe K W (tDGet (tVar i) ty) (eDget i g) := fun F0 H0 F H σ ρ Q S q => by
  unfold eDget at q
  rcases dAt_x ρ i with ⟨kvs, e⟩ | e
  · rw [e] at q
    obtain ⟨p, es, hs, rd, r⟩ := dAt_ok S e
    have q : Fin K W σ F H ((g ρ).bind fun y => getD kvs y) (DpQ K Q) := q
    refine ⟨.ref p, hs, h F0 H0 F H σ ρ _ S (q.then fun y F1 H1 e1 k1 v rv => ?_)⟩
    unfold getD at k1
    split at k1
    · rename_i k ek
      rw [keyD_of ek] at rv
      have := key_rp rv
      subst this
      rcases r.val k with ⟨z, _⟩ | ⟨d, u, z1, z2, z3⟩
      · rw [z] at k1; exact k1.elim
      · rw [z1] at k1
        exact ⟨p, u, rfl, .inl ⟨es, k, rdM e1.h rd, rfl, z2.symm⟩, Fin.okk K W σ e1.g k1 _ (z3.mono e1.f)⟩
    · exact k1.elim
  · rw [e] at q; exact q.elim
def hasD (kvs : List (PD × PD)) (y : PD) : R Bool := match keyOf y with
  | some k => .ok (valD kvs k).isSome
  | none => .bad
def edin (i : Nat) (g : Rho → R PD) : Rho → R PD := fun ρ => (g ρ).bind fun y => (dAt ρ i).bind fun kvs => (hasD kvs y).bind fun b => .ok (.bool b)
def ednotin (i : Nat) (g : Rho → R PD) : Rho → R PD := fun ρ => (g ρ).bind fun y => (dAt ρ i).bind fun kvs => (hasD kvs y).bind fun b => .ok (.bool !b)
theorem din_k {f : Bool → Bool} {i : Nat} {y : PD} {Q : VK} {v : V} (S : StR K F0 H0 F H σ ρ) (rv : Rp K F H v y) (k1 : Fin K W σ F H ((dAt ρ i).bind fun kvs => (hasD kvs y).bind fun b => .ok (.bool (f b))) (DpQ K Q)) :
    ∃ p o, σ[i]? = some (some (.ref p)) ∧ DGet H p v o ∧ Q (.bl (f o.isSome)) H := by
  rcases dAt_x ρ i with ⟨kvs, e⟩ | e
  · rw [e] at k1
    obtain ⟨p, es, hs, rd, r⟩ := dAt_ok S e
    have k1 : Fin K W σ F H ((hasD kvs y).bind fun b => .ok (.bool (f b))) (DpQ K Q) := k1
    unfold hasD at k1
    split at k1
    · rename_i k ek
      rw [keyD_of ek] at rv
      have := key_rp rv
      subst this
      have e2 : (valV es k).isSome = (valD kvs k).isSome := by
        rcases r.val k with ⟨z, z'⟩ | ⟨d, u, z1, z2, z3⟩
        · rw [z, z']; rfl
        · rw [z1, z2]; rfl
      have k2 := Fin.okk (x := PyData.bool (f (valD kvs k).isSome)) K W σ S.same k1 _ (.bl _)
      rw [← e2] at k2
      exact ⟨p, valV es k, hs, .inl ⟨es, k, rd, rfl, rfl⟩, k2⟩
    · exact k1.elim
  · rw [e] at k1; exact k1.elim
theorem td_din (i : Nat) (h : TDr K W ty g) : TDe K W (tDIn ty (tVar i)) (edin i g) := fun F0 H0 F H σ ρ Q S q =>
  h F0 H0 F H σ ρ _ S (q.then fun y F1 H1 e1 k1 v rv => by
    obtain ⟨p, o, a, b, c⟩ := din_k (f := id) (S.go e1) rv k1
    exact ⟨.ref p, a, p, o, rfl, b, c⟩)
theorem td_dnotin (i : Nat) (h : TDr K W ty g) : TDe K W (tDNotIn ty (tVar i)) (ednotin i g) := fun F0 H0 F H σ ρ Q S q =>
  h F0 H0 F H σ ρ _ S (q.then fun y F1 H1 e1 k1 v rv => by
    obtain ⟨p, o, a, b, c⟩ := din_k (f := not) (S.go e1) rv k1
    exact ⟨.ref p, a, p, o, rfl, b, c⟩)
def oDnew : Rho → R PD := fun _ => .ok (.dict [])
theorem to_dnewK : TDo K W tDNewK oDnew := fun F0 H0 F H σ ρ Q S q p hp =>
  (q : ∀ F' H', Ext F H F' H' → OwQ K H Q (.dict []) F' H') F _ (Ext.own S.same hp) p hp (S.same.free hp) ⟨[], upd_same, .nil⟩
/-- d[k] = v -/
def dOwn (ρ : Rho) (i : Nat) : R (List (PD × PD)) := match ρ[i]? with
  | some (some (.t (.own (.dict kvs)))) => .ok kvs
  | _ => .bad
def putS (ρ : Rho) (i : Nat) (kvs : List (PD × PD)) (y d : PD) : SR := match keyOf y with
  | some k => if kvs.length < sizeLine then .nx (ρ.set i (some (.o (.dict (putD kvs k d))))) else .bad
  | none => .bad
def sDput (i : Nat) (gk gv : Rho → R PD) : Rho → SR := fun ρ => SR.of (gv ρ) fun d => SR.of (dOwn ρ i) fun kvs => SR.of (gk ρ) fun y => putS ρ i kvs y d
theorem ds_dput (i : Nat) (hk : TDr K W ty gk) (hv : TDe K W tv gv) : TDS K W (sDPut (tVar i) ty tv) (sDput i gk gv) := fun F0 H0 F H σ ρ D S q =>
  hv F0 H0 F H σ ρ _ S (q.of S.ext fun d F1 H1 e1 k1 v rv => by
    have S1 := S.go e1
    unfold dOwn at k1
    split at k1
    · rename_i kvs ei
      obtain ⟨p, a, _, _, _⟩ := S1.own i _ ei
      have k1 : FinS K W F0 H0 D (SR.of (gk ρ) fun y => putS ρ i kvs y d) := k1
      refine ⟨.ref p, a, hk F0 H0 F1 H1 σ ρ _ S1 (k1.of S1.ext fun y F2 H2 e2 k2 u ru => ?_)⟩
      have S2 := S1.go e2
      obtain ⟨p2, a2, b2, c2, es, hh, r⟩ := S2.own i _ ei
      rw [a] at a2
      injection a2 with a2; injection a2 with a2; injection a2 with a2; subst a2
      unfold putS at k2
      split at k2
      · rename_i k ek
        split at k2
        · rename_i hl
          rw [keyD_of ek] at ru
          have := key_rp ru
          subst this
          have hl2 : es.length < sizeLine := by rw [r.len]; exact hl
          exact ⟨p, _, rfl, DPut.k hh hl2, k2 _ _ _ (S2.mut ei a ⟨_, upd_same, r.put k (rv.mono e2.f)⟩)⟩
        · exact k2.elim
      · exact k2.elim
    · exact k1.elim)
/-! ### walks -/
def iKeysD (i : Nat) : Rho → R (List PD) := fun ρ => match ρ[i]? with
  | some (some (.l (.dict kvs))) => .ok (kvs.map (·.1))
  | _ => .bad
theorem di_keys (i : Nat) : TDi K W (iKeys (tVar i)) (iKeysD i) := fun F0 H0 F H σ ρ Q S q => by
  unfold iKeysD at q
  split at q
  · rename_i kvs e
    obtain ⟨p, a, od, es, d, r⟩ := S.lck i _ e
    refine ⟨.ref p, a, p, od, rfl, .inl ⟨es, S.same _ _ d, q.ok S.same _ fun j F1 H1 e1 e2 => ?_⟩⟩
    have f1 : H1 p = some (.frz od (.dK es)) := e2 _ _ (e1 _ _ d)
    rw [r.keys]
    refine ⟨fun x hx => ?_, fun hl => ⟨f1, by simpa using hl⟩⟩
    rw [List.getElem?_map] at hx
    cases ee : es[j]? with
    | none => rw [ee] at hx; cases hx
    | some kv =>
      rw [ee] at hx
      have hx : keyD kv.1 = x := Option.some.inj hx
      subst hx
      refine ⟨⟨f1, (List.getElem?_eq_some_iff.mp ee).1⟩, fun z H2 y => ?_⟩
      obtain ⟨rfl, k, v, hk, rfl⟩ := y
      rw [ee] at hk
      cases hk
      exact ⟨F1, Ext.refl e2, key_dp k⟩
  · exact q.elim
def unlS : Option Sl → Option Sl
  | some (.l _) => none
  | x => x
def unlock : SR → SR
  | .nx ρ => .nx (ρ.map unlS)
  | .bk ρ => .bk (ρ.map unlS)
  | .ct ρ => .ct (ρ.map unlS)
  | x => x
def sLock (i : Nat) (s : Rho → SR) : Rho → SR := fun ρ => match ρ[i]? with
  | some (some (.t (.own (.dict kvs)))) => unlock (s (ρ.set i (some (.l (.dict kvs)))))
  | _ => .bad
def cutH (F : Hp) (p : Addr) : Hp := fun q => if q = p then none else F q
theorem cut_ne {F : Hp} {p q : Addr} (h : q ≠ p) : cutH F p q = F q := if_neg h
theorem cut_self {F : Hp} {p : Addr} : cutH F p p = none := if_pos rfl
mutual
theorem Dp.cut {p : Addr} {od : Obj} {es : List (Key × V)} (e : F p = some (.frz od (.dK es))) : ∀ {v : V} {d : PyData}, Dp K F v d → Dp K (cutH F p) v d
  | _, _, .non => .non
  | _, _, .bl b => .bl b
  | _, _, .int i => .int i
  | _, _, .str x => .str x
  | _, _, .lst (a := a) s al => by
    have hn : a ≠ p := fun z => by
      subst z
      rcases s with s | ⟨o, s⟩
      · rw [e] at s; cases s
      · rw [e] at s; cases s
    refine .lst ?_ (DpAll.cut e al)
    rcases s with s | ⟨o, s⟩
    · exact .inl ((cut_ne hn).trans s)
    · exact .inr ⟨o, (cut_ne hn).trans s⟩
  | _, _, .tup (a := a) s al => .tup ((cut_ne fun z => by subst z; rw [e] at s; cases s).trans s) (DpAll.cut e al)
  | _, _, .exc (a := a) s r g => .exc ((cut_ne fun z => by subst z; rw [e] at s; cases s).trans s) (r.imp id fun ⟨dd, h, k⟩ => ⟨dd, h, (cut_ne fun z => by subst z; rw [e] at k; cases k).trans k⟩) g
theorem DpAll.cut {p : Addr} {od : Obj} {es : List (Key × V)} (e : F p = some (.frz od (.dK es))) : ∀ {vs : List V} {ds : List PyData}, DpAll K F vs ds → DpAll K (cutH F p) vs ds
  | _, _, .nil => .nil
  | _, _, .cons h t => .cons (Dp.cut e h) (DpAll.cut e t)
end
theorem KvR.cut {p : Addr} {od : Obj} {es0 : List (Key × V)} (e : F p = some (.frz od (.dK es0))) : ∀ {es : List (Key × V)} {kvs : List (PD × PD)}, KvR K F keyD es kvs → KvR K (cutH F p) keyD es kvs
  | _, _, .nil => .nil
  | _, _, .cons h t => .cons (h.cut e) (KvR.cut e t)
theorem OwnAt.cut {p p' : Addr} {od : Obj} {es0 : List (Key × V)} {u : HO} (e : F p = Option.some (HO.frz od (.dK es0))) (hn : p' ≠ p) {d : PD} (h : OwnAt K F H p' d) : OwnAt K (cutH F p) (upd H p u) p' d := by
  cases d with
  | list ds => obtain ⟨vs, a, b⟩ := h; exact ⟨vs, by rw [upd_ne hn]; exact a, b.cut e⟩
  | dict kvs => obtain ⟨es, a, b⟩ := h; exact ⟨es, by rw [upd_ne hn]; exact a, b.cut e⟩
  | _ => exact h.elim
theorem ds_lock (i : Nat) (h : TDS K W t s) : TDS K W (tLock t) (sLock i s) := fun F0 H0 F H σ ρ D S q => by
  unfold sLock at q
  split at q
  case h_2 => exact q.elim
  rename_i kvs ei
  obtain ⟨p, hs, h0, hf, es, hh, r⟩ := S.own i _ ei
  refine ⟨p, .dK es, hh, True.intro, fun od => ?_⟩
  have f0 : F0 p = none := S.ext.f.free hf
  have same1 : Same F (upd F p (.frz od (.dK es))) := fun a u e => by rw [upd_ne (ne_of_none e hf)]; exact e
  have exI : Ext (upd F p (.frz od (.dK es))) (upd H0 p (.frz od (.dK es))) (upd F p (.frz od (.dK es))) (upd H p (.frz od (.dK es))) := by
    refine ⟨Same.refl _, fun a u e => ?_, fun a u e => ?_, fun a e => .inl e⟩
    · by_cases ha : a = p
      · subst ha; rw [upd_same] at e ⊢; exact e
      · rw [upd_ne ha] at e ⊢; exact S.ext.g a u e
    · by_cases ha : a = p
      · subst ha; rw [upd_same] at e ⊢; exact e
      · rw [upd_ne ha] at e ⊢; exact S.ext.h a u e
  have SI : StR K (upd F p (.frz od (.dK es))) (upd H0 p (.frz od (.dK es))) (upd F p (.frz od (.dK es))) (upd H p (.frz od (.dK es))) σ (ρ.set i (some (.l (.dict kvs)))) := by
    obtain ⟨φ, S⟩ := S
    obtain ⟨p', y1, y2, y3, y4, y5⟩ := S.own i _ ei
    rw [hs] at y1; cases y1
    have ne : ∀ j p2, p2 ∈ phi φ i [] j → j ≠ i ∧ p2 ∈ φ j ∧ p2 ≠ p := fun j p2 hj => by
      by_cases c : j = i
      · subst c; rw [phi_same] at hj; cases hj
      · rw [phi_ne c] at hj
        exact ⟨c, hj, fun w => by subst w; exact c (S.dis j i p2 hj (by rw [y2]; simp))⟩
    refine ⟨phi φ i [], exI, by simpa using S.len, fun j z e => ?_, fun j z e => ?_, fun j p2 hj => ?_, fun j => ?_, fun j k p2 hj hk => S.dis j k p2 (ne j p2 hj).2.1 (ne k p2 hk).2.1, fun j z e => ?_⟩
    · rcases get_set e with ⟨rfl, hl, y⟩ | ⟨hn, y⟩
      · injection y with y; cases y
      · obtain ⟨v, a, b⟩ := S.dat j z y
        exact ⟨v, a, b.mono same1⟩
    · rcases get_set e with ⟨rfl, hl, y⟩ | ⟨hn, y⟩
      · injection y with y; cases y
      · obtain ⟨v, a, b⟩ := S.tre j z y
        refine ⟨v, a, ?_⟩
        have ej : phi φ i [] j = φ j := phi_ne (Ne.symm hn)
        rw [ej]
        exact b.keep same1 fun p2 o ho hc => by
          have : p2 ≠ p := fun w => by
            subst w
            rcases hc with hc | hc
            · exact hn (S.dis j i p2 hc (by rw [y2]; simp)).symm
            · rw [hh] at ho; cases ho; exact nt_dK hc
          rw [upd_ne this]; exact ho
    · obtain ⟨n1, n2, n3⟩ := ne j p2 hj
      obtain ⟨x1, x2, x3⟩ := S.fre j p2 n2
      exact ⟨by rw [upd_ne n3]; exact x1, by rw [upd_ne n3]; exact x2, by rw [upd_ne n3]; exact x3⟩
    · by_cases c : j = i
      · subst c; rw [phi_same]; exact List.nodup_nil
      · rw [phi_ne c]; exact S.nod j
    · rcases get_set e with ⟨rfl, hl, y⟩ | ⟨hn, y⟩
      · injection y with y; injection y with y; subst y
        exact ⟨p, hs, od, es, upd_same, r.mono same1⟩
      · obtain ⟨p2, a, b⟩ := S.lck j z y
        exact ⟨p2, a, b.mono same1⟩
  have back : ∀ {F1 H1 : Hp}, Ext (upd F p (.frz od (.dK es))) (upd H0 p (.frz od (.dK es))) F1 H1 → F1 p = some (.frz od (.dK es)) ∧ H1 p = some (.frz od (.dK es)) ∧ Ext F0 H0 (cutH F1 p) (upd H1 p (.dK es)) := by
    intro F1 H1 e
    have a1 : F1 p = some (.frz od (.dK es)) := e.f _ _ upd_same
    refine ⟨a1, e.g _ _ a1, fun a u z => ?_, fun a u z => ?_, fun a u z => ?_, fun a z => ?_⟩
    · have ne := ne_of_none z f0
      rw [cut_ne ne]
      exact e.f _ _ (by rw [upd_ne ne]; exact S.ext.f _ _ z)
    · by_cases ha : a = p
      · subst ha; rw [cut_self] at z; cases z
      · rw [cut_ne ha] at z; rw [upd_ne ha]; exact e.g _ _ z
    · have ne := ne_of_none z h0
      rw [upd_ne ne]
      exact e.h _ _ (by rw [upd_ne ne]; exact z)
    · by_cases ha : a = p
      · subst ha; exact absurd cut_self z
      · rw [cut_ne ha] at z
        rcases e.n a z with y | y
        · rw [upd_ne ha] at y; exact S.ext.n a y
        · rw [upd_ne ha] at y; exact .inr y
  have keepP : ∀ {fp : List Addr} {H1 : Hp}, p ∉ fp → H1 p = some (.frz od (.dK es)) → KeepOn fp H1 (upd H1 p (.dK es)) := fun {fp H1} hn h1 p2 o ho hc => by
    have : p2 ≠ p := fun w => by
      subst w
      rcases hc with hc | hc
      · exact hn hc
      · rw [h1] at ho; cases ho; exact nt_frzd hc
    rw [upd_ne this]; exact ho
  have st : ∀ {F1 H1 : Hp} {σ1 : L2.St} {ρ1 : Rho}, StR K (upd F p (.frz od (.dK es))) (upd H0 p (.frz od (.dK es))) F1 H1 σ1 ρ1 → H1 p = some (.frz od (.dK es)) ∧ StR K F0 H0 (cutH F1 p) (upd H1 p (.dK es)) σ1 (ρ1.map unlS) := by
    intro F1 H1 σ1 ρ1 S1
    obtain ⟨a1, a2, ex⟩ := back S1.ext
    have un : ∀ {j : Nat} {x : Sl}, (ρ1.map unlS)[j]? = some (some x) → ρ1[j]? = some (some x) ∧ ∀ y, x ≠ .l y := by
      intro j x e
      rw [List.getElem?_map] at e
      cases e2 : ρ1[j]? with
      | none => rw [e2] at e; cases e
      | some z =>
        rw [e2] at e
        have e : unlS z = some x := Option.some.inj e
        cases z with
        | none => cases e
        | some z =>
          cases z with
          | d y => cases e; exact ⟨rfl, fun _ w => nomatch w⟩
          | t y => cases e; exact ⟨rfl, fun _ w => nomatch w⟩
          | l y => cases e
    obtain ⟨φ, S1⟩ := S1
    have ne : ∀ j, p ∉ φ j := fun j hj => by
      have := (S1.fre j p hj).2.1
      rw [a1] at this; cases this
    refine ⟨a2, φ, ex, by rw [List.length_map]; exact S1.len, fun j z e => ?_, fun j z e => ?_, fun j p2 hj => ?_, S1.nod, S1.dis, fun j z e => absurd rfl ((un e).2 z)⟩
    · obtain ⟨v, a, b⟩ := S1.dat j z (un e).1
      exact ⟨v, a, b.cut a1⟩
    · obtain ⟨v, a, b⟩ := S1.tre j z (un e).1
      exact ⟨v, a, b.map (fun _ _ h => h.cut a1) (keepP (ne j) a2)⟩
    · obtain ⟨x1, x2, x3⟩ := S1.fre j p2 hj
      have n3 : p2 ≠ p := fun w => by subst w; exact ne j hj
      exact ⟨by rw [upd_ne n3] at x1; exact x1, by rw [cut_ne n3]; exact x2, by rw [upd_ne n3]; exact x3⟩
  refine h _ _ _ _ σ _ _ SI ?_
  cases e : s (ρ.set i (some (.l (.dict kvs)))) with
  | nx ρ1 =>
    rw [e] at q
    exact fun σ1 F1 H1 S1 => ⟨(st S1).1, q σ1 _ _ (st S1).2⟩
  | bk ρ1 =>
    rw [e] at q
    exact fun σ1 F1 H1 S1 => ⟨(st S1).1, q σ1 _ _ (st S1).2⟩
  | ct ρ1 =>
    rw [e] at q
    exact fun σ1 F1 H1 S1 => ⟨(st S1).1, q σ1 _ _ (st S1).2⟩
  | rt x =>
    rw [e] at q
    cases x with
    | d x =>
      intro v F1 H1 ex rv
      obtain ⟨a1, a2, ex2⟩ := back ex
      exact ⟨a2, q v _ _ ex2 (rv.cut a1)⟩
    | t x =>
      intro v fp F1 H1 ex tv nd hp
      obtain ⟨a1, a2, ex2⟩ := back ex
      have ne : p ∉ fp := fun w => by
        have := (hp p w).2
        rw [a1] at this; cases this
      refine ⟨a2, q v fp _ _ ex2 (tv.map (fun _ _ h => h.cut a1) (keepP ne a2)) nd fun p2 h2 => ?_⟩
      have n3 : p2 ≠ p := fun w => by subst w; exact ne h2
      obtain ⟨x1, x2⟩ := hp p2 h2
      exact ⟨by rw [upd_ne n3] at x1; exact x1, by rw [cut_ne n3]; exact x2⟩
    | l x => exact q
  | exc c =>
    rw [e] at q
    intro cls d σ1 F1 H1 ex rx
    refine q cls d σ1 F1 H1 ⟨fun a u z => ?_, ex.g, fun a u z => ?_, fun a z => ?_⟩ rx
    · exact ex.f _ _ (by rw [upd_ne (ne_of_none z f0)]; exact S.ext.f _ _ z)
    · exact ex.h _ _ (by rw [upd_ne (ne_of_none z h0)]; exact z)
    · by_cases ha : a = p
      · subst ha; exact .inr (.inl h0)
      · rcases ex.n a z with y | y
        · rw [upd_ne ha] at y; exact S.ext.n a y
        · rw [upd_ne ha] at y; exact .inr y
  | bad => rw [e] at q; exact q
/-! ### an owned list that is walked: frozen for a while; the answer holds plain things alone -/
def scalL : PD → R PD
  | .list ds => if ds.all scalD = true then .ok (.list ds) else .bad
  | _ => .bad
def oUnf (i : Nat) (g : Rho → R PD) : Rho → R PD := fun ρ => (g (frz1 i ρ)).bind scalL
theorem scal_all {F F' : Hp} : ∀ {vs : List V} {ds : List PD}, DpAll K F vs ds → ds.all scalD = true → DpAll K F' vs ds
  | _, _, .nil, _ => .nil
  | _, _, .cons h t, e => by
    rw [List.all_cons, Bool.and_eq_true] at e
    exact .cons (scal_dp e.1 h) (scal_all t e.2)
theorem to_unf (i : Nat) {te : TE} (h : TDo K W te g) : TDo K W te (oUnf i g) := fun F0 H0 F H σ ρ Q S q => by
  obtain ⟨F', e, sf, S'⟩ := S.frz1 i
  refine h F0 H0 F' H σ _ Q S' ?_
  unfold oUnf at q
  cases eg : g (frz1 i ρ) with
  | ok x =>
    rw [eg] at q
    have q : Fin K W σ F H (scalL x) (OwQ K H Q) := q
    unfold scalL at q
    split at q
    · rename_i ds
      split at q
      · rename_i hd
        intro F1 H1 ex p hp hf ho
        obtain ⟨vs, a, b⟩ := ho
        exact q F H1 (Ext.heap S.same ex.h) p hp (S.same.free hp) ⟨vs, a, scal_all b hd⟩
      · exact q.elim
    · exact q.elim
  | exc c =>
    rw [eg] at q
    exact fun cls d F1 H1 ex r => q cls d F H1 (Ext.heap S.same ex.h) r
  | bad => rw [eg] at q; exact q.elim
/-! ### more changes in place -/
def sBad : Rho → SR := fun _ => .bad
theorem ds_bad : TDS K W tNever sBad := ds_never
def sInsert (i : Nat) (n : Nat) (g : Rho → R PD) : Rho → SR := fun ρ => ownL ρ i fun ds => SR.of (g ρ) fun x => if ds.length < sizeLine ∧ n < 1000 then .nx (ρ.set i (some (.o (.list (ds.take n ++ [x] ++ ds.drop n))))) else .bad
theorem ds_insert (i n : Nat) {te : TE} (h : TDe K W te g) : TDS K W (tDrop (tBM K "list" (fun x vs H Q => ∃ (l : Addr) (xs : List V) (i : Int) (y : V), x = .ref l ∧ vs = [.int i, y] ∧ H l = some (.lst xs) ∧ xs.length < sizeLine ∧ 0 ≤ i ∧ i < 2 ^ 63 ∧
    Q .non (upd H l (.lst (xs.take i.toNat ++ [y] ++ xs.drop i.toNat)))) (tVar i) (tCons (tC (.int (n : Nat))) (tCons te tNil)))) (sInsert i n g) := fun F0 H0 F H σ ρ D S q => by
  obtain ⟨p, ds, vs, h1, h2, h3, h4, k⟩ := ownL_k S q
  refine ⟨.ref p, h2, .inl ⟨rfl, vs, SqL.of h3⟩, h F0 H0 F H σ ρ _ S (k.of S.ext fun x F1 H1 e1 k v rv => ?_)⟩
  have k : FinS K W F0 H0 D (if ds.length < sizeLine ∧ n < 1000 then .nx (ρ.set i (some (.o (.list (ds.take n ++ [x] ++ ds.drop n))))) else .bad) := k
  by_cases hl : ds.length < sizeLine ∧ n < 1000
  · rw [if_pos hl] at k
    have m := h4.mono e1.f
    refine ⟨p, vs, (n : Nat), v, rfl, rfl, e1.h p _ h3, by rw [h4.length]; exact hl.1, by omega, by omega, ?_⟩
    exact k σ F1 _ ((S.go e1).mut h1 h2 ⟨_, upd_same, ((m.take n).append (.cons rv .nil)).append (m.drop n)⟩)
  · rw [if_neg hl] at k
    exact k.elim
def setL (ρ : Rho) (i : Nat) (ds : List PD) (x : PD) : PD → SR
  | .int k => match ixN ds.length k with
    | some j => .nx (ρ.set i (some (.o (.list (ds.set j x)))))
    | none => .bad
  | _ => .bad
def sLset (i : Nat) (g gi : Rho → R PD) : Rho → SR := fun ρ => SR.of (g ρ) fun x => ownL ρ i fun ds => SR.of (gi ρ) fun y => setL ρ i ds x y
theorem ds_lset (i : Nat) {te ti : TE} {gi : Rho → R PD} (h : TDe K W te g) (hi : TDr K W ti gi) : TDS K W (tAsg te (gSub (tVar i) ti rSetL)) (sLset i g gi) := fun F0 H0 F H σ ρ D S q =>
  h F0 H0 F H σ ρ _ S (q.of S.ext fun x F1 H1 e1 k v rv => by
    have S1 := S.go e1
    obtain ⟨p, ds, vs, h1, h2, h3, h4, k⟩ := ownL_k S1 k
    refine ⟨.ref p, h2, hi F0 H0 F1 H1 σ ρ _ S1 (k.of S1.ext fun y F2 H2 e2 k u ru => ?_)⟩
    unfold setL at k
    split at k
    · rename_i c
      split at k
      · rename_i j ej
        have := ru.int
        subst this
        have h5 := e2.h p _ h3
        exact ⟨p, vs, c, j, rfl, rfl, h5, by rw [h4.length]; exact ej, k _ _ _ ((S1.go e2).mut h1 h2 ⟨_, upd_same, (h4.mono e2.f).set j (rv.mono e2.f)⟩)⟩
      · exact k.elim
    · exact k.elim)
end
end DL
/-! Refusals with fields: made, raised; a caught one is asked. -/
namespace DL
open PySem PySem.Spec PyProof.Rows L2
/-- the fields, set one by one -/
def fsOf : List Str → List V → List (Str × V) → List (Str × V)
  | f :: fs, y :: ys, acc => fsOf fs ys ((f, y) :: acc)
  | _, _, acc => acc
theorem fsOf_len : ∀ (fs : List Str) (ys : List V) (acc : List (Str × V)), (fsOf fs ys acc).length ≤ acc.length + fs.length
  | [], _, acc => by unfold fsOf; omega
  | f :: fs, [], acc => by
    show acc.length ≤ _
    omega
  | f :: fs, y :: ys, acc => by
    have := fsOf_len fs ys ((f, y) :: acc)
    show (fsOf fs ys ((f, y) :: acc)).length ≤ _
    rw [List.length_cons] at this
    rw [List.length_cons]
    omega
/-- what __init__ of such a class promises -/
def spI (C : Addr) (ns : List Str) : Sp := fun vs H Q E => ∃ (a : Addr) (us : List V), vs = V.ref a :: us ∧ us.length = ns.length ∧ H a = some (exo a C none) ∧
  ∀ dx, H dx = none → dx ≠ a → Q .non (upd (upd H dx (exd dx (fsOf ns us []))) a (exo a C (some dx)))
/-- the walk of its body: self.f = the parameter of slot i -/
def tInit (K : PySem.W.Frag) : List (Str × Nat) → TS
  | [] => tNext
  | [(f, i)] => tOst K f (tVar 0) (tVar i)
  | (f, i) :: p :: r => tSeq (tOst K f (tVar 0) (tVar i)) (tInit K (p :: r))
theorem upd_upd {H : Hp} {a : Addr} {o o' : HO} : upd (upd H a o) a o' = upd H a o' := by
  funext b
  by_cases h : b = a
  · subst h; rw [upd_same, upd_same]
  · rw [upd_ne h, upd_ne h, upd_ne h]
theorem upd_comm {H : Hp} {a b : Addr} {o o' : HO} (h : a ≠ b) : upd (upd H a o) b o' = upd (upd H b o') a o := by
  funext c
  by_cases h1 : c = a
  · subst h1; rw [upd_same, upd_ne h, upd_same]
  · by_cases h2 : c = b
    · subst h2; rw [upd_same, upd_ne h1, upd_same]
    · rw [upd_ne h2, upd_ne h1, upd_ne h1, upd_ne h2]
section
variable {K : PySem.W.Frag} {C a dx : Addr} {D : Ends} {σ : L2.St}
/-- the fields behind the first one -/
theorem init_old (T : OexC K C) (e0 : σ[0]? = some (some (.ref a))) (hne : dx ≠ a) : ∀ (r : List (Str × Nat)) (p : Str × Nat) (us : List V) (y : V) (H : Hp) (fs : List (Str × V)),
    (∀ q ∈ p :: r, PySem.W.findIn K (.ref C) q.1 = some none) → us.length = r.length → (∀ (j : Nat) (q : Str × Nat) (u : V), (p :: r)[j]? = some q → (y :: us)[j]? = some u → σ[q.2]? = some (some u)) →
    H a = some (exo a C (some dx)) → H dx = some (exd dx fs) → fs.length + r.length ≤ 800 → D.nx σ (upd H dx (exd dx (fsOf ((p :: r).map (·.1)) (y :: us) fs))) → tInit K (p :: r) D σ H
  | [], p, us, y, H, fs, hno, hl, hs, ea, ed, hf, q => by
    have : us = [] := List.eq_nil_of_length_eq_zero hl
    subst this
    refine ⟨y, hs 0 p y rfl rfl, .ref a, e0, a, C, rfl, T, hno p List.mem_cons_self, .inr ⟨dx, fs, ea, ed, by simp at hf; omega, q⟩⟩
  | p2 :: r, p, us, y, H, fs, hno, hl, hs, ea, ed, hf, q => by
    cases us with
    | nil => cases hl
    | cons u us =>
      rw [List.length_cons] at hf
      refine ⟨y, hs 0 p y rfl rfl, .ref a, e0, a, C, rfl, T, hno p List.mem_cons_self, .inr ⟨dx, fs, ea, ed, by omega, ?_⟩⟩
      refine init_old T e0 hne r p2 us u (upd H dx (exd dx ((p.1, y) :: fs))) ((p.1, y) :: fs) (fun z hz => hno z (List.mem_cons_of_mem _ hz)) (by simpa using hl)
        (fun j z v h1 h2 => hs (j + 1) z v (by simpa using h1) (by simpa using h2)) (by rw [upd_ne hne.symm]; exact ea) upd_same (by rw [List.length_cons]; omega) ?_
      rw [upd_upd]
      exact q
/-- the whole body -/
theorem init_ok (T : OexC K C) {H : Hp} {Q : VK} (r : List (Str × Nat)) (p : Str × Nat) (us : List V) (y : V) (hno : ∀ q ∈ p :: r, PySem.W.findIn K (.ref C) q.1 = some none) (hl : us.length = r.length) (hr : r.length ≤ 100)
    (e0 : σ[0]? = some (some (.ref a))) (hs : ∀ (j : Nat) (q : Str × Nat) (u : V), (p :: r)[j]? = some q → (y :: us)[j]? = some u → σ[q.2]? = some (some u)) (ea : H a = some (exo a C none))
    (q : ∀ dx, H dx = none → dx ≠ a → Q .non (upd (upd H dx (exd dx (fsOf ((p :: r).map (·.1)) (y :: us) []))) a (exo a C (some dx)))) :
    tInit K (p :: r) { nx := fun _ H' => Q .non H', rt := Q } σ H := by
  have one : ∀ dx, H dx = none → dx ≠ a → upd (upd (upd (upd H dx (exd dx [(p.1, y)])) a (exo a C (some dx))) dx (exd dx (fsOf ((p :: r).map (·.1)) (y :: us) []))) a (exo a C (some dx)) =
      upd (upd H dx (exd dx (fsOf ((p :: r).map (·.1)) (y :: us) []))) a (exo a C (some dx)) := fun dx _ hne => by
    rw [upd_comm (a := a) (b := dx) hne.symm, upd_upd, upd_upd]
  cases r with
  | nil =>
    have : us = [] := List.eq_nil_of_length_eq_zero hl
    subst this
    exact ⟨y, hs 0 p y rfl rfl, .ref a, e0, a, C, rfl, T, hno p List.mem_cons_self, .inl ⟨ea, fun dx h1 h2 => q dx h1 h2⟩⟩
  | cons p2 r =>
    cases us with
    | nil => cases hl
    | cons u us =>
      refine ⟨y, hs 0 p y rfl rfl, .ref a, e0, a, C, rfl, T, hno p List.mem_cons_self, .inl ⟨ea, fun dx h1 h2 => ?_⟩⟩
      refine init_old (dx := dx) T e0 h2 r p2 us u _ [(p.1, y)] (fun z hz => hno z (List.mem_cons_of_mem _ hz)) (by simpa using hl)
        (fun j z v h1 h2 => hs (j + 1) z v (by simpa using h1) (by simpa using h2)) upd_same (by rw [upd_ne h2, upd_same]) (by simp at hr ⊢; omega) ?_
      have := q dx h1 h2
      rw [← one dx h1 h2] at this
      have e3 : upd (upd (upd (upd H dx (exd dx [(p.1, y)])) a (exo a C (some dx))) dx (exd dx (fsOf ((p :: p2 :: r).map (·.1)) (y :: u :: us) []))) a (exo a C (some dx)) =
          upd (upd (upd H dx (exd dx [(p.1, y)])) a (exo a C (some dx))) dx (exd dx (fsOf ((p2 :: r).map (·.1)) (u :: us) [(p.1, y)])) := by
        rw [upd_comm (a := dx) (b := a) h2, upd_upd]
        rfl
      rw [e3] at this
      exact this
end
section
variable {K : PySem.W.Frag}
/-- plain values -/
def dv1 : PD → Option V
  | .none => some .non
  | .bool b => some (.bl b)
  | .int i => some (.int i)
  | .str x => some (.str x)
  | _ => none
def dvs : List PD → Option (List V)
  | [] => some []
  | d :: ds => match dv1 d, dvs ds with
    | some v, some vs => some (v :: vs)
    | _, _ => none
theorem dv1_ok {F : Hp} {v u : V} {d : PD} (h : dv1 d = some u) (r : Dp K F v d) : v = u := by
  cases r with
  | non => cases h; rfl
  | bl b => cases h; rfl
  | int i => cases h; rfl
  | str x => cases h; rfl
  | lst _ _ => cases h
  | tup _ _ => cases h
  | exc _ _ _ => cases h
theorem dvs_ok {F : Hp} : ∀ {vs us : List V} {ds : List PD}, dvs ds = some us → DpAll K F vs ds → vs = us
  | _, us, [], h, r => by cases r; cases h; rfl
  | _, us, d :: ds, h, r => by
    cases r with
    | cons a b =>
      unfold dvs at h
      split at h
      · rename_i v vs e1 e2
        cases h
        rw [dv1_ok e1 a, dvs_ok e2 b]
      · cases h
/-- raise x(e, ..) -/
def raiseS (x : Str) (ns : List Str) (ds : List PD) : SR := match dvs ds with
  | some us => if us.length = ns.length ∧ us.length ≤ 1000 then .exc ⟨x, fsOf ns us []⟩ else .bad
  | none => .bad
def sRaise (x : Str) (ns : List Str) (gr : Rho → R (List PD)) : Rho → SR := fun ρ => SR.of (gr ρ) (raiseS x ns)
theorem ds_raise {W : WX} {ta : TA} {gr : Rho → R (List PD)} (x : Str) (ns : List Str) (h : TDa K W ta gr) :
    TDS K W (fun _ σ H => tMkO (He.ga K x) (spI (He.ga K x) ns) [] ta σ H fun cls d H' => W cls d σ H') (sRaise x ns gr) := fun F0 H0 F H σ ρ D S q =>
  h F0 H0 F H σ ρ _ S (q.of S.ext fun ds F1 H1 e1 k1 vs rs => by
    have S1 := S.go e1
    unfold raiseS at k1
    split at k1
    · rename_i us eu
      split at k1
      · rename_i hl
        have := dvs_ok eu rs
        subst this
        refine ⟨hl.2, fun a ha => ⟨a, vs, by rw [List.append_nil], hl.1, upd_same, fun dx h1 h2 => ?_⟩⟩
        have hd : H1 dx = none := by rw [upd_ne h2] at h1; exact h1
        refine ⟨rfl, dx, fsOf ns vs [], upd_same, by rw [upd_ne h2, upd_same], hd, ?_⟩
        have e2 : upd (del (upd (upd (upd H1 a (exo a (He.ga K x) none)) dx (exd dx (fsOf ns vs []))) a (exo a (He.ga K x) (some dx))) a) dx (.xd (fsOf ns vs [])) = upd H1 dx (.xd (fsOf ns vs [])) := by
          funext b
          by_cases hb : b = dx
          · subst hb; rw [upd_same, upd_same]
          · rw [upd_ne hb, upd_ne hb]
            by_cases hb2 : b = a
            · subst hb2; rw [del_same, ha]
            · rw [del_ne hb2, upd_ne hb2, upd_ne hb, upd_ne hb2]
        rw [e2]
        exact k1 _ _ σ F1 _ (S1.ext.trans (Ext.own S1.same hd)) ⟨rfl, .inr ⟨dx, rfl, upd_same⟩⟩
      · exact k1.elim
    · exact k1.elim)
/-- the promise of __init__, from its body -/
theorem initFn {P : Program} {w : World} {mg : Str → Option Value} {base : Heap} {x qual : Str} {params : Arguments} {body : List Stmt} {scope : Scope} {f C : Addr} {fd : FuncData} {N ps : List Str} {k : Nat} {p : Str × Nat} {r : List (Str × Nat)}
    (F : FunD K x qual params body scope [] [] f fd) (S : FnScope N ps scope) (T : OexC K C) (hi : ∀ (j : Nat) (q : Str × Nat), (p :: r)[j]? = some q → q.2 = j + 1) (hps : ps.length = r.length + 2) (hr : r.length ≤ 100)
    (hno : ∀ q ∈ p :: r, PySem.W.findIn K (.ref C) q.1 = some none)
    (hb : ∀ (cdv : Value) (A : Around) (outer : List Env) (sh : Shared) (H : Hp) (E : XK), Room k (A.deeper (envOfC qual scope sh.heap.objs.size f cdv)) →
      PSs (cxOf (L2.CX P w) P w K mg base N qual scope f cdv A outer sh H E) body (tInit K (p :: r))) : FnOk P w K mg base (L2.CX P w) (k + 1) f fd ps (spI C ((p :: r).map (·.1))) := by
  refine F.ok S (fun vs H Q E h => ?_) (fun cdv A outer sh H vs Q E hr2 h => ⟨_, hb cdv A outer sh H E hr2, ?_⟩)
  · obtain ⟨a, us, rfl, hl, _, _⟩ := h
    rw [List.length_cons, hl, List.length_map, List.length_cons, hps]
  · obtain ⟨a, us, rfl, hl, ea, q⟩ := h
    cases us with
    | nil => cases hl
    | cons y us =>
      have hl2 : us.length = r.length := by simpa using hl
      refine init_ok T r p us y hno hl2 hr ?_ (fun j z u h1 h2 => ?_) ea q
      · unfold L2.start
        rfl
      · rw [hi j z h1]
        unfold L2.start
        have hj : j < (y :: us).length := (List.getElem?_eq_some_iff.mp h2).1
        rw [List.getElem?_append_left (by simpa using hj), List.getElem?_map]
        show ((V.ref a :: y :: us)[j + 1]?).map some = _
        rw [List.getElem?_cons_succ, h2]
        rfl
end
end DL
/-! try: a body of one statement; the caught refusal is marked in its slot. -/
namespace DL
open PySem PySem.Spec PyProof.Rows L2
section
variable {K : PySem.W.Frag}
/-- a body's end: at a raise the slots are those ahead of it -/
def FinB (K : PySem.W.Frag) (W : WX) (σ : L2.St) (F0 H0 F H : Hp) (D : Ends) : SR → Prop
  | .exc c => ∀ cls d F' H', Ext F H F' H' → ExR K c cls d H' → W cls d σ H'
  | s => FinS K W F0 H0 D s
theorem FinB.mono {W : WX} {σ : L2.St} {F0 H0 F H F1 H1 : Hp} {D : Ends} {s : SR} (e : Ext F H F1 H1) (h : FinB K W σ F0 H0 F H D s) : FinB K W σ F0 H0 F1 H1 D s := by
  cases s with
  | exc c => exact fun cls d F' H' x r => h cls d F' H' (e.trans x) r
  | nx ρ => exact h
  | rt s => exact h
  | bk ρ => exact h
  | ct ρ => exact h
  | bad => exact h
theorem FinB.of {α : Type} {W : WX} {σ : L2.St} {F0 H0 F H : Hp} {D : Ends} {r : R α} {k : α → SR} {P : α → Hp → Hp → Prop} (h : FinB K W σ F0 H0 F H D (SR.of r k)) (f : ∀ x F1 H1, Ext F H F1 H1 → FinB K W σ F0 H0 F1 H1 D (k x) → P x F1 H1) : Fin K W σ F H r P := by
  cases r with
  | ok x => exact fun F1 H1 e => f x F1 H1 e (FinB.mono e h)
  | exc c => exact h
  | bad => exact h
def TDB (K : PySem.W.Frag) (t : WX → TS) (s : Rho → SR) : Prop := ∀ (W : WX) (F0 H0 F H : Hp) (σ : L2.St) (ρ : Rho) (D : Ends), StR K F0 H0 F H σ ρ → FinB K W σ F0 H0 F H D (s ρ) → t W D σ H
theorem tb_set (i : Nat) {te : WX → TE} {g : Rho → R PD} (h : ∀ W, TDe K W (te W) g) : TDB K (fun W => tAsg (te W) (gName i)) (sSet i g) := fun W F0 H0 F H σ ρ D S q =>
  h W F0 H0 F H σ ρ _ S (q.of fun x F1 H1 e k v r => k _ F1 H1 ((S.go e).setD r))
theorem tb_drop {te : WX → TE} {g : Rho → R PD} (h : ∀ W, TDe K W (te W) g) : TDB K (fun W => tDrop (te W)) (sDrop g) := fun W F0 H0 F H σ ρ D S q =>
  h W F0 H0 F H σ ρ _ S (q.of fun x F1 H1 e k v r => k σ F1 H1 (S.go e))
theorem tb_if {tt : TT} {gt : Rho → R Bool} {t u : WX → TS} {s s' : Rho → SR} (ht : ∀ W, TDt K W tt gt) (h : TDB K t s) (h' : TDB K u s') : TDB K (fun W => tIfS tt (t W) (u W)) (sIf gt s s') := fun W F0 H0 F H σ ρ D S q =>
  ht W F0 H0 F H σ ρ _ S (q.of fun c F1 H1 e k => by
    cases c with
    | true => exact h W F0 H0 F1 H1 σ ρ D (S.go e) k
    | false => exact h' W F0 H0 F1 H1 σ ρ D (S.go e) k)
/-- an expression statement whose answer is a new list or dict -/
theorem tb_dropO {te : WX → TE} {g : Rho → R PD} (h : ∀ W, TDo K W (te W) g) : TDB K (fun W => tDrop (te W)) (sDrop g) := fun W F0 H0 F H σ ρ D S q =>
  h W F0 H0 F H σ ρ _ S (q.of fun x F1 H1 e k p _ _ _ => k σ F1 H1 (S.go e))

/-! ### the clause -/
/-- the frozen part behind a clause -/
theorem back_exc {F0 H0 F1 H1 F2 H2 : Hp} {dd : Addr} {fs : List (Str × V)} (ex : Ext F0 H0 F1 H1) (hd : H1 dd = some (.xd fs)) (b : Ext (upd F1 dd (.xd fs)) H0 F2 H2) : Ext F0 H0 F2 H2 := by
  have sm : ∀ a u, F0 a = some u → F2 a = some u := fun a u z => b.f _ _ (by
    by_cases ha : a = dd
    · subst ha
      have := ex.g _ _ (ex.f _ _ z)
      rw [hd] at this
      rw [upd_same]
      exact this
    · rw [upd_ne ha]; exact ex.f _ _ z)
  refine ⟨sm, b.g, b.h, fun a z => ?_⟩
  rcases b.n a z with y | y
  · by_cases ha : a = dd
    · subst ha
      cases e : H0 a with
      | none => exact .inr (.inl rfl)
      | some u =>
        have := ex.h a u e
        rw [hd] at this
        cases this
        exact .inr (.inr ⟨_, rfl, .inl (.inr ⟨_, rfl⟩)⟩)
    · rw [upd_ne ha] at y
      exact ex.n a y
  · exact .inr y
open Classical in
/-- the same for all places -/
noncomputable def allA (f : Nat → Nat → SR) : SR := if ∀ a d, f a d = f 0 0 then f 0 0 else .bad
theorem allA_ok {f : Nat → Nat → SR} {s : SR} (h : ∀ a d, f a d = s) : allA f = s := by
  unfold allA
  rw [if_pos (fun a d => by rw [h, h]), h]
def mark (a d : Nat) (fs : List (Str × V)) : PD := .tuple [.int (a : Nat), .int (d : Nat), .list (encF fs)]
/-- the clause's end -/
def dropE (i : Nat) : SR → SR
  | .nx ρ => .nx ((ρ.map unlS).set i none)
  | .bk ρ => .bk ((ρ.map unlS).set i none)
  | .ct ρ => .ct ((ρ.map unlS).set i none)
  | .rt s => .rt s
  | _ => .bad
/-- try: s, except as slot i: h; cx: which classes the clause names -/
noncomputable def sTry (i : Nat) (cx : Str → Option Bool) (s : Rho → SR) (h : Nat → Nat → Ec → Rho → SR) : Rho → SR := fun ρ => match s ρ with
  | .exc c => (match cx c.cls with
    | some true => if c.fs = [] then .bad else allA fun a d => dropE i (h a d c (ρ.set i (some (.l (mark a d c.fs)))))
    | some false => .exc c
    | none => .bad)
  | r => r
theorem ds_try {Wout : WX} {c : Value} {i : Nat} {tb : WX → TS} {ts : Addr → Value → Option Addr → TS} {s : Rho → SR} {h : Nat → Nat → Ec → Rho → SR} {cx : Str → Option Bool}
    (hcx : ∀ x b, cx x = some b → PySem.W.exmOne K (.ref (He.ga K x)) c = some b) (hb : TDB K tb s) (hh : ∀ (a d : Addr) (e : Ec), cx e.cls = some true → TDS K (fun _ _ _ _ => False) (ts a (.ref (He.ga K e.cls)) (some d)) (h a d e)) :
    TDS K Wout (fun D σ H => tb (wAs K c i ts Wout D) D σ H) (sTry i cx s h) := fun F0 H0 F H σ ρ D S q => by
  refine hb _ F0 H0 F H σ ρ D S ?_
  unfold sTry at q
  cases es : s ρ with
  | nx ρ1 => rw [es] at q; exact q
  | rt x => rw [es] at q; exact q
  | bk ρ1 => rw [es] at q; exact q
  | ct ρ1 => rw [es] at q; exact q
  | bad => rw [es] at q; exact q.elim
  | exc e =>
    rw [es] at q
    simp only at q
    intro cls d F1 H1 ex rx
    have S1 := S.go ex
    obtain ⟨rfl, rd⟩ := rx
    cases ec : cx e.cls with
    | none => rw [ec] at q; exact q.elim
    | some b =>
      rw [ec] at q
      refine ⟨b, hcx _ _ ec, fun hb1 a ha => ?_, fun hb0 => ?_⟩
      · subst hb1
        simp only at q
        split at q
        · exact q.elim
        rename_i hne
        obtain ⟨dd, rfl, hd⟩ : ∃ dd, d = some dd ∧ H1 dd = some (.xd e.fs) := by
          rcases rd with ⟨z, _⟩ | z
          · exact absurd z hne
          · exact z
        have qa : FinS K Wout F0 H0 D (dropE i (h a dd e (ρ.set i (some (.l (mark a dd e.fs)))))) := by
          unfold allA at q
          split at q
          · rename_i al
            rw [← al a dd] at q
            exact q
          · exact q.elim
        have sm : Same F1 (upd F1 dd (.xd e.fs)) := fun b u z => by
          by_cases hb : b = dd
          · subst hb
            have := S1.same _ _ z
            rw [hd] at this
            rw [upd_same]
            exact this
          · rw [upd_ne hb]; exact z
        have S2 : StR K (upd F1 dd (.xd e.fs)) H0 (upd F1 dd (.xd e.fs)) H1 (σ.set i (some (.ref a))) (ρ.set i (some (.l (mark a dd e.fs)))) := by
          obtain ⟨φ, S1⟩ := S1
          have ndd : ∀ j, dd ∉ φ j := fun j hj => by
            obtain ⟨_, _, o, x3, x4⟩ := S1.fre j dd hj
            rw [hd] at x3; cases x3
            exact x4 (.inl (.inr ⟨_, rfl⟩))
          have e1 : Ext (upd F1 dd (.xd e.fs)) H0 (upd F1 dd (.xd e.fs)) H1 := ⟨Same.refl _, fun b u z => by
            by_cases hb : b = dd
            · subst hb; rw [upd_same] at z; rw [← z]; exact hd
            · rw [upd_ne hb] at z; exact S1.same _ _ z, S1.ext.h, fun _ z => .inl z⟩
          have S0 : StF K (upd F1 dd (.xd e.fs)) H0 (upd F1 dd (.xd e.fs)) H1 σ ρ φ := by
            refine ⟨e1, S1.len, fun j z w => ?_, fun j z w => ?_, fun j p hp => ?_, S1.nod, S1.dis, fun j z w => ?_⟩
            · obtain ⟨v, a1, b1⟩ := S1.dat j z w
              exact ⟨v, a1, b1.mono sm⟩
            · obtain ⟨v, a1, b1⟩ := S1.tre j z w
              exact ⟨v, a1, b1.keep sm (KeepOn.same (Same.refl _))⟩
            · obtain ⟨x1, x2, x3⟩ := S1.fre j p hp
              exact ⟨x1, by rw [upd_ne fun w => by subst w; exact ndd j hp]; exact x2, x3⟩
            · obtain ⟨p, a1, b1⟩ := S1.lck j z w
              exact ⟨p, a1, b1.mono sm⟩
          exact ⟨_, S0.put (fp := []) (fun y w => by cases w) (fun y w => by cases w) (fun y w => by
            cases w
            exact ⟨a, rfl, (Int.toNat_natCast a).symm, e.fs, by rw [Int.toNat_natCast]; exact upd_same, rfl⟩) (fun p hp => by cases hp) List.nodup_nil (fun j p _ _ hp => by cases hp)⟩
        have st : ∀ {σ2 : L2.St} {F2 H2 : Hp} {ρ2 : Rho}, StR K (upd F1 dd (.xd e.fs)) H0 F2 H2 σ2 ρ2 → StR K F0 H0 F2 H2 (σ2.set i none) ((ρ2.map unlS).set i none) := by
          intro σ2 F2 H2 ρ2 S3
          have x1 := back_exc S1.ext hd S3.ext
          have un : ∀ {j : Nat} {x : Sl}, (ρ2.map unlS)[j]? = some (some x) → ρ2[j]? = some (some x) ∧ ∀ y, x ≠ .l y := by
            intro j x e
            rw [List.getElem?_map] at e
            cases e2 : ρ2[j]? with
            | none => rw [e2] at e; cases e
            | some z =>
              rw [e2] at e
              have e : unlS z = some x := Option.some.inj e
              cases z with
              | none => cases e
              | some z =>
                cases z with
                | d y => cases e; exact ⟨rfl, fun _ w => nomatch w⟩
                | t y => cases e; exact ⟨rfl, fun _ w => nomatch w⟩
                | l y => cases e
          have S4 : StR K F0 H0 F2 H2 σ2 (ρ2.map unlS) := by
            obtain ⟨φ, S3⟩ := S3
            exact ⟨φ, x1, by rw [List.length_map]; exact S3.len, fun j z w => S3.dat j z (un w).1, fun j z w => S3.tre j z (un w).1, S3.fre, S3.nod, S3.dis, fun j z w => absurd rfl ((un w).2 z)⟩
          exact S4.setU i
        refine hh a dd e ec _ _ _ _ _ _ _ S2 ?_
        cases er : h a dd e (ρ.set i (some (.l (mark a dd e.fs)))) with
        | nx ρ2 => rw [er] at qa; exact fun σ2 F2 H2 S3 => qa _ F2 H2 (st S3)
        | bk ρ2 => rw [er] at qa; exact fun σ2 F2 H2 S3 => qa _ F2 H2 (st S3)
        | ct ρ2 => rw [er] at qa; exact fun σ2 F2 H2 S3 => qa _ F2 H2 (st S3)
        | exc c2 => rw [er] at qa; exact qa.elim
        | bad => rw [er] at qa; exact qa.elim
        | rt x =>
          rw [er] at qa
          cases x with
          | d x => exact fun v F2 H2 e2 rv => qa v F2 H2 (back_exc S1.ext hd e2) rv
          | t x => exact fun v fp F2 H2 e2 y1 y2 y3 => qa v fp F2 H2 (back_exc S1.ext hd e2) y1 y2 y3
          | l x => exact qa
      · subst hb0
        exact q _ _ σ F1 H1 S1.ext ⟨rfl, rd⟩
end
section
variable {K : PySem.W.Frag}
/-- a field of the caught refusal -/
def getF (f : Str) : List PD → R PD
  | .tuple [.str g, v] :: r => if g = f then (match v with
    | .dict _ => .bad
    | v => .ok v) else getF f r
  | _ => .bad
def onMark (a d i : Nat) (k : List PD → R PD) : Rho → R PD := fun ρ => match ρ[i]? with
  | some (some (.l (.tuple [.int a', .int d', .list es]))) => if a' = (a : Int) ∧ d' = (d : Int) then k es else .bad
  | _ => .bad
theorem onMark_ok {F0 H0 F H : Hp} {σ : L2.St} {ρ : Rho} {W : WX} {P : PD → Hp → Hp → Prop} {a d i : Nat} {k : List PD → R PD} (S : StR K F0 H0 F H σ ρ) (q : Fin K W σ F H (onMark a d i k ρ) P) :
    ∃ fs, σ[i]? = some (some (.ref a)) ∧ H d = some (.xd fs) ∧ Fin K W σ F H (k (encF fs)) P := by
  unfold onMark at q
  split at q
  · rename_i a' d' es e
    split at q
    · rename_i h
      obtain ⟨rfl, rfl⟩ := h
      obtain ⟨p, hs, hp, fs, hf, rfl⟩ := S.lck i _ e
      rw [Int.toNat_natCast] at hp hf
      subst hp
      exact ⟨fs, hs, S.same _ _ hf, q⟩
    · exact q.elim
  · exact q.elim
theorem getF_ok {f : Str} : ∀ {fs : List (Str × V)} {x : PD}, getF f (encF fs) = .ok x → ∃ v, fs.lookup f = some v ∧ ∀ F : Hp, Dp K F v x
  | [], x, h => by cases h
  | (g, v) :: r, x, h => by
    have h : (if g = f then (match encV v with | .dict _ => R.bad | v => .ok v) else getF f (encF r)) = .ok x := h
    by_cases c : g = f
    · subst c
      rw [if_pos rfl] at h
      refine ⟨v, by rw [List.lookup_cons, beq_self_eq_true], fun F => ?_⟩
      cases v with
      | non => cases h; exact .non
      | bl b => cases h; exact .bl b
      | int b => cases h; exact .int b
      | str b => cases h; exact .str b
      | _ => cases h
    · rw [if_neg c] at h
      obtain ⟨u, e, k⟩ := getF_ok h
      have : (f == g) = false := by simpa using fun z => c z.symm
      exact ⟨u, by rw [List.lookup_cons, this]; exact e, k⟩
theorem getF_x (f : Str) : ∀ l : List PD, ∀ c, getF f l ≠ .exc c
  | [], c, h => by cases h
  | x :: l, c, h => by
    unfold getF at h
    split at h
    · rename_i g v r e
      injection e with _ e
      subst e
      split at h
      · split at h <;> cases h
      · exact getF_x f _ c h
    · cases h
def eXf (a d i : Nat) (f : Str) : Rho → R PD := onMark a d i (getF f)
theorem td_xf {W : WX} {a d : Addr} {C : Addr} (i : Nat) (f : Str) : TDe K W (tXf a (.ref C) (some d) C f (tVar i)) (eXf a d i f) := fun F0 H0 F H σ ρ Q S q => by
  obtain ⟨fs, hs, hd, k⟩ := onMark_ok S q
  refine ⟨.ref a, hs, rfl, rfl, d, fs, ?_⟩
  cases e : getF f (encF fs) with
  | ok x =>
    rw [e] at k
    obtain ⟨v, e1, e2⟩ := getF_ok (K := K) e
    exact ⟨v, rfl, hd, e1, Fin.okk K W σ S.same k _ (e2 F)⟩
  | exc c => exact absurd e (getF_x f _ c)
  | bad => rw [e] at k; exact k.elim
/-- isinstance(e, C') of a caught refusal of the class D, its dict at d -/
def rIsF (K : PySem.W.Frag) (D a d : Addr) : List V → Hp → VK → Prop := fun xs H Q => ∃ (c : V) (cv : Value) (b : Bool) (fs : List (Str × V)), xs = [.ref a, c] ∧ (∀ u, RelV c u → u = cv) ∧ H d = some (.xd fs) ∧ PySem.W.kitOne K (.ref D) cv = some b ∧ Q (.bl b) H
theorem call_isF {X : Cx} {a D d : Addr} {oe : Obj} {pn : List (Addr × Obj)} (C : ExcC X.K D) (hz : Zc (.ref D) (some d) oe) (hf : ∃ vs, oe.data = .fields vs) : CallR (X.suite a ((a, oe) :: pn)) (.builtin "isinstance") (rIsF X.K D a d) := by
  intro pins s σ H xs us Q I r h
  obtain ⟨c, cv, b, fs, rfl, hcv, hd, e, q⟩ := h
  obtain ⟨u1, u2, rfl, r1, r2⟩ := r.two
  obtain rfl := hcv _ r2
  obtain rfl : u1 = Value.ref a := r1
  have hget := (I.pin (a, oe) (List.mem_append_left _ List.mem_cons_self)).1
  obtain ⟨vs, hv⟩ := hf
  obtain ⟨mA, hns, _⟩ : ObjOk X.prog X.w H s.heap d (.xd fs) := I.hok d _ hd
  obtain ⟨od, ho, _⟩ := lookIn_ns hns
  have J : PySem.W.InstAt s.heap a oe D (some od) := ⟨hget, hz.1, by unfold PySem.W.notCls; rw [hv] <;> rfl, by rw [hz.2]; exact ho⟩
  have hcl : (PySem.W.clsIn X.K D).isSome = true := by
    have := C.hd
    unfold PySem.W.hasDictIn at this
    cases z : PySem.W.clsIn X.K D with
    | none => rw [z] at this; cases this
    | some _ => rfl
  exact PySem.W.kia_one (PySem.W.kitx_exc hcl C.hg C.hk C.hs C.ha C.hn C.ht C.hm) I.kIn J e (fun z => nomatch z) fun tk => ⟨.bl b, H, I.kept (t' := tk) fun _ _ z => z, rfl, q⟩
def eIsF (a d i : Nat) (b : Bool) : Rho → R PD := onMark a d i fun _ => .ok (.bool b)
theorem td_isF {W : WX} {a d D : Addr} {c : V} {cv : Value} {b : Bool} (i : Nat) (hc : ∀ u, RelV c u → u = cv) (hk : PySem.W.kitOne K (.ref D) cv = some b) :
    TDe K W (tCB (rIsF K D a d) (tCons (tVar i) (tCons (tC c) tNil))) (eIsF a d i b) := fun F0 H0 F H σ ρ Q S q => by
  obtain ⟨fs, hs, hd, k⟩ := onMark_ok S q
  exact ⟨.ref a, hs, c, cv, b, fs, rfl, hc, hd, hk, Fin.okk (x := PyData.bool b) K W σ S.same k _ (.bl b)⟩
end
section
variable {K : PySem.W.Frag}
/-- isinstance(e, (C1, ..)) -/
def rIsFT (K : PySem.W.Frag) (D a d : Addr) : List V → Hp → VK → Prop := fun xs H Q => ∃ (tp : Addr) (cs : List V) (us : List Value) (b : Bool) (fs : List (Str × V)), xs = [.ref a, .ref tp] ∧ H tp = some (.tup cs) ∧ Paired (fun c u => ∀ w, RelV c w → w = u) cs us ∧ H d = some (.xd fs) ∧ PySem.W.kitAny K (.ref D) us = some b ∧ Q (.bl b) H
theorem paired_eq : ∀ {cs : List V} {us its : List Value}, Paired (fun c u => ∀ w, RelV c w → w = u) cs us → Vals cs its → its = us
  | _, _, _, .nil, r => by cases r; rfl
  | _, _, _, .cons h t, r => by
    cases r with
    | cons a b => rw [h _ a, paired_eq t b]
theorem call_isFT {X : Cx} {a D d : Addr} {oe : Obj} {pn : List (Addr × Obj)} (C : ExcC X.K D) (hz : Zc (.ref D) (some d) oe) (hf : ∃ vs, oe.data = .fields vs) : CallR (X.suite a ((a, oe) :: pn)) (.builtin "isinstance") (rIsFT X.K D a d) := by
  intro pins s σ H xs us Q I r h
  obtain ⟨tp, cs, ws, b, fs, rfl, hT, hcv, hd, e, q⟩ := h
  obtain ⟨u1, u2, rfl, r1, r2⟩ := r.two
  obtain rfl : u2 = Value.ref tp := r2
  obtain rfl : u1 = Value.ref a := r1
  have hget := (I.pin (a, oe) (List.mem_append_left _ List.mem_cons_self)).1
  obtain ⟨vs, hv⟩ := hf
  obtain ⟨mA, hns, _⟩ : ObjOk X.prog X.w H s.heap d (.xd fs) := I.hok d _ hd
  obtain ⟨od, ho, _⟩ := lookIn_ns hns
  have J : PySem.W.InstAt s.heap a oe D (some od) := ⟨hget, hz.1, by unfold PySem.W.notCls; rw [hv] <;> rfl, by rw [hz.2]; exact ho⟩
  have hcl : (PySem.W.clsIn X.K D).isSome = true := by
    have := C.hd
    unfold PySem.W.hasDictIn at this
    cases z : PySem.W.clsIn X.K D with
    | none => rw [z] at this; cases this
    | some _ => rfl
  obtain ⟨_, its, rv, ot, g1, g2, n, g3⟩ : ObjOk X.prog X.w H s.heap tp (.tup cs) := I.hok tp _ hT
  obtain rfl := paired_eq hcv rv
  obtain ⟨oc, od2, dt, sl⟩ := ot
  dsimp only at g2 g3
  subst g2 g3
  exact PySem.W.kia_tup (PySem.W.kitx_exc hcl C.hg C.hk C.hs C.ha C.hn C.ht C.hm) I.kIn J g1 e (fun z => nomatch z) fun tk => ⟨.bl b, H, I.kept (t' := tk) fun _ _ z => z, rfl, q⟩
/-- arguments that are classes -/
def ConstA (t : TA) (cs : List V) : Prop := ∀ σ H Q, Q cs H → t σ H Q
theorem consta_nil : ConstA tNil [] := fun _ _ _ q => q
theorem consta_cons {t : TA} {cs : List V} (c : V) (h : ConstA t cs) : ConstA (tCons (tC c) t) (c :: cs) := fun σ H Q q => h σ H _ q
theorem td_isFT {W : WX} {a d D : Addr} {cs : List V} {us : List Value} {b : Bool} {t : TA} (i : Nat) (ht : ConstA t cs) (hl : cs.length ≤ 1000) (hc : Paired (fun c u => ∀ w, RelV c w → w = u) cs us) (hk : PySem.W.kitAny K (.ref D) us = some b) :
    TDe K W (tCB (rIsFT K D a d) (tCons (tVar i) (tCons (tTup t) tNil))) (eIsF a d i b) := fun F0 H0 F H σ ρ Q S q => by
  obtain ⟨fs, hs, hd, k⟩ := onMark_ok S q
  refine ⟨.ref a, hs, ht σ H _ ⟨by rw [sizeLine_eq]; omega, fun p hp => ?_⟩⟩
  have ex := Ext.own (o := .tup cs) S.same hp
  exact ⟨p, cs, us, b, fs, rfl, upd_same, hc, by rw [upd_ne (ne_of_none hd hp)]; exact hd, hk, k _ _ ex _ (.bl b)⟩
/-- a class of refusals with fields, as the head can ask for it -/
def oexB (K : PySem.W.Frag) (C : Addr) : Bool :=
  (match K.lookup C with
    | some ⟨.type "type", _, .cls cd, sl⟩ => (match cd.mro, sl.toList with
      | .ref C' :: bm, [_, _, _, _, some (.builtin n), _] => C' == C && (n == "ValueError.__new__" && (!cd.hasDel && (cd.hasDict && PySem.HandSPX.refsVE bm)))
      | _, _ => false)
    | _ => false) &&
  (decide (PySem.W.findIn K (.ref C) "__setattr__" = some (some (.builtin "object.__setattr__"))) && (decide (PySem.W.subIn K (.ref C) (.type "BaseException") = some true) && (decide (PySem.W.typeIn K (.ref C) = some (.type "type")) && PySem.W.keepIn K (.ref C))))
theorem oexB_ok {C : Addr} (h : oexB K C = true) : OexC K C := by
  unfold oexB at h
  rw [Bool.and_eq_true, Bool.and_eq_true, Bool.and_eq_true, Bool.and_eq_true] at h
  obtain ⟨h1, h2, h3, h4, h5⟩ := h
  refine ⟨?_, of_decide_eq_true h2, of_decide_eq_true h3, of_decide_eq_true h4, h5⟩
  split at h1
  · rename_i dd cd sl ho
    split at h1
    · rename_i C' bm k0 k1 k2 k3 n k5 hm hs
      rw [Bool.and_eq_true, Bool.and_eq_true, Bool.and_eq_true, Bool.and_eq_true] at h1
      obtain ⟨q1, q2, q3, q4, q5⟩ := h1
      obtain rfl := eq_of_beq q1
      obtain rfl := eq_of_beq q2
      obtain ⟨nm, bs, mro, ns, qn, hdct, sn, sub, ab, col, del⟩ := cd
      dsimp only at hm q3 q4
      subst hm q4
      have hdel : del = false := by simpa using q3
      subst hdel
      obtain ⟨l⟩ := sl
      dsimp only at hs
      subst hs
      exact ⟨nm, qn, ns, bs, bm, sn, sub, ab, col, dd, k0, k1, k2, k3, k5, ho, q5⟩
    · cases h1
  · cases h1
end
section
/-- a class of refusals: what the head says of it -/
structure OCls (K : PySem.W.Frag) (mg : Str → Option Value) (x : Str) (ns : List Str) : Prop where
  o : OexC K (He.ga K x)
  g : mg x = some (.ref (He.ga K x))
  i : PySem.W.findIn K (.ref (He.ga K x)) "__init__" = some (some (.ref (He.ma K (He.ga K x) "__init__")))
  t : PySem.W.typeIn K (.ref (He.ma K (He.ga K x) "__init__")) = some (.type "function")
  n : ∀ f ∈ ns, PySem.W.findIn K (.ref (He.ga K x)) f = some none
  xf : XfC K (He.ga K x)
  ex : ExcC K (He.ga K x)
def excCB (K : PySem.W.Frag) (D : Addr) : Bool :=
  decide (PySem.W.findIn K (.ref D) "__class__" = some (some (.builtin "object.__class__"))) && (decide (PySem.W.specialIn K (.builtin "object.__class__") "__get__" = some (some (.builtin "getset_descriptor.__get__"))) &&
    (decide (PySem.W.takesIn K (.builtin "object.__class__") = some true) && decide (PySem.W.mroIn K D (.type "object") = some true)))
def oclsB (K : PySem.W.Frag) (x : Str) (ns : List Str) : Bool :=
  oexB K (He.ga K x) && (decide (PySem.W.findIn K (.ref (He.ga K x)) "__init__" = some (some (.ref (He.ma K (He.ga K x) "__init__")))) && (decide (PySem.W.typeIn K (.ref (He.ma K (He.ga K x) "__init__")) = some (.type "function")) &&
    ((ns.all fun f => decide (PySem.W.findIn K (.ref (He.ga K x)) f = some none)) && (xfB K (He.ga K x) && excCB K (He.ga K x)))))
theorem oclsB_ok {K : PySem.W.Frag} {mg : Str → Option Value} {x : Str} {ns : List Str} (h : oclsB K x ns = true) (g : mg x = some (.ref (He.ga K x))) : OCls K mg x ns := by
  unfold oclsB at h
  rw [Bool.and_eq_true, Bool.and_eq_true, Bool.and_eq_true, Bool.and_eq_true, Bool.and_eq_true] at h
  obtain ⟨h1, h2, h3, h4, h5, h6⟩ := h
  have X := xfB_ok h5
  unfold excCB at h6
  rw [Bool.and_eq_true, Bool.and_eq_true, Bool.and_eq_true] at h6
  obtain ⟨e1, e2, e3, e4⟩ := h6
  exact ⟨oexB_ok h1, g, of_decide_eq_true h2, of_decide_eq_true h3, fun f hf => of_decide_eq_true (List.all_eq_true.mp h4 f hf), X, ⟨X.ga, X.gg, X.exC, X.hdC, of_decide_eq_true e1, of_decide_eq_true e2, of_decide_eq_true e3, of_decide_eq_true e4⟩⟩
end
section
/-- C(e, ..) of such a class -/
theorem pmk_ocls {X : Cx} {W : WX} {x : Str} {ns ps : List Str} {k : Nat} {fd : FuncData} {e : Expr} {es : List Expr} {ta : TA} {p pos : Pos} (tk : Takes X W) (O : OCls X.K X.mg x ns)
    (F1 : FnOk X.prog X.w X.K X.mg X.base (L2.CX X.prog X.w) k (He.ma X.K (He.ga X.K x) "__init__") fd ps (spI (He.ga X.K x) ns)) (hr : Room (k + 1) X.A) (hb : Binds X.K fd ps []) (hg : Gl X x) (ha : PA X (e :: es) ta)
    (hdb : (x == ("__debug__" : Str)) = false := by decide) (he : starEach (e :: es) X.env = (false, eval e X.env) :: starEach es X.env := by rfl) (hpl : (backTo pos (starEach es X.env)).any (·.1) = false := by rfl) :
    PMk X (.Call (.Name x p) (e :: es) [] pos) (tMkO (He.ga X.K x) (spI (He.ga X.K x) ns) [] ta) :=
  pmk_oex O.o O.i O.t F1 hr hb .nil (passes_call tk fun _ _ _ _ h => h.elim) hg O.g ha hdb he hpl
/-- what a raise wants of a class, at a depth k -/
def KeptI (P : Program) (w : World) (K : PySem.W.Frag) (mg : Str → Option Value) (base : Heap) (k : Nat) (x : Str) (ns : List Str) : Prop :=
  ∃ (fd : FuncData) (ps : List Str), OCls K mg x ns ∧ Binds K fd ps [] ∧ FnOk P w K mg base (L2.CX P w) k (He.ma K (He.ga K x) "__init__") fd ps (spI (He.ga K x) ns)
theorem kept_cls {P : Program} {w : World} {K : PySem.W.Frag} {mg : Str → Option Value} {base : Heap} {x qual : Str} {params : Arguments} {body : List Stmt} {scope : Scope} {N ps ns : List Str} {k : Nat} {p : Str × Nat} {r : List (Str × Nat)}
    (F : ∃ fd, FunD K "__init__" qual params body scope [] [] (He.ma K (He.ga K x) "__init__") fd) (O : OCls K mg x ns) (S : FnScope N ps scope) (hn : ns = (p :: r).map (·.1)) (hi : ∀ (j : Nat) (q : Str × Nat), (p :: r)[j]? = some q → q.2 = j + 1)
    (hps : ps.length = r.length + 2) (hr : r.length ≤ 100)
    (hB : ∀ (kV doc pm : Value) (an : Option Addr) (cdv ct : Value) (us : List Value), us.length = ps.length → bindArgs (PySem.W.fnOf "__init__" qual params body scope .none kV doc pm an cdv ct) ⟨us, []⟩ = pure (ps.zip us))
    (hb : ∀ (f : Addr) (cdv : Value) (A : Around) (outer : List Env) (sh : Shared) (H : Hp) (E : XK), Room k (A.deeper (envOfC qual scope sh.heap.objs.size f cdv)) →
      PSs (cxOf (L2.CX P w) P w K mg base N qual scope f cdv A outer sh H E) body (tInit K (p :: r))) : KeptI P w K mg base (k + 1) x ns := by
  obtain ⟨fd, F⟩ := F
  refine ⟨fd, ps, O, F.bindsN hB, ?_⟩
  subst hn
  exact initFn F S O.o hi hps hr (fun q hq => O.n q.1 (List.mem_map_of_mem hq)) (fun cdv A outer sh H E h => hb _ cdv A outer sh H E h)
end
section
/-- a clause that is reached with one class alone -/
def tEx (K : PySem.W.Frag) (x : Str) (t : Addr → Addr → TS) : Addr → Value → Option Addr → TS := fun a cls d D σ H => ∃ dd, cls = .ref (He.ga K x) ∧ d = some dd ∧ t a dd D σ H
theorem pss_ex {X : Cx} {x : Str} {b : List Stmt} {t : Addr → Addr → TS}
    (h : ∀ (a dd : Addr) (oe : Obj) (pn : List (Addr × Obj)), Zc (.ref (He.ga X.K x)) (some dd) oe → (∃ vs, oe.data = .fields vs) → PSs (X.suite a ((a, oe) :: pn)) b (t a dd)) :
    ∀ (a : Addr) (oe : Obj) (cls : Value) (d : Option Addr) (pn : List (Addr × Obj)), Zc cls d oe → (∃ vs, oe.data = .fields vs) → PSs (X.suite a ((a, oe) :: pn)) b (tEx X.K x t a cls d) := fun a oe cls d pn hz hf => by
  refine ⟨fun pins s σ H D I q => ?_⟩
  obtain ⟨dd, rfl, rfl, q⟩ := q
  exact (h a dd oe pn hz hf).run pins s σ H D I q
def onlyX (x : Str) (h : Nat → Nat → Ec → Rho → SR) : Nat → Nat → Ec → Rho → SR := fun a d e ρ => if e.cls = x then h a d e ρ else .bad
theorem ds_ex {K : PySem.W.Frag} {W : WX} {x : Str} {t : Addr → Addr → TS} {h : Nat → Nat → Ec → Rho → SR} {cx : Str → Option Bool} (hh : ∀ (a d : Addr) (e : Ec), TDS K W (t a d) (h a d e)) :
    ∀ (a d : Addr) (e : Ec), cx e.cls = some true → TDS K W (tEx K x t a (.ref (He.ga K e.cls)) (some d)) (onlyX x h a d e) := fun a d e _ F0 H0 F H σ ρ D S q => by
  unfold onlyX at q
  split at q
  · rename_i c
    exact ⟨d, by rw [c], rfl, hh a d e F0 H0 F H σ ρ D S q⟩
  · exact q.elim
/-- the classes that a clause names, all below one -/
def allBelow (xs : List Str) : Str → Option Bool := fun x => if x ∈ xs then some true else none
theorem below_ok {K : PySem.W.Frag} {c : Value} {xs : List Str} (h : ∀ x ∈ xs, PySem.W.exmOne K (.ref (He.ga K x)) c = some true) : ∀ x b, allBelow xs x = some b → PySem.W.exmOne K (.ref (He.ga K x)) c = some b := fun x b e => by
  unfold allBelow at e
  split at e
  · rename_i m
    cases e
    exact h x m
  · cases e
end
section
variable {K : PySem.W.Frag}
/-! ### shifts, bits -/
def shrB (_ j : Int) : Bool := decide (0 ≤ j)
abbrev shrD : PD → PD → R PD := iiD shrB fun i j => i / 2 ^ j.toNat
theorem rd_shr : RD K (rI (fun _ j => 0 ≤ j) fun i j => .int (i / 2 ^ j.toNat)) shrD := rd_I fun i j h => of_decide_eq_true h
def bandD : PD → PD → R PD
  | .int i, .int j => .ok (.int (Builtin.bitAnd i j))
  | _, _ => .bad
theorem rd_band : RD K (rI0 fun i j => .int (Builtin.bitAnd i j)) bandD := fun W σ F H x y a b Q s ra rb q => by
  unfold bandD at q
  split at q
  · exact ⟨_, _, ra.int, rb.int, q.ok s _ (.int _)⟩
  · exact q.elim
end
end DL
/-! Trees: made, handed back, taken apart; reading what is one's own; calls that only read. -/
namespace DL
open PySem PySem.Spec PyProof.Rows L2
section
variable {K : PySem.W.Frag} {W : WX}
/-! ### trees as values -/
def MvQ (K : PySem.W.Frag) (H : Hp) (φ : Nat → List Addr) (vs : List Nat) (Q : VK) : Tv → Hp → Hp → Prop := fun x F' H' => ∀ v fp, TvAt K F' H' fp v x → fp.Nodup → (∀ p ∈ fp, F' p = none ∧ (H p = none ∨ ∃ i ∈ vs, p ∈ φ i)) → Q v H'
/-- a tree: what it owns is new, or was owned by the slots vs -/
def TDm (K : PySem.W.Frag) (W : WX) (vs : List Nat) (t : TE) (g : Rho → R Tv) : Prop := ∀ (F0 H0 F H : Hp) (σ : L2.St) (ρ : Rho) (φ : Nat → List Addr) (Q : VK), StF K F0 H0 F H σ ρ φ → Fin K W σ F H (g ρ) (MvQ K H φ vs Q) → t σ H Q
def TDma (K : PySem.W.Frag) (W : WX) (vs : List Nat) (t : TA) (g : Rho → R (List Tv)) : Prop := ∀ (F0 H0 F H : Hp) (σ : L2.St) (ρ : Rho) (φ : Nat → List Addr) (Q : List V → Hp → Prop), StF K F0 H0 F H σ ρ φ →
  Fin K W σ F H (g ρ) (fun xs F' H' => ∀ us fp, TvAll K F' H' fp us xs → fp.Nodup → (∀ p ∈ fp, F' p = none ∧ (H p = none ∨ ∃ i ∈ vs, p ∈ φ i)) → Q us H') → t σ H Q
variable {t ta tb tc : TE} {g ga gb gc : Rho → R PD} {tt : TT} {gm : Rho → R Tv} {tr : TA} {gr : Rho → R (List Tv)} {vs ws : List Nat}
def mFr (g : Rho → R PD) : Rho → R Tv := fun ρ => (g ρ).bind fun d => .ok (.fr d)
def mOwn (g : Rho → R PD) : Rho → R Tv := fun ρ => (g ρ).bind fun d => .ok (.own d)
def mVar (i : Nat) : Rho → R Tv := fun ρ => match ρ[i]? with
  | some (some (.d x)) => .ok (.fr x)
  | some (some (.t x)) => .ok x
  | _ => .bad
theorem tm_fr (h : TDe K W t g) : TDm K W [] t (mFr g) := fun F0 H0 F H σ ρ φ Q S q =>
  h F0 H0 F H σ ρ Q ⟨φ, S⟩ (q.then fun d F1 H1 e k v rv => (Fin.okk (x := Tv.fr d) K W σ e.g k) v [] (.fr rv) List.nodup_nil fun p hp => by cases hp)
theorem tm_own (h : TDo K W t g) : TDm K W [] t (mOwn g) := fun F0 H0 F H σ ρ φ Q S q =>
  h F0 H0 F H σ ρ Q ⟨φ, S⟩ (q.then fun d F1 H1 e k p hp hf ho => (Fin.okk (x := Tv.own d) K W σ e.g k) _ [p] (.own ho) (by simp) fun r hr => by rw [List.mem_singleton.mp hr]; exact ⟨hf, .inl hp⟩)
theorem tm_var (i : Nat) : TDm K W [i] (tVar i) (mVar i) := fun F0 H0 F H σ ρ φ Q S q => by
  unfold mVar at q
  split at q
  · rename_i x e
    obtain ⟨v, a, b⟩ := S.dat i x e
    exact ⟨v, a, (q.ok S.same) v [] (.fr b) List.nodup_nil fun p hp => by cases hp⟩
  · rename_i x e
    obtain ⟨v, a, b⟩ := S.tre i x e
    exact ⟨v, a, (q.ok S.same) v (φ i) b (S.nod i) fun p hp => ⟨(S.fre i p hp).2.1, .inr ⟨i, by simp, hp⟩⟩⟩
  · exact q.elim
def maNil : Rho → R (List Tv) := fun _ => .ok []
def maCons (gm : Rho → R Tv) (gr : Rho → R (List Tv)) : Rho → R (List Tv) := fun ρ => (gm ρ).bind fun a => (gr ρ).bind fun l => .ok (a :: l)
theorem tma_nil : TDma K W [] tNil maNil := fun F0 H0 F H σ ρ φ Q S q => (q.ok S.same) [] [] .nil List.nodup_nil fun p hp => by cases hp
theorem tma_cons (ha : TDm K W vs ta gm) (hr : TDma K W ws tr gr) (dj : ∀ i ∈ vs, i ∉ ws := by decide) : TDma K W (vs ++ ws) (tCons ta tr) (maCons gm gr) := fun F0 H0 F H σ ρ φ Q S q =>
  ha F0 H0 F H σ ρ φ _ S (q.then fun a F1 H1 e1 k1 v fp tv nd hp => hr F0 H0 F1 H1 σ ρ φ _ (S.go e1) (k1.then fun l F2 H2 e2 k2 us fq tl nd2 hq => by
    have S1 := S.go e1
    refine (Fin.okk (x := a :: l) K W σ e2.g k2) _ (fp ++ fq) (.cons (tv.keep e2.f (KeepOn.same e2.h)) tl) ?_ ?_
    · refine List.nodup_append.mpr ⟨nd, nd2, fun p h1 r h2 z => ?_⟩
      subst z
      obtain ⟨o, ho, nt⟩ := tv.nt p h1
      rcases (hq p h2).2 with y | ⟨j, hj, y⟩
      · rw [ho] at y; cases y
      · rcases (hp p h1).2 with x | ⟨i, hi, x⟩
        · obtain ⟨_, _, o', y2, _⟩ := S.fre j p y
          rw [x] at y2; cases y2
        · have := S.dis i j p x y
          subst this
          exact dj i hi hj
    · intro p h
      rcases List.mem_append.mp h with h | h
      · obtain ⟨o, ho, nt⟩ := tv.nt p h
        exact ⟨e2.keep (hp p h).1 ho nt, (hp p h).2.imp id fun ⟨i, h1, h2⟩ => ⟨i, List.mem_append_left _ h1, h2⟩⟩
      · exact ⟨(hq p h).1, (hq p h).2.imp (fun z => e1.h.free z) fun ⟨i, h1, h2⟩ => ⟨i, List.mem_append_right _ h1, h2⟩⟩))
def mTup (gr : Rho → R (List Tv)) : Rho → R Tv := fun ρ => (gr ρ).bind fun l => if l.length ≤ sizeLine then .ok (.tup l) else .bad
def mLst (gr : Rho → R (List Tv)) : Rho → R Tv := fun ρ => (gr ρ).bind fun l => if l.length ≤ sizeLine then .ok (.lst l) else .bad
theorem tm_tup (hr : TDma K W vs tr gr) : TDm K W vs (tTup tr) (mTup gr) := fun F0 H0 F H σ ρ φ Q S q =>
  hr F0 H0 F H σ ρ φ _ S (q.then fun l F1 H1 e1 k1 us fp tl nd hp => by
    by_cases hl : l.length ≤ sizeLine
    · rw [if_pos hl] at k1
      refine ⟨by rw [tl.length]; exact hl, fun p np => ?_⟩
      have e2 := Ext.own (o := .tup us) e1.g np
      exact k1 _ _ e2 _ fp (.tup upd_same (tl.keep e2.f (KeepOn.same e2.h))) nd hp
    · rw [if_neg hl] at k1
      exact k1.elim)
theorem tm_lst (hr : TDma K W vs tr gr) : TDm K W vs (tLst tr) (mLst gr) := fun F0 H0 F H σ ρ φ Q S q =>
  hr F0 H0 F H σ ρ φ _ S (q.then fun l F1 H1 e1 k1 us fp tl nd hp => by
    by_cases hl : l.length ≤ sizeLine
    · rw [if_pos hl] at k1
      refine ⟨by rw [tl.length]; exact hl, fun p np => ?_⟩
      have e2 := Ext.own (o := .lst us) e1.g np
      refine k1 _ _ e2 _ (p :: fp) (.lst upd_same (tl.keep e2.f (KeepOn.same e2.h))) (List.nodup_cons.mpr ⟨fun z => ?_, nd⟩) fun r hr => ?_
      · obtain ⟨o, ho, _⟩ := tl.nt p z
        rw [np] at ho; cases ho
      · rcases List.mem_cons.mp hr with z | z
        · subst z; exact ⟨e1.g.free np, .inl (e1.h.free np)⟩
        · exact hp r z
    · rw [if_neg hl] at k1
      exact k1.elim)
def FR.toM : FR → R Tv
  | .rt (.d x) => .ok (.fr x)
  | .rt (.t x) => .ok x
  | .exc c => .exc c
  | _ => .bad
variable {tq : TA} {gq : Rho → R (List PD)} {n : Nat} {f : List PD → FR}
def mCall (n : Nat) (f : List PD → FR) (gq : Rho → R (List PD)) : Rho → R Tv := fun ρ => (gq ρ).bind fun ds => if ds.length = n then (f ds).toM else .bad
theorem tm_call (h : TDa K W tq gq) : TDm K W [] (tCallS (spD K n f) (WE W) tq) (mCall n f gq) := fun F0 H0 F H σ ρ φ Q S q =>
  h F0 H0 F H σ ρ _ ⟨φ, S⟩ (q.then fun ds F1 H1 e1 k1 us rs => by
    by_cases hn : ds.length = n
    · rw [if_pos hn] at k1
      refine ⟨by rw [rs.length]; exact hn, F1, ds, e1.g, rs, ?_⟩
      cases e : f ds with
      | rt s =>
        rw [e] at k1
        cases s with
        | d x => exact fun v F' H' ex r => (k1 F' H' ex) v [] (.fr r) List.nodup_nil fun p hp => by cases hp
        | t x => exact fun v fp F' H' ex tv nd hp => (k1 F' H' ex) v fp tv nd fun p h => ⟨(hp p h).2, .inl (e1.h.free (hp p h).1)⟩
        | l x => exact k1.elim
      | exc c => rw [e] at k1; exact fun cls d F' H' ex r => k1 cls d F' H' ex r
      | bad => rw [e] at k1; exact k1.elim
    · rw [if_neg hn] at k1
      exact k1.elim)

/-! ### statements with trees -/
variable {te : TE}
def sRetM (gm : Rho → R Tv) : Rho → SR := fun ρ => SR.of (gm ρ) fun x => .rt (.t x)
theorem ds_retM (h : TDm K W vs te gm) : TDS K W (tRet te) (sRetM gm) := fun F0 H0 F H σ ρ D S q => by
  obtain ⟨φ, S⟩ := S
  refine h F0 H0 F H σ ρ φ _ S (q.of S.ext fun x F1 H1 e k v fp tv nd hp => k v fp F1 H1 (S.ext.trans e) tv nd fun p h => ⟨?_, (hp p h).1⟩)
  rcases (hp p h).2 with z | ⟨i, _, z⟩
  · exact S.ext.h.free z
  · exact (S.fre i p z).1
/-- slots are given away -/
def killD (ρ : Rho) : List Nat → Rho
  | [] => ρ
  | i :: is => killD (ρ.set i none) is
def phis (φ : Nat → List Addr) (is : List Nat) : Nat → List Addr := fun j => if j ∈ is then [] else φ j
theorem StF.drop {F0 H0 F H : Hp} {σ : L2.St} {φ : Nat → List Addr} : ∀ {is : List Nat} {ρ : Rho}, StF K F0 H0 F H σ ρ φ → StF K F0 H0 F H σ (killD ρ is) (phis φ is) := by
  have kill1 : ∀ {ρ : Rho} {ψ : Nat → List Addr} (i : Nat), StF K F0 H0 F H σ ρ ψ → StF K F0 H0 F H σ (ρ.set i none) (phi ψ i []) := by
    intro ρ ψ i S
    have ej : ∀ {j p}, p ∈ phi ψ i [] j → j ≠ i ∧ p ∈ ψ j := fun {j p} h => by
      by_cases c : j = i
      · subst c; rw [phi_same] at h; cases h
      · rw [phi_ne c] at h; exact ⟨c, h⟩
    refine ⟨S.ext, by simpa using S.len, fun j y e => ?_, fun j y e => ?_, fun j p hp => S.fre j p (ej hp).2, fun j => ?_, fun j k p hj hk => S.dis j k p (ej hj).2 (ej hk).2, fun j y e => ?_⟩
    · rcases get_set e with ⟨_, _, q⟩ | ⟨_, q⟩
      · cases q
      · exact S.dat j y q
    · rcases get_set e with ⟨_, _, q⟩ | ⟨hn, q⟩
      · cases q
      · rw [phi_ne (Ne.symm hn)]; exact S.tre j y q
    · by_cases c : j = i
      · subst c; rw [phi_same]; exact List.nodup_nil
      · rw [phi_ne c]; exact S.nod j
    · rcases get_set e with ⟨_, _, q⟩ | ⟨_, q⟩
      · cases q
      · exact S.lck j y q
  have all : ∀ {is : List Nat} {ρ : Rho} {ψ : Nat → List Addr}, StF K F0 H0 F H σ ρ ψ → StF K F0 H0 F H σ (killD ρ is) (phis ψ is) := by
    intro is
    induction is with
    | nil =>
      intro ρ ψ S
      have : phis ψ [] = ψ := funext fun j => if_neg (by simp)
      rw [this]; exact S
    | cons i is ih =>
      intro ρ ψ S
      have : phis ψ (i :: is) = phis (phi ψ i []) is := funext fun j => by
        unfold phis phi
        by_cases c : j = i
        · subst c; simp
        · by_cases c2 : j ∈ is <;> simp [c, c2]
      rw [this]
      exact ih (kill1 i S)
  intro is ρ S
  exact all S
theorem phis_mem {φ : Nat → List Addr} {is : List Nat} {j : Nat} {p : Addr} (h : p ∈ phis φ is j) : j ∉ is ∧ p ∈ φ j := by
  unfold phis at h
  split at h
  · cases h
  · rename_i c; exact ⟨c, h⟩
def slOf : Tv → Sl
  | .fr d => .d d
  | x => .t x
/-- a slot gets a tree whose parts are free -/
theorem StF.putT {F0 H0 F H : Hp} {σ : L2.St} {ρ : Rho} {φ : Nat → List Addr} (S : StF K F0 H0 F H σ ρ φ) {i : Nat} {v : V} {x : Tv} {fp : List Addr} (tv : TvAt K F H fp v x) (nd : fp.Nodup)
    (hp : ∀ p ∈ fp, H0 p = none ∧ F p = none) (hx : ∀ (j : Nat) (p : Addr), j ≠ i → p ∈ φ j → p ∉ fp) : StF K F0 H0 F H (σ.set i (some v)) (ρ.set i (some (slOf x))) (phi φ i fp) := by
  refine S.put (fun y e => ?_) (fun y e => ?_) (fun y e => ?_) (fun p h => ⟨(hp p h).1, (hp p h).2, tv.nt p h⟩) nd hx
  · cases x with
    | fr d => cases e; cases tv with | fr r => exact ⟨v, rfl, r⟩
    | _ => cases e
  · cases x with
    | fr d => cases e
    | _ => cases e; exact ⟨v, rfl, tv⟩
  · cases x <;> cases e
def sSetM (i : Nat) (vs : List Nat) (gm : Rho → R Tv) : Rho → SR := fun ρ => SR.of (gm ρ) fun x => .nx ((killD ρ vs).set i (some (slOf x)))
theorem ds_setM (i : Nat) (h : TDm K W vs te gm) : TDS K W (tAsg te (gName i)) (sSetM i vs gm) := fun F0 H0 F H σ ρ D S q => by
  obtain ⟨φ, S⟩ := S
  refine h F0 H0 F H σ ρ φ _ S (q.of S.ext fun x F1 H1 e k v fp tv nd hp => ?_)
  have S1 := (S.go e).drop (is := vs)
  refine k _ F1 H1 ⟨_, S1.putT tv nd (fun p h => ⟨?_, (hp p h).1⟩) fun j p hj h1 h2 => ?_⟩
  · rcases (hp p h).2 with z | ⟨i, _, z⟩
    · exact S.ext.h.free z
    · exact (S.fre i p z).1
  · obtain ⟨n1, n2⟩ := phis_mem h1
    rcases (hp p h2).2 with z | ⟨i', hi, z⟩
    · obtain ⟨_, _, o, y, _⟩ := S.fre j p n2
      rw [z] at y; cases y
    · have := S.dis i' j p z n2
      subst this
      exact n1 hi
/-- a, b, .. = a tree -/
def putsM : List Nat → Rho → List Tv → R Rho
  | [], ρ, [] => .ok ρ
  | i :: is, ρ, x :: xs => putsM is (ρ.set i (some (slOf x))) xs
  | _, _, _ => .bad
def gNames : List Nat → TGs
  | [] => gNil
  | i :: is => gCons (gName i) (gNames is)
theorem puts_ok {F0 H0 F H : Hp} {Q : L2.St → Hp → Prop} : ∀ {is : List Nat} {σ : L2.St} {ρ ρ' : Rho} {φ : Nat → List Addr} {us : List V} {xs : List Tv} {fp : List Addr}, StF K F0 H0 F H σ ρ φ → TvAll K F H fp us xs → fp.Nodup → (∀ p ∈ fp, H0 p = none ∧ F p = none) → (∀ (j : Nat) (p : Addr), p ∈ φ j → p ∉ fp) →
    putsM is ρ xs = .ok ρ' → (∀ σ', StR K F0 H0 F H σ' ρ' → Q σ' H) → gNames is us σ H Q := by
  intro is
  induction is with
  | nil =>
    intro σ ρ ρ' φ us xs fp S tl _ _ _ e k
    cases tl with
    | nil => cases e; exact ⟨rfl, k σ ⟨φ, S⟩⟩
    | cons _ _ => cases e
  | cons i is ih =>
    intro σ ρ ρ' φ us xs fp S tl nd hp hx e k
    cases tl with
    | nil => cases e
    | cons tv tl =>
      rename_i fp fq u x us xs
      obtain ⟨nd1, nd2, nd3⟩ := List.nodup_append.mp nd
      have S1 := S.putT (i := i) tv nd1 (fun p h => hp p (List.mem_append_left _ h)) fun j p _ h1 h2 => hx j p h1 (List.mem_append_left _ h2)
      refine ⟨u, us, rfl, ?_⟩
      refine ih S1 tl nd2 (fun p h => hp p (List.mem_append_right _ h)) (fun j p hj hq => ?_) e k
      by_cases c : j = i
      · subst c
        rw [phi_same] at hj
        exact nd3 p hj p hq rfl
      · rw [phi_ne c] at hj
        exact hx j p hj (List.mem_append_right _ hq)
def unpM (is : List Nat) (ρ : Rho) : Tv → SR
  | .tup ts => SR.ofT (putsM is ρ ts)
  | .fr (.tuple ds) => SR.ofT (putsM is ρ (ds.map Tv.fr))
  | _ => .bad
def sUnpM (is vs : List Nat) (gm : Rho → R Tv) : Rho → SR := fun ρ => SR.of (gm ρ) fun x => unpM is (killD ρ (vs ++ is)) x
theorem dp_frs {F H : Hp} : ∀ {us : List V} {ds : List PD}, DpAll K F us ds → TvAll K F H [] us (ds.map Tv.fr)
  | _, _, .nil => .nil
  | _, _, .cons h t => .cons (.fr h) (dp_frs t)
theorem putsM_x : ∀ {is : List Nat} {ρ : Rho} {xs : List Tv} {c : Ec}, putsM is ρ xs ≠ .exc c
  | [], _, [], _, h => by cases h
  | [], _, _ :: _, _, h => by cases h
  | _ :: _, _, [], _, h => by cases h
  | _ :: is, ρ, x :: xs, c, h => putsM_x (is := is) h
theorem ds_unpM (is : List Nat) (h : TDm K W vs te gm) (hn : 0 < is.length := by decide) : TDS K W (tAsg te (gTup K is.length (gNames is))) (sUnpM is vs gm) := fun F0 H0 F H σ ρ D S q => by
  obtain ⟨φ, S⟩ := S
  refine h F0 H0 F H σ ρ φ _ S (q.of S.ext fun x F1 H1 e k v fp tv nd hp => ?_)
  have S1 := (S.go e).drop (is := vs ++ is)
  have free : ∀ p ∈ fp, H0 p = none ∧ F1 p = none := fun p h => by
    refine ⟨?_, (hp p h).1⟩
    rcases (hp p h).2 with z | ⟨i, _, z⟩
    · exact S.ext.h.free z
    · exact (S.fre i p z).1
  have apart : ∀ (j : Nat) (p : Addr), p ∈ phis φ (vs ++ is) j → p ∉ fp := fun j p h1 h2 => by
    obtain ⟨n1, n2⟩ := phis_mem h1
    rcases (hp p h2).2 with z | ⟨i', hi, z⟩
    · obtain ⟨_, _, o, y, _⟩ := S.fre j p n2
      rw [z] at y; cases y
    · have := S.dis i' j p z n2
      subst this
      exact n1 (List.mem_append_left _ hi)
  replace k : FinS K W F0 H0 D (unpM is (killD ρ (vs ++ is)) x) := k
  have len : ∀ {ts : List Tv} {ρ ρ' : Rho} {is : List Nat}, putsM is ρ ts = .ok ρ' → ts.length = is.length := by
    intro ts
    induction ts with
    | nil => intro ρ ρ' is h; cases is with | nil => rfl | cons i is => cases h
    | cons t ts ih => intro ρ ρ' is h; cases is with | nil => cases h | cons i is => rw [List.length_cons, List.length_cons, ih h]
  cases tv with
  | tup s tl =>
    rename_i p us ts
    replace k : FinS K W F0 H0 D (SR.ofT (putsM is (killD ρ (vs ++ is)) ts)) := k
    cases ep : putsM is (killD ρ (vs ++ is)) ts with
    | ok ρ' =>
      rw [ep] at k
      exact ⟨p, us, rfl, SqT.of s, by rw [tl.length, len ep], puts_ok S1 tl nd free apart ep fun σ' S' => k σ' F1 H1 S'⟩
    | exc c => rw [ep] at k; exact k.elim
    | bad => rw [ep] at k; exact k.elim
  | fr r =>
    cases r with
    | tup s al =>
      rename_i p us ds
      replace k : FinS K W F0 H0 D (SR.ofT (putsM is (killD ρ (vs ++ is)) (ds.map Tv.fr))) := k
      cases ep : putsM is (killD ρ (vs ++ is)) (ds.map Tv.fr) with
      | ok ρ' =>
        rw [ep] at k
        have tl := dp_frs (H := H1) al
        exact ⟨p, us, rfl, SqT.of (e.g _ _ s), by rw [tl.length, len ep], puts_ok S1 tl nd free apart ep fun σ' S' => k σ' F1 H1 S'⟩
      | exc c => rw [ep] at k; exact k.elim
      | bad => rw [ep] at k; exact k.elim
    | _ => exact k.elim
  | _ => exact k.elim
end
end DL
/-! Reading what is there now; calls that only read; dicts with tuples as keys. -/
namespace DL
open PySem PySem.Spec PyProof.Rows L2
section
variable {K : PySem.W.Frag} {W : WX}
def HdQ (K : PySem.W.Frag) (Q : VK) : PD → Hp → Hp → Prop := fun x _ H' => ∀ v, Dp K H' v x → Q v H'
/-- data as the heap has it now -/
def TDh (K : PySem.W.Frag) (W : WX) (t : TE) (g : Rho → R PD) : Prop := ∀ (F0 H0 F H : Hp) (σ : L2.St) (ρ : Rho) (Q : VK), StR K F0 H0 F H σ ρ → Fin K W σ F H (g ρ) (HdQ K Q) → t σ H Q
def TDhq (K : PySem.W.Frag) (W : WX) (t : TA) (g : Rho → R (List PD)) : Prop := ∀ (F0 H0 F H : Hp) (σ : L2.St) (ρ : Rho) (Q : List V → Hp → Prop), StR K F0 H0 F H σ ρ → Fin K W σ F H (g ρ) (fun xs _ H' => ∀ vs, DpAll K H' vs xs → Q vs H') → t σ H Q
variable {t ta tb tc : TE} {g ga gb gc : Rho → R PD} {tt : TT} {tr tq : TA} {gr gq : Rho → R (List PD)} {r r' : R2} {f f' : PD → PD → R PD}
theorem TDe.h (h : TDe K W t g) : TDh K W t g := fun F0 H0 F H σ ρ Q S q => h F0 H0 F H σ ρ Q S (q.imp fun x F' H' e k v r => k v (r.mono e.g))
def noDic : PD → R PD
  | .dict _ => .bad
  | x => .ok x
theorem noDic_ok {x y : PD} (h : noDic x = .ok y) : y = x ∧ ∀ kvs, x ≠ .dict kvs := by
  cases x with
  | dict _ => cases h
  | _ => cases h; exact ⟨rfl, fun kvs z => nomatch z⟩
theorem noDic_x (x : PD) (c : Ec) : noDic x ≠ .exc c := by cases x <;> exact fun z => by cases z
def hR (g : Rho → R PD) : Rho → R PD := fun ρ => (g ρ).bind noDic
theorem TDr.h (h : TDr K W t g) : TDh K W t (hR g) := fun F0 H0 F H σ ρ Q S q => h F0 H0 F H σ ρ Q S (q.then fun x F' H' e k v r => by
  cases en : noDic x with
  | ok y =>
    rw [en] at k
    obtain ⟨rfl, nd⟩ := noDic_ok en
    exact (Fin.okk (x := y) K W σ e.g k) v (r.dp e.g nd)
  | exc c => exact absurd en (noDic_x x c)
  | bad => rw [en] at k; exact k.elim)
def hVar (i : Nat) : Rho → R PD := fun ρ => match ρ[i]? with
  | some (some (.d x)) => .ok x
  | some (some (.t x)) => x.toD
  | _ => .bad
theorem th_var (i : Nat) : TDh K W (tVar i) (hVar i) := fun F0 H0 F H σ ρ Q S q => by
  unfold hVar at q
  split at q
  · rename_i x e
    obtain ⟨v, a, b⟩ := S.dat i x e
    exact ⟨v, a, q.ok S.same v (b.mono S.same)⟩
  · rename_i x e
    obtain ⟨φ, S⟩ := S
    obtain ⟨v, a, b⟩ := S.tre i x e
    cases ed : x.toD with
    | ok d =>
      rw [ed] at q
      exact ⟨v, a, q.ok S.same v ((b.frz S.same ed).mono (frz_g S.same))⟩
    | exc c => exact absurd ed (toD_x x c)
    | bad => rw [ed] at q; exact q.elim
  · exact q.elim
theorem Fin.toH {σ : L2.St} {F H : Hp} {r : R PD} {Q : VK} (s : Same F H) (k : Fin K W σ F H r (HdQ K Q)) : Fin K W σ H H r (DpQ K Q) := by
  cases r with
  | ok x => exact fun F' H' e v r => k F H' (Ext.heap s e.h) v (r.mono e.g)
  | exc c => exact fun cls d F' H' e q => k cls d F H' (Ext.heap s e.h) q
  | bad => exact k
theorem DpAll.rp {F H : Hp} : ∀ {vs : List V} {ds : List PD}, DpAll K F vs ds → RpAll K F H vs ds
  | _, _, .nil => .nil
  | _, _, .cons a t => .cons (.inl a) (DpAll.rp t)
theorem th_op (hr : RD K r f) (ha : TDh K W ta ga) (hb : TDh K W tb gb) : TDh K W (tOp r ta tb) (eOp f ga gb) := fun F0 H0 F H σ ρ Q S q =>
  ha F0 H0 F H σ ρ _ S (q.then fun a F1 H1 e1 k1 v rv => hb F0 H0 F1 H1 σ ρ _ (S.go e1) (k1.then fun b F2 H2 e2 k2 u ru =>
    hr W σ H2 H2 v u a b Q (Same.refl H2) (.inl (rv.mono e2.h)) (.inl ru) (k2.toH e2.g)))
theorem th_cb {rc : List V → Hp → VK → Prop} {fc : List PD → R PD} (hr : RC K rc fc) (h : TDhq K W tq gq) : TDh K W (tCB rc tq) (eCB fc gq) := fun F0 H0 F H σ ρ Q S q =>
  h F0 H0 F H σ ρ _ S (q.then fun ds F1 H1 e1 k1 vs rs => hr W σ H1 H1 vs ds Q (Same.refl H1) rs.rp (k1.toH e1.g))
def immO (d : PD) : R PD := if immD d = true then .ok d else .bad
def eImm (g : Rho → R PD) : Rho → R PD := fun ρ => (g ρ).bind immO
theorem TDh.e (h : TDh K W t g) : TDe K W t (eImm g) := fun F0 H0 F H σ ρ Q S q => h F0 H0 F H σ ρ Q S (q.then fun x F' H' e k v r => by
  have k : Fin K W σ F' H' (if immD x = true then .ok x else .bad) (DpQ K Q) := k
  by_cases hx : immD x = true
  · rw [if_pos hx] at k
    exact k _ _ (Ext.tups e.g (Same.refl H')) v (r.imm (Same.refl H') hx)
  · rw [if_neg hx] at k
    exact k.elim)
theorem thq_nil : TDhq K W tNil aNil := fun F0 H0 F H σ ρ Q S q => q.ok S.same _ .nil
theorem thq_cons (ha : TDh K W ta ga) (hr : TDhq K W tr gr) : TDhq K W (tCons ta tr) (aCons ga gr) := fun F0 H0 F H σ ρ Q S q =>
  ha F0 H0 F H σ ρ _ S (q.then fun a F1 H1 e1 k1 v rv => hr F0 H0 F1 H1 σ ρ _ (S.go e1) (k1.then fun l F2 H2 e2 k2 vs rs => k2.ok e2.g _ (.cons (rv.mono e2.h) rs)))
theorem th_tup (hr : TDhq K W tr gr) : TDh K W (tTup tr) (eTup gr) := fun F0 H0 F H σ ρ Q S q =>
  hr F0 H0 F H σ ρ _ S (q.then fun l F1 H1 e1 k1 vs rs => by
    by_cases hl : l.length ≤ sizeLine
    · rw [if_pos hl] at k1
      refine ⟨by rw [rs.length]; exact hl, fun p hp => ?_⟩
      have e2 := Ext.own (o := .tup vs) e1.g hp
      exact k1 _ _ e2 _ (.tup upd_same (rs.mono e2.h))
    · rw [if_neg hl] at k1
      exact k1.elim)
theorem asB_h {Q : Bool → Hp → Prop} {F1 H1 : Hp} {σ : L2.St} {a : PD} {v : V} (s : Same F1 H1) (r : Dp K H1 v a) (k : Fin K W σ F1 H1 (asB a) (BoQ Q)) : ∃ c, v = .bl c ∧ Q c H1 := by
  cases a with
  | bool b => cases r; exact ⟨b, rfl, k.ok s⟩
  | _ => exact k.elim
theorem tt_testh (h : TDh K W t g) : TDt K W (tTest t) (bOf g) := fun F0 H0 F H σ ρ Q S q =>
  h F0 H0 F H σ ρ _ S (q.then fun a F1 H1 e1 k1 v rv => asB_h e1.g rv k1)
theorem tt_Bh (h : TDh K W t g) : TDt K W (tB t) (bOf g) := fun F0 H0 F H σ ρ Q S q =>
  h F0 H0 F H σ ρ _ S (q.then fun a F1 H1 e1 k1 v rv => asB_h e1.g rv k1)
theorem th_isi {T : String} (h : TDh K W t g) : TDe K W (tCB (rIsi K) (tCons t (tCons (tC (.ty T)) tNil))) (eIsi T g) := fun F0 H0 F H σ ρ Q S q =>
  h F0 H0 F H σ ρ _ S (q.then fun a F1 H1 e1 k1 v rv => by
    unfold isiD at k1
    split at k1
    · rename_i b e
      unfold isiB at e
      cases en : tyName a with
      | none => rw [en] at e; cases e
      | some n =>
        rw [en] at e
        exact ⟨v, .ty T, .type n, .type T, b, rfl, .ty T, tyX_of (Same.refl H1) (.inl rv) en, kit_ty e, k1.ok e1.g _ (.bl b)⟩
    · exact k1.elim)

/-! ### calls that only read -/
variable {n : Nat} {fd : List PD → FR}
def eCallH (n : Nat) (f : List PD → FR) (gq : Rho → R (List PD)) : Rho → R PD := fun ρ => (gq ρ).bind fun ds => if ds.length = n then (f ds).toE.bind immO else .bad
def immT (x : Tv) : R Tv := if x.imm = true then .ok x else .bad
def mCallH (n : Nat) (f : List PD → FR) (gq : Rho → R (List PD)) : Rho → R Tv := fun ρ => (gq ρ).bind fun ds => if ds.length = n then (f ds).toM.bind immT else .bad
def immW (x : PD) : R PD := if (Tv.own x).imm = true then .ok x else .bad
def oCallH (n : Nat) (f : List PD → FR) (gq : Rho → R (List PD)) : Rho → R PD := fun ρ => (gq ρ).bind fun ds => if ds.length = n then (f ds).toO.bind immW else .bad
theorem td_callH (h : TDhq K W tq gq) : TDe K W (tCallS (spD K n fd) (WE W) tq) (eCallH n fd gq) := fun F0 H0 F H σ ρ Q S q =>
  h F0 H0 F H σ ρ _ S (q.then fun ds F1 H1 e1 k1 vs rs => by
    by_cases hn : ds.length = n
    · rw [if_pos hn] at k1
      refine ⟨by rw [rs.length]; exact hn, H1, ds, Same.refl H1, rs, ?_⟩
      have fin : ∀ (d : PD) (F' H' : Hp) (v : V), Ext H1 H1 F' H' → Dp K F' v d → Fin K W σ F1 H1 (immO d) (DpQ K Q) → Q v H' := fun d F' H' v ex r k => by
        have k : Fin K W σ F1 H1 (if immD d = true then .ok d else .bad) (DpQ K Q) := k
        by_cases hx : immD d = true
        · rw [if_pos hx] at k
          exact k _ _ (Ext.tups e1.g ex.h) v (r.imm ex.g hx)
        · rw [if_neg hx] at k
          exact k.elim
      cases e : fd ds with
      | rt s =>
        rw [e] at k1
        cases s with
        | d x => exact fun v F' H' ex r => fin x F' H' v ex r k1
        | t x =>
          intro v fp F' H' ex tv nd hp
          have k1 : Fin K W σ F1 H1 (x.toD.bind immO) (DpQ K Q) := k1
          cases e2 : x.toD with
          | ok d =>
            rw [e2] at k1
            obtain ⟨F'', ex2, r⟩ := own_frz ex tv hp e2
            exact fin d F'' H' v ex2 r k1
          | exc c => exact absurd e2 (toD_x x c)
          | bad => rw [e2] at k1; exact k1.elim
        | l x => exact k1.elim
      | exc c => rw [e] at k1; exact fun cls d F' H' ex r => k1 cls d F1 H' (Ext.heap e1.g ex.h) r
      | bad => rw [e] at k1; exact k1.elim
    · rw [if_neg hn] at k1
      exact k1.elim)
theorem tm_callH (h : TDhq K W tq gq) : TDm K W [] (tCallS (spD K n fd) (WE W) tq) (mCallH n fd gq) := fun F0 H0 F H σ ρ φ Q S q =>
  h F0 H0 F H σ ρ _ ⟨φ, S⟩ (q.then fun ds F1 H1 e1 k1 vs rs => by
    by_cases hn : ds.length = n
    · rw [if_pos hn] at k1
      refine ⟨by rw [rs.length]; exact hn, H1, ds, Same.refl H1, rs, ?_⟩
      have fin : ∀ (x : Tv) (F' H' : Hp) (v : V) (fp : List Addr), Ext H1 H1 F' H' → TvAt K F' H' fp v x → fp.Nodup → (∀ p ∈ fp, H1 p = none ∧ F' p = none) → Fin K W σ F1 H1 (immT x) (MvQ K H φ [] Q) → Q v H' := fun x F' H' v fp ex r nd hp k => by
        have k : Fin K W σ F1 H1 (if x.imm = true then .ok x else .bad) (MvQ K H φ [] Q) := k
        by_cases hx : x.imm = true
        · rw [if_pos hx] at k
          refine k _ _ (Ext.tups e1.g ex.h) v fp (r.imm ex.g hx) nd fun p h => ⟨?_, .inl (e1.h.free (hp p h).1)⟩
          obtain ⟨o, ho, nt⟩ := r.nt p h
          exact frz_none (e1.g.free (hp p h).1) ho nt
        · rw [if_neg hx] at k
          exact k.elim
      cases e : fd ds with
      | rt s =>
        rw [e] at k1
        cases s with
        | d x => exact fun v F' H' ex r => fin (.fr x) F' H' v [] ex (.fr r) List.nodup_nil (fun p hp => by cases hp) k1
        | t x => exact fun v fp F' H' ex tv nd hp => fin x F' H' v fp ex tv nd hp k1
        | l x => exact k1.elim
      | exc c => rw [e] at k1; exact fun cls d F' H' ex r => k1 cls d F1 H' (Ext.heap e1.g ex.h) r
      | bad => rw [e] at k1; exact k1.elim
    · rw [if_neg hn] at k1
      exact k1.elim)
theorem to_callH (h : TDhq K W tq gq) : TDo K W (tCallS (spD K n fd) (WE W) tq) (oCallH n fd gq) := fun F0 H0 F H σ ρ Q S q => by
  obtain ⟨φ, S⟩ := S
  refine tm_callH h F0 H0 F H σ ρ φ Q S ?_
  unfold oCallH at q
  unfold mCallH
  cases eg : gq ρ with
  | exc c => rw [eg] at q; exact q
  | bad => rw [eg] at q; exact q
  | ok ds =>
    rw [eg] at q
    replace q : Fin K W σ F H (if ds.length = n then (fd ds).toO.bind immW else .bad) (OwQ K H Q) := q
    show Fin K W σ F H (if ds.length = n then (fd ds).toM.bind immT else .bad) (MvQ K H φ [] Q)
    by_cases hn : ds.length = n
    · rw [if_pos hn] at q ⊢
      cases e : fd ds with
      | exc c => rw [e] at q; exact q
      | bad => rw [e] at q; exact q
      | rt s =>
        rw [e] at q
        cases s with
        | d x => exact q.elim
        | l x => exact q.elim
        | t x =>
          cases x with
          | own x =>
            replace q : Fin K W σ F H (if (Tv.own x).imm = true then .ok x else .bad) (OwQ K H Q) := q
            show Fin K W σ F H (if (Tv.own x).imm = true then .ok (Tv.own x) else .bad) (MvQ K H φ [] Q)
            by_cases hx : (Tv.own x).imm = true
            · rw [if_pos hx] at q ⊢
              intro F' H' ex v fp tv nd hp
              cases tv with
              | own ho =>
                obtain ⟨h1, h2⟩ := hp _ (List.mem_singleton.mpr rfl)
                rcases h2 with h2 | ⟨i, hi, _⟩
                · exact q F' H' ex _ h2 h1 ho
                · cases hi
            · rw [if_neg hx] at q; exact q.elim
          | _ => exact q.elim
    · rw [if_neg hn] at q; exact q.elim
/-- data as it is: h-mode where e-mode is given -/
theorem TDo.h (h : TDo K W t g) : TDh K W t (eFz g) := h.e.h
/-- slots' readings are forgotten -/
def sKill (is : List Nat) : Rho → SR := fun ρ => .nx (is.foldl (fun ρ i => ρ.set i none) ρ)
def killS (is : List Nat) (s : Rho → SR) : Rho → SR := fun ρ => match s ρ with
  | .nx ρ1 => .nx (is.foldl (fun ρ i => ρ.set i none) ρ1)
  | .ct ρ1 => .ct (is.foldl (fun ρ i => ρ.set i none) ρ1)
  | .bk ρ1 => .bk (is.foldl (fun ρ i => ρ.set i none) ρ1)
  | x => x
theorem StR.kills {F0 H0 F H : Hp} {σ : L2.St} : ∀ {is : List Nat} {ρ : Rho}, StR K F0 H0 F H σ ρ → StR K F0 H0 F H σ (is.foldl (fun ρ i => ρ.set i none) ρ)
  | [], _, S => S
  | i :: is, ρ, S => StR.kills (is := is) (S.kill i)
theorem ds_kill {ts : TS} {s : Rho → SR} (is : List Nat) (h : TDS K W ts s) : TDS K W ts (killS is s) := fun F0 H0 F H σ ρ D S q => by
  refine h F0 H0 F H σ ρ D S ?_
  unfold killS at q
  cases e : s ρ with
  | nx ρ1 => rw [e] at q; exact fun σ1 F1 H1 S1 => q σ1 F1 H1 S1.kills
  | ct ρ1 => rw [e] at q; exact fun σ1 F1 H1 S1 => q σ1 F1 H1 S1.kills
  | bk ρ1 => rw [e] at q; exact fun σ1 F1 H1 S1 => q σ1 F1 H1 S1.kills
  | rt x => rw [e] at q; exact q
  | exc c => rw [e] at q; exact q
  | bad => rw [e] at q; exact q
end
end DL
/-! Dicts with tuples as keys; get with a default. -/
namespace DL
open PySem PySem.Spec PyProof.Rows L2
section
def keysOf : List PD → Option (List Key)
  | [] => some []
  | d :: ds => match keyOf d, keysOf ds with
    | some k, some ks => some (k :: ks)
    | _, _ => none
def keyT? : PD → Option (List Key)
  | .tuple ds => keysOf ds
  | _ => none
def valT {β : Type} : List (List Key × β) → List Key → Option β
  | [], _ => none
  | p :: r, k => if p.1 = k then some p.2 else valT r k
def putT (kvs : List (List Key × PD)) (k : List Key) (d : PD) : List (List Key × PD) :=
  if (valT kvs k).isSome = true then kvs.map (fun p => if p.1 = k then (p.1, d) else p) else kvs ++ [(k, d)]
variable {K : PySem.W.Frag} {W : WX} {F0 H0 F H : Hp} {σ : L2.St} {ρ : Rho} {ty tv tx : TE} {g gk gv gx : Rho → R PD}
theorem keys_dp : ∀ {ds : List PD} {ks : List Key} {vs : List V}, DpAll K H vs ds → keysOf ds = some ks → vs = ks.map kV
  | [], ks, _, .nil, h => by cases h; rfl
  | d :: ds, ks, _, .cons r rs, h => by
    unfold keysOf at h
    split at h
    · rename_i k ks' e1 e2
      cases h
      rw [keyD_of e1] at r
      rw [key_rp (H := H) (.inl r), keys_dp rs e2]
      rfl
    · cases h
theorem key_t {v : V} {d : PD} {ks : List Key} (r : Dp K H v d) (h : keyT? d = some ks) : ∃ b, v = .ref b ∧ H b = some (.tup (ks.map kV)) := by
  cases r with
  | tup s al => exact ⟨_, rfl, by rw [s, keys_dp al h]⟩
  | _ => cases h
theorem valV_eq {β : Type} (kvs : List (List Key × V)) (k : List Key) : valV kvs k = valT kvs k := by
  induction kvs with
  | nil => rfl
  | cons p r ih =>
    unfold valT
    by_cases e : p.1 = k
    · rw [if_pos e, valV_pos e]
    · rw [if_neg e, valV_neg e, ih]
theorem KvT.len {es : List (List Key × V)} {kvs : List (List Key × PD)} (r : KvT K F es kvs) : es.length = kvs.length := Paired.length r
theorem KvT.val {es : List (List Key × V)} {kvs : List (List Key × PD)} (r : KvT K F es kvs) (k : List Key) : (valT kvs k = none ∧ valV es k = none) ∨ ∃ d v, valT kvs k = some d ∧ valV es k = some v ∧ Dp K F v d := by
  unfold KvT at r
  induction r with
  | nil => exact .inl ⟨rfl, rfl⟩
  | cons a _ ih =>
    rename_i p q es kvs _
    unfold valT
    by_cases e : q.1 = k
    · rw [if_pos e, valV_pos (a.1.trans e)]
      exact .inr ⟨_, _, rfl, rfl, a.2⟩
    · rw [if_neg e, valV_neg (fun z => e (a.1.symm.trans z))]
      exact ih
theorem KvT.put {es : List (List Key × V)} {kvs : List (List Key × PD)} (r : KvT K F es kvs) (k : List Key) {v : V} {d : PD} (h : Dp K F v d) : KvT K F (putK es k v) (putT kvs k d) := by
  have e : (es.any fun kv => decide (kv.1 = k)) = (valT kvs k).isSome := by
    rw [valV_any]
    rcases r.val k with ⟨a, b⟩ | ⟨_, _, a, b, _⟩
    · rw [a, b]; rfl
    · rw [a, b]; rfl
  unfold putK putT
  rw [e]
  split
  · rename_i c
    unfold KvT at r ⊢
    clear e c
    induction r with
    | nil => exact .nil
    | cons a _ ih =>
      rename_i p q es kvs _
      refine .cons ?_ ih
      show (if p.1 = k then (p.1, v) else p).1 = (if q.1 = k then (q.1, d) else q).1 ∧ Dp K F (if p.1 = k then (p.1, v) else p).2 (if q.1 = k then (q.1, d) else q).2
      by_cases e : q.1 = k
      · rw [if_pos e, if_pos (a.1.trans e)]; exact ⟨a.1, h⟩
      · rw [if_neg e, if_neg (fun z => e (a.1.symm.trans z))]; exact a
  · rename_i c
    unfold KvT at r ⊢
    clear e c
    induction r with
    | nil => exact .cons ⟨rfl, h⟩ .nil
    | cons a _ ih => exact .cons a ih
def tAt (ρ : Rho) (i : Nat) : R (List (List Key × PD)) := match ρ[i]? with
  | some (some (.t (.dT kvs))) => .ok kvs
  | _ => .bad
theorem tAt_x (ρ : Rho) (i : Nat) : (∃ kvs, tAt ρ i = .ok kvs) ∨ tAt ρ i = .bad := by
  unfold tAt
  split
  · exact .inl ⟨_, rfl⟩
  · exact .inr rfl
theorem tAt_ok (S : StR K F0 H0 F H σ ρ) {i : Nat} {kvs : List (List Key × PD)} (h : tAt ρ i = .ok kvs) : ρ[i]? = some (some (.t (.dT kvs))) ∧ ∃ p es, σ[i]? = some (some (.ref p)) ∧ H p = some (.dT es) ∧ KvT K F es kvs := by
  unfold tAt at h
  split at h
  · rename_i e
    cases h
    obtain ⟨φ, S⟩ := S
    obtain ⟨v, a, b⟩ := S.tre i _ e
    generalize φ i = fp at b
    cases b with
    | dT b c => exact ⟨e, _, _, a, b, c⟩
  · cases h
def getT (kvs : List (List Key × PD)) (y : PD) : R PD := match keyT? y with
  | some k => (match valT kvs k with
    | some d => .ok d
    | none => .bad)
  | none => .bad
def eDgetT (i : Nat) (g : Rho → R PD) : Rho → R PD := fun ρ => (tAt ρ i).bind fun kvs => (g ρ).bind fun y => getT kvs y
theorem td_dgetT (i : Nat) (h : TDh K W ty g) : TDe K W (tDGet (tVar i) ty) (eDgetT i g) := fun F0 H0 F H σ ρ Q S q => by
  unfold eDgetT at q
  rcases tAt_x ρ i with ⟨kvs, e⟩ | e
  · rw [e] at q
    obtain ⟨_, p, es, hs, rd, r⟩ := tAt_ok S e
    have q : Fin K W σ F H ((g ρ).bind fun y => getT kvs y) (DpQ K Q) := q
    refine ⟨.ref p, hs, h F0 H0 F H σ ρ _ S (q.then fun y F1 H1 e1 k1 v rv => ?_)⟩
    unfold getT at k1
    split at k1
    · rename_i k ek
      obtain ⟨b, rfl, hb⟩ := key_t rv ek
      rcases r.val k with ⟨z, _⟩ | ⟨d, u, z1, z2, z3⟩
      · rw [z] at k1; exact k1.elim
      · rw [z1] at k1
        exact ⟨p, u, rfl, .inr ⟨es, k, b, .inl (e1.h _ _ rd), rfl, hb, z2.symm⟩, Fin.okk K W σ e1.g k1 _ (z3.mono e1.f)⟩
    · exact k1.elim
  · rw [e] at q; exact q.elim
def hasT (kvs : List (List Key × PD)) (y : PD) : R Bool := match keyT? y with
  | some k => .ok (valT kvs k).isSome
  | none => .bad
def edinT (i : Nat) (g : Rho → R PD) : Rho → R PD := fun ρ => (g ρ).bind fun y => (tAt ρ i).bind fun kvs => (hasT kvs y).bind fun b => .ok (.bool b)
def ednotinT (i : Nat) (g : Rho → R PD) : Rho → R PD := fun ρ => (g ρ).bind fun y => (tAt ρ i).bind fun kvs => (hasT kvs y).bind fun b => .ok (.bool !b)
theorem dinT_k {f : Bool → Bool} {i : Nat} {y : PD} {Q : VK} {v : V} (S : StR K F0 H0 F H σ ρ) (rv : Dp K H v y) (k1 : Fin K W σ F H ((tAt ρ i).bind fun kvs => (hasT kvs y).bind fun b => .ok (.bool (f b))) (DpQ K Q)) :
    ∃ p o, σ[i]? = some (some (.ref p)) ∧ DGet H p v o ∧ Q (.bl (f o.isSome)) H := by
  rcases tAt_x ρ i with ⟨kvs, e⟩ | e
  · rw [e] at k1
    obtain ⟨_, p, es, hs, rd, r⟩ := tAt_ok S e
    have k1 : Fin K W σ F H ((hasT kvs y).bind fun b => .ok (.bool (f b))) (DpQ K Q) := k1
    unfold hasT at k1
    split at k1
    · rename_i k ek
      obtain ⟨b, rfl, hb⟩ := key_t rv ek
      have e2 : (valV es k).isSome = (valT kvs k).isSome := by
        rcases r.val k with ⟨z, z'⟩ | ⟨d, u, z1, z2, z3⟩
        · rw [z, z']; rfl
        · rw [z1, z2]; rfl
      have k2 := Fin.okk (x := PyData.bool (f (valT kvs k).isSome)) K W σ S.same k1 _ (.bl _)
      rw [← e2] at k2
      exact ⟨p, valV es k, hs, .inr ⟨es, k, b, .inl rd, rfl, hb, rfl⟩, k2⟩
    · exact k1.elim
  · rw [e] at k1; exact k1.elim
theorem td_dinT (i : Nat) (h : TDh K W ty g) : TDe K W (tDIn ty (tVar i)) (edinT i g) := fun F0 H0 F H σ ρ Q S q =>
  h F0 H0 F H σ ρ _ S (q.then fun y F1 H1 e1 k1 v rv => by
    obtain ⟨p, o, a, b, c⟩ := dinT_k (f := id) (S.go e1) rv k1
    exact ⟨.ref p, a, p, o, rfl, b, c⟩)
theorem td_dnotinT (i : Nat) (h : TDh K W ty g) : TDe K W (tDNotIn ty (tVar i)) (ednotinT i g) := fun F0 H0 F H σ ρ Q S q =>
  h F0 H0 F H σ ρ _ S (q.then fun y F1 H1 e1 k1 v rv => by
    obtain ⟨p, o, a, b, c⟩ := dinT_k (f := not) (S.go e1) rv k1
    exact ⟨.ref p, a, p, o, rfl, b, c⟩)
/-- d.get(k, x) -/
def getT2 (kvs : List (List Key × PD)) (y z : PD) : R PD := match keyT? y with
  | some k => (match valT kvs k with
    | some d => .ok d
    | none => .ok z)
  | none => .bad
def eDget2T (i : Nat) (g gx : Rho → R PD) : Rho → R PD := fun ρ => (tAt ρ i).bind fun kvs => (g ρ).bind fun y => (gx ρ).bind fun z => getT2 kvs y z
theorem td_dget2T (i : Nat) (h : TDh K W ty g) (hx : TDe K W tx gx) : TDe K W (tDGet2 (tVar i) ty tx) (eDget2T i g gx) := fun F0 H0 F H σ ρ Q S q => by
  unfold eDget2T at q
  rcases tAt_x ρ i with ⟨kvs, e⟩ | e
  · rw [e] at q
    obtain ⟨_, p, es, hs, rd, r⟩ := tAt_ok S e
    have q : Fin K W σ F H ((g ρ).bind fun y => (gx ρ).bind fun z => getT2 kvs y z) (DpQ K Q) := q
    refine ⟨.ref p, hs, p, rfl, .inr ⟨es, .inl rd⟩, h F0 H0 F H σ ρ _ S (q.then fun y F1 H1 e1 k1 v rv => hx F0 H0 F1 H1 σ ρ _ (S.go e1) (k1.then fun z F2 H2 e2 k2 u ru => ?_))⟩
    unfold getT2 at k2
    split at k2
    · rename_i k ek
      obtain ⟨b, rfl, hb⟩ := key_t rv ek
      refine ⟨valV es k, .inr ⟨es, k, b, .inl (e2.h _ _ (e1.h _ _ rd)), rfl, e2.h _ _ hb, rfl⟩, ?_⟩
      rcases r.val k with ⟨z1, z2⟩ | ⟨d, u', z1, z2, z3⟩
      · rw [z1] at k2
        rw [z2]
        exact Fin.okk K W σ e2.g k2 _ ru
      · rw [z1] at k2
        rw [z2]
        exact Fin.okk K W σ e2.g k2 _ ((z3.mono e1.f).mono e2.f)
    · exact k2.elim
  · rw [e] at q; exact q.elim
def getK2 (kvs : List (PD × PD)) (y z : PD) : R PD := match keyOf y with
  | some k => (match valD kvs k with
    | some d => .ok d
    | none => .ok z)
  | none => .bad
def eDget2 (i : Nat) (g gx : Rho → R PD) : Rho → R PD := fun ρ => (dAt ρ i).bind fun kvs => (g ρ).bind fun y => (gx ρ).bind fun z => getK2 kvs y z
theorem td_dget2 (i : Nat) (h : TDr K W ty g) (hx : TDe K W tx gx) : TDe K W (tDGet2 (tVar i) ty tx) (eDget2 i g gx) := fun F0 H0 F H σ ρ Q S q => by
  unfold eDget2 at q
  rcases dAt_x ρ i with ⟨kvs, e⟩ | e
  · rw [e] at q
    obtain ⟨p, es, hs, rd, r⟩ := dAt_ok S e
    have q : Fin K W σ F H ((g ρ).bind fun y => (gx ρ).bind fun z => getK2 kvs y z) (DpQ K Q) := q
    refine ⟨.ref p, hs, p, rfl, .inl ⟨es, rd⟩, h F0 H0 F H σ ρ _ S (q.then fun y F1 H1 e1 k1 v rv => hx F0 H0 F1 H1 σ ρ _ (S.go e1) (k1.then fun z F2 H2 e2 k2 u ru => ?_))⟩
    unfold getK2 at k2
    split at k2
    · rename_i k ek
      rw [keyD_of ek] at rv
      have := key_rp rv
      subst this
      refine ⟨valV es k, .inl ⟨es, k, rdM e2.h (rdM e1.h rd), rfl, rfl⟩, ?_⟩
      rcases r.val k with ⟨z1, z2⟩ | ⟨d, u', z1, z2, z3⟩
      · rw [z1] at k2
        rw [z2]
        exact Fin.okk K W σ e2.g k2 _ ru
      · rw [z1] at k2
        rw [z2]
        exact Fin.okk K W σ e2.g k2 _ ((z3.mono e1.f).mono e2.f)
    · exact k2.elim
  · rw [e] at q; exact q.elim
def mDnewT : Rho → R Tv := fun _ => .ok (.dT [])
theorem tm_dnewT : TDm K W [] tDNewT mDnewT := fun F0 H0 F H σ ρ φ Q S q p hp =>
  (q : ∀ F' H', Ext F H F' H' → MvQ K H φ [] Q (.dT []) F' H') F _ (Ext.own S.same hp) _ [p] (.dT upd_same .nil) (by simp) fun r hr => by rw [List.mem_singleton.mp hr]; exact ⟨S.same.free hp, .inl hp⟩
def putTS (ρ : Rho) (i : Nat) (kvs : List (List Key × PD)) (y d : PD) : SR := match keyT? y with
  | some k => if kvs.length < sizeLine then .nx (ρ.set i (some (.t (.dT (putT kvs k d))))) else .bad
  | none => .bad
def sDputT (i : Nat) (gk gv : Rho → R PD) : Rho → SR := fun ρ => SR.of (gv ρ) fun d => SR.of (tAt ρ i) fun kvs => SR.of (gk ρ) fun y => putTS ρ i kvs y d
theorem ds_dputT (i : Nat) (hk : TDh K W ty gk) (hv : TDe K W tv gv) : TDS K W (sDPut (tVar i) ty tv) (sDputT i gk gv) := fun F0 H0 F H σ ρ D S q =>
  hv F0 H0 F H σ ρ _ S (q.of S.ext fun d F1 H1 e1 k1 v rv => by
    have S1 := S.go e1
    rcases tAt_x ρ i with ⟨kvs, e⟩ | e
    · rw [e] at k1
      obtain ⟨hi, p, es, hs, rd, r⟩ := tAt_ok S1 e
      have k1 : FinS K W F0 H0 D (SR.of (gk ρ) fun y => putTS ρ i kvs y d) := k1
      refine ⟨.ref p, hs, hk F0 H0 F1 H1 σ ρ _ S1 (k1.of S1.ext fun y F2 H2 e2 k2 u ru => ?_)⟩
      have S2 := S1.go e2
      unfold putTS at k2
      split at k2
      · rename_i k ek
        obtain ⟨b, rfl, hb⟩ := key_t ru ek
        split at k2
        · rename_i hl
          have hl2 : es.length < sizeLine := by rw [r.len]; exact hl
          exact ⟨p, _, rfl, .inr ⟨es, k, b, e2.h _ _ rd, rfl, hb, hl2, rfl⟩, k2 _ _ _ (S2.mutD hi hs ((r.mono e2.f).put k (rv.mono e2.f)))⟩
        · exact k2.elim
      · exact k2.elim
    · rw [e] at k1; exact k1.elim)
end
end DL
/-! Sorting of tuples of ints and texts. -/
namespace DL
open PySem PySem.Spec PyProof.Rows L2 SrtO Srt

/-! ### the order -/
def ltK1 : Key → Key → Bool
  | .inl i, .inl j => decide (i < j)
  | .inr a, .inr b => decide (a.cps.toList < b.cps.toList)
  | .inl _, .inr _ => true
  | .inr _, .inl _ => false
def ltKs : List Key → List Key → Bool
  | [], [] => false
  | [], _ :: _ => true
  | _ :: _, [] => false
  | a :: as, b :: bs => if a = b then ltKs as bs else ltK1 a b
theorem str_ext {a b : Str} (h : a.cps.toList = b.cps.toList) : a = b := by
  cases a; cases b
  simp only at h
  rw [Array.toList_inj.mp h]
theorem ltK1_irr (a : Key) : ltK1 a a = false := by
  cases a with
  | inl i => simp [ltK1]
  | inr x => simp [ltK1, List.lt_irrefl]
theorem ltK1_asym {a b : Key} (h : ltK1 a b = true) : ltK1 b a = false := by
  cases a with
  | inl i => cases b with
    | inl j => simp [ltK1] at h ⊢; omega
    | inr y => rfl
  | inr x => cases b with
    | inl j => cases h
    | inr y => simp only [ltK1, decide_eq_true_eq, decide_eq_false_iff_not] at h ⊢; exact List.lt_asymm h
theorem ltK1_tri {a b : Key} (h : ltK1 a b = false) (h2 : ltK1 b a = false) : a = b := by
  cases a with
  | inl i => cases b with
    | inl j => simp [ltK1] at h h2; exact congrArg Sum.inl (by omega)
    | inr y => cases h
  | inr x => cases b with
    | inl j => cases h2
    | inr y =>
      simp only [ltK1, decide_eq_false_iff_not] at h h2
      exact congrArg Sum.inr (str_ext (List.le_antisymm (List.not_lt.mp h2) (List.not_lt.mp h)))
theorem ltK1_tr {a b c : Key} (h : ltK1 a b = true) (h2 : ltK1 b c = true) : ltK1 a c = true := by
  cases a with
  | inl i => cases b with
    | inl j => cases c with
      | inl k => simp [ltK1] at h h2 ⊢; omega
      | inr z => rfl
    | inr y => cases c with
      | inl k => cases h2
      | inr z => rfl
  | inr x => cases b with
    | inl j => cases h
    | inr y => cases c with
      | inl k => cases h2
      | inr z => simp only [ltK1, decide_eq_true_eq] at h h2 ⊢; exact List.lt_trans h h2
theorem ltKs_irr : ∀ a : List Key, ltKs a a = false
  | [] => rfl
  | a :: as => by unfold ltKs; rw [if_pos rfl, ltKs_irr as]
theorem ltKs_asym : ∀ {a b : List Key}, ltKs a b = true → ltKs b a = false
  | [], [], h => rfl
  | [], _ :: _, h => rfl
  | _ :: _, [], h => by cases h
  | a :: as, b :: bs, h => by
    unfold ltKs at h ⊢
    by_cases e : a = b
    · rw [if_pos e] at h; rw [if_pos e.symm]; exact ltKs_asym h
    · rw [if_neg e] at h; rw [if_neg (fun z => e z.symm)]; exact ltK1_asym h
theorem ltKs_tri : ∀ {a b : List Key}, ltKs a b = false → ltKs b a = false → a = b
  | [], [], _, _ => rfl
  | [], _ :: _, h, _ => by cases h
  | _ :: _, [], _, h => by cases h
  | a :: as, b :: bs, h, h2 => by
    unfold ltKs at h h2
    by_cases e : a = b
    · rw [if_pos e] at h; rw [if_pos e.symm] at h2; rw [e, ltKs_tri h h2]
    · rw [if_neg e] at h; rw [if_neg (fun z => e z.symm)] at h2; exact absurd (ltK1_tri h h2) e
theorem ltKs_tr : ∀ {a b c : List Key}, ltKs a b = true → ltKs b c = true → ltKs a c = true
  | [], [], _, h, _ => by cases h
  | [], _ :: _, [], _, h => by cases h
  | [], _ :: _, _ :: _, _, _ => rfl
  | _ :: _, [], _, h, _ => by cases h
  | _ :: _, _ :: _, [], _, h => by cases h
  | a :: as, b :: bs, c :: cs, h, h2 => by
    unfold ltKs at h h2 ⊢
    by_cases e : a = b
    · subst e
      rw [if_pos rfl] at h
      by_cases e2 : a = c
      · subst e2
        rw [if_pos rfl] at h2 ⊢
        exact ltKs_tr h h2
      · rw [if_neg e2] at h2 ⊢; exact h2
    · rw [if_neg e] at h
      by_cases e2 : b = c
      · subst e2
        rw [if_neg e]; exact h
      · rw [if_neg e2] at h2
        have h3 := ltK1_tr h h2
        have ne : a ≠ c := fun z => by subst z; rw [ltK1_irr] at h3; cases h3
        rw [if_neg ne]; exact h3
theorem swo_keys {α : Type} (k : α → List Key) : Swo fun v u => ltKs (k v) (k u) := by
  refine ⟨fun x y h => ltKs_asym h, fun x y z h1 h2 => ?_⟩
  rcases bcase (ltKs (k z) (k x)) with h | h
  · rcases bcase (ltKs (k x) (k y)) with q | q
    · rw [ltKs_tr h q] at h2; cases h2
    · rw [ltKs_tri h1 q] at h2; rw [h2] at h; cases h
  · exact h
/-- keys of like form -/
def likeK : List Key → List Key → Bool
  | [], [] => true
  | .inl _ :: as, .inl _ :: bs => likeK as bs
  | .inr _ :: as, .inr _ :: bs => likeK as bs
  | _, _ => false
theorem like_len : ∀ {a b : List Key}, likeK a b = true → a.length = b.length
  | [], [], _ => rfl
  | [], _ :: _, h => by cases h
  | .inl _ :: _, [], h => by cases h
  | .inr _ :: _, [], h => by cases h
  | .inl _ :: as, .inl _ :: bs, h => by rw [List.length_cons, List.length_cons, like_len (a := as) (b := bs) h]
  | .inr _ :: as, .inr _ :: bs, h => by rw [List.length_cons, List.length_cons, like_len (a := as) (b := bs) h]
  | .inl _ :: _, .inr _ :: _, h => by cases h
  | .inr _ :: _, .inl _ :: _, h => by cases h

/-! ### the machine's comparison -/
/-- a tuple of the keys ks -/
def KTup (h : Heap) (v : Value) (ks : List Key) : Prop := ∃ a its o n, v = .ref a ∧ h.get? a = some o ∧ o.cls = .type "tuple" ∧ o.data = .seq its n ∧ Vals (ks.map kV) its.toList
theorem KTup.keeps {h h' : Heap} {v : Value} {ks : List Key} (r : KTup h v ks) (k : ∀ b o, h.get? b = some o → o.cls = .type "tuple" → h'.get? b = some o) : KTup h' v ks := by
  obtain ⟨a, its, o, n, rfl, ho, hc, hd, hv⟩ := r
  exact ⟨a, its, o, n, rfl, k _ _ ho hc, hc, hd, hv⟩
section
variable {prog : Program} {w : World} {A : Around} {E : Value → Shared → Prop} {s : Shared}
theorem oneLt_strs (c : Bool) {p q : Str} {t u : Tok} {Q : Bool → Shared → Prop} (h : Q (decide (p.cps.toList < q.cps.toList)) s) : wpAny (model prog w) A (oneLt' c (.str p t) (.str q u)) Q E s := by
  cases c with
  | true => exact oneLt_str h
  | false => exact PySem.W.kat_one _ _ (PyProof.Rows.lt_str h)
theorem lexK {Q : Bool → Shared → Prop} : ∀ {ks js : List Key} {us vs : List Value} {i : Nat}, Vals (ks.map kV) us → Vals (js.map kV) vs → likeK ks js = true → Q (ltKs ks js) s → PySem.W.KatLex prog w A true false Q (us.zip vs) i s := by
  intro ks
  induction ks with
  | nil =>
    intro js us vs i ru rv hl q
    cases js with
    | nil => cases ru; exact PySem.W.kat_nil q
    | cons _ _ => cases hl
  | cons k ks ih =>
    intro js us vs i ru rv hl q
    cases js with
    | nil => cases k <;> cases hl
    | cons j js =>
      cases ru with
      | cons r1 ru =>
        cases rv with
        | cons r2 rv =>
          cases k with
          | inl a =>
            cases j with
            | inr b => cases hl
            | inl b =>
              obtain ⟨t, rfl⟩ := r1
              obtain ⟨t', rfl⟩ := r2
              refine PySem.W.kat_cons (SeqAt.EqAt.int_int a t b t' prog w _ _ ?_)
              refine PySem.W.kat_go (fun e1 => ?_) (fun e1 => ?_)
              · have ex : a = b := by simpa using e1
                subst ex
                unfold ltKs at q
                rw [if_pos rfl] at q
                exact PySem.W.kat_yes (ih ru rv hl q)
              · have ex : ¬ a = b := by simpa using e1
                unfold ltKs at q
                rw [if_neg (fun z => ex (Sum.inl.inj z))] at q
                exact PySem.W.kat_no (TS.oneLt_ints _ q)
          | inr a =>
            cases j with
            | inl b => cases hl
            | inr b =>
              obtain ⟨t, rfl⟩ := r1
              obtain ⟨t', rfl⟩ := r2
              refine PySem.W.kat_cons (SeqAt.EqAt.str_str a t b t' prog w _ _ ?_)
              refine PySem.W.kat_go (fun e1 => ?_) (fun e1 => ?_)
              · have ex : a = b := by simpa using e1
                subst ex
                unfold ltKs at q
                rw [if_pos rfl] at q
                exact PySem.W.kat_yes (ih ru rv hl q)
              · have ex : ¬ a = b := by simpa using e1
                unfold ltKs at q
                rw [if_neg (fun z => ex (Sum.inr.inj z))] at q
                exact PySem.W.kat_no (oneLt_strs _ q)
theorem keys_cmp {vs : List Value} {k : Value → List Key} (hp : ∀ v ∈ vs, KTup s.heap v (k v)) (hl : ∀ v ∈ vs, ∀ u ∈ vs, likeK (k v) (k u) = true) : Cmp prog w A s (tuples' true) (fun p => p.1 ∈ vs) (lt2 fun v u => ltKs (k v) (k u)) := by
  intro p q hm hm'
  obtain ⟨a, its, o, n, e, ho, hc, hd, hv⟩ := hp _ hm
  obtain ⟨a', its', o', n', e', ho', hc', hd', hv'⟩ := hp _ hm'
  show wpAny (model prog w) A (keyLt' (tuples' true) p.1 q.1) (fun r s' => s' = s ∧ r = ltKs (k p.1) (k q.1)) (fun _ _ => False) s
  have ll := hl _ hm _ hm'
  generalize k p.1 = kp at hv ll ⊢
  generalize k q.1 = kq at hv' ll ⊢
  rw [e, e']
  refine PySem.W.kat_lt ho hd ho' hd' ?_
  have h1 : its.size = kp.length := by have := Paired.length hv; rw [List.length_map] at this; rw [← Array.length_toList]; exact this.symm
  have h2 : its'.size = kq.length := by have := Paired.length hv'; rw [List.length_map] at this; rw [← Array.length_toList]; exact this.symm
  rw [show decide (its.size < its'.size) = false by rw [h1, h2, like_len ll]; exact decide_eq_false (Nat.lt_irrefl _)]
  exact lexK hv hv' ll ⟨rfl, rfl⟩
theorem firsts_k {h : Heap} {k : Value → List Key} {T : Bool} : ∀ {vs : List Value}, (∀ v ∈ vs, KTup h v (k v) ∧ ∃ x r, k v = x :: r ∧ x.isLeft = T) → ∃ fs : List Value, PySem.W.KatTups h vs fs ∧ fs.length = vs.length ∧ ∀ f ∈ fs, ∃ x : Key, x.isLeft = T ∧ RelV (kV x) f
  | [], _ => ⟨[], PySem.W.KatTups.nil, rfl, fun _ hm => by simp at hm⟩
  | v :: vs, hp => by
    obtain ⟨⟨a, its, o, n, e, ho, hc, hd, hv⟩, x, r, ek, ht⟩ := hp v List.mem_cons_self
    obtain ⟨fs, h1, h2, h3⟩ := firsts_k (vs := vs) fun u hu => hp u (List.mem_cons_of_mem _ hu)
    rw [ek] at hv
    obtain ⟨il⟩ := its
    cases hv with
    | cons r1 r2 =>
      rw [e]
      refine ⟨_ :: fs, PySem.W.KatTups.cons ho hc hd rfl h1, by rw [List.length_cons, List.length_cons, h2], fun f hm => ?_⟩
      rcases List.mem_cons.mp hm with e | hm
      · rw [e]; exact ⟨x, ht, r1⟩
      · exact h3 f hm
theorem keys_sortable {a : Addr} {vs : List Value} {k : Value → List Key} (h0 : 0 < vs.length) (hp : ∀ v ∈ vs, KTup s.heap v (k v)) (hn : ∀ v ∈ vs, k v ≠ []) (hl : ∀ v ∈ vs, ∀ u ∈ vs, likeK (k v) (k u) = true)
    (ha : ∀ o, s.heap.get? a = some o → o.cls ≠ .type "tuple") : SortableO prog w A s a vs fun v u => ltKs (k v) (k u) := by
  intro h' keep
  have hp' : ∀ v ∈ vs, KTup h' v (k v) := fun v hm => (hp v hm).keeps fun b o e c => keep b o (fun z => by subst z; exact ha o e c) e
  obtain ⟨v0, hv0⟩ : ∃ v, v ∈ vs := by
    cases vs with
    | nil => cases h0
    | cons v _ => exact ⟨v, List.mem_cons_self⟩
  obtain ⟨x0, r0, e0⟩ : ∃ x r, k v0 = x :: r := by
    cases e : k v0 with
    | nil => exact absurd e (hn v0 hv0)
    | cons x r => exact ⟨x, r, rfl⟩
  have first : ∀ v ∈ vs, ∃ x r, k v = x :: r ∧ x.isLeft = x0.isLeft := fun v hv => by
    have := hl v hv v0 hv0
    rw [e0] at this
    cases e : k v with
    | nil => exact absurd e (hn v hv)
    | cons x r =>
      rw [e] at this
      refine ⟨x, r, rfl, ?_⟩
      cases x <;> cases x0 <;> first | rfl | cases this
  obtain ⟨fs, h1, h2, h3⟩ := firsts_k (T := x0.isLeft) fun v hv => ⟨hp' v hv, first v hv⟩
  refine ⟨tuples' true, fun Q E hq => ?_, keys_cmp (s := { s with heap := h' }) hp' hl⟩
  cases x0 with
  | inl i =>
    refine PySem.W.kat_kind (T := .type "int") h1 (by omega) (fun f hm => ?_) (by rfl) ?_
    · obtain ⟨x, hx, r⟩ := h3 f hm
      cases x with
      | inl j => obtain ⟨t, rfl⟩ := r; exact PySem.W.Looks.now
      | inr j => cases hx
    · have e : (Value.type "int" != Value.type "tuple") = true := by first | decide +kernel | rfl | decide
      rw [e]
      exact hq
  | inr i =>
    refine PySem.W.kat_kind (T := .type "str") h1 (by omega) (fun f hm => ?_) (by rfl) ?_
    · obtain ⟨x, hx, r⟩ := h3 f hm
      cases x with
      | inr j => obtain ⟨t, rfl⟩ := r; exact PySem.W.Looks.now
      | inl j => cases hx
    · have e : (Value.type "str" != Value.type "tuple") = true := by first | decide +kernel | rfl | decide
      rw [e]
      exact hq
/-- sorted(l) of tuples of keys -/
theorem sorted_keysL {l : Addr} {vs : List Value} {k : Value → List Key} {Q : Value → Shared → Prop} (hl : s.heap.IsList l vs.toArray) (hz : vs.length ≤ sizeLine) (hp : ∀ v ∈ vs, KTup s.heap v (k v)) (hn : ∀ v ∈ vs, k v ≠ []) (hk : ∀ v ∈ vs, ∀ u ∈ vs, likeK (k v) (k u) = true)
    (h : ∀ (h' : Heap) (d : Addr) (out : List Value), Srtd (fun v u => ltKs (k v) (k u)) out → Stb (fun v u => ltKs (k v) (k u)) out vs → (∀ b o, s.heap.get? b = some o → h'.get? b = some o) → s.heap.objs.size ≤ d → (∃ n, h'.get? d = some (seqObj "list" out.toArray n)) → Q (.ref d) { s with heap := h' }) :
    wpAny (model prog w) A (call (.builtin "sorted") [.ref l]) Q E s := by
  refine sorted_ord (swo_keys k) hl hz (fun h2 h₁ a ha kk => ?_) fun out hs hb => ?_
  · refine keys_sortable (s := { s with heap := h₁ }) (by omega) (fun v hm => (hp v hm).keeps fun b o e _ => (kk b o e).2) hn hk fun o e => ?_
    have e' : some o = some (seqObj "list" vs.toArray 0) := e.symm.trans ha
    cases e'
    intro c
    exact absurd (Value.type.inj c) (by decide)
  · exact h _ _ out hs hb (fun b o e => sortedAll_old e) (Nat.le_succ _) (sortedAll_at s.heap vs out.toArray)
end

/-! ### rules of the layer -/
abbrev ltV (k : V → List Key) (x y : V) : Bool := ltKs (k x) (k y)
def rSortedK (K : PySem.W.Frag) : List V → Hp → VK → Prop := fun vs H Q => ∃ (a : Addr) (xs : List V) (k : V → List Key), vs = [V.ref a] ∧ SqL K H a xs ∧ (∀ x ∈ xs, k x ≠ [] ∧ ∃ t, x = V.ref t ∧ H t = some (.tup ((k x).map kV))) ∧ (∀ x ∈ xs, ∀ y ∈ xs, likeK (k x) (k y) = true) ∧
  ∀ ys p, Srtd (ltV k) ys → ys.Perm xs → H p = none → Q (.ref p) (upd H p (.lst ys))
theorem ktup_of {P : Program} {w : World} {H : Hp} {h : Heap} {t : Addr} {ks : List Key} (ok : HOk P w H h) (e : H t = some (.tup (ks.map kV))) : KTup h (.ref t) ks := by
  obtain ⟨_, its, rv, o, ho, hc, n, hd⟩ := ok _ _ e
  exact ⟨t, its.toArray, o, n, rfl, ho, hc, hd, by simpa using rv⟩
section
variable {X : Cx}
theorem cr_sortedK : CallR X (.builtin "sorted") (rSortedK X.K) := by
  intro pins s σ H vs us Q I r h
  obtain ⟨a, xs, k, rfl, hs, hx, hl, q⟩ := h
  obtain ⟨its, rv, hli, hz⟩ := I.list hs
  obtain ⟨u, rfl, ru⟩ := vals1 r
  obtain rfl : u = Value.ref a := ru
  obtain ⟨e1, e2⟩ := refs_back rv fun x m => by
    obtain ⟨_, t, e, _⟩ := hx x m
    exact ⟨t, e⟩
  have back : ∀ v ∈ its, backV v ∈ xs := fun v hv => by rw [e1]; exact List.mem_map_of_mem hv
  refine sorted_keysL (k := fun u => k (backV u)) hli.isList (by rw [← rv.length]; exact hz) (fun v hv => ?_) (fun v hv => (hx _ (back v hv)).1) (fun v hv u hu => hl _ (back v hv) _ (back u hu)) fun h' d out h1 h2 kp hd hn => ?_
  · obtain ⟨t, rfl⟩ := e2 v hv
    obtain ⟨_, t', e, ht⟩ := hx _ (back _ hv)
    cases e
    exact ktup_of I.hok ht
  · have h3 : ∀ u ∈ out, ∃ a, u = Value.ref a := fun u hu => e2 u (h2.perm.mem_iff.mp hu)
    obtain ⟨n, hn⟩ := hn
    have hb : (out.map backV).Perm xs := by
      rw [e1]
      exact h2.perm.map backV
    refine ⟨.ref d, upd H d (.lst (out.map backV)), I.laid (t' := s.toks) kp hd ⟨?_, out, n, vals_back h3, hn⟩, rfl, q _ d (SrtO.srtd_map h1) hb (I.hok.fresh hd)⟩
    rw [hb.length_eq]
    exact hz
end
section
variable {prog : Program} {w : World} {A : Around} {E : Value → Shared → Prop} {s : Shared}
/-- behind the collecting -/
theorem sorted_tail {vs : List Value} {k : Value → List Key} {Q : Value → Shared → Prop} (hz : vs.length ≤ sizeLine) (hp : ∀ v ∈ vs, KTup s.heap v (k v)) (hn : ∀ v ∈ vs, k v ≠ []) (hk : ∀ v ∈ vs, ∀ u ∈ vs, likeK (k v) (k u) = true)
    (h : ∀ (h' : Heap) (d : Addr) (out : List Value), Srtd (fun v u => ltKs (k v) (k u)) out → Stb (fun v u => ltKs (k v) (k u)) out vs → (∀ b o, s.heap.get? b = some o → h'.get? b = some o) → s.heap.objs.size ≤ d → (∃ n, h'.get? d = some (seqObj "list" out.toArray n)) → Q (.ref d) { s with heap := h' }) :
    wpAny (model prog w) A.in1 (call (.builtin "list.sort") [.ref s.heap.objs.size]) (fun _ s' => Q (.ref s.heap.objs.size) s') E { s with heap := s.heap.push (seqObj "list" vs.toArray 0) } := by
  have hoL : (s.heap.push (seqObj "list" vs.toArray 0)).get? s.heap.objs.size = some (seqObj "list" vs.toArray 0) := Heap.get?_push_size _ rfl
  have keep : ∀ b o, s.heap.get? b = some o → b ≠ s.heap.objs.size ∧ (s.heap.push (seqObj "list" vs.toArray 0)).get? b = some o := fun b o q => ⟨Nat.ne_of_lt (Heap.lt_size q), Heap.get?_push_of_some _ q⟩
  refine wpAny_call_entry PyProof.Rows.slot_list_sort ⟨_, hoL, rfl⟩ PyProof.Rows.entry_list_sort (list_sort_ord (s := { s with heap := s.heap.push (seqObj "list" vs.toArray 0) }) (swo_keys k) hoL hz (fun h2 => keys_sortable (s := { s with heap := s.heap.push (seqObj "list" vs.toArray 0) }) (by omega) (fun v hm => (hp v hm).keeps fun b o e _ => (keep b o e).2) hn hk fun o e => ?_) fun out hs hb => ⟨_, rfl, ?_⟩) (PyProof.Rows.args_list_sort _)
  · have e' : some o = some (seqObj "list" vs.toArray 0) := e.symm.trans hoL
    cases e'
    intro c
    exact absurd (Value.type.inj c) (by decide)
  · refine h _ _ out hs hb (fun b o e => ?_) (Nat.le_refl _) (sortedHeap_at hoL)
    obtain ⟨e1, e2⟩ := keep b o e
    exact (sortedHeap_old e1 (Heap.lt_size e2)).trans e2
end
section
variable {X : Cx}
/-- sorted(d), d's keys tuples -/
def rSortedDT : List V → Hp → VK → Prop := fun vs H Q => ∃ (a : Addr) (kvs : List (List Key × V)), vs = [V.ref a] ∧ H a = some (.dT kvs) ∧ (∀ p ∈ kvs, p.1 ≠ []) ∧ (∀ p ∈ kvs, ∀ q ∈ kvs, likeK p.1 q.1 = true) ∧
  ∀ (bs : List Addr) (ks : List (List Key)) p, Srtd (fun a b => ltKs a b) ks → ks.Perm (kvs.map (·.1)) → Paired (fun k b => H b = some (.tup (k.map kV))) ks bs → H p = none → Q (.ref p) (upd H p (.lst (bs.map V.ref)))
open Classical in
noncomputable def keyAt (h : Heap) (v : Value) : List Key := if e : ∃ ks, KTup h v ks then e.choose else []
theorem vals_kV : ∀ {as bs : List Key} {us : List Value}, Vals (as.map kV) us → Vals (bs.map kV) us → as = bs
  | [], [], _, _, _ => rfl
  | [], _ :: _, _, .nil, r => by cases r
  | _ :: _, [], _, r, .nil => by cases r
  | a :: as, b :: bs, _, .cons r1 t1, .cons r2 t2 => by
    rw [vals_kV t1 t2]
    cases a with
    | inl i => cases b with
      | inl j => obtain ⟨t, rfl⟩ := r1; obtain ⟨t', e⟩ := r2; cases e; rfl
      | inr y => obtain ⟨t, rfl⟩ := r1; obtain ⟨t', e⟩ := r2; cases e
    | inr x => cases b with
      | inl j => obtain ⟨t, rfl⟩ := r1; obtain ⟨t', e⟩ := r2; cases e
      | inr y => obtain ⟨t, rfl⟩ := r1; obtain ⟨t', e⟩ := r2; cases e; rfl
theorem ktup_one {h : Heap} {v : Value} {as bs : List Key} (r : KTup h v as) (q : KTup h v bs) : as = bs := by
  obtain ⟨a, its, o, n, rfl, ho, hc, hd, hv⟩ := r
  obtain ⟨a', its', o', n', e, ho', hc', hd', hv'⟩ := q
  cases e
  rw [ho] at ho'; cases ho'
  rw [hd] at hd'; cases hd'
  exact vals_kV hv hv'
theorem keyAt_of {h : Heap} {v : Value} {ks : List Key} (r : KTup h v ks) : keyAt h v = ks := by
  have e : ∃ ks, KTup h v ks := ⟨ks, r⟩
  unfold keyAt
  rw [dif_pos e]
  exact ktup_one e.choose_spec r
theorem paired_map_eq {α β : Type} {f : β → α} : ∀ {xs : List α} {ys : List β}, Paired (fun x y => f y = x) xs ys → xs = ys.map f
  | _, _, .nil => rfl
  | _, _, .cons h t => by rw [List.map_cons, h, paired_map_eq t]
theorem srt_out {h : Heap} {H : Hp} {P : Program} {w : World} (ok : HOk P w H h) {out vs : List Value} {ks : List (List Key)} {bs : List Addr} (ev : vs = bs.map Value.ref) (pr : Paired (fun k b => H b = some (.tup (k.map kV))) ks bs)
    (hs : Srtd (fun v u => ltKs (keyAt h v) (keyAt h u)) out) (hp : out.Perm vs) : ∃ (bs' : List Addr) (ks' : List (List Key)), out = bs'.map Value.ref ∧ Srtd (fun a b => ltKs a b) ks' ∧ ks'.Perm ks ∧ Paired (fun k b => H b = some (.tup (k.map kV))) ks' bs' := by
  have at' : ∀ b ∈ bs, ∃ k, H b = some (.tup (k.map kV)) ∧ keyAt h (.ref b) = k := by
    intro b hb
    clear ev hp hs
    induction pr with
    | nil => cases hb
    | cons a _ ih =>
      rcases List.mem_cons.mp hb with e | hb
      · rw [e]; exact ⟨_, a, keyAt_of (ktup_of ok a)⟩
      · exact ih hb
  have ek : ks = vs.map (keyAt h) := by
    rw [ev, List.map_map]
    clear ev hp hs at'
    induction pr with
    | nil => rfl
    | cons a _ ih => rw [List.map_cons, ← ih]; congr 1; exact (keyAt_of (ktup_of ok a)).symm
  have ho : ∀ u ∈ out, ∃ b ∈ bs, u = Value.ref b := fun u hu => by
    have := hp.mem_iff.mp hu
    rw [ev] at this
    obtain ⟨b, hb, e⟩ := List.mem_map.mp this
    exact ⟨b, hb, e.symm⟩
  have fin : ∀ l : List Value, (∀ u ∈ l, ∃ b ∈ bs, u = Value.ref b) → ∃ bs' : List Addr, l = bs'.map Value.ref ∧ Paired (fun k b => H b = some (.tup (k.map kV))) (l.map (keyAt h)) bs' := by
    intro l
    induction l with
    | nil => exact fun _ => ⟨[], rfl, .nil⟩
    | cons u l ih =>
      intro hl
      obtain ⟨bs', e, q⟩ := ih fun v hv => hl v (List.mem_cons_of_mem _ hv)
      obtain ⟨b, hb, rfl⟩ := hl u List.mem_cons_self
      obtain ⟨k, h1, h2⟩ := at' b hb
      refine ⟨b :: bs', by rw [e]; rfl, .cons ?_ q⟩
      rw [h2]; exact h1
  obtain ⟨bs', e, q⟩ := fin out ho
  exact ⟨bs', out.map (keyAt h), e, SrtO.srtd_map hs, by rw [ek]; exact hp.map _, q⟩
theorem paired_mem {α β : Type} {R : α → β → Prop} : ∀ {xs : List α} {ys : List β}, Paired R xs ys → ∀ y ∈ ys, ∃ x ∈ xs, R x y
  | _, _, .cons h t, y, hy => by
    rcases List.mem_cons.mp hy with e | hy
    · rw [e]; exact ⟨_, List.mem_cons_self, h⟩
    · obtain ⟨x, a, b⟩ := paired_mem t y hy
      exact ⟨x, List.mem_cons_of_mem _ a, b⟩
theorem refs_vals : ∀ bs : List Addr, Vals (bs.map V.ref) (bs.map Value.ref)
  | [] => .nil
  | _ :: r => .cons rfl (refs_vals r)
theorem cr_sortedDT (hc : X.calm = true) : CallR X (.builtin "sorted") rSortedDT := by
  intro pins s σ H vs us Q I r h
  obtain ⟨d, kvs, rfl, hd, hn, hl, q⟩ := h
  obtain ⟨u, rfl, ru⟩ := vals1 r
  obtain rfl : u = Value.ref d := ru
  obtain ⟨z, hs, ks, pr, o, es, ep, ho, hx, hdt, he, hne⟩ := (show ObjOk X.prog X.w H s.heap d (.dT kvs) from I.hok _ _ hd)
  have l1 : es.size = ks.length := size_of_entries he
  have l2 : kvs.length = ks.length := Paired.length pr
  have hh : X.A.in1.handled = none := I.ok.hd hc
  refine Calls.call_function_entry PyProof.Rows.kind_sorted PyProof.Rows.plain_sorted PyProof.Rows.entry_sorted (PyProof.Rows.args_sorted1 _) ?_
  unfold Builtin.«sorted»
  refine wpAny_bind (m := checkCount "sorted" 1 1 _) (wpAny_pure ?_)
  refine wpAny_bind (PySem.W.kdu_collect (A := X.A.in1) (kdl_raw hs hx hdt) hh ho (by omega) fun h' tk acc kp it => ?_)
  have ea : acc.toList = ks.map fun x => Value.ref x.2.1 := by
    have hl : acc.toList.length = ks.length := by rw [Array.length_toList, it.1]; exact l1
    apply List.ext_getElem?
    intro j
    rw [List.getElem?_map]
    cases hj : acc.toList[j]? with
    | none =>
      have h1 := List.getElem?_eq_none_iff.mp hj
      rw [List.getElem?_eq_none (by omega)]
      all_goals rfl
    | some v =>
      obtain ⟨en, hen, hv⟩ := it.2 j v (by rw [← Array.getElem?_toList]; exact hj)
      have qe := entry_at he j
      rw [hen] at qe
      cases hb : ks[j]? with
      | none =>
        rw [hb] at qe
        exact nomatch (show some en = none from qe)
      | some b =>
        rw [hb] at qe
        have e2 : en = entryOfKey (tupleKind (mixKind X.prog X.w)) b := Option.some.inj qe
        rw [hv, e2]
        all_goals rfl
  have eb : acc.toList = (ks.map fun x => x.2.1).map Value.ref := by rw [ea, List.map_map]; all_goals rfl
  have pk : Paired (fun k b => H b = some (.tup (k.map kV))) (kvs.map (·.1)) (ks.map fun x => x.2.1) := by
    clear it ea eb he l1 l2 hn hl q hd z hne
    induction pr with
    | nil => exact .nil
    | cons h t ih => exact .cons (by show H _ = _; exact h.2.1) ih
  have I1 : Inv X pins σ H { s with heap := h', toks := tk } := I.kept kp
  have hok1 := I1.hok
  have kt : ∀ v ∈ acc.toList, ∃ k ∈ kvs.map (·.1), KTup h' v k := fun v hv => by
    rw [eb] at hv
    obtain ⟨b, hb, rfl⟩ := List.mem_map.mp hv
    obtain ⟨k, h1, h2⟩ := paired_mem pk b hb
    exact ⟨k, h1, ktup_of hok1 h2⟩
  have like : ∀ a ∈ kvs.map (·.1), ∀ b ∈ kvs.map (·.1), likeK a b = true := fun a ha b hb => by
    obtain ⟨p, hp, rfl⟩ := List.mem_map.mp ha
    obtain ⟨p', hp', rfl⟩ := List.mem_map.mp hb
    exact hl p hp p' hp'
  have hal : acc.toList.length = ks.length := by rw [Array.length_toList, it.1]; exact l1
  refine wpAny_bind (wpAny_newList ?_ (by rw [hal]; omega))
  refine wpAny_bind (wpAny_holding (wpAny_mono (sorted_tail (s := { s with heap := h', toks := tk }) (k := keyAt h') (Q := fun v s' => EP X pins σ Q v s') (by rw [hal]; omega) (fun v hv => ?_) (fun v hv => ?_) (fun v hv u hu => ?_) fun h2 D out h3 h4 kp2 hD hn2 => ?_) (fun _ s' x => ?_) fun _ _ e => e))
  · obtain ⟨k, _, hk⟩ := kt v hv
    rw [keyAt_of hk]; exact hk
  · obtain ⟨k, hk1, hk⟩ := kt v hv
    rw [keyAt_of hk]
    obtain ⟨p, hp, rfl⟩ := List.mem_map.mp hk1
    exact hn p hp
  · obtain ⟨k, hk1, hk⟩ := kt v hv
    obtain ⟨j, hj1, hj⟩ := kt u hu
    rw [keyAt_of hk, keyAt_of hj]
    exact like k hk1 j hj1
  · obtain ⟨bs', ks', eo, s1, s2, s3⟩ := srt_out hok1 eb pk h3 h4.perm
    obtain ⟨n, hn2⟩ := hn2
    refine ⟨.ref D, upd H D (.lst (bs'.map V.ref)), I1.laid (t' := tk) kp2 hD ⟨?_, out, n, by rw [eo]; exact refs_vals bs', hn2⟩, rfl, q bs' ks' D s1 s2 s3 (I1.hok.fresh hD)⟩
    have e1 : (bs'.map V.ref).length = acc.toList.length := by
      rw [← h4.perm.length_eq, eo, List.length_map, List.length_map]
    rw [e1, hal]; omega
  · exact wpAny_pure ⟨_, rfl, x⟩
end

/-! ### sorted(d.items()) -/
section
open L2.DX
theorem paired_of_get {α β : Type} {R : α → β → Prop} : ∀ {xs : List α} {ys : List β}, xs.length = ys.length → (∀ (j : Nat) (x : α) (y : β), xs[j]? = some x → ys[j]? = some y → R x y) → Paired R xs ys
  | [], [], _, _ => .nil
  | [], _ :: _, h, _ => by cases h
  | _ :: _, [], h, _ => by cases h
  | x :: xs, y :: ys, h, g => .cons (g 0 x y rfl rfl) (paired_of_get (Nat.succ.inj h) fun j a b h1 h2 => g (j + 1) a b h1 h2)
variable {X : Cx}
def rItemsK : V → List V → Hp → VK → Prop := fun x xs H Q => ∃ (a : Addr) (kvs : List (Key × V)), x = .ref a ∧ xs = [] ∧ H a = some (.dK kvs) ∧ ∀ p, H p = none → Q (.ref p) (upd H p (itemsO p a))
theorem mt_itemsK : MtR X "dict.items" rItemsK := by
  intro pins s σ H x xs v us Q I rx rxs h
  obtain ⟨a, kvs, rfl, rfl, ha, q⟩ := h
  cases rx
  cases rxs
  obtain ⟨z, hd, vs, rel, dd⟩ := dk_of I.hok ha
  refine call_meetsIn PySem.F.slot_dict_items dd.typeIs PySem.F.entry_dict_items (PySem.F.args_dict_items_1 _) (meets_dict_items (mixKind X.prog X.w) a hd) ⟨⟨vs, dd⟩, ?_⟩
  have hf : H s.heap.objs.size = none := I.hok.fresh (Nat.le_refl _)
  exact ⟨.ref s.heap.objs.size, upd H s.heap.objs.size (itemsO s.heap.objs.size a), I.laid (t' := s.toks) (fun b u e => Heap.get?_push_of_some _ e) (Nat.le_refl _) (itemsO_ok (Heap.get?_push_size _ rfl)), rfl, q _ hf⟩
abbrev pr2 (e : Key × Key) : List Key := [e.1, e.2]
abbrev en2 (e : Key × Key) : Key × V := (e.1, kV e.2)
def rSortedItK : List V → Hp → VK → Prop := fun vs H Q => ∃ (p a : Addr) (es : List (Key × Key)), vs = [.ref p] ∧ H p = some (itemsO p a) ∧ H a = some (.dK (es.map en2)) ∧ (∀ x ∈ es, ∀ y ∈ es, likeK (pr2 x) (pr2 y) = true) ∧
  ∀ (H' : Hp) (bs : List Addr) (ks : List (List Key)) (D : Addr), (∀ b o, H b = some o → H' b = some o) → Srtd (fun a b => ltKs a b) ks → ks.Perm (es.map pr2) → Paired (fun k b => H' b = some (.tup (k.map kV))) ks bs → (∀ b ∈ bs, H b = none) → H' D = none → Q (.ref D) (upd H' D (.lst (bs.map V.ref)))
theorem cr_sortedItK (hc : X.calm = true) : CallR X (.builtin "sorted") rSortedItK := by
  intro pins s σ H vs us Q I r h
  obtain ⟨p, a, es, rfl, hp, hd, hl, q⟩ := h
  obtain ⟨u, rfl, ru⟩ := vals1 r
  obtain rfl : u = Value.ref p := ru
  have view : s.heap.IsItemsView p a := (show ObjOk X.prog X.w H s.heap p (itemsO p a) from I.hok p _ hp).1
  obtain ⟨z, lo, ws, rel, dd⟩ := dk_of I.hok hd
  obtain ⟨ep, hat⟩ := dd.dictAt
  have hh : X.A.in1.handled = none := I.ok.hd hc
  have lw : es.length = ws.length := by have := Paired.length rel; rw [List.length_map] at this; exact this
  rw [List.length_map] at z
  refine Calls.call_function_entry PyProof.Rows.kind_sorted PyProof.Rows.plain_sorted PyProof.Rows.entry_sorted (PyProof.Rows.args_sorted1 _) ?_
  unfold Builtin.«sorted»
  refine wpAny_bind (m := checkCount "sorted" 1 1 _) (wpAny_pure ?_)
  refine wpAny_bind (PySem.W.kdx_collect (A := X.A.in1) hh view hat (by omega) fun h' tk as kp hal hG => ?_)
  have nd : as.Nodup := List.Pairwise.imp (fun h => Nat.ne_of_lt h) hG.rise
  have I1 : Inv X pins σ H { s with heap := h', toks := tk } := I.kept kp
  have new : ∀ t ∈ as, H t = none := fun t ht => I.hok.fresh (Nat.le_of_lt (hG.above t ht))
  -- the pairs that were made
  have at' : ∀ (j : Nat) (b : Addr), as[j]? = some b → ∃ e : Key × Key, es[j]? = some e ∧ ∀ H2, ObjOk X.prog X.w H2 h' b (.tup ((pr2 e).map kV)) := by
    intro j b hj
    obtain ⟨key, k, x, f1, f2, f3⟩ := hG.pairs j b hj
    have hlt : j < es.length := by rw [lw]; exact (List.getElem?_eq_some_iff.mp f1).1
    have hlt2 : j < as.length := (List.getElem?_eq_some_iff.mp hj).1
    obtain ⟨e0, g1, g2, g3⟩ := pget (j := j) rel f1
    rw [List.getElem?_map, List.getElem?_eq_getElem hlt] at g1
    have g1 : en2 es[j] = e0 := Option.some.inj g1
    subst g1
    refine ⟨es[j], List.getElem?_eq_getElem hlt, fun H2 => ⟨by show 2 ≤ sizeLine; decide, [key, x], .cons ?_ (.cons g3 .nil), ⟨_, f3, rfl, _, rfl⟩⟩⟩
    have rk : RelV (kV es[j].1) key := by
      rw [show es[j].1 = k from g2]
      exact relV_key (show keyIs k key = true from f2)
    exact rk
  obtain ⟨H2, I2, g2, t2⟩ := takeT (P := fun b vs => ∃ (j : Nat) (e : Key × Key), as[j]? = some b ∧ es[j]? = some e ∧ vs = (pr2 e).map kV) I as H I1 nd fun b hb => by
    obtain ⟨j, hj⟩ := List.mem_iff_getElem?.mp hb
    obtain ⟨e, he, ok⟩ := at' j b hj
    exact ⟨Nat.le_of_lt (hG.above b hb), new b hb, _, ⟨j, e, hj, he, rfl⟩, ok⟩
  have pk : Paired (fun k b => H2 b = some (.tup (k.map kV))) (es.map pr2) as := by
    refine paired_of_get (by rw [List.length_map]; omega) fun j x b h1 h2 => ?_
    obtain ⟨vs, ⟨j', e, k1, k2, k3⟩, k4⟩ := t2 b (List.mem_of_getElem? h2)
    have ej : j = j' := by
      obtain ⟨l1, e1⟩ := List.getElem?_eq_some_iff.mp h2
      obtain ⟨l2, e2⟩ := List.getElem?_eq_some_iff.mp k1
      have pw := List.pairwise_iff_getElem.mp hG.rise
      rcases Nat.lt_trichotomy j j' with c | c | c
      · have := pw j j' l1 l2 c
        rw [e1, e2] at this
        exact absurd this (Nat.lt_irrefl _)
      · exact c
      · have := pw j' j l2 l1 c
        rw [e1, e2] at this
        exact absurd this (Nat.lt_irrefl _)
    subst ej
    rw [List.getElem?_map, k2] at h1
    have h1 : pr2 e = x := Option.some.inj h1
    rw [k4, k3, h1]
  have like : ∀ a ∈ es.map pr2, ∀ b ∈ es.map pr2, likeK a b = true := fun a ha b hb => by
    obtain ⟨p, hp, rfl⟩ := List.mem_map.mp ha
    obtain ⟨p', hp', rfl⟩ := List.mem_map.mp hb
    exact hl p hp p' hp'
  have kt : ∀ v ∈ as.map Value.ref, ∃ k ∈ es.map pr2, KTup h' v k := fun v hv => by
    obtain ⟨b, hb, rfl⟩ := List.mem_map.mp hv
    obtain ⟨k, h1, h2⟩ := paired_mem pk b hb
    exact ⟨k, h1, ktup_of I2.hok h2⟩
  refine wpAny_bind (wpAny_newList ?_ (by rw [List.length_map]; omega))
  refine wpAny_bind (wpAny_holding (wpAny_mono (sorted_tail (s := { s with heap := h', toks := tk }) (k := keyAt h') (Q := fun v s' => EP X pins σ Q v s') (by rw [List.length_map]; omega) (fun v hv => ?_) (fun v hv => ?_) (fun v hv u hu => ?_) fun h2 D out h3 h4 kp2 hD hn2 => ?_) (fun _ s' x => ?_) fun _ _ e => e))
  · obtain ⟨k, _, hk⟩ := kt v hv
    rw [keyAt_of hk]; exact hk
  · obtain ⟨k, hk1, hk⟩ := kt v hv
    rw [keyAt_of hk]
    obtain ⟨p, hp, rfl⟩ := List.mem_map.mp hk1
    exact fun z => nomatch z
  · obtain ⟨k, hk1, hk⟩ := kt v hv
    obtain ⟨j, hj1, hj⟩ := kt u hu
    rw [keyAt_of hk, keyAt_of hj]
    exact like k hk1 j hj1
  · obtain ⟨bs', ks', eo, s1, s2, s3⟩ := srt_out I2.hok rfl pk h3 h4.perm
    obtain ⟨n, hn2⟩ := hn2
    have inas : ∀ b ∈ bs', b ∈ as := fun b hb => by
      have : Value.ref b ∈ out := by rw [eo]; exact List.mem_map_of_mem hb
      obtain ⟨c, hc, e⟩ := List.mem_map.mp (h4.perm.mem_iff.mp this)
      cases e; exact hc
    refine ⟨.ref D, upd H2 D (.lst (bs'.map V.ref)), I2.laid (t' := tk) kp2 hD ⟨?_, out, n, by rw [eo]; exact refs_vals bs', hn2⟩, rfl, q H2 bs' ks' D g2 s1 s2 s3 (fun b hb => new b (inas b hb)) (I2.hok.fresh hD)⟩
    have e1 : (bs'.map V.ref).length = (as.map Value.ref).length := by
      rw [← h4.perm.length_eq, eo, List.length_map, List.length_map]
    rw [e1, List.length_map]; omega
  · exact wpAny_pure ⟨_, rfl, x⟩
end
end DL
/-! More of lists: extend, insert, index, repeated, sorted, ranges; op=; defs that call themselves. -/
namespace DL
open PySem PySem.Spec PyProof.Rows L2

/-! ### sorting as a function -/
section
variable {α : Type}
def insB (lt : α → α → Bool) (a : α) : List α → List α
  | [] => [a]
  | b :: l => if lt b a = true then b :: insB lt a l else a :: b :: l
def isort (lt : α → α → Bool) : List α → List α
  | [] => []
  | a :: l => insB lt a (isort lt l)
theorem insB_perm (lt : α → α → Bool) (a : α) : ∀ l : List α, (insB lt a l).Perm (a :: l)
  | [] => List.Perm.refl _
  | b :: l => by
    unfold insB
    split
    · exact ((insB_perm lt a l).cons b).trans (List.Perm.swap a b l)
    · exact List.Perm.refl _
theorem isort_perm (lt : α → α → Bool) : ∀ l : List α, (isort lt l).Perm l
  | [] => List.Perm.refl _
  | a :: l => (insB_perm lt a (isort lt l)).trans ((isort_perm lt l).cons a)
theorem insB_srt {lt : α → α → Bool} (O : SrtO.Swo lt) (a : α) : ∀ l : List α, SrtO.Srtd lt l → SrtO.Srtd lt (insB lt a l)
  | [], _ => List.pairwise_singleton _ _
  | b :: l, h => by
    obtain ⟨h1, h2⟩ := List.pairwise_cons.mp h
    unfold insB
    split
    · rename_i c
      refine List.pairwise_cons.mpr ⟨fun x hx => ?_, insB_srt O a l h2⟩
      rcases List.mem_cons.mp ((insB_perm lt a l).mem_iff.mp hx) with e | e
      · rw [e]; exact O.asym _ _ c
      · exact h1 x e
    · rename_i c
      have c : lt b a = false := by cases e : lt b a with | true => exact absurd e c | false => rfl
      refine List.pairwise_cons.mpr ⟨fun x hx => ?_, h⟩
      rcases List.mem_cons.mp hx with e | e
      · rw [e]; exact c
      · exact O.tr a b x c (h1 x e)
theorem isort_srt {lt : α → α → Bool} (O : SrtO.Swo lt) : ∀ l : List α, SrtO.Srtd lt (isort lt l)
  | [] => List.Pairwise.nil
  | a :: l => insB_srt O a _ (isort_srt O l)
/-- there is one sorted arrangement -/
theorem srt_uniq {lt : α → α → Bool} (tri : ∀ a b, lt a b = false → lt b a = false → a = b) : ∀ {l m : List α}, SrtO.Srtd lt l → SrtO.Srtd lt m → l.Perm m → l = m
  | [], m, _, _, h => (List.Perm.eq_nil h.symm).symm
  | x :: l, [], _, _, h => absurd h.length_eq (by simp)
  | x :: l, y :: m, hl, hm, h => by
    obtain ⟨a1, a2⟩ := List.pairwise_cons.mp hl
    obtain ⟨b1, b2⟩ := List.pairwise_cons.mp hm
    have e : x = y := by
      rcases List.mem_cons.mp (h.mem_iff.mp (List.mem_cons_self (a := x) (l := l))) with e | hx
      · exact e
      · rcases List.mem_cons.mp (h.mem_iff.mpr (List.mem_cons_self (a := y) (l := m))) with e | hy
        · exact e.symm
        · exact tri x y (b1 x hx) (a1 y hy)
    subst e
    rw [srt_uniq tri a2 b2 h.cons_inv]
theorem isort_of {lt : α → α → Bool} (O : SrtO.Swo lt) (tri : ∀ a b, lt a b = false → lt b a = false → a = b) {l m : List α} (h : SrtO.Srtd lt l) (p : l.Perm m) : l = isort lt m :=
  srt_uniq tri h (isort_srt O m) (p.trans (isort_perm lt m).symm)
end
def ltI (a b : Int) : Bool := decide (a < b)
theorem swo_I : SrtO.Swo ltI := ⟨fun x y h => by simp only [ltI, decide_eq_true_eq, decide_eq_false_iff_not] at h ⊢; omega, fun x y z h1 h2 => by simp only [ltI, decide_eq_false_iff_not] at h1 h2 ⊢; omega⟩
theorem tri_I (a b : Int) (h : ltI a b = false) (h2 : ltI b a = false) : a = b := by simp only [ltI, decide_eq_false_iff_not] at h h2; omega
abbrev sortI : List Int → List Int := isort ltI
abbrev sortK : List (List Key) → List (List Key) := isort fun a b => ltKs a b
theorem sortK_of {l m : List (List Key)} (h : SrtO.Srtd (fun a b => ltKs a b) l) (p : l.Perm m) : l = sortK m := isort_of (swo_keys fun a => a) (fun a b => ltKs_tri) h p
def keyP (k : List Key) : PD := .tuple (k.map keyD)
def allKeys : List PD → Option (List (List Key))
  | [] => some []
  | d :: ds => match keyT? d, allKeys ds with
    | some k, some ks => some (k :: ks)
    | _, _ => none
def likeAll (ks : List (List Key)) : Bool := ks.all fun a => !a.isEmpty && ks.all fun b => likeK a b
theorem likeAll_ok {ks : List (List Key)} (h : likeAll ks = true) : (∀ a ∈ ks, a ≠ []) ∧ ∀ a ∈ ks, ∀ b ∈ ks, likeK a b = true := by
  unfold likeAll at h
  rw [List.all_eq_true] at h
  refine ⟨fun a ha e => ?_, fun a ha b hb => ?_⟩
  · have := h a ha
    rw [e] at this
    simp at this
  · have := h a ha
    rw [Bool.and_eq_true, List.all_eq_true] at this
    exact this.2 b hb
theorem keyOf_of {d : PD} {k : Key} (h : keyOf d = some k) : d = keyD k := keyD_of h
theorem keysOf_of : ∀ {ds : List PD} {ks : List Key}, keysOf ds = some ks → ds = ks.map keyD
  | [], ks, h => by cases h; rfl
  | d :: ds, ks, h => by
    unfold keysOf at h
    split at h
    · rename_i k ks' e1 e2
      cases h
      rw [keyD_of e1, keysOf_of e2]; rfl
    · cases h
theorem keyT_of {d : PD} {k : List Key} (h : keyT? d = some k) : d = keyP k := by
  unfold keyT? at h
  split at h
  · rw [keysOf_of h]; rfl
  · cases h
theorem allKeys_of : ∀ {ds : List PD} {ks : List (List Key)}, allKeys ds = some ks → ds = ks.map keyP
  | [], ks, h => by cases h; rfl
  | d :: ds, ks, h => by
    unfold allKeys at h
    split at h
    · rename_i k ks' e1 e2
      cases h
      rw [keyT_of e1, allKeys_of e2]; rfl
    · cases h
theorem keysOf_map : ∀ ks : List Key, keysOf (ks.map keyD) = some ks
  | [] => rfl
  | k :: ks => by
    rw [List.map_cons]
    unfold keysOf
    rw [keyOf_keyD, keysOf_map ks]
theorem keyT_keyP (k : List Key) : keyT? (keyP k) = some k := keysOf_map k
theorem allKeys_map : ∀ ks : List (List Key), allKeys (ks.map keyP) = some ks
  | [] => rfl
  | k :: ks => by
    rw [List.map_cons]
    unfold allKeys
    rw [keyT_keyP, allKeys_map ks]
def sortedD : List PD → R PD
  | [.list ds] => match asInts ds with
    | some ns => .ok (.list ((sortI ns).map PyData.int))
    | none => match allKeys ds with
      | some ks => if likeAll ks = true then .ok (.list ((sortK ks).map keyP)) else .bad
      | none => .bad
  | _ => .bad
def rSort2 (K : PySem.W.Frag) : List V → Hp → VK → Prop := fun vs H Q => rSortedI K vs H Q ∨ rSortedK K vs H Q
theorem cr_sort2 {X : Cx} : CallR X (.builtin "sorted") (rSort2 X.K) := fun pins s σ H vs us Q I r h => h.elim (cr_sortedI pins s σ H vs us Q I r) (cr_sortedK pins s σ H vs us Q I r)
section
variable {K : PySem.W.Frag} {W : WX}
def backK : V → Key
  | .int i => .inl i
  | .str x => .inr x
  | _ => .inl 0
theorem backK_kV (k : Key) : backK (kV k) = k := by cases k <;> rfl
/-- a value's keys, by the heap -/
def keysAt (H : Hp) : V → List Key
  | .ref t => match H t with
    | some (.tup vs) => vs.map backK
    | _ => []
  | _ => []
theorem keysAt_of {H : Hp} {t : Addr} {k : List Key} (h : H t = some (.tup (k.map kV))) : keysAt H (.ref t) = k := by
  have e : keysAt H (.ref t) = (match H t with | some (.tup vs) => vs.map backK | _ => []) := rfl
  rw [e, h]
  show (k.map kV).map backK = k
  rw [List.map_map]
  have : (backK ∘ kV) = id := funext backK_kV
  rw [this, List.map_id]
theorem dp_keys {H : Hp} : ∀ {vs : List V} {ks : List (List Key)}, DpAll K H vs (ks.map keyP) → (∀ v ∈ vs, ∃ t k, k ∈ ks ∧ v = .ref t ∧ H t = some (.tup (k.map kV))) ∧ vs.map (keysAt H) = ks
  | [], [], .nil => ⟨fun v h => by (cases h), rfl⟩
  | v :: vs, k :: ks, .cons r rs => by
    obtain ⟨a, b⟩ := dp_keys rs
    obtain ⟨t, e, ht⟩ := key_t r (keyT_keyP k)
    refine ⟨fun u hu => ?_, ?_⟩
    · rcases List.mem_cons.mp hu with z | z
      · rw [z]; exact ⟨t, k, List.mem_cons_self, e, ht⟩
      · obtain ⟨t', k', z1, z2⟩ := a u z
        exact ⟨t', k', List.mem_cons_of_mem _ z1, z2⟩
    · rw [List.map_cons, b, e, keysAt_of ht]
theorem dp_of_keys {F : Hp} : ∀ {bs : List Addr} {ks : List (List Key)}, Paired (fun k b => F b = some (.tup (k.map kV))) ks bs → DpAll K F (bs.map V.ref) (ks.map keyP)
  | _, _, .nil => .nil
  | _, _, .cons (a := k) h t => .cons (.tup h (by
      induction k with
      | nil => exact .nil
      | cons k ks ih => exact .cons (key_dp k) (dpk ks)) ) (dp_of_keys t)
where dpk : ∀ {F : Hp} (ks : List Key), DpAll K F (ks.map kV) (ks.map keyD)
  | _, [] => .nil
  | _, k :: ks => .cons (key_dp k) (dpk ks)
theorem perm_ref {H : Hp} : ∀ {ys : List V}, (∀ v ∈ ys, ∃ t k, v = V.ref t ∧ H t = some (.tup (List.map kV k))) → ∃ bs : List Addr, ys = bs.map V.ref ∧ Paired (fun k b => H b = some (.tup (k.map kV))) (ys.map (keysAt H)) bs
  | [], _ => ⟨[], rfl, .nil⟩
  | y :: ys, h => by
    obtain ⟨bs, e, p⟩ := perm_ref fun v hv => h v (List.mem_cons_of_mem _ hv)
    obtain ⟨t, k, e2, ht⟩ := h y List.mem_cons_self
    refine ⟨t :: bs, by rw [e2, e]; rfl, .cons ?_ p⟩
    show H t = some (.tup (List.map kV (keysAt H y)))
    rw [e2, keysAt_of ht]; exact ht
theorem rco_sorted : RCo K (rSort2 K) sortedD := fun W σ F H vs ds Q s rs q => by
  unfold sortedD at q
  split at q
  · obtain ⟨v, rfl, rv⟩ := rs.one
    obtain ⟨p, us, rfl, s1, r1⟩ := rv.list s
    split at q
    · rename_i ns e
      have ed := asInts_ok e
      subst ed
      have eu := r1.of_ints
      subst eu
      refine .inl ⟨p, ns, rfl, .inl s1, fun ns' D hp hs hD => ?_⟩
      have : ns' = sortI ns := isort_of swo_I tri_I (hs.imp fun {a b} h => by simp only [ltI, decide_eq_false_iff_not]; omega) hp
      rw [this]
      exact q F _ (Ext.own s hD) D hD (s.free hD) ⟨_, upd_same, DpAll.ints⟩
    · split at q
      · rename_i ks e
        have ed := allKeys_of e
        subst ed
        split at q
        · rename_i hl
          obtain ⟨l1, l2⟩ := likeAll_ok hl
          have rH := r1.mono s
          obtain ⟨a1, a2⟩ := dp_keys rH
          refine .inr ⟨p, us, keysAt H, rfl, .inl s1, fun x hx => ?_, fun x hx y hy => ?_, fun ys D h1 h2 hD => ?_⟩
          · obtain ⟨t, k, hk, e2, ht⟩ := a1 x hx
            rw [e2, keysAt_of ht]
            exact ⟨l1 k hk, t, rfl, ht⟩
          · obtain ⟨t, k, hk, e2, ht⟩ := a1 x hx
            obtain ⟨t', k', hk', e2', ht'⟩ := a1 y hy
            rw [e2, e2', keysAt_of ht, keysAt_of ht']
            exact l2 k hk k' hk'
          · obtain ⟨bs, eb, pb⟩ := perm_ref (H := H) (ys := ys) fun v hv => by
              obtain ⟨t, k, _, e2, ht⟩ := a1 v (h2.mem_iff.mp hv)
              exact ⟨t, k, e2, ht⟩
            have ek : ys.map (keysAt H) = sortK ks := sortK_of (SrtO.srtd_map h1) (by rw [← a2]; exact h2.map _)
            rw [ek] at pb
            subst eb
            refine q _ _ (Ext.tups s (Ext.own s hD).h) D hD (frz_none (s.free hD) upd_same nt_lst) ⟨_, upd_same, dp_of_keys ?_⟩
            have up : ∀ {k : List Key} {b : Addr}, H b = some (.tup (k.map kV)) → frzF F (upd H D (.lst (bs.map V.ref))) [] b = some (.tup (k.map kV)) := fun {k b} hb =>
              frz_keep.tup (by rw [upd_ne (ne_of_none hb hD)]; exact hb)
            clear ek h1 h2
            generalize sortK ks = kz at pb
            generalize frzF F (upd H D (.lst (bs.map V.ref))) [] = G at up
            induction pb with
            | nil => exact .nil
            | cons h _ ih => exact .cons (up h) ih
        · exact q.elim
      · exact q.elim
  · exact q.elim
theorem kvt_keys {F : Hp} {es : List (List Key × V)} {kvs : List (List Key × PD)} (r : KvT K F es kvs) : es.map (·.1) = kvs.map (·.1) := by
  unfold KvT at r
  induction r with
  | nil => rfl
  | cons a _ ih => rw [List.map_cons, List.map_cons, ih, a.1]
/-- sorted(d), its keys tuples -/
def oSortT (i : Nat) : Rho → R PD := fun ρ => (tAt ρ i).bind fun kvs => if likeAll (kvs.map (·.1)) = true then .ok (.list ((sortK (kvs.map (·.1))).map keyP)) else .bad
theorem to_sortT (i : Nat) : TDo K W (tCB rSortedDT (tCons (tVar i) tNil)) (oSortT i) := fun F0 H0 F H σ ρ Q S q => by
  unfold oSortT at q
  rcases tAt_x ρ i with ⟨kvs, e⟩ | e
  · rw [e] at q
    obtain ⟨_, p, es, hs, rd, r⟩ := tAt_ok S e
    have q : Fin K W σ F H (if likeAll (kvs.map (·.1)) = true then .ok (.list ((sortK (kvs.map (·.1))).map keyP)) else .bad) (OwQ K H Q) := q
    split at q
    · rename_i hl
      obtain ⟨l1, l2⟩ := likeAll_ok hl
      have ee : es.map (·.1) = kvs.map (·.1) := by
        exact kvt_keys r
      refine ⟨.ref p, hs, p, es, rfl, rd, fun a ha => ?_, fun a ha b hb => ?_, fun bs ks D h1 h2 h3 hD => ?_⟩
      · exact l1 _ (by rw [← ee]; exact List.mem_map_of_mem ha)
      · exact l2 _ (by rw [← ee]; exact List.mem_map_of_mem ha) _ (by rw [← ee]; exact List.mem_map_of_mem hb)
      · have ek : ks = sortK (kvs.map (·.1)) := sortK_of h1 (by rw [← ee]; exact h2)
        have sm := S.same
        refine q _ _ (Ext.tups sm (Ext.own sm hD).h) D hD (frz_none (sm.free hD) upd_same nt_lst) ⟨_, upd_same, ?_⟩
        rw [← ek]
        refine dp_of_keys ?_
        have up : ∀ {k : List Key} {b : Addr}, H b = some (.tup (k.map kV)) → frzF F (upd H D (.lst (bs.map V.ref))) [] b = some (.tup (k.map kV)) := fun {k b} hb =>
          frz_keep.tup (by rw [upd_ne (ne_of_none hb hD)]; exact hb)
        clear ek h1 h2
        generalize frzF F (upd H D (.lst (bs.map V.ref))) [] = G at up
        induction h3 with
        | nil => exact .nil
        | cons h _ ih => exact .cons (up h) ih
    · exact q.elim
  · rw [e] at q; exact q.elim
end
end DL
/-! More of lists and dicts; op=; defs that call themselves. -/
namespace DL
open PySem PySem.Spec PyProof.Rows L2
section
variable {K : PySem.W.Frag} {W : WX} {te tf : TE} {g gi gf : Rho → R PD}
/-! ### sorted(d.items()) -/
def pairKs : List (PD × PD) → Option (List (Key × Key))
  | [] => some []
  | p :: r => match keyOf p.1, keyOf p.2, pairKs r with
    | some a, some b, some l => some ((a, b) :: l)
    | _, _, _ => none
theorem pairKs_kv {F : Hp} : ∀ {es : List (Key × V)} {kvs : List (PD × PD)} {l : List (Key × Key)}, KvR K F keyD es kvs → pairKs kvs = some l → es = l.map en2
  | _, _, l, .nil, h => by cases h; rfl
  | _, _, l, .cons r t, h => by
    unfold pairKs at h
    split at h
    · rename_i a b l' e1 e2 e3
      cases h
      rw [pairKs_kv t e3]
      have e2 := keyD_of e2
      simp only at e2
      rw [e2] at r
      have := key_rp (H := F) (.inl r)
      subst this
      rw [show keyOf _ = keyOf (keyD _) from rfl, keyOf_keyD] at e1
      cases e1
      rfl
    · cases h
def oSortIt (i : Nat) : Rho → R PD := fun ρ => match ρ[i]? with
  | some (some (.t (.own (.dict kvs)))) => (match pairKs kvs with
    | some l => if likeAll (l.map pr2) = true then .ok (.list ((sortK (l.map pr2)).map keyP)) else .bad
    | none => .bad)
  | _ => .bad
theorem to_sortIt (i : Nat) : TDo K W (tCB rSortedItK (tCons (tBM0 K "dict" rItemsK (tVar i)) tNil)) (oSortIt i) := fun F0 H0 F H σ ρ Q S q => by
  unfold oSortIt at q
  split at q
  · rename_i kvs ei
    obtain ⟨p, hs, _, _, es, hh, r⟩ := S.own i _ ei
    split at q
    · rename_i l el
      have ee := pairKs_kv r el
      subst ee
      split at q
      · rename_i hl
        obtain ⟨l1, l2⟩ := likeAll_ok hl
        refine ⟨.ref p, hs, .inr (.inr (.inl ⟨rfl, .inl ⟨_, hh⟩⟩)), p, _, rfl, rfl, hh, fun v hv => ?_⟩
        have hpv : p ≠ v := fun z => by subst z; rw [hh] at hv; cases hv
        refine ⟨v, p, l, rfl, upd_same, by rw [upd_ne hpv]; exact hh, fun x hx y hy => l2 _ (List.mem_map_of_mem hx) _ (List.mem_map_of_mem hy), fun H' bs ks D hk h1 h2 h3 hnew hD => ?_⟩
        have ek : ks = sortK (l.map pr2) := sortK_of h1 h2
        have sm : Same F H := S.same
        have e1 : Same H (upd H v (DX.itemsO v p)) := fun a u z => by rw [upd_ne (ne_of_none z hv)]; exact z
        have e2 : Same H (upd H' D (.lst (bs.map V.ref))) := fun a u z => by
          have := hk _ _ (e1 a u z)
          rw [upd_ne (ne_of_none this hD)]; exact this
        have hHD : H D = none := by
          cases z : H D with
          | none => rfl
          | some u => have := hk _ _ (e1 _ _ z); rw [hD] at this; cases this
        refine q _ _ (Ext.tups sm e2) D hHD (frz_none (sm.free hHD) upd_same nt_lst) ⟨_, upd_same, ?_⟩
        rw [← ek]
        refine dp_of_keys ?_
        have up : ∀ {k : List Key} {b : Addr}, H' b = some (.tup (k.map kV)) → frzF F (upd H' D (.lst (bs.map V.ref))) [] b = some (.tup (k.map kV)) := fun {k b} hb =>
          frz_keep.tup (by rw [upd_ne (ne_of_none hb hD)]; exact hb)
        clear ek h1 h2 hnew e2
        generalize frzF F (upd H' D (.lst (bs.map V.ref))) [] = G at up
        induction h3 with
        | nil => exact .nil
        | cons h _ ih => exact .cons (up h) ih
      · exact q.elim
    · exact q.elim
  · exact q.elim

/-! ### extend, insert, index -/
def rExtendR : V → List V → Hp → VK → Prop := fun x vs H Q => ∃ l b xs zs, x = .ref l ∧ vs = [.ref b] ∧ H l = some (.lst xs) ∧ Rd H b (.lst zs) ∧ xs.length + zs.length ≤ sizeLine ∧ Q .non (upd H l (.lst (xs ++ zs)))
theorem mt_extendR {X : Cx} : MtR X "list.extend" rExtendR := by
  intro pins s σ H x vs v us Q I rx rv h
  obtain ⟨l, b, xs, zs, rfl, rfl, hH, hB, hz, q⟩ := h
  cases rx
  obtain ⟨u, rfl, ru⟩ := rv.one
  cases ru
  obtain ⟨z, its, n, r, hl, e⟩ := I.lstM hH
  obtain ⟨z2, its2, n2, r2, e2⟩ := hB.ok I.hok
  have hl2 := r2.length
  have hsz : its.toArray.size + its2.toArray.size ≤ sizeLine := by rw [List.size_toArray, List.size_toArray]; omega
  have hlong : ¬ (!its.toArray.isEmpty && Builtin.List.listTooLong (its.toArray.size + its2.toArray.size)) = true := by
    rw [notLongL hsz, Bool.and_false]
    exact Bool.false_ne_true
  refine call_meets F.slot_list_extend ⟨_, e, rfl⟩ F.entry_list_extend (F.args_list_extend_2 _ _)
    (AutoSeq1.list_extend_list_list_0 l its.toArray n b its2.toArray n2 hlong (by rw [List.size_toArray]; omega) (by omega)) ⟨e, e2, ?_⟩
  refine ⟨.non, _, I.lset (its' := its ++ its2) hH e (by simp) (r.append r2) ?_, rfl, q⟩
  rw [List.length_append]
  omega
def extS (ρ : Rho) (i : Nat) (ds : List PD) : PD → SR
  | .list es => if ds.length + es.length ≤ sizeLine then .nx (ρ.set i (some (.o (.list (ds ++ es))))) else .bad
  | _ => .bad
def sExtend (i : Nat) (g : Rho → R PD) : Rho → SR := fun ρ => ownL ρ i fun ds => SR.of (g ρ) fun x => extS ρ i ds x
theorem ds_extend (i : Nat) (h : TDr K W te g) : TDS K W (tDrop (tBM K "list" rExtendR (tVar i) (tCons te tNil))) (sExtend i g) := fun F0 H0 F H σ ρ D S q => by
  obtain ⟨p, ds, vs, h1, h2, h3, h4, k⟩ := ownL_k S q
  refine ⟨.ref p, h2, .inl ⟨rfl, vs, SqL.of h3⟩, h F0 H0 F H σ ρ _ S (k.of S.ext fun x F1 H1 e1 k v rv => ?_)⟩
  unfold extS at k
  split at k
  · rename_i es
    split at k
    · rename_i hl
      obtain ⟨b, us, rfl, s1, r1⟩ := rv.list e1.g
      refine ⟨p, b, vs, us, rfl, rfl, e1.h p _ h3, s1, by rw [h4.length, r1.length]; exact hl, ?_⟩
      exact k σ F1 _ ((S.go e1).mut h1 h2 ⟨_, upd_same, (h4.mono e1.f).append r1⟩)
    · exact k.elim
  · exact k.elim
def insS (ρ : Rho) (i : Nat) (ds : List PD) (y : PD) : PD → SR
  | .int n => if ds.length < sizeLine ∧ 0 ≤ n ∧ n < 2 ^ 63 then .nx (ρ.set i (some (.o (.list (ds.take n.toNat ++ [y] ++ ds.drop n.toNat))))) else .bad
  | _ => .bad
def sInsertD (i : Nat) (gi g : Rho → R PD) : Rho → SR := fun ρ => ownL ρ i fun ds => SR.of (gi ρ) fun n => SR.of (g ρ) fun y => insS ρ i ds y n
theorem ds_insertD (i : Nat) {ti : TE} (hi : TDe K W ti gi) (h : TDe K W te g) : TDS K W (tDrop (tBM K "list" (fun x vs H Q => ∃ (l : Addr) (xs : List V) (i : Int) (y : V), x = .ref l ∧ vs = [.int i, y] ∧ H l = some (.lst xs) ∧ xs.length < sizeLine ∧ 0 ≤ i ∧ i < 2 ^ 63 ∧
    Q .non (upd H l (.lst (xs.take i.toNat ++ [y] ++ xs.drop i.toNat)))) (tVar i) (tCons ti (tCons te tNil)))) (sInsertD i gi g) := fun F0 H0 F H σ ρ D S q => by
  obtain ⟨p, ds, vs, h1, h2, h3, h4, k⟩ := ownL_k S q
  refine ⟨.ref p, h2, .inl ⟨rfl, vs, SqL.of h3⟩, hi F0 H0 F H σ ρ _ S (k.of S.ext fun n F1 H1 e1 k0 u ru => ?_)⟩
  have S1 := S.go e1
  refine h F0 H0 F1 H1 σ ρ _ S1 (FinS.of S1.ext k0 fun x F2 H2 e2 k v rv => ?_)
  clear k0
  unfold insS at k
  split at k
  · rename_i n
    split at k
    · rename_i hl
      have ru := (Rp.int (F := F1) (H := H1) (.inl ru))
      refine ⟨p, vs, n, v, rfl, by rw [ru], e2.h _ _ (e1.h p _ h3), by rw [h4.length]; exact hl.1, hl.2.1, hl.2.2, ?_⟩
      have e12 := e1.trans e2
      exact k σ F2 _ ((S.go e12).mut h1 h2 ⟨_, upd_same, (((h4.mono e12.f).take _).append (.cons rv .nil)).append ((h4.mono e12.f).drop _)⟩)
    · exact k.elim
  · exact k.elim
/-- list.index of plain things -/
def idxD (a b : PD) : R PD := match a with
  | .list ds => if flatP b = true ∧ ds.all flatP = true then (match ds.findIdx? (fun d => eqF d b) with | some j => .ok (.int (j : Nat)) | none => .bad) else .bad
  | _ => .bad
def listOf (a : PD) (k : R PD) : R PD := match a with
  | .list _ => k
  | _ => .bad
def eIndex (g gf : Rho → R PD) : Rho → R PD := fun ρ => (g ρ).bind fun a => listOf a ((gf ρ).bind fun b => idxD a b)
theorem td_index (h : TDr K W te g) (hf : TDr K W tf gf) : TDe K W (tBM K "list" (rIndex K) te (tCons tf tNil)) (eIndex g gf) := fun F0 H0 F H σ ρ Q S q =>
  h F0 H0 F H σ ρ _ S (q.then fun a F1 H1 e1 k1 v rv => by
    cases a with
    | list ds =>
      obtain ⟨p, vs, rfl, s1, r1⟩ := rv.list e1.g
      refine ⟨.inl ⟨rfl, vs, .inl s1⟩, hf F0 H0 F1 H1 σ ρ _ (S.go e1) (k1.then fun b F2 H2 e2 k2 u ru => ?_)⟩
      have k2 : Fin K W σ F2 H2 (if flatP b = true ∧ ds.all flatP = true then (match ds.findIdx? (fun d => eqF d b) with | some j => R.ok (PyData.int (j : Nat)) | none => .bad) else .bad) (DpQ K Q) := k2
      by_cases hfl : flatP b = true ∧ ds.all flatP = true
      · rw [if_pos hfl] at k2
        cases ej : ds.findIdx? (fun d => eqF d b) with
        | none => rw [ej] at k2; exact k2.elim
        | some j =>
          rw [ej] at k2
          obtain ⟨hj, hj1, hj2⟩ := List.findIdx?_eq_some_iff_getElem.mp ej
          have r2 := r1.mono e2.f
          have ej' : ds[j]? = some ds[j] := List.getElem?_eq_getElem hj
          obtain ⟨z, hz, rz⟩ := r2.get' ej'
          have fl : ∀ (m : Nat) (d : PD), ds[m]? = some d → flatP d = true := fun m d hm => List.all_eq_true.mp hfl.2 d (List.mem_of_getElem? hm)
          refine ⟨p, vs, u, j, z, rfl, rfl, .inl (rdM e2.h s1), flat_ok ru hfl.1, flats_ok r2 hfl.2, hz, ?_, fun m z' hm hz' => ?_, Fin.okk (x := PyData.int (j : Nat)) K W σ e2.g k2 _ (.int _)⟩
          · rw [eqV_ok rz ru (fl _ _ ej') hfl.1]; exact hj1
          · obtain ⟨d, hd, rd⟩ := r2.get hz'
            rw [eqV_ok rd ru (fl _ _ hd) hfl.1]
            have hml : m < ds.length := (List.getElem?_eq_some_iff.mp hd).1
            have := hj2 m hm
            rw [(List.getElem?_eq_some_iff.mp hd).2] at this
            simpa using this
      · rw [if_neg hfl] at k2
        exact k2.elim
    | _ => exact k1.elim)

/-! ### list * int -/
def repL : PD → PD → R PD
  | .list ds, .int k => if -(2 ^ 63) ≤ k ∧ k < 2 ^ 63 ∧ ds.length * k.toNat ≤ sizeLine then .ok (.list (List.replicate k.toNat ds).flatten) else .bad
  | _, _ => .bad
theorem DpAll.rep {F : Hp} {vs : List V} {ds : List PD} (r : DpAll K F vs ds) : ∀ n : Nat, DpAll K F (List.replicate n vs).flatten (List.replicate n ds).flatten
  | 0 => .nil
  | n + 1 => by rw [List.replicate_succ, List.replicate_succ, List.flatten_cons, List.flatten_cons]; exact r.append (DpAll.rep r n)
theorem to_rep {ta tb : TE} {ga gb : Rho → R PD} (ha : TDo K W ta ga) (hb : TDr K W tb gb) : TDo K W (tOp rRep ta tb) (eOp repL ga gb) := fun F0 H0 F H σ ρ Q S q =>
  ha F0 H0 F H σ ρ _ S (by
    unfold eOp at q
    cases ea : ga ρ with
    | exc c => rw [ea] at q; exact q
    | bad => rw [ea] at q; exact q
    | ok a =>
      rw [ea] at q
      replace q : Fin K W σ F H ((gb ρ).bind fun b => repL a b) (OwQ K H Q) := q
      intro F1 H1 e1 p hp hf ho
      refine hb F0 H0 F1 H1 σ ρ _ (S.go e1) ?_
      cases eb : gb ρ with
      | exc c => rw [eb] at q; exact Fin.mono e1 (r := (.exc c : R PD)) q
      | bad => rw [eb] at q; exact q
      | ok b =>
        rw [eb] at q
        intro F2 H2 e2 u ru
        have q2 : Fin K W σ F2 H2 (repL a b) (OwQ K H Q) := Fin.mono (e1.trans e2) q
        unfold repL at q2
        split at q2
        · rename_i ds k
          split at q2
          · rename_i h
            obtain ⟨vs, hv, r⟩ := ho
            refine ⟨p, k, vs, rfl, ru.int, e2.h _ _ hv, h.1, h.2.1, by rw [r.length]; exact h.2.2, fun D hD => ?_⟩
            have e12 := e1.trans e2
            have e3 := Ext.own (o := .lst (List.replicate k.toNat vs).flatten) e2.g hD
            exact q2 _ _ e3 D (e12.h.free hD) (e2.g.free hD) ⟨_, upd_same, (r.mono e2.f).rep _⟩
          · exact q2.elim
        · exact q2.elim)

/-! ### op= on ints, on texts -/
def sAug (i : Nat) (f : PD → PD → R PD) (g : Rho → R PD) : Rho → SR := fun ρ => SR.of (eVar i ρ) fun a => SR.of (g ρ) fun b => SR.of (f a b) fun z => .nx (ρ.set i (some (.d z)))
def RAug (K : PySem.W.Frag) (ti : TIp) (f : PD → PD → R PD) : Prop := ∀ (W : WX) (σ : L2.St) (F H : Hp) (x y : V) (a b : PD) (Q : VK), Same F H → Dp K F x a → Rp K F H y b → Fin K W σ F H (f a b) (DpQ K Q) → ti x y H Q
theorem ds_aug (i : Nat) {ti : TIp} {f : PD → PD → R PD} (hr : RAug K ti f) (h : TDr K W te g) : TDS K W (tAug i te ti) (sAug i f g) := fun F0 H0 F H σ ρ D S q => by
  unfold sAug eVar at q
  split at q
  · rename_i x e
    obtain ⟨v, a, b⟩ := S.dat i x e
    replace q : FinS K W F0 H0 D (SR.of (g ρ) fun b => SR.of (f x b) fun z => .nx (ρ.set i (some (.d z)))) := q
    refine ⟨v, a, h F0 H0 F H σ ρ _ S (q.of S.ext fun y F1 H1 e1 k u ru => ?_)⟩
    have S1 := S.go e1
    refine hr W σ F1 H1 v u x y _ e1.g (b.mono e1.f) ru (FinS.of S1.ext k fun z F2 H2 e2 k2 w rw' => ?_)
    exact k2 _ F2 H2 ((S1.go e2).setD rw')
  · exact q.elim
def iaddD : PD → PD → R PD := fun a b => match a, b with | .int i, .int j => .ok (.int (i + j)) | _, _ => .bad
def isubD : PD → PD → R PD := fun a b => match a, b with | .int i, .int j => .ok (.int (i - j)) | _, _ => .bad
theorem rd_iadd : RAug K (ipI fun i j => i + j) iaddD := fun W σ F H x y a b Q s ra rb q => by
  unfold iaddD at q
  split at q
  · exact ⟨_, _, (Rp.int (F := F) (H := H) (.inl ra)), rb.int, q.ok s _ (.int _)⟩
  · exact q.elim
theorem rd_isub : RAug K (ipI fun i j => i - j) isubD := fun W σ F H x y a b Q s ra rb q => by
  unfold isubD at q
  split at q
  · exact ⟨_, _, (Rp.int (F := F) (H := H) (.inl ra)), rb.int, q.ok s _ (.int _)⟩
  · exact q.elim

/-! ### ranges as lists and tuples -/
variable {ta tb : TE} {ga gb : Rho → R PD}
def rgOk (a b : Int) : Bool := decide (-(2 ^ 62) ≤ a) && decide (a < 2 ^ 62) && decide (-(2 ^ 62) ≤ b) && decide (b < 2 ^ 62) && decide ((b - a).toNat ≤ 2 ^ 24)
theorem rgOk_ok {a b : Int} (h : rgOk a b = true) : RgOk a b := by
  unfold rgOk at h
  simp only [Bool.and_eq_true, decide_eq_true_eq] at h
  exact ⟨h.1.1.1.1, h.1.1.1.2, h.1.1.2, h.1.2, h.2⟩
theorem rg_dp {F : Hp} (a b : Int) : DpAll K F (rgV a b) (rngD a (b - a).toNat) := by
  unfold rgV rngD
  generalize List.range (b - a).toNat = l
  induction l with
  | nil => exact .nil
  | cons x l ih => exact .cons (.int _) ih
def rgT : PD → PD → R PD
  | .int a, .int b => if rgOk a b = true then .ok (.tuple (rngD a (b - a).toNat)) else .bad
  | _, _ => .bad
def rgL : PD → PD → R PD
  | .int a, .int b => if rgOk a b = true then .ok (.list (rngD a (b - a).toNat)) else .bad
  | _, _ => .bad
theorem td_tupRg2 (ha : TDr K W ta ga) (hb : TDr K W tb gb) : TDe K W (tTupRg (tRg2 ta tb)) (eOp rgT ga gb) := fun F0 H0 F H σ ρ Q S q =>
  ha F0 H0 F H σ ρ _ S (q.then fun a F1 H1 e1 k1 v rv => hb F0 H0 F1 H1 σ ρ _ (S.go e1) (k1.then fun b F2 H2 e2 k2 u ru => by
    unfold rgT at k2
    split at k2
    · split at k2
      · rename_i h
        exact ⟨_, _, rv.int, ru.int, rgOk_ok h, fun D hD => new_tup e2.g (rg_dp _ _) k2 hD⟩
      · exact k2.elim
    · exact k2.elim))
theorem td_tupRg1 (ha : TDr K W ta ga) : TDe K W (tTupRg (tRg1 ta)) (eUn (rgT (.int 0)) ga) := fun F0 H0 F H σ ρ Q S q =>
  ha F0 H0 F H σ ρ _ S (q.then fun a F1 H1 e1 k1 v rv => by
    unfold rgT at k1
    split at k1
    · rename_i z1 z2
      injection z2 with z2
      subst z2
      split at k1
      · rename_i h
        exact ⟨_, rv.int, rgOk_ok h, fun D hD => new_tup e1.g (rg_dp _ _) k1 hD⟩
      · exact k1.elim
    · exact k1.elim)
theorem to_lstRg1 (ha : TDr K W ta ga) : TDo K W (tLstRg (tRg1 ta)) (eUn (rgL (.int 0)) ga) := fun F0 H0 F H σ ρ Q S q =>
  ha F0 H0 F H σ ρ _ S (by
    unfold eUn at q
    cases ea : ga ρ with
    | exc c => rw [ea] at q; exact q
    | bad => rw [ea] at q; exact q
    | ok a =>
      rw [ea] at q
      replace q : Fin K W σ F H (rgL (.int 0) a) (OwQ K H Q) := q
      unfold rgL at q
      split at q
      · rename_i z1 z2
        injection z2 with z2
        subst z2
        split at q
        · rename_i h
          intro F1 H1 e1 v rv
          exact ⟨_, rv.int, rgOk_ok h, fun D hD => q F1 _ (e1.trans (Ext.own e1.g hD)) D (e1.h.free hD) (e1.g.free hD) ⟨_, upd_same, rg_dp _ _⟩⟩
        · exact q.elim
      · exact q.elim)

/-! ### defs that call themselves -/
theorem kept_bad {P : Program} {w : World} {mg : Str → Option Value} {base : Heap} {x : Str} {params : Arguments} {body : List Stmt} {scope : Scope} {ps : List Str} {k n : Nat}
    (hF : ∃ fd : FuncData, FunD K x x params body scope [] [] (He.ga K x) fd) (hg : mg x = some (.ref (He.ga K x))) (hn : ps.length = n)
    (hbd : ∀ (kV doc pm : Value) (an : Option Addr) (cdv ct : Value) (us : List Value), us.length = ps.length → bindArgs (PySem.W.fnOf x x params body scope .none kV doc pm an cdv ct) ⟨us, []⟩ = pure (ps.zip us)) :
    Kept P w K mg base k n x ps (fun _ => .bad) := by
  obtain ⟨fd, FD⟩ := hF
  subst hn
  exact ⟨fd, FD.kp, hg, FD.bindsN hbd, ⟨fun vs H Q E h => h.1, fun A outer s H args us vs Q E hr _ _ _ hsp => by
    obtain ⟨_, _, _, _, _, hq⟩ := hsp
    exact hq.elim⟩⟩
end
end DL
/-! list(reversed(xs)); reversed(range(..)); defs whose arguments are given away; changes within a tree. -/
namespace DL
section
open PySem PySem.Spec PyProof.Rows L2 RT
variable {prog : Program} {w : World} {A : Around} {E : Value → Shared → Prop} {s : Shared}
theorem extend_rev {R : Result → Shared → Prop} {it l : Addr} {items : Array Value} (hh : A.handled = none) (hit : s.heap.IsRevIter it l ((items.size : Int) - 1)) (hl : s.heap.IsList l items) (hne : l ≠ it) (hn : items.size ≤ sizeLine)
    (S : Addr) (hSi : S ≠ it) (hSl : S ≠ l) (res : Value) (c₀ : Nat) (hS : s.heap.get? S = some { cls := .type "list", data := .seq #[] c₀ })
    (hR : ∀ h' tk acc' c', (∀ b o, b ≠ S → b ≠ it → s.heap.get? b = some o → h'.get? b = some o) → h'.get? S = some { cls := .type "list", dict := none, data := .seq acc' c', slots := #[] } → ItemsOf (fun i v => items[items.size - 1 - i]? = some v) acc' items.size → R (.ok (.ret res)) { s with heap := h', toks := tk }) :
    wpAny (model prog w) A.in1 (Builtin.List.listExtendWith (.ref S) (.ref it) res)
      (fun fin s' => match fin with | .done f => R (.ok f) s' | .again c' => c'.quiet = true ∧ codeAny (model prog w) A c' R s') (fun e s' => R (.error e) s') s := by
  have W := (Walks.listRev (prog := prog) (w := w) (A := A.in1) hh it l hne items).toS
  have hSf : S ∉ [it, l] := by simp only [List.mem_cons, List.not_mem_nil, or_false, not_or]; exact ⟨hSi, hSl⟩
  have hT : s.TypeIs (.ref it) "list_reverseiterator" := Heap.IsRevIter.typeIs hit
  have h1 : Builtin.List.listSameRef (.ref S) (.ref it) = false := by simp [Builtin.List.listSameRef, hSi]
  unfold Builtin.List.listExtendWith
  refine wpAny_bind (wpAny_typeOf hT ?_)
  rw [if_neg (by rw [h1]; decide)]
  refine wpAny_bind (wpAny_pyIter_revIter hit ?_)
  refine wpAny_bind (wpAny_holding ?_)
  unfold Builtin.List.listLengthHint
  refine wpAny_bind (wpAny_specialOf hT nolen_lri ?_)
  show wpAny _ A.in1 (specialOf (Value.ref it) (Str.ofString "__length_hint__") >>= _) _ _ _
  refine wpAny_bind (wpAny_specialOf hT hint_lri ?_)
  generalize hid : ("list_reverseiterator.__length_hint__" : String) = id0
  wp_delta
  rw [show splitId id0 = some ("list_reverseiterator", "__length_hint__") from by subst hid; decide +kernel]
  subst hid
  refine wpAny_bind (wpAny_isInstance (b := true) hT (by rw [isSubtype_type]; kernel_rfl) ?_)
  refine wpAny_pure ?_
  rw [if_neg (by decide)]
  have e0 : ((items.size : Nat) : Int) - 1 - ((0 : Nat) : Int) = (items.size : Int) - 1 := by omega
  refine wpAny_pure ⟨plainId_quiet F.plain_extend_loop _, codeAny_extend_loopS W hn _ hSf _ items.size 0 _ _ _ rfl (Nat.zero_le _) ⟨Nat.zero_le _, by rw [e0]; exact hit, hl⟩ hS (ItemsOf.nil _) fun s' acc' c' hm hS' hacc => ?_⟩
  rw [Moved.eq_with hm]
  refine hR s'.heap s'.toks acc' c' (fun b o hb hb2 e => hm.heap b o (fun hmem => ?_) e) hS' hacc
  rcases List.mem_cons.mp hmem with e' | hmem
  · exact hb e'
  · exact hb2 (List.mem_singleton.mp hmem)
theorem call_list_rev {it l : Addr} {items : Array Value} {Q : Value → Shared → Prop} (hh : A.handled = none) (hit : s.heap.IsRevIter it l ((items.size : Int) - 1)) (hl : s.heap.IsList l items) (hne : l ≠ it) (hn : items.size ≤ sizeLine)
    (hQ : ∀ h' tk acc' c', (∀ b o, b ≠ it → s.heap.get? b = some o → h'.get? b = some o) → h'.get? s.heap.objs.size = some { cls := .type "list", dict := none, data := .seq acc' c', slots := #[] } → ItemsOf (fun i v => items[items.size - 1 - i]? = some v) acc' items.size → Q (.ref s.heap.objs.size) { s with heap := h', toks := tk }) :
    wpAny (model prog w) A (call (.type "list") [.ref it]) Q E s := by
  refine callType_codes (Q₁ := fun obj s₁ => obj = .ref s.heap.objs.size ∧ s₁ = { s with heap := s.heap.push { cls := .type "list", data := .seq #[] } }) PySem.F.called_list (PySem.F.typeCall_list_1 _) PySem.F.entry_list_init
    (code_list_new _ ⟨rfl, rfl⟩) fun obj s₁ h₁ => ?_
  obtain ⟨rfl, rfl⟩ := h₁
  have hS : (s.heap.push { cls := .type "list", data := .seq #[] }).get? s.heap.objs.size = some { cls := .type "list", data := .seq #[] } := Heap.get?_push_size _ rfl
  obtain ⟨oi, hoi, _⟩ := id hit
  obtain ⟨ol, hol, _⟩ := id hl
  have hSi : s.heap.objs.size ≠ it := Nat.ne_of_gt (Heap.lt_size hoi)
  have hSl : s.heap.objs.size ≠ l := Nat.ne_of_gt (Heap.lt_size hol)
  refine ⟨⟨_, hS, rfl⟩, PySem.F.args_list_init_2 _ _, ?_⟩
  show wpAny _ A.in1.in1 (do let old ← Builtin.List.listItems (.ref s.heap.objs.size); Builtin.List.listUpdate (.ref s.heap.objs.size) (fun _ => #[]); letGo old.toList.reverse; Builtin.List.listExtendWith (.ref s.heap.objs.size) (.ref it) .none) _ _ _
  refine wpAny_bind ?_
  unfold Builtin.List.listItems
  refine wpAny_bind (wpAny_seqItems hS rfl (wpAny_pure ?_))
  show wpAny _ _ (updateSeq s.heap.objs.size (fun _ => #[]) >>= fun _ => letGo (#[] : Array Value).toList.reverse >>= fun _ => Builtin.List.listExtendWith (.ref s.heap.objs.size) (.ref it) .none) _ _ _
  refine wpAny_bind (wpAny_updateSeq hS rfl ?_)
  have hS₂ := Heap.get?_update_self (Obj.mapSeq (fun _ => (#[] : Array Value))) hS rfl
  have oth : ∀ b o, b ≠ s.heap.objs.size → s.heap.get? b = some o → ((s.heap.push { cls := .type "list", data := .seq #[] }).update s.heap.objs.size (Obj.mapSeq (fun _ => (#[] : Array Value)))).get? b = some o :=
    fun b o hb e => (Heap.get?_update_other _ _ (Ne.symm hb)).trans (Heap.get?_push_of_some _ e)
  have low : ∀ b o, s.heap.get? b = some o → b ≠ s.heap.objs.size := fun b o e => Nat.ne_of_lt (Heap.lt_size e)
  refine wpAny_bind (wpAny_letGo ?_)
  refine extend_rev (A := A.in1) (s := { s with heap := (s.heap.push { cls := .type "list", data := .seq #[] }).update s.heap.objs.size (Obj.mapSeq (fun _ => (#[] : Array Value))) }) hh (hit.at fun o e => oth _ _ (low _ _ e) e) ?_ hne hn _ hSi hSl .none _ hS₂ fun h' tk acc' c' hk hS' hacc => ?_
  · obtain ⟨o, ho, hc, n, hd⟩ := hl
    exact ⟨o, oth _ _ (low _ _ ho) ho, hc, n, hd⟩
  · exact ⟨rfl, hQ h' tk acc' c' (fun b o hb e => hk b o (low _ _ e) hb (oth b o (low _ _ e) e)) hS' hacc⟩
end
section
open PySem PySem.Spec PyProof.Rows L2 RT
variable {X : Cx}
/-- list(reversed(e)), e a list -/
def tListRev (K : PySem.W.Frag) (te : TE) : TE := fun σ H Q => te σ H fun v H1 => ∃ (a : Addr) (xs : List V), v = .ref a ∧ SqL K H1 a xs ∧ ∀ q, H1 q = none → Q (.ref q) (upd H1 q (.lst xs.reverse))
theorem pe_listRev {e : Expr} {te : TE} {p p2 pos pos2 : Pos} (hc : X.calm = true) (hg : Gl X "list") (hm : X.mg "list" = none) (hg2 : Gl X "reversed") (hm2 : X.mg "reversed" = none) (he : PE X e te)
    (hs : starEach [e] X.env = (false, eval e X.env) :: starEach [] X.env := by rfl)
    (hs2 : starEach [.Call (.Name "reversed" p2) [e] [] pos2] X.env = (false, eval (.Call (.Name "reversed" p2) [e] [] pos2) X.env) :: starEach [] X.env := by rfl) :
    PE X (.Call (.Name "list" p) [.Call (.Name "reversed" p2) [e] [] pos2] [] pos) (tListRev X.K te) := by
  refine ⟨fun pins s σ H Q I h => ?_⟩
  refine Call_ (ld_blt I hg hm boot_list (PyProof.Rows.callWith_type1 (args_cons (Call_ (ld_blt I hg2 hm2 PyProof.Rows.boot_reversed (PyProof.Rows.callWith_type1 (args_cons (thn (he.run pins s σ H _ I h) fun u s1 ⟨v, H1, I1, r1, q1⟩ => args_nil ?_) hs) hs rfl))) hs2) hs2 rfl))
  obtain ⟨a, xs, ev, hq, q⟩ := q1
  subst ev
  obtain rfl : u = Value.ref a := r1
  obtain ⟨its, rv, p', hz⟩ := I1.list hq
  refine call_reversed_list p'.isList (args_nil ?_)
  have k0 : ∀ b o, s1.heap.get? b = some o → (s1.heap.push (revObj a ((its.toArray.size : Int) - 1))).get? b = some o := fun b o e => Heap.get?_push_of_some _ e
  have I2 : Inv X pins σ H1 { s1 with heap := s1.heap.push (revObj a ((its.toArray.size : Int) - 1)) } := I1.kept (t' := s1.toks) k0
  obtain ⟨f0, f1, f2, f3, f4, f5⟩ := I1.fpOk (H' := H1) (b := s1.heap.objs.size) (Nat.le_refl _) (I1.hok.fresh (Nat.le_refl _))
  have hl := p'.isList
  obtain ⟨ol, hol, _⟩ := id hl
  have hne : a ≠ s1.heap.objs.size := Nat.ne_of_lt (Heap.lt_size hol)
  have hn : its.toArray.size ≤ sizeLine := by rw [List.size_toArray, ← rv.length]; exact hz
  refine call_list_rev (s := { s1 with heap := s1.heap.push (revObj a ((its.toArray.size : Int) - 1)) }) (I1.ok.hd hc) ⟨_, Heap.get?_push_size _ rfl, rfl, rfl⟩ (hl.push _) hne hn fun h' tk acc c' hk hS hi => ?_
  have hnT : H1 (s1.heap.push (revObj a ((its.toArray.size : Int) - 1))).objs.size = none := I2.hok.fresh (Nat.le_refl _)
  have I3 := I2.turnedNew (h' := h') (t' := tk) (ch := [s1.heap.objs.size]) (T := (s1.heap.push (revObj a ((its.toArray.size : Int) - 1))).objs.size) (ob := .lst xs.reverse) (fun b o hb e => hk b o (fun z => hb (by rw [z]; exact List.mem_singleton.mpr rfl)) e)
    (fun b hb => by rw [List.mem_singleton.mp hb]; exact ⟨f0, f1, f2, f3, f4, f5⟩) (Nat.le_refl _) ⟨by rw [List.length_reverse]; exact hz, acc.toList, c', vals_rev rv hi, by rw [Array.toArray_toList]; exact hS⟩
  exact ⟨.ref _, _, I3, rfl, q _ hnT⟩
end
section
open PySem PySem.Spec PyProof.Rows L2
variable {K : PySem.W.Frag} {W : WX} {te : TE} {g : Rho → R PD}
def oListRev (g : Rho → R PD) : Rho → R PD := fun ρ => (g ρ).bind fun a => match a with
  | .list l => .ok (.list l.reverse)
  | _ => .bad
theorem DpAll.rev {F : Hp} : ∀ {vs : List V} {ds : List PD}, DpAll K F vs ds → DpAll K F vs.reverse ds.reverse
  | _, _, .nil => .nil
  | _, _, .cons r t => by rw [List.reverse_cons, List.reverse_cons]; exact (DpAll.rev t).append (.cons r .nil)
theorem to_listRev (h : TDr K W te g) : TDo K W (tListRev K te) (oListRev g) := fun F0 H0 F H σ ρ Q S q =>
  h F0 H0 F H σ ρ _ S (by
    unfold oListRev at q
    cases eg : g ρ with
    | exc c => rw [eg] at q; exact q
    | bad => rw [eg] at q; exact q
    | ok a =>
      rw [eg] at q
      cases a with
      | list l =>
        intro F1 H1 e1 v rv
        obtain ⟨p, us, rfl, s1, r1⟩ := rv.list e1.g
        exact ⟨p, us, rfl, .inl s1, fun D hD => (q : ∀ F' H', Ext F H F' H' → OwQ K H Q (.list l.reverse) F' H') F1 _ (e1.trans (Ext.own e1.g hD)) D (e1.h.free hD) (e1.g.free hD) ⟨_, upd_same, DpAll.rev r1⟩⟩
      | _ => exact q.elim)
/-! ### reversed(range(..)) -/
theorem itr_rgRev {F : Hp} {n : Nat} {lo : Int} : ItR K F (rngD lo n).reverse (Itc (lo + ((n : Nat) : Int) - 1) (-1) n) := fun i F1 H1 e1 e2 => by
  have hl : (rngD lo n).length = n := by simp [rngD]
  refine ⟨fun d hd => ?_, fun h => by rw [List.length_reverse, hl] at h; exact h⟩
  have hi : i < n := by
    have := (List.getElem?_eq_some_iff.mp hd).1
    rwa [List.length_reverse, hl] at this
  rw [List.getElem?_reverse (by rw [hl]; exact hi), hl] at hd
  unfold rngD at hd
  rw [List.getElem?_map, List.getElem?_range (by omega)] at hd
  cases hd
  refine ⟨hi, fun x H2 y => ?_⟩
  obtain ⟨rfl, rfl⟩ := y
  refine ⟨F1, Ext.refl e2, ?_⟩
  have e : lo + ((n : Nat) : Int) - 1 + ((i : Nat) : Int) * (-1) = lo + (((n - 1 - i : Nat)) : Int) := by omega
  rw [e]
  exact .int _
def iRvR1 (ga : Rho → R PD) : Rho → R (List PD) := fun ρ => (ga ρ).bind fun a => match a with
  | .int j => if small62 j = true then .ok (rngD 0 j.toNat).reverse else .bad
  | _ => .bad
theorem di_rvR1 {ta : TE} {ga : Rho → R PD} (h : TDr K W ta ga) : TDi K W (iRevR (tRg1 ta)) (iRvR1 ga) := fun F0 H0 F H σ ρ Q S q =>
  h F0 H0 F H σ ρ _ S (q.then fun a F1 H1 e1 k1 v rv => by
    cases a with
    | int j =>
      replace k1 : Fin K W σ F1 H1 (if small62 j = true then .ok (rngD 0 j.toNat).reverse else .bad) (fun ds F' H' => ∀ J, ItR K F' ds J → Q J H') := k1
      by_cases hs : small62 j = true
      · rw [if_pos hs] at k1
        obtain ⟨h1, h2⟩ := small62_ok hs
        have h0 : (j - 0).toNat = j.toNat := by omega
        refine ⟨j, rv.int, by decide, by decide, h1, h2, ?_⟩
        rw [h0]
        exact Fin.okk K W σ e1.g k1 _ itr_rgRev
      · rw [if_neg hs] at k1; exact k1.elim
    | _ => exact k1.elim)

/-! ### defs whose arguments may be given away -/
def cutL (H : Hp) (fp : List Addr) : Hp := fun p => if p ∈ fp then none else H p
theorem cutL_in {H : Hp} {fp : List Addr} {p : Addr} (h : p ∈ fp) : cutL H fp p = none := if_pos h
theorem cutL_out {H : Hp} {fp : List Addr} {p : Addr} (h : p ∉ fp) : cutL H fp p = H p := if_neg h
theorem cutL_same {H : Hp} {fp : List Addr} : Same (cutL H fp) H := fun p u e => by
  by_cases h : p ∈ fp
  · rw [cutL_in h] at e; cases e
  · rw [cutL_out h] at e; exact e
/-- a promise over trees: what the arguments own is the def's -/
def spT (K : PySem.W.Frag) (n : Nat) (f : List Tv → FR) : Sp := fun vs H Q E => vs.length = n ∧ ∃ F H0 fp ts, Same F H0 ∧ Same H0 H ∧ TvAll K F H fp vs ts ∧ fp.Nodup ∧ (∀ p ∈ fp, H0 p = none) ∧ FRQ K F H0 Q E (f ts)
def startT (n : Nat) (ts : List Tv) : Rho := ts.map (fun t => some (slOf t)) ++ List.replicate (n - ts.length) none
def runT (n : Nat) (s : Rho → SR) (ts : List Tv) : FR := (s (startT n ts)).fr
/-- the footprints of a list of trees, one by one -/
theorem tvAll_split {F H : Hp} : ∀ {fp : List Addr} {vs : List V} {ts : List Tv}, TvAll K F H fp vs ts → fp.Nodup → ∃ φ : Nat → List Addr, (∀ i p, p ∈ φ i → p ∈ fp) ∧ (∀ i, (φ i).Nodup) ∧ (∀ i j p, p ∈ φ i → p ∈ φ j → i = j) ∧ ∀ (i : Nat) (t : Tv), ts[i]? = some t → ∃ v, vs[i]? = some v ∧ TvAt K F H (φ i) v t
  | _, _, _, .nil, _ => ⟨fun _ => [], fun i p h => (by cases h), fun i => List.nodup_nil, fun i j p h => (by cases h), fun i t h => (by simp at h)⟩
  | _, _, _, .cons (fp := fp) (fq := fq) h k, nd => by
    obtain ⟨n1, n2, n3⟩ := List.nodup_append.mp nd
    obtain ⟨φ, a1, a2, a3, a4⟩ := tvAll_split k n2
    refine ⟨fun i => match i with | 0 => fp | i + 1 => φ i, fun i p hp => ?_, fun i => ?_, fun i j p hi hj => ?_, fun i t e => ?_⟩
    · cases i with
      | zero => exact List.mem_append_left _ hp
      | succ i => exact List.mem_append_right _ (a1 i p hp)
    · cases i with
      | zero => exact n1
      | succ i => exact a2 i
    · cases i with
      | zero =>
        cases j with
        | zero => rfl
        | succ j => exact absurd rfl (n3 p hi p (a1 j p hj))
      | succ i =>
        cases j with
        | zero => exact absurd rfl (n3 p hj p (a1 i p hi))
        | succ j => rw [a3 i j p hi hj]
    · cases i with
      | zero => cases e; exact ⟨_, rfl, h⟩
      | succ i => exact a4 i t e
theorem start_okT {F H0 H : Hp} {N : List Str} {vs : List V} {ts : List Tv} {fp : List Addr} (s1 : Same F H0) (s2 : Same H0 H) (r : TvAll K F H fp vs ts) (nd : fp.Nodup) (h0 : ∀ p ∈ fp, H0 p = none) : StR K F H0 F H (start N vs) (startT N.length ts) := by
  have hl := r.length
  obtain ⟨φ, a1, a2, a3, a4⟩ := tvAll_split r nd
  have gd : ∀ (j : Nat) (y : Sl), (startT N.length ts)[j]? = some (some y) → ∃ t, y = slOf t ∧ ts[j]? = some t := fun j y e => by
    unfold startT at e
    by_cases hj : j < ts.length
    · rw [List.getElem?_append_left (by simpa using hj), List.getElem?_map] at e
      cases z : ts[j]? with
      | none => rw [z] at e; cases e
      | some d => rw [z] at e; cases e; exact ⟨d, rfl, rfl⟩
    · rw [List.getElem?_append_right (by simpa using hj), List.getElem?_replicate] at e
      split at e
      · cases e
      · cases e
  have val : ∀ (j : Nat) (v : V), vs[j]? = some v → (L2.start N vs)[j]? = some (some v) := fun j v e => by
    unfold L2.start
    rw [List.getElem?_append_left (by simpa using (List.getElem?_eq_some_iff.mp e).1), List.getElem?_map, e]
    rfl
  refine ⟨φ, ⟨Same.refl F, s1.trans s2, s2, fun _ h => .inl h⟩, ?_, fun i x e => ?_, fun i x e => ?_, fun i p h => ?_, a2, a3, fun i x e => ?_⟩
  · unfold L2.start startT; simp [hl]
  · obtain ⟨t, e1, e2⟩ := gd i _ e
    obtain ⟨v, b1, b2⟩ := a4 i t e2
    cases t with
    | fr d =>
      cases e1
      generalize φ i = fp at b2
      cases b2 with
      | fr b2 => exact ⟨v, val i v b1, b2⟩
    | _ => cases e1
  · obtain ⟨t, e1, e2⟩ := gd i _ e
    obtain ⟨v, b1, b2⟩ := a4 i t e2
    cases t with
    | fr d => cases e1
    | _ => cases e1; exact ⟨v, val i v b1, b2⟩
  · have hp := a1 i p h
    refine ⟨h0 p hp, s1.free (h0 p hp), r.nt p hp⟩
  · obtain ⟨t, e1, e2⟩ := gd i _ e
    cases t <;> cases e1
theorem fnT {P : Program} {w : World} {mg : Str → Option Value} {base : Heap} {x qual : Str} {params : Arguments} {body : List Stmt} {scope : Scope} {f : Addr} {fd : FuncData} {N ps : List Str} {k : Nat} {s : Rho → SR}
    (F : FunD K x qual params body scope [] [] f fd) (S : FnScope N ps scope)
    (hb : ∀ (cdv : Value) (A : Around) (outer : List Env) (sh : Shared) (H : Hp) (E : XK), Room k (A.deeper (envOfC qual scope sh.heap.objs.size f cdv)) →
      Takes (cxOf (L2.CX P w) P w K mg base N qual scope f cdv A outer sh H E) (fun cls d _ H => E cls d H) →
      ∃ t, PSs (cxOf (L2.CX P w) P w K mg base N qual scope f cdv A outer sh H E) body t ∧ TDS K (fun cls d _ H => E cls d H) t s) : FnOk P w K mg base (L2.CX P w) (k + 1) f fd ps (spT K ps.length (runT N.length s)) := by
  refine F.ok S (fun vs H Q E h => h.1) (fun cdv A outer sh H vs Q E hr h => ?_)
  obtain ⟨hl, F0, H0, fp, ts, s1, s2, ht, nd, h0, hq⟩ := h
  obtain ⟨t, h1, h2⟩ := hb cdv A outer sh H E hr (takes_of rfl rfl rfl (E₁ := _) rfl)
  refine ⟨t, h1, h2 F0 H0 F0 H _ _ _ (start_okT s1 s2 ht nd h0) ?_⟩
  unfold runT at hq
  cases e : s (startT N.length ts) with
  | nx ρ => rw [e] at hq; exact fun σ F1 H1 S1 => hq .non F1 H1 S1.ext .non
  | bk ρ => rw [e] at hq; exact hq.elim
  | ct ρ => rw [e] at hq; exact hq.elim
  | rt s => rw [e] at hq; exact hq
  | exc c => rw [e] at hq; exact fun cls d σ F1 H1 ex r => hq cls d F1 H1 ex r
  | bad => rw [e] at hq; exact hq.elim
def KeptT (P : Program) (w : World) (K : PySem.W.Frag) (mg : Str → Option Value) (base : Heap) (k n : Nat) (x : Str) (ps : List Str) (f : List Tv → FR) : Prop :=
  ∃ fd : FuncData, PySem.W.keepIn K (.ref (He.ga K x)) = true ∧ mg x = some (.ref (He.ga K x)) ∧ Binds K fd ps [] ∧ FnOk P w K mg base (L2.CX P w) k (He.ga K x) fd ps (spT K n f)
theorem kept_ofT {P : Program} {w : World} {mg : Str → Option Value} {base : Heap} {x : Str} {params : Arguments} {body : List Stmt} {scope : Scope} {N ps : List Str} {k n : Nat} {s : Rho → SR} {f : List Tv → FR}
    (hF : ∃ fd : FuncData, FunD K x x params body scope [] [] (He.ga K x) fd) (hg : mg x = some (.ref (He.ga K x))) (S : FnScope N ps scope) (hn : ps.length = n) (hf : f = runT N.length s)
    (hbd : ∀ (kV doc pm : Value) (an : Option Addr) (cdv ct : Value) (us : List Value), us.length = ps.length → bindArgs (PySem.W.fnOf x x params body scope .none kV doc pm an cdv ct) ⟨us, []⟩ = pure (ps.zip us))
    (hb : ∀ (cdv : Value) (A : Around) (outer : List Env) (sh : Shared) (H : Hp) (E : XK), Room k (A.deeper (envOfC x scope sh.heap.objs.size (He.ga K x) cdv)) →
      Takes (cxOf (L2.CX P w) P w K mg base N x scope (He.ga K x) cdv A outer sh H E) (fun cls d _ H => E cls d H) →
      ∃ t, PSs (cxOf (L2.CX P w) P w K mg base N x scope (He.ga K x) cdv A outer sh H E) body t ∧ TDS K (fun cls d _ H => E cls d H) t s) : KeptT P w K mg base (k + 1) n x ps f := by
  obtain ⟨fd, FD⟩ := hF
  subst hn hf
  exact ⟨fd, FD.kp, hg, FD.bindsN hbd, fnT FD S hb⟩
theorem kept_badT {P : Program} {w : World} {mg : Str → Option Value} {base : Heap} {x : Str} {params : Arguments} {body : List Stmt} {scope : Scope} {ps : List Str} {k n : Nat}
    (hF : ∃ fd : FuncData, FunD K x x params body scope [] [] (He.ga K x) fd) (hg : mg x = some (.ref (He.ga K x))) (hn : ps.length = n)
    (hbd : ∀ (kV doc pm : Value) (an : Option Addr) (cdv ct : Value) (us : List Value), us.length = ps.length → bindArgs (PySem.W.fnOf x x params body scope .none kV doc pm an cdv ct) ⟨us, []⟩ = pure (ps.zip us)) :
    KeptT P w K mg base k n x ps (fun _ => .bad) := by
  obtain ⟨fd, FD⟩ := hF
  subst hn
  exact ⟨fd, FD.kp, hg, FD.bindsN hbd, ⟨fun vs H Q E h => h.1, fun A outer s H args us vs Q E hr _ _ _ hsp => by
    obtain ⟨_, _, _, _, _, _, _, _, _, _, hq⟩ := hsp
    exact hq.elim⟩⟩
/-- the state behind a call that slots were given to -/
theorem StF.given {F0 H0 F H F1 H1 F2 H2 : Hp} {σ : L2.St} {ρ : Rho} {φ : Nat → List Addr} {vs : List Nat} {fp : List Addr} (S : StF K F0 H0 F H σ ρ φ) (e1 : Ext F H F1 H1) (hp : ∀ p ∈ fp, F1 p = none ∧ (H p = none ∨ ∃ i ∈ vs, p ∈ φ i)) (hnt : ∀ p ∈ fp, ∃ o, H1 p = some o ∧ ¬ tupO o) (e2 : Ext F1 (cutL H1 fp) F2 H2) :
    StF K F0 H0 F2 H2 σ (killD ρ vs) (phis φ vs) := by
  have S1 := (S.go e1).drop (is := vs)
  have off : ∀ j p, p ∈ phis φ vs j → p ∉ fp := fun j p h1 h2 => by
    obtain ⟨n1, n2⟩ := phis_mem h1
    rcases (hp p h2).2 with z | ⟨i', hi, z⟩
    · obtain ⟨_, _, o, y, _⟩ := S.fre j p n2
      rw [z] at y; cases y
    · have := S.dis i' j p z n2
      subst this
      exact n1 hi
  have h0 : ∀ p ∈ fp, H0 p = none := fun p h => by
    rcases (hp p h).2 with z | ⟨i, _, z⟩
    · exact S.ext.h.free z
    · exact (S.fre i p z).1
  have ex : Ext F0 H0 F2 H2 := by
    refine ⟨S1.ext.f.trans e2.f, e2.g, fun p u e => e2.h p u ?_, fun p hq => ?_⟩
    · rw [cutL_out (fun z => by rw [h0 p z] at e; cases e)]; exact S1.ext.h p u e
    · rcases e2.n p hq with z | z | ⟨o, z, t⟩
      · exact S1.ext.n p z
      · by_cases hin : p ∈ fp
        · exact .inr (.inl (h0 p hin))
        · rw [cutL_out hin] at z
          exact .inr (.inl (S1.ext.h.free z))
      · have z := cutL_same _ _ z
        cases e : H0 p with
        | none => exact .inr (.inl rfl)
        | some u =>
          have := S1.ext.h p u e
          rw [z] at this
          cases this
          exact .inr (.inr ⟨_, rfl, t⟩)
  refine ⟨ex, S1.len, fun i x e => ?_, fun i x e => ?_, fun i p h => ?_, S1.nod, S1.dis, fun i x e => let ⟨p, a, b⟩ := S1.lck i x e; ⟨p, a, b.mono e2.f⟩⟩
  · obtain ⟨v, a, b⟩ := S1.dat i x e
    exact ⟨v, a, b.mono e2.f⟩
  · obtain ⟨v, a, b⟩ := S1.tre i x e
    refine ⟨v, a, b.keep e2.f fun p o ho hc => e2.h p o ?_⟩
    rw [cutL_out]
    · exact ho
    · intro z
      rcases hc with hc | hc
      · exact off i p hc z
      · obtain ⟨o', ho', nt⟩ := hnt p z
        rw [ho] at ho'; cases ho'; exact nt hc
  · obtain ⟨a, b, o, c, d⟩ := S1.fre i p h
    have c' : cutL H1 fp p = some o := by rw [cutL_out (off i p h)]; exact c
    exact ⟨a, e2.keep b c' d, o, e2.h p o c', d⟩
variable {tr : TA} {gr : Rho → R (List Tv)} {vs : List Nat} {n : Nat} {f : List Tv → FR}
def callT (n : Nat) (f : List Tv → FR) (gr : Rho → R (List Tv)) (k : Tv → SR) : Rho → SR := fun ρ => SR.of (gr ρ) fun ts => if ts.length = n then (match f ts with
  | .rt (.d x) => k (.fr x)
  | .rt (.t x) => k x
  | .rt (.l _) => .bad
  | .exc c => .exc c
  | .bad => .bad) else .bad
/-- x = f(..), slots given away -/
def sCallT (i : Nat) (vs : List Nat) (n : Nat) (f : List Tv → FR) (gr : Rho → R (List Tv)) : Rho → SR := fun ρ => callT n f gr (fun x => .nx ((killD ρ vs).set i (some (slOf x)))) ρ
def sRetT (n : Nat) (f : List Tv → FR) (gr : Rho → R (List Tv)) : Rho → SR := callT n f gr fun x => .rt (.t x)
theorem callT_k {F0 H0 F H : Hp} {σ : L2.St} {ρ : Rho} {φ : Nat → List Addr} {D : Ends} {Q : VK} {k : Tv → SR} (h : TDma K W vs tr gr) (S : StF K F0 H0 F H σ ρ φ) (q : FinS K W F0 H0 D (callT n f gr k ρ))
    (hk : ∀ (x : Tv) (v : V) (fp : List Addr) (F2 H2 : Hp), StF K F0 H0 F2 H2 σ (killD ρ vs) (phis φ vs) → TvAt K F2 H2 fp v x → fp.Nodup → (∀ p ∈ fp, H0 p = none ∧ F2 p = none) → (∀ j p, p ∈ phis φ vs j → p ∉ fp) → FinS K W F0 H0 D (k x) → Q v H2) :
    tCallS (spT K n f) (WE W) tr σ H Q := by
  refine h F0 H0 F H σ ρ φ _ S (q.of S.ext fun ts F1 H1 e1 k1 us fp tl nd hp => ?_)
  replace k1 : FinS K W F0 H0 D (if ts.length = n then (match f ts with
    | .rt (.d x) => k (.fr x)
    | .rt (.t x) => k x
    | .rt (.l _) => .bad
    | .exc c => .exc c
    | .bad => .bad) else .bad) := k1
  by_cases hn : ts.length = n
  · rw [if_pos hn] at k1
    have h1 : Same F1 (cutL H1 fp) := fun p u e => by rw [cutL_out (fun z => by rw [(hp p z).1] at e; cases e)]; exact e1.g p u e
    have apart : ∀ {F2 H2 : Hp} {fq : List Addr}, Ext F1 (cutL H1 fp) F2 H2 → (∀ p ∈ fq, cutL H1 fp p = none ∧ F2 p = none) → ∀ j p, p ∈ phis φ vs j → p ∉ fq := fun {F2 H2 fq} ex hq j p hj hin => by
      obtain ⟨n1, n2⟩ := phis_mem hj
      obtain ⟨_, _, o, c, _⟩ := (S.go e1).fre j p n2
      have := (hq p hin).1
      rw [cutL_out (fun z => by
        rcases (hp p z).2 with y | ⟨i', hi, y⟩
        · obtain ⟨_, _, o', y', _⟩ := S.fre j p n2
          rw [y] at y'; cases y'
        · have := S.dis i' j p y n2
          subst this
          exact n1 hi), c] at this
      cases this
    have base0 : ∀ {p : Addr}, cutL H1 fp p = none → H0 p = none := fun {p} z => by
      by_cases hin : p ∈ fp
      · rcases (hp p hin).2 with y | ⟨i, _, y⟩
        · exact S.ext.h.free y
        · exact (S.fre i p y).1
      · rw [cutL_out hin] at z
        exact S.ext.h.free (e1.h.free z)
    refine ⟨by rw [tl.length]; exact hn, F1, cutL H1 fp, fp, ts, h1, cutL_same, tl, nd, fun p hq => cutL_in hq, ?_⟩
    cases e : f ts with
    | rt s =>
      rw [e] at k1
      cases s with
      | d x => exact fun v F2 H2 ex r => hk (.fr x) v [] F2 H2 (S.given e1 hp tl.nt ex) (.fr r) List.nodup_nil (fun p hq => by cases hq) (fun j p _ hq => by cases hq) k1
      | t x => exact fun v fq F2 H2 ex tv nd2 hq => hk x v fq F2 H2 (S.given e1 hp tl.nt ex) tv nd2 (fun p hin => ⟨base0 (hq p hin).1, (hq p hin).2⟩) (apart ex hq) k1
      | l x => exact k1.elim
    | exc c =>
      rw [e] at k1
      exact fun cls d F2 H2 ex r => k1 cls d σ F2 H2 (S.given e1 hp tl.nt ex).ext r
    | bad => rw [e] at k1; exact k1.elim
  · rw [if_neg hn] at k1
    exact k1.elim
theorem ds_callT (i : Nat) (h : TDma K W vs tr gr) : TDS K W (tAsg (tCallS (spT K n f) (WE W) tr) (gName i)) (sCallT i vs n f gr) := fun F0 H0 F H σ ρ D S q => by
  obtain ⟨φ, S⟩ := S
  exact callT_k h S q fun x v fp F2 H2 S2 tv nd hp hx k => k _ F2 H2 ⟨_, S2.putT tv nd hp fun j p _ hj => hx j p hj⟩
theorem ds_retT (h : TDma K W vs tr gr) : TDS K W (tRet (tCallS (spT K n f) (WE W) tr)) (sRetT n f gr) := fun F0 H0 F H σ ρ D S q => by
  obtain ⟨φ, S⟩ := S
  exact callT_k h S q fun x v fp F2 H2 S2 tv nd hp hx k => k v fp F2 H2 S2.ext tv nd hp
/-- ahead of a statement slots' readings are forgotten -/
def preK (is : List Nat) (s : Rho → SR) : Rho → SR := fun ρ => s (is.foldl (fun ρ i => ρ.set i none) ρ)
theorem ds_preK {ts : TS} {s : Rho → SR} (is : List Nat) (h : TDS K W ts s) : TDS K W ts (preK is s) := fun F0 H0 F H σ ρ D S q => h F0 H0 F H σ _ D S.kills q
end
end DL
/-! Changes within a tree. -/
namespace DL
open PySem PySem.Spec PyProof.Rows L2
section
variable {K : PySem.W.Frag} {W : WX}
def Tv.at : List Nat → Tv → Option Tv
  | [], t => some t
  | k :: ks, .tup ts => match ts[k]? with
    | some t => Tv.at ks t
    | none => none
  | k :: ks, .lst ts => match ts[k]? with
    | some t => Tv.at ks t
    | none => none
  | _, _ => none
def Tv.setAt : List Nat → Tv → Tv → Tv
  | [], _, u => u
  | k :: ks, .tup ts, u => match ts[k]? with
    | some t => .tup (ts.set k (Tv.setAt ks t u))
    | none => .tup ts
  | k :: ks, .lst ts, u => match ts[k]? with
    | some t => .lst (ts.set k (Tv.setAt ks t u))
    | none => .lst ts
  | _, t, _ => t
def vAt (H : Hp) : V → List Nat → V → Prop
  | v, [], u => v = u
  | v, k :: ks, u => ∃ a xs w, v = .ref a ∧ (H a = some (.tup xs) ∨ H a = some (.lst xs)) ∧ xs[k]? = some w ∧ vAt H w ks u
theorem vAt.mono {H H' : Hp} (e : Same H H') : ∀ {ks : List Nat} {v u : V}, vAt H v ks u → vAt H' v ks u
  | [], _, _, h => h
  | _ :: _, _, _, ⟨a, xs, w, h1, h2, h3, h4⟩ => ⟨a, xs, w, h1, h2.imp (e _ _) (e _ _), h3, h4.mono e⟩
theorem vAt.det {H : Hp} : ∀ {ks : List Nat} {v u u' : V}, vAt H v ks u → vAt H v ks u' → u = u'
  | [], _, _, _, h, h' => h.symm.trans h'
  | _ :: _, _, _, _, ⟨a, xs, w, h1, h2, h3, h4⟩, ⟨a', xs', w', g1, g2, g3, g4⟩ => by
    rw [h1] at g1; cases g1
    have e : xs = xs' := by
      rcases h2 with h2 | h2 <;> rcases g2 with g2 | g2 <;> (rw [h2] at g2; cases g2) <;> rfl
    subst e
    rw [h3] at g3; cases g3
    exact vAt.det h4 g4
theorem vAt.snoc {H : Hp} {k : Nat} {u : V} : ∀ {ks : List Nat} {v : V}, vAt H v (ks ++ [k]) u → ∃ u0, vAt H v ks u0 ∧ vAt H u0 [k] u
  | [], v, h => ⟨v, rfl, h⟩
  | _ :: _, _, ⟨a, xs, w, h1, h2, h3, h4⟩ => by
    obtain ⟨u0, g1, g2⟩ := h4.snoc
    exact ⟨u0, ⟨a, xs, w, h1, h2, h3, g1⟩, g2⟩
/-- the same but within fq -/
def AgreeOff (fq : List Addr) (H H' : Hp) : Prop := ∀ p o, H p = some o → p ∉ fq → H' p = some o
theorem tvAll_at {F H : Hp} : ∀ {fp : List Addr} {vs : List V} {ts : List Tv} {k : Nat} {t : Tv}, TvAll K F H fp vs ts → fp.Nodup → ts[k]? = some t → ∃ v fq, vs[k]? = some v ∧ TvAt K F H fq v t ∧ fq.Nodup ∧ (∀ p ∈ fq, p ∈ fp) ∧
    ∀ (H' : Hp) (u : Tv) (fr : List Addr), (∀ p ∈ fr, p ∈ fq) → AgreeOff fr H H' → TvAt K F H' fq v u → TvAll K F H' fp vs (ts.set k u)
  | _, _, _, _, _, .nil, _, e => by simp at e
  | _, _, _, 0, t, .cons (fp := fp) (fq := fq) h r, nd, e => by
    cases e
    obtain ⟨n1, n2, n3⟩ := List.nodup_append.mp nd
    refine ⟨_, fp, rfl, h, n1, fun p hp => List.mem_append_left _ hp, fun H' u fr hs ag hu => .cons hu (r.keep (Same.refl F) fun p o ho hc => ag p o ho fun hin => ?_)⟩
    have hin := hs p hin
    rcases hc with hc | hc
    · exact n3 p hin p hc rfl
    · obtain ⟨o', ho', nt⟩ := h.nt p hin
      rw [ho] at ho'; cases ho'; exact nt hc
  | _, _, _, k + 1, t, .cons (fp := fp) (fq := fq) h r, nd, e => by
    obtain ⟨n1, n2, n3⟩ := List.nodup_append.mp nd
    obtain ⟨v, fz, a1, a2, a3, a4, a5⟩ := tvAll_at r n2 (show _ = some t from e)
    refine ⟨v, fz, a1, a2, a3, fun p hp => List.mem_append_right _ (a4 p hp), fun H' u fr hs ag hu => .cons (h.keep (Same.refl F) fun p o ho hc => ag p o ho fun hin => ?_) (a5 H' u fr hs ag hu)⟩
    have hin := a4 p (hs p hin)
    rcases hc with hc | hc
    · exact n3 p hc p hin rfl
    · obtain ⟨o', ho', nt⟩ := r.nt p hin
      rw [ho] at ho'; cases ho'; exact nt hc
theorem tvAt_at {F H : Hp} : ∀ {ks : List Nat} {fp : List Addr} {v : V} {t t' : Tv}, TvAt K F H fp v t → fp.Nodup → t.at ks = some t' → ∃ u fq, vAt H v ks u ∧ TvAt K F H fq u t' ∧ (∀ p ∈ fq, p ∈ fp) ∧
    ∀ (H' : Hp) (t'' : Tv) (fr : List Addr), (∀ p ∈ fr, p ∈ fq) → AgreeOff fr H H' → TvAt K F H' fq u t'' → TvAt K F H' fp v (t.setAt ks t'')
  | [], fp, v, t, t', h, nd, e => by
    unfold Tv.at at e
    cases e
    exact ⟨v, fp, rfl, h, fun _ hp => hp, fun H' t'' fr _ _ hu => by unfold Tv.setAt; exact hu⟩
  | k :: ks, fp, v, t, t', h, nd, e => by
    cases h with
    | fr _ => unfold Tv.at at e; cases e
    | own _ => unfold Tv.at at e; cases e
    | dT _ _ => unfold Tv.at at e; cases e
    | tup s r =>
      rename_i p us ts
      unfold Tv.at at e
      cases ek : ts[k]? with
      | none => rw [ek] at e; cases e
      | some t1 =>
        rw [ek] at e
        obtain ⟨v1, f1, b1, b2, b3, b4, b5⟩ := tvAll_at r nd ek
        obtain ⟨u, fq, c1, c2, c3, c4⟩ := tvAt_at b2 b3 e
        refine ⟨u, fq, ⟨p, us, v1, rfl, .inl s, b1, c1⟩, c2, fun q hq => b4 q (c3 q hq), fun H' t'' fr hs ag hu => ?_⟩
        have e2 : (Tv.tup ts).setAt (k :: ks) t'' = .tup (ts.set k (t1.setAt ks t'')) := by
          show (match ts[k]? with | some t => Tv.tup (ts.set k (Tv.setAt ks t t'')) | none => .tup ts) = _
          rw [ek]
        rw [e2]
        refine .tup (ag _ _ s fun hin => ?_) (b5 H' _ fr (fun q hq => c3 q (hs q hq)) ag (c4 H' t'' fr hs ag hu))
        obtain ⟨o', ho', nt⟩ := c2.nt p (hs p hin)
        rw [s] at ho'; cases ho'; exact nt (.inl (.inl ⟨_, rfl⟩))
    | lst s r =>
      rename_i p us fp ts
      obtain ⟨n1, n2⟩ := List.nodup_cons.mp nd
      unfold Tv.at at e
      cases ek : ts[k]? with
      | none => rw [ek] at e; cases e
      | some t1 =>
        rw [ek] at e
        obtain ⟨v1, f1, b1, b2, b3, b4, b5⟩ := tvAll_at r n2 ek
        obtain ⟨u, fq, c1, c2, c3, c4⟩ := tvAt_at b2 b3 e
        refine ⟨u, fq, ⟨p, us, v1, rfl, .inr s, b1, c1⟩, c2, fun q hq => List.mem_cons_of_mem _ (b4 q (c3 q hq)), fun H' t'' fr hs ag hu => ?_⟩
        have e2 : (Tv.lst ts).setAt (k :: ks) t'' = .lst (ts.set k (t1.setAt ks t'')) := by
          show (match ts[k]? with | some t => Tv.lst (ts.set k (Tv.setAt ks t t'')) | none => .lst ts) = _
          rw [ek]
        rw [e2]
        exact .lst (ag _ _ s fun hin => n1 (b4 p (c3 p (hs p hin)))) (b5 H' _ fr (fun q hq => c3 q (hs q hq)) ag (c4 H' t'' fr hs ag hu))

/-! ### paths as expressions -/
def treeOf (ρ : Rho) (i : Nat) : Option Tv := match ρ[i]? with
  | some (some (.t x)) => some x
  | _ => none
/-- t tells what stands at the path g of slot i's tree -/
def TDp2 (K : PySem.W.Frag) (W : WX) (i : Nat) (t : TE) (g : Rho → R (List Nat)) : Prop := ∀ (F0 H0 F H : Hp) (σ : L2.St) (ρ : Rho) (φ : Nat → List Addr) (x : Tv) (v : V) (Q : VK), StF K F0 H0 F H σ ρ φ → ρ[i]? = some (some (.t x)) → σ[i]? = some (some v) →
  Fin K W σ F H (g ρ) (fun ks _ H' => ∀ u, vAt H' v ks u → Q u H') → t σ H Q
variable {te ti tp : TE} {g gi : Rho → R PD} {gp : Rho → R (List Nat)}
def pVar : Rho → R (List Nat) := fun _ => .ok []
theorem tp_var (i : Nat) : TDp2 K W i (tVar i) pVar := fun F0 H0 F H σ ρ φ x v Q S hx hv q => ⟨v, hv, (q.ok S.same) v rfl⟩
def pIx (i : Nat) (gp : Rho → R (List Nat)) (gi : Rho → R PD) : Rho → R (List Nat) := fun ρ => (gp ρ).bind fun ks => (gi ρ).bind fun a => match a with
  | .int n => if 0 ≤ n ∧ ((treeOf ρ i).bind fun x => x.at (ks ++ [n.toNat])).isSome = true then .ok (ks ++ [n.toNat]) else .bad
  | _ => .bad
theorem tp_ix (i : Nat) (hp : TDp2 K W i tp gp) (hi : TDr K W ti gi) : TDp2 K W i (tOp (rIx K) tp ti) (pIx i gp gi) := fun F0 H0 F H σ ρ φ x v Q S hx hv q =>
  hp F0 H0 F H σ ρ φ x v _ S hx hv (q.then fun ks F1 H1 e1 k1 u0 hu0 => hi F0 H0 F1 H1 σ ρ _ ⟨φ, S.go e1⟩ (k1.then fun a F2 H2 e2 k2 w rw' => by
    cases a with
    | int n =>
      replace k2 : Fin K W σ F2 H2 (if 0 ≤ n ∧ ((treeOf ρ i).bind fun x => x.at (ks ++ [n.toNat])).isSome = true then .ok (ks ++ [n.toNat]) else .bad) (fun ks _ H' => ∀ u, vAt H' v ks u → Q u H') := k2
      by_cases c : 0 ≤ n ∧ ((treeOf ρ i).bind fun x => x.at (ks ++ [n.toNat])).isSome = true
      · rw [if_pos c] at k2
        have S2 := (S.go e1).go e2
        have et : treeOf ρ i = some x := by unfold treeOf; rw [hx]
        rw [et] at c
        obtain ⟨t', ht'⟩ := Option.isSome_iff_exists.mp c.2
        obtain ⟨v', a1, b1⟩ := S2.tre i x hx
        rw [hv] at a1; cases a1
        obtain ⟨u, fq, c1, _, _, _⟩ := tvAt_at b1 (S2.nod i) ht'
        obtain ⟨u0', d1, d2⟩ := c1.snoc
        have := d1.det (hu0.mono e2.h)
        subst this
        obtain ⟨p, xs, w2, f1, f2, f3, f4⟩ := d2
        have f4 : w2 = u := f4
        subst f4
        have ea : atI xs n = some w2 := by
          unfold atI ixN
          rw [if_pos c.1]
          have hl : n.toNat < xs.length := (List.getElem?_eq_some_iff.mp f3).1
          rw [if_pos (by omega)]
          exact f3
        have fin := (Fin.okk (x := ks ++ [n.toNat]) K W σ e2.g k2) w2 c1
        rcases f2 with f2 | f2
        · exact .inr (.inl ⟨p, xs, n, w2, f1, rw'.int, SqT.of f2, ea, fin⟩)
        · exact .inl ⟨p, xs, n, w2, f1, rw'.int, SqL.of f2, ea, fin⟩
      · rw [if_neg c] at k2; exact k2.elim
    | _ => exact k2.elim))
/-- slot[..]..[..].append(e) -/
def sAppendP (i : Nat) (gp : Rho → R (List Nat)) (g : Rho → R PD) : Rho → SR := fun ρ => match treeOf ρ i with
  | some x => SR.of (gp ρ) fun ks => (match x.at ks with
    | some (.own (.list ds)) => SR.of (g ρ) fun d => if ds.length < sizeLine then .nx (ρ.set i (some (.t (x.setAt ks (.own (.list (ds ++ [d]))))))) else .bad
    | _ => .bad)
  | none => .bad
theorem ds_appendP (i : Nat) (hp : TDp2 K W i tp gp) (h : TDe K W te g) : TDS K W (tDrop (tBM K "list" rAppend tp (tCons te tNil))) (sAppendP i gp g) := fun F0 H0 F H σ ρ D S q => by
  unfold sAppendP at q
  cases et : treeOf ρ i with
  | none => rw [et] at q; exact q.elim
  | some x =>
    rw [et] at q
    have hx : ρ[i]? = some (some (.t x)) := by
      unfold treeOf at et
      split at et
      · rename_i e; cases et; exact e
      · cases et
    obtain ⟨φ, S⟩ := S
    obtain ⟨v, hv, tv⟩ := S.tre i x hx
    refine hp F0 H0 F H σ ρ φ x v _ S hx hv (q.of S.ext fun ks F1 H1 e1 k1 u hu => ?_)
    cases ea : x.at ks with
    | none => rw [ea] at k1; exact k1.elim
    | some t' =>
      rw [ea] at k1
      cases t' with
      | own y =>
        cases y with
        | list ds =>
          replace k1 : FinS K W F0 H0 D (SR.of (g ρ) fun d => if ds.length < sizeLine then .nx (ρ.set i (some (.t (x.setAt ks (.own (.list (ds ++ [d]))))))) else .bad) := k1
          have S1 := S.go e1
          obtain ⟨v1, a1, b1⟩ := S1.tre i x hx
          rw [hv] at a1; cases a1
          obtain ⟨u1, fq, c1, c2, c3, c4⟩ := tvAt_at b1 (S1.nod i) ea
          have := hu.det c1
          subst this
          cases c2 with
          | own ho =>
            rename_i p
            obtain ⟨us, hl, hd⟩ := ho
            refine ⟨.inl ⟨rfl, us, SqL.of hl⟩, h F0 H0 F1 H1 σ ρ _ ⟨φ, S1⟩ (k1.of S1.ext fun d F2 H2 e2 k2 w rw' => ?_)⟩
            replace k2 : FinS K W F0 H0 D (if ds.length < sizeLine then .nx (ρ.set i (some (.t (x.setAt ks (.own (.list (ds ++ [d]))))))) else .bad) := k2
            by_cases hz : ds.length < sizeLine
            · rw [if_pos hz] at k2
              refine ⟨p, us, w, rfl, rfl, e2.h _ _ hl, by rw [hd.length]; exact hz, ?_⟩
              have S2 := S1.go e2
              obtain ⟨v2, a2, b2⟩ := S2.tre i x hx
              rw [hv] at a2; cases a2
              obtain ⟨u2, fz, z1, z2, z3, z4⟩ := tvAt_at b2 (S2.nod i) ea
              have := (hu.mono e2.h).det z1
              subst this
              cases z2 with
              | own ho2 =>
                have pin : p ∈ φ i := z3 p (List.mem_singleton.mpr rfl)
                refine k2 σ F2 _ ⟨φ, S2.mutT (q := p) pin nt_lst (fun v' hv' => ?_) ⟨v, hv⟩⟩
                rw [hv] at hv'; cases hv'
                refine z4 _ _ [p] (fun _ hq => hq) (fun r o ho hn => ?_) (.own ⟨_, upd_same, (hd.mono e2.f).append (.cons rw' .nil)⟩)
                rw [upd_ne (fun z => hn (by rw [z]; exact List.mem_singleton.mpr rfl))]
                exact ho
            · rw [if_neg hz] at k2; exact k2.elim
        | _ => exact k1.elim
      | _ => exact k1.elim
end
end DL
/-! len(set(a list of unlike ints)) -/
namespace DL
open PySem PySem.Spec PyProof.Rows L2
section
variable {K : PySem.W.Frag} {W : WX} {te : TE} {g : Rho → R PD}
def intsOf : List PD → Option (List Int)
  | [] => some []
  | .int i :: r => (intsOf r).map fun l => i :: l
  | _ => none
theorem intsOf_map : ∀ l : List Int, intsOf (l.map PyData.int) = some l
  | [] => rfl
  | i :: l => by
    rw [List.map_cons]
    show (intsOf (l.map PyData.int)).map _ = _
    rw [intsOf_map l]
    rfl
theorem intsOf_dp {F : Hp} : ∀ {ds : List PD} {vs : List V} {l : List Int}, DpAll K F vs ds → intsOf ds = some l → vs = l.map V.int
  | [], _, l, .nil, h => by cases h; rfl
  | d :: ds, _, l, .cons r1 r2, h => by
    cases d with
    | int i =>
      have h : (intsOf ds).map (fun l => i :: l) = some l := h
      cases e : intsOf ds with
      | none => rw [e] at h; cases h
      | some l' =>
        rw [e] at h
        injection h with h
        rw [← h, List.map_cons, intsOf_dp r2 e]
        cases r1
        rfl
    | _ => cases h
def lenSetD : PD → R PD
  | .list ds => match intsOf ds with
    | some ns => if ns.Nodup ∧ ns.length ≤ 4000 then .ok (.int (ns.length : Nat)) else .bad
    | none => .bad
  | _ => .bad
def eLenSet (g : Rho → R PD) : Rho → R PD := fun ρ => (g ρ).bind lenSetD
theorem td_lenSet (h : TDr K W te g) : TDe K W (RZ.tLenSetI K te) (eLenSet g) := fun F0 H0 F H σ ρ Q S q =>
  h F0 H0 F H σ ρ _ S (q.then fun a F1 H1 e1 k1 v rv => by
    unfold lenSetD at k1
    split at k1
    · rename_i ds
      split at k1
      · rename_i ns en
        split at k1
        · rename_i c
          obtain ⟨p, vs, rfl, s1, r1⟩ := rv.list e1.g
          have := intsOf_dp r1 en
          subst this
          exact ⟨p, ns, rfl, .inl s1, c.1, c.2, Fin.okk (x := PyData.int _) K W σ e1.g k1 _ (.int _)⟩
        · exact k1.elim
      · exact k1.elim
    · exact k1.elim)
end
end DL
/-! Lists of owned lists: made by a comprehension, lengthened in place. -/
namespace DL
open PySem PySem.Spec PyProof.Rows L2
theorem bb_ValueError : bootBuiltins "ValueError" = some (.type "ValueError") := by decide +kernel
section
variable {K : PySem.W.Frag} {W : WX} {te : TE} {gm : Rho → R Tv} {vs : List Nat}
theorem StF.mutF {F0 H0 F H : Hp} {σ : L2.St} {ρ : Rho} {φ : Nat → List Addr} (S : StF K F0 H0 F H σ ρ φ) {q : Addr} {o u : HO} (h0 : H0 q = none) (hf : F q = none) (hu : H q = some u) (nu : ¬ tupO u) (hq : ∀ j, q ∉ φ j) : StF K F0 H0 F (upd H q o) σ ρ φ := by
  have keep : ∀ j, KeepOn (φ j) H (upd H q o) := fun j p u' e t => by
    by_cases z : p = q
    · subst z
      rcases t with t | t
      · exact absurd t (hq j)
      · rw [hu] at e; cases e; exact absurd t nu
    · rw [upd_ne z]; exact e
  refine ⟨⟨S.ext.f, fun r u' e => ?_, fun r u' e => ?_, S.ext.n⟩, S.len, S.dat, fun j z e => ?_, fun j p hp => ?_, S.nod, S.dis, S.lck⟩
  · rw [upd_ne (ne_of_none e hf)]; exact S.ext.g r u' e
  · rw [upd_ne (ne_of_none e h0)]; exact S.ext.h r u' e
  · obtain ⟨v, a, b⟩ := S.tre j z e
    exact ⟨v, a, b.keep (Same.refl F) (keep j)⟩
  · obtain ⟨x1, x2, u', x3, x4⟩ := S.fre j p hp
    exact ⟨x1, x2, u', by rw [upd_ne (fun z => hq j (by rw [← z]; exact hp))]; exact x3, x4⟩
theorem TvAll.app {F H : Hp} : ∀ {fp : List Addr} {us : List V} {ts : List Tv} {fq : List Addr} {ws : List V} {xs : List Tv}, TvAll K F H fp us ts → TvAll K F H fq ws xs → TvAll K F H (fp ++ fq) (us ++ ws) (ts ++ xs)
  | _, _, _, _, _, _, .nil, b => b
  | _, _, _, _, _, _, .cons (fp := fp) (fq := fq) h t, b => by
    rw [List.append_assoc]
    exact .cons h (TvAll.app t b)
theorem set_same {α : Type} : ∀ {l : List α} {i : Nat} {x : α}, l[i]? = some x → l.set i x = l
  | [], _, _, h => by simp at h
  | y :: l, 0, x, h => by
    have : y = x := by simpa using h
    rw [this]; rfl
  | y :: l, i + 1, x, h => by
    have h : l[i]? = some x := by simpa using h
    show y :: l.set i x = _
    rw [set_same h]
/-- what a slot owns is lengthened by new trees -/
theorem grow_ok {F0 H0 F H F1 H1 : Hp} {σ : L2.St} {ρ : Rho} {φ : Nat → List Addr} (S : StF K F0 H0 F H σ ρ φ) {i : Nat} {ts xs : List Tv} {v : V} (hi : ρ[i]? = some (some (.t (.lst ts)))) (hv : σ[i]? = some (some v)) (hni : i ∉ vs)
    (e1 : Ext F H F1 H1) {fq : List Addr} {ws : List V} (tl : TvAll K F1 H1 fq ws xs) (nd : fq.Nodup) (hp : ∀ p ∈ fq, F1 p = none ∧ (H p = none ∨ ∃ j ∈ vs, p ∈ φ j)) :
    ∃ p us, v = .ref p ∧ H p = some (.lst us) ∧ us.length = ts.length ∧ StR K F0 H0 F1 (upd H1 p (.lst (us ++ ws))) σ ((killD ρ vs).set i (some (.t (.lst (ts ++ xs))))) := by
  obtain ⟨v', hv', tv⟩ := S.tre i _ hi
  rw [hv] at hv'
  cases hv'
  generalize hf : φ i = fi at tv
  cases tv with
  | lst hl hall =>
    rename_i p us fp
    refine ⟨p, us, rfl, hl, hall.length, ?_⟩
    have pin : p ∈ φ i := by rw [hf]; exact List.mem_cons_self
    obtain ⟨p0, pF, o, ho, no⟩ := S.fre i p pin
    have S1 := (S.go e1).drop (is := i :: vs)
    have pF1 : F1 p = none := e1.keep pF ho no
    have off : ∀ j, p ∉ phis φ (i :: vs) j := fun j h => by
      obtain ⟨n1, n2⟩ := phis_mem h
      have := S.dis i j p pin n2
      subst this
      exact n1 List.mem_cons_self
    have hl1 : H1 p = some (.lst us) := e1.h p _ hl
    have S2 := S1.mutF (q := p) (o := .lst (us ++ ws)) p0 pF1 hl1 nt_lst off
    have nodi : (p :: fp).Nodup := by rw [← hf]; exact S.nod i
    obtain ⟨np, nfp⟩ := List.nodup_cons.mp nodi
    have fqold : ∀ r ∈ fq, ∀ r' ∈ φ i, r ≠ r' := fun r hr r' hr' z => by
      subst z
      rcases (hp r hr).2 with y | ⟨j, hj, y⟩
      · obtain ⟨_, _, o', y2, _⟩ := S.fre i r hr'
        rw [y] at y2; cases y2
      · have := S.dis j i r y hr'
        subst this
        exact hni hj
    have pq : ∀ r ∈ fq, r ≠ p := fun r hr => fqold r hr p pin
    have k1 : KeepOn fp H (upd H1 p (.lst (us ++ ws))) := fun r o' hr t => by
      by_cases z : r = p
      · subst z
        rcases t with t | t
        · exact absurd t np
        · rw [hl] at hr; cases hr; exact absurd t nt_lst
      · rw [upd_ne z]; exact e1.h r o' hr
    have k2 : KeepOn fq H1 (upd H1 p (.lst (us ++ ws))) := fun r o' hr t => by
      by_cases z : r = p
      · subst z
        rcases t with t | t
        · exact absurd rfl (pq r t)
        · rw [hl1] at hr; cases hr; exact absurd t nt_lst
      · rw [upd_ne z]; exact hr
    have tnew : TvAt K F1 (upd H1 p (.lst (us ++ ws))) (p :: (fp ++ fq)) (.ref p) (.lst (ts ++ xs)) := .lst upd_same (TvAll.app (TvAll.keep e1.f k1 hall) (TvAll.keep (Same.refl F1) k2 tl))
    have nd2 : (p :: (fp ++ fq)).Nodup := List.nodup_cons.mpr ⟨fun h => by
      rcases List.mem_append.mp h with h | h
      · exact np h
      · exact pq p h rfl, List.nodup_append.mpr ⟨nfp, nd, fun a ha b hb z => fqold b hb a (by rw [hf]; exact List.mem_cons_of_mem _ ha) z.symm⟩⟩
    have S3 := S2.putT (i := i) tnew nd2 (fun r hr => ?_) (fun j r hj h1 h2 => ?_)
    · have e2 : (killD ρ (i :: vs)).set i (some (slOf (.lst (ts ++ xs)))) = (killD ρ vs).set i (some (.t (.lst (ts ++ xs)))) := by
        show (killD (ρ.set i none) vs).set i _ = _
        have : ∀ (is : List Nat) (ρ : Rho), (killD (ρ.set i none) is).set i (some (Sl.t (.lst (ts ++ xs)))) = (killD ρ is).set i (some (.t (.lst (ts ++ xs)))) := by
          intro is
          induction is with
          | nil => intro ρ; show (ρ.set i none).set i _ = _; rw [List.set_set]; rfl
          | cons j is ih =>
            intro ρ
            show (killD ((ρ.set i none).set j none) is).set i _ = (killD (ρ.set j none) is).set i _
            by_cases c : i = j
            · subst c
              rw [List.set_set]
            · rw [List.set_comm _ _ c, ih]
        exact this vs ρ
      rw [e2, set_same hv] at S3
      exact ⟨_, S3⟩
    · rcases List.mem_cons.mp hr with z | hr
      · rw [z]; exact ⟨p0, pF1⟩
      · rcases List.mem_append.mp hr with hr | hr
        · obtain ⟨a, b, o', c, d⟩ := S.fre i r (by rw [hf]; exact List.mem_cons_of_mem _ hr)
          exact ⟨a, e1.keep b c d⟩
        · refine ⟨?_, (hp r hr).1⟩
          rcases (hp r hr).2 with z | ⟨j, _, z⟩
          · exact S.ext.h.free z
          · exact (S.fre j r z).1
    · obtain ⟨n1, n2⟩ := phis_mem h1
      rcases List.mem_cons.mp h2 with z | h2
      · subst z
        exact hj (S.dis i j _ pin n2).symm
      · rcases List.mem_append.mp h2 with h2 | h2
        · exact hj (S.dis i j _ (by rw [hf]; exact List.mem_cons_of_mem _ h2) n2).symm
        · rcases (hp r h2).2 with y | ⟨j', hj', y⟩
          · obtain ⟨_, _, o', y2, _⟩ := S.fre j r n2
            rw [y] at y2; cases y2
          · have := S.dis j' j r y n2
            subst this
            exact n1 (List.mem_cons_of_mem _ hj')
def lstAt (ρ : Rho) (i : Nat) (k : List Tv → SR) : SR := match ρ[i]? with
  | some (some (.t (.lst ts))) => k ts
  | _ => .bad
def sExtendM (i : Nat) (vs : List Nat) (gm : Rho → R Tv) : Rho → SR := fun ρ => lstAt ρ i fun ts => SR.of (gm ρ) fun x => match x with
  | .lst xs => if ts.length + xs.length ≤ sizeLine then .nx ((killD ρ vs).set i (some (.t (.lst (ts ++ xs))))) else .bad
  | _ => .bad
def sAppendM (i : Nat) (vs : List Nat) (gm : Rho → R Tv) : Rho → SR := fun ρ => lstAt ρ i fun ts => SR.of (gm ρ) fun x => if ts.length < sizeLine then .nx ((killD ρ vs).set i (some (.t (.lst (ts ++ [x]))))) else .bad
theorem ds_extendM (i : Nat) (h : TDm K W vs te gm) (hni : i ∉ vs := by decide) : TDS K W (tDrop (tBM K "list" rExtendR (tVar i) (tCons te tNil))) (sExtendM i vs gm) := fun F0 H0 F H σ ρ D S q => by
  obtain ⟨φ, S⟩ := S
  unfold sExtendM lstAt at q
  split at q
  · rename_i ts hi
    obtain ⟨v, hv, tv⟩ := S.tre i _ hi
    have hl : ∃ p us, v = .ref p ∧ H p = some (.lst us) ∧ us.length = ts.length := by
      generalize φ i = fi at tv
      cases tv with | lst a b => exact ⟨_, _, rfl, a, b.length⟩
    obtain ⟨p, us, rfl, hp, hlen⟩ := hl
    refine ⟨.ref p, hv, .inl ⟨rfl, us, SqL.of hp⟩, h F0 H0 F H σ ρ φ _ S (q.of S.ext fun x F1 H1 e1 k w fq tw nd hq => ?_)⟩
    cases x with
    | lst xs =>
      replace k : FinS K W F0 H0 D (if ts.length + xs.length ≤ sizeLine then .nx ((killD ρ vs).set i (some (.t (.lst (ts ++ xs))))) else .bad) := k
      by_cases hz : ts.length + xs.length ≤ sizeLine
      · rw [if_pos hz] at k
        cases tw with
        | lst hb tl =>
          rename_i b ws fr
          obtain ⟨nb, ndr⟩ := List.nodup_cons.mp nd
          obtain ⟨p', us', e1', e2', e3', st⟩ := grow_ok S hi hv hni e1 tl ndr (fun r hr => hq r (List.mem_cons_of_mem _ hr))
          cases e1'
          rw [hp] at e2'
          cases e2'
          exact ⟨p, b, us, ws, rfl, rfl, e1.h p _ hp, .inl hb, by rw [hlen, tl.length]; exact hz, k σ F1 _ st⟩
      · rw [if_neg hz] at k; exact k.elim
    | _ => exact k.elim
  · exact q.elim
theorem ds_appendM (i : Nat) (h : TDm K W vs te gm) (hni : i ∉ vs := by decide) : TDS K W (tDrop (tBM K "list" rAppend (tVar i) (tCons te tNil))) (sAppendM i vs gm) := fun F0 H0 F H σ ρ D S q => by
  obtain ⟨φ, S⟩ := S
  unfold sAppendM lstAt at q
  split at q
  · rename_i ts hi
    obtain ⟨v, hv, tv⟩ := S.tre i _ hi
    have hl : ∃ p us, v = .ref p ∧ H p = some (.lst us) ∧ us.length = ts.length := by
      generalize φ i = fi at tv
      cases tv with | lst a b => exact ⟨_, _, rfl, a, b.length⟩
    obtain ⟨p, us, rfl, hp, hlen⟩ := hl
    refine ⟨.ref p, hv, .inl ⟨rfl, us, SqL.of hp⟩, h F0 H0 F H σ ρ φ _ S (q.of S.ext fun x F1 H1 e1 k w fq tw nd hq => ?_)⟩
    by_cases hz : ts.length < sizeLine
    · rw [if_pos hz] at k
      have tl : TvAll K F1 H1 (fq ++ []) [w] [x] := .cons tw .nil
      rw [List.append_nil] at tl
      obtain ⟨p', us', e1', e2', e3', st⟩ := grow_ok S hi hv hni e1 tl nd hq
      cases e1'
      rw [hp] at e2'
      cases e2'
      exact ⟨p, us, w, rfl, rfl, e1.h p _ hp, by rw [hlen]; exact hz, k σ F1 _ st⟩
    · rw [if_neg hz] at k; exact k.elim
  · exact q.elim
/-- isinstance with a tuple of types -/
def anyB (n : String) : List String → Option Bool
  | [] => some false
  | T :: r => match kitB n T with
    | some true => some true
    | some false => anyB n r
    | none => none
theorem anyB_ok {n : String} : ∀ {Ts : List String} {b : Bool}, anyB n Ts = some b → PySem.W.kitAny K (.type n) (Ts.map Value.type) = some b
  | [], b, h => h
  | T :: r, b, h => by
    unfold anyB at h
    rw [List.map_cons]
    unfold PySem.W.kitAny
    cases e : kitB n T with
    | none => rw [e] at h; cases h
    | some c =>
      rw [e] at h
      rw [kit_ty e]
      cases c with
      | true => exact h
      | false => exact anyB_ok h
def isiTD (Ts : List String) : PD → R PD := fun a => match tyName a with
  | some n => (match anyB n Ts with
    | some b => .ok (.bool b)
    | none => .bad)
  | none => .bad
def eIsiT (Ts : List String) (g : Rho → R PD) : Rho → R PD := fun ρ => (g ρ).bind (isiTD Ts)
def tysA : List String → TA
  | [] => tNil
  | T :: r => tCons (tC (.ty T)) (tysA r)
theorem tysA_c : ∀ Ts : List String, ConstA (tysA Ts) (Ts.map V.ty)
  | [] => consta_nil
  | T :: r => consta_cons _ (tysA_c r)
theorem tys_p : ∀ Ts : List String, Paired ClsV (Ts.map V.ty) (Ts.map Value.type)
  | [] => .nil
  | T :: r => .cons (.ty T) (tys_p r)
theorem td_isiT {t : TE} {g : Rho → R PD} (Ts : List String) (h : TDr K W t g) (hl : Ts.length ≤ 1000 := by decide) : TDe K W (tCB (rIsiT K) (tCons t (tCons (tTup (tysA Ts)) tNil))) (eIsiT Ts g) := fun F0 H0 F H σ ρ Q S q =>
  h F0 H0 F H σ ρ _ S (q.then fun a F1 H1 e1 k1 v rv => by
    unfold isiTD at k1
    split at k1
    · rename_i n en
      split at k1
      · rename_i b eb
        refine tysA_c Ts σ H1 _ ⟨by rw [sizeLine_eq, List.length_map]; omega, fun p hp => ?_⟩
        have ex := Ext.own (o := .tup (Ts.map V.ty)) e1.g hp
        exact ⟨v, p, Ts.map V.ty, .type n, Ts.map Value.type, b, rfl, upd_same, tys_p Ts, tyX_of ex.g (rv.ext ex.f ex.h) en, anyB_ok eb, k1 _ _ ex _ (.bl b)⟩
      · exact k1.elim
    · exact k1.elim)
/-- a comprehension of owned things -/
def mLc (gi : Rho → R (List PD)) (a : Rho → PD → R Rho) (gt : Rho → R Bool) (ge : Rho → R PD) (vs : List Nat) : Rho → R Tv := fun ρ =>
  (gi ρ).bind fun ds => (noExc (lcL (lcE a gt ge (wipeD ρ vs)) ds)).bind fun l => if l.length ≤ sizeLine then .ok (.lst (l.map Tv.own)) else .bad
theorem tm_lc {ws : List Nat} {wi : TI} {gi : Rho → R (List PD)} {gx : TG} {a : Rho → PD → R Rho} {tt : TT} {gt : Rho → R Bool} {ge : Rho → R PD}
    (hi : TDi K W wi gi) (hg : TDg K ws gx a) (ht : TDt K W0 tt gt) (he : TDo K W0 te ge) : TDm K W [] (tLc wi gx tt te ws) (mLc gi a gt ge ws) := fun F0 H0 F H σ ρ φ Q Sφ q => by
  have S : StR K F0 H0 F H σ ρ := ⟨φ, Sφ⟩
  refine hi F0 H0 F H σ ρ _ S ?_
  unfold mLc at q
  cases egi : gi ρ with
  | exc c => rw [egi] at q; exact q
  | bad => rw [egi] at q; exact q
  | ok ds =>
    rw [egi] at q
    replace q : Fin K W σ F H ((noExc (lcL (lcE a gt ge (wipeD ρ ws)) ds)).bind fun l => if l.length ≤ sizeLine then R.ok (Tv.lst (l.map Tv.own)) else R.bad) (MvQ K H φ [] Q) := q
    cases el : lcL (lcE a gt ge (wipeD ρ ws)) ds with
    | exc c => rw [el] at q; exact q.elim
    | bad => rw [el] at q; exact q.elim
    | ok l =>
      rw [el] at q
      replace q : Fin K W σ F H (if l.length ≤ sizeLine then R.ok (Tv.lst (l.map Tv.own)) else R.bad) (MvQ K H φ [] Q) := q
      by_cases hsz : l.length ≤ sizeLine
      · rw [if_pos hsz] at q
        intro F1 H1 e1 J hJ D hD
        have S1 := S.go e1
        refine ⟨fun i m H => m = ds.length - i ∧ ∃ F acc accv rest fp, Ext F1 H1 F H ∧ F D = none ∧ H D = some (.lst accv) ∧ TvAll K F H fp accv (acc.map Tv.own) ∧ (fp.Nodup ∧ ∀ p ∈ fp, F p = none ∧ H1 p = none ∧ p ≠ D) ∧ lcL (lcE a gt ge (wipeD ρ ws)) (ds.drop i) = .ok rest ∧ l = acc ++ rest,
          ⟨_, rfl, F1, [], [], l, [], Ext.own e1.g hD, e1.g.free hD, upd_same, .nil, ⟨List.nodup_nil, fun p h => by cases h⟩, el, rfl⟩, ?_⟩
        rintro i m H2 ⟨rfl, F2, acc, accv, rest, fp, e2, hFD, hHD, racc, ⟨nd, hfp⟩, erest, hl⟩
        have S2 : StR K F0 H0 F2 H2 σ ρ := S1.go e2
        cases hd : ds[i]? with
        | none =>
          have hle := List.getElem?_eq_none_iff.mp hd
          rw [List.drop_eq_nil_of_le hle] at erest
          have hr : rest = [] := by unfold lcL at erest; cases erest; rfl
          subst hr
          rw [List.append_nil] at hl
          subst hl
          refine .inl ⟨(hJ i F2 H2 e2.f e2.g).2 hle, q F2 H2 (e1.trans e2) _ (D :: fp) (.lst hHD racc) (List.nodup_cons.mpr ⟨fun h => (hfp D h).2.2 rfl, nd⟩) fun p h => ?_⟩
          rcases List.mem_cons.mp h with z | z
          · subst z; exact ⟨hFD, .inl (e1.h.free hD)⟩
          · exact ⟨(hfp p z).1, .inl (e1.h.free (hfp p z).2.1)⟩
        | some d =>
          have hlt := (List.getElem?_eq_some_iff.mp hd).1
          rw [List.drop_eq_getElem_cons hlt, (List.getElem?_eq_some_iff.mp hd).2] at erest
          obtain ⟨o, l', eo, el', er⟩ := lcL_cons erest
          obtain ⟨go, yl⟩ := (hJ i F2 H2 e2.f e2.g).1 d hd
          refine .inr ⟨go, fun H' => ∃ F acc accv rest fp, Ext F1 H1 F H' ∧ F D = none ∧ H' D = some (.lst accv) ∧ TvAll K F H' fp accv (acc.map Tv.own) ∧ (fp.Nodup ∧ ∀ p ∈ fp, F p = none ∧ H1 p = none ∧ p ≠ D) ∧ lcL (lcE a gt ge (wipeD ρ ws)) (ds.drop (i + 1)) = .ok rest ∧ l = acc ++ rest,
            fun H' ⟨F', acc', accv', rest', fp', z⟩ => ⟨_, by omega, rfl, F', acc', accv', rest', fp', z⟩, fun x H3 y => ?_⟩
          obtain ⟨F3, e3, r3⟩ := yl x H3 y
          have dne : ∀ {Fa Ha Fb Hb : Hp}, Ext Fa Ha Fb Hb → Fa D = none → Ha D = some (.lst accv) → Fb D = none ∧ Hb D = some (.lst accv) := fun {Fa Ha Fb Hb} e h1 h2 => ⟨e.keep h1 h2 nt_lst, e.h D _ h2⟩
          have onward : ∀ {Fb Hb : Hp}, Ext F2 H2 Fb Hb → TvAll K Fb Hb fp accv (acc.map Tv.own) ∧ ∀ p ∈ fp, Fb p = none ∧ H1 p = none ∧ p ≠ D := fun {Fb Hb} e => ⟨TvAll.keep e.f (KeepOn.same e.h) racc, fun p h => by
            obtain ⟨u, hu, nu⟩ := racc.nt p h
            exact ⟨e.keep (hfp p h).1 hu nu, (hfp p h).2⟩⟩
          obtain ⟨hFD3, hHD3⟩ := dne e3 hFD hHD
          have S3 : StR K F0 H0 F3 H3 (L2.wipe σ ws) (wipeD ρ ws) := (S2.go e3).wipe ws
          refine hg F0 H0 F3 H3 _ _ x d _ S3 r3 ?_
          unfold lcE at eo
          cases ea : a (wipeD ρ ws) d with
          | exc c => rw [ea] at eo; cases eo
          | bad => rw [ea] at eo; cases eo
          | ok ρ4 =>
            rw [ea] at eo
            replace eo : ((gt ρ4).bind fun b => if b = true then (ge ρ4).bind fun y => R.ok (some y) else R.ok none) = R.ok o := eo
            intro σ4 S4 hw
            refine ⟨by rw [hw, wipe_wipe], ?_⟩
            refine ht F0 H0 F3 H3 σ4 ρ4 _ S4 ?_
            cases et : gt ρ4 with
            | exc c => rw [et] at eo; cases eo
            | bad => rw [et] at eo; cases eo
            | ok b =>
              rw [et] at eo
              intro F5 H5 e5
              obtain ⟨hFD5, hHD5⟩ := dne e5 hFD3 hHD3
              have e25 : Ext F2 H2 F5 H5 := e3.trans e5
              have e15 : Ext F1 H1 F5 H5 := e2.trans e25
              cases b with
              | false =>
                replace eo : R.ok none = R.ok o := eo
                cases eo
                show (∃ F acc accv rest fp, _)
                obtain ⟨t5, f5⟩ := onward e25
                exact ⟨F5, acc, accv, l', fp, e15, hFD5, hHD5, t5, ⟨nd, f5⟩, el', by rw [hl, er]; rfl⟩
              | true =>
                replace eo : ((ge ρ4).bind fun y => R.ok (some y)) = R.ok o := eo
                show te σ4 H5 _
                refine he F0 H0 F5 H5 σ4 ρ4 _ (S4.go e5) ?_
                cases ey : ge ρ4 with
                | exc c => rw [ey] at eo; cases eo
                | bad => rw [ey] at eo; cases eo
                | ok yv =>
                  rw [ey] at eo
                  replace eo : R.ok (some yv) = R.ok o := eo
                  cases eo
                  intro F6 H6 e6 p6 n6 m6 r6
                  obtain ⟨hFD6, hHD6⟩ := dne e6 hFD5 hHD5
                  have e26 : Ext F2 H2 F6 H6 := e25.trans e6
                  have e16 : Ext F1 H1 F6 H6 := e15.trans e6
                  obtain ⟨t6, f6⟩ := onward e26
                  have pD : p6 ≠ D := fun z => by rw [z, hHD5] at n6; cases n6
                  have pfp : p6 ∉ fp := fun h => by
                    obtain ⟨u, hu, _⟩ := (onward e25).1.nt p6 h
                    rw [n6] at hu; cases hu
                  have hlen : l.length = acc.length + (1 + l'.length) := by rw [hl, er]; simp; omega
                  have acl : accv.length = acc.length := by rw [racc.length, List.length_map]
                  have kD : ∀ {fq : List Addr}, D ∉ fq → KeepOn fq H6 (upd H6 D (.lst (accv ++ [V.ref p6]))) := fun {fq} nq r o' hr t => by
                    by_cases z : r = D
                    · subst z
                      rcases t with t | t
                      · exact absurd t nq
                      · rw [hHD6] at hr; cases hr; exact absurd t nt_lst
                    · rw [upd_ne z]; exact hr
                  refine ⟨accv, hHD6, by omega, F6, acc ++ [yv], accv ++ [V.ref p6], l', fp ++ [p6], ⟨e16.f, fun b u z => ?_, fun b u z => ?_, e16.n⟩, hFD6, upd_same, ?_, ⟨List.nodup_append.mpr ⟨nd, by simp, fun x hx y hy z => ?_⟩, fun p h => ?_⟩, el', by rw [hl, er]; simp⟩
                  · rw [upd_ne (ne_of_none z hFD6)]; exact e16.g b u z
                  · rw [upd_ne (ne_of_none z hD)]; exact e16.h b u z
                  · rw [List.map_append]
                    refine TvAll.app (TvAll.keep (Same.refl F6) (kD fun h => (f6 D h).2.2 rfl) t6) ?_
                    have one : TvAll K F6 (upd H6 D (.lst (accv ++ [V.ref p6]))) ([p6] ++ []) [V.ref p6] [Tv.own yv] := .cons (.own (r6.keep (Same.refl F6) (kD fun h => pD (List.mem_singleton.mp h).symm))) .nil
                    exact one
                  · rw [List.mem_singleton.mp hy] at z
                    exact pfp (by rw [← z]; exact hx)
                  · rcases List.mem_append.mp h with h | h
                    · exact f6 p h
                    · rw [List.mem_singleton.mp h]
                      exact ⟨m6, e15.h.free n6, pD⟩
      · rw [if_neg hsz] at q
        exact q.elim
end
end DL
/-! Defs that change their first argument in place and hand back nothing. -/
namespace DL
open PySem PySem.Spec PyProof.Rows L2
/-- a statement that leaves a variable alone -/
def Kp (m : Nat) (t : TS) : Prop := ∀ (D : Ends) (σ : L2.St) (H : Hp), t D σ H ↔ t { D with nx := fun σ' H' => σ'[m]? = σ[m]? → D.nx σ' H' } σ H
section
variable {m : Nat} {t u : TS}
theorem nx_id {σ : L2.St} {P : Prop} : (σ[m]? = σ[m]? → P) = P := propext ⟨fun h => h rfl, fun h _ => h⟩
theorem kp_next : Kp m tNext := fun D σ H => by
  show D.nx σ H ↔ (σ[m]? = σ[m]? → D.nx σ H)
  rw [nx_id]
theorem kp_seq (h1 : Kp m t) (h2 : Kp m u) : Kp m (tSeq t u) := fun D σ H => by
  show t { D with nx := u D } σ H ↔ t { D with nx := u { D with nx := fun σ' H' => σ'[m]? = σ[m]? → D.nx σ' H' } } σ H
  rw [h1 { D with nx := u D } σ H, h1 { D with nx := u { D with nx := fun σ' H' => σ'[m]? = σ[m]? → D.nx σ' H' } } σ H]
  have e : (fun (σ1 : L2.St) (H1 : Hp) => σ1[m]? = σ[m]? → u D σ1 H1) = fun σ1 H1 => σ1[m]? = σ[m]? → u { D with nx := fun σ' H' => σ'[m]? = σ[m]? → D.nx σ' H' } σ1 H1 := by
    funext σ1 H1
    refine propext ⟨fun h q => ?_, fun h q => ?_⟩
    · have := (h2 D σ1 H1).mp (h q)
      rw [q] at this
      exact this
    · refine (h2 D σ1 H1).mpr ?_
      rw [q]
      exact h q
  show t { D with nx := fun σ1 H1 => σ1[m]? = σ[m]? → u D σ1 H1 } σ H ↔ t { D with nx := fun σ1 H1 => σ1[m]? = σ[m]? → u { D with nx := fun σ' H' => σ'[m]? = σ[m]? → D.nx σ' H' } σ1 H1 } σ H
  rw [e]
theorem kp_drop {te : TE} : Kp m (tDrop te) := fun D σ H => by
  show te σ H (fun _ H1 => D.nx σ H1) ↔ te σ H fun _ H1 => σ[m]? = σ[m]? → D.nx σ H1
  have e : (fun (_ : V) (H1 : Hp) => σ[m]? = σ[m]? → D.nx σ H1) = fun _ H1 => D.nx σ H1 := by
    funext _ H1
    exact nx_id
  rw [e]
theorem kp_set {te : TE} {i : Nat} (hi : i ≠ m := by decide) : Kp m (tAsg te (gName i)) := fun D σ H => by
  show te σ H (fun x H1 => D.nx (σ.set i (some x)) H1) ↔ te σ H fun x H1 => (σ.set i (some x))[m]? = σ[m]? → D.nx (σ.set i (some x)) H1
  have e : (fun (x : V) (H1 : Hp) => (σ.set i (some x))[m]? = σ[m]? → D.nx (σ.set i (some x)) H1) = fun x H1 => D.nx (σ.set i (some x)) H1 := by
    funext x H1
    exact propext ⟨fun h => h (List.getElem?_set_ne hi), fun h _ => h⟩
  rw [e]
theorem kp_if {c : TT} (h1 : Kp m t) (h2 : Kp m u) : Kp m (tIfS c t u) := fun D σ H => by
  show c σ H (fun b H1 => if b = true then t D σ H1 else u D σ H1) ↔ c σ H fun b H1 => if b = true then t { D with nx := fun σ' H' => σ'[m]? = σ[m]? → D.nx σ' H' } σ H1 else u { D with nx := fun σ' H' => σ'[m]? = σ[m]? → D.nx σ' H' } σ H1
  have e : (fun (b : Bool) (H1 : Hp) => if b = true then t D σ H1 else u D σ H1) = fun b H1 => if b = true then t { D with nx := fun σ' H' => σ'[m]? = σ[m]? → D.nx σ' H' } σ H1 else u { D with nx := fun σ' H' => σ'[m]? = σ[m]? → D.nx σ' H' } σ H1 := by
    funext b H1
    cases b with
    | true => rw [if_pos rfl, if_pos rfl]; exact propext (h1 D σ H1)
    | false => rw [if_neg (by decide), if_neg (by decide)]; exact propext (h2 D σ H1)
  rw [e]
/-- what never comes to its end -/
theorem kp_stop {t : L2.St → Hp → Prop} : Kp m (fun _ σ H => t σ H) := fun D σ H => Iff.rfl
end
section
variable {K : PySem.W.Frag}
def spM (K : PySem.W.Frag) (n : Nat) (f : List Tv → R Tv) : Sp := fun vs H Q E => vs.length = n ∧ ∃ F H0 fp ts, Same F H0 ∧ Same H0 H ∧ TvAll K F H fp vs ts ∧ fp.Nodup ∧ (∀ p ∈ fp, H0 p = none) ∧ match f ts with
  | .ok x => ∀ v, vs[0]? = some v → ∀ fq F' H', Ext F H0 F' H' → TvAt K F' H' fq v x → fq.Nodup → (∀ p ∈ fq, H0 p = none ∧ F' p = none) → Q .non H'
  | .exc c => ∀ cls d F' H', Ext F H0 F' H' → ExR K c cls d H' → E cls d H'
  | .bad => False
def tree0 (ρ : Rho) : R Tv := match treeOf ρ 0 with
  | some x => .ok x
  | none => .bad
def endM : SR → R Tv
  | .nx ρ => tree0 ρ
  | .exc c => .exc c
  | _ => .bad
def runM (n : Nat) (s : Rho → SR) (ts : List Tv) : R Tv := endM (s (startT n ts))
theorem fnM {P : Program} {w : World} {mg : Str → Option Value} {base : Heap} {x qual : Str} {params : Arguments} {body : List Stmt} {scope : Scope} {f : Addr} {fd : FuncData} {N ps : List Str} {k : Nat} {s : Rho → SR}
    (F : FunD K x qual params body scope [] [] f fd) (S : FnScope N ps scope)
    (hb : ∀ (cdv : Value) (A : Around) (outer : List Env) (sh : Shared) (H : Hp) (E : XK), Room k (A.deeper (envOfC qual scope sh.heap.objs.size f cdv)) →
      Takes (cxOf (L2.CX P w) P w K mg base N qual scope f cdv A outer sh H E) (fun cls d _ H => E cls d H) →
      ∃ t, PSs (cxOf (L2.CX P w) P w K mg base N qual scope f cdv A outer sh H E) body t ∧ TDS K (fun cls d _ H => E cls d H) t s ∧ Kp 0 t) : FnOk P w K mg base (L2.CX P w) (k + 1) f fd ps (spM K ps.length (runM N.length s)) := by
  refine F.ok S (fun vs H Q E h => h.1) (fun cdv A outer sh H vs Q E hr h => ?_)
  obtain ⟨hl, F0, H0, fp, ts, s1, s2, ht, nd, h0, hq⟩ := h
  obtain ⟨t, h1, h2, h3⟩ := hb cdv A outer sh H E hr (takes_of rfl rfl rfl (E₁ := _) rfl)
  refine ⟨t, h1, (h3 _ _ _).mpr (h2 F0 H0 F0 H _ _ _ (start_okT s1 s2 ht nd h0) ?_)⟩
  unfold runM at hq
  cases e : s (startT N.length ts) with
  | nx ρ =>
    rw [e] at hq
    intro σ F1 H1 S1 hσ
    obtain ⟨φ, S1⟩ := S1
    cases et : treeOf ρ 0 with
    | none =>
      have : endM (.nx ρ) = .bad := by show tree0 ρ = _; unfold tree0; rw [et]
      rw [this] at hq
      exact hq.elim
    | some x =>
      have : endM (.nx ρ) = .ok x := by show tree0 ρ = _; unfold tree0; rw [et]
      rw [this] at hq
      have e0 : ρ[0]? = some (some (.t x)) := by
        unfold treeOf at et
        split at et
        · rename_i e; cases et; exact e
        · cases et
      obtain ⟨v, hv, tv⟩ := S1.tre 0 x e0
      rw [hv] at hσ
      have hv0 : vs[0]? = some v := by
        have := hσ.symm
        unfold L2.start at this
        cases vs with
        | nil =>
          exfalso
          have : (List.replicate (N.length - 0) (none : Option V))[0]? = some (some v) := by simpa using this
          rw [List.getElem?_replicate] at this
          split at this <;> cases this
        | cons a r => simpa using this
      exact hq v hv0 (φ 0) F1 H1 S1.ext tv (S1.nod 0) fun p hp => ⟨(S1.fre 0 p hp).1, (S1.fre 0 p hp).2.1⟩
  | bk ρ => rw [e] at hq; exact hq.elim
  | ct ρ => rw [e] at hq; exact hq.elim
  | rt s => rw [e] at hq; exact hq.elim
  | exc c => rw [e] at hq; exact fun cls d σ F1 H1 ex r => hq cls d F1 H1 ex r
  | bad => rw [e] at hq; exact hq.elim
def KeptM (P : Program) (w : World) (K : PySem.W.Frag) (mg : Str → Option Value) (base : Heap) (k n : Nat) (x : Str) (ps : List Str) (f : List Tv → R Tv) : Prop :=
  ∃ fd : FuncData, PySem.W.keepIn K (.ref (He.ga K x)) = true ∧ mg x = some (.ref (He.ga K x)) ∧ Binds K fd ps [] ∧ FnOk P w K mg base (L2.CX P w) k (He.ga K x) fd ps (spM K n f)
theorem kept_ofM {P : Program} {w : World} {mg : Str → Option Value} {base : Heap} {x : Str} {params : Arguments} {body : List Stmt} {scope : Scope} {N ps : List Str} {k n : Nat} {s : Rho → SR} {f : List Tv → R Tv}
    (hF : ∃ fd : FuncData, FunD K x x params body scope [] [] (He.ga K x) fd) (hg : mg x = some (.ref (He.ga K x))) (S : FnScope N ps scope) (hn : ps.length = n) (hf : f = runM N.length s)
    (hbd : ∀ (kV doc pm : Value) (an : Option Addr) (cdv ct : Value) (us : List Value), us.length = ps.length → bindArgs (PySem.W.fnOf x x params body scope .none kV doc pm an cdv ct) ⟨us, []⟩ = pure (ps.zip us))
    (hb : ∀ (cdv : Value) (A : Around) (outer : List Env) (sh : Shared) (H : Hp) (E : XK), Room k (A.deeper (envOfC x scope sh.heap.objs.size (He.ga K x) cdv)) →
      Takes (cxOf (L2.CX P w) P w K mg base N x scope (He.ga K x) cdv A outer sh H E) (fun cls d _ H => E cls d H) →
      ∃ t, PSs (cxOf (L2.CX P w) P w K mg base N x scope (He.ga K x) cdv A outer sh H E) body t ∧ TDS K (fun cls d _ H => E cls d H) t s ∧ Kp 0 t) : KeptM P w K mg base (k + 1) n x ps f := by
  obtain ⟨fd, FD⟩ := hF
  subst hn hf
  exact ⟨fd, FD.kp, hg, FD.bindsN hbd, fnM FD S hb⟩
variable {W : WX} {tr : TA} {gq : Rho → R (List PD)} {n : Nat} {f : List Tv → R Tv}
/-- f(x, ..): x is changed -/
def sCallM (i : Nat) (n : Nat) (f : List Tv → R Tv) (gq : Rho → R (List PD)) : Rho → SR := fun ρ => match treeOf ρ i with
  | some x => SR.of (gq ρ) fun ds => if ds.length + 1 = n then (match f (x :: ds.map Tv.fr) with
    | .ok y => .nx (ρ.set i (some (slOf y)))
    | .exc c => .exc c
    | .bad => .bad) else .bad
  | none => .bad
theorem ds_callM (i : Nat) (h : TDa K W tr gq) : TDS K W (tDrop (tCallS (spM K n f) (WE W) (tCons (tVar i) tr))) (sCallM i n f gq) := fun F0 H0 F H σ ρ D S q => by
  unfold sCallM at q
  cases et : treeOf ρ i with
  | none => rw [et] at q; exact q.elim
  | some x =>
    rw [et] at q
    have hx : ρ[i]? = some (some (.t x)) := by
      unfold treeOf at et
      split at et
      · rename_i e; cases et; exact e
      · cases et
    obtain ⟨φ, S⟩ := S
    obtain ⟨v, hv, tv⟩ := S.tre i x hx
    refine ⟨v, hv, h F0 H0 F H σ ρ _ ⟨φ, S⟩ (q.of S.ext fun ds F1 H1 e1 k1 us rs => ?_)⟩
    replace k1 : FinS K W F0 H0 D (if ds.length + 1 = n then (match f (x :: ds.map Tv.fr) with
      | .ok y => .nx (ρ.set i (some (slOf y)))
      | .exc c => .exc c
      | .bad => .bad) else .bad) := k1
    by_cases hn : ds.length + 1 = n
    · rw [if_pos hn] at k1
      have S1 := S.go e1
      have tv1 : TvAt K F1 H1 (φ i) v x := tv.keep e1.f (KeepOn.same e1.h)
      have tl : TvAll K F1 H1 (φ i ++ []) (v :: us) (x :: ds.map Tv.fr) := .cons tv1 (dp_frs rs)
      rw [List.append_nil] at tl
      have own : ∀ p ∈ φ i, F1 p = none ∧ (H p = none ∨ ∃ j ∈ [i], p ∈ φ j) := fun p hp => ⟨(S1.fre i p hp).2.1, .inr ⟨i, by simp, hp⟩⟩
      have h1 : Same F1 (cutL H1 (φ i)) := fun p u e => by rw [cutL_out (fun z => by rw [(own p z).1] at e; cases e)]; exact e1.g p u e
      have base0 : ∀ {p : Addr}, cutL H1 (φ i) p = none → H0 p = none := fun {p} z => by
        by_cases hin : p ∈ φ i
        · exact (S.fre i p hin).1
        · rw [cutL_out hin] at z
          exact S.ext.h.free (e1.h.free z)
      have apart : ∀ {F2 : Hp} {fq : List Addr}, (∀ p ∈ fq, cutL H1 (φ i) p = none ∧ F2 p = none) → ∀ j p, p ∈ phis φ [i] j → p ∉ fq := fun {F2 fq} hq j p hj hin => by
        obtain ⟨n1, n2⟩ := phis_mem hj
        obtain ⟨_, _, o, c, _⟩ := S1.fre j p n2
        have := (hq p hin).1
        rw [cutL_out (fun z => by
          have := S.dis i j p z n2
          subst this
          exact n1 (by simp)), c] at this
        cases this
      refine ⟨?_, F1, cutL H1 (φ i), φ i, x :: ds.map Tv.fr, h1, cutL_same, tl, S.nod i, fun p hp => cutL_in hp, ?_⟩
      · rw [tl.length, List.length_cons, List.length_map]; exact hn
      · cases e : f (x :: ds.map Tv.fr) with
        | ok y =>
          rw [e] at k1
          intro v0 hv0 fq F2 H2 ex tv2 nd2 hq
          have hv0 : v = v0 := by simpa using hv0
          subst hv0
          have S2 := S.given e1 own tv1.nt ex
          have S3 := S2.putT (i := i) tv2 nd2 (fun p hp => ⟨base0 (hq p hp).1, (hq p hp).2⟩) (fun j p _ hj => apart hq j p hj)
          rw [set_same hv] at S3
          have er : (killD ρ [i]).set i (some (slOf y)) = ρ.set i (some (slOf y)) := by
            show (ρ.set i none).set i _ = _
            rw [List.set_set]
          rw [er] at S3
          exact k1 σ F2 H2 ⟨_, S3⟩
        | exc c =>
          rw [e] at k1
          exact fun cls d F2 H2 ex r => k1 cls d σ F2 H2 (S.given e1 own tv1.nt ex).ext r
        | bad => rw [e] at k1; exact k1.elim
    · rw [if_neg hn] at k1
      exact k1.elim
end
section
variable {K : PySem.W.Frag} {W : WX} {te ti tp : TE} {g gi : Rho → R PD} {gp : Rho → R (List Nat)}
/-- a step of a path from the end too -/
def kidsOf : Tv → Nat
  | .tup ts => ts.length
  | .lst ts => ts.length
  | _ => 0
theorem ixN_zero (n : Int) : ixN 0 n = none := by
  unfold ixN
  by_cases c : 0 ≤ n
  · rw [if_pos c, if_neg (by omega)]
  · rw [if_neg c, if_neg (by omega)]
def stepN (x : Tv) (ks : List Nat) (n : Int) : R (List Nat) := match x.at ks with
  | some t => (match ixN (kidsOf t) n with
    | some j => if (x.at (ks ++ [j])).isSome = true then .ok (ks ++ [j]) else .bad
    | none => .bad)
  | none => .bad
def pIxN (i : Nat) (gp : Rho → R (List Nat)) (gi : Rho → R PD) : Rho → R (List Nat) := fun ρ => (gp ρ).bind fun ks => (gi ρ).bind fun a => match a with
  | .int n => (match treeOf ρ i with
    | some x => stepN x ks n
    | none => .bad)
  | _ => .bad
theorem tp_ixN (i : Nat) (hp : TDp2 K W i tp gp) (hi : TDr K W ti gi) : TDp2 K W i (tOp (rIx K) tp ti) (pIxN i gp gi) := fun F0 H0 F H σ ρ φ x v Q S hx hv q =>
  hp F0 H0 F H σ ρ φ x v _ S hx hv (q.then fun ks F1 H1 e1 k1 u0 hu0 => hi F0 H0 F1 H1 σ ρ _ ⟨φ, S.go e1⟩ (k1.then fun a F2 H2 e2 k2 w rw' => by
    cases a with
    | int n =>
      have et : treeOf ρ i = some x := by unfold treeOf; rw [hx]
      replace k2 : Fin K W σ F2 H2 (match treeOf ρ i with
        | some x => stepN x ks n
        | none => .bad) (fun ks _ H' => ∀ u, vAt H' v ks u → Q u H') := k2
      rw [et] at k2
      replace k2 : Fin K W σ F2 H2 (stepN x ks n) (fun ks _ H' => ∀ u, vAt H' v ks u → Q u H') := k2
      unfold stepN at k2
      cases ek : x.at ks with
      | none => rw [ek] at k2; exact k2.elim
      | some t =>
        rw [ek] at k2
        dsimp only at k2
        cases ej : ixN (kidsOf t) n with
        | none => rw [ej] at k2; exact k2.elim
        | some j =>
          rw [ej] at k2
          dsimp only at k2
          by_cases c : (x.at (ks ++ [j])).isSome = true
          · rw [if_pos c] at k2
            have S2 := (S.go e1).go e2
            obtain ⟨t', ht'⟩ := Option.isSome_iff_exists.mp c
            obtain ⟨v', a1, b1⟩ := S2.tre i x hx
            rw [hv] at a1; cases a1
            obtain ⟨u, fq, c1, _, _, _⟩ := tvAt_at b1 (S2.nod i) ht'
            obtain ⟨u0', d1, d2⟩ := c1.snoc
            have := d1.det (hu0.mono e2.h)
            subst this
            obtain ⟨u1, fz, g1, g2, _, _⟩ := tvAt_at b1 (S2.nod i) ek
            have := g1.det d1
            subst this
            obtain ⟨p, xs, w2, f1, f2, f3, f4⟩ := d2
            have f4 : w2 = u := f4
            subst f4
            subst f1
            have len : kidsOf t = xs.length := by
              cases g2 with
              | tup s r =>
                show List.length _ = _
                rcases f2 with f2 | f2
                · rw [s] at f2; cases f2; exact r.length.symm
                · rw [s] at f2; cases f2
              | lst s r =>
                show List.length _ = _
                rcases f2 with f2 | f2
                · rw [s] at f2; cases f2
                · rw [s] at f2; cases f2; exact r.length.symm
              | own o =>
                exfalso
                rw [show kidsOf _ = 0 from rfl, ixN_zero] at ej
                cases ej
              | dT s r =>
                exfalso
                rw [show kidsOf _ = 0 from rfl, ixN_zero] at ej
                cases ej
              | fr d =>
                exfalso
                rw [show kidsOf _ = 0 from rfl, ixN_zero] at ej
                cases ej
            have ea : atI xs n = some w2 := by
              unfold atI
              rw [← len, ej]
              exact f3
            have fin := (Fin.okk (x := ks ++ [j]) K W σ e2.g k2) w2 c1
            rcases f2 with f2 | f2
            · exact .inr (.inl ⟨p, xs, n, w2, rfl, rw'.int, SqT.of f2, ea, fin⟩)
            · exact .inl ⟨p, xs, n, w2, rfl, rw'.int, SqL.of f2, ea, fin⟩
          · rw [if_neg c] at k2; exact k2.elim
    | _ => exact k2.elim))
end
end DL
/-! Sets of tuples of ints and texts: set(l), sorted(set(l)). -/
namespace DL
open PySem PySem.Spec PyProof.Rows L2

/-! ### what a search through a table meets, told without the machine -/
inductive Trail (t : SetTable) (hA : Nat → Int) (h : Int) (N : Nat) (hit : Nat → Prop) : Nat → SetTable.Probe → Option Nat → Prop
  | out {n : Nat} {p : SetTable.Probe} {j : Nat} : t.probe hA h p = some (.empty j none) → Trail t hA h N hit (n + 1) p (some j)
  | here {n : Nat} {p x : SetTable.Probe} {j i : Nat} : t.probe hA h p = some (.candidate j i x) → t.slot j = .live i → i < N → hit i → Trail t hA h N hit (n + 1) p none
  | on {n : Nat} {p x : SetTable.Probe} {j i : Nat} {r : Option Nat} : t.probe hA h p = some (.candidate j i x) → t.slot j = .live i → i < N → ¬ hit i → Trail t hA h N hit n x r → Trail t hA h N hit (n + 1) p r

abbrev startAt (t : SetTable) (h : Int) : SetTable.Probe := runAt t.mask (SetTable.bits h % (t.mask + 1)) (SetTable.bits h)
theorem nth_clean (m : Nat) : ∀ (n : Nat) (p : SetTable.Probe), p.dummy = none → (nth m p n).dummy = none
  | 0, _, e => e
  | n + 1, p, e => nth_clean m n (adv m p) (by unfold adv; split <;> exact e)
/-- where the first free place on h's way lies, and what has been found by then -/
structure Free (t : SetTable) (h : Int) (j : Nat) : Prop where
  at_ : ∃ K, j = way t.mask h K ∧ way t.mask h K ∉ t.place.toList ∧ ∀ c, c < K → way t.mask h c ∈ t.place.toList
theorem trail_from {t : SetTable} {hs : List Int} (T : TabOk t hs) {hA : Nat → Int} (eA : ∀ i x, hs[i]? = some x → hA i = x) {h : Int} {hit : Nat → Prop} (hh : ∀ i, hit i → hs[i]? = some h)
    {K : Nat} (k1 : K < 10 * SetTable.turns t.mask) (k2 : way t.mask h K ∉ t.place.toList) (k3 : ∀ c, c < K → way t.mask h c ∈ t.place.toList) :
    ∀ (d c n : Nat), c + d = K → d < n → (∀ i, hit i → ∃ c', c ≤ c' ∧ c' < K ∧ t.place.toList[i]? = some (way t.mask h c')) →
      ∃ r, Trail t hA h hs.length hit n (nth t.mask (startAt t h) c) r ∧ (r = none → ∃ i, hit i) ∧ ∀ j, r = some j → (∀ i, ¬ hit i) ∧ Free t h j := by
  intro d
  induction d using Nat.strongRecOn with
  | _ d ih =>
    intro c n hc hn hp
    obtain ⟨m, rfl⟩ : ∃ m, n = m + 1 := ⟨n - 1, by omega⟩
    have sh : ∀ q, nth t.mask (nth t.mask (startAt t h) c) q = nth t.mask (startAt t h) (c + q) := fun q => (nth_add _ c _ q).symm
    have wy : ∀ q, (nth t.mask (nth t.mask (startAt t h) c) q).j = way t.mask h (c + q) := fun q => by rw [sh]
    rcases go_spec t T.ris T.dm hA h (10 * SetTable.turns t.mask) d (nth t.mask (startAt t h) c) (nth_clean _ c _ rfl) (by omega)
        (fun q hq => by rw [wy]; exact k3 _ (by omega)) (by rw [wy, hc]; exact k2) with ⟨q, i, b1, b2, b3, b4, b5⟩ | ⟨b1, b2⟩
    · rw [wy] at b2
      rw [wy, sh] at b5
      have lv := slot_live T.ris b2
      have hi : i < hs.length := by
        have z := (List.getElem?_eq_some_iff.mp b2).1
        rw [Array.length_toList, T.sz] at z
        exact z
      by_cases y : hit i
      · exact ⟨none, .here b5 lv hi y, fun _ => ⟨i, y⟩, fun j e => nomatch e⟩
      · obtain ⟨r, r1, r2⟩ := ih (d - (q + 1)) (by omega) (c + (q + 1)) m (by omega) (by omega) fun i' hi' => by
          obtain ⟨c', u1, u2, u3⟩ := hp i' hi'
          refine ⟨c', ?_, u2, u3⟩
          apply Classical.byContradiction
          intro z
          rcases Nat.lt_or_ge c' (c + q) with lt | ge
          · exact b4 (c' - c) i' (by omega) (by rw [wy, show c + (c' - c) = c' by omega]; exact u3) (eA _ _ (hh i' hi'))
          · have e : c' = c + q := by omega
            subst e
            have lv' := slot_live T.ris u3
            rw [lv] at lv'
            injection lv' with ee
            exact y (ee ▸ hi')
        exact ⟨r, .on b5 lv hi y r1, r2⟩
    · rw [wy, hc] at b2
      refine ⟨some (way t.mask h K), .out b2, (by intro e; cases e), ?_⟩
      intro j e
      injection e with e
      subst e
      refine ⟨fun i hi => ?_, ⟨K, rfl, k2, k3⟩⟩
      obtain ⟨c', u1, u2, u3⟩ := hp i hi
      exact b1 (c' - c) i (by omega) (by rw [wy, show c + (c' - c) = c' by omega]; exact u3) (eA _ _ (hh i hi))
theorem trail_ex {t : SetTable} {hs : List Int} (T : TabOk t hs) (room : hs.length ≤ t.mask) {hA : Nat → Int} (eA : ∀ i x, hs[i]? = some x → hA i = x) {h : Int} {hit : Nat → Prop} (hh : ∀ i, hit i → hs[i]? = some h) :
    ∃ r, Trail t hA h hs.length hit 100000 (t.probeStart h) r ∧ (r = none → ∃ i, hit i) ∧ ∀ j, r = some j → (∀ i, ¬ hit i) ∧ Free t h j := by
  obtain ⟨K, k1, k2, k3⟩ := T.first room h
  have lim : 10 * SetTable.turns t.mask ≤ 100000 := by
    unfold SetTable.turns
    rcases T.mok with e | e | e <;> rw [e] <;> decide
  refine trail_from T eA hh k1 k2 k3 K 0 100000 (Nat.zero_add _) (by omega) fun i hi => ?_
  have hl : i < t.place.toList.length := by
    have z := (List.getElem?_eq_some_iff.mp (hh i hi)).1
    rw [Array.length_toList, T.sz]
    exact z
  obtain ⟨c, c1, c2⟩ := T.before k2 (hh i hi) (List.getElem?_eq_getElem hl)
  exact ⟨c, Nat.zero_le _, c1, by rw [c2]; exact List.getElem?_eq_getElem hl⟩

section
variable {P : Program} {w : World} {A : Around} {E : Value → Shared → Prop} {s : Shared}
/-- the tuple at a has the keys ks -/
abbrev KeyT (P : Program) (w : World) (h : Heap) (ks : List Key) (a : Addr) : Prop := IsTupleKey (mixKind P w) h ks a
abbrev hashK (P : Program) (w : World) (ks : List Key) : Int := tupleKeyHash (mixKind P w) ks
/-- an entry of the set -/
abbrev rowK (P : Program) (w : World) (p : List Key × Addr) : Int × Value := (hashK P w p.1, .ref p.2)

/-! ### tuples of keys tell nothing while a set is searched -/
theorem items_plain {ks : List Key} {vs : List Value} (r : ItemsAre (mixKind P w) ks vs) : ∀ v ∈ vs, (∀ n, ofAClassStatement n v = pure false) ∧ ∀ n, ∃ b, hashByValue n v = pure b := by
  induction r with
  | nil => exact fun v h => absurd h List.not_mem_nil
  | cons a _ ih =>
    intro v hv
    rcases List.mem_cons.mp hv with rfl | hv
    · rcases keyIs_shape a with ⟨i, t, rfl, rfl⟩ | ⟨x, t, rfl, rfl⟩
      · exact ⟨fun n => by cases n <;> rfl, fun n => ⟨true, by cases n <;> rfl⟩⟩
      · exact ⟨fun n => by cases n <;> rfl, fun n => ⟨false, by cases n <;> rfl⟩⟩
    · exact ih v hv
theorem noClass {ks : List Key} {b : Addr} {Q : Bool → Shared → Prop} (r : KeyT P w s.heap ks b) (q : Q false s) : wpAny (model P w) A (ofAClassStatement 8 (.ref b)) Q E s := by
  have ty := r.typeIs
  obtain ⟨o, its, n, ho, hc, hd, hi⟩ := r
  unfold ofAClassStatement
  refine wpAny_bind (wpAny_typeOf ty ?_)
  have e : (("tuple" : String) == "tuple") = true := by decide
  simp only [e, if_true]
  try refine wpAny_bind (wpAny_pure ?_)
  try simp only [Bool.not_true, Bool.false_eq_true, if_false]
  show wpAny _ _ (seqItems? (.ref b) >>= _) _ _ s
  refine wpAny_bind (wpAny_seqItems ho hd ?_)
  dsimp only
  refine wpAny_bind ?_
  show wpAny _ _ (forIn its _ _) _ _ s
  rw [← Array.forIn_toList]
  refine wpAny_forIn_list _ (fun l b s' => b.1 = none ∧ s' = s ∧ ∀ v ∈ l, v ∈ its.toList) _ (fun v l b s' x => ?_) (fun b s' x => ?_) _ _ ⟨rfl, rfl, fun v h => h⟩
  · obtain ⟨x1, rfl, x3⟩ := x
    rw [(items_plain hi v (x3 v List.mem_cons_self)).1]
    refine wpAny_bind (wpAny_pure ?_)
    simp only [Bool.false_eq_true, if_false]
    exact wpAny_pure ⟨rfl, rfl, fun u hu => x3 u (List.mem_cons_of_mem _ hu)⟩
  · obtain ⟨b1, b2⟩ := b
    obtain ⟨x1, rfl, _⟩ := x
    have x1 : b1 = none := x1
    subst x1
    exact wpAny_pure q
theorem someHash {ks : List Key} {b : Addr} {Q : Bool → Shared → Prop} (r : KeyT P w s.heap ks b) (q : ∀ y, Q y s) : wpAny (model P w) A (hashByValue 8 (.ref b)) Q E s := by
  have ty := r.typeIs
  obtain ⟨o, its, n, ho, hc, hd, hi⟩ := r
  unfold hashByValue
  refine wpAny_bind (wpAny_specialOf ty F.slot_tuple_hash.lookup ?_)
  show wpAny _ _ (seqItems? (.ref b) >>= _) _ _ s
  refine wpAny_bind (wpAny_seqItems ho hd ?_)
  refine wpAny_bind ?_
  show wpAny _ _ (forIn its _ _) _ _ s
  rw [← Array.forIn_toList]
  refine wpAny_forIn_list _ (fun l b s' => b.1 = none ∧ s' = s ∧ ∀ v ∈ l, v ∈ its.toList) _ (fun v l b s' x => ?_) (fun b s' x => ?_) _ _ ⟨rfl, rfl, fun v h => h⟩
  · obtain ⟨x1, rfl, x3⟩ := x
    obtain ⟨y, ey⟩ := (items_plain hi v (x3 v List.mem_cons_self)).2 7
    rw [ey]
    refine wpAny_bind (wpAny_pure ?_)
    cases y with
    | true =>
      simp only [Bool.not_true, Bool.false_eq_true, if_false]
      exact wpAny_pure ⟨rfl, rfl, fun u hu => x3 u (List.mem_cons_of_mem _ hu)⟩
    | false =>
      simp only [Bool.not_false, if_true]
      exact wpAny_pure (wpAny_pure (q false))
  · obtain ⟨b1, b2⟩ := b
    obtain ⟨x1, rfl, _⟩ := x
    have x1 : b1 = none := x1
    subst x1
    exact wpAny_pure (q true)
theorem notSeen {ks : List Key} {b : Addr} {Q : Bool → Shared → Prop} (r : KeyT P w s.heap ks b) {ys : List Value} (hy : ∀ y ∈ ys, ∃ k c, y = Value.ref c ∧ KeyT P w s.heap k c) (q : Q false s) :
    wpAny (model P w) A (searchCouldBeSeen (.ref b) ys) Q E s := by
  unfold searchCouldBeSeen
  refine wpAny_bind ?_
  refine wpAny_forIn_list _ (fun l b s' => b.1 = none ∧ s' = s ∧ ∀ v ∈ l, v ∈ ys) _ (fun v l b s' x => ?_) (fun b s' x => ?_) _ _ ⟨rfl, rfl, fun v h => h⟩
  · obtain ⟨x1, rfl, x3⟩ := x
    obtain ⟨k, c, rfl, hc⟩ := hy v (x3 v List.mem_cons_self)
    have nx : ∀ u ∈ l, u ∈ ys := fun u hu => x3 u (List.mem_cons_of_mem _ hu)
    dsimp only
    split
    · exact wpAny_pure ⟨rfl, rfl, nx⟩
    · refine wpAny_bind (wpAny_eqIsQuiet_tuple r ?_)
      simp only [Bool.not_true, Bool.false_eq_true, if_false]
      refine wpAny_bind (wpAny_eqIsQuiet_tuple hc ?_)
      simp only [Bool.not_true, Bool.false_eq_true, if_false]
      refine wpAny_bind (noClass r ?_)
      simp only [Bool.false_eq_true, if_false]
      refine wpAny_bind (noClass hc ?_)
      simp only [Bool.false_eq_true, if_false]
      exact wpAny_pure ⟨rfl, rfl, nx⟩
  · obtain ⟨b1, b2⟩ := b
    obtain ⟨x1, rfl, _⟩ := x
    have x1 : b1 = none := x1
    subst x1
    exact wpAny_pure q

/-! ### the search -/
def foundOf : Option Nat → SetFound
  | none => .there none
  | some j => .free j false
theorem search_trail {a x : Addr} {k : List Key} {o : Obj} {es : Array (Int × Value)} {ep : Nat} {t : SetTable} {L : List (List Key × Addr)} (ho : s.heap.get? a = some o) (hd : o.data = .set es ep t) (hf : t.fits es.size = true) (hg : ¬ t.gaveWay = true)
    (he : es.toList = L.map (rowK P w)) (hL : ∀ p ∈ L, KeyT P w s.heap p.1 p.2) (hx : KeyT P w s.heap k x) (hu : A.units < cLine) {Q : SetFound → Shared → Prop} {n : Nat} {p : SetTable.Probe} {r : Option Nat}
    (T : Trail t (fun i => (es[i]?.map (·.1)).getD 0) (hashK P w k) L.length (fun i => ∃ q, L[i]? = some q ∧ q.1 = k) n p r) :
    ∀ st : Option SetTable.Probe, st.getD (t.probeStart (hashK P w k)) = p → Q (foundOf r) s → wpAny (model P w) A (setSearchFrom a (.ref x) (hashK P w k) true n st) Q E s := by
  have ent : ∀ i, i < L.length → ∃ q, L[i]? = some q ∧ es[i]? = some (rowK P w q) ∧ KeyT P w s.heap q.1 q.2 := fun i hi => by
    refine ⟨L[i], List.getElem?_eq_getElem hi, ?_, hL _ (List.getElem_mem hi)⟩
    rw [← Array.getElem?_toList, he, List.getElem?_map, List.getElem?_eq_getElem hi]
    all_goals rfl
  have quiet : ∀ {Q' : Bool → Shared → Prop}, Q' false s → wpAny (model P w) A (searchCouldBeSeen (.ref x) ((es.filter (·.1 == hashK P w k)).toList.map (·.2))) Q' E s := fun {Q'} q' => by
    refine notSeen hx (fun y hy => ?_) q'
    obtain ⟨e, h1, rfl⟩ := List.mem_map.mp hy
    have h2 : e ∈ es ∧ e.1 = hashK P w k := by simpa using h1
    have h3 : e ∈ L.map (rowK P w) := by rw [← he]; simpa using h2.1
    obtain ⟨q, h4, rfl⟩ := List.mem_map.mp h3
    exact ⟨q.1, q.2, rfl, hL q h4⟩
  induction T with
  | out e =>
    intro st hst q
    rw [setSearchFrom_succ]
    refine wpAny_bind (wpAny_setState_of ho hd hf ?_)
    dsimp only
    refine wp_if_neg hg ?_
    try refine wpAny_bind (wpAny_pure ?_)
    rw [hst, e]
    exact wpAny_pure q
  | @here n p nx j i e lv hi hit =>
    intro st hst q
    obtain ⟨y, y1, y2, y3⟩ := ent i hi
    have yk : y.1 = k := by
      obtain ⟨z, z1, z2⟩ := hit
      rw [y1] at z1
      cases z1
      exact z2
    have rest : wpAny (model P w) A (searchRest a (.ref x) (hashK P w k) true n es t j i nx) Q E s := by
      unfold searchRest
      rw [y2]
      dsimp only
      refine wpAny_bind (wpAny_holding (wpAny_eqBool_tuple hu y3 hx ?_))
      refine wpAny_bind (wpAny_setState_of ho hd hf ?_)
      dsimp only
      exact wp_if_pos (by simp [yk]) (wpAny_pure q)
    rw [setSearchFrom_succ]
    refine wpAny_bind (wpAny_setState_of ho hd hf ?_)
    dsimp only
    refine wp_if_neg hg ?_
    try refine wpAny_bind (wpAny_pure ?_)
    rw [hst, e]
    dsimp only
    cases hl : t.led with
    | true =>
      refine wp_if_neg (by decide) ?_
      try refine wpAny_bind (wpAny_pure ?_)
      exact rest
    | false =>
      refine wp_if_pos (by decide) ?_
      refine wpAny_bind (quiet ?_)
      refine wp_if_neg (by decide) ?_
      try refine wpAny_bind (wpAny_pure ?_)
      exact rest
  | @on n p nx j i r e lv hi hit _ ih =>
    intro st hst q
    obtain ⟨y, y1, y2, y3⟩ := ent i hi
    have yk : ¬ y.1 = k := fun z => hit ⟨y, y1, z⟩
    have rest : wpAny (model P w) A (searchRest a (.ref x) (hashK P w k) true n es t j i nx) Q E s := by
      unfold searchRest
      rw [y2]
      dsimp only
      refine wpAny_bind (wpAny_holding (wpAny_eqBool_tuple hu y3 hx ?_))
      refine wpAny_bind (wpAny_setState_of ho hd hf ?_)
      dsimp only
      refine wp_if_neg (by simp [yk]) ?_
      try refine wpAny_bind (wpAny_pure ?_)
      rw [sameMem]
      simp only [if_true, lv, y2]
      refine wpAny_bind (wpAny_isSame_ref_self (wpAny_bind (wpAny_pure ?_)))
      simp only [if_true]
      exact wp_if_neg (by simp [yk]) (ih (some nx) rfl q)
    rw [setSearchFrom_succ]
    refine wpAny_bind (wpAny_setState_of ho hd hf ?_)
    dsimp only
    refine wp_if_neg hg ?_
    try refine wpAny_bind (wpAny_pure ?_)
    rw [hst, e]
    dsimp only
    cases hl : t.led with
    | true =>
      refine wp_if_neg (by decide) ?_
      try refine wpAny_bind (wpAny_pure ?_)
      exact rest
    | false =>
      refine wp_if_pos (by decide) ?_
      refine wpAny_bind (quiet ?_)
      refine wp_if_neg (by decide) ?_
      try refine wpAny_bind (wpAny_pure ?_)
      exact rest

/-! ### the set -/
structure SetK (P : Program) (w : World) (h : Heap) (a : Addr) (L : List (List Key × Addr)) : Prop where
  ex : ∃ o es ep t, h.get? a = some o ∧ o.ExactSet ∧ o.data = .set es ep t ∧ es.toList = L.map (rowK P w) ∧ TabOk t (L.map fun p => hashK P w p.1) ∧ (w.params.followText "set-order" = true ∨ t.led = true) ∧ L.length * 5 < t.mask * 3
  nd : (L.map (·.1)).Nodup
  few : L.length < 64
theorem es_size {es : Array (Int × Value)} {L : List (List Key × Addr)} (e : es.toList = L.map (rowK P w)) : es.size = L.length := by
  rw [← Array.length_toList, e, List.length_map]
theorem tab_fits {es : Array (Int × Value)} {t : SetTable} {L : List (List Key × Addr)} (e : es.toList = L.map (rowK P w)) (d : t.dummies = #[]) (z : t.place.size = L.length) (le : L.length ≤ t.mask) : t.fits es.size = true := by
  unfold SetTable.fits SetTable.fill
  rw [d, es_size e, z]
  simpa using le
theorem range_get {α : Type} : ∀ L : List α, (List.range L.length).filterMap (fun i => L[i]?) = L
  | [] => rfl
  | x :: L => by
    rw [List.length_cons, List.range_succ_eq_map, List.filterMap_cons_some (f := fun i => (x :: L)[i]?) (a := 0) (b := x) rfl, List.filterMap_map]
    exact congrArg (x :: ·) (range_get L)
theorem hashes_at {es : Array (Int × Value)} {L : List (List Key × Addr)} (e : es.toList = L.map (rowK P w)) : ∀ l : List Nat, (∀ i ∈ l, i < L.length) → (l.map fun i => (es.map (·.1)).getD i 0) = (l.filterMap fun i => L[i]?).map fun p => hashK P w p.1
  | [], _ => rfl
  | i :: l, hl => by
    have hi := hl i List.mem_cons_self
    rw [List.map_cons, hashes_at e l fun j hj => hl j (List.mem_cons_of_mem _ hj), List.filterMap_cons_some (List.getElem?_eq_getElem hi), List.map_cons]
    congr 1
    have e1 : es[i]? = some (rowK P w L[i]) := by
      rw [← Array.getElem?_toList, e, List.getElem?_map, List.getElem?_eq_getElem hi]
      all_goals rfl
    rw [Array.getD_eq_getD_getElem?, Array.getElem?_map, e1]
    all_goals rfl
theorem order_ok {es : Array (Int × Value)} {L : List (List Key × Addr)} (e : es.toList = L.map (rowK P w)) {od : Array Nat} (p : od.toList.Perm (List.range L.length)) :
    ∃ L' : List (List Key × Addr), L'.Perm L ∧ (od.filterMap (es[·]?)).toList = L'.map (rowK P w) ∧ (od.toList.map fun i => (es.map (·.1)).getD i 0) = L'.map fun p => hashK P w p.1 := by
  refine ⟨od.toList.filterMap fun i => L[i]?, ?_, ?_, hashes_at e _ fun i hi => List.mem_range.mp (p.mem_iff.mp hi)⟩
  · have := p.filterMap fun i => L[i]?
    rw [range_get] at this
    exact this
  · rw [Array.toList_filterMap, List.map_filterMap]
    congr 1
    funext i
    rw [← Array.getElem?_toList, e, List.getElem?_map]
theorem keyT_same {h h' : Heap} {a b : Addr} {o : Obj} {es : Array (Int × Value)} {ep : Nat} {t : SetTable} {k : List Key} (ho : h.get? a = some o) (hd : o.data = .set es ep t) (sb : Heap.SameBut a h h') (r : KeyT P w h k b) : KeyT P w h' k b := by
  obtain ⟨o', its, n, ho', hc, hd', hi⟩ := r
  refine ⟨o', its, n, (sb.2 b fun z => ?_).trans ho', hc, hd', hi⟩
  subst z
  rw [ho] at ho'
  cases ho'
  rw [hd] at hd'
  cases hd'
theorem relay_key {a : Addr} {o : Obj} {es : Array (Int × Value)} {ep : Nat} {t : SetTable} {L : List (List Key × Addr)} (ho : s.heap.get? a = some o) (hx : o.ExactSet) (hd : o.data = .set es ep t) (he : es.toList = L.map (rowK P w)) (dm : t.dummies = #[]) (z : t.place.size = L.length) (le : L.length ≤ t.mask)
    (ld : w.params.followText "set-order" = true ∨ t.led = true) (nd : (L.map (·.1)).Nodup) (few : L.length < 64) {wanted M : Nat} (e1 : SetTable.sizeAbove wanted = M + 1) (hM : MaskOk M) (sm : M ≤ 127) (room : L.length * 5 < M * 3) {Q : Unit → Shared → Prop}
    (q : ∀ h' L', Heap.SameBut a s.heap h' → SetK P w h' a L' → L'.Perm L → Q () { s with heap := h' }) : wpAny (model P w) A (setRelay a wanted) Q E s := by
  have hz := es_size he
  obtain ⟨t', od, r1, r2, r3, r4, r5, _⟩ := relaid_ok t (hs := es.map (·.1)) (wanted := wanted) (M := M) (by omega) hM (by rw [Array.size_map, hz]; omega)
  rw [Array.size_map, hz] at r2
  obtain ⟨L', p1, p2, p3⟩ := order_ok he r2
  rw [p3] at r3
  have hz' : (od.filterMap (es[·]?)).size = es.size := by rw [es_size p2, p1.length_eq, hz]
  rw [setRelay_eq]
  refine wpAny_bind (wpAny_setState_of ho hd (tab_fits he dm z le) ?_)
  dsimp only
  refine wp_if_neg (by rw [e1, sizeLine_eq]; omega) ?_
  try refine wpAny_bind (wpAny_pure ?_)
  rw [r1]
  refine wpAny_bind ?_
  dsimp only
  refine wp_if_neg (by rw [hz']; simp) ?_
  try refine wpAny_bind (wpAny_pure ?_)
  refine wpAny_pure ?_
  dsimp only
  have sb : Heap.SameBut a s.heap (s.heap.update a (Obj.putSet (od.filterMap (es[·]?)) t')) := Heap.SameBut.update ..
  refine wpAny_storeSet_of ho hd (q _ L' sb ⟨⟨_, _, _, _, store_at ho hd, ⟨hx.1, hx.2.1, hx.2.2⟩, rfl, p2, r3, by rw [r5]; exact ld, by rw [p1.length_eq, r4]; exact room⟩, (p1.map _).nodup_iff.mpr nd, by rw [p1.length_eq]; exact few⟩ p1) (by rw [hz', hz, sizeLine_eq]; omega)
theorem put_split {α : Type} (L : List α) (n : Nat) (x : α) : (L.take n ++ x :: L.drop n).Perm (x :: L) := by
  have q : (L.take n ++ x :: L.drop n).Perm (x :: (L.take n ++ L.drop n)) := List.perm_middle
  rwa [List.take_append_drop] at q
theorem tabOk_plain {t : SetTable} {hs : List Int} (T : TabOk t hs) (b : Bool) : TabOk { t with plain := b } hs := ⟨T.ris, T.dm, T.sz, T.mok, T.bd, T.reach⟩

/-- a tuple is put in -/
theorem add_key {a x : Addr} {k : List Key} {L : List (List Key × Addr)} (S : SetK P w s.heap a L) (hL : ∀ p ∈ L, KeyT P w s.heap p.1 p.2) (hx : KeyT P w s.heap k x) (hu : A.units < cLine) (few : L.length + 1 < 64) {Q : Bool → Shared → Prop}
    (q : ∀ b h' L', Heap.SameBut a s.heap h' → SetK P w h' a L' → (L' = L ∧ k ∈ L.map (·.1)) ∨ L'.Perm ((k, x) :: L) → Q b { s with heap := h' }) :
    wpAny (model P w) A (setAddHashed a (.ref x) (hashK P w k)) Q E s := by
  obtain ⟨o, es, ep, t, ho, ex, hd, he, T, ld, room⟩ := S.ex
  have hz := es_size he
  have tz : t.place.size = L.length := by rw [T.sz, List.length_map]
  have fit := tab_fits he T.dm tz (by omega)
  have gw : ¬ t.gaveWay = true := by
    unfold SetTable.gaveWay
    rw [mask_odd T.mok]
    decide
  have eA : ∀ (i : Nat) (y : Int), (L.map fun p => hashK P w p.1)[i]? = some y → (fun i => (es[i]?.map (·.1)).getD 0) i = y := fun i y h => by
    rw [List.getElem?_map] at h
    show (es[i]?.map (·.1)).getD 0 = y
    rw [← Array.getElem?_toList, he, List.getElem?_map]
    cases e : L[i]? with
    | none => rw [e] at h; cases h
    | some p => rw [e] at h; cases h; rfl
  obtain ⟨r, tr, r1, r2⟩ := trail_ex T (by rw [List.length_map]; omega) eA (h := hashK P w k) (hit := fun i => ∃ q, L[i]? = some q ∧ q.1 = k) fun i ⟨q, h1, h2⟩ => by
    rw [List.getElem?_map, h1, ← h2]
    all_goals rfl
  rw [List.length_map] at tr
  unfold setAddHashed
  refine wpAny_holding ?_
  rw [show (100000 : Nat) = 99999 + 1 from rfl, setAddHashedIn_succ]
  refine wpAny_bind (wpAny_setState_of ho hd fit ?_)
  dsimp only
  refine wp_if_neg (by simp [byScan, Value.scannable]) ?_
  try refine wpAny_bind (wpAny_pure ?_)
  refine wpAny_bind ?_
  unfold setSearch
  refine search_trail ho hd fit gw he hL hx hu tr none rfl ?_
  cases r with
  | none =>
    obtain ⟨i, y, h1, h2⟩ := r1 rfl
    exact wpAny_pure (q false s.heap L (Heap.SameBut.refl a s.heap) S (.inl ⟨rfl, List.mem_map.mpr ⟨y, List.mem_of_getElem? h1, h2⟩⟩))
  | some j =>
    obtain ⟨no, ⟨K, rfl, f1, f2⟩⟩ := r2 j rfl
    have new : k ∉ L.map (·.1) := fun hm => by
      obtain ⟨y, hy, ey⟩ := List.mem_map.mp hm
      obtain ⟨i, hi, e⟩ := List.getElem_of_mem hy
      exact no i ⟨y, by rw [List.getElem?_eq_getElem hi, e], ey⟩
    show wpAny _ _ _ _ _ _
    dsimp only [foundOf]
    refine wpAny_bind (wpAny_setState_of ho hd fit ?_)
    dsimp only
    obtain ⟨q1, q2, q3, q4, q5, q6, q7, q8, q9⟩ := T.put f1 f2
    generalize hpt : t.put (way t.mask (hashK P w k) K) = pt at q1 q3 q4 q5 q6 q7 q8 q9 ⊢
    obtain ⟨t1, pp⟩ := pt
    dsimp only at q1 q3 q4 q5 q6 q7 q8 q9 ⊢
    subst q1
    generalize hpp : SetTable.below t.place (way t.mask (hashK P w k) K) = p at q2 q3 ⊢
    rw [List.length_map] at q2 q9
    have pm := put_split L p (k, x)
    have len : (L.take p ++ (k, x) :: L.drop p).length = L.length + 1 := pm.length_eq
    have ein : (SetTable.insertAt es p (hashK P w k, Value.ref x)).toList = (L.take p ++ (k, x) :: L.drop p).map (rowK P w) := by
      rw [SetTable.toList_insertAt, he, List.map_append, List.map_cons, List.map_take, List.map_drop]
    have q3' : TabOk t1 ((L.take p ++ (k, x) :: L.drop p).map fun p => hashK P w p.1) := by
      rw [List.map_append, List.map_cons, List.map_take, List.map_drop]
      exact q3
    have nd1 : ((L.take p ++ (k, x) :: L.drop p).map (·.1)).Nodup := (pm.map _).nodup_iff.mpr (by rw [List.map_cons]; exact List.nodup_cons.mpr ⟨new, S.nd⟩)
    generalize L.take p ++ (k, x) :: L.drop p = L1 at pm len ein q3' nd1
    generalize SetTable.insertAt es p (hashK P w k, Value.ref x) = es1 at ein ⊢
    have ez : es1.size = L.length + 1 := by rw [es_size ein, len]
    -- behind the question of its hash's kind
    have go : ∀ b : Bool, wpAny (model P w) A (do
        storeSet a es1 (if b = true then t1 else { t1 with plain := false })
        if (!false && (if b = true then t1 else { t1 with plain := false }).tooFull) = true then setRelay a (SetTable.grown (es.size + 1))
        return true) Q E s := fun b => by
      have T1 : TabOk (if b = true then t1 else { t1 with plain := false }) (L1.map fun p => hashK P w p.1) := by
        cases b
        · exact tabOk_plain q3' false
        · exact q3'
      have m1 : (if b = true then t1 else { t1 with plain := false }).mask = t.mask := by cases b <;> exact q4
      have l1 : (if b = true then t1 else { t1 with plain := false }).led = t.led := by cases b <;> exact q5
      have fl : (if b = true then t1 else { t1 with plain := false }).fill = L.length + 1 := by cases b <;> exact q9
      generalize (if b = true then t1 else { t1 with plain := false }) = t2 at T1 m1 l1 fl ⊢
      have sb : Heap.SameBut a s.heap (s.heap.update a (Obj.putSet es1 t2)) := Heap.SameBut.update ..
      have ho1 := store_at (es' := es1) (t' := t2) ho hd
      refine wpAny_bind (wpAny_storeSet_of ho hd ?_ (by rw [ez, sizeLine_eq]; omega))
      generalize s.heap.update a (Obj.putSet es1 t2) = h1 at sb ho1 ⊢
      have tz2 : t2.place.size = L1.length := by rw [T1.sz, List.length_map]
      by_cases tf : t2.tooFull = true
      · have full : t2.mask * 3 ≤ (L.length + 1) * 5 := by
          have z := tf
          unfold SetTable.tooFull at z
          rw [decide_eq_true_eq, fl] at z
          exact z
        rw [m1] at full
        rw [tf, hz]
        have fin : ∀ M, SetTable.sizeAbove (SetTable.grown (L.length + 1)) = M + 1 → MaskOk M → M ≤ 127 → (L.length + 1) * 5 < M * 3 → L.length + 1 ≤ t.mask → wpAny (model P w) A (do
            setRelay a (SetTable.grown (L.length + 1))
            return true) Q E { s with heap := h1 } := fun M a1 a2 a3 a4 a5 => by
          refine wpAny_bind (relay_key (s := { s with heap := h1 }) ho1 ⟨ex.1, ex.2.1, ex.2.2⟩ rfl ein T1.dm tz2 (by rw [len, m1]; exact a5) (by rw [l1]; exact ld) nd1 (by rw [len]; exact few) a1 a2 a3 (by rw [len]; exact a4) fun h2 L2 sb2 S2 p2 => ?_)
          exact wpAny_pure (q true h2 L2 (sb.trans sb2) S2 (.inr (p2.trans pm)))
        rcases T.mok with e | e | e
        · rw [e] at full room
          have e2 : L.length = 4 := by omega
          exact fin 31 (by rw [e2]; exact size_20) (.inr (.inl rfl)) (by decide) (by omega) (by omega)
        · rw [e] at full room
          have e2 : L.length = 18 := by omega
          exact fin 127 (by rw [e2]; exact size_76) (.inr (.inr rfl)) (by decide) (by omega) (by omega)
        · rw [e] at full
          omega
      · have tf' : t2.tooFull = false := by simpa using tf
        rw [tf']
        refine wpAny_bind (wpAny_pure ?_)
        refine wpAny_pure (q true h1 L1 sb ⟨⟨_, _, _, _, ho1, ⟨ex.1, ex.2.1, ex.2.2⟩, rfl, ein, T1, by rw [l1]; exact ld, ?_⟩, nd1, by rw [len]; exact few⟩ (.inr pm))
        have z := tf
        unfold SetTable.tooFull at z
        rw [decide_eq_true_eq, fl] at z
        rw [len]
        omega
    first
      | exact wpAny_bind (by
          split
          · exact someHash hx fun y => go y
          · exact wpAny_pure (go true))
      | (split
         · exact wpAny_bind (someHash hx fun y => go y)
         · exact go true)

/-! ### set(l) -/
/-- L holds what the tuples of ps tell, each once -/
structure Holds (L ps : List (List Key × Addr)) : Prop where
  sub : ∀ p ∈ L, p ∈ ps
  all : ∀ p ∈ ps, p.1 ∈ L.map (·.1)
  len : L.length ≤ ps.length
theorem Holds.next {L L' ps : List (List Key × Addr)} {p : List Key × Addr} (x : Holds L ps) (c : (L' = L ∧ p.1 ∈ L.map (·.1)) ∨ L'.Perm (p :: L)) : Holds L' (ps ++ [p]) := by
  rcases c with ⟨rfl, m⟩ | pm
  · refine ⟨fun q hq => List.mem_append_left _ (x.sub q hq), fun q hq => ?_, by rw [List.length_append]; exact Nat.le_add_right_of_le x.len⟩
    rcases List.mem_append.mp hq with h | h
    · exact x.all q h
    · rw [List.mem_singleton.mp h]; exact m
  · refine ⟨fun q hq => ?_, fun q hq => ?_, by rw [pm.length_eq, List.length_append]; exact Nat.succ_le_succ x.len⟩
    · rcases List.mem_cons.mp (pm.mem_iff.mp hq) with h | h
      · rw [h]; exact List.mem_append_right _ List.mem_cons_self
      · exact List.mem_append_left _ (x.sub q h)
    · refine (pm.map (·.1)).mem_iff.mpr ?_
      rw [List.map_cons]
      rcases List.mem_append.mp hq with h | h
      · exact List.mem_cons_of_mem _ (x.all q h)
      · rw [List.mem_singleton.mp h]; exact List.mem_cons_self
theorem keyT_keep {h h' : Heap} {k : List Key} {b : Addr} (r : KeyT P w h k b) (e : ∀ c o, h.get? c = some o → h'.get? c = some o) : KeyT P w h' k b := by
  obtain ⟨o, its, n, ho, r⟩ := r
  exact ⟨o, its, n, e b o ho, r⟩
theorem SetK.keep {h h' : Heap} {a : Addr} {L : List (List Key × Addr)} (S : SetK P w h a L) (e : ∀ o, h.get? a = some o → h'.get? a = some o) : SetK P w h' a L := by
  obtain ⟨⟨o, es, ep, t, ho, r⟩, nd, few⟩ := S
  exact ⟨⟨o, es, ep, t, e o ho, r⟩, nd, few⟩
abbrev newSetO (w : World) : Obj := { cls := .type "set", dict := none, data := .set #[] 0 (.fresh 0 0 (!w.params.followText "set-order")) }
theorem setK_new {h : Heap} {a : Addr} (e : h.get? a = some (newSetO w)) : SetK P w h a [] := by
  refine ⟨⟨_, _, _, _, e, ⟨rfl, rfl, rfl⟩, rfl, rfl, ⟨List.Pairwise.nil, rfl, rfl, .inl rfl, fun x hx => absurd hx List.not_mem_nil, fun i h j hi => by simp at hi⟩, ?_, by show 0 * 5 < 7 * 3; decide⟩, List.nodup_nil, by decide⟩
  show _ ∨ (!w.params.followText "set-order") = true
  cases w.params.followText "set-order"
  · exact .inr rfl
  · exact .inl rfl
theorem loop_key {S I l : Addr} {items : Array Value} {R : Result → Shared → Prop} (hh : A.in1.handled = none) (ne : l ≠ I) (sI : S ≠ I) (sl : S ≠ l) {ks : List (List Key × Addr)} (hit : items.toList = ks.map fun p => Value.ref p.2) (few : ks.length < 64)
    (h0 : Heap) (k0 : ∀ p ∈ ks, KeyT P w h0 p.1 p.2) (S0 : h0.get? S = none) (I0 : h0.get? I = none) (hu : A.in1.units < cLine) :
    ∀ (r pre : List (List Key × Addr)), pre ++ r = ks → ∀ (s : Shared) (L : List (List Key × Addr)), s.heap.IsListIter I l pre.length → s.heap.IsList l items → (∀ b o, h0.get? b = some o → s.heap.get? b = some o) → SetK P w s.heap S L → Holds L pre →
      (∀ h' tk L', (∀ b o, h0.get? b = some o → h'.get? b = some o) → SetK P w h' S L' → Holds L' ks → R (.ok (.ret .none)) { s with heap := h', toks := tk }) →
      codeAny (model P w) A (.builtin "set.update.loop" ⟨[.ref S, .ref I], []⟩) R s := by
  have W := Walks.list (prog := P) (w := w) hh I l ne items
  have isz : items.size = ks.length := by rw [← Array.length_toList, hit, List.length_map]
  have step : ∀ {h1 h2 : Heap}, (∀ b o, b ∉ [I] → h1.get? b = some o → h2.get? b = some o) → (∀ b o, h0.get? b = some o → h1.get? b = some o) → ∀ b o, h0.get? b = some o → h2.get? b = some o := fun k1 k2 b o e =>
    k1 b o (fun z => by rw [List.mem_singleton.mp z, I0] at e; cases e) (k2 b o e)
  intro r
  induction r with
  | nil =>
    intro pre ep s L it li kp hS hL fin
    rw [List.append_nil] at ep
    subst ep
    refine codeAny_builtin F.entry_set_update_loop ?_
    rw [Around.under_plainId F.plain_set_update_loop _]
    show wpAny _ A.in1 (pyNext (.ref I) >>= _) _ _ s
    refine wpAny_bind (W.done s _ _ (by rw [isz]; exact ⟨it, li⟩) fun h' tk k1 => ?_)
    exact wpAny_pure (fin h' tk L (step k1 kp) (hS.keep fun o e => k1 S o (by simpa using sI) e) hL)
  | cons p r ih =>
    intro pre ep s L it li kp hS hL fin
    have hlt : pre.length < ks.length := by rw [← ep, List.length_append, List.length_cons]; omega
    have hp : ks[pre.length]? = some p := by rw [← ep, List.getElem?_append_right (Nat.le_refl _), Nat.sub_self]; rfl
    have mem : p ∈ ks := List.mem_of_getElem? hp
    refine codeAny_builtin F.entry_set_update_loop ?_
    rw [Around.under_plainId F.plain_set_update_loop _]
    show wpAny _ A.in1 (pyNext (.ref I) >>= _) _ _ s
    refine wpAny_bind (W.item pre.length s _ _ (by rw [isz]; exact hlt) ⟨it, li⟩ fun v h1 tk1 ev st k1 => ?_)
    have ev : v = .ref p.2 := by
      have e2 : items.toList[pre.length]? = some v := by rw [Array.getElem?_toList]; exact ev
      rw [hit, List.getElem?_map, hp] at e2
      exact (Option.some.inj e2).symm
    subst ev
    have kp1 := step k1 kp
    have S1 : SetK P w h1 S L := hS.keep fun o e => k1 S o (by simpa using sI) e
    have inK : ∀ q ∈ L, q ∈ ks := fun q hq => by rw [← ep]; exact List.mem_append_left _ (hL.sub q hq)
    show wpAny _ A.in1 (holding [Value.ref p.2] (setAdd S (.ref p.2)) >>= _) _ _ { s with heap := h1, toks := tk1 }
    refine wpAny_bind (wpAny_holding ?_)
    unfold setAdd
    refine wpAny_holding ?_
    have tp : KeyT P w h1 p.1 p.2 := keyT_keep (k0 p mem) kp1
    refine wpAny_bind (wpAny_pyHash_tuple (s := { s with heap := h1, toks := tk1 }) hu tp ?_)
    refine add_key (s := { s with heap := h1, toks := tk1 + (p.1.length + 1) }) S1 (fun q hq => keyT_keep (k0 q (inK q hq)) kp1) tp hu (by have := hL.len; omega) fun b h2 L2 sb S2 c => ?_
    have off : ∀ {b : Addr} {o : Obj}, b ≠ S → h1.get? b = some o → h2.get? b = some o := fun {b o} z e => (sb.2 b z).trans e
    refine wpAny_pure ⟨plainId_quiet F.plain_set_update_loop _, ih (pre ++ [p]) (by rw [List.append_assoc]; exact ep) _ L2 ?_ (st.2.at fun o e => off (Ne.symm sl) e) (fun b o e => off (fun z => by rw [z, S0] at e; cases e) (kp1 b o e)) S2 (hL.next c) ?_⟩
    · rw [List.length_append]
      exact st.1.at fun o e => off (Ne.symm sI) e
    · exact fun h' tk L' => fin h' tk L'
set_option maxHeartbeats 8000000 in
theorem call_setK {l : Addr} {items : Array Value} {ks : List (List Key × Addr)} {Q : Value → Shared → Prop} (hh : A.handled = none) (hl : s.heap.IsList l items) (hit : items.toList = ks.map fun p => Value.ref p.2) (k0 : ∀ p ∈ ks, KeyT P w s.heap p.1 p.2) (few : ks.length < 64) (hu : A.units + 3 < cLine)
    (q : ∀ (h' : Heap) (tk : Nat) L, SetK P w h' s.heap.objs.size L → Holds L ks → (∀ b o, s.heap.get? b = some o → h'.get? b = some o) → Q (.ref s.heap.objs.size) { s with heap := h', toks := tk }) :
    wpAny (model P w) A (call (.type "set") [.ref l]) Q E s := by
  have isz : items.size = ks.length := by rw [← Array.length_toList, hit, List.length_map]
  obtain ⟨c0, c1, cm⟩ := F.called_set.mro
  have cd := F.called_set.made
  have cs := F.called_set.sub
  refine wpAny_call (codeAny_of_tree ?_)
  show wpAny _ _ (callAny (.type "set") _) _ _ _
  refine wpAny_pure ⟨Code.quiet_builtin _ (by decide +kernel), codeAny_builtin F.entry_type_call ?_⟩
  rw [Around.under_plain (weight_type_call_type "set" [.ref l] []) rfl]
  have n1 := F.called_set.notType
  have n2 := F.called_set.canCreate
  have n3 := F.typeCall_set_1 (.ref l)
  repeat (any_goals (first | assumption | wp_step))
  refine codeAny_mono (code_set_led1 (.ref l) (E := E) (Q₁ := fun v s1 => v = .ref s.heap.objs.size ∧ s1 = { s with heap := s.heap.push (newSetO w) }) ⟨rfl, rfl⟩) fun r s1 hr => ?_
  rcases r with e | f
  · exact hr
  cases f with
  | ret v =>
    obtain ⟨rfl, rfl⟩ := hr
    have at_ : (s.heap.push (newSetO w)).get? s.heap.objs.size = some (newSetO w) := Heap.get?_push_size _ rfl
    have ty : Shared.TypeIs { s with heap := s.heap.push (newSetO w) } (.ref s.heap.objs.size) "set" := ⟨_, at_, rfl⟩
    have il := F.called_set.init.lookup
    have ib := F.called_set.init.bind (.ref s.heap.objs.size)
    repeat (any_goals (first | assumption | wp_step))
    refine codeAny_mono (codeAny_call_builtin (R := wants (fun r s2 => r = .none ∧ ∃ h' tk L, s2 = { s with heap := h', toks := tk } ∧ SetK P w h' s.heap.objs.size L ∧ Holds L ks ∧ ∀ b o, s.heap.get? b = some o → h'.get? b = some o) E)
      F.called_set.init.plain F.entry_set_init (check_set_init_1 ty ?_)) fun r s2 hr => ?_
    · obtain ⟨ol, g1, g2, nl, g3⟩ := hl
      obtain ⟨ocls, odict, odata, oslots⟩ := ol
      dsimp only at g2 g3
      subst g2; subst g3
      have gl : (s.heap.push (newSetO w)).get? l = some { cls := .type "list", dict := odict, data := .seq items nl, slots := oslots } := Heap.get?_push_of_some _ g1
      have u1 := F.sub_list_set
      have u2 := F.sub_list_frozenset
      have u3 : (Value.type "list" == Value.type "dict") = false := by decide
      have ll : (s.heap.push (newSetO w)).IsList l items := ⟨_, gl, rfl, nl, rfl⟩
      have sz : (s.heap.push (newSetO w)).objs.size = s.heap.objs.size + 1 := Heap.size_push ..
      have lS : l < s.heap.objs.size := Heap.lt_size g1
      have off : ∀ b, s.heap.objs.size ≤ b → s.heap.get? b = none := fun b hb => by
        cases e : s.heap.get? b with
        | none => rfl
        | some o => exact absurd (Heap.lt_size e) (Nat.not_lt.mpr hb)
      unfold Builtin.«set.__init__» noKeywords Builtin.Frozenset.updateFrom
      generalize hPI : pyIter = PI
      wp_walk
      subst hPI
      refine wpAny_pyIter_list ll ?_
      refine wpAny_bind (wpAny_runValue ?_)
      refine loop_key (S := s.heap.objs.size) (I := (s.heap.push (newSetO w)).objs.size) (l := l) (by simp [hh]) (by rw [sz]; exact Nat.ne_of_lt (Nat.lt_succ_of_lt lS)) (by rw [sz]; exact Nat.ne_of_lt (Nat.lt_succ_self _)) (Nat.ne_of_gt lS) hit few s.heap k0 (off _ (Nat.le_refl _)) (off _ (by rw [sz]; omega)) hu ks [] rfl _ []
        ⟨_, Heap.get?_push_size _ rfl, rfl, rfl⟩ (ll.push _) (fun b o e => Heap.get?_push_of_some _ (Heap.get?_push_of_some _ e)) (setK_new (Heap.get?_push_of_some _ at_)) ⟨fun p hp => absurd hp List.not_mem_nil, fun p hp => absurd hp List.not_mem_nil, Nat.le_refl _⟩ fun h' tk L k1 k2 k3 => ?_
      show wpAny _ _ _ _ _ _
      refine wpAny_pure ?_
      show wpAny _ _ (ret Value.none) _ _ _
      exact wpAny_pure ⟨rfl, h', tk, L, rfl, k2, k3, k1⟩
    · rcases r with e | f
      · exact hr
      cases f with
      | ret r =>
        obtain ⟨rfl, h', tk, L, rfl, k2, k3, k1⟩ := hr
        repeat (any_goals (first | assumption | wp_step))
        exact q _ _ _ k2 k3 k1
      | _ => exact hr.elim
  | _ => exact hr.elim
end

/-! ### rules -/
def SetKO (P : Program) (w : World) (a : Addr) (L : List (List Key × Addr)) : HO := .ext fun h => SetK P w h a L
theorem setKO_ok {P : Program} {w : World} {H : Hp} {h : Heap} {a : Addr} {L : List (List Key × Addr)} (S : SetK P w h a L) : ObjOk P w H h a (SetKO P w a L) := by
  refine ⟨S, ?_, fun h1 h2 x k => SetK.keep x k⟩
  obtain ⟨o, _, _, _, e, _⟩ := S.ex
  exact ⟨o, e⟩
theorem kT_of {P : Program} {w : World} {h : Heap} {t : Addr} {k : List Key} (r : KTup h (.ref t) k) : KeyT P w h k t := by
  obtain ⟨a, its, o, n, e, ho, hc, hd, hv⟩ := r
  cases e
  exact ⟨o, its, n, ho, hc, hd, items_are hv⟩
theorem tup_of_keyT {P : Program} {w : World} {h : Heap} {t : Addr} {k : List Key} {v : Value} (e : v = .ref t) (r : KTup h (.ref t) k) : KTup h v k := e ▸ r
def rSetK (P : Program) (w : World) : List V → Hp → VK → Prop := fun xs H Q => ∃ (l : Addr) (ks : List (List Key × Addr)), xs = [.ref l] ∧ Rd H l (.lst (ks.map fun p => V.ref p.2)) ∧ (∀ p ∈ ks, H p.2 = some (.tup (p.1.map kV))) ∧ ks.length < 64 ∧
  ∀ a L, H a = none → Holds L ks → (L.map (·.1)).Nodup → Q (.ref a) (upd H a (SetKO P w a L))
def rSortedS (P : Program) (w : World) : List V → Hp → VK → Prop := fun xs H Q => ∃ (a : Addr) (L : List (List Key × Addr)), xs = [.ref a] ∧ H a = some (SetKO P w a L) ∧ (∀ p ∈ L, H p.2 = some (.tup (p.1.map kV))) ∧ (∀ p ∈ L, p.1 ≠ []) ∧ (∀ p ∈ L, ∀ q ∈ L, likeK p.1 q.1 = true) ∧
  ∀ (bs : List Addr) (ks : List (List Key)) p, SrtO.Srtd (fun a b => ltKs a b) ks → ks.Perm (L.map (·.1)) → Paired (fun k b => H b = some (.tup (k.map kV))) ks bs → H p = none → Q (.ref p) (upd H p (.lst (bs.map V.ref)))
section
variable {X : Cx}
theorem refs_back2 : ∀ {ks : List (List Key × Addr)} {us : List Value}, Vals (ks.map fun p => V.ref p.2) us → us = ks.map fun p => Value.ref p.2
  | [], _, .nil => rfl
  | p :: ks, _, .cons r t => by
    cases r
    rw [refs_back2 t]
    all_goals rfl
theorem cr_setK (hc : X.calm = true) (hu : X.A.units + 64 < cLine) : CallR X (.type "set") (rSetK X.prog X.w) := by
  intro pins s σ H xs us Q I r h
  obtain ⟨l, ks, rfl, hl, hk, few, q⟩ := h
  obtain ⟨u, rfl, ru⟩ := vals1 r
  obtain rfl : u = Value.ref l := ru
  obtain ⟨its, rv, pl, hz⟩ := I.list (.inl hl)
  refine call_setK (P := X.prog) (w := X.w) (ks := ks) (I.ok.hd hc) pl.isList (by simpa using refs_back2 rv) (fun p hp => kT_of (ktup_of I.hok (hk p hp))) few (by omega) fun h' tk L S x k => ?_
  exact ⟨.ref s.heap.objs.size, upd H s.heap.objs.size (SetKO X.prog X.w s.heap.objs.size L), I.laid (t' := tk) k (Nat.le_refl _) (setKO_ok S), rfl, q _ L (I.hok.fresh (Nat.le_refl _)) x S.nd⟩
theorem cr_sortedS (hc : X.calm = true) : CallR X (.builtin "sorted") (rSortedS X.prog X.w) := by
  intro pins s σ H xs us Q I r h
  obtain ⟨a, L, rfl, ha, hL, hn, hl, q⟩ := h
  obtain ⟨u, rfl, ru⟩ := vals1 r
  obtain rfl : u = Value.ref a := ru
  have S : SetK X.prog X.w s.heap a L := (show ObjOk X.prog X.w H s.heap a (SetKO X.prog X.w a L) from I.hok _ _ ha).1
  have few := S.few
  obtain ⟨o, es, ep, t, ho, ex, hd, he, T, ld, room⟩ := S.ex
  have hz := es_size he
  have fit := tab_fits he T.dm (by rw [T.sz, List.length_map]) (by omega)
  refine Calls.call_function_entry PyProof.Rows.kind_sorted PyProof.Rows.plain_sorted PyProof.Rows.entry_sorted (PyProof.Rows.args_sorted1 _) ?_
  unfold Builtin.«sorted»
  refine wpAny_bind (m := checkCount "sorted" 1 1 _) (wpAny_pure ?_)
  refine wpAny_bind (collect_set (A := X.A.in1) (I.ok.hd hc) ⟨o, ho, ex.1, hd⟩ fit (by unfold scanBound; omega) T.ris ld fun s1 vs k1 sz g1 o1 pm => ?_)
  have pm : vs.Perm ((L.map (·.2)).map Value.ref) := by
    rw [he, List.map_map] at pm
    rw [List.map_map]
    exact pm
  have vl : vs.length = L.length := by rw [pm.length_eq, List.length_map, List.length_map]
  -- the state behind the collecting
  have es1 : s1 = { s with heap := s1.heap, gens := s1.gens, drawn := s1.drawn, toks := s1.toks } := by
    cases s1
    cases s
    cases o1
    rfl
  have J : Inv X pins σ H s1 := by
    rw [es1]
    exact I.call (ch := []) (Un.kept k1) (I.hok.kept k1) (by rw [g1]; exact I.bare) (fun _ z => nomatch z)
  have hok := J.hok
  have pk : Paired (fun k b => H b = some (.tup (k.map kV))) (L.map (·.1)) (L.map (·.2)) := by
    clear ha q hn hl S few he T room hz fit pm vl
    induction L with
    | nil => exact .nil
    | cons p L ih => exact .cons (hL p List.mem_cons_self) (ih fun q hq => hL q (List.mem_cons_of_mem _ hq))
  have kt : ∀ v ∈ vs, ∃ p ∈ L, KTup s1.heap v p.1 := fun v hv => by
    obtain ⟨b, hb, rfl⟩ := List.mem_map.mp (pm.mem_iff.mp hv)
    obtain ⟨p, hp, rfl⟩ := List.mem_map.mp hb
    exact ⟨p, hp, ktup_of hok (hL p hp)⟩
  refine wpAny_bind (wpAny_newList ?_ (by rw [vl, sizeLine_eq]; omega))
  refine wpAny_bind (wpAny_holding (wpAny_mono (sorted_tail (s := s1) (k := keyAt s1.heap) (Q := fun v s' => EP X pins σ Q v s') (by rw [vl, sizeLine_eq]; omega) (fun v hv => ?_) (fun v hv => ?_) (fun v hv u hu => ?_) fun h2 D out h3 h4 kp2 hD hn2 => ?_) (fun _ s' x => ?_) fun _ _ e => e))
  · obtain ⟨p, hp, hk⟩ := kt v hv
    rw [keyAt_of hk]; exact hk
  · obtain ⟨p, hp, hk⟩ := kt v hv
    rw [keyAt_of hk]; exact hn p hp
  · obtain ⟨p, hp, hk⟩ := kt v hv
    obtain ⟨p', hp', hk'⟩ := kt u hu
    rw [keyAt_of hk, keyAt_of hk']; exact hl p hp p' hp'
  · -- the values in the order of the set
    have pre : ∀ l : List Value, (∀ v ∈ l, ∃ b ∈ L.map (·.2), v = Value.ref b) → ∃ bs : List Addr, l = bs.map Value.ref ∧ ∀ b ∈ bs, b ∈ L.map (·.2) := by
      intro l
      induction l with
      | nil => exact fun _ => ⟨[], rfl, fun b h => absurd h List.not_mem_nil⟩
      | cons v l ih =>
        intro h
        obtain ⟨bs, e, m⟩ := ih fun u hu => h u (List.mem_cons_of_mem _ hu)
        obtain ⟨b, hb, e2⟩ := h v List.mem_cons_self
        refine ⟨b :: bs, by rw [e2, e]; rfl, fun c hc => ?_⟩
        rcases List.mem_cons.mp hc with z | z
        · rw [z]; exact hb
        · exact m c z
    obtain ⟨n, hn2⟩ := hn2
    have po : out.Perm ((L.map (·.2)).map Value.ref) := h4.perm.trans pm
    obtain ⟨bs', ks', eo, s1', s2', s3'⟩ := srt_out hok rfl pk h3 po
    refine ⟨.ref D, upd H D (.lst (bs'.map V.ref)), J.laid (t' := s1.toks) kp2 hD ⟨?_, out, n, by rw [eo]; exact refs_vals bs', hn2⟩, rfl, q bs' ks' D s1' s2' s3' (hok.fresh hD)⟩
    have e1 : (bs'.map V.ref).length = vs.length := by rw [← h4.perm.length_eq, eo, List.length_map, List.length_map]
    rw [e1, vl, sizeLine_eq]; omega
  · exact wpAny_pure ⟨_, rfl, x⟩
end

/-! ### sorted(set(l)) on data -/
open Classical in
/-- each once -/
noncomputable def onceK : List (List Key) → List (List Key)
  | [] => []
  | k :: ks => if k ∈ ks then onceK ks else k :: onceK ks
theorem onceK_in {k : List Key} {ks : List (List Key)} (h : k ∈ ks) : onceK (k :: ks) = onceK ks := by
  conv => lhs; unfold onceK
  exact if_pos h
theorem onceK_out {k : List Key} {ks : List (List Key)} (h : k ∉ ks) : onceK (k :: ks) = k :: onceK ks := by
  conv => lhs; unfold onceK
  exact if_neg h
theorem onceK_mem {k : List Key} {ks : List (List Key)} : k ∈ onceK ks ↔ k ∈ ks := by
  induction ks with
  | nil => exact Iff.rfl
  | cons j ks ih =>
    rcases Classical.em (j ∈ ks) with h | h
    · rw [onceK_in h, ih, List.mem_cons]
      exact ⟨.inr, fun x => x.elim (fun e => e ▸ h) id⟩
    · rw [onceK_out h, List.mem_cons, List.mem_cons, ih]
theorem onceK_nd (ks : List (List Key)) : (onceK ks).Nodup := by
  induction ks with
  | nil => exact List.nodup_nil
  | cons j ks ih =>
    rcases Classical.em (j ∈ ks) with h | h
    · rw [onceK_in h]; exact ih
    · rw [onceK_out h]; exact List.nodup_cons.mpr ⟨fun x => h (onceK_mem.mp x), ih⟩
noncomputable def sortSetD : List PD → R PD
  | [.list ds] => match allKeys ds with
    | some ks => if likeAll ks = true ∧ ks.length < 64 then .ok (.list ((sortK (onceK ks)).map keyP)) else .bad
    | none => .bad
  | _ => .bad
def rSetSort (P : Program) (w : World) : List V → Hp → VK → Prop := fun xs H Q => rSetK P w xs H fun u H1 => rSortedS P w [u] H1 Q
def backA : V → Addr
  | .ref t => t
  | _ => 0
theorem rco_setSort {K : PySem.W.Frag} {P : Program} {w : World} : RCo K (rSetSort P w) sortSetD := fun W σ F H vs ds Q s rs q => by
  unfold sortSetD at q
  split at q
  · obtain ⟨v, rfl, rv⟩ := rs.one
    obtain ⟨p, us, rfl, s1, r1⟩ := rv.list s
    split at q
    · rename_i ks e
      have ed := allKeys_of e
      subst ed
      split at q
      · rename_i hl
        obtain ⟨hl, few⟩ := hl
        obtain ⟨l1, l2⟩ := likeAll_ok hl
        obtain ⟨a1, a2⟩ := dp_keys (r1.mono s)
        have eu : us = (us.map fun v => (keysAt H v, backA v)).map fun p => V.ref p.2 := by
          rw [List.map_map]
          refine (List.map_congr_left (g := id) fun v hv => ?_).trans (List.map_id us) |>.symm
          obtain ⟨t, k, _, e, _⟩ := a1 v hv
          rw [e]
          all_goals rfl
        have ek : (us.map fun v => (keysAt H v, backA v)).map (·.1) = ks := by
          rw [List.map_map]
          exact a2
        have hk : ∀ p ∈ us.map fun v => (keysAt H v, backA v), p.1 ∈ ks ∧ H p.2 = some (.tup (p.1.map kV)) := fun p hp => by
          obtain ⟨v, hv, rfl⟩ := List.mem_map.mp hp
          obtain ⟨t, k, hk, e, ht⟩ := a1 v hv
          rw [e, keysAt_of ht]
          exact ⟨hk, ht⟩
        have el : (us.map fun v => (keysAt H v, backA v)).length = ks.length := by rw [← ek]; simp only [List.length_map]
        generalize us.map (fun v => (keysAt H v, backA v)) = ps at eu ek hk el
        refine ⟨p, ps, rfl, by rw [← eu]; exact s1, fun x hx => (hk x hx).2, by rw [el]; exact few, fun a L ha x nd => ?_⟩
        have eL : ∀ x' ∈ L, x'.1 ∈ ks ∧ H x'.2 = some (.tup (x'.1.map kV)) := fun x' hx => hk x' (x.sub x' hx)
        have pL : (L.map (·.1)).Perm (onceK ks) := (List.perm_ext_iff_of_nodup nd (onceK_nd ks)).mpr fun k => by
          rw [onceK_mem, ← ek]
          refine ⟨fun h => ?_, fun h => ?_⟩
          · obtain ⟨y, hy, e⟩ := List.mem_map.mp h
            exact List.mem_map.mpr ⟨y, x.sub y hy, e⟩
          · obtain ⟨y, hy, e⟩ := List.mem_map.mp h
            rw [← e]
            exact x.all y hy
        have e1 : Same H (upd H a (SetKO P w a L)) := fun b u z => by rw [upd_ne (ne_of_none z ha)]; exact z
        refine ⟨a, L, rfl, upd_same, fun x' hx => e1 _ _ (eL x' hx).2, fun x' hx => l1 _ (eL x' hx).1, fun x' hx y hy => l2 _ (eL x' hx).1 _ (eL y hy).1, fun bs ks' D h1 h2 h3 hD => ?_⟩
        have es : ks' = sortK (onceK ks) := sortK_of h1 (h2.trans pL)
        have hHD : H D = none := by
          cases z : H D with
          | none => rfl
          | some u => have := e1 _ _ z; rw [hD] at this; cases this
        have e2 : Same H (upd (upd H a (SetKO P w a L)) D (.lst (bs.map V.ref))) := fun b u z => by
          have := e1 _ _ z
          rw [upd_ne (ne_of_none this hD)]; exact this
        refine q _ _ (Ext.tups s e2) D hHD (frz_none (s.free hHD) upd_same nt_lst) ⟨_, upd_same, ?_⟩
        rw [← es]
        refine dp_of_keys ?_
        have up : ∀ {k : List Key} {b : Addr}, (upd H a (SetKO P w a L)) b = some (.tup (k.map kV)) → frzF F (upd (upd H a (SetKO P w a L)) D (.lst (bs.map V.ref))) [] b = some (.tup (k.map kV)) := fun {k b} hb =>
          frz_keep.tup (by rw [upd_ne (ne_of_none hb hD)]; exact hb)
        clear es h1 h2 e2
        generalize frzF F (upd (upd H a (SetKO P w a L)) D (.lst (bs.map V.ref))) [] = G at up
        induction h3 with
        | nil => exact .nil
        | cons h _ ih => exact .cons (up h) ih
      · exact q.elim
    · exact q.elim
  · exact q.elim
theorem bb_set : bootBuiltins "set" = some (.type "set") := by decide +kernel
noncomputable def eSortSet (ga : Rho → R (List PD)) : Rho → R PD := eCB sortSetD ga
theorem to_sortSet {K : PySem.W.Frag} {W : WX} {P : Program} {w : World} {te : TE} {ga : Rho → R (List PD)} (h : TDq K W (tCons te tNil) ga) : TDo K W (tCB (rSortedS P w) (tCons (tCB (rSetK P w) (tCons te tNil)) tNil)) (eSortSet ga) :=
  to_cb (r := rSetSort P w) rco_setSort h
end DL
/-! More rules of the walk: a dict made on the spot and asked for a key. -/
namespace DL
open PySem PySem.Spec PyProof.Rows L2
section
variable {K : PySem.W.Frag} {W : WX} {F0 H0 F H : Hp} {σ : L2.St} {ρ : Rho} {td ty tv : TE} {g gk gv : Rho → R PD}
def getX : PD → PD → R PD
  | .dict kvs, y => getD kvs y
  | _, _ => .bad
/-- d[k] of a dict made on the spot -/
def eDgetO (g gk : Rho → R PD) : Rho → R PD := fun ρ => (g ρ).bind fun x => (gk ρ).bind fun y => getX x y
theorem td_dgetO (ho : TDo K W td g) (h : TDr K W ty gk) : TDe K W (tDGet td ty) (eDgetO g gk) := fun F0 H0 F H σ ρ Q S q =>
  ho F0 H0 F H σ ρ _ S (q.then fun x F1 H1 e1 k1 p hp hf ow => h F0 H0 F1 H1 σ ρ _ (S.go e1) (k1.then fun y F2 H2 e2 k2 v rv => by
    cases x with
    | dict kvs =>
      obtain ⟨es, d, r⟩ := ow
      have rd : Rd H1 p (.dK es) := .inl d
      have k2 : Fin K W σ F2 H2 (getD kvs y) (DpQ K Q) := k2
      unfold getD at k2
      split at k2
      · rename_i k ek
        rw [keyD_of ek] at rv
        have := key_rp rv
        subst this
        rcases r.val k with ⟨z, _⟩ | ⟨d, u, z1, z2, z3⟩
        · rw [z] at k2; exact k2.elim
        · rw [z1] at k2
          exact ⟨p, u, rfl, .inl ⟨es, k, rdM e2.h rd, rfl, z2.symm⟩, Fin.okk K W σ e2.g k2 _ (z3.mono e2.f)⟩
      · exact k2.elim
    | _ => exact k2.elim))
/-- d.get(k) of a dict made on the spot -/
def getX1 : PD → PD → R PD
  | .dict kvs, y => (match keyOf y with
    | some k => .ok ((valD kvs k).getD .none)
    | none => .bad)
  | _, _ => .bad
def eDgetO1 (g gk : Rho → R PD) : Rho → R PD := fun ρ => (g ρ).bind fun x => (match x with
  | .dict _ => (gk ρ).bind fun y => getX1 x y
  | _ => .bad)
theorem td_dgetO1 (ho : TDo K W td g) (h : TDr K W ty gk) : TDe K W (tDGet1 td ty) (eDgetO1 g gk) := fun F0 H0 F H σ ρ Q S q =>
  ho F0 H0 F H σ ρ _ S (q.then fun x F1 H1 e1 k1 p hp hf ow => by
    cases x with
    | dict kvs =>
      obtain ⟨es, d, r⟩ := ow
      have rd : Rd H1 p (.dK es) := .inl d
      refine ⟨p, rfl, .inl ⟨es, rd⟩, h F0 H0 F1 H1 σ ρ _ (S.go e1) (k1.then fun y F2 H2 e2 k2 v rv => ?_)⟩
      have k2 : Fin K W σ F2 H2 (getX1 (.dict kvs) y) (DpQ K Q) := k2
      unfold getX1 at k2
      dsimp only at k2
      split at k2
      · rename_i k ek
        rw [keyD_of ek] at rv
        have := key_rp rv
        subst this
        rcases r.val k with ⟨z, z'⟩ | ⟨d, u, z1, z2, z3⟩
        · rw [z] at k2
          exact ⟨none, .inl ⟨es, k, rdM e2.h rd, rfl, z'.symm⟩, Fin.okk K W σ e2.g k2 _ .non⟩
        · rw [z1] at k2
          exact ⟨some u, .inl ⟨es, k, rdM e2.h rd, rfl, z2.symm⟩, Fin.okk K W σ e2.g k2 _ (z3.mono e2.f)⟩
      · exact k2.elim
    | _ => exact k1.elim)
end
/-! ### max, min of a list -/
def maxI (n : Int) (ns : List Int) : Int := ns.foldl (fun a b => if a < b then b else a) n
def minI (n : Int) (ns : List Int) : Int := ns.foldl (fun a b => if b < a then b else a) n
theorem maxI_spec : ∀ (ns : List Int) (n : Int), (maxI n ns = n ∨ maxI n ns ∈ ns) ∧ n ≤ maxI n ns ∧ ∀ y ∈ ns, y ≤ maxI n ns
  | [], n => ⟨.inl rfl, Int.le_refl _, fun y h => (by cases h)⟩
  | b :: ns, n => by
    obtain ⟨h1, h2, h3⟩ := maxI_spec ns (if n < b then b else n)
    have e : maxI n (b :: ns) = maxI (if n < b then b else n) ns := rfl
    rw [e]
    refine ⟨?_, ?_, fun y hy => ?_⟩
    · rcases h1 with h | h
      · rw [h]
        split
        · exact .inr List.mem_cons_self
        · exact .inl rfl
      · exact .inr (List.mem_cons_of_mem _ h)
    · refine Int.le_trans ?_ h2
      split <;> omega
    · rcases List.mem_cons.mp hy with q | q
      · rw [q]
        refine Int.le_trans ?_ h2
        split <;> omega
      · exact h3 y q
theorem minI_spec : ∀ (ns : List Int) (n : Int), (minI n ns = n ∨ minI n ns ∈ ns) ∧ minI n ns ≤ n ∧ ∀ y ∈ ns, minI n ns ≤ y
  | [], n => ⟨.inl rfl, Int.le_refl _, fun y h => (by cases h)⟩
  | b :: ns, n => by
    obtain ⟨h1, h2, h3⟩ := minI_spec ns (if b < n then b else n)
    have e : minI n (b :: ns) = minI (if b < n then b else n) ns := rfl
    rw [e]
    refine ⟨?_, ?_, fun y hy => ?_⟩
    · rcases h1 with h | h
      · rw [h]
        split
        · exact .inr List.mem_cons_self
        · exact .inl rfl
      · exact .inr (List.mem_cons_of_mem _ h)
    · refine Int.le_trans h2 ?_
      split <;> omega
    · rcases List.mem_cons.mp hy with q | q
      · rw [q]
        refine Int.le_trans h2 ?_
        split <;> omega
      · exact h3 y q
def maxD : List PD → R PD
  | [.list ds] => (match asInts ds with
    | some (n :: ns) => .ok (.int (maxI n ns))
    | _ => .bad)
  | _ => .bad
def minD : List PD → R PD
  | [.list ds] => (match asInts ds with
    | some (n :: ns) => .ok (.int (minI n ns))
    | _ => .bad)
  | _ => .bad
section
variable {K : PySem.W.Frag}
theorem rc_max : RC K (rMax K) maxD := fun W σ F H vs ds Q s rs q => by
  unfold maxD at q
  split at q
  · split at q
    · rename_i n ns e
      obtain ⟨v, rfl, r⟩ := rs.one
      obtain ⟨p, us, rfl, s1, r1⟩ := r.list s
      rw [asInts_ok e] at r1
      have e2 := r1.of_ints
      subst e2
      refine ⟨p, n :: ns, rfl, .inl s1, Nat.succ_pos _, fun m hm hy => ?_⟩
      obtain ⟨h1, h2, h3⟩ := maxI_spec ns n
      have e : m = maxI n ns := by
        refine Int.le_antisymm ?_ ?_
        · rcases List.mem_cons.mp hm with q | q
          · rw [q]; exact h2
          · exact h3 m q
        · rcases h1 with q | q
          · rw [q]; exact hy n List.mem_cons_self
          · exact hy _ (List.mem_cons_of_mem _ q)
      rw [e]
      exact q.ok s _ (.int _)
    · exact q.elim
  · exact q.elim
theorem rc_min : RC K (rMin K) minD := fun W σ F H vs ds Q s rs q => by
  unfold minD at q
  split at q
  · split at q
    · rename_i n ns e
      obtain ⟨v, rfl, r⟩ := rs.one
      obtain ⟨p, us, rfl, s1, r1⟩ := r.list s
      rw [asInts_ok e] at r1
      have e2 := r1.of_ints
      subst e2
      refine ⟨p, n :: ns, rfl, .inl s1, Nat.succ_pos _, fun m hm hy => ?_⟩
      obtain ⟨h1, h2, h3⟩ := minI_spec ns n
      have e : m = minI n ns := by
        refine Int.le_antisymm ?_ ?_
        · rcases h1 with q | q
          · rw [q]; exact hy n List.mem_cons_self
          · exact hy _ (List.mem_cons_of_mem _ q)
        · rcases List.mem_cons.mp hm with q | q
          · rw [q]; exact h2
          · exact h3 m q
      rw [e]
      exact q.ok s _ (.int _)
    · exact q.elim
  · exact q.elim
end
end DL
/-! A caught error is data: it may be kept, handed on, asked. -/
namespace DL
open PySem PySem.Spec PyProof.Rows L2
section
variable {X : Cx} {σ : L2.St} {H : Hp} {s sI : Shared} {pins : List (Addr × Obj)} {B : Heap} {a : Addr} {cls : Value} {d : Option Addr} {oe : Obj} {vs : Array Value}
/-- a suite begins: the error is told of in the heap -/
theorem inv_told (J : Inv X pins σ H sI) (I : Inv X pins σ H s) (nb : ∀ b o, sI.heap.get? b = some o → b ∉ frs X.stack → B.get? b = some o) (fresh : B.get? a = none)
    (ha : s.heap.get? a = some oe) (hz : Zc cls d oe) (hd : oe.data = .fields vs) (na : H a = none) (nL : a ≠ X.env.locals) (nS : a ∉ frs X.stack) : Inv (X.suite a (X.pn ++ pins)) [] σ (upd H a (excO cls d a)) s := by
  have nw : sI.heap.get? a = none := by
    cases e : sI.heap.get? a with
    | none => rfl
    | some o => rw [nb a o e nS] at fresh; cases fresh
  have n0 : ∀ o, X.s_0.heap.get? a = some o → a ∉ X.ex → False := fun o e hx => by
    obtain ⟨o', e'⟩ := J.base.there a o e hx
    rw [nw] at e'; cases e'
  have ne : ∀ {b : Addr} {u : HO}, H b = some u → b ≠ a := fun e => ne_of_none e na
  refine ⟨I.ok.suite _ _, I.os, I.bare, ⟨I.base.keep, I.base.slot, fun b o e n hx => ?_, I.base.there, fun b xs e => ?_, fun b o u e => ?_, fun b ps e => ?_⟩, I.loc, I.cell, ?_, fun x c e => ?_, fun p hp => ?_, fun b u e => ?_, I.len⟩
  · by_cases hb : b = a
    · subst hb; exact (n0 o e hx).elim
    · rw [upd_ne hb]; exact I.base.free b o e n hx
  · have := I.base.tups b xs e
    rw [upd_ne (ne this)]; exact this
  · have := I.base.frzs b o u e
    rw [upd_ne (ne this)]; exact this
  · obtain ⟨more, this⟩ := I.base.tbls b ps e
    exact ⟨more, by rw [upd_ne (ne this)]; exact this⟩
  · rw [upd_ne (fun z => nL z.symm)]; exact I.free
  · have hc : c ≠ a := fun z => by
      obtain ⟨v, o, ho, hdd⟩ := I.cell x c e
      rw [z, ha] at ho; cases ho
      rw [hd] at hdd; cases hdd
    show upd H a _ c = none
    rw [upd_ne hc]; exact I.freeC x c e
  · have hp' : p ∈ X.pn ++ pins := by rw [List.append_nil] at hp; exact hp
    obtain ⟨q1, q2, q3, q4, q5⟩ := I.pin p hp'
    have hpa : p.1 ≠ a := fun z => by
      have := (J.pin p hp').1
      rw [z, nw] at this; cases this
    exact ⟨q1, by rw [upd_ne hpa]; exact q2, q3, q4, q5⟩
  · by_cases hb : b = a
    · subst hb
      rw [upd_same] at e; cases e
      exact excO_ok ha hz hd
    · rw [upd_ne hb] at e
      exact (I.hok b u e).stay (fun _ _ _ q => q) (fun c q => by rw [upd_ne (ne q)]; exact q) fun c xs q => by rw [upd_ne (ne q)]; exact q
theorem inv_back {pn' : List (Addr × Obj)} {a : Addr} (I : Inv (X.suite a (X.pn ++ pins)) pn' σ H s) (ok : X.Ok) : Inv X pins σ H s :=
  ⟨ok, I.os, I.bare, I.base, I.loc, I.cell, I.free, I.freeC, fun p hp => I.pin p (List.mem_append_left _ hp), I.hok, I.len⟩
/-- what such a clause wishes of the body's error -/
def wE (K : PySem.W.Frag) (c : Value) (i : Nat) (ts : TS) (Wout : WX) (D : Ends) : WX := fun cls d σ H =>
  ∃ b, PySem.W.exmOne K cls c = some b ∧ (b = true → ∀ a, H a = none → ts { nx := fun σ' H' => D.nx (σ'.set i none) H', rt := D.rt, bk := fun σ' H' => D.bk (σ'.set i none) H', ct := fun σ' H' => D.ct (σ'.set i none) H' } (σ.set i (some (.ref a))) (upd H a (excO cls d a))) ∧ (b = false → Wout cls d σ H)
variable {x n : Str} {c : Value} {i : Nat} {body suite : List Stmt} {b₀ : Stmt} {np pos pos' : Pos} {tb : WX → TS} {ts : TS} {Wout : WX}
theorem ps_tryE (hs : X.stack = X.env :: X.outer) (hf : X.env.frame = some X.env.locals) (hN : X.N.Nodup) (hi : X.N[i]? = some n) (hln : X.env.kindOf n = some .local) (hc : Names X x c) (tk : Takes X Wout)
    (hb : ∀ (W : WX) (pn : List (Addr × Obj)) (xe : Value → Shared → Prop), Takes (X.tr pn xe) W → PassesOwn (model X.prog X.w) X.A X.env xe → PSs (X.tr pn xe) body (tb W))
    (hsu : ∀ (a : Addr) (pn : List (Addr × Obj)), PSs (X.suite a pn) (b₀ :: suite) ts) :
    PS X (.Try body [.ExceptHandler (some (.Name x np)) (some n) (b₀ :: suite) pos'] [] [] pos) (fun D σ H => tb (wE X.K c i ts Wout D) D σ H) := by
  refine ⟨fun pins s0 σ0 G D I0 h0 => ?_⟩
  have fr := I0.ok.frames
  rw [hs] at fr
  refine wpAny_Try_except ?_
  let onX : Value → Shared → Prop := fun e t1 => wpAny (model X.prog X.w) X.A (noteFrame e X.env) (fun _ t2 => wpAny (model X.prog X.w) X.A (setFlight e none) (fun _ t3 =>
    wpAny (model X.prog X.w) X.A (handleBy e X.env [.ExceptHandler (some (.Name x np)) (some n) (b₀ :: suite) pos']) (SP X pins D) X.xe t3) X.xe t2) X.xe t1
  refine wpAny_mono ((hb (wE X.K c i ts Wout D) (X.pn ++ pins) onX (fun u t xx => ?_) PassesOwn.looking).run [] s0 σ0 G D (I0.toTry _) h0) (fun fl t1 hsp => ?_) (fun e t1 he => he)
  · obtain ⟨p, B, w0, pz, σ1, G1, cl, dd, rfl, Q0, old, upS, skyS, np1, osS, agS, ans, an1, onY, onN⟩ := xx
    have Q : Inv X pins σ1 G1 w0 := Q0.ofTry I0.ok
    rw [hs] at skyS
    show wpAny (model X.prog X.w) X.A (noteFrame (.ref p) X.env) _ _ _
    refine Sky.land Zc.steady fr hf skyS fun g3 f3 u3 => ?_
    obtain ⟨o3, v3, e3, z3, d3⟩ := f3.there
    have off : ∀ {g : Heap} {o : Obj} {v : Array Value}, g.FunFrames B (X.env :: X.outer) → g.get? p = some o → o.data = .fields v → p ∉ frs (X.env :: X.outer) := fun {g o v} ff e z m => by
      obtain ⟨_, o', e', no⟩ := ff.mem m
      rw [e] at e'; cases e'
      exact no _ z
    have offS := off f3.2.2.1 e3 d3
    have offL : p ≠ X.env.locals := fun z => offS (List.mem_filterMap.mpr ⟨X.env, List.mem_cons_self, by rw [hf, z]⟩)
    have fresh : B.get? p = none := f3.2.1
    have T3 := inv_told (s := { t with heap := g3 }) Q (Q.landed old f3.1 (upS.trans u3) osS agS) old fresh e3 z3 d3 np1 offL (by rw [hs]; exact offS)
    refine wpAny_handleBy_cons (codeAny_handlers_test ?_) (by intro q; cases q)
    have looks : PySem.W.Looks (model X.prog X.w) g3 (typeOf (.ref p)) cl := fun A Q' E t k q => wpAny_typeOf_ref (k _ _ e3) (by rw [z3.1]; exact q)
    have asks := PySem.W.exm_one (M := model X.prog X.w) T3.kIn looks an1
    have named : ∀ {Q' : Value → Shared → Prop} {E : Value → Shared → Prop}, Q' c { t with heap := g3 } → wpAny (model X.prog X.w) (X.A.mark (some (.ref p))) (eval (.Name x np) X.env) Q' E { t with heap := g3 } := fun {Q' E} q => by
      obtain ⟨y1, y2, y3 | ⟨y3, y4, y5⟩⟩ := hc
      · exact ld_glob (X := X.suite p (X.pn ++ pins)) T3 y1 y3 q y2
      · exact ld_blt (X := X.suite p (X.pn ++ pins)) T3 y1 y3 y4 q y5 y2
    refine named (asks.here ?_)
    cases ans with
    | true =>
      refine codeAny_handlers_suite_as ?_
      refine HandSPX.lands_againZ f3 fun g4 f4 u4 => ?_
      obtain ⟨o4, v4, e4, z4, d4⟩ := f4.there
      have T4 := inv_told (s := { t with heap := g4 }) Q (Q.landed old f4.1 ((upS.trans u3).trans u4) osS agS) old f4.2.1 e4 z4 d4 np1 offL (by rw [hs]; exact offS)
      refine store_ok (X := X.suite p (X.pn ++ pins)) (v := .ref p) T4 hN hi (.inl hln) rfl (fun t5 T5 => ?_) (.inr hln)
      refine wpAny_mono ((hsu p (X.pn ++ pins)).run [] t5 _ _ _ T5 (onY rfl p np1)) (fun fl t6 hsp => ?_) (fun _ _ z => False.elim z)
      have fin : ∀ {σ6 : L2.St} {G6 : Hp} {Q' : Shared → Prop}, Inv (X.suite p (X.pn ++ pins)) [] σ6 G6 t6 → (∀ t7, Inv X pins (σ6.set i none) G6 t7 → Q' t7) →
          wpAny (model X.prog X.w) X.A (do bindName X.env n .none; unbindBehindTheSuite X.env n pos') (fun _ t7 => Q' t7) X.xe t6 := fun {σ6 G6 Q'} T6 hq => gone_ok (inv_back T6 I0.ok) hN hi hln hq
      cases fl with
      | next => obtain ⟨_, _, T6, r6⟩ := hsp; exact fin T6 fun t7 T7 => ⟨_, _, T7, r6⟩
      | brk => obtain ⟨_, _, T6, r6⟩ := hsp; exact fin T6 fun t7 T7 => ⟨_, _, T7, r6⟩
      | cont => obtain ⟨_, _, T6, r6⟩ := hsp; exact fin T6 fun t7 T7 => ⟨_, _, T7, r6⟩
      | ret u => obtain ⟨_, _, _, T6, y6, r6⟩ := hsp; exact fin T6 fun t7 T7 => ⟨_, _, _, T7, y6, r6⟩
    | false =>
      show wpAny _ X.A (handleBy (.ref p) X.env []) _ _ _
      refine wpAny_handleBy_nil ?_
      obtain ⟨k1, k2, k3, oe, v9, T, oT, tz, e9, z9, d9, y1, _⟩ := id f3
      unfold PySem.passOn
      refine wpAny_bind (wpAny_field e9 d9 y1 ?_)
      rw [if_neg (by simp : ¬ ((Value.ref T == Value.none) = true))]
      have on : wpAny (model X.prog X.w) X.A (setFlight (.ref p) X.env.frame) (fun _ t4 => wpAny (model X.prog X.w) X.A (throw (.ref p) : Sem Flow) (SP X pins D) X.xe t4) X.xe { t with heap := g3 } := by
        rw [hf]
        exact HandSPX.setFlight_upZ f3 fun g4 f4 u4 => wpAny_throw (tk _ _ ⟨p, B, w0, pins, σ1, G1, cl, dd, rfl, Q, old, (upS.trans u3).trans u4, .inr (.inr (by rw [hs]; exact f4)), np1, osS, agS, onN rfl⟩)
      first
        | exact wpAny_bind (wpAny_pure (wpAny_bind on))
        | exact wpAny_bind on
  · cases fl with
    | next => obtain ⟨_, _, T1, r1⟩ := hsp; exact wpAny_execs_nil ⟨_, _, T1.ofTry I0.ok, r1⟩
    | brk => obtain ⟨_, _, T1, r1⟩ := hsp; exact ⟨_, _, T1.ofTry I0.ok, r1⟩
    | cont => obtain ⟨_, _, T1, r1⟩ := hsp; exact ⟨_, _, T1.ofTry I0.ok, r1⟩
    | ret u => obtain ⟨_, _, _, T1, y1, r1⟩ := hsp; exact ⟨_, _, _, T1.ofTry I0.ok, y1, r1⟩
end
section
variable {X : Cx} {σ : L2.St} {H : Hp} {s : Shared} {pins : List (Addr × Obj)} {a D : Addr} {d : Option Addr}
/-- the fields' dict, or none -/
def DctA (H : Hp) (d : Option Addr) : Prop := d = none ∨ ∃ dd fs, d = some dd ∧ H dd = some (.xd fs)
theorem exc_inst (I : Inv X pins σ H s) (ha : H a = some (excO (.ref D) d a)) (hd : DctA H d) : ∃ oe od, PySem.W.InstAt s.heap a oe D od := by
  obtain ⟨⟨oe, vs, he, hz, hv⟩, _, _⟩ : ObjOk X.prog X.w H s.heap a (excO (.ref D) d a) := I.hok a _ ha
  rcases hd with rfl | ⟨dd, fs, rfl, hd⟩
  · exact ⟨oe, none, he, hz.1, by unfold PySem.W.notCls; rw [hv] <;> rfl, by rw [hz.2]; trivial⟩
  · obtain ⟨mA, hns, _⟩ : ObjOk X.prog X.w H s.heap dd (.xd fs) := I.hok dd _ hd
    obtain ⟨od, ho, _⟩ := lookIn_ns hns
    exact ⟨oe, some od, he, hz.1, by unfold PySem.W.notCls; rw [hv] <;> rfl, by rw [hz.2]; exact ho⟩
theorem exc_cls {K : PySem.W.Frag} (C : ExcC K D) : (PySem.W.clsIn K D).isSome = true := by
  have := C.hd
  unfold PySem.W.hasDictIn at this
  cases z : PySem.W.clsIn K D with
  | none => rw [z] at this; cases this
  | some _ => rfl
/-- isinstance(e, C) of an error that the heap tells of -/
def rIsX (K : PySem.W.Frag) : List V → Hp → VK → Prop := fun xs H Q => ∃ (a D : Addr) (d : Option Addr) (c : V) (cv : Value) (b : Bool), xs = [.ref a, c] ∧ H a = some (excO (.ref D) d a) ∧ DctA H d ∧ ExcC K D ∧ (∀ u, RelV c u → u = cv) ∧ PySem.W.kitOne K (.ref D) cv = some b ∧ Q (.bl b) H
theorem call_isX : CallR X (.builtin "isinstance") (rIsX X.K) := by
  intro pins s σ H xs us Q I r h
  obtain ⟨a, D, d, c, cv, b, rfl, ha, hd, C, hcv, e, q⟩ := h
  obtain ⟨u1, u2, rfl, r1, r2⟩ := r.two
  obtain rfl := hcv _ r2
  obtain rfl : u1 = Value.ref a := r1
  obtain ⟨oe, od, J⟩ := exc_inst I ha hd
  exact PySem.W.kia_one (PySem.W.kitx_exc (exc_cls C) C.hg C.hk C.hs C.ha C.hn C.ht C.hm) I.kIn J e (fun z => nomatch z) fun tk => ⟨.bl b, H, I.kept (t' := tk) fun _ _ z => z, rfl, q⟩
def rIsXT (K : PySem.W.Frag) : List V → Hp → VK → Prop := fun xs H Q => ∃ (a D : Addr) (d : Option Addr) (tp : Addr) (cs : List V) (us : List Value) (b : Bool), xs = [.ref a, .ref tp] ∧ H a = some (excO (.ref D) d a) ∧ DctA H d ∧ ExcC K D ∧ H tp = some (.tup cs) ∧ Paired (fun c u => ∀ w, RelV c w → w = u) cs us ∧ PySem.W.kitAny K (.ref D) us = some b ∧ Q (.bl b) H
theorem call_isXT : CallR X (.builtin "isinstance") (rIsXT X.K) := by
  intro pins s σ H xs us Q I r h
  obtain ⟨a, D, d, tp, cs, ws, b, rfl, ha, hd, C, hT, hcv, e, q⟩ := h
  obtain ⟨u1, u2, rfl, r1, r2⟩ := r.two
  obtain rfl : u2 = Value.ref tp := r2
  obtain rfl : u1 = Value.ref a := r1
  obtain ⟨oe, od, J⟩ := exc_inst I ha hd
  obtain ⟨_, its, rv, ot, g1, g2, n, g3⟩ : ObjOk X.prog X.w H s.heap tp (.tup cs) := I.hok tp _ hT
  obtain rfl := paired_eq hcv rv
  obtain ⟨oc, od2, dt, sl⟩ := ot
  dsimp only at g2 g3
  subst g2 g3
  exact PySem.W.kia_tup (PySem.W.kitx_exc (exc_cls C) C.hg C.hk C.hs C.ha C.hn C.ht C.hm) I.kIn J g1 e (fun z => nomatch z) fun tk => ⟨.bl b, H, I.kept (t' := tk) fun _ _ z => z, rfl, q⟩
/-- e.f of such -/
def tXE (K : PySem.W.Frag) (te : TE) (f : Str) : TE := fun σ H Q => te σ H fun x H1 => ∃ (a D dd : Addr) (fs : List (Str × V)) (v : V), x = .ref a ∧ H1 a = some (excO (.ref D) (some dd) a) ∧ XfC K D ∧ PySem.W.findIn K (.ref D) f = some none ∧ H1 dd = some (.xd fs) ∧ fs.lookup f = some v ∧ Q v H1
theorem pe_xE {e : Expr} {te : TE} {pos : Pos} {n : Str} (he : PE X e te) (hb : attributeBase e n X.env (eval e X.env) = eval e X.env := by rfl) : PE X (.Attribute e n pos) (tXE X.K te n) := by
  refine ⟨fun pins s σ H Q I h => ?_⟩
  refine attr_of hb (thn (he.run pins s σ H _ I h) fun u s1 hh => ?_)
  obtain ⟨x, H1, I1, rx, a, D, dd, fs, v, ex, ea, T, hno, ed, l, q⟩ := hh
  subst ex
  obtain rfl : u = Value.ref a := rx
  obtain ⟨⟨oe, vs, he, hz, hv⟩, _, _⟩ : ObjOk X.prog X.w H1 s1.heap a (excO (.ref D) (some dd) a) := I1.hok a _ ea
  obtain ⟨mA, hns, hr⟩ : ObjOk X.prog X.w H1 s1.heap dd (.xd fs) := I1.hok dd _ ed
  obtain ⟨od, ho, hl⟩ := lookIn_ns hns
  obtain ⟨u, hu, ru⟩ := RelO.some_of (v := v) (o := mA n) (by rw [← l]; exact hr n)
  have J : PySem.W.InstAt s1.heap a oe D (some od) := ⟨he, hz.1, by unfold PySem.W.notCls; rw [hv] <;> rfl, by rw [hz.2]; exact ho⟩
  exact HandSPX.exc_get I1.kIn J T.ga T.gg T.exC (PySem.W.findObj_own T.hdC hno rfl (by rw [hl, hu])) (handed_of ru) ⟨v, H1, I1.tok _, ru, q⟩
end
section
variable {K : PySem.W.Frag} {W : WX} {F0 H0 F H : Hp} {σ : L2.St} {ρ : Rho} {te ty : TE} {g gk : Rho → R PD}
theorem dp_exc {v : V} {kvs : List (PD × PD)} (h : Dp K F v (.dict kvs)) : ∃ (a : Addr) (cls : Str) (d : Option Addr) (fs : List (Str × V)) (gs : List (PyData × PyData)), v = .ref a ∧ kvs = (.str cls, .none) :: gs ∧ F a = some (excO (.ref (He.ga K cls)) d a) ∧ ((d = none ∧ fs = []) ∨ ∃ dd, d = some dd ∧ F dd = some (.xd fs)) ∧ immFs fs = some gs := by
  generalize e : PyData.dict kvs = x at h
  cases h with
  | exc x1 x2 x3 =>
    unfold encE at e
    injection e with e
    exact ⟨_, _, _, _, _, rfl, e, x1, x2, x3⟩
  | _ => cases e
theorem dct_of {d : Option Addr} {fs : List (Str × V)} (s : Same F H) (h : (d = none ∧ fs = []) ∨ ∃ dd, d = some dd ∧ F dd = some (.xd fs)) : DctA H d := by
  rcases h with ⟨h, _⟩ | ⟨dd, h, k⟩
  · exact .inl h
  · exact .inr ⟨dd, fs, h, s _ _ k⟩
/-- isinstance, asked of data: by the error's class -/
def isX (tb : List (Str × Bool)) : PD → R PD
  | .dict ((.str cls, .none) :: _) => (match tb.lookup cls with
    | some b => .ok (.bool b)
    | none => .bad)
  | _ => .bad
def eIsX (tb : List (Str × Bool)) (g : Rho → R PD) : Rho → R PD := fun ρ => (g ρ).bind (isX tb)
theorem look_mem {tb : List (Str × Bool)} {x : Str} {b : Bool} (h : tb.lookup x = some b) : (x, b) ∈ tb := by
  induction tb with
  | nil => cases h
  | cons p r ih =>
    obtain ⟨k, v⟩ := p
    rw [List.lookup_cons] at h
    split at h
    · rename_i c
      cases h
      rw [eq_of_beq c]
      exact List.mem_cons_self
    · exact List.mem_cons_of_mem _ (ih h)
theorem isX_in {tb : List (Str × Bool)} {x : PD} (h : isX tb x ≠ .bad) : ∃ cls gs b, x = .dict ((.str cls, .none) :: gs) ∧ tb.lookup cls = some b ∧ isX tb x = .ok (.bool b) := by
  unfold isX at h ⊢
  split at h
  · rename_i cls gs
    cases e : tb.lookup cls with
    | none => rw [e] at h; exact absurd rfl h
    | some b => exact ⟨cls, gs, b, rfl, e, by first | rfl | rw [e]⟩
  · exact absurd rfl h
theorem td_isX {c : V} {cv : Value} (tb : List (Str × Bool)) (h : TDe K W te g) (hc : ∀ u, RelV c u → u = cv) (hk : ∀ p ∈ tb, ExcC K (He.ga K p.1) ∧ PySem.W.kitOne K (.ref (He.ga K p.1)) cv = some p.2) :
    TDe K W (tCB (rIsX K) (tCons te (tCons (tC c) tNil))) (eIsX tb g) := fun F0 H0 F H σ ρ Q S q =>
  h F0 H0 F H σ ρ _ S (q.then fun x F1 H1 e1 k1 v rv => by
    by_cases hb : isX tb x = .bad
    · rw [hb] at k1; exact k1.elim
    · obtain ⟨cls, gs, b, rfl, el, e2⟩ := isX_in hb
      rw [e2] at k1
      obtain ⟨a, cls', d, fs, gs', rfl, hk', ha, hd, _⟩ := dp_exc rv
      injection hk' with h1 h2
      injection h1 with h1 _
      injection h1 with h1
      subst h1
      obtain ⟨C, kk⟩ := hk _ (look_mem el)
      exact ⟨a, _, d, c, cv, b, rfl, e1.g _ _ ha, dct_of e1.g hd, C, hc, kk, Fin.okk K W σ e1.g k1 _ (.bl b)⟩)
theorem td_isXT {cs : List V} {us : List Value} {t : TA} (tb : List (Str × Bool)) (h : TDe K W te g) (ht : ConstA t cs) (hl : cs.length ≤ 1000) (hc : Paired (fun c u => ∀ w, RelV c w → w = u) cs us) (hk : ∀ p ∈ tb, ExcC K (He.ga K p.1) ∧ PySem.W.kitAny K (.ref (He.ga K p.1)) us = some p.2) :
    TDe K W (tCB (rIsXT K) (tCons te (tCons (tTup t) tNil))) (eIsX tb g) := fun F0 H0 F H σ ρ Q S q =>
  h F0 H0 F H σ ρ _ S (q.then fun x F1 H1 e1 k1 v rv => by
    by_cases hb : isX tb x = .bad
    · rw [hb] at k1; exact k1.elim
    · obtain ⟨cls, gs, b, rfl, el, e2⟩ := isX_in hb
      rw [e2] at k1
      obtain ⟨a, cls', d, fs, gs', rfl, hk', ha, hd, _⟩ := dp_exc rv
      injection hk' with h1 h2
      injection h1 with h1 _
      injection h1 with h1
      subst h1
      obtain ⟨C, kk⟩ := hk _ (look_mem el)
      refine ht σ H1 _ ⟨by rw [sizeLine_eq]; omega, fun p hp => ?_⟩
      have ex := Ext.own (o := .tup cs) e1.g hp
      have ha1 := e1.g _ _ ha
      exact ⟨a, _, d, p, cs, us, b, rfl, ex.h _ _ ha1, dct_of (e1.g.trans ex.h) hd, C, upd_same, hc, kk, k1 _ _ ex _ (.bl b)⟩)
/-- a field, asked of data -/
def lookF (f : Str) : List (PyData × PyData) → R PD
  | (.str g, v) :: r => if g = f then .ok v else lookF f r
  | _ => .bad
/-- .. of one of these classes -/
def getE (xs : List Str) (f : Str) : PD → R PD
  | .dict ((.str cls, .none) :: gs) => if cls ∈ xs then lookF f gs else .bad
  | _ => .bad
def eXE (xs : List Str) (f : Str) (g : Rho → R PD) : Rho → R PD := fun ρ => (g ρ).bind (getE xs f)
theorem lookF_ok {f : Str} : ∀ {fs : List (Str × V)} {gs : List (PyData × PyData)} {x : PD}, immFs fs = some gs → lookF f gs = .ok x → ∃ v, fs.lookup f = some v ∧ ∀ F : Hp, Dp K F v x
  | [], gs, x, e, h => by cases e; cases h
  | (k, v) :: r, gs, x, e, h => by
    unfold immFs at e
    cases e1 : immV v with
    | none => rw [e1] at e; cases e
    | some d =>
      cases e2 : immFs r with
      | none => rw [e1, e2] at e; cases e
      | some l =>
        rw [e1, e2] at e
        cases e
        have h : (if k = f then R.ok d else lookF f l) = .ok x := h
        by_cases c : k = f
        · rw [if_pos c] at h
          cases h
          subst c
          refine ⟨v, by rw [List.lookup_cons, beq_self_eq_true], fun F => ?_⟩
          cases v with
          | non => cases e1; exact .non
          | bl b => cases e1; exact .bl b
          | int b => cases e1; exact .int b
          | str b => cases e1; exact .str b
          | _ => cases e1
        · rw [if_neg c] at h
          obtain ⟨u, h1, h2⟩ := lookF_ok e2 h
          have : (f == k) = false := by simpa using fun z => c z.symm
          exact ⟨u, by rw [List.lookup_cons, this]; exact h1, h2⟩
theorem lookF_x (f : Str) : ∀ (l : List (PyData × PyData)) (c : Ec), lookF f l ≠ .exc c
  | [], c, h => by cases h
  | (k, v) :: r, c, h => by
    unfold lookF at h
    split at h
    · rename_i e
      split at h
      · cases h
      · cases e; exact lookF_x f _ c h
    · cases h
theorem td_xE (xs : List Str) (f : Str) (h : TDe K W te g) (hk : ∀ x ∈ xs, XfC K (He.ga K x) ∧ PySem.W.findIn K (.ref (He.ga K x)) f = some none) : TDe K W (tXE K te f) (eXE xs f g) := fun F0 H0 F H σ ρ Q S q =>
  h F0 H0 F H σ ρ _ S (q.then fun x F1 H1 e1 k1 v rv => by
    unfold getE at k1
    split at k1
    · rename_i cls gs
      split at k1
      · rename_i hm
        obtain ⟨a, cls', d, fs, gs', rfl, hk', ha, hd, im⟩ := dp_exc rv
        injection hk' with h1 h2
        injection h1 with h1 _
        injection h1 with h1
        subst h1 h2
        cases e : lookF f gs with
        | exc c => exact absurd e (lookF_x f _ c)
        | bad => rw [e] at k1; exact k1.elim
        | ok x =>
          rw [e] at k1
          obtain ⟨u, l1, l2⟩ := lookF_ok (K := K) im e
          rcases hd with ⟨_, rfl⟩ | ⟨dd, rfl, hd⟩
          · cases l1
          · obtain ⟨T, n⟩ := hk cls hm
            exact ⟨a, _, dd, fs, u, rfl, e1.g _ _ ha, T, n, e1.g _ _ hd, l1, Fin.okk K W σ e1.g k1 _ (l2 _)⟩
      · exact k1.elim
    · exact k1.elim)
end
section
variable {K : PySem.W.Frag}
theorem Ext.frzx {F H : Hp} {p : Addr} {o : HO} (s : Same F H) (h : H p = some o) (t : tupO o) : Ext F H (upd F p o) H := by
  refine ⟨fun b u e => ?_, fun b u e => ?_, Same.refl H, fun b e => ?_⟩
  · by_cases hb : b = p
    · subst hb
      have := s _ _ e
      rw [h] at this; cases this
      exact upd_same
    · rw [upd_ne hb]; exact e
  · by_cases hb : b = p
    · subst hb; rw [upd_same] at e; rw [← e]; exact h
    · rw [upd_ne hb] at e; exact s b u e
  · by_cases hb : b = p
    · subst hb; exact .inr (.inr ⟨o, h, t⟩)
    · rw [upd_ne hb] at e; exact .inl e
/-- the clause's end -/
def dropX (i : Nat) : SR → SR
  | .nx ρ => .nx (ρ.set i none)
  | .bk ρ => .bk (ρ.set i none)
  | .ct ρ => .ct (ρ.set i none)
  | .rt s => .rt s
  | _ => .bad
/-- try: s, except .. as slot i: h; cx: which classes the clause names -/
def sTryE (i : Nat) (cx : Str → Option Bool) (s h : Rho → SR) : Rho → SR := fun ρ => match s ρ with
  | .exc c => (match cx c.cls with
    | some true => (match immFs c.fs with
      | some gs => dropX i (h (ρ.set i (some (.d (encE c.cls gs)))))
      | none => .bad)
    | some false => .exc c
    | none => .bad)
  | r => r
theorem ds_tryE {Wout : WX} {c : Value} {i : Nat} {tb : WX → TS} {ts : TS} {s h : Rho → SR} {cx : Str → Option Bool}
    (hcx : ∀ x b, cx x = some b → PySem.W.exmOne K (.ref (He.ga K x)) c = some b) (hb : TDB K tb s) (hh : TDS K (fun _ _ _ _ => False) ts h) :
    TDS K Wout (fun D σ H => tb (wE K c i ts Wout D) D σ H) (sTryE i cx s h) := fun F0 H0 F H σ ρ D S q => by
  refine hb _ F0 H0 F H σ ρ D S ?_
  unfold sTryE at q
  cases es : s ρ with
  | nx ρ1 => rw [es] at q; exact q
  | rt x => rw [es] at q; exact q
  | bk ρ1 => rw [es] at q; exact q
  | ct ρ1 => rw [es] at q; exact q
  | bad => rw [es] at q; exact q.elim
  | exc e =>
    rw [es] at q
    simp only at q
    intro cls d F1 H1 ex rx
    have S1 := S.go ex
    obtain ⟨rfl, rd⟩ := rx
    cases ec : cx e.cls with
    | none => rw [ec] at q; exact q.elim
    | some b =>
      rw [ec] at q
      refine ⟨b, hcx _ _ ec, fun hb1 a ha => ?_, fun hb0 => ?_⟩
      · subst hb1
        simp only at q
        cases em : immFs e.fs with
        | none => rw [em] at q; exact q.elim
        | some gs =>
          rw [em] at q
          have q : FinS K Wout F0 H0 D (dropX i (h (ρ.set i (some (.d (encE e.cls gs)))))) := q
          -- the dict, frozen
          obtain ⟨F2, x2, hd2⟩ : ∃ F2, Ext F1 H1 F2 H1 ∧ ((d = none ∧ e.fs = []) ∨ ∃ dd, d = some dd ∧ F2 dd = some (.xd e.fs)) := by
            rcases rd with ⟨z1, z2⟩ | ⟨dd, z1, z2⟩
            · exact ⟨F1, Ext.refl S1.same, .inl ⟨z2, z1⟩⟩
            · exact ⟨_, Ext.frzx S1.same z2 (.inl (.inr ⟨_, rfl⟩)), .inr ⟨dd, z1, upd_same⟩⟩
          have x3 := Ext.new (o := excO (.ref (He.ga K e.cls)) d a) x2.g ha
          have S2 := (S1.go (x2.trans x3)).setD (i := i) (v := .ref a) (x := encE e.cls gs) (.exc upd_same (hd2.imp id fun ⟨dd, y1, y2⟩ => ⟨dd, y1, x3.f _ _ y2⟩) em)
          refine hh _ _ _ _ _ _ _ S2 ?_
          cases er : h (ρ.set i (some (.d (encE e.cls gs)))) with
          | nx ρ2 => rw [er] at q; exact fun σ2 F2 H2 S3 => q _ F2 H2 (S3.setU i)
          | bk ρ2 => rw [er] at q; exact fun σ2 F2 H2 S3 => q _ F2 H2 (S3.setU i)
          | ct ρ2 => rw [er] at q; exact fun σ2 F2 H2 S3 => q _ F2 H2 (S3.setU i)
          | exc c2 => rw [er] at q; exact q.elim
          | bad => rw [er] at q; exact q.elim
          | rt x => rw [er] at q; exact q
      · subst hb0
        exact q _ _ σ F1 H1 S1.ext ⟨rfl, rd⟩
/-- try: s, except ..: h, without a name -/
def sTryN (cx : Str → Option Bool) (s h : Rho → SR) : Rho → SR := fun ρ => match s ρ with
  | .exc c => (match cx c.cls with
    | some true => (match h ρ with
      | .exc _ => .bad
      | r => r)
    | some false => .exc c
    | none => .bad)
  | r => r
theorem ds_tryN {Wout : WX} {c : Value} {tb : WX → TS} {ts : TS} {s h : Rho → SR} {cx : Str → Option Bool}
    (hcx : ∀ x b, cx x = some b → PySem.W.exmOne K (.ref (He.ga K x)) c = some b) (hb : TDB K tb s) (hh : TDS K (fun _ _ _ _ => False) ts h) :
    TDS K Wout (fun D σ H => tb (wOnly K c (fun _ _ _ => ts) Wout D) D σ H) (sTryN cx s h) := fun F0 H0 F H σ ρ D S q => by
  refine hb _ F0 H0 F H σ ρ D S ?_
  unfold sTryN at q
  cases es : s ρ with
  | nx ρ1 => rw [es] at q; exact q
  | rt x => rw [es] at q; exact q
  | bk ρ1 => rw [es] at q; exact q
  | ct ρ1 => rw [es] at q; exact q
  | bad => rw [es] at q; exact q.elim
  | exc e =>
    rw [es] at q
    simp only at q
    intro cls d F1 H1 ex rx
    have S1 := S.go ex
    obtain ⟨rfl, rd⟩ := rx
    cases ec : cx e.cls with
    | none => rw [ec] at q; exact q.elim
    | some b =>
      rw [ec] at q
      refine ⟨b, hcx _ _ ec, fun hb1 a ha => ?_, fun hb0 => ?_⟩
      · subst hb1
        simp only at q
        refine hh _ _ _ _ _ _ _ S1 ?_
        cases er : h ρ with
        | exc c2 => rw [er] at q; exact q.elim
        | nx ρ2 => rw [er] at q; exact q
        | bk ρ2 => rw [er] at q; exact q
        | ct ρ2 => rw [er] at q; exact q
        | bad => rw [er] at q; exact q
        | rt x => rw [er] at q; exact q
      · subst hb0
        exact q _ _ σ F1 H1 S1.ext ⟨rfl, rd⟩
/-- which classes a clause names -/
def cxOfT (tb : List (Str × Bool)) : Str → Option Bool := fun x => tb.lookup x
theorem cxT_ok {c : Value} {tb : List (Str × Bool)} (h : ∀ p ∈ tb, PySem.W.exmOne K (.ref (He.ga K p.1)) c = some p.2) : ∀ x b, cxOfT tb x = some b → PySem.W.exmOne K (.ref (He.ga K x)) c = some b := fun x b e => h (x, b) (look_mem e)
/-- more bodies -/
theorem tb_setM {te : WX → TE} {g : Rho → R PD} (i : Nat) (h : ∀ W, TDo K W (te W) g) : TDB K (fun W => tAsg (te W) (gName i)) (sSetO i g) := fun W F0 H0 F H σ ρ D S q =>
  h W F0 H0 F H σ ρ _ S (q.of fun x F1 H1 e k p hp hf ow => k _ F1 H1 (S.setN e hp hf ow))
/-- raise x('..') of a class without fields -/
def sRaise0 (x : Str) : Rho → SR := fun _ => .exc ⟨x, []⟩
theorem ds_raise0 {W : WX} (x : Str) : TDS K W (fun _ σ H => W (.ref (He.ga K x)) none σ H) (sRaise0 x) := fun F0 H0 F H σ ρ D S q => q _ _ σ F H S.ext ⟨rfl, .inl ⟨rfl, rfl⟩⟩
structure XCls (K : PySem.W.Frag) (mg : Str → Option Value) (x : Str) : Prop where
  q : PySem.W.excIn K (He.ga K x) [.type "ValueError", .type "Exception", .type "BaseException", .type "object"] "ValueError.__new__" = true
  g : mg x = some (.ref (He.ga K x))
  k : PySem.W.keepIn K (.ref (He.ga K x)) = true
  b : PySem.W.subIn K (.ref (He.ga K x)) (.type "BaseException") = some true
  t : PySem.W.typeIn K (.ref (He.ga K x)) = some (.type "type")
  ex : ExcC K (He.ga K x)
def xclsB (K : PySem.W.Frag) (x : Str) : Bool :=
  PySem.W.excIn K (He.ga K x) [.type "ValueError", .type "Exception", .type "BaseException", .type "object"] "ValueError.__new__" && (PySem.W.keepIn K (.ref (He.ga K x)) && (decide (PySem.W.subIn K (.ref (He.ga K x)) (.type "BaseException") = some true) && (decide (PySem.W.typeIn K (.ref (He.ga K x)) = some (.type "type")) && (xfB K (He.ga K x) && excCB K (He.ga K x)))))
theorem xclsB_ok {K : PySem.W.Frag} {mg : Str → Option Value} {x : Str} (h : xclsB K x = true) (g : mg x = some (.ref (He.ga K x))) : XCls K mg x := by
  unfold xclsB at h
  rw [Bool.and_eq_true, Bool.and_eq_true, Bool.and_eq_true, Bool.and_eq_true, Bool.and_eq_true] at h
  obtain ⟨h1, h2, h3, h4, h5, h6⟩ := h
  have T := xfB_ok h5
  unfold excCB at h6
  rw [Bool.and_eq_true, Bool.and_eq_true, Bool.and_eq_true] at h6
  obtain ⟨e1, e2, e3, e4⟩ := h6
  exact ⟨h1, g, h2, of_decide_eq_true h3, of_decide_eq_true h4, ⟨T.ga, T.gg, T.exC, T.hdC, of_decide_eq_true e1, of_decide_eq_true e2, of_decide_eq_true e3, of_decide_eq_true e4⟩⟩
theorem pmk_xcls {X : Cx} {x m : Str} {j : Nat} {p p2 pos : Pos} (O : XCls X.K X.mg x) (hg : Gl X x) (hdb : (x == ("__debug__" : Str)) = false := by decide) : PMk X (.Call (.Name x p) [.Constant (.str m) j p2] [] pos) (fun _ H Q => Q (.ref (He.ga X.K x)) none H) :=
  pmk_own PySem.F.excBase_ValueError O.q O.g O.k (raises_own O.b O.t) hg hdb
end
section
variable {K : PySem.W.Frag}
/-! what the head asks of the classes -/
def exB1 (K : PySem.W.Frag) (x : Str) : Bool := xfB K (He.ga K x) && excCB K (He.ga K x)
theorem exB1_ok {x : Str} (h : exB1 K x = true) : ExcC K (He.ga K x) := by
  unfold exB1 at h
  rw [Bool.and_eq_true] at h
  have T := xfB_ok h.1
  have h6 := h.2
  unfold excCB at h6
  rw [Bool.and_eq_true, Bool.and_eq_true, Bool.and_eq_true] at h6
  obtain ⟨e1, e2, e3, e4⟩ := h6
  exact ⟨T.ga, T.gg, T.exC, T.hdC, of_decide_eq_true e1, of_decide_eq_true e2, of_decide_eq_true e3, of_decide_eq_true e4⟩
def isB (K : PySem.W.Frag) (cv : Value) (tb : List (Str × Bool)) : Bool := tb.all fun p => exB1 K p.1 && decide (PySem.W.kitOne K (.ref (He.ga K p.1)) cv = some p.2)
theorem isB_ok {cv : Value} {tb : List (Str × Bool)} (h : isB K cv tb = true) : ∀ p ∈ tb, ExcC K (He.ga K p.1) ∧ PySem.W.kitOne K (.ref (He.ga K p.1)) cv = some p.2 := fun p hp => by
  have := List.all_eq_true.mp h p hp
  rw [Bool.and_eq_true] at this
  exact ⟨exB1_ok this.1, of_decide_eq_true this.2⟩
def isTB (K : PySem.W.Frag) (cvs : List Value) (tb : List (Str × Bool)) : Bool := tb.all fun p => exB1 K p.1 && decide (PySem.W.kitAny K (.ref (He.ga K p.1)) cvs = some p.2)
theorem isTB_ok {cvs : List Value} {tb : List (Str × Bool)} (h : isTB K cvs tb = true) : ∀ p ∈ tb, ExcC K (He.ga K p.1) ∧ PySem.W.kitAny K (.ref (He.ga K p.1)) cvs = some p.2 := fun p hp => by
  have := List.all_eq_true.mp h p hp
  rw [Bool.and_eq_true] at this
  exact ⟨exB1_ok this.1, of_decide_eq_true this.2⟩
def exmB (K : PySem.W.Frag) (cv : Value) (tb : List (Str × Bool)) : Bool := tb.all fun p => decide (PySem.W.exmOne K (.ref (He.ga K p.1)) cv = some p.2)
theorem exmB_ok {cv : Value} {tb : List (Str × Bool)} (h : exmB K cv tb = true) : ∀ p ∈ tb, PySem.W.exmOne K (.ref (He.ga K p.1)) cv = some p.2 := fun p hp => of_decide_eq_true (List.all_eq_true.mp h p hp)
def fldB (K : PySem.W.Frag) (f : Str) (xs : List Str) : Bool := xs.all fun x => xfB K (He.ga K x) && decide (PySem.W.findIn K (.ref (He.ga K x)) f = some none)
theorem fldB_ok {f : Str} {xs : List Str} (h : fldB K f xs = true) : ∀ x ∈ xs, XfC K (He.ga K x) ∧ PySem.W.findIn K (.ref (He.ga K x)) f = some none := fun x hx => by
  have := List.all_eq_true.mp h x hx
  rw [Bool.and_eq_true] at this
  exact ⟨xfB_ok this.1, of_decide_eq_true this.2⟩
end
end DL
/-! Counting in a list; slices and ranges with a step. -/
namespace DL
open PySem PySem.Spec PyProof.Rows L2
section
variable {X : Cx}
def rCntF (K : PySem.W.Frag) : V → List V → Hp → VK → Prop := fun x xs H Q => ∃ (a : Addr) (ys : List V) (y : V), x = V.ref a ∧ xs = [y] ∧ SqL K H a ys ∧ flatV y = true ∧ ys.all flatV = true ∧ Q (.int ((ys.countP fun z => eqV z y : Nat) : Int)) H
theorem count_vals {y : V} {uy : Value} (h : ∀ {z : V} {u : Value}, RelV z u → flatV z = true → eqU y u = eqV z y) : ∀ {ys : List V} {its : List Value}, Vals ys its → ys.all flatV = true → its.countP (eqU y) = ys.countP fun z => eqV z y
  | _, _, .nil, _ => rfl
  | z :: ys, u :: its, .cons a b, f => by
    rw [List.all_cons, Bool.and_eq_true] at f
    rw [List.countP_cons, List.countP_cons, count_vals (uy := uy) h b f.2, h a f.1]
theorem mt_countF : MtR X "list.count" (rCntF X.K) := by
  intro pins s σ H x xs v us Q I rx rxs h
  obtain ⟨a, ys, y, rfl, rfl, hs, fy, fys, q⟩ := h
  cases rx
  cases rxs with
  | cons ry rt =>
    rename_i uy ut
    cases rt
    obtain ⟨its, rv, ⟨⟨cls, dd, data, sl⟩, n, ho, hc, hdn, hd⟩, hlen⟩ := I.list hs
    simp only at hc hd
    subst hc hd
    refine call_meets PySem.F.slot_list_count ⟨_, ho, rfl⟩ PySem.F.entry_list_count (PySem.F.args_list_count_2 _ _)
      (SeqAt.list_countAt a its.toArray n dd sl uy (eqU y)) ⟨ho, fun u hu => mem_eqAt ry fy rv fys u (by simpa using hu), ⟨.int _, H, I.tok _, ⟨s.toks, ?_⟩, q⟩⟩
    have ec := count_vals (y := y) (uy := uy) (fun {z u} r f => eqU_of r f) rv fys
    show Value.int ((its.toArray.toList.countP (eqU y) : Nat) : Int) s.toks = _
    rw [← ec]
end
/-! ### a slice with a step -/
def pickV {α : Type} (xs : List α) (lo hi st : Option Int) : List α :=
  (sliceRange (sliceBounds lo hi st xs.length).1 (sliceBounds lo hi st xs.length).2.1 (sliceBounds lo hi st xs.length).2.2).filterMap fun i => xs[i]?
theorem pick_vals {α β : Type} {R : α → β → Prop} {xs : List α} {ys : List β} (h : xs.length = ys.length) (hr : ∀ (i : Nat) (x : α) (y : β), xs[i]? = some x → ys[i]? = some y → R x y) : ∀ is : List Nat, Paired R (is.filterMap fun i => xs[i]?) (is.filterMap fun i => ys[i]?)
  | [] => .nil
  | i :: is => by
    have ih := pick_vals h hr is
    rw [List.filterMap_cons, List.filterMap_cons]
    by_cases c : i < xs.length
    · have e1 : xs[i]? = some xs[i] := List.getElem?_eq_getElem c
      have e2 : ys[i]? = some (ys[i]'(by omega)) := List.getElem?_eq_getElem (by omega)
      rw [e1, e2]
      exact .cons (hr i _ _ e1 e2) ih
    · have e1 : xs[i]? = none := List.getElem?_eq_none (by omega)
      have e2 : ys[i]? = none := List.getElem?_eq_none (by omega)
      rw [e1, e2]
      exact ih
def tSl3 (K : PySem.W.Frag) (te : TE) (tl th tk : TO) : TE := fun σ H Q => te σ H fun x H1 => tl σ H1 fun l H2 => th σ H2 fun u H3 => tk σ H3 fun k H4 => ∃ (a : Addr) (xs : List V), x = .ref a ∧ SqL K H4 a xs ∧ k ≠ some 0 ∧ (pickV xs l u k).length ≤ xs.length ∧ ∀ p, H4 p = none → Q (.ref p) (upd H4 p (.lst (pickV xs l u k)))
theorem vals_pick {xs : List V} {its : List Value} (r : Vals xs its) (lo hi st : Option Int) : ∃ us : List Value, slicePick its.toArray lo hi st = us.toArray ∧ Vals (pickV xs lo hi st) us := by
  have hl := r.length
  refine ⟨pickV its lo hi st, ?_, ?_⟩
  · unfold slicePick pickV
    rw [List.size_toArray]
    congr 1
    refine congrArg (fun f => List.filterMap f _) (funext fun i => ?_)
    rw [List.getElem?_toArray]
  · have pr : Paired RelV (pickV xs lo hi st) (pickV its lo hi st) := by
      unfold pickV
      rw [hl]
      exact pick_vals hl (fun i x y e1 e2 => by
        obtain ⟨u, hu, ru⟩ := r.get e1
        rw [hu] at e2
        cases e2
        exact ru) _
    have go : ∀ {l : List V} {m : List Value}, Paired RelV l m → Vals l m := by
      intro l m h
      induction h with
      | nil => exact .nil
      | cons a _ ih => exact .cons a ih
    exact go pr
theorem pe_sl3 {X : Cx} {e : Expr} {te : TE} {lo hi st : Option Expr} {est : Expr} {tl th tk : TO} {p3 pos : Pos} (he : PE X e te) (hl : PO X lo tl) (hh : PO X hi th) (hk : PO X (some est) tk) : PE X (.Subscript e (.Slice lo hi (some est) p3) pos) (tSl3 X.K te tl th tk) := by
  refine ⟨fun pins s σ H Q I h => ?_⟩
  refine Subscript_ (thn (he.run pins s σ H _ I h) fun v s1 ⟨x, H1, I1, r1, q1⟩ => ?_)
  refine wpAny_Slice (thn (hl.run pins s1 σ H1 _ I1 q1) fun vl s2 ⟨l, H2, I2, pl, q2⟩ => ?_)
  refine thn (hh.run pins s2 σ H2 _ I2 q2) fun vu s3 ⟨u, H3, I3, pu, q3⟩ => ?_
  refine thn (hk.run pins s3 σ H3 _ I3 q3) fun vk s4 ⟨k, H4, I4, pk, q4⟩ => ?_
  obtain ⟨a, xs, ex, hx, hk0, hpl, q⟩ := q4
  subst ex
  cases r1
  have I5 : Inv X pins σ H4 { s4 with heap := s4.heap.push { cls := .type "slice", data := .fields #[vl, vu, vk] } } := I4.kept (t' := s4.toks) fun b ob q => Heap.get?_push_of_some _ q
  obtain ⟨its, r, ht, hz⟩ := I5.list hx
  have hlen := r.length
  obtain ⟨us, eu, ru⟩ := vals_pick r l u k
  show wpAny (model X.prog X.w) X.A (subscriptTail e (.Slice lo hi (some est) p3) (.ref a) (.ref s4.heap.objs.size)) (EP X pins σ Q) X.xe { s4 with heap := s4.heap.push { cls := .type "slice", data := .fields #[vl, vu, vk] } }
  refine tail_any (ops := [.ref a, .ref s4.heap.objs.size]) ht.isList.typeIs (PySem.slot_list_getitem.lookup) ?_ (by with_unfolding_all rfl)
  refine wpAny_getItem_list_slice ht.isList (Heap.IsSliceOf.new _ vl vu vk) pl pu pk hk0 ?_ (by rw [List.size_toArray]; omega)
  rw [eu]
  exact ⟨.ref _, _, I5.laid (t' := s4.toks) (o := .lst (pickV xs l u k)) (fun b ob q => Heap.get?_push_of_some _ q) (Nat.le_refl _) ⟨by omega, us, 0, ru, Heap.get?_push_size _ rfl⟩, rfl, q _ (I5.hok.fresh (Nat.le_refl _))⟩
section
variable {K : PySem.W.Frag} {W : WX} {te tf : TE} {g gf : Rho → R PD} {ta : TA} {ga : Rho → R (List PD)}
/-- list.count of plain things -/
def cntD (a b : PD) : R PD := match a with
  | .list ds => if flatP b = true ∧ ds.all flatP = true then .ok (.int ((ds.countP fun d => eqF d b : Nat) : Int)) else .bad
  | _ => .bad
def eCount (g gf : Rho → R PD) : Rho → R PD := fun ρ => (g ρ).bind fun a => listOf a ((gf ρ).bind fun b => cntD a b)
theorem count_dp {F H : Hp} {u : V} {b : PD} (hb : Rp K F H u b) (fb : flatP b = true) : ∀ {vs : List V} {ds : List PD}, DpAll K F vs ds → ds.all flatP = true → vs.countP (fun z => eqV z u) = ds.countP fun d => eqF d b
  | _, _, .nil, _ => rfl
  | v :: vs, d :: ds, .cons a r, f => by
    rw [List.all_cons, Bool.and_eq_true] at f
    rw [List.countP_cons, List.countP_cons, count_dp hb fb r f.2, eqV_ok a hb f.1 fb]
theorem td_count (h : TDr K W te g) (hf : TDr K W tf gf) : TDe K W (tBM K "list" (rCntF K) te (tCons tf tNil)) (eCount g gf) := fun F0 H0 F H σ ρ Q S q =>
  h F0 H0 F H σ ρ _ S (q.then fun a F1 H1 e1 k1 v rv => by
    cases a with
    | list ds =>
      obtain ⟨p, vs, rfl, s1, r1⟩ := rv.list e1.g
      refine ⟨.inl ⟨rfl, vs, .inl s1⟩, hf F0 H0 F1 H1 σ ρ _ (S.go e1) (k1.then fun b F2 H2 e2 k2 u ru => ?_)⟩
      have k2 : Fin K W σ F2 H2 (if flatP b = true ∧ ds.all flatP = true then R.ok (.int ((ds.countP fun d => eqF d b : Nat) : Int)) else .bad) (DpQ K Q) := k2
      by_cases hfl : flatP b = true ∧ ds.all flatP = true
      · rw [if_pos hfl] at k2
        have r2 := r1.mono e2.f
        refine ⟨p, vs, u, rfl, rfl, .inl (rdM e2.h s1), flat_ok ru hfl.1, flats_ok r2 hfl.2, ?_⟩
        rw [count_dp ru hfl.1 r2 hfl.2]
        exact Fin.okk K W σ e2.g k2 _ (.int _)
      · rw [if_neg hfl] at k2
        exact k2.elim
    | _ => exact k1.elim)
/-- xs[lo:hi:st] -/
def sl3D (a : PD) (lo hi st : Option Int) : R PD := match a with
  | .list ds => if st ≠ some 0 ∧ (pickV ds lo hi st).length ≤ ds.length then .ok (.list (pickV ds lo hi st)) else .bad
  | _ => .bad
def oSl3 (g : Rho → R PD) (gl gh gk : Rho → R (Option Int)) : Rho → R PD := fun ρ => (g ρ).bind fun a => (gl ρ).bind fun l => (gh ρ).bind fun h => (gk ρ).bind fun k => sl3D a l h k
theorem pick_len {α β : Type} {xs : List α} {ys : List β} (h : xs.length = ys.length) (lo hi st : Option Int) : (pickV xs lo hi st).length = (pickV ys lo hi st).length := by
  have := pick_vals (R := fun (_ : α) (_ : β) => True) h (fun _ _ _ _ _ => trivial) (sliceRange (sliceBounds lo hi st xs.length).1 (sliceBounds lo hi st xs.length).2.1 (sliceBounds lo hi st xs.length).2.2)
  have go : ∀ {l : List α} {m : List β}, Paired (fun _ _ => True) l m → l.length = m.length := by
    intro l m h
    induction h with
    | nil => rfl
    | cons _ _ ih => rw [List.length_cons, List.length_cons, ih]
  have e := go this
  unfold pickV
  rw [e, h]
theorem dp_pick {F : Hp} {vs : List V} {ds : List PD} (r : DpAll K F vs ds) (lo hi st : Option Int) : DpAll K F (pickV vs lo hi st) (pickV ds lo hi st) := by
  have hl := r.length
  have pr : Paired (Dp K F) (pickV vs lo hi st) (pickV ds lo hi st) := by
    unfold pickV
    rw [hl]
    exact pick_vals hl (fun i x y e1 e2 => by
      obtain ⟨d, hd, rd⟩ := r.get e1
      rw [hd] at e2
      cases e2
      exact rd) _
  have go : ∀ {l : List V} {m : List PD}, Paired (Dp K F) l m → DpAll K F l m := by
    intro l m h
    induction h with
    | nil => exact .nil
    | cons a _ ih => exact .cons a ih
  exact go pr
theorem to_sl3 {tl th tk : TO} {gl gh gk : Rho → R (Option Int)} (h : TDr K W te g) (hl : TDp K W tl gl) (hh : TDp K W th gh) (hk : TDp K W tk gk) : TDo K W (tSl3 K te tl th tk) (oSl3 g gl gh gk) := fun F0 H0 F H σ ρ Q S q =>
  h F0 H0 F H σ ρ _ S (q.then fun a F1 H1 e1 k1 v rv => hl F0 H0 F1 H1 σ ρ _ (S.go e1) (k1.then fun lo F2 H2 e2 k2 => hh F0 H0 F2 H2 σ ρ _ ((S.go e1).go e2) (k2.then fun hi F3 H3 e3 k3 => hk F0 H0 F3 H3 σ ρ _ (((S.go e1).go e2).go e3) (k3.then fun st F4 H4 e4 k4 => by
    have rv := ((rv.ext e2.f e2.h).ext e3.f e3.h).ext e4.f e4.h
    have k4 := OwQ.back (((e1.trans e2).trans e3).trans e4) k4
    unfold sl3D at k4
    split at k4
    · split at k4
      · rename_i hc
        obtain ⟨p, vs, rfl, s1, r1⟩ := rv.list e4.g
        refine ⟨p, vs, rfl, .inl s1, hc.1, by rw [pick_len r1.length, r1.length]; exact hc.2, fun p hp => own_lst e4.g (dp_pick r1 lo hi st) k4 hp⟩
      · exact k4.elim
    · exact k4.elim))))
/-! ### range with a step -/
def rngC (lo c : Int) (n : Nat) : List PD := (List.range n).map fun i => .int (lo + (i : Nat) * c)
theorem itc_rng {F : Hp} {lo c : Int} {n : Nat} : ItR K F (rngC lo c n) (Itc lo c n) := fun i F1 H1 e1 e2 => by
  refine ⟨fun d hd => ?_, fun hl => by simpa [rngC, Itc] using hl⟩
  unfold rngC at hd
  rw [List.getElem?_map] at hd
  by_cases hn : i < n
  · rw [List.getElem?_range hn] at hd
    cases hd
    refine ⟨hn, fun v H2 y => ?_⟩
    obtain ⟨rfl, rfl⟩ := y
    exact ⟨F1, Ext.refl e2, .int _⟩
  · rw [List.getElem?_eq_none (by simpa using hn)] at hd; cases hd
def rng3 : List PD → R (List PD)
  | [.int i, .int j, .int c] => if c ≠ 0 ∧ c.natAbs < 1073741824 ∧ Builtin.Range.small i j c = true ∧ 0 ≤ Builtin.Range.rangeSize i j c then .ok (rngC i c (Builtin.Range.rangeSize i j c).toNat) else .bad
  | _ => .bad
def iRng3D (ga : Rho → R (List PD)) : Rho → R (List PD) := fun ρ => (ga ρ).bind rng3
theorem di_rng3 (h : TDq K W ta ga) : TDi K W (iRng3 ta) (iRng3D ga) := fun F0 H0 F H σ ρ Q S q =>
  h F0 H0 F H σ ρ _ S (q.then fun l F1 H1 e1 k1 vs rs => by
    unfold rng3 at k1
    split at k1
    · split at k1
      · rename_i hs
        cases rs with
        | cons r1 r2 =>
          cases r2 with
          | cons r2 r3 =>
            cases r3 with
            | cons r3 r4 =>
              cases r4
              exact ⟨_, _, _, _, by rw [r1.int, r2.int, r3.int], ⟨hs.1, hs.2.1, hs.2.2.1, by have := hs.2.2.2; omega⟩, Fin.okk (x := _) K W σ e1.g k1 _ itc_rng⟩
      · exact k1.elim
    · exact k1.elim)
end
end DL
/-! The plain side: equations of the functions on data, for simp; loops by an invariant. -/
namespace DL
open PySem L2
/-- a text's signs, as numbers -/
def cs (z : Str) : List Nat := z.cps.toList
/-- a text of one sign -/
def sg (c : Nat) : Str := ⟨#[c]⟩
theorem cs_len (z : Str) : (cs z).length = z.length := Array.length_toList
theorem cs_ext {z w : Str} (h : cs z = cs w) : z = w := by
  cases z
  cases w
  unfold cs at h
  simp only at h
  rw [Array.toList_inj.mp h]
@[simp] theorem cs_sg (c : Nat) : cs (sg c) = [c] := rfl
@[simp] theorem sg_len (c : Nat) : (sg c).length = 1 := rfl
@[simp] theorem cs_app (z w : Str) : cs (z ++ w) = cs z ++ cs w := by
  show (z ++ w).cps.toList = _
  rw [PySem.Str.cps_append]
  simp [cs]
@[simp] theorem len_app (z w : Str) : (z ++ w).length = z.length + w.length := PySem.Str.length_append z w
theorem signs_eq (z : Str) : signs z = (cs z).map fun c => .str (sg c) := rfl
section
variable {α β : Type} (ρ ρ' : Rho) (g ga gb gc : Rho → R PD) (gt gt' : Rho → R Bool) (f f' : PD → PD → R PD) (gr : Rho → R (List PD)) (s s' : Rho → SR) (i : Nat)
@[simp] theorem x_bind_ok (a : α) (f : α → R β) : (R.ok a).bind f = f a := rfl
@[simp] theorem x_bind_exc (c : Ec) (f : α → R β) : (R.exc c : R α).bind f = .exc c := rfl
@[simp] theorem x_bind_bad (f : α → R β) : (R.bad : R α).bind f = .bad := rfl
@[simp] theorem x_eC (x : PD) : eC x ρ = .ok x := rfl
@[simp] theorem x_eOp : eOp f ga gb ρ = (ga ρ).bind fun a => (gb ρ).bind fun b => f a b := rfl
@[simp] theorem x_eUn (f : PD → R PD) : eUn f ga ρ = (ga ρ).bind f := rfl
@[simp] theorem x_eFz : eFz g ρ = (g ρ).bind notDict := rfl
@[simp] theorem x_notDict (l : List PD) : notDict (.list l) = .ok (.list l) := rfl
@[simp] theorem x_bOf : bOf g ρ = (g ρ).bind asB := rfl
@[simp] theorem x_asB (b : Bool) : asB (.bool b) = .ok b := rfl
@[simp] theorem x_bAnd : bAnd gt gt' ρ = (gt ρ).bind fun c => if c = true then gt' ρ else .ok false := rfl
@[simp] theorem x_bOr : bOr gt gt' ρ = (gt ρ).bind fun c => if c = true then .ok true else gt' ρ := rfl
@[simp] theorem x_bNot : bNot gt ρ = (gt ρ).bind fun c => .ok !c := rfl
@[simp] theorem x_eAnd : eAnd ga gb ρ = (ga ρ).bind fun a => (asB a).bind fun c => if c = true then gb ρ else .ok (.bool false) := rfl
@[simp] theorem x_eOr : eOr ga gb ρ = (ga ρ).bind fun a => (asB a).bind fun c => if c = true then .ok (.bool true) else gb ρ := rfl
@[simp] theorem x_eNot : eNot ga ρ = (ga ρ).bind fun a => (asB a).bind fun c => .ok (.bool !c) := rfl
@[simp] theorem x_eIf : eIf gt ga gb ρ = (gt ρ).bind fun c => if c = true then ga ρ else gb ρ := rfl
@[simp] theorem x_eChain : eChain f f' ga gb gc ρ = (ga ρ).bind fun a => (gb ρ).bind fun b => (f a b).bind fun z => (asB z).bind fun k => if k = true then (gc ρ).bind fun c => f' b c else .ok (.bool false) := rfl
@[simp] theorem x_aNil : aNil ρ = .ok [] := rfl
@[simp] theorem x_aCons : aCons ga gr ρ = (ga ρ).bind fun a => (gr ρ).bind fun l => .ok (a :: l) := rfl
@[simp] theorem x_eTup : eTup gr ρ = (gr ρ).bind fun l => if l.length ≤ sizeLine then .ok (.tuple l) else .bad := rfl
@[simp] theorem x_oLst : oLst gr ρ = (gr ρ).bind fun l => if l.length ≤ sizeLine then .ok (.list l) else .bad := rfl
@[simp] theorem x_eCB (f : List PD → R PD) : eCB f gr ρ = (gr ρ).bind f := rfl
@[simp] theorem x_eCall (n : Nat) (f : List PD → FR) : eCall n f gr ρ = (gr ρ).bind fun ds => if ds.length = n then (f ds).toE else .bad := rfl
@[simp] theorem x_oCall (n : Nat) (f : List PD → FR) : oCall n f gr ρ = (gr ρ).bind fun ds => if ds.length = n then (f ds).toO else .bad := rfl
@[simp] theorem x_eCallR (n : Nat) (f : List PD → FR) : eCallR n f gr ρ = (gr ρ).bind fun ds => if ds.length = n ∧ ds.all (fun d => !isDict d) = true then (f ds).toS else .bad := rfl
@[simp] theorem x_eCall0 (f : List PD → FR) : eCall0 f ρ = noExc (f []).toE := rfl
@[simp] theorem x_oCall0 (f : List PD → FR) : oCall0 f ρ = noExc (f []).toO := rfl
@[simp] theorem x_noExc_ok (a : α) : noExc (R.ok a) = .ok a := rfl
@[simp] theorem x_toE_d (x : PD) : (FR.rt (.d x)).toE = .ok x := rfl
@[simp] theorem x_toE_o (l : List PD) : (FR.rt (.o (.list l))).toE = .ok (.list l) := rfl
@[simp] theorem x_toE_x (c : Ec) : (FR.exc c).toE = .exc c := rfl
@[simp] theorem x_toO_o (x : PD) : (FR.rt (.o x)).toO = .ok x := rfl
@[simp] theorem x_toO_x (c : Ec) : (FR.exc c).toO = .exc c := rfl
@[simp] theorem x_toS (x : PD) : (FR.rt (.d x)).toS = if scalD x = true then .ok x else .bad := rfl
@[simp] theorem x_scal_i (i : Int) : scalD (.int i) = true := rfl
@[simp] theorem x_scal_b (i : Bool) : scalD (.bool i) = true := rfl
@[simp] theorem x_scal_s (i : Str) : scalD (.str i) = true := rfl
@[simp] theorem x_scal_n : scalD .none = true := rfl
@[simp] theorem x_dict_l (l : List PD) : isDict (.list l) = false := rfl
@[simp] theorem x_dict_t (l : List PD) : isDict (.tuple l) = false := rfl
@[simp] theorem x_dict_i (l : Int) : isDict (.int l) = false := rfl
@[simp] theorem x_dict_s (l : Str) : isDict (.str l) = false := rfl
@[simp] theorem x_dict_b (l : Bool) : isDict (.bool l) = false := rfl
@[simp] theorem x_dict_n : isDict .none = false := rfl
@[simp] theorem x_eIsi (T : String) : eIsi T g ρ = (g ρ).bind (isiD T) := rfl
@[simp] theorem x_eM0 (f : PD → List PD → R PD) : eM0 f g ρ = (g ρ).bind fun a => strOf a (f a []) := rfl
@[simp] theorem x_eM1 (f : PD → List PD → R PD) : eM1 f g ga ρ = (g ρ).bind fun a => strOf a ((ga ρ).bind fun b => f a [b]) := rfl
@[simp] theorem x_strOf (z : Str) (k : R PD) : strOf (.str z) k = k := rfl
@[simp] theorem x_eSl (gl gh : Rho → R (Option Int)) : eSl g gl gh ρ = (g ρ).bind fun a => (gl ρ).bind fun l => (gh ρ).bind fun h => slD a l h := rfl
@[simp] theorem x_oSl (gl gh : Rho → R (Option Int)) : oSl g gl gh ρ = (g ρ).bind fun a => (gl ρ).bind fun l => (gh ρ).bind fun h => slL a l h := rfl
@[simp] theorem x_pNo : pNo ρ = .ok none := rfl
@[simp] theorem x_pSo : pSo g ρ = (g ρ).bind fun a => (asI a).bind fun i => .ok (some i) := rfl
@[simp] theorem x_asI (j : Int) : asI (.int j) = .ok j := rfl
-- statements
@[simp] theorem x_sSeq : sSeq s s' ρ = (s ρ).seq s' := rfl
@[simp] theorem x_seq_nx (k : Rho → SR) : (SR.nx ρ).seq k = k ρ := rfl
@[simp] theorem x_seq_rt (x : Sl) (k : Rho → SR) : (SR.rt x).seq k = .rt x := rfl
@[simp] theorem x_seq_bk (k : Rho → SR) : (SR.bk ρ).seq k = .bk ρ := rfl
@[simp] theorem x_seq_ct (k : Rho → SR) : (SR.ct ρ).seq k = .ct ρ := rfl
@[simp] theorem x_seq_exc (c : Ec) (k : Rho → SR) : (SR.exc c).seq k = .exc c := rfl
@[simp] theorem x_seq_bad (k : Rho → SR) : SR.bad.seq k = .bad := rfl
@[simp] theorem x_of_ok (a : α) (k : α → SR) : SR.of (.ok a) k = k a := rfl
@[simp] theorem x_of_exc (c : Ec) (k : α → SR) : SR.of (.exc c) k = .exc c := rfl
@[simp] theorem x_of_bad (k : α → SR) : SR.of (.bad) k = .bad := rfl
@[simp] theorem x_sNext : sNext ρ = .nx ρ := rfl
@[simp] theorem x_sBreak : sBreak ρ = .bk ρ := rfl
@[simp] theorem x_sCont : sCont ρ = .ct ρ := rfl
@[simp] theorem x_sSet : sSet i g ρ = SR.of (g ρ) fun x => .nx (ρ.set i (some (.d x))) := rfl
@[simp] theorem x_sSetO : sSetO i g ρ = SR.of (g ρ) fun x => .nx (ρ.set i (some (.o x))) := rfl
@[simp] theorem x_sAsg (a : Rho → PD → R Rho) : sAsg g a ρ = SR.of (g ρ) fun x => SR.ofT (a ρ x) := rfl
@[simp] theorem x_ofT : SR.ofT (.ok ρ) = .nx ρ := rfl
@[simp] theorem x_sRet : sRet g ρ = SR.of (g ρ) fun x => .rt (.d x) := rfl
@[simp] theorem x_sRetO : sRetO g ρ = SR.of (g ρ) fun x => .rt (.o x) := rfl
@[simp] theorem x_sIf : sIf gt s s' ρ = SR.of (gt ρ) fun c => if c = true then s ρ else s' ρ := rfl
@[simp] theorem x_sDrop : sDrop g ρ = SR.of (g ρ) fun _ => .nx ρ := rfl
@[simp] theorem x_sFor (gi : Rho → R (List PD)) (a : Rho → PD → R Rho) : sFor gi a s ρ = SR.of (gi ρ) fun ds => forD a s ds ρ := rfl
@[simp] theorem x_aName (x : PD) : aName i ρ x = .ok (ρ.set i (some (.d x))) := rfl
@[simp] theorem x_aTup (n : Nat) (b : Rho → List PD → R Rho) (xs : List PD) : aTup n b ρ (.tuple xs) = if xs.length = n then b ρ xs else .bad := rfl
@[simp] theorem x_asNil : asNil ρ [] = .ok ρ := rfl
@[simp] theorem x_asCons (a : Rho → PD → R Rho) (b : Rho → List PD → R Rho) (x : PD) (xs : List PD) : asCons a b ρ (x :: xs) = (a ρ x).bind fun ρ' => b ρ' xs := rfl
@[simp] theorem x_iItems : iItems g ρ = (g ρ).bind itemsOf := rfl
@[simp] theorem x_items_l (l : List PD) : itemsOf (.list l) = .ok l := rfl
@[simp] theorem x_items_t (l : List PD) : itemsOf (.tuple l) = .ok l := rfl
@[simp] theorem x_items_s (l : Str) : itemsOf (.str l) = .ok ((cs l).map fun c => .str (sg c)) := rfl
@[simp] theorem x_iRng1 : iRng1D gr ρ = (gr ρ).bind rng1 := rfl
@[simp] theorem x_iRng2 : iRng2D gr ρ = (gr ρ).bind rng2 := rfl
@[simp] theorem x_iEnum : iEnumD gr ρ = (gr ρ).bind enumO := rfl
@[simp] theorem x_enumO (l : List PD) : enumO [.list l] = .ok (enumD l) := rfl
@[simp] theorem x_iZip : iZipD gr ρ = (gr ρ).bind zipO := rfl
@[simp] theorem x_zipO (l m : List PD) : zipO [.list l, .list m] = .ok (zipD l m) := rfl
@[simp] theorem x_iRev : iRevD gr ρ = (gr ρ).bind revO := rfl
@[simp] theorem x_revO (l : List PD) : revO [.list l] = .ok l.reverse := rfl
@[simp] theorem x_gYes : gYes ρ = .ok true := rfl
@[simp] theorem x_oLc (gi : Rho → R (List PD)) (a : Rho → PD → R Rho) (ge : Rho → R PD) (vs : List Nat) : oLc gi a gt ge vs ρ = (gi ρ).bind fun ds => (noExc (lcL (lcE a gt ge (wipeD ρ vs)) ds)).bind fun l => if l.length ≤ sizeLine then .ok (.list l) else .bad := rfl
@[simp] theorem x_wipe_nil : wipeD ρ [] = ρ := rfl
@[simp] theorem x_wipe_cons (v : Nat) (vs : List Nat) : wipeD ρ (v :: vs) = (wipeD ρ vs).set v none := rfl
@[simp] theorem x_fr_nx : (SR.nx ρ).fr = .rt (.d .none) := rfl
@[simp] theorem x_fr_rt (x : Sl) : (SR.rt x).fr = .rt x := rfl
@[simp] theorem x_fr_exc (c : Ec) : (SR.exc c).fr = .exc c := rfl
@[simp] theorem x_run (n : Nat) (ds : List PD) : runD n s ds = (s (startD n ds)).fr := rfl
@[simp] theorem x_sFrz (is : List Nat) : sFrz is s ρ = s (is.foldl (fun ρ i => frz1 i ρ) ρ) := rfl
-- operators
@[simp] theorem x_add_i (i j : Int) : addD (.int i) (.int j) = .ok (.int (i + j)) := rfl
@[simp] theorem x_add_s (i j : Str) : addD (.str i) (.str j) = if i.length + j.length ≤ sizeLine then .ok (.str (i ++ j)) else .bad := rfl
@[simp] theorem x_add_l (i j : List PD) : addD (.list i) (.list j) = if i.length + j.length ≤ sizeLine then .ok (.list (i ++ j)) else .bad := rfl
@[simp] theorem x_add_t (i j : List PD) : addD (.tuple i) (.tuple j) = if i.length + j.length ≤ sizeLine then .ok (.tuple (i ++ j)) else .bad := rfl
@[simp] theorem x_addL (i j : List PD) : addL (.list i) (.list j) = if i.length + j.length ≤ sizeLine then .ok (.list (i ++ j)) else .bad := rfl
@[simp] theorem x_sub_i (i j : Int) : subD (.int i) (.int j) = .ok (.int (i - j)) := rfl
@[simp] theorem x_neg_i (i : Int) : negD (.int i) = .ok (.int (-i)) := rfl
@[simp] theorem x_cmp_i (p : Int → Int → Bool) (i j : Int) : cmpD p (.int i) (.int j) = .ok (.bool (p i j)) := rfl
@[simp] theorem x_eq (a b : PD) : eqD a b = (eqB a b).bind fun c => .ok (.bool c) := rfl
@[simp] theorem x_ne (a b : PD) : neD a b = (eqB a b).bind fun c => .ok (.bool !c) := rfl
@[simp] theorem x_eqB_i (i j : Int) : eqB (.int i) (.int j) = .ok (decide (i = j)) := rfl
@[simp] theorem x_eqB_s (i j : Str) : eqB (.str i) (.str j) = .ok (decide (i = j)) := rfl
@[simp] theorem x_eqB_b (i j : Bool) : eqB (.bool i) (.bool j) = .ok (decide (i = j)) := rfl
@[simp] theorem x_isN (a : PD) : isND a .none = .ok (.bool (isNB a)) := rfl
@[simp] theorem x_notN (a : PD) : notND a .none = .ok (.bool (!isNB a)) := rfl
@[simp] theorem x_isNB_n : isNB .none = true := rfl
@[simp] theorem x_isNB_i (i : Int) : isNB (.int i) = false := rfl
@[simp] theorem x_isNB_s (i : Str) : isNB (.str i) = false := rfl
@[simp] theorem x_isNB_b (i : Bool) : isNB (.bool i) = false := rfl
@[simp] theorem x_isNB_l (i : List PD) : isNB (.list i) = false := rfl
@[simp] theorem x_isNB_t (i : List PD) : isNB (.tuple i) = false := rfl
@[simp] theorem x_in (a b : PD) : inD a b = (inB a b).bind fun c => .ok (.bool c) := rfl
@[simp] theorem x_nin (a b : PD) : ninD a b = (inB a b).bind fun c => .ok (.bool !c) := rfl
theorem inS_one (z : Str) (c : Nat) : inS ⟨#[c]⟩ z = decide (c ∈ z.cps.toList) := PySem.StrLaws.found_one z c
@[simp] theorem x_in_sign (z : Str) (c : Nat) : inB (.str (sg c)) (.str z) = .ok (decide (c ∈ cs z)) := by
  show R.ok (inS _ _) = _
  unfold sg
  rw [inS_one]
  rfl
theorem flat_strs : ∀ l : List Str, (l.map PyData.str).all flatP = true
  | [] => rfl
  | _ :: l => by rw [List.map_cons, List.all_cons, flat_strs l]; rfl
theorem any_strs (z : Str) : ∀ l : List Str, ((l.map PyData.str).any fun d => eqF d (.str z)) = decide (z ∈ l)
  | [] => by simp
  | x :: l => by
    rw [List.map_cons, List.any_cons, any_strs z l]
    show ((x == z) || decide (z ∈ l)) = _
    by_cases h : x = z
    · subst h; simp
    · have h' : (x == z) = false := by simpa using h
      have h2 : ¬ z = x := fun e => h e.symm
      simp [h', h2]
@[simp] theorem x_in_strs (z : Str) (l : List Str) : inB (.str z) (.list (l.map PyData.str)) = .ok (decide (z ∈ l)) := by
  show (if flatP (.str z) = true ∧ (l.map PyData.str).all flatP = true then R.ok ((l.map PyData.str).any fun d => eqF d (.str z)) else _) = _
  rw [if_pos ⟨rfl, flat_strs l⟩, any_strs]
@[simp] theorem x_in_strsT (z : Str) (l : List Str) : inB (.str z) (.tuple (l.map PyData.str)) = .ok (decide (z ∈ l)) := by
  show (if flatP (.str z) = true ∧ (l.map PyData.str).all flatP = true then R.ok ((l.map PyData.str).any fun d => eqF d (.str z)) else _) = _
  rw [if_pos ⟨rfl, flat_strs l⟩, any_strs]
theorem x_mod (i j : Int) (h : 0 < j) : modD (.int i) (.int j) = .ok (.int (i % j)) := by
  show (if modB i j = true then R.ok (PyData.int (i.fmod j)) else _) = _
  have h1 : modB i j = true := by unfold modB; exact decide_eq_true (by omega)
  rw [if_pos h1, Int.fmod_eq_emod_of_nonneg _ (by omega)]
theorem x_div (i j : Int) (h : 0 < j) (h2 : j < 1073741824) : divD (.int i) (.int j) = .ok (.int (i / j)) := by
  show (if divB i j = true then R.ok (PyData.int (i.fdiv j)) else _) = _
  have h1 : divB i j = true := by unfold divB; rw [Bool.and_eq_true]; exact ⟨decide_eq_true (by omega), decide_eq_true (by omega)⟩
  rw [if_pos h1, Int.fdiv_eq_ediv_of_nonneg _ (by omega)]
theorem x_mul_l (i j : Int) (h : -(2 ^ 64) < i) (h2 : i < 2 ^ 64) : mulD (.int i) (.int j) = .ok (.int (i * j)) := by
  show (if mulB i j = true then R.ok (PyData.int (i * j)) else _) = _
  rw [if_pos (by unfold mulB; simp only [Bool.or_eq_true, Bool.and_eq_true, decide_eq_true_eq]; exact .inl ⟨h, h2⟩)]
theorem x_mul_r (i j : Int) (h : -(2 ^ 64) < j) (h2 : j < 2 ^ 64) : mulD (.int i) (.int j) = .ok (.int (i * j)) := by
  show (if mulB i j = true then R.ok (PyData.int (i * j)) else _) = _
  rw [if_pos (by unfold mulB; simp only [Bool.or_eq_true, Bool.and_eq_true, decide_eq_true_eq]; exact .inr ⟨h, h2⟩)]
theorem x_mul_s (z : Str) (k : Int) (h : -(2 ^ 62) ≤ k) (h2 : k < 2 ^ 62) (h3 : z.length * k.toNat ≤ sizeLine) : mulD (.str z) (.int k) = .ok (.str (mulS z k)) := by
  show (if small62 k = true ∧ z.length * k.toNat ≤ sizeLine then R.ok (PyData.str (mulS z k)) else _) = _
  rw [if_pos ⟨by unfold small62; rw [Bool.and_eq_true]; exact ⟨decide_eq_true h, decide_eq_true h2⟩, h3⟩]
-- items
theorem atI_nn {γ : Type} (l : List γ) (i : Int) (h : 0 ≤ i) : atI l i = l[i.toNat]? := by
  unfold atI ixN
  rw [if_pos h]
  split
  · rfl
  · rename_i h2
    exact (List.getElem?_eq_none (by omega)).symm
theorem x_ix_l (l : List PD) (i : Int) (d : PD) (h : 0 ≤ i) (e : l[i.toNat]? = some d) : ixD (.list l) (.int i) = .ok d := by
  show (match atI l i with | some d => R.ok d | none => .bad) = _
  rw [atI_nn l i h, e]
theorem x_ix_t (l : List PD) (i : Int) (d : PD) (h : 0 ≤ i) (e : l[i.toNat]? = some d) : ixD (.tuple l) (.int i) = .ok d := by
  show (match atI l i with | some d => R.ok d | none => .bad) = _
  rw [atI_nn l i h, e]
theorem x_ix_s (z : Str) (i : Int) (c : Nat) (hz : z.length ≤ sizeLine) (h : 0 ≤ i) (e : (cs z)[i.toNat]? = some c) : ixD (.str z) (.int i) = .ok (.str (sg c)) := by
  unfold cs at e
  show (if z.length ≤ sizeLine then (match atI z.cps.toList i with | some c => R.ok (PyData.str ⟨#[c]⟩) | none => .bad) else .bad) = _
  rw [if_pos hz, atI_nn _ i h, e]
  rfl
@[simp] theorem x_sl_l (l : List PD) (a b : Option Int) : slD (.list l) a b = .ok (.list (cutD l a b)) := rfl
@[simp] theorem x_sl_t (l : List PD) (a b : Option Int) : slD (.tuple l) a b = .ok (.tuple (cutD l a b)) := rfl
@[simp] theorem x_sl_s (z : Str) (a b : Option Int) : slD (.str z) a b = if z.length ≤ sizeLine then .ok (.str (cutS z a b)) else .bad := rfl
@[simp] theorem x_slL (l : List PD) (a b : Option Int) : slL (.list l) a b = .ok (.list (cutD l a b)) := rfl
@[simp] theorem x_len_l (l : List PD) : lenD [.list l] = .ok (.int l.length) := rfl
@[simp] theorem x_len_t (l : List PD) : lenD [.tuple l] = .ok (.int l.length) := rfl
@[simp] theorem x_len_s (z : Str) : lenD [.str z] = if z.length ≤ sizeLine then .ok (.int z.length) else .bad := rfl
@[simp] theorem x_list_l (l : List PD) : listD [.list l] = .ok (.list l) := rfl
@[simp] theorem x_list_t (l : List PD) : listD [.tuple l] = .ok (.list l) := rfl
@[simp] theorem x_tuple_l (l : List PD) : tupleD [.list l] = .ok (.tuple l) := rfl
@[simp] theorem x_tuple_t (l : List PD) : tupleD [.tuple l] = .ok (.tuple l) := rfl
@[simp] theorem x_sum (l : List Int) : sumD [.list (l.map PyData.int)] = .ok (.int l.sum) := by
  show (match asInts (l.map PyData.int) with | some ns => R.ok (PyData.int ns.sum) | none => .bad) = _
  rw [asInts_map]
@[simp] theorem x_any (l : List Bool) : anyD [.list (l.map PyData.bool)] = .ok (.bool (l.any id)) := by
  show (match asBools (l.map PyData.bool) with | some ns => R.ok (PyData.bool (ns.any id)) | none => .bad) = _
  rw [asBools_map]
@[simp] theorem x_all (l : List Bool) : allD [.list (l.map PyData.bool)] = .ok (.bool (l.all id)) := by
  show (match asBools (l.map PyData.bool) with | some ns => R.ok (PyData.bool (ns.all id)) | none => .bad) = _
  rw [asBools_map]
@[simp] theorem x_int_i (i : Int) : intD [.int i] = .ok (.int i) := rfl
@[simp] theorem x_int_b (i : Bool) : intD [.bool i] = .ok (.int (if i = true then 1 else 0)) := rfl
theorem x_int_s (z : Str) (n : Int) (h : PySem.intText? z = some n) (hz : z.length ≤ 640) : intD [.str z] = .ok (.int n) := by
  show (match PySem.intText? z with | some n => if z.length ≤ 640 then R.ok (PyData.int n) else .bad | none => .bad) = _
  rw [h]
  exact if_pos hz
theorem x_str (i : Int) (h : i.natAbs.log2 < 1920) : strD [.int i] = .ok (.str (toString i)) := if_pos h
@[simp] theorem x_max2 (i j : Int) : max2D [.int i, .int j] = .ok (.int (if j > i then j else i)) := rfl
@[simp] theorem x_min2 (i j : Int) : min2D [.int i, .int j] = .ok (.int (if j < i then j else i)) := rfl
@[simp] theorem x_starts (a b : Str) : startsD (.str a) [.str b] = .ok (.bool (Txt.startswith a b)) := rfl
@[simp] theorem x_count (a b : Str) : countD (.str a) [.str b] = .ok (.int (Txt.count a b)) := rfl
@[simp] theorem x_words (a : Str) : wordsD (.str a) [] = if a.length + 2 ≤ sizeLine then .ok (.list ((Txt.words a).map PyData.str)) else .bad := rfl
@[simp] theorem x_split (a b : Str) : splitD (.str a) [.str b] = if (b.length == 0) = false ∧ a.length + 2 ≤ sizeLine then .ok (.list ((Txt.split a b).map PyData.str)) else .bad := rfl
theorem x_join (a : Str) (ys : List Str) (h : (ys.map (·.length)).sum + ys.length * a.length ≤ 16777216) : joinD (.str a) [.list (ys.map PyData.str)] = .ok (.str (Txt.join a ys)) := by
  show (match asStrs (ys.map PyData.str) with | some ys => if (ys.map (fun y : Str => y.length)).sum + ys.length * a.length ≤ 16777216 then R.ok (PyData.str (Txt.join a ys)) else .bad | none => .bad) = _
  rw [asStrs_map]
  exact if_pos h
theorem x_rng1 (j : Int) (h : -(2 ^ 62) ≤ j) (h2 : j < 2 ^ 62) : rng1 [.int j] = .ok (rngD 0 j.toNat) := by
  show (if small62 j = true then R.ok (rngD 0 j.toNat) else .bad) = _
  rw [if_pos (by unfold small62; rw [Bool.and_eq_true]; exact ⟨decide_eq_true h, decide_eq_true h2⟩)]
theorem x_rng2 (i j : Int) (h : -(2 ^ 62) ≤ i) (h2 : i < 2 ^ 62) (h3 : -(2 ^ 62) ≤ j) (h4 : j < 2 ^ 62) : rng2 [.int i, .int j] = .ok (rngD i (j - i).toNat) := by
  show (if small62 i = true ∧ small62 j = true then R.ok (rngD i (j - i).toNat) else .bad) = _
  rw [if_pos ⟨by unfold small62; rw [Bool.and_eq_true]; exact ⟨decide_eq_true h, decide_eq_true h2⟩, by unfold small62; rw [Bool.and_eq_true]; exact ⟨decide_eq_true h3, decide_eq_true h4⟩⟩]
end
/-! ### isinstance of data -/
theorem isi (T : String) (a : PD) (b : Bool) (h : isiB T a = some b) : isiD T a = .ok (.bool b) := by
  unfold isiD
  rw [h]
@[simp] theorem isi_bool_b (b : Bool) : isiD "bool" (.bool b) = .ok (.bool true) := isi _ _ _ (show L2.kitB "bool" "bool" = some true by decide +kernel)
@[simp] theorem isi_bool_i (b : Int) : isiD "bool" (.int b) = .ok (.bool false) := isi _ _ _ (show L2.kitB "int" "bool" = some false by decide +kernel)
@[simp] theorem isi_bool_s (b : Str) : isiD "bool" (.str b) = .ok (.bool false) := isi _ _ _ (show L2.kitB "str" "bool" = some false by decide +kernel)
@[simp] theorem isi_bool_n : isiD "bool" .none = .ok (.bool false) := isi _ _ _ (show L2.kitB "NoneType" "bool" = some false by decide +kernel)
@[simp] theorem isi_bool_l (b : List PD) : isiD "bool" (.list b) = .ok (.bool false) := isi _ _ _ (show L2.kitB "list" "bool" = some false by decide +kernel)
@[simp] theorem isi_bool_t (b : List PD) : isiD "bool" (.tuple b) = .ok (.bool false) := isi _ _ _ (show L2.kitB "tuple" "bool" = some false by decide +kernel)
@[simp] theorem isi_int_b (b : Bool) : isiD "int" (.bool b) = .ok (.bool true) := isi _ _ _ (show L2.kitB "bool" "int" = some true by decide +kernel)
@[simp] theorem isi_int_i (b : Int) : isiD "int" (.int b) = .ok (.bool true) := isi _ _ _ (show L2.kitB "int" "int" = some true by decide +kernel)
@[simp] theorem isi_int_s (b : Str) : isiD "int" (.str b) = .ok (.bool false) := isi _ _ _ (show L2.kitB "str" "int" = some false by decide +kernel)
@[simp] theorem isi_int_n : isiD "int" .none = .ok (.bool false) := isi _ _ _ (show L2.kitB "NoneType" "int" = some false by decide +kernel)
@[simp] theorem isi_int_l (b : List PD) : isiD "int" (.list b) = .ok (.bool false) := isi _ _ _ (show L2.kitB "list" "int" = some false by decide +kernel)
@[simp] theorem isi_int_t (b : List PD) : isiD "int" (.tuple b) = .ok (.bool false) := isi _ _ _ (show L2.kitB "tuple" "int" = some false by decide +kernel)
@[simp] theorem isi_str_b (b : Bool) : isiD "str" (.bool b) = .ok (.bool false) := isi _ _ _ (show L2.kitB "bool" "str" = some false by decide +kernel)
@[simp] theorem isi_str_i (b : Int) : isiD "str" (.int b) = .ok (.bool false) := isi _ _ _ (show L2.kitB "int" "str" = some false by decide +kernel)
@[simp] theorem isi_str_s (b : Str) : isiD "str" (.str b) = .ok (.bool true) := isi _ _ _ (show L2.kitB "str" "str" = some true by decide +kernel)
@[simp] theorem isi_str_n : isiD "str" .none = .ok (.bool false) := isi _ _ _ (show L2.kitB "NoneType" "str" = some false by decide +kernel)
@[simp] theorem isi_str_l (b : List PD) : isiD "str" (.list b) = .ok (.bool false) := isi _ _ _ (show L2.kitB "list" "str" = some false by decide +kernel)
@[simp] theorem isi_str_t (b : List PD) : isiD "str" (.tuple b) = .ok (.bool false) := isi _ _ _ (show L2.kitB "tuple" "str" = some false by decide +kernel)
@[simp] theorem isi_list_b (b : Bool) : isiD "list" (.bool b) = .ok (.bool false) := isi _ _ _ (show L2.kitB "bool" "list" = some false by decide +kernel)
@[simp] theorem isi_list_i (b : Int) : isiD "list" (.int b) = .ok (.bool false) := isi _ _ _ (show L2.kitB "int" "list" = some false by decide +kernel)
@[simp] theorem isi_list_s (b : Str) : isiD "list" (.str b) = .ok (.bool false) := isi _ _ _ (show L2.kitB "str" "list" = some false by decide +kernel)
@[simp] theorem isi_list_n : isiD "list" .none = .ok (.bool false) := isi _ _ _ (show L2.kitB "NoneType" "list" = some false by decide +kernel)
@[simp] theorem isi_list_l (b : List PD) : isiD "list" (.list b) = .ok (.bool true) := isi _ _ _ (show L2.kitB "list" "list" = some true by decide +kernel)
@[simp] theorem isi_list_t (b : List PD) : isiD "list" (.tuple b) = .ok (.bool false) := isi _ _ _ (show L2.kitB "tuple" "list" = some false by decide +kernel)
@[simp] theorem isi_tuple_b (b : Bool) : isiD "tuple" (.bool b) = .ok (.bool false) := isi _ _ _ (show L2.kitB "bool" "tuple" = some false by decide +kernel)
@[simp] theorem isi_tuple_i (b : Int) : isiD "tuple" (.int b) = .ok (.bool false) := isi _ _ _ (show L2.kitB "int" "tuple" = some false by decide +kernel)
@[simp] theorem isi_tuple_s (b : Str) : isiD "tuple" (.str b) = .ok (.bool false) := isi _ _ _ (show L2.kitB "str" "tuple" = some false by decide +kernel)
@[simp] theorem isi_tuple_n : isiD "tuple" .none = .ok (.bool false) := isi _ _ _ (show L2.kitB "NoneType" "tuple" = some false by decide +kernel)
@[simp] theorem isi_tuple_l (b : List PD) : isiD "tuple" (.list b) = .ok (.bool false) := isi _ _ _ (show L2.kitB "list" "tuple" = some false by decide +kernel)
@[simp] theorem isi_tuple_t (b : List PD) : isiD "tuple" (.tuple b) = .ok (.bool true) := isi _ _ _ (show L2.kitB "tuple" "tuple" = some true by decide +kernel)

/-! ### loops -/
/-- a loop by what holds between two turns; P: what holds of its end -/
theorem forD_by {a : Rho → PD → R Rho} {body : Rho → SR} {P : SR → Prop} {xs : List PD} (I : Nat → Rho → Prop) {ρ : Rho} (h0 : I 0 ρ)
    (hs : ∀ (i : Nat) (x : PD) (ρ : Rho), xs[i]? = some x → I i ρ → ∃ ρ1, a ρ x = .ok ρ1 ∧ (match body ρ1 with
      | .nx ρ2 => I (i + 1) ρ2
      | .ct ρ2 => I (i + 1) ρ2
      | .bk ρ2 => P (.nx ρ2)
      | .rt s => P (.rt s)
      | .exc c => P (.exc c)
      | .bad => P .bad))
    (he : ∀ ρ, I xs.length ρ → P (.nx ρ)) : P (forD a body xs ρ) := by
  have go : ∀ (n i : Nat) (ρ : Rho), xs.length - i = n → i ≤ xs.length → I i ρ → P (forD a body (xs.drop i) ρ) := by
    intro n
    induction n with
    | zero =>
      intro i ρ h1 h2 h3
      have e : i = xs.length := by omega
      subst e
      rw [List.drop_length]
      exact he ρ h3
    | succ n ih =>
      intro i ρ h1 h2 h3
      have hl : i < xs.length := by omega
      rw [List.drop_eq_getElem_cons hl]
      obtain ⟨ρ1, e1, h4⟩ := hs i xs[i] ρ (List.getElem?_eq_getElem hl) h3
      unfold forD
      rw [e1]
      simp only
      cases e : body ρ1 with
      | nx ρ2 => rw [e] at h4; exact ih (i + 1) ρ2 (by omega) hl h4
      | ct ρ2 => rw [e] at h4; exact ih (i + 1) ρ2 (by omega) hl h4
      | bk ρ2 => rw [e] at h4; exact h4
      | rt s => rw [e] at h4; exact h4
      | exc c => rw [e] at h4; exact h4
      | bad => rw [e] at h4; exact h4
  exact go xs.length 0 ρ (by omega) (Nat.zero_le _) h0
/-- a comprehension whose items all give a value -/
theorem lcL_map {h : PD → R (Option PD)} : ∀ {xs : List PD} {f : PD → PD}, (∀ x ∈ xs, h x = .ok (some (f x))) → lcL h xs = .ok (xs.map f)
  | [], _, _ => rfl
  | x :: xs, f, e => by
    unfold lcL
    rw [e x List.mem_cons_self, lcL_map fun y hy => e y (List.mem_cons_of_mem _ hy)]
    rfl
theorem lcL_fmap {h : PD → R (Option PD)} : ∀ {xs : List PD} {f : PD → Option PD}, (∀ x ∈ xs, h x = .ok (f x)) → lcL h xs = .ok (xs.filterMap f)
  | [], _, _ => rfl
  | x :: xs, f, e => by
    unfold lcL
    rw [e x List.mem_cons_self, lcL_fmap fun y hy => e y (List.mem_cons_of_mem _ hy)]
    simp only [x_bind_ok, List.filterMap_cons]
    cases f x <;> rfl
end DL
namespace DL
open PySem L2
/-- a statement that goes on -/
theorem seq_nx {s s' : Rho → SR} {ρ ρ1 : Rho} (h : s ρ = .nx ρ1) : sSeq s s' ρ = s' ρ1 := by
  show (s ρ).seq s' = _
  rw [h]
  rfl
theorem seq_rt {s s' : Rho → SR} {ρ : Rho} {x : Sl} (h : s ρ = .rt x) : sSeq s s' ρ = .rt x := by
  show (s ρ).seq s' = _
  rw [h]
  rfl
theorem seq_exc {s s' : Rho → SR} {ρ : Rho} {x : Ec} (h : s ρ = .exc x) : sSeq s s' ρ = .exc x := by
  show (s ρ).seq s' = _
  rw [h]
  rfl
theorem if_t {g : Rho → R Bool} {s s' : Rho → SR} {ρ : Rho} (h : g ρ = .ok true) : sIf g s s' ρ = s ρ := by
  show SR.of (g ρ) _ = _
  rw [h]
  rfl
theorem if_f {g : Rho → R Bool} {s s' : Rho → SR} {ρ : Rho} (h : g ρ = .ok false) : sIf g s s' ρ = s' ρ := by
  show SR.of (g ρ) _ = _
  rw [h]
  rfl
theorem set_ok {i : Nat} {g : Rho → R PD} {ρ : Rho} {x : PD} (h : g ρ = .ok x) : sSet i g ρ = .nx (ρ.set i (some (.d x))) := by
  show SR.of (g ρ) _ = _
  rw [h]
  rfl
theorem setO_ok {i : Nat} {g : Rho → R PD} {ρ : Rho} {x : PD} (h : g ρ = .ok x) : sSetO i g ρ = .nx (ρ.set i (some (.o x))) := by
  show SR.of (g ρ) _ = _
  rw [h]
  rfl
theorem ret_ok {g : Rho → R PD} {ρ : Rho} {x : PD} (h : g ρ = .ok x) : sRet g ρ = .rt (.d x) := by
  show SR.of (g ρ) _ = _
  rw [h]
  rfl
end DL
/-! What the math of every law wants again. -/
namespace DL
open PySem L2
theorem sz {n : Nat} (h : n ≤ 16777216) : n ≤ sizeLine := by rw [sizeLine_eq]; exact h
theorem szl {n : Nat} (h : n < 16777216) : n < sizeLine := by rw [sizeLine_eq]; exact h
theorem append_ok {i : Nat} {g : Rho → R PD} {ρ : Rho} {ds : List PD} {x : PD} (h : ρ[i]? = some (some (.o (.list ds)))) (e : g ρ = .ok x) (hl : ds.length < sizeLine) : sAppend i g ρ = .nx (ρ.set i (some (.o (.list (ds ++ [x]))))) := by
  unfold sAppend ownL
  rw [h, e]
  exact if_pos hl
theorem dget_l {i : Nat} {g : Rho → R PD} {ρ : Rho} {kvs : List (PD × PD)} {a : Str} {d : PD} (h : ρ[i]? = some (some (.l (.dict kvs)))) (e : g ρ = .ok (.str a)) (hv : valD kvs (.inr a) = some d) : eDget i g ρ = .ok d := by
  unfold eDget dAt
  rw [h]
  simp only [x_bind_ok]
  rw [e]
  simp only [x_bind_ok]
  show (match valD kvs (.inr a) with | some d => R.ok d | none => .bad) = _
  rw [hv]
theorem dget_o {i : Nat} {g : Rho → R PD} {ρ : Rho} {kvs : List (PD × PD)} {a : Str} {d : PD} (h : ρ[i]? = some (some (.o (.dict kvs)))) (e : g ρ = .ok (.str a)) (hv : valD kvs (.inr a) = some d) : eDget i g ρ = .ok d := by
  unfold eDget dAt
  rw [h]
  simp only [x_bind_ok]
  rw [e]
  simp only [x_bind_ok]
  show (match valD kvs (.inr a) with | some d => R.ok d | none => .bad) = _
  rw [hv]
theorem dput_ok {i : Nat} {gk gv : Rho → R PD} {ρ : Rho} {kvs : List (PD × PD)} {a : Str} {d : PD} (h : ρ[i]? = some (some (.o (.dict kvs)))) (e : gk ρ = .ok (.str a)) (e2 : gv ρ = .ok d) (hl : kvs.length < sizeLine) : sDput i gk gv ρ = .nx (ρ.set i (some (.o (.dict (putD kvs (.inr a) d))))) := by
  unfold sDput dOwn
  rw [e2, h]
  simp only [x_of_ok]
  rw [e]
  exact if_pos hl
theorem for_inv {a : Rho → PD → R Rho} {body : Rho → SR} (I : Rho → Prop) : ∀ {xs : List PD} {ρ : Rho}, (∀ x ∈ xs, ∀ ρ, I ρ → ∃ ρ1 ρ2, a ρ x = .ok ρ1 ∧ body ρ1 = .nx ρ2 ∧ I ρ2) → I ρ → ∃ ρ', forD a body xs ρ = .nx ρ' ∧ I ρ'
  | [], ρ, _, h => ⟨ρ, rfl, h⟩
  | x :: xs, ρ, hs, h => by
    obtain ⟨ρ1, ρ2, e1, e2, h2⟩ := hs x List.mem_cons_self ρ h
    obtain ⟨ρ', e3, h3⟩ := for_inv I (fun y hy => hs y (List.mem_cons_of_mem _ hy)) h2
    refine ⟨ρ', ?_, h3⟩
    unfold forD
    rw [e1]
    simp only
    rw [e2]
    exact e3
theorem rng_get {lo : Int} {n i : Nat} {x : PD} (h : (rngD lo n)[i]? = some x) : i < n ∧ x = .int (lo + i) := by
  unfold rngD at h
  rw [List.getElem?_map] at h
  by_cases c : i < n
  · rw [List.getElem?_range c] at h
    exact ⟨c, by injection h with h; exact h.symm⟩
  · rw [List.getElem?_eq_none (by rw [List.length_range]; omega)] at h
    cases h
theorem rng_ok (n : Nat) (h : n ≤ 1000) : rng1 [.int (n : Int)] = .ok (rngD 0 n) := by
  have h1 : (n : Int) < 2 ^ 62 := Int.lt_of_le_of_lt (Int.ofNat_le.mpr h) (by decide)
  have h0 : -(2 ^ 62) ≤ (n : Int) := Int.le_trans (by decide) (Int.natCast_nonneg _)
  have e := x_rng1 (n : Int) h0 h1
  rwa [Int.toNat_natCast] at e
theorem call3 {f : List PD → FR} {ga gb gc : Rho → R PD} {ρ : Rho} {a b c x : PD} (ha : ga ρ = .ok a) (hb : gb ρ = .ok b) (hc : gc ρ = .ok c) (h : f [a, b, c] = .rt (.d x)) : eCall 3 f (aCons ga (aCons gb (aCons gc aNil))) ρ = .ok x := by
  simp only [x_eCall, x_aCons, x_aNil, ha, hb, hc, x_bind_ok]
  show (if 3 = 3 then (f [a, b, c]).toE else R.bad) = _
  rw [if_pos rfl, h]
  rfl
theorem cb1 {f : List PD → R PD} {ga : Rho → R PD} {ρ : Rho} {a : PD} (ha : ga ρ = .ok a) : eCB f (aCons ga aNil) ρ = f [a] := by
  simp only [x_eCB, x_aCons, x_aNil, ha, x_bind_ok]
theorem op_ok {f : PD → PD → R PD} {ga gb : Rho → R PD} {ρ : Rho} {a b : PD} (ha : ga ρ = .ok a) (hb : gb ρ = .ok b) : eOp f ga gb ρ = f a b := by
  simp only [x_eOp, ha, hb, x_bind_ok]
theorem in_strs {ga gb : Rho → R PD} {ρ : Rho} {a : Str} {l : List Str} (ha : ga ρ = .ok (.str a)) (hb : gb ρ = .ok (.list (l.map PyData.str))) : eOp inD ga gb ρ = .ok (.bool (decide (a ∈ l))) := by
  rw [op_ok ha hb, x_in, x_in_strs]
  rfl
theorem bof {g : Rho → R PD} {ρ : Rho} {b : Bool} (h : g ρ = .ok (.bool b)) : bOf g ρ = .ok b := by
  rw [x_bOf, h]
  rfl
theorem call2o {f : List PD → FR} {ga gb : Rho → R PD} {ρ : Rho} {a b : PD} {l : List PD} (ha : ga ρ = .ok a) (hb : gb ρ = .ok b) (h : f [a, b] = .rt (.o (.list l))) : eCall 2 f (aCons ga (aCons gb aNil)) ρ = .ok (.list l) := by
  simp only [x_eCall, x_aCons, x_aNil, ha, hb, x_bind_ok]
  show (if 2 = 2 then (f [a, b]).toE else R.bad) = _
  rw [if_pos rfl, h]
  rfl
theorem call2 {f : List PD → FR} {ga gb : Rho → R PD} {ρ : Rho} {a b x : PD} (ha : ga ρ = .ok a) (hb : gb ρ = .ok b) (h : f [a, b] = .rt (.d x)) : eCall 2 f (aCons ga (aCons gb aNil)) ρ = .ok x := by
  simp only [x_eCall, x_aCons, x_aNil, ha, hb, x_bind_ok]
  show (if 2 = 2 then (f [a, b]).toE else R.bad) = _
  rw [if_pos rfl, h]
  rfl
theorem call1 {f : List PD → FR} {ga : Rho → R PD} {ρ : Rho} {a x : PD} (ha : ga ρ = .ok a) (h : f [a] = .rt (.d x)) : eCall 1 f (aCons ga aNil) ρ = .ok x := by
  simp only [x_eCall, x_aCons, x_aNil, ha, x_bind_ok]
  show (if 1 = 1 then (f [a]).toE else R.bad) = _
  rw [if_pos rfl, h]
  rfl
theorem nin_strs {ga gb : Rho → R PD} {ρ : Rho} {a : Str} {l : List Str} (ha : ga ρ = .ok (.str a)) (hb : gb ρ = .ok (.list (l.map PyData.str))) : eOp ninD ga gb ρ = .ok (.bool (!decide (a ∈ l))) := by
  rw [op_ok ha hb, x_nin, x_in_strs]
  rfl
theorem cut63 (ns : List Int) (h : ns.length ≤ 63) : cutD (ns.map PyData.int) none (some 63) = ns.map PyData.int := by
  unfold cutD
  have e1 : HT.sIx (ns.map PyData.int).length 0 none = 0 := rfl
  have e2 : HT.sIx (ns.map PyData.int).length (ns.map PyData.int).length (some 63) = min 63 (ns.map PyData.int).length := HT.sIx_nat _ _ 63
  rw [e1, e2, List.length_map]
  show List.take (min 63 ns.length - 0) (List.drop 0 _) = _
  rw [List.drop_zero, List.take_of_length_le]
  rw [List.length_map]
  omega
theorem cut_to (l : List Int) (i : Int) (h : 0 ≤ i) : cutD (l.map PyData.int) none (some i) = (l.take i.toNat).map PyData.int := by
  obtain ⟨n, rfl⟩ := Int.eq_ofNat_of_zero_le h
  unfold cutD
  have e1 : HT.sIx (l.map PyData.int).length 0 none = 0 := rfl
  have e2 : HT.sIx (l.map PyData.int).length (l.map PyData.int).length (some ((n : Nat) : Int)) = min n (l.map PyData.int).length := HT.sIx_nat _ _ n
  rw [e1, e2, List.length_map]
  show List.take (min n l.length - 0) (List.drop 0 _) = _
  rw [List.drop_zero, Nat.sub_zero, ← List.map_take, Int.toNat_natCast]
  by_cases c : n ≤ l.length
  · rw [Nat.min_eq_left c]
  · rw [Nat.min_eq_right (by omega), List.take_of_length_le (by omega), List.take_of_length_le (by omega)]
theorem ne_of_eq {a b : PD} (h : eqD a b = .ok (.bool true)) : neD a b = .ok (.bool false) := by
  rw [x_eq] at h
  rw [x_ne]
  generalize eqB a b = q at h
  cases q with
  | ok c =>
    cases c with
    | true => rfl
    | false => exact absurd h (by intro w; injection w with w; injection w with w; cases w)
  | exc c => cases h
  | bad => cases h
theorem ix_last (pre : List Str) (w : Str) : ixD (.list ((pre ++ [w]).map PyData.str)) (.int (-1)) = .ok (.str w) := by
  show (match atI ((pre ++ [w]).map PyData.str) (-1) with | some d => R.ok d | none => .bad) = _
  have e : atI ((pre ++ [w]).map PyData.str) (-1) = some (.str w) := by
    unfold atI ixN
    have h1 : (1 : Int) ≤ (pre.length : Int) + 1 := by omega
    have h2 : (-1 + ((pre.length : Int) + 1)).toNat = pre.length := by omega
    simp [h1, h2]
  rw [e]
theorem fold_list : ∀ (l : List (Array Nat)) (a : Array Nat), (l.foldl (· ++ ·) a).toList = a.toList ++ (l.map Array.toList).flatten
  | [], a => by simp
  | x :: l, a => by rw [List.foldl_cons, fold_list l]; simp
theorem mulS_sg (c : Nat) (n : Int) : cs (mulS (sg c) n) = List.replicate n.toNat c := by
  unfold mulS
  by_cases h : n < 1
  · rw [if_pos h, show n.toNat = 0 by omega]
    rfl
  · rw [if_neg h]
    show ((List.replicate n.toNat (sg c).cps).foldl (· ++ ·) #[]).toList = _
    rw [fold_list, List.map_replicate]
    show [] ++ (List.replicate n.toNat [c]).flatten = _
    rw [List.nil_append, List.flatten_replicate_singleton]
theorem scal_strs : ∀ l : List Str, (l.map PyData.str).all scalD = true
  | [] => rfl
  | x :: l => by rw [List.map_cons, List.all_cons, scal_strs l]; rfl
theorem scal_bls : ∀ l : List Bool, (l.map PyData.bool).all scalD = true
  | [] => rfl
  | x :: l => by rw [List.map_cons, List.all_cons, scal_bls l]; rfl
theorem sum_le : ∀ (l : List Str) (n : Nat), (∀ z ∈ l, z.length ≤ n) → (l.map (·.length)).sum ≤ n * l.length
  | [], n, _ => Nat.le_refl _
  | z :: l, n, h => by
    have := sum_le l n fun y hy => h y (List.mem_cons_of_mem _ hy)
    have := h z List.mem_cons_self
    rw [List.map_cons, List.sum_cons, List.length_cons, Nat.mul_succ]
    omega
theorem putD_new {kvs : List (PD × PD)} {k : Key} (d : PD) (h : valD kvs k = none) : putD kvs k d = kvs ++ [(keyD k, d)] := by
  unfold putD
  rw [h]
  exact if_neg (by decide)
theorem joinL_le (s : List Nat) : ∀ l : List (List Nat), (TL.joinL s l).length ≤ (l.map (·.length)).sum + l.length * s.length
  | [] => Nat.zero_le _
  | [p] => by
    show p.length ≤ _
    simp
  | p :: q :: r => by
    have ih := joinL_le s (q :: r)
    show (p ++ (s ++ TL.joinL s (q :: r))).length ≤ _
    rw [List.length_append, List.length_append, List.map_cons, List.sum_cons, List.length_cons, Nat.succ_mul]
    omega
theorem join_le (y : Str) (l : List Str) : (Txt.join y l).length ≤ (l.map (·.length)).sum + l.length * y.length := by
  have h := joinL_le (TL.tl y) (l.map TL.tl)
  have e : (Txt.join y l).length = (TL.tl (Txt.join y l)).length := TL.len_tl _
  rw [TL.join_eq, TL.tl_join] at e
  rw [TL.join_eq, e]
  rw [List.length_map, List.map_map] at h
  have e2 : (l.map ((fun x : List Nat => x.length) ∘ TL.tl)) = l.map (·.length) := List.map_congr_left fun z _ => (TL.len_tl z).symm
  have e2' : (l.map fun z : Str => (TL.tl z).length) = l.map (·.length) := List.map_congr_left fun z _ => (TL.len_tl z).symm
  rw [e2] at h
  rw [← TL.len_tl] at h
  exact h
end DL
/-! The plain side: equations of the newer functions; statements by what holds behind them. -/
namespace DL
open PySem L2
section
variable {α β : Type} (ρ : Rho) (g ga gb gc : Rho → R PD) (gm : Rho → R Tv) (f f' : PD → PD → R PD) (gr : Rho → R (List PD)) (gt : Rho → R (List Tv)) (s s' : Rho → SR) (i : Nat) (is vs : List Nat)
def killR (is : List Nat) : SR → SR
  | .nx ρ1 => .nx (is.foldl (fun ρ i => ρ.set i none) ρ1)
  | .ct ρ1 => .ct (is.foldl (fun ρ i => ρ.set i none) ρ1)
  | .bk ρ1 => .bk (is.foldl (fun ρ i => ρ.set i none) ρ1)
  | x => x
@[simp] theorem x_killS : killS is s ρ = killR is (s ρ) := by unfold killS killR; cases s ρ <;> rfl
@[simp] theorem x_killR_nx : killR is (.nx ρ) = .nx (is.foldl (fun ρ i => ρ.set i none) ρ) := rfl
@[simp] theorem x_killR_ct : killR is (.ct ρ) = .ct (is.foldl (fun ρ i => ρ.set i none) ρ) := rfl
@[simp] theorem x_killR_rt (x : Sl) : killR is (.rt x) = .rt x := rfl
@[simp] theorem x_killR_exc (x : Ec) : killR is (.exc x) = .exc x := rfl
@[simp] theorem x_preK : preK is s ρ = s (is.foldl (fun ρ i => ρ.set i none) ρ) := rfl
@[simp] theorem x_eImm : eImm g ρ = (g ρ).bind immO := rfl
@[simp] theorem x_immO_i (j : Int) : immO (.int j) = .ok (.int j) := rfl
@[simp] theorem x_immO_b (j : Bool) : immO (.bool j) = .ok (.bool j) := rfl
@[simp] theorem x_immO_s (j : Str) : immO (.str j) = .ok (.str j) := rfl
@[simp] theorem x_immO_n : immO .none = .ok .none := rfl
@[simp] theorem x_mFr : mFr g ρ = (g ρ).bind fun d => .ok (.fr d) := rfl
@[simp] theorem x_mOwn : mOwn g ρ = (g ρ).bind fun d => .ok (.own d) := rfl
@[simp] theorem x_maNil : maNil ρ = .ok [] := rfl
@[simp] theorem x_maCons : maCons gm gt ρ = (gm ρ).bind fun a => (gt ρ).bind fun l => .ok (a :: l) := rfl
@[simp] theorem x_mTup : mTup gt ρ = (gt ρ).bind fun l => if l.length ≤ sizeLine then .ok (.tup l) else .bad := rfl
@[simp] theorem x_mCall (n : Nat) (f : List PD → FR) : mCall n f gr ρ = (gr ρ).bind fun ds => if ds.length = n then (f ds).toM else .bad := rfl
@[simp] theorem x_eCallH (n : Nat) (f : List PD → FR) : eCallH n f gr ρ = (gr ρ).bind fun ds => if ds.length = n then (f ds).toE.bind immO else .bad := rfl
@[simp] theorem x_toM_d (x : PD) : (FR.rt (.d x)).toM = .ok (.fr x) := rfl
@[simp] theorem x_toM_t (x : Tv) : (FR.rt (.t x)).toM = .ok x := rfl
@[simp] theorem x_toM_x (c : Ec) : (FR.exc c).toM = .exc c := rfl
@[simp] theorem x_toE_t (x : Tv) : (FR.rt (.t x)).toE = x.toD := rfl
@[simp] theorem x_toD_f (x : PD) : (Tv.fr x).toD = .ok x := by unfold Tv.toD; rfl
@[simp] theorem x_toD_l (l : List PD) : (Tv.own (.list l)).toD = .ok (.list l) := by unfold Tv.toD; rfl
@[simp] theorem x_toD_t (ts : List Tv) : (Tv.tup ts).toD = (Tv.toDs ts).bind fun l => .ok (.tuple l) := by rw [Tv.toD]
@[simp] theorem x_toDs_n : Tv.toDs [] = .ok [] := by rw [Tv.toDs]
@[simp] theorem x_toDs_c (t : Tv) (ts : List Tv) : Tv.toDs (t :: ts) = t.toD.bind fun d => (Tv.toDs ts).bind fun l => .ok (d :: l) := by rw [Tv.toDs]
@[simp] theorem x_sRetM : sRetM gm ρ = SR.of (gm ρ) fun x => .rt (.t x) := rfl
@[simp] theorem x_sSetM : sSetM i vs gm ρ = SR.of (gm ρ) fun x => .nx ((killD ρ vs).set i (some (slOf x))) := rfl
@[simp] theorem x_killD_n : killD ρ [] = ρ := rfl
@[simp] theorem x_killD_c : killD ρ (i :: is) = killD (ρ.set i none) is := rfl
@[simp] theorem x_slOf_f (d : PD) : slOf (.fr d) = .d d := rfl
@[simp] theorem x_slOf_o (d : PD) : slOf (.own d) = .t (.own d) := rfl
@[simp] theorem x_slOf_t (d : List Tv) : slOf (.tup d) = .t (.tup d) := rfl
@[simp] theorem x_slOf_k (d : List (List Key × PD)) : slOf (.dT d) = .t (.dT d) := rfl
@[simp] theorem x_sUnpM : sUnpM is vs gm ρ = SR.of (gm ρ) fun x => unpM is (killD ρ (vs ++ is)) x := rfl
@[simp] theorem x_unpM (ts : List Tv) : unpM is ρ (.tup ts) = SR.ofT (putsM is ρ ts) := rfl
@[simp] theorem x_putsM_n : putsM [] ρ [] = .ok ρ := rfl
@[simp] theorem x_putsM_c (x : Tv) (xs : List Tv) : putsM (i :: is) ρ (x :: xs) = putsM is (ρ.set i (some (slOf x))) xs := rfl
@[simp] theorem x_mDnewT : mDnewT ρ = .ok (.dT []) := rfl
@[simp] theorem x_oDnew : oDnew ρ = .ok (.dict []) := rfl
@[simp] theorem x_iRvR1 : iRvR1 ga ρ = (ga ρ).bind fun a => match a with | .int j => if small62 j = true then .ok (rngD 0 j.toNat).reverse else .bad | _ => .bad := rfl
@[simp] theorem x_sortIt : oSortIt i ρ = (match ρ[i]? with
  | some (some (.t (.own (.dict kvs)))) => (match pairKs kvs with
    | some l => if likeAll (l.map pr2) = true then .ok (.list ((sortK (l.map pr2)).map keyP)) else .bad
    | none => .bad)
  | _ => .bad) := rfl
@[simp] theorem x_sortT : oSortT i ρ = (tAt ρ i).bind fun kvs => if likeAll (kvs.map (·.1)) = true then .ok (.list ((sortK (kvs.map (·.1))).map keyP)) else .bad := rfl
@[simp] theorem x_eDgetT : eDgetT i g ρ = (tAt ρ i).bind fun kvs => (g ρ).bind fun y => getT kvs y := rfl
@[simp] theorem x_sDputT : sDputT i ga gb ρ = SR.of (gb ρ) fun d => SR.of (tAt ρ i) fun kvs => SR.of (ga ρ) fun y => putTS ρ i kvs y d := rfl
@[simp] theorem x_sExtend : sExtend i g ρ = ownL ρ i fun ds => SR.of (g ρ) fun x => extS ρ i ds x := rfl
@[simp] theorem x_sInsertD : sInsertD i ga g ρ = ownL ρ i fun ds => SR.of (ga ρ) fun n => SR.of (g ρ) fun y => insS ρ i ds y n := rfl
@[simp] theorem x_sAppend : sAppend i g ρ = ownL ρ i fun ds => SR.of (g ρ) fun x => if ds.length < sizeLine then .nx (ρ.set i (some (.o (.list (ds ++ [x]))))) else .bad := rfl
@[simp] theorem x_eIndex : eIndex g ga ρ = (g ρ).bind fun a => listOf a ((ga ρ).bind fun b => idxD a b) := rfl
@[simp] theorem x_listOf (l : List PD) (k : R PD) : listOf (.list l) k = k := rfl
@[simp] theorem x_oListRev (l : List PD) (h : g ρ = .ok (.list l)) : oListRev g ρ = .ok (.list l.reverse) := by unfold oListRev; rw [h]; rfl
@[simp] theorem x_repL (l : List PD) (k : Int) : repL (.list l) (.int k) = if -(2 ^ 63) ≤ k ∧ k < 2 ^ 63 ∧ l.length * k.toNat ≤ sizeLine then .ok (.list (List.replicate k.toNat l).flatten) else .bad := rfl
@[simp] theorem x_rgT (a b : Int) : rgT (.int a) (.int b) = if rgOk a b = true then .ok (.tuple (rngD a (b - a).toNat)) else .bad := rfl
@[simp] theorem x_callT (n : Nat) (f : List Tv → FR) (k : Tv → SR) : callT n f gt k ρ = SR.of (gt ρ) fun ts => if ts.length = n then (match f ts with
  | .rt (.d x) => k (.fr x)
  | .rt (.t x) => k x
  | .rt (.l _) => .bad
  | .exc c => .exc c
  | .bad => .bad) else .bad := rfl
@[simp] theorem x_sCallT (n : Nat) (f : List Tv → FR) : sCallT i vs n f gt ρ = callT n f gt (fun x => .nx ((killD ρ vs).set i (some (slOf x)))) ρ := rfl
@[simp] theorem x_sRetT (n : Nat) (f : List Tv → FR) : sRetT n f gt ρ = callT n f gt (fun x => .rt (.t x)) ρ := rfl
@[simp] theorem x_sDput : sDput i ga gb ρ = SR.of (gb ρ) fun d => SR.of (dOwn ρ i) fun kvs => SR.of (ga ρ) fun y => putS ρ i kvs y d := rfl
@[simp] theorem x_eDget : eDget i g ρ = (dAt ρ i).bind fun kvs => (g ρ).bind fun y => getD kvs y := rfl
@[simp] theorem x_edin : edin i g ρ = (g ρ).bind fun y => (dAt ρ i).bind fun kvs => (hasD kvs y).bind fun b => .ok (.bool b) := rfl
@[simp] theorem x_ednotin : ednotin i g ρ = (g ρ).bind fun y => (dAt ρ i).bind fun kvs => (hasD kvs y).bind fun b => .ok (.bool !b) := rfl
end

theorem s0 : (0 : Nat) ≤ sizeLine := sz (by decide)
theorem s1 : (1 : Nat) ≤ sizeLine := sz (by decide)
theorem s2 : (2 : Nat) ≤ sizeLine := sz (by decide)
theorem s3 : (3 : Nat) ≤ sizeLine := sz (by decide)
theorem s4 : (4 : Nat) ≤ sizeLine := sz (by decide)
theorem s5 : (5 : Nat) ≤ sizeLine := sz (by decide)
theorem s6 : (6 : Nat) ≤ sizeLine := sz (by decide)
theorem s7 : (7 : Nat) ≤ sizeLine := sz (by decide)
theorem s8 : (8 : Nat) ≤ sizeLine := sz (by decide)
theorem s9 : (9 : Nat) ≤ sizeLine := sz (by decide)
/-! ### what holds behind a statement -/
/-- N behind it, R of what is handed back, C at the loop's next turn -/
def HSm (s : Rho → SR) (ρ : Rho) (N : Rho → Prop) (Rt : Sl → Prop) (Ct : Rho → Prop) : Prop := match s ρ with
  | .nx ρ' => N ρ'
  | .rt x => Rt x
  | .ct ρ' => Ct ρ'
  | _ => False
/-- .. shut, so that nothing runs the body -/
structure HS (s : Rho → SR) (ρ : Rho) (N : Rho → Prop) (Rt : Sl → Prop) (Ct : Rho → Prop) : Prop where
  out : HSm s ρ N Rt Ct
section
variable {ρ : Rho} {N : Rho → Prop} {Rt : Sl → Prop} {Ct : Rho → Prop} {s s' : Rho → SR}
theorem hs_mono {N' : Rho → Prop} {Rt' : Sl → Prop} {Ct' : Rho → Prop} (h : HS s ρ N Rt Ct) (h1 : ∀ ρ, N ρ → N' ρ) (h2 : ∀ x, Rt x → Rt' x) (h3 : ∀ ρ, Ct ρ → Ct' ρ) : HS s ρ N' Rt' Ct' := by
  refine ⟨?_⟩
  replace h := h.out
  unfold HSm at h ⊢
  cases e : s ρ with
  | nx ρ' => rw [e] at h; exact h1 _ h
  | rt x => rw [e] at h; exact h2 _ h
  | ct ρ' => rw [e] at h; exact h3 _ h
  | bk ρ' => rw [e] at h; exact h
  | exc c => rw [e] at h; exact h
  | bad => rw [e] at h; exact h
theorem hs_seq (h : HS s ρ (fun ρ' => HS s' ρ' N Rt Ct) Rt Ct) : HS (sSeq s s') ρ N Rt Ct := by
  refine ⟨?_⟩
  replace h := h.out
  unfold HSm at h ⊢
  rw [x_sSeq]
  cases e : s ρ with
  | nx ρ' => rw [e] at h; exact HS.out h
  | rt x => rw [e] at h; exact h
  | ct ρ' => rw [e] at h; exact h
  | bk ρ' => rw [e] at h; exact h.elim
  | exc c => rw [e] at h; exact h.elim
  | bad => rw [e] at h; exact h.elim
theorem hs_cut {P : Rho → Prop} (h : HS s ρ P Rt Ct) (k : ∀ ρ', P ρ' → HS s' ρ' N Rt Ct) : HS (sSeq s s') ρ N Rt Ct := hs_seq (hs_mono h k (fun _ h => h) fun _ h => h)
theorem hs_nx {ρ' : Rho} (e : s ρ = .nx ρ') (h : N ρ') : HS s ρ N Rt Ct := ⟨by unfold HSm; rw [e]; exact h⟩
theorem hs_rt {x : Sl} (e : s ρ = .rt x) (h : Rt x) : HS s ρ N Rt Ct := ⟨by unfold HSm; rw [e]; exact h⟩
theorem hs_ct (h : Ct ρ) : HS sCont ρ N Rt Ct := ⟨h⟩
theorem hs_next (h : N ρ) : HS sNext ρ N Rt Ct := ⟨h⟩
theorem hs_set {i : Nat} {g : Rho → R PD} {x : PD} (e : g ρ = .ok x) (h : N (ρ.set i (some (.d x)))) : HS (sSet i g) ρ N Rt Ct := hs_nx (set_ok e) h
theorem hs_setO {i : Nat} {g : Rho → R PD} {x : PD} (e : g ρ = .ok x) (h : N (ρ.set i (some (.o x)))) : HS (sSetO i g) ρ N Rt Ct := hs_nx (setO_ok e) h
theorem hs_setM {i : Nat} {vs : List Nat} {g : Rho → R Tv} {x : Tv} (e : g ρ = .ok x) (h : N ((killD ρ vs).set i (some (slOf x)))) : HS (sSetM i vs g) ρ N Rt Ct := hs_nx (by rw [x_sSetM, e]; rfl) h
theorem hs_ret {g : Rho → R PD} {x : PD} (e : g ρ = .ok x) (h : Rt (.d x)) : HS (sRet g) ρ N Rt Ct := hs_rt (ret_ok e) h
theorem hs_retO {g : Rho → R PD} {x : PD} (e : g ρ = .ok x) (h : Rt (.o x)) : HS (sRetO g) ρ N Rt Ct := hs_rt (by rw [x_sRetO, e]; rfl) h
theorem hs_retM {g : Rho → R Tv} {x : Tv} (e : g ρ = .ok x) (h : Rt (.t x)) : HS (sRetM g) ρ N Rt Ct := hs_rt (by rw [x_sRetM, e]; rfl) h
theorem hs_retV {i : Nat} {x : Sl} (e : ρ[i]? = some (some x)) (h : Rt x) : HS (sRetV i) ρ N Rt Ct := hs_rt (by unfold sRetV; rw [e]) h
theorem hs_if {g : Rho → R Bool} {c : Bool} (e : g ρ = .ok c) (h1 : c = true → HS s ρ N Rt Ct) (h2 : c = false → HS s' ρ N Rt Ct) : HS (sIf g s s') ρ N Rt Ct := by
  cases c with
  | true => have := (h1 rfl).out; refine ⟨?_⟩; unfold HSm at this ⊢; rw [if_t e]; exact this
  | false => have := (h2 rfl).out; refine ⟨?_⟩; unfold HSm at this ⊢; rw [if_f e]; exact this
theorem hs_ifX {g : Rho → R Bool} (e : ∃ c, g ρ = .ok c) (h1 : HS s ρ N Rt Ct) (h2 : HS s' ρ N Rt Ct) : HS (sIf g s s') ρ N Rt Ct := by
  obtain ⟨c, e⟩ := e
  exact hs_if e (fun _ => h1) fun _ => h2
theorem xAnd {a b : Rho → R Bool} (h1 : ∃ c, a ρ = .ok c) (h2 : ∃ c, b ρ = .ok c) : ∃ c, bAnd a b ρ = .ok c := by
  obtain ⟨c, h1⟩ := h1
  obtain ⟨d, h2⟩ := h2
  rw [x_bAnd, h1, x_bind_ok, h2]
  cases c <;> exact ⟨_, rfl⟩
theorem xOr {a b : Rho → R Bool} (h1 : ∃ c, a ρ = .ok c) (h2 : ∃ c, b ρ = .ok c) : ∃ c, bOr a b ρ = .ok c := by
  obtain ⟨c, h1⟩ := h1
  obtain ⟨d, h2⟩ := h2
  rw [x_bOr, h1, x_bind_ok, h2]
  cases c <;> exact ⟨_, rfl⟩
theorem xNot {a : Rho → R Bool} (h1 : ∃ c, a ρ = .ok c) : ∃ c, bNot a ρ = .ok c := by
  obtain ⟨c, h1⟩ := h1
  rw [x_bNot, h1, x_bind_ok]
  exact ⟨_, rfl⟩
theorem xAndF {a b : Rho → R Bool} (h : a ρ = .ok false) : bAnd a b ρ = .ok false := by rw [x_bAnd, h, x_bind_ok]; rfl
theorem xCmpB {p : Int → Int → Bool} {ga gb : Rho → R PD} {i j : Int} (c : Bool) (ha : ga ρ = .ok (.int i)) (hb : gb ρ = .ok (.int j)) (h : p i j = c) : bOf (eOp (cmpD p) ga gb) ρ = .ok c := by rw [x_bOf, op_ok ha hb, x_cmp_i, h]; rfl
theorem xEqB {ga gb : Rho → R PD} {i j : Int} (c : Bool) (ha : ga ρ = .ok (.int i)) (hb : gb ρ = .ok (.int j)) (h : decide (i = j) = c) : bOf (eOp eqD ga gb) ρ = .ok c := by rw [x_bOf, op_ok ha hb, x_eq, x_eqB_i, h]; rfl
theorem xOf {g : Rho → R PD} (h : ∃ c, g ρ = .ok (.bool c)) : ∃ c, bOf g ρ = .ok c := by
  obtain ⟨c, h⟩ := h
  exact ⟨c, by rw [x_bOf, h]; rfl⟩
theorem xEqI {ga gb : Rho → R PD} {i j : Int} (ha : ga ρ = .ok (.int i)) (hb : gb ρ = .ok (.int j)) : ∃ c, bOf (eOp eqD ga gb) ρ = .ok c := ⟨decide (i = j), by rw [x_bOf, op_ok ha hb, x_eq, x_eqB_i]; rfl⟩
theorem xCmp {p : Int → Int → Bool} {ga gb : Rho → R PD} {i j : Int} (ha : ga ρ = .ok (.int i)) (hb : gb ρ = .ok (.int j)) : ∃ c, bOf (eOp (cmpD p) ga gb) ρ = .ok c := ⟨p i j, by rw [x_bOf, op_ok ha hb, x_cmp_i]; rfl⟩
theorem frz_o {ρ : Rho} {i : Nat} {l : List PD} (h : ρ[i]? = some (some (.t (.own (.list l))))) : frz1 i ρ = ρ.set i (some (.d (.list l))) := by
  unfold frz1
  rw [h]
  simp only [x_toD_l]
theorem hs_frz {is : List Nat} (h : HS s (is.foldl (fun ρ i => frz1 i ρ) ρ) N Rt Ct) : HS (sFrz is s) ρ N Rt Ct := ⟨h.out⟩
theorem hs_pre {is : List Nat} (h : HS s (is.foldl (fun ρ i => ρ.set i none) ρ) N Rt Ct) : HS (preK is s) ρ N Rt Ct := ⟨h.out⟩
theorem hs_app {i : Nat} {g : Rho → R PD} {ds : List PD} {x : PD} (h : ρ[i]? = some (some (.t (.own (.list ds))))) (e : g ρ = .ok x) (hl : ds.length < sizeLine) (k : N (ρ.set i (some (.o (.list (ds ++ [x])))))) : HS (sAppend i g) ρ N Rt Ct :=
  hs_nx (append_ok h e hl) k
theorem hs_ext {i : Nat} {g : Rho → R PD} {ds es : List PD} (h : ρ[i]? = some (some (.t (.own (.list ds))))) (e : g ρ = .ok (.list es)) (hl : ds.length + es.length ≤ sizeLine) (k : N (ρ.set i (some (.o (.list (ds ++ es)))))) : HS (sExtend i g) ρ N Rt Ct := by
  refine hs_nx (ρ' := ρ.set i (some (.o (.list (ds ++ es))))) ?_ k
  unfold sExtend ownL
  rw [h, e]
  exact if_pos hl
theorem hs_dputT {i : Nat} {gk gv : Rho → R PD} {kvs : List (List Key × PD)} {y d : PD} {k : List Key} (h : ρ[i]? = some (some (.t (.dT kvs)))) (ek : gk ρ = .ok y) (hk : keyT? y = some k) (ev : gv ρ = .ok d) (hl : kvs.length < sizeLine) (n : N (ρ.set i (some (.t (.dT (putT kvs k d)))))) : HS (sDputT i gk gv) ρ N Rt Ct := by
  refine hs_nx (ρ' := ρ.set i (some (.t (.dT (putT kvs k d))))) ?_ n
  have et : tAt ρ i = .ok kvs := by unfold tAt; rw [h]
  rw [x_sDputT, ev, x_of_ok, et, x_of_ok, ek, x_of_ok]
  unfold putTS
  rw [hk]
  exact if_pos hl
theorem hs_dput {i : Nat} {gk gv : Rho → R PD} {kvs : List (PD × PD)} {a : Str} {d : PD} (h : ρ[i]? = some (some (.o (.dict kvs)))) (e : gk ρ = .ok (.str a)) (e2 : gv ρ = .ok d) (hl : kvs.length < sizeLine) (n : N (ρ.set i (some (.o (.dict (putD kvs (.inr a) d)))))) : HS (sDput i gk gv) ρ N Rt Ct := hs_nx (dput_ok h e e2 hl) n
theorem hs_lset {i j : Nat} {g gi : Rho → R PD} {ds : List PD} {x : PD} {n : Int} (h : ρ[i]? = some (some (.t (.own (.list ds))))) (e : g ρ = .ok x) (e2 : gi ρ = .ok (.int n)) (hj : ixN ds.length n = some j) (k : N (ρ.set i (some (.o (.list (ds.set j x)))))) : HS (sLset i g gi) ρ N Rt Ct := by
  refine hs_nx (ρ' := ρ.set i (some (.o (.list (ds.set j x))))) ?_ k
  unfold sLset ownL
  rw [e, x_of_ok, h]
  show SR.of (gi ρ) _ = _
  rw [e2, x_of_ok]
  unfold setL
  dsimp only
  rw [hj]
theorem hs_unpM {is vs : List Nat} {g : Rho → R Tv} {ts : List Tv} {ρ' : Rho} (e : g ρ = .ok (.tup ts)) (ep : putsM is (killD ρ (vs ++ is)) ts = .ok ρ') (h : N ρ') : HS (sUnpM is vs g) ρ N Rt Ct := hs_nx (by rw [x_sUnpM, e, x_of_ok, x_unpM, ep]; rfl) h
theorem mem_putT {kvs : List (List Key × PD)} {k : List Key} {d : PD} {q : List Key × PD} (h : q ∈ putT kvs k d) : q ∈ kvs ∨ (q.1 = k ∧ q.2 = d) := by
  unfold putT at h
  split at h
  · obtain ⟨p, hp, e⟩ := List.mem_map.mp h
    by_cases c : p.1 = k
    · rw [if_pos c] at e
      exact .inr ⟨by rw [← e]; exact c, by rw [← e]⟩
    · rw [if_neg c] at e
      exact .inl (by rw [← e]; exact hp)
  · rcases List.mem_append.mp h with h | h
    · exact .inl h
    · rw [List.mem_singleton.mp h]
      exact .inr ⟨rfl, rfl⟩
theorem len_putT (kvs : List (List Key × PD)) (k : List Key) (d : PD) : (putT kvs k d).length ≤ kvs.length + 1 := by
  unfold putT
  split
  · rw [List.length_map]; omega
  · rw [List.length_append]; exact Nat.le_refl _
theorem valT_mem : ∀ {kvs : List (List Key × PD)} {k : List Key}, k ∈ kvs.map (·.1) → ∃ d, valT kvs k = some d ∧ (k, d) ∈ kvs
  | p :: r, k, h => by
    unfold valT
    by_cases c : p.1 = k
    · exact ⟨p.2, if_pos c, by rw [← c]; exact List.mem_cons_self⟩
    · rw [if_neg c]
      rw [List.map_cons, List.mem_cons] at h
      obtain ⟨d, h1, h2⟩ := valT_mem (h.resolve_left fun q => c q.symm)
      exact ⟨d, h1, List.mem_cons_of_mem _ h2⟩
theorem lift_list {α β : Type} {f : β → α} {P : β → Prop} : ∀ {l : List α}, (∀ x ∈ l, ∃ y, x = f y ∧ P y) → ∃ ys : List β, l = ys.map f ∧ ∀ y ∈ ys, P y
  | [], _ => ⟨[], rfl, fun y hy => (by cases hy)⟩
  | x :: l, h => by
    obtain ⟨y, e, hy⟩ := h x List.mem_cons_self
    obtain ⟨ys, e2, h2⟩ := lift_list fun z hz => h z (List.mem_cons_of_mem _ hz)
    refine ⟨y :: ys, by rw [e, e2]; rfl, fun z hz => ?_⟩
    rcases List.mem_cons.mp hz with q | q
    · rw [q]; exact hy
    · exact h2 z q
/-- sorted(dict with tuple keys) by what its keys are -/
theorem sortT_ok {β : Type} {i : Nat} {ρ : Rho} {kvs : List (List Key × PD)} (h : ρ[i]? = some (some (.t (.dT kvs)))) (f : β → List Key) (P : β → Prop) (hk : ∀ p ∈ kvs, ∃ y, p.1 = f y ∧ P y) (hlk : ∀ a b, likeK (f a) (f b) = true) (hne : ∀ a, f a ≠ []) : ∃ ys : List β, oSortT i ρ = .ok (.list (ys.map fun y => keyP (f y))) ∧ (∀ y ∈ ys, P y ∧ f y ∈ kvs.map (·.1)) ∧ ys.length = kvs.length := by
  have et : tAt ρ i = .ok kvs := by unfold tAt; rw [h]
  have hl : likeAll (kvs.map (·.1)) = true := by
    unfold likeAll
    rw [List.all_eq_true]
    intro a ha
    obtain ⟨p, hp, rfl⟩ := List.mem_map.mp ha
    obtain ⟨y, e, _⟩ := hk p hp
    rw [Bool.and_eq_true, List.all_eq_true]
    refine ⟨?_, fun b hb => ?_⟩
    · rw [e]
      cases c : f y with
      | nil => exact absurd c (hne y)
      | cons _ _ => rfl
    · obtain ⟨p2, hp2, rfl⟩ := List.mem_map.mp hb
      obtain ⟨y2, e2, _⟩ := hk p2 hp2
      rw [e, e2]
      exact hlk y y2
  have pm : (sortK (kvs.map (·.1))).Perm (kvs.map (·.1)) := isort_perm _ _
  obtain ⟨ys, e, hy⟩ := lift_list (f := f) (P := fun y => P y ∧ f y ∈ kvs.map (·.1)) (l := sortK (kvs.map (·.1))) fun x hx => by
    have hx := pm.mem_iff.mp hx
    obtain ⟨p, hp, rfl⟩ := List.mem_map.mp hx
    obtain ⟨y, e, h⟩ := hk p hp
    exact ⟨y, e, h, by rw [← e]; exact hx⟩
  refine ⟨ys, ?_, hy, ?_⟩
  · rw [x_sortT, et, x_bind_ok, if_pos hl, e, List.map_map]
    rfl
  · have := pm.length_eq
    rw [e, List.length_map, List.length_map] at this
    exact this
/-- a loop by what holds ahead of each turn -/
theorem hs_for {gi : Rho → R (List PD)} {a : Rho → PD → R Rho} {is : List Nat} {xs : List PD} (e : gi ρ = .ok xs) (I : Nat → Rho → Prop) (h0 : I 0 ρ)
    (hs : ∀ (i : Nat) (x : PD) (ρ : Rho), xs[i]? = some x → I i ρ → ∃ ρ1, a ρ x = .ok ρ1 ∧ HS s ρ1 (fun ρ2 => I (i + 1) (is.foldl (fun ρ i => ρ.set i none) ρ2)) Rt (fun ρ2 => I (i + 1) (is.foldl (fun ρ i => ρ.set i none) ρ2)))
    (he : ∀ ρ, I xs.length ρ → N ρ) : HS (sFor gi a (killS is s)) ρ N Rt Ct := by
  refine ⟨?_⟩
  unfold HSm
  rw [x_sFor, e, x_of_ok]
  refine forD_by (P := fun r => match r with | .nx ρ' => N ρ' | .rt x => Rt x | .ct ρ' => Ct ρ' | _ => False) I h0 (fun i x ρ hx hI => ?_) he
  obtain ⟨ρ1, e1, h1⟩ := hs i x ρ hx hI
  refine ⟨ρ1, e1, ?_⟩
  rw [x_killS]
  replace h1 := h1.out
  unfold HSm at h1
  cases e2 : s ρ1 with
  | nx ρ2 => rw [e2] at h1; exact h1
  | rt x => rw [e2] at h1; exact h1
  | ct ρ2 => rw [e2] at h1; exact h1
  | bk ρ2 => rw [e2] at h1; exact h1.elim
  | exc c => rw [e2] at h1; exact h1.elim
  | bad => rw [e2] at h1; exact h1.elim
/-- .. over items of one kind -/
theorem hs_forL {γ : Type} {gi : Rho → R (List PD)} {a : Rho → PD → R Rho} {is : List Nat} (f : γ → PD) (xs : List γ) (e : gi ρ = .ok (xs.map f)) (I : Nat → Rho → Prop) (h0 : I 0 ρ)
    (hs : ∀ (i : Nat) (p : γ) (ρ : Rho), xs[i]? = some p → I i ρ → ∃ ρ1, a ρ (f p) = .ok ρ1 ∧ HS s ρ1 (fun ρ2 => I (i + 1) (is.foldl (fun ρ i => ρ.set i none) ρ2)) Rt (fun ρ2 => I (i + 1) (is.foldl (fun ρ i => ρ.set i none) ρ2)))
    (he : ∀ ρ, I xs.length ρ → N ρ) : HS (sFor gi a (killS is s)) ρ N Rt Ct :=
  hs_for e I h0 (fun i x ρ hx hI => by
    rw [List.getElem?_map] at hx
    cases e2 : xs[i]? with
    | none => rw [e2] at hx; cases hx
    | some p =>
      rw [e2] at hx
      injection hx with hx
      rw [← hx]
      exact hs i p ρ e2 hI) (fun ρ h => he ρ (by rw [List.length_map] at h; exact h))
theorem hs_rng {gi : Rho → R (List PD)} {a : Rho → PD → R Rho} {is : List Nat} (n : Nat) (e : gi ρ = .ok ((List.range n).map fun i => .int (0 + ((i : Nat) : Int)))) (I : Nat → Rho → Prop) (h0 : I 0 ρ)
    (hs : ∀ (i : Nat) (ρ : Rho), i < n → I i ρ → ∃ ρ1, a ρ (.int (i : Nat)) = .ok ρ1 ∧ HS s ρ1 (fun ρ2 => I (i + 1) (is.foldl (fun ρ i => ρ.set i none) ρ2)) Rt (fun ρ2 => I (i + 1) (is.foldl (fun ρ i => ρ.set i none) ρ2)))
    (he : ∀ ρ, I n ρ → N ρ) : HS (sFor gi a (killS is s)) ρ N Rt Ct :=
  hs_forL (fun i : Nat => PyData.int (0 + ((i : Nat) : Int))) (List.range n) e I h0 (fun i p ρ hx hI => by
    obtain ⟨h1, h2⟩ := List.getElem?_eq_some_iff.mp hx
    rw [List.length_range] at h1
    rw [List.getElem_range] at h2
    rw [← h2, Int.zero_add]
    exact hs i ρ h1 hI) (fun ρ h => he ρ (by rw [List.length_range] at h; exact h))
theorem rng_c {g : Rho → R PD} {ρ : Rho} {n : Nat} (h : g ρ = .ok (.int (n : Nat))) (hn : n ≤ 1000) : iRng1D (aCons g aNil) ρ = .ok ((List.range n).map fun i => .int (0 + ((i : Nat) : Int))) := by
  rw [x_iRng1, x_aCons, h, x_bind_ok, x_aNil, x_bind_ok, x_bind_ok, rng_ok n hn]
  unfold rngD
  exact Eq.refl _
/-- a def by its body -/
theorem hs_run {n : Nat} {ds : List PD} {Q : Sl → Prop} (h : HS s (startD n ds) (fun _ => Q (.d .none)) Q (fun _ => False)) : ∃ x, runD n s ds = .rt x ∧ Q x := by
  replace h := h.out
  unfold HSm at h
  rw [x_run]
  cases e : s (startD n ds) with
  | nx ρ' => rw [e] at h; exact ⟨_, rfl, h⟩
  | rt x => rw [e] at h; exact ⟨x, rfl, h⟩
  | ct ρ' => rw [e] at h; exact h.elim
  | bk ρ' => rw [e] at h; exact h.elim
  | exc c => rw [e] at h; exact h.elim
  | bad => rw [e] at h; exact h.elim
end
/-- a comprehension by what holds of its items -/
theorem lc_all {gi : Rho → R (List PD)} {a : Rho → PD → R Rho} {gt : Rho → R Bool} {ge : Rho → R PD} {vs : List Nat} {ρ : Rho} {xs : List PD} (P : PD → Prop) (e : gi ρ = .ok xs) (hl : xs.length ≤ sizeLine)
    (h : ∀ x ∈ xs, ∃ ρ1 c, a (wipeD ρ vs) x = .ok ρ1 ∧ gt ρ1 = .ok c ∧ (c = true → ∃ y, ge ρ1 = .ok y ∧ P y)) : ∃ ys, oLc gi a gt ge vs ρ = .ok (.list ys) ∧ (∀ y ∈ ys, P y) ∧ ys.length ≤ xs.length := by
  have go : ∀ xs : List PD, (∀ x ∈ xs, ∃ ρ1 c, a (wipeD ρ vs) x = .ok ρ1 ∧ gt ρ1 = .ok c ∧ (c = true → ∃ y, ge ρ1 = .ok y ∧ P y)) → ∃ ys, lcL (lcE a gt ge (wipeD ρ vs)) xs = .ok ys ∧ (∀ y ∈ ys, P y) ∧ ys.length ≤ xs.length := by
    intro xs
    induction xs with
    | nil => exact fun _ => ⟨[], rfl, fun y hy => (by cases hy), Nat.le_refl _⟩
    | cons x xs ih =>
      intro h
      obtain ⟨ys, h1, h2, h3⟩ := ih fun y hy => h y (List.mem_cons_of_mem _ hy)
      obtain ⟨ρ1, c, e1, e2, e3⟩ := h x List.mem_cons_self
      unfold lcL lcE
      rw [e1, x_bind_ok, e2, x_bind_ok]
      have h1 : lcL (lcE a gt ge (wipeD ρ vs)) xs = .ok ys := h1
      cases c with
      | true =>
        obtain ⟨y, e4, hy⟩ := e3 rfl
        rw [if_pos rfl, e4, x_bind_ok, x_bind_ok]
        show ∃ ys', ((lcL (lcE a gt ge (wipeD ρ vs)) xs).bind fun l => R.ok ((some y).toList ++ l)) = .ok ys' ∧ _
        rw [h1]
        refine ⟨y :: ys, rfl, fun z hz => ?_, by rw [List.length_cons, List.length_cons]; omega⟩
        rcases List.mem_cons.mp hz with e | hz
        · rw [e]; exact hy
        · exact h2 z hz
      | false =>
        rw [if_neg (by decide), x_bind_ok]
        show ∃ ys', ((lcL (lcE a gt ge (wipeD ρ vs)) xs).bind fun l => R.ok ((none : Option PD).toList ++ l)) = .ok ys' ∧ _
        rw [h1]
        exact ⟨ys, rfl, h2, by rw [List.length_cons]; omega⟩
  obtain ⟨ys, h1, h2, h3⟩ := go xs h
  refine ⟨ys, ?_, h2, h3⟩
  rw [x_oLc, e, x_bind_ok, h1]
  show (R.ok ys).bind _ = _
  rw [x_bind_ok, if_pos (Nat.le_trans h3 hl)]
/-- .. whose items all give a value -/
theorem lc_eq {γ : Type} {gi : Rho → R (List PD)} {a : Rho → PD → R Rho} {ge : Rho → R PD} {vs : List Nat} {ρ : Rho} {xs : List γ} (f g : γ → PD) (e : gi ρ = .ok (xs.map f)) (hl : xs.length ≤ sizeLine)
    (h : ∀ x ∈ xs, ∃ ρ1, a (wipeD ρ vs) (f x) = .ok ρ1 ∧ ge ρ1 = .ok (g x)) : oLc gi a gYes ge vs ρ = .ok (.list (xs.map g)) := by
  have go : ∀ xs : List γ, (∀ x ∈ xs, ∃ ρ1, a (wipeD ρ vs) (f x) = .ok ρ1 ∧ ge ρ1 = .ok (g x)) → lcL (lcE a gYes ge (wipeD ρ vs)) (xs.map f) = .ok (xs.map g) := by
    intro xs
    induction xs with
    | nil => exact fun _ => rfl
    | cons x xs ih =>
      intro h
      obtain ⟨ρ1, e1, e2⟩ := h x List.mem_cons_self
      rw [List.map_cons, List.map_cons]
      unfold lcL lcE
      rw [e1, x_bind_ok, x_gYes, x_bind_ok, if_pos rfl, e2, x_bind_ok, x_bind_ok]
      show ((lcL (lcE a gYes ge (wipeD ρ vs)) (xs.map f)).bind fun l => R.ok ((some (g x)).toList ++ l)) = _
      rw [ih fun y hy => h y (List.mem_cons_of_mem _ hy)]
      rfl
  rw [x_oLc, e, x_bind_ok, go xs h]
  show (R.ok (xs.map g)).bind _ = _
  rw [x_bind_ok, if_pos (by rw [List.length_map]; exact hl)]
/-- .. that are picked by p -/
theorem lc_flt {γ : Type} {gi : Rho → R (List PD)} {a : Rho → PD → R Rho} {gt : Rho → R Bool} {ge : Rho → R PD} {vs : List Nat} {ρ : Rho} {xs : List γ} (f g : γ → PD) (p : γ → Bool) (e : gi ρ = .ok (xs.map f)) (hl : xs.length ≤ sizeLine)
    (h : ∀ x ∈ xs, ∃ ρ1, a (wipeD ρ vs) (f x) = .ok ρ1 ∧ gt ρ1 = .ok (p x) ∧ (p x = true → ge ρ1 = .ok (g x))) : oLc gi a gt ge vs ρ = .ok (.list ((xs.filter p).map g)) := by
  have go : ∀ xs : List γ, (∀ x ∈ xs, ∃ ρ1, a (wipeD ρ vs) (f x) = .ok ρ1 ∧ gt ρ1 = .ok (p x) ∧ (p x = true → ge ρ1 = .ok (g x))) → lcL (lcE a gt ge (wipeD ρ vs)) (xs.map f) = .ok ((xs.filter p).map g) := by
    intro xs
    induction xs with
    | nil => exact fun _ => rfl
    | cons x xs ih =>
      intro h
      obtain ⟨ρ1, e1, e2, e3⟩ := h x List.mem_cons_self
      have ih := ih fun y hy => h y (List.mem_cons_of_mem _ hy)
      rw [List.map_cons]
      unfold lcL lcE
      rw [e1, x_bind_ok, e2, x_bind_ok]
      cases c : p x with
      | true =>
        rw [if_pos rfl, e3 c, x_bind_ok, x_bind_ok, List.filter_cons_of_pos c]
        show ((lcL (lcE a gt ge (wipeD ρ vs)) (xs.map f)).bind fun l => R.ok ((some (g x)).toList ++ l)) = _
        rw [ih]
        rfl
      | false =>
        rw [if_neg (by decide), x_bind_ok, List.filter_cons_of_neg (by rw [c]; decide)]
        show ((lcL (lcE a gt ge (wipeD ρ vs)) (xs.map f)).bind fun l => R.ok ((none : Option PD).toList ++ l)) = _
        rw [ih]
        rfl
  rw [x_oLc, e, x_bind_ok, go xs h]
  show (R.ok ((xs.filter p).map g)).bind _ = _
  rw [x_bind_ok, if_pos (by rw [List.length_map]; exact Nat.le_trans (List.length_filter_le _ _) hl)]
/-- an item of a list, by its place -/
theorem ix_list {γ : Type} (l : List γ) (f : γ → PD) (i : Int) (h0 : 0 ≤ i) (h1 : i < l.length) : ∃ (x : γ) (h : i.toNat < l.length), x = l[i.toNat] ∧ ixD (.list (l.map f)) (.int i) = .ok (f x) := by
  have h : i.toNat < l.length := by omega
  refine ⟨l[i.toNat], h, rfl, x_ix_l _ _ _ h0 ?_⟩
  rw [List.getElem?_map, List.getElem?_eq_getElem h]
  rfl
theorem ix_tup {γ : Type} (l : List γ) (f : γ → PD) (i : Int) (h0 : 0 ≤ i) (h1 : i < l.length) : ∃ (x : γ) (h : i.toNat < l.length), x = l[i.toNat] ∧ ixD (.tuple (l.map f)) (.int i) = .ok (f x) := by
  have h : i.toNat < l.length := by omega
  refine ⟨l[i.toNat], h, rfl, x_ix_t _ _ _ h0 ?_⟩
  rw [List.getElem?_map, List.getElem?_eq_getElem h]
  rfl
theorem enum_map {γ : Type} (l : List γ) (f : γ → PD) : enumD (l.map f) = l.zipIdx.map fun p => .tuple [.int ((p.2 : Nat) : Int), f p.1] := by
  unfold enumD
  rw [List.zipIdx_map, List.map_map]
  rfl
end DL
/-! The plain side, more: data that can be compared; dicts of text keys; places. -/
namespace DL
open PySem L2
def okS (z : Str) : Prop := PyData.strOk z = true
theorem okS_of {z : Str} (h : ∀ c ∈ cs z, c < 1114112) : okS z := by
  unfold okS PyData.strOk
  rw [← Array.all_toList, List.all_eq_true]
  exact fun c hc => decide_eq_true (h c hc)
structure Sh (n : Nat) (d : PD) : Prop where
  c : d.canLay0 = true
  h : d.depth ≤ n
section
variable {n m : Nat} {d : PD} {l : List PD}
theorem Sh.up (a : Sh n d) (k : n ≤ m) : Sh m d := ⟨a.c, Nat.le_trans a.h k⟩
theorem sh_i {i : Int} : Sh n (.int i) := ⟨by simp [PyData.canLay0], by simp [PyData.depth]⟩
theorem sh_b {i : Bool} : Sh n (.bool i) := ⟨by simp [PyData.canLay0], by simp [PyData.depth]⟩
theorem sh_n : Sh n .none := ⟨by simp [PyData.canLay0], by simp [PyData.depth]⟩
theorem sh_s {z : Str} (h : okS z) : Sh n (.str z) := ⟨by simp only [PyData.canLay0]; exact h, by simp [PyData.depth]⟩
theorem sh_all : ∀ {l : List PD}, (∀ d ∈ l, Sh n d) → PyData.canLayAll0 l = true ∧ PyData.depthAll l ≤ n
  | [], _ => ⟨by simp [PyData.canLayAll0], by simp [PyData.depthAll]⟩
  | d :: l, h => by
    obtain ⟨a, b⟩ := sh_all fun e he => h e (List.mem_cons_of_mem _ he)
    have := h d List.mem_cons_self
    exact ⟨by simp only [PyData.canLayAll0, this.c, a, Bool.and_self], by simp only [PyData.depthAll]; exact Nat.max_le.mpr ⟨this.h, b⟩⟩
theorem sh_l (h : ∀ d ∈ l, Sh n d) : Sh (n + 1) (.list l) := ⟨by simp only [PyData.canLay0]; exact (sh_all h).1, by simp only [PyData.depth]; have := (sh_all h).2; omega⟩
theorem sh_t (h : ∀ d ∈ l, Sh n d) : Sh (n + 1) (.tuple l) := ⟨by simp only [PyData.canLay0]; exact (sh_all h).1, by simp only [PyData.depth]; have := (sh_all h).2; omega⟩
theorem sh_m {γ : Type} {f : γ → PD} {l : List γ} (h : ∀ x ∈ l, Sh n (f x)) : ∀ d ∈ l.map f, Sh n d := fun d hd => by
  obtain ⟨x, hx, rfl⟩ := List.mem_map.mp hd
  exact h x hx
theorem sh_0 : ∀ d ∈ ([] : List PD), Sh n d := fun d h => by cases h
theorem sh_c {x : PD} (a : Sh n x) (b : ∀ d ∈ l, Sh n d) : ∀ d ∈ x :: l, Sh n d := fun d h => by
  rcases List.mem_cons.mp h with e | h
  · rw [e]; exact a
  · exact b d h
theorem Sh.ok (a : Sh n d) (k : n ≤ 64) : SeqAt.shaped d = true := by
  unfold SeqAt.shaped
  rw [a.c, Bool.true_and]
  exact decide_eq_true (Nat.le_trans a.h k)
end
mutual
theorem eqv_refl : ∀ d : PD, d.canLay0 = true → PyData.eqv d d = true
  | .none, _ => by simp only [PyData.eqv]
  | .bool b, _ => by simp only [PyData.eqv, beq_self_eq_true]
  | .int i, _ => by simp only [PyData.eqv, beq_self_eq_true]
  | .str x, _ => by simp only [PyData.eqv, beq_self_eq_true]
  | .list xs, h => by
    simp only [PyData.eqv]
    exact eqvAll_refl xs (by simpa [PyData.canLay0] using h)
  | .tuple xs, h => by
    simp only [PyData.eqv]
    exact eqvAll_refl xs (by simpa [PyData.canLay0] using h)
  | .dict _, h => by simp [PyData.canLay0] at h
theorem eqvAll_refl : ∀ xs : List PD, PyData.canLayAll0 xs = true → PyData.eqvAll xs xs = true
  | [], _ => by simp only [PyData.eqvAll]
  | x :: xs, h => by
    have h' : x.canLay0 = true ∧ PyData.canLayAll0 xs = true := by simpa [PyData.canLayAll0] using h
    simp only [PyData.eqvAll, eqv_refl x h'.1, eqvAll_refl xs h'.2, Bool.and_self]
end
theorem eqB_t (l m : List PD) : eqB (.tuple l) (.tuple m) = if SeqAt.shaped (.tuple l) = true ∧ SeqAt.shaped (.tuple m) = true then .ok (PyData.eqv (.tuple l) (.tuple m)) else .bad := rfl
theorem eqB_l (l m : List PD) : eqB (.list l) (.list m) = if SeqAt.shaped (.list l) = true ∧ SeqAt.shaped (.list m) = true then .ok (PyData.eqv (.list l) (.list m)) else .bad := rfl
theorem eqB_tt {n : Nat} {l m : List PD} (a : Sh n (.tuple l)) (b : Sh n (.tuple m)) (k : n ≤ 64) : eqB (.tuple l) (.tuple m) = .ok (PyData.eqvAll l m) := by
  rw [eqB_t, if_pos ⟨a.ok k, b.ok k⟩]
  simp only [PyData.eqv]
theorem eqB_ll {n : Nat} {l m : List PD} (a : Sh n (.list l)) (b : Sh n (.list m)) (k : n ≤ 64) : eqB (.list l) (.list m) = .ok (PyData.eqvAll l m) := by
  rw [eqB_l, if_pos ⟨a.ok k, b.ok k⟩]
  simp only [PyData.eqv]
theorem eqvAll_nil (l : List PD) : PyData.eqvAll l [] = l.isEmpty := by
  cases l with
  | nil => simp only [PyData.eqvAll, List.isEmpty_nil]
  | cons x l => simp only [PyData.eqvAll, List.isEmpty_cons]
/-! ### dicts with text keys -/
theorem mem_putD {kvs : List (PD × PD)} {k : Key} {d : PD} {q : PD × PD} (h : q ∈ putD kvs k d) : q ∈ kvs ∨ q = (keyD k, d) := by
  unfold putD at h
  split at h
  · obtain ⟨p, hp, e⟩ := List.mem_map.mp h
    by_cases c : keyOf p.1 = some k
    · rw [if_pos c] at e
      rw [← e, keyD_of c]
      exact .inr rfl
    · rw [if_neg c] at e
      exact .inl (by rw [← e]; exact hp)
  · rcases List.mem_append.mp h with h | h
    · exact .inl h
    · exact .inr (List.mem_singleton.mp h)
theorem len_putD (kvs : List (PD × PD)) (k : Key) (d : PD) : (putD kvs k d).length ≤ kvs.length + 1 := by
  unfold putD
  split
  · rw [List.length_map]; omega
  · rw [List.length_append]; exact Nat.le_refl _
def enI (e : Str × Int) : PD × PD := (.str e.1, .int e.2)
theorem pairKs_si : ∀ es : List (Str × Int), pairKs (es.map enI) = some (es.map fun e => ((.inr e.1 : Key), (.inl e.2 : Key)))
  | [] => rfl
  | e :: es => by
    rw [List.map_cons, List.map_cons]
    unfold pairKs
    rw [pairKs_si es]
    rfl
/-- sorted(items of a dict of texts and numbers) -/
theorem sortIt_ok {i : Nat} {ρ : Rho} (es : List (Str × Int)) (h : ρ[i]? = some (some (.t (.own (.dict (es.map enI)))))) : ∃ ys : List (Str × Int), oSortIt i ρ = .ok (.list (ys.map fun y => .tuple [.str y.1, .int y.2])) ∧ ys.Perm es := by
  rw [x_sortIt, h]
  dsimp only
  rw [pairKs_si]
  dsimp only
  have e1 : (es.map fun e => ((.inr e.1 : Key), (.inl e.2 : Key))).map pr2 = es.map fun e => [(.inr e.1 : Key), (.inl e.2 : Key)] := by rw [List.map_map]; rfl
  rw [e1]
  have hl : likeAll (es.map fun e => [(.inr e.1 : Key), (.inl e.2 : Key)]) = true := by
    unfold likeAll
    rw [List.all_eq_true]
    intro a ha
    obtain ⟨p, hp, rfl⟩ := List.mem_map.mp ha
    rw [Bool.and_eq_true, List.all_eq_true]
    refine ⟨rfl, fun b hb => ?_⟩
    obtain ⟨p2, hp2, rfl⟩ := List.mem_map.mp hb
    rfl
  rw [if_pos hl]
  have pm : (sortK (es.map fun e => [(.inr e.1 : Key), (.inl e.2 : Key)])).Perm (es.map fun e => [(.inr e.1 : Key), (.inl e.2 : Key)]) := isort_perm _ _
  obtain ⟨ys, e, _⟩ := lift_list (f := fun e : Str × Int => [(.inr e.1 : Key), (.inl e.2 : Key)]) (P := fun _ => True) (l := sortK (es.map fun e => [(.inr e.1 : Key), (.inl e.2 : Key)])) fun x hx => by
    obtain ⟨p, hp, rfl⟩ := List.mem_map.mp (pm.mem_iff.mp hx)
    exact ⟨p, rfl, trivial⟩
  refine ⟨ys, ?_, ?_⟩
  · rw [e, List.map_map]
    rfl
  · rw [e] at pm
    have := pm.filterMap fun k => match k with
      | [.inr a, .inl b] => some (a, b)
      | _ => none
    rw [List.filterMap_map, List.filterMap_map] at this
    have id1 : ∀ l : List (Str × Int), l.filterMap ((fun k : List Key => match k with
      | [.inr a, .inl b] => some (a, b)
      | _ => none) ∘ fun e : Str × Int => [(.inr e.1 : Key), (.inl e.2 : Key)]) = l := fun l => by
      induction l with
      | nil => rfl
      | cons x l ih => rw [List.filterMap_cons]; simp only [Function.comp_apply]; rw [ih]
    rw [id1, id1] at this
    exact this
theorem putD_si (es : List (Str × Int)) (w : Str) (i : Int) : ∃ es' : List (Str × Int), putD (es.map enI) (.inr w) (.int i) = es'.map enI ∧ es'.length ≤ es.length + 1 ∧ ∀ e ∈ es', e ∈ es ∨ e = (w, i) := by
  obtain ⟨es', e, h⟩ := lift_list (f := enI) (P := fun e => e ∈ es ∨ e = (w, i)) (l := putD (es.map enI) (.inr w) (.int i)) fun x hx => by
    rcases mem_putD hx with h | h
    · obtain ⟨y, hy, rfl⟩ := List.mem_map.mp h
      exact ⟨y, rfl, .inl hy⟩
    · exact ⟨(w, i), h, .inr rfl⟩
  refine ⟨es', e, ?_, h⟩
  have := len_putD (es.map enI) (.inr w) (.int i)
  rw [e, List.length_map, List.length_map] at this
  exact this
/-- a comprehension without a test, by what holds of its items -/
theorem lc_yes {γ : Type} {gi : Rho → R (List PD)} {a : Rho → PD → R Rho} {ge : Rho → R PD} {vs : List Nat} {ρ : Rho} {xs : List γ} (f : γ → PD) (P : γ → PD → Prop) (e : gi ρ = .ok (xs.map f)) (hl : xs.length ≤ sizeLine)
    (h : ∀ x ∈ xs, ∃ ρ1 y, a (wipeD ρ vs) (f x) = .ok ρ1 ∧ ge ρ1 = .ok y ∧ P x y) : ∃ ys, oLc gi a gYes ge vs ρ = .ok (.list ys) ∧ ys.length = xs.length ∧ ∀ y ∈ ys, ∃ x ∈ xs, P x y := by
  have go : ∀ xs : List γ, (∀ x ∈ xs, ∃ ρ1 y, a (wipeD ρ vs) (f x) = .ok ρ1 ∧ ge ρ1 = .ok y ∧ P x y) → ∃ ys, lcL (lcE a gYes ge (wipeD ρ vs)) (xs.map f) = .ok ys ∧ ys.length = xs.length ∧ ∀ y ∈ ys, ∃ x ∈ xs, P x y := by
    intro xs
    induction xs with
    | nil => exact fun _ => ⟨[], rfl, rfl, fun y hy => (by cases hy)⟩
    | cons x xs ih =>
      intro h
      obtain ⟨ys, h1, h2, h3⟩ := ih fun y hy => h y (List.mem_cons_of_mem _ hy)
      obtain ⟨ρ1, y, e1, e2, hy⟩ := h x List.mem_cons_self
      rw [List.map_cons]
      unfold lcL lcE
      rw [e1, x_bind_ok, x_gYes, x_bind_ok, if_pos rfl, e2, x_bind_ok, x_bind_ok]
      show ∃ ys', ((lcL (lcE a gYes ge (wipeD ρ vs)) (xs.map f)).bind fun l => R.ok ((some y).toList ++ l)) = .ok ys' ∧ _
      rw [h1]
      refine ⟨y :: ys, rfl, by rw [List.length_cons, List.length_cons, h2], fun z hz => ?_⟩
      rcases List.mem_cons.mp hz with q | hz
      · rw [q]; exact ⟨x, List.mem_cons_self, hy⟩
      · obtain ⟨w, hw, p⟩ := h3 z hz
        exact ⟨w, List.mem_cons_of_mem _ hw, p⟩
  obtain ⟨ys, h1, h2, h3⟩ := go xs h
  refine ⟨ys, ?_, h2, h3⟩
  rw [x_oLc, e, x_bind_ok, h1]
  show (R.ok ys).bind _ = _
  rw [x_bind_ok, if_pos (by rw [h2]; exact hl)]
theorem cut_a {γ : Type} (l : List γ) (f : γ → PD) (i : Int) (h : 0 ≤ i) : cutD (l.map f) none (some i) = (l.take i.toNat).map f := by
  unfold cutD
  rw [show HT.sIx (l.map f).length 0 none = 0 from rfl, List.drop_zero, Nat.sub_zero, show HT.sIx (l.map f).length (l.map f).length (some i) = min i.toNat (l.map f).length from if_neg (by omega), List.map_take, List.length_map]
  by_cases c : i.toNat ≤ l.length
  · rw [Nat.min_eq_left c]
  · rw [Nat.min_eq_right (by omega), List.take_of_length_le (by rw [List.length_map]; omega), List.take_of_length_le (by rw [List.length_map]; omega)]
theorem cut_b {γ : Type} (l : List γ) (f : γ → PD) (i : Int) (h : 0 ≤ i) : cutD (l.map f) (some i) none = (l.drop i.toNat).map f := by
  unfold cutD
  rw [show HT.sIx (l.map f).length (l.map f).length none = (l.map f).length from rfl, show HT.sIx (l.map f).length 0 (some i) = min i.toNat (l.map f).length from if_neg (by omega), List.map_drop, List.length_map]
  by_cases c : i.toNat ≤ l.length
  · rw [Nat.min_eq_left c, List.take_of_length_le (by rw [List.length_drop, List.length_map]; omega)]
  · rw [Nat.min_eq_right (by omega), Nat.sub_self, List.take_zero, List.drop_of_length_le (by rw [List.length_map]; omega)]
theorem it_l {g : Rho → R PD} {ρ : Rho} {l : List PD} (h : g ρ = .ok (.list l)) : iItems g ρ = .ok l := by
  rw [x_iItems, h]
  rfl
theorem it_t {g : Rho → R PD} {ρ : Rho} {l : List PD} (h : g ρ = .ok (.tuple l)) : iItems g ρ = .ok l := by
  rw [x_iItems, h]
  rfl
theorem fz_l {g : Rho → R PD} {ρ : Rho} {l : List PD} (h : g ρ = .ok (.list l)) : eFz g ρ = .ok (.list l) := by
  rw [x_eFz, h]
  rfl
theorem enum_st {g : Rho → R PD} {ρ : Rho} {l : List PD} (h : g ρ = .ok (.list l)) : iEnumD (aCons g aNil) ρ = .ok (enumD l) := by
  unfold iEnumD
  rw [x_aCons, h, x_bind_ok, x_aNil, x_bind_ok, x_bind_ok]
  rfl
theorem zip_at {γ : Type} {l : List γ} {i j : Nat} {x : γ} (h : l.zipIdx[i]? = some (x, j)) : j = i ∧ ∃ h : i < l.length, l[i] = x := by
  obtain ⟨h1, h2⟩ := List.getElem?_eq_some_iff.mp h
  rw [List.getElem_zipIdx] at h2
  rw [List.length_zipIdx] at h1
  injection h2 with h2 h3
  exact ⟨by omega, h1, h2⟩
section
variable {γ : Type} {f : γ → PD} {ρ : Rho} {g ga gb gc gk : Rho → R PD} {l m n : List γ} {k : Int} {a b c : PD}
theorem add2 (ha : ga ρ = .ok (.list (l.map f))) (hb : gb ρ = .ok (.list (m.map f))) (h : l.length + m.length ≤ 1000) : eOp addD ga gb ρ = .ok (.list ((l ++ m).map f)) := by
  rw [op_ok ha hb, x_add_l, if_pos (sz (by rw [List.length_map, List.length_map]; omega)), List.map_append]
theorem add3 (ha : ga ρ = .ok (.list (l.map f))) (hb : gb ρ = .ok (.list (m.map f))) (hc : gc ρ = .ok (.list (n.map f))) (h : l.length + m.length + n.length ≤ 1000) : eOp addD (eOp addD ga gb) gc ρ = .ok (.list ((l ++ m ++ n).map f)) :=
  add2 (add2 ha hb (by omega)) hc (by rw [List.length_append]; exact h)
theorem sl_a (ha : g ρ = .ok (.list (l.map f))) (hk : gk ρ = .ok (.int k)) (k0 : 0 ≤ k) : eSl g pNo (pSo gk) ρ = .ok (.list ((l.take k.toNat).map f)) := by
  simp only [x_eSl, x_pNo, x_pSo, ha, hk, x_bind_ok, x_asI, x_sl_l, cut_a _ _ _ k0]
theorem sl_b (ha : g ρ = .ok (.list (l.map f))) (hk : gk ρ = .ok (.int k)) (k0 : 0 ≤ k) : eSl g (pSo gk) pNo ρ = .ok (.list ((l.drop k.toNat).map f)) := by
  simp only [x_eSl, x_pNo, x_pSo, ha, hk, x_bind_ok, x_asI, x_sl_l, cut_b _ _ _ k0]
theorem tup2 (ha : ga ρ = .ok a) (hb : gb ρ = .ok b) : eTup (aCons ga (aCons gb aNil)) ρ = .ok (.tuple [a, b]) := by
  simp only [x_eTup, x_aCons, x_aNil, ha, hb, x_bind_ok, List.length_cons, List.length_nil, Nat.reduceAdd]
  exact if_pos s2
theorem tup3 (ha : ga ρ = .ok a) (hb : gb ρ = .ok b) (hc : gc ρ = .ok c) : eTup (aCons ga (aCons gb (aCons gc aNil))) ρ = .ok (.tuple [a, b, c]) := by
  simp only [x_eTup, x_aCons, x_aNil, ha, hb, hc, x_bind_ok, List.length_cons, List.length_nil, Nat.reduceAdd]
  exact if_pos s3
theorem lst1 (ha : ga ρ = .ok a) : eFz (oLst (aCons ga aNil)) ρ = .ok (.list [a]) := by
  refine fz_l ?_
  simp only [x_oLst, x_aCons, x_aNil, ha, x_bind_ok, List.length_cons, List.length_nil, Nat.reduceAdd]
  exact if_pos s1
theorem lst0 : eFz (oLst aNil) ρ = .ok (.list []) := fz_l (by
  simp only [x_oLst, x_aNil, x_bind_ok, List.length_nil]
  exact if_pos s0)
theorem xOrB {a b : Rho → R Bool} (x y : Bool) (h1 : a ρ = .ok x) (h2 : b ρ = .ok y) : bOr a b ρ = .ok (x || y) := by
  rw [x_bOr, h1, x_bind_ok, h2]
  cases x <;> rfl
theorem hs_asg {N : Rho → Prop} {Rt : Sl → Prop} {Ct : Rho → Prop} {as : Rho → PD → R Rho} {ρ' : Rho} (e : g ρ = .ok a) (e2 : as ρ a = .ok ρ') (h : N ρ') : HS (sAsg g as) ρ N Rt Ct := hs_nx (by rw [x_sAsg, e, x_of_ok, e2, x_ofT]) h
end
/-! ### places -/
theorem hs_ins {ρ : Rho} {N : Rho → Prop} {Rt : Sl → Prop} {Ct : Rho → Prop} {i : Nat} {gi g : Rho → R PD} {ds : List PD} {n : Int} {x : PD} (h : ρ[i]? = some (some (.t (.own (.list ds))))) (e : gi ρ = .ok (.int n)) (e2 : g ρ = .ok x) (hl : ds.length < sizeLine) (h0 : 0 ≤ n) (h1 : n < 2 ^ 63) (k : N (ρ.set i (some (.o (.list (ds.take n.toNat ++ [x] ++ ds.drop n.toNat)))))) : HS (sInsertD i gi g) ρ N Rt Ct := by
  refine hs_nx (ρ' := ρ.set i (some (.o (.list (ds.take n.toNat ++ [x] ++ ds.drop n.toNat))))) ?_ k
  unfold sInsertD ownL
  rw [h]
  show SR.of (gi ρ) _ = _
  rw [e, x_of_ok, e2, x_of_ok]
  exact if_pos ⟨hl, h0, h1⟩
theorem flat_ints (l : List Int) : (l.map PyData.int).all flatP = true := by
  rw [List.all_eq_true]
  intro d hd
  obtain ⟨i, _, rfl⟩ := List.mem_map.mp hd
  rfl
theorem idx_ints (l : List Int) (i : Int) (h : i ∈ l) : ∃ j : Nat, idxD (.list (l.map PyData.int)) (.int i) = .ok (.int (j : Nat)) ∧ ∃ h : j < l.length, l[j] = i := by
  have e : (l.map PyData.int).findIdx? (fun d => eqF d (.int i)) = l.findIdx? (fun d => decide (d = i)) := by
    rw [List.findIdx?_map]
    rfl
  cases c : l.findIdx? (fun d => decide (d = i)) with
  | none =>
    have := List.findIdx?_eq_none_iff.mp c i h
    simp at this
  | some j =>
    obtain ⟨hj, h2, _⟩ := List.findIdx?_eq_some_iff_getElem.mp c
    refine ⟨j, ?_, hj, of_decide_eq_true h2⟩
    unfold idxD
    dsimp only
    rw [if_pos ⟨rfl, flat_ints l⟩, e, c]
section
variable {ρ : Rho} {N : Rho → Prop} {Rt : Sl → Prop} {Ct : Rho → Prop} {s : Rho → SR}
theorem xAndB {a b : Rho → R Bool} (x y : Bool) (h1 : a ρ = .ok x) (h2 : x = true → b ρ = .ok y) : bAnd a b ρ = .ok (x && y) := by
  rw [x_bAnd, h1, x_bind_ok]
  cases x with
  | true => exact h2 rfl
  | false => rfl
theorem xOrC {a b : Rho → R Bool} (x y : Bool) (h1 : a ρ = .ok x) (h2 : x = false → b ρ = .ok y) : bOr a b ρ = .ok (x || y) := by
  rw [x_bOr, h1, x_bind_ok]
  cases x with
  | true => rfl
  | false => exact h2 rfl
theorem xNotB {a : Rho → R Bool} (x : Bool) (h1 : a ρ = .ok x) : bNot a ρ = .ok (!x) := by
  rw [x_bNot, h1, x_bind_ok]
/-- a loop that hands back False at the first item that is not p -/
theorem hs_every {γ : Type} {gi : Rho → R (List PD)} {a : Rho → PD → R Rho} {is : List Nat} (f : γ → PD) (xs : List γ) (p : γ → Bool) (e : gi ρ = .ok (xs.map f))
    (hs : ∀ (i : Nat) (x : γ), xs[i]? = some x → ∃ ρ1, a ρ (f x) = .ok ρ1 ∧ HS s ρ1 (fun ρ2 => is.foldl (fun ρ i => ρ.set i none) ρ2 = ρ ∧ p x = true) (fun y => y = .d (.bool false) ∧ p x = false) (fun _ => False))
    (hN : xs.all p = true → N ρ) (hR : xs.all p = false → Rt (.d (.bool false))) : HS (sFor gi a (killS is s)) ρ N Rt Ct := by
  refine hs_forL f xs e (fun i ρ' => ρ' = ρ ∧ ∀ x ∈ xs.take i, p x = true) ⟨rfl, fun x h => by rw [List.take_zero] at h; cases h⟩ (fun i x ρ' hx hI => ?_) fun ρ' hI => ?_
  · obtain ⟨rfl, hI⟩ := hI
    obtain ⟨ρ1, e1, h1⟩ := hs i x hx
    refine ⟨ρ1, e1, hs_mono h1 (fun ρ2 h => ⟨h.1, fun y hy => ?_⟩) (fun y h => ?_) fun _ h => h.elim⟩
    · rw [List.take_succ, hx] at hy
      rcases List.mem_append.mp hy with q | q
      · exact hI y q
      · rw [List.mem_singleton.mp q]; exact h.2
    · rw [h.1]
      refine hR ?_
      rw [List.all_eq_false]
      exact ⟨x, List.mem_of_getElem? hx, by rw [h.2]; decide⟩
  · obtain ⟨rfl, hI⟩ := hI
    rw [List.take_length] at hI
    exact hN (List.all_eq_true.mpr hI)
end
/-- a loop that hands back what it finds first -/
theorem hs_first {ρ : Rho} {N : Rho → Prop} {Rt : Sl → Prop} {Ct : Rho → Prop} {s : Rho → SR} {γ β : Type} {gi : Rho → R (List PD)} {a : Rho → PD → R Rho} {is : List Nat} (f : γ → PD) (xs : List γ) (p : γ → Option β) (ret : β → Sl) (e : gi ρ = .ok (xs.map f))
    (hs : ∀ (i : Nat) (x : γ), xs[i]? = some x → ∃ ρ1, a ρ (f x) = .ok ρ1 ∧ HS s ρ1 (fun ρ2 => is.foldl (fun ρ i => ρ.set i none) ρ2 = ρ ∧ p x = none) (fun y => ∃ b, y = ret b ∧ p x = some b) (fun _ => False))
    (hN : xs.findSome? p = none → N ρ) (hR : ∀ b, xs.findSome? p = some b → Rt (ret b)) : HS (sFor gi a (killS is s)) ρ N Rt Ct := by
  refine hs_forL f xs e (fun i ρ' => ρ' = ρ ∧ ∀ x ∈ xs.take i, p x = none) ⟨rfl, fun x h => by rw [List.take_zero] at h; cases h⟩ (fun i x ρ' hx hI => ?_) fun ρ' hI => ?_
  · obtain ⟨rfl, hI⟩ := hI
    obtain ⟨ρ1, e1, h1⟩ := hs i x hx
    refine ⟨ρ1, e1, hs_mono h1 (fun ρ2 h => ⟨h.1, fun y hy => ?_⟩) (fun y h => ?_) fun _ h => h.elim⟩
    · rw [List.take_succ, hx] at hy
      rcases List.mem_append.mp hy with q | q
      · exact hI y q
      · rw [List.mem_singleton.mp q]; exact h.2
    · obtain ⟨b, rfl, hb⟩ := h
      refine hR b ?_
      obtain ⟨h1, h2⟩ := List.getElem?_eq_some_iff.mp hx
      have e2 : xs = xs.take i ++ x :: xs.drop (i + 1) := by rw [← h2, ← List.drop_eq_getElem_cons h1, List.take_append_drop]
      rw [e2, List.findSome?_append, List.findSome?_eq_none_iff.mpr hI, Option.none_or, List.findSome?_cons, hb]
  · obtain ⟨rfl, hI⟩ := hI
    rw [List.take_length] at hI
    exact hN (List.findSome?_eq_none_iff.mpr hI)
theorem runT_eq {n : Nat} {s : Rho → SR} {ts : List Tv} {y : Sl} (h : HS s (startT n ts) (fun _ => Sl.d .none = y) (fun x => x = y) (fun _ => False)) : runT n s ts = .rt y := by
  replace h := h.out
  unfold HSm at h
  unfold runT
  cases e : s (startT n ts) with
  | nx ρ' => rw [e] at h; have h : Sl.d .none = y := h; rw [← h]; rfl
  | rt x => rw [e] at h; have h : x = y := h; rw [h]; rfl
  | ct ρ' => rw [e] at h; exact h.elim
  | bk ρ' => rw [e] at h; exact h.elim
  | exc c => rw [e] at h; exact h.elim
  | bad => rw [e] at h; exact h.elim
section
variable {ρ : Rho} {N : Rho → Prop} {Rt : Sl → Prop} {Ct : Rho → Prop}
def tvOf : Sl → Tv
  | .d x => .fr x
  | .t x => x
  | .l x => .fr x
theorem callT_ok {n : Nat} {f : List Tv → FR} {gt : Rho → R (List Tv)} {k : Tv → SR} {ts : List Tv} {y : Sl} (e : gt ρ = .ok ts) (hn : ts.length = n) (h : f ts = .rt y) (hl : ∀ x, y ≠ .l x) : callT n f gt k ρ = k (tvOf y) := by
  rw [x_callT, e, x_of_ok, if_pos hn, h]
  cases y with
  | d x => rfl
  | t x => rfl
  | l x => exact absurd rfl (hl x)
theorem hs_callT {i n : Nat} {vs : List Nat} {f : List Tv → FR} {gt : Rho → R (List Tv)} {ts : List Tv} {y : Sl} (e : gt ρ = .ok ts) (hn : ts.length = n) (h : f ts = .rt y) (hl : ∀ x, y ≠ .l x) (k : N ((killD ρ vs).set i (some (slOf (tvOf y))))) : HS (sCallT i vs n f gt) ρ N Rt Ct :=
  hs_nx (by rw [x_sCallT, callT_ok e hn h hl]) k
theorem hs_retT {n : Nat} {f : List Tv → FR} {gt : Rho → R (List Tv)} {ts : List Tv} {y : Sl} (e : gt ρ = .ok ts) (hn : ts.length = n) (h : f ts = .rt y) (hl : ∀ x, y ≠ .l x) (k : Rt (.t (tvOf y))) : HS (sRetT n f gt) ρ N Rt Ct :=
  hs_rt (by rw [x_sRetT, callT_ok e hn h hl]) k
theorem callH3 {f : List PD → FR} {ga gb gc : Rho → R PD} {a b c : PD} {x : Bool} (ha : ga ρ = .ok a) (hb : gb ρ = .ok b) (hc : gc ρ = .ok c) (h : f [a, b, c] = .rt (.d (.bool x))) : eCallH 3 f (aCons ga (aCons gb (aCons gc aNil))) ρ = .ok (.bool x) := by
  simp only [x_eCallH, x_aCons, x_aNil, ha, hb, hc, x_bind_ok]
  show (if 3 = 3 then (f [a, b, c]).toE.bind immO else R.bad) = _
  rw [if_pos rfl, h]
  rfl
theorem callH4 {f : List PD → FR} {ga gb gc gd : Rho → R PD} {a b c d : PD} {x : Bool} (ha : ga ρ = .ok a) (hb : gb ρ = .ok b) (hc : gc ρ = .ok c) (hd : gd ρ = .ok d) (h : f [a, b, c, d] = .rt (.d (.bool x))) : eCallH 4 f (aCons ga (aCons gb (aCons gc (aCons gd aNil)))) ρ = .ok (.bool x) := by
  simp only [x_eCallH, x_aCons, x_aNil, ha, hb, hc, hd, x_bind_ok]
  show (if 4 = 4 then (f [a, b, c, d]).toE.bind immO else R.bad) = _
  rw [if_pos rfl, h]
  rfl
theorem callH1 {f : List PD → FR} {ga : Rho → R PD} {a : PD} {x : Bool} (ha : ga ρ = .ok a) (h : f [a] = .rt (.d (.bool x))) : eCallH 1 f (aCons ga aNil) ρ = .ok (.bool x) := by
  simp only [x_eCallH, x_aCons, x_aNil, ha, x_bind_ok]
  show (if 1 = 1 then (f [a]).toE.bind immO else R.bad) = _
  rw [if_pos rfl, h]
  rfl
end
theorem run_eq {n : Nat} {s : Rho → SR} {ds : List PD} {y : Sl} (h : HS s (startD n ds) (fun _ => Sl.d .none = y) (fun x => x = y) (fun _ => False)) : runD n s ds = .rt y := by
  obtain ⟨x, e, rfl⟩ := hs_run (Q := fun x => x = y) h
  exact e
/-! ### a dict of pairs -/
theorem valD_map (k : Key) (d : PD) (k' : Key) : ∀ kvs : List (PD × PD), valD (kvs.map fun kv => if keyOf kv.1 = some k then (kv.1, d) else kv) k' = if k = k' ∧ (valD kvs k).isSome = true then some d else valD kvs k'
  | [] => by
    rw [List.map_nil, if_neg (fun h => by cases h.2)]
  | p :: r => by
    rw [List.map_cons]
    have ih := valD_map k d k' r
    unfold valD
    by_cases c : keyOf p.1 = some k
    · rw [if_pos c]
      by_cases c2 : k = k'
      · subst c2
        rw [if_pos c, if_pos c, if_pos ⟨rfl, rfl⟩]
      · rw [if_neg (fun q => c2 (Option.some.inj (c.symm.trans q))), ih, if_neg (fun h => c2 h.1), if_neg (fun h => c2 h.1), if_neg (fun q => c2 (Option.some.inj (c.symm.trans q)))]
    · rw [if_neg c]
      by_cases c2 : keyOf p.1 = some k'
      · rw [if_pos c2, if_neg c, if_neg (fun h => c (by rw [h.1]; exact c2)), if_pos c2]
      · rw [if_neg c2, ih, if_neg c, if_neg c2]
theorem valD_app (k k' : Key) (d : PD) : ∀ kvs : List (PD × PD), valD (kvs ++ [(keyD k, d)]) k' = match valD kvs k' with
    | some e => some e
    | none => if k = k' then some d else none
  | [] => by
    show valD [(keyD k, d)] k' = if k = k' then some d else none
    unfold valD
    rw [keyOf_keyD]
    by_cases c : k = k'
    · rw [if_pos (by rw [c]), if_pos c]
    · rw [if_neg (fun q => c (Option.some.inj q)), if_neg c]
      rfl
  | p :: r => by
    rw [List.cons_append]
    unfold valD
    by_cases c : keyOf p.1 = some k'
    · rw [if_pos c, if_pos c]
    · rw [if_neg c, if_neg c, valD_app k k' d r]
theorem valD_putD (kvs : List (PD × PD)) (k k' : Key) (d : PD) : valD (putD kvs k d) k' = if k = k' then some d else valD kvs k' := by
  unfold putD
  by_cases c : (valD kvs k).isSome = true
  · rw [if_pos c, valD_map]
    by_cases c2 : k = k'
    · rw [if_pos ⟨c2, c⟩, if_pos c2]
    · rw [if_neg (fun h => c2 h.1), if_neg c2]
  · rw [if_neg c, valD_app]
    have c : valD kvs k = none := by
      cases h : valD kvs k with
      | none => rfl
      | some _ => rw [h] at c; exact absurd rfl c
    by_cases c2 : k = k'
    · subst c2
      rw [c, if_pos rfl]
    · rw [if_neg c2, if_neg c2]
      cases valD kvs k' with
      | none => rfl
      | some _ => rfl
theorem dnot_o {i : Nat} {g : Rho → R PD} {ρ : Rho} {D : List (PD × PD)} {a : Str} (h : ρ[i]? = some (some (.t (.own (.dict D))))) (e : g ρ = .ok (.str a)) : ednotin i g ρ = .ok (.bool !(valD D (.inr a)).isSome) := by
  have ed : dAt ρ i = .ok D := by unfold dAt; rw [h]
  rw [x_ednotin, e, x_bind_ok, ed, x_bind_ok]
  rfl
theorem din_o {i : Nat} {g : Rho → R PD} {ρ : Rho} {D : List (PD × PD)} {a : Str} (h : ρ[i]? = some (some (.t (.own (.dict D))))) (e : g ρ = .ok (.str a)) : edin i g ρ = .ok (.bool (valD D (.inr a)).isSome) := by
  have ed : dAt ρ i = .ok D := by unfold dAt; rw [h]
  rw [x_edin, e, x_bind_ok, ed, x_bind_ok]
  rfl
/-- what a row of pairs tells of a word: the last one -/
def lkD : List (Str × Int) → Str → Option Int → Option Int
  | [], _, a => a
  | s :: r, w, a => lkD r w (if s.1 = w then some s.2 else a)
def lk (sz : List (Str × Int)) (w : Str) : Option Int := lkD sz w none
theorem valD_merge (w : Str) : ∀ (sz : List (Str × Int)) (kvs : List (PD × PD)) (a : Option Int), valD kvs (.inr w) = a.map PyData.int → valD (mergeD kvs (sz.map fun s => ((.inr s.1 : Key), PyData.int s.2))) (.inr w) = (lkD sz w a).map PyData.int
  | [], _, _, h => h
  | s :: r, kvs, a, h => by
    rw [List.map_cons]
    show valD (mergeD (putD kvs (.inr s.1) (.int s.2)) _) _ = _
    refine valD_merge w r _ _ ?_
    rw [valD_putD]
    by_cases c : s.1 = w
    · rw [if_pos (by rw [c]), if_pos c]
      rfl
    · rw [if_neg (fun q => c (by injection q)), if_neg c]
      exact h
theorem pairs_si : ∀ sz : List (Str × Int), pairsD (sz.map fun s => PyData.tuple [.str s.1, .int s.2]) = some (sz.map fun s => ((.inr s.1 : Key), PyData.int s.2))
  | [] => rfl
  | s :: sz => by
    rw [List.map_cons]
    show (match keyOf (.str s.1), pairsD (sz.map fun s => PyData.tuple [.str s.1, .int s.2]) with
      | some k, some l => some ((k, PyData.int s.2) :: l)
      | _, _ => none) = _
    rw [pairs_si sz]
    rfl
theorem dict_si (sz : List (Str × Int)) : ∃ D, dictD [.list (sz.map fun s => PyData.tuple [.str s.1, .int s.2])] = .ok (.dict D) ∧ ∀ w, valD D (.inr w) = (lk sz w).map PyData.int := by
  refine ⟨mergeD [] (sz.map fun s => ((.inr s.1 : Key), PyData.int s.2)), ?_, fun w => valD_merge w sz [] none rfl⟩
  unfold dictD
  simp only
  rw [pairs_si]
/-! ### what is in a list -/
theorem eqv_si (a b : Str × Int) : PyData.eqvAll [.str a.1, .int a.2] [.str b.1, .int b.2] = decide (a = b) := by
  simp only [PyData.eqvAll, PyData.eqv, Bool.and_true]
  rw [Bool.eq_iff_iff, Bool.and_eq_true, beq_iff_eq, beq_iff_eq, decide_eq_true_iff, Prod.ext_iff]
theorem eqv_sii (a b : Str × Int × Int) : PyData.eqvAll [.str a.1, .int a.2.1, .int a.2.2] [.str b.1, .int b.2.1, .int b.2.2] = decide (a = b) := by
  simp only [PyData.eqvAll, PyData.eqv, Bool.and_true]
  rw [Bool.eq_iff_iff, Bool.and_eq_true, Bool.and_eq_true, beq_iff_eq, beq_iff_eq, beq_iff_eq, decide_eq_true_iff, Prod.ext_iff, Prod.ext_iff]
theorem eqv_ints (l m : List Int) : PyData.eqvAll (l.map PyData.int) (m.map PyData.int) = decide (l = m) := by
  induction l generalizing m with
  | nil => cases m <;> simp [PyData.eqvAll]
  | cons x l ih =>
    cases m with
    | nil => simp [PyData.eqvAll]
    | cons y m =>
      simp only [List.map_cons, PyData.eqvAll, PyData.eqv, ih]
      rw [Bool.eq_iff_iff, Bool.and_eq_true, beq_iff_eq, decide_eq_true_iff, decide_eq_true_iff, List.cons.injEq]
theorem inB_ints (i : Int) (l : List Int) : inB (.int i) (.list (l.map PyData.int)) = .ok (decide (i ∈ l)) := by
  show (if flatP (.int i) = true ∧ (l.map PyData.int).all flatP = true then R.ok ((l.map PyData.int).any fun d => eqF d (.int i)) else _) = _
  rw [if_pos ⟨rfl, flat_ints l⟩, List.any_map]
  congr 1
  rw [Bool.eq_iff_iff, List.any_eq_true, decide_eq_true_iff]
  constructor
  · rintro ⟨x, hx, h⟩
    have h : (x == i) = true := h
    rw [beq_iff_eq] at h
    rw [← h]; exact hx
  · intro h
    exact ⟨i, h, by show (i == i) = true; exact beq_self_eq_true i⟩
theorem inB_t {n : Nat} {l ds : List PD} (a : Sh n (.tuple l)) (b : Sh n (.list ds)) (k : n ≤ 64) : inB (.tuple l) (.list ds) = .ok (ds.any fun z => PyData.eqv z (.tuple l)) := by
  show (if flatP (.tuple l) = true ∧ ds.all flatP = true then R.ok (ds.any fun d => eqF d (.tuple l)) else if SeqAt.shaped (.tuple l) = true ∧ SeqAt.shaped (.list ds) = true then R.ok (ds.any fun z => PyData.eqv z (.tuple l)) else R.bad) = _
  rw [if_neg (fun h => by cases h.1), if_pos ⟨a.ok k, b.ok k⟩]
section
variable {ρ : Rho} {N : Rho → Prop} {Rt : Sl → Prop} {Ct : Rho → Prop} {s : Rho → SR}
/-- .. with slots that change from turn to turn -/
theorem hs_everyJ {γ : Type} {gi : Rho → R (List PD)} {a : Rho → PD → R Rho} {is : List Nat} (f : γ → PD) (xs : List γ) (p : γ → Bool) (J : Rho → Prop) (h0 : J ρ) (e : gi ρ = .ok (xs.map f))
    (hs : ∀ (i : Nat) (x : γ) (ρ' : Rho), xs[i]? = some x → J ρ' → ∃ ρ1, a ρ' (f x) = .ok ρ1 ∧ HS s ρ1 (fun ρ2 => J (is.foldl (fun ρ i => ρ.set i none) ρ2) ∧ p x = true) (fun y => y = .d (.bool false) ∧ p x = false) (fun _ => False))
    (hN : ∀ ρ', J ρ' → xs.all p = true → N ρ') (hR : xs.all p = false → Rt (.d (.bool false))) : HS (sFor gi a (killS is s)) ρ N Rt Ct := by
  refine hs_forL f xs e (fun i ρ' => J ρ' ∧ ∀ x ∈ xs.take i, p x = true) ⟨h0, fun x h => by rw [List.take_zero] at h; cases h⟩ (fun i x ρ' hx hI => ?_) fun ρ' hI => ?_
  · obtain ⟨hJ, hI⟩ := hI
    obtain ⟨ρ1, e1, h1⟩ := hs i x ρ' hx hJ
    refine ⟨ρ1, e1, hs_mono h1 (fun ρ2 h => ⟨h.1, fun y hy => ?_⟩) (fun y h => ?_) fun _ h => h.elim⟩
    · rw [List.take_succ, hx] at hy
      rcases List.mem_append.mp hy with q | q
      · exact hI y q
      · rw [List.mem_singleton.mp q]; exact h.2
    · rw [h.1]
      refine hR ?_
      rw [List.all_eq_false]
      exact ⟨x, List.mem_of_getElem? hx, by rw [h.2]; decide⟩
  · obtain ⟨hJ, hI⟩ := hI
    rw [List.take_length] at hI
    exact hN ρ' hJ (List.all_eq_true.mpr hI)
/-- a while, by what is counted down -/
theorem hs_while {g : Rho → R Bool} {is : List Nat} {fuel : Nat} (I : Nat → Rho → Prop) (k : Nat) (hk : k < fuel) (h0 : I k ρ)
    (hs : ∀ (j : Nat) (ρ' : Rho), I j ρ' → ∃ c, g ρ' = .ok c ∧ (c = false → N ρ') ∧ (c = true → HS s ρ' (fun ρ2 => ∃ j', j' < j ∧ I j' (is.foldl (fun ρ i => ρ.set i none) ρ2)) Rt (fun ρ2 => ∃ j', j' < j ∧ I j' (is.foldl (fun ρ i => ρ.set i none) ρ2)))) : HS (sWhile fuel g (killS is s)) ρ N Rt Ct := by
  have go : ∀ (n k : Nat) (ρ : Rho), k < n → I k ρ → HSm (fun ρ => whileD g (killS is s) n ρ) ρ N Rt Ct := by
    intro n
    induction n with
    | zero => exact fun k ρ h _ => absurd h (Nat.not_lt_zero _)
    | succ n ih =>
      intro k ρ hk hI
      obtain ⟨c, ec, h1, h2⟩ := hs k ρ hI
      unfold HSm
      show (match whileD g (killS is s) (n + 1) ρ with
        | .nx ρ' => N ρ'
        | .rt x => Rt x
        | .ct ρ' => Ct ρ'
        | _ => False)
      unfold whileD
      rw [ec, x_of_ok]
      cases c with
      | false => rw [if_neg (by decide)]; exact h1 rfl
      | true =>
        rw [if_pos rfl, x_killS]
        have h2 := (h2 rfl).out
        unfold HSm at h2
        cases e2 : s ρ with
        | nx ρ2 =>
          rw [e2] at h2
          obtain ⟨j', hj, hI'⟩ := h2
          exact ih j' _ (by omega) hI'
        | rt x => rw [e2] at h2; exact h2
        | ct ρ2 =>
          rw [e2] at h2
          obtain ⟨j', hj, hI'⟩ := h2
          exact ih j' _ (by omega) hI'
        | bk ρ2 => rw [e2] at h2; exact h2.elim
        | exc c => rw [e2] at h2; exact h2.elim
        | bad => rw [e2] at h2; exact h2.elim
  exact ⟨go fuel k ρ hk h0⟩
theorem hs_aug {i : Nat} {f : PD → PD → R PD} {g : Rho → R PD} {a b z : PD} (h : ρ[i]? = some (some (.d a))) (e : g ρ = .ok b) (e2 : f a b = .ok z) (k : N (ρ.set i (some (.d z)))) : HS (sAug i f g) ρ N Rt Ct := by
  refine hs_nx (ρ' := ρ.set i (some (.d z))) ?_ k
  unfold sAug eVar
  rw [h]
  show SR.of (R.ok a) _ = _
  rw [x_of_ok, e, x_of_ok, e2, x_of_ok]
end
theorem lenSet_ok {g : Rho → R PD} {ρ : Rho} {l : List Int} (e : g ρ = .ok (.list (l.map PyData.int))) (h : l.Nodup) (hl : l.length ≤ 4000) : eLenSet g ρ = .ok (.int l.length) := by
  unfold eLenSet
  rw [e, x_bind_ok]
  unfold lenSetD
  dsimp only
  rw [intsOf_map]
  dsimp only
  rw [if_pos ⟨h, hl⟩]
end DL
/-! The plain side, more: keys of dicts that are told once; what is sorted. -/
namespace DL
open PySem L2
theorem putT_keys (kvs : List (List Key × PD)) (k : List Key) (d : PD) : (k ∈ kvs.map (·.1) ∧ (putT kvs k d).map (·.1) = kvs.map (·.1)) ∨ (k ∉ kvs.map (·.1) ∧ (putT kvs k d).map (·.1) = kvs.map (·.1) ++ [k]) := by
  unfold putT
  split
  · rename_i c
    have cm : k ∈ kvs.map (·.1) := by
      rcases Classical.em (k ∈ kvs.map (·.1)) with h | h
      · exact h
      · exfalso
        have : ∀ l : List (List Key × PD), k ∉ l.map (·.1) → valT l k = none := by
          intro l
          induction l with
          | nil => exact fun _ => rfl
          | cons p l ih =>
            intro h
            rw [List.map_cons, List.mem_cons, not_or] at h
            unfold valT
            rw [if_neg (fun q => h.1 q.symm)]
            exact ih h.2
        rw [this kvs h] at c
        cases c
    refine .inl ⟨cm, ?_⟩
    rw [List.map_map]
    refine List.map_congr_left fun p _ => ?_
    show (if p.1 = k then (p.1, d) else p).1 = p.1
    split <;> rfl
  · rename_i c
    refine .inr ⟨fun h => c (by obtain ⟨d, hd, _⟩ := valT_mem h; rw [hd]; rfl), ?_⟩
    rw [List.map_append]
    rfl
theorem putT_nd {kvs : List (List Key × PD)} {k : List Key} {d : PD} (h : (kvs.map (·.1)).Nodup) : ((putT kvs k d).map (·.1)).Nodup := by
  rcases putT_keys kvs k d with ⟨_, e⟩ | ⟨c, e⟩
  · rw [e]; exact h
  · rw [e]
    refine List.nodup_append.mpr ⟨h, by simp, fun a ha b hb e => c ?_⟩
    rw [List.mem_singleton.mp hb] at e
    rw [← e]
    exact ha
theorem sortK_perm {l m : List (List Key)} (p : l.Perm m) : sortK l = sortK m := sortK_of (isort_srt (swo_keys fun a => a) l) ((isort_perm _ l).trans p)
theorem sortK_idem (l : List (List Key)) : sortK (sortK l) = sortK l := sortK_perm (isort_perm _ l)
theorem sortK_p (l : List (List Key)) : (sortK l).Perm l := isort_perm _ l
/-- sorted(dict with tuple keys), exactly -/
theorem sortT_perm {β : Type} {i : Nat} {ρ : Rho} {kvs : List (List Key × PD)} (h : ρ[i]? = some (some (.t (.dT kvs)))) (f : β → List Key) (hk : ∀ p ∈ kvs, ∃ y, p.1 = f y) (hlk : ∀ a b, likeK (f a) (f b) = true) (hne : ∀ a, f a ≠ []) : ∃ ys : List β, oSortT i ρ = .ok (.list (ys.map fun y => keyP (f y))) ∧ ys.map f = sortK (kvs.map (·.1)) ∧ (ys.map f).Perm (kvs.map (·.1)) := by
  have et : tAt ρ i = .ok kvs := by unfold tAt; rw [h]
  have hl : likeAll (kvs.map (·.1)) = true := by
    unfold likeAll
    rw [List.all_eq_true]
    intro a ha
    obtain ⟨p, hp, rfl⟩ := List.mem_map.mp ha
    obtain ⟨y, e⟩ := hk p hp
    rw [Bool.and_eq_true, List.all_eq_true]
    refine ⟨?_, fun b hb => ?_⟩
    · rw [e]
      cases c : f y with
      | nil => exact absurd c (hne y)
      | cons _ _ => rfl
    · obtain ⟨p2, hp2, rfl⟩ := List.mem_map.mp hb
      obtain ⟨y2, e2⟩ := hk p2 hp2
      rw [e, e2]
      exact hlk y y2
  have pm := sortK_p (kvs.map (·.1))
  obtain ⟨ys, e, _⟩ := lift_list (f := f) (P := fun _ => True) (l := sortK (kvs.map (·.1))) fun x hx => by
    obtain ⟨p, hp, rfl⟩ := List.mem_map.mp (pm.mem_iff.mp hx)
    obtain ⟨y, e⟩ := hk p hp
    exact ⟨y, e, trivial⟩
  refine ⟨ys, ?_, e.symm, by rw [← e]; exact pm⟩
  rw [x_sortT, et, x_bind_ok, if_pos hl, e, List.map_map]
  rfl
theorem valT_nd {kvs : List (List Key × PD)} (nd : (kvs.map (·.1)).Nodup) {p : List Key × PD} (h : p ∈ kvs) : valT kvs p.1 = some p.2 := by
  induction kvs with
  | nil => cases h
  | cons q r ih =>
    rw [List.map_cons, List.nodup_cons] at nd
    unfold valT
    rcases List.mem_cons.mp h with e | h
    · rw [e]; exact if_pos rfl
    · rw [if_neg (fun e => nd.1 (by rw [e]; exact List.mem_map_of_mem h))]
      exact ih nd.2 h
theorem inT_ints (i : Int) (l : List Int) : inB (.int i) (.tuple (l.map PyData.int)) = .ok (decide (i ∈ l)) := by
  show (if flatP (.int i) = true ∧ (l.map PyData.int).all flatP = true then R.ok ((l.map PyData.int).any fun d => eqF d (.int i)) else _) = _
  rw [if_pos ⟨rfl, flat_ints l⟩, List.any_map]
  congr 1
  rw [Bool.eq_iff_iff, List.any_eq_true, decide_eq_true_iff]
  constructor
  · rintro ⟨x, hx, h⟩
    have h : (x == i) = true := h
    rw [beq_iff_eq] at h
    rw [← h]; exact hx
  · intro h
    exact ⟨i, h, by show (i == i) = true; exact beq_self_eq_true i⟩
theorem cut_last {γ : Type} (l : List γ) (f : γ → PD) : cutD (l.map f) none (some (-1)) = l.dropLast.map f := by
  unfold cutD
  rw [show HT.sIx (l.map f).length 0 none = 0 from rfl, List.drop_zero, Nat.sub_zero, List.dropLast_eq_take, ← List.map_take, List.map_take, List.map_take]
  congr 1
  unfold HT.sIx
  rw [List.length_map]
  dsimp only
  split <;> omega
theorem likeAll_map {β : Type} (f : β → List Key) (hlk : ∀ a b, likeK (f a) (f b) = true) (hne : ∀ a, f a ≠ []) (xs : List β) : likeAll (xs.map f) = true := by
  unfold likeAll
  rw [List.all_eq_true]
  intro a ha
  obtain ⟨p, hp, rfl⟩ := List.mem_map.mp ha
  rw [Bool.and_eq_true, List.all_eq_true]
  refine ⟨?_, fun b hb => ?_⟩
  · cases c : f p with
    | nil => exact absurd c (hne p)
    | cons _ _ => rfl
  · obtain ⟨p2, hp2, rfl⟩ := List.mem_map.mp hb
    exact hlk p p2
theorem onceK_len : ∀ ks : List (List Key), (onceK ks).length ≤ ks.length
  | [] => Nat.le_refl _
  | k :: ks => by
    rcases Classical.em (k ∈ ks) with h | h
    · rw [onceK_in h, List.length_cons]
      have := onceK_len ks
      omega
    · rw [onceK_out h, List.length_cons, List.length_cons]
      have := onceK_len ks
      omega
/-- sorted(set(l)) of tuples of one form -/
theorem sortSet_ok {β : Type} (f : β → List Key) (hlk : ∀ a b, likeK (f a) (f b) = true) (hne : ∀ a, f a ≠ []) (inj : ∀ a b, f a = f b → a = b) (xs : List β) (hl : xs.length < 64) : ∃ ys : List β, sortSetD [.list (xs.map fun y => keyP (f y))] = .ok (.list (ys.map fun y => keyP (f y))) ∧ ys.map f = sortK (onceK (xs.map f)) ∧ ys.length ≤ xs.length ∧ (∀ y, y ∈ ys ↔ y ∈ xs) := by
  have pm := sortK_p (onceK (xs.map f))
  obtain ⟨ys, e, _⟩ := lift_list (f := f) (P := fun _ => True) (l := sortK (onceK (xs.map f))) fun x hx => by
    obtain ⟨p, hp, rfl⟩ := List.mem_map.mp (onceK_mem.mp (pm.mem_iff.mp hx))
    exact ⟨p, rfl, trivial⟩
  refine ⟨ys, ?_, e.symm, ?_, fun y => ?_⟩
  · show (match allKeys (xs.map fun y => keyP (f y)) with
      | some ks => if likeAll ks = true ∧ ks.length < 64 then R.ok (PyData.list ((sortK (onceK ks)).map keyP)) else .bad
      | none => R.bad) = _
    rw [show (xs.map fun y => keyP (f y)) = (xs.map f).map keyP by rw [List.map_map]; rfl, allKeys_map]
    dsimp only
    rw [if_pos ⟨likeAll_map f hlk hne xs, by rw [List.length_map]; exact hl⟩, e, List.map_map]
    rfl
  · have := pm.length_eq
    rw [e, List.length_map] at this
    have h2 := onceK_len (xs.map f)
    rw [List.length_map] at h2
    omega
  · have hm : ∀ y, f y ∈ ys.map f ↔ f y ∈ xs.map f := fun y => by rw [← e, pm.mem_iff, onceK_mem]
    have io : ∀ (l : List β) (y : β), f y ∈ l.map f ↔ y ∈ l := fun l y => ⟨fun h => by
      obtain ⟨z, hz, e⟩ := List.mem_map.mp h
      rw [← inj _ _ e]; exact hz, fun h => List.mem_map_of_mem h⟩
    rw [← io ys, ← io xs, hm]
end DL
namespace K03
open PySem PySem.Spec PyProof.Rows L2 DL
noncomputable section
def kw_KEPT : List Str := [PySem.Str.ofString "a", PySem.Str.ofString "an", PySem.Str.ofString "the", PySem.Str.ofString "said", PySem.Str.ofString "claim", PySem.Str.ofString "on", PySem.Str.ofString "or", PySem.Str.ofString "then", PySem.Str.ofString "from", PySem.Str.ofString "to", PySem.Str.ofString "of", PySem.Str.ofString "at", PySem.Str.ofString "least", PySem.Str.ofString "most", PySem.Str.ofString "just", PySem.Str.ofString "is"]
def tm_ClaimError : List (Str × Bool) := [("BadRow", true), ("Twice", true), ("NoKind", true), ("TooBig", true)]
def ti_BadRow : List (Str × Bool) := [("BadRow", true), ("Twice", false), ("NoKind", false), ("TooBig", false)]
def ti_NoChange_NoClaim_NoFit_NoGround_NoPart_NoRange_NotOwn_NotUnder_TooMany_TwoGrounds : List (Str × Bool) := [("BadRow", false), ("Twice", false), ("NoKind", false), ("TooBig", false)]
def ti_NoKind : List (Str × Bool) := [("BadRow", false), ("Twice", false), ("NoKind", true), ("TooBig", false)]
def ti_TooBig : List (Str × Bool) := [("BadRow", false), ("Twice", false), ("NoKind", false), ("TooBig", true)]
def ti_Twice : List (Str × Bool) := [("BadRow", false), ("Twice", true), ("NoKind", false), ("TooBig", false)]
def ti_ValueError : List (Str × Bool) := [("BadRow", true), ("Twice", true), ("NoKind", true), ("TooBig", true)]
def xf_claim : List Str := ["NoKind", "TooBig"]
def xf_row : List Str := ["BadRow", "Twice", "NoKind", "TooBig"]
def S_signs_among : Rho → SR :=
  (sSeq (preK [2] (sFor (iItems (eVar 0)) (aName 2) (killS [2] (sIf (bOf (eOp ninD (rVar 2) (rVar 1))) (sRet (eC (.bool false))) sNext)))) (sRet (eC (.bool true))))
def d_signs_among : List PD → FR := runD 3 S_signs_among
def S_is_word : Rho → SR :=
  (sSeq (sIf (bOr (bNot (bOf (eChain leD leD (eC (.int 1)) (eCB lenD (aCons (rVar 0) aNil)) (eC (.int 8))))) (bOf (eInK kw_KEPT (rVar 0)))) (sRet (eC (.bool false))) sNext) (sRet (eCall 2 d_signs_among (aCons (eVar 0) (aCons (eC (.str (PySem.Str.ofString "abcdefghijklmnopqrstuvwxyz"))) aNil)))))
def d_is_word : List PD → FR := runD 1 S_is_word
def S_word_rows : Rho → SR :=
  (sSeq (sSetO 1 (oLst aNil)) (sSeq (preK [2, 3, 4] (sFor (iEnumD (aCons (eFz (eM1 splitD (rVar 0) (eC (.str (PySem.Str.ofString "\n"))))) aNil)) (aTup 2 (asCons (aName 2) (asCons (aName 3) asNil))) (killS [2, 3, 4] (sSeq (sSet 4 (eFz (eM0 wordsD (rVar 3)))) (sIf (bOf (eOp neD (rVar 4) (eFz (oLst aNil)))) (sAppend 1 (eTup (aCons (eVar 2) (aCons (eVar 4) aNil)))) sNext))))) (sRetV 1)))
def d_word_rows : List PD → FR := runD 5 S_word_rows
def S_kind_written : Rho → SR :=
  (sSeq (sIf (bAnd (bOf (eOp eqD (eCB lenD (aCons (rVar 0) aNil)) (eC (.int 2)))) (bAnd (bOf (eOp eqD (eOp ixD (rVar 0) (eC (.int 0))) (eC (.str (PySem.Str.ofString "kind"))))) (bOf (eCall 1 d_is_word (aCons (eOp ixD (rVar 0) (eC (.int 1))) aNil))))) (sRet (eTup (aCons (eOp ixD (rVar 0) (eC (.int 1))) (aCons (eC (.str (PySem.Str.ofString ""))) aNil)))) sNext) (sSeq (sIf (bOr (bOf (eOp neD (eCB lenD (aCons (rVar 0) aNil)) (eC (.int 4)))) (bOr (bOf (eOp neD (eOp ixD (rVar 0) (eC (.int 0))) (eC (.str (PySem.Str.ofString "kind"))))) (bOf (eOp neD (eOp ixD (rVar 0) (eC (.int 2))) (eC (.str (PySem.Str.ofString "of"))))))) (sRet (eC .none)) sNext) (sSeq (sIf (bOr (bNot (bOf (eCall 1 d_is_word (aCons (eOp ixD (rVar 0) (eC (.int 1))) aNil)))) (bNot (bOf (eCall 1 d_is_word (aCons (eOp ixD (rVar 0) (eC (.int 3))) aNil))))) (sRet (eC .none)) sNext) (sRet (eTup (aCons (eOp ixD (rVar 0) (eC (.int 1))) (aCons (eOp ixD (rVar 0) (eC (.int 3))) aNil)))))))
def d_kind_written : List PD → FR := runD 1 S_kind_written
def S_read_kinds : Rho → SR :=
  (sSeq (sSetO 1 (oLst aNil)) (sSeq (preK [2, 3, 4, 5] (sFor (iItems (eCall 1 d_word_rows (aCons (eVar 0) aNil))) (aTup 2 (asCons (aName 2) (asCons (aName 3) asNil))) (killS [2, 3, 4, 5] (sSeq (sSet 4 (eCall 1 d_kind_written (aCons (eVar 3) aNil))) (sSeq (sIf (bOf (eOp isND (rVar 4) (eC .none))) (sRaise "BadRow" ["row"] (aCons (eVar 2) aNil)) sNext) (sSeq (sSet 5 (eFz (oUnf 1 (oLc (iItems (eVar 1)) (aTup 2 (asCons (aName 6) (asCons (aName 7) asNil))) gYes (eVar 6) [6, 7])))) (sSeq (sIf (bOf (eOp inD (eOp ixD (rVar 4) (eC (.int 0))) (rVar 5))) (sRaise "Twice" ["row"] (aCons (eVar 2) aNil)) sNext) (sSeq (sIf (bAnd (bOf (eOp neD (eOp ixD (rVar 4) (eC (.int 1))) (eC (.str (PySem.Str.ofString ""))))) (bOf (eOp ninD (eOp ixD (rVar 4) (eC (.int 1))) (rVar 5)))) (sRaise "NoKind" ["claim", "row"] (aCons (eC (.int 0)) (aCons (eVar 2) aNil))) sNext) (sSeq (sIf (bOf (eOp eqD (eCB lenD (aCons (rVar 1) aNil)) (eC (.int 12)))) (sRaise "TooBig" ["claim", "row"] (aCons (eC (.int 0)) (aCons (eVar 2) aNil))) sNext) (sAppend 1 (eVar 4))))))))))) (sRetV 1)))
def d_read_kinds : List PD → FR := runD 8 S_read_kinds
def S_law_mix : Rho → SR :=
  (sRet (eOp modD (eOp mulD (eOp addD (eOp addD (rVar 0) (eOp mulD (rVar 1) (rVar 1))) (eC (.int 1))) (rVar 2)) (eC (.int 2305843009213693951))))
def d_law_mix : List PD → FR := runD 3 S_law_mix
def S_law_salt : Rho → SR :=
  (sRet (eCall 3 d_law_mix (aCons (eCB sumD (aCons (eFz (oLc (iItems (eSl (rVar 0) pNo (pSo (eC (.int 63))))) (aName 2) gYes (eOp modD (rVar 2) (eC (.int 1000003))) [2])) aNil)) (aCons (eOp modD (eCB lenD (aCons (rVar 0) aNil)) (eC (.int 64))) (aCons (eVar 1) aNil)))))
def d_law_salt : List PD → FR := runD 3 S_law_salt
def S_law_name : Rho → SR :=
  (sSeq (sSet 2 (eC (.str (PySem.Str.ofString "bcdefghijklmnopqrstuvwxyz")))) (sSeq (sSet 3 (eOp ixD (rVar 2) (eOp modD (eOp addD (eOp mulD (eC (.int 7)) (rVar 0)) (eOp divD (rVar 1) (eC (.int 7)))) (eC (.int 25))))) (sSeq (sIf (bOf (eOp eqD (eOp modD (rVar 1) (eC (.int 5))) (eC (.int 0)))) (sRetV 3) sNext) (sSeq (sIf (bAnd (bOf (eOp eqD (eOp modD (rVar 1) (eC (.int 5))) (eC (.int 1)))) (bOf (eOp ltD (rVar 0) (eC (.int 8))))) (sRet (eOp mulD (eOp ixD (rVar 2) (eOp modD (eOp divD (rVar 1) (eC (.int 5))) (eC (.int 7)))) (eOp addD (eC (.int 1)) (eOp modD (eOp addD (eOp mulD (eC (.int 3)) (rVar 0)) (eOp divD (rVar 1) (eC (.int 35)))) (eC (.int 8)))))) sNext) (sSeq (sSet 4 (eOp addD (eC (.int 2)) (eOp modD (eOp divD (rVar 1) (eC (.int 5))) (eC (.int 7))))) (sSeq (sSet 5 (eOp modD (eOp divD (rVar 1) (eC (.int 35))) (eOp subD (rVar 4) (eC (.int 1))))) (sSeq (sSet 6 (eOp mulD (eOp ixD (rVar 2) (eOp modD (eOp divD (rVar 1) (eC (.int 245))) (eC (.int 25)))) (rVar 5))) (sRet (eOp addD (eOp addD (eOp addD (rVar 6) (rVar 3)) (eC (.str (PySem.Str.ofString "q")))) (eOp mulD (eOp ixD (rVar 2) (eOp modD (eOp divD (rVar 1) (eC (.int 6125))) (eC (.int 25)))) (eOp subD (eOp subD (rVar 4) (rVar 5)) (eC (.int 2)))))))))))))
def d_law_name : List PD → FR := runD 7 S_law_name
def S_law_kinds : Rho → SR :=
  (sSeq (sSetO 2 (oLst aNil)) (sSeq (preK [3, 4, 5] (sFor (iRng1D (aCons (eCB lenD (aCons (rVar 0) aNil)) aNil)) (aName 3) (killS [3, 4, 5] (sSeq (sSet 4 (eCall 3 d_law_mix (aCons (eOp ixD (rVar 0) (rVar 3)) (aCons (eVar 3) (aCons (eC (.int 1234567890123456789)) aNil))))) (sSeq (sSet 5 (eC (.str (PySem.Str.ofString "")))) (sSeq (sIf (bAnd (bOf (eOp gtD (rVar 3) (eC (.int 0)))) (bOf (eOp gtD (eOp modD (rVar 4) (eC (.int 4))) (eC (.int 0))))) (sSet 5 (eOp ixD (eOp ixD (rVar 2) (eOp modD (eOp divD (rVar 4) (eC (.int 4))) (rVar 3))) (eC (.int 0)))) sNext) (sAppend 2 (eTup (aCons (eCall 2 d_law_name (aCons (eVar 3) (aCons (eVar 1) aNil))) (aCons (eVar 5) aNil)))))))))) (sRetV 2)))
def d_law_kinds : List PD → FR := runD 6 S_law_kinds
def S_law_text : Rho → SR :=
  (sSeq (sSetO 2 (oLst aNil)) (sSeq (preK [3, 4, 5, 6] (sFor (iRng1D (aCons (eCB lenD (aCons (rVar 0) aNil)) aNil)) (aName 3) (killS [3, 4, 5, 6] (sSeq (sSet 4 (eCall 3 d_law_mix (aCons (eVar 1) (aCons (eVar 3) (aCons (eC (.int 1313131313131313131)) aNil))))) (sSeq (sSet 5 (eOp mulD (eC (.str (PySem.Str.ofString " "))) (eOp modD (rVar 4) (eC (.int 3))))) (sSeq (preK [6] (sFor (iItems (eOp ixD (rVar 0) (rVar 3))) (aName 6) (killS [6] (sSeq (sSet 5 (eOp addD (eOp addD (rVar 5) (rVar 6)) (eOp mulD (eC (.str (PySem.Str.ofString " "))) (eOp addD (eC (.int 1)) (eOp modD (eOp divD (rVar 4) (eC (.int 3))) (eC (.int 2))))))) (sSet 4 (eOp divD (rVar 4) (eC (.int 2)))))))) (sSeq (sAppend 2 (eVar 5)) (sIf (bOf (eOp eqD (eOp modD (rVar 4) (eC (.int 5))) (eC (.int 1)))) (sAppend 2 (eOp mulD (eC (.str (PySem.Str.ofString " "))) (eOp modD (eOp divD (rVar 4) (eC (.int 5))) (eC (.int 2))))) sNext)))))))) (sSeq (sIf (bOf (eOp eqD (eOp modD (eOp divD (rVar 1) (eC (.int 3))) (eC (.int 4))) (eC (.int 1)))) (sInsertD 2 (eC (.int 0)) (eC (.str (PySem.Str.ofString "")))) sNext) (sRet (eM1 joinD (eC (.str (PySem.Str.ofString "\n"))) (rVar 2))))))
def d_law_text : List PD → FR := runD 7 S_law_text
def S_law_whole : Rho → SR :=
  (sRet (eAnd (eIsi "int" (rVar 0)) (eNot (eIsi "bool" (rVar 0)))))
def d_law_whole : List PD → FR := runD 1 S_law_whole
def S_law_odd_row : Rho → SR :=
  (sSeq (sSet 3 (eOp ixD (eFz (oLst (aCons (eC (.str (PySem.Str.ofString "the"))) (aCons (eOp addD (eC (.str (PySem.Str.ofString "toolongwd"))) (eC (.str (PySem.Str.ofString "s")))) (aCons (eC (.str (PySem.Str.ofString "r2"))) (aCons (eC (.str (PySem.Str.ofString "Rod"))) (aCons (eC (.str (PySem.Str.ofString "said"))) (aCons (eC (.str (PySem.Str.ofString "a-b"))) aNil)))))))) (eOp modD (eOp divD (rVar 0) (eC (.int 8))) (eC (.int 6))))) (sSeq (sSet 4 (eOp modD (rVar 0) (eC (.int 8)))) (sSeq (sIf (bOf (eOp eqD (rVar 4) (eC (.int 0)))) (sRetO (oLst (aCons (eC (.str (PySem.Str.ofString "kind"))) aNil))) sNext) (sSeq (sIf (bOf (eOp eqD (rVar 4) (eC (.int 1)))) (sRetO (oLst (aCons (eC (.str (PySem.Str.ofString "kind"))) (aCons (eVar 2) (aCons (eC (.str (PySem.Str.ofString "of"))) aNil))))) sNext) (sSeq (sIf (bOf (eOp eqD (rVar 4) (eC (.int 2)))) (sRetO (oLst (aCons (eC (.str (PySem.Str.ofString "kind"))) (aCons (eVar 2) (aCons (eC (.str (PySem.Str.ofString "of"))) (aCons (eVar 1) (aCons (eVar 1) aNil))))))) sNext) (sSeq (sIf (bOf (eOp eqD (rVar 4) (eC (.int 3)))) (sRetO (oLst (aCons (eC (.str (PySem.Str.ofString "kind"))) (aCons (eVar 3) aNil)))) sNext) (sSeq (sIf (bOf (eOp eqD (rVar 4) (eC (.int 4)))) (sRetO (oLst (aCons (eC (.str (PySem.Str.ofString "kind"))) (aCons (eVar 2) (aCons (eC (.str (PySem.Str.ofString "of"))) (aCons (eVar 3) aNil)))))) sNext) (sSeq (sIf (bOf (eOp eqD (rVar 4) (eC (.int 5)))) (sRetO (oLst (aCons (eC (.str (PySem.Str.ofString "kind"))) (aCons (eVar 3) (aCons (eC (.str (PySem.Str.ofString "of"))) (aCons (eVar 1) aNil)))))) sNext) (sSeq (sIf (bOf (eOp eqD (rVar 4) (eC (.int 6)))) (sRetO (oLst (aCons (eC (.str (PySem.Str.ofString "kinds"))) (aCons (eVar 2) aNil)))) sNext) (sRetO (oLst (aCons (eC (.str (PySem.Str.ofString "kind"))) (aCons (eVar 2) (aCons (eC (.str (PySem.Str.ofString "on"))) (aCons (eVar 1) aNil)))))))))))))))
def d_law_odd_row : List PD → FR := runD 5 S_law_odd_row
def S_law_faulty : Rho → SR :=
  (sSeq (sSet 3 (eCall 2 d_law_name (aCons (eC (.int 13)) (aCons (eVar 2) aNil)))) (sSeq (sIf (bOf (eOp gtD (eCB lenD (aCons (rVar 1) aNil)) (eC (.int 0)))) (sSet 3 (eOp ixD (eOp ixD (rVar 1) (eOp modD (eOp divD (rVar 0) (eC (.int 4))) (eCB lenD (aCons (rVar 1) aNil)))) (eC (.int 0)))) sNext) (sSeq (sSet 4 (eCall 2 d_law_name (aCons (eC (.int 14)) (aCons (eVar 2) aNil)))) (sSeq (sIf (bOf (eOp eqD (eOp modD (rVar 0) (eC (.int 4))) (eC (.int 0)))) (sRet (eCall 3 d_law_odd_row (aCons (eOp divD (rVar 0) (eC (.int 100))) (aCons (eVar 3) (aCons (eVar 4) aNil))))) sNext) (sSeq (sSet 5 (eVar 4)) (sSeq (sIf (bOf (eOp eqD (eOp modD (rVar 0) (eC (.int 4))) (eC (.int 1)))) (sSet 5 (eVar 3)) sNext) (sSeq (sIf (bOf (eOp eqD (eOp modD (eOp divD (rVar 0) (eC (.int 100))) (eC (.int 3))) (eC (.int 0)))) (sRetO (oLst (aCons (eC (.str (PySem.Str.ofString "kind"))) (aCons (eVar 5) aNil)))) sNext) (sRetO (oLst (aCons (eC (.str (PySem.Str.ofString "kind"))) (aCons (eVar 5) (aCons (eC (.str (PySem.Str.ofString "of"))) (aCons (eOp ixD (eFz (oLst (aCons (eVar 3) (aCons (eCall 2 d_law_name (aCons (eC (.int 15)) (aCons (eVar 2) aNil))) aNil)))) (eOp modD (eOp divD (rVar 0) (eC (.int 300))) (eC (.int 2)))) aNil)))))))))))))
def d_law_faulty : List PD → FR := runD 6 S_law_faulty
def S_law_due : Rho → SR :=
  (sSeq (sSet 2 (eFz (oLc (iItems (eVar 1)) (aTup 2 (asCons (aName 3) (asCons (aName 4) asNil))) gYes (eVar 3) [3, 4]))) (sSeq (sIf (bOr (bOf (eOp neD (eOp ixD (rVar 0) (eC (.int 0))) (eC (.str (PySem.Str.ofString "kind"))))) (bOr (bOf (eOp ninD (eCB lenD (aCons (rVar 0) aNil)) (eTup (aCons (eC (.int 2)) (aCons (eC (.int 4)) aNil))))) (bAnd (bOf (eOp eqD (eCB lenD (aCons (rVar 0) aNil)) (eC (.int 4)))) (bOf (eOp neD (eOp ixD (rVar 0) (eC (.int 2))) (eC (.str (PySem.Str.ofString "of")))))))) (sRet (eC (.str (PySem.Str.ofString "BadRow")))) sNext) (sSeq (preK [3] (sFor (iItems (eFz (oSl3 (rVar 0) (pSo (eC (.int 1))) pNo (pSo (eC (.int 2)))))) (aName 3) (killS [3] (sIf (bOf (eOp inD (rVar 3) (eTup (aCons (eC (.str (PySem.Str.ofString "the"))) (aCons (eC (.str (PySem.Str.ofString "toolongwds"))) (aCons (eC (.str (PySem.Str.ofString "r2"))) (aCons (eC (.str (PySem.Str.ofString "Rod"))) (aCons (eC (.str (PySem.Str.ofString "said"))) (aCons (eC (.str (PySem.Str.ofString "a-b"))) aNil))))))))) (sRet (eC (.str (PySem.Str.ofString "BadRow")))) sNext)))) (sSeq (sIf (bOf (eOp inD (eOp ixD (rVar 0) (eC (.int 1))) (rVar 2))) (sRet (eC (.str (PySem.Str.ofString "Twice")))) sNext) (sSeq (sIf (bAnd (bOf (eOp eqD (eCB lenD (aCons (rVar 0) aNil)) (eC (.int 4)))) (bOf (eOp ninD (eOp ixD (rVar 0) (eC (.int 3))) (rVar 2)))) (sRet (eC (.str (PySem.Str.ofString "NoKind")))) sNext) (sSeq (sIf (bOf (eOp eqD (eCB lenD (aCons (rVar 1) aNil)) (eC (.int 12)))) (sRet (eC (.str (PySem.Str.ofString "TooBig")))) sNext) (sRet (eC .none))))))))
def d_law_due : List PD → FR := runD 5 S_law_due
def S_law_told : Rho → SR :=
  (sSeq (sSet 1 (eC .none)) (sSeq (sTryE 2 (cxOfT tm_ClaimError) (sDrop (eCall 1 d_read_kinds (aCons (eVar 0) aNil))) (sSet 1 (eVar 2))) (sRetV 1)))
def d_law_told : List PD → FR := runD 3 S_law_told
def S_law_right : Rho → SR :=
  (sSeq (sSet 3 (eFz (oLst (aCons (eIsX ti_BadRow (eVar 0)) (aCons (eIsX ti_Twice (eVar 0)) (aCons (eIsX ti_NoKind (eVar 0)) (aCons (eIsX ti_TooBig (eVar 0)) aNil))))))) (sSeq (sIf (bOr (bOf (eOp neD (rVar 3) (eFz (oLc (iItems (eTup (aCons (eC (.str (PySem.Str.ofString "BadRow"))) (aCons (eC (.str (PySem.Str.ofString "Twice"))) (aCons (eC (.str (PySem.Str.ofString "NoKind"))) (aCons (eC (.str (PySem.Str.ofString "TooBig"))) aNil)))))) (aName 4) gYes (eOp eqD (rVar 1) (rVar 4)) [4])))) (bNot (bOf (eIsX ti_ValueError (eVar 0))))) (sRet (eC (.bool false))) sNext) (sSeq (sIf (bOf (eIsX ti_NoChange_NoClaim_NoFit_NoGround_NoPart_NoRange_NotOwn_NotUnder_TooMany_TwoGrounds (eVar 0))) (sRet (eC (.bool false))) sNext) (sSeq (sIf (bAnd (bOf (eOp inD (rVar 1) (eTup (aCons (eC (.str (PySem.Str.ofString "NoKind"))) (aCons (eC (.str (PySem.Str.ofString "TooBig"))) aNil))))) (bOr (bNot (bOf (eCall 1 d_law_whole (aCons (eXE xf_claim "claim" (eVar 0)) aNil)))) (bOf (eOp neD (eXE xf_claim "claim" (eVar 0)) (eC (.int 0)))))) (sRet (eC (.bool false))) sNext) (sRet (eAnd (eCall 1 d_law_whole (aCons (eXE xf_row "row" (eVar 0)) aNil)) (eOp eqD (eXE xf_row "row" (eVar 0)) (rVar 2))))))))
def d_law_right : List PD → FR := runD 5 S_law_right
def S_law : Rho → SR :=
  (sSeq (sSet 1 (eCall 2 d_law_salt (aCons (eVar 0) (aCons (eC (.int 298765432198765432)) aNil)))) (sSeq (sSet 2 (eOp addD (eSl (rVar 0) pNo (pSo (eC (.int 63)))) (eFz (oLst (aCons (eOp divD (rVar 1) (eC (.int 3))) (aCons (eOp divD (rVar 1) (eC (.int 5))) (aCons (eOp divD (rVar 1) (eC (.int 7))) aNil))))))) (sSeq (preK [3, 4, 5, 6, 7, 8, 9, 10, 11, 12, 13] (sFor (iRng1D (aCons (eCB min2D (aCons (eC (.int 6)) (aCons (eCB lenD (aCons (rVar 2) aNil)) aNil))) aNil)) (aName 3) (killS [3, 4, 5, 6, 7, 8, 9, 10, 11, 12, 13] (sSeq (sSet 4 (eCall 3 d_law_mix (aCons (eOp ixD (rVar 2) (rVar 3)) (aCons (eVar 3) (aCons (eC (.int 1111111111111111111)) aNil))))) (sSeq (sSet 5 (eOp ixD (eFz (oLst (aCons (eC (.int 12)) (aCons (eOp modD (eOp divD (rVar 4) (eC (.int 5))) (eC (.int 13))) aNil)))) (eCB intD (aCons (eOp gtD (eOp modD (rVar 4) (eC (.int 5))) (eC (.int 0))) aNil)))) (sSeq (sSet 6 (eCall 2 d_law_kinds (aCons (eSl (eOp addD (rVar 2) (eFz (eOp repL (oLst (aCons (eVar 1) aNil)) (eC (.int 12))))) pNo (pSo (rVar 5))) (aCons (eVar 1) aNil)))) (sSeq (sSetO 7 (oLst aNil)) (sSeq (preK [8, 9] (sFor (iItems (eVar 6)) (aTup 2 (asCons (aName 8) (asCons (aName 9) asNil))) (killS [8, 9] (sAppend 7 (eOp addD (eFz (oLst (aCons (eC (.str (PySem.Str.ofString "kind"))) (aCons (eVar 8) aNil)))) (eSl (eFz (oLst (aCons (eC (.str (PySem.Str.ofString "of"))) (aCons (eVar 9) aNil)))) pNo (pSo (eOp mulD (eC (.int 2)) (eCB intD (aCons (eOp neD (rVar 9) (eC (.str (PySem.Str.ofString "")))) aNil)))))))))) (sSeq (sSet 10 (eCall 3 d_law_faulty (aCons (eOp divD (rVar 4) (eC (.int 65))) (aCons (eVar 6) (aCons (eVar 1) aNil))))) (sSeq (sSet 11 (eCall 2 d_law_due (aCons (eVar 10) (aCons (eVar 6) aNil)))) (sSeq (sIf (bOf (eOp isND (rVar 11) (eC .none))) (sSeq (sSet 10 (eOp addD (eOp addD (eFz (oLst (aCons (eC (.str (PySem.Str.ofString "kind"))) aNil))) (eSl (rVar 10) (pSo (eC (.int 1))) (pSo (eC (.int 2))))) (eFz (oLst (aCons (eC (.str (PySem.Str.ofString "of"))) (aCons (eC (.str (PySem.Str.ofString "the"))) aNil)))))) (sSet 11 (eCall 2 d_law_due (aCons (eVar 10) (aCons (eVar 6) aNil))))) sNext) (sSeq (sSet 12 (eCall 2 d_law_text (aCons (eOp addD (eOp addD (rVar 7) (eFz (oLst (aCons (eVar 10) aNil)))) (eSl (eFz (oLst (aCons (eFz (oLst (aCons (eC (.str (PySem.Str.ofString "kind"))) aNil))) (aCons (eVar 10) aNil)))) pNo (pSo (eOp modD (eOp divD (rVar 4) (eC (.int 7))) (eC (.int 3)))))) (aCons (eOp addD (eOp divD (rVar 1) (eC (.int 77))) (rVar 3)) aNil)))) (sSeq (sSet 13 (eOp ixD (eFz (oLc (iEnumD (aCons (eFz (eM1 splitD (rVar 12) (eC (.str (PySem.Str.ofString "\n"))))) aNil)) (aTup 2 (asCons (aName 14) (asCons (aName 15) asNil))) (bOf (eOp neD (eFz (eM0 wordsD (rVar 15))) (eFz (oLst aNil)))) (eVar 14) [14, 15])) (eCB lenD (aCons (rVar 7) aNil)))) (sIf (bNot (bOf (eCall 3 d_law_right (aCons (eCall 1 d_law_told (aCons (eVar 12) aNil)) (aCons (eVar 11) (aCons (eVar 13) aNil)))))) (sRet (eC (.bool false))) sNext)))))))))))))) (sRet (eC (.bool true))))))
def d_law : List PD → FR := runD 16 S_law
end
end K03
namespace K03
open PySem L2 DL

/-! ### kinds -/
abbrev Ks := List (Str × Str)
def eS : Str := Str.ofString ""
def kI (p : Str × Str) : PD := .tuple [.str p.1, .str p.2]
def kD (ws : Ks) : PD := .list (ws.map kI)
/-- from the last one on: names unlike, none empty; uppers told above -/
def Gr : Ks → Prop
  | [] => True
  | p :: r => p.1 ≠ eS ∧ p.1 ∉ r.map (·.1) ∧ (p.2 = eS ∨ p.2 ∈ r.map (·.1)) ∧ Gr r
theorem Gr.nodup : ∀ {r : Ks}, Gr r → (r.map (·.1)).Nodup
  | [], _ => List.nodup_nil
  | p :: r, h => by
    rw [List.map_cons, List.nodup_cons]
    exact ⟨h.2.1, Gr.nodup h.2.2.2⟩
theorem Gr.ne : ∀ {r : Ks}, Gr r → ∀ p ∈ r, p.1 ≠ eS
  | q :: r, h, p, hp => by
    rcases List.mem_cons.mp hp with e | e
    · rw [e]; exact h.1
    · exact Gr.ne h.2.2.2 p e
/-- the uppers of a word, from below -/
def chR : Ks → Str → List Str
  | [], _ => []
  | p :: r, w => if p.1 = w ∧ p.2 ≠ eS then p.2 :: chR r p.2 else chR r w
theorem chR_cons (p : Str × Str) (r : Ks) (w : Str) : chR (p :: r) w = if p.1 = w ∧ p.2 ≠ eS then p.2 :: chR r p.2 else chR r w := rfl
theorem chR_none : ∀ (r : Ks) (w : Str), w ∉ r.map (·.1) → chR r w = []
  | [], _, _ => rfl
  | p :: r, w, h => by
    rw [List.map_cons, List.mem_cons, not_or] at h
    rw [chR_cons, if_neg (fun q => h.1 q.1.symm)]
    exact chR_none r w h.2

theorem let_cs : cs (Str.ofString "bcdefghijklmnopqrstuvwxyz") = List.range' 98 25 := by decide +kernel
theorem let_ix (i : Int) (h : 0 ≤ i) (h2 : i < 25) : ixD (.str (Str.ofString "bcdefghijklmnopqrstuvwxyz")) (.int i) = .ok (.str (sg (98 + i.toNat))) := by
  refine x_ix_s _ i _ (sz (by decide +kernel)) h ?_
  rw [let_cs, List.getElem?_range' (by omega)]
  simp
def tT (s : Int) (k : Nat) : Nat := 98 + ((7 * (k : Int) + s / 7) % 25).toNat
def nmL (s : Int) (k : Nat) : List Nat :=
  if s % 5 = 0 then [tT s k]
  else if s % 5 = 1 ∧ k < 8 then List.replicate (1 + (3 * (k : Int) + s / 35) % 8).toNat (98 + (s / 5 % 7).toNat)
  else List.replicate (s / 35 % (2 + s / 5 % 7 - 1)).toNat (98 + (s / 245 % 25).toNat) ++ [tT s k] ++ [113] ++ List.replicate (2 + s / 5 % 7 - s / 35 % (2 + s / 5 % 7 - 1) - 2).toNat (98 + (s / 6125 % 25).toNat)
def nm (s : Int) (k : Nat) : Str := ⟨(nmL s k).toArray⟩
theorem nm_cs (s : Int) (k : Nat) : cs (nm s k) = nmL s k := rfl
theorem nm_of {z : Str} {s : Int} {k : Nat} (h : cs z = nmL s k) : z = nm s k := cs_ext (by rw [h, nm_cs])
theorem law_name (s : Int) (k : Nat) (h : 0 ≤ s) (h2 : s < 2 ^ 62) (hk : k < 16) : d_law_name [.int k, .int s] = .rt (.d (.str (nm s k))) := by
  show (S_law_name [some (.d (.int k)), some (.d (.int s)), none, none, none, none, none]).fr = _
  unfold S_law_name
  generalize eL : Str.ofString "bcdefghijklmnopqrstuvwxyz" = L
  have ix := fun i h h2 => eL ▸ let_ix i h h2
  rw [seq_nx (ρ1 := [some (.d (.int k)), some (.d (.int s)), some (.d (.str L)), none, none, none, none]) (by simp)]
  have m7 := x_mul_l 7 (k : Int) (by decide) (by decide)
  have m3 := x_mul_l 3 (k : Int) (by decide) (by decide)
  have d7 := x_div s 7 (by decide) (by decide)
  have d5 := x_div s 5 (by decide) (by decide)
  have d35 := x_div s 35 (by decide) (by decide)
  have d245 := x_div s 245 (by decide) (by decide)
  have d6125 := x_div s 6125 (by decide) (by decide)
  have md := fun (a : Int) => x_mod a 25 (by decide)
  have md5 := fun (a : Int) => x_mod a 5 (by decide)
  have md7 := fun (a : Int) => x_mod a 7 (by decide)
  have md8 := fun (a : Int) => x_mod a 8 (by decide)
  rw [seq_nx (ρ1 := [some (.d (.int k)), some (.d (.int s)), some (.d (.str L)), some (.d (.str (sg (tT s k)))), none, none, none]) (by
    have := ix ((7 * (k : Int) + s / 7) % 25) (by omega) (by omega)
    simp [rVar, m7, d7, md, this, tT])]
  by_cases c : s % 5 = 0
  · rw [seq_rt (x := .d (.str (sg (tT s k)))) (by
      rw [if_t (by simp [rVar, md5, c])]
      rfl)]
    rw [nm_of (z := sg (tT s k)) (s := s) (k := k) (by unfold nmL; rw [if_pos c]; rfl)]
    rfl
  rw [seq_nx (ρ1 := [some (.d (.int k)), some (.d (.int s)), some (.d (.str L)), some (.d (.str (sg (tT s k)))), none, none, none]) (by
    rw [if_f (by simp [rVar, md5, c])]
    rfl)]
  by_cases c1 : s % 5 = 1 ∧ k < 8
  · have k8 : (k : Int) < 8 := by omega
    have e1 := ix (s / 5 % 7) (by omega) (by omega)
    have sl : (sg (98 + (s / 5 % 7).toNat)).length * (1 + (3 * (k : Int) + s / 35) % 8).toNat ≤ sizeLine := sz (by rw [sg_len]; omega)
    have e2 := x_mul_s (sg (98 + (s / 5 % 7).toNat)) (1 + (3 * (k : Int) + s / 35) % 8) (by omega) (by omega) sl
    rw [seq_rt (x := .d (.str (nm s k))) (by
      rw [if_t (by simp [rVar, md5, c1, k8])]
      refine ret_ok ?_
      rw [← nm_of (z := mulS (sg (98 + (s / 5 % 7).toNat)) (1 + (3 * (k : Int) + s / 35) % 8)) (s := s) (k := k) (by unfold nmL; rw [if_neg c, if_pos c1, mulS_sg])]
      simp [rVar, d5, md7, e1, m3, d35, md8, e2])]
    rfl
  rw [seq_nx (ρ1 := [some (.d (.int k)), some (.d (.int s)), some (.d (.str L)), some (.d (.str (sg (tT s k)))), none, none, none]) (by
    by_cases q : s % 5 = 1
    · have k8 : ¬ (k : Int) < 8 := fun w => c1 ⟨q, by omega⟩
      rw [if_f (by simp [rVar, md5, q, k8])]
      rfl
    · rw [if_f (by simp [rVar, md5, q])]
      rfl)]
  rw [seq_nx (ρ1 := [some (.d (.int k)), some (.d (.int s)), some (.d (.str L)), some (.d (.str (sg (tT s k)))), some (.d (.int (2 + s / 5 % 7))), none, none]) (by simp [rVar, d5, md7])]
  have mz := x_mod (s / 35) (2 + s / 5 % 7 - 1) (by omega)
  have hz : 0 ≤ s / 35 % (2 + s / 5 % 7 - 1) ∧ s / 35 % (2 + s / 5 % 7 - 1) < 2 + s / 5 % 7 - 1 := ⟨Int.emod_nonneg _ (by omega), Int.emod_lt_of_pos _ (by omega)⟩
  rw [seq_nx (ρ1 := [some (.d (.int k)), some (.d (.int s)), some (.d (.str L)), some (.d (.str (sg (tT s k)))), some (.d (.int (2 + s / 5 % 7))), some (.d (.int (s / 35 % (2 + s / 5 % 7 - 1)))), none]) (by simp [rVar, d35, mz])]
  have e1 := ix (s / 245 % 25) (by omega) (by omega)
  have e3 := ix (s / 6125 % 25) (by omega) (by omega)
  have nmq : nmL s k = List.replicate (s / 35 % (2 + s / 5 % 7 - 1)).toNat (98 + (s / 245 % 25).toNat) ++ [tT s k] ++ [113] ++ List.replicate (2 + s / 5 % 7 - s / 35 % (2 + s / 5 % 7 - 1) - 2).toNat (98 + (s / 6125 % 25).toNat) := by
    unfold nmL
    rw [if_neg c, if_neg c1]
  generalize s / 35 % (2 + s / 5 % 7 - 1) = sp at hz nmq
  have s2 : 2 + s / 5 % 7 ≤ 8 ∧ 2 ≤ 2 + s / 5 % 7 := by omega
  generalize 2 + s / 5 % 7 = S at hz nmq s2
  have e2 := x_mul_s (sg (98 + (s / 245 % 25).toNat)) sp (by omega) (by omega) (sz (by rw [sg_len]; omega))
  have e4 := x_mul_s (sg (98 + (s / 6125 % 25).toNat)) (S - sp - 2) (by omega) (by omega) (sz (by rw [sg_len]; omega))
  rw [seq_nx (ρ1 := [some (.d (.int k)), some (.d (.int s)), some (.d (.str L)), some (.d (.str (sg (tT s k)))), some (.d (.int S)), some (.d (.int sp)), some (.d (.str (mulS (sg (98 + (s / 245 % 25).toNat)) sp)))]) (by simp [rVar, d245, md, e1, e2])]
  have q1 : Str.ofString "q" = sg 113 := by decide +kernel
  have l1 : (mulS (sg (98 + (s / 245 % 25).toNat)) sp).length + 1 ≤ sizeLine := sz (by rw [mulS_len, sg_len]; omega)
  have l2 : (mulS (sg (98 + (s / 245 % 25).toNat)) sp).length + 1 + 1 ≤ sizeLine := sz (by rw [mulS_len, sg_len]; omega)
  have l3 : (mulS (sg (98 + (s / 245 % 25).toNat)) sp).length + 1 + 1 + (mulS (sg (98 + (s / 6125 % 25).toNat)) (S - sp - 2)).length ≤ sizeLine := sz (by rw [mulS_len, mulS_len, sg_len, sg_len]; omega)
  rw [ret_ok (x := .str (nm s k)) (by
    rw [← nm_of (z := mulS (sg (98 + (s / 245 % 25).toNat)) sp ++ sg (tT s k) ++ sg 113 ++ mulS (sg (98 + (s / 6125 % 25).toNat)) (S - sp - 2)) (s := s) (k := k) (by
      rw [nmq, cs_app, cs_app, cs_app, mulS_sg, mulS_sg]
      rfl)]
    simp [rVar, q1, d6125, md, e3, e4, l1, l2, l3])]
  rfl
theorem nm_ne (s : Int) (k : Nat) (h : 0 ≤ s) : nm s k ≠ eS := by
  intro q
  have e : nmL s k = [] := by
    rw [← nm_cs, q]
    decide +kernel
  unfold nmL at e
  split at e
  · cases e
  · split at e
    · have := congrArg List.length e
      rw [List.length_replicate] at this
      simp at this
      omega
    · simp at e
theorem nm_inj (s : Int) (k j : Nat) (h : 0 ≤ s) (hk : k < 16) (hj : j < 16) (e : nm s k = nm s j) : k = j := by
  have e : nmL s k = nmL s j := by rw [← nm_cs, ← nm_cs, e]
  have tt : tT s k = tT s j → k = j := by
    intro q
    unfold tT at q
    omega
  unfold nmL at e
  by_cases c : s % 5 = 0
  · rw [if_pos c, if_pos c] at e
    injection e with e _
    exact tt e
  · rw [if_neg c, if_neg c] at e
    have third : ∀ (a : Nat) (x y z w : Nat) (b d : List Nat), List.replicate a x ++ [y] ++ [113] ++ b = List.replicate a x ++ [z] ++ [113] ++ d → y = z := by
      intro a x y z w b d q
      rw [List.append_assoc, List.append_assoc, List.append_assoc, List.append_assoc] at q
      have := List.append_cancel_left q
      injection this
    have noq : ∀ (a : Nat) (x y : Nat) (n : Nat) (b l : List Nat), x < 113 → List.replicate a x = l ++ [y] ++ [113] ++ b → False := by
      intro a x y n b l hx q
      have m : 113 ∈ List.replicate a x := by rw [q]; simp
      have := (List.mem_replicate.mp m).2
      omega
    by_cases c1 : s % 5 = 1 ∧ k < 8
    · rw [if_pos c1] at e
      by_cases c2 : s % 5 = 1 ∧ j < 8
      · rw [if_pos c2] at e
        have := congrArg List.length e
        rw [List.length_replicate, List.length_replicate] at this
        omega
      · rw [if_neg c2] at e
        exact (noq _ _ _ 0 _ _ (by omega) e).elim
    · rw [if_neg c1] at e
      by_cases c2 : s % 5 = 1 ∧ j < 8
      · rw [if_pos c2] at e
        exact (noq _ _ _ 0 _ _ (by omega) e.symm).elim
      · rw [if_neg c2] at e
        exact tt (third _ _ _ _ 0 _ _ e)
theorem law_mix (a b c : Int) (h : 0 ≤ b) (h2 : b < 1000) (hc : -(2 ^ 64) < c) (hc2 : c < 2 ^ 64) : d_law_mix [.int a, .int b, .int c] = .rt (.d (.int ((a + b * b + 1) * c % 2305843009213693951))) := by
  show (S_law_mix [some (.d (.int a)), some (.d (.int b)), some (.d (.int c))]).fr = _
  unfold S_law_mix
  rw [ret_ok (x := .int ((a + b * b + 1) * c % 2305843009213693951))]
  · rfl
  simp only [x_eOp, x_eC, rVar]
  simp [x_mul_l b b (by omega) (by omega), x_mul_r (a + b * b + 1) c hc hc2, x_mod _ 2305843009213693951 (by decide)]
/-- kinds of this salt -/
def Ok (s : Int) (ws : Ks) : Prop := Gr ws.reverse ∧ ∀ (j : Nat) (p : Str × Str), ws[j]? = some p → p.1 = nm s j
theorem Ok.snoc {s : Int} {ws : Ks} (h0 : 0 ≤ s) (h : Ok s ws) (hl : ws.length < 12) (u : Str) (hu : u = eS ∨ u ∈ ws.map (·.1)) : Ok s (ws ++ [(nm s ws.length, u)]) := by
  refine ⟨?_, fun j p e => ?_⟩
  · have er : (ws ++ [(nm s ws.length, u)]).reverse = (nm s ws.length, u) :: ws.reverse := by simp
    rw [er]
    refine ⟨nm_ne s _ h0, fun q => ?_, ?_, h.1⟩
    · rw [List.map_reverse, List.mem_reverse] at q
      obtain ⟨p, hp, e⟩ := List.mem_map.mp q
      obtain ⟨j, hj⟩ := List.getElem?_of_mem hp
      have lt := (List.getElem?_eq_some_iff.mp hj).1
      rw [h.2 j p hj] at e
      have := nm_inj s j ws.length h0 (by omega) (by omega) e
      omega
    · rcases hu with q | q
      · exact .inl q
      · exact .inr (by rw [List.map_reverse]; exact List.mem_reverse.mpr q)
  · by_cases c : j < ws.length
    · rw [List.getElem?_append_left c] at e
      exact h.2 j p e
    · rw [List.getElem?_append_right (by omega)] at e
      have : j - ws.length = 0 := by
        by_cases z : j - ws.length = 0
        · exact z
        · rw [List.getElem?_eq_none (by simp; omega)] at e
          cases e
      have ej : j = ws.length := by omega
      subst ej
      rw [Nat.sub_self] at e
      cases e
      rfl
theorem upper_ok (cl : List PD) (s m : Int) (k : Nat) (ws : Ks) (hl : ws.length = k) : ∃ u, (u = eS ∨ u ∈ ws.map (·.1)) ∧ sIf (bAnd (bOf (eOp gtD (rVar 3) (eC (.int 0)))) (bOf (eOp gtD (eOp modD (rVar 4) (eC (.int 4))) (eC (.int 0))))) (sSet 5 (eOp ixD (eOp ixD (rVar 2) (eOp modD (eOp divD (rVar 4) (eC (.int 4))) (rVar 3))) (eC (.int 0)))) sNext
      [some (.d (.list cl)), some (.d (.int s)), some (.o (.list (ws.map kI))), some (.d (.int k)), some (.d (.int m)), some (.d (.str eS))] = .nx [some (.d (.list cl)), some (.d (.int s)), some (.o (.list (ws.map kI))), some (.d (.int k)), some (.d (.int m)), some (.d (.str u))] := by
  have m4 := x_mod m 4 (by decide)
  have d4 := x_div m 4 (by decide) (by decide)
  by_cases k0 : (0 : Int) < (k : Int)
  · have k0n : 0 < k := Int.ofNat_lt.mp k0
    by_cases q : 0 < m % 4
    · have mk := x_mod (m / 4) (k : Int) k0
      have b0 : 0 ≤ m / 4 % (k : Int) := Int.emod_nonneg _ (by omega)
      have b1 : m / 4 % (k : Int) < k := Int.emod_lt_of_pos _ k0
      have lt : (m / 4 % (k : Int)).toNat < ws.length := by omega
      have e1 := x_ix_l (ws.map kI) (m / 4 % (k : Int)) (kI (ws[(m / 4 % (k : Int)).toNat]'lt)) b0 (by rw [List.getElem?_map, List.getElem?_eq_getElem lt]; rfl)
      have e2 := x_ix_t [.str (ws[(m / 4 % (k : Int)).toNat]'lt).1, .str (ws[(m / 4 % (k : Int)).toNat]'lt).2] 0 _ (by decide) rfl
      refine ⟨(ws[(m / 4 % (k : Int)).toNat]'lt).1, .inr (List.mem_map_of_mem (List.getElem_mem lt)), ?_⟩
      generalize ws[(m / 4 % (k : Int)).toNat]'lt = p at e1 e2
      rw [if_t (by simp [rVar, k0n, m4, q])]
      rw [set_ok (x := .str p.1) (by
        simp only [x_eOp, rVar, x_eC]
        simp [d4, mk, e1]
        exact e2)]
      rfl
    · refine ⟨eS, .inl rfl, ?_⟩
      rw [if_f (by simp [rVar, k0n, m4, q])]
      rfl
  · refine ⟨eS, .inl rfl, ?_⟩
    have k0n : ¬ 0 < k := fun z => k0 (Int.ofNat_lt.mpr z)
    rw [if_f (by simp [rVar, k0n])]
    rfl
theorem mix_step (cl : List PD) (k c m : Int) (s1 s2 y4 y5 : Option Sl) (hc : ixD (.list cl) (.int k) = .ok (.int c)) (em : d_law_mix [.int c, .int k, .int 1234567890123456789] = .rt (.d (.int m))) :
    sSet 4 (eCall 3 d_law_mix (aCons (eOp ixD (rVar 0) (rVar 3)) (aCons (eVar 3) (aCons (eC (.int 1234567890123456789)) aNil)))) [some (.d (.list cl)), s1, s2, some (.d (.int k)), y4, y5] = .nx [some (.d (.list cl)), s1, s2, some (.d (.int k)), some (.d (.int m)), y5] := by
  simp [rVar, eVar, hc, em, -x_run]
theorem kinds_turn (cl : List PD) (s : Int) (h0 : 0 ≤ s) (h1 : s < 2 ^ 62) (k : Nat) (c : Int) (hk : k < 12) (hc : ixD (.list cl) (.int (0 + (k : Int))) = .ok (.int c)) (ws : Ks) (hw : Ok s ws) (hl : ws.length = k) (y4 y5 : Option Sl) : ∃ ws' z4 z5, Ok s ws' ∧ ws'.length = k + 1 ∧
    (sSeq (sSet 4 (eCall 3 d_law_mix (aCons (eOp ixD (rVar 0) (rVar 3)) (aCons (eVar 3) (aCons (eC (.int 1234567890123456789)) aNil))))) (sSeq (sSet 5 (eC (.str (PySem.Str.ofString "")))) (sSeq (sIf (bAnd (bOf (eOp gtD (rVar 3) (eC (.int 0)))) (bOf (eOp gtD (eOp modD (rVar 4) (eC (.int 4))) (eC (.int 0))))) (sSet 5 (eOp ixD (eOp ixD (rVar 2) (eOp modD (eOp divD (rVar 4) (eC (.int 4))) (rVar 3))) (eC (.int 0)))) sNext) (sAppend 2 (eTup (aCons (eCall 2 d_law_name (aCons (eVar 3) (aCons (eVar 1) aNil))) (aCons (eVar 5) aNil)))))))
      [some (.d (.list cl)), some (.d (.int s)), some (.o (.list (ws.map kI))), some (.d (.int (0 + (k : Int)))), y4, y5] =
    .nx [some (.d (.list cl)), some (.d (.int s)), some (.o (.list (ws'.map kI))), some (.d (.int (0 + (k : Int)))), z4, z5] := by
  rw [show (0 + (k : Int)) = (k : Int) by omega] at *
  have em := law_mix c k 1234567890123456789 (Int.natCast_nonneg k) (Int.lt_of_lt_of_le (Int.ofNat_lt.mpr hk) (by decide)) (by decide) (by decide)
  have hm : 0 ≤ (c + (k : Int) * k + 1) * 1234567890123456789 % 2305843009213693951 := Int.emod_nonneg _ (by decide)
  generalize (c + (k : Int) * k + 1) * 1234567890123456789 % 2305843009213693951 = m at em hm
  have m4 := x_mod m 4 (by decide)
  have d4 := x_div m 4 (by decide) (by decide)
  rw [seq_nx (ρ1 := [some (.d (.list cl)), some (.d (.int s)), some (.o (.list (ws.map kI))), some (.d (.int k)), some (.d (.int m)), y5]) (mix_step cl k c m _ _ y4 y5 hc em)]
  rw [seq_nx (ρ1 := [some (.d (.list cl)), some (.d (.int s)), some (.o (.list (ws.map kI))), some (.d (.int k)), some (.d (.int m)), some (.d (.str eS))]) (by simp; rfl)]
  obtain ⟨u, hu, eu⟩ := upper_ok cl s m k ws hl
  rw [seq_nx eu]
  have en := law_name s k h0 h1 (by omega)
  have s2 : (2 : Nat) ≤ sizeLine := sz (by decide)
  refine ⟨ws ++ [(nm s ws.length, u)], some (.d (.int m)), some (.d (.str u)), hw.snoc h0 (by omega) u hu, by rw [List.length_append, List.length_singleton, hl], ?_⟩
  rw [append_ok (ds := ws.map kI) (x := kI (nm s ws.length, u)) rfl (by
    rw [hl]
    simp only [x_eTup, x_aCons, x_aNil, x_eCall, eVar]
    simp [en, s2, -x_run]
    rfl) (by rw [List.length_map]; exact szl (by omega)), List.map_append]
  rfl
theorem law_kinds (cells : List Int) (s : Int) (h0 : 0 ≤ s) (h1 : s < 2 ^ 62) (hl : cells.length ≤ 12) : ∃ ws : Ks, d_law_kinds [.list (cells.map PyData.int), .int s] = .rt (.o (kD ws)) ∧ Gr ws.reverse ∧ (∀ p ∈ ws, ∃ j, p.1 = nm s j) ∧ ws.length ≤ 12 := by
  show ∃ ws : Ks, (S_law_kinds [some (.d (.list (cells.map PyData.int))), some (.d (.int s)), none, none, none, none]).fr = _ ∧ _
  unfold S_law_kinds
  rw [seq_nx (ρ1 := [some (.d (.list (cells.map PyData.int))), some (.d (.int s)), some (.o (.list (([] : Ks).map kI))), none, none, none]) (by simp)]
  rw [x_sSeq, x_preK, x_sFor]
  simp only [List.foldl_cons, List.foldl_nil, List.set_cons_succ, List.set_cons_zero]
  have e1 : (iRng1D (aCons (eCB lenD (aCons (rVar 0) aNil)) aNil)) [some (.d (.list (cells.map PyData.int))), some (.d (.int s)), some (.o (.list (([] : Ks).map kI))), none, none, none] = .ok (rngD 0 cells.length) := by
    show (R.ok [PyData.int ((cells.map PyData.int).length : Nat)]).bind rng1 = _
    rw [x_bind_ok, List.length_map]
    exact rng_ok _ (by omega)
  rw [e1, x_of_ok]
  refine forD_by (P := fun r => ∃ ws : Ks, (r.seq (sRetV 2)).fr = .rt (.o (kD ws)) ∧ Gr ws.reverse ∧ (∀ p ∈ ws, ∃ j, p.1 = nm s j) ∧ ws.length ≤ 12)
    (fun i ρ => ∃ (ws : Ks) (y3 y4 y5 : Option Sl), Ok s ws ∧ ws.length = i ∧ ρ = [some (.d (.list (cells.map PyData.int))), some (.d (.int s)), some (.o (.list (ws.map kI))), y3, y4, y5]) ⟨[], none, none, none, ⟨True.intro, fun j p e => by simp at e⟩, rfl, rfl⟩ ?_ ?_
  · rintro i x ρ hx ⟨ws, y3, y4, y5, q1, q2, rfl⟩
    obtain ⟨hi, rfl⟩ := rng_get hx
    refine ⟨_, rfl, ?_⟩
    have hc := x_ix_l (cells.map PyData.int) (0 + (i : Int)) (.int (cells[i]'hi)) (by omega) (by
      rw [show (0 + (i : Int)).toNat = i by omega, List.getElem?_map, List.getElem?_eq_getElem hi]
      rfl)
    obtain ⟨ws', z4, z5, o1, o2, e⟩ := kinds_turn (cells.map PyData.int) s h0 h1 i (cells[i]'hi) (by omega) hc ws q1 q2 y4 y5
    simp only [List.set]
    rw [x_killS, e]
    exact ⟨ws', _, _, _, o1, o2, rfl⟩
  · rintro ρ ⟨ws, y3, y4, y5, q1, q2, rfl⟩
    refine ⟨ws, rfl, q1.1, fun p hp => let ⟨j, hj⟩ := List.getElem?_of_mem hp; ⟨j, q1.2 j p hj⟩, ?_⟩
    rw [q2, rngD, List.length_map, List.length_range]
    exact hl
def m1 : PD → PD
  | .int c => .int (c % 1000003)
  | d => d
theorem law_salt (ns : List Int) (h : ns.length ≤ 63) : ∃ s : Int, 0 ≤ s ∧ s < 2 ^ 62 ∧ d_law_salt [.list (ns.map PyData.int), .int 298765432198765432] = .rt (.d (.int s)) := by
  have hm := law_mix (ns.map fun c => c % 1000003).sum ((ns.length : Int) % 64) 298765432198765432 (by omega) (by omega) (by decide) (by decide)
  refine ⟨((ns.map fun c => c % 1000003).sum + (ns.length : Int) % 64 * ((ns.length : Int) % 64) + 1) * 298765432198765432 % 2305843009213693951, Int.emod_nonneg _ (by decide), Int.lt_trans (Int.emod_lt_of_pos _ (by decide)) (by decide), ?_⟩
  · show (S_law_salt [some (.d (.list (ns.map PyData.int))), some (.d (.int 298765432198765432)), none]).fr = _
    unfold S_law_salt
    have e := lcL_map (h := lcE (aName 2) gYes (eOp modD (rVar 2) (eC (.int 1000003))) [some (.d (.list (ns.map PyData.int))), some (.d (.int 298765432198765432)), none]) (xs := ns.map PyData.int) (f := m1) (fun x hx => by
      obtain ⟨c, _, rfl⟩ := List.mem_map.mp hx
      simp [lcE, rVar, x_mod c 1000003 (by decide)]
      rfl)
    have e2 : (ns.map PyData.int).map m1 = (ns.map fun c => c % 1000003).map PyData.int := by
      rw [List.map_map, List.map_map]
      rfl
    rw [e2] at e
    have l64 := x_mod (ns.length : Int) 64 (by decide)
    have hl : (ns.map fun c => c % 1000003).length ≤ sizeLine := sz (by rw [List.length_map]; omega)
    rw [ret_ok (x := .int (((ns.map fun c => c % 1000003).sum + (ns.length : Int) % 64 * ((ns.length : Int) % 64) + 1) * 298765432198765432 % 2305843009213693951))]
    · rfl
    · have e5 : eFz (oLc (iItems (eSl (rVar 0) pNo (pSo (eC (.int 63))))) (aName 2) gYes (eOp modD (rVar 2) (eC (.int 1000003))) [2]) [some (.d (.list (ns.map PyData.int))), some (.d (.int 298765432198765432)), none] = .ok (.list ((ns.map fun c => c % 1000003).map PyData.int)) := by
        simp only [x_eFz, x_oLc, x_iItems, x_eSl, rVar, x_pNo, x_pSo, x_eC]
        simp only [List.getElem?_cons_zero, x_bind_ok, x_asI, x_sl_l, cut63 ns h, x_items_l, x_wipe_cons, x_wipe_nil]
        show ((noExc (lcL (lcE (aName 2) gYes (eOp modD (rVar 2) (eC (.int 1000003))) [some (.d (.list (ns.map PyData.int))), some (.d (.int 298765432198765432)), none]) (ns.map PyData.int))).bind _).bind _ = _
        rw [e]
        show (if ((ns.map fun c => c % 1000003).map PyData.int).length ≤ sizeLine then R.ok (PyData.list ((ns.map fun c => c % 1000003).map PyData.int)) else .bad).bind notDict = _
        rw [if_pos (by rw [List.length_map]; exact hl)]
        rfl
      refine call3 ((cb1 e5).trans (x_sum _)) ((op_ok ((cb1 (a := .list (ns.map PyData.int)) rfl).trans ?_) (x_eC _ _)).trans l64) rfl hm
      show R.ok (PyData.int ((ns.map PyData.int).length : Nat)) = _
      rw [List.length_map]
theorem can_kinds : ∀ ws : Ks, (∀ p ∈ ws, PyData.strOk p.1 = true ∧ PyData.strOk p.2 = true) → PyData.canLayAll0 (ws.map kI) = true ∧ PyData.depthAll (ws.map kI) ≤ 1
  | [], _ => ⟨by simp [PyData.canLayAll0], by simp [PyData.depthAll]⟩
  | p :: ws, h => by
    obtain ⟨a, b⟩ := can_kinds ws fun q hq => h q (List.mem_cons_of_mem _ hq)
    obtain ⟨c, d⟩ := h p List.mem_cons_self
    rw [List.map_cons]
    refine ⟨?_, ?_⟩
    · simp [PyData.canLayAll0, PyData.canLay0, kI, a, c, d]
    · have : PyData.depth (kI p) = 1 := by simp [kI, PyData.depth, PyData.depthAll]
      simp only [PyData.depthAll, this]
      omega
theorem nm_ok (s : Int) (k : Nat) (h : 0 ≤ s) : PyData.strOk (nm s k) = true := by
  have all : ∀ x ∈ nmL s k, x < 0x110000 := by
    intro x hx
    have ht : tT s k < 200 := by unfold tT; omega
    unfold nmL at hx
    split at hx
    · rw [List.mem_singleton] at hx
      omega
    · split at hx
      · have := (List.mem_replicate.mp hx).2
        omega
      · simp only [List.mem_append, List.mem_singleton] at hx
        rcases hx with ((hx | hx) | hx) | hx
        · have := (List.mem_replicate.mp hx).2
          omega
        · omega
        · omega
        · have := (List.mem_replicate.mp hx).2
          omega
  unfold PyData.strOk nm
  simp only [List.all_toArray, List.all_eq_true, decide_eq_true_eq]
  exact all
theorem upper_in : ∀ (r : Ks), Gr r → ∀ p ∈ r, p.2 = eS ∨ p.2 ∈ r.map (·.1)
  | q :: r, h, p, hp => by
    rcases List.mem_cons.mp hp with e | e
    · subst e
      rcases h.2.2.1 with z | z
      · exact .inl z
      · exact .inr (by rw [List.map_cons]; exact List.mem_cons_of_mem _ z)
    · rcases upper_in r h.2.2.2 p e with z | z
      · exact .inl z
      · exact .inr (by rw [List.map_cons]; exact List.mem_cons_of_mem _ z)
theorem kinds_eq (s : Int) (h0 : 0 ≤ s) (ws : Ks) (hg : Gr ws.reverse) (hn : ∀ p ∈ ws, ∃ j, p.1 = nm s j) : eqD (kD ws) (kD ws) = .ok (.bool true) := by
  have names : ∀ z ∈ ws.map (·.1), PyData.strOk z = true := by
    intro z hz
    obtain ⟨p, hp, rfl⟩ := List.mem_map.mp hz
    obtain ⟨j, e⟩ := hn p hp
    rw [e]
    exact nm_ok s j h0
  obtain ⟨c1, c2⟩ := can_kinds ws fun p hp => ⟨names _ (List.mem_map_of_mem hp), by
    rcases upper_in _ hg p (List.mem_reverse.mpr hp) with z | z
    · rw [z]; decide +kernel
    · rw [List.map_reverse] at z
      exact names _ (List.mem_reverse.mp z)⟩
  have can : (kD ws).canLay0 = true := by
    unfold kD
    simp only [PyData.canLay0]
    exact c1
  have sh : SeqAt.shaped (kD ws) = true := by
    unfold SeqAt.shaped
    rw [can, Bool.true_and]
    refine decide_eq_true ?_
    unfold kD
    simp only [PyData.depth]
    omega
  rw [x_eq]
  show (if SeqAt.shaped (kD ws) = true ∧ SeqAt.shaped (kD ws) = true then R.ok (PyData.eqv (kD ws) (kD ws)) else .bad).bind _ = _
  rw [if_pos ⟨sh, sh⟩, SeqAt.eqv_refl _ can]
  rfl

def smallL : List Nat := [97, 98, 99, 100, 101, 102, 103, 104, 105, 106, 107, 108, 109, 110, 111, 112, 113, 114, 115, 116, 117, 118, 119, 120, 121, 122]
def figL : List Nat := [48, 49, 50, 51, 52, 53, 54, 55, 56, 57]
theorem small_cps : (Str.ofString "abcdefghijklmnopqrstuvwxyz").cps.toList = smallL := by decide +kernel
theorem small_len : (Str.ofString "abcdefghijklmnopqrstuvwxyz").length = 26 := by decide +kernel
theorem fig_cps : (Str.ofString "0123456789").cps.toList = figL := by decide +kernel
theorem fig_len : (Str.ofString "0123456789").length = 10 := by decide +kernel
theorem fig9_cps : (Str.ofString "123456789").cps.toList = [49, 50, 51, 52, 53, 54, 55, 56, 57] := by decide +kernel
theorem fig9_len : (Str.ofString "123456789").length = 9 := by decide +kernel

/-! ### is_word -/
theorem small_cs : cs (Str.ofString "abcdefghijklmnopqrstuvwxyz") = smallL := small_cps
theorem fig_cs : cs (Str.ofString "0123456789") = figL := fig_cps
def allIn (l w : List Nat) : Bool := l.all fun c => decide (c ∈ w)
theorem allIn_cons (c : Nat) (l w : List Nat) : allIn (c :: l) w = (decide (c ∈ w) && allIn l w) := rfl
theorem signs_loop (w : Str) (z : PD) : ∀ (l : List Nat) (x : Option Sl), ∃ y,
    forD (aName 2) (killS [2] (sIf (bOf (eOp ninD (rVar 2) (rVar 1))) (sRet (eC (.bool false))) sNext)) (l.map fun c => .str (sg c)) [some (.d z), some (.d (.str w)), x] =
      if allIn l (cs w) = true then .nx [some (.d z), some (.d (.str w)), y] else .rt (.d (.bool false))
  | [], x => ⟨x, rfl⟩
  | c :: l, x => by
    obtain ⟨y, ih⟩ := signs_loop w z l none
    rw [List.map_cons]
    unfold forD
    by_cases h : c ∈ cs w
    · refine ⟨y, ?_⟩
      simp [rVar, h, ih, allIn_cons]
    · refine ⟨x, ?_⟩
      simp [rVar, h, allIn_cons]
theorem signs_among (z w : Str) : d_signs_among [.str z, .str w] = .rt (.d (.bool (allIn (cs z) (cs w)))) := by
  obtain ⟨y, e⟩ := signs_loop w (.str z) (cs z) none
  simp [d_signs_among, S_signs_among, startD, eVar, e]
  by_cases h : allIn (cs z) (cs w) = true <;> simp [h]
def isW (z : Str) : Bool := decide (1 ≤ (z.length : Int)) && (decide ((z.length : Int) ≤ 8) && (!decide (z ∈ kw_KEPT) && allIn (cs z) smallL))
theorem inK_s (xs : List Str) (g : Rho → R PD) (ρ : Rho) (z : Str) (h : g ρ = .ok (.str z)) : eInK xs g ρ = .ok (.bool (decide (z ∈ xs))) := by
  unfold eInK
  rw [h]
  show (if flatP (.str z) = true then R.ok (PyData.bool ((xs.map PyData.str).any fun d => eqF d (.str z))) else R.bad) = _
  rw [if_pos (show flatP (.str z) = true from rfl), any_strs]
theorem is_word (z : Str) (hz : z.length ≤ 16777216) : d_is_word [.str z] = .rt (.d (.bool (isW z))) := by
  have h1 := sz hz
  simp only [d_is_word, S_is_word, startD, x_run]
  simp [rVar, eVar, h1, signs_among, small_cs]
  unfold isW
  by_cases a : 1 ≤ (z.length : Int) <;> by_cases b : (z.length : Int) ≤ 8 <;> by_cases c : z ∈ kw_KEPT <;> simp [a, b, c, eVar, signs_among, small_cs, inK_s _ (rVar 0) [some (.d (.str z))] z rfl]
end K03
namespace K03
open PySem L2 DL
/-! ### words -/
def keptBad (l : List Nat) : Bool := (l.all fun c => decide (c ≠ 113)) && !(decide (l = List.replicate l.length (l.headD 0)) && decide (98 ≤ l.headD 0))
theorem kept_bad : kw_KEPT.all (fun z => keptBad (cs z)) = true := by decide +kernel
theorem tT_in (s : Int) (k : Nat) : 98 ≤ tT s k ∧ tT s k ≤ 122 := by unfold tT; omega
theorem nm_bad (s : Int) (k : Nat) (h : 0 ≤ s) : keptBad (nmL s k) = false := by
  have ht := tT_in s k
  unfold nmL
  split
  · unfold keptBad
    simp [ht.1]
  · split
    · obtain ⟨n, e⟩ : ∃ n, (1 + (3 * (k : Int) + s / 35) % 8).toNat = n + 1 := ⟨(1 + (3 * (k : Int) + s / 35) % 8).toNat - 1, by omega⟩
      rw [e]
      unfold keptBad
      have h1 : (List.replicate (n + 1) (98 + (s / 5 % 7).toNat)).headD 0 = 98 + (s / 5 % 7).toNat := rfl
      rw [h1, List.length_replicate]
      have h2 : decide (98 ≤ 98 + (s / 5 % 7).toNat) = true := decide_eq_true (by omega)
      rw [h2]
      simp
    · unfold keptBad
      have : (List.all (List.replicate (s / 35 % (2 + s / 5 % 7 - 1)).toNat (98 + (s / 245 % 25).toNat) ++ [tT s k] ++ [113] ++ List.replicate (2 + s / 5 % 7 - s / 35 % (2 + s / 5 % 7 - 1) - 2).toNat (98 + (s / 6125 % 25).toNat)) fun c => decide (c ≠ 113)) = false := by
        rw [List.all_eq_false]
        exact ⟨113, by simp, by decide⟩
      rw [this]
      rfl
theorem nm_chars (s : Int) (k : Nat) (h : 0 ≤ s) : ∀ x ∈ nmL s k, 97 ≤ x ∧ x ≤ 122 := by
  intro x hx
  have ht := tT_in s k
  unfold nmL at hx
  split at hx
  · rw [List.mem_singleton] at hx
    omega
  · split at hx
    · have := (List.mem_replicate.mp hx).2
      omega
    · simp only [List.mem_append, List.mem_singleton] at hx
      rcases hx with ((hx | hx) | hx) | hx
      · have := (List.mem_replicate.mp hx).2
        omega
      · omega
      · omega
      · have := (List.mem_replicate.mp hx).2
        omega
theorem nm_size (s : Int) (k : Nat) (h : 0 ≤ s) : 1 ≤ (nmL s k).length ∧ (nmL s k).length ≤ 8 := by
  have hz : 0 ≤ s / 35 % (2 + s / 5 % 7 - 1) ∧ s / 35 % (2 + s / 5 % 7 - 1) < 2 + s / 5 % 7 - 1 := ⟨Int.emod_nonneg _ (by omega), Int.emod_lt_of_pos _ (by omega)⟩
  unfold nmL
  split
  · exact ⟨Nat.le_refl _, by simp⟩
  · split
    · rw [List.length_replicate]
      omega
    · generalize s / 35 % (2 + s / 5 % 7 - 1) = sp at hz
      have s2 : 2 + s / 5 % 7 ≤ 8 ∧ 2 ≤ 2 + s / 5 % 7 := by omega
      generalize 2 + s / 5 % 7 = S at hz s2
      simp only [List.length_append, List.length_replicate, List.length_singleton]
      omega
/-- a word without blanks -/
structure Wc (z : Str) : Prop where
  ch : ∀ c ∈ cs z, 33 ≤ c ∧ c ≤ 122
  lo : 1 ≤ z.length
  hi : z.length ≤ 10
theorem nm_len (s : Int) (k : Nat) (h : 0 ≤ s) : 1 ≤ (nm s k).length ∧ (nm s k).length ≤ 8 := by
  have l := nm_size s k h
  have e : (nm s k).length = (nmL s k).length := by rw [← cs_len, nm_cs]
  omega
theorem nm_wc (s : Int) (k : Nat) (h : 0 ≤ s) : Wc (nm s k) := by
  have l := nm_len s k h
  exact ⟨fun c hc => by have := nm_chars s k h c (by rw [← nm_cs]; exact hc); omega, by omega, by omega⟩
theorem in_small {c : Nat} (h : 97 ≤ c ∧ c ≤ 122) : c ∈ smallL := by
  have all : (List.range' 97 26).all (fun c => decide (c ∈ smallL)) = true := by decide +kernel
  exact of_decide_eq_true (List.all_eq_true.mp all c (List.mem_range'.mpr ⟨c - 97, by omega, by omega⟩))
theorem nm_word (s : Int) (k : Nat) (h : 0 ≤ s) : isW (nm s k) = true := by
  have w := nm_len s k h
  have nk : nm s k ∉ kw_KEPT := fun q => by
    have := List.all_eq_true.mp kept_bad _ q
    rw [nm_cs, nm_bad s k h] at this
    cases this
  have al : allIn (cs (nm s k)) smallL = true := by
    unfold allIn
    exact List.all_eq_true.mpr fun c hc => decide_eq_true (in_small (nm_chars s k h c (by rw [← nm_cs]; exact hc)))
  have h1 : (1 : Int) ≤ ((nm s k).length : Int) := by omega
  have h2 : ((nm s k).length : Int) ≤ 8 := by omega
  unfold isW
  rw [decide_eq_true h1, decide_eq_true h2, decide_eq_false nk, al]
  rfl
theorem strOk_wc {z : Str} (w : Wc z) : PyData.strOk z = true := by
  unfold PyData.strOk
  rw [← Array.all_toList]
  refine List.all_eq_true.mpr fun c hc => decide_eq_true ?_
  have := w.ch c hc
  omega
/-! ### rows -/
def strK : Str := Str.ofString "kind"
def strO : Str := Str.ofString "of"
def rowOf (p : Str × Str) : List Str := if p.2 = eS then [strK, p.1] else [strK, p.1, strO, p.2]
theorem wc_K : Wc strK := ⟨by decide +kernel, by decide +kernel, by decide +kernel⟩
theorem wc_O : Wc strO := ⟨by decide +kernel, by decide +kernel, by decide +kernel⟩
theorem kw2 (w : Str) (h : isW w = true) (hl : w.length ≤ 8) : d_kind_written [.list [.str strK, .str w]] = .rt (.d (.tuple [.str w, .str eS])) := by
  have i0 : ixD (.list [.str strK, .str w]) (.int 0) = .ok (.str strK) := x_ix_l _ 0 _ (by decide) rfl
  have i1 : ixD (.list [.str strK, .str w]) (.int 1) = .ok (.str w) := x_ix_l _ 1 _ (by decide) rfl
  have iw := is_word w (by omega)
  rw [h] at iw
  have s2 : (2 : Nat) ≤ sizeLine := sz (by decide)
  have ek : strK = Str.ofString "kind" := rfl
  have c1 : eCall 1 d_is_word (aCons (eOp ixD (rVar 0) (eC (.int 1))) aNil) [some (.d (.list [.str strK, .str w]))] = .ok (.bool true) := call1 ((op_ok rfl rfl).trans i1) iw
  show (S_kind_written [some (.d (.list [.str strK, .str w]))]).fr = _
  unfold S_kind_written
  rw [seq_rt (x := .d (.tuple [.str w, .str eS]))]
  · rfl
  rw [if_t (by
    rw [x_bAnd, bof (b := true) (by simp [rVar]), x_bind_ok, if_pos rfl, x_bAnd, bof (b := true) (by simp [rVar, i0, eq_true ek]), x_bind_ok, if_pos rfl]
    exact bof c1)]
  refine ret_ok ?_
  simp [rVar, i1, s2]
  rfl
theorem kw4 (w u : Str) (h : isW w = true) (hl : w.length ≤ 8) (h2 : isW u = true) (hl2 : u.length ≤ 8) : d_kind_written [.list [.str strK, .str w, .str strO, .str u]] = .rt (.d (.tuple [.str w, .str u])) := by
  have i0 : ixD (.list [.str strK, .str w, .str strO, .str u]) (.int 0) = .ok (.str strK) := x_ix_l _ 0 _ (by decide) rfl
  have i1 : ixD (.list [.str strK, .str w, .str strO, .str u]) (.int 1) = .ok (.str w) := x_ix_l _ 1 _ (by decide) rfl
  have i2 : ixD (.list [.str strK, .str w, .str strO, .str u]) (.int 2) = .ok (.str strO) := x_ix_l _ 2 _ (by decide) rfl
  have i3 : ixD (.list [.str strK, .str w, .str strO, .str u]) (.int 3) = .ok (.str u) := x_ix_l _ 3 _ (by decide) rfl
  have iw := is_word w (by omega)
  have iu := is_word u (by omega)
  rw [h] at iw
  rw [h2] at iu
  have s2 : (2 : Nat) ≤ sizeLine := sz (by decide)
  have ek : strK = Str.ofString "kind" := rfl
  have eo : strO = Str.ofString "of" := rfl
  have c1 : eCall 1 d_is_word (aCons (eOp ixD (rVar 0) (eC (.int 1))) aNil) [some (.d (.list [.str strK, .str w, .str strO, .str u]))] = .ok (.bool true) := call1 ((op_ok rfl rfl).trans i1) iw
  have c3 : eCall 1 d_is_word (aCons (eOp ixD (rVar 0) (eC (.int 3))) aNil) [some (.d (.list [.str strK, .str w, .str strO, .str u]))] = .ok (.bool true) := call1 ((op_ok rfl rfl).trans i3) iu
  show (S_kind_written [some (.d (.list [.str strK, .str w, .str strO, .str u]))]).fr = _
  unfold S_kind_written
  rw [seq_nx (ρ1 := [some (.d (.list [.str strK, .str w, .str strO, .str u]))]) (by
    rw [if_f (by
      rw [x_bAnd, bof (b := false) (by simp [rVar]), x_bind_ok]
      rfl)]
    rfl)]
  rw [seq_nx (ρ1 := [some (.d (.list [.str strK, .str w, .str strO, .str u]))]) (by
    rw [if_f (by simp [rVar, i0, i2, eq_true ek, eq_true eo])]
    rfl)]
  rw [seq_nx (ρ1 := [some (.d (.list [.str strK, .str w, .str strO, .str u]))]) (by
    rw [if_f (by
      rw [x_bOr, x_bNot, bof c1, x_bind_ok, x_bind_ok]
      show bNot _ _ = _
      rw [x_bNot, bof c3]
      rfl)]
    rfl)]
  rw [ret_ok (x := .tuple [.str w, .str u]) (by simp [rVar, i1, i3, s2])]
  rfl
theorem kind_row (p : Str × Str) (h1 : isW p.1 = true) (l1 : p.1.length ≤ 8) (h2 : p.2 = eS ∨ isW p.2 = true ∧ p.2.length ≤ 8) : d_kind_written [.list ((rowOf p).map PyData.str)] = .rt (.d (kI p)) := by
  unfold rowOf
  by_cases c : p.2 = eS
  · rw [if_pos c]
    have := kw2 p.1 h1 l1
    unfold kI
    rw [c]
    exact this
  · rw [if_neg c]
    have q := h2.resolve_left c
    exact kw4 p.1 p.2 h1 l1 q.1 q.2
/-! ### the rows of a text that have words -/
def nl : Str := Str.ofString "\n"
def eI (q : Nat × Str) : PD := .tuple [.int (q.1 : Nat), .str q.2]
def rI (q : Nat × List Str) : PD := .tuple [.int (q.1 : Nat), .list (q.2.map PyData.str)]
def enumP : Nat → List Str → List (Nat × Str)
  | _, [] => []
  | n, l :: ls => (n, l) :: enumP (n + 1) ls
theorem enum_eq : ∀ (ls : List Str) (n : Nat), ((ls.map PyData.str).zipIdx n).map (fun p => PyData.tuple [.int (p.2 : Nat), p.1]) = (enumP n ls).map eI
  | [], _ => rfl
  | l :: ls, n => by
    rw [List.map_cons, List.zipIdx_cons, List.map_cons, enum_eq ls (n + 1)]
    rfl
theorem enumP_snd : ∀ (ls : List Str) (n : Nat), (enumP n ls).map (·.2) = ls
  | [], _ => rfl
  | l :: ls, n => by
    show l :: (enumP (n + 1) ls).map (·.2) = _
    rw [enumP_snd]
def keepW (prs : List (Nat × Str)) : List (Nat × List Str) := (prs.map fun q => (q.1, Txt.words q.2)).filter fun q => decide (q.2 ≠ [])
theorem words_ne (l : List Str) (h : ∀ w ∈ l, PyData.strOk w = true) : neD (.list (l.map PyData.str)) (.list []) = .ok (.bool (decide (l ≠ []))) := by
  have can : ∀ l : List Str, (∀ w ∈ l, PyData.strOk w = true) → PyData.canLayAll0 (l.map PyData.str) = true ∧ PyData.depthAll (l.map PyData.str) = 0 := by
    intro l
    induction l with
    | nil => intro _; exact ⟨by simp [PyData.canLayAll0], by simp [PyData.depthAll]⟩
    | cons x l ih =>
      intro h
      obtain ⟨a, b⟩ := ih fun w hw => h w (List.mem_cons_of_mem _ hw)
      have c := h x List.mem_cons_self
      rw [List.map_cons]
      exact ⟨by simp [PyData.canLayAll0, PyData.canLay0, a, c], by simp [PyData.depthAll, PyData.depth, b]⟩
  obtain ⟨a, b⟩ := can l h
  have s1 : SeqAt.shaped (.list (l.map PyData.str)) = true := by
    unfold SeqAt.shaped
    simp only [PyData.canLay0, PyData.depth, a, b]
    decide
  have s2 : SeqAt.shaped (.list []) = true := by
    unfold SeqAt.shaped
    simp only [PyData.canLay0, PyData.depth, PyData.canLayAll0, PyData.depthAll]
    decide
  rw [x_ne]
  show (if SeqAt.shaped (.list (l.map PyData.str)) = true ∧ SeqAt.shaped (.list []) = true then R.ok (PyData.eqv (.list (l.map PyData.str)) (.list [])) else .bad).bind _ = _
  rw [if_pos ⟨s1, s2⟩]
  cases l with
  | nil => simp [PyData.eqv, PyData.eqvAll]
  | cons x l => simp [PyData.eqv, PyData.eqvAll]
theorem rows_loop (zd : PD) : ∀ (prs : List (Nat × Str)) (acc : List (Nat × List Str)) (y2 y3 y4 : Option Sl), (∀ q ∈ prs, q.2.length ≤ 1000 ∧ ∀ w ∈ Txt.words q.2, PyData.strOk w = true) → acc.length + prs.length ≤ 1000 → ∃ z2 z3 z4,
    forD (aTup 2 (asCons (aName 2) (asCons (aName 3) asNil))) (killS [2, 3, 4] (sSeq (sSet 4 (eFz (eM0 wordsD (rVar 3)))) (sIf (bOf (eOp neD (rVar 4) (eFz (oLst aNil)))) (sAppend 1 (eTup (aCons (eVar 2) (aCons (eVar 4) aNil)))) sNext))) (prs.map eI)
      [some (.d zd), some (.o (.list (acc.map rI))), y2, y3, y4] = .nx [some (.d zd), some (.o (.list ((acc ++ keepW prs).map rI))), z2, z3, z4]
  | [], acc, y2, y3, y4, _, _ => ⟨y2, y3, y4, by unfold keepW; simp [forD]⟩
  | q :: prs, acc, y2, y3, y4, h, hl => by
    rw [List.length_cons] at hl
    obtain ⟨hq, hw⟩ := h q List.mem_cons_self
    have h' := fun r hr => h r (List.mem_cons_of_mem _ hr)
    have ne := words_ne (Txt.words q.2) hw
    have sl : q.2.length + 2 ≤ sizeLine := sz (by omega)
    have s2 : (2 : Nat) ≤ sizeLine := sz (by decide)
    rw [List.map_cons]
    unfold forD
    have ea : aTup 2 (asCons (aName 2) (asCons (aName 3) asNil)) [some (.d zd), some (.o (.list (acc.map rI))), y2, y3, y4] (eI q) = .ok [some (.d zd), some (.o (.list (acc.map rI))), some (.d (.int (q.1 : Nat))), some (.d (.str q.2)), y4] := rfl
    rw [ea]
    simp only
    have e4 : sSet 4 (eFz (eM0 wordsD (rVar 3))) [some (.d zd), some (.o (.list (acc.map rI))), some (.d (.int (q.1 : Nat))), some (.d (.str q.2)), y4] = .nx [some (.d zd), some (.o (.list (acc.map rI))), some (.d (.int (q.1 : Nat))), some (.d (.str q.2)), some (.d (.list ((Txt.words q.2).map PyData.str)))] := by
      rw [set_ok (x := .list ((Txt.words q.2).map PyData.str))]
      · rfl
      · simp only [x_eFz, x_eM0, rVar, List.getElem?_cons_succ, List.getElem?_cons_zero, x_bind_ok, x_strOf, x_words, if_pos sl]
        rfl
    rw [x_killS, seq_nx e4]
    have eq : eOp neD (rVar 4) (eFz (oLst aNil)) [some (.d zd), some (.o (.list (acc.map rI))), some (.d (.int (q.1 : Nat))), some (.d (.str q.2)), some (.d (.list ((Txt.words q.2).map PyData.str)))] = .ok (.bool (decide (Txt.words q.2 ≠ []))) := by
      have e0 : eFz (oLst aNil) [some (.d zd), some (.o (.list (acc.map rI))), some (.d (.int (q.1 : Nat))), some (.d (.str q.2)), some (.d (.list ((Txt.words q.2).map PyData.str)))] = .ok (.list []) := by simp
      rw [op_ok rfl e0]
      exact ne
    by_cases c : Txt.words q.2 = []
    · have cd : decide (Txt.words q.2 ≠ []) = false := decide_eq_false fun z => z c
      rw [cd] at eq
      rw [if_f (bof eq)]
      obtain ⟨z2, z3, z4, ih⟩ := rows_loop zd prs acc none none none h' (by omega)
      have ek : keepW (q :: prs) = keepW prs := by
        unfold keepW
        rw [List.map_cons, List.filter_cons, if_neg (by simpa using c)]
      rw [ek]
      exact ⟨z2, z3, z4, ih⟩
    · have cd : decide (Txt.words q.2 ≠ []) = true := decide_eq_true c
      rw [cd] at eq
      rw [if_t (bof eq)]
      rw [append_ok (ds := acc.map rI) (x := rI (q.1, Txt.words q.2)) rfl (by simp [eVar, s2, rI]) (by rw [List.length_map]; exact szl (by omega))]
      obtain ⟨z2, z3, z4, ih⟩ := rows_loop zd prs (acc ++ [(q.1, Txt.words q.2)]) none none none h' (by rw [List.length_append, List.length_singleton]; omega)
      have ek : acc ++ keepW (q :: prs) = acc ++ [(q.1, Txt.words q.2)] ++ keepW prs := by
        unfold keepW
        rw [List.map_cons, List.filter_cons, if_pos (by simpa using c), List.append_assoc]
        rfl
      refine ⟨z2, z3, z4, ?_⟩
      rw [ek]
      simp only [List.set]
      rw [show acc.map rI ++ [rI (q.1, Txt.words q.2)] = (acc ++ [(q.1, Txt.words q.2)]).map rI by rw [List.map_append]; rfl]
      exact ih
theorem keepW_snd (prs : List (Nat × Str)) : (keepW prs).map (·.2) = ((prs.map (·.2)).map Txt.words).filter fun l => decide (l ≠ []) := by
  unfold keepW
  induction prs with
  | nil => rfl
  | cons q prs ih =>
    rw [List.map_cons, List.map_cons, List.map_cons, List.filter_cons, List.filter_cons]
    by_cases c : Txt.words q.2 = []
    · rw [if_neg (by simpa using c), if_neg (by simpa using c)]
      exact ih
    · rw [if_pos (by simpa using c), if_pos (by simpa using c), List.map_cons, ih]
theorem keepW_rows (lines : List Str) : (keepW (enumP 0 lines)).map (·.2) = (lines.map Txt.words).filter fun l => decide (l ≠ []) := by rw [keepW_snd, enumP_snd]
theorem word_rows (z : Str) (lines : List Str) (e : Txt.split z nl = lines) (hz : z.length ≤ 10000) (h : ∀ l ∈ lines, l.length ≤ 1000 ∧ ∀ w ∈ Txt.words l, PyData.strOk w = true) (hn : lines.length ≤ 1000) :
    d_word_rows [.str z] = .rt (.o (.list ((keepW (enumP 0 lines)).map rI))) := by
  have s1 : z.length + 2 ≤ sizeLine := sz (by omega)
  have n1 : (nl.length == 0) = false := by decide +kernel
  have s0 : (0 : Nat) ≤ sizeLine := Nat.zero_le _
  obtain ⟨z2, z3, z4, el⟩ := rows_loop (.str z) (enumP 0 lines) [] none none none (fun q hq => h q.2 (by
      have := List.mem_map_of_mem (f := (·.2)) hq
      rwa [enumP_snd] at this)) (by
      have := congrArg List.length (enumP_snd lines 0)
      rw [List.length_map] at this
      simp
      omega)
  show (S_word_rows [some (.d (.str z)), none, none, none, none]).fr = _
  unfold S_word_rows
  rw [seq_nx (ρ1 := [some (.d (.str z)), some (.o (.list (([] : List (Nat × List Str)).map rI))), none, none, none]) (by simp)]
  rw [seq_nx (ρ1 := [some (.d (.str z)), some (.o (.list (([] ++ keepW (enumP 0 lines)).map rI))), z2, z3, z4]) (by
    rw [x_preK, x_sFor]
    simp only [List.foldl_cons, List.foldl_nil, List.set_cons_succ, List.set_cons_zero]
    have ei : iEnumD (aCons (eFz (eM1 splitD (rVar 0) (eC (.str (PySem.Str.ofString "\n"))))) aNil) [some (.d (.str z)), some (.o (.list (([] : List (Nat × List Str)).map rI))), none, none, none] = .ok ((enumP 0 lines).map eI) := by
      have es : eFz (eM1 splitD (rVar 0) (eC (.str (PySem.Str.ofString "\n")))) [some (.d (.str z)), some (.o (.list (([] : List (Nat × List Str)).map rI))), none, none, none] = .ok (.list (lines.map PyData.str)) := by
        simp only [x_eFz, x_eM1, rVar, x_eC, List.getElem?_cons_zero, x_bind_ok, x_strOf, x_split]
        rw [if_pos ⟨n1, s1⟩]
        show R.ok (PyData.list ((Txt.split z nl).map PyData.str)) = _
        rw [e]
      rw [x_iEnum, x_aCons, es, x_bind_ok, x_aNil, x_bind_ok, x_bind_ok, x_enumO]
      unfold enumD
      rw [enum_eq]
    rw [ei, x_of_ok]
    exact el)]
  rfl
end K03
namespace K03
open PySem L2 DL
/-! ### the law's text -/
theorem sp32 : Unicode.isSpace 32 = true := by decide +kernel
theorem nospace {c : Nat} (h : 33 ≤ c ∧ c ≤ 122) : Unicode.isSpace c = false := by
  have all : (List.range' 33 90).all (fun c => !Unicode.isSpace c) = true := by decide +kernel
  have := List.all_eq_true.mp all c (List.mem_range'.mpr ⟨c - 33, by omega, by omega⟩)
  simpa using this
abbrev wfold (l : List Nat) : List (List Nat) × List Nat := l.foldl TL.wstep ([], [])
theorem fold_spaces : ∀ (n : Nat) (ws : List (List Nat)), (List.replicate n 32).foldl TL.wstep (ws, []) = (ws, [])
  | 0, _ => rfl
  | n + 1, ws => by
    rw [List.replicate_succ, List.foldl_cons]
    have e : TL.wstep (ws, []) 32 = (ws, []) := by
      unfold TL.wstep
      rw [if_pos sp32]
      rfl
    rw [e]
    exact fold_spaces n ws
theorem fold_word (w : Str) (hw : Wc w) (n : Nat) (hn : 1 ≤ n) (ws : List (List Nat)) : (cs w ++ List.replicate n 32).foldl TL.wstep (ws, []) = (ws ++ [cs w], []) := by
  rw [List.foldl_append, TL.wfold_word (cs w) ws [] fun c hc => nospace (hw.ch c hc), List.nil_append]
  obtain ⟨m, rfl⟩ : ∃ m, n = m + 1 := ⟨n - 1, by omega⟩
  rw [List.replicate_succ, List.foldl_cons]
  have ne : cs w ≠ [] := by
    intro q
    have := cs_len w
    rw [q] at this
    have := hw.lo
    simp at *
    omega
  have e : TL.wstep (ws, cs w) 32 = (ws ++ [cs w], []) := by
    unfold TL.wstep
    rw [if_pos sp32, if_neg ne]
  rw [e]
  exact fold_spaces m _
/-- a line: the words that it has; no line end in it -/
structure Ln (z : Str) (ws : List Str) (n : Nat) : Prop where
  f : wfold (cs z) = (ws.map cs, [])
  no : ∀ c ∈ cs z, c ≠ 10
  len : z.length ≤ n
theorem sp_str : Str.ofString " " = sg 32 := by decide +kernel
theorem Ln.spaces (k : Int) (n : Nat) (h : k ≤ n) : Ln (mulS (sg 32) k) [] n := by
  have e : cs (mulS (sg 32) k) = List.replicate k.toNat 32 := mulS_sg 32 k
  refine ⟨?_, fun c hc => ?_, ?_⟩
  · unfold wfold
    rw [e]
    exact fold_spaces _ _
  · rw [e] at hc
    have := (List.mem_replicate.mp hc).2
    omega
  · rw [mulS_len, sg_len]
    omega
theorem Ln.word {z : Str} {ws : List Str} {n : Nat} (h : Ln z ws n) (w : Str) (hw : Wc w) (k : Int) (h1 : 1 ≤ k) (h2 : k ≤ 2) : Ln (z ++ w ++ mulS (sg 32) k) (ws ++ [w]) (n + 12) := by
  have e : cs (mulS (sg 32) k) = List.replicate k.toNat 32 := mulS_sg 32 k
  refine ⟨?_, fun c hc => ?_, ?_⟩
  · unfold wfold
    rw [cs_app, cs_app, e, List.append_assoc, List.foldl_append]
    have := h.f
    unfold wfold at this
    rw [this, fold_word w hw _ (by omega), List.map_append]
    rfl
  · rw [cs_app, cs_app, e] at hc
    rcases List.mem_append.mp hc with q | q
    · rcases List.mem_append.mp q with q | q
      · exact h.no c q
      · have := hw.ch c q
        omega
    · have := (List.mem_replicate.mp q).2
      omega
  · rw [len_app, len_app, mulS_len, sg_len]
    have := h.len
    have := hw.hi
    omega
theorem Ln.words {z : Str} {ws : List Str} {n : Nat} (h : Ln z ws n) : Txt.words z = ws := by
  have e := TL.words_tl z
  have f := h.f
  unfold wfold at f
  rw [show TL.tl z = cs z from rfl, f] at e
  have e : (Txt.words z).map cs = ws.map cs := e
  have go : ∀ a b : List Str, a.map cs = b.map cs → a = b := by
    intro a
    induction a with
    | nil =>
      intro b hb
      cases b with
      | nil => rfl
      | cons _ _ => cases hb
    | cons x a ih =>
      intro b hb
      cases b with
      | nil => cases hb
      | cons y b =>
        rw [List.map_cons, List.map_cons] at hb
        injection hb with h1 h2
        rw [cs_ext h1, ih b h2]
  exact go _ _ e
theorem x_mul_sp (k : Int) (h : 0 ≤ k) (h2 : k ≤ 10) : mulD (.str (Str.ofString " ")) (.int k) = .ok (.str (mulS (sg 32) k)) := by
  rw [sp_str]
  exact x_mul_s (sg 32) k (by omega) (by omega) (sz (by rw [sg_len]; omega))
theorem line_loop (s0 s1 s2 s3 : Option Sl) : ∀ (ws : List Str) (m : Int) (z : Str) (done : List Str) (n : Nat) (y6 : Option Sl), 0 ≤ m → (∀ w ∈ ws, Wc w) → Ln z done n → n + 12 * ws.length ≤ 1000 → ∃ m' z' z6, 0 ≤ m' ∧ Ln z' (done ++ ws) (n + 12 * ws.length) ∧
    forD (aName 6) (killS [6] (sSeq (sSet 5 (eOp addD (eOp addD (rVar 5) (rVar 6)) (eOp mulD (eC (.str (PySem.Str.ofString " "))) (eOp addD (eC (.int 1)) (eOp modD (eOp divD (rVar 4) (eC (.int 3))) (eC (.int 2))))))) (sSet 4 (eOp divD (rVar 4) (eC (.int 2)))))) (ws.map PyData.str)
      [s0, s1, s2, s3, some (.d (.int m)), some (.d (.str z)), y6] = .nx [s0, s1, s2, s3, some (.d (.int m')), some (.d (.str z')), z6]
  | [], m, z, done, n, y6, hm, _, hz, _ => ⟨m, z, y6, hm, by rw [List.append_nil]; exact hz, rfl⟩
  | w :: ws, m, z, done, n, y6, hm, hw, hz, hn => by
    rw [List.length_cons] at hn
    have w1 := hw w List.mem_cons_self
    have q := hz.word w w1 (1 + m / 3 % 2) (by omega) (by omega)
    obtain ⟨m', z', z6, i1, i2, ih⟩ := line_loop s0 s1 s2 s3 ws (m / 2) _ (done ++ [w]) (n + 12) none (by omega) (fun v hv => hw v (List.mem_cons_of_mem _ hv)) q (by omega)
    refine ⟨m', z', z6, i1, ?_, ?_⟩
    · rw [List.append_assoc] at i2
      have e : n + 12 + 12 * ws.length = n + 12 * (w :: ws).length := by rw [List.length_cons]; omega
      rw [← e]
      exact i2
    · rw [List.map_cons]
      unfold forD
      rw [x_aName]
      simp only [List.set]
      have l0 := hz.len
      have l1 := w1.hi
      have a1 : z.length + w.length ≤ sizeLine := sz (by omega)
      have a2 : (z ++ w).length + (mulS (sg 32) (1 + m / 3 % 2)).length ≤ sizeLine := sz (by rw [len_app, mulS_len, sg_len]; omega)
      have d3 := x_div m 3 (by decide) (by decide)
      have d2 := x_div m 2 (by decide) (by decide)
      have m2 := x_mod (m / 3) 2 (by decide)
      have em : eOp mulD (eC (.str (PySem.Str.ofString " "))) (eOp addD (eC (.int 1)) (eOp modD (eOp divD (rVar 4) (eC (.int 3))) (eC (.int 2)))) [s0, s1, s2, s3, some (.d (.int m)), some (.d (.str z)), some (.d (.str w))] = .ok (.str (mulS (sg 32) (1 + m / 3 % 2))) :=
        (op_ok (a := .str (Str.ofString " ")) (b := .int (1 + m / 3 % 2)) rfl ((op_ok (a := .int 1) (b := .int (m / 3 % 2)) rfl ((op_ok (a := .int (m / 3)) (b := .int 2) ((op_ok (a := .int m) (b := .int 3) rfl rfl).trans d3) rfl).trans m2)).trans (x_add_i _ _))).trans (x_mul_sp _ (by omega) (by omega))
      have e5 : sSet 5 (eOp addD (eOp addD (rVar 5) (rVar 6)) (eOp mulD (eC (.str (PySem.Str.ofString " "))) (eOp addD (eC (.int 1)) (eOp modD (eOp divD (rVar 4) (eC (.int 3))) (eC (.int 2)))))) [s0, s1, s2, s3, some (.d (.int m)), some (.d (.str z)), some (.d (.str w))] = .nx [s0, s1, s2, s3, some (.d (.int m)), some (.d (.str (z ++ w ++ mulS (sg 32) (1 + m / 3 % 2)))), some (.d (.str w))] := by
        rw [set_ok (x := .str (z ++ w ++ mulS (sg 32) (1 + m / 3 % 2)))]
        · rfl
        · rw [op_ok (a := .str (z ++ w)) (b := .str (mulS (sg 32) (1 + m / 3 % 2))) ((op_ok (a := .str z) (b := .str w) rfl rfl).trans (by rw [x_add_s, if_pos a1])) em, x_add_s, if_pos a2]
      rw [x_killS, seq_nx e5, set_ok (x := .int (m / 2)) ((op_ok (a := .int m) (b := .int 2) rfl rfl).trans d2)]
      exact ih
/-- lines and the rows that they tell -/
structure TL2 (lines : List Str) (rows : List (List Str)) : Prop where
  w : (lines.map Txt.words).filter (fun l => decide (l ≠ [])) = rows
  ok : ∀ l ∈ lines, (∀ c ∈ cs l, c ≠ 10) ∧ l.length ≤ 100
theorem TL2.row {lines : List Str} {rows : List (List Str)} (h : TL2 lines rows) {z : Str} {r : List Str} {n : Nat} (hz : Ln z r n) (hn : n ≤ 100) (hr : r ≠ []) : TL2 (lines ++ [z]) (rows ++ [r]) := by
  refine ⟨?_, fun l hl => ?_⟩
  · rw [List.map_append, List.filter_append, h.w]
    show _ ++ List.filter _ [Txt.words z] = _
    rw [hz.words, List.filter_cons, if_pos (by simpa using hr)]
    rfl
  · rcases List.mem_append.mp hl with q | q
    · exact h.ok l q
    · rw [List.mem_singleton] at q
      subst q
      exact ⟨hz.no, by have := hz.len; omega⟩
theorem TL2.blank {lines : List Str} {rows : List (List Str)} (h : TL2 lines rows) {z : Str} {n : Nat} (hz : Ln z [] n) (hn : n ≤ 100) : TL2 (lines ++ [z]) rows := by
  refine ⟨?_, fun l hl => ?_⟩
  · rw [List.map_append, List.filter_append, h.w]
    show _ ++ List.filter _ [Txt.words z] = _
    rw [hz.words]
    simp
  · rcases List.mem_append.mp hl with q | q
    · exact h.ok l q
    · rw [List.mem_singleton] at q
      subst q
      exact ⟨hz.no, by have := hz.len; omega⟩
theorem TL2.ahead {lines : List Str} {rows : List (List Str)} (h : TL2 lines rows) : TL2 (eS :: lines) rows := by
  have e : Txt.words eS = [] := by decide +kernel
  refine ⟨?_, fun l hl => ?_⟩
  · rw [List.map_cons, e, List.filter_cons, if_neg (by simp)]
    exact h.w
  · rcases List.mem_cons.mp hl with q | q
    · subst q
      have e2 : cs eS = [] := by decide +kernel
      exact ⟨fun c hc => (by rw [e2] at hc; exact nomatch hc), by rw [← cs_len, e2]; exact Nat.zero_le _⟩
    · exact h.ok l q
/-- split again -/
theorem TL2.split {lines : List Str} {rows : List (List Str)} (h : TL2 lines rows) : ∃ ls, Txt.split (Txt.join nl lines) nl = ls ∧ TL2 ls rows ∧ ls.length ≤ lines.length + 1 := by
  by_cases c : lines = []
  · subst c
    have e : Txt.split (Txt.join nl []) nl = [eS] := by decide +kernel
    exact ⟨[eS], e, h.ahead, by simp⟩
  · have ey : TL.tl nl = 10 :: [] := by decide +kernel
    have hk : nl.cps.all (· < 256) = true := by decide +kernel
    exact ⟨lines, TL.split_join ey hk c fun p hp q => (h.ok p hp).1 10 q rfl, h, by omega⟩
end K03
namespace K03
open PySem L2 DL
def rowD (r : List Str) : PD := .list (r.map PyData.str)
theorem text_turn (rowsD : PD) (s k m0 : Int) (lines : List Str) (rows : List (List Str)) (r : List Str) (hr : r ≠ []) (hw : ∀ w ∈ r, Wc w) (hl : r.length ≤ 5) (h : TL2 lines rows) (hn : lines.length ≤ 100) (hm : 0 ≤ m0)
    (em : d_law_mix [.int s, .int k, .int 1313131313131313131] = .rt (.d (.int m0))) (er : ixD rowsD (.int k) = .ok (rowD r)) (y4 y5 y6 : Option Sl) : ∃ lines' z4 z5 z6, TL2 lines' (rows ++ [r]) ∧ lines'.length ≤ lines.length + 2 ∧
    (sSeq (sSet 4 (eCall 3 d_law_mix (aCons (eVar 1) (aCons (eVar 3) (aCons (eC (.int 1313131313131313131)) aNil))))) (sSeq (sSet 5 (eOp mulD (eC (.str (PySem.Str.ofString " "))) (eOp modD (rVar 4) (eC (.int 3))))) (sSeq (preK [6] (sFor (iItems (eOp ixD (rVar 0) (rVar 3))) (aName 6) (killS [6] (sSeq (sSet 5 (eOp addD (eOp addD (rVar 5) (rVar 6)) (eOp mulD (eC (.str (PySem.Str.ofString " "))) (eOp addD (eC (.int 1)) (eOp modD (eOp divD (rVar 4) (eC (.int 3))) (eC (.int 2))))))) (sSet 4 (eOp divD (rVar 4) (eC (.int 2)))))))) (sSeq (sAppend 2 (eVar 5)) (sIf (bOf (eOp eqD (eOp modD (rVar 4) (eC (.int 5))) (eC (.int 1)))) (sAppend 2 (eOp mulD (eC (.str (PySem.Str.ofString " "))) (eOp modD (eOp divD (rVar 4) (eC (.int 5))) (eC (.int 2))))) sNext)))))
      [some (.d rowsD), some (.d (.int s)), some (.o (.list (lines.map PyData.str))), some (.d (.int k)), y4, y5, y6] = .nx [some (.d rowsD), some (.d (.int s)), some (.o (.list (lines'.map PyData.str))), some (.d (.int k)), z4, z5, z6] := by
  rw [seq_nx (set_ok (x := .int m0) (call3 rfl rfl rfl em))]
  simp only [List.set]
  have m3 := x_mod m0 3 (by decide)
  rw [seq_nx (set_ok (x := .str (mulS (sg 32) (m0 % 3))) ((op_ok (a := .str (Str.ofString " ")) (b := .int (m0 % 3)) rfl ((op_ok (a := .int m0) (b := .int 3) rfl rfl).trans m3)).trans (x_mul_sp _ (by omega) (by omega))))]
  simp only [List.set]
  obtain ⟨m, z, z6, hm', hz, ef⟩ := line_loop (some (.d rowsD)) (some (.d (.int s))) (some (.o (.list (lines.map PyData.str)))) (some (.d (.int k))) r m0 _ [] 3 none hm hw (Ln.spaces (m0 % 3) 3 (by omega)) (by omega)
  rw [List.nil_append] at hz
  rw [seq_nx (ρ1 := [some (.d rowsD), some (.d (.int s)), some (.o (.list (lines.map PyData.str))), some (.d (.int k)), some (.d (.int m)), some (.d (.str z)), z6]) (by
    rw [x_preK, x_sFor, x_iItems]
    simp only [List.foldl_cons, List.foldl_nil, List.set_cons_succ, List.set_cons_zero]
    rw [op_ok (a := rowsD) (b := .int k) rfl rfl, er]
    exact ef)]
  have t1 := h.row hz (by omega) hr
  rw [seq_nx (append_ok (ds := lines.map PyData.str) (x := .str z) rfl rfl (by rw [List.length_map]; exact szl (by omega)))]
  simp only [List.set]
  rw [show lines.map PyData.str ++ [PyData.str z] = (lines ++ [z]).map PyData.str by rw [List.map_append]; rfl]
  have m5 := x_mod m 5 (by decide)
  have d5 := x_div m 5 (by decide) (by decide)
  have m2 := x_mod (m / 5) 2 (by decide)
  by_cases c : m % 5 = 1
  · refine ⟨lines ++ [z] ++ [mulS (sg 32) (m / 5 % 2)], some (.d (.int m)), some (.d (.str z)), z6, t1.blank (Ln.spaces (m / 5 % 2) 3 (by omega)) (by omega), by simp, ?_⟩
    rw [if_t (bof ((op_ok (a := .int (m % 5)) (b := .int 1) ((op_ok (a := .int m) (b := .int 5) rfl rfl).trans m5) rfl).trans (by rw [x_eq, x_eqB_i, c]; rfl)))]
    rw [append_ok (ds := (lines ++ [z]).map PyData.str) (x := .str (mulS (sg 32) (m / 5 % 2))) rfl ((op_ok (a := .str (Str.ofString " ")) (b := .int (m / 5 % 2)) rfl ((op_ok (a := .int (m / 5)) (b := .int 2) ((op_ok (a := .int m) (b := .int 5) rfl rfl).trans d5) rfl).trans m2)).trans (x_mul_sp _ (by omega) (by omega))) (by rw [List.length_map, List.length_append, List.length_singleton]; exact szl (by omega))]
    simp only [List.set]
    rw [show (lines ++ [z]).map PyData.str ++ [PyData.str (mulS (sg 32) (m / 5 % 2))] = (lines ++ [z] ++ [mulS (sg 32) (m / 5 % 2)]).map PyData.str by rw [List.map_append (l₁ := lines ++ [z])]; rfl]
  · refine ⟨lines ++ [z], some (.d (.int m)), some (.d (.str z)), z6, t1, by simp, ?_⟩
    rw [if_f (bof ((op_ok (a := .int (m % 5)) (b := .int 1) ((op_ok (a := .int m) (b := .int 5) rfl rfl).trans m5) rfl).trans (by rw [x_eq, x_eqB_i, decide_eq_false c]; rfl)))]
    rfl
theorem mix_nn (a b c : Int) : 0 ≤ (a + b * b + 1) * c % 2305843009213693951 := Int.emod_nonneg _ (by decide)
theorem row_ix (rows : List (List Str)) (i : Nat) (hi : i < rows.length) : ixD (.list (rows.map rowD)) (.int (0 + (i : Int))) = .ok (rowD (rows[i]'hi)) :=
  x_ix_l (rows.map rowD) (0 + (i : Int)) (rowD (rows[i]'hi)) (by omega) (by
    rw [show (0 + (i : Int)).toNat = i by omega, List.getElem?_map, List.getElem?_eq_getElem hi]
    rfl)
theorem k_nn (i : Nat) : (0 : Int) ≤ 0 + (i : Int) := by omega
theorem k_lt (i : Nat) (h : i < 1000) : (0 + (i : Int)) < 1000 := by omega
theorem law_text (rows : List (List Str)) (s : Int) (h0 : 0 ≤ s) (hr : ∀ r ∈ rows, r ≠ [] ∧ (∀ w ∈ r, Wc w) ∧ r.length ≤ 5) (hl : rows.length ≤ 15) : ∃ lines : List Str, d_law_text [.list (rows.map rowD), .int s] = .rt (.d (.str (Txt.join nl lines))) ∧ TL2 lines rows ∧ lines.length ≤ 40 := by
  show ∃ lines : List Str, (S_law_text [some (.d (.list (rows.map rowD))), some (.d (.int s)), none, none, none, none, none]).fr = _ ∧ _
  unfold S_law_text
  rw [seq_nx (ρ1 := [some (.d (.list (rows.map rowD))), some (.d (.int s)), some (.o (.list (([] : List Str).map PyData.str))), none, none, none, none]) (by simp)]
  rw [x_sSeq, x_preK, x_sFor]
  simp only [List.foldl_cons, List.foldl_nil, List.set_cons_succ, List.set_cons_zero]
  have e1 : (iRng1D (aCons (eCB lenD (aCons (rVar 0) aNil)) aNil)) [some (.d (.list (rows.map rowD))), some (.d (.int s)), some (.o (.list (([] : List Str).map PyData.str))), none, none, none, none] = .ok (rngD 0 rows.length) := by
    show (R.ok [PyData.int ((rows.map rowD).length : Nat)]).bind rng1 = _
    rw [x_bind_ok, List.length_map]
    exact rng_ok _ (by omega)
  rw [e1, x_of_ok]
  refine forD_by (P := fun r => ∃ lines : List Str, (r.seq (sSeq (sIf (bOf (eOp eqD (eOp modD (eOp divD (rVar 1) (eC (.int 3))) (eC (.int 4))) (eC (.int 1)))) (sInsertD 2 (eC (.int 0)) (eC (.str (PySem.Str.ofString "")))) sNext) (sRet (eM1 joinD (eC (.str (PySem.Str.ofString "\n"))) (rVar 2))))).fr = .rt (.d (.str (Txt.join nl lines))) ∧ TL2 lines rows ∧ lines.length ≤ 40)
    (fun i ρ => ∃ (lines : List Str) (y3 y4 y5 y6 : Option Sl), TL2 lines (rows.take i) ∧ lines.length ≤ 2 * i ∧ ρ = [some (.d (.list (rows.map rowD))), some (.d (.int s)), some (.o (.list (lines.map PyData.str))), y3, y4, y5, y6]) ⟨[], none, none, none, none, ⟨rfl, fun l hl => nomatch hl⟩, Nat.zero_le _, rfl⟩ ?_ ?_
  · rintro i x ρ hx ⟨lines, y3, y4, y5, y6, t, hn, rfl⟩
    obtain ⟨hi, rfl⟩ := rng_get hx
    have er := row_ix rows i hi
    have k0 : (0 : Int) ≤ 0 + (i : Int) := k_nn i
    have k1 : (0 + (i : Int)) < 1000 := k_lt i (Nat.lt_of_lt_of_le hi (Nat.le_trans hl (by decide)))
    generalize (0 + (i : Int)) = k at er k0 k1 ⊢
    obtain ⟨r1, r2, r3⟩ := hr (rows[i]'hi) (List.getElem_mem hi)
    have em := law_mix s k 1313131313131313131 k0 k1 (by decide) (by decide)
    have hm := mix_nn s k 1313131313131313131
    generalize (s + k * k + 1) * 1313131313131313131 % 2305843009213693951 = m0 at em hm
    obtain ⟨lines', z4, z5, z6, t', hn', e⟩ := text_turn (.list (rows.map rowD)) s k m0 lines (rows.take i) (rows[i]'hi) r1 r2 r3 t (by omega) hm em er y4 y5 y6
    rw [List.take_append_getElem hi] at t'
    refine ⟨[some (.d (.list (rows.map rowD))), some (.d (.int s)), some (.o (.list (lines.map PyData.str))), some (.d (.int k)), y4, y5, y6], rfl, ?_⟩
    rw [x_killS, e]
    exact ⟨lines', _, _, _, _, t', by omega, rfl⟩
  · rintro ρ ⟨lines, y3, y4, y5, y6, t, hn, rfl⟩
    have el : (rngD 0 rows.length).length = rows.length := by rw [rngD, List.length_map, List.length_range]
    rw [el] at t hn
    rw [List.take_length] at t
    have d3 := x_div s 3 (by decide) (by decide)
    have m4 := x_mod (s / 3) 4 (by decide)
    obtain ⟨lines', t', hn', e⟩ : ∃ lines', TL2 lines' rows ∧ lines'.length ≤ 40 ∧ sIf (bOf (eOp eqD (eOp modD (eOp divD (rVar 1) (eC (.int 3))) (eC (.int 4))) (eC (.int 1)))) (sInsertD 2 (eC (.int 0)) (eC (.str (PySem.Str.ofString "")))) sNext [some (.d (.list (rows.map rowD))), some (.d (.int s)), some (.o (.list (lines.map PyData.str))), y3, y4, y5, y6] = .nx [some (.d (.list (rows.map rowD))), some (.d (.int s)), some (.o (.list (lines'.map PyData.str))), y3, y4, y5, y6] := by
      have q := (op_ok (ρ := [some (.d (.list (rows.map rowD))), some (.d (.int s)), some (.o (.list (lines.map PyData.str))), y3, y4, y5, y6]) (f := eqD) (a := .int (s / 3 % 4)) (b := .int 1) ((op_ok (a := .int (s / 3)) (b := .int 4) ((op_ok (ga := rVar 1) (gb := eC (.int 3)) (a := .int s) (b := .int 3) rfl rfl).trans d3) (x_eC _ _)).trans m4) (x_eC _ _))
      by_cases c : s / 3 % 4 = 1
      · refine ⟨eS :: lines, t.ahead, by rw [List.length_cons]; omega, ?_⟩
        rw [if_t (bof (q.trans (by rw [x_eq, x_eqB_i, c]; rfl)))]
        rw [x_sInsertD]
        unfold ownL
        show insS _ 2 (lines.map PyData.str) (PyData.str eS) (.int 0) = _
        unfold insS
        have hlen : (lines.map PyData.str).length < sizeLine ∧ (0 : Int) ≤ 0 ∧ (0 : Int) < 2 ^ 63 := ⟨by rw [List.length_map]; exact szl (by omega), by decide, by decide⟩
        simp only [if_pos hlen]
        rfl
      · refine ⟨lines, t, by omega, ?_⟩
        rw [if_f (bof (q.trans (by rw [x_eq, x_eqB_i, decide_eq_false c]; rfl)))]
        rfl
    refine ⟨lines', ?_, t', by omega⟩
    rw [x_seq_nx, seq_nx e]
    rw [ret_ok (x := .str (Txt.join nl lines'))]
    · rfl
    · have sl := sum_le lines' 100 fun z hz => (t'.ok z hz).2
      have nlen : nl.length = 1 := by decide +kernel
      show strOf (.str nl) ((R.ok (PyData.list (lines'.map PyData.str))).bind fun b => joinD (.str nl) [b]) = _
      rw [x_strOf, x_bind_ok]
      exact x_join nl lines' (by rw [nlen]; omega)
end K03
/-! read_kinds -/
namespace K03
open PySem L2 DL
noncomputable section
theorem gr_tail : ∀ (a b : Ks), Gr (a ++ b) → Gr b
  | [], _, h => h
  | _ :: a, b, h => gr_tail a b h.2.2.2
theorem gr_at {ds l : Ks} {p : Str × Str} (h : Gr (ds ++ p :: l).reverse) : p.1 ∉ ds.map (·.1) ∧ (p.2 = eS ∨ p.2 ∈ ds.map (·.1)) := by
  have e : (ds ++ p :: l).reverse = l.reverse ++ (p :: ds.reverse) := by simp
  rw [e] at h
  have g := gr_tail _ _ h
  refine ⟨fun q => g.2.1 (by rw [List.map_reverse]; exact List.mem_reverse.mpr q), ?_⟩
  rcases g.2.2.1 with q | q
  · exact .inl q
  · exact .inr (by rw [List.map_reverse] at q; exact List.mem_reverse.mp q)
theorem lc_names : ∀ (ds : Ks) (ρ : Rho), (∃ s0 s1 s2 s3 s4 s5, ρ = [s0, s1, s2, s3, s4, s5, none, none]) → lcL (lcE (aTup 2 (asCons (aName 6) (asCons (aName 7) asNil))) gYes (eVar 6) ρ) (ds.map kI) = .ok ((ds.map (·.1)).map PyData.str)
  | [], _, _ => rfl
  | p :: ds, ρ, h => by
    have ih := lc_names ds ρ h
    obtain ⟨s0, s1, s2, s3, s4, s5, rfl⟩ := h
    rw [List.map_cons]
    unfold lcL
    have e : lcE (aTup 2 (asCons (aName 6) (asCons (aName 7) asNil))) gYes (eVar 6) [s0, s1, s2, s3, s4, s5, none, none] (kI p) = .ok (some (.str p.1)) := rfl
    rw [e, x_bind_ok, ih]
    rfl
theorem names_ok (s0 s2 s3 s4 s5 s6 s7 : Option Sl) (ds : Ks) (hl : ds.length ≤ 100) : eFz (oUnf 1 (oLc (iItems (eVar 1)) (aTup 2 (asCons (aName 6) (asCons (aName 7) asNil))) gYes (eVar 6) [6, 7])) [s0, some (.o (.list (ds.map kI))), s2, s3, s4, s5, s6, s7] = .ok (.list ((ds.map (·.1)).map PyData.str)) := by
  have e1 : oLc (iItems (eVar 1)) (aTup 2 (asCons (aName 6) (asCons (aName 7) asNil))) gYes (eVar 6) [6, 7] [s0, some (.d (.list (ds.map kI))), s2, s3, s4, s5, s6, s7] = .ok (.list ((ds.map (·.1)).map PyData.str)) := by
    show (R.ok (ds.map kI)).bind (fun xs => (noExc (lcL (lcE (aTup 2 (asCons (aName 6) (asCons (aName 7) asNil))) gYes (eVar 6) [s0, some (.d (.list (ds.map kI))), s2, s3, s4, s5, none, none]) xs)).bind fun l => if l.length ≤ sizeLine then R.ok (PyData.list l) else .bad) = _
    rw [x_bind_ok, lc_names ds _ ⟨_, _, _, _, _, _, rfl⟩, x_noExc_ok, x_bind_ok, if_pos (sz (by rw [List.length_map, List.length_map]; omega))]
  show ((oLc (iItems (eVar 1)) (aTup 2 (asCons (aName 6) (asCons (aName 7) asNil))) gYes (eVar 6) [6, 7] [s0, some (.d (.list (ds.map kI))), s2, s3, s4, s5, s6, s7]).bind scalL).bind notDict = _
  rw [e1, x_bind_ok]
  show (if ((ds.map (·.1)).map PyData.str).all scalD = true then R.ok (PyData.list ((ds.map (·.1)).map PyData.str)) else .bad).bind notDict = _
  rw [if_pos (scal_strs _)]
  rfl
def rkB : Rho → SR := (killS [2, 3, 4, 5] (sSeq (sSet 4 (eCall 1 d_kind_written (aCons (eVar 3) aNil))) (sSeq (sIf (bOf (eOp isND (rVar 4) (eC .none))) (sRaise "BadRow" ["row"] (aCons (eVar 2) aNil)) sNext) (sSeq (sSet 5 (eFz (oUnf 1 (oLc (iItems (eVar 1)) (aTup 2 (asCons (aName 6) (asCons (aName 7) asNil))) gYes (eVar 6) [6, 7])))) (sSeq (sIf (bOf (eOp inD (eOp ixD (rVar 4) (eC (.int 0))) (rVar 5))) (sRaise "Twice" ["row"] (aCons (eVar 2) aNil)) sNext) (sSeq (sIf (bAnd (bOf (eOp neD (eOp ixD (rVar 4) (eC (.int 1))) (eC (.str (PySem.Str.ofString ""))))) (bOf (eOp ninD (eOp ixD (rVar 4) (eC (.int 1))) (rVar 5)))) (sRaise "NoKind" ["claim", "row"] (aCons (eC (.int 0)) (aCons (eVar 2) aNil))) sNext) (sSeq (sIf (bOf (eOp eqD (eCB lenD (aCons (rVar 1) aNil)) (eC (.int 12)))) (sRaise "TooBig" ["claim", "row"] (aCons (eC (.int 0)) (aCons (eVar 2) aNil))) sNext) (sAppend 1 (eVar 4)))))))))
theorem read_loop (td : PD) (T : List PD) : ∀ (l ds : Ks) (L : List (Nat × List Str)) (y2 y3 y4 y5 y6 y7 : Option Sl), L.map (·.2) = l.map rowOf → Gr (ds ++ l).reverse → ds.length + l.length ≤ 12 → (∀ p ∈ l, isW p.1 = true ∧ p.1.length ≤ 8 ∧ (p.2 = eS ∨ isW p.2 = true ∧ p.2.length ≤ 8)) → ∃ z2 z3 z4 z5 z6 z7,
    forD (aTup 2 (asCons (aName 2) (asCons (aName 3) asNil))) rkB (L.map rI ++ T)
      [some (.d td), some (.o (.list (ds.map kI))), y2, y3, y4, y5, y6, y7] = forD (aTup 2 (asCons (aName 2) (asCons (aName 3) asNil))) rkB T [some (.d td), some (.o (.list ((ds ++ l).map kI))), z2, z3, z4, z5, z6, z7] := by
  intro l
  induction l with
  | nil =>
    intro ds L y2 y3 y4 y5 y6 y7 e _ _ _
    have : L = [] := List.map_eq_nil_iff.mp e
    subst this
    exact ⟨y2, y3, y4, y5, y6, y7, by rw [List.append_nil]; rfl⟩
  | cons p l ih =>
    intro ds L y2 y3 y4 y5 y6 y7 e hg hl hw
    cases L with
    | nil => cases e
    | cons q L =>
      rw [List.map_cons, List.map_cons] at e
      injection e with e1 e2
      rw [List.length_cons] at hl
      obtain ⟨g1, g2⟩ := gr_at hg
      obtain ⟨w1, w2, w3⟩ := hw p List.mem_cons_self
      have kr := kind_row p w1 w2 w3
      rw [← e1] at kr
      obtain ⟨z2, z3, z4, z5, z6, z7, ihe⟩ := ih (ds ++ [p]) L none none none none y6 y7 e2 (by rw [List.append_assoc]; exact hg) (by rw [List.length_append, List.length_singleton]; omega) fun r hr => hw r (List.mem_cons_of_mem _ hr)
      refine ⟨z2, z3, z4, z5, z6, z7, ?_⟩
      rw [List.map_cons, List.cons_append]
      rw [forD]
      have ea : aTup 2 (asCons (aName 2) (asCons (aName 3) asNil)) [some (.d td), some (.o (.list (ds.map kI))), y2, y3, y4, y5, y6, y7] (rI q) = .ok [some (.d td), some (.o (.list (ds.map kI))), some (.d (.int (q.1 : Nat))), some (.d (.list (q.2.map PyData.str))), y4, y5, y6, y7] := rfl
      rw [ea]
      simp only
      unfold rkB
      rw [x_killS]
      rw [seq_nx (set_ok (x := kI p) (call1 rfl kr))]
      simp only [List.set]
      rw [seq_nx (ρ1 := [some (.d td), some (.o (.list (ds.map kI))), some (.d (.int (q.1 : Nat))), some (.d (.list (q.2.map PyData.str))), some (.d (kI p)), y5, y6, y7]) (by
        rw [if_f (bof (b := false) rfl)]
        rfl)]
      rw [seq_nx (s := sSet 5 _) (set_ok (names_ok _ _ _ _ _ _ _ ds (by omega)))]
      simp only [List.set]
      have i0 : ixD (kI p) (.int 0) = .ok (.str p.1) := x_ix_t _ 0 _ (by decide) rfl
      have i1 : ixD (kI p) (.int 1) = .ok (.str p.2) := x_ix_t _ 1 _ (by decide) rfl
      rw [seq_nx (ρ1 := [some (.d td), some (.o (.list (ds.map kI))), some (.d (.int (q.1 : Nat))), some (.d (.list (q.2.map PyData.str))), some (.d (kI p)), some (.d (.list ((ds.map (·.1)).map PyData.str))), y6, y7]) (by
        rw [if_f (bof ((in_strs (l := ds.map (·.1)) (a := p.1) ((op_ok (a := kI p) (b := .int 0) rfl rfl).trans i0) rfl).trans (by rw [decide_eq_false g1])))]
        rfl)]
      rw [seq_nx (ρ1 := [some (.d td), some (.o (.list (ds.map kI))), some (.d (.int (q.1 : Nat))), some (.d (.list (q.2.map PyData.str))), some (.d (kI p)), some (.d (.list ((ds.map (·.1)).map PyData.str))), y6, y7]) (by
        rw [if_f]
        · rfl
        · have n1 : eOp neD (eOp ixD (rVar 4) (eC (.int 1))) (eC (.str (PySem.Str.ofString ""))) [some (.d td), some (.o (.list (ds.map kI))), some (.d (.int (q.1 : Nat))), some (.d (.list (q.2.map PyData.str))), some (.d (kI p)), some (.d (.list ((ds.map (·.1)).map PyData.str))), y6, y7] = .ok (.bool (!decide (p.2 = eS))) :=
            (op_ok (a := .str p.2) (b := .str eS) ((op_ok (a := kI p) (b := .int 1) rfl rfl).trans i1) rfl).trans (by rw [x_ne, x_eqB_s]; rfl)
          rw [x_bAnd, bof n1, x_bind_ok]
          rcases g2 with c | c
          · rw [decide_eq_true c]
            rfl
          · have n2 := nin_strs (ρ := [some (.d td), some (.o (.list (ds.map kI))), some (.d (.int (q.1 : Nat))), some (.d (.list (q.2.map PyData.str))), some (.d (kI p)), some (.d (.list ((ds.map (·.1)).map PyData.str))), y6, y7]) (l := ds.map (·.1)) (a := p.2) (ga := eOp ixD (rVar 4) (eC (.int 1))) (gb := rVar 5) ((op_ok (a := kI p) (b := .int 1) rfl rfl).trans i1) rfl
            rw [decide_eq_true c] at n2
            by_cases d : p.2 = eS
            · rw [decide_eq_true d]; rfl
            · rw [decide_eq_false d]
              exact bof n2)]
      rw [seq_nx (ρ1 := [some (.d td), some (.o (.list (ds.map kI))), some (.d (.int (q.1 : Nat))), some (.d (.list (q.2.map PyData.str))), some (.d (kI p)), some (.d (.list ((ds.map (·.1)).map PyData.str))), y6, y7]) (by
        rw [if_f]
        · rfl
        · have ll : ¬ (((ds.map kI).length : Nat) : Int) = 12 := by rw [List.length_map]; omega
          exact bof ((op_ok (a := .int ((ds.map kI).length : Nat)) (b := .int 12) rfl rfl).trans (by rw [x_eq, x_eqB_i, decide_eq_false ll]; rfl)))]
      rw [append_ok (ds := ds.map kI) (x := kI p) rfl rfl (by rw [List.length_map]; exact szl (by omega))]
      simp only [List.set]
      rw [show ds.map kI ++ [kI p] = (ds ++ [p]).map kI by rw [List.map_append]; rfl, show ds ++ p :: l = ds ++ [p] ++ l by rw [List.append_assoc]; rfl]
      simp only [x_killR_nx, List.foldl_cons, List.foldl_nil, List.set_cons_succ, List.set_cons_zero]
      exact ihe

/-- the turn at a row that is refused -/
theorem read_fault (z : Str) (ws : Ks) (L0 L1 : List (Nat × List Str)) (q : Nat × List Str) (x : Ec) (h : d_word_rows [.str z] = .rt (.o (.list ((L0 ++ q :: L1).map rI)))) (e : L0.map (·.2) = ws.map rowOf) (hg : Gr ws.reverse) (hl : ws.length ≤ 12) (hw : ∀ p ∈ ws, isW p.1 = true ∧ p.1.length ≤ 8 ∧ (p.2 = eS ∨ isW p.2 = true ∧ p.2.length ≤ 8))
    (hx : ∀ y4 y5 y6 y7 : Option Sl, rkB [some (.d (.str z)), some (.o (.list (ws.map kI))), some (.d (.int (q.1 : Nat))), some (.d (.list (q.2.map PyData.str))), y4, y5, y6, y7] = .exc x) : d_read_kinds [.str z] = .exc x := by
  obtain ⟨z2, z3, z4, z5, z6, z7, el⟩ := read_loop (.str z) ((q :: L1).map rI) ws [] L0 none none none none none none e (by rw [List.nil_append]; exact hg) (by simp; omega) hw
  show (S_read_kinds [some (.d (.str z)), none, none, none, none, none, none, none]).fr = _
  unfold S_read_kinds
  rw [seq_nx (ρ1 := [some (.d (.str z)), some (.o (.list (([] : Ks).map kI))), none, none, none, none, none, none]) (by simp)]
  have c1 : eCall 1 d_word_rows (aCons (eVar 0) aNil) [some (.d (.str z)), some (.o (.list (([] : Ks).map kI))), none, none, none, none, none, none] = .ok (.list ((L0 ++ q :: L1).map rI)) := by
    simp only [x_eCall, x_aCons, x_aNil, eVar, List.getElem?_cons_zero, x_bind_ok]
    show (if 1 = 1 then (d_word_rows [.str z]).toE else R.bad) = _
    rw [if_pos rfl, h]
    rfl
  rw [x_sSeq, x_preK, x_sFor]
  simp only [List.foldl_cons, List.foldl_nil, List.set_cons_succ, List.set_cons_zero]
  rw [x_iItems, c1]
  show (SR.seq (forD (aTup 2 (asCons (aName 2) (asCons (aName 3) asNil))) rkB ((L0 ++ q :: L1).map rI) _) _).fr = _
  rw [List.map_append, el, List.map_cons, forD]
  show (SR.seq (match rkB [some (.d (.str z)), some (.o (.list ((([] : Ks) ++ ws).map kI))), some (.d (.int (q.1 : Nat))), some (.d (.list (q.2.map PyData.str))), z4, z5, z6, z7] with
      | .nx ρ2 => _
      | .ct ρ2 => _
      | .bk ρ2 => _
      | .rt s => _
      | .exc c => _
      | .bad => _) _).fr = _
  rw [List.nil_append, hx]
  rfl
end
end K03
/-! the faulty row: what the reader and the law make of it -/
namespace K03
open PySem L2 DL
noncomputable section
def oddS : List Str := [Str.ofString "the", Str.ofString "toolongwds", Str.ofString "r2", Str.ofString "Rod", Str.ofString "said", Str.ofString "a-b"]
structure GW (w : Str) : Prop where
  wc : Wc w
  od : isW w = !decide (w ∈ oddS)
theorem odd_all : oddS.all (fun z => !isW z && ((cs z).all (fun c => decide (33 ≤ c ∧ c ≤ 122)) && (decide (1 ≤ z.length) && decide (z.length ≤ 10)))) = true := by decide +kernel
theorem gw_odd {w : Str} (h : w ∈ oddS) : GW w := by
  have q := List.all_eq_true.mp odd_all w h
  simp only [Bool.and_eq_true, Bool.not_eq_true', List.all_eq_true, decide_eq_true_eq] at q
  obtain ⟨q1, q2, q3, q4⟩ := q
  exact ⟨⟨q2, q3, q4⟩, by rw [q1, decide_eq_true h]; rfl⟩
theorem gw_word {w : Str} (a : Wc w) (b : isW w = true) : GW w := by
  refine ⟨a, ?_⟩
  by_cases h : w ∈ oddS
  · have := (gw_odd h).od
    rw [b, decide_eq_true h] at this
    cases this
  · rw [b, decide_eq_false h]; rfl
theorem gw_nm (s : Int) (k : Nat) (h : 0 ≤ s) : GW (nm s k) := gw_word (nm_wc s k h) (nm_word s k h)
inductive Du where
  | bad
  | twice
  | nok
  | big
def Du.nm : Du → Str
  | .bad => Str.ofString "BadRow"
  | .twice => Str.ofString "Twice"
  | .nok => Str.ofString "NoKind"
  | .big => Str.ofString "TooBig"
def duP : Option Du → PD
  | some d => .str d.nm
  | none => .none
def dueT (ws : Ks) : Option (Str × Str) → Option Du
  | none => some .bad
  | some p => if p.1 ∈ ws.map (·.1) then some .twice else if p.2 ≠ eS ∧ p.2 ∉ ws.map (·.1) then some .nok else if ws.length = 12 then some .big else none
def tP : Option (Str × Str) → PD
  | none => .none
  | some p => kI p
def f2 (a w : Str) : Option (Str × Str) := if a = strK ∧ isW w = true then some (w, eS) else none
def f4 (a w b u : Str) : Option (Str × Str) := if a = strK ∧ b = strO ∧ isW w = true ∧ isW u = true then some (w, u) else none
/-! short steps -/
theorem eqS {g g2 : Rho → R PD} {ρ : Rho} {a b : Str} (h : g ρ = .ok (.str a)) (h2 : g2 ρ = .ok (.str b)) : bOf (eOp eqD g g2) ρ = .ok (decide (a = b)) := by
  rw [x_bOf, op_ok h h2, x_eq, x_eqB_s]; rfl
theorem neS {g g2 : Rho → R PD} {ρ : Rho} {a b : Str} (h : g ρ = .ok (.str a)) (h2 : g2 ρ = .ok (.str b)) : bOf (eOp neD g g2) ρ = .ok (!decide (a = b)) := by
  rw [x_bOf, op_ok h h2, x_ne, x_eqB_s]; rfl
theorem neI {g g2 : Rho → R PD} {ρ : Rho} {a b : Int} (h : g ρ = .ok (.int a)) (h2 : g2 ρ = .ok (.int b)) : bOf (eOp neD g g2) ρ = .ok (!decide (a = b)) := by
  rw [x_bOf, op_ok h h2, x_ne, x_eqB_i]; rfl
theorem lenL {g : Rho → R PD} {ρ : Rho} {l : List PD} (h : g ρ = .ok (.list l)) : eCB lenD (aCons g aNil) ρ = .ok (.int (l.length : Nat)) := by
  rw [cb1 h]; rfl
theorem ixL {g : Rho → R PD} {ρ : Rho} {l : List PD} {x : PD} {i : Int} (h : g ρ = .ok (.list l)) (hi : 0 ≤ i) (hx : l[i.toNat]? = some x) : eOp ixD g (eC (.int i)) ρ = .ok x := by
  rw [op_ok h (b := .int i) rfl]; exact x_ix_l _ _ _ hi hx
theorem v0 {x : PD} {r : Rho} : rVar 0 (some (.d x) :: r) = .ok x := rfl
theorem isWc {g : Rho → R PD} {ρ : Rho} {w : Str} (h : g ρ = .ok (.str w)) (hw : w.length ≤ 10) : bOf (eCall 1 d_is_word (aCons g aNil)) ρ = .ok (isW w) := bof (call1 h (is_word w (by omega)))
theorem kw_none (l : List PD) (h2 : l.length ≠ 2) (h4 : l.length ≠ 4) : d_kind_written [.list l] = .rt (.d .none) := by
  refine run_eq (n := 1) (s := S_kind_written) (ds := [.list l]) ?_
  unfold S_kind_written
  refine hs_seq (hs_if (c := false && false) (xAndB false false (xEqB (i := (l.length : Nat)) (j := 2) false (lenL v0) rfl (decide_eq_false (by omega))) (fun q => by cases q)) (fun q => by cases q) (fun _ => hs_next ?_))
  refine hs_seq (hs_if (c := true || true) (xOrC true true ((neI (lenL v0) (x_eC _ _)).trans (by rw [decide_eq_false (by omega)]; rfl)) (fun q => by cases q)) (fun _ => hs_ret (x := .none) rfl rfl) (fun q => by cases q))
theorem kw_2 (a w : Str) (hw : w.length ≤ 10) : d_kind_written [rowD [a, w]] = .rt (.d (tP (f2 a w))) := by
  refine run_eq (n := 1) (s := S_kind_written) (ds := [rowD [a, w]]) ?_
  unfold S_kind_written
  have i0 : eOp ixD (rVar 0) (eC (.int 0)) (startD 1 [rowD [a, w]]) = .ok (.str a) := ixL v0 (by decide) rfl
  have i1 : eOp ixD (rVar 0) (eC (.int 1)) (startD 1 [rowD [a, w]]) = .ok (.str w) := ixL v0 (by decide) rfl
  refine hs_seq (hs_if (c := true && (decide (a = strK) && isW w)) (xAndB true _ (xEqB (i := ((2 : Nat) : Int)) (j := 2) true (lenL v0) rfl rfl) (fun _ => xAndB _ _ (eqS i0 rfl) fun _ => isWc i1 hw)) (fun q => ?_) (fun q => hs_next ?_))
  · have q : (decide (a = strK) && isW w) = true := q
    rw [Bool.and_eq_true, decide_eq_true_eq] at q
    refine hs_ret (x := kI (w, eS)) (tup2 i1 rfl) ?_
    unfold f2
    rw [if_pos q]
    rfl
  · have q : (decide (a = strK) && isW w) = false := q
    have nq : ¬ (a = strK ∧ isW w = true) := fun z => by rw [decide_eq_true z.1, z.2] at q; cases q
    refine hs_seq (hs_if (c := true || true) (xOrC true true (neI (a := ((2 : Nat) : Int)) (b := 4) (lenL v0) rfl) (fun q => by cases q)) (fun _ => hs_ret (x := .none) rfl ?_) (fun q => by cases q))
    unfold f2
    rw [if_neg nq]
    rfl
theorem kw_4 (a w b u : Str) (hw : w.length ≤ 10) (hu : u.length ≤ 10) : d_kind_written [rowD [a, w, b, u]] = .rt (.d (tP (f4 a w b u))) := by
  refine run_eq (n := 1) (s := S_kind_written) (ds := [rowD [a, w, b, u]]) ?_
  unfold S_kind_written
  have i0 : eOp ixD (rVar 0) (eC (.int 0)) (startD 1 [rowD [a, w, b, u]]) = .ok (.str a) := ixL v0 (by decide) rfl
  have i1 : eOp ixD (rVar 0) (eC (.int 1)) (startD 1 [rowD [a, w, b, u]]) = .ok (.str w) := ixL v0 (by decide) rfl
  have i2 : eOp ixD (rVar 0) (eC (.int 2)) (startD 1 [rowD [a, w, b, u]]) = .ok (.str b) := ixL v0 (by decide) rfl
  have i3 : eOp ixD (rVar 0) (eC (.int 3)) (startD 1 [rowD [a, w, b, u]]) = .ok (.str u) := ixL v0 (by decide) rfl
  refine hs_seq (hs_if (c := false && false) (xAndB false false (xEqB (i := ((4 : Nat) : Int)) (j := 2) false (lenL v0) rfl rfl) (fun q => by cases q)) (fun q => by cases q) (fun _ => hs_next ?_))
  refine hs_seq (hs_if (c := false || (!decide (a = strK) || !decide (b = strO))) (xOrC false _ (neI (a := ((4 : Nat) : Int)) (b := 4) (lenL v0) rfl) (fun _ => xOrC _ _ (neS i0 rfl) fun _ => neS i2 rfl)) (fun q => hs_ret (x := .none) rfl ?_) (fun q => hs_next ?_))
  · have q : (!decide (a = strK) || !decide (b = strO)) = true := q
    have nq : ¬ (a = strK ∧ b = strO ∧ isW w = true ∧ isW u = true) := fun z => by rw [decide_eq_true z.1, decide_eq_true z.2.1] at q; cases q
    unfold f4
    rw [if_neg nq]
    rfl
  have q : (!decide (a = strK) || !decide (b = strO)) = false := q
  have q1 : a = strK := by
    by_cases z : a = strK
    · exact z
    · rw [decide_eq_false z] at q; cases q
  have q2 : b = strO := by
    by_cases z : b = strO
    · exact z
    · rw [decide_eq_false z, Bool.or_comm] at q; cases q
  refine hs_seq (hs_if (c := !isW w || !isW u) (xOrC _ _ (xNotB _ (isWc i1 hw)) fun _ => xNotB _ (isWc i3 hu)) (fun q => hs_ret (x := .none) rfl ?_) (fun q => hs_next ?_))
  · have nq : ¬ (a = strK ∧ b = strO ∧ isW w = true ∧ isW u = true) := fun z => by rw [z.2.2.1, z.2.2.2] at q; cases q
    unfold f4
    rw [if_neg nq]
    rfl
  have w1 : isW w = true := by
    cases z : isW w with
    | true => rfl
    | false => rw [z] at q; cases q
  have w2 : isW u = true := by
    cases z : isW u with
    | true => rfl
    | false => rw [z, Bool.or_comm] at q; cases q
  refine hs_ret (x := kI (w, u)) (tup2 i1 i3) ?_
  unfold f4
  rw [if_pos ⟨q1, q2, w1, w2⟩]
  rfl
end
end K03
/-! what the law says is due -/
namespace K03
open PySem L2 DL
noncomputable section
theorem isW_ne {w : Str} (h : isW w = true) : w ≠ eS := fun e => by
  rw [e] at h
  have : isW eS = false := by decide +kernel
  rw [this] at h
  cases h
theorem names_lc (ws : Ks) (hl : ws.length ≤ 100) (s0 s2 : Option Sl) : eFz (oLc (iItems (eVar 1)) (aTup 2 (asCons (aName 3) (asCons (aName 4) asNil))) gYes (eVar 3) [3, 4]) [s0, some (.d (kD ws)), s2, none, none] = .ok (.list ((ws.map (·.1)).map PyData.str)) := by
  rw [fz_l (l := (ws.map (·.1)).map PyData.str)]
  rw [List.map_map]
  exact lc_eq kI (fun p => .str p.1) (it_l rfl) (sz (by omega)) fun p _ => ⟨_, rfl, rfl⟩
theorem in24 {g : Rho → R PD} {ρ : Rho} {n : Int} (h : g ρ = .ok (.int n)) : bOf (eOp ninD g (eTup (aCons (eC (.int 2)) (aCons (eC (.int 4)) aNil)))) ρ = .ok (!decide (n ∈ [(2 : Int), 4])) := by
  rw [x_bOf, op_ok h (b := .tuple ([(2 : Int), 4].map PyData.int)) (tup2 rfl rfl), x_nin, inT_ints]
  rfl
theorem odd_tup {ρ : Rho} : eTup (aCons (eC (.str (PySem.Str.ofString "the"))) (aCons (eC (.str (PySem.Str.ofString "toolongwds"))) (aCons (eC (.str (PySem.Str.ofString "r2"))) (aCons (eC (.str (PySem.Str.ofString "Rod"))) (aCons (eC (.str (PySem.Str.ofString "said"))) (aCons (eC (.str (PySem.Str.ofString "a-b"))) aNil)))))) ρ = .ok (.tuple (oddS.map PyData.str)) := by
  show (if 6 ≤ sizeLine then R.ok (PyData.tuple (oddS.map PyData.str)) else .bad) = _
  rw [if_pos s6]
theorem in_odd {g : Rho → R PD} {ρ : Rho} {w : Str} (h : g ρ = .ok (.str w)) : bOf (eOp inD g (eTup (aCons (eC (.str (PySem.Str.ofString "the"))) (aCons (eC (.str (PySem.Str.ofString "toolongwds"))) (aCons (eC (.str (PySem.Str.ofString "r2"))) (aCons (eC (.str (PySem.Str.ofString "Rod"))) (aCons (eC (.str (PySem.Str.ofString "said"))) (aCons (eC (.str (PySem.Str.ofString "a-b"))) aNil)))))))) ρ = .ok (decide (w ∈ oddS)) := by
  rw [x_bOf, op_ok h odd_tup, x_in, x_in_strsT]
  rfl
theorem due_bad (l : List PD) (a : Str) (ws : Ks) (hl : ws.length ≤ 100) (h0 : l[0]? = some (.str a)) (h2 : l.length ≠ 2) (h4 : l.length ≠ 4) : d_law_due [.list l, kD ws] = .rt (.d (duP (some .bad))) := by
  refine run_eq (n := 5) (s := S_law_due) (ds := [.list l, kD ws]) ?_
  unfold S_law_due
  refine hs_seq (hs_set (names_lc ws hl _ _) ?_)
  simp -implicitDefEqProofs only [startD, List.length_cons, List.length_nil, List.map_cons, List.map_nil, List.cons_append, List.nil_append, Nat.reduceAdd, Nat.reduceSub, List.replicate, List.set_cons_zero, List.set_cons_succ, List.foldl_cons, List.foldl_nil, x_killD_n, x_killD_c, x_slOf_f, x_slOf_o, x_slOf_t, x_slOf_k]
  refine hs_seq (hs_if (c := !decide (a = strK) || true) (xOrC _ true (neS (ixL v0 (by decide) h0) rfl) fun _ => ?_) (fun _ => hs_ret (x := .str (Str.ofString "BadRow")) rfl rfl) (fun q => by rw [Bool.or_comm] at q; cases q))
  refine xOrC true true ((in24 (lenL v0)).trans ?_) (fun q => by cases q)
  rw [decide_eq_false (fun z => by simp at z; omega)]
  rfl
theorem pk2 (x y : PD) : pickV [x, y] (some 1) none (some 2) = [y] := by
  unfold pickV
  have e : sliceRange (sliceBounds (some 1) none (some 2) [x, y].length).1 (sliceBounds (some 1) none (some 2) [x, y].length).2.1 (sliceBounds (some 1) none (some 2) [x, y].length).2.2 = [1] := by
    show sliceRange (sliceBounds (some 1) none (some 2) 2).1 (sliceBounds (some 1) none (some 2) 2).2.1 (sliceBounds (some 1) none (some 2) 2).2.2 = [1]
    decide +kernel
  rw [e]
  rfl
theorem pk4 (x y z t : PD) : pickV [x, y, z, t] (some 1) none (some 2) = [y, t] := by
  unfold pickV
  have e : sliceRange (sliceBounds (some 1) none (some 2) [x, y, z, t].length).1 (sliceBounds (some 1) none (some 2) [x, y, z, t].length).2.1 (sliceBounds (some 1) none (some 2) [x, y, z, t].length).2.2 = [1, 3] := by
    show sliceRange (sliceBounds (some 1) none (some 2) 4).1 (sliceBounds (some 1) none (some 2) 4).2.1 (sliceBounds (some 1) none (some 2) 4).2.2 = [1, 3]
    decide +kernel
  rw [e]
  rfl
theorem slo2 {r : Rho} (a w : Str) : oSl3 (rVar 0) (pSo (eC (.int 1))) pNo (pSo (eC (.int 2))) (some (.d (rowD [a, w])) :: r) = .ok (.list ([w].map PyData.str)) := by
  show sl3D (.list [.str a, .str w]) (some 1) none (some 2) = _
  unfold sl3D
  simp only [pk2]
  rw [if_pos ⟨by decide, by simp⟩]
  rfl
theorem slo4 {r : Rho} (a w b u : Str) : oSl3 (rVar 0) (pSo (eC (.int 1))) pNo (pSo (eC (.int 2))) (some (.d (rowD [a, w, b, u])) :: r) = .ok (.list ([w, u].map PyData.str)) := by
  show sl3D (.list [.str a, .str w, .str b, .str u]) (some 1) none (some 2) = _
  unfold sl3D
  simp only [pk4]
  rw [if_pos ⟨by decide, by simp⟩]
  rfl
section
variable {ρ : Rho} {N : Rho → Prop} {Rt : Sl → Prop} {Ct : Rho → Prop}
/-- the loop over the words that may be odd -/
theorem odd_loop (s0 s1 s2 : Option Sl) (gi : Rho → R (List PD)) (xs : List Str) (e : gi [s0, s1, s2, none, none] = .ok (xs.map PyData.str)) (hN : (∀ w ∈ xs, w ∉ oddS) → N [s0, s1, s2, none, none]) (hR : (∃ w ∈ xs, w ∈ oddS) → Rt (.d (.str (Str.ofString "BadRow")))) :
    HS (preK [3] (sFor gi (aName 3) (killS [3] (sIf (bOf (eOp inD (rVar 3) (eTup (aCons (eC (.str (PySem.Str.ofString "the"))) (aCons (eC (.str (PySem.Str.ofString "toolongwds"))) (aCons (eC (.str (PySem.Str.ofString "r2"))) (aCons (eC (.str (PySem.Str.ofString "Rod"))) (aCons (eC (.str (PySem.Str.ofString "said"))) (aCons (eC (.str (PySem.Str.ofString "a-b"))) aNil))))))))) (sRet (eC (.str (PySem.Str.ofString "BadRow")))) sNext)))) [s0, s1, s2, none, none] N Rt Ct := by
  refine hs_pre ?_
  refine hs_first (β := Unit) PyData.str xs (fun w => if w ∈ oddS then some () else none) (fun _ => .d (.str (Str.ofString "BadRow"))) e (fun i w _ => ⟨_, rfl, ?_⟩) (fun h => hN fun w hw q => ?_) (fun b h => hR ?_)
  · refine hs_if (in_odd rfl) (fun q => ?_) (fun q => ?_)
    · exact hs_ret rfl ⟨(), rfl, if_pos (of_decide_eq_true q)⟩
    · exact hs_next ⟨rfl, if_neg (of_decide_eq_false q)⟩
  · have := List.findSome?_eq_none_iff.mp h w hw
    rw [if_pos q] at this
    cases this
  · obtain ⟨w, hw, hb⟩ := List.exists_of_findSome?_eq_some h
    refine ⟨w, hw, ?_⟩
    by_cases q : w ∈ oddS
    · exact q
    · rw [if_neg q] at hb; cases hb
end
theorem odd_iff {w : Str} (g : GW w) : w ∈ oddS ↔ isW w = false := by
  rw [g.od]
  by_cases h : w ∈ oddS
  · rw [decide_eq_true h]; exact ⟨fun _ => rfl, fun _ => h⟩
  · rw [decide_eq_false h]; exact ⟨fun z => (h z).elim, fun z => by cases z⟩
theorem due_2 (a w : Str) (ws : Ks) (hl : ws.length ≤ 100) (g : GW w) : d_law_due [rowD [a, w], kD ws] = .rt (.d (duP (dueT ws (f2 a w)))) := by
  refine run_eq (n := 5) (s := S_law_due) (ds := [rowD [a, w], kD ws]) ?_
  unfold S_law_due
  refine hs_seq (hs_set (names_lc ws hl _ _) ?_)
  simp -implicitDefEqProofs only [startD, List.length_cons, List.length_nil, List.map_cons, List.map_nil, List.cons_append, List.nil_append, Nat.reduceAdd, Nat.reduceSub, List.replicate, List.set_cons_zero, List.set_cons_succ, List.foldl_cons, List.foldl_nil, x_killD_n, x_killD_c, x_slOf_f, x_slOf_o, x_slOf_t, x_slOf_k]
  have i0 : ∀ r : Rho, eOp ixD (rVar 0) (eC (.int 0)) (some (.d (rowD [a, w])) :: r) = .ok (.str a) := fun r => ixL v0 (by decide) rfl
  have i1 : ∀ r : Rho, eOp ixD (rVar 0) (eC (.int 1)) (some (.d (rowD [a, w])) :: r) = .ok (.str w) := fun r => ixL v0 (by decide) rfl
  have ll : ∀ r : Rho, eCB lenD (aCons (rVar 0) aNil) (some (.d (rowD [a, w])) :: r) = .ok (.int 2) := fun r => lenL v0
  refine hs_seq (hs_if (c := !decide (a = strK) || (false || (false && true))) (xOrC _ _ (neS (i0 _) rfl) fun _ => xOrC false _ ((in24 (ll _)).trans (by rfl)) fun _ => xAndB false true (xEqB (j := 4) false (ll _) rfl rfl) (fun q => by cases q)) (fun q => hs_ret (x := .str (Str.ofString "BadRow")) rfl ?_) (fun q => hs_next ?_))
  · have na : ¬ a = strK := fun z => by rw [decide_eq_true z] at q; cases q
    unfold f2
    rw [if_neg fun z => na z.1]
    rfl
  have ea : a = strK := by
    by_cases z : a = strK
    · exact z
    · rw [decide_eq_false z] at q; cases q
  refine hs_seq (odd_loop _ _ _ _ [w] (it_l (fz_l (slo2 a w))) (fun h => ?_) (fun h => ?_))
  · have iw : isW w = true := by
      cases z : isW w with
      | true => rfl
      | false => exact (h w (List.mem_singleton.mpr rfl) ((odd_iff g).mpr z)).elim
    have ef : f2 a w = some (w, eS) := by unfold f2; rw [if_pos ⟨ea, iw⟩]
    rw [ef]
    refine hs_seq (hs_if (bof (in_strs (l := ws.map (·.1)) (i1 _) rfl)) (fun q => hs_ret (x := .str (Str.ofString "Twice")) rfl ?_) (fun q => hs_next ?_))
    · unfold dueT
      simp only
      rw [if_pos (of_decide_eq_true q)]
      rfl
    have nq := of_decide_eq_false q
    refine hs_seq (hs_if (c := false && true) (xAndB false true (xEqB (j := 4) false (ll _) rfl rfl) (fun q => by cases q)) (fun q => by cases q) (fun _ => hs_next ?_))
    have ne : ¬ ((w, eS).2 ≠ eS ∧ (w, eS).2 ∉ ws.map (·.1)) := fun z => z.1 rfl
    refine hs_seq (hs_if (xEqB (i := (ws.length : Nat)) (j := 12) _ (by rw [lenL (l := ws.map kI) rfl, List.length_map]) rfl rfl) (fun q => hs_ret (x := .str (Str.ofString "TooBig")) rfl ?_) (fun q => hs_next ?_))
    · have q := of_decide_eq_true q
      unfold dueT
      simp only
      rw [if_neg nq, if_neg ne, if_pos (by omega)]
      rfl
    · have q := of_decide_eq_false q
      refine hs_ret (x := .none) rfl ?_
      unfold dueT
      simp only
      rw [if_neg nq, if_neg ne, if_neg (by omega)]
      rfl
  · obtain ⟨v, hv, ho⟩ := h
    have hv := List.mem_singleton.mp hv
    rw [hv] at ho
    unfold f2
    rw [if_neg fun z => by rw [(odd_iff g).mp ho] at z; cases z.2]
    rfl
theorem due_4 (a w b u : Str) (ws : Ks) (hl : ws.length ≤ 100) (g : GW w) (g2 : GW u) : d_law_due [rowD [a, w, b, u], kD ws] = .rt (.d (duP (dueT ws (f4 a w b u)))) := by
  refine run_eq (n := 5) (s := S_law_due) (ds := [rowD [a, w, b, u], kD ws]) ?_
  unfold S_law_due
  refine hs_seq (hs_set (names_lc ws hl _ _) ?_)
  simp -implicitDefEqProofs only [startD, List.length_cons, List.length_nil, List.map_cons, List.map_nil, List.cons_append, List.nil_append, Nat.reduceAdd, Nat.reduceSub, List.replicate, List.set_cons_zero, List.set_cons_succ, List.foldl_cons, List.foldl_nil, x_killD_n, x_killD_c, x_slOf_f, x_slOf_o, x_slOf_t, x_slOf_k]
  have i0 : ∀ r : Rho, eOp ixD (rVar 0) (eC (.int 0)) (some (.d (rowD [a, w, b, u])) :: r) = .ok (.str a) := fun r => ixL v0 (by decide) rfl
  have i1 : ∀ r : Rho, eOp ixD (rVar 0) (eC (.int 1)) (some (.d (rowD [a, w, b, u])) :: r) = .ok (.str w) := fun r => ixL v0 (by decide) rfl
  have i2 : ∀ r : Rho, eOp ixD (rVar 0) (eC (.int 2)) (some (.d (rowD [a, w, b, u])) :: r) = .ok (.str b) := fun r => ixL v0 (by decide) rfl
  have i3 : ∀ r : Rho, eOp ixD (rVar 0) (eC (.int 3)) (some (.d (rowD [a, w, b, u])) :: r) = .ok (.str u) := fun r => ixL v0 (by decide) rfl
  have ll : ∀ r : Rho, eCB lenD (aCons (rVar 0) aNil) (some (.d (rowD [a, w, b, u])) :: r) = .ok (.int 4) := fun r => lenL v0
  refine hs_seq (hs_if (c := !decide (a = strK) || (false || (true && !decide (b = strO)))) (xOrC _ _ (neS (i0 _) rfl) fun _ => xOrC false _ ((in24 (ll _)).trans (by rfl)) fun _ => xAndB true _ (xEqB (j := 4) true (ll _) rfl rfl) (fun _ => neS (i2 _) rfl)) (fun q => hs_ret (x := .str (Str.ofString "BadRow")) rfl ?_) (fun q => hs_next ?_))
  · unfold f4
    rw [if_neg fun z => by rw [decide_eq_true z.1, decide_eq_true z.2.1] at q; cases q]
    rfl
  have ea : a = strK := by
    by_cases z : a = strK
    · exact z
    · rw [decide_eq_false z] at q; cases q
  have eb : b = strO := by
    by_cases z : b = strO
    · exact z
    · rw [decide_eq_false z, decide_eq_true ea] at q; cases q
  refine hs_seq (odd_loop _ _ _ _ [w, u] (it_l (fz_l (slo4 a w b u))) (fun h => ?_) (fun h => ?_))
  · have iw : isW w = true := by
      cases z : isW w with
      | true => rfl
      | false => exact (h w (by simp) ((odd_iff g).mpr z)).elim
    have iu : isW u = true := by
      cases z : isW u with
      | true => rfl
      | false => exact (h u (by simp) ((odd_iff g2).mpr z)).elim
    have ef : f4 a w b u = some (w, u) := by unfold f4; rw [if_pos ⟨ea, eb, iw, iu⟩]
    rw [ef]
    refine hs_seq (hs_if (bof (in_strs (l := ws.map (·.1)) (i1 _) rfl)) (fun q => hs_ret (x := .str (Str.ofString "Twice")) rfl ?_) (fun q => hs_next ?_))
    · unfold dueT
      simp only
      rw [if_pos (of_decide_eq_true q)]
      rfl
    have nq := of_decide_eq_false q
    refine hs_seq (hs_if (c := true && !decide (u ∈ ws.map (·.1))) (xAndB true _ (xEqB (j := 4) true (ll _) rfl rfl) (fun _ => bof (nin_strs (l := ws.map (·.1)) (i3 _) rfl))) (fun q => hs_ret (x := .str (Str.ofString "NoKind")) rfl ?_) (fun q => hs_next ?_))
    · have un : u ∉ ws.map (·.1) := fun z => by rw [decide_eq_true z] at q; cases q
      unfold dueT
      simp only
      rw [if_neg nq, if_pos ⟨isW_ne iu, un⟩]
      rfl
    have un : u ∈ ws.map (·.1) := by
      by_cases z : u ∈ ws.map (·.1)
      · exact z
      · rw [decide_eq_false z] at q; cases q
    have ne : ¬ (u ≠ eS ∧ u ∉ ws.map (·.1)) := fun z => z.2 un
    refine hs_seq (hs_if (xEqB (i := (ws.length : Nat)) (j := 12) _ (by rw [lenL (l := ws.map kI) rfl, List.length_map]) rfl rfl) (fun q => hs_ret (x := .str (Str.ofString "TooBig")) rfl ?_) (fun q => hs_next ?_))
    · have q := of_decide_eq_true q
      unfold dueT
      simp only
      rw [if_neg nq, if_neg ne, if_pos (by omega)]
      rfl
    · have q := of_decide_eq_false q
      refine hs_ret (x := .none) rfl ?_
      unfold dueT
      simp only
      rw [if_neg nq, if_neg ne, if_neg (by omega)]
      rfl
  · obtain ⟨v, hv, ho⟩ := h
    unfold f4
    rcases List.mem_cons.mp hv with e | e
    · rw [e] at ho
      rw [if_neg fun z => by rw [(odd_iff g).mp ho] at z; cases z.2.2.1]
      rfl
    · rw [List.mem_singleton.mp e] at ho
      rw [if_neg fun z => by rw [(odd_iff g2).mp ho] at z; cases z.2.2.2]
      rfl
end
end K03
/-! the error that is told -/
namespace K03
open PySem L2 DL
noncomputable section
def Du.ec (n : Int) : Du → Ec
  | .bad => ⟨"BadRow", [("row", .int n)]⟩
  | .twice => ⟨"Twice", [("row", .int n)]⟩
  | .nok => ⟨"NoKind", [("row", .int n), ("claim", .int 0)]⟩
  | .big => ⟨"TooBig", [("row", .int n), ("claim", .int 0)]⟩
def Du.gs (n : Int) : Du → List (PD × PD)
  | .bad => [(.str (Str.ofString "row"), .int n)]
  | .twice => [(.str (Str.ofString "row"), .int n)]
  | .nok => [(.str (Str.ofString "row"), .int n), (.str (Str.ofString "claim"), .int 0)]
  | .big => [(.str (Str.ofString "row"), .int n), (.str (Str.ofString "claim"), .int 0)]
theorem seq_exc {s s' : Rho → SR} {ρ : Rho} {c : Ec} (h : s ρ = .exc c) : sSeq s s' ρ = .exc c := by
  rw [x_sSeq, h]
  rfl
theorem rk_fault (td : PD) (ws : Ks) (hl : ws.length ≤ 12) (n : Int) (row : List PD) (t : Option (Str × Str)) (hk : d_kind_written [.list row] = .rt (.d (tP t))) (d : Du) (hd : dueT ws t = some d) (y4 y5 y6 y7 : Option Sl) :
    rkB [some (.d td), some (.o (.list (ws.map kI))), some (.d (.int n)), some (.d (.list row)), y4, y5, y6, y7] = .exc (d.ec n) := by
  unfold rkB
  rw [x_killS]
  have k : ∀ x : SR, x = .exc (d.ec n) → killR [2, 3, 4, 5] x = .exc (d.ec n) := fun x h => by rw [h]; rfl
  refine k _ ?_
  rw [seq_nx (set_ok (x := tP t) (call1 rfl hk))]
  simp only [List.set_cons_succ, List.set_cons_zero]
  cases t with
  | none =>
    cases hd
    refine seq_exc ?_
    rw [if_t (bof (b := true) rfl)]
    rfl
  | some p =>
    rw [seq_nx (ρ1 := [some (.d td), some (.o (.list (ws.map kI))), some (.d (.int n)), some (.d (.list row)), some (.d (kI p)), y5, y6, y7]) (by
      rw [if_f (bof (b := false) rfl)]
      rfl)]
    rw [seq_nx (s := sSet 5 _) (set_ok (names_ok _ _ _ _ _ _ _ ws (by omega)))]
    simp only [List.set_cons_succ, List.set_cons_zero]
    have i0 : ixD (kI p) (.int 0) = .ok (.str p.1) := x_ix_t _ 0 _ (by decide) rfl
    have i1 : ixD (kI p) (.int 1) = .ok (.str p.2) := x_ix_t _ 1 _ (by decide) rfl
    generalize hρ : [some (Sl.d td), some (Sl.o (PyData.list (ws.map kI))), some (Sl.d (PyData.int n)), some (Sl.d (PyData.list row)), some (Sl.d (kI p)), some (Sl.d (PyData.list ((ws.map (·.1)).map PyData.str))), y6, y7] = ρ
    have r2 : eVar 2 ρ = .ok (.int n) := by rw [← hρ]; rfl
    have r4 : rVar 4 ρ = .ok (kI p) := by rw [← hρ]; rfl
    have r5 : rVar 5 ρ = .ok (.list ((ws.map (·.1)).map PyData.str)) := by rw [← hρ]; rfl
    have c1 : bOf (eOp inD (eOp ixD (rVar 4) (eC (.int 0))) (rVar 5)) ρ = .ok (decide (p.1 ∈ ws.map (·.1))) := bof (in_strs ((op_ok r4 (b := .int 0) rfl).trans i0) r5)
    have rs : ∀ x, sRaise x ["row"] (aCons (eVar 2) aNil) ρ = .exc ⟨x, [("row", .int n)]⟩ := fun x => by
      unfold sRaise
      rw [x_aCons, r2]
      rfl
    have rs2 : ∀ x, sRaise x ["claim", "row"] (aCons (eC (.int 0)) (aCons (eVar 2) aNil)) ρ = .exc ⟨x, [("row", .int n), ("claim", .int 0)]⟩ := fun x => by
      unfold sRaise
      rw [x_aCons, x_aCons, r2]
      rfl
    unfold dueT at hd
    simp only at hd
    by_cases q1 : p.1 ∈ ws.map (·.1)
    · rw [if_pos q1] at hd
      cases hd
      rw [decide_eq_true q1] at c1
      refine seq_exc ?_
      rw [if_t c1, rs]
      rfl
    rw [if_neg q1] at hd
    rw [decide_eq_false q1] at c1
    rw [seq_nx (ρ1 := ρ) (by rw [if_f c1]; rfl)]
    have c2 : bAnd (bOf (eOp neD (eOp ixD (rVar 4) (eC (.int 1))) (eC (.str (PySem.Str.ofString ""))))) (bOf (eOp ninD (eOp ixD (rVar 4) (eC (.int 1))) (rVar 5))) ρ = .ok (!decide (p.2 = eS) && !decide (p.2 ∈ ws.map (·.1))) := by
      have g1 : eOp ixD (rVar 4) (eC (.int 1)) ρ = .ok (.str p.2) := (op_ok r4 (b := .int 1) rfl).trans i1
      exact xAndB _ _ (neS g1 (x_eC _ _)) fun _ => bof (nin_strs g1 r5)
    by_cases q2 : p.2 ≠ eS ∧ p.2 ∉ ws.map (·.1)
    · rw [if_pos q2] at hd
      cases hd
      rw [decide_eq_false q2.1, decide_eq_false q2.2] at c2
      refine seq_exc ?_
      rw [if_t c2, rs2]
      rfl
    rw [if_neg q2] at hd
    have c2' : (!decide (p.2 = eS) && !decide (p.2 ∈ ws.map (·.1))) = false := by
      by_cases a : p.2 = eS
      · rw [decide_eq_true a]; rfl
      · by_cases b : p.2 ∈ ws.map (·.1)
        · rw [decide_eq_true b, decide_eq_false a]; rfl
        · exact (q2 ⟨a, b⟩).elim
    rw [c2'] at c2
    rw [seq_nx (ρ1 := ρ) (by rw [if_f c2]; rfl)]
    by_cases q3 : ws.length = 12
    · rw [if_pos q3] at hd
      cases hd
      refine seq_exc ?_
      rw [if_t (xEqB (i := (ws.length : Nat)) (j := 12) true (by rw [lenL (l := ws.map kI) (by rw [← hρ]; rfl), List.length_map]) rfl (decide_eq_true (by omega))), rs2]
      rfl
    · rw [if_neg q3] at hd
      cases hd
theorem law_told (z : Str) (d : Du) (n : Int) (h : d_read_kinds [.str z] = .exc (d.ec n)) : d_law_told [.str z] = .rt (.d (encE d.nm (d.gs n))) := by
  refine run_eq (n := 3) (s := S_law_told) (ds := [.str z]) ?_
  unfold S_law_told
  simp -implicitDefEqProofs only [startD, List.length_cons, List.length_nil, List.map_cons, List.map_nil, List.cons_append, List.nil_append, Nat.reduceAdd, Nat.reduceSub, List.replicate, List.set_cons_zero, List.set_cons_succ, List.foldl_cons, List.foldl_nil, x_killD_n, x_killD_c, x_slOf_f, x_slOf_o, x_slOf_t, x_slOf_k]
  refine hs_seq (hs_set (x := .none) rfl ?_)
  simp -implicitDefEqProofs only [startD, List.length_cons, List.length_nil, List.map_cons, List.map_nil, List.cons_append, List.nil_append, Nat.reduceAdd, Nat.reduceSub, List.replicate, List.set_cons_zero, List.set_cons_succ, List.foldl_cons, List.foldl_nil, x_killD_n, x_killD_c, x_slOf_f, x_slOf_o, x_slOf_t, x_slOf_k]
  have ed : sDrop (eCall 1 d_read_kinds (aCons (eVar 0) aNil)) [some (.d (.str z)), some (.d .none), none] = .exc (d.ec n) := by
    unfold sDrop
    rw [x_eCall]
    show SR.of (R.bind (R.ok [PyData.str z]) _) _ = _
    rw [x_bind_ok]
    show SR.of (if 1 = 1 then (d_read_kinds [.str z]).toE else R.bad) _ = _
    rw [if_pos rfl, h]
    rfl
  refine hs_seq (hs_nx (ρ' := [some (.d (.str z)), some (.d (encE d.nm (d.gs n))), none]) ?_ ?_)
  · have ex : cxOfT tm_ClaimError (d.ec n).cls = some true := by
      have e : (d.ec n).cls = d.nm := by cases d <;> rfl
      rw [e]
      cases d <;> decide +kernel
    unfold sTryE
    rw [ed]
    dsimp only
    rw [ex]
    cases d <;> rfl
  exact hs_retV rfl rfl
theorem isX_val {tb : List (Str × Bool)} {cls : Str} {gs : List (PyData × PyData)} {b : Bool} (h : tb.lookup cls = some b) : isX tb (encE cls gs) = .ok (.bool b) := by
  unfold encE isX
  dsimp only
  rw [h]
theorem eisX {tb : List (Str × Bool)} {cls : Str} {gs : List (PyData × PyData)} {b : Bool} {g : Rho → R PD} {ρ : Rho} (e : g ρ = .ok (encE cls gs)) (h : tb.lookup cls = some b) : eIsX tb g ρ = .ok (.bool b) := by
  unfold eIsX
  rw [e, x_bind_ok, isX_val h]
theorem eXv {xs : List Str} {f cls : Str} {gs : List (PyData × PyData)} {x : PD} {g : Rho → R PD} {ρ : Rho} (e : g ρ = .ok (encE cls gs)) (h : cls ∈ xs) (hx : lookF f gs = .ok x) : eXE xs f g ρ = .ok x := by
  unfold eXE
  rw [e, x_bind_ok]
  unfold encE getE
  dsimp only
  rw [if_pos h, hx]
theorem ne_self_l {n : Nat} {l : List PD} (h : Sh n (.list l)) (k : n ≤ 64) : neD (.list l) (.list l) = .ok (.bool false) := by
  unfold neD
  have c := h.c
  rw [eqB_ll h h k, eqvAll_refl l (by simpa [PyData.canLay0] using c)]
  rfl
theorem lst4 {ga gb gc gd : Rho → R PD} {a b c d : PD} {ρ : Rho} (ha : ga ρ = .ok a) (hb : gb ρ = .ok b) (hc : gc ρ = .ok c) (hd : gd ρ = .ok d) : eFz (oLst (aCons ga (aCons gb (aCons gc (aCons gd aNil))))) ρ = .ok (.list [a, b, c, d]) := fz_l (by
  simp only [x_oLst, x_aCons, x_aNil, ha, hb, hc, hd, x_bind_ok]
  exact if_pos s4)
theorem tup4 {ga gb gc gd : Rho → R PD} {a b c d : PD} {ρ : Rho} (ha : ga ρ = .ok a) (hb : gb ρ = .ok b) (hc : gc ρ = .ok c) (hd : gd ρ = .ok d) : eTup (aCons ga (aCons gb (aCons gc (aCons gd aNil)))) ρ = .ok (.tuple [a, b, c, d]) := by
  simp only [x_eTup, x_aCons, x_aNil, ha, hb, hc, hd, x_bind_ok]
  exact if_pos s4
theorem law_whole (i : Int) : d_law_whole [.int i] = .rt (.d (.bool true)) := by
  refine run_eq (n := 1) (s := S_law_whole) (ds := [.int i]) ?_
  unfold S_law_whole
  exact hs_ret (x := .bool true) rfl rfl
def Du.bs : Du → List Bool
  | .bad => [true, false, false, false]
  | .twice => [false, true, false, false]
  | .nok => [false, false, true, false]
  | .big => [false, false, false, true]
def Du.two : Du → Bool
  | .bad => false
  | .twice => false
  | .nok => true
  | .big => true
def clsL : List Str := [Str.ofString "BadRow", Str.ofString "Twice", Str.ofString "NoKind", Str.ofString "TooBig"]
theorem law_right (d : Du) (n : Int) : d_law_right [encE d.nm (d.gs n), .str d.nm, .int n] = .rt (.d (.bool true)) := by
  refine run_eq (n := 5) (s := S_law_right) (ds := [encE d.nm (d.gs n), .str d.nm, .int n]) ?_
  unfold S_law_right
  simp -implicitDefEqProofs only [startD, List.length_cons, List.length_nil, List.map_cons, List.map_nil, List.cons_append, List.nil_append, Nat.reduceAdd, Nat.reduceSub, List.replicate, List.set_cons_zero, List.set_cons_succ, List.foldl_cons, List.foldl_nil, x_killD_n, x_killD_c, x_slOf_f, x_slOf_o, x_slOf_t, x_slOf_k]
  have e0 : ∀ r : Rho, eVar 0 (some (.d (encE d.nm (d.gs n))) :: r) = .ok (encE d.nm (d.gs n)) := fun _ => rfl
  have l1 : eFz (oLst (aCons (eIsX ti_BadRow (eVar 0)) (aCons (eIsX ti_Twice (eVar 0)) (aCons (eIsX ti_NoKind (eVar 0)) (aCons (eIsX ti_TooBig (eVar 0)) aNil))))) [some (.d (encE d.nm (d.gs n))), some (.d (.str d.nm)), some (.d (.int n)), none, none] = .ok (.list (d.bs.map PyData.bool)) := by
    cases d <;> exact lst4 (eisX (e0 _) (by decide +kernel)) (eisX (e0 _) (by decide +kernel)) (eisX (e0 _) (by decide +kernel)) (eisX (e0 _) (by decide +kernel))
  refine hs_seq (hs_set l1 ?_)
  simp -implicitDefEqProofs only [startD, List.length_cons, List.length_nil, List.map_cons, List.map_nil, List.cons_append, List.nil_append, Nat.reduceAdd, Nat.reduceSub, List.replicate, List.set_cons_zero, List.set_cons_succ, List.foldl_cons, List.foldl_nil, x_killD_n, x_killD_c, x_slOf_f, x_slOf_o, x_slOf_t, x_slOf_k]
  have l2 : eFz (oLc (iItems (eTup (aCons (eC (.str (PySem.Str.ofString "BadRow"))) (aCons (eC (.str (PySem.Str.ofString "Twice"))) (aCons (eC (.str (PySem.Str.ofString "NoKind"))) (aCons (eC (.str (PySem.Str.ofString "TooBig"))) aNil)))))) (aName 4) gYes (eOp eqD (rVar 1) (rVar 4)) [4]) [some (.d (encE d.nm (d.gs n))), some (.d (.str d.nm)), some (.d (.int n)), some (.d (.list (d.bs.map PyData.bool))), none] = .ok (.list (d.bs.map PyData.bool)) := by
    have e1 : d.bs = clsL.map fun z => decide (d.nm = z) := by cases d <;> decide +kernel
    rw [e1, List.map_map]
    refine fz_l (lc_eq PyData.str _ (it_t (tup4 rfl rfl rfl rfl)) (sz (by decide)) fun z _ => ⟨_, rfl, ?_⟩)
    rw [op_ok (a := .str d.nm) (b := .str z) rfl rfl, x_eq, x_eqB_s]
    rfl
  have bsh : Sh 1 (.list (d.bs.map PyData.bool)) := sh_l (sh_m fun b _ => sh_b)
  have v1 : eIsX ti_ValueError (eVar 0) [some (.d (encE d.nm (d.gs n))), some (.d (.str d.nm)), some (.d (.int n)), some (.d (.list (d.bs.map PyData.bool))), none] = .ok (.bool true) := by
    cases d <;> exact eisX (e0 _) (by decide +kernel)
  have v2 : eIsX ti_NoChange_NoClaim_NoFit_NoGround_NoPart_NoRange_NotOwn_NotUnder_TooMany_TwoGrounds (eVar 0) [some (.d (encE d.nm (d.gs n))), some (.d (.str d.nm)), some (.d (.int n)), some (.d (.list (d.bs.map PyData.bool))), none] = .ok (.bool false) := by
    cases d <;> exact eisX (e0 _) (by decide +kernel)
  have v3 : eXE xf_row "row" (eVar 0) [some (.d (encE d.nm (d.gs n))), some (.d (.str d.nm)), some (.d (.int n)), some (.d (.list (d.bs.map PyData.bool))), none] = .ok (.int n) := by
    cases d <;> exact eXv (e0 _) (by decide +kernel) (if_pos rfl)
  refine hs_seq (hs_if (c := false || !true) (xOrB _ _ (bof ((op_ok (a := .list (d.bs.map PyData.bool)) rfl l2).trans (ne_self_l bsh (by decide)))) (xNotB true (bof v1))) (fun q => by cases q) (fun _ => hs_next ?_))
  refine hs_seq (hs_if (bof v2) (fun q => by cases q) (fun _ => hs_next ?_))
  refine hs_seq (hs_if (c := d.two && (!true || !true)) (xAndB _ _ ?_ fun q => ?_) (fun q => by rw [Bool.and_comm] at q; cases q) (fun _ => hs_next ?_))
  · rw [x_bOf, op_ok (a := .str d.nm) (b := .tuple ([Str.ofString "NoKind", Str.ofString "TooBig"].map PyData.str)) rfl (tup2 rfl rfl), x_in, x_in_strsT]
    cases d <;> rfl
  · have v4 : eXE xf_claim "claim" (eVar 0) [some (.d (encE d.nm (d.gs n))), some (.d (.str d.nm)), some (.d (.int n)), some (.d (.list (d.bs.map PyData.bool))), none] = .ok (.int 0) := by
      cases d with
      | bad => cases q
      | twice => cases q
      | nok => exact eXv (e0 _) (by decide +kernel) ((if_neg (by decide +kernel)).trans (if_pos rfl))
      | big => exact eXv (e0 _) (by decide +kernel) ((if_neg (by decide +kernel)).trans (if_pos rfl))
    exact xOrB _ _ (xNotB true (bof (call1 v4 (law_whole 0)))) ((neI v4 (x_eC _ _)).trans rfl)
  refine hs_ret (x := .bool true) ?_ rfl
  unfold eAnd
  rw [call1 v3 (law_whole n), x_bind_ok, show asB (PyData.bool true) = R.ok true from rfl, x_bind_ok, if_pos rfl]
  rw [op_ok v3 (b := .int n) rfl, x_eq, x_eqB_i, decide_eq_true rfl]
  rfl
end
end K03
/-! the forms of the faulty row -/
namespace K03
open PySem L2 DL
noncomputable section
inductive Fm : List Str → Prop
  | one : Fm [strK]
  | three (f : Str) : Wc f → Fm [strK, f, strO]
  | five (f k : Str) : Wc f → Wc k → Fm [strK, f, strO, k, k]
  | two (a w : Str) : Wc a → GW w → Fm [a, w]
  | four (a w b u : Str) : Wc a → Wc b → GW w → GW u → Fm [a, w, b, u]
theorem Fm.rows {r : List Str} (h : Fm r) : r ≠ [] ∧ (∀ w ∈ r, Wc w) ∧ r.length ≤ 5 := by
  cases h with
  | one => exact ⟨by simp, fun w h => by rw [List.mem_singleton.mp h]; exact wc_K, by simp⟩
  | three f wf =>
    refine ⟨by simp, fun w h => ?_, by simp⟩
    simp only [List.mem_cons, List.not_mem_nil, or_false] at h
    rcases h with h | h | h <;> rw [h]
    · exact wc_K
    · exact wf
    · exact wc_O
  | five f k wf wk =>
    refine ⟨by simp, fun w h => ?_, by simp⟩
    simp only [List.mem_cons, List.not_mem_nil, or_false] at h
    rcases h with h | h | h | h | h <;> rw [h]
    · exact wc_K
    · exact wf
    · exact wc_O
    · exact wk
    · exact wk
  | two a v wa gw =>
    refine ⟨by simp, fun w h => ?_, by simp⟩
    simp only [List.mem_cons, List.not_mem_nil, or_false] at h
    rcases h with h | h <;> rw [h]
    · exact wa
    · exact gw.wc
  | four a v b u wa wb gw gu =>
    refine ⟨by simp, fun w h => ?_, by simp⟩
    simp only [List.mem_cons, List.not_mem_nil, or_false] at h
    rcases h with h | h | h | h <;> rw [h]
    · exact wa
    · exact gw.wc
    · exact wb
    · exact gu.wc
/-- the reader and the law agree -/
theorem Fm.agree {r : List Str} (h : Fm r) : ∃ t, d_kind_written [rowD r] = .rt (.d (tP t)) ∧ (∀ ws : Ks, ws.length ≤ 100 → d_law_due [rowD r, kD ws] = .rt (.d (duP (dueT ws t)))) ∧ (t = none ∨ ∃ w, GW w ∧ (r.take 2).drop 1 = [w]) := by
  cases h with
  | one => exact ⟨none, kw_none _ (by simp) (by simp), fun ws hl => due_bad _ _ ws hl rfl (by simp) (by simp), .inl rfl⟩
  | three f wf => exact ⟨none, kw_none _ (by simp) (by simp), fun ws hl => due_bad _ _ ws hl rfl (by simp) (by simp), .inl rfl⟩
  | five f k wf wk => exact ⟨none, kw_none _ (by simp) (by simp), fun ws hl => due_bad _ _ ws hl rfl (by simp) (by simp), .inl rfl⟩
  | two a w wa gw => exact ⟨_, kw_2 a w gw.wc.hi, fun ws hl => due_2 a w ws hl gw, .inr ⟨w, gw, rfl⟩⟩
  | four a w b u wa wb gw gu => exact ⟨_, kw_4 a w b u gw.wc.hi gu.wc.hi, fun ws hl => due_4 a w b u ws hl gw gu, .inr ⟨w, gw, rfl⟩⟩
/-- the row that stands in where none is due -/
theorem the_row (w : Str) (g : GW w) (ws : Ks) (hl : ws.length ≤ 100) : Fm [strK, w, strO, Str.ofString "the"] ∧ d_kind_written [rowD [strK, w, strO, Str.ofString "the"]] = .rt (.d (tP none)) ∧ d_law_due [rowD [strK, w, strO, Str.ofString "the"], kD ws] = .rt (.d (duP (some .bad))) := by
  have gt : GW (Str.ofString "the") := gw_odd (by simp [oddS])
  have e : f4 strK w strO (Str.ofString "the") = none := by
    unfold f4
    have : isW (Str.ofString "the") = false := by decide +kernel
    rw [if_neg fun z => by rw [this] at z; cases z.2.2.2]
  refine ⟨.four _ _ _ _ wc_K wc_O g gt, ?_, ?_⟩
  · rw [kw_4 _ _ _ _ g.wc.hi gt.wc.hi, e]
  · rw [due_4 _ _ _ _ ws hl g gt, e]
    rfl
def fQ (x : Sl) : Prop := ∃ r, Fm r ∧ (x = .d (rowD r) ∨ x = .o (rowD r))
theorem lst2 {ga gb : Rho → R PD} {a b : PD} {ρ : Rho} (ha : ga ρ = .ok a) (hb : gb ρ = .ok b) : oLst (aCons ga (aCons gb aNil)) ρ = .ok (.list [a, b]) := by
  simp only [x_oLst, x_aCons, x_aNil, ha, hb, x_bind_ok]
  exact if_pos s2
theorem ls1 {ga : Rho → R PD} {a : PD} {ρ : Rho} (ha : ga ρ = .ok a) : oLst (aCons ga aNil) ρ = .ok (.list [a]) := by
  simp only [x_oLst, x_aCons, x_aNil, ha, x_bind_ok]
  exact if_pos s1
theorem ls3 {ga gb gc : Rho → R PD} {a b c : PD} {ρ : Rho} (ha : ga ρ = .ok a) (hb : gb ρ = .ok b) (hc : gc ρ = .ok c) : oLst (aCons ga (aCons gb (aCons gc aNil))) ρ = .ok (.list [a, b, c]) := by
  simp only [x_oLst, x_aCons, x_aNil, ha, hb, hc, x_bind_ok]
  exact if_pos s3
theorem ls4 {ga gb gc gd : Rho → R PD} {a b c d : PD} {ρ : Rho} (ha : ga ρ = .ok a) (hb : gb ρ = .ok b) (hc : gc ρ = .ok c) (hd : gd ρ = .ok d) : oLst (aCons ga (aCons gb (aCons gc (aCons gd aNil)))) ρ = .ok (.list [a, b, c, d]) := by
  simp only [x_oLst, x_aCons, x_aNil, ha, hb, hc, hd, x_bind_ok]
  exact if_pos s4
theorem ls5 {ga gb gc gd ge : Rho → R PD} {a b c d e : PD} {ρ : Rho} (ha : ga ρ = .ok a) (hb : gb ρ = .ok b) (hc : gc ρ = .ok c) (hd : gd ρ = .ok d) (he : ge ρ = .ok e) : oLst (aCons ga (aCons gb (aCons gc (aCons gd (aCons ge aNil))))) ρ = .ok (.list [a, b, c, d, e]) := by
  simp only [x_oLst, x_aCons, x_aNil, ha, hb, hc, hd, he, x_bind_ok]
  exact if_pos s5
theorem odd_lst {ρ : Rho} : eFz (oLst (aCons (eC (.str (PySem.Str.ofString "the"))) (aCons (eOp addD (eC (.str (PySem.Str.ofString "toolongwd"))) (eC (.str (PySem.Str.ofString "s")))) (aCons (eC (.str (PySem.Str.ofString "r2"))) (aCons (eC (.str (PySem.Str.ofString "Rod"))) (aCons (eC (.str (PySem.Str.ofString "said"))) (aCons (eC (.str (PySem.Str.ofString "a-b"))) aNil))))))) ρ = .ok (.list (oddS.map PyData.str)) := fz_l (by
  have e : eOp addD (eC (.str (PySem.Str.ofString "toolongwd"))) (eC (.str (PySem.Str.ofString "s"))) ρ = .ok (.str (Str.ofString "toolongwds")) := by
    rw [op_ok (a := .str (Str.ofString "toolongwd")) (b := .str (Str.ofString "s")) rfl rfl, x_add_s, if_pos (sz (by decide +kernel))]
    rw [show Str.ofString "toolongwd" ++ Str.ofString "s" = Str.ofString "toolongwds" by decide +kernel]
  simp only [x_oLst, x_aCons, x_aNil, x_eC, e, x_bind_ok]
  exact if_pos s6)
theorem wc_Ks : Wc (Str.ofString "kinds") := ⟨by decide +kernel, by decide +kernel, by decide +kernel⟩
theorem wc_on : Wc (Str.ofString "on") := ⟨by decide +kernel, by decide +kernel, by decide +kernel⟩
theorem odd_row (m : Int) (known fresh : Str) (gk : GW known) (gf : GW fresh) : ∃ x, d_law_odd_row [.int m, .str known, .str fresh] = .rt x ∧ fQ x := by
  refine hs_run (n := 5) (s := S_law_odd_row) (ds := [.int m, .str known, .str fresh]) (Q := fQ) ?_
  unfold S_law_odd_row
  have l6 : oddS.length = 6 := rfl
  obtain ⟨w, hw, ew, ei⟩ := ix_list oddS PyData.str (m / 8 % 6) (by omega) (by rw [l6]; omega)
  have gw : GW w := gw_odd (by rw [ew]; exact List.getElem_mem _)
  simp -implicitDefEqProofs only [startD, List.length_cons, List.length_nil, List.map_cons, List.map_nil, List.cons_append, List.nil_append, Nat.reduceAdd, Nat.reduceSub, List.replicate, List.set_cons_zero, List.set_cons_succ, List.foldl_cons, List.foldl_nil, x_killD_n, x_killD_c, x_slOf_f, x_slOf_o, x_slOf_t, x_slOf_k]
  refine hs_seq (hs_set (x := .str w) ?_ ?_)
  · rw [op_ok (odd_lst) (b := .int (m / 8 % 6)) (by simp -implicitDefEqProofs only [s0, s1, s2, s3, s4, s5, s6, s7, s8, s9, x_max2, x_int_b, x_int_i, x_tuple_l, startD, List.length_cons, List.length_nil, List.map_cons, List.map_nil, List.cons_append, List.nil_append, Nat.reduceAdd, Nat.reduceSub, List.replicate, List.set_cons_zero, List.set_cons_succ, x_wipe_cons, x_wipe_nil, x_eOp, x_eC, x_eCB, x_aCons, x_aNil, x_bind_ok, x_add_i, x_len_s, x_len_l, x_len_t, x_bOf, x_eTup, x_eFz, x_oLst, x_eCall, x_aName, x_aTup, x_asCons, x_asNil, x_mod, x_div, x_bAnd, x_bOr, x_bNot, x_asB, x_sub_i, x_neg_i, x_toE_d, x_toE_o, x_notDict, if_true, if_false, reduceIte, Int.reduceLT, Int.reduceAdd, Int.reduceSub, Int.reduceMul, Int.reduceNeg, Int.reducePow, rVar, eVar, hVar, List.getElem?_cons_zero, List.getElem?_cons_succ]), ei]
  simp -implicitDefEqProofs only [startD, List.length_cons, List.length_nil, List.map_cons, List.map_nil, List.cons_append, List.nil_append, Nat.reduceAdd, Nat.reduceSub, List.replicate, List.set_cons_zero, List.set_cons_succ, List.foldl_cons, List.foldl_nil, x_killD_n, x_killD_c, x_slOf_f, x_slOf_o, x_slOf_t, x_slOf_k]
  refine hs_seq (hs_set (x := .int (m % 8)) (by simp -implicitDefEqProofs only [s0, s1, s2, s3, s4, s5, s6, s7, s8, s9, x_max2, x_int_b, x_int_i, x_tuple_l, startD, List.length_cons, List.length_nil, List.map_cons, List.map_nil, List.cons_append, List.nil_append, Nat.reduceAdd, Nat.reduceSub, List.replicate, List.set_cons_zero, List.set_cons_succ, x_wipe_cons, x_wipe_nil, x_eOp, x_eC, x_eCB, x_aCons, x_aNil, x_bind_ok, x_add_i, x_len_s, x_len_l, x_len_t, x_bOf, x_eTup, x_eFz, x_oLst, x_eCall, x_aName, x_aTup, x_asCons, x_asNil, x_mod, x_div, x_bAnd, x_bOr, x_bNot, x_asB, x_sub_i, x_neg_i, x_toE_d, x_toE_o, x_notDict, if_true, if_false, reduceIte, Int.reduceLT, Int.reduceAdd, Int.reduceSub, Int.reduceMul, Int.reduceNeg, Int.reducePow, rVar, eVar, hVar, List.getElem?_cons_zero, List.getElem?_cons_succ]) ?_)
  simp -implicitDefEqProofs only [startD, List.length_cons, List.length_nil, List.map_cons, List.map_nil, List.cons_append, List.nil_append, Nat.reduceAdd, Nat.reduceSub, List.replicate, List.set_cons_zero, List.set_cons_succ, List.foldl_cons, List.foldl_nil, x_killD_n, x_killD_c, x_slOf_f, x_slOf_o, x_slOf_t, x_slOf_k]
  refine hs_seq (hs_ifX (xEqI rfl rfl) (hs_retO (ls1 rfl) ⟨_, .one, .inr rfl⟩) (hs_next ?_))
  refine hs_seq (hs_ifX (xEqI rfl rfl) (hs_retO (ls3 rfl rfl rfl) ⟨_, .three fresh gf.wc, .inr rfl⟩) (hs_next ?_))
  refine hs_seq (hs_ifX (xEqI rfl rfl) (hs_retO (ls5 rfl rfl rfl rfl rfl) ⟨_, .five fresh known gf.wc gk.wc, .inr rfl⟩) (hs_next ?_))
  refine hs_seq (hs_ifX (xEqI rfl rfl) (hs_retO (lst2 rfl rfl) ⟨_, .two strK w wc_K gw, .inr rfl⟩) (hs_next ?_))
  refine hs_seq (hs_ifX (xEqI rfl rfl) (hs_retO (ls4 rfl rfl rfl rfl) ⟨_, .four strK fresh strO w wc_K wc_O gf gw, .inr rfl⟩) (hs_next ?_))
  refine hs_seq (hs_ifX (xEqI rfl rfl) (hs_retO (ls4 rfl rfl rfl rfl) ⟨_, .four strK w strO known wc_K wc_O gw gk, .inr rfl⟩) (hs_next ?_))
  refine hs_seq (hs_ifX (xEqI rfl rfl) (hs_retO (lst2 rfl rfl) ⟨_, .two _ fresh wc_Ks gf, .inr rfl⟩) (hs_next ?_))
  exact hs_retO (ls4 rfl rfl rfl rfl) ⟨_, .four strK fresh _ known wc_K wc_on gf gk, .inr rfl⟩
theorem fq_call {x : Sl} (h : fQ x) : ∃ r, Fm r ∧ (FR.rt x).toE = .ok (rowD r) := by
  obtain ⟨r, f, e | e⟩ := h
  · exact ⟨r, f, by rw [e]; rfl⟩
  · refine ⟨r, f, ?_⟩
    rw [e]
    exact x_toD_l _
theorem call3E {f : List PD → FR} {ga gb gc : Rho → R PD} {ρ : Rho} {a b c x : PD} (ha : ga ρ = .ok a) (hb : gb ρ = .ok b) (hc : gc ρ = .ok c) (h : (f [a, b, c]).toE = .ok x) : eCall 3 f (aCons ga (aCons gb (aCons gc aNil))) ρ = .ok x := by
  simp only [x_eCall, x_aCons, x_aNil, ha, hb, hc, x_bind_ok]
  show (if 3 = 3 then (f [a, b, c]).toE else R.bad) = _
  rw [if_pos rfl, h]
theorem faulty_ok (m s : Int) (ws : Ks) (h0 : 0 ≤ s) (h1 : s < 2 ^ 62) (hn : ∀ p ∈ ws, ∃ j, p.1 = nm s j) : ∃ x, d_law_faulty [.int m, kD ws, .int s] = .rt x ∧ fQ x := by
  refine hs_run (n := 6) (s := S_law_faulty) (ds := [.int m, kD ws, .int s]) (Q := fQ) ?_
  unfold S_law_faulty
  have n13 := law_name s 13 h0 h1 (by decide)
  have n14 := law_name s 14 h0 h1 (by decide)
  have n15 := law_name s 15 h0 h1 (by decide)
  refine hs_seq (hs_set (x := .str (nm s 13)) (call2 rfl rfl n13) ?_)
  simp -implicitDefEqProofs only [startD, List.length_cons, List.length_nil, List.map_cons, List.map_nil, List.cons_append, List.nil_append, Nat.reduceAdd, Nat.reduceSub, List.replicate, List.set_cons_zero, List.set_cons_succ, List.foldl_cons, List.foldl_nil, x_killD_n, x_killD_c, x_slOf_f, x_slOf_o, x_slOf_t, x_slOf_k]
  refine hs_cut (P := fun ρ => ∃ known, GW known ∧ ρ = [some (.d (.int m)), some (.d (kD ws)), some (.d (.int s)), some (.d (.str known)), none, none]) ?_ ?_
  · refine hs_if (c := decide (0 < (ws.length : Int))) ?_ (fun q => ?_) (fun _ => hs_next ⟨_, gw_nm s 13 h0, rfl⟩)
    · rw [xCmpB (p := fun a b => decide (b < a)) (i := (ws.length : Nat)) (j := 0) _ (by rw [lenL (l := ws.map kI) rfl, List.length_map]) rfl rfl]
    have q := of_decide_eq_true q
    have b0 : 0 ≤ m / 4 % (ws.length : Int) := Int.emod_nonneg _ (by omega)
    have b1 : m / 4 % (ws.length : Int) < ws.length := Int.emod_lt_of_pos _ q
    obtain ⟨p, hp, ep, ei⟩ := ix_list ws kI (m / 4 % (ws.length : Int)) b0 b1
    obtain ⟨j, ej⟩ := hn p (by rw [ep]; exact List.getElem_mem _)
    refine hs_set (x := .str p.1) ?_ ⟨p.1, by rw [ej]; exact gw_nm s j h0, rfl⟩
    have ml : modD (.int (m / 4)) (.int (ws.length : Nat)) = .ok (.int (m / 4 % (ws.length : Int))) := x_mod _ _ q
    have e1 : eOp ixD (rVar 1) (eOp modD (eOp divD (rVar 0) (eC (.int 4))) (eCB lenD (aCons (rVar 1) aNil))) [some (.d (.int m)), some (.d (kD ws)), some (.d (.int s)), some (.d (.str (nm s 13))), none, none] = .ok (kI p) := by
      rw [op_ok (a := kD ws) (b := .int (m / 4 % (ws.length : Int))) rfl ?_]
      · exact ei
      · rw [op_ok (a := .int (m / 4)) (b := .int (ws.length : Nat)) (by simp -implicitDefEqProofs only [s0, s1, s2, s3, s4, s5, s6, s7, s8, s9, x_max2, x_int_b, x_int_i, x_tuple_l, startD, List.length_cons, List.length_nil, List.map_cons, List.map_nil, List.cons_append, List.nil_append, Nat.reduceAdd, Nat.reduceSub, List.replicate, List.set_cons_zero, List.set_cons_succ, x_wipe_cons, x_wipe_nil, x_eOp, x_eC, x_eCB, x_aCons, x_aNil, x_bind_ok, x_add_i, x_len_s, x_len_l, x_len_t, x_bOf, x_eTup, x_eFz, x_oLst, x_eCall, x_aName, x_aTup, x_asCons, x_asNil, x_mod, x_div, x_bAnd, x_bOr, x_bNot, x_asB, x_sub_i, x_neg_i, x_toE_d, x_toE_o, x_notDict, if_true, if_false, reduceIte, Int.reduceLT, Int.reduceAdd, Int.reduceSub, Int.reduceMul, Int.reduceNeg, Int.reducePow, rVar, eVar, hVar, List.getElem?_cons_zero, List.getElem?_cons_succ]) (by rw [lenL (l := ws.map kI) rfl, List.length_map]), ml]
    rw [op_ok e1 (b := .int 0) rfl]
    exact x_ix_t _ 0 _ (by decide) rfl
  rintro _ ⟨known, gk, rfl⟩
  have gf := gw_nm s 14 h0
  have g15 := gw_nm s 15 h0
  refine hs_seq (hs_set (x := .str (nm s 14)) (call2 rfl rfl n14) ?_)
  simp -implicitDefEqProofs only [startD, List.length_cons, List.length_nil, List.map_cons, List.map_nil, List.cons_append, List.nil_append, Nat.reduceAdd, Nat.reduceSub, List.replicate, List.set_cons_zero, List.set_cons_succ, List.foldl_cons, List.foldl_nil, x_killD_n, x_killD_c, x_slOf_f, x_slOf_o, x_slOf_t, x_slOf_k]
  generalize nm s 14 = fresh at gf ⊢
  refine hs_seq (hs_ifX (xEqI (i := m % 4) (by simp -implicitDefEqProofs only [s0, s1, s2, s3, s4, s5, s6, s7, s8, s9, x_max2, x_int_b, x_int_i, x_tuple_l, startD, List.length_cons, List.length_nil, List.map_cons, List.map_nil, List.cons_append, List.nil_append, Nat.reduceAdd, Nat.reduceSub, List.replicate, List.set_cons_zero, List.set_cons_succ, x_wipe_cons, x_wipe_nil, x_eOp, x_eC, x_eCB, x_aCons, x_aNil, x_bind_ok, x_add_i, x_len_s, x_len_l, x_len_t, x_bOf, x_eTup, x_eFz, x_oLst, x_eCall, x_aName, x_aTup, x_asCons, x_asNil, x_mod, x_div, x_bAnd, x_bOr, x_bNot, x_asB, x_sub_i, x_neg_i, x_toE_d, x_toE_o, x_notDict, if_true, if_false, reduceIte, Int.reduceLT, Int.reduceAdd, Int.reduceSub, Int.reduceMul, Int.reduceNeg, Int.reducePow, rVar, eVar, hVar, List.getElem?_cons_zero, List.getElem?_cons_succ]) rfl) ?_ (hs_next ?_))
  · obtain ⟨x, ex, hx⟩ := odd_row (m / 100) known fresh gk gf
    obtain ⟨r, fr, er⟩ := fq_call hx
    exact hs_ret (call3E (a := .int (m / 100)) (by simp -implicitDefEqProofs only [s0, s1, s2, s3, s4, s5, s6, s7, s8, s9, x_max2, x_int_b, x_int_i, x_tuple_l, startD, List.length_cons, List.length_nil, List.map_cons, List.map_nil, List.cons_append, List.nil_append, Nat.reduceAdd, Nat.reduceSub, List.replicate, List.set_cons_zero, List.set_cons_succ, x_wipe_cons, x_wipe_nil, x_eOp, x_eC, x_eCB, x_aCons, x_aNil, x_bind_ok, x_add_i, x_len_s, x_len_l, x_len_t, x_bOf, x_eTup, x_eFz, x_oLst, x_eCall, x_aName, x_aTup, x_asCons, x_asNil, x_mod, x_div, x_bAnd, x_bOr, x_bNot, x_asB, x_sub_i, x_neg_i, x_toE_d, x_toE_o, x_notDict, if_true, if_false, reduceIte, Int.reduceLT, Int.reduceAdd, Int.reduceSub, Int.reduceMul, Int.reduceNeg, Int.reducePow, rVar, eVar, hVar, List.getElem?_cons_zero, List.getElem?_cons_succ]) rfl rfl (by rw [ex, er])) ⟨r, fr, .inl rfl⟩
  refine hs_seq (hs_set (x := .str fresh) rfl ?_)
  simp -implicitDefEqProofs only [startD, List.length_cons, List.length_nil, List.map_cons, List.map_nil, List.cons_append, List.nil_append, Nat.reduceAdd, Nat.reduceSub, List.replicate, List.set_cons_zero, List.set_cons_succ, List.foldl_cons, List.foldl_nil, x_killD_n, x_killD_c, x_slOf_f, x_slOf_o, x_slOf_t, x_slOf_k]
  refine hs_cut (P := fun ρ => ∃ w, GW w ∧ ρ = [some (.d (.int m)), some (.d (kD ws)), some (.d (.int s)), some (.d (.str known)), some (.d (.str fresh)), some (.d (.str w))]) ?_ ?_
  · exact hs_ifX (xEqI (i := m % 4) (by simp -implicitDefEqProofs only [s0, s1, s2, s3, s4, s5, s6, s7, s8, s9, x_max2, x_int_b, x_int_i, x_tuple_l, startD, List.length_cons, List.length_nil, List.map_cons, List.map_nil, List.cons_append, List.nil_append, Nat.reduceAdd, Nat.reduceSub, List.replicate, List.set_cons_zero, List.set_cons_succ, x_wipe_cons, x_wipe_nil, x_eOp, x_eC, x_eCB, x_aCons, x_aNil, x_bind_ok, x_add_i, x_len_s, x_len_l, x_len_t, x_bOf, x_eTup, x_eFz, x_oLst, x_eCall, x_aName, x_aTup, x_asCons, x_asNil, x_mod, x_div, x_bAnd, x_bOr, x_bNot, x_asB, x_sub_i, x_neg_i, x_toE_d, x_toE_o, x_notDict, if_true, if_false, reduceIte, Int.reduceLT, Int.reduceAdd, Int.reduceSub, Int.reduceMul, Int.reduceNeg, Int.reducePow, rVar, eVar, hVar, List.getElem?_cons_zero, List.getElem?_cons_succ]) rfl) (hs_set (x := .str known) rfl ⟨known, gk, rfl⟩) (hs_next ⟨fresh, gf, rfl⟩)
  rintro _ ⟨w, gw, rfl⟩
  refine hs_seq (hs_ifX (xEqI (i := m / 100 % 3) (by simp -implicitDefEqProofs only [s0, s1, s2, s3, s4, s5, s6, s7, s8, s9, x_max2, x_int_b, x_int_i, x_tuple_l, startD, List.length_cons, List.length_nil, List.map_cons, List.map_nil, List.cons_append, List.nil_append, Nat.reduceAdd, Nat.reduceSub, List.replicate, List.set_cons_zero, List.set_cons_succ, x_wipe_cons, x_wipe_nil, x_eOp, x_eC, x_eCB, x_aCons, x_aNil, x_bind_ok, x_add_i, x_len_s, x_len_l, x_len_t, x_bOf, x_eTup, x_eFz, x_oLst, x_eCall, x_aName, x_aTup, x_asCons, x_asNil, x_mod, x_div, x_bAnd, x_bOr, x_bNot, x_asB, x_sub_i, x_neg_i, x_toE_d, x_toE_o, x_notDict, if_true, if_false, reduceIte, Int.reduceLT, Int.reduceAdd, Int.reduceSub, Int.reduceMul, Int.reduceNeg, Int.reducePow, rVar, eVar, hVar, List.getElem?_cons_zero, List.getElem?_cons_succ]) rfl) (hs_retO (lst2 rfl rfl) ⟨_, .two strK w wc_K gw, .inr rfl⟩) (hs_next ?_))
  obtain ⟨u, hu, eu, ei⟩ := ix_list [known, nm s 15] PyData.str (m / 300 % 2) (by omega) (by show _ < ((2 : Nat) : Int); omega)
  have gu : GW u := by
    have : u ∈ [known, nm s 15] := by rw [eu]; exact List.getElem_mem _
    rcases List.mem_cons.mp this with e | e
    · rw [e]; exact gk
    · rw [List.mem_singleton.mp e]; exact g15
  refine hs_retO (ls4 (a := .str strK) (b := .str w) (c := .str strO) (d := .str u) rfl rfl rfl ?_) ⟨_, .four strK w strO u wc_K wc_O gw gu, .inr rfl⟩
  rw [op_ok (a := .list ([known, nm s 15].map PyData.str)) (b := .int (m / 300 % 2)) (fz_l (lst2 rfl (call2 rfl rfl n15))) (by simp -implicitDefEqProofs only [s0, s1, s2, s3, s4, s5, s6, s7, s8, s9, x_max2, x_int_b, x_int_i, x_tuple_l, startD, List.length_cons, List.length_nil, List.map_cons, List.map_nil, List.cons_append, List.nil_append, Nat.reduceAdd, Nat.reduceSub, List.replicate, List.set_cons_zero, List.set_cons_succ, x_wipe_cons, x_wipe_nil, x_eOp, x_eC, x_eCB, x_aCons, x_aNil, x_bind_ok, x_add_i, x_len_s, x_len_l, x_len_t, x_bOf, x_eTup, x_eFz, x_oLst, x_eCall, x_aName, x_aTup, x_asCons, x_asNil, x_mod, x_div, x_bAnd, x_bOr, x_bNot, x_asB, x_sub_i, x_neg_i, x_toE_d, x_toE_o, x_notDict, if_true, if_false, reduceIte, Int.reduceLT, Int.reduceAdd, Int.reduceSub, Int.reduceMul, Int.reduceNeg, Int.reducePow, rVar, eVar, hVar, List.getElem?_cons_zero, List.getElem?_cons_succ]), ei]
end
end K03
/-! the law -/
namespace K03
open PySem L2 DL
noncomputable section
theorem text_rows (rows : List (List Str)) (s : Int) (h0 : 0 ≤ s) (hr : ∀ r ∈ rows, r ≠ [] ∧ (∀ w ∈ r, Wc w) ∧ r.length ≤ 5) (hl : rows.length ≤ 15) : ∃ (z : Str) (ls : List Str), d_law_text [.list (rows.map rowD), .int s] = .rt (.d (.str z)) ∧ Txt.split z nl = ls ∧ z.length ≤ 10000 ∧ ls.length ≤ 1000 ∧ (∀ l ∈ ls, l.length ≤ 1000 ∧ ∀ w ∈ Txt.words l, PyData.strOk w = true) ∧ (keepW (enumP 0 ls)).map (·.2) = rows := by
  obtain ⟨lines, et, t, hn⟩ := law_text rows s h0 hr hl
  obtain ⟨ls, es, t2, hls⟩ := t.split
  have sl := sum_le lines 100 fun z hz => (t.ok z hz).2
  have nlen : nl.length = 1 := by decide +kernel
  have jl : (Txt.join nl lines).length ≤ 10000 := by
    have := join_le nl lines
    rw [nlen] at this
    omega
  refine ⟨_, ls, et, es, jl, by omega, fun l hl => ⟨by have := (t2.ok l hl).2; omega, fun w hw => ?_⟩, by rw [keepW_rows]; exact t2.w⟩
  have m : Txt.words l ∈ rows := by
    rw [← t2.w]
    exact List.mem_filter.mpr ⟨List.mem_map_of_mem hl, decide_eq_true fun q => by rw [q] at hw; cases hw⟩
  exact strOk_wc ((hr _ m).2.1 w hw)
theorem keepW_filter (prs : List (Nat × Str)) : (keepW prs).map (fun q => PyData.int (q.1 : Nat)) = (prs.filter fun q => decide (Txt.words q.2 ≠ [])).map fun q => PyData.int (q.1 : Nat) := by
  unfold keepW
  rw [List.filter_map, List.map_map]
  rfl
/-- the numbers of the rows with words -/
theorem nums_ok (z : Str) (ls : List Str) (e : Txt.split z nl = ls) (hz : z.length ≤ 10000) (hn : ls.length ≤ 1000) (h : ∀ l ∈ ls, l.length ≤ 1000 ∧ ∀ w ∈ Txt.words l, PyData.strOk w = true) (a0 a1 a2 a3 a4 a5 a6 a7 a8 a9 a10 a11 a13 a14 a15 : Option Sl) :
    eFz (oLc (iEnumD (aCons (eFz (eM1 splitD (rVar 12) (eC (.str (PySem.Str.ofString "\n"))))) aNil)) (aTup 2 (asCons (aName 14) (asCons (aName 15) asNil))) (bOf (eOp neD (eFz (eM0 wordsD (rVar 15))) (eFz (oLst aNil)))) (eVar 14) [14, 15]) [a0, a1, a2, a3, a4, a5, a6, a7, a8, a9, a10, a11, some (.d (.str z)), a13, a14, a15] = .ok (.list ((keepW (enumP 0 ls)).map fun q => PyData.int (q.1 : Nat))) := by
  have s1' : z.length + 2 ≤ sizeLine := sz (by omega)
  have n1 : (nl.length == 0) = false := by decide +kernel
  have es : eFz (eM1 splitD (rVar 12) (eC (.str (PySem.Str.ofString "\n")))) [a0, a1, a2, a3, a4, a5, a6, a7, a8, a9, a10, a11, some (.d (.str z)), a13, a14, a15] = .ok (.list (ls.map PyData.str)) := by
    simp only [x_eFz, x_eM1, rVar, x_eC, List.getElem?_cons_zero, List.getElem?_cons_succ, x_bind_ok, x_strOf, x_split]
    rw [if_pos ⟨n1, s1'⟩]
    show R.ok (PyData.list ((Txt.split z nl).map PyData.str)) = _
    rw [e]
  have ei : iEnumD (aCons (eFz (eM1 splitD (rVar 12) (eC (.str (PySem.Str.ofString "\n"))))) aNil) [a0, a1, a2, a3, a4, a5, a6, a7, a8, a9, a10, a11, some (.d (.str z)), a13, a14, a15] = .ok ((enumP 0 ls).map eI) := by
    rw [x_iEnum, x_aCons, es, x_bind_ok, x_aNil, x_bind_ok, x_bind_ok, x_enumO]
    unfold enumD
    rw [enum_eq]
  have el : (enumP 0 ls).length = ls.length := by
    have := congrArg List.length (enumP_snd ls 0)
    rwa [List.length_map] at this
  rw [keepW_filter]
  refine fz_l (lc_flt eI (fun q => PyData.int (q.1 : Nat)) (fun q => decide (Txt.words q.2 ≠ [])) ei (sz (by omega)) fun q hq => ?_)
  have hq2 : q.2 ∈ ls := by
    have := List.mem_map_of_mem (f := (·.2)) hq
    rwa [enumP_snd] at this
  obtain ⟨hl, hw⟩ := h q.2 hq2
  refine ⟨_, rfl, ?_, fun _ => rfl⟩
  have sl : q.2.length + 2 ≤ sizeLine := sz (by omega)
  refine bof ?_
  rw [op_ok (a := .list ((Txt.words q.2).map PyData.str)) (b := .list []) (fz_l ?_) lst0]
  · exact words_ne _ hw
  · rw [x_eM0]
    show strOf (.str q.2) (wordsD (.str q.2) []) = _
    rw [x_strOf, x_words, if_pos sl]
/-- one row of a kind -/
theorem row_ok (p : Str × Str) {ρ : Rho} (r8 : eVar 8 ρ = .ok (.str p.1)) (r9 : eVar 9 ρ = .ok (.str p.2)) (r9' : rVar 9 ρ = .ok (.str p.2)) : eOp addD (eFz (oLst (aCons (eC (.str (PySem.Str.ofString "kind"))) (aCons (eVar 8) aNil)))) (eSl (eFz (oLst (aCons (eC (.str (PySem.Str.ofString "of"))) (aCons (eVar 9) aNil)))) pNo (pSo (eOp mulD (eC (.int 2)) (eCB intD (aCons (eOp neD (rVar 9) (eC (.str (PySem.Str.ofString "")))) aNil))))) ρ = .ok (rowD (rowOf p)) := by
  have k : eOp mulD (eC (.int 2)) (eCB intD (aCons (eOp neD (rVar 9) (eC (.str (PySem.Str.ofString "")))) aNil)) ρ = .ok (.int (2 * (if p.2 = eS then 0 else 1))) := by
    have n1 : eOp neD (rVar 9) (eC (.str (PySem.Str.ofString ""))) ρ = .ok (.bool (!decide (p.2 = eS))) := (op_ok r9' (b := .str eS) rfl).trans (by rw [x_ne, x_eqB_s]; rfl)
    rw [op_ok (a := .int 2) rfl ((cb1 n1).trans (x_int_b _)), x_mul_l 2 _ (by decide) (by decide)]
    by_cases c : p.2 = eS
    · rw [if_pos c, decide_eq_true c]; rfl
    · rw [if_neg c, decide_eq_false c]; rfl
  have l1 : eFz (oLst (aCons (eC (.str (PySem.Str.ofString "kind"))) (aCons (eVar 8) aNil))) ρ = .ok (.list ([strK, p.1].map PyData.str)) := fz_l (lst2 rfl r8)
  have l2 : eFz (oLst (aCons (eC (.str (PySem.Str.ofString "of"))) (aCons (eVar 9) aNil))) ρ = .ok (.list ([strO, p.2].map PyData.str)) := fz_l (lst2 rfl r9)
  have l3 := sl_a l2 k (by split <;> decide)
  rw [add2 l1 l3 (by simp; omega)]
  unfold rowD rowOf
  by_cases c : p.2 = eS
  · rw [if_pos c, if_pos c]; rfl
  · rw [if_neg c, if_neg c]; rfl
def lwB : Rho → SR := (sSeq (sSet 4 (eCall 3 d_law_mix (aCons (eOp ixD (rVar 2) (rVar 3)) (aCons (eVar 3) (aCons (eC (.int 1111111111111111111)) aNil))))) (sSeq (sSet 5 (eOp ixD (eFz (oLst (aCons (eC (.int 12)) (aCons (eOp modD (eOp divD (rVar 4) (eC (.int 5))) (eC (.int 13))) aNil)))) (eCB intD (aCons (eOp gtD (eOp modD (rVar 4) (eC (.int 5))) (eC (.int 0))) aNil)))) (sSeq (sSet 6 (eCall 2 d_law_kinds (aCons (eSl (eOp addD (rVar 2) (eFz (eOp repL (oLst (aCons (eVar 1) aNil)) (eC (.int 12))))) pNo (pSo (rVar 5))) (aCons (eVar 1) aNil)))) (sSeq (sSetO 7 (oLst aNil)) (sSeq (preK [8, 9] (sFor (iItems (eVar 6)) (aTup 2 (asCons (aName 8) (asCons (aName 9) asNil))) (killS [8, 9] (sAppend 7 (eOp addD (eFz (oLst (aCons (eC (.str (PySem.Str.ofString "kind"))) (aCons (eVar 8) aNil)))) (eSl (eFz (oLst (aCons (eC (.str (PySem.Str.ofString "of"))) (aCons (eVar 9) aNil)))) pNo (pSo (eOp mulD (eC (.int 2)) (eCB intD (aCons (eOp neD (rVar 9) (eC (.str (PySem.Str.ofString "")))) aNil)))))))))) (sSeq (sSet 10 (eCall 3 d_law_faulty (aCons (eOp divD (rVar 4) (eC (.int 65))) (aCons (eVar 6) (aCons (eVar 1) aNil))))) (sSeq (sSet 11 (eCall 2 d_law_due (aCons (eVar 10) (aCons (eVar 6) aNil)))) (sSeq (sIf (bOf (eOp isND (rVar 11) (eC .none))) (sSeq (sSet 10 (eOp addD (eOp addD (eFz (oLst (aCons (eC (.str (PySem.Str.ofString "kind"))) aNil))) (eSl (rVar 10) (pSo (eC (.int 1))) (pSo (eC (.int 2))))) (eFz (oLst (aCons (eC (.str (PySem.Str.ofString "of"))) (aCons (eC (.str (PySem.Str.ofString "the"))) aNil)))))) (sSet 11 (eCall 2 d_law_due (aCons (eVar 10) (aCons (eVar 6) aNil))))) sNext) (sSeq (sSet 12 (eCall 2 d_law_text (aCons (eOp addD (eOp addD (rVar 7) (eFz (oLst (aCons (eVar 10) aNil)))) (eSl (eFz (oLst (aCons (eFz (oLst (aCons (eC (.str (PySem.Str.ofString "kind"))) aNil))) (aCons (eVar 10) aNil)))) pNo (pSo (eOp modD (eOp divD (rVar 4) (eC (.int 7))) (eC (.int 3)))))) (aCons (eOp addD (eOp divD (rVar 1) (eC (.int 77))) (rVar 3)) aNil)))) (sSeq (sSet 13 (eOp ixD (eFz (oLc (iEnumD (aCons (eFz (eM1 splitD (rVar 12) (eC (.str (PySem.Str.ofString "\n"))))) aNil)) (aTup 2 (asCons (aName 14) (asCons (aName 15) asNil))) (bOf (eOp neD (eFz (eM0 wordsD (rVar 15))) (eFz (oLst aNil)))) (eVar 14) [14, 15])) (eCB lenD (aCons (rVar 7) aNil)))) (sIf (bNot (bOf (eCall 3 d_law_right (aCons (eCall 1 d_law_told (aCons (eVar 12) aNil)) (aCons (eVar 11) (aCons (eVar 13) aNil)))))) (sRet (eC (.bool false))) sNext)))))))))))
theorem turn (ns cells : List Int) (s : Int) (h0 : 0 ≤ s) (h1 : s < 2 ^ 62) (k : Nat) (hk : k < cells.length) (hcl : cells.length ≤ 66) : HS lwB [some (.d (.list (ns.map PyData.int))), some (.d (.int s)), some (.d (.list (cells.map PyData.int))), some (.d (.int (k : Nat))), none, none, none, none, none, none, none, none, none, none, none, none] (fun ρ => [3, 4, 5, 6, 7, 8, 9, 10, 11, 12, 13].foldl (fun ρ i => ρ.set i none) ρ = [some (.d (.list (ns.map PyData.int))), some (.d (.int s)), some (.d (.list (cells.map PyData.int))), none, none, none, none, none, none, none, none, none, none, none, none, none]) (fun _ => False) (fun _ => False) := by
  unfold lwB
  generalize hs0 : some (Sl.d (PyData.list (ns.map PyData.int))) = a0
  have em := law_mix (cells[k]'hk) k 1111111111111111111 (Int.natCast_nonneg k) (by omega) (by decide) (by decide)
  have hm := mix_nn (cells[k]'hk) k 1111111111111111111
  generalize (cells[k]'hk + (k : Int) * k + 1) * 1111111111111111111 % 2305843009213693951 = m at em hm
  have ec : ixD (.list (cells.map PyData.int)) (.int (k : Nat)) = .ok (.int (cells[k]'hk)) := x_ix_l _ _ _ (Int.natCast_nonneg k) (by rw [Int.toNat_natCast, List.getElem?_map, List.getElem?_eq_getElem hk]; rfl)
  refine hs_seq (hs_set (x := .int m) (call3 ((op_ok (a := .list (cells.map PyData.int)) (b := .int (k : Nat)) rfl rfl).trans ec) rfl rfl em) ?_)
  simp -implicitDefEqProofs only [startD, List.length_cons, List.length_nil, List.map_cons, List.map_nil, List.cons_append, List.nil_append, Nat.reduceAdd, Nat.reduceSub, List.replicate, List.set_cons_zero, List.set_cons_succ, List.foldl_cons, List.foldl_nil, x_killD_n, x_killD_c, x_slOf_f, x_slOf_o, x_slOf_t, x_slOf_k]
  have hb : ∃ many : Int, 0 ≤ many ∧ many ≤ 12 ∧ ixD (.list [.int 12, .int (m / 5 % 13)]) (.int (if decide (0 < m % 5) = true then 1 else 0)) = .ok (.int many) := by
    by_cases c : 0 < m % 5
    · exact ⟨m / 5 % 13, by omega, by omega, by rw [decide_eq_true c]; exact x_ix_l _ 1 _ (by decide) rfl⟩
    · exact ⟨12, by decide, by decide, by rw [decide_eq_false c]; exact x_ix_l _ 0 _ (by decide) rfl⟩
  obtain ⟨many, y0, y1, ey⟩ := hb
  refine hs_seq (hs_set (x := .int many) ?_ ?_)
  · rw [op_ok (a := .list [.int 12, .int (m / 5 % 13)]) (b := .int (if decide (0 < m % 5) = true then 1 else 0)) (fz_l (lst2 rfl (by simp -implicitDefEqProofs only [s0, s1, s2, s3, s4, s5, s6, s7, s8, s9, x_max2, x_int_b, x_int_i, x_tuple_l, startD, List.length_cons, List.length_nil, List.map_cons, List.map_nil, List.cons_append, List.nil_append, Nat.reduceAdd, Nat.reduceSub, List.replicate, List.set_cons_zero, List.set_cons_succ, x_wipe_cons, x_wipe_nil, x_eOp, x_eC, x_eCB, x_aCons, x_aNil, x_bind_ok, x_add_i, x_len_s, x_len_l, x_len_t, x_bOf, x_eTup, x_eFz, x_oLst, x_eCall, x_aName, x_aTup, x_asCons, x_asNil, x_mod, x_div, x_bAnd, x_bOr, x_bNot, x_asB, x_sub_i, x_neg_i, x_toE_d, x_toE_o, x_notDict, if_true, if_false, reduceIte, Int.reduceLT, Int.reduceAdd, Int.reduceSub, Int.reduceMul, Int.reduceNeg, Int.reducePow, rVar, eVar, hVar, List.getElem?_cons_zero, List.getElem?_cons_succ]))) ?_, ey]
    rw [cb1 (a := .bool (decide (0 < m % 5))) ?_, x_int_b]
    rw [op_ok (a := .int (m % 5)) (b := .int 0) (by simp -implicitDefEqProofs only [s0, s1, s2, s3, s4, s5, s6, s7, s8, s9, x_max2, x_int_b, x_int_i, x_tuple_l, startD, List.length_cons, List.length_nil, List.map_cons, List.map_nil, List.cons_append, List.nil_append, Nat.reduceAdd, Nat.reduceSub, List.replicate, List.set_cons_zero, List.set_cons_succ, x_wipe_cons, x_wipe_nil, x_eOp, x_eC, x_eCB, x_aCons, x_aNil, x_bind_ok, x_add_i, x_len_s, x_len_l, x_len_t, x_bOf, x_eTup, x_eFz, x_oLst, x_eCall, x_aName, x_aTup, x_asCons, x_asNil, x_mod, x_div, x_bAnd, x_bOr, x_bNot, x_asB, x_sub_i, x_neg_i, x_toE_d, x_toE_o, x_notDict, if_true, if_false, reduceIte, Int.reduceLT, Int.reduceAdd, Int.reduceSub, Int.reduceMul, Int.reduceNeg, Int.reducePow, rVar, eVar, hVar, List.getElem?_cons_zero, List.getElem?_cons_succ]) rfl]
    rfl
  simp -implicitDefEqProofs only [startD, List.length_cons, List.length_nil, List.map_cons, List.map_nil, List.cons_append, List.nil_append, Nat.reduceAdd, Nat.reduceSub, List.replicate, List.set_cons_zero, List.set_cons_succ, List.foldl_cons, List.foldl_nil, x_killD_n, x_killD_c, x_slOf_f, x_slOf_o, x_slOf_t, x_slOf_k]
  obtain ⟨cs2, hc2, hl2⟩ : ∃ l : List Int, l = (cells ++ List.replicate 12 s).take many.toNat ∧ l.length ≤ 12 := ⟨_, rfl, by rw [List.length_take]; omega⟩
  obtain ⟨ws, ek, hg, hn, hw⟩ := law_kinds cs2 s h0 h1 hl2
  refine hs_seq (hs_set (x := kD ws) (call2o ?_ rfl ek) ?_)
  · have r1 : eFz (eOp repL (oLst (aCons (eVar 1) aNil)) (eC (.int 12))) [a0, some (.d (.int s)), some (.d (.list (cells.map PyData.int))), some (.d (.int (k : Nat))), some (.d (.int m)), some (.d (.int many)), none, none, none, none, none, none, none, none, none, none] = .ok (.list ((List.replicate 12 s).map PyData.int)) := by
      refine fz_l ?_
      rw [op_ok (a := .list [.int s]) (b := .int 12) (ls1 rfl) rfl, x_repL, if_pos ⟨by decide, by decide, sz (show 1 * 12 ≤ 16777216 by decide)⟩]
      rfl
    rw [sl_a (f := PyData.int) (l := cells ++ List.replicate 12 s) (k := many) (add2 (f := PyData.int) rfl r1 (by rw [List.length_replicate]; omega)) rfl y0, hc2]
  simp -implicitDefEqProofs only [startD, List.length_cons, List.length_nil, List.map_cons, List.map_nil, List.cons_append, List.nil_append, Nat.reduceAdd, Nat.reduceSub, List.replicate, List.set_cons_zero, List.set_cons_succ, List.foldl_cons, List.foldl_nil, x_killD_n, x_killD_c, x_slOf_f, x_slOf_o, x_slOf_t, x_slOf_k]
  refine hs_seq (hs_setO (x := .list (([] : Ks).map fun p => rowD (rowOf p))) (by rw [x_oLst, x_aNil, x_bind_ok]; exact if_pos s0) ?_)
  simp -implicitDefEqProofs only [startD, List.length_cons, List.length_nil, List.map_cons, List.map_nil, List.cons_append, List.nil_append, Nat.reduceAdd, Nat.reduceSub, List.replicate, List.set_cons_zero, List.set_cons_succ, List.foldl_cons, List.foldl_nil, x_killD_n, x_killD_c, x_slOf_f, x_slOf_o, x_slOf_t, x_slOf_k]
  refine hs_cut (P := fun ρ => ρ = [a0, some (.d (.int s)), some (.d (.list (cells.map PyData.int))), some (.d (.int (k : Nat))), some (.d (.int m)), some (.d (.int many)), some (.d (kD ws)), some (.o (.list (ws.map fun p => rowD (rowOf p)))), none, none, none, none, none, none, none, none]) ?_ ?_
  · refine hs_pre ?_
    refine hs_forL kI ws (it_l rfl) (fun i ρ => ρ = [a0, some (.d (.int s)), some (.d (.list (cells.map PyData.int))), some (.d (.int (k : Nat))), some (.d (.int m)), some (.d (.int many)), some (.d (kD ws)), some (.o (.list ((ws.take i).map fun p => rowD (rowOf p)))), none, none, none, none, none, none, none, none]) rfl (fun i p ρ hp hI => ?_) (fun ρ hI => by rw [hI, List.take_length])
    subst hI
    refine ⟨_, rfl, ?_⟩
    refine hs_app (ds := (ws.take i).map fun p => rowD (rowOf p)) (x := rowD (rowOf p)) rfl (row_ok p rfl rfl rfl) (szl (by rw [List.length_map, List.length_take]; omega)) ?_
    obtain ⟨hi, rfl⟩ := List.getElem?_eq_some_iff.mp hp
    rw [← List.take_append_getElem hi, List.map_append]
    rfl
  rintro _ rfl
  obtain ⟨x, ef, hx⟩ := faulty_ok (m / 65) s ws h0 h1 hn
  obtain ⟨r, fr, er⟩ := fq_call hx
  refine hs_seq (hs_set (x := rowD r) (call3E (a := .int (m / 65)) (by simp -implicitDefEqProofs only [s0, s1, s2, s3, s4, s5, s6, s7, s8, s9, x_max2, x_int_b, x_int_i, x_tuple_l, startD, List.length_cons, List.length_nil, List.map_cons, List.map_nil, List.cons_append, List.nil_append, Nat.reduceAdd, Nat.reduceSub, List.replicate, List.set_cons_zero, List.set_cons_succ, x_wipe_cons, x_wipe_nil, x_eOp, x_eC, x_eCB, x_aCons, x_aNil, x_bind_ok, x_add_i, x_len_s, x_len_l, x_len_t, x_bOf, x_eTup, x_eFz, x_oLst, x_eCall, x_aName, x_aTup, x_asCons, x_asNil, x_mod, x_div, x_bAnd, x_bOr, x_bNot, x_asB, x_sub_i, x_neg_i, x_toE_d, x_toE_o, x_notDict, if_true, if_false, reduceIte, Int.reduceLT, Int.reduceAdd, Int.reduceSub, Int.reduceMul, Int.reduceNeg, Int.reducePow, rVar, eVar, hVar, List.getElem?_cons_zero, List.getElem?_cons_succ]) rfl rfl (by rw [ef, er])) ?_)
  simp -implicitDefEqProofs only [startD, List.length_cons, List.length_nil, List.map_cons, List.map_nil, List.cons_append, List.nil_append, Nat.reduceAdd, Nat.reduceSub, List.replicate, List.set_cons_zero, List.set_cons_succ, List.foldl_cons, List.foldl_nil, x_killD_n, x_killD_c, x_slOf_f, x_slOf_o, x_slOf_t, x_slOf_k]
  obtain ⟨t, ek1, ed1, et1⟩ := fr.agree
  refine hs_seq (hs_set (x := duP (dueT ws t)) (call2 rfl rfl (ed1 ws (by omega))) ?_)
  simp -implicitDefEqProofs only [startD, List.length_cons, List.length_nil, List.map_cons, List.map_nil, List.cons_append, List.nil_append, Nat.reduceAdd, Nat.reduceSub, List.replicate, List.set_cons_zero, List.set_cons_succ, List.foldl_cons, List.foldl_nil, x_killD_n, x_killD_c, x_slOf_f, x_slOf_o, x_slOf_t, x_slOf_k]
  refine hs_cut (P := fun ρ => ∃ (r : List Str) (t : Option (Str × Str)) (d : Du), Fm r ∧ d_kind_written [rowD r] = .rt (.d (tP t)) ∧ dueT ws t = some d ∧ ρ = [a0, some (.d (.int s)), some (.d (.list (cells.map PyData.int))), some (.d (.int (k : Nat))), some (.d (.int m)), some (.d (.int many)), some (.d (kD ws)), some (.o (.list (ws.map fun p => rowD (rowOf p)))), none, none, some (.d (rowD r)), some (.d (.str d.nm)), none, none, none, none]) ?_ ?_
  · cases hd : dueT ws t with
    | some d => exact hs_if (c := false) (bof rfl) (fun q => by cases q) (fun _ => hs_next ⟨r, t, d, fr, ek1, hd, rfl⟩)
    | none =>
      refine hs_if (c := true) (bof rfl) (fun _ => ?_) (fun q => by cases q)
      obtain ⟨w, gw, ew⟩ : ∃ w, GW w ∧ (r.take 2).drop 1 = [w] := by
        rcases et1 with e | e
        · rw [e] at hd; cases hd
        · exact e
      obtain ⟨f2, k2, d2⟩ := the_row w gw ws (by omega)
      refine hs_seq (hs_set (x := rowD [strK, w, strO, Str.ofString "the"]) ?_ ?_)
      · have q1 : eSl (rVar 10) (pSo (eC (.int 1))) (pSo (eC (.int 2))) [a0, some (.d (.int s)), some (.d (.list (cells.map PyData.int))), some (.d (.int (k : Nat))), some (.d (.int m)), some (.d (.int many)), some (.d (kD ws)), some (.o (.list (ws.map fun p => rowD (rowOf p)))), none, none, some (.d (rowD r)), some (.d (duP none)), none, none, none, none] = .ok (.list ([w].map PyData.str)) := by
          show R.ok (PyData.list (cutD (r.map PyData.str) (some 1) (some 2))) = _
          have e1 : cutD (r.map PyData.str) (some 1) (some 2) = ((r.take 2).drop 1).map PyData.str := by
            unfold cutD
            have e1 : HT.sIx (r.map PyData.str).length 0 (some 1) = min 1 (r.map PyData.str).length := HT.sIx_nat _ _ 1
            have e2 : HT.sIx (r.map PyData.str).length (r.map PyData.str).length (some 2) = min 2 (r.map PyData.str).length := HT.sIx_nat _ _ 2
            rw [e1, e2]
            rcases r with _ | ⟨x, _ | ⟨y, r⟩⟩
            · rfl
            · rfl
            · have l : ((x :: y :: r).map PyData.str).length = r.length + 2 := by simp
              rw [l, show min 2 (r.length + 2) = 2 by omega, show min 1 (r.length + 2) = 1 by omega]
              rfl
          rw [e1, ew]
        exact add3 (f := PyData.str) (l := [strK]) (m := [w]) (n := [strO, Str.ofString "the"]) (lst1 rfl) q1 (fz_l (lst2 rfl rfl)) (by simp)
      simp -implicitDefEqProofs only [startD, List.length_cons, List.length_nil, List.map_cons, List.map_nil, List.cons_append, List.nil_append, Nat.reduceAdd, Nat.reduceSub, List.replicate, List.set_cons_zero, List.set_cons_succ, List.foldl_cons, List.foldl_nil, x_killD_n, x_killD_c, x_slOf_f, x_slOf_o, x_slOf_t, x_slOf_k]
      refine hs_set (x := .str (Du.nm .bad)) (call2 rfl rfl d2) ?_
      exact ⟨_, none, .bad, f2, k2, rfl, rfl⟩
  clear ek1 ed1 et1 er fr
  rintro _ ⟨r, t, d, fr, ekw, hd, rfl⟩
  have names : ∀ z ∈ ws.map (·.1), Wc z ∧ isW z = true ∧ z.length ≤ 8 := by
    intro z hz
    obtain ⟨p, hp, rfl⟩ := List.mem_map.mp hz
    obtain ⟨j, e⟩ := hn p hp
    rw [e]
    exact ⟨nm_wc s j h0, nm_word s j h0, (nm_len s j h0).2⟩
  have up : ∀ p ∈ ws, p.2 = eS ∨ p.2 ∈ ws.map (·.1) := by
    intro p hp
    rcases upper_in _ hg p (List.mem_reverse.mpr hp) with z | z
    · exact .inl z
    · rw [List.map_reverse] at z
      exact .inr (List.mem_reverse.mp z)
  have hw2 : ∀ p ∈ ws, isW p.1 = true ∧ p.1.length ≤ 8 ∧ (p.2 = eS ∨ isW p.2 = true ∧ p.2.length ≤ 8) := fun p hp =>
    ⟨(names _ (List.mem_map_of_mem hp)).2.1, (names _ (List.mem_map_of_mem hp)).2.2, (up p hp).imp id fun q => (names _ q).2⟩
  have rws : ∀ x ∈ ws.map rowOf, x ≠ [] ∧ (∀ w ∈ x, Wc w) ∧ x.length ≤ 5 := by
    intro x hx
    obtain ⟨p, hp, rfl⟩ := List.mem_map.mp hx
    have w1 := (names _ (List.mem_map_of_mem hp)).1
    unfold rowOf
    by_cases c : p.2 = eS
    · rw [if_pos c]
      refine ⟨by simp, fun w h => ?_, by simp⟩
      simp only [List.mem_cons, List.not_mem_nil, or_false] at h
      rcases h with h | h <;> rw [h]
      · exact wc_K
      · exact w1
    · rw [if_neg c]
      refine ⟨by simp, fun w h => ?_, by simp⟩
      simp only [List.mem_cons, List.not_mem_nil, or_false] at h
      rcases h with h | h | h | h <;> rw [h]
      · exact wc_K
      · exact w1
      · exact wc_O
      · exact (names _ ((up p hp).resolve_left c)).1
  have fK : Fm [strK] := .one
  obtain ⟨T, eT, hT, lT⟩ : ∃ T : List (List Str), T = [[strK], r].take (m / 7 % 3).toNat ∧ (∀ x ∈ T, x ≠ [] ∧ (∀ w ∈ x, Wc w) ∧ x.length ≤ 5) ∧ T.length ≤ 2 := by
    refine ⟨_, rfl, fun x hx => ?_, by rw [List.length_take]; simp; omega⟩
    rcases List.mem_cons.mp (List.mem_of_mem_take hx) with e | e
    · rw [e]; exact fK.rows
    · rw [List.mem_singleton.mp e]; exact fr.rows
  obtain ⟨z, ls, et, es, hz, hls, hwd, hrw⟩ := text_rows (ws.map rowOf ++ [r] ++ T) (s / 77 + (k : Int)) (by omega) (fun x hx => by
    rcases List.mem_append.mp hx with hx | hx
    · rcases List.mem_append.mp hx with hx | hx
      · exact rws x hx
      · rw [List.mem_singleton.mp hx]; exact fr.rows
    · exact hT x hx) (by rw [List.length_append, List.length_append, List.length_map, List.length_singleton]; omega)
  refine hs_seq (hs_set (x := .str z) (call2 ?_ ?_ et) ?_)
  · rw [eT]
    refine add3 (f := rowD) (by rw [List.map_map]; rfl) (lst1 rfl) (sl_a (f := rowD) (l := [[strK], r]) (k := m / 7 % 3) (fz_l (lst2 (lst1 rfl) rfl)) (by simp -implicitDefEqProofs only [s0, s1, s2, s3, s4, s5, s6, s7, s8, s9, x_max2, x_int_b, x_int_i, x_tuple_l, startD, List.length_cons, List.length_nil, List.map_cons, List.map_nil, List.cons_append, List.nil_append, Nat.reduceAdd, Nat.reduceSub, List.replicate, List.set_cons_zero, List.set_cons_succ, x_wipe_cons, x_wipe_nil, x_eOp, x_eC, x_eCB, x_aCons, x_aNil, x_bind_ok, x_add_i, x_len_s, x_len_l, x_len_t, x_bOf, x_eTup, x_eFz, x_oLst, x_eCall, x_aName, x_aTup, x_asCons, x_asNil, x_mod, x_div, x_bAnd, x_bOr, x_bNot, x_asB, x_sub_i, x_neg_i, x_toE_d, x_toE_o, x_notDict, if_true, if_false, reduceIte, Int.reduceLT, Int.reduceAdd, Int.reduceSub, Int.reduceMul, Int.reduceNeg, Int.reducePow, rVar, eVar, hVar, List.getElem?_cons_zero, List.getElem?_cons_succ]) (by omega)) ?_
    rw [List.length_map, List.length_singleton, List.length_take]
    simp only [List.length_cons, List.length_nil]
    omega
  · simp -implicitDefEqProofs only [s0, s1, s2, s3, s4, s5, s6, s7, s8, s9, x_max2, x_int_b, x_int_i, x_tuple_l, startD, List.length_cons, List.length_nil, List.map_cons, List.map_nil, List.cons_append, List.nil_append, Nat.reduceAdd, Nat.reduceSub, List.replicate, List.set_cons_zero, List.set_cons_succ, x_wipe_cons, x_wipe_nil, x_eOp, x_eC, x_eCB, x_aCons, x_aNil, x_bind_ok, x_add_i, x_len_s, x_len_l, x_len_t, x_bOf, x_eTup, x_eFz, x_oLst, x_eCall, x_aName, x_aTup, x_asCons, x_asNil, x_mod, x_div, x_bAnd, x_bOr, x_bNot, x_asB, x_sub_i, x_neg_i, x_toE_d, x_toE_o, x_notDict, if_true, if_false, reduceIte, Int.reduceLT, Int.reduceAdd, Int.reduceSub, Int.reduceMul, Int.reduceNeg, Int.reducePow, rVar, eVar, hVar, List.getElem?_cons_zero, List.getElem?_cons_succ]
  simp -implicitDefEqProofs only [startD, List.length_cons, List.length_nil, List.map_cons, List.map_nil, List.cons_append, List.nil_append, Nat.reduceAdd, Nat.reduceSub, List.replicate, List.set_cons_zero, List.set_cons_succ, List.foldl_cons, List.foldl_nil, x_killD_n, x_killD_c, x_slOf_f, x_slOf_o, x_slOf_t, x_slOf_k]
  rw [List.append_assoc] at hrw
  obtain ⟨L0, L2, eL, eL0, eL2⟩ := List.map_eq_append_iff.mp hrw
  obtain ⟨q, L1, rfl, eq, _⟩ : ∃ q L1, L2 = q :: L1 ∧ q.2 = r ∧ True := by
    cases L2 with
    | nil => cases eL2
    | cons q L1 =>
      rw [List.map_cons] at eL2
      injection eL2 with e1 e2
      exact ⟨q, L1, rfl, e1, trivial⟩
  have l0 : L0.length = ws.length := by
    have := congrArg List.length eL0
    rwa [List.length_map, List.length_map] at this
  have ki : ixD (.list ((keepW (enumP 0 ls)).map fun q => PyData.int (q.1 : Nat))) (.int (ws.length : Nat)) = .ok (.int (q.1 : Nat)) := x_ix_l _ _ _ (Int.natCast_nonneg _) (by
    rw [Int.toNat_natCast, eL, List.map_append, List.getElem?_append_right (by rw [List.length_map, l0]; exact Nat.le_refl _), List.length_map, l0, Nat.sub_self]
    rfl)
  refine hs_seq (hs_set (x := .int (q.1 : Nat)) ?_ ?_)
  · rw [op_ok (nums_ok z ls es hz hls hwd _ _ _ _ _ _ _ _ _ _ _ _ _ _ _) (b := .int (ws.length : Nat)) (by rw [lenL (l := ws.map fun p => rowD (rowOf p)) rfl, List.length_map]), ki]
  simp -implicitDefEqProofs only [startD, List.length_cons, List.length_nil, List.map_cons, List.map_nil, List.cons_append, List.nil_append, Nat.reduceAdd, Nat.reduceSub, List.replicate, List.set_cons_zero, List.set_cons_succ, List.foldl_cons, List.foldl_nil, x_killD_n, x_killD_c, x_slOf_f, x_slOf_o, x_slOf_t, x_slOf_k]
  have wr := word_rows z ls es hz hwd hls
  rw [eL] at wr
  have rd : d_read_kinds [.str z] = .exc (d.ec (q.1 : Nat)) := read_fault z ws L0 L1 q _ wr eL0 hg hw hw2 fun y4 y5 y6 y7 => rk_fault _ ws hw (q.1 : Nat) _ t (by rw [eq]; exact ekw) d hd y4 y5 y6 y7
  exact hs_if (c := !true) (xNotB true (bof (call3 (call1 rfl (law_told z d _ rd)) rfl rfl (law_right d _)))) (fun q => by cases q) (fun _ => hs_next rfl)
theorem law_ok : ∀ ns : List Int, ns.length ≤ 63 → d_law [.list (ns.map PyData.int)] = .rt (.d (.bool true)) := by
  intro ns h
  obtain ⟨s, h0, h1, es⟩ := law_salt ns h
  refine run_eq (n := 16) (s := S_law) (ds := [.list (ns.map PyData.int)]) ?_
  unfold S_law
  refine hs_seq (hs_set (x := .int s) (call2 rfl rfl es) ?_)
  simp -implicitDefEqProofs only [startD, List.length_cons, List.length_nil, List.map_cons, List.map_nil, List.cons_append, List.nil_append, Nat.reduceAdd, Nat.reduceSub, List.replicate, List.set_cons_zero, List.set_cons_succ, List.foldl_cons, List.foldl_nil, x_killD_n, x_killD_c, x_slOf_f, x_slOf_o, x_slOf_t, x_slOf_k]
  obtain ⟨cells, hc, hcl⟩ : ∃ cells : List Int, cells = ns ++ [s / 3, s / 5, s / 7] ∧ cells.length ≤ 66 := ⟨_, rfl, by rw [List.length_append]; simp; omega⟩
  have q1 : eSl (rVar 0) pNo (pSo (eC (.int 63))) [some (.d (.list (ns.map PyData.int))), some (.d (.int s)), none, none, none, none, none, none, none, none, none, none, none, none, none, none] = .ok (.list (ns.map PyData.int)) := by
    show R.ok (PyData.list (cutD (ns.map PyData.int) none (some 63))) = _
    rw [cut63 ns h]
  refine hs_seq (hs_set (x := .list (cells.map PyData.int)) ?_ ?_)
  · rw [hc]
    refine add2 (f := PyData.int) q1 (m := [s / 3, s / 5, s / 7]) (fz_l (ls3 ?_ ?_ ?_)) (by simp; omega)
    · simp -implicitDefEqProofs only [s0, s1, s2, s3, s4, s5, s6, s7, s8, s9, x_max2, x_int_b, x_int_i, x_tuple_l, startD, List.length_cons, List.length_nil, List.map_cons, List.map_nil, List.cons_append, List.nil_append, Nat.reduceAdd, Nat.reduceSub, List.replicate, List.set_cons_zero, List.set_cons_succ, x_wipe_cons, x_wipe_nil, x_eOp, x_eC, x_eCB, x_aCons, x_aNil, x_bind_ok, x_add_i, x_len_s, x_len_l, x_len_t, x_bOf, x_eTup, x_eFz, x_oLst, x_eCall, x_aName, x_aTup, x_asCons, x_asNil, x_mod, x_div, x_bAnd, x_bOr, x_bNot, x_asB, x_sub_i, x_neg_i, x_toE_d, x_toE_o, x_notDict, if_true, if_false, reduceIte, Int.reduceLT, Int.reduceAdd, Int.reduceSub, Int.reduceMul, Int.reduceNeg, Int.reducePow, rVar, eVar, hVar, List.getElem?_cons_zero, List.getElem?_cons_succ]
    · simp -implicitDefEqProofs only [s0, s1, s2, s3, s4, s5, s6, s7, s8, s9, x_max2, x_int_b, x_int_i, x_tuple_l, startD, List.length_cons, List.length_nil, List.map_cons, List.map_nil, List.cons_append, List.nil_append, Nat.reduceAdd, Nat.reduceSub, List.replicate, List.set_cons_zero, List.set_cons_succ, x_wipe_cons, x_wipe_nil, x_eOp, x_eC, x_eCB, x_aCons, x_aNil, x_bind_ok, x_add_i, x_len_s, x_len_l, x_len_t, x_bOf, x_eTup, x_eFz, x_oLst, x_eCall, x_aName, x_aTup, x_asCons, x_asNil, x_mod, x_div, x_bAnd, x_bOr, x_bNot, x_asB, x_sub_i, x_neg_i, x_toE_d, x_toE_o, x_notDict, if_true, if_false, reduceIte, Int.reduceLT, Int.reduceAdd, Int.reduceSub, Int.reduceMul, Int.reduceNeg, Int.reducePow, rVar, eVar, hVar, List.getElem?_cons_zero, List.getElem?_cons_succ]
    · simp -implicitDefEqProofs only [s0, s1, s2, s3, s4, s5, s6, s7, s8, s9, x_max2, x_int_b, x_int_i, x_tuple_l, startD, List.length_cons, List.length_nil, List.map_cons, List.map_nil, List.cons_append, List.nil_append, Nat.reduceAdd, Nat.reduceSub, List.replicate, List.set_cons_zero, List.set_cons_succ, x_wipe_cons, x_wipe_nil, x_eOp, x_eC, x_eCB, x_aCons, x_aNil, x_bind_ok, x_add_i, x_len_s, x_len_l, x_len_t, x_bOf, x_eTup, x_eFz, x_oLst, x_eCall, x_aName, x_aTup, x_asCons, x_asNil, x_mod, x_div, x_bAnd, x_bOr, x_bNot, x_asB, x_sub_i, x_neg_i, x_toE_d, x_toE_o, x_notDict, if_true, if_false, reduceIte, Int.reduceLT, Int.reduceAdd, Int.reduceSub, Int.reduceMul, Int.reduceNeg, Int.reducePow, rVar, eVar, hVar, List.getElem?_cons_zero, List.getElem?_cons_succ]
  simp -implicitDefEqProofs only [startD, List.length_cons, List.length_nil, List.map_cons, List.map_nil, List.cons_append, List.nil_append, Nat.reduceAdd, Nat.reduceSub, List.replicate, List.set_cons_zero, List.set_cons_succ, List.foldl_cons, List.foldl_nil, x_killD_n, x_killD_c, x_slOf_f, x_slOf_o, x_slOf_t, x_slOf_k]
  obtain ⟨n, hn, en⟩ : ∃ n : Nat, n ≤ cells.length ∧ (if ((cells.length : Nat) : Int) < 6 then ((cells.length : Nat) : Int) else 6) = (n : Int) := by
    by_cases c : ((cells.length : Nat) : Int) < 6
    · exact ⟨cells.length, Nat.le_refl _, if_pos c⟩
    · exact ⟨6, by omega, if_neg c⟩
  refine hs_cut (P := fun ρ => ρ = [some (.d (.list (ns.map PyData.int))), some (.d (.int s)), some (.d (.list (cells.map PyData.int))), none, none, none, none, none, none, none, none, none, none, none, none, none]) ?_ ?_
  · refine hs_pre ?_
    refine hs_rng n (rng_c ?_ (by omega)) (fun _ ρ => ρ = [some (.d (.list (ns.map PyData.int))), some (.d (.int s)), some (.d (.list (cells.map PyData.int))), none, none, none, none, none, none, none, none, none, none, none, none, none]) rfl (fun i ρ hi hI => ?_) (fun ρ hI => hI)
    · rw [x_eCB, x_aCons, x_eC, x_bind_ok, x_aCons, lenL (l := cells.map PyData.int) rfl, x_bind_ok, x_aNil, x_bind_ok, x_bind_ok, x_bind_ok, x_min2, List.length_map, en]
    · subst hI
      refine ⟨_, rfl, ?_⟩
      exact hs_mono (turn ns cells s h0 h1 i (by omega) hcl) (fun _ h => h) (fun _ h => h.elim) (fun _ h => h.elim)
  rintro _ rfl
  exact hs_ret rfl rfl
end
end K03
namespace K03
open PySem PySem.Spec PyProof.Rows L2 DL
def top (i : Nat) : Stmt := PySem.Challenge.pw_claimwise_k03_kinds_refused.main.body.getD i (.Pass ⟨0, 0, 0, 0⟩)
abbrev s_signs_among : Stmt := top 20
abbrev s_is_word : Stmt := top 21
abbrev s_word_rows : Stmt := top 22
abbrev s_kind_written : Stmt := top 25
abbrev s_read_kinds : Stmt := top 26
abbrev s_law_mix : Stmt := top 28
abbrev s_law_salt : Stmt := top 29
abbrev s_law_name : Stmt := top 30
abbrev s_law_kinds : Stmt := top 31
abbrev s_law_text : Stmt := top 32
abbrev s_law_whole : Stmt := top 33
abbrev s_law_odd_row : Stmt := top 34
abbrev s_law_faulty : Stmt := top 35
abbrev s_law_due : Stmt := top 36
abbrev s_law_told : Stmt := top 37
abbrev s_law_right : Stmt := top 38
abbrev s_law : Stmt := top 39
abbrev i_BadRow : Stmt := (C8.clsBody (top 2)).getD 0 (.Pass ⟨0, 0, 0, 0⟩)
abbrev i_NoKind : Stmt := (C8.clsBody (top 6)).getD 0 (.Pass ⟨0, 0, 0, 0⟩)
abbrev i_TooBig : Stmt := (C8.clsBody (top 7)).getD 0 (.Pass ⟨0, 0, 0, 0⟩)
abbrev i_Twice : Stmt := (C8.clsBody (top 3)).getD 0 (.Pass ⟨0, 0, 0, 0⟩)
abbrev FnP (K : PySem.W.Frag) (x : Str) (st : Stmt) : Prop := ∃ fd : FuncData, FunD K x x (defArgs st) (defBody st) (defScope st) [] [] (He.ga K x) fd
structure Ctx (K : PySem.W.Frag) (mg : Str → Option Value) : Prop where
  F_signs_among : FnP K "signs_among" s_signs_among
  g_signs_among : mg "signs_among" = some (.ref (He.ga K "signs_among"))
  F_is_word : FnP K "is_word" s_is_word
  g_is_word : mg "is_word" = some (.ref (He.ga K "is_word"))
  F_word_rows : FnP K "word_rows" s_word_rows
  g_word_rows : mg "word_rows" = some (.ref (He.ga K "word_rows"))
  F_kind_written : FnP K "kind_written" s_kind_written
  g_kind_written : mg "kind_written" = some (.ref (He.ga K "kind_written"))
  F_read_kinds : FnP K "read_kinds" s_read_kinds
  g_read_kinds : mg "read_kinds" = some (.ref (He.ga K "read_kinds"))
  F_law_mix : FnP K "_law_mix" s_law_mix
  g_law_mix : mg "_law_mix" = some (.ref (He.ga K "_law_mix"))
  F_law_salt : FnP K "_law_salt" s_law_salt
  g_law_salt : mg "_law_salt" = some (.ref (He.ga K "_law_salt"))
  F_law_name : FnP K "_law_name" s_law_name
  g_law_name : mg "_law_name" = some (.ref (He.ga K "_law_name"))
  F_law_kinds : FnP K "_law_kinds" s_law_kinds
  g_law_kinds : mg "_law_kinds" = some (.ref (He.ga K "_law_kinds"))
  F_law_text : FnP K "_law_text" s_law_text
  g_law_text : mg "_law_text" = some (.ref (He.ga K "_law_text"))
  F_law_whole : FnP K "_law_whole" s_law_whole
  g_law_whole : mg "_law_whole" = some (.ref (He.ga K "_law_whole"))
  F_law_odd_row : FnP K "_law_odd_row" s_law_odd_row
  g_law_odd_row : mg "_law_odd_row" = some (.ref (He.ga K "_law_odd_row"))
  F_law_faulty : FnP K "_law_faulty" s_law_faulty
  g_law_faulty : mg "_law_faulty" = some (.ref (He.ga K "_law_faulty"))
  F_law_due : FnP K "_law_due" s_law_due
  g_law_due : mg "_law_due" = some (.ref (He.ga K "_law_due"))
  F_law_told : FnP K "_law_told" s_law_told
  g_law_told : mg "_law_told" = some (.ref (He.ga K "_law_told"))
  F_law_right : FnP K "_law_right" s_law_right
  g_law_right : mg "_law_right" = some (.ref (He.ga K "_law_right"))
  F_law : FnP K "law" s_law
  g_law : mg "law" = some (.ref (He.ga K "law"))
  I_BadRow : ∃ fd : FuncData, FunD K "__init__" "BadRow.__init__" (defArgs i_BadRow) (defBody i_BadRow) (defScope i_BadRow) [] [] (He.ma K (He.ga K "BadRow") "__init__") fd
  O_BadRow : OCls K mg "BadRow" ["row"]
  I_NoKind : ∃ fd : FuncData, FunD K "__init__" "NoKind.__init__" (defArgs i_NoKind) (defBody i_NoKind) (defScope i_NoKind) [] [] (He.ma K (He.ga K "NoKind") "__init__") fd
  O_NoKind : OCls K mg "NoKind" ["claim", "row"]
  I_TooBig : ∃ fd : FuncData, FunD K "__init__" "TooBig.__init__" (defArgs i_TooBig) (defBody i_TooBig) (defScope i_TooBig) [] [] (He.ma K (He.ga K "TooBig") "__init__") fd
  O_TooBig : OCls K mg "TooBig" ["claim", "row"]
  I_Twice : ∃ fd : FuncData, FunD K "__init__" "Twice.__init__" (defArgs i_Twice) (defBody i_Twice) (defScope i_Twice) [] [] (He.ma K (He.ga K "Twice") "__init__") fd
  O_Twice : OCls K mg "Twice" ["row"]
  g_BadRow : mg "BadRow" = some (.ref (He.ga K "BadRow"))
  g_ClaimError : mg "ClaimError" = some (.ref (He.ga K "ClaimError"))
  g_NoChange : mg "NoChange" = some (.ref (He.ga K "NoChange"))
  g_NoClaim : mg "NoClaim" = some (.ref (He.ga K "NoClaim"))
  g_NoFit : mg "NoFit" = some (.ref (He.ga K "NoFit"))
  g_NoGround : mg "NoGround" = some (.ref (He.ga K "NoGround"))
  g_NoKind : mg "NoKind" = some (.ref (He.ga K "NoKind"))
  g_NoPart : mg "NoPart" = some (.ref (He.ga K "NoPart"))
  g_NoRange : mg "NoRange" = some (.ref (He.ga K "NoRange"))
  g_NotOwn : mg "NotOwn" = some (.ref (He.ga K "NotOwn"))
  g_NotUnder : mg "NotUnder" = some (.ref (He.ga K "NotUnder"))
  g_TooBig : mg "TooBig" = some (.ref (He.ga K "TooBig"))
  g_TooMany : mg "TooMany" = some (.ref (He.ga K "TooMany"))
  g_Twice : mg "Twice" = some (.ref (He.ga K "Twice"))
  g_TwoGrounds : mg "TwoGrounds" = some (.ref (He.ga K "TwoGrounds"))
  m_ClaimError : ∀ p ∈ tm_ClaimError, PySem.W.exmOne K (.ref (He.ga K p.1)) (.ref (He.ga K "ClaimError")) = some p.2
  k_BadRow : ∀ p ∈ ti_BadRow, ExcC K (He.ga K p.1) ∧ PySem.W.kitOne K (.ref (He.ga K p.1)) (.ref (He.ga K "BadRow")) = some p.2
  k_NoChange_NoClaim_NoFit_NoGround_NoPart_NoRange_NotOwn_NotUnder_TooMany_TwoGrounds : ∀ p ∈ ti_NoChange_NoClaim_NoFit_NoGround_NoPart_NoRange_NotOwn_NotUnder_TooMany_TwoGrounds, ExcC K (He.ga K p.1) ∧ PySem.W.kitAny K (.ref (He.ga K p.1)) [.ref (He.ga K "NoChange"), .ref (He.ga K "NoClaim"), .ref (He.ga K "NoFit"), .ref (He.ga K "NoGround"), .ref (He.ga K "NoPart"), .ref (He.ga K "NoRange"), .ref (He.ga K "NotOwn"), .ref (He.ga K "NotUnder"), .ref (He.ga K "TooMany"), .ref (He.ga K "TwoGrounds")] = some p.2
  k_NoKind : ∀ p ∈ ti_NoKind, ExcC K (He.ga K p.1) ∧ PySem.W.kitOne K (.ref (He.ga K p.1)) (.ref (He.ga K "NoKind")) = some p.2
  k_TooBig : ∀ p ∈ ti_TooBig, ExcC K (He.ga K p.1) ∧ PySem.W.kitOne K (.ref (He.ga K p.1)) (.ref (He.ga K "TooBig")) = some p.2
  k_Twice : ∀ p ∈ ti_Twice, ExcC K (He.ga K p.1) ∧ PySem.W.kitOne K (.ref (He.ga K p.1)) (.ref (He.ga K "Twice")) = some p.2
  k_ValueError : ∀ p ∈ ti_ValueError, ExcC K (He.ga K p.1) ∧ PySem.W.kitOne K (.ref (He.ga K p.1)) (.type "ValueError") = some p.2
  f_claim : ∀ x ∈ xf_claim, XfC K (He.ga K x) ∧ PySem.W.findIn K (.ref (He.ga K x)) "claim" = some none
  f_row : ∀ x ∈ xf_row, XfC K (He.ga K x) ∧ PySem.W.findIn K (.ref (He.ga K x)) "row" = some none
  b_ValueError : mg "ValueError" = none
  b_bool : mg "bool" = none
  b_enumerate : mg "enumerate" = none
  b_int : mg "int" = none
  b_isinstance : mg "isinstance" = none
  b_len : mg "len" = none
  b_min : mg "min" = none
  b_range : mg "range" = none
  b_sum : mg "sum" = none
  c_KEPT : mg "KEPT" = some (.ref (He.ga K "KEPT"))
  k_KEPT : ∀ F : Hp, SqT K F (He.ga K "KEPT") ((kw_KEPT.map He.Dv.str).map (He.Dv.v K))
  c_MOST_KINDS : ∃ t, mg "MOST_KINDS" = some (.int 12 t)
  c_MOST_SIGNS : ∃ t, mg "MOST_SIGNS" = some (.int 8 t)
  c_SMALL : ∃ t, mg "SMALL" = some (.str "abcdefghijklmnopqrstuvwxyz" t)
theorem sci_BadRow : FnScope ["self", "row"] ["self", "row"] (defScope i_BadRow) := ⟨rfl, rfl, rfl, by decide +kernel, rfl, by decide +kernel, by decide +kernel⟩
theorem ki_BadRow {P : Program} {w : World} {K : PySem.W.Frag} {mg : Str → Option Value} {base : Heap} (C : Ctx K mg) : KeptI P w K mg base 1 "BadRow" ["row"] :=
  kept_cls (k := 0) (p := ("row", 1)) (r := []) C.I_BadRow C.O_BadRow sci_BadRow rfl (fun j q h => by
    match j, h with
    | 0, h => cases h; rfl
    | j + 1, h => cases h) rfl (by decide) (fun _ _ _ _ _ _ us hl => match us, hl with | [_, _], _ => rfl) fun f cdv A outer sh H E hr =>
      have nd := sci_BadRow.nd
      pss_one (ps_ost (pv 0) (pv 1))
theorem sci_NoKind : FnScope ["self", "claim", "row"] ["self", "claim", "row"] (defScope i_NoKind) := ⟨rfl, rfl, rfl, by decide +kernel, rfl, by decide +kernel, by decide +kernel⟩
theorem ki_NoKind {P : Program} {w : World} {K : PySem.W.Frag} {mg : Str → Option Value} {base : Heap} (C : Ctx K mg) : KeptI P w K mg base 1 "NoKind" ["claim", "row"] :=
  kept_cls (k := 0) (p := ("claim", 1)) (r := [("row", 2)]) C.I_NoKind C.O_NoKind sci_NoKind rfl (fun j q h => by
    match j, h with
    | 0, h => cases h; rfl
    | 1, h => cases h; rfl
    | j + 2, h => cases h) rfl (by decide) (fun _ _ _ _ _ _ us hl => match us, hl with | [_, _, _], _ => rfl) fun f cdv A outer sh H E hr =>
      have nd := sci_NoKind.nd
      pss_cons (ps_ost (pv 0) (pv 1)) (pss_one (ps_ost (pv 0) (pv 2)))
theorem sci_TooBig : FnScope ["self", "claim", "row"] ["self", "claim", "row"] (defScope i_TooBig) := ⟨rfl, rfl, rfl, by decide +kernel, rfl, by decide +kernel, by decide +kernel⟩
theorem ki_TooBig {P : Program} {w : World} {K : PySem.W.Frag} {mg : Str → Option Value} {base : Heap} (C : Ctx K mg) : KeptI P w K mg base 1 "TooBig" ["claim", "row"] :=
  kept_cls (k := 0) (p := ("claim", 1)) (r := [("row", 2)]) C.I_TooBig C.O_TooBig sci_TooBig rfl (fun j q h => by
    match j, h with
    | 0, h => cases h; rfl
    | 1, h => cases h; rfl
    | j + 2, h => cases h) rfl (by decide) (fun _ _ _ _ _ _ us hl => match us, hl with | [_, _, _], _ => rfl) fun f cdv A outer sh H E hr =>
      have nd := sci_TooBig.nd
      pss_cons (ps_ost (pv 0) (pv 1)) (pss_one (ps_ost (pv 0) (pv 2)))
theorem sci_Twice : FnScope ["self", "row"] ["self", "row"] (defScope i_Twice) := ⟨rfl, rfl, rfl, by decide +kernel, rfl, by decide +kernel, by decide +kernel⟩
theorem ki_Twice {P : Program} {w : World} {K : PySem.W.Frag} {mg : Str → Option Value} {base : Heap} (C : Ctx K mg) : KeptI P w K mg base 1 "Twice" ["row"] :=
  kept_cls (k := 0) (p := ("row", 1)) (r := []) C.I_Twice C.O_Twice sci_Twice rfl (fun j q h => by
    match j, h with
    | 0, h => cases h; rfl
    | j + 1, h => cases h) rfl (by decide) (fun _ _ _ _ _ _ us hl => match us, hl with | [_, _], _ => rfl) fun f cdv A outer sh H E hr =>
      have nd := sci_Twice.nd
      pss_one (ps_ost (pv 0) (pv 1))
theorem sc_signs_among : FnScope ["text", "signs", "sign"] ["text", "signs"] (defScope s_signs_among) := ⟨rfl, rfl, rfl, by decide +kernel, rfl, by decide +kernel, by decide +kernel⟩
theorem ok_signs_among {P : Program} {w : World} {K : PySem.W.Frag} {mg : Str → Option Value} {base : Heap} (C : Ctx K mg) : Kept P w K mg base 1 2 "signs_among" ["text", "signs"] d_signs_among := by
  have nd := sc_signs_among.nd
  exact kept_of C.F_signs_among C.g_signs_among sc_signs_among rfl rfl (fun _ _ _ _ _ _ us hl => match us, hl with | [_, _], _ => rfl) (s := S_signs_among) fun cdv A outer sh H E hr tk => ⟨_,
    (pss_cons (ps_for (passes_of rfl) rfl (pi_seq (pv 0)) (pg_name (i := 2) nd rfl (Or.inl rfl)) (pss_one (ps_if (pt_cmpR (op_nin2 (hu65 hr)) (pv 2) (pv 1) (by rfl)) (pss_one (ps_ret pe_bl)) pss_nil))) (pss_one (ps_ret pe_bl))),
    (ds_seq (ds_preK [2] (ds_for (vs := [2]) (di_seq (td_var 0)) (dg_name 2) (ds_kill [2] (ds_if (tt_test ((td_op rd_nin (tr_var 2) (tr_var 1))).r) (ds_ret td_bl) ds_next)))) (ds_ret td_bl))⟩
theorem sc_is_word : FnScope ["text"] ["text"] (defScope s_is_word) := ⟨rfl, rfl, rfl, by decide +kernel, rfl, by decide +kernel, by decide +kernel⟩
theorem ok_is_word {P : Program} {w : World} {K : PySem.W.Frag} {mg : Str → Option Value} {base : Heap} (C : Ctx K mg) : Kept P w K mg base 2 1 "is_word" ["text"] d_is_word := by
  obtain ⟨fd_signs_among, kp_signs_among, hg_signs_among, hb_signs_among, G_signs_among⟩ := ok_signs_among (P := P) (w := w) (base := base) C
  have nd := sc_is_word.nd
  exact kept_of C.F_is_word C.g_is_word sc_is_word rfl rfl (fun _ _ _ _ _ _ us hl => match us, hl with | [_], _ => rfl) (s := S_is_word) fun cdv A outer sh H E hr tk => ⟨_,
    (pss_cons (ps_if (PW.pt (pw_or (pt_not (pt_chain op_le op_le pe_int (pe_callB call_len (by rfl) C.b_len bb_len (pa_cons (pv 0) pa_nil)) (pe_glob (v := .int 8) rfl C.c_MOST_SIGNS.choose_spec ⟨_, rfl⟩))) (pw_or1 (pt_cmpR (op_in2 (hu65 hr)) (pv 0) (pe_glob (v := .ref (He.ga _ "KEPT")) rfl C.c_KEPT rfl) (by rfl))))) (pss_one (ps_ret pe_bl)) pss_nil) (pss_one (ps_ret (pe_callS G_signs_among (hr.mono (by decide)) (by rfl) hg_signs_among kp_signs_among hb_signs_among (fun σ => passAt tk σ) (pa_cons (pv 0) (pa_cons (pe_glob (v := .str "abcdefghijklmnopqrstuvwxyz") rfl C.c_SMALL.choose_spec ⟨_, rfl⟩) pa_nil)))))),
    (ds_seq (ds_if (tt_or (tt_not (tt_test ((td_chain rd_cmp rd_cmp (td_int).r ((td_cb rc_len (tq_cons (tr_var 0) tq_nil))).r (td_int).r)).r)) (tt_test ((td_inK C.k_KEPT (tr_var 0))).r)) (ds_ret td_bl) ds_next) (ds_ret (td_call (ta_cons (td_var 0) (ta_cons td_str ta_nil)))))⟩
theorem sc_word_rows : FnScope ["text", "rows", "at", "row", "words"] ["text"] (defScope s_word_rows) := ⟨rfl, rfl, rfl, by decide +kernel, rfl, by decide +kernel, by decide +kernel⟩
theorem ok_word_rows {P : Program} {w : World} {K : PySem.W.Frag} {mg : Str → Option Value} {base : Heap} (C : Ctx K mg) : Kept P w K mg base 1 1 "word_rows" ["text"] d_word_rows := by
  have nd := sc_word_rows.nd
  exact kept_of C.F_word_rows C.g_word_rows sc_word_rows rfl rfl (fun _ _ _ _ _ _ us hl => match us, hl with | [_], _ => rfl) (s := S_word_rows) fun cdv A outer sh H E hr tk => ⟨_,
    (pss_cons (ps_set (i := 1) nd rfl (Or.inl rfl) (pe_lst pa_nil)) (pss_cons (ps_for (passes_of rfl) rfl (pi_enum (by rfl) C.b_enumerate (pa_cons (pe_m1 PySem.F.slot_str_split PySem.F.type_str_split mt_split (pv 0) pe_str) pa_nil)) (pg_tup rfl (pgs_cons (pg_name (i := 2) nd rfl (Or.inl rfl)) (pgs_cons (pg_name (i := 3) nd rfl (Or.inl rfl)) pgs_nil))) (pss_cons (ps_set (i := 4) nd rfl (Or.inl rfl) (pe_m0 PySem.F.slot_str_split PySem.F.type_str_split mt_words (pv 3))) (pss_one (ps_if (pt_cmpR (op_ne2 hr.units) (pv 4) (pe_lst pa_nil) (nomark _)) (pss_one (ps_expr (pe_bm PySem.F.plainAttrs_list PySem.F.slot_list_append PySem.F.type_list_append mt_append (pv 1) (pa_cons (pe_tup (pa_cons (pv 2) (pa_cons (pv 4) pa_nil))) pa_nil)))) pss_nil)))) (pss_one (ps_ret (pv 1))))),
    (ds_seq (ds_setO 1 (to_lst ta_nil)) (ds_seq (ds_preK [2, 3, 4] (ds_for (vs := [2, 3]) (di_enum (ta_cons ((to_m1 rmo_split (tr_var 0) (td_str).r)).e ta_nil)) (dg_tup (dgs_cons (dg_name 2) (dgs_cons (dg_name 3) dgs_nil))) (ds_kill [2, 3, 4] (ds_seq (ds_set 4 ((to_m0 rmo_words (tr_var 3))).e) (ds_if (tt_test ((td_op rd_ne (tr_var 4) (((to_lst ta_nil)).e).r)).r) (ds_append 1 (td_tup (ta_cons (td_var 2) (ta_cons (td_var 4) ta_nil)))) ds_next))))) (ds_retV 1)))⟩
theorem sc_kind_written : FnScope ["words"] ["words"] (defScope s_kind_written) := ⟨rfl, rfl, rfl, by decide +kernel, rfl, by decide +kernel, by decide +kernel⟩
theorem ok_kind_written {P : Program} {w : World} {K : PySem.W.Frag} {mg : Str → Option Value} {base : Heap} (C : Ctx K mg) : Kept P w K mg base 3 1 "kind_written" ["words"] d_kind_written := by
  obtain ⟨fd_is_word, kp_is_word, hg_is_word, hb_is_word, G_is_word⟩ := ok_is_word (P := P) (w := w) (base := base) C
  have nd := sc_kind_written.nd
  exact kept_of C.F_kind_written C.g_kind_written sc_kind_written rfl rfl (fun _ _ _ _ _ _ us hl => match us, hl with | [_], _ => rfl) (s := S_kind_written) fun cdv A outer sh H E hr tk => ⟨_,
    (pss_cons (ps_if (PW.pt (pw_and (pt_cmpR (op_eq2 hr.units) (pe_callB call_len (by rfl) C.b_len bb_len (pa_cons (pv 0) pa_nil)) pe_int (nomark _)) (pw_and (pt_cmpR (op_eq2 hr.units) (pe_ix ix_seq (pv 0) pe_int (fun _ _ => rfl)) pe_str (nomark _)) (pw_and1 (pt_val (pe_callS G_is_word (hr.mono (by decide)) (by rfl) hg_is_word kp_is_word hb_is_word (fun σ => passAt tk σ) (pa_cons (pe_ix ix_seq (pv 0) pe_int (fun _ _ => rfl)) pa_nil))))))) (pss_one (ps_ret (pe_tup (pa_cons (pe_ix ix_seq (pv 0) pe_int (fun _ _ => rfl)) (pa_cons pe_str pa_nil))))) pss_nil) (pss_cons (ps_if (PW.pt (pw_or (pt_cmpR (op_ne2 hr.units) (pe_callB call_len (by rfl) C.b_len bb_len (pa_cons (pv 0) pa_nil)) pe_int (nomark _)) (pw_or (pt_cmpR (op_ne2 hr.units) (pe_ix ix_seq (pv 0) pe_int (fun _ _ => rfl)) pe_str (nomark _)) (pw_or1 (pt_cmpR (op_ne2 hr.units) (pe_ix ix_seq (pv 0) pe_int (fun _ _ => rfl)) pe_str (nomark _)))))) (pss_one (ps_ret pe_non)) pss_nil) (pss_cons (ps_if (PW.pt (pw_or (pt_not (pt_val (pe_callS G_is_word (hr.mono (by decide)) (by rfl) hg_is_word kp_is_word hb_is_word (fun σ => passAt tk σ) (pa_cons (pe_ix ix_seq (pv 0) pe_int (fun _ _ => rfl)) pa_nil)))) (pw_or1 (pt_not (pt_val (pe_callS G_is_word (hr.mono (by decide)) (by rfl) hg_is_word kp_is_word hb_is_word (fun σ => passAt tk σ) (pa_cons (pe_ix ix_seq (pv 0) pe_int (fun _ _ => rfl)) pa_nil))))))) (pss_one (ps_ret pe_non)) pss_nil) (pss_one (ps_ret (pe_tup (pa_cons (pe_ix ix_seq (pv 0) pe_int (fun _ _ => rfl)) (pa_cons (pe_ix ix_seq (pv 0) pe_int (fun _ _ => rfl)) pa_nil)))))))),
    (ds_seq (ds_if (tt_and (tt_test ((td_op rd_eq ((td_cb rc_len (tq_cons (tr_var 0) tq_nil))).r (td_int).r)).r) (tt_and (tt_test ((td_op rd_eq ((td_op rd_ix (tr_var 0) (td_int).r)).r (td_str).r)).r) (tt_B ((td_call (ta_cons (td_op rd_ix (tr_var 0) (td_int).r) ta_nil))).r))) (ds_ret (td_tup (ta_cons (td_op rd_ix (tr_var 0) (td_int).r) (ta_cons td_str ta_nil)))) ds_next) (ds_seq (ds_if (tt_or (tt_test ((td_op rd_ne ((td_cb rc_len (tq_cons (tr_var 0) tq_nil))).r (td_int).r)).r) (tt_or (tt_test ((td_op rd_ne ((td_op rd_ix (tr_var 0) (td_int).r)).r (td_str).r)).r) (tt_test ((td_op rd_ne ((td_op rd_ix (tr_var 0) (td_int).r)).r (td_str).r)).r))) (ds_ret td_non) ds_next) (ds_seq (ds_if (tt_or (tt_not (tt_B ((td_call (ta_cons (td_op rd_ix (tr_var 0) (td_int).r) ta_nil))).r)) (tt_not (tt_B ((td_call (ta_cons (td_op rd_ix (tr_var 0) (td_int).r) ta_nil))).r))) (ds_ret td_non) ds_next) (ds_ret (td_tup (ta_cons (td_op rd_ix (tr_var 0) (td_int).r) (ta_cons (td_op rd_ix (tr_var 0) (td_int).r) ta_nil)))))))⟩
theorem sc_read_kinds : FnScope ["text", "kinds", "at", "words", "told", "names", "word", "upper"] ["text"] (defScope s_read_kinds) := ⟨rfl, rfl, rfl, by decide +kernel, rfl, by decide +kernel, by decide +kernel⟩
theorem ok_read_kinds {P : Program} {w : World} {K : PySem.W.Frag} {mg : Str → Option Value} {base : Heap} (C : Ctx K mg) : Kept P w K mg base 4 1 "read_kinds" ["text"] d_read_kinds := by
  obtain ⟨fd_kind_written, kp_kind_written, hg_kind_written, hb_kind_written, G_kind_written⟩ := ok_kind_written (P := P) (w := w) (base := base) C
  obtain ⟨fd_word_rows, kp_word_rows, hg_word_rows, hb_word_rows, G_word_rows⟩ := ok_word_rows (P := P) (w := w) (base := base) C
  obtain ⟨fdI_BadRow, psI_BadRow, OI_BadRow, BI_BadRow, GI_BadRow⟩ := ki_BadRow (P := P) (w := w) (base := base) C
  obtain ⟨fdI_NoKind, psI_NoKind, OI_NoKind, BI_NoKind, GI_NoKind⟩ := ki_NoKind (P := P) (w := w) (base := base) C
  obtain ⟨fdI_TooBig, psI_TooBig, OI_TooBig, BI_TooBig, GI_TooBig⟩ := ki_TooBig (P := P) (w := w) (base := base) C
  obtain ⟨fdI_Twice, psI_Twice, OI_Twice, BI_Twice, GI_Twice⟩ := ki_Twice (P := P) (w := w) (base := base) C
  have nd := sc_read_kinds.nd
  exact kept_of C.F_read_kinds C.g_read_kinds sc_read_kinds rfl rfl (fun _ _ _ _ _ _ us hl => match us, hl with | [_], _ => rfl) (s := S_read_kinds) fun cdv A outer sh H E hr tk => ⟨_,
    (pss_cons (ps_set (i := 1) nd rfl (Or.inl rfl) (pe_lst pa_nil)) (pss_cons (ps_for (passes_of rfl) rfl (pi_seq (pe_callS G_word_rows (hr.mono (by decide)) (by rfl) hg_word_rows kp_word_rows hb_word_rows (fun σ => passAt tk σ) (pa_cons (pv 0) pa_nil))) (pg_tup rfl (pgs_cons (pg_name (i := 2) nd rfl (Or.inl rfl)) (pgs_cons (pg_name (i := 3) nd rfl (Or.inl rfl)) pgs_nil))) (pss_cons (ps_set (i := 4) nd rfl (Or.inl rfl) (pe_callS G_kind_written (hr.mono (by decide)) (by rfl) hg_kind_written kp_kind_written hb_kind_written (fun σ => passAt tk σ) (pa_cons (pv 3) pa_nil))) (pss_cons (ps_if (pt_cmpR op_isN (pv 4) pe_non (nomark _)) (pss_one (ps_raise rfl tk (pmk_ocls tk OI_BadRow GI_BadRow (hr.mono (by decide)) BI_BadRow (by rfl) (pa_cons (pv 2) pa_nil)))) pss_nil) (pss_cons (ps_setLc (i := 5) (own := [("word", 6), ("upper", 7)]) rfl nd rfl rfl (sw_true rfl rfl rfl (by decide +kernel)) (pi_seq (pv 1)) (blkOk_by (by kernel_rfl)) (fun _ _ _ _ _ => (pg_tup rfl (pgs_cons (pg_name (i := 6) nd rfl (Or.inl rfl)) (pgs_cons (pg_name (i := 7) nd rfl (Or.inl rfl)) pgs_nil)))) (fun _ _ _ _ _ => pts_nil) (fun _ _ _ _ _ => (pv 6))) (pss_cons (ps_if (pt_cmpR (op_in2 (hu65 hr)) (pe_ix ix_seq (pv 4) pe_int (fun _ _ => rfl)) (pv 5) (by rfl)) (pss_one (ps_raise rfl tk (pmk_ocls tk OI_Twice GI_Twice (hr.mono (by decide)) BI_Twice (by rfl) (pa_cons (pv 2) pa_nil)))) pss_nil) (pss_cons (ps_if (PW.pt (pw_and (pt_cmpR (op_ne2 hr.units) (pe_ix ix_seq (pv 4) pe_int (fun _ _ => rfl)) pe_str (nomark _)) (pw_and1 (pt_cmpR (op_nin2 (hu65 hr)) (pe_ix ix_seq (pv 4) pe_int (fun _ _ => rfl)) (pv 5) (by rfl))))) (pss_one (ps_raise rfl tk (pmk_ocls tk OI_NoKind GI_NoKind (hr.mono (by decide)) BI_NoKind (by rfl) (pa_cons pe_int (pa_cons (pv 2) pa_nil))))) pss_nil) (pss_cons (ps_if (pt_cmpR (op_eq2 hr.units) (pe_callB call_len (by rfl) C.b_len bb_len (pa_cons (pv 1) pa_nil)) (pe_glob (v := .int 12) rfl C.c_MOST_KINDS.choose_spec ⟨_, rfl⟩) (nomark _)) (pss_one (ps_raise rfl tk (pmk_ocls tk OI_TooBig GI_TooBig (hr.mono (by decide)) BI_TooBig (by rfl) (pa_cons pe_int (pa_cons (pv 2) pa_nil))))) pss_nil) (pss_one (ps_expr (pe_bm PySem.F.plainAttrs_list PySem.F.slot_list_append PySem.F.type_list_append mt_append (pv 1) (pa_cons (pv 4) pa_nil))))))))))) (pss_one (ps_ret (pv 1))))),
    (ds_seq (ds_setO 1 (to_lst ta_nil)) (ds_seq (ds_preK [2, 3, 4, 5] (ds_for (vs := [2, 3]) (di_seq (td_call (ta_cons (td_var 0) ta_nil))) (dg_tup (dgs_cons (dg_name 2) (dgs_cons (dg_name 3) dgs_nil))) (ds_kill [2, 3, 4, 5] (ds_seq (ds_set 4 (td_call (ta_cons (td_var 3) ta_nil))) (ds_seq (ds_if (tt_test ((td_op rd_isN (tr_var 4) (td_non).r)).r) (ds_raise "BadRow" ["row"] (ta_cons (td_var 2) ta_nil)) ds_next) (ds_seq (ds_set 5 ((to_unf 1 (to_lc (vs := [6, 7]) (di_seq (td_var 1)) (dg_tup (dgs_cons (dg_name 6) (dgs_cons (dg_name 7) dgs_nil))) tt_yes (td_var 6)))).e) (ds_seq (ds_if (tt_test ((td_op rd_in ((td_op rd_ix (tr_var 4) (td_int).r)).r (tr_var 5))).r) (ds_raise "Twice" ["row"] (ta_cons (td_var 2) ta_nil)) ds_next) (ds_seq (ds_if (tt_and (tt_test ((td_op rd_ne ((td_op rd_ix (tr_var 4) (td_int).r)).r (td_str).r)).r) (tt_test ((td_op rd_nin ((td_op rd_ix (tr_var 4) (td_int).r)).r (tr_var 5))).r)) (ds_raise "NoKind" ["claim", "row"] (ta_cons td_int (ta_cons (td_var 2) ta_nil))) ds_next) (ds_seq (ds_if (tt_test ((td_op rd_eq ((td_cb rc_len (tq_cons (tr_var 1) tq_nil))).r (td_int).r)).r) (ds_raise "TooBig" ["claim", "row"] (ta_cons td_int (ta_cons (td_var 2) ta_nil))) ds_next) (ds_append 1 (td_var 4))))))))))) (ds_retV 1)))⟩
theorem sc_law_mix : FnScope ["_law_cell", "_law_k", "_law_factor"] ["_law_cell", "_law_k", "_law_factor"] (defScope s_law_mix) := ⟨rfl, rfl, rfl, by decide +kernel, rfl, by decide +kernel, by decide +kernel⟩
theorem ok_law_mix {P : Program} {w : World} {K : PySem.W.Frag} {mg : Str → Option Value} {base : Heap} (C : Ctx K mg) : Kept P w K mg base 1 3 "_law_mix" ["_law_cell", "_law_k", "_law_factor"] d_law_mix := by
  have nd := sc_law_mix.nd
  exact kept_of C.F_law_mix C.g_law_mix sc_law_mix rfl rfl (fun _ _ _ _ _ _ us hl => match us, hl with | [_, _, _], _ => rfl) (s := S_law_mix) fun cdv A outer sh H E hr tk => ⟨_,
    (pss_one (ps_ret (pe_op op_modN (pe_op op_mul2 (pe_op op_add2 (pe_op op_add2 (pv 0) (pe_op op_mul2 (pv 1) (pv 1))) pe_int) (pv 2)) pe_int))),
    (ds_ret (td_op rd_mod ((td_op rd_mul ((td_op rd_add ((td_op rd_add (tr_var 0) ((td_op rd_mul (tr_var 1) (tr_var 1))).r)).r (td_int).r)).r (tr_var 2))).r (td_int).r))⟩
theorem sc_law_salt : FnScope ["_law_script", "_law_factor", "_law_cell"] ["_law_script", "_law_factor"] (defScope s_law_salt) := ⟨rfl, rfl, rfl, by decide +kernel, rfl, by decide +kernel, by decide +kernel⟩
theorem ok_law_salt {P : Program} {w : World} {K : PySem.W.Frag} {mg : Str → Option Value} {base : Heap} (C : Ctx K mg) : Kept P w K mg base 2 2 "_law_salt" ["_law_script", "_law_factor"] d_law_salt := by
  obtain ⟨fd_law_mix, kp_law_mix, hg_law_mix, hb_law_mix, G_law_mix⟩ := ok_law_mix (P := P) (w := w) (base := base) C
  have nd := sc_law_salt.nd
  exact kept_of C.F_law_salt C.g_law_salt sc_law_salt rfl rfl (fun _ _ _ _ _ _ us hl => match us, hl with | [_, _], _ => rfl) (s := S_law_salt) fun cdv A outer sh H E hr tk => ⟨_,
    (pss_one (ps_ret (pe_callS G_law_mix (hr.mono (by decide)) (by rfl) hg_law_mix kp_law_mix hb_law_mix (fun σ => passAt tk σ) (pa_cons (pe_callB (cr_sum rfl) (by rfl) C.b_sum bb_sum (pa_cons (pe_lc (own := [("_law_cell", 2)]) rfl nd (pi_seq (pe_slice sl_2 (pv 0) po_none (po_some pe_int))) (blkOk_by (by kernel_rfl)) (fun _ _ _ _ _ => (pg_name (i := 2) nd rfl (Or.inl rfl))) (fun _ _ _ _ _ => pts_nil) (fun _ _ _ _ _ => (pe_op op_modN (pv 2) pe_int))) pa_nil)) (pa_cons (pe_op op_modN (pe_callB call_len (by rfl) C.b_len bb_len (pa_cons (pv 0) pa_nil)) pe_int) (pa_cons (pv 1) pa_nil)))))),
    (ds_ret (td_call (ta_cons (td_cb rc_sum (tq_cons (((to_lc (vs := [2]) (di_seq (td_sl (tr_var 0) tp_no (tp_some (td_int).r))) (dg_name 2) tt_yes (td_op rd_mod (tr_var 2) (td_int).r))).e).r tq_nil)) (ta_cons (td_op rd_mod ((td_cb rc_len (tq_cons (tr_var 0) tq_nil))).r (td_int).r) (ta_cons (td_var 1) ta_nil)))))⟩
theorem sc_law_name : FnScope ["_law_k", "_law_salt_here", "_law_some", "_law_turn", "_law_size", "_law_spot", "_law_head"] ["_law_k", "_law_salt_here"] (defScope s_law_name) := ⟨rfl, rfl, rfl, by decide +kernel, rfl, by decide +kernel, by decide +kernel⟩
theorem ok_law_name {P : Program} {w : World} {K : PySem.W.Frag} {mg : Str → Option Value} {base : Heap} (C : Ctx K mg) : Kept P w K mg base 1 2 "_law_name" ["_law_k", "_law_salt_here"] d_law_name := by
  have nd := sc_law_name.nd
  exact kept_of C.F_law_name C.g_law_name sc_law_name rfl rfl (fun _ _ _ _ _ _ us hl => match us, hl with | [_, _], _ => rfl) (s := S_law_name) fun cdv A outer sh H E hr tk => ⟨_,
    (pss_cons (ps_set (i := 2) nd rfl (Or.inl rfl) pe_str) (pss_cons (ps_set (i := 3) nd rfl (Or.inl rfl) (pe_ix ix_seq (pv 2) (pe_op op_modN (pe_op op_add2 (pe_op op_mul2 pe_int (pv 0)) (pe_op op_fdivN (pv 1) pe_int)) pe_int) (fun _ _ => rfl))) (pss_cons (ps_if (pt_cmpR (op_eq2 hr.units) (pe_op op_modN (pv 1) pe_int) pe_int (nomark _)) (pss_one (ps_ret (pv 3))) pss_nil) (pss_cons (ps_if (PW.pt (pw_and (pt_cmpR (op_eq2 hr.units) (pe_op op_modN (pv 1) pe_int) pe_int (nomark _)) (pw_and1 (pt_cmpR op_lt (pv 0) pe_int (nomark _))))) (pss_one (ps_ret (pe_op op_mul2 (pe_ix ix_seq (pv 2) (pe_op op_modN (pe_op op_fdivN (pv 1) pe_int) pe_int) (fun _ _ => rfl)) (pe_op op_add2 pe_int (pe_op op_modN (pe_op op_add2 (pe_op op_mul2 pe_int (pv 0)) (pe_op op_fdivN (pv 1) pe_int)) pe_int))))) pss_nil) (pss_cons (ps_set (i := 4) nd rfl (Or.inl rfl) (pe_op op_add2 pe_int (pe_op op_modN (pe_op op_fdivN (pv 1) pe_int) pe_int))) (pss_cons (ps_set (i := 5) nd rfl (Or.inl rfl) (pe_op op_modN (pe_op op_fdivN (pv 1) pe_int) (pe_op op_sub (pv 4) pe_int))) (pss_cons (ps_set (i := 6) nd rfl (Or.inl rfl) (pe_op op_mul2 (pe_ix ix_seq (pv 2) (pe_op op_modN (pe_op op_fdivN (pv 1) pe_int) pe_int) (fun _ _ => rfl)) (pv 5))) (pss_one (ps_ret (pe_op op_add2 (pe_op op_add2 (pe_op op_add2 (pv 6) (pv 3)) pe_str) (pe_op op_mul2 (pe_ix ix_seq (pv 2) (pe_op op_modN (pe_op op_fdivN (pv 1) pe_int) pe_int) (fun _ _ => rfl)) (pe_op op_sub (pe_op op_sub (pv 4) (pv 5)) pe_int)))))))))))),
    (ds_seq (ds_set 2 td_str) (ds_seq (ds_set 3 (td_op rd_ix (tr_var 2) ((td_op rd_mod ((td_op rd_add ((td_op rd_mul (td_int).r (tr_var 0))).r ((td_op rd_div (tr_var 1) (td_int).r)).r)).r (td_int).r)).r)) (ds_seq (ds_if (tt_test ((td_op rd_eq ((td_op rd_mod (tr_var 1) (td_int).r)).r (td_int).r)).r) (ds_retV 3) ds_next) (ds_seq (ds_if (tt_and (tt_test ((td_op rd_eq ((td_op rd_mod (tr_var 1) (td_int).r)).r (td_int).r)).r) (tt_test ((td_op rd_cmp (tr_var 0) (td_int).r)).r)) (ds_ret (td_op rd_mul ((td_op rd_ix (tr_var 2) ((td_op rd_mod ((td_op rd_div (tr_var 1) (td_int).r)).r (td_int).r)).r)).r ((td_op rd_add (td_int).r ((td_op rd_mod ((td_op rd_add ((td_op rd_mul (td_int).r (tr_var 0))).r ((td_op rd_div (tr_var 1) (td_int).r)).r)).r (td_int).r)).r)).r)) ds_next) (ds_seq (ds_set 4 (td_op rd_add (td_int).r ((td_op rd_mod ((td_op rd_div (tr_var 1) (td_int).r)).r (td_int).r)).r)) (ds_seq (ds_set 5 (td_op rd_mod ((td_op rd_div (tr_var 1) (td_int).r)).r ((td_op rd_sub (tr_var 4) (td_int).r)).r)) (ds_seq (ds_set 6 (td_op rd_mul ((td_op rd_ix (tr_var 2) ((td_op rd_mod ((td_op rd_div (tr_var 1) (td_int).r)).r (td_int).r)).r)).r (tr_var 5))) (ds_ret (td_op rd_add ((td_op rd_add ((td_op rd_add (tr_var 6) (tr_var 3))).r (td_str).r)).r ((td_op rd_mul ((td_op rd_ix (tr_var 2) ((td_op rd_mod ((td_op rd_div (tr_var 1) (td_int).r)).r (td_int).r)).r)).r ((td_op rd_sub ((td_op rd_sub (tr_var 4) (tr_var 5))).r (td_int).r)).r)).r)))))))))⟩
theorem sc_law_kinds : FnScope ["_law_cells", "_law_salt_here", "_law_kinds_here", "_law_k", "_law_m", "_law_upper"] ["_law_cells", "_law_salt_here"] (defScope s_law_kinds) := ⟨rfl, rfl, rfl, by decide +kernel, rfl, by decide +kernel, by decide +kernel⟩
theorem ok_law_kinds {P : Program} {w : World} {K : PySem.W.Frag} {mg : Str → Option Value} {base : Heap} (C : Ctx K mg) : Kept P w K mg base 2 2 "_law_kinds" ["_law_cells", "_law_salt_here"] d_law_kinds := by
  obtain ⟨fd_law_mix, kp_law_mix, hg_law_mix, hb_law_mix, G_law_mix⟩ := ok_law_mix (P := P) (w := w) (base := base) C
  obtain ⟨fd_law_name, kp_law_name, hg_law_name, hb_law_name, G_law_name⟩ := ok_law_name (P := P) (w := w) (base := base) C
  have nd := sc_law_kinds.nd
  exact kept_of C.F_law_kinds C.g_law_kinds sc_law_kinds rfl rfl (fun _ _ _ _ _ _ us hl => match us, hl with | [_, _], _ => rfl) (s := S_law_kinds) fun cdv A outer sh H E hr tk => ⟨_,
    (pss_cons (ps_set (i := 2) nd rfl (Or.inl rfl) (pe_lst pa_nil)) (pss_cons (ps_for (passes_of rfl) rfl (pi_range1 rfl C.b_range (pa_cons (pe_callB call_len (by rfl) C.b_len bb_len (pa_cons (pv 0) pa_nil)) pa_nil)) (pg_name (i := 3) nd rfl (Or.inl rfl)) (pss_cons (ps_set (i := 4) nd rfl (Or.inl rfl) (pe_callS G_law_mix (hr.mono (by decide)) (by rfl) hg_law_mix kp_law_mix hb_law_mix (fun σ => passAt tk σ) (pa_cons (pe_ix ix_seq (pv 0) (pv 3) (fun _ _ => rfl)) (pa_cons (pv 3) (pa_cons pe_int pa_nil))))) (pss_cons (ps_set (i := 5) nd rfl (Or.inl rfl) pe_str) (pss_cons (ps_if (PW.pt (pw_and (pt_cmpR op_gt (pv 3) pe_int (nomark _)) (pw_and1 (pt_cmpR op_gt (pe_op op_modN (pv 4) pe_int) pe_int (nomark _))))) (pss_one (ps_set (i := 5) nd rfl (Or.inl rfl) (pe_ix ix_seq (pe_ix ix_seq (pv 2) (pe_op op_modN (pe_op op_fdivN (pv 4) pe_int) (pv 3)) (fun _ _ => rfl)) pe_int (fun _ _ => rfl)))) pss_nil) (pss_one (ps_expr (pe_bm PySem.F.plainAttrs_list PySem.F.slot_list_append PySem.F.type_list_append mt_append (pv 2) (pa_cons (pe_tup (pa_cons (pe_callS G_law_name (hr.mono (by decide)) (by rfl) hg_law_name kp_law_name hb_law_name (fun σ => passAt tk σ) (pa_cons (pv 3) (pa_cons (pv 1) pa_nil))) (pa_cons (pv 5) pa_nil))) pa_nil)))))))) (pss_one (ps_ret (pv 2))))),
    (ds_seq (ds_setO 2 (to_lst ta_nil)) (ds_seq (ds_preK [3, 4, 5] (ds_for (vs := [3]) (di_rng1 (tq_cons ((td_cb rc_len (tq_cons (tr_var 0) tq_nil))).r tq_nil)) (dg_name 3) (ds_kill [3, 4, 5] (ds_seq (ds_set 4 (td_call (ta_cons (td_op rd_ix (tr_var 0) (tr_var 3)) (ta_cons (td_var 3) (ta_cons td_int ta_nil))))) (ds_seq (ds_set 5 td_str) (ds_seq (ds_if (tt_and (tt_test ((td_op rd_cmp (tr_var 3) (td_int).r)).r) (tt_test ((td_op rd_cmp ((td_op rd_mod (tr_var 4) (td_int).r)).r (td_int).r)).r)) (ds_set 5 (td_op rd_ix ((td_op rd_ix (tr_var 2) ((td_op rd_mod ((td_op rd_div (tr_var 4) (td_int).r)).r (tr_var 3))).r)).r (td_int).r)) ds_next) (ds_append 2 (td_tup (ta_cons (td_call (ta_cons (td_var 3) (ta_cons (td_var 1) ta_nil))) (ta_cons (td_var 5) ta_nil)))))))))) (ds_retV 2)))⟩
theorem sc_law_text : FnScope ["_law_rows", "_law_salt_here", "_law_lines", "_law_k", "_law_m", "_law_line", "_law_word"] ["_law_rows", "_law_salt_here"] (defScope s_law_text) := ⟨rfl, rfl, rfl, by decide +kernel, rfl, by decide +kernel, by decide +kernel⟩
theorem ok_law_text {P : Program} {w : World} {K : PySem.W.Frag} {mg : Str → Option Value} {base : Heap} (C : Ctx K mg) : Kept P w K mg base 2 2 "_law_text" ["_law_rows", "_law_salt_here"] d_law_text := by
  obtain ⟨fd_law_mix, kp_law_mix, hg_law_mix, hb_law_mix, G_law_mix⟩ := ok_law_mix (P := P) (w := w) (base := base) C
  have nd := sc_law_text.nd
  exact kept_of C.F_law_text C.g_law_text sc_law_text rfl rfl (fun _ _ _ _ _ _ us hl => match us, hl with | [_, _], _ => rfl) (s := S_law_text) fun cdv A outer sh H E hr tk => ⟨_,
    (pss_cons (ps_set (i := 2) nd rfl (Or.inl rfl) (pe_lst pa_nil)) (pss_cons (ps_for (passes_of rfl) rfl (pi_range1 rfl C.b_range (pa_cons (pe_callB call_len (by rfl) C.b_len bb_len (pa_cons (pv 0) pa_nil)) pa_nil)) (pg_name (i := 3) nd rfl (Or.inl rfl)) (pss_cons (ps_set (i := 4) nd rfl (Or.inl rfl) (pe_callS G_law_mix (hr.mono (by decide)) (by rfl) hg_law_mix kp_law_mix hb_law_mix (fun σ => passAt tk σ) (pa_cons (pv 1) (pa_cons (pv 3) (pa_cons pe_int pa_nil))))) (pss_cons (ps_set (i := 5) nd rfl (Or.inl rfl) (pe_op op_mul2 pe_str (pe_op op_modN (pv 4) pe_int))) (pss_cons (ps_for (passes_of rfl) rfl (pi_seq (pe_ix ix_seq (pv 0) (pv 3) (fun _ _ => rfl))) (pg_name (i := 6) nd rfl (Or.inl rfl)) (pss_cons (ps_set (i := 5) nd rfl (Or.inl rfl) (pe_op op_add2 (pe_op op_add2 (pv 5) (pv 6)) (pe_op op_mul2 pe_str (pe_op op_add2 pe_int (pe_op op_modN (pe_op op_fdivN (pv 4) pe_int) pe_int))))) (pss_one (ps_set (i := 4) nd rfl (Or.inl rfl) (pe_op op_fdivN (pv 4) pe_int))))) (pss_cons (ps_expr (pe_bm PySem.F.plainAttrs_list PySem.F.slot_list_append PySem.F.type_list_append mt_append (pv 2) (pa_cons (pv 5) pa_nil))) (pss_one (ps_if (pt_cmpR (op_eq2 hr.units) (pe_op op_modN (pv 4) pe_int) pe_int (nomark _)) (pss_one (ps_expr (pe_bm PySem.F.plainAttrs_list PySem.F.slot_list_append PySem.F.type_list_append mt_append (pv 2) (pa_cons (pe_op op_mul2 pe_str (pe_op op_modN (pe_op op_fdivN (pv 4) pe_int) pe_int)) pa_nil)))) pss_nil))))))) (pss_cons (ps_if (pt_cmpR (op_eq2 hr.units) (pe_op op_modN (pe_op op_fdivN (pv 1) pe_int) pe_int) pe_int (nomark _)) (pss_one (ps_expr (pe_bm PySem.F.plainAttrs_list PySem.F.slot_list_insert PySem.F.type_list_insert mt_insert (pv 2) (pa_cons pe_int (pa_cons pe_str pa_nil))))) pss_nil) (pss_one (ps_ret (pe_m1 PySem.F.slot_str_join PySem.F.type_str_join mt_join pe_str (pv 2))))))),
    (ds_seq (ds_setO 2 (to_lst ta_nil)) (ds_seq (ds_preK [3, 4, 5, 6] (ds_for (vs := [3]) (di_rng1 (tq_cons ((td_cb rc_len (tq_cons (tr_var 0) tq_nil))).r tq_nil)) (dg_name 3) (ds_kill [3, 4, 5, 6] (ds_seq (ds_set 4 (td_call (ta_cons (td_var 1) (ta_cons (td_var 3) (ta_cons td_int ta_nil))))) (ds_seq (ds_set 5 (td_op rd_mul (td_str).r ((td_op rd_mod (tr_var 4) (td_int).r)).r)) (ds_seq (ds_preK [6] (ds_for (vs := [6]) (di_seq (td_op rd_ix (tr_var 0) (tr_var 3))) (dg_name 6) (ds_kill [6] (ds_seq (ds_set 5 (td_op rd_add ((td_op rd_add (tr_var 5) (tr_var 6))).r ((td_op rd_mul (td_str).r ((td_op rd_add (td_int).r ((td_op rd_mod ((td_op rd_div (tr_var 4) (td_int).r)).r (td_int).r)).r)).r)).r)) (ds_set 4 (td_op rd_div (tr_var 4) (td_int).r)))))) (ds_seq (ds_append 2 (td_var 5)) (ds_if (tt_test ((td_op rd_eq ((td_op rd_mod (tr_var 4) (td_int).r)).r (td_int).r)).r) (ds_append 2 (td_op rd_mul (td_str).r ((td_op rd_mod ((td_op rd_div (tr_var 4) (td_int).r)).r (td_int).r)).r)) ds_next)))))))) (ds_seq (ds_if (tt_test ((td_op rd_eq ((td_op rd_mod ((td_op rd_div (tr_var 1) (td_int).r)).r (td_int).r)).r (td_int).r)).r) (ds_insertD 2 td_int td_str) ds_next) (ds_ret (td_m1 rm_join (td_str).r (tr_var 2))))))⟩
theorem sc_law_whole : FnScope ["_law_thing"] ["_law_thing"] (defScope s_law_whole) := ⟨rfl, rfl, rfl, by decide +kernel, rfl, by decide +kernel, by decide +kernel⟩
theorem ok_law_whole {P : Program} {w : World} {K : PySem.W.Frag} {mg : Str → Option Value} {base : Heap} (C : Ctx K mg) : Kept P w K mg base 1 1 "_law_whole" ["_law_thing"] d_law_whole := by
  have nd := sc_law_whole.nd
  exact kept_of C.F_law_whole C.g_law_whole sc_law_whole rfl rfl (fun _ _ _ _ _ _ us hl => match us, hl with | [_], _ => rfl) (s := S_law_whole) fun cdv A outer sh H E hr tk => ⟨_,
    (pss_one (ps_ret (pe_and (pe_callB call_isi (by rfl) C.b_isinstance bb_isinstance (pa_cons (pv 0) (pa_cons (pe_bltn (v := .ty "int") (by rfl) C.b_int bb_int rfl) pa_nil))) (pe_one (pe_not (pe_callB call_isi (by rfl) C.b_isinstance bb_isinstance (pa_cons (pv 0) (pa_cons (pe_bltn (v := .ty "bool") (by rfl) C.b_bool bb_bool rfl) pa_nil)))))))),
    (ds_ret (td_and ((td_isi (T := "int") (tr_var 0))).r (td_not ((td_isi (T := "bool") (tr_var 0))).r)))⟩
theorem sc_law_odd_row : FnScope ["_law_m", "_law_known", "_law_fresh", "_law_word", "_law_kind"] ["_law_m", "_law_known", "_law_fresh"] (defScope s_law_odd_row) := ⟨rfl, rfl, rfl, by decide +kernel, rfl, by decide +kernel, by decide +kernel⟩
theorem ok_law_odd_row {P : Program} {w : World} {K : PySem.W.Frag} {mg : Str → Option Value} {base : Heap} (C : Ctx K mg) : Kept P w K mg base 1 3 "_law_odd_row" ["_law_m", "_law_known", "_law_fresh"] d_law_odd_row := by
  have nd := sc_law_odd_row.nd
  exact kept_of C.F_law_odd_row C.g_law_odd_row sc_law_odd_row rfl rfl (fun _ _ _ _ _ _ us hl => match us, hl with | [_, _, _], _ => rfl) (s := S_law_odd_row) fun cdv A outer sh H E hr tk => ⟨_,
    (pss_cons (ps_set (i := 3) nd rfl (Or.inl rfl) (pe_ix ix_seq (pe_lst (pa_cons pe_str (pa_cons (pe_op op_add2 pe_str pe_str) (pa_cons pe_str (pa_cons pe_str (pa_cons pe_str (pa_cons pe_str pa_nil))))))) (pe_op op_modN (pe_op op_fdivN (pv 0) pe_int) pe_int) (fun _ _ => rfl))) (pss_cons (ps_set (i := 4) nd rfl (Or.inl rfl) (pe_op op_modN (pv 0) pe_int)) (pss_cons (ps_if (pt_cmpR (op_eq2 hr.units) (pv 4) pe_int (nomark _)) (pss_one (ps_ret (pe_lst (pa_cons pe_str pa_nil)))) pss_nil) (pss_cons (ps_if (pt_cmpR (op_eq2 hr.units) (pv 4) pe_int (nomark _)) (pss_one (ps_ret (pe_lst (pa_cons pe_str (pa_cons (pv 2) (pa_cons pe_str pa_nil)))))) pss_nil) (pss_cons (ps_if (pt_cmpR (op_eq2 hr.units) (pv 4) pe_int (nomark _)) (pss_one (ps_ret (pe_lst (pa_cons pe_str (pa_cons (pv 2) (pa_cons pe_str (pa_cons (pv 1) (pa_cons (pv 1) pa_nil)))))))) pss_nil) (pss_cons (ps_if (pt_cmpR (op_eq2 hr.units) (pv 4) pe_int (nomark _)) (pss_one (ps_ret (pe_lst (pa_cons pe_str (pa_cons (pv 3) pa_nil))))) pss_nil) (pss_cons (ps_if (pt_cmpR (op_eq2 hr.units) (pv 4) pe_int (nomark _)) (pss_one (ps_ret (pe_lst (pa_cons pe_str (pa_cons (pv 2) (pa_cons pe_str (pa_cons (pv 3) pa_nil))))))) pss_nil) (pss_cons (ps_if (pt_cmpR (op_eq2 hr.units) (pv 4) pe_int (nomark _)) (pss_one (ps_ret (pe_lst (pa_cons pe_str (pa_cons (pv 3) (pa_cons pe_str (pa_cons (pv 1) pa_nil))))))) pss_nil) (pss_cons (ps_if (pt_cmpR (op_eq2 hr.units) (pv 4) pe_int (nomark _)) (pss_one (ps_ret (pe_lst (pa_cons pe_str (pa_cons (pv 2) pa_nil))))) pss_nil) (pss_one (ps_ret (pe_lst (pa_cons pe_str (pa_cons (pv 2) (pa_cons pe_str (pa_cons (pv 1) pa_nil)))))))))))))))),
    (ds_seq (ds_set 3 (td_op rd_ix (((to_lst (ta_cons td_str (ta_cons (td_op rd_add (td_str).r (td_str).r) (ta_cons td_str (ta_cons td_str (ta_cons td_str (ta_cons td_str ta_nil)))))))).e).r ((td_op rd_mod ((td_op rd_div (tr_var 0) (td_int).r)).r (td_int).r)).r)) (ds_seq (ds_set 4 (td_op rd_mod (tr_var 0) (td_int).r)) (ds_seq (ds_if (tt_test ((td_op rd_eq (tr_var 4) (td_int).r)).r) (ds_retO (to_lst (ta_cons td_str ta_nil))) ds_next) (ds_seq (ds_if (tt_test ((td_op rd_eq (tr_var 4) (td_int).r)).r) (ds_retO (to_lst (ta_cons td_str (ta_cons (td_var 2) (ta_cons td_str ta_nil))))) ds_next) (ds_seq (ds_if (tt_test ((td_op rd_eq (tr_var 4) (td_int).r)).r) (ds_retO (to_lst (ta_cons td_str (ta_cons (td_var 2) (ta_cons td_str (ta_cons (td_var 1) (ta_cons (td_var 1) ta_nil))))))) ds_next) (ds_seq (ds_if (tt_test ((td_op rd_eq (tr_var 4) (td_int).r)).r) (ds_retO (to_lst (ta_cons td_str (ta_cons (td_var 3) ta_nil)))) ds_next) (ds_seq (ds_if (tt_test ((td_op rd_eq (tr_var 4) (td_int).r)).r) (ds_retO (to_lst (ta_cons td_str (ta_cons (td_var 2) (ta_cons td_str (ta_cons (td_var 3) ta_nil)))))) ds_next) (ds_seq (ds_if (tt_test ((td_op rd_eq (tr_var 4) (td_int).r)).r) (ds_retO (to_lst (ta_cons td_str (ta_cons (td_var 3) (ta_cons td_str (ta_cons (td_var 1) ta_nil)))))) ds_next) (ds_seq (ds_if (tt_test ((td_op rd_eq (tr_var 4) (td_int).r)).r) (ds_retO (to_lst (ta_cons td_str (ta_cons (td_var 2) ta_nil)))) ds_next) (ds_retO (to_lst (ta_cons td_str (ta_cons (td_var 2) (ta_cons td_str (ta_cons (td_var 1) ta_nil)))))))))))))))⟩
theorem sc_law_faulty : FnScope ["_law_m", "_law_kinds_here", "_law_salt_here", "_law_known", "_law_fresh", "_law_word"] ["_law_m", "_law_kinds_here", "_law_salt_here"] (defScope s_law_faulty) := ⟨rfl, rfl, rfl, by decide +kernel, rfl, by decide +kernel, by decide +kernel⟩
theorem ok_law_faulty {P : Program} {w : World} {K : PySem.W.Frag} {mg : Str → Option Value} {base : Heap} (C : Ctx K mg) : Kept P w K mg base 2 3 "_law_faulty" ["_law_m", "_law_kinds_here", "_law_salt_here"] d_law_faulty := by
  obtain ⟨fd_law_name, kp_law_name, hg_law_name, hb_law_name, G_law_name⟩ := ok_law_name (P := P) (w := w) (base := base) C
  obtain ⟨fd_law_odd_row, kp_law_odd_row, hg_law_odd_row, hb_law_odd_row, G_law_odd_row⟩ := ok_law_odd_row (P := P) (w := w) (base := base) C
  have nd := sc_law_faulty.nd
  exact kept_of C.F_law_faulty C.g_law_faulty sc_law_faulty rfl rfl (fun _ _ _ _ _ _ us hl => match us, hl with | [_, _, _], _ => rfl) (s := S_law_faulty) fun cdv A outer sh H E hr tk => ⟨_,
    (pss_cons (ps_set (i := 3) nd rfl (Or.inl rfl) (pe_callS G_law_name (hr.mono (by decide)) (by rfl) hg_law_name kp_law_name hb_law_name (fun σ => passAt tk σ) (pa_cons pe_int (pa_cons (pv 2) pa_nil)))) (pss_cons (ps_if (pt_cmpR op_gt (pe_callB call_len (by rfl) C.b_len bb_len (pa_cons (pv 1) pa_nil)) pe_int (nomark _)) (pss_one (ps_set (i := 3) nd rfl (Or.inl rfl) (pe_ix ix_seq (pe_ix ix_seq (pv 1) (pe_op op_modN (pe_op op_fdivN (pv 0) pe_int) (pe_callB call_len (by rfl) C.b_len bb_len (pa_cons (pv 1) pa_nil))) (fun _ _ => rfl)) pe_int (fun _ _ => rfl)))) pss_nil) (pss_cons (ps_set (i := 4) nd rfl (Or.inl rfl) (pe_callS G_law_name (hr.mono (by decide)) (by rfl) hg_law_name kp_law_name hb_law_name (fun σ => passAt tk σ) (pa_cons pe_int (pa_cons (pv 2) pa_nil)))) (pss_cons (ps_if (pt_cmpR (op_eq2 hr.units) (pe_op op_modN (pv 0) pe_int) pe_int (nomark _)) (pss_one (ps_ret (pe_callS G_law_odd_row (hr.mono (by decide)) (by rfl) hg_law_odd_row kp_law_odd_row hb_law_odd_row (fun σ => passAt tk σ) (pa_cons (pe_op op_fdivN (pv 0) pe_int) (pa_cons (pv 3) (pa_cons (pv 4) pa_nil)))))) pss_nil) (pss_cons (ps_set (i := 5) nd rfl (Or.inl rfl) (pv 4)) (pss_cons (ps_if (pt_cmpR (op_eq2 hr.units) (pe_op op_modN (pv 0) pe_int) pe_int (nomark _)) (pss_one (ps_set (i := 5) nd rfl (Or.inl rfl) (pv 3))) pss_nil) (pss_cons (ps_if (pt_cmpR (op_eq2 hr.units) (pe_op op_modN (pe_op op_fdivN (pv 0) pe_int) pe_int) pe_int (nomark _)) (pss_one (ps_ret (pe_lst (pa_cons pe_str (pa_cons (pv 5) pa_nil))))) pss_nil) (pss_one (ps_ret (pe_lst (pa_cons pe_str (pa_cons (pv 5) (pa_cons pe_str (pa_cons (pe_ix ix_seq (pe_lst (pa_cons (pv 3) (pa_cons (pe_callS G_law_name (hr.mono (by decide)) (by rfl) hg_law_name kp_law_name hb_law_name (fun σ => passAt tk σ) (pa_cons pe_int (pa_cons (pv 2) pa_nil))) pa_nil))) (pe_op op_modN (pe_op op_fdivN (pv 0) pe_int) pe_int) (fun _ _ => rfl)) pa_nil)))))))))))))),
    (ds_seq (ds_set 3 (td_call (ta_cons td_int (ta_cons (td_var 2) ta_nil)))) (ds_seq (ds_if (tt_test ((td_op rd_cmp ((td_cb rc_len (tq_cons (tr_var 1) tq_nil))).r (td_int).r)).r) (ds_set 3 (td_op rd_ix ((td_op rd_ix (tr_var 1) ((td_op rd_mod ((td_op rd_div (tr_var 0) (td_int).r)).r ((td_cb rc_len (tq_cons (tr_var 1) tq_nil))).r)).r)).r (td_int).r)) ds_next) (ds_seq (ds_set 4 (td_call (ta_cons td_int (ta_cons (td_var 2) ta_nil)))) (ds_seq (ds_if (tt_test ((td_op rd_eq ((td_op rd_mod (tr_var 0) (td_int).r)).r (td_int).r)).r) (ds_ret (td_call (ta_cons (td_op rd_div (tr_var 0) (td_int).r) (ta_cons (td_var 3) (ta_cons (td_var 4) ta_nil))))) ds_next) (ds_seq (ds_set 5 (td_var 4)) (ds_seq (ds_if (tt_test ((td_op rd_eq ((td_op rd_mod (tr_var 0) (td_int).r)).r (td_int).r)).r) (ds_set 5 (td_var 3)) ds_next) (ds_seq (ds_if (tt_test ((td_op rd_eq ((td_op rd_mod ((td_op rd_div (tr_var 0) (td_int).r)).r (td_int).r)).r (td_int).r)).r) (ds_retO (to_lst (ta_cons td_str (ta_cons (td_var 5) ta_nil)))) ds_next) (ds_retO (to_lst (ta_cons td_str (ta_cons (td_var 5) (ta_cons td_str (ta_cons (td_op rd_ix (((to_lst (ta_cons (td_var 3) (ta_cons (td_call (ta_cons td_int (ta_cons (td_var 2) ta_nil))) ta_nil)))).e).r ((td_op rd_mod ((td_op rd_div (tr_var 0) (td_int).r)).r (td_int).r)).r) ta_nil)))))))))))))⟩
theorem sc_law_due : FnScope ["_law_row", "_law_kinds_here", "_law_names", "_law_word", "_law_upper"] ["_law_row", "_law_kinds_here"] (defScope s_law_due) := ⟨rfl, rfl, rfl, by decide +kernel, rfl, by decide +kernel, by decide +kernel⟩
theorem ok_law_due {P : Program} {w : World} {K : PySem.W.Frag} {mg : Str → Option Value} {base : Heap} (C : Ctx K mg) : Kept P w K mg base 1 2 "_law_due" ["_law_row", "_law_kinds_here"] d_law_due := by
  have nd := sc_law_due.nd
  exact kept_of C.F_law_due C.g_law_due sc_law_due rfl rfl (fun _ _ _ _ _ _ us hl => match us, hl with | [_, _], _ => rfl) (s := S_law_due) fun cdv A outer sh H E hr tk => ⟨_,
    (pss_cons (ps_setLc (i := 2) (own := [("_law_word", 3), ("_law_upper", 4)]) rfl nd rfl rfl (sw_true rfl rfl rfl (by decide +kernel)) (pi_seq (pv 1)) (blkOk_by (by kernel_rfl)) (fun _ _ _ _ _ => (pg_tup rfl (pgs_cons (pg_name (i := 3) nd rfl (Or.inl rfl)) (pgs_cons (pg_name (i := 4) nd rfl (Or.inl rfl)) pgs_nil)))) (fun _ _ _ _ _ => pts_nil) (fun _ _ _ _ _ => (pv 3))) (pss_cons (ps_if (PW.pt (pw_or (pt_cmpR (op_ne2 hr.units) (pe_ix ix_seq (pv 0) pe_int (fun _ _ => rfl)) pe_str (nomark _)) (pw_or (pt_cmpR (op_nin2 (hu65 hr)) (pe_callB call_len (by rfl) C.b_len bb_len (pa_cons (pv 0) pa_nil)) (pe_tup (pa_cons pe_int (pa_cons pe_int pa_nil))) (by rfl)) (pw_or1 (PW.pt (pw_and (pt_cmpR (op_eq2 hr.units) (pe_callB call_len (by rfl) C.b_len bb_len (pa_cons (pv 0) pa_nil)) pe_int (nomark _)) (pw_and1 (pt_cmpR (op_ne2 hr.units) (pe_ix ix_seq (pv 0) pe_int (fun _ _ => rfl)) pe_str (nomark _))))))))) (pss_one (ps_ret pe_str)) pss_nil) (pss_cons (ps_for (passes_of rfl) rfl (pi_seq (pe_sl3 (st := none) (pv 0) (po_some pe_int) po_none (po_some pe_int))) (pg_name (i := 3) nd rfl (Or.inl rfl)) (pss_one (ps_if (pt_cmpR (op_in2 (hu65 hr)) (pv 3) (pe_tup (pa_cons pe_str (pa_cons pe_str (pa_cons pe_str (pa_cons pe_str (pa_cons pe_str (pa_cons pe_str pa_nil))))))) (by rfl)) (pss_one (ps_ret pe_str)) pss_nil))) (pss_cons (ps_if (pt_cmpR (op_in2 (hu65 hr)) (pe_ix ix_seq (pv 0) pe_int (fun _ _ => rfl)) (pv 2) (by rfl)) (pss_one (ps_ret pe_str)) pss_nil) (pss_cons (ps_if (PW.pt (pw_and (pt_cmpR (op_eq2 hr.units) (pe_callB call_len (by rfl) C.b_len bb_len (pa_cons (pv 0) pa_nil)) pe_int (nomark _)) (pw_and1 (pt_cmpR (op_nin2 (hu65 hr)) (pe_ix ix_seq (pv 0) pe_int (fun _ _ => rfl)) (pv 2) (by rfl))))) (pss_one (ps_ret pe_str)) pss_nil) (pss_cons (ps_if (pt_cmpR (op_eq2 hr.units) (pe_callB call_len (by rfl) C.b_len bb_len (pa_cons (pv 1) pa_nil)) pe_int (nomark _)) (pss_one (ps_ret pe_str)) pss_nil) (pss_one (ps_ret pe_non)))))))),
    (ds_seq (ds_set 2 ((to_lc (vs := [3, 4]) (di_seq (td_var 1)) (dg_tup (dgs_cons (dg_name 3) (dgs_cons (dg_name 4) dgs_nil))) tt_yes (td_var 3))).e) (ds_seq (ds_if (tt_or (tt_test ((td_op rd_ne ((td_op rd_ix (tr_var 0) (td_int).r)).r (td_str).r)).r) (tt_or (tt_test ((td_op rd_nin ((td_cb rc_len (tq_cons (tr_var 0) tq_nil))).r ((td_tup (ta_cons td_int (ta_cons td_int ta_nil)))).r)).r) (tt_and (tt_test ((td_op rd_eq ((td_cb rc_len (tq_cons (tr_var 0) tq_nil))).r (td_int).r)).r) (tt_test ((td_op rd_ne ((td_op rd_ix (tr_var 0) (td_int).r)).r (td_str).r)).r)))) (ds_ret td_str) ds_next) (ds_seq (ds_preK [3] (ds_for (vs := [3]) (di_seq ((to_sl3 (tr_var 0) (tp_some (td_int).r) tp_no (tp_some (td_int).r))).e) (dg_name 3) (ds_kill [3] (ds_if (tt_test ((td_op rd_in (tr_var 3) ((td_tup (ta_cons td_str (ta_cons td_str (ta_cons td_str (ta_cons td_str (ta_cons td_str (ta_cons td_str ta_nil)))))))).r)).r) (ds_ret td_str) ds_next)))) (ds_seq (ds_if (tt_test ((td_op rd_in ((td_op rd_ix (tr_var 0) (td_int).r)).r (tr_var 2))).r) (ds_ret td_str) ds_next) (ds_seq (ds_if (tt_and (tt_test ((td_op rd_eq ((td_cb rc_len (tq_cons (tr_var 0) tq_nil))).r (td_int).r)).r) (tt_test ((td_op rd_nin ((td_op rd_ix (tr_var 0) (td_int).r)).r (tr_var 2))).r)) (ds_ret td_str) ds_next) (ds_seq (ds_if (tt_test ((td_op rd_eq ((td_cb rc_len (tq_cons (tr_var 1) tq_nil))).r (td_int).r)).r) (ds_ret td_str) ds_next) (ds_ret td_non)))))))⟩
theorem sc_law_told : FnScope ["_law_text_here", "_law_told_here", "e"] ["_law_text_here"] (defScope s_law_told) := ⟨rfl, rfl, rfl, by decide +kernel, rfl, by decide +kernel, by decide +kernel⟩
theorem ok_law_told {P : Program} {w : World} {K : PySem.W.Frag} {mg : Str → Option Value} {base : Heap} (C : Ctx K mg) : Kept P w K mg base 5 1 "_law_told" ["_law_text_here"] d_law_told := by
  obtain ⟨fd_read_kinds, kp_read_kinds, hg_read_kinds, hb_read_kinds, G_read_kinds⟩ := ok_read_kinds (P := P) (w := w) (base := base) C
  have nd := sc_law_told.nd
  exact kept_of C.F_law_told C.g_law_told sc_law_told rfl rfl (fun _ _ _ _ _ _ us hl => match us, hl with | [_], _ => rfl) (s := S_law_told) fun cdv A outer sh H E hr tk => ⟨_,
    (pss_cons (ps_set (i := 1) nd rfl (Or.inl rfl) pe_non) (pss_cons (ps_tryE (i := 2) rfl rfl nd rfl rfl ⟨by rfl, by decide, .inl C.g_ClaimError⟩ tk (fun W pn xe tk2 po => (pss_one (ps_expr (pe_callS G_read_kinds (hr.mono (by decide)) (by rfl) hg_read_kinds kp_read_kinds hb_read_kinds (fun σ => passAt tk2 σ) (pa_cons (pv 0) pa_nil))))) (fun a pn => (pss_one (ps_set (i := 1) nd rfl (Or.inl rfl) (pv 2))))) (pss_one (ps_ret (pv 1))))),
    (ds_seq (ds_set 1 td_non) (ds_seq (ds_tryE (cxT_ok C.m_ClaimError) (tb_drop fun W => (td_call (ta_cons (td_var 0) ta_nil))) (ds_set 1 (td_var 2))) (ds_retV 1)))⟩
theorem sc_law_right : FnScope ["_law_told_here", "_law_due_here", "_law_at", "_law_ones", "_law_word"] ["_law_told_here", "_law_due_here", "_law_at"] (defScope s_law_right) := ⟨rfl, rfl, rfl, by decide +kernel, rfl, by decide +kernel, by decide +kernel⟩
theorem ok_law_right {P : Program} {w : World} {K : PySem.W.Frag} {mg : Str → Option Value} {base : Heap} (C : Ctx K mg) : Kept P w K mg base 2 3 "_law_right" ["_law_told_here", "_law_due_here", "_law_at"] d_law_right := by
  obtain ⟨fd_law_whole, kp_law_whole, hg_law_whole, hb_law_whole, G_law_whole⟩ := ok_law_whole (P := P) (w := w) (base := base) C
  have nd := sc_law_right.nd
  exact kept_of C.F_law_right C.g_law_right sc_law_right rfl rfl (fun _ _ _ _ _ _ us hl => match us, hl with | [_, _, _], _ => rfl) (s := S_law_right) fun cdv A outer sh H E hr tk => ⟨_,
    (pss_cons (ps_set (i := 3) nd rfl (Or.inl rfl) (pe_lst (pa_cons (pe_callB call_isX (by rfl) C.b_isinstance bb_isinstance (pa_cons (pv 0) (pa_cons (pe_glob (v := .ref (He.ga _ "BadRow")) rfl C.g_BadRow rfl) pa_nil))) (pa_cons (pe_callB call_isX (by rfl) C.b_isinstance bb_isinstance (pa_cons (pv 0) (pa_cons (pe_glob (v := .ref (He.ga _ "Twice")) rfl C.g_Twice rfl) pa_nil))) (pa_cons (pe_callB call_isX (by rfl) C.b_isinstance bb_isinstance (pa_cons (pv 0) (pa_cons (pe_glob (v := .ref (He.ga _ "NoKind")) rfl C.g_NoKind rfl) pa_nil))) (pa_cons (pe_callB call_isX (by rfl) C.b_isinstance bb_isinstance (pa_cons (pv 0) (pa_cons (pe_glob (v := .ref (He.ga _ "TooBig")) rfl C.g_TooBig rfl) pa_nil))) pa_nil)))))) (pss_cons (ps_if (PW.pt (pw_or (pt_cmpR (op_ne2 hr.units) (pv 3) (pe_lc (own := [("_law_word", 4)]) rfl nd (pi_seq (pe_tup (pa_cons pe_str (pa_cons pe_str (pa_cons pe_str (pa_cons pe_str pa_nil)))))) (blkOk_by (by kernel_rfl)) (fun _ _ _ _ _ => (pg_name (i := 4) nd rfl (Or.inl rfl))) (fun _ _ _ _ _ => pts_nil) (fun _ _ _ _ _ => (pe_cmpR (op_eq2 hr.units) (pv 1) (pv 4) (nomark _)))) (nomark _)) (pw_or1 (pt_not (pt_val (pe_callB call_isX (by rfl) C.b_isinstance bb_isinstance (pa_cons (pv 0) (pa_cons (pe_bltn (v := .ty "ValueError") (by rfl) C.b_ValueError bb_ValueError rfl) pa_nil)))))))) (pss_one (ps_ret pe_bl)) pss_nil) (pss_cons (ps_if (pt_val (pe_callB call_isXT (by rfl) C.b_isinstance bb_isinstance (pa_cons (pv 0) (pa_cons (pe_tup (pa_cons (pe_glob (v := .ref (He.ga _ "NoChange")) rfl C.g_NoChange rfl) (pa_cons (pe_glob (v := .ref (He.ga _ "NoClaim")) rfl C.g_NoClaim rfl) (pa_cons (pe_glob (v := .ref (He.ga _ "NoFit")) rfl C.g_NoFit rfl) (pa_cons (pe_glob (v := .ref (He.ga _ "NoGround")) rfl C.g_NoGround rfl) (pa_cons (pe_glob (v := .ref (He.ga _ "NoPart")) rfl C.g_NoPart rfl) (pa_cons (pe_glob (v := .ref (He.ga _ "NoRange")) rfl C.g_NoRange rfl) (pa_cons (pe_glob (v := .ref (He.ga _ "NotOwn")) rfl C.g_NotOwn rfl) (pa_cons (pe_glob (v := .ref (He.ga _ "NotUnder")) rfl C.g_NotUnder rfl) (pa_cons (pe_glob (v := .ref (He.ga _ "TooMany")) rfl C.g_TooMany rfl) (pa_cons (pe_glob (v := .ref (He.ga _ "TwoGrounds")) rfl C.g_TwoGrounds rfl) pa_nil))))))))))) pa_nil)))) (pss_one (ps_ret pe_bl)) pss_nil) (pss_cons (ps_if (PW.pt (pw_and (pt_cmpR (op_in2 (hu65 hr)) (pv 1) (pe_tup (pa_cons pe_str (pa_cons pe_str pa_nil))) (by rfl)) (pw_and1 (PW.pt (pw_or (pt_not (pt_val (pe_callS G_law_whole (hr.mono (by decide)) (by rfl) hg_law_whole kp_law_whole hb_law_whole (fun σ => passAt tk σ) (pa_cons (pe_xE (pv 0)) pa_nil)))) (pw_or1 (pt_cmpR (op_ne2 hr.units) (pe_xE (pv 0)) pe_int (nomark _)))))))) (pss_one (ps_ret pe_bl)) pss_nil) (pss_one (ps_ret (pe_and (pe_callS G_law_whole (hr.mono (by decide)) (by rfl) hg_law_whole kp_law_whole hb_law_whole (fun σ => passAt tk σ) (pa_cons (pe_xE (pv 0)) pa_nil)) (pe_one (pe_cmpR (op_eq2 hr.units) (pe_xE (pv 0)) (pv 2) (nomark _)))))))))),
    (ds_seq (ds_set 3 ((to_lst (ta_cons (td_isX (c := .ref (He.ga K "BadRow")) (cv := .ref (He.ga K "BadRow")) ti_BadRow (td_var 0) (fun _ h => h) C.k_BadRow) (ta_cons (td_isX (c := .ref (He.ga K "Twice")) (cv := .ref (He.ga K "Twice")) ti_Twice (td_var 0) (fun _ h => h) C.k_Twice) (ta_cons (td_isX (c := .ref (He.ga K "NoKind")) (cv := .ref (He.ga K "NoKind")) ti_NoKind (td_var 0) (fun _ h => h) C.k_NoKind) (ta_cons (td_isX (c := .ref (He.ga K "TooBig")) (cv := .ref (He.ga K "TooBig")) ti_TooBig (td_var 0) (fun _ h => h) C.k_TooBig) ta_nil)))))).e) (ds_seq (ds_if (tt_or (tt_test ((td_op rd_ne (tr_var 3) (((to_lc (vs := [4]) (di_seq (td_tup (ta_cons td_str (ta_cons td_str (ta_cons td_str (ta_cons td_str ta_nil)))))) (dg_name 4) tt_yes (td_op rd_eq (tr_var 1) (tr_var 4)))).e).r)).r) (tt_not (tt_B ((td_isX (c := .ty "ValueError") (cv := .type "ValueError") ti_ValueError (td_var 0) (fun _ h => h) C.k_ValueError)).r))) (ds_ret td_bl) ds_next) (ds_seq (ds_if (tt_B ((td_isXT (cs := [.ref (He.ga K "NoChange"), .ref (He.ga K "NoClaim"), .ref (He.ga K "NoFit"), .ref (He.ga K "NoGround"), .ref (He.ga K "NoPart"), .ref (He.ga K "NoRange"), .ref (He.ga K "NotOwn"), .ref (He.ga K "NotUnder"), .ref (He.ga K "TooMany"), .ref (He.ga K "TwoGrounds")]) (us := [.ref (He.ga K "NoChange"), .ref (He.ga K "NoClaim"), .ref (He.ga K "NoFit"), .ref (He.ga K "NoGround"), .ref (He.ga K "NoPart"), .ref (He.ga K "NoRange"), .ref (He.ga K "NotOwn"), .ref (He.ga K "NotUnder"), .ref (He.ga K "TooMany"), .ref (He.ga K "TwoGrounds")]) ti_NoChange_NoClaim_NoFit_NoGround_NoPart_NoRange_NotOwn_NotUnder_TooMany_TwoGrounds (td_var 0) (consta_cons _ (consta_cons _ (consta_cons _ (consta_cons _ (consta_cons _ (consta_cons _ (consta_cons _ (consta_cons _ (consta_cons _ (consta_cons _ consta_nil)))))))))) (Nat.le_of_ble_eq_true rfl) (.cons (fun _ h => h) (.cons (fun _ h => h) (.cons (fun _ h => h) (.cons (fun _ h => h) (.cons (fun _ h => h) (.cons (fun _ h => h) (.cons (fun _ h => h) (.cons (fun _ h => h) (.cons (fun _ h => h) (.cons (fun _ h => h) .nil)))))))))) C.k_NoChange_NoClaim_NoFit_NoGround_NoPart_NoRange_NotOwn_NotUnder_TooMany_TwoGrounds)).r) (ds_ret td_bl) ds_next) (ds_seq (ds_if (tt_and (tt_test ((td_op rd_in (tr_var 1) ((td_tup (ta_cons td_str (ta_cons td_str ta_nil)))).r)).r) (tt_or (tt_not (tt_B ((td_call (ta_cons (td_xE xf_claim "claim" (td_var 0) C.f_claim) ta_nil))).r)) (tt_test ((td_op rd_ne ((td_xE xf_claim "claim" (td_var 0) C.f_claim)).r (td_int).r)).r))) (ds_ret td_bl) ds_next) (ds_ret (td_and ((td_call (ta_cons (td_xE xf_row "row" (td_var 0) C.f_row) ta_nil))).r (td_op rd_eq ((td_xE xf_row "row" (td_var 0) C.f_row)).r (tr_var 2))))))))⟩
theorem sc_law : FnScope ["_law_script", "_law_salt_here", "_law_cells", "_law_k", "_law_m", "_law_many", "_law_kinds_here", "_law_rows", "_law_word", "_law_upper", "_law_row", "_law_due_here", "_law_text_here", "_law_at", "_law_number", "_law_line"] ["_law_script"] (defScope s_law) := ⟨rfl, rfl, rfl, by decide +kernel, rfl, by decide +kernel, by decide +kernel⟩
theorem fn_law {P : Program} {w : World} {K : PySem.W.Frag} {mg : Str → Option Value} {base : Heap} {fd : FuncData} (FD : FunD K "law" "law" (defArgs s_law) (defBody s_law) (defScope s_law) [] [] (He.ga K "law") fd) (C : Ctx K mg) : FnOk P w K mg base (L2.CX P w) 6 (He.ga K "law") fd ["_law_script"] (spD K 1 d_law) := by
  obtain ⟨fd_law_due, kp_law_due, hg_law_due, hb_law_due, G_law_due⟩ := ok_law_due (P := P) (w := w) (base := base) C
  obtain ⟨fd_law_faulty, kp_law_faulty, hg_law_faulty, hb_law_faulty, G_law_faulty⟩ := ok_law_faulty (P := P) (w := w) (base := base) C
  obtain ⟨fd_law_kinds, kp_law_kinds, hg_law_kinds, hb_law_kinds, G_law_kinds⟩ := ok_law_kinds (P := P) (w := w) (base := base) C
  obtain ⟨fd_law_mix, kp_law_mix, hg_law_mix, hb_law_mix, G_law_mix⟩ := ok_law_mix (P := P) (w := w) (base := base) C
  obtain ⟨fd_law_right, kp_law_right, hg_law_right, hb_law_right, G_law_right⟩ := ok_law_right (P := P) (w := w) (base := base) C
  obtain ⟨fd_law_salt, kp_law_salt, hg_law_salt, hb_law_salt, G_law_salt⟩ := ok_law_salt (P := P) (w := w) (base := base) C
  obtain ⟨fd_law_text, kp_law_text, hg_law_text, hb_law_text, G_law_text⟩ := ok_law_text (P := P) (w := w) (base := base) C
  obtain ⟨fd_law_told, kp_law_told, hg_law_told, hb_law_told, G_law_told⟩ := ok_law_told (P := P) (w := w) (base := base) C
  have nd := sc_law.nd
  exact fn_of0 FD sc_law rfl rfl (s := S_law) fun cdv A outer sh H E hr tk => ⟨_,
    (pss_cons (ps_set (i := 1) nd rfl (Or.inl rfl) (pe_callS G_law_salt (hr.mono (by decide)) (by rfl) hg_law_salt kp_law_salt hb_law_salt (fun σ => passAt tk σ) (pa_cons (pv 0) (pa_cons pe_int pa_nil)))) (pss_cons (ps_set (i := 2) nd rfl (Or.inl rfl) (pe_op op_add2 (pe_slice sl_2 (pv 0) po_none (po_some pe_int)) (pe_lst (pa_cons (pe_op op_fdivN (pv 1) pe_int) (pa_cons (pe_op op_fdivN (pv 1) pe_int) (pa_cons (pe_op op_fdivN (pv 1) pe_int) pa_nil)))))) (pss_cons (ps_for (passes_of rfl) rfl (pi_range1 rfl C.b_range (pa_cons (pe_callB (call_min2 rfl) (by rfl) C.b_min bb_min (pa_cons pe_int (pa_cons (pe_callB call_len (by rfl) C.b_len bb_len (pa_cons (pv 2) pa_nil)) pa_nil))) pa_nil)) (pg_name (i := 3) nd rfl (Or.inl rfl)) (pss_cons (ps_set (i := 4) nd rfl (Or.inl rfl) (pe_callS G_law_mix (hr.mono (by decide)) (by rfl) hg_law_mix kp_law_mix hb_law_mix (fun σ => passAt tk σ) (pa_cons (pe_ix ix_seq (pv 2) (pv 3) (fun _ _ => rfl)) (pa_cons (pv 3) (pa_cons pe_int pa_nil))))) (pss_cons (ps_set (i := 5) nd rfl (Or.inl rfl) (pe_ix ix_seq (pe_lst (pa_cons pe_int (pa_cons (pe_op op_modN (pe_op op_fdivN (pv 4) pe_int) pe_int) pa_nil))) (pe_callTy call_int3 (by rfl) C.b_int bb_int (pa_cons (pe_cmpR op_gt (pe_op op_modN (pv 4) pe_int) pe_int (nomark _)) pa_nil)) (fun _ _ => rfl))) (pss_cons (ps_set (i := 6) nd rfl (Or.inl rfl) (pe_callS G_law_kinds (hr.mono (by decide)) (by rfl) hg_law_kinds kp_law_kinds hb_law_kinds (fun σ => passAt tk σ) (pa_cons (pe_slice sl_2 (pe_op op_add2 (pv 2) (pe_op op_rep (pe_lst (pa_cons (pv 1) pa_nil)) pe_int)) po_none (po_some (pv 5))) (pa_cons (pv 1) pa_nil)))) (pss_cons (ps_set (i := 7) nd rfl (Or.inl rfl) (pe_lst pa_nil)) (pss_cons (ps_for (passes_of rfl) rfl (pi_seq (pv 6)) (pg_tup rfl (pgs_cons (pg_name (i := 8) nd rfl (Or.inl rfl)) (pgs_cons (pg_name (i := 9) nd rfl (Or.inl rfl)) pgs_nil))) (pss_one (ps_expr (pe_bm PySem.F.plainAttrs_list PySem.F.slot_list_append PySem.F.type_list_append mt_append (pv 7) (pa_cons (pe_op op_add2 (pe_lst (pa_cons pe_str (pa_cons (pv 8) pa_nil))) (pe_slice sl_2 (pe_lst (pa_cons pe_str (pa_cons (pv 9) pa_nil))) po_none (po_some (pe_op op_mul2 pe_int (pe_callTy call_int3 (by rfl) C.b_int bb_int (pa_cons (pe_cmpR (op_ne2 hr.units) (pv 9) pe_str (nomark _)) pa_nil)))))) pa_nil))))) (pss_cons (ps_set (i := 10) nd rfl (Or.inl rfl) (pe_callS G_law_faulty (hr.mono (by decide)) (by rfl) hg_law_faulty kp_law_faulty hb_law_faulty (fun σ => passAt tk σ) (pa_cons (pe_op op_fdivN (pv 4) pe_int) (pa_cons (pv 6) (pa_cons (pv 1) pa_nil))))) (pss_cons (ps_set (i := 11) nd rfl (Or.inl rfl) (pe_callS G_law_due (hr.mono (by decide)) (by rfl) hg_law_due kp_law_due hb_law_due (fun σ => passAt tk σ) (pa_cons (pv 10) (pa_cons (pv 6) pa_nil)))) (pss_cons (ps_if (pt_cmpR op_isN (pv 11) pe_non (nomark _)) (pss_cons (ps_set (i := 10) nd rfl (Or.inl rfl) (pe_op op_add2 (pe_op op_add2 (pe_lst (pa_cons pe_str pa_nil)) (pe_slice sl_2 (pv 10) (po_some pe_int) (po_some pe_int))) (pe_lst (pa_cons pe_str (pa_cons pe_str pa_nil))))) (pss_one (ps_set (i := 11) nd rfl (Or.inl rfl) (pe_callS G_law_due (hr.mono (by decide)) (by rfl) hg_law_due kp_law_due hb_law_due (fun σ => passAt tk σ) (pa_cons (pv 10) (pa_cons (pv 6) pa_nil)))))) pss_nil) (pss_cons (ps_set (i := 12) nd rfl (Or.inl rfl) (pe_callS G_law_text (hr.mono (by decide)) (by rfl) hg_law_text kp_law_text hb_law_text (fun σ => passAt tk σ) (pa_cons (pe_op op_add2 (pe_op op_add2 (pv 7) (pe_lst (pa_cons (pv 10) pa_nil))) (pe_slice sl_2 (pe_lst (pa_cons (pe_lst (pa_cons pe_str pa_nil)) (pa_cons (pv 10) pa_nil))) po_none (po_some (pe_op op_modN (pe_op op_fdivN (pv 4) pe_int) pe_int)))) (pa_cons (pe_op op_add2 (pe_op op_fdivN (pv 1) pe_int) (pv 3)) pa_nil)))) (pss_cons (ps_set (i := 13) nd rfl (Or.inl rfl) (pe_ix ix_seq (pe_lc (own := [("_law_number", 14), ("_law_line", 15)]) rfl nd (pi_enum (by rfl) C.b_enumerate (pa_cons (pe_m1 PySem.F.slot_str_split PySem.F.type_str_split mt_split (pv 12) pe_str) pa_nil)) (blkOk_by (by kernel_rfl)) (fun _ _ _ _ _ => (pg_tup rfl (pgs_cons (pg_name (i := 14) nd rfl (Or.inl rfl)) (pgs_cons (pg_name (i := 15) nd rfl (Or.inl rfl)) pgs_nil)))) (fun _ _ _ _ _ => (pts_one (pt_cmpR (op_ne2 hr.units) (pe_m0 PySem.F.slot_str_split PySem.F.type_str_split mt_words (pv 15)) (pe_lst pa_nil) (nomark _)))) (fun _ _ _ _ _ => (pv 14))) (pe_callB call_len (by rfl) C.b_len bb_len (pa_cons (pv 7) pa_nil)) (fun _ _ => rfl))) (pss_one (ps_if (pt_not (pt_val (pe_callS G_law_right (hr.mono (by decide)) (by rfl) hg_law_right kp_law_right hb_law_right (fun σ => passAt tk σ) (pa_cons (pe_callS G_law_told (hr.mono (by decide)) (by rfl) hg_law_told kp_law_told hb_law_told (fun σ => passAt tk σ) (pa_cons (pv 12) pa_nil)) (pa_cons (pv 11) (pa_cons (pv 13) pa_nil)))))) (pss_one (ps_ret pe_bl)) pss_nil))))))))))))) (pss_one (ps_ret pe_bl))))),
    (ds_seq (ds_set 1 (td_call (ta_cons (td_var 0) (ta_cons td_int ta_nil)))) (ds_seq (ds_set 2 (td_op rd_add ((td_sl (tr_var 0) tp_no (tp_some (td_int).r))).r (((to_lst (ta_cons (td_op rd_div (tr_var 1) (td_int).r) (ta_cons (td_op rd_div (tr_var 1) (td_int).r) (ta_cons (td_op rd_div (tr_var 1) (td_int).r) ta_nil))))).e).r)) (ds_seq (ds_preK [3, 4, 5, 6, 7, 8, 9, 10, 11, 12, 13] (ds_for (vs := [3]) (di_rng1 (tq_cons ((td_cb rc_min2 (tq_cons (td_int).r (tq_cons ((td_cb rc_len (tq_cons (tr_var 2) tq_nil))).r tq_nil)))).r tq_nil)) (dg_name 3) (ds_kill [3, 4, 5, 6, 7, 8, 9, 10, 11, 12, 13] (ds_seq (ds_set 4 (td_call (ta_cons (td_op rd_ix (tr_var 2) (tr_var 3)) (ta_cons (td_var 3) (ta_cons td_int ta_nil))))) (ds_seq (ds_set 5 (td_op rd_ix (((to_lst (ta_cons td_int (ta_cons (td_op rd_mod ((td_op rd_div (tr_var 4) (td_int).r)).r (td_int).r) ta_nil)))).e).r ((td_cb rc_int (tq_cons ((td_op rd_cmp ((td_op rd_mod (tr_var 4) (td_int).r)).r (td_int).r)).r tq_nil))).r)) (ds_seq (ds_set 6 (td_call (ta_cons (td_sl ((td_op rd_add (tr_var 2) (((to_rep (to_lst (ta_cons (td_var 1) ta_nil)) (td_int).r)).e).r)).r tp_no (tp_some (tr_var 5))) (ta_cons (td_var 1) ta_nil)))) (ds_seq (ds_setO 7 (to_lst ta_nil)) (ds_seq (ds_preK [8, 9] (ds_for (vs := [8, 9]) (di_seq (td_var 6)) (dg_tup (dgs_cons (dg_name 8) (dgs_cons (dg_name 9) dgs_nil))) (ds_kill [8, 9] (ds_append 7 (td_op rd_add (((to_lst (ta_cons td_str (ta_cons (td_var 8) ta_nil)))).e).r ((td_sl (((to_lst (ta_cons td_str (ta_cons (td_var 9) ta_nil)))).e).r tp_no (tp_some ((td_op rd_mul (td_int).r ((td_cb rc_int (tq_cons ((td_op rd_ne (tr_var 9) (td_str).r)).r tq_nil))).r)).r))).r))))) (ds_seq (ds_set 10 (td_call (ta_cons (td_op rd_div (tr_var 4) (td_int).r) (ta_cons (td_var 6) (ta_cons (td_var 1) ta_nil))))) (ds_seq (ds_set 11 (td_call (ta_cons (td_var 10) (ta_cons (td_var 6) ta_nil)))) (ds_seq (ds_if (tt_test ((td_op rd_isN (tr_var 11) (td_non).r)).r) (ds_seq (ds_set 10 (td_op rd_add ((td_op rd_add (((to_lst (ta_cons td_str ta_nil))).e).r ((td_sl (tr_var 10) (tp_some (td_int).r) (tp_some (td_int).r))).r)).r (((to_lst (ta_cons td_str (ta_cons td_str ta_nil)))).e).r)) (ds_set 11 (td_call (ta_cons (td_var 10) (ta_cons (td_var 6) ta_nil))))) ds_next) (ds_seq (ds_set 12 (td_call (ta_cons (td_op rd_add ((td_op rd_add (tr_var 7) (((to_lst (ta_cons (td_var 10) ta_nil))).e).r)).r ((td_sl (((to_lst (ta_cons ((to_lst (ta_cons td_str ta_nil))).e (ta_cons (td_var 10) ta_nil)))).e).r tp_no (tp_some ((td_op rd_mod ((td_op rd_div (tr_var 4) (td_int).r)).r (td_int).r)).r))).r) (ta_cons (td_op rd_add ((td_op rd_div (tr_var 1) (td_int).r)).r (tr_var 3)) ta_nil)))) (ds_seq (ds_set 13 (td_op rd_ix (((to_lc (vs := [14, 15]) (di_enum (ta_cons ((to_m1 rmo_split (tr_var 12) (td_str).r)).e ta_nil)) (dg_tup (dgs_cons (dg_name 14) (dgs_cons (dg_name 15) dgs_nil))) (tt_test ((td_op rd_ne (((to_m0 rmo_words (tr_var 15))).e).r (((to_lst ta_nil)).e).r)).r) (td_var 14))).e).r ((td_cb rc_len (tq_cons (tr_var 7) tq_nil))).r)) (ds_if (tt_not (tt_B ((td_call (ta_cons (td_call (ta_cons (td_var 12) ta_nil)) (ta_cons (td_var 11) (ta_cons (td_var 13) ta_nil))))).r)) (ds_ret td_bl) ds_next)))))))))))))) (ds_ret td_bl))))⟩
end K03
namespace K03
open PySem PySem.Spec PyProof.Rows L2 DL
open PySem.W PySem.Calls
def fn0 : List He.DefD := [⟨("signs_among", none), "signs_among", "signs_among", defArgs s_signs_among, defBody s_signs_among, defScope s_signs_among, [], []⟩, ⟨("is_word", none), "is_word", "is_word", defArgs s_is_word, defBody s_is_word, defScope s_is_word, [], []⟩, ⟨("word_rows", none), "word_rows", "word_rows", defArgs s_word_rows, defBody s_word_rows, defScope s_word_rows, [], []⟩, ⟨("kind_written", none), "kind_written", "kind_written", defArgs s_kind_written, defBody s_kind_written, defScope s_kind_written, [], []⟩, ⟨("read_kinds", none), "read_kinds", "read_kinds", defArgs s_read_kinds, defBody s_read_kinds, defScope s_read_kinds, [], []⟩, ⟨("_law_mix", none), "_law_mix", "_law_mix", defArgs s_law_mix, defBody s_law_mix, defScope s_law_mix, [], []⟩, ⟨("_law_salt", none), "_law_salt", "_law_salt", defArgs s_law_salt, defBody s_law_salt, defScope s_law_salt, [], []⟩, ⟨("_law_name", none), "_law_name", "_law_name", defArgs s_law_name, defBody s_law_name, defScope s_law_name, [], []⟩, ⟨("_law_kinds", none), "_law_kinds", "_law_kinds", defArgs s_law_kinds, defBody s_law_kinds, defScope s_law_kinds, [], []⟩, ⟨("_law_text", none), "_law_text", "_law_text", defArgs s_law_text, defBody s_law_text, defScope s_law_text, [], []⟩, ⟨("_law_whole", none), "_law_whole", "_law_whole", defArgs s_law_whole, defBody s_law_whole, defScope s_law_whole, [], []⟩, ⟨("_law_odd_row", none), "_law_odd_row", "_law_odd_row", defArgs s_law_odd_row, defBody s_law_odd_row, defScope s_law_odd_row, [], []⟩]
def fn1 : List He.DefD := [⟨("_law_faulty", none), "_law_faulty", "_law_faulty", defArgs s_law_faulty, defBody s_law_faulty, defScope s_law_faulty, [], []⟩, ⟨("_law_due", none), "_law_due", "_law_due", defArgs s_law_due, defBody s_law_due, defScope s_law_due, [], []⟩, ⟨("_law_told", none), "_law_told", "_law_told", defArgs s_law_told, defBody s_law_told, defScope s_law_told, [], []⟩, ⟨("_law_right", none), "_law_right", "_law_right", defArgs s_law_right, defBody s_law_right, defScope s_law_right, [], []⟩, ⟨("law", none), "law", "law", defArgs s_law, defBody s_law, defScope s_law, [], []⟩]
def fn2 : List He.DefD := [⟨("BadRow", some "__init__"), "__init__", "BadRow.__init__", defArgs i_BadRow, defBody i_BadRow, defScope i_BadRow, [], []⟩, ⟨("NoKind", some "__init__"), "__init__", "NoKind.__init__", defArgs i_NoKind, defBody i_NoKind, defScope i_NoKind, [], []⟩, ⟨("TooBig", some "__init__"), "__init__", "TooBig.__init__", defArgs i_TooBig, defBody i_TooBig, defScope i_TooBig, [], []⟩, ⟨("Twice", some "__init__"), "__init__", "Twice.__init__", defArgs i_Twice, defBody i_Twice, defScope i_Twice, [], []⟩]
def fnA : List He.DefD := fn0 ++ fn1 ++ fn2
def fa0 : List He.Fa := [.glo "signs_among", .glo "is_word", .glo "word_rows", .glo "kind_written", .glo "read_kinds", .glo "_law_mix", .glo "_law_salt", .glo "_law_name", .glo "_law_kinds", .glo "_law_text", .glo "_law_whole", .glo "_law_odd_row", .glo "_law_faulty", .glo "_law_due", .glo "_law_told", .glo "_law_right", .glo "law", .free "ValueError", .free "bool", .free "enumerate", .free "int", .free "isinstance", .free "len", .free "min", .free "range", .free "sum", .glo "KEPT", .int "MOST_KINDS" 12, .int "MOST_SIGNS" 8, .str "SMALL" "abcdefghijklmnopqrstuvwxyz"]
def fa1 : List He.Fa := [.glo "BadRow", .glo "NoKind", .glo "TooBig", .glo "Twice", .glo "BadRow", .glo "ClaimError", .glo "NoChange", .glo "NoClaim", .glo "NoFit", .glo "NoGround", .glo "NoKind", .glo "NoPart", .glo "NoRange", .glo "NotOwn", .glo "NotUnder", .glo "TooBig", .glo "TooMany", .glo "Twice", .glo "TwoGrounds"]
def faA : List He.Fa := fa0 ++ fa1
def exA (K : PySem.W.Frag) : Bool := He.tupB K "KEPT" (kw_KEPT.map He.Dv.str) && oclsB K "BadRow" ["row"] && oclsB K "NoKind" ["claim", "row"] && oclsB K "TooBig" ["claim", "row"] && oclsB K "Twice" ["row"] && exmB K (.ref (He.ga K "ClaimError")) tm_ClaimError && isB K (.ref (He.ga K "BadRow")) ti_BadRow && isTB K [.ref (He.ga K "NoChange"), .ref (He.ga K "NoClaim"), .ref (He.ga K "NoFit"), .ref (He.ga K "NoGround"), .ref (He.ga K "NoPart"), .ref (He.ga K "NoRange"), .ref (He.ga K "NotOwn"), .ref (He.ga K "NotUnder"), .ref (He.ga K "TooMany"), .ref (He.ga K "TwoGrounds")] ti_NoChange_NoClaim_NoFit_NoGround_NoPart_NoRange_NotOwn_NotUnder_TooMany_TwoGrounds && isB K (.ref (He.ga K "NoKind")) ti_NoKind && isB K (.ref (He.ga K "TooBig")) ti_TooBig && isB K (.ref (He.ga K "Twice")) ti_Twice && isB K (.type "ValueError") ti_ValueError && fldB K "claim" xf_claim && fldB K "row" xf_row
abbrev R : PySem.W.OpenRow := PySem.W.OpenLaw.row PySem.Challenge.rw_claimwise_k03_kinds_refused
abbrev hk : PySem.W.Hook := hookN 4 faA fnA exA
def ob (s : PySem.W.SharedT) : Bool × He.AlD := obsN 4 faA fnA exA (HandSHeadRun.getT s)
theorem ob_eq (s : PySem.W.SharedT) : ob s = hk.obs s.abs := obsN_eq (HandSHeadRun.getT_eq s)
def nm0 : List PySem.Str := ["ClaimError", "BadRow", "Twice", "NoPart", "NoClaim", "NoKind", "TooBig", "NotUnder", "NoRange", "NoGround", "TwoGrounds", "TooMany", "NoFit", "NoChange", "NotOwn", "SMALL", "KEPT", "MOST_SIGNS", "signs_among", "is_word", "word_rows", "MOST_KINDS", "kind_written", "read_kinds", "_law_mix", "_law_salt", "_law_name", "_law_kinds", "_law_text", "_law_whole"]
def nm1 : List PySem.Str := ["_law_odd_row", "_law_faulty", "_law_due", "_law_told", "_law_right"]
def nmA : List PySem.Str := nm0 ++ nm1
theorem run (w : World) : HandSHeadRun.RunEq R (PySem.W.view R.prog [39]) hk ob 12000 nmA w := by
  intro os
  kernel_rfl
theorem ctx {K : PySem.W.Frag} {h : Heap} {mg : Str → Option Value} (X : K.In h) (G : h.Ns mainGlobals mg) (hex : exA K = true) (c : He.SaysD faA fnA K) : Ctx K mg where
  F_signs_among := c.def_ 0 (d := ⟨("signs_among", none), "signs_among", "signs_among", defArgs s_signs_among, defBody s_signs_among, defScope s_signs_among, [], []⟩) rfl
  g_signs_among := He.glo_ok X G (c.fact 0 (f := .glo "signs_among") rfl)
  F_is_word := c.def_ 1 (d := ⟨("is_word", none), "is_word", "is_word", defArgs s_is_word, defBody s_is_word, defScope s_is_word, [], []⟩) rfl
  g_is_word := He.glo_ok X G (c.fact 1 (f := .glo "is_word") rfl)
  F_word_rows := c.def_ 2 (d := ⟨("word_rows", none), "word_rows", "word_rows", defArgs s_word_rows, defBody s_word_rows, defScope s_word_rows, [], []⟩) rfl
  g_word_rows := He.glo_ok X G (c.fact 2 (f := .glo "word_rows") rfl)
  F_kind_written := c.def_ 3 (d := ⟨("kind_written", none), "kind_written", "kind_written", defArgs s_kind_written, defBody s_kind_written, defScope s_kind_written, [], []⟩) rfl
  g_kind_written := He.glo_ok X G (c.fact 3 (f := .glo "kind_written") rfl)
  F_read_kinds := c.def_ 4 (d := ⟨("read_kinds", none), "read_kinds", "read_kinds", defArgs s_read_kinds, defBody s_read_kinds, defScope s_read_kinds, [], []⟩) rfl
  g_read_kinds := He.glo_ok X G (c.fact 4 (f := .glo "read_kinds") rfl)
  F_law_mix := c.def_ 5 (d := ⟨("_law_mix", none), "_law_mix", "_law_mix", defArgs s_law_mix, defBody s_law_mix, defScope s_law_mix, [], []⟩) rfl
  g_law_mix := He.glo_ok X G (c.fact 5 (f := .glo "_law_mix") rfl)
  F_law_salt := c.def_ 6 (d := ⟨("_law_salt", none), "_law_salt", "_law_salt", defArgs s_law_salt, defBody s_law_salt, defScope s_law_salt, [], []⟩) rfl
  g_law_salt := He.glo_ok X G (c.fact 6 (f := .glo "_law_salt") rfl)
  F_law_name := c.def_ 7 (d := ⟨("_law_name", none), "_law_name", "_law_name", defArgs s_law_name, defBody s_law_name, defScope s_law_name, [], []⟩) rfl
  g_law_name := He.glo_ok X G (c.fact 7 (f := .glo "_law_name") rfl)
  F_law_kinds := c.def_ 8 (d := ⟨("_law_kinds", none), "_law_kinds", "_law_kinds", defArgs s_law_kinds, defBody s_law_kinds, defScope s_law_kinds, [], []⟩) rfl
  g_law_kinds := He.glo_ok X G (c.fact 8 (f := .glo "_law_kinds") rfl)
  F_law_text := c.def_ 9 (d := ⟨("_law_text", none), "_law_text", "_law_text", defArgs s_law_text, defBody s_law_text, defScope s_law_text, [], []⟩) rfl
  g_law_text := He.glo_ok X G (c.fact 9 (f := .glo "_law_text") rfl)
  F_law_whole := c.def_ 10 (d := ⟨("_law_whole", none), "_law_whole", "_law_whole", defArgs s_law_whole, defBody s_law_whole, defScope s_law_whole, [], []⟩) rfl
  g_law_whole := He.glo_ok X G (c.fact 10 (f := .glo "_law_whole") rfl)
  F_law_odd_row := c.def_ 11 (d := ⟨("_law_odd_row", none), "_law_odd_row", "_law_odd_row", defArgs s_law_odd_row, defBody s_law_odd_row, defScope s_law_odd_row, [], []⟩) rfl
  g_law_odd_row := He.glo_ok X G (c.fact 11 (f := .glo "_law_odd_row") rfl)
  F_law_faulty := c.def_ 12 (d := ⟨("_law_faulty", none), "_law_faulty", "_law_faulty", defArgs s_law_faulty, defBody s_law_faulty, defScope s_law_faulty, [], []⟩) rfl
  g_law_faulty := He.glo_ok X G (c.fact 12 (f := .glo "_law_faulty") rfl)
  F_law_due := c.def_ 13 (d := ⟨("_law_due", none), "_law_due", "_law_due", defArgs s_law_due, defBody s_law_due, defScope s_law_due, [], []⟩) rfl
  g_law_due := He.glo_ok X G (c.fact 13 (f := .glo "_law_due") rfl)
  F_law_told := c.def_ 14 (d := ⟨("_law_told", none), "_law_told", "_law_told", defArgs s_law_told, defBody s_law_told, defScope s_law_told, [], []⟩) rfl
  g_law_told := He.glo_ok X G (c.fact 14 (f := .glo "_law_told") rfl)
  F_law_right := c.def_ 15 (d := ⟨("_law_right", none), "_law_right", "_law_right", defArgs s_law_right, defBody s_law_right, defScope s_law_right, [], []⟩) rfl
  g_law_right := He.glo_ok X G (c.fact 15 (f := .glo "_law_right") rfl)
  F_law := c.def_ 16 (d := ⟨("law", none), "law", "law", defArgs s_law, defBody s_law, defScope s_law, [], []⟩) rfl
  g_law := He.glo_ok X G (c.fact 16 (f := .glo "law") rfl)
  b_ValueError := He.free_ok X G (c.fact 17 (f := .free "ValueError") rfl)
  b_bool := He.free_ok X G (c.fact 18 (f := .free "bool") rfl)
  b_enumerate := He.free_ok X G (c.fact 19 (f := .free "enumerate") rfl)
  b_int := He.free_ok X G (c.fact 20 (f := .free "int") rfl)
  b_isinstance := He.free_ok X G (c.fact 21 (f := .free "isinstance") rfl)
  b_len := He.free_ok X G (c.fact 22 (f := .free "len") rfl)
  b_min := He.free_ok X G (c.fact 23 (f := .free "min") rfl)
  b_range := He.free_ok X G (c.fact 24 (f := .free "range") rfl)
  b_sum := He.free_ok X G (c.fact 25 (f := .free "sum") rfl)
  c_KEPT := He.glo_ok X G (c.fact 26 (f := .glo "KEPT") rfl)
  k_KEPT := fun F => He.tupB_ok (He.ba (He.ba (He.ba (He.ba (He.ba (He.ba (He.ba (He.ba (He.ba (He.ba (He.ba (He.ba (He.ba hex).1).1).1).1).1).1).1).1).1).1).1).1).1 F
  c_MOST_KINDS := He.int_ok X G (c.fact 27 (f := .int "MOST_KINDS" 12) rfl)
  c_MOST_SIGNS := He.int_ok X G (c.fact 28 (f := .int "MOST_SIGNS" 8) rfl)
  c_SMALL := He.str_ok X G (c.fact 29 (f := .str "SMALL" "abcdefghijklmnopqrstuvwxyz") rfl)
  I_BadRow := c.def_ 17 (d := ⟨("BadRow", some "__init__"), "__init__", "BadRow.__init__", defArgs i_BadRow, defBody i_BadRow, defScope i_BadRow, [], []⟩) rfl
  O_BadRow := oclsB_ok (He.ba (He.ba (He.ba (He.ba (He.ba (He.ba (He.ba (He.ba (He.ba (He.ba (He.ba (He.ba (He.ba hex).1).1).1).1).1).1).1).1).1).1).1).1).2 (He.glo_ok X G (c.fact 30 (f := .glo "BadRow") rfl))
  I_NoKind := c.def_ 18 (d := ⟨("NoKind", some "__init__"), "__init__", "NoKind.__init__", defArgs i_NoKind, defBody i_NoKind, defScope i_NoKind, [], []⟩) rfl
  O_NoKind := oclsB_ok (He.ba (He.ba (He.ba (He.ba (He.ba (He.ba (He.ba (He.ba (He.ba (He.ba (He.ba (He.ba hex).1).1).1).1).1).1).1).1).1).1).1).2 (He.glo_ok X G (c.fact 31 (f := .glo "NoKind") rfl))
  I_TooBig := c.def_ 19 (d := ⟨("TooBig", some "__init__"), "__init__", "TooBig.__init__", defArgs i_TooBig, defBody i_TooBig, defScope i_TooBig, [], []⟩) rfl
  O_TooBig := oclsB_ok (He.ba (He.ba (He.ba (He.ba (He.ba (He.ba (He.ba (He.ba (He.ba (He.ba (He.ba hex).1).1).1).1).1).1).1).1).1).1).2 (He.glo_ok X G (c.fact 32 (f := .glo "TooBig") rfl))
  I_Twice := c.def_ 20 (d := ⟨("Twice", some "__init__"), "__init__", "Twice.__init__", defArgs i_Twice, defBody i_Twice, defScope i_Twice, [], []⟩) rfl
  O_Twice := oclsB_ok (He.ba (He.ba (He.ba (He.ba (He.ba (He.ba (He.ba (He.ba (He.ba (He.ba hex).1).1).1).1).1).1).1).1).1).2 (He.glo_ok X G (c.fact 33 (f := .glo "Twice") rfl))
  g_BadRow := He.glo_ok X G (c.fact 34 (f := .glo "BadRow") rfl)
  g_ClaimError := He.glo_ok X G (c.fact 35 (f := .glo "ClaimError") rfl)
  g_NoChange := He.glo_ok X G (c.fact 36 (f := .glo "NoChange") rfl)
  g_NoClaim := He.glo_ok X G (c.fact 37 (f := .glo "NoClaim") rfl)
  g_NoFit := He.glo_ok X G (c.fact 38 (f := .glo "NoFit") rfl)
  g_NoGround := He.glo_ok X G (c.fact 39 (f := .glo "NoGround") rfl)
  g_NoKind := He.glo_ok X G (c.fact 40 (f := .glo "NoKind") rfl)
  g_NoPart := He.glo_ok X G (c.fact 41 (f := .glo "NoPart") rfl)
  g_NoRange := He.glo_ok X G (c.fact 42 (f := .glo "NoRange") rfl)
  g_NotOwn := He.glo_ok X G (c.fact 43 (f := .glo "NotOwn") rfl)
  g_NotUnder := He.glo_ok X G (c.fact 44 (f := .glo "NotUnder") rfl)
  g_TooBig := He.glo_ok X G (c.fact 45 (f := .glo "TooBig") rfl)
  g_TooMany := He.glo_ok X G (c.fact 46 (f := .glo "TooMany") rfl)
  g_Twice := He.glo_ok X G (c.fact 47 (f := .glo "Twice") rfl)
  g_TwoGrounds := He.glo_ok X G (c.fact 48 (f := .glo "TwoGrounds") rfl)
  m_ClaimError := exmB_ok (He.ba (He.ba (He.ba (He.ba (He.ba (He.ba (He.ba (He.ba (He.ba hex).1).1).1).1).1).1).1).1).2
  k_BadRow := isB_ok (He.ba (He.ba (He.ba (He.ba (He.ba (He.ba (He.ba (He.ba hex).1).1).1).1).1).1).1).2
  k_NoChange_NoClaim_NoFit_NoGround_NoPart_NoRange_NotOwn_NotUnder_TooMany_TwoGrounds := isTB_ok (He.ba (He.ba (He.ba (He.ba (He.ba (He.ba (He.ba hex).1).1).1).1).1).1).2
  k_NoKind := isB_ok (He.ba (He.ba (He.ba (He.ba (He.ba (He.ba hex).1).1).1).1).1).2
  k_TooBig := isB_ok (He.ba (He.ba (He.ba (He.ba (He.ba hex).1).1).1).1).2
  k_Twice := isB_ok (He.ba (He.ba (He.ba (He.ba hex).1).1).1).2
  k_ValueError := isB_ok (He.ba (He.ba (He.ba hex).1).1).2
  f_claim := fldB_ok (He.ba (He.ba hex).1).2
  f_row := fldB_ok (He.ba hex).2
theorem holds (T : ∀ ns : List Int, ns.length ≤ 63 → d_law [.list (ns.map PyData.int)] = .rt (.d (.bool true))) : PySem.Challenge.rw_claimwise_k03_kinds_refused.Holds := by
  w_on; o_law
  refine HandSHeadRun.head_any (r := R) (q := PySem.W.view R.prog [39]) (H := hk) (ob := ob) (M := 12000) (loose := nmA) (d := HandSHeadRun.topDef R.prog 39) (kwd := []) ob_eq
    (by kernel_rfl) (fun s => by kernel_rfl) run (by kernel_rfl) (by kernel_rfl) (by kernel_rfl) (by rfl) (by first | assumption | decide +kernel) (by decide +kernel) ⟨rfl, rfl, rfl, rfl, rfl, by decide +kernel⟩ ?hw ?hc
  case hw => w_witness2
  case hc =>
    refine law_end (l := PySem.Challenge.rw_claimwise_k03_kinds_refused) (n := 4) (k := 6) (fa := faA) (fn := fnA) (ex := exA) (x := "_law_script") (f := d_law) rfl rfl (by kernel_rfl) ⟨rfl, by decide, by decide⟩ (by kernel_rfl) ?F T
    intro w K h mg KX G hex c
    have C := ctx KX G hex c
    obtain ⟨fd, FD⟩ := C.F_law
    refine ⟨fd, fun s u => FunD.bindsA (ps := ["_law_script"]) FD (fun _ _ _ _ _ _ us hl => match us, hl with | [_], _ => rfl) s [u] rfl, C.g_law, fun base _ _ => fn_law FD C⟩
end K03
theorem PySem.Challenge.cw_claimwise_k03_kinds_refused_holds : PySem.Challenge.rw_claimwise_k03_kinds_refused.Holds :=
  K03.holds K03.law_ok
