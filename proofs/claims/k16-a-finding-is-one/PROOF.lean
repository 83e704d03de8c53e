import PyProof.Rows.All
import Wide.All
import OpenK.AllK
import Wide.FinOn
import PyProof.EqAt
import PyProof.EqKinds
import PyProof.TupleCall
import HandS.Base
import HandS.Call
import HandS.List
import HandS.Comp
import HandS.Ends
import HandS.Dict
import HandS.Iter
import HandS.Text
import HandS.Exc
import HandS.TryOnly
import HandS.ExcOwn
import HandS.Words
import HandS.WordsList
import HandS.WordsDict
import HandS.WordsExc
import HandS.Defaults
import HandS.HeadHook1
import HandS.IsInst
import HandS.TupAny
import HandS.Deep
import HandS.Wide
import HandS.HeadEnd
import HandS.Head0
import HandS.Head1
import HandS.Head2
import HandS.HeadHook2
import HandS.Replace
import HandS.More
import KE.IntTextLaws
import HandS.ExcInit
import HandS.ExcField
import HandS.ExcIs
import KE.KExcIs
import KE.KIsAll
import HandS.SortOrd
import HandS.SortRule
import HandS.SortInts
import HandS.Conv
import HandS.ListItems
import HandS.DictTup
import HandS.Zip
import HandS.RevTup
import HandS.Rev
import HandS.RevRange
import HandS.Codes
import PySem.Challenge.RW_claimwise_k16_a_finding_is_one
set_option Elab.async false
set_option linter.all false
set_option maxHeartbeats 4000000
set_option maxRecDepth 100000
/-! Value semantics over the hand layer: data, frozen heaps, owned lists and dicts; readings of expressions and statements as plain functions. -/
namespace DL
open PySem PySem.Spec PyProof.Rows L2

abbrev PD := PyData
/-- an exception: its class's name, its fields -/
structure Ec where
  cls : Str
  fs : List (Str × V)
/-- what a piece of code hands on -/
inductive R (α : Type) where
  | ok (a : α)
  | exc (c : Ec)
  | bad
def R.bind {α β : Type} : R α → (α → R β) → R β
  | .ok a, f => f a
  | .exc c, _ => .exc c
  | .bad, _ => .bad
theorem R.bind_ok {α β : Type} (a : α) (f : α → R β) : (R.ok a).bind f = f a := rfl
theorem R.bind_exc {α β : Type} (c : Ec) (f : α → R β) : (R.exc c).bind f = .exc c := rfl
theorem R.bind_bad {α β : Type} (f : α → R β) : (R.bad : R α).bind f = .bad := rfl

/-! ### heaps -/
/-- a tuple never changes: it may be frozen at any time -/
def tupO (o : HO) : Prop := ((∃ xs, o = .tup xs) ∨ ∃ xs, o = .xd xs) ∨ ∃ ob xs, o = .frz ob (.tup xs)
structure Ext (F H F' H' : Hp) : Prop where
  f : Same F F'
  g : Same F' H'
  h : Same H H'
  n : ∀ p, F' p ≠ none → F p ≠ none ∨ H p = none ∨ ∃ o, H p = some o ∧ tupO o
theorem Ext.refl {F H : Hp} (s : Same F H) : Ext F H F H := ⟨Same.refl F, s, Same.refl H, fun _ h => .inl h⟩
theorem Ext.trans {F H F1 H1 F2 H2 : Hp} (a : Ext F H F1 H1) (b : Ext F1 H1 F2 H2) : Ext F H F2 H2 := by
  refine ⟨a.f.trans b.f, b.g, a.h.trans b.h, fun p hp => ?_⟩
  rcases b.n p hp with q | q | ⟨o, q, t⟩
  · exact a.n p q
  · exact .inr (.inl (a.h.free q))
  · cases e : H p with
    | none => exact .inr (.inl rfl)
    | some u =>
      have := a.h p u e
      rw [q] at this
      cases this
      exact .inr (.inr ⟨_, rfl, t⟩)
theorem Ext.base {F0 H0 F H F' H' : Hp} (a : Ext F0 H0 F H) (b : Ext F H0 F' H') : Ext F0 H0 F' H' :=
  ⟨a.f.trans b.f, b.g, b.h, fun p hp => (b.n p hp).elim (fun q => a.n p q) .inr⟩
theorem Ext.keep {F H F' H' : Hp} (e : Ext F H F' H') {p : Addr} {o : HO} (hf : F p = none) (ho : H p = some o) (hn : ¬ tupO o) : F' p = none := by
  cases q : F' p with
  | none => rfl
  | some u =>
    rcases e.n p (by rw [q]; exact Option.some_ne_none u) with z | z | ⟨o', z, t⟩
    · exact absurd hf z
    · rw [ho] at z; cases z
    · rw [ho] at z; cases z; exact absurd t hn
theorem nt_lst {xs : List V} : ¬ tupO (.lst xs) := by
  rintro ((⟨_, h⟩ | ⟨_, h⟩) | ⟨_, _, h⟩) <;> cases h
theorem nt_dK {xs : List (Key × V)} : ¬ tupO (.dK xs) := by
  rintro ((⟨_, h⟩ | ⟨_, h⟩) | ⟨_, _, h⟩) <;> cases h
theorem nt_dT {xs : List (List Key × V)} : ¬ tupO (.dT xs) := by
  rintro ((⟨_, h⟩ | ⟨_, h⟩) | ⟨_, _, h⟩) <;> cases h
theorem nt_frzd {o : Obj} {xs : List (Key × V)} : ¬ tupO (.frz o (.dK xs)) := by
  rintro ((⟨_, h⟩ | ⟨_, h⟩) | ⟨_, _, h⟩) <;> cases h
/-- a new object, frozen -/
theorem Ext.new {F H : Hp} {p : Addr} {o : HO} (s : Same F H) (h : H p = none) : Ext F H (upd F p o) (upd H p o) := by
  have hf : F p = none := s.free h
  refine ⟨fun b u e => ?_, fun b u e => ?_, fun b u e => ?_, fun b e => ?_⟩
  · rw [upd_ne (ne_of_none e hf)]; exact e
  · by_cases hb : b = p
    · subst hb; rw [upd_same] at e ⊢; exact e
    · rw [upd_ne hb] at e ⊢; exact s b u e
  · rw [upd_ne (ne_of_none e h)]; exact e
  · by_cases hb : b = p
    · subst hb; exact .inr (.inl h)
    · rw [upd_ne hb] at e; exact .inl e
/-- a new object, not frozen -/
theorem Ext.own {F H : Hp} {p : Addr} {o : HO} (s : Same F H) (h : H p = none) : Ext F H F (upd H p o) := by
  have hf : F p = none := s.free h
  refine ⟨Same.refl F, fun b u e => ?_, fun b u e => ?_, fun b e => .inl e⟩
  · rw [upd_ne (ne_of_none e hf)]; exact s b u e
  · rw [upd_ne (ne_of_none e h)]; exact e
/-- only H grows -/
theorem Ext.heap {F H H' : Hp} (s : Same F H) (h : Same H H') : Ext F H F H' := ⟨Same.refl F, s.trans h, h, fun _ e => .inl e⟩
theorem seqL {K : PySem.W.Frag} {H H' : Hp} {a : Addr} {xs : List V} (e : Same H H') (h : SqL K H a xs) : SqL K H' a xs := e.seq h
theorem seqT {K : PySem.W.Frag} {H H' : Hp} {a : Addr} {xs : List V} (e : Same H H') (h : SqT K H a xs) : SqT K H' a xs := by
  rcases h with (h | ⟨o, h⟩) | h
  · exact .inl (.inl (e _ _ h))
  · exact .inl (.inr ⟨o, e _ _ h⟩)
  · exact .inr h
theorem rdM {H H' : Hp} {a : Addr} {u : HO} (e : Same H H') (h : Rd H a u) : Rd H' a u := by
  rcases h with h | ⟨o, h⟩
  · exact .inl (e _ _ h)
  · exact .inr ⟨o, e _ _ h⟩
/-! ### data in a heap: lists that the heap tracks (or that are known), tuples -/
mutual
inductive Dp (K : PySem.W.Frag) (F : Hp) : V → PyData → Prop
  | non : Dp K F .non .none
  | bl (b : Bool) : Dp K F (.bl b) (.bool b)
  | int (i : Int) : Dp K F (.int i) (.int i)
  | str (x : Str) : Dp K F (.str x) (.str x)
  | lst {a : Addr} {xs : List V} {ds : List PyData} : Rd F a (.lst xs) → DpAll K F xs ds → Dp K F (.ref a) (.list ds)
  | tup {a : Addr} {xs : List V} {ds : List PyData} : F a = some (.tup xs) → DpAll K F xs ds → Dp K F (.ref a) (.tuple ds)
inductive DpAll (K : PySem.W.Frag) (F : Hp) : List V → List PyData → Prop
  | nil : DpAll K F [] []
  | cons {v : V} {vs : List V} {d : PyData} {ds : List PyData} : Dp K F v d → DpAll K F vs ds → DpAll K F (v :: vs) (d :: ds)
end
mutual
theorem Dp.mono {K : PySem.W.Frag} {H H' : Hp} (e : Same H H') : ∀ {v : V} {d : PyData}, Dp K H v d → Dp K H' v d
  | _, _, .non => .non
  | _, _, .bl b => .bl b
  | _, _, .int i => .int i
  | _, _, .str x => .str x
  | _, _, .lst s a => .lst (rdM e s) (DpAll.mono e a)
  | _, _, .tup s a => .tup (e _ _ s) (DpAll.mono e a)
theorem DpAll.mono {K : PySem.W.Frag} {H H' : Hp} (e : Same H H') : ∀ {vs : List V} {ds : List PyData}, DpAll K H vs ds → DpAll K H' vs ds
  | _, _, .nil => .nil
  | _, _, .cons h t => .cons (Dp.mono e h) (DpAll.mono e t)
end
mutual
theorem Dp.l2 {K : PySem.W.Frag} {H : Hp} : ∀ {v : V} {d : PyData}, Dp K H v d → L2.Dp K H v d
  | _, _, .non => .non
  | _, _, .bl b => .bl b
  | _, _, .int i => .int i
  | _, _, .str x => .str x
  | _, _, .lst s a => .lst (.inl s) (DpAll.l2 a)
  | _, _, .tup s a => .tup (SqT.of s) (DpAll.l2 a)
theorem DpAll.l2 {K : PySem.W.Frag} {H : Hp} : ∀ {vs : List V} {ds : List PyData}, DpAll K H vs ds → L2.DpAll K H vs ds
  | _, _, .nil => .nil
  | _, _, .cons h t => .cons (Dp.l2 h) (DpAll.l2 t)
end
section
variable {K : PySem.W.Frag} {F H : Hp}
theorem DpAll.length : ∀ {vs : List V} {ds : List PyData}, DpAll K H vs ds → vs.length = ds.length
  | _, _, .nil => rfl
  | _, _, .cons _ t => by rw [List.length_cons, List.length_cons, t.length]
theorem DpAll.append : ∀ {vs us : List V} {ds es : List PyData}, DpAll K H vs ds → DpAll K H us es → DpAll K H (vs ++ us) (ds ++ es)
  | _, _, _, _, .nil, u => u
  | _, _, _, _, .cons h t, u => .cons h (DpAll.append t u)
theorem DpAll.get : ∀ {vs : List V} {ds : List PyData} {i : Nat} {v : V}, DpAll K H vs ds → vs[i]? = some v → ∃ d, ds[i]? = some d ∧ Dp K H v d
  | _, _, _, _, .nil, e => by simp at e
  | _, _, 0, _, .cons h _, e => by simp at e; subst e; exact ⟨_, rfl, h⟩
  | _, _, i + 1, v, .cons _ t, e => by
    obtain ⟨d, h1, h2⟩ := DpAll.get (i := i) (v := v) t (by simpa using e)
    exact ⟨d, by simpa using h1, h2⟩
theorem DpAll.get' : ∀ {vs : List V} {ds : List PyData} {i : Nat} {d : PyData}, DpAll K H vs ds → ds[i]? = some d → ∃ v, vs[i]? = some v ∧ Dp K H v d
  | _, _, _, _, .nil, e => by simp at e
  | _, _, 0, _, .cons h _, e => by simp at e; subst e; exact ⟨_, rfl, h⟩
  | _, _, i + 1, d, .cons _ t, e => by
    obtain ⟨v, h1, h2⟩ := DpAll.get' (i := i) (d := d) t (by simpa using e)
    exact ⟨v, by simpa using h1, h2⟩
theorem DpAll.set : ∀ {vs : List V} {ds : List PyData} {v : V} {d : PyData} (i : Nat), DpAll K H vs ds → Dp K H v d → DpAll K H (vs.set i v) (ds.set i d)
  | _, _, _, _, _, .nil, _ => .nil
  | _, _, _, _, 0, .cons _ t, h => .cons h t
  | _, _, _, _, i + 1, .cons q t, h => .cons q (DpAll.set i t h)
theorem DpAll.take : ∀ {vs : List V} {ds : List PyData} (n : Nat), DpAll K H vs ds → DpAll K H (vs.take n) (ds.take n)
  | _, _, 0, _ => .nil
  | _, _, _ + 1, .nil => .nil
  | _, _, n + 1, .cons r t => .cons r (DpAll.take n t)
theorem DpAll.drop : ∀ {vs : List V} {ds : List PyData} (n : Nat), DpAll K H vs ds → DpAll K H (vs.drop n) (ds.drop n)
  | _, _, 0, r => r
  | _, _, _ + 1, .nil => .nil
  | _, _, n + 1, .cons _ t => DpAll.drop n t
theorem DpAll.ints : ∀ {ns : List Int}, DpAll K H (ns.map V.int) (ns.map PyData.int)
  | [] => .nil
  | _ :: _ => .cons (.int _) DpAll.ints
theorem DpAll.of_ints : ∀ {vs : List V} {ns : List Int}, DpAll K H vs (ns.map PyData.int) → vs = ns.map V.int
  | _, [], h => by cases h; rfl
  | _, n :: ns, h => by
    cases h with
    | cons a b => cases a; rw [DpAll.of_ints b]; rfl
theorem DpAll.of_strs : ∀ {vs : List V} {ns : List Str}, DpAll K H vs (ns.map PyData.str) → vs = ns.map V.str
  | _, [], h => by cases h; rfl
  | _, n :: ns, h => by
    cases h with
    | cons a b => cases a; rw [DpAll.of_strs b]; rfl
theorem DpAll.strs : ∀ {ns : List Str}, DpAll K H (ns.map V.str) (ns.map PyData.str)
  | [] => .nil
  | _ :: _ => .cons (.str _) DpAll.strs
theorem DpAll.of_bls : ∀ {vs : List V} {ns : List Bool}, DpAll K H vs (ns.map PyData.bool) → vs = ns.map V.bl
  | _, [], h => by cases h; rfl
  | _, n :: ns, h => by
    cases h with
    | cons a b => cases a; rw [DpAll.of_bls b]; rfl
end

/-! ### owned lists and dicts -/
def keyD : Key → PD
  | .inl i => .int i
  | .inr s => .str s
def keyT (ks : List Key) : PD := .tuple (ks.map keyD)
/-- entries of a dict -/
inductive KvR (K : PySem.W.Frag) (F : Hp) {κ : Type} (kd : κ → PD) : List (κ × V) → List (PD × PD) → Prop
  | nil : KvR K F kd [] []
  | cons {k : κ} {v : V} {d : PD} {es : List (κ × V)} {kvs : List (PD × PD)} : Dp K F v d → KvR K F kd es kvs → KvR K F kd ((k, v) :: es) ((kd k, d) :: kvs)
theorem KvR.mono {K : PySem.W.Frag} {F F' : Hp} {κ : Type} {kd : κ → PD} (e : Same F F') : ∀ {es : List (κ × V)} {kvs : List (PD × PD)}, KvR K F kd es kvs → KvR K F' kd es kvs
  | _, _, .nil => .nil
  | _, _, .cons h t => .cons (h.mono e) (t.mono e)
def DicAt (K : PySem.W.Frag) (F H : Hp) (p : Addr) (kvs : List (PD × PD)) : Prop :=
  ∃ es, H p = some (.dK es) ∧ KvR K F keyD es kvs
def OwnAt (K : PySem.W.Frag) (F H : Hp) (p : Addr) : PD → Prop
  | .list ds => ∃ vs, H p = some (.lst vs) ∧ DpAll K F vs ds
  | .dict kvs => DicAt K F H p kvs
  | _ => False
theorem OwnAt.mono {K : PySem.W.Frag} {F H F' H' : Hp} {p : Addr} {d : PD} (e : Same F F') (g : ∀ o, H p = some o → H' p = some o) (h : OwnAt K F H p d) : OwnAt K F' H' p d := by
  cases d with
  | list ds => obtain ⟨vs, a, b⟩ := h; exact ⟨vs, g _ a, b.mono e⟩
  | dict kvs =>
    obtain ⟨es, a, b⟩ := h
    exact ⟨es, g _ a, b.mono e⟩
  | _ => exact h.elim
theorem OwnAt.nt {K : PySem.W.Frag} {F H : Hp} {p : Addr} {d : PD} (h : OwnAt K F H p d) : ∃ o, H p = Option.some o ∧ ¬ tupO o := by
  cases d with
  | list ds => obtain ⟨vs, a, b⟩ := h; exact ⟨_, a, nt_lst⟩
  | dict kvs =>
    obtain ⟨es, a, b⟩ := h
    exact ⟨_, a, nt_dK⟩
  | _ => exact h.elim
theorem OwnAt.some {K : PySem.W.Frag} {F H : Hp} {p : Addr} {d : PD} (h : OwnAt K F H p d) : ∃ o, H p = some o := by
  cases d with
  | list ds => obtain ⟨vs, a, b⟩ := h; exact ⟨_, a⟩
  | dict kvs =>
    obtain ⟨es, a, b⟩ := h
    exact ⟨_, a⟩
  | _ => exact h.elim
/-- what may be read as data -/
def Rp (K : PySem.W.Frag) (F H : Hp) (v : V) (d : PD) : Prop := Dp K F v d ∨ ∃ p, v = .ref p ∧ OwnAt K F H p d
theorem Rp.ext {K : PySem.W.Frag} {F H F' H' : Hp} {v : V} {d : PD} (e : Same F F') (g : Same H H') : Rp K F H v d → Rp K F' H' v d
  | .inl h => .inl (h.mono e)
  | .inr ⟨p, a, h⟩ => .inr ⟨p, a, h.mono e fun o q => g p o q⟩
theorem Rp.dp {K : PySem.W.Frag} {F H : Hp} {v : V} {d : PD} (s : Same F H) (h : Rp K F H v d) (hd : ∀ kvs, d ≠ .dict kvs) : Dp K H v d := by
  rcases h with h | ⟨p, rfl, h⟩
  · exact h.mono s
  · cases d with
    | list ds => obtain ⟨vs, a, b⟩ := h; exact .lst (.inl a) (b.mono s)
    | dict kvs => exact absurd rfl (hd kvs)
    | _ => exact h.elim
/-- a list that may be read: its items are frozen -/
theorem Rp.list {K : PySem.W.Frag} {F H : Hp} {v : V} {ds : List PD} (s : Same F H) (h : Rp K F H v (.list ds)) : ∃ a vs, v = .ref a ∧ Rd H a (.lst vs) ∧ DpAll K F vs ds := by
  rcases h with h | ⟨p, rfl, vs, a, b⟩
  · cases h with
    | lst q r => exact ⟨_, _, rfl, rdM s q, r⟩
  · exact ⟨p, vs, rfl, .inl a, b⟩
theorem Rp.tuple {K : PySem.W.Frag} {F H : Hp} {v : V} {ds : List PD} (s : Same F H) (h : Rp K F H v (.tuple ds)) : ∃ a vs, v = .ref a ∧ SqT K H a vs ∧ DpAll K F vs ds := by
  rcases h with h | ⟨p, rfl, h⟩
  · cases h with
    | tup q r => exact ⟨_, _, rfl, SqT.of (s _ _ q), r⟩
  · exact h.elim
theorem Rp.int {K : PySem.W.Frag} {F H : Hp} {v : V} {i : Int} (h : Rp K F H v (.int i)) : v = .int i := by
  rcases h with h | ⟨p, rfl, h⟩
  · cases h; rfl
  · exact h.elim
theorem Rp.str {K : PySem.W.Frag} {F H : Hp} {v : V} {i : Str} (h : Rp K F H v (.str i)) : v = .str i := by
  rcases h with h | ⟨p, rfl, h⟩
  · cases h; rfl
  · exact h.elim
theorem Rp.bool {K : PySem.W.Frag} {F H : Hp} {v : V} {i : Bool} (h : Rp K F H v (.bool i)) : v = .bl i := by
  rcases h with h | ⟨p, rfl, h⟩
  · cases h; rfl
  · exact h.elim
theorem Rp.none {K : PySem.W.Frag} {F H : Hp} {v : V} (h : Rp K F H v .none) : v = .non := by
  rcases h with h | ⟨p, rfl, h⟩
  · cases h; rfl
  · exact h.elim
inductive RpAll (K : PySem.W.Frag) (F H : Hp) : List V → List PD → Prop
  | nil : RpAll K F H [] []
  | cons {v : V} {vs : List V} {d : PD} {ds : List PD} : Rp K F H v d → RpAll K F H vs ds → RpAll K F H (v :: vs) (d :: ds)
theorem RpAll.length {K : PySem.W.Frag} {F H : Hp} : ∀ {vs : List V} {ds : List PD}, RpAll K F H vs ds → vs.length = ds.length
  | _, _, .nil => rfl
  | _, _, .cons _ t => by rw [List.length_cons, List.length_cons, t.length]

/-! ### trees: what is one's own and may be changed -/
inductive Tv where
  | fr (d : PD)
  | own (x : PD)
  | dT (kvs : List (List Key × PD))
  | lst (ts : List Tv)
  | tup (ts : List Tv)
def KvT (K : PySem.W.Frag) (F : Hp) : List (List Key × V) → List (List Key × PD) → Prop := Paired fun p q => p.1 = q.1 ∧ Dp K F p.2 q.2
theorem KvT.mono {K : PySem.W.Frag} {F F' : Hp} (e : Same F F') {es : List (List Key × V)} {kvs : List (List Key × PD)} (h : KvT K F es kvs) : KvT K F' es kvs := by
  unfold KvT at h ⊢
  induction h with
  | nil => exact .nil
  | cons a _ ih => exact .cons ⟨a.1, a.2.mono e⟩ ih
mutual
inductive TvAt (K : PySem.W.Frag) (F H : Hp) : List Addr → V → Tv → Prop
  | fr {v : V} {d : PD} : Dp K F v d → TvAt K F H [] v (.fr d)
  | own {p : Addr} {x : PD} : OwnAt K F H p x → TvAt K F H [p] (.ref p) (.own x)
  | dT {p : Addr} {es : List (List Key × V)} {kvs : List (List Key × PD)} : H p = some (.dT es) → KvT K F es kvs → TvAt K F H [p] (.ref p) (.dT kvs)
  | lst {p : Addr} {vs : List V} {fp : List Addr} {ts : List Tv} : H p = some (.lst vs) → TvAll K F H fp vs ts → TvAt K F H (p :: fp) (.ref p) (.lst ts)
  | tup {p : Addr} {vs : List V} {fp : List Addr} {ts : List Tv} : H p = some (.tup vs) → TvAll K F H fp vs ts → TvAt K F H fp (.ref p) (.tup ts)
inductive TvAll (K : PySem.W.Frag) (F H : Hp) : List Addr → List V → List Tv → Prop
  | nil : TvAll K F H [] [] []
  | cons {fp fq : List Addr} {v : V} {t : Tv} {vs : List V} {ts : List Tv} : TvAt K F H fp v t → TvAll K F H fq vs ts → TvAll K F H (fp ++ fq) (v :: vs) (t :: ts)
end
/-- H' has what H has at the addresses fp, and its tuples -/
def KeepOn (fp : List Addr) (H H' : Hp) : Prop := ∀ p o, H p = some o → (p ∈ fp ∨ tupO o) → H' p = some o
theorem KeepOn.sub {fp fq : List Addr} {H H' : Hp} (h : KeepOn fp H H') (s : ∀ p ∈ fq, p ∈ fp) : KeepOn fq H H' := fun p o e c => h p o e (c.imp (s p) id)
theorem KeepOn.same {fp : List Addr} {H H' : Hp} (h : Same H H') : KeepOn fp H H' := fun p o e _ => h p o e
theorem KeepOn.tup {fp : List Addr} {H H' : Hp} (h : KeepOn fp H H') {p : Addr} {vs : List V} (s : H p = some (.tup vs)) : H' p = some (.tup vs) :=
  h _ _ s (.inr (.inl (.inl ⟨_, rfl⟩)))
theorem OwnAt.keep {K : PySem.W.Frag} {F H F' H' : Hp} {p : Addr} {d : PD} (e : Same F F') (g : KeepOn [p] H H') (h : OwnAt K F H p d) : OwnAt K F' H' p d := by
  cases d with
  | list ds => obtain ⟨vs, a, b⟩ := h; exact ⟨vs, g _ _ a (.inl (by simp)), b.mono e⟩
  | dict kvs => obtain ⟨es, a, b⟩ := h; exact ⟨es, g _ _ a (.inl (by simp)), b.mono e⟩
  | _ => exact h.elim
mutual
theorem TvAt.keep {K : PySem.W.Frag} {F H F' H' : Hp} (e : Same F F') : ∀ {fp : List Addr} {v : V} {t : Tv}, KeepOn fp H H' → TvAt K F H fp v t → TvAt K F' H' fp v t
  | _, _, _, _, .fr h => .fr (h.mono e)
  | _, _, _, g, .own h => .own (h.keep e g)
  | _, _, _, g, .dT h k => .dT (g _ _ h (.inl (by simp))) (k.mono e)
  | _, _, _, g, .lst h k => .lst (g _ _ h (.inl (by simp))) (TvAll.keep e (g.sub fun p hp => List.mem_cons_of_mem _ hp) k)
  | _, _, _, g, .tup h k => .tup (g.tup h) (TvAll.keep e g k)
theorem TvAll.keep {K : PySem.W.Frag} {F H F' H' : Hp} (e : Same F F') : ∀ {fp : List Addr} {vs : List V} {ts : List Tv}, KeepOn fp H H' → TvAll K F H fp vs ts → TvAll K F' H' fp vs ts
  | _, _, _, _, .nil => .nil
  | _, _, _, g, .cons h k => .cons (TvAt.keep e (g.sub fun p hp => List.mem_append_left _ hp) h) (TvAll.keep e (g.sub fun p hp => List.mem_append_right _ hp) k)
end
mutual
theorem TvAt.nt {K : PySem.W.Frag} {F H : Hp} : ∀ {fp : List Addr} {v : V} {t : Tv}, TvAt K F H fp v t → ∀ p ∈ fp, ∃ o, H p = some o ∧ ¬ tupO o
  | _, _, _, .fr _, p, hp => by cases hp
  | _, _, _, .own h, p, hp => by rw [List.mem_singleton.mp hp]; exact h.nt
  | _, _, _, .dT h _, p, hp => by rw [List.mem_singleton.mp hp]; exact ⟨_, h, nt_dT⟩
  | _, _, _, .lst h k, p, hp => by
    rcases List.mem_cons.mp hp with e | e
    · rw [e]; exact ⟨_, h, nt_lst⟩
    · exact TvAll.nt k p e
  | _, _, _, .tup _ k, p, hp => TvAll.nt k p hp
theorem TvAll.nt {K : PySem.W.Frag} {F H : Hp} : ∀ {fp : List Addr} {vs : List V} {ts : List Tv}, TvAll K F H fp vs ts → ∀ p ∈ fp, ∃ o, H p = some o ∧ ¬ tupO o
  | _, _, _, .nil, p, hp => by cases hp
  | _, _, _, .cons h k, p, hp => by
    rcases List.mem_append.mp hp with e | e
    · exact TvAt.nt h p e
    · exact TvAll.nt k p e
end
section
variable {K : PySem.W.Frag} {F F' : Hp} (e : ∀ (v : V) (d : PD), Dp K F v d → Dp K F' v d)
include e
theorem DpAll.map : ∀ {vs : List V} {ds : List PD}, DpAll K F vs ds → DpAll K F' vs ds
  | _, _, .nil => .nil
  | _, _, .cons h t => .cons (e _ _ h) (DpAll.map t)
theorem KvR.map {κ : Type} {kd : κ → PD} : ∀ {es : List (κ × V)} {kvs : List (PD × PD)}, KvR K F kd es kvs → KvR K F' kd es kvs
  | _, _, .nil => .nil
  | _, _, .cons h t => .cons (e _ _ h) (KvR.map t)
theorem KvT.map {es : List (List Key × V)} {kvs : List (List Key × PD)} (h : KvT K F es kvs) : KvT K F' es kvs := by
  unfold KvT at h ⊢
  induction h with
  | nil => exact .nil
  | cons a _ ih => exact .cons ⟨a.1, e _ _ a.2⟩ ih
theorem OwnAt.map {H H' : Hp} {p : Addr} {d : PD} (g : KeepOn [p] H H') (h : OwnAt K F H p d) : OwnAt K F' H' p d := by
  cases d with
  | list ds => obtain ⟨vs, a, b⟩ := h; exact ⟨vs, g _ _ a (.inl (by simp)), b.map e⟩
  | dict kvs => obtain ⟨es, a, b⟩ := h; exact ⟨es, g _ _ a (.inl (by simp)), b.map e⟩
  | _ => exact h.elim
mutual
theorem TvAt.map {H H' : Hp} : ∀ {fp : List Addr} {v : V} {t : Tv}, KeepOn fp H H' → TvAt K F H fp v t → TvAt K F' H' fp v t
  | _, _, _, _, .fr h => .fr (e _ _ h)
  | _, _, _, g, .own h => .own (h.map e g)
  | _, _, _, g, .dT h k => .dT (g _ _ h (.inl (by simp))) (k.map e)
  | _, _, _, g, .lst h k => .lst (g _ _ h (.inl (by simp))) (TvAll.map (g.sub fun p hp => List.mem_cons_of_mem _ hp) k)
  | _, _, _, g, .tup h k => .tup (g.tup h) (TvAll.map g k)
theorem TvAll.map {H H' : Hp} : ∀ {fp : List Addr} {vs : List V} {ts : List Tv}, KeepOn fp H H' → TvAll K F H fp vs ts → TvAll K F' H' fp vs ts
  | _, _, _, _, .nil => .nil
  | _, _, _, g, .cons h k => .cons (TvAt.map (g.sub fun p hp => List.mem_append_left _ hp) h) (TvAll.map (g.sub fun p hp => List.mem_append_right _ hp) k)
end
end
theorem TvAll.length {K : PySem.W.Frag} {F H : Hp} : ∀ {fp : List Addr} {vs : List V} {ts : List Tv}, TvAll K F H fp vs ts → vs.length = ts.length
  | _, _, _, .nil => rfl
  | _, _, _, .cons _ k => by rw [List.length_cons, List.length_cons, k.length]
mutual
/-- a tree as data, if it has no dicts -/
def Tv.toD : Tv → R PD
  | .fr d => .ok d
  | .own (.list l) => .ok (.list l)
  | .own _ => .bad
  | .dT _ => .bad
  | .lst ts => (Tv.toDs ts).bind fun l => .ok (.list l)
  | .tup ts => (Tv.toDs ts).bind fun l => .ok (.tuple l)
def Tv.toDs : List Tv → R (List PD)
  | [] => .ok []
  | t :: ts => (Tv.toD t).bind fun d => (Tv.toDs ts).bind fun l => .ok (d :: l)
end
theorem R.bind_inv {α β : Type} {r : R α} {f : α → R β} {b : β} (h : r.bind f = .ok b) : ∃ a, r = .ok a ∧ f a = .ok b := by
  cases r with
  | ok a => exact ⟨a, rfl, h⟩
  | exc c => cases h
  | bad => cases h
open Classical in
/-- all tuples and the objects at fp frozen -/
noncomputable def frzF (F H : Hp) (fp : List Addr) : Hp := fun p => if p ∈ fp ∨ ∃ o, H p = some o ∧ tupO o then H p else F p
theorem frz_f {F H : Hp} {fp : List Addr} (s : Same F H) : Same F (frzF F H fp) := fun p u e => by
  unfold frzF
  split
  · exact s p u e
  · exact e
theorem frz_g {F H : Hp} {fp : List Addr} (s : Same F H) : Same (frzF F H fp) H := fun p u e => by
  unfold frzF at e
  split at e
  · exact e
  · exact s p u e
theorem frz_n {F H : Hp} {fp : List Addr} {p : Addr} (h : frzF F H fp p ≠ none) : F p ≠ none ∨ p ∈ fp ∨ ∃ o, H p = some o ∧ tupO o := by
  unfold frzF at h
  split at h
  · rename_i c; exact .inr c
  · exact .inl h
theorem frz_keep {F H : Hp} {fp : List Addr} : KeepOn fp H (frzF F H fp) := fun p o e c => by
  unfold frzF
  rw [if_pos (c.imp id fun t => ⟨o, e, t⟩)]
  exact e
theorem frz_sub {F H : Hp} {fp fq : List Addr} (s : Same F H) (h : ∀ p ∈ fq, p ∈ fp) : Same (frzF F H fq) (frzF F H fp) := fun p u e => by
  unfold frzF at e ⊢
  split at e
  · rename_i c
    rw [if_pos (c.imp (h p) id)]
    exact e
  · split
    · exact s p u e
    · exact e
mutual
theorem TvAt.frz {K : PySem.W.Frag} {F H : Hp} (s : Same F H) : ∀ {fp : List Addr} {v : V} {t : Tv} {d : PD}, TvAt K F H fp v t → t.toD = .ok d → Dp K (frzF F H fp) v d
  | _, _, _, d, .fr h, e => by
    unfold Tv.toD at e
    cases e
    exact h.mono (frz_f s)
  | _, _, _, d, .own (p := p) (x := x) h, e => by
    cases x with
    | list l =>
      unfold Tv.toD at e
      cases e
      obtain ⟨vs, a, b⟩ := h
      exact .lst (.inl (frz_keep _ _ a (.inl (by simp)))) (b.mono (frz_f s))
    | _ => unfold Tv.toD at e; cases e
  | _, _, _, d, .dT _ _, e => by
    unfold Tv.toD at e
    cases e
  | _, _, _, d, .lst h k, e => by
    unfold Tv.toD at e
    obtain ⟨l, e1, e2⟩ := R.bind_inv e
    cases e2
    exact .lst (.inl (frz_keep _ _ h (.inl (by simp)))) ((TvAll.frz s k e1).mono (frz_sub s fun p hp => List.mem_cons_of_mem _ hp))
  | _, _, _, d, .tup h k, e => by
    unfold Tv.toD at e
    obtain ⟨l, e1, e2⟩ := R.bind_inv e
    cases e2
    exact .tup (frz_keep.tup h) (TvAll.frz s k e1)
theorem TvAll.frz {K : PySem.W.Frag} {F H : Hp} (s : Same F H) : ∀ {fp : List Addr} {vs : List V} {ts : List Tv} {ds : List PD}, TvAll K F H fp vs ts → Tv.toDs ts = .ok ds → DpAll K (frzF F H fp) vs ds
  | _, _, _, ds, .nil, e => by
    unfold Tv.toDs at e
    cases e
    exact .nil
  | _, _, _, ds, .cons h k, e => by
    unfold Tv.toDs at e
    obtain ⟨d, e1, e2⟩ := R.bind_inv e
    obtain ⟨l, e3, e4⟩ := R.bind_inv e2
    cases e4
    exact .cons ((TvAt.frz s h e1).mono (frz_sub s fun p hp => List.mem_append_left _ hp)) ((TvAll.frz s k e3).mono (frz_sub s fun p hp => List.mem_append_right _ hp))
end
mutual
/-- data without lists and dicts -/
def immD : PD → Bool
  | .list _ => false
  | .dict _ => false
  | .tuple l => immDs l
  | _ => true
def immDs : List PD → Bool
  | [] => true
  | d :: l => immD d && immDs l
end
mutual
theorem Dp.imm {K : PySem.W.Frag} {F F' H : Hp} (s : Same F' H) : ∀ {v : V} {d : PD}, Dp K F' v d → immD d = true → Dp K (frzF F H []) v d
  | _, _, .non, _ => .non
  | _, _, .bl b, _ => .bl b
  | _, _, .int i, _ => .int i
  | _, _, .str x, _ => .str x
  | _, _, .lst _ _, e => by unfold immD at e; cases e
  | _, _, .tup h k, e => by
    unfold immD at e
    exact .tup (frz_keep.tup (s _ _ h)) (DpAll.imm s k e)
theorem DpAll.imm {K : PySem.W.Frag} {F F' H : Hp} (s : Same F' H) : ∀ {vs : List V} {ds : List PD}, DpAll K F' vs ds → immDs ds = true → DpAll K (frzF F H []) vs ds
  | _, _, .nil, _ => .nil
  | _, _, .cons h k, e => by
    unfold immDs at e
    rw [Bool.and_eq_true] at e
    exact .cons (Dp.imm s h e.1) (DpAll.imm s k e.2)
end
theorem KvR.imm {K : PySem.W.Frag} {F F' H : Hp} {κ : Type} {kd : κ → PD} (s : Same F' H) : ∀ {es : List (κ × V)} {kvs : List (PD × PD)}, KvR K F' kd es kvs → kvs.all (fun q => immD q.2) = true → KvR K (frzF F H []) kd es kvs
  | _, _, .nil, _ => .nil
  | _, _, .cons h t, e => by
    rw [List.all_cons, Bool.and_eq_true] at e
    exact .cons (h.imm s e.1) (KvR.imm s t e.2)
theorem KvT.imm {K : PySem.W.Frag} {F F' H : Hp} (s : Same F' H) {es : List (List Key × V)} {kvs : List (List Key × PD)} (h : KvT K F' es kvs) : kvs.all (fun q => immD q.2) = true → KvT K (frzF F H []) es kvs := by
  unfold KvT at h ⊢
  induction h with
  | nil => exact fun _ => .nil
  | cons a _ ih =>
    intro e
    rw [List.all_cons, Bool.and_eq_true] at e
    exact .cons ⟨a.1, a.2.imm s e.1⟩ (ih e.2)
mutual
/-- a tree whose frozen parts have no lists -/
def Tv.imm : Tv → Bool
  | .fr d => immD d
  | .own (.list l) => immDs l
  | .own (.dict kvs) => kvs.all fun q => immD q.2
  | .own _ => false
  | .dT kvs => kvs.all fun q => immD q.2
  | .lst ts => Tv.imms ts
  | .tup ts => Tv.imms ts
def Tv.imms : List Tv → Bool
  | [] => true
  | t :: ts => Tv.imm t && Tv.imms ts
end
theorem OwnAt.imm {K : PySem.W.Frag} {F F' H : Hp} (s : Same F' H) {p : Addr} {x : PD} (h : OwnAt K F' H p x) (e : (Tv.own x).imm = true) : OwnAt K (frzF F H []) H p x := by
  cases x with
  | list l =>
    unfold Tv.imm at e
    obtain ⟨vs, a, b⟩ := h
    exact ⟨vs, a, b.imm s e⟩
  | dict kvs =>
    unfold Tv.imm at e
    obtain ⟨es, a, b⟩ := h
    exact ⟨es, a, b.imm s e⟩
  | _ => exact h.elim
mutual
theorem TvAt.imm {K : PySem.W.Frag} {F F' H : Hp} (s : Same F' H) : ∀ {fp : List Addr} {v : V} {t : Tv}, TvAt K F' H fp v t → t.imm = true → TvAt K (frzF F H []) H fp v t
  | _, _, _, .fr h, e => by unfold Tv.imm at e; exact .fr (h.imm s e)
  | _, _, _, .own h, e => .own (h.imm s e)
  | _, _, _, .dT h k, e => by unfold Tv.imm at e; exact .dT h (k.imm s e)
  | _, _, _, .lst h k, e => by unfold Tv.imm at e; exact .lst h (TvAll.imm s k e)
  | _, _, _, .tup h k, e => by unfold Tv.imm at e; exact .tup h (TvAll.imm s k e)
theorem TvAll.imm {K : PySem.W.Frag} {F F' H : Hp} (s : Same F' H) : ∀ {fp : List Addr} {vs : List V} {ts : List Tv}, TvAll K F' H fp vs ts → Tv.imms ts = true → TvAll K (frzF F H []) H fp vs ts
  | _, _, _, .nil, _ => .nil
  | _, _, _, .cons h k, e => by
    unfold Tv.imms at e
    rw [Bool.and_eq_true] at e
    exact .cons (TvAt.imm s h e.1) (TvAll.imm s k e.2)
end
/-- all tuples frozen: still an extension -/
theorem Ext.tups {F H H' : Hp} (s : Same F H) (h : Same H H') : Ext F H (frzF F H' []) H' := by
  refine ⟨frz_f (s.trans h), frz_g (s.trans h), h, fun p hp => ?_⟩
  rcases frz_n hp with q | q | ⟨o, q, t⟩
  · exact .inl q
  · cases q
  · cases e : H p with
    | none => exact .inr (.inl rfl)
    | some u =>
      have := h p u e
      rw [q] at this
      cases this
      exact .inr (.inr ⟨_, rfl, t⟩)
theorem frz_none {F H : Hp} {p : Addr} {o : HO} (hf : F p = none) (ho : H p = some o) (hn : ¬ tupO o) : frzF F H [] p = none := by
  unfold frzF
  rw [if_neg]
  · exact hf
  · rintro (h | ⟨u, h, t⟩)
    · cases h
    · rw [ho] at h; cases h; exact hn t

/-! ### the state -/
inductive Sl where
  | d (x : PD)
  | t (x : Tv)
  | l (x : PD)
abbrev Sl.o (x : PD) : Sl := .t (.own x)
/-- plain values as data -/
def encV : V → PD
  | .bl b => .bool b
  | .int i => .int i
  | .str x => .str x
  | .non => .none
  | _ => .dict []
def encF (fs : List (Str × V)) : List PD := fs.map fun q => .tuple [.str q.1, encV q.2]
/-- a dict that is walked; a caught exception: itself, its dict's place, its fields -/
def LckAt (K : PySem.W.Frag) (F : Hp) (p : Addr) : PD → Prop
  | .dict kvs => ∃ od es, F p = some (.frz od (.dK es)) ∧ KvR K F keyD es kvs
  | .tuple [.int a, .int b, .list es] => p = a.toNat ∧ ∃ fs, F b.toNat = some (.xd fs) ∧ es = encF fs
  | _ => False
theorem LckAt.mono {K : PySem.W.Frag} {F F' : Hp} {p : Addr} {d : PD} (e : Same F F') (h : LckAt K F p d) : LckAt K F' p d := by
  unfold LckAt at h ⊢
  split at h
  · obtain ⟨od, es, a, b⟩ := h; exact ⟨od, es, e _ _ a, b.mono e⟩
  · obtain ⟨q, fs, a, b⟩ := h; exact ⟨q, fs, e _ _ a, b⟩
  · exact h.elim
abbrev Rho := List (Option Sl)
/-- the state; φ: what each slot owns -/
structure StF (K : PySem.W.Frag) (F0 H0 F H : Hp) (σ : L2.St) (ρ : Rho) (φ : Nat → List Addr) : Prop where
  ext : Ext F0 H0 F H
  len : σ.length = ρ.length
  dat : ∀ (i : Nat) (x : PD), ρ[i]? = some (some (Sl.d x)) → ∃ v, σ[i]? = some (some v) ∧ Dp K F v x
  tre : ∀ (i : Nat) (x : Tv), ρ[i]? = some (some (Sl.t x)) → ∃ v, σ[i]? = some (some v) ∧ TvAt K F H (φ i) v x
  fre : ∀ (i : Nat) (p : Addr), p ∈ φ i → H0 p = none ∧ F p = none ∧ ∃ o, H p = some o ∧ ¬ tupO o
  nod : ∀ i, (φ i).Nodup
  dis : ∀ (i j : Nat) (p : Addr), p ∈ φ i → p ∈ φ j → i = j
  lck : ∀ (i : Nat) (x : PD), ρ[i]? = some (some (Sl.l x)) → ∃ p, σ[i]? = some (some (.ref p)) ∧ LckAt K F p x
def StR (K : PySem.W.Frag) (F0 H0 F H : Hp) (σ : L2.St) (ρ : Rho) : Prop := ∃ φ, StF K F0 H0 F H σ ρ φ
def phi (φ : Nat → List Addr) (i : Nat) (fp : List Addr) : Nat → List Addr := fun j => if j = i then fp else φ j
theorem phi_same {φ : Nat → List Addr} {i : Nat} {fp : List Addr} : phi φ i fp i = fp := if_pos rfl
theorem phi_ne {φ : Nat → List Addr} {i j : Nat} {fp : List Addr} (h : j ≠ i) : phi φ i fp j = φ j := if_neg h
section
variable {K : PySem.W.Frag} {F0 H0 F H F' H' : Hp} {σ : L2.St} {ρ : Rho} {φ : Nat → List Addr}
theorem StR.ext (S : StR K F0 H0 F H σ ρ) : Ext F0 H0 F H := let ⟨_, S⟩ := S; S.ext
theorem StR.len (S : StR K F0 H0 F H σ ρ) : σ.length = ρ.length := let ⟨_, S⟩ := S; S.len
theorem StR.dat (S : StR K F0 H0 F H σ ρ) : ∀ (i : Nat) (x : PD), ρ[i]? = some (some (Sl.d x)) → ∃ v, σ[i]? = some (some v) ∧ Dp K F v x := let ⟨_, S⟩ := S; S.dat
theorem StR.lck (S : StR K F0 H0 F H σ ρ) : ∀ (i : Nat) (x : PD), ρ[i]? = some (some (Sl.l x)) → ∃ p, σ[i]? = some (some (.ref p)) ∧ LckAt K F p x := let ⟨_, S⟩ := S; S.lck
theorem StF.own (S : StF K F0 H0 F H σ ρ φ) (i : Nat) (x : PD) (h : ρ[i]? = some (some (Sl.o x))) : ∃ p, σ[i]? = some (some (.ref p)) ∧ φ i = [p] ∧ H0 p = none ∧ F p = none ∧ OwnAt K F H p x := by
  obtain ⟨v, a, b⟩ := S.tre i _ h
  generalize hf : φ i = fp at b
  cases b with
  | own b =>
    obtain ⟨c, d, _⟩ := S.fre i _ (by rw [hf]; exact List.mem_singleton.mpr rfl)
    exact ⟨_, a, rfl, c, d, b⟩
theorem StR.own (S : StR K F0 H0 F H σ ρ) (i : Nat) (x : PD) (h : ρ[i]? = some (some (Sl.o x))) : ∃ p, σ[i]? = some (some (.ref p)) ∧ H0 p = none ∧ F p = none ∧ OwnAt K F H p x := by
  obtain ⟨φ, S⟩ := S
  obtain ⟨p, a, _, b⟩ := S.own i x h
  exact ⟨p, a, b⟩
theorem StR.dis (S : StR K F0 H0 F H σ ρ) (i j : Nat) (x y : PD) (p : Addr) (h1 : ρ[i]? = some (some (Sl.o x))) (h2 : ρ[j]? = some (some (Sl.o y))) (h3 : σ[i]? = some (some (.ref p))) (h4 : σ[j]? = some (some (.ref p))) : i = j := by
  obtain ⟨φ, S⟩ := S
  obtain ⟨p1, a1, b1, _⟩ := S.own i x h1
  obtain ⟨p2, a2, b2, _⟩ := S.own j y h2
  rw [h3] at a1; cases a1
  rw [h4] at a2; cases a2
  exact S.dis i j p (by rw [b1]; simp) (by rw [b2]; simp)
theorem StR.same (S : StR K F0 H0 F H σ ρ) : Same F H := S.ext.g
theorem StF.same (S : StF K F0 H0 F H σ ρ φ) : Same F H := S.ext.g
theorem StF.go (S : StF K F0 H0 F H σ ρ φ) (e : Ext F H F' H') : StF K F0 H0 F' H' σ ρ φ := by
  refine ⟨S.ext.trans e, S.len, fun i x h => ?_, fun i x h => ?_, fun i p h => ?_, S.nod, S.dis, fun i x h => let ⟨p, a, b⟩ := S.lck i x h; ⟨p, a, b.mono e.f⟩⟩
  · obtain ⟨v, a, b⟩ := S.dat i x h
    exact ⟨v, a, b.mono e.f⟩
  · obtain ⟨v, a, b⟩ := S.tre i x h
    exact ⟨v, a, b.keep e.f (KeepOn.same e.h)⟩
  · obtain ⟨a, b, o, c, d⟩ := S.fre i p h
    exact ⟨a, e.keep b c d, o, e.h p o c, d⟩
theorem StR.go (S : StR K F0 H0 F H σ ρ) (e : Ext F H F' H') : StR K F0 H0 F' H' σ ρ := let ⟨φ, S⟩ := S; ⟨φ, S.go e⟩
/-- the base's frozen part put to where one stands -/
theorem StR.rebase (S : StR K F0 H0 F H σ ρ) : StR K F H0 F H σ ρ := let ⟨φ, S⟩ := S;
  ⟨φ, ⟨Same.refl F, S.ext.g, S.ext.h, fun _ h => .inl h⟩, S.len, S.dat, S.tre, S.fre, S.nod, S.dis, S.lck⟩
theorem StR.unbase {F1 H1 : Hp} (b : Ext F0 H0 F H) (S : StR K F H0 F1 H1 σ ρ) : StR K F0 H0 F1 H1 σ ρ := let ⟨φ, S⟩ := S;
  ⟨φ, b.base S.ext, S.len, S.dat, S.tre, S.fre, S.nod, S.dis, S.lck⟩
theorem get_set {α : Type} {l : List (Option α)} {i j : Nat} {x : Option α} {y : α} (h : (l.set i x)[j]? = some (some y)) : (i = j ∧ i < l.length ∧ x = some y) ∨ (i ≠ j ∧ l[j]? = some (some y)) := by
  by_cases e : i = j
  · subst e
    by_cases hl : i < l.length
    · rw [List.getElem?_set_self hl] at h
      exact .inl ⟨rfl, hl, Option.some.inj h⟩
    · rw [List.getElem?_eq_none (by simpa using hl)] at h; cases h
  · rw [List.getElem?_set_ne e] at h
    exact .inr ⟨e, h⟩
/-- a slot is given new content that owns fp -/
theorem StF.put (S : StF K F0 H0 F H σ ρ φ) {i : Nat} {v : Option V} {x : Option Sl} {fp : List Addr}
    (hd : ∀ y, x = some (Sl.d y) → ∃ w, v = some w ∧ Dp K F w y) (ht : ∀ y, x = some (Sl.t y) → ∃ w, v = some w ∧ TvAt K F H fp w y) (hl : ∀ y, x = some (Sl.l y) → ∃ p, v = some (.ref p) ∧ LckAt K F p y)
    (hf : ∀ p ∈ fp, H0 p = none ∧ F p = none ∧ ∃ o, H p = some o ∧ ¬ tupO o) (hn : fp.Nodup) (hx : ∀ (j : Nat) (p : Addr), j ≠ i → p ∈ φ j → p ∉ fp) :
    StF K F0 H0 F H (σ.set i v) (ρ.set i x) (phi φ i fp) := by
  refine ⟨S.ext, by simpa using S.len, fun j y e => ?_, fun j y e => ?_, fun j p hp => ?_, fun j => ?_, fun j k p hj hk => ?_, fun j y e => ?_⟩
  · rcases get_set e with ⟨rfl, hj, q⟩ | ⟨hn, q⟩
    · obtain ⟨w, rfl, a⟩ := hd y q
      exact ⟨w, by rw [List.getElem?_set_self (by rw [S.len]; exact hj)], a⟩
    · obtain ⟨u, a, b⟩ := S.dat j y q
      exact ⟨u, by rw [List.getElem?_set_ne hn]; exact a, b⟩
  · rcases get_set e with ⟨rfl, hj, q⟩ | ⟨hn, q⟩
    · obtain ⟨w, rfl, a⟩ := ht y q
      exact ⟨w, by rw [List.getElem?_set_self (by rw [S.len]; exact hj)], by rw [phi_same]; exact a⟩
    · obtain ⟨u, a, b⟩ := S.tre j y q
      exact ⟨u, by rw [List.getElem?_set_ne hn]; exact a, by rw [phi_ne (Ne.symm hn)]; exact b⟩
  · by_cases c : j = i
    · subst c; rw [phi_same] at hp; exact hf p hp
    · rw [phi_ne c] at hp; exact S.fre j p hp
  · by_cases c : j = i
    · subst c; rw [phi_same]; exact hn
    · rw [phi_ne c]; exact S.nod j
  · by_cases c : j = i
    · by_cases c2 : k = i
      · rw [c, c2]
      · subst c
        rw [phi_same] at hj
        rw [phi_ne c2] at hk
        exact absurd hj (hx k p c2 hk)
    · by_cases c2 : k = i
      · subst c2
        rw [phi_same] at hk
        rw [phi_ne c] at hj
        exact absurd hk (hx j p c hj)
      · rw [phi_ne c] at hj
        rw [phi_ne c2] at hk
        exact S.dis j k p hj hk
  · rcases get_set e with ⟨rfl, hll, q⟩ | ⟨hn, q⟩
    · obtain ⟨w, rfl, a⟩ := hl y q
      exact ⟨w, by rw [List.getElem?_set_self (by rw [S.len]; exact hll)], a⟩
    · obtain ⟨u, a, b⟩ := S.lck j y q
      exact ⟨u, by rw [List.getElem?_set_ne hn]; exact a, b⟩
/-- a slot gets data -/
theorem StR.setD (S : StR K F0 H0 F H σ ρ) {i : Nat} {v : V} {x : PD} (h : Dp K F v x) : StR K F0 H0 F H (σ.set i (some v)) (ρ.set i (some (Sl.d x))) := by
  obtain ⟨φ, S⟩ := S
  refine ⟨_, S.put (fp := []) (fun y e => ?_) (fun y e => ?_) (fun y e => ?_) (fun p hp => by cases hp) List.nodup_nil (fun j p _ _ hp => by cases hp)⟩
  · cases e; exact ⟨v, rfl, h⟩
  · cases e
  · cases e
/-- a slot's reading is forgotten -/
theorem StR.kill (S : StR K F0 H0 F H σ ρ) (i : Nat) : StR K F0 H0 F H σ (ρ.set i none) := by
  obtain ⟨φ, S⟩ := S
  refine ⟨φ, S.ext, by simpa using S.len, fun j y e => ?_, fun j y e => ?_, S.fre, S.nod, S.dis, fun j y e => ?_⟩
  · rcases get_set e with ⟨_, _, q⟩ | ⟨_, q⟩
    · cases q
    · exact S.dat j y q
  · rcases get_set e with ⟨_, _, q⟩ | ⟨_, q⟩
    · cases q
    · exact S.tre j y q
  · rcases get_set e with ⟨_, _, q⟩ | ⟨_, q⟩
    · cases q
    · exact S.lck j y q
theorem StR.setU (S : StR K F0 H0 F H σ ρ) (i : Nat) : StR K F0 H0 F H (σ.set i none) (ρ.set i none) := by
  obtain ⟨φ, S⟩ := S
  exact ⟨_, S.put (fp := []) (fun y e => by cases e) (fun y e => by cases e) (fun y e => by cases e) (fun p hp => by cases hp) List.nodup_nil (fun j p _ _ hp => by cases hp)⟩
/-- a slot gets a tree that is new -/
theorem StR.setT {F1 H1 : Hp} (S : StR K F0 H0 F H σ ρ) {i : Nat} {v : V} {x : Tv} {fp : List Addr} (e : Ext F H F1 H1) (hp : ∀ p ∈ fp, H p = none ∧ F1 p = none) (hn : fp.Nodup) (h : TvAt K F1 H1 fp v x) :
    StR K F0 H0 F1 H1 (σ.set i (some v)) (ρ.set i (some (Sl.t x))) := by
  obtain ⟨φ, S⟩ := S
  have S1 := S.go e
  refine ⟨_, S1.put (fp := fp) (fun y e => by cases e) (fun y e => ?_) (fun y e => by cases e) (fun p q => ⟨S.ext.h.free (hp p q).1, (hp p q).2, h.nt p q⟩) hn (fun j p _ hj hq => ?_)⟩
  · cases e; exact ⟨v, rfl, h⟩
  · obtain ⟨_, _, o, a, _⟩ := S.fre j p hj
    rw [(hp p hq).1] at a; cases a
/-- a slot gets a new owned thing -/
theorem StR.setN {F1 H1 : Hp} (S : StR K F0 H0 F H σ ρ) {i : Nat} {p : Addr} {x : PD} (e : Ext F H F1 H1) (hp : H p = none) (hf : F1 p = none) (h : OwnAt K F1 H1 p x) :
    StR K F0 H0 F1 H1 (σ.set i (some (.ref p))) (ρ.set i (some (Sl.o x))) :=
  S.setT (fp := [p]) e (fun q hq => by rw [List.mem_singleton.mp hq]; exact ⟨hp, hf⟩) (by simp) (.own h)
/-- what a slot owns is changed in place -/
theorem StF.mutT (S : StF K F0 H0 F H σ ρ φ) {i : Nat} {y : Tv} {q : Addr} {o : HO} (hq : q ∈ φ i) (ho : ¬ tupO o) (h : ∀ v, σ[i]? = some (some v) → TvAt K F (upd H q o) (φ i) v y) (hs : ∃ v, σ[i]? = some (some v)) :
    StF K F0 H0 F (upd H q o) σ (ρ.set i (some (Sl.t y))) φ := by
  obtain ⟨b, c, u, hu, nu⟩ := S.fre i q hq
  have keep : ∀ j, j ≠ i → KeepOn (φ j) H (upd H q o) := fun j hj p u' e t => by
    by_cases z : p = q
    · subst z
      rcases t with t | t
      · exact absurd (S.dis j i p t hq) hj
      · rw [hu] at e; cases e; exact absurd t nu
    · rw [upd_ne z]; exact e
  refine ⟨⟨S.ext.f, fun r u e => ?_, fun r u e => ?_, S.ext.n⟩, by simpa using S.len, fun j z e => ?_, fun j z e => ?_, fun j p hp => ?_, S.nod, S.dis, fun j z e => ?_⟩
  · rw [upd_ne (ne_of_none e c)]; exact S.ext.g r u e
  · rw [upd_ne (ne_of_none e b)]; exact S.ext.h r u e
  · rcases get_set e with ⟨rfl, hl, q⟩ | ⟨hn, q⟩
    · injection q with q; cases q
    · exact S.dat j z q
  · rcases get_set e with ⟨rfl, hl, e⟩ | ⟨hn, e⟩
    · injection e with e; injection e with e; subst e
      obtain ⟨v, hv⟩ := hs
      exact ⟨v, hv, h v hv⟩
    · obtain ⟨v, a, b⟩ := S.tre j z e
      exact ⟨v, a, b.keep (Same.refl F) (keep j (Ne.symm hn))⟩
  · obtain ⟨x1, x2, u', x3, x4⟩ := S.fre j p hp
    refine ⟨x1, x2, ?_⟩
    by_cases z : p = q
    · subst z; exact ⟨o, upd_same, ho⟩
    · exact ⟨u', by rw [upd_ne z]; exact x3, x4⟩
  · rcases get_set e with ⟨rfl, hl, q⟩ | ⟨hn, q⟩
    · injection q with q; cases q
    · exact S.lck j z q
/-- an owned thing is changed in place -/
theorem StR.mut (S : StR K F0 H0 F H σ ρ) {i : Nat} {p : Addr} {x y : PD} {o : HO} (hi : ρ[i]? = some (some (Sl.o x))) (hs : σ[i]? = some (some (.ref p))) (h : OwnAt K F (upd H p o) p y) :
    StR K F0 H0 F (upd H p o) σ (ρ.set i (some (Sl.o y))) := by
  obtain ⟨φ, S⟩ := S
  obtain ⟨p', a, b, c, d, _⟩ := S.own i x hi
  rw [hs] at a; cases a
  obtain ⟨u, hu, nu⟩ := h.nt
  rw [upd_same] at hu
  cases hu
  refine ⟨φ, S.mutT (q := p) (by rw [b]; simp) nu (fun v hv => ?_) ⟨_, hs⟩⟩
  rw [hs] at hv; cases hv
  rw [b]; exact .own h
/-- .. the same for a dict with tuples as keys -/
theorem StR.mutD (S : StR K F0 H0 F H σ ρ) {i : Nat} {p : Addr} {x y : List (List Key × PD)} {es : List (List Key × V)} (hi : ρ[i]? = some (some (Sl.t (.dT x)))) (hs : σ[i]? = some (some (.ref p))) (h : KvT K F es y) :
    StR K F0 H0 F (upd H p (.dT es)) σ (ρ.set i (some (Sl.t (.dT y)))) := by
  obtain ⟨φ, S⟩ := S
  obtain ⟨v, a, b⟩ := S.tre i _ hi
  rw [hs] at a; cases a
  generalize hf : φ i = fp at b
  cases b with
  | dT h1 h2 =>
    refine ⟨φ, S.mutT (q := p) (by rw [hf]; simp) nt_dT (fun v hv => ?_) ⟨_, hs⟩⟩
    rw [hs] at hv; cases hv
    rw [hf]; exact .dT upd_same h
/-- an owned list becomes data -/
def frzS : Option Sl → Option Sl
  | some (Sl.t (.own (.list ds))) => some (Sl.d (.list ds))
  | s => s
/-- a tree becomes data -/
def frz1 (i : Nat) (ρ : Rho) : Rho := match ρ[i]? with
  | some (some (Sl.t t)) => (match t.toD with | .ok d => ρ.set i (some (Sl.d d)) | _ => ρ)
  | _ => ρ
theorem StF.frzT (S : StF K F0 H0 F H σ ρ φ) {i : Nat} {t : Tv} {d : PD} (hi : ρ[i]? = some (some (Sl.t t))) (e : t.toD = .ok d) :
    Ext F0 H0 (frzF F H (φ i)) H ∧ Same F (frzF F H (φ i)) ∧ StF K F0 H0 (frzF F H (φ i)) H σ (ρ.set i (some (Sl.d d))) (phi φ i []) := by
  have hs : Same F (frzF F H (φ i)) := frz_f S.same
  have ex : Ext F0 H0 (frzF F H (φ i)) H := by
    refine ⟨S.ext.f.trans hs, frz_g S.same, S.ext.h, fun p hp => ?_⟩
    rcases frz_n hp with q | q | ⟨o, q, t⟩
    · exact S.ext.n p q
    · exact .inr (.inl (S.fre i p q).1)
    · cases e : H0 p with
      | none => exact .inr (.inl rfl)
      | some u =>
        have := S.ext.h p u e
        rw [q] at this
        cases this
        exact .inr (.inr ⟨_, rfl, t⟩)
  obtain ⟨v, a, b⟩ := S.tre i _ hi
  refine ⟨ex, hs, ex, by simpa using S.len, fun j y e1 => ?_, fun j y e1 => ?_, fun j p hp => ?_, fun j => ?_, fun j k p hj hk => ?_, fun j y e1 => ?_⟩
  · rcases get_set e1 with ⟨rfl, hl, q⟩ | ⟨hn, q⟩
    · cases q; exact ⟨v, a, b.frz S.same e⟩
    · obtain ⟨u, a, b⟩ := S.dat j y q
      exact ⟨u, a, b.mono hs⟩
  · rcases get_set e1 with ⟨rfl, hl, q⟩ | ⟨hn, q⟩
    · cases q
    · obtain ⟨u, a, b⟩ := S.tre j y q
      exact ⟨u, a, by rw [phi_ne (Ne.symm hn)]; exact b.keep hs (KeepOn.same (Same.refl H))⟩
  · by_cases c : j = i
    · subst c; rw [phi_same] at hp; cases hp
    · rw [phi_ne c] at hp
      obtain ⟨x1, x2, o, x3, x4⟩ := S.fre j p hp
      refine ⟨x1, ?_, o, x3, x4⟩
      unfold frzF
      rw [if_neg]
      · exact x2
      · rintro (z | ⟨u, z, t⟩)
        · exact c (S.dis j i p hp z)
        · rw [x3] at z; cases z; exact x4 t
  · by_cases c : j = i
    · subst c; rw [phi_same]; exact List.nodup_nil
    · rw [phi_ne c]; exact S.nod j
  · have cj : j ≠ i := fun z => by subst z; rw [phi_same] at hj; cases hj
    have ck : k ≠ i := fun z => by subst z; rw [phi_same] at hk; cases hk
    rw [phi_ne cj] at hj
    rw [phi_ne ck] at hk
    exact S.dis j k p hj hk
  · rcases get_set e1 with ⟨rfl, hl, q⟩ | ⟨hn, q⟩
    · cases q
    · obtain ⟨u, a, b⟩ := S.lck j y q
      exact ⟨u, a, b.mono hs⟩
theorem StR.frz1 (S : StR K F0 H0 F H σ ρ) (i : Nat) : ∃ F', Ext F0 H0 F' H ∧ Same F F' ∧ StR K F0 H0 F' H σ (frz1 i ρ) := by
  have triv : ∃ F', Ext F0 H0 F' H ∧ Same F F' ∧ StR K F0 H0 F' H σ ρ := ⟨F, S.ext, Same.refl F, S⟩
  unfold DL.frz1
  split
  · rename_i t hi
    split
    · rename_i d e
      obtain ⟨φ, S⟩ := S
      obtain ⟨a, b, c⟩ := S.frzT hi e
      exact ⟨_, a, b, _, c⟩
    · exact triv
  · exact triv
end
end DL
namespace DL
open PySem PySem.Spec PyProof.Rows L2

/-! ### judgements -/
/-- an exception as the reading tells it, as the heap has it -/
def ExR (K : PySem.W.Frag) (c : Ec) (cls : Value) (d : Option Addr) (H : Hp) : Prop :=
  cls = .ref (He.ga K c.cls) ∧ ((c.fs = [] ∧ d = none) ∨ ∃ dd, d = some dd ∧ H dd = some (.xd c.fs))
/-- what follows -/
def Fin (K : PySem.W.Frag) (W : WX) (σ : L2.St) (F H : Hp) {α : Type} (r : R α) (P : α → Hp → Hp → Prop) : Prop :=
  match r with
  | .ok x => ∀ F' H', Ext F H F' H' → P x F' H'
  | .exc c => ∀ cls d F' H', Ext F H F' H' → ExR K c cls d H' → W cls d σ H'
  | .bad => False
section
variable {K : PySem.W.Frag} {W : WX} {σ : L2.St} {F H F1 H1 : Hp} {α β : Type}
theorem Fin.mono {r : R α} {P : α → Hp → Hp → Prop} (e : Ext F H F1 H1) (h : Fin K W σ F H r P) : Fin K W σ F1 H1 r P := by
  cases r with
  | ok x => exact fun F' H' q => h F' H' (e.trans q)
  | exc c => exact fun cls d F' H' q => h cls d F' H' (e.trans q)
  | bad => exact h
theorem Fin.imp {r : R α} {P P' : α → Hp → Hp → Prop} (h : Fin K W σ F H r P) (f : ∀ x F' H', Ext F H F' H' → P x F' H' → P' x F' H') : Fin K W σ F H r P' := by
  cases r with
  | ok x => exact fun F' H' q => f x F' H' q (h F' H' q)
  | exc c => exact h
  | bad => exact h
theorem Fin.bind {r : R α} {f : α → R β} {P : β → Hp → Hp → Prop} (h : Fin K W σ F H (r.bind f) P) : Fin K W σ F H r (fun x F1 H1 => Fin K W σ F1 H1 (f x) P) := by
  cases r with
  | ok x => exact fun F' H' q => Fin.mono q h
  | exc c => exact h
  | bad => exact h
/-- bind and go on -/
theorem Fin.then {r : R α} {f : α → R β} {P : β → Hp → Hp → Prop} {P' : α → Hp → Hp → Prop} (h : Fin K W σ F H (r.bind f) P) (g : ∀ x F1 H1, Ext F H F1 H1 → Fin K W σ F1 H1 (f x) P → P' x F1 H1) : Fin K W σ F H r P' :=
  (Fin.bind h).imp g
theorem Fin.okk (K : PySem.W.Frag) (W : WX) (σ : L2.St) {x : α} {P : α → Hp → Hp → Prop} (s : Same F H) (h : Fin K W σ F H (.ok x) P) : P x F H := h F H (Ext.refl s)
theorem Fin.ok {x : α} {P : α → Hp → Hp → Prop} (s : Same F H) (h : Fin K W σ F H (.ok x) P) : P x F H := h F H (Ext.refl s)
end

def DpQ (K : PySem.W.Frag) (Q : VK) : PD → Hp → Hp → Prop := fun x F' H' => ∀ v, Dp K F' v x → Q v H'
def RpQ (K : PySem.W.Frag) (Q : VK) : PD → Hp → Hp → Prop := fun x F' H' => ∀ v, Rp K F' H' v x → Q v H'
def OwQ (K : PySem.W.Frag) (H : Hp) (Q : VK) : PD → Hp → Hp → Prop := fun x F' H' => ∀ p, H p = none → F' p = none → OwnAt K F' H' p x → Q (.ref p) H'
def BoQ (Q : Bool → Hp → Prop) : Bool → Hp → Hp → Prop := fun b _ H' => Q b H'
/-- frozen data; readable data; a new owned thing; a test -/
def TDe (K : PySem.W.Frag) (W : WX) (t : TE) (g : Rho → R PD) : Prop := ∀ (F0 H0 F H : Hp) (σ : L2.St) (ρ : Rho) (Q : VK), StR K F0 H0 F H σ ρ → Fin K W σ F H (g ρ) (DpQ K Q) → t σ H Q
def TDr (K : PySem.W.Frag) (W : WX) (t : TE) (g : Rho → R PD) : Prop := ∀ (F0 H0 F H : Hp) (σ : L2.St) (ρ : Rho) (Q : VK), StR K F0 H0 F H σ ρ → Fin K W σ F H (g ρ) (RpQ K Q) → t σ H Q
def TDo (K : PySem.W.Frag) (W : WX) (t : TE) (g : Rho → R PD) : Prop := ∀ (F0 H0 F H : Hp) (σ : L2.St) (ρ : Rho) (Q : VK), StR K F0 H0 F H σ ρ → Fin K W σ F H (g ρ) (OwQ K H Q) → t σ H Q
def TDt (K : PySem.W.Frag) (W : WX) (t : TT) (g : Rho → R Bool) : Prop := ∀ (F0 H0 F H : Hp) (σ : L2.St) (ρ : Rho) (Q : Bool → Hp → Prop), StR K F0 H0 F H σ ρ → Fin K W σ F H (g ρ) (BoQ Q) → t σ H Q
/-- argument lists: frozen, readable -/
def TDa (K : PySem.W.Frag) (W : WX) (t : TA) (g : Rho → R (List PD)) : Prop := ∀ (F0 H0 F H : Hp) (σ : L2.St) (ρ : Rho) (Q : List V → Hp → Prop), StR K F0 H0 F H σ ρ → Fin K W σ F H (g ρ) (fun xs F' H' => ∀ vs, DpAll K F' vs xs → Q vs H') → t σ H Q
def TDq (K : PySem.W.Frag) (W : WX) (t : TA) (g : Rho → R (List PD)) : Prop := ∀ (F0 H0 F H : Hp) (σ : L2.St) (ρ : Rho) (Q : List V → Hp → Prop), StR K F0 H0 F H σ ρ → Fin K W σ F H (g ρ) (fun xs F' H' => ∀ vs, RpAll K F' H' vs xs → Q vs H') → t σ H Q

section
variable {K : PySem.W.Frag} {W : WX} {t ta tb tc : TE} {g ga gb gc : Rho → R PD} {tt : TT}
theorem TDe.r (h : TDe K W t g) : TDr K W t g := fun F0 H0 F H σ ρ Q S q => h F0 H0 F H σ ρ Q S (q.imp fun x F' H' e k v r => k v (.inl r))
def notDict : PD → R PD
  | .list xs => .ok (.list xs)
  | _ => .bad
def eFz (g : Rho → R PD) : Rho → R PD := fun ρ => (g ρ).bind notDict
theorem TDo.e (h : TDo K W t g) : TDe K W t (eFz g) := fun F0 H0 F H σ ρ Q S q => h F0 H0 F H σ ρ Q S (by
  unfold eFz at q
  cases e : g ρ with
  | exc c => rw [e] at q; exact q
  | bad => rw [e] at q; exact q
  | ok x =>
    rw [e] at q
    cases x with
    | list ds =>
      rintro F' H' ex p hp hf ⟨vs, a, b⟩
      have hs : Same F' (upd F' p (.lst vs)) := fun q u e => by rw [upd_ne (ne_of_none e hf)]; exact e
      refine q (upd F' p (.lst vs)) H' ⟨ex.f.trans hs, fun q u r => ?_, ex.h, fun q r => ?_⟩ _ (.lst (.inl upd_same) (b.mono hs))
      · by_cases hq : q = p
        · subst hq; rw [upd_same] at r; rw [← r]; exact a
        · rw [upd_ne hq] at r; exact ex.g q u r
      · by_cases hq : q = p
        · subst hq; exact .inr (.inl hp)
        · rw [upd_ne hq] at r; exact ex.n q r
    | _ => exact q.elim)
theorem TDo.r (h : TDo K W t g) : TDr K W t (eFz g) := h.e.r

/-! ### names, constants -/
def eVar (i : Nat) : Rho → R PD := fun ρ => match ρ[i]? with
  | some (some (.d x)) => .ok x
  | _ => .bad
def rVar (i : Nat) : Rho → R PD := fun ρ => match ρ[i]? with
  | some (some (.d x)) => .ok x
  | some (some (.t (.own x))) => .ok x
  | _ => .bad
theorem td_var (i : Nat) : TDe K W (tVar i) (eVar i) := fun F0 H0 F H σ ρ Q S q => by
  unfold eVar at q
  split at q
  · rename_i x e
    obtain ⟨v, a, b⟩ := S.dat i x e
    exact ⟨v, a, q.ok S.same v b⟩
  · exact q.elim
theorem tr_var (i : Nat) : TDr K W (tVar i) (rVar i) := fun F0 H0 F H σ ρ Q S q => by
  unfold rVar at q
  split at q
  · rename_i x e
    obtain ⟨v, a, b⟩ := S.dat i x e
    exact ⟨v, a, q.ok S.same v (.inl b)⟩
  · rename_i x e
    obtain ⟨p, a, _, _, d⟩ := S.own i x e
    exact ⟨_, a, q.ok S.same _ (.inr ⟨p, rfl, d⟩)⟩
  · exact q.elim
def eC (x : PD) : Rho → R PD := fun _ => .ok x
theorem td_int {i : Int} : TDe K W (tC (.int i)) (eC (.int i)) := fun F0 H0 F H σ ρ Q S q => q.ok S.same _ (.int i)
theorem td_str {i : Str} : TDe K W (tC (.str i)) (eC (.str i)) := fun F0 H0 F H σ ρ Q S q => q.ok S.same _ (.str i)
theorem td_bl {i : Bool} : TDe K W (tC (.bl i)) (eC (.bool i)) := fun F0 H0 F H σ ρ Q S q => q.ok S.same _ (.bl i)
theorem td_non : TDe K W (tC .non) (eC .none) := fun F0 H0 F H σ ρ Q S q => q.ok S.same _ .non

/-! ### operators -/
/-- a two-place operation by values -/
def RD (K : PySem.W.Frag) (r : R2) (f : PD → PD → R PD) : Prop := ∀ (W : WX) (σ : L2.St) (F H : Hp) (x y : V) (a b : PD) (Q : VK), Same F H → Rp K F H x a → Rp K F H y b → Fin K W σ F H (f a b) (DpQ K Q) → r x y H Q
/-- .. with a new owned result -/
def RDo (K : PySem.W.Frag) (r : R2) (f : PD → PD → R PD) : Prop := ∀ (W : WX) (σ : L2.St) (F H : Hp) (x y : V) (a b : PD) (Q : VK), Same F H → Rp K F H x a → Rp K F H y b → Fin K W σ F H (f a b) (OwQ K H Q) → r x y H Q
def RU (K : PySem.W.Frag) (r : V → Hp → VK → Prop) (f : PD → R PD) : Prop := ∀ (W : WX) (σ : L2.St) (F H : Hp) (x : V) (a : PD) (Q : VK), Same F H → Rp K F H x a → Fin K W σ F H (f a) (DpQ K Q) → r x H Q
def eOp (f : PD → PD → R PD) (ga gb : Rho → R PD) : Rho → R PD := fun ρ => (ga ρ).bind fun a => (gb ρ).bind fun b => f a b
def eUn (f : PD → R PD) (ga : Rho → R PD) : Rho → R PD := fun ρ => (ga ρ).bind f
variable {r r' : R2} {f f' : PD → PD → R PD}
theorem td_op (hr : RD K r f) (ha : TDr K W ta ga) (hb : TDr K W tb gb) : TDe K W (tOp r ta tb) (eOp f ga gb) := fun F0 H0 F H σ ρ Q S q =>
  ha F0 H0 F H σ ρ _ S (q.then fun a F1 H1 e1 k1 v rv => hb F0 H0 F1 H1 σ ρ _ (S.go e1) (k1.then fun b F2 H2 e2 k2 u ru =>
    hr W σ F2 H2 v u a b Q e2.g (rv.ext e2.f e2.h) ru k2))
theorem to_op (hr : RDo K r f) (ha : TDr K W ta ga) (hb : TDr K W tb gb) : TDo K W (tOp r ta tb) (eOp f ga gb) := fun F0 H0 F H σ ρ Q S q =>
  ha F0 H0 F H σ ρ _ S (by
    unfold eOp at q
    cases e : ga ρ with
    | exc c => rw [e] at q; exact q
    | bad => rw [e] at q; exact q
    | ok a =>
      rw [e] at q
      intro F1 H1 e1 v rv
      refine hb F0 H0 F1 H1 σ ρ _ (S.go e1) ?_
      have q : Fin K W σ F H ((gb ρ).bind fun b => f a b) (OwQ K H Q) := q
      cases e' : gb ρ with
      | exc c => rw [e'] at q; exact Fin.mono e1 (r := (.exc c : R PD)) q
      | bad => rw [e'] at q; exact q
      | ok b =>
        rw [e'] at q
        intro F2 H2 e2 u ru
        have q2 : Fin K W σ F2 H2 (f a b) (OwQ K H Q) := Fin.mono (e1.trans e2) q
        exact hr W σ F2 H2 v u a b Q e2.g (rv.ext e2.f e2.h) ru (q2.imp fun x F' H' e3 k p hp hf ho => k p ((e1.trans e2).h.free hp) hf ho))
theorem td_un {r : V → Hp → VK → Prop} {f : PD → R PD} (hr : RU K r f) (ha : TDr K W ta ga) : TDe K W (tUn r ta) (eUn f ga) := fun F0 H0 F H σ ρ Q S q =>
  ha F0 H0 F H σ ρ _ S (q.then fun a F1 H1 e1 k1 v rv => hr W σ F1 H1 v a Q e1.g rv k1)
theorem RD.or {g : PD → PD → R PD} (h : ∀ (W : WX) (σ : L2.St) (F H : Hp) (x y : V) (a b : PD) (Q : VK), Same F H → Rp K F H x a → Rp K F H y b → Fin K W σ F H (g a b) (DpQ K Q) → r x y H Q ∨ r' x y H Q) :
    RD K (fun x y H Q => r x y H Q ∨ r' x y H Q) g := h

/-! ### tests -/
def asB : PD → R Bool
  | .bool b => .ok b
  | _ => .bad
def bOf (g : Rho → R PD) : Rho → R Bool := fun ρ => (g ρ).bind asB
theorem asB_q {Q : Bool → Hp → Prop} {F1 H1 : Hp} {σ : L2.St} {a : PD} {v : V} (s : Same F1 H1) (r : Rp K F1 H1 v a) (k : Fin K W σ F1 H1 (asB a) (BoQ Q)) : ∃ c, v = .bl c ∧ Q c H1 := by
  cases a with
  | bool b =>
    have e := r.bool
    exact ⟨b, e, k.ok s⟩
  | _ => exact k.elim
theorem tt_test (h : TDr K W t g) : TDt K W (tTest t) (bOf g) := fun F0 H0 F H σ ρ Q S q =>
  h F0 H0 F H σ ρ _ S (q.then fun a F1 H1 e1 k1 v rv => asB_q e1.g rv k1)
theorem tt_B (h : TDr K W t g) : TDt K W (tB t) (bOf g) := fun F0 H0 F H σ ρ Q S q =>
  h F0 H0 F H σ ρ _ S (q.then fun a F1 H1 e1 k1 v rv => asB_q e1.g rv k1)
variable {t1 t2 : TT} {g1 g2 : Rho → R Bool}
def bAnd (g1 g2 : Rho → R Bool) : Rho → R Bool := fun ρ => (g1 ρ).bind fun c => if c = true then g2 ρ else .ok false
def bOr (g1 g2 : Rho → R Bool) : Rho → R Bool := fun ρ => (g1 ρ).bind fun c => if c = true then .ok true else g2 ρ
def bNot (g1 : Rho → R Bool) : Rho → R Bool := fun ρ => (g1 ρ).bind fun c => .ok !c
theorem tt_and (h1 : TDt K W t1 g1) (h2 : TDt K W t2 g2) : TDt K W (tAnd t1 t2) (bAnd g1 g2) := fun F0 H0 F H σ ρ Q S q =>
  h1 F0 H0 F H σ ρ _ S (q.then fun c F1 H1 e1 k1 => by
    cases c with
    | true => exact h2 F0 H0 F1 H1 σ ρ Q (S.go e1) k1
    | false => exact Fin.okk (x := false) K W σ e1.g k1)
theorem tt_or (h1 : TDt K W t1 g1) (h2 : TDt K W t2 g2) : TDt K W (tOr t1 t2) (bOr g1 g2) := fun F0 H0 F H σ ρ Q S q =>
  h1 F0 H0 F H σ ρ _ S (q.then fun c F1 H1 e1 k1 => by
    cases c with
    | false => exact h2 F0 H0 F1 H1 σ ρ Q (S.go e1) k1
    | true => exact Fin.okk (x := true) K W σ e1.g k1)
theorem tt_not (h1 : TDt K W t1 g1) : TDt K W (tNot t1) (bNot g1) := fun F0 H0 F H σ ρ Q S q =>
  h1 F0 H0 F H σ ρ _ S (q.then fun c F1 H1 e1 k1 => Fin.okk (x := !c) K W σ e1.g k1)
/-- .. as values -/
def eAnd (ga gb : Rho → R PD) : Rho → R PD := fun ρ => (ga ρ).bind fun a => (asB a).bind fun c => if c = true then gb ρ else .ok (.bool false)
def eOr (ga gb : Rho → R PD) : Rho → R PD := fun ρ => (ga ρ).bind fun a => (asB a).bind fun c => if c = true then .ok (.bool true) else gb ρ
def eNot (ga : Rho → R PD) : Rho → R PD := fun ρ => (ga ρ).bind fun a => (asB a).bind fun c => .ok (.bool !c)
theorem asB_k {P : PD → Hp → Hp → Prop} {F1 H1 : Hp} {σ : L2.St} {a : PD} {v : V} {k : Bool → R PD} (s : Same F1 H1) (r : Rp K F1 H1 v a) (h : Fin K W σ F1 H1 ((asB a).bind k) P) : ∃ c, v = .bl c ∧ Fin K W σ F1 H1 (k c) P := by
  cases a with
  | bool b => exact ⟨b, r.bool, h⟩
  | _ => exact h.elim
theorem td_and (ha : TDr K W ta ga) (hb : TDe K W tb gb) : TDe K W (tAndV ta tb) (eAnd ga gb) := fun F0 H0 F H σ ρ Q S q =>
  ha F0 H0 F H σ ρ _ S (q.then fun a F1 H1 e1 k1 v rv => by
    obtain ⟨c, e, k2⟩ := asB_k e1.g rv k1
    refine ⟨c, e, ?_⟩
    cases c with
    | true => exact hb F0 H0 F1 H1 σ ρ Q (S.go e1) k2
    | false => exact Fin.okk (x := PyData.bool false) K W σ e1.g k2 _ (.bl false))
theorem td_or (ha : TDr K W ta ga) (hb : TDe K W tb gb) : TDe K W (tOrV ta tb) (eOr ga gb) := fun F0 H0 F H σ ρ Q S q =>
  ha F0 H0 F H σ ρ _ S (q.then fun a F1 H1 e1 k1 v rv => by
    obtain ⟨c, e, k2⟩ := asB_k e1.g rv k1
    refine ⟨c, e, ?_⟩
    cases c with
    | false => exact hb F0 H0 F1 H1 σ ρ Q (S.go e1) k2
    | true => exact Fin.okk (x := PyData.bool true) K W σ e1.g k2 _ (.bl true))
theorem td_not (ha : TDr K W ta ga) : TDe K W (tNotV ta) (eNot ga) := fun F0 H0 F H σ ρ Q S q =>
  ha F0 H0 F H σ ρ _ S (q.then fun a F1 H1 e1 k1 v rv => by
    obtain ⟨c, e, k2⟩ := asB_k e1.g rv k1
    exact ⟨c, e, Fin.okk (x := PyData.bool !c) K W σ e1.g k2 _ (.bl _)⟩)
def eIf (gt : Rho → R Bool) (ga gb : Rho → R PD) : Rho → R PD := fun ρ => (gt ρ).bind fun c => if c = true then ga ρ else gb ρ
theorem td_if (h1 : TDt K W t1 g1) (ha : TDe K W ta ga) (hb : TDe K W tb gb) : TDe K W (tIf t1 ta tb) (eIf g1 ga gb) := fun F0 H0 F H σ ρ Q S q =>
  h1 F0 H0 F H σ ρ _ S (q.then fun c F1 H1 e1 k1 => by
    cases c with
    | true => exact ha F0 H0 F1 H1 σ ρ Q (S.go e1) k1
    | false => exact hb F0 H0 F1 H1 σ ρ Q (S.go e1) k1)
/-- a op b op' c -/
def eChain (f f' : PD → PD → R PD) (ga gb gc : Rho → R PD) : Rho → R PD := fun ρ => (ga ρ).bind fun a => (gb ρ).bind fun b => (f a b).bind fun z => (asB z).bind fun k => if k = true then (gc ρ).bind fun c => f' b c else .ok (.bool false)
theorem td_chain (hr : RD K r f) (hr' : RD K r' f') (ha : TDr K W ta ga) (hb : TDr K W tb gb) (hc : TDr K W tc gc) : TDe K W (tChain r r' ta tb tc) (eChain f f' ga gb gc) := fun F0 H0 F H σ ρ Q S q =>
  ha F0 H0 F H σ ρ _ S (q.then fun a F1 H1 e1 k1 v rv => hb F0 H0 F1 H1 σ ρ _ (S.go e1) (k1.then fun b F2 H2 e2 k2 u ru =>
    hr W σ F2 H2 v u a b _ e2.g (rv.ext e2.f e2.h) ru (k2.then fun z F3 H3 e3 k3 zv rz => by
      obtain ⟨c, e, k4⟩ := asB_k e3.g (.inl rz) k3
      refine ⟨c, e, ?_⟩
      cases c with
      | false => exact Fin.okk (x := PyData.bool false) K W σ e3.g k4 _ (.bl false)
      | true => exact hc F0 H0 F3 H3 σ ρ _ (((S.go e1).go e2).go e3) (k4.then fun w F4 H4 e4 k5 wv rw' =>
          hr' W σ F4 H4 u wv b w Q e4.g ((ru.ext e3.f e3.h).ext e4.f e4.h) rw' k5))))

/-! ### arguments, displays -/
def aNil : Rho → R (List PD) := fun _ => .ok []
def aCons (ga : Rho → R PD) (gr : Rho → R (List PD)) : Rho → R (List PD) := fun ρ => (ga ρ).bind fun a => (gr ρ).bind fun l => .ok (a :: l)
variable {tr : TA} {gr : Rho → R (List PD)}
theorem ta_nil : TDa K W tNil aNil := fun F0 H0 F H σ ρ Q S q => q.ok S.same _ .nil
theorem ta_cons (ha : TDe K W ta ga) (hr : TDa K W tr gr) : TDa K W (tCons ta tr) (aCons ga gr) := fun F0 H0 F H σ ρ Q S q =>
  ha F0 H0 F H σ ρ _ S (q.then fun a F1 H1 e1 k1 v rv => hr F0 H0 F1 H1 σ ρ _ (S.go e1) (k1.then fun l F2 H2 e2 k2 vs rs => k2.ok e2.g _ (.cons (rv.mono e2.f) rs)))
theorem tq_nil : TDq K W tNil aNil := fun F0 H0 F H σ ρ Q S q => q.ok S.same _ .nil
theorem tq_cons (ha : TDr K W ta ga) (hr : TDq K W tr gr) : TDq K W (tCons ta tr) (aCons ga gr) := fun F0 H0 F H σ ρ Q S q =>
  ha F0 H0 F H σ ρ _ S (q.then fun a F1 H1 e1 k1 v rv => hr F0 H0 F1 H1 σ ρ _ (S.go e1) (k1.then fun l F2 H2 e2 k2 vs rs => k2.ok e2.g _ (.cons (rv.ext e2.f e2.h) rs)))
def eTup (gr : Rho → R (List PD)) : Rho → R PD := fun ρ => (gr ρ).bind fun l => if l.length ≤ sizeLine then .ok (.tuple l) else .bad
def oLst (gr : Rho → R (List PD)) : Rho → R PD := fun ρ => (gr ρ).bind fun l => if l.length ≤ sizeLine then .ok (.list l) else .bad
theorem td_tup (hr : TDa K W tr gr) : TDe K W (tTup tr) (eTup gr) := fun F0 H0 F H σ ρ Q S q =>
  hr F0 H0 F H σ ρ _ S (q.then fun l F1 H1 e1 k1 vs rs => by
    by_cases hl : l.length ≤ sizeLine
    · rw [if_pos hl] at k1
      refine ⟨by rw [rs.length]; exact hl, fun p hp => ?_⟩
      have e2 := Ext.new (o := .tup vs) e1.g hp
      exact k1 _ _ e2 _ (.tup upd_same (rs.mono e2.f))
    · rw [if_neg hl] at k1
      exact k1.elim)
theorem to_lst (hr : TDa K W tr gr) : TDo K W (tLst tr) (oLst gr) := fun F0 H0 F H σ ρ Q S q =>
  hr F0 H0 F H σ ρ _ S (q.then fun l F1 H1 e1 k1 vs rs => by
    by_cases hl : l.length ≤ sizeLine
    · rw [if_pos hl] at k1
      refine ⟨by rw [rs.length]; exact hl, fun p hp => ?_⟩
      have e2 := Ext.own (o := .lst vs) e1.g hp
      exact k1 _ _ e2 p (e1.h.free hp) (e1.g.free hp) ⟨vs, upd_same, rs⟩
    · rw [if_neg hl] at k1
      exact k1.elim)
end

/-! ### statements -/
inductive SR where
  | nx (ρ : Rho)
  | rt (s : Sl)
  | bk (ρ : Rho)
  | ct (ρ : Rho)
  | exc (c : Ec)
  | bad
def SR.seq (a : SR) (k : Rho → SR) : SR := match a with
  | .nx ρ => k ρ
  | s => s
def SR.of {α : Type} (r : R α) (k : α → SR) : SR := match r with
  | .ok a => k a
  | .exc c => .exc c
  | .bad => .bad
def RetQ (K : PySem.W.Frag) (F0 H0 : Hp) (Q : VK) : Sl → Prop
  | .d x => ∀ v F H, Ext F0 H0 F H → Dp K F v x → Q v H
  | .t x => ∀ v fp F H, Ext F0 H0 F H → TvAt K F H fp v x → fp.Nodup → (∀ p ∈ fp, H0 p = none ∧ F p = none) → Q v H
  | .l _ => False
def FinS (K : PySem.W.Frag) (W : WX) (F0 H0 : Hp) (D : Ends) : SR → Prop
  | .nx ρ => ∀ σ F H, StR K F0 H0 F H σ ρ → D.nx σ H
  | .bk ρ => ∀ σ F H, StR K F0 H0 F H σ ρ → D.bk σ H
  | .ct ρ => ∀ σ F H, StR K F0 H0 F H σ ρ → D.ct σ H
  | .rt s => RetQ K F0 H0 D.rt s
  | .exc c => ∀ cls d σ F H, Ext F0 H0 F H → ExR K c cls d H → W cls d σ H
  | .bad => False
def TDS (K : PySem.W.Frag) (W : WX) (t : TS) (s : Rho → SR) : Prop := ∀ (F0 H0 F H : Hp) (σ : L2.St) (ρ : Rho) (D : Ends), StR K F0 H0 F H σ ρ → FinS K W F0 H0 D (s ρ) → t D σ H
section
variable {K : PySem.W.Frag} {W : WX} {F0 H0 F H : Hp} {D D' : Ends} {σ : L2.St} {ρ : Rho}
theorem FinS.of {α : Type} {r : R α} {k : α → SR} {P : α → Hp → Hp → Prop} (b : Ext F0 H0 F H) (h : FinS K W F0 H0 D (SR.of r k)) (f : ∀ x F1 H1, Ext F H F1 H1 → FinS K W F0 H0 D (k x) → P x F1 H1) : Fin K W σ F H r P := by
  cases r with
  | ok x => exact fun F1 H1 e => f x F1 H1 e h
  | exc c => exact fun cls d F1 H1 e q => h cls d σ F1 H1 (b.trans e) q
  | bad => exact h
/-- the base put to where one stands -/
theorem FinS.rebase {s : SR} (b : Ext F0 H0 F H) (h : FinS K W F0 H0 D s) : FinS K W F H0 D s := by
  cases s with
  | nx ρ => exact fun σ F1 H1 S => h σ F1 H1 (S.unbase b)
  | bk ρ => exact fun σ F1 H1 S => h σ F1 H1 (S.unbase b)
  | ct ρ => exact fun σ F1 H1 S => h σ F1 H1 (S.unbase b)
  | rt s =>
    cases s with
    | d x => exact fun v F1 H1 e q => h v F1 H1 (b.base e) q
    | t x => exact fun v fp F1 H1 e q1 q2 q3 => h v fp F1 H1 (b.base e) q1 q2 q3
    | l x => exact h
  | exc c => exact fun cls d σ F1 H1 e q => h cls d σ F1 H1 (b.base e) q
  | bad => exact h
theorem SR.seq_fin {s : SR} {k : Rho → SR} (h : FinS K W F0 H0 D (s.seq k)) (hn : ∀ ρ σ F H, StR K F0 H0 F H σ ρ → FinS K W F0 H0 D (k ρ) → D'.nx σ H) (e1 : D'.rt = D.rt) (e2 : D'.bk = D.bk) (e3 : D'.ct = D.ct) : FinS K W F0 H0 D' s := by
  cases s with
  | nx ρ => exact fun σ F H S => hn ρ σ F H S h
  | bk ρ => exact fun σ F H S => by rw [e2]; exact h σ F H S
  | ct ρ => exact fun σ F H S => by rw [e3]; exact h σ F H S
  | rt s =>
    show RetQ K F0 H0 D'.rt s
    rw [e1]; exact h
  | exc c => exact h
  | bad => exact h
end
section
variable {K : PySem.W.Frag} {W : WX} {t u : TS} {s s' : Rho → SR} {te : TE} {g : Rho → R PD} {tt : TT} {gt : Rho → R Bool}
def sNext : Rho → SR := .nx
theorem ds_next : TDS K W tNext sNext := fun F0 H0 F H σ ρ D S q => q σ F H S
def sSeq (s s' : Rho → SR) : Rho → SR := fun ρ => (s ρ).seq s'
theorem ds_seq (h : TDS K W t s) (h' : TDS K W u s') : TDS K W (tSeq t u) (sSeq s s') := fun F0 H0 F H σ ρ D S q =>
  h F0 H0 F H σ ρ _ S (SR.seq_fin (D' := { D with nx := u D }) q (fun ρ1 σ1 F1 H1 S1 q1 => h' F0 H0 F1 H1 σ1 ρ1 D S1 q1) rfl rfl rfl)
def sBreak : Rho → SR := .bk
def sCont : Rho → SR := .ct
theorem ds_break : TDS K W tBreak sBreak := fun F0 H0 F H σ ρ D S q => q σ F H S
theorem ds_cont : TDS K W tCont sCont := fun F0 H0 F H σ ρ D S q => q σ F H S
theorem ds_never : TDS K W tNever (fun _ => .bad) := fun F0 H0 F H σ ρ D S q => q
/-- ahead of a statement lists become data -/
def sFrz (is : List Nat) (s : Rho → SR) : Rho → SR := fun ρ => s (is.foldl (fun ρ i => frz1 i ρ) ρ)
theorem ds_frz (is : List Nat) (h : TDS K W t s) : TDS K W t (sFrz is s) := by
  unfold sFrz
  induction is with
  | nil => exact h
  | cons i is ih =>
    intro F0 H0 F H σ ρ D S q
    obtain ⟨F', e, _, S'⟩ := S.frz1 i
    exact ih F0 H0 F' H σ _ D S' q
def sRet (g : Rho → R PD) : Rho → SR := fun ρ => SR.of (g ρ) fun x => .rt (.d x)
def sRetO (g : Rho → R PD) : Rho → SR := fun ρ => SR.of (g ρ) fun x => .rt (.o x)
/-- return of a name -/
def sRetV (i : Nat) : Rho → SR := fun ρ => match ρ[i]? with
  | some (some s) => .rt s
  | _ => .bad
theorem ds_ret (h : TDe K W te g) : TDS K W (tRet te) (sRet g) := fun F0 H0 F H σ ρ D S q =>
  h F0 H0 F H σ ρ _ S (q.of S.ext fun x F1 H1 e k v r => k v F1 H1 (S.ext.trans e) r)
theorem RetQ.own {F0 H0 : Hp} {Q : VK} {x : PD} (h : RetQ K F0 H0 Q (.o x)) : ∀ p F H, Ext F0 H0 F H → H0 p = none → F p = none → OwnAt K F H p x → Q (.ref p) H :=
  fun p F H e h1 h2 h3 => h (.ref p) [p] F H e (.own h3) (by simp) fun q hq => by rw [List.mem_singleton.mp hq]; exact ⟨h1, h2⟩
theorem ds_retO (h : TDo K W te g) : TDS K W (tRet te) (sRetO g) := fun F0 H0 F H σ ρ D S q =>
  h F0 H0 F H σ ρ _ S (q.of S.ext fun x F1 H1 e k p hp hf ho => RetQ.own k p F1 H1 (S.ext.trans e) (S.ext.h.free hp) hf ho)
theorem ds_retV (i : Nat) : TDS K W (tRet (tVar i)) (sRetV i) := fun F0 H0 F H σ ρ D S q => by
  unfold sRetV at q
  split at q
  · rename_i s e
    cases s with
    | d x =>
      obtain ⟨v, a, b⟩ := S.dat i x e
      exact ⟨v, a, q v F H S.ext b⟩
    | t x =>
      obtain ⟨φ, S⟩ := S
      obtain ⟨v, a, b⟩ := S.tre i x e
      exact ⟨_, a, q v (φ i) F H S.ext b (S.nod i) fun p hp => let ⟨x1, x2, _⟩ := S.fre i p hp; ⟨x1, x2⟩⟩
    | l x => exact q.elim
  · exact q.elim
theorem ds_retN : TDS K W tRetN (fun _ => .rt (.d .none)) := fun F0 H0 F H σ ρ D S q => q .non F H S.ext .non
def sIf (gt : Rho → R Bool) (s s' : Rho → SR) : Rho → SR := fun ρ => SR.of (gt ρ) fun c => if c = true then s ρ else s' ρ
theorem ds_if (ht : TDt K W tt gt) (h : TDS K W t s) (h' : TDS K W u s') : TDS K W (tIfS tt t u) (sIf gt s s') := fun F0 H0 F H σ ρ D S q =>
  ht F0 H0 F H σ ρ _ S (q.of S.ext fun c F1 H1 e k => by
    cases c with
    | true => exact h F0 H0 F1 H1 σ ρ D (S.go e) k
    | false => exact h' F0 H0 F1 H1 σ ρ D (S.go e) k)
def sDrop (g : Rho → R PD) : Rho → SR := fun ρ => SR.of (g ρ) fun _ => .nx ρ
theorem ds_drop (h : TDe K W te g) : TDS K W (tDrop te) (sDrop g) := fun F0 H0 F H σ ρ D S q =>
  h F0 H0 F H σ ρ _ S (q.of S.ext fun x F1 H1 e k v r => k σ F1 H1 (S.go e))

/-! ### targets -/
/-- a target: names (of the slots vs) and tuples of them -/
def TDg (K : PySem.W.Frag) (vs : List Nat) (g : TG) (a : Rho → PD → R Rho) : Prop := ∀ (F0 H0 F H : Hp) (σ : L2.St) (ρ : Rho) (v : V) (x : PD) (Q : L2.St → Hp → Prop), StR K F0 H0 F H σ ρ → Dp K F v x →
  (match a ρ x with | .ok ρ' => ∀ σ', StR K F0 H0 F H σ' ρ' → wipe σ' vs = wipe σ vs → Q σ' H | _ => False) → g v σ H Q
def TDgs (K : PySem.W.Frag) (vs : List Nat) (g : TGs) (a : Rho → List PD → R Rho) : Prop := ∀ (F0 H0 F H : Hp) (σ : L2.St) (ρ : Rho) (us : List V) (xs : List PD) (Q : L2.St → Hp → Prop), StR K F0 H0 F H σ ρ → DpAll K F us xs →
  (match a ρ xs with | .ok ρ' => ∀ σ', StR K F0 H0 F H σ' ρ' → wipe σ' vs = wipe σ vs → Q σ' H | _ => False) → g us σ H Q
theorem wipe_set {σ : L2.St} {i : Nat} {x : Option V} : ∀ {vs : List Nat}, i ∈ vs → wipe (σ.set i x) vs = wipe σ vs
  | [], h => by cases h
  | v :: vs, h => by
    unfold wipe
    by_cases hm : i ∈ vs
    · rw [wipe_set hm]
    · have e : v = i := by
        rcases List.mem_cons.mp h with z | z
        · exact z.symm
        · exact absurd z hm
      subst e
      have go : ∀ {us : List Nat}, v ∉ us → wipe (σ.set v x) us = (wipe σ us).set v x := by
        intro us
        induction us with
        | nil => intro _; rfl
        | cons u us ih =>
          intro hn
          simp only [List.mem_cons, not_or] at hn
          unfold wipe
          rw [ih hn.2, List.set_comm _ _ hn.1]
      rw [go hm, List.set_set]
def aName (i : Nat) : Rho → PD → R Rho := fun ρ x => .ok (ρ.set i (some (.d x)))
theorem dg_name (i : Nat) {vs : List Nat} (h : i ∈ vs := by decide) : TDg K vs (gName i) (aName i) := fun F0 H0 F H σ ρ v x Q S r q => q _ (S.setD r) (wipe_set h)
def asNil : Rho → List PD → R Rho := fun ρ xs => match xs with
  | [] => .ok ρ
  | _ => .bad
def asCons (a : Rho → PD → R Rho) (b : Rho → List PD → R Rho) : Rho → List PD → R Rho := fun ρ xs => match xs with
  | x :: xs => (a ρ x).bind fun ρ' => b ρ' xs
  | [] => .bad
theorem dgs_nil {vs : List Nat} : TDgs K vs gNil asNil := fun F0 H0 F H σ ρ us xs Q S r q => by
  cases r with
  | nil => exact ⟨rfl, q σ S rfl⟩
  | cons _ _ => exact q.elim
theorem dgs_cons {vs : List Nat} {gx : TG} {gs : TGs} {a : Rho → PD → R Rho} {b : Rho → List PD → R Rho} (h : TDg K vs gx a) (hs : TDgs K vs gs b) : TDgs K vs (gCons gx gs) (asCons a b) := fun F0 H0 F H σ ρ us xs Q S r q => by
  cases r with
  | nil => exact q.elim
  | cons r1 r2 =>
    refine ⟨_, _, rfl, h F0 H0 F H σ ρ _ _ _ S r1 ?_⟩
    rename_i v us x xs
    have q : (match (a ρ x).bind fun ρ' => b ρ' xs with | .ok ρ' => ∀ σ', StR K F0 H0 F H σ' ρ' → wipe σ' vs = wipe σ vs → Q σ' H | _ => False) := q
    cases e : a ρ x with
    | ok ρ1 =>
      rw [e] at q
      intro σ1 S1 w1
      refine hs F0 H0 F H σ1 ρ1 _ _ _ S1 r2 ?_
      have q : (match b ρ1 xs with | .ok ρ' => ∀ σ', StR K F0 H0 F H σ' ρ' → wipe σ' vs = wipe σ vs → Q σ' H | _ => False) := q
      cases e2 : b ρ1 xs with
      | ok ρ2 => rw [e2] at q; exact fun σ2 S2 w2 => q σ2 S2 (w2.trans w1)
      | exc c => rw [e2] at q; exact q.elim
      | bad => rw [e2] at q; exact q.elim
    | exc c => rw [e] at q; exact q.elim
    | bad => rw [e] at q; exact q.elim
def aTup (n : Nat) (b : Rho → List PD → R Rho) : Rho → PD → R Rho := fun ρ x => match x with
  | .tuple xs => if xs.length = n then b ρ xs else .bad
  | _ => .bad
theorem dg_tup {vs : List Nat} {n : Nat} {gs : TGs} {b : Rho → List PD → R Rho} (hs : TDgs K vs gs b) : TDg K vs (gTup K n gs) (aTup n b) := fun F0 H0 F H σ ρ v x Q S r q => by
  unfold aTup at q
  cases r with
  | tup s a =>
    simp only at q
    split at q
    · rename_i e
      split at e
      · rename_i hl
        refine ⟨_, _, rfl, SqT.of (S.same _ _ s), by rw [a.length]; exact hl, hs F0 H0 F H σ ρ _ _ _ S a ?_⟩
        rw [e]; exact q
      · cases e
    · exact q.elim
  | _ => exact q.elim
/-- target = value -/
def SR.ofT : R Rho → SR
  | .ok ρ => .nx ρ
  | _ => .bad
def sAsg (g : Rho → R PD) (a : Rho → PD → R Rho) : Rho → SR := fun ρ => SR.of (g ρ) fun x => SR.ofT (a ρ x)
theorem ds_asg {vs : List Nat} {gx : TG} {a : Rho → PD → R Rho} (h : TDe K W te g) (hg : TDg K vs gx a) : TDS K W (tAsg te gx) (sAsg g a) := fun F0 H0 F H σ ρ D S q =>
  h F0 H0 F H σ ρ _ S (q.of S.ext fun x F1 H1 e k v r => hg F0 H0 F1 H1 σ ρ v x _ (S.go e) r (by
    have k : FinS K W F0 H0 D (SR.ofT (a ρ x)) := k
    cases e : a ρ x with
    | ok ρ1 => rw [e] at k; exact fun σ1 S1 _ => k σ1 F1 H1 S1
    | exc c => rw [e] at k; exact k
    | bad => rw [e] at k; exact k))
/-- name = a new list, a new dict -/
def sSetO (i : Nat) (g : Rho → R PD) : Rho → SR := fun ρ => SR.of (g ρ) fun x => .nx (ρ.set i (some (.o x)))
/-- name = data -/
def sSet (i : Nat) (g : Rho → R PD) : Rho → SR := fun ρ => SR.of (g ρ) fun x => .nx (ρ.set i (some (.d x)))
theorem ds_set (i : Nat) (h : TDe K W te g) : TDS K W (tAsg te (gName i)) (sSet i g) := fun F0 H0 F H σ ρ D S q =>
  h F0 H0 F H σ ρ _ S (q.of S.ext fun x F1 H1 e k v r => k _ F1 H1 ((S.go e).setD r))
theorem ds_setO (i : Nat) (h : TDo K W te g) : TDS K W (tAsg te (gName i)) (sSetO i g) := fun F0 H0 F H σ ρ D S q =>
  h F0 H0 F H σ ρ _ S (q.of S.ext fun x F1 H1 e k p hp hf ho => k _ F1 H1 (S.setN e hp hf ho))
end
end DL
namespace DL
open PySem PySem.Spec PyProof.Rows L2

/-! ### what is walked -/
def ItR (K : PySem.W.Frag) (F : Hp) (ds : List PD) (J : It) : Prop := ∀ (i : Nat) (F1 H1 : Hp), Same F F1 → Same F1 H1 →
  (∀ d, ds[i]? = some d → J.go i H1 ∧ ∀ x H2, J.yld i H1 x H2 → ∃ F2, Ext F1 H1 F2 H2 ∧ Dp K F2 x d) ∧ (ds.length ≤ i → J.stop i H1)
def TDi (K : PySem.W.Frag) (W : WX) (wi : TI) (gi : Rho → R (List PD)) : Prop := ∀ (F0 H0 F H : Hp) (σ : L2.St) (ρ : Rho) (Q : It → Hp → Prop), StR K F0 H0 F H σ ρ → Fin K W σ F H (gi ρ) (fun ds F' H' => ∀ J, ItR K F' ds J → Q J H') → wi σ H Q
theorem itr_list {K : PySem.W.Frag} {F : Hp} {a : Addr} {vs : List V} {ds : List PD} (s : SqL K F a vs) (r : DpAll K F vs ds) : ItR K F ds (Itl K a) := fun i F1 H1 e1 e2 => by
  have s1 := seqL (e1.trans e2) s
  refine ⟨fun d hd => ?_, fun hl => ⟨vs, s1, by rw [r.length]; exact hl⟩⟩
  obtain ⟨v, hv, rv⟩ := r.get' hd
  refine ⟨⟨vs, v, s1, hv⟩, fun x H2 y => ?_⟩
  obtain ⟨rfl, y⟩ := y
  have e := y vs s1
  rw [hv] at e; cases e
  exact ⟨F1, Ext.refl e2, rv.mono e1⟩
theorem itr_tup {K : PySem.W.Frag} {F : Hp} {a : Addr} {vs : List V} {ds : List PD} (s : SqT K F a vs) (r : DpAll K F vs ds) : ItR K F ds (Itt K a) := fun i F1 H1 e1 e2 => by
  have s1 := seqT (e1.trans e2) s
  refine ⟨fun d hd => ?_, fun hl => ⟨vs, s1, by rw [r.length]; exact hl⟩⟩
  obtain ⟨v, hv, rv⟩ := r.get' hd
  refine ⟨⟨vs, v, s1, hv⟩, fun x H2 y => ?_⟩
  obtain ⟨rfl, y⟩ := y
  have e := y vs s1
  rw [hv] at e; cases e
  exact ⟨F1, Ext.refl e2, rv.mono e1⟩
def signs (x : Str) : List PD := x.cps.toList.map fun c => .str ⟨#[c]⟩
theorem itr_str {K : PySem.W.Frag} {F : Hp} {x : Str} : ItR K F (signs x) (Its x) := fun i F1 H1 e1 e2 => by
  refine ⟨fun d hd => ?_, fun hl => by simpa [signs, Its] using hl⟩
  unfold signs at hd
  rw [List.getElem?_map] at hd
  cases e : x.cps.toList[i]? with
  | none => rw [e] at hd; cases hd
  | some c =>
    rw [e] at hd
    have hd : PyData.str ⟨#[c]⟩ = d := Option.some.inj hd
    subst hd
    have hc : x.cps[i]? = some c := by simpa using e
    refine ⟨(Array.getElem?_eq_some_iff.mp hc).1, fun v H2 y => ?_⟩
    obtain ⟨rfl, c', h', rfl⟩ := y
    rw [hc] at h'; cases h'
    exact ⟨F1, Ext.refl e2, .str _⟩
def rngD (lo : Int) (n : Nat) : List PD := (List.range n).map fun i => .int (lo + (i : Nat))
theorem itr_rng {K : PySem.W.Frag} {F : Hp} {lo : Int} {n : Nat} : ItR K F (rngD lo n) (Itr lo n) := fun i F1 H1 e1 e2 => by
  refine ⟨fun d hd => ?_, fun hl => by simpa [rngD, Itr] using hl⟩
  unfold rngD at hd
  rw [List.getElem?_map] at hd
  by_cases hn : i < n
  · rw [List.getElem?_range hn] at hd
    cases hd
    refine ⟨hn, fun v H2 y => ?_⟩
    obtain ⟨rfl, rfl⟩ := y
    exact ⟨F1, Ext.refl e2, .int _⟩
  · rw [List.getElem?_eq_none (by simpa using hn)] at hd; cases hd
def enumD (ds : List PD) : List PD := ds.zipIdx.map fun p => .tuple [.int (p.2 : Nat), p.1]
theorem enum_at {ds : List PD} {i : Nat} {d : PD} (h : (enumD ds)[i]? = some d) : ∃ x, ds[i]? = some x ∧ d = .tuple [.int (i : Nat), x] := by
  unfold enumD at h
  rw [List.getElem?_map, List.getElem?_zipIdx] at h
  cases e : ds[i]? with
  | none => rw [e] at h; cases h
  | some x =>
    rw [e] at h
    refine ⟨x, rfl, ?_⟩
    have h := (Option.some.inj h).symm
    simpa using h
theorem itr_enum {K : PySem.W.Frag} {F : Hp} {a : Addr} {vs : List V} {ds : List PD} (s : SqL K F a vs) (r : DpAll K F vs ds) : ItR K F (enumD ds) (Ite K a) := fun i F1 H1 e1 e2 => by
  have s1 := seqL (e1.trans e2) s
  refine ⟨fun d hd => ?_, fun hl => ⟨vs, s1, by rw [r.length]; simpa [enumD] using hl⟩⟩
  obtain ⟨x, hx, rfl⟩ := enum_at hd
  obtain ⟨v, hv, rv⟩ := r.get' hx
  refine ⟨⟨vs, v, s1, hv⟩, fun x' H2 y => ?_⟩
  obtain ⟨T, u, rfl, hT, rfl, y⟩ := y
  have e := y vs s1
  rw [hv] at e; cases e
  have ex := Ext.new (o := .tup [.int (i : Nat), v]) e2 hT
  exact ⟨_, ex, .tup upd_same (.cons (.int _) (.cons (rv.mono (e1.trans ex.f)) .nil))⟩
def zipD (ds es : List PD) : List PD := (ds.zip es).map fun p => .tuple [p.1, p.2]
theorem itr_zip {K : PySem.W.Frag} {F : Hp} {a b : Addr} {vs us : List V} {ds es : List PD} (s : SqL K F a vs) (r : DpAll K F vs ds) (s' : SqL K F b us) (r' : DpAll K F us es) : ItR K F (zipD ds es) (Itz K a b) := fun i F1 H1 e1 e2 => by
  have s1 := seqL (e1.trans e2) s
  have s2 := seqL (e1.trans e2) s'
  refine ⟨fun d hd => ?_, fun hl => ⟨vs, us, s1, s2, ?_⟩⟩
  · unfold zipD at hd
    rw [List.getElem?_map] at hd
    cases e : (ds.zip es)[i]? with
    | none => rw [e] at hd; cases hd
    | some p =>
      rw [e] at hd
      have hd : PyData.tuple [p.1, p.2] = d := Option.some.inj hd
      subst hd
      obtain ⟨h1, h2⟩ := List.getElem?_zip_eq_some.mp e
      obtain ⟨v, hv, rv⟩ := r.get' h1
      obtain ⟨u, hu, ru⟩ := r'.get' h2
      refine ⟨⟨vs, us, v, u, s1, s2, hv, hu⟩, fun x' H2 y => ?_⟩
      obtain ⟨T, v', u', rfl, hT, rfl, y1, y2⟩ := y
      have z1 := y1 vs s1
      have z2 := y2 us s2
      rw [hv] at z1; cases z1
      rw [hu] at z2; cases z2
      have ex := Ext.new (o := .tup [v, u]) e2 hT
      exact ⟨_, ex, .tup upd_same (.cons (rv.mono (e1.trans ex.f)) (.cons (ru.mono (e1.trans ex.f)) .nil))⟩
  · rw [r.length, r'.length]
    unfold zipD at hl
    rw [List.length_map, List.length_zip] at hl
    omega
theorem itr_rev {K : PySem.W.Frag} {F : Hp} {a : Addr} {vs : List V} {ds : List PD} (s : SqL K F a vs) (r : DpAll K F vs ds) : ItR K F ds.reverse (Itv K a vs.length) := fun i F1 H1 e1 e2 => by
  have s1 := seqL (e1.trans e2) s
  refine ⟨fun d hd => ?_, fun hl => by have := r.length; simp [Itv] at hl ⊢; omega⟩
  have hi : i < ds.length := by simpa using (List.getElem?_eq_some_iff.mp hd).1
  rw [List.getElem?_reverse hi] at hd
  obtain ⟨v, hv, rv⟩ := r.get' hd
  rw [← r.length] at hv
  refine ⟨⟨by rw [r.length]; exact hi, vs, v, s1, hv⟩, fun x H2 y => ?_⟩
  obtain ⟨rfl, y⟩ := y
  have e := y vs s1
  rw [hv] at e; cases e
  exact ⟨F1, Ext.refl e2, rv.mono e1⟩

/-- a list, a tuple or a text, by what it is -/
def iSeq (K : PySem.W.Frag) (tl : TE) : TI := fun σ H R => tl σ H fun x H1 => (∃ a, x = .ref a ∧ (∃ xs, SqL K H1 a xs) ∧ R (Itl K a) H1) ∨ (∃ a, x = .ref a ∧ (∃ xs, SqT K H1 a xs) ∧ R (Itt K a) H1) ∨ ∃ z, x = .str z ∧ R (Its z) H1
theorem pi_seq {X : Cx} {tg l : Expr} {tl : TE} (hl : PE X l tl) : PI X tg l (iSeq X.K tl) := by
  refine ⟨fun pn s σ H0 R I h => ?_⟩
  refine thn (hl.run pn s σ H0 _ I h) fun v t1 ⟨x, G1, J1, k1, q1⟩ => ?_
  rcases q1 with ⟨a, e, ⟨xs, hq⟩, q⟩ | ⟨a, e, ⟨xs, hq⟩, q⟩ | ⟨z, ex, q⟩
  · subst e
    cases k1
    obtain ⟨ys, ry, p, hle⟩ := J1.list hq
    refine wpAny_pyIter_list p.isList ?_
    refine ⟨t1.heap.objs.size, [t1.heap.objs.size], _, _, G1, rfl, J1.kept (t' := t1.toks) fun b o e => Heap.get?_push_of_some _ e, turn_list a _, ⟨_, Heap.get?_push_size _ rfl, rfl, rfl⟩, fun b hbm => ?_, q⟩
    have e : b = t1.heap.objs.size := by simpa using hbm
    subst e
    exact J1.fpOk (Nat.le_refl _) (J1.hok.fresh (Nat.le_refl _))
  · subst e
    cases k1
    obtain ⟨ys, ry, p, hle⟩ := J1.tuple hq
    refine wpAny_pyIter_tuple (show t1.heap.IsTuple a ys.toArray from p) ?_
    refine ⟨t1.heap.objs.size, [t1.heap.objs.size], _, _, G1, rfl, J1.kept (t' := t1.toks) fun b o e => Heap.get?_push_of_some _ e, turn_tuple a _, ⟨_, Heap.get?_push_size _ rfl, rfl, rfl⟩, fun b hbm => ?_, q⟩
    have e : b = t1.heap.objs.size := by simpa using hbm
    subst e
    exact J1.fpOk (Nat.le_refl _) (J1.hok.fresh (Nat.le_refl _))
  · subst ex
    obtain ⟨t, rfl⟩ := k1
    cases ha : z.cps.all (· < 128)
    · exact wpAny_pyIter_wide ha (pi_one (tk := t1.toks) J1 _ (turn_str _ z t "str_iterator" (.inr rfl)) ⟨_, Heap.get?_push_size _ rfl, rfl, rfl⟩ q)
    · exact wpAny_pyIter_ascii ha (pi_one (tk := t1.toks) J1 _ (turn_str _ z t "str_ascii_iterator" (.inl rfl)) ⟨_, Heap.get?_push_size _ rfl, rfl, rfl⟩ q)
def itemsOf : PD → R (List PD)
  | .list ds => .ok ds
  | .tuple ds => .ok ds
  | .str x => .ok (signs x)
  | _ => .bad
def iItems (g : Rho → R PD) : Rho → R (List PD) := fun ρ => (g ρ).bind itemsOf
section
variable {K : PySem.W.Frag} {W : WX} {t : TE} {g : Rho → R PD} {ta : TA} {ga : Rho → R (List PD)}
theorem di_seq (h : TDe K W t g) : TDi K W (iSeq K t) (iItems g) := fun F0 H0 F H σ ρ Q S q =>
  h F0 H0 F H σ ρ _ S (q.then fun a F1 H1 e1 k1 v rv => by
    cases rv with
    | lst s r => exact .inl ⟨_, rfl, ⟨_, .inl (rdM e1.g s)⟩, Fin.okk (x := _) K W σ e1.g k1 _ (itr_list (.inl s) r)⟩
    | tup s r => exact .inr (.inl ⟨_, rfl, ⟨_, SqT.of (e1.g _ _ s)⟩, Fin.okk (x := _) K W σ e1.g k1 _ (itr_tup (SqT.of s) r)⟩)
    | str x => exact .inr (.inr ⟨_, rfl, Fin.okk (x := _) K W σ e1.g k1 _ itr_str⟩)
    | _ => exact k1.elim)
def small62 (i : Int) : Bool := decide (-(2 ^ 62) ≤ i) && decide (i < 2 ^ 62)
theorem small62_ok {i : Int} (h : small62 i = true) : -(2 ^ 62) ≤ i ∧ i < 2 ^ 62 := by
  unfold small62 at h
  rw [Bool.and_eq_true] at h
  exact ⟨of_decide_eq_true h.1, of_decide_eq_true h.2⟩
def rng1 : List PD → R (List PD)
  | [.int j] => if small62 j = true then .ok (rngD 0 j.toNat) else .bad
  | _ => .bad
def rng2 : List PD → R (List PD)
  | [.int i, .int j] => if small62 i = true ∧ small62 j = true then .ok (rngD i (j - i).toNat) else .bad
  | _ => .bad
def iRng1D (ga : Rho → R (List PD)) : Rho → R (List PD) := fun ρ => (ga ρ).bind rng1
def iRng2D (ga : Rho → R (List PD)) : Rho → R (List PD) := fun ρ => (ga ρ).bind rng2
theorem di_rng1 (h : TDq K W ta ga) : TDi K W (iRng1 ta) (iRng1D ga) := fun F0 H0 F H σ ρ Q S q =>
  h F0 H0 F H σ ρ _ S (q.then fun l F1 H1 e1 k1 vs rs => by
    unfold rng1 at k1
    split at k1
    · split at k1
      · rename_i hs
        obtain ⟨h1, h2⟩ := small62_ok hs
        cases rs with
        | cons r1 r2 =>
          cases r2
          exact ⟨_, by rw [r1.int], h1, h2, Fin.okk (x := _) K W σ e1.g k1 _ itr_rng⟩
      · exact k1.elim
    · exact k1.elim)
theorem di_rng2 (h : TDq K W ta ga) : TDi K W (iRng2 ta) (iRng2D ga) := fun F0 H0 F H σ ρ Q S q =>
  h F0 H0 F H σ ρ _ S (q.then fun l F1 H1 e1 k1 vs rs => by
    unfold rng2 at k1
    split at k1
    · split at k1
      · rename_i hs
        obtain ⟨h1, h2⟩ := small62_ok hs.1
        obtain ⟨h3, h4⟩ := small62_ok hs.2
        cases rs with
        | cons r1 r2 =>
          cases r2 with
          | cons r2 r3 =>
            cases r3
            exact ⟨_, _, by rw [r1.int, r2.int], ⟨h1, h2, h3, h4⟩, Fin.okk (x := _) K W σ e1.g k1 _ itr_rng⟩
      · exact k1.elim
    · exact k1.elim)
def enumO : List PD → R (List PD)
  | [.list ds] => .ok (enumD ds)
  | _ => .bad
def iEnumD (ga : Rho → R (List PD)) : Rho → R (List PD) := fun ρ => (ga ρ).bind enumO
theorem di_enum (h : TDa K W ta ga) : TDi K W (iEnum K ta) (iEnumD ga) := fun F0 H0 F H σ ρ Q S q =>
  h F0 H0 F H σ ρ _ S (q.then fun l F1 H1 e1 k1 vs rs => by
    unfold enumO at k1
    split at k1
    · cases rs with
      | cons r1 r2 =>
        cases r2
        cases r1 with
        | lst s r => exact ⟨_, _, rfl, .inl (rdM e1.g s), Fin.okk (x := _) K W σ e1.g k1 _ (itr_enum (.inl s) r)⟩
    · exact k1.elim)
def zipO : List PD → R (List PD)
  | [.list ds, .list es] => .ok (zipD ds es)
  | _ => .bad
def iZipD (ga : Rho → R (List PD)) : Rho → R (List PD) := fun ρ => (ga ρ).bind zipO
theorem di_zip (h : TDa K W ta ga) : TDi K W (iZip K ta) (iZipD ga) := fun F0 H0 F H σ ρ Q S q =>
  h F0 H0 F H σ ρ _ S (q.then fun l F1 H1 e1 k1 vs rs => by
    unfold zipO at k1
    split at k1
    · cases rs with
      | cons r1 r2 =>
        cases r2 with
        | cons r2 r3 =>
          cases r3
          cases r1 with
          | lst s r =>
            cases r2 with
            | lst s' r' => exact ⟨_, _, _, _, rfl, .inl (rdM e1.g s), .inl (rdM e1.g s'), Fin.okk (x := _) K W σ e1.g k1 _ (itr_zip (.inl s) r (.inl s') r')⟩
    · exact k1.elim)
def revO : List PD → R (List PD)
  | [.list ds] => .ok ds.reverse
  | _ => .bad
def iRevD (ga : Rho → R (List PD)) : Rho → R (List PD) := fun ρ => (ga ρ).bind revO
theorem di_rev (h : TDa K W ta ga) : TDi K W (iRev K ta) (iRevD ga) := fun F0 H0 F H σ ρ Q S q =>
  h F0 H0 F H σ ρ _ S (q.then fun l F1 H1 e1 k1 vs rs => by
    unfold revO at k1
    split at k1
    · cases rs with
      | cons r1 r2 =>
        cases r2
        cases r1 with
        | lst s r => exact ⟨_, _, rfl, .inl (rdM e1.g s), Fin.okk (x := _) K W σ e1.g k1 _ (itr_rev (.inl s) r)⟩
    · exact k1.elim)
end

/-! ### for, while -/
def forD (a : Rho → PD → R Rho) (body : Rho → SR) : List PD → Rho → SR
  | [], ρ => .nx ρ
  | x :: xs, ρ => match a ρ x with
    | .ok ρ1 => (match body ρ1 with
      | .nx ρ2 => forD a body xs ρ2
      | .ct ρ2 => forD a body xs ρ2
      | .bk ρ2 => .nx ρ2
      | .rt s => .rt s
      | .exc c => .exc c
      | .bad => .bad)
    | _ => .bad
def sFor (gi : Rho → R (List PD)) (a : Rho → PD → R Rho) (body : Rho → SR) : Rho → SR := fun ρ => SR.of (gi ρ) fun ds => forD a body ds ρ
def whileD (c : Rho → R Bool) (body : Rho → SR) : Nat → Rho → SR
  | 0, _ => .bad
  | n + 1, ρ => SR.of (c ρ) fun b => if b = true then (match body ρ with
      | .nx ρ2 => whileD c body n ρ2
      | .ct ρ2 => whileD c body n ρ2
      | .bk ρ2 => .nx ρ2
      | .rt s => .rt s
      | .exc c => .exc c
      | .bad => .bad) else .nx ρ
def sWhile (n : Nat) (c : Rho → R Bool) (body : Rho → SR) : Rho → SR := fun ρ => whileD c body n ρ
section
variable {K : PySem.W.Frag} {W : WX}
theorem ds_for {vs : List Nat} {wi : TI} {gi : Rho → R (List PD)} {gx : TG} {a : Rho → PD → R Rho} {tb : TS} {body : Rho → SR} (hi : TDi K W wi gi) (hg : TDg K vs gx a) (hb : TDS K W tb body) : TDS K W (tFor wi gx tb) (sFor gi a body) := fun F0 H0 F H σ ρ D S q => by
  refine hi F0 H0 F H σ ρ _ S (q.of S.ext fun ds F1 H1 e1 k J hJ => ?_)
  have S1 := S.go e1
  refine ⟨fun i m σ H => m = ds.length - i ∧ ∃ F ρ, StR K F0 H0 F H σ ρ ∧ Same F1 F ∧ FinS K W F0 H0 D (forD a body (ds.drop i) ρ), ⟨_, rfl, F1, ρ, S1, Same.refl F1, k⟩, ?_⟩
  rintro i m σ2 H2 ⟨rfl, F2, ρ2, S2, e2, k2⟩
  cases hd : ds[i]? with
  | none =>
    have hl := List.getElem?_eq_none_iff.mp hd
    rw [List.drop_eq_nil_of_le hl] at k2
    exact .inl ⟨(hJ i F2 H2 e2 S2.same).2 hl, k2 σ2 F2 H2 S2⟩
  | some d =>
    have hl := (List.getElem?_eq_some_iff.mp hd).1
    rw [List.drop_eq_getElem_cons hl, (List.getElem?_eq_some_iff.mp hd).2] at k2
    obtain ⟨go, yl⟩ := (hJ i F2 H2 e2 S2.same).1 d hd
    refine .inr ⟨go, fun σ' H' => ∃ F ρ, StR K F0 H0 F H' σ' ρ ∧ Same F1 F ∧ FinS K W F0 H0 D (forD a body (ds.drop (i + 1)) ρ), fun σ' H' ⟨F', ρ', S', e', k'⟩ => ⟨_, by omega, rfl, F', ρ', S', e', k'⟩, fun x H3 y => ?_⟩
    obtain ⟨F3, e3, r3⟩ := yl x H3 y
    refine hg F0 H0 F3 H3 σ2 ρ2 x d _ (S2.go e3) r3 ?_
    unfold forD at k2
    cases ea : a ρ2 d with
    | ok ρ3 =>
      rw [ea] at k2
      intro σ3 S3 _
      have b3 := S3.ext
      refine hb F3 H0 F3 H3 σ3 ρ3 _ S3.rebase ?_
      simp only at k2
      cases eb : body ρ3 with
      | nx ρ4 =>
        rw [eb] at k2
        exact fun σ4 F4 H4 S4 => ⟨F4, ρ4, S4.unbase b3, (e2.trans e3.f).trans S4.ext.f, k2⟩
      | ct ρ4 =>
        rw [eb] at k2
        exact fun σ4 F4 H4 S4 => ⟨F4, ρ4, S4.unbase b3, (e2.trans e3.f).trans S4.ext.f, k2⟩
      | bk ρ4 =>
        rw [eb] at k2
        exact fun σ4 F4 H4 S4 => k2 σ4 F4 H4 (S4.unbase b3)
      | rt s =>
        rw [eb] at k2
        exact FinS.rebase (D := { D with nx := _, ct := _, bk := _ }) (s := .rt s) b3 k2
      | exc c =>
        rw [eb] at k2
        exact FinS.rebase (D := D) (s := .exc c) b3 k2
      | bad => rw [eb] at k2; exact k2
    | exc c => rw [ea] at k2; exact k2.elim
    | bad => rw [ea] at k2; exact k2.elim
theorem ds_while (n : Nat) {tt : TT} {c : Rho → R Bool} {tb : TS} {body : Rho → SR} (hc : TDt K W tt c) (hb : TDS K W tb body) : TDS K W (tWhile tt tb) (sWhile n c body) := fun F0 H0 F H σ ρ D S q => by
  refine ⟨fun m σ H => ∃ F ρ, StR K F0 H0 F H σ ρ ∧ FinS K W F0 H0 D (whileD c body m ρ), ⟨n, F, ρ, S, q⟩, ?_⟩
  rintro m σ2 H2 ⟨F2, ρ2, S2, k2⟩
  cases m with
  | zero => exact k2.elim
  | succ m =>
    unfold whileD at k2
    refine hc F0 H0 F2 H2 σ2 ρ2 _ S2 (k2.of S2.ext fun b F3 H3 e3 k3 => ?_)
    cases b with
    | false => exact k3 σ2 F3 H3 (S2.go e3)
    | true =>
      refine ⟨fun σ' H' => ∃ F ρ, StR K F0 H0 F H' σ' ρ ∧ FinS K W F0 H0 D (whileD c body m ρ), fun σ' H' h => ⟨m, Nat.lt_succ_self m, h⟩, ?_⟩
      refine hb F0 H0 F3 H3 σ2 ρ2 _ (S2.go e3) ?_
      simp only [if_true] at k3
      cases eb : body ρ2 with
      | nx ρ4 => rw [eb] at k3; exact fun σ4 F4 H4 S4 => ⟨F4, ρ4, S4, k3⟩
      | ct ρ4 => rw [eb] at k3; exact fun σ4 F4 H4 S4 => ⟨F4, ρ4, S4, k3⟩
      | bk ρ4 => rw [eb] at k3; exact fun σ4 F4 H4 S4 => k3 σ4 F4 H4 S4
      | rt s => rw [eb] at k3; exact k3
      | exc c => rw [eb] at k3; exact k3
      | bad => rw [eb] at k3; exact k3
end

/-! ### list comprehensions -/
def wipeD (ρ : Rho) : List Nat → Rho
  | [] => ρ
  | v :: vs => (wipeD ρ vs).set v none
theorem StR.wipe {K : PySem.W.Frag} {F0 H0 F H : Hp} {σ : L2.St} {ρ : Rho} (S : StR K F0 H0 F H σ ρ) : ∀ vs : List Nat, StR K F0 H0 F H (L2.wipe σ vs) (wipeD ρ vs)
  | [] => S
  | v :: vs => (StR.wipe S vs).setU v
theorem wipe_wipe (σ : L2.St) (vs : List Nat) : L2.wipe (L2.wipe σ vs) vs = L2.wipe σ vs := by
  have one : ∀ (v : Nat) (τ : L2.St) (us : List Nat), v ∈ us → L2.wipe (τ.set v none) us = L2.wipe τ us := fun v τ us h => wipe_set h
  have all : ∀ (us : List Nat), (∀ u ∈ us, u ∈ vs) → L2.wipe (L2.wipe σ us) vs = L2.wipe σ vs := by
    intro us
    induction us with
    | nil => intro _; rfl
    | cons u us ih =>
      intro h
      show L2.wipe ((L2.wipe σ us).set u none) vs = _
      rw [one u _ vs (h u List.mem_cons_self), ih fun x hx => h x (List.mem_cons_of_mem _ hx)]
  exact all vs fun _ h => h
/-- an item's share of a comprehension's list -/
def lcL (h : PD → R (Option PD)) : List PD → R (List PD)
  | [] => .ok []
  | x :: xs => (h x).bind fun o => (lcL h xs).bind fun l => .ok (o.toList ++ l)
def lcE (a : Rho → PD → R Rho) (gt : Rho → R Bool) (ge : Rho → R PD) (ρ : Rho) : PD → R (Option PD) := fun x =>
  (a ρ x).bind fun ρ1 => (gt ρ1).bind fun b => if b = true then (ge ρ1).bind fun y => .ok (some y) else .ok none
/-- nothing is raised within -/
def noExc {α : Type} : R α → R α
  | .exc _ => .bad
  | r => r
def oLc (gi : Rho → R (List PD)) (a : Rho → PD → R Rho) (gt : Rho → R Bool) (ge : Rho → R PD) (vs : List Nat) : Rho → R PD := fun ρ =>
  (gi ρ).bind fun ds => (noExc (lcL (lcE a gt ge (wipeD ρ vs)) ds)).bind fun l => if l.length ≤ sizeLine then .ok (.list l) else .bad
def W0 : WX := fun _ _ _ _ => False
theorem lcL_cons {h : PD → R (Option PD)} {x : PD} {xs l : List PD} (e : lcL h (x :: xs) = .ok l) : ∃ o l', h x = .ok o ∧ lcL h xs = .ok l' ∧ l = o.toList ++ l' := by
  unfold lcL at e
  cases eh : h x with
  | ok o =>
    rw [eh] at e
    have e : (lcL h xs).bind (fun l => R.ok (o.toList ++ l)) = .ok l := e
    cases el : lcL h xs with
    | ok l' =>
      rw [el] at e
      have e : R.ok (o.toList ++ l') = R.ok l := e
      cases e
      exact ⟨o, l', rfl, rfl, rfl⟩
    | exc c => rw [el] at e; cases e
    | bad => rw [el] at e; cases e
  | exc c => rw [eh] at e; cases e
  | bad => rw [eh] at e; cases e
section
variable {K : PySem.W.Frag} {W : WX}
theorem to_lc {vs : List Nat} {wi : TI} {gi : Rho → R (List PD)} {gx : TG} {a : Rho → PD → R Rho} {tt : TT} {gt : Rho → R Bool} {te : TE} {ge : Rho → R PD}
    (hi : TDi K W wi gi) (hg : TDg K vs gx a) (ht : TDt K W0 tt gt) (he : TDe K W0 te ge) : TDo K W (tLc wi gx tt te vs) (oLc gi a gt ge vs) := fun F0 H0 F H σ ρ Q S q => by
  refine hi F0 H0 F H σ ρ _ S ?_
  unfold oLc at q
  cases egi : gi ρ with
  | exc c => rw [egi] at q; exact q
  | bad => rw [egi] at q; exact q
  | ok ds =>
    rw [egi] at q
    have q : Fin K W σ F H ((noExc (lcL (lcE a gt ge (wipeD ρ vs)) ds)).bind fun l => if l.length ≤ sizeLine then R.ok (PyData.list l) else R.bad) (OwQ K H Q) := q
    cases el : lcL (lcE a gt ge (wipeD ρ vs)) ds with
    | exc c => rw [el] at q; exact q.elim
    | bad => rw [el] at q; exact q.elim
    | ok l =>
      rw [el] at q
      have q : Fin K W σ F H (if l.length ≤ sizeLine then R.ok (PyData.list l) else R.bad) (OwQ K H Q) := q
      by_cases hsz : l.length ≤ sizeLine
      · rw [if_pos hsz] at q
        intro F1 H1 e1 J hJ D hD
        have S1 := S.go e1
        -- the state: what is frozen by now, the new list with what is made so far
        refine ⟨fun i m H => m = ds.length - i ∧ ∃ F acc accv rest, Ext F1 H1 F H ∧ F D = none ∧ H D = some (.lst accv) ∧ DpAll K F accv acc ∧ lcL (lcE a gt ge (wipeD ρ vs)) (ds.drop i) = .ok rest ∧ l = acc ++ rest,
          ⟨_, rfl, F1, [], [], l, Ext.own e1.g hD, e1.g.free hD, upd_same, .nil, el, rfl⟩, ?_⟩
        rintro i m H2 ⟨rfl, F2, acc, accv, rest, e2, hFD, hHD, racc, erest, hl⟩
        have S2 : StR K F0 H0 F2 H2 σ ρ := S1.go e2
        cases hd : ds[i]? with
        | none =>
          have hle := List.getElem?_eq_none_iff.mp hd
          rw [List.drop_eq_nil_of_le hle] at erest
          have hr : rest = [] := by unfold lcL at erest; cases erest; rfl
          subst hr
          rw [List.append_nil] at hl
          subst hl
          exact .inl ⟨(hJ i F2 H2 e2.f e2.g).2 hle, q F2 H2 (e1.trans e2) D (e1.h.free hD) hFD ⟨accv, hHD, racc⟩⟩
        | some d =>
          have hlt := (List.getElem?_eq_some_iff.mp hd).1
          rw [List.drop_eq_getElem_cons hlt, (List.getElem?_eq_some_iff.mp hd).2] at erest
          obtain ⟨o, l', eo, el', er⟩ := lcL_cons erest
          obtain ⟨go, yl⟩ := (hJ i F2 H2 e2.f e2.g).1 d hd
          refine .inr ⟨go, fun H' => ∃ F acc accv rest, Ext F1 H1 F H' ∧ F D = none ∧ H' D = some (.lst accv) ∧ DpAll K F accv acc ∧ lcL (lcE a gt ge (wipeD ρ vs)) (ds.drop (i + 1)) = .ok rest ∧ l = acc ++ rest,
            fun H' ⟨F', acc', accv', rest', z⟩ => ⟨_, by omega, rfl, F', acc', accv', rest', z⟩, fun x H3 y => ?_⟩
          obtain ⟨F3, e3, r3⟩ := yl x H3 y
          have dne : ∀ {Fa Ha Fb Hb : Hp}, Ext Fa Ha Fb Hb → Fa D = none → Ha D = some (.lst accv) → Fb D = none ∧ Hb D = some (.lst accv) := fun {Fa Ha Fb Hb} e h1 h2 => ⟨e.keep h1 h2 nt_lst, e.h D _ h2⟩
          obtain ⟨hFD3, hHD3⟩ := dne e3 hFD hHD
          have S3 : StR K F0 H0 F3 H3 (L2.wipe σ vs) (wipeD ρ vs) := (S2.go e3).wipe vs
          refine hg F0 H0 F3 H3 _ _ x d _ S3 r3 ?_
          unfold lcE at eo
          cases ea : a (wipeD ρ vs) d with
          | exc c => rw [ea] at eo; cases eo
          | bad => rw [ea] at eo; cases eo
          | ok ρ4 =>
            rw [ea] at eo
            have eo : ((gt ρ4).bind fun b => if b = true then (ge ρ4).bind fun y => R.ok (some y) else R.ok none) = R.ok o := eo
            intro σ4 S4 hw
            refine ⟨by rw [hw, wipe_wipe], ?_⟩
            refine ht F0 H0 F3 H3 σ4 ρ4 _ S4 ?_
            cases et : gt ρ4 with
            | exc c => rw [et] at eo; cases eo
            | bad => rw [et] at eo; cases eo
            | ok b =>
              rw [et] at eo
              intro F5 H5 e5
              obtain ⟨hFD5, hHD5⟩ := dne e5 hFD3 hHD3
              have e15 : Ext F1 H1 F5 H5 := (e2.trans e3).trans e5
              cases b with
              | false =>
                have eo : R.ok none = R.ok o := eo
                cases eo
                show (∃ F acc accv rest, _)
                exact ⟨F5, acc, accv, l', e15, hFD5, hHD5, racc.mono (e3.f.trans e5.f), el', by rw [hl, er]; rfl⟩
              | true =>
                have eo : ((ge ρ4).bind fun y => R.ok (some y)) = R.ok o := eo
                show te σ4 H5 _
                refine he F0 H0 F5 H5 σ4 ρ4 _ (S4.go e5) ?_
                cases ey : ge ρ4 with
                | exc c => rw [ey] at eo; cases eo
                | bad => rw [ey] at eo; cases eo
                | ok yv =>
                  rw [ey] at eo
                  have eo : R.ok (some yv) = R.ok o := eo
                  cases eo
                  intro F6 H6 e6 v6 r6
                  obtain ⟨hFD6, hHD6⟩ := dne e6 hFD5 hHD5
                  have e16 : Ext F1 H1 F6 H6 := e15.trans e6
                  have hlen : l.length = acc.length + (1 + l'.length) := by rw [hl, er]; simp; omega
                  refine ⟨accv, hHD6, by rw [racc.length]; omega, F6, acc ++ [yv], accv ++ [v6], l', ⟨e16.f, fun b u z => ?_, fun b u z => ?_, e16.n⟩, hFD6, upd_same,
                    (racc.mono ((e3.f.trans e5.f).trans e6.f)).append (.cons r6 .nil), el', by rw [hl, er]; simp⟩
                  · rw [upd_ne (ne_of_none z hFD6)]; exact e16.g b u z
                  · rw [upd_ne (ne_of_none z hD)]; exact e16.h b u z
      · rw [if_neg hsz] at q
        exact q.elim
def gYes : Rho → R Bool := fun _ => .ok true
theorem tt_yes : TDt K W tYes gYes := fun F0 H0 F H σ ρ Q S q => q.ok S.same
end

/-! ### defs and their calls -/
inductive FR where
  | rt (s : Sl)
  | exc (c : Ec)
  | bad
def SR.fr : SR → FR
  | .nx _ => .rt (.d .none)
  | .rt s => .rt s
  | .exc c => .exc c
  | _ => .bad
def FRQ (K : PySem.W.Frag) (F H : Hp) (Q : VK) (E : XK) : FR → Prop
  | .rt s => RetQ K F H Q s
  | .exc c => ∀ cls d F' H', Ext F H F' H' → ExR K c cls d H' → E cls d H'
  | .bad => False
/-- a def's promise: it hands back what f tells of its arguments; what stood stands -/
def spD (K : PySem.W.Frag) (n : Nat) (f : List PD → FR) : Sp := fun vs H Q E => vs.length = n ∧ ∃ F ds, Same F H ∧ DpAll K F vs ds ∧ FRQ K F H Q E (f ds)
def startD (n : Nat) (ds : List PD) : Rho := ds.map (fun d => some (.d d)) ++ List.replicate (n - ds.length) none
def runD (n : Nat) (s : Rho → SR) (ds : List PD) : FR := (s (startD n ds)).fr
theorem start_ok {K : PySem.W.Frag} {F H : Hp} {N : List Str} {vs : List V} {ds : List PD} (s : Same F H) (r : DpAll K F vs ds) : StR K F H F H (start N vs) (startD N.length ds) := by
  have hl := r.length
  have gd : ∀ (j : Nat) (y : Sl), (startD N.length ds)[j]? = some (some y) → ∃ d, y = .d d ∧ ds[j]? = some d := fun j y e => by
    unfold startD at e
    by_cases hj : j < ds.length
    · rw [List.getElem?_append_left (by simpa using hj), List.getElem?_map] at e
      cases z : ds[j]? with
      | none => rw [z] at e; cases e
      | some d => rw [z] at e; cases e; exact ⟨d, rfl, rfl⟩
    · rw [List.getElem?_append_right (by simpa using hj), List.getElem?_replicate] at e
      split at e
      · cases e
      · cases e
  refine ⟨fun _ => [], Ext.refl s, ?_, fun i x e => ?_, fun i x e => ?_, fun i p h => by (cases h), fun i => List.nodup_nil, fun i j p h => by (cases h), fun i x e => ?_⟩
  · unfold L2.start startD; simp [hl]
  · obtain ⟨d, e1, e2⟩ := gd i _ e
    cases e1
    obtain ⟨v, a, b⟩ := r.get' e2
    refine ⟨v, ?_, b⟩
    unfold L2.start
    rw [List.getElem?_append_left (by simpa using (List.getElem?_eq_some_iff.mp a).1), List.getElem?_map, a]
    rfl
  · obtain ⟨d, e1, e2⟩ := gd i _ e
    cases e1
  · obtain ⟨d, e1, e2⟩ := gd i _ e
    cases e1
theorem fnD {P : Program} {w : World} {K : PySem.W.Frag} {mg : Str → Option Value} {base : Heap} {x qual : Str} {params : Arguments} {body : List Stmt} {scope : Scope} {f : Addr} {fd : FuncData} {N ps : List Str} {k : Nat} {s : Rho → SR}
    (F : FunD K x qual params body scope [] [] f fd) (S : FnScope N ps scope)
    (hb : ∀ (cdv : Value) (A : Around) (outer : List Env) (sh : Shared) (H : Hp) (E : XK), Room k (A.deeper (envOfC qual scope sh.heap.objs.size f cdv)) →
      Takes (cxOf (L2.CX P w) P w K mg base N qual scope f cdv A outer sh H E) (fun cls d _ H => E cls d H) →
      ∃ t, PSs (cxOf (L2.CX P w) P w K mg base N qual scope f cdv A outer sh H E) body t ∧ TDS K (fun cls d _ H => E cls d H) t s) : FnOk P w K mg base (L2.CX P w) (k + 1) f fd ps (spD K ps.length (runD N.length s)) := by
  refine F.ok S (fun vs H Q E h => h.1) (fun cdv A outer sh H vs Q E hr h => ?_)
  obtain ⟨hl, F0, ds, hs, hd, hq⟩ := h
  obtain ⟨t, h1, h2⟩ := hb cdv A outer sh H E hr (takes_of rfl rfl rfl (E₁ := _) rfl)
  refine ⟨t, h1, h2 F0 H F0 H _ _ _ (start_ok hs hd) ?_⟩
  unfold runD at hq
  cases e : s (startD N.length ds) with
  | nx ρ => rw [e] at hq; exact fun σ F1 H1 S1 => hq .non F1 H1 S1.ext .non
  | bk ρ => rw [e] at hq; exact hq.elim
  | ct ρ => rw [e] at hq; exact hq.elim
  | rt s => rw [e] at hq; exact hq
  | exc c => rw [e] at hq; exact fun cls d σ F1 H1 ex r => hq cls d F1 H1 ex r
  | bad => rw [e] at hq; exact hq.elim
def FR.toE : FR → R PD
  | .rt (.d x) => .ok x
  | .rt (.t x) => x.toD
  | .exc c => .exc c
  | _ => .bad
def FR.toO : FR → R PD
  | .rt (.t (.own x)) => .ok x
  | .exc c => .exc c
  | _ => .bad
def scalD : PD → Bool
  | .none => true
  | .bool _ => true
  | .int _ => true
  | .str _ => true
  | _ => false
def FR.toS : FR → R PD
  | .rt (.d x) => if scalD x = true then .ok x else .bad
  | .exc c => .exc c
  | _ => .bad
def isDict : PD → Bool
  | .dict _ => true
  | _ => false
theorem scal_dp {K : PySem.W.Frag} {F F' : Hp} {v : V} {x : PD} (h : scalD x = true) (r : Dp K F v x) : Dp K F' v x := by
  cases r with
  | non => exact .non
  | bl b => exact .bl b
  | int i => exact .int i
  | str i => exact .str i
  | lst _ _ => cases h
  | tup _ _ => cases h
theorem ext_frz {F H F' H' : Hp} {fp : List Addr} (ex : Ext F H F' H') (hp : ∀ p ∈ fp, H p = none ∧ F' p = none) : Ext F H (frzF F' H' fp) H' := by
  refine ⟨ex.f.trans (frz_f ex.g), frz_g ex.g, ex.h, fun p h => ?_⟩
  rcases frz_n h with q | q | ⟨o, q, t⟩
  · exact ex.n p q
  · exact .inr (.inl (hp p q).1)
  · cases e : H p with
    | none => exact .inr (.inl rfl)
    | some u =>
      have := ex.h p u e
      rw [q] at this
      cases this
      exact .inr (.inr ⟨_, rfl, t⟩)
theorem own_frz {K : PySem.W.Frag} {F H F' H' : Hp} {fp : List Addr} {v : V} {t : Tv} {d : PD} (ex : Ext F H F' H') (tv : TvAt K F' H' fp v t) (hp : ∀ p ∈ fp, H p = none ∧ F' p = none) (e : t.toD = .ok d) : ∃ F'', Ext F H F'' H' ∧ Dp K F'' v d :=
  ⟨_, ext_frz ex hp, tv.frz ex.g e⟩
theorem toD_x : ∀ (t : Tv) (c : Ec), t.toD ≠ .exc c := by
  have both : ∀ n : Nat, (∀ (t : Tv) (c : Ec), sizeOf t < n → t.toD ≠ .exc c) ∧ ∀ (ts : List Tv) (c : Ec), sizeOf ts < n → Tv.toDs ts ≠ .exc c := by
    intro n
    induction n with
    | zero => exact ⟨fun _ _ h => absurd h (Nat.not_lt_zero _), fun _ _ h => absurd h (Nat.not_lt_zero _)⟩
    | succ n ih =>
      refine ⟨fun t c h => ?_, fun ts c h => ?_⟩
      · cases t with
        | fr d => unfold Tv.toD; exact fun z => by cases z
        | own x =>
          cases x <;> (unfold Tv.toD; exact fun z => by cases z)
        | dT k => unfold Tv.toD; exact fun z => by cases z
        | lst ts =>
          unfold Tv.toD
          cases e : Tv.toDs ts with
          | ok l => exact fun z => by cases z
          | bad => exact fun z => by cases z
          | exc c' => exact absurd e (ih.2 ts c' (by simp at h; omega))
        | tup ts =>
          unfold Tv.toD
          cases e : Tv.toDs ts with
          | ok l => exact fun z => by cases z
          | bad => exact fun z => by cases z
          | exc c' => exact absurd e (ih.2 ts c' (by simp at h; omega))
      · cases ts with
        | nil => unfold Tv.toDs; exact fun z => by cases z
        | cons t ts =>
          unfold Tv.toDs
          cases e : t.toD with
          | bad => exact fun z => by cases z
          | exc c' => exact absurd e (ih.1 t c' (by simp at h; omega))
          | ok d =>
            show (Tv.toDs ts).bind _ ≠ _
            cases e2 : Tv.toDs ts with
            | ok l => exact fun z => by cases z
            | bad => exact fun z => by cases z
            | exc c' => exact absurd e2 (ih.2 ts c' (by simp at h; omega))
  exact fun t c => (both (sizeOf t + 1)).1 t c (Nat.lt_succ_self _)
section
variable {K : PySem.W.Frag} {W : WX} {ta : TA} {ga : Rho → R (List PD)} {n : Nat} {f : List PD → FR}
def eCall (n : Nat) (f : List PD → FR) (ga : Rho → R (List PD)) : Rho → R PD := fun ρ => (ga ρ).bind fun ds => if ds.length = n then (f ds).toE else .bad
def oCall (n : Nat) (f : List PD → FR) (ga : Rho → R (List PD)) : Rho → R PD := fun ρ => (ga ρ).bind fun ds => if ds.length = n then (f ds).toO else .bad
/-- arguments that are only read, a plain answer -/
def eCallR (n : Nat) (f : List PD → FR) (ga : Rho → R (List PD)) : Rho → R PD := fun ρ => (ga ρ).bind fun ds => if ds.length = n ∧ ds.all (fun d => !isDict d) = true then (f ds).toS else .bad
theorem td_call (h : TDa K W ta ga) : TDe K W (tCallS (spD K n f) (WE W) ta) (eCall n f ga) := fun F0 H0 F H σ ρ Q S q =>
  h F0 H0 F H σ ρ _ S (q.then fun ds F1 H1 e1 k1 vs rs => by
    by_cases hn : ds.length = n
    · rw [if_pos hn] at k1
      refine ⟨by rw [rs.length]; exact hn, F1, ds, e1.g, rs, ?_⟩
      cases e : f ds with
      | rt s =>
        rw [e] at k1
        cases s with
        | d x => exact fun v F' H' ex r => k1 F' H' ex v r
        | t x =>
          intro v fp F' H' ex tv nd hp
          have k1 : Fin K W σ F1 H1 x.toD (DpQ K Q) := k1
          cases e2 : x.toD with
          | ok d =>
            rw [e2] at k1
            obtain ⟨F'', ex2, r⟩ := own_frz ex tv hp e2
            exact k1 F'' H' ex2 _ r
          | exc c => exact absurd e2 (toD_x x c)
          | bad => rw [e2] at k1; exact k1.elim
        | l x => exact k1.elim
      | exc c => rw [e] at k1; exact fun cls d F' H' ex r => k1 cls d F' H' ex r
      | bad => rw [e] at k1; exact k1.elim
    · rw [if_neg hn] at k1
      exact k1.elim)
theorem to_call (h : TDa K W ta ga) : TDo K W (tCallS (spD K n f) (WE W) ta) (oCall n f ga) := fun F0 H0 F H σ ρ Q S q =>
  h F0 H0 F H σ ρ _ S (by
    unfold oCall at q
    cases ea : ga ρ with
    | exc c => rw [ea] at q; exact q
    | bad => rw [ea] at q; exact q
    | ok ds =>
      rw [ea] at q
      have q : Fin K W σ F H (if ds.length = n then (f ds).toO else .bad) (OwQ K H Q) := q
      intro F1 H1 e1 vs rs
      by_cases hn : ds.length = n
      · rw [if_pos hn] at q
        refine ⟨by rw [rs.length]; exact hn, F1, ds, e1.g, rs, ?_⟩
        cases e : f ds with
        | rt s =>
          rw [e] at q
          cases s with
          | d x => exact q.elim
          | t x =>
            cases x with
            | own x =>
              intro v fp F' H' ex tv nd hp
              cases tv with
              | own ho =>
                obtain ⟨h1, h2⟩ := hp _ (List.mem_singleton.mpr rfl)
                exact q F' H' (e1.trans ex) _ (e1.h.free h1) h2 ho
            | _ => exact q.elim
          | l x => exact q.elim
        | exc c => rw [e] at q; exact fun cls d F' H' ex r => q cls d F' H' (e1.trans ex) r
        | bad => rw [e] at q; exact q.elim
      · rw [if_neg hn] at q
        exact q.elim)
theorem RpAll.dp {F H : Hp} (s : Same F H) : ∀ {vs : List V} {ds : List PD}, RpAll K F H vs ds → ds.all (fun d => !isDict d) = true → DpAll K H vs ds
  | _, _, .nil, _ => .nil
  | _, _, .cons r t, h => by
    rw [List.all_cons, Bool.and_eq_true] at h
    exact .cons (r.dp s fun kvs e => by rw [e] at h; cases h.1) (RpAll.dp s t h.2)
theorem td_callR (h : TDq K W ta ga) : TDe K W (tCallS (spD K n f) (WE W) ta) (eCallR n f ga) := fun F0 H0 F H σ ρ Q S q =>
  h F0 H0 F H σ ρ _ S (q.then fun ds F1 H1 e1 k1 vs rs => by
    by_cases hn : ds.length = n ∧ ds.all (fun d => !isDict d) = true
    · rw [if_pos hn] at k1
      refine ⟨by rw [rs.length]; exact hn.1, H1, ds, Same.refl H1, rs.dp e1.g hn.2, ?_⟩
      cases e : f ds with
      | rt s =>
        rw [e] at k1
        cases s with
        | d x =>
          intro v F' H' ex r
          have k1 : Fin K W σ F1 H1 (if scalD x = true then .ok x else .bad) (DpQ K Q) := k1
          by_cases hx : scalD x = true
          · rw [if_pos hx] at k1
            exact k1 F1 H' (Ext.heap e1.g ex.h) v (scal_dp hx r)
          · rw [if_neg hx] at k1
            exact k1.elim
        | t x => exact k1.elim
        | l x => exact k1.elim
      | exc c => rw [e] at k1; exact fun cls d F' H' ex r => k1 cls d F1 H' (Ext.heap e1.g ex.h) r
      | bad => rw [e] at k1; exact k1.elim
    · rw [if_neg hn] at k1
      exact k1.elim)
/-- without arguments, nothing raised -/
def eCall0 (f : List PD → FR) : Rho → R PD := fun _ => noExc (f []).toE
def oCall0 (f : List PD → FR) : Rho → R PD := fun _ => noExc (f []).toO
theorem td_call0 : TDe K W (tCall (spD K 0 f) [] E0 tNil) (eCall0 f) := fun F0 H0 F H σ ρ Q S q => by
  refine ⟨rfl, F, [], S.same, .nil, ?_⟩
  unfold eCall0 at q
  cases e : f [] with
  | rt s =>
    rw [e] at q
    cases s with
    | d x => exact fun v F' H' ex r => q F' H' ex v r
    | t x =>
      intro v fp F' H' ex tv nd hp
      have q : Fin K W σ F H (noExc x.toD) (DpQ K Q) := q
      cases e2 : x.toD with
      | ok d =>
        rw [e2] at q
        obtain ⟨F'', ex2, r⟩ := own_frz ex tv hp e2
        exact q F'' H' ex2 _ r
      | exc c => exact absurd e2 (toD_x x c)
      | bad => rw [e2] at q; exact q.elim
    | l x => exact q.elim
  | exc c => rw [e] at q; exact q.elim
  | bad => rw [e] at q; exact q.elim
theorem to_call0 : TDo K W (tCall (spD K 0 f) [] E0 tNil) (oCall0 f) := fun F0 H0 F H σ ρ Q S q => by
  refine ⟨rfl, F, [], S.same, .nil, ?_⟩
  unfold oCall0 at q
  cases e : f [] with
  | rt s =>
    rw [e] at q
    cases s with
    | d x => exact q.elim
    | t x =>
      cases x with
      | own x =>
        intro v fp F' H' ex tv nd hp
        cases tv with
        | own ho =>
          obtain ⟨h1, h2⟩ := hp _ (List.mem_singleton.mpr rfl)
          exact q F' H' ex _ h1 h2 ho
      | _ => exact q.elim
    | l x => exact q.elim
  | exc c => rw [e] at q; exact q.elim
  | bad => rw [e] at q; exact q.elim
end
end DL
namespace DL
open PySem PySem.Spec PyProof.Rows L2

/-! ### a new frozen object -/
section
variable {K : PySem.W.Frag} {W : WX} {σ : L2.St} {F H : Hp} {Q : VK}
theorem new_lst {vs : List V} {ds : List PD} {p : Addr} (s : Same F H) (r : DpAll K F vs ds) (k : Fin K W σ F H (.ok (PyData.list ds)) (DpQ K Q)) (hp : H p = none) : Q (.ref p) (upd H p (.lst vs)) := by
  have e := Ext.new (o := .lst vs) s hp
  exact k _ _ e _ (.lst (.inl upd_same) (r.mono e.f))
theorem new_tup {vs : List V} {ds : List PD} {p : Addr} (s : Same F H) (r : DpAll K F vs ds) (k : Fin K W σ F H (.ok (PyData.tuple ds)) (DpQ K Q)) (hp : H p = none) : Q (.ref p) (upd H p (.tup vs)) := by
  have e := Ext.new (o := .tup vs) s hp
  exact k _ _ e _ (.tup upd_same (r.mono e.f))
theorem own_lst {vs : List V} {ds : List PD} {p : Addr} (s : Same F H) (r : DpAll K F vs ds) (k : Fin K W σ F H (.ok (PyData.list ds)) (OwQ K H Q)) (hp : H p = none) : Q (.ref p) (upd H p (.lst vs)) := by
  have e := Ext.own (o := .lst vs) s hp
  exact k _ _ e p hp (s.free hp) ⟨vs, upd_same, r⟩
end

/-! ### + -/
/-- list + list, of tracked or known lists -/
def rCatR : R2 := fun x y H Q => ∃ l b xs zs, x = .ref l ∧ y = .ref b ∧ Rd H l (.lst xs) ∧ Rd H b (.lst zs) ∧ xs.length + zs.length ≤ sizeLine ∧ ∀ p, H p = none → Q (.ref p) (upd H p (.lst (xs ++ zs)))
theorem op_catR {X : Cx} : OpR X (binaryOp .Add) rCatR := by
  intro pn s σ H x y v u Q J rx ry h
  obtain ⟨l, b, xs, zs, rfl, rfl, hH, hB, hle, q⟩ := h
  cases rx
  cases ry
  obtain ⟨z, vs1, n, r, e⟩ := hH.ok J.hok
  obtain ⟨z2, vs2, n2, r2, e2⟩ := hB.ok J.hok
  have hl := r.length
  have hl2 := r2.length
  refine PySem.P.add_list e e2 ?_ (by rw [List.size_toArray, List.size_toArray]; omega)
  have ea : vs1.toArray ++ vs2.toArray = (vs1 ++ vs2).toArray := by simp
  rw [ea]
  exact ⟨.ref _, _, J.lnew (t' := s.toks) (r.append r2) (by rw [List.length_append]; omega), rfl, q _ J.fresh⟩
def rAdd2 (K : PySem.W.Frag) : R2 := fun x y H Q => rI0 (fun i j => .int (i + j)) x y H Q ∨ (∃ i j, x = .str i ∧ y = .str j ∧ i.length + j.length ≤ sizeLine ∧ Q (.str (i ++ j)) H) ∨ rCatR x y H Q ∨ rCatA K x y H Q
theorem op_add2 {X : Cx} : OpR X (binaryOp .Add) (rAdd2 X.K) := op_add.or (op_add_str.or (op_catR.or op_catA))
def addD : PD → PD → R PD
  | .int i, .int j => .ok (.int (i + j))
  | .str x, .str y => if x.length + y.length ≤ sizeLine then .ok (.str (x ++ y)) else .bad
  | .list xs, .list ys => if xs.length + ys.length ≤ sizeLine then .ok (.list (xs ++ ys)) else .bad
  | .tuple xs, .tuple ys => if xs.length + ys.length ≤ sizeLine then .ok (.tuple (xs ++ ys)) else .bad
  | _, _ => .bad
section
variable {K : PySem.W.Frag}
theorem rd_add : RD K (rAdd2 K) addD := fun W σ F H x y a b Q s ra rb q => by
  unfold addD at q
  split at q
  · exact .inl ⟨_, _, ra.int, rb.int, q.ok s _ (.int _)⟩
  · split at q
    · rename_i h
      exact .inr (.inl ⟨_, _, ra.str, rb.str, h, q.ok s _ (.str _)⟩)
    · exact q.elim
  · split at q
    · rename_i h
      obtain ⟨a, vs, rfl, s1, r1⟩ := ra.list s
      obtain ⟨b, us, rfl, s2, r2⟩ := rb.list s
      exact .inr (.inr (.inl ⟨_, _, _, _, rfl, rfl, s1, s2, by rw [r1.length, r2.length]; exact h, fun p hp => new_lst s (r1.append r2) q hp⟩))
    · exact q.elim
  · split at q
    · rename_i h
      obtain ⟨a, vs, rfl, s1, r1⟩ := ra.tuple s
      obtain ⟨b, us, rfl, s2, r2⟩ := rb.tuple s
      refine .inr (.inr (.inr ⟨_, _, _, _, rfl, rfl, s1, s2, by rw [r1.length, r2.length]; exact h, fun e => ?_, fun _ e => ?_, fun _ _ p hp => new_tup s (r1.append r2) q hp⟩))
      · subst e
        cases r1
        rename_i xs ys h
        cases ra with
        | inl ra =>
          cases rb with
          | inl rb => exact q.ok s _ rb
          | inr rb => obtain ⟨p, e, z⟩ := rb; exact z.elim
        | inr ra => obtain ⟨p, e, z⟩ := ra; exact z.elim
      · subst e
        cases r2
        rw [List.append_nil] at q
        cases ra with
        | inl ra => exact q.ok s _ ra
        | inr ra => obtain ⟨p, e, z⟩ := ra; exact z.elim
    · exact q.elim
  · exact q.elim
/-- list + list, the new list owned -/
def addL : PD → PD → R PD
  | .list xs, .list ys => if xs.length + ys.length ≤ sizeLine then .ok (.list (xs ++ ys)) else .bad
  | _, _ => .bad
theorem ro_add : RDo K (rAdd2 K) addL := fun W σ F H x y a b Q s ra rb q => by
  unfold addL at q
  split at q
  · split at q
    · rename_i h
      obtain ⟨a, vs, rfl, s1, r1⟩ := ra.list s
      obtain ⟨b, us, rfl, s2, r2⟩ := rb.list s
      exact .inr (.inr (.inl ⟨_, _, _, _, rfl, rfl, s1, s2, by rw [r1.length, r2.length]; exact h, fun p hp => own_lst s (r1.append r2) q hp⟩))
    · exact q.elim
  · exact q.elim

/-! ### arithmetic -/
def iiD (C : Int → Int → Bool) (g : Int → Int → Int) : PD → PD → R PD
  | .int i, .int j => if C i j = true then .ok (.int (g i j)) else .bad
  | _, _ => .bad
theorem rd_I {C : Int → Int → Prop} {B : Int → Int → Bool} {g : Int → Int → Int} (h : ∀ i j, B i j = true → C i j) : RD K (rI C fun i j => .int (g i j)) (iiD B g) := fun W σ F H x y a b Q s ra rb q => by
  unfold iiD at q
  split at q
  · split at q
    · rename_i hb
      exact ⟨_, _, ra.int, rb.int, h _ _ hb, q.ok s _ (.int _)⟩
    · exact q.elim
  · exact q.elim
def subD : PD → PD → R PD
  | .int i, .int j => .ok (.int (i - j))
  | _, _ => .bad
theorem rd_sub : RD K (rI0 fun i j => .int (i - j)) subD := fun W σ F H x y a b Q s ra rb q => by
  unfold subD at q
  split at q
  · exact ⟨_, _, ra.int, rb.int, q.ok s _ (.int _)⟩
  · exact q.elim
def modB (_ j : Int) : Bool := decide (j ≠ 0)
abbrev modD : PD → PD → R PD := iiD modB fun i j => i.fmod j
theorem rd_mod : RD K (rI (fun _ j => j ≠ 0) fun i j => .int (i.fmod j)) modD := rd_I fun i j h => of_decide_eq_true h
def divB (_ j : Int) : Bool := decide (j ≠ 0) && decide (j.natAbs < 1073741824)
abbrev divD : PD → PD → R PD := iiD divB fun i j => i.fdiv j
theorem rd_div : RD K (rI CDivN fun i j => .int (i.fdiv j)) divD := rd_I fun i j h => by
  unfold divB at h
  rw [Bool.and_eq_true] at h
  exact ⟨of_decide_eq_true h.1, of_decide_eq_true h.2⟩
/-- // by a great positive number too -/
def rDiv2 : R2 := fun x y H Q => rI CDivN (fun i j => .int (i.fdiv j)) x y H Q ∨ rI CDivW (fun i j => .int (i / j)) x y H Q
theorem op_div2 {X : Cx} : OpR X (binaryOp .FloorDiv) rDiv2 := op_fdivN.or op_fdivW
/-! ### * : ints; a text by an int; a list by an int -/
def mulB (i j : Int) : Bool := (decide (-(2 ^ 64) < i) && decide (i < 2 ^ 64)) || (decide (-(2 ^ 64) < j) && decide (j < 2 ^ 64))
theorem mulB_ok {i j : Int} (h : mulB i j = true) : CMul i j := by
  unfold mulB at h
  simp only [Bool.or_eq_true, Bool.and_eq_true, decide_eq_true_eq] at h
  exact h
def mulS (x : Str) (n : Int) : Str := if n < 1 then Str.empty else ⟨(List.replicate n.toNat x.cps).foldl (· ++ ·) #[]⟩
theorem fold_app : ∀ (l : List (Array Nat)) (a : Array Nat), (l.foldl (· ++ ·) a).size = a.size + (l.map (·.size)).sum
  | [], a => by simp
  | x :: l, a => by rw [List.foldl_cons, fold_app l]; simp; omega
theorem mulS_len (x : Str) (n : Int) : (mulS x n).length = x.length * n.toNat := by
  unfold mulS
  split
  · rename_i h
    have e : n.toNat = 0 := by omega
    rw [e]; rfl
  · show ((List.replicate n.toNat x.cps).foldl (· ++ ·) #[]).size = _
    rw [fold_app]
    simp [Str.length, Nat.mul_comm]
theorem tooLong_le {n : Nat} (h : n ≤ sizeLine) : Builtin.Str.tooLong n = false := by
  unfold Builtin.Str.tooLong
  exact decide_eq_false (by omega)
def rMulS : R2 := fun x y H Q => ∃ z k, x = .str z ∧ y = .int k ∧ -(2 ^ 62) ≤ k ∧ k < 2 ^ 62 ∧ z.length * k.toNat ≤ sizeLine ∧ Q (.str (mulS z k)) H
theorem op_mulS {X : Cx} : OpR X (binaryOp .Mult) rMulS := by
  intro pins s σ H x y v u Q I rx ry h
  obtain ⟨z, k, rfl, rfl, h1, h2, hz, q⟩ := h
  obtain ⟨t, rfl⟩ := rx
  obtain ⟨t', rfl⟩ := ry
  have hs := sizeLine_eq
  refine PySem.P.mul_str (by rw [decide_eq_false (show ¬ k < -(2 ^ 63 : Int) by omega), decide_eq_false (show ¬ k ≥ 2 ^ 63 by omega)]; rfl) (fun hn ho => ?_) (fun _ _ => tooLong_le hz) ?_
  · have hk : k.toNat = k := Int.toNat_of_nonneg (by omega)
    have h3 : ((z.length * k.toNat : Nat) : Int) ≤ 16777216 := by rw [hs] at hz; exact Int.ofNat_le.mpr hz
    intro hgt
    have h4 : (2 ^ 63 - 1 : Int) / k * k ≤ 2 ^ 63 - 1 := Int.ediv_mul_le _ (by omega)
    have h5 : (2 ^ 63 - 1 : Int) < ((2 ^ 63 - 1 : Int) / k + 1) * k := Int.lt_ediv_add_one_mul_self _ (by omega)
    have h6 : ((2 ^ 63 - 1 : Int) / k + 1) * k ≤ (z.length : Int) * k := Int.mul_le_mul_of_nonneg_right (by omega) (by omega)
    have h7 : (z.length : Int) * k = ((z.length * k.toNat : Nat) : Int) := by rw [Int.natCast_mul, hk]
    omega
  · by_cases c1 : k < 1
    · rw [if_pos c1]
      refine ⟨by decide, .str _, H, I.tok _, ⟨_, rfl⟩, ?_⟩
      unfold mulS at q
      rw [if_pos c1] at q
      exact q
    · rw [if_neg c1]
      have hl := mulS_len z k
      unfold mulS at q hl
      rw [if_neg c1] at q hl
      by_cases c2 : (k == 1 || z.length == 0) = true
      · rw [if_pos c2]
        refine ⟨.str z, H, I, ⟨t, rfl⟩, ?_⟩
        rw [Bool.or_eq_true] at c2
        have e : (⟨(List.replicate k.toNat z.cps).foldl (· ++ ·) #[]⟩ : Str) = z := by
          rcases c2 with c2 | c2
          · have : k = 1 := by simpa using c2
            subst this
            simp [List.replicate]
          · have c2 : z.cps.size = 0 := by simpa [Str.length] using c2
            have e0 : z.cps = #[] := Array.eq_empty_of_size_eq_zero c2
            have : ∀ n : Nat, (List.replicate n (#[] : Array Nat)).foldl (· ++ ·) #[] = #[] := by
              intro n
              induction n with
              | zero => rfl
              | succ n ih => rw [List.replicate_succ, List.foldl_cons]; simpa using ih
            rw [e0, this]
            cases z
            simp only at e0
            rw [e0]
        rw [e] at q
        exact q
      · rw [if_neg c2]
        refine ⟨?_, .str _, H, I.tok _, ⟨_, rfl⟩, q⟩
        rw [hl]
        exact hz
def rRepR : R2 := fun x y H Q => ∃ l k xs, x = .ref l ∧ y = .int k ∧ H l = some (.lst xs) ∧ -(2 ^ 63) ≤ k ∧ k < 2 ^ 63 ∧ xs.length * k.toNat ≤ sizeLine ∧ ∀ p, H p = none → Q (.ref p) (upd H p (.lst (List.replicate k.toNat xs).flatten))
def rMul2 : R2 := fun x y H Q => rI CMul (fun i j => .int (i * j)) x y H Q ∨ rMulS x y H Q
theorem op_mul2 {X : Cx} : OpR X (binaryOp .Mult) rMul2 := op_mul.or op_mulS
def mulD : PD → PD → R PD
  | .int i, .int j => if mulB i j = true then .ok (.int (i * j)) else .bad
  | .str z, .int k => if small62 k = true ∧ z.length * k.toNat ≤ sizeLine then .ok (.str (mulS z k)) else .bad
  | _, _ => .bad
theorem rd_mul : RD K rMul2 mulD := fun W σ F H x y a b Q s ra rb q => by
  unfold mulD at q
  split at q
  · split at q
    · rename_i h
      exact .inl ⟨_, _, ra.int, rb.int, mulB_ok h, q.ok s _ (.int _)⟩
    · exact q.elim
  · split at q
    · rename_i h
      obtain ⟨h1, h2⟩ := small62_ok h.1
      exact .inr ⟨_, _, ra.str, rb.int, h1, h2, h.2, q.ok s _ (.str _)⟩
    · exact q.elim
  · exact q.elim
def powB (i j : Int) : Bool := decide (0 ≤ j) && decide (j ≤ 1000000) && decide (i.natAbs < 2 ^ 64)
abbrev powD : PD → PD → R PD := iiD powB fun i j => i ^ j.toNat
theorem rd_pow : RD K (rI CPow fun i j => .int (i ^ j.toNat)) powD := rd_I fun i j h => by
  unfold powB at h
  simp only [Bool.and_eq_true, decide_eq_true_eq] at h
  exact ⟨h.1.1, h.1.2, h.2⟩
def negD : PD → R PD
  | .int i => .ok (.int (-i))
  | _ => .bad
theorem ru_neg : RU K (rU fun i => .int (-i)) negD := fun W σ F H x a Q s ra q => by
  unfold negD at q
  split at q
  · exact ⟨_, ra.int, q.ok s _ (.int _)⟩
  · exact q.elim
def cmpD (p : Int → Int → Bool) : PD → PD → R PD
  | .int i, .int j => .ok (.bool (p i j))
  | _, _ => .bad
theorem rd_cmp {p : Int → Int → Bool} : RD K (rI0 fun i j => .bl (p i j)) (cmpD p) := fun W σ F H x y a b Q s ra rb q => by
  unfold cmpD at q
  split at q
  · exact ⟨_, _, ra.int, rb.int, q.ok s _ (.bl _)⟩
  · exact q.elim
abbrev ltD : PD → PD → R PD := cmpD fun i j => decide (i < j)
abbrev leD : PD → PD → R PD := cmpD fun i j => decide (i ≤ j)
abbrev gtD : PD → PD → R PD := cmpD fun i j => decide (j < i)
abbrev geD : PD → PD → R PD := cmpD fun i j => decide (j ≤ i)

/-! ### ==, in, is -/
/-- == : scalars of one kind at once, all else as data -/
def eqB : PD → PD → R Bool
  | .int i, .int j => .ok (decide (i = j))
  | .str i, .str j => .ok (decide (i = j))
  | .bool i, .bool j => .ok (decide (i = j))
  | a, b => if SeqAt.shaped a = true ∧ SeqAt.shaped b = true then .ok (PyData.eqv a b) else .bad
def eqD : PD → PD → R PD := fun a b => (eqB a b).bind fun c => .ok (.bool c)
def neD : PD → PD → R PD := fun a b => (eqB a b).bind fun c => .ok (.bool !c)
theorem shaped_nodict {d : PD} (h : SeqAt.shaped d = true) : ∀ kvs, d ≠ .dict kvs := fun kvs e => by
  subst e
  have := SeqAt.canLay_of_shaped h
  simp [PyData.canLay0] at this
def rEq2 (K : PySem.W.Frag) : R2 := fun x y H Q => rEq x y H Q ∨ rEqD K x y H Q
def rNe2 (K : PySem.W.Frag) : R2 := fun x y H Q => rNe x y H Q ∨ rNeD K x y H Q
theorem op_eq2 {X : Cx} (hu : X.A.units + 64 < cLine) : OpR X (compareOp .Eq) (rEq2 X.K) := op_eq.or (op_eqD hu)
theorem op_ne2 {X : Cx} (hu : X.A.units + 64 < cLine) : OpR X (compareOp .NotEq) (rNe2 X.K) := op_ne.or (op_neD hu)
theorem dec_inj_int {i j : Int} : decide (V.int i = V.int j) = decide (i = j) := by simp
theorem dec_inj_str {i j : Str} : decide (V.str i = V.str j) = decide (i = j) := by simp
theorem dec_inj_bl {i j : Bool} : decide (V.bl i = V.bl j) = decide (i = j) := by simp
theorem rd_eq : RD K (rEq2 K) eqD := fun W σ F H x y a b Q s ra rb q => by
  unfold eqD at q
  unfold eqB at q
  split at q
  · refine .inl ⟨by rw [ra.int, rb.int]; rfl, ?_⟩
    rw [ra.int, rb.int, dec_inj_int]
    exact Fin.okk (x := PyData.bool _) K W σ s q _ (.bl _)
  · refine .inl ⟨by rw [ra.str, rb.str]; rfl, ?_⟩
    rw [ra.str, rb.str, dec_inj_str]
    exact Fin.okk (x := PyData.bool _) K W σ s q _ (.bl _)
  · refine .inl ⟨by rw [ra.bool, rb.bool]; rfl, ?_⟩
    rw [ra.bool, rb.bool, dec_inj_bl]
    exact Fin.okk (x := PyData.bool _) K W σ s q _ (.bl _)
  · split at q
    · rename_i h
      exact .inr ⟨_, _, (ra.dp s (shaped_nodict h.1)).l2, (rb.dp s (shaped_nodict h.2)).l2, h.1, h.2, Fin.okk (x := PyData.bool _) K W σ s q _ (.bl _)⟩
    · exact q.elim
theorem rd_ne : RD K (rNe2 K) neD := fun W σ F H x y a b Q s ra rb q => by
  unfold neD at q
  unfold eqB at q
  split at q
  · refine .inl ⟨by rw [ra.int, rb.int]; rfl, ?_⟩
    rw [ra.int, rb.int, dec_inj_int]
    exact Fin.okk (x := PyData.bool _) K W σ s q _ (.bl _)
  · refine .inl ⟨by rw [ra.str, rb.str]; rfl, ?_⟩
    rw [ra.str, rb.str, dec_inj_str]
    exact Fin.okk (x := PyData.bool _) K W σ s q _ (.bl _)
  · refine .inl ⟨by rw [ra.bool, rb.bool]; rfl, ?_⟩
    rw [ra.bool, rb.bool, dec_inj_bl]
    exact Fin.okk (x := PyData.bool _) K W σ s q _ (.bl _)
  · split at q
    · rename_i h
      exact .inr ⟨_, _, (ra.dp s (shaped_nodict h.1)).l2, (rb.dp s (shaped_nodict h.2)).l2, h.1, h.2, Fin.okk (x := PyData.bool _) K W σ s q _ (.bl _)⟩
    · exact q.elim
/-- is None -/
def isNB : PD → Bool
  | .none => true
  | _ => false
def isND : PD → PD → R PD := fun a b => match b with
  | .none => .ok (.bool (isNB a))
  | _ => .bad
def notND : PD → PD → R PD := fun a b => match b with
  | .none => .ok (.bool (!isNB a))
  | _ => .bad
theorem isN_ok {F H : Hp} {x : V} {a : PD} (ra : Rp K F H x a) : decide (x = .non) = isNB a := by
  rcases ra with h | ⟨p, rfl, h⟩
  · cases h <;> simp [isNB]
  · cases a with
    | list ds => simp [isNB]
    | dict kvs => simp [isNB]
    | _ => exact h.elim
theorem rd_isN : RD K (fun x y H Q => y = .non ∧ Q (.bl (decide (x = .non))) H) isND := fun W σ F H x y a b Q s ra rb q => by
  unfold isND at q
  split at q
  · refine ⟨rb.none, ?_⟩
    rw [isN_ok ra]
    exact q.ok s _ (.bl _)
  · exact q.elim
theorem rd_notN : RD K (fun x y H Q => y = .non ∧ Q (.bl (!decide (x = .non))) H) notND := fun W σ F H x y a b Q s ra rb q => by
  unfold notND at q
  split at q
  · refine ⟨rb.none, ?_⟩
    rw [isN_ok ra]
    exact q.ok s _ (.bl _)
  · exact q.elim
/-- in: a text in a text; flat data in a list or tuple of flat data; data in a list -/
def flatP : PD → Bool
  | .none => true
  | .bool _ => true
  | .int _ => true
  | .str _ => true
  | _ => false
def inS (i j : Str) : Bool := !(Builtin.Str.occurrences j i 0 j.length 1).isEmpty
def eqF : PD → PD → Bool
  | .none, .none => true
  | .bool a, .bool b => a == b
  | .bool a, .int b => (if a then 1 else 0) == b
  | .int a, .bool b => a == (if b then 1 else 0)
  | .int a, .int b => a == b
  | .str a, .str b => a == b
  | _, _ => false
def inB : PD → PD → R Bool
  | .str i, .str j => .ok (inS i j)
  | a, .list ds => if flatP a = true ∧ ds.all flatP = true then .ok (ds.any fun d => eqF d a)
      else if SeqAt.shaped a = true ∧ SeqAt.shaped (.list ds) = true then .ok (ds.any fun z => PyData.eqv z a) else .bad
  | a, .tuple ds => if flatP a = true ∧ ds.all flatP = true then .ok (ds.any fun d => eqF d a) else .bad
  | _, _ => .bad
def inD : PD → PD → R PD := fun a b => (inB a b).bind fun c => .ok (.bool c)
def ninD : PD → PD → R PD := fun a b => (inB a b).bind fun c => .ok (.bool !c)
theorem flat_ok {F H : Hp} {v : V} {d : PD} (r : Rp K F H v d) (h : flatP d = true) : flatV v = true := by
  rcases r with r | ⟨p, rfl, r⟩
  · cases r <;> first | rfl | cases h
  · cases d <;> first | exact False.elim r | cases h
theorem flats_ok {F : Hp} : ∀ {vs : List V} {ds : List PD}, DpAll K F vs ds → ds.all flatP = true → vs.all flatV = true
  | _, _, .nil, _ => rfl
  | _, _, .cons r t, h => by
    rw [List.all_cons, Bool.and_eq_true] at h ⊢
    exact ⟨flat_ok (F := F) (H := F) (.inl r) h.1, flats_ok t h.2⟩
theorem eqV_ok {F F' H : Hp} {v u : V} {d e : PD} (r : Dp K F v d) (r' : Rp K F' H u e) (h : flatP d = true) (h' : flatP e = true) : eqV v u = eqF d e := by
  rcases r' with r' | ⟨p, rfl, r'⟩
  · cases r <;> (try cases h) <;> cases r' <;> (try cases h') <;> rfl
  · cases e <;> first | exact False.elim r' | cases h'
theorem any_ok {F F' H : Hp} {u : V} {e : PD} (r' : Rp K F' H u e) (h' : flatP e = true) : ∀ {vs : List V} {ds : List PD}, DpAll K F vs ds → ds.all flatP = true → inV u vs = ds.any fun d => eqF d e
  | _, _, .nil, _ => rfl
  | _, _, .cons r t, h => by
    rw [List.all_cons, Bool.and_eq_true] at h
    have ih := any_ok r' h' t h.2
    unfold inV at ih ⊢
    rw [List.any_cons, List.any_cons, ih, eqV_ok r r' h.1 h']
def rIn2 (K : PySem.W.Frag) : R2 := fun x y H Q => (∃ i j, x = .str i ∧ y = .str j ∧ Q (.bl (!(Builtin.Str.occurrences j i 0 j.length 1).isEmpty)) H) ∨ rIn K false x y H Q ∨ rInD K x y H Q
def rNin2 (K : PySem.W.Frag) : R2 := fun x y H Q => (∃ i j, x = .str i ∧ y = .str j ∧ Q (.bl (!(!(Builtin.Str.occurrences j i 0 j.length 1).isEmpty))) H) ∨ rIn K true x y H Q ∨ rNotInD K x y H Q
theorem op_in2 {X : Cx} (hu : X.A.units + 65 < cLine) : OpR X (compareOp .In) (rIn2 X.K) := op_in_str.or (op_in_seq.or (op_inD hu))
theorem op_nin2 {X : Cx} (hu : X.A.units + 65 < cLine) : OpR X (compareOp .NotIn) (rNin2 X.K) := op_notIn_str.or (op_notIn_seq.or (op_notInD hu))
theorem rd_in : RD K (rIn2 K) inD := fun W σ F H x y a b Q s ra rb q => by
  unfold inD at q
  unfold inB at q
  split at q
  · exact .inl ⟨_, _, ra.str, rb.str, Fin.okk (x := PyData.bool _) K W σ s q _ (.bl _)⟩
  · split at q
    · rename_i h
      obtain ⟨p, vs, rfl, s1, r1⟩ := rb.list s
      refine .inr (.inl ⟨p, vs, rfl, .inl (.inl s1), flat_ok ra h.1, flats_ok r1 h.2, ?_⟩)
      rw [if_neg Bool.false_ne_true, any_ok ra h.1 r1 h.2]
      exact Fin.okk (x := PyData.bool _) K W σ s q _ (.bl _)
    · split at q
      · rename_i h
        exact .inr (.inr ⟨_, _, (ra.dp s (shaped_nodict h.1)).l2, (rb.dp s (shaped_nodict h.2)).l2, h.1, h.2, Fin.okk (x := PyData.bool _) K W σ s q _ (.bl _)⟩)
      · exact q.elim
  · split at q
    · rename_i h
      obtain ⟨p, vs, rfl, s1, r1⟩ := rb.tuple s
      refine .inr (.inl ⟨p, vs, rfl, .inr s1, flat_ok ra h.1, flats_ok r1 h.2, ?_⟩)
      rw [if_neg Bool.false_ne_true, any_ok ra h.1 r1 h.2]
      exact Fin.okk (x := PyData.bool _) K W σ s q _ (.bl _)
    · exact q.elim
  · exact q.elim
theorem rd_nin : RD K (rNin2 K) ninD := fun W σ F H x y a b Q s ra rb q => by
  unfold ninD at q
  unfold inB at q
  split at q
  · exact .inl ⟨_, _, ra.str, rb.str, Fin.okk (x := PyData.bool _) K W σ s q _ (.bl _)⟩
  · split at q
    · rename_i h
      obtain ⟨p, vs, rfl, s1, r1⟩ := rb.list s
      refine .inr (.inl ⟨p, vs, rfl, .inl (.inl s1), flat_ok ra h.1, flats_ok r1 h.2, ?_⟩)
      rw [if_pos rfl, any_ok ra h.1 r1 h.2]
      exact Fin.okk (x := PyData.bool _) K W σ s q _ (.bl _)
    · split at q
      · rename_i h
        exact .inr (.inr ⟨_, _, (ra.dp s (shaped_nodict h.1)).l2, (rb.dp s (shaped_nodict h.2)).l2, h.1, h.2, Fin.okk (x := PyData.bool _) K W σ s q _ (.bl _)⟩)
      · exact q.elim
  · split at q
    · rename_i h
      obtain ⟨p, vs, rfl, s1, r1⟩ := rb.tuple s
      refine .inr (.inl ⟨p, vs, rfl, .inr s1, flat_ok ra h.1, flats_ok r1 h.2, ?_⟩)
      rw [if_pos rfl, any_ok ra h.1 r1 h.2]
      exact Fin.okk (x := PyData.bool _) K W σ s q _ (.bl _)
    · exact q.elim
  · exact q.elim

/-! ### items, slices -/
theorem atI_ok {F : Hp} {vs : List V} {ds : List PD} {i : Int} {d : PD} (r : DpAll K F vs ds) (h : atI ds i = some d) : ∃ v, atI vs i = some v ∧ Dp K F v d := by
  unfold atI at h ⊢
  rw [r.length]
  cases e : ixN ds.length i with
  | none => rw [e] at h; cases h
  | some j =>
    rw [e] at h
    exact r.get' h
def ixD : PD → PD → R PD
  | .list ds, .int i => (match atI ds i with
    | some d => .ok d
    | none => .bad)
  | .tuple ds, .int i => (match atI ds i with
    | some d => .ok d
    | none => .bad)
  | .str z, .int i => if z.length ≤ sizeLine then (match atI z.cps.toList i with
    | some c => .ok (.str ⟨#[c]⟩)
    | none => .bad) else .bad
  | _, _ => .bad
theorem rd_ix : RD K (rIx K) ixD := fun W σ F H x y a b Q s ra rb q => by
  unfold ixD at q
  split at q
  · split at q
    · rename_i d e
      obtain ⟨p, vs, rfl, s1, r1⟩ := ra.list s
      obtain ⟨v, h1, h2⟩ := atI_ok r1 e
      exact .inl ⟨p, vs, _, v, rfl, rb.int, .inl s1, h1, q.ok s _ h2⟩
    · exact q.elim
  · split at q
    · rename_i d e
      obtain ⟨p, vs, rfl, s1, r1⟩ := ra.tuple s
      obtain ⟨v, h1, h2⟩ := atI_ok r1 e
      exact .inr (.inl ⟨p, vs, _, v, rfl, rb.int, s1, h1, q.ok s _ h2⟩)
    · exact q.elim
  · split at q
    · rename_i hz
      split at q
      · rename_i c e
        exact .inr (.inr ⟨_, _, c, ra.str, rb.int, hz, e, q.ok s _ (.str _)⟩)
      · exact q.elim
    · exact q.elim
  · exact q.elim
def TDp (K : PySem.W.Frag) (W : WX) (t : TO) (g : Rho → R (Option Int)) : Prop := ∀ (F0 H0 F H : Hp) (σ : L2.St) (ρ : Rho) (Q : Option Int → Hp → Prop), StR K F0 H0 F H σ ρ → Fin K W σ F H (g ρ) (fun o _ H' => Q o H') → t σ H Q
def pNo : Rho → R (Option Int) := fun _ => .ok none
def asI : PD → R Int
  | .int i => .ok i
  | _ => .bad
def pSo (g : Rho → R PD) : Rho → R (Option Int) := fun ρ => (g ρ).bind fun a => (asI a).bind fun i => .ok (some i)
variable {W : WX}
theorem tp_no : TDp K W tNoPart pNo := fun F0 H0 F H σ ρ Q S q => q.ok S.same
theorem tp_some {t : TE} {g : Rho → R PD} (h : TDr K W t g) : TDp K W (tPart t) (pSo g) := fun F0 H0 F H σ ρ Q S q =>
  h F0 H0 F H σ ρ _ S (q.then fun a F1 H1 e1 k1 v rv => by
    cases a with
    | int i => exact ⟨i, rv.int, Fin.okk (x := some i) K W σ e1.g k1⟩
    | _ => exact k1.elim)
def cutD (ds : List PD) (lo hi : Option Int) : List PD := (ds.drop (HT.sIx ds.length 0 lo)).take (HT.sIx ds.length ds.length hi - HT.sIx ds.length 0 lo)
theorem cut_ok {F : Hp} {vs : List V} {ds : List PD} {lo hi : Option Int} (r : DpAll K F vs ds) : DpAll K F (cutV vs lo hi) (cutD ds lo hi) := by
  unfold cutV cutD
  rw [r.length]
  exact (r.drop _).take _
def rSl2 (K : PySem.W.Frag) : V → Option Int → Option Int → Hp → VK → Prop := fun x lo hi H Q => rSlL K x lo hi H Q ∨ rSlA K x lo hi H Q ∨ rSlS x lo hi H Q
theorem sl_2 {X : Cx} : SlR X (rSl2 X.K) := sl_list.or (sl_tupA.or sl_str)
def slD (a : PD) (lo hi : Option Int) : R PD := match a with
  | .list ds => .ok (.list (cutD ds lo hi))
  | .tuple ds => .ok (.tuple (cutD ds lo hi))
  | .str z => if z.length ≤ sizeLine then .ok (.str (cutS z lo hi)) else .bad
  | _ => .bad
def eSl (g : Rho → R PD) (gl gh : Rho → R (Option Int)) : Rho → R PD := fun ρ => (g ρ).bind fun a => (gl ρ).bind fun l => (gh ρ).bind fun h => slD a l h
theorem cut_whole (vs : List V) {lo hi : Option Int} (h : HT.sIx vs.length 0 lo = 0 ∧ HT.sIx vs.length vs.length hi = vs.length) : cutV vs lo hi = vs := by
  unfold cutV
  rw [h.1, h.2]
  simp
theorem cut_same {F : Hp} {vs : List V} {ds : List PD} {lo hi : Option Int} (r : DpAll K F vs ds) (h : HT.sIx vs.length 0 lo = 0 ∧ HT.sIx vs.length vs.length hi = vs.length) : cutD ds lo hi = ds := by
  unfold cutD
  rw [r.length] at h
  rw [h.1, h.2]
  simp
theorem td_sl {t : TE} {g : Rho → R PD} {tl th : TO} {gl gh : Rho → R (Option Int)} (h : TDr K W t g) (hl : TDp K W tl gl) (hh : TDp K W th gh) : TDe K W (tSl (rSl2 K) t tl th) (eSl g gl gh) := fun F0 H0 F H σ ρ Q S q =>
  h F0 H0 F H σ ρ _ S (q.then fun a F1 H1 e1 k1 v rv => hl F0 H0 F1 H1 σ ρ _ (S.go e1) (k1.then fun lo F2 H2 e2 k2 => hh F0 H0 F2 H2 σ ρ _ ((S.go e1).go e2) (k2.then fun hi F3 H3 e3 k3 => by
    have rv := (rv.ext e2.f e2.h).ext e3.f e3.h
    unfold slD at k3
    split at k3
    · obtain ⟨p, vs, rfl, s1, r1⟩ := rv.list e3.g
      exact .inl ⟨p, vs, rfl, .inl s1, fun p hp => new_lst e3.g (cut_ok r1) k3 hp⟩
    · obtain ⟨p, vs, rfl, s1, r1⟩ := rv.tuple e3.g
      refine .inr (.inl ⟨p, vs, rfl, s1, fun hw => ?_, fun hw p hp => new_tup e3.g (cut_ok r1) k3 hp⟩)
      have e := cut_ok (lo := lo) (hi := hi) r1
      rw [cut_whole vs hw] at e
      refine Fin.okk (x := PyData.tuple _) K W σ e3.g k3 _ ?_
      rcases rv with rv | ⟨p', e', z⟩
      · rw [cut_same r1 hw]
        exact rv
      · exact z.elim
    · split at k3
      · rename_i hz
        exact .inr (.inr ⟨_, rv.str, hz, Fin.okk (x := PyData.str _) K W σ e3.g k3 _ (.str _)⟩)
      · exact k3.elim
    · exact k3.elim)))
def slL (a : PD) (lo hi : Option Int) : R PD := match a with
  | .list ds => .ok (.list (cutD ds lo hi))
  | _ => .bad
def oSl (g : Rho → R PD) (gl gh : Rho → R (Option Int)) : Rho → R PD := fun ρ => (g ρ).bind fun a => (gl ρ).bind fun l => (gh ρ).bind fun h => slL a l h
/-- readings whose result is new: the start's heap is told -/
theorem OwQ.back {F H F1 H1 : Hp} {σ : L2.St} {r : R PD} {Q : VK} (e : Ext F H F1 H1) (h : Fin K W σ F1 H1 r (OwQ K H Q)) : Fin K W σ F1 H1 r (OwQ K H1 Q) :=
  h.imp fun x F' H' e2 k p hp hf ho => k p (e.h.free hp) hf ho
theorem to_sl {t : TE} {g : Rho → R PD} {tl th : TO} {gl gh : Rho → R (Option Int)} (h : TDr K W t g) (hl : TDp K W tl gl) (hh : TDp K W th gh) : TDo K W (tSl (rSl2 K) t tl th) (oSl g gl gh) := fun F0 H0 F H σ ρ Q S q =>
  h F0 H0 F H σ ρ _ S (q.then fun a F1 H1 e1 k1 v rv => hl F0 H0 F1 H1 σ ρ _ (S.go e1) (k1.then fun lo F2 H2 e2 k2 => hh F0 H0 F2 H2 σ ρ _ ((S.go e1).go e2) (k2.then fun hi F3 H3 e3 k3 => by
    have rv := (rv.ext e2.f e2.h).ext e3.f e3.h
    have k3 := OwQ.back ((e1.trans e2).trans e3) k3
    unfold slL at k3
    split at k3
    · obtain ⟨p, vs, rfl, s1, r1⟩ := rv.list e3.g
      exact .inl ⟨p, vs, rfl, .inl s1, fun p hp => own_lst e3.g (cut_ok r1) k3 hp⟩
    · exact k3.elim)))

/-! ### built-in functions by name -/
def RC (K : PySem.W.Frag) (r : List V → Hp → VK → Prop) (f : List PD → R PD) : Prop := ∀ (W : WX) (σ : L2.St) (F H : Hp) (vs : List V) (ds : List PD) (Q : VK), Same F H → RpAll K F H vs ds → Fin K W σ F H (f ds) (DpQ K Q) → r vs H Q
def RCo (K : PySem.W.Frag) (r : List V → Hp → VK → Prop) (f : List PD → R PD) : Prop := ∀ (W : WX) (σ : L2.St) (F H : Hp) (vs : List V) (ds : List PD) (Q : VK), Same F H → RpAll K F H vs ds → Fin K W σ F H (f ds) (OwQ K H Q) → r vs H Q
variable {ta : TA} {ga : Rho → R (List PD)} {r : List V → Hp → VK → Prop} {f : List PD → R PD}
def eCB (f : List PD → R PD) (ga : Rho → R (List PD)) : Rho → R PD := fun ρ => (ga ρ).bind f
theorem td_cb (hr : RC K r f) (h : TDq K W ta ga) : TDe K W (tCB r ta) (eCB f ga) := fun F0 H0 F H σ ρ Q S q =>
  h F0 H0 F H σ ρ _ S (q.then fun ds F1 H1 e1 k1 vs rs => hr W σ F1 H1 vs ds Q e1.g rs k1)
theorem to_cb (hr : RCo K r f) (h : TDq K W ta ga) : TDo K W (tCB r ta) (eCB f ga) := fun F0 H0 F H σ ρ Q S q =>
  h F0 H0 F H σ ρ _ S (q.then fun ds F1 H1 e1 k1 vs rs => hr W σ F1 H1 vs ds Q e1.g rs (OwQ.back e1 k1))
theorem RpAll.one {F H : Hp} {vs : List V} {d : PD} (r : RpAll K F H vs [d]) : ∃ v, vs = [v] ∧ Rp K F H v d := by
  cases r with
  | cons a b => cases b; exact ⟨_, rfl, a⟩
theorem RpAll.two {F H : Hp} {vs : List V} {d e : PD} (r : RpAll K F H vs [d, e]) : ∃ v u, vs = [v, u] ∧ Rp K F H v d ∧ Rp K F H u e := by
  cases r with
  | cons a b =>
    obtain ⟨u, rfl, c⟩ := b.one
    exact ⟨_, _, rfl, a, c⟩
def lenD : List PD → R PD
  | [.list ds] => .ok (.int ds.length)
  | [.tuple ds] => .ok (.int ds.length)
  | [.str z] => if z.length ≤ sizeLine then .ok (.int z.length) else .bad
  | _ => .bad
theorem rc_len : RC K (fun xs H Q => ∃ x n, xs = [x] ∧ LenV K x H n ∧ Q (.int n) H) lenD := fun W σ F H vs ds Q s rs q => by
  unfold lenD at q
  split at q
  · obtain ⟨v, rfl, r⟩ := rs.one
    obtain ⟨p, us, rfl, s1, r1⟩ := r.list s
    exact ⟨_, _, rfl, .inl ⟨us, .inl s1, r1.length.symm⟩, q.ok s _ (.int _)⟩
  · obtain ⟨v, rfl, r⟩ := rs.one
    obtain ⟨p, us, rfl, s1, r1⟩ := r.tuple s
    exact ⟨_, _, rfl, .inr ⟨us, s1, r1.length.symm⟩, q.ok s _ (.int _)⟩
  · split at q
    · rename_i hz
      obtain ⟨v, rfl, r⟩ := rs.one
      exact ⟨_, _, rfl, by rw [r.str]; exact ⟨hz, rfl⟩, q.ok s _ (.int _)⟩
    · exact q.elim
  · exact q.elim
def rList (K : PySem.W.Frag) : List V → Hp → VK → Prop := fun xs H Q => ∃ p ys, xs = [.ref p] ∧ (SqL K H p ys ∨ SqT K H p ys) ∧ ∀ l, H l = none → Q (.ref l) (upd H l (.lst ys))
def listD : List PD → R PD
  | [.list ds] => .ok (.list ds)
  | [.tuple ds] => .ok (.list ds)
  | _ => .bad
theorem rco_list : RCo K (rList K) listD := fun W σ F H vs ds Q s rs q => by
  unfold listD at q
  split at q
  · obtain ⟨v, rfl, r⟩ := rs.one
    obtain ⟨p, us, rfl, s1, r1⟩ := r.list s
    exact ⟨_, _, rfl, .inl (.inl s1), fun l hl => own_lst s r1 q hl⟩
  · obtain ⟨v, rfl, r⟩ := rs.one
    obtain ⟨p, us, rfl, s1, r1⟩ := r.tuple s
    exact ⟨_, _, rfl, .inr s1, fun l hl => own_lst s r1 q hl⟩
  · exact q.elim
def rTuple (K : PySem.W.Frag) : List V → Hp → VK → Prop := fun xs H Q => ∃ p ys, xs = [.ref p] ∧ ((SqL K H p ys ∧ ∀ l, H l = none → Q (.ref l) (upd H l (.tup ys))) ∨ (SqT K H p ys ∧ Q (.ref p) H))
def tupleD : List PD → R PD
  | [.list ds] => .ok (.tuple ds)
  | [.tuple ds] => .ok (.tuple ds)
  | _ => .bad
theorem rc_tuple : RC K (rTuple K) tupleD := fun W σ F H vs ds Q s rs q => by
  unfold tupleD at q
  split at q
  · obtain ⟨v, rfl, r⟩ := rs.one
    obtain ⟨p, us, rfl, s1, r1⟩ := r.list s
    exact ⟨_, _, rfl, .inl ⟨.inl s1, fun l hl => new_tup s r1 q hl⟩⟩
  · obtain ⟨v, rfl, r⟩ := rs.one
    obtain ⟨p, us, rfl, s1, r1⟩ := r.tuple s
    refine ⟨_, _, rfl, .inr ⟨s1, ?_⟩⟩
    rcases r with r | ⟨p', e, z⟩
    · exact q.ok s _ r
    · exact z.elim
  · exact q.elim
/-- all of one kind -/
def asInts : List PD → Option (List Int)
  | [] => some []
  | .int i :: ds => (asInts ds).map (i :: ·)
  | _ => none
theorem asInts_ok : ∀ {ds : List PD} {ns : List Int}, asInts ds = some ns → ds = ns.map PyData.int
  | [], _, h => by cases h; rfl
  | d :: ds, ns, h => by
    cases d with
    | int i =>
      have h : (asInts ds).map (i :: ·) = some ns := h
      cases e : asInts ds with
      | none => rw [e] at h; cases h
      | some l => rw [e] at h; cases h; rw [asInts_ok e]; rfl
    | _ => cases h
theorem asInts_map : ∀ ns : List Int, asInts (ns.map PyData.int) = some ns
  | [] => rfl
  | n :: ns => by
    show (asInts (ns.map PyData.int)).map (n :: ·) = _
    rw [asInts_map ns]; rfl
def asStrs : List PD → Option (List Str)
  | [] => some []
  | .str i :: ds => (asStrs ds).map (i :: ·)
  | _ => none
theorem asStrs_ok : ∀ {ds : List PD} {ns : List Str}, asStrs ds = some ns → ds = ns.map PyData.str
  | [], _, h => by cases h; rfl
  | d :: ds, ns, h => by
    cases d with
    | str i =>
      have h : (asStrs ds).map (i :: ·) = some ns := h
      cases e : asStrs ds with
      | none => rw [e] at h; cases h
      | some l => rw [e] at h; cases h; rw [asStrs_ok e]; rfl
    | _ => cases h
theorem asStrs_map : ∀ ns : List Str, asStrs (ns.map PyData.str) = some ns
  | [] => rfl
  | n :: ns => by
    show (asStrs (ns.map PyData.str)).map (n :: ·) = _
    rw [asStrs_map ns]; rfl
def asBools : List PD → Option (List Bool)
  | [] => some []
  | .bool i :: ds => (asBools ds).map (i :: ·)
  | _ => none
theorem asBools_ok : ∀ {ds : List PD} {ns : List Bool}, asBools ds = some ns → ds = ns.map PyData.bool
  | [], _, h => by cases h; rfl
  | d :: ds, ns, h => by
    cases d with
    | bool i =>
      have h : (asBools ds).map (i :: ·) = some ns := h
      cases e : asBools ds with
      | none => rw [e] at h; cases h
      | some l => rw [e] at h; cases h; rw [asBools_ok e]; rfl
    | _ => cases h
theorem asBools_map : ∀ ns : List Bool, asBools (ns.map PyData.bool) = some ns
  | [] => rfl
  | n :: ns => by
    show (asBools (ns.map PyData.bool)).map (n :: ·) = _
    rw [asBools_map ns]; rfl
def sumD : List PD → R PD
  | [.list ds] => (match asInts ds with
    | some ns => .ok (.int ns.sum)
    | none => .bad)
  | _ => .bad
theorem rc_sum : RC K (rSum K) sumD := fun W σ F H vs ds Q s rs q => by
  unfold sumD at q
  split at q
  · split at q
    · rename_i ns e
      obtain ⟨v, rfl, r⟩ := rs.one
      obtain ⟨p, us, rfl, s1, r1⟩ := r.list s
      rw [asInts_ok e] at r1
      have e2 := r1.of_ints
      subst e2
      exact ⟨p, ns, rfl, .inl s1, q.ok s _ (.int _)⟩
    · exact q.elim
  · exact q.elim
def anyD : List PD → R PD
  | [.list ds] => (match asBools ds with
    | some bs => .ok (.bool (bs.any id))
    | none => .bad)
  | _ => .bad
def allD : List PD → R PD
  | [.list ds] => (match asBools ds with
    | some bs => .ok (.bool (bs.all id))
    | none => .bad)
  | _ => .bad
theorem rc_any : RC K (rAny K) anyD := fun W σ F H vs ds Q s rs q => by
  unfold anyD at q
  split at q
  · split at q
    · rename_i ns e
      obtain ⟨v, rfl, r⟩ := rs.one
      obtain ⟨p, us, rfl, s1, r1⟩ := r.list s
      rw [asBools_ok e] at r1
      have e2 := r1.of_bls
      subst e2
      exact ⟨p, ns, rfl, .inl s1, q.ok s _ (.bl _)⟩
    · exact q.elim
  · exact q.elim
theorem rc_all : RC K (rAll K) allD := fun W σ F H vs ds Q s rs q => by
  unfold allD at q
  split at q
  · split at q
    · rename_i ns e
      obtain ⟨v, rfl, r⟩ := rs.one
      obtain ⟨p, us, rfl, s1, r1⟩ := r.list s
      rw [asBools_ok e] at r1
      have e2 := r1.of_bls
      subst e2
      exact ⟨p, ns, rfl, .inl s1, q.ok s _ (.bl _)⟩
    · exact q.elim
  · exact q.elim
def rMax2 : List V → Hp → VK → Prop := fun xs H Q => ∃ i j, xs = [.int i, .int j] ∧ Q (.int (if j > i then j else i)) H
def rMin2 : List V → Hp → VK → Prop := fun xs H Q => ∃ i j, xs = [.int i, .int j] ∧ Q (.int (if j < i then j else i)) H
def max2D : List PD → R PD
  | [.int i, .int j] => .ok (.int (if j > i then j else i))
  | _ => .bad
def min2D : List PD → R PD
  | [.int i, .int j] => .ok (.int (if j < i then j else i))
  | _ => .bad
theorem rc_max2 : RC K rMax2 max2D := fun W σ F H vs ds Q s rs q => by
  unfold max2D at q
  split at q
  · obtain ⟨v, u, rfl, r1, r2⟩ := rs.two
    exact ⟨_, _, by rw [r1.int, r2.int], q.ok s _ (.int _)⟩
  · exact q.elim
theorem rc_min2 : RC K rMin2 min2D := fun W σ F H vs ds Q s rs q => by
  unfold min2D at q
  split at q
  · obtain ⟨v, u, rfl, r1, r2⟩ := rs.two
    exact ⟨_, _, by rw [r1.int, r2.int], q.ok s _ (.int _)⟩
  · exact q.elim
/-- str(n) -/
def strD : List PD → R PD
  | [.int i] => if i.natAbs.log2 < 1920 then .ok (.str (toString i)) else .bad
  | _ => .bad
theorem rc_str : RC K (fun xs H Q => ∃ i : Int, xs = [.int i] ∧ i.natAbs.log2 < 1920 ∧ Q (.str (toString i)) H) strD := fun W σ F H vs ds Q s rs q => by
  unfold strD at q
  split at q
  · split at q
    · rename_i h
      obtain ⟨v, rfl, r1⟩ := rs.one
      exact ⟨_, by rw [r1.int], h, q.ok s _ (.str _)⟩
    · exact q.elim
  · exact q.elim
/-- int(n), int(flag), int(text) -/
def rInt : List V → Hp → VK → Prop := fun xs H Q => ((∃ i, xs = [.int i] ∧ Q (.int i) H) ∨ ∃ k, xs = [.bl k] ∧ Q (.int (if k then 1 else 0)) H) ∨ ∃ a n, xs = [.str a] ∧ PySem.intText? a = some n ∧ a.length ≤ 640 ∧ Q (.int n) H
theorem call_int3 {X : Cx} : CallR X (.type "int") rInt := call_int1.or call_int_str
def intD : List PD → R PD
  | [.int i] => .ok (.int i)
  | [.bool k] => .ok (.int (if k = true then 1 else 0))
  | [.str a] => (match PySem.intText? a with
    | some n => if a.length ≤ 640 then .ok (.int n) else .bad
    | none => .bad)
  | _ => .bad
theorem rc_int : RC K rInt intD := fun W σ F H vs ds Q s rs q => by
  unfold intD at q
  split at q
  · obtain ⟨v, rfl, r1⟩ := rs.one
    exact .inl (.inl ⟨_, by rw [r1.int], q.ok s _ (.int _)⟩)
  · obtain ⟨v, rfl, r1⟩ := rs.one
    exact .inl (.inr ⟨_, by rw [r1.bool], q.ok s _ (.int _)⟩)
  · split at q
    · rename_i n e
      split at q
      · rename_i h
        obtain ⟨v, rfl, r1⟩ := rs.one
        exact .inr ⟨_, _, by rw [r1.str], e, h, q.ok s _ (.int _)⟩
      · exact q.elim
    · exact q.elim
  · exact q.elim
/-- isinstance(x, T), T a built-in type written -/
def tyName : PD → Option String
  | .none => some "NoneType"
  | .bool _ => some "bool"
  | .int _ => some "int"
  | .str _ => some "str"
  | .list _ => some "list"
  | .tuple _ => some "tuple"
  | .dict _ => none
def isiB (T : String) (a : PD) : Option Bool := (tyName a).bind fun n => kitB n T
def isiD (T : String) : PD → R PD := fun a => match isiB T a with
  | some b => .ok (.bool b)
  | none => .bad
theorem tyX_of {F H : Hp} {x : V} {a : PD} {n : String} (s : Same F H) (ra : Rp K F H x a) (h : tyName a = some n) : TyX K H x (.type n) := by
  cases a with
  | none => cases h; rw [ra.none]; exact .base .non
  | bool b => cases h; rw [ra.bool]; exact .base (.bl b)
  | int b => cases h; rw [ra.int]; exact .base (.int b)
  | str b => cases h; rw [ra.str]; exact .base (.str b)
  | list ds =>
    cases h
    obtain ⟨p, vs, rfl, s1, r1⟩ := ra.list s
    rcases s1 with z | ⟨o, z⟩
    · exact .base (.lst z)
    · exact .base (.frz z)
  | tuple ds =>
    cases h
    obtain ⟨p, vs, rfl, s1, r1⟩ := ra.tuple s
    rcases s1 with (z | ⟨o, z⟩) | ⟨o, its, n, z1, z2, _⟩
    · exact .base (.tup z)
    · exact .fTuple z
    · exact .kTuple z1 z2
  | dict kvs => cases h
def eIsi (T : String) (g : Rho → R PD) : Rho → R PD := fun ρ => (g ρ).bind (isiD T)
theorem td_isi {t : TE} {g : Rho → R PD} {T : String} (h : TDr K W t g) : TDe K W (tCB (rIsi K) (tCons t (tCons (tC (.ty T)) tNil))) (eIsi T g) := fun F0 H0 F H σ ρ Q S q =>
  h F0 H0 F H σ ρ _ S (q.then fun a F1 H1 e1 k1 v rv => by
    unfold isiD at k1
    split at k1
    · rename_i b e
      unfold isiB at e
      cases en : tyName a with
      | none => rw [en] at e; cases e
      | some n =>
        rw [en] at e
        exact ⟨v, .ty T, .type n, .type T, b, rfl, .ty T, tyX_of e1.g rv en, kit_ty e, k1.ok e1.g _ (.bl b)⟩
    · exact k1.elim)

/-! ### methods of texts -/
def RM (K : PySem.W.Frag) (r : V → List V → Hp → VK → Prop) (f : PD → List PD → R PD) : Prop := ∀ (W : WX) (σ : L2.St) (F H : Hp) (x : V) (a : PD) (vs : List V) (ds : List PD) (Q : VK), Same F H → Rp K F H x a → RpAll K F H vs ds → Fin K W σ F H (f a ds) (DpQ K Q) → r x vs H Q
def RMo (K : PySem.W.Frag) (r : V → List V → Hp → VK → Prop) (f : PD → List PD → R PD) : Prop := ∀ (W : WX) (σ : L2.St) (F H : Hp) (x : V) (a : PD) (vs : List V) (ds : List PD) (Q : VK), Same F H → Rp K F H x a → RpAll K F H vs ds → Fin K W σ F H (f a ds) (OwQ K H Q) → r x vs H Q
def strOf (a : PD) (k : R PD) : R PD := match a with
  | .str _ => k
  | _ => .bad
def eM0 (f : PD → List PD → R PD) (g : Rho → R PD) : Rho → R PD := fun ρ => (g ρ).bind fun a => strOf a (f a [])
def eM1 (f : PD → List PD → R PD) (g ge : Rho → R PD) : Rho → R PD := fun ρ => (g ρ).bind fun a => strOf a ((ge ρ).bind fun b => f a [b])
theorem strOf_k {F H : Hp} {σ : L2.St} {a : PD} {x : V} {k : R PD} {P : PD → Hp → Hp → Prop} (ra : Rp K F H x a) (h : Fin K W σ F H (strOf a k) P) : (∃ z, x = .str z) ∧ Fin K W σ F H k P := by
  unfold strOf at h
  split at h
  · exact ⟨⟨_, ra.str⟩, h⟩
  · exact h.elim
variable {t te : TE} {g ge : Rho → R PD} {rm : V → List V → Hp → VK → Prop} {fm : PD → List PD → R PD}
theorem td_m0 (hr : RM K rm fm) (h : TDr K W t g) : TDe K W (tM0 rm t) (eM0 fm g) := fun F0 H0 F H σ ρ Q S q =>
  h F0 H0 F H σ ρ _ S (q.then fun a F1 H1 e1 k1 v rv => by
    obtain ⟨z, k2⟩ := strOf_k rv k1
    exact ⟨z, hr W σ F1 H1 v a [] [] Q e1.g rv .nil k2⟩)
theorem to_m0 (hr : RMo K rm fm) (h : TDr K W t g) : TDo K W (tM0 rm t) (eM0 fm g) := fun F0 H0 F H σ ρ Q S q =>
  h F0 H0 F H σ ρ _ S (q.then fun a F1 H1 e1 k1 v rv => by
    obtain ⟨z, k2⟩ := strOf_k rv k1
    exact ⟨z, hr W σ F1 H1 v a [] [] Q e1.g rv .nil (OwQ.back e1 k2)⟩)
theorem td_m1 (hr : RM K rm fm) (h : TDr K W t g) (he : TDr K W te ge) : TDe K W (tM1 rm t te) (eM1 fm g ge) := fun F0 H0 F H σ ρ Q S q =>
  h F0 H0 F H σ ρ _ S (q.then fun a F1 H1 e1 k1 v rv => by
    obtain ⟨z, k2⟩ := strOf_k rv k1
    exact ⟨z, he F0 H0 F1 H1 σ ρ _ (S.go e1) (k2.then fun b F2 H2 e2 k3 u ru => hr W σ F2 H2 v a [u] [b] Q e2.g (rv.ext e2.f e2.h) (.cons ru .nil) k3)⟩)
theorem to_m1 (hr : RMo K rm fm) (h : TDr K W t g) (he : TDr K W te ge) : TDo K W (tM1 rm t te) (eM1 fm g ge) := fun F0 H0 F H σ ρ Q S q =>
  h F0 H0 F H σ ρ _ S (q.then fun a F1 H1 e1 k1 v rv => by
    obtain ⟨z, k2⟩ := strOf_k rv k1
    exact ⟨z, he F0 H0 F1 H1 σ ρ _ (S.go e1) (k2.then fun b F2 H2 e2 k3 u ru => hr W σ F2 H2 v a [u] [b] Q e2.g (rv.ext e2.f e2.h) (.cons ru .nil) (OwQ.back (e1.trans e2) k3))⟩)
def rSplit : V → List V → Hp → VK → Prop := fun x xs H Q => ∃ a b : Str, x = .str a ∧ xs = [.str b] ∧ (b.length == 0) = false ∧ a.length + 2 ≤ sizeLine ∧ rNewStrs (Txt.split a b) H Q
def splitD : PD → List PD → R PD
  | .str a, [.str b] => if (b.length == 0) = false ∧ a.length + 2 ≤ sizeLine then .ok (.list ((Txt.split a b).map PyData.str)) else .bad
  | _, _ => .bad
theorem rmo_split : RMo K rSplit splitD := fun W σ F H x a vs ds Q s ra rs q => by
  unfold splitD at q
  split at q
  · split at q
    · rename_i h
      obtain ⟨v, rfl, r1⟩ := rs.one
      exact ⟨_, _, ra.str, by rw [r1.str], h.1, h.2, fun p hp => own_lst s DpAll.strs q hp⟩
    · exact q.elim
  · exact q.elim
def rWords : V → List V → Hp → VK → Prop := fun x xs H Q => ∃ a : Str, x = .str a ∧ xs = [] ∧ a.length + 2 ≤ sizeLine ∧ rNewStrs (Txt.words a) H Q
def wordsD : PD → List PD → R PD
  | .str a, [] => if a.length + 2 ≤ sizeLine then .ok (.list ((Txt.words a).map PyData.str)) else .bad
  | _, _ => .bad
theorem rmo_words : RMo K rWords wordsD := fun W σ F H x a vs ds Q s ra rs q => by
  unfold wordsD at q
  split at q
  · split at q
    · rename_i h
      cases rs
      exact ⟨_, ra.str, rfl, h, fun p hp => own_lst s DpAll.strs q hp⟩
    · exact q.elim
  · exact q.elim
def rJoin (K : PySem.W.Frag) : V → List V → Hp → VK → Prop := fun x xs H Q => ∃ a p, ∃ ys : List Str, x = .str a ∧ xs = [.ref p] ∧ (SqL K H p (ys.map V.str) ∨ SqT K H p (ys.map V.str)) ∧
    (ys.map (·.length)).sum + ys.length * a.length ≤ 16777216 ∧ Q (.str (Txt.join a ys)) H
def joinD : PD → List PD → R PD
  | .str a, [.list ds] => (match asStrs ds with
    | some ys => if (ys.map (·.length)).sum + ys.length * a.length ≤ 16777216 then .ok (.str (Txt.join a ys)) else .bad
    | none => .bad)
  | _, _ => .bad
theorem rm_join : RM K (rJoin K) joinD := fun W σ F H x a vs ds Q s ra rs q => by
  unfold joinD at q
  split at q
  · split at q
    · rename_i ys e
      split at q
      · rename_i h
        obtain ⟨v, rfl, r1⟩ := rs.one
        obtain ⟨p, us, rfl, s1, r2⟩ := r1.list s
        rw [asStrs_ok e] at r2
        have e2 := r2.of_strs
        subst e2
        exact ⟨_, p, ys, ra.str, rfl, .inl (.inl s1), h, q.ok s _ (.str _)⟩
      · exact q.elim
    · exact q.elim
  · exact q.elim
def rStarts : V → List V → Hp → VK → Prop := fun x xs H Q => ∃ a b, x = .str a ∧ xs = [.str b] ∧ Q (.bl (Txt.startswith a b)) H
def startsD : PD → List PD → R PD
  | .str a, [.str b] => .ok (.bool (Txt.startswith a b))
  | _, _ => .bad
theorem rm_starts : RM K rStarts startsD := fun W σ F H x a vs ds Q s ra rs q => by
  unfold startsD at q
  split at q
  · obtain ⟨v, rfl, r1⟩ := rs.one
    exact ⟨_, _, ra.str, by rw [r1.str], q.ok s _ (.bl _)⟩
  · exact q.elim
def rCount : V → List V → Hp → VK → Prop := fun x xs H Q => ∃ a b, x = .str a ∧ xs = [.str b] ∧ Q (.int (Txt.count a b)) H
def countD : PD → List PD → R PD
  | .str a, [.str b] => .ok (.int (Txt.count a b))
  | _, _ => .bad
theorem rm_count : RM K rCount countD := fun W σ F H x a vs ds Q s ra rs q => by
  unfold countD at q
  split at q
  · obtain ⟨v, rfl, r1⟩ := rs.one
    exact ⟨_, _, ra.str, by rw [r1.str], q.ok s _ (.int _)⟩
  · exact q.elim

/-! ### lists changed in place: a name's own list -/
def ownL (ρ : Rho) (i : Nat) (k : List PD → SR) : SR := match ρ[i]? with
  | some (some (.t (.own (.list ds)))) => k ds
  | _ => .bad
def sAppend (i : Nat) (g : Rho → R PD) : Rho → SR := fun ρ => ownL ρ i fun ds => SR.of (g ρ) fun x => if ds.length < sizeLine then .nx (ρ.set i (some (.o (.list (ds ++ [x]))))) else .bad
theorem ownL_k {F0 H0 F H : Hp} {σ : L2.St} {ρ : Rho} {D : Ends} {i : Nat} {k : List PD → SR} (S : StR K F0 H0 F H σ ρ) (h : FinS K W F0 H0 D (ownL ρ i k)) :
    ∃ p ds vs, ρ[i]? = some (some (Sl.o (.list ds))) ∧ σ[i]? = some (some (.ref p)) ∧ H p = some (.lst vs) ∧ DpAll K F vs ds ∧ FinS K W F0 H0 D (k ds) := by
  unfold ownL at h
  split at h
  · rename_i ds e
    obtain ⟨p, a, b, c, vs, d1, d2⟩ := S.own i _ e
    exact ⟨p, ds, vs, e, a, d1, d2, h⟩
  · exact h.elim
theorem ds_append (i : Nat) (h : TDe K W te g) : TDS K W (tDrop (tBM K "list" rAppend (tVar i) (tCons te tNil))) (sAppend i g) := fun F0 H0 F H σ ρ D S q => by
  obtain ⟨p, ds, vs, h1, h2, h3, h4, k⟩ := ownL_k S q
  refine ⟨.ref p, h2, .inl ⟨rfl, vs, SqL.of h3⟩, h F0 H0 F H σ ρ _ S (k.of S.ext fun x F1 H1 e1 k v rv => ?_)⟩
  have k : FinS K W F0 H0 D (if ds.length < sizeLine then .nx (ρ.set i (some (.o (.list (ds ++ [x]))))) else .bad) := k
  by_cases hl : ds.length < sizeLine
  · rw [if_pos hl] at k
    refine ⟨p, vs, v, rfl, rfl, e1.h p _ h3, by rw [h4.length]; exact hl, ?_⟩
    exact k σ F1 _ ((S.go e1).mut h1 h2 ⟨_, upd_same, (h4.mono e1.f).append (.cons rv .nil)⟩)
  · rw [if_neg hl] at k
    exact k.elim
end
end DL
namespace DL
open PySem PySem.Spec PyProof.Rows L2

/-! ### a written part without lists -/
def isListO (o : Obj) : Bool := match o.cls with
  | .type c => c == "list"
  | _ => false
def frN (g : Addr → Option Obj) (as : List Addr) : PySem.W.Frag := (He.frG g as).filter fun q => !isListO q.2
theorem frG_mem {g : Addr → Option Obj} {as : List Addr} {a : Addr} {ob : Obj} (h : (a, ob) ∈ He.frG g as) : g a = some ob := by
  unfold He.frG at h
  obtain ⟨b, _, e⟩ := List.mem_filterMap.mp h
  cases hb : g b with
  | none =>
    rw [hb] at e
    cases e
  | some u =>
    rw [hb] at e
    have eq2 : (b, u) = (a, ob) := Option.some.inj e
    injection eq2 with e3 e4
    rw [← e3, ← e4]
    exact hb
theorem lookup_mem {a : Addr} {ob : Obj} : ∀ {l : List (Addr × Obj)}, l.lookup a = some ob → (a, ob) ∈ l
  | [], h => by cases h
  | (b, u) :: r, h => by
    have hq : (match a == b with | true => some u | false => r.lookup a) = some ob := h
    cases q : (a == b) with
    | true =>
      rw [q] at hq
      have eo : u = ob := Option.some.inj hq
      rw [beq_iff_eq.mp q, eo]
      exact List.mem_cons_self
    | false =>
      rw [q] at hq
      exact List.mem_cons_of_mem _ (lookup_mem hq)
theorem frN_in {as : List Addr} {h : Heap} : (frN h.get? as).In h := fun a o e => frG_mem (List.mem_filter.mp (lookup_mem e)).1
def NoLists (K : PySem.W.Frag) : Prop := ∀ a o, K.lookup a = some o → o.cls ≠ .type "list"
theorem frN_no {g : Addr → Option Obj} {as : List Addr} : NoLists (frN g as) := fun a o e z => by
  have h := (List.mem_filter.mp (lookup_mem e)).2
  simp only at h
  unfold isListO at h
  rw [z] at h
  simp at h
def obsN (n : Nat) (fa : List He.Fa) (fn : List He.DefD) (ex : PySem.W.Frag → Bool) (g : Addr → Option Obj) : Bool × He.AlD := (ex (frN g (He.asD g n)), He.obsD fa fn (frN g (He.asD g n)))
def hookN (n : Nat) (fa : List He.Fa) (fn : List He.DefD) (ex : PySem.W.Frag → Bool) : PySem.W.Hook where
  α := Bool × He.AlD
  obs := fun s => obsN n fa fn ex s.heap.get?
  val := fun _ => (true, He.valD fn)
  says := fun _ h => ∃ K : PySem.W.Frag, K.In h ∧ NoLists K ∧ ex K = true ∧ He.SaysD fa fn K
  of := fun _ s e => ⟨_, frN_in, frN_no, congrArg Prod.fst e, congrArg Prod.snd e⟩
  keeps := fun _ _ _ ⟨K, hK, c⟩ k => ⟨K, PySem.W.Frag.In.keeps hK k, c⟩
theorem obsN_eq {n : Nat} {fa : List He.Fa} {fn : List He.DefD} {ex : PySem.W.Frag → Bool} {g : Addr → Option Obj} {s : Shared} (h : ∀ a, g a = s.heap.get? a) : obsN n fa fn ex g = (hookN n fa fn ex).obs s := by
  have e : g = s.heap.get? := funext h
  rw [e] <;> rfl

/-! ### defs by name -/
/-- what callers use of a def -/
def Kept (P : Program) (w : World) (K : PySem.W.Frag) (mg : Str → Option Value) (base : Heap) (k n : Nat) (x : Str) (ps : List Str) (f : List PD → FR) : Prop :=
  ∃ fd : FuncData, PySem.W.keepIn K (.ref (He.ga K x)) = true ∧ mg x = some (.ref (He.ga K x)) ∧ Binds K fd ps [] ∧ FnOk P w K mg base (L2.CX P w) k (He.ga K x) fd ps (spD K n f)
theorem hu65 {A : Around} {k : Nat} (hr : Room k A) : A.units + 65 < cLine := by have := hr.un; omega
/-- the law's end -/
theorem law_end {l : PySem.W.OpenLaw} {n k : Nat} {q : Program} {loose : List Str} {XP : (Str → Option Value) → Heap → Prop} {d : DefRec} {fa : List He.Fa} {fn : List He.DefD} {ex : PySem.W.Frag → Bool} {YP : World → Heap → Prop} {x : Str} {f : List PD → FR}
    (hY : YP = (hookN n fa fn ex).says)
    (hn : l.most = some 63) (hdf : d.params.defaults = []) (hr : Room k callerA) (hd : d.name = ("law" : Str))
    (F : ∀ (w : World) (K : PySem.W.Frag) (h : Heap) (mg : Str → Option Value), K.In h → h.Ns mainGlobals mg → ex K = true → He.SaysD fa fn K →
      ∃ fd : FuncData, (∀ (s : Shared) (u : Value), BindsTo s fd ⟨[u], []⟩ [(x, u)]) ∧ mg ("law" : Str) = some (.ref (He.ga K ("law" : Str))) ∧ ∀ base : Heap, K.In base → base.Ns mainGlobals mg → FnOk l.prog w K mg base (L2.CX l.prog w) k (He.ga K ("law" : Str)) fd [x] (spD K 1 f))
    (T : ∀ ns : List Int, ns.length ≤ 63 → f [.list (ns.map PyData.int)] = .rt (.d (.bool true))) :
    PySem.W.WalkO q loose XP YP l.row.toRowW d [] (fun f vs => PySem.call f vs) := by
  subst hY
  refine Att.attach_call hn hdf fun w s₀ s₁ mg mb fa o pm cd doc a vs ns G Y ho hd' hcd hmg hobj hints hlen hg => ?_
  obtain ⟨K, KX, nol, hex, c⟩ := Y
  obtain ⟨fd, hb, hl, hF⟩ := F w K _ mg KX G.T.g hex c
  rw [hd, hl] at hmg
  cases hmg
  exact law_call KX G.T.g G.T.b G.T.builtins G.T.nolimit hg hobj hints (Nat.le_trans hlen (by decide)) hr hF hb (fun H hO hS => by
    refine ⟨rfl, H, [.list (ns.map PyData.int)], Same.refl H, .cons (.lst (xs := ns.map V.int) ?_ DpAll.ints) .nil, ?_⟩
    · rcases hS with h | ⟨o, its, m, h1, h2, _⟩
      · exact h
      · exact absurd h2 (nol _ _ h1)
    · rw [T ns hlen]
      intro v F1 H1 _ r
      cases r
      rfl) fun H e s' z => by
        obtain ⟨_, _, _, _, _, _, _, _, _, _, _, _, z⟩ := z
        exact z

/-! ### built-in names -/
theorem bb_len : bootBuiltins "len" = some (.builtin "len") := by decide +kernel
theorem bb_sum : bootBuiltins "sum" = some (.builtin "sum") := by decide +kernel
theorem bb_any : bootBuiltins "any" = some (.builtin "any") := by decide +kernel
theorem bb_all : bootBuiltins "all" = some (.builtin "all") := by decide +kernel
theorem bb_max : bootBuiltins "max" = some (.builtin "max") := by decide +kernel
theorem bb_min : bootBuiltins "min" = some (.builtin "min") := by decide +kernel
theorem bb_abs : bootBuiltins "abs" = some (.builtin "abs") := by decide +kernel
theorem bb_sorted : bootBuiltins "sorted" = some (.builtin "sorted") := by decide +kernel
theorem bb_isinstance : bootBuiltins "isinstance" = some (.builtin "isinstance") := by decide +kernel
theorem bb_int : bootBuiltins "int" = some (.type "int") := by decide +kernel
theorem bb_str : bootBuiltins "str" = some (.type "str") := by decide +kernel
theorem bb_bool : bootBuiltins "bool" = some (.type "bool") := by decide +kernel
theorem bb_list : bootBuiltins "list" = some (.type "list") := by decide +kernel
theorem bb_tuple : bootBuiltins "tuple" = some (.type "tuple") := by decide +kernel
theorem bb_dict : bootBuiltins "dict" = some (.type "dict") := by decide +kernel

/-! ### constants of the module -/
section
variable {K : PySem.W.Frag} {W : WX}
theorem dp_strs {F : Hp} : ∀ xs : List Str, DpAll K F ((xs.map He.Dv.str).map (He.Dv.v K)) (xs.map PyData.str)
  | [] => .nil
  | x :: xs => .cons (.str x) (dp_strs xs)
theorem strs_flat : ∀ xs : List Str, (xs.map PyData.str).all flatP = true
  | [] => rfl
  | x :: xs => by rw [List.map_cons, List.all_cons, strs_flat xs]; rfl
/-- x in a tuple of texts that is a constant of the module -/
def eInK (xs : List Str) (g : Rho → R PD) : Rho → R PD := fun ρ => (g ρ).bind fun a => if flatP a = true then .ok (.bool ((xs.map PyData.str).any fun d => eqF d a)) else .bad
theorem td_inK {a : Addr} {xs : List Str} {t : TE} {g : Rho → R PD} (hk : ∀ F : Hp, SqT K F a ((xs.map He.Dv.str).map (He.Dv.v K))) (h : TDr K W t g) : TDe K W (tOp (rIn2 K) t (tC (.ref a))) (eInK xs g) := fun F0 H0 F H σ ρ Q S q =>
  h F0 H0 F H σ ρ _ S (q.then fun d F1 H1 e1 k1 v rv => by
    by_cases hd : flatP d = true
    · rw [if_pos hd] at k1
      have fl := strs_flat xs
      refine .inr (.inl ⟨a, _, rfl, .inr (hk H1), flat_ok rv hd, flats_ok (dp_strs (F := F1) xs) fl, ?_⟩)
      rw [if_neg Bool.false_ne_true, any_ok rv hd (dp_strs (F := F1) xs) fl]
      exact Fin.okk (x := PyData.bool _) K W σ e1.g k1 _ (.bl _)
    · rw [if_neg hd] at k1
      exact k1.elim)

/-! ### more methods -/
def rSindex : V → List V → Hp → VK → Prop := fun x xs H Q => ∃ a b i rest, x = .str a ∧ xs = [.str b] ∧ Builtin.Str.occurrences a b 0 a.length 1 = i :: rest ∧ Q (.int (i : Nat)) H
def sindexD : PD → List PD → R PD
  | .str a, [.str b] => (match Builtin.Str.occurrences a b 0 a.length 1 with
    | i :: _ => .ok (.int (i : Nat))
    | [] => .bad)
  | _, _ => .bad
theorem rm_sindex : RM K rSindex sindexD := fun W σ F H x a vs ds Q s ra rs q => by
  unfold sindexD at q
  split at q
  · split at q
    · rename_i i r e
      obtain ⟨v, rfl, r1⟩ := rs.one
      exact ⟨_, _, i, r, ra.str, by rw [r1.str], e, q.ok s _ (.int _)⟩
    · exact q.elim
  · exact q.elim
end
end DL
namespace DL
open PySem PySem.Spec PyProof.Rows L2
/-- a def's promise: the form that the printed texts use -/
theorem fn_of0 {P : Program} {w : World} {K : PySem.W.Frag} {mg : Str → Option Value} {base : Heap} {x : Str} {params : Arguments} {body : List Stmt} {scope : Scope} {N ps : List Str} {k n : Nat} {s : Rho → SR} {f : List PD → FR} {fd : FuncData}
    (FD : FunD K x x params body scope [] [] (He.ga K x) fd) (S : FnScope N ps scope) (hn : ps.length = n) (hf : f = runD N.length s)
    (hb : ∀ (cdv : Value) (A : Around) (outer : List Env) (sh : Shared) (H : Hp) (E : XK), Room k (A.deeper (envOfC x scope sh.heap.objs.size (He.ga K x) cdv)) →
      Takes (cxOf (L2.CX P w) P w K mg base N x scope (He.ga K x) cdv A outer sh H E) (fun cls d _ H => E cls d H) →
      ∃ t, PSs (cxOf (L2.CX P w) P w K mg base N x scope (He.ga K x) cdv A outer sh H E) body t ∧ TDS K (fun cls d _ H => E cls d H) t s) : FnOk P w K mg base (L2.CX P w) (k + 1) (He.ga K x) fd ps (spD K n f) := by
  subst hn hf
  exact fnD FD S hb
/-- a def by its name: the form that the printed texts use -/
theorem kept_of {P : Program} {w : World} {K : PySem.W.Frag} {mg : Str → Option Value} {base : Heap} {x : Str} {params : Arguments} {body : List Stmt} {scope : Scope} {N ps : List Str} {k n : Nat} {s : Rho → SR} {f : List PD → FR}
    (hF : ∃ fd : FuncData, FunD K x x params body scope [] [] (He.ga K x) fd) (hg : mg x = some (.ref (He.ga K x))) (S : FnScope N ps scope) (hn : ps.length = n) (hf : f = runD N.length s)
    (hbd : ∀ (kV doc pm : Value) (an : Option Addr) (cdv ct : Value) (us : List Value), us.length = ps.length → bindArgs (PySem.W.fnOf x x params body scope .none kV doc pm an cdv ct) ⟨us, []⟩ = pure (ps.zip us))
    (hb : ∀ (cdv : Value) (A : Around) (outer : List Env) (sh : Shared) (H : Hp) (E : XK), Room k (A.deeper (envOfC x scope sh.heap.objs.size (He.ga K x) cdv)) →
      Takes (cxOf (L2.CX P w) P w K mg base N x scope (He.ga K x) cdv A outer sh H E) (fun cls d _ H => E cls d H) →
      ∃ t, PSs (cxOf (L2.CX P w) P w K mg base N x scope (He.ga K x) cdv A outer sh H E) body t ∧ TDS K (fun cls d _ H => E cls d H) t s) : Kept P w K mg base (k + 1) n x ps f := by
  obtain ⟨fd, FD⟩ := hF
  subst hn hf
  exact ⟨fd, FD.kp, hg, FD.bindsN hbd, fnD FD S hb⟩
end DL
/-! Dicts of int and text keys: owned in a slot; walked: locked. -/
namespace DL
open PySem PySem.Spec PyProof.Rows L2

def keyOf : PD → Option Key
  | .int i => some (.inl i)
  | .str s => some (.inr s)
  | _ => none
def valD : List (PD × PD) → Key → Option PD
  | [], _ => none
  | (a, d) :: r, k => if keyOf a = some k then some d else valD r k
def putD (kvs : List (PD × PD)) (k : Key) (d : PD) : List (PD × PD) :=
  if (valD kvs k).isSome = true then kvs.map fun kv => if keyOf kv.1 = some k then (kv.1, d) else kv else kvs ++ [(keyD k, d)]
theorem keyOf_keyD (k : Key) : keyOf (keyD k) = some k := by cases k <;> rfl
theorem keyD_of {d : PD} {k : Key} (h : keyOf d = some k) : d = keyD k := by
  cases d with
  | int i => cases h; rfl
  | str s => cases h; rfl
  | _ => cases h
theorem key_rp {K : PySem.W.Frag} {F H : Hp} {v : V} {k : Key} (r : Rp K F H v (keyD k)) : v = kV k := by
  cases k with
  | inl i => exact r.int
  | inr s => exact r.str
theorem key_dp {K : PySem.W.Frag} {F : Hp} (k : Key) : Dp K F (kV k) (keyD k) := by
  cases k with
  | inl i => exact .int i
  | inr s => exact .str s
section
variable {K : PySem.W.Frag} {F H : Hp}
theorem KvR.len {es : List (Key × V)} {kvs : List (PD × PD)} (r : KvR K F keyD es kvs) : es.length = kvs.length := by
  induction r with
  | nil => rfl
  | cons _ _ ih => rw [List.length_cons, List.length_cons, ih]
theorem KvR.keys {es : List (Key × V)} {kvs : List (PD × PD)} (r : KvR K F keyD es kvs) : kvs.map (·.1) = es.map fun e => keyD e.1 := by
  induction r with
  | nil => rfl
  | cons _ _ ih => rw [List.map_cons, List.map_cons, ih]
theorem KvR.val {es : List (Key × V)} {kvs : List (PD × PD)} (r : KvR K F keyD es kvs) (k : Key) : (valD kvs k = none ∧ valV es k = none) ∨ ∃ d v, valD kvs k = some d ∧ valV es k = some v ∧ Dp K F v d := by
  induction r with
  | nil => exact .inl ⟨rfl, rfl⟩
  | @cons k' v d es kvs h t ih =>
    by_cases e : k' = k
    · subst e
      exact .inr ⟨d, v, by unfold valD; rw [if_pos (keyOf_keyD k')], valV_pos rfl, h⟩
    · have e2 : ¬ keyOf (keyD k') = some k := by rw [keyOf_keyD]; exact fun q => e (Option.some.inj q)
      unfold valD
      rw [if_neg e2, valV_neg (show ¬ (k', v).1 = k from e)]
      exact ih
theorem KvR.snoc {es : List (Key × V)} {kvs : List (PD × PD)} (r : KvR K F keyD es kvs) (k : Key) {v : V} {d : PD} (h : Dp K F v d) : KvR K F keyD (es ++ [(k, v)]) (kvs ++ [(keyD k, d)]) := by
  induction r with
  | nil => exact .cons h .nil
  | cons a t ih => exact .cons a ih
theorem KvR.repl {es : List (Key × V)} {kvs : List (PD × PD)} (r : KvR K F keyD es kvs) (k : Key) {v : V} {d : PD} (h : Dp K F v d) :
    KvR K F keyD (es.map fun kv => if kv.1 = k then (kv.1, v) else kv) (kvs.map fun kv => if keyOf kv.1 = some k then (kv.1, d) else kv) := by
  induction r with
  | nil => exact .nil
  | @cons k' v' d' es kvs a t ih =>
    rw [List.map_cons, List.map_cons]
    by_cases e : k' = k
    · rw [if_pos (show (k', v').1 = k from e), if_pos (show keyOf (keyD k') = some k by rw [keyOf_keyD, e])]
      exact .cons h ih
    · rw [if_neg (show ¬ (k', v').1 = k from e), if_neg (show ¬ keyOf (keyD k') = some k by rw [keyOf_keyD]; exact fun q => e (Option.some.inj q))]
      exact .cons a ih
theorem KvR.put {es : List (Key × V)} {kvs : List (PD × PD)} (r : KvR K F keyD es kvs) (k : Key) {v : V} {d : PD} (h : Dp K F v d) : KvR K F keyD (putK es k v) (putD kvs k d) := by
  unfold putK putD
  rw [valV_any]
  rcases r.val k with ⟨a, b⟩ | ⟨d', v', a, b, _⟩
  · rw [a, b]; exact r.snoc k h
  · rw [a, b]; exact r.repl k h
def pairsD : List PD → Option (List (Key × PD))
  | [] => some []
  | .tuple [a, d] :: r => match keyOf a, pairsD r with
    | some k, some l => some ((k, d) :: l)
    | _, _ => none
  | _ => none
def mergeD (kvs : List (PD × PD)) (more : List (Key × PD)) : List (PD × PD) := more.foldl (fun acc kv => putD acc kv.1 kv.2) kvs
def dictD : List PD → R PD
  | [.list ds] => match pairsD ds with
    | some l => .ok (.dict (mergeD [] l))
    | none => .bad
  | _ => .bad
theorem KvR.merge : ∀ {ms : List (Key × V)} {more : List (Key × PD)} {es : List (Key × V)} {kvs : List (PD × PD)}, Paired (fun p q => p.1 = q.1 ∧ Dp K F p.2 q.2) ms more → KvR K F keyD es kvs → KvR K F keyD (mergeK es ms) (mergeD kvs more) := by
  intro ms more es kvs r
  induction r generalizing es kvs with
  | nil => exact fun q => q
  | @cons p q ps qs h t ih =>
    intro z
    obtain ⟨h1, h2⟩ := h
    have z2 := z.put p.1 h2
    show KvR K F keyD (mergeK (putK es p.1 p.2) ps) (mergeD (putD kvs q.1 q.2) qs)
    rw [← h1]
    exact ih z2
theorem pairs_dp : ∀ {ds : List PD} {vs : List V} {l : List (Key × PD)}, DpAll K F vs ds → pairsD ds = some l → ∃ (ps : List Addr) (ms : List (Key × V)), vs = ps.map V.ref ∧ Paired (fun p kv => SqT K F p [kV kv.1, kv.2]) ps ms ∧ Paired (fun p q => p.1 = q.1 ∧ Dp K F p.2 q.2) ms l
  | [], _, l, r, h => by
    cases r
    cases h
    exact ⟨[], [], rfl, .nil, .nil⟩
  | d :: ds, _, l, r, h => by
    cases r with
    | cons r1 r2 =>
      unfold pairsD at h
      split at h
      · rename_i e; cases e
      · rename_i a d' r' e
        cases e
        split at h
        · rename_i k l' e1 e2
          cases h
          obtain ⟨ps, ms, q1, q2, q3⟩ := pairs_dp r2 e2
          subst q1
          cases r1 with
          | tup s al =>
            cases al with
            | cons a1 a2 =>
              cases a2 with
              | cons a2 a3 =>
                cases a3
                rw [keyD_of e1] at a1
                have := key_rp (H := F) (.inl a1)
                subst this
                exact ⟨_ :: ps, (k, _) :: ms, rfl, .cons (SqT.of s) q2, .cons ⟨rfl, a2⟩ q3⟩
        · cases h
      · cases h
theorem rco_dict : RCo K (fun xs H Q => ∃ (a : Addr) (ps : List Addr) (kvs : List (Key × V)), xs = [.ref a] ∧ SqL K H a (ps.map V.ref) ∧ Paired (fun p kv => SqT K H p [kV kv.1, kv.2]) ps kvs ∧
    ∀ p, H p = none → Q (.ref p) (upd H p (.dK (mergeK [] kvs)))) dictD := fun W σ F H vs ds Q s rs q => by
  unfold dictD at q
  split at q
  · obtain ⟨v, rfl, r1⟩ := rs.one
    split at q
    · rename_i l e
      obtain ⟨a, us, rfl, r2, r3⟩ := r1.list s
      obtain ⟨ps, ms, rfl, q2, q3⟩ := pairs_dp r3 e
      refine ⟨a, ps, ms, rfl, .inl r2, Paired.mapP q2 fun _ _ z => seqT s z, fun p hp => ?_⟩
      exact q F _ (Ext.own s hp) p hp (s.free hp) ⟨_, upd_same, KvR.merge q3 .nil⟩
    · exact q.elim
  · exact q.elim
end
section
variable {K : PySem.W.Frag} {W : WX} {F0 H0 F H : Hp} {σ : L2.St} {ρ : Rho} {ty tv : TE} {g gk gv : Rho → R PD} {t : TS} {s : Rho → SR}
def dAt (ρ : Rho) (i : Nat) : R (List (PD × PD)) := match ρ[i]? with
  | some (some (.t (.own (.dict kvs)))) => .ok kvs
  | some (some (.l (.dict kvs))) => .ok kvs
  | _ => .bad
theorem dAt_x (ρ : Rho) (i : Nat) : (∃ kvs, dAt ρ i = .ok kvs) ∨ dAt ρ i = .bad := by
  unfold dAt
  split
  · exact .inl ⟨_, rfl⟩
  · exact .inl ⟨_, rfl⟩
  · exact .inr rfl
theorem dAt_ok (S : StR K F0 H0 F H σ ρ) {i : Nat} {kvs : List (PD × PD)} (h : dAt ρ i = .ok kvs) : ∃ p es, σ[i]? = some (some (.ref p)) ∧ Rd H p (.dK es) ∧ KvR K F keyD es kvs := by
  unfold dAt at h
  split at h
  · rename_i e
    cases h
    obtain ⟨p, a, b, c, es, d, r⟩ := S.own i _ e
    exact ⟨p, es, a, .inl d, r⟩
  · rename_i e
    cases h
    obtain ⟨p, a, od, es, d, r⟩ := S.lck i _ e
    exact ⟨p, es, a, .inr ⟨od, S.same _ _ d⟩, r⟩
  · cases h
def getD (kvs : List (PD × PD)) (y : PD) : R PD := match keyOf y with
  | some k => (match valD kvs k with
    | some d => .ok d
    | none => .bad)
  | none => .bad
def eDget (i : Nat) (g : Rho → R PD) : Rho → R PD := fun ρ => (dAt ρ i).bind fun kvs => (g ρ).bind fun y => getD kvs y
theorem td_dget (i : Nat) (h : TDr K W ty g) : TDe K W (tDGet (tVar i) ty) (eDget i g) := fun F0 H0 F H σ ρ Q S q => by
  unfold eDget at q
  rcases dAt_x ρ i with ⟨kvs, e⟩ | e
  · rw [e] at q
    obtain ⟨p, es, hs, rd, r⟩ := dAt_ok S e
    have q : Fin K W σ F H ((g ρ).bind fun y => getD kvs y) (DpQ K Q) := q
    refine ⟨.ref p, hs, h F0 H0 F H σ ρ _ S (q.then fun y F1 H1 e1 k1 v rv => ?_)⟩
    unfold getD at k1
    split at k1
    · rename_i k ek
      rw [keyD_of ek] at rv
      have := key_rp rv
      subst this
      rcases r.val k with ⟨z, _⟩ | ⟨d, u, z1, z2, z3⟩
      · rw [z] at k1; exact k1.elim
      · rw [z1] at k1
        exact ⟨p, u, rfl, .inl ⟨es, k, rdM e1.h rd, rfl, z2.symm⟩, Fin.okk K W σ e1.g k1 _ (z3.mono e1.f)⟩
    · exact k1.elim
  · rw [e] at q; exact q.elim
def hasD (kvs : List (PD × PD)) (y : PD) : R Bool := match keyOf y with
  | some k => .ok (valD kvs k).isSome
  | none => .bad
def edin (i : Nat) (g : Rho → R PD) : Rho → R PD := fun ρ => (g ρ).bind fun y => (dAt ρ i).bind fun kvs => (hasD kvs y).bind fun b => .ok (.bool b)
def ednotin (i : Nat) (g : Rho → R PD) : Rho → R PD := fun ρ => (g ρ).bind fun y => (dAt ρ i).bind fun kvs => (hasD kvs y).bind fun b => .ok (.bool !b)
theorem din_k {f : Bool → Bool} {i : Nat} {y : PD} {Q : VK} {v : V} (S : StR K F0 H0 F H σ ρ) (rv : Rp K F H v y) (k1 : Fin K W σ F H ((dAt ρ i).bind fun kvs => (hasD kvs y).bind fun b => .ok (.bool (f b))) (DpQ K Q)) :
    ∃ p o, σ[i]? = some (some (.ref p)) ∧ DGet H p v o ∧ Q (.bl (f o.isSome)) H := by
  rcases dAt_x ρ i with ⟨kvs, e⟩ | e
  · rw [e] at k1
    obtain ⟨p, es, hs, rd, r⟩ := dAt_ok S e
    have k1 : Fin K W σ F H ((hasD kvs y).bind fun b => .ok (.bool (f b))) (DpQ K Q) := k1
    unfold hasD at k1
    split at k1
    · rename_i k ek
      rw [keyD_of ek] at rv
      have := key_rp rv
      subst this
      have e2 : (valV es k).isSome = (valD kvs k).isSome := by
        rcases r.val k with ⟨z, z'⟩ | ⟨d, u, z1, z2, z3⟩
        · rw [z, z']; rfl
        · rw [z1, z2]; rfl
      have k2 := Fin.okk (x := PyData.bool (f (valD kvs k).isSome)) K W σ S.same k1 _ (.bl _)
      rw [← e2] at k2
      exact ⟨p, valV es k, hs, .inl ⟨es, k, rd, rfl, rfl⟩, k2⟩
    · exact k1.elim
  · rw [e] at k1; exact k1.elim
theorem td_din (i : Nat) (h : TDr K W ty g) : TDe K W (tDIn ty (tVar i)) (edin i g) := fun F0 H0 F H σ ρ Q S q =>
  h F0 H0 F H σ ρ _ S (q.then fun y F1 H1 e1 k1 v rv => by
    obtain ⟨p, o, a, b, c⟩ := din_k (f := id) (S.go e1) rv k1
    exact ⟨.ref p, a, p, o, rfl, b, c⟩)
theorem td_dnotin (i : Nat) (h : TDr K W ty g) : TDe K W (tDNotIn ty (tVar i)) (ednotin i g) := fun F0 H0 F H σ ρ Q S q =>
  h F0 H0 F H σ ρ _ S (q.then fun y F1 H1 e1 k1 v rv => by
    obtain ⟨p, o, a, b, c⟩ := din_k (f := not) (S.go e1) rv k1
    exact ⟨.ref p, a, p, o, rfl, b, c⟩)
def oDnew : Rho → R PD := fun _ => .ok (.dict [])
theorem to_dnewK : TDo K W tDNewK oDnew := fun F0 H0 F H σ ρ Q S q p hp =>
  (q : ∀ F' H', Ext F H F' H' → OwQ K H Q (.dict []) F' H') F _ (Ext.own S.same hp) p hp (S.same.free hp) ⟨[], upd_same, .nil⟩
/-- d[k] = v -/
def dOwn (ρ : Rho) (i : Nat) : R (List (PD × PD)) := match ρ[i]? with
  | some (some (.t (.own (.dict kvs)))) => .ok kvs
  | _ => .bad
def putS (ρ : Rho) (i : Nat) (kvs : List (PD × PD)) (y d : PD) : SR := match keyOf y with
  | some k => if kvs.length < sizeLine then .nx (ρ.set i (some (.o (.dict (putD kvs k d))))) else .bad
  | none => .bad
def sDput (i : Nat) (gk gv : Rho → R PD) : Rho → SR := fun ρ => SR.of (gv ρ) fun d => SR.of (dOwn ρ i) fun kvs => SR.of (gk ρ) fun y => putS ρ i kvs y d
theorem ds_dput (i : Nat) (hk : TDr K W ty gk) (hv : TDe K W tv gv) : TDS K W (sDPut (tVar i) ty tv) (sDput i gk gv) := fun F0 H0 F H σ ρ D S q =>
  hv F0 H0 F H σ ρ _ S (q.of S.ext fun d F1 H1 e1 k1 v rv => by
    have S1 := S.go e1
    unfold dOwn at k1
    split at k1
    · rename_i kvs ei
      obtain ⟨p, a, _, _, _⟩ := S1.own i _ ei
      have k1 : FinS K W F0 H0 D (SR.of (gk ρ) fun y => putS ρ i kvs y d) := k1
      refine ⟨.ref p, a, hk F0 H0 F1 H1 σ ρ _ S1 (k1.of S1.ext fun y F2 H2 e2 k2 u ru => ?_)⟩
      have S2 := S1.go e2
      obtain ⟨p2, a2, b2, c2, es, hh, r⟩ := S2.own i _ ei
      rw [a] at a2
      injection a2 with a2; injection a2 with a2; injection a2 with a2; subst a2
      unfold putS at k2
      split at k2
      · rename_i k ek
        split at k2
        · rename_i hl
          rw [keyD_of ek] at ru
          have := key_rp ru
          subst this
          have hl2 : es.length < sizeLine := by rw [r.len]; exact hl
          exact ⟨p, _, rfl, DPut.k hh hl2, k2 _ _ _ (S2.mut ei a ⟨_, upd_same, r.put k (rv.mono e2.f)⟩)⟩
        · exact k2.elim
      · exact k2.elim
    · exact k1.elim)
/-! ### walks -/
def iKeysD (i : Nat) : Rho → R (List PD) := fun ρ => match ρ[i]? with
  | some (some (.l (.dict kvs))) => .ok (kvs.map (·.1))
  | _ => .bad
theorem di_keys (i : Nat) : TDi K W (iKeys (tVar i)) (iKeysD i) := fun F0 H0 F H σ ρ Q S q => by
  unfold iKeysD at q
  split at q
  · rename_i kvs e
    obtain ⟨p, a, od, es, d, r⟩ := S.lck i _ e
    refine ⟨.ref p, a, p, od, rfl, .inl ⟨es, S.same _ _ d, q.ok S.same _ fun j F1 H1 e1 e2 => ?_⟩⟩
    have f1 : H1 p = some (.frz od (.dK es)) := e2 _ _ (e1 _ _ d)
    rw [r.keys]
    refine ⟨fun x hx => ?_, fun hl => ⟨f1, by simpa using hl⟩⟩
    rw [List.getElem?_map] at hx
    cases ee : es[j]? with
    | none => rw [ee] at hx; cases hx
    | some kv =>
      rw [ee] at hx
      have hx : keyD kv.1 = x := Option.some.inj hx
      subst hx
      refine ⟨⟨f1, (List.getElem?_eq_some_iff.mp ee).1⟩, fun z H2 y => ?_⟩
      obtain ⟨rfl, k, v, hk, rfl⟩ := y
      rw [ee] at hk
      cases hk
      exact ⟨F1, Ext.refl e2, key_dp k⟩
  · exact q.elim
def unlS : Option Sl → Option Sl
  | some (.l _) => none
  | x => x
def unlock : SR → SR
  | .nx ρ => .nx (ρ.map unlS)
  | .bk ρ => .bk (ρ.map unlS)
  | .ct ρ => .ct (ρ.map unlS)
  | x => x
def sLock (i : Nat) (s : Rho → SR) : Rho → SR := fun ρ => match ρ[i]? with
  | some (some (.t (.own (.dict kvs)))) => unlock (s (ρ.set i (some (.l (.dict kvs)))))
  | _ => .bad
def cutH (F : Hp) (p : Addr) : Hp := fun q => if q = p then none else F q
theorem cut_ne {F : Hp} {p q : Addr} (h : q ≠ p) : cutH F p q = F q := if_neg h
theorem cut_self {F : Hp} {p : Addr} : cutH F p p = none := if_pos rfl
mutual
theorem Dp.cut {p : Addr} {od : Obj} {es : List (Key × V)} (e : F p = some (.frz od (.dK es))) : ∀ {v : V} {d : PyData}, Dp K F v d → Dp K (cutH F p) v d
  | _, _, .non => .non
  | _, _, .bl b => .bl b
  | _, _, .int i => .int i
  | _, _, .str x => .str x
  | _, _, .lst (a := a) s al => by
    have hn : a ≠ p := fun z => by
      subst z
      rcases s with s | ⟨o, s⟩
      · rw [e] at s; cases s
      · rw [e] at s; cases s
    refine .lst ?_ (DpAll.cut e al)
    rcases s with s | ⟨o, s⟩
    · exact .inl ((cut_ne hn).trans s)
    · exact .inr ⟨o, (cut_ne hn).trans s⟩
  | _, _, .tup (a := a) s al => .tup ((cut_ne fun z => by subst z; rw [e] at s; cases s).trans s) (DpAll.cut e al)
theorem DpAll.cut {p : Addr} {od : Obj} {es : List (Key × V)} (e : F p = some (.frz od (.dK es))) : ∀ {vs : List V} {ds : List PyData}, DpAll K F vs ds → DpAll K (cutH F p) vs ds
  | _, _, .nil => .nil
  | _, _, .cons h t => .cons (Dp.cut e h) (DpAll.cut e t)
end
theorem KvR.cut {p : Addr} {od : Obj} {es0 : List (Key × V)} (e : F p = some (.frz od (.dK es0))) : ∀ {es : List (Key × V)} {kvs : List (PD × PD)}, KvR K F keyD es kvs → KvR K (cutH F p) keyD es kvs
  | _, _, .nil => .nil
  | _, _, .cons h t => .cons (h.cut e) (KvR.cut e t)
theorem OwnAt.cut {p p' : Addr} {od : Obj} {es0 : List (Key × V)} {u : HO} (e : F p = Option.some (HO.frz od (.dK es0))) (hn : p' ≠ p) {d : PD} (h : OwnAt K F H p' d) : OwnAt K (cutH F p) (upd H p u) p' d := by
  cases d with
  | list ds => obtain ⟨vs, a, b⟩ := h; exact ⟨vs, by rw [upd_ne hn]; exact a, b.cut e⟩
  | dict kvs => obtain ⟨es, a, b⟩ := h; exact ⟨es, by rw [upd_ne hn]; exact a, b.cut e⟩
  | _ => exact h.elim
theorem ds_lock (i : Nat) (h : TDS K W t s) : TDS K W (tLock t) (sLock i s) := fun F0 H0 F H σ ρ D S q => by
  unfold sLock at q
  split at q
  case h_2 => exact q.elim
  rename_i kvs ei
  obtain ⟨p, hs, h0, hf, es, hh, r⟩ := S.own i _ ei
  refine ⟨p, .dK es, hh, True.intro, fun od => ?_⟩
  have f0 : F0 p = none := S.ext.f.free hf
  have same1 : Same F (upd F p (.frz od (.dK es))) := fun a u e => by rw [upd_ne (ne_of_none e hf)]; exact e
  have exI : Ext (upd F p (.frz od (.dK es))) (upd H0 p (.frz od (.dK es))) (upd F p (.frz od (.dK es))) (upd H p (.frz od (.dK es))) := by
    refine ⟨Same.refl _, fun a u e => ?_, fun a u e => ?_, fun a e => .inl e⟩
    · by_cases ha : a = p
      · subst ha; rw [upd_same] at e ⊢; exact e
      · rw [upd_ne ha] at e ⊢; exact S.ext.g a u e
    · by_cases ha : a = p
      · subst ha; rw [upd_same] at e ⊢; exact e
      · rw [upd_ne ha] at e ⊢; exact S.ext.h a u e
  have SI : StR K (upd F p (.frz od (.dK es))) (upd H0 p (.frz od (.dK es))) (upd F p (.frz od (.dK es))) (upd H p (.frz od (.dK es))) σ (ρ.set i (some (.l (.dict kvs)))) := by
    obtain ⟨φ, S⟩ := S
    obtain ⟨p', y1, y2, y3, y4, y5⟩ := S.own i _ ei
    rw [hs] at y1; cases y1
    have ne : ∀ j p2, p2 ∈ phi φ i [] j → j ≠ i ∧ p2 ∈ φ j ∧ p2 ≠ p := fun j p2 hj => by
      by_cases c : j = i
      · subst c; rw [phi_same] at hj; cases hj
      · rw [phi_ne c] at hj
        exact ⟨c, hj, fun w => by subst w; exact c (S.dis j i p2 hj (by rw [y2]; simp))⟩
    refine ⟨phi φ i [], exI, by simpa using S.len, fun j z e => ?_, fun j z e => ?_, fun j p2 hj => ?_, fun j => ?_, fun j k p2 hj hk => S.dis j k p2 (ne j p2 hj).2.1 (ne k p2 hk).2.1, fun j z e => ?_⟩
    · rcases get_set e with ⟨rfl, hl, y⟩ | ⟨hn, y⟩
      · injection y with y; cases y
      · obtain ⟨v, a, b⟩ := S.dat j z y
        exact ⟨v, a, b.mono same1⟩
    · rcases get_set e with ⟨rfl, hl, y⟩ | ⟨hn, y⟩
      · injection y with y; cases y
      · obtain ⟨v, a, b⟩ := S.tre j z y
        refine ⟨v, a, ?_⟩
        have ej : phi φ i [] j = φ j := phi_ne (Ne.symm hn)
        rw [ej]
        exact b.keep same1 fun p2 o ho hc => by
          have : p2 ≠ p := fun w => by
            subst w
            rcases hc with hc | hc
            · exact hn (S.dis j i p2 hc (by rw [y2]; simp)).symm
            · rw [hh] at ho; cases ho; exact nt_dK hc
          rw [upd_ne this]; exact ho
    · obtain ⟨n1, n2, n3⟩ := ne j p2 hj
      obtain ⟨x1, x2, x3⟩ := S.fre j p2 n2
      exact ⟨by rw [upd_ne n3]; exact x1, by rw [upd_ne n3]; exact x2, by rw [upd_ne n3]; exact x3⟩
    · by_cases c : j = i
      · subst c; rw [phi_same]; exact List.nodup_nil
      · rw [phi_ne c]; exact S.nod j
    · rcases get_set e with ⟨rfl, hl, y⟩ | ⟨hn, y⟩
      · injection y with y; injection y with y; subst y
        exact ⟨p, hs, od, es, upd_same, r.mono same1⟩
      · obtain ⟨p2, a, b⟩ := S.lck j z y
        exact ⟨p2, a, b.mono same1⟩
  have back : ∀ {F1 H1 : Hp}, Ext (upd F p (.frz od (.dK es))) (upd H0 p (.frz od (.dK es))) F1 H1 → F1 p = some (.frz od (.dK es)) ∧ H1 p = some (.frz od (.dK es)) ∧ Ext F0 H0 (cutH F1 p) (upd H1 p (.dK es)) := by
    intro F1 H1 e
    have a1 : F1 p = some (.frz od (.dK es)) := e.f _ _ upd_same
    refine ⟨a1, e.g _ _ a1, fun a u z => ?_, fun a u z => ?_, fun a u z => ?_, fun a z => ?_⟩
    · have ne := ne_of_none z f0
      rw [cut_ne ne]
      exact e.f _ _ (by rw [upd_ne ne]; exact S.ext.f _ _ z)
    · by_cases ha : a = p
      · subst ha; rw [cut_self] at z; cases z
      · rw [cut_ne ha] at z; rw [upd_ne ha]; exact e.g _ _ z
    · have ne := ne_of_none z h0
      rw [upd_ne ne]
      exact e.h _ _ (by rw [upd_ne ne]; exact z)
    · by_cases ha : a = p
      · subst ha; exact absurd cut_self z
      · rw [cut_ne ha] at z
        rcases e.n a z with y | y
        · rw [upd_ne ha] at y; exact S.ext.n a y
        · rw [upd_ne ha] at y; exact .inr y
  have keepP : ∀ {fp : List Addr} {H1 : Hp}, p ∉ fp → H1 p = some (.frz od (.dK es)) → KeepOn fp H1 (upd H1 p (.dK es)) := fun {fp H1} hn h1 p2 o ho hc => by
    have : p2 ≠ p := fun w => by
      subst w
      rcases hc with hc | hc
      · exact hn hc
      · rw [h1] at ho; cases ho; exact nt_frzd hc
    rw [upd_ne this]; exact ho
  have st : ∀ {F1 H1 : Hp} {σ1 : L2.St} {ρ1 : Rho}, StR K (upd F p (.frz od (.dK es))) (upd H0 p (.frz od (.dK es))) F1 H1 σ1 ρ1 → H1 p = some (.frz od (.dK es)) ∧ StR K F0 H0 (cutH F1 p) (upd H1 p (.dK es)) σ1 (ρ1.map unlS) := by
    intro F1 H1 σ1 ρ1 S1
    obtain ⟨a1, a2, ex⟩ := back S1.ext
    have un : ∀ {j : Nat} {x : Sl}, (ρ1.map unlS)[j]? = some (some x) → ρ1[j]? = some (some x) ∧ ∀ y, x ≠ .l y := by
      intro j x e
      rw [List.getElem?_map] at e
      cases e2 : ρ1[j]? with
      | none => rw [e2] at e; cases e
      | some z =>
        rw [e2] at e
        have e : unlS z = some x := Option.some.inj e
        cases z with
        | none => cases e
        | some z =>
          cases z with
          | d y => cases e; exact ⟨rfl, fun _ w => nomatch w⟩
          | t y => cases e; exact ⟨rfl, fun _ w => nomatch w⟩
          | l y => cases e
    obtain ⟨φ, S1⟩ := S1
    have ne : ∀ j, p ∉ φ j := fun j hj => by
      have := (S1.fre j p hj).2.1
      rw [a1] at this; cases this
    refine ⟨a2, φ, ex, by rw [List.length_map]; exact S1.len, fun j z e => ?_, fun j z e => ?_, fun j p2 hj => ?_, S1.nod, S1.dis, fun j z e => absurd rfl ((un e).2 z)⟩
    · obtain ⟨v, a, b⟩ := S1.dat j z (un e).1
      exact ⟨v, a, b.cut a1⟩
    · obtain ⟨v, a, b⟩ := S1.tre j z (un e).1
      exact ⟨v, a, b.map (fun _ _ h => h.cut a1) (keepP (ne j) a2)⟩
    · obtain ⟨x1, x2, x3⟩ := S1.fre j p2 hj
      have n3 : p2 ≠ p := fun w => by subst w; exact ne j hj
      exact ⟨by rw [upd_ne n3] at x1; exact x1, by rw [cut_ne n3]; exact x2, by rw [upd_ne n3]; exact x3⟩
  refine h _ _ _ _ σ _ _ SI ?_
  cases e : s (ρ.set i (some (.l (.dict kvs)))) with
  | nx ρ1 =>
    rw [e] at q
    exact fun σ1 F1 H1 S1 => ⟨(st S1).1, q σ1 _ _ (st S1).2⟩
  | bk ρ1 =>
    rw [e] at q
    exact fun σ1 F1 H1 S1 => ⟨(st S1).1, q σ1 _ _ (st S1).2⟩
  | ct ρ1 =>
    rw [e] at q
    exact fun σ1 F1 H1 S1 => ⟨(st S1).1, q σ1 _ _ (st S1).2⟩
  | rt x =>
    rw [e] at q
    cases x with
    | d x =>
      intro v F1 H1 ex rv
      obtain ⟨a1, a2, ex2⟩ := back ex
      exact ⟨a2, q v _ _ ex2 (rv.cut a1)⟩
    | t x =>
      intro v fp F1 H1 ex tv nd hp
      obtain ⟨a1, a2, ex2⟩ := back ex
      have ne : p ∉ fp := fun w => by
        have := (hp p w).2
        rw [a1] at this; cases this
      refine ⟨a2, q v fp _ _ ex2 (tv.map (fun _ _ h => h.cut a1) (keepP ne a2)) nd fun p2 h2 => ?_⟩
      have n3 : p2 ≠ p := fun w => by subst w; exact ne h2
      obtain ⟨x1, x2⟩ := hp p2 h2
      exact ⟨by rw [upd_ne n3] at x1; exact x1, by rw [cut_ne n3]; exact x2⟩
    | l x => exact q
  | exc c =>
    rw [e] at q
    intro cls d σ1 F1 H1 ex rx
    refine q cls d σ1 F1 H1 ⟨fun a u z => ?_, ex.g, fun a u z => ?_, fun a z => ?_⟩ rx
    · exact ex.f _ _ (by rw [upd_ne (ne_of_none z f0)]; exact S.ext.f _ _ z)
    · exact ex.h _ _ (by rw [upd_ne (ne_of_none z h0)]; exact z)
    · by_cases ha : a = p
      · subst ha; exact .inr (.inl h0)
      · rcases ex.n a z with y | y
        · rw [upd_ne ha] at y; exact S.ext.n a y
        · rw [upd_ne ha] at y; exact .inr y
  | bad => rw [e] at q; exact q
/-! ### an owned list that is walked: frozen for a while; the answer holds plain things alone -/
def scalL : PD → R PD
  | .list ds => if ds.all scalD = true then .ok (.list ds) else .bad
  | _ => .bad
def oUnf (i : Nat) (g : Rho → R PD) : Rho → R PD := fun ρ => (g (frz1 i ρ)).bind scalL
theorem scal_all {F F' : Hp} : ∀ {vs : List V} {ds : List PD}, DpAll K F vs ds → ds.all scalD = true → DpAll K F' vs ds
  | _, _, .nil, _ => .nil
  | _, _, .cons h t, e => by
    rw [List.all_cons, Bool.and_eq_true] at e
    exact .cons (scal_dp e.1 h) (scal_all t e.2)
theorem to_unf (i : Nat) {te : TE} (h : TDo K W te g) : TDo K W te (oUnf i g) := fun F0 H0 F H σ ρ Q S q => by
  obtain ⟨F', e, sf, S'⟩ := S.frz1 i
  refine h F0 H0 F' H σ _ Q S' ?_
  unfold oUnf at q
  cases eg : g (frz1 i ρ) with
  | ok x =>
    rw [eg] at q
    have q : Fin K W σ F H (scalL x) (OwQ K H Q) := q
    unfold scalL at q
    split at q
    · rename_i ds
      split at q
      · rename_i hd
        intro F1 H1 ex p hp hf ho
        obtain ⟨vs, a, b⟩ := ho
        exact q F H1 (Ext.heap S.same ex.h) p hp (S.same.free hp) ⟨vs, a, scal_all b hd⟩
      · exact q.elim
    · exact q.elim
  | exc c =>
    rw [eg] at q
    exact fun cls d F1 H1 ex r => q cls d F H1 (Ext.heap S.same ex.h) r
  | bad => rw [eg] at q; exact q.elim
/-! ### more changes in place -/
def sBad : Rho → SR := fun _ => .bad
theorem ds_bad : TDS K W tNever sBad := ds_never
def sInsert (i : Nat) (n : Nat) (g : Rho → R PD) : Rho → SR := fun ρ => ownL ρ i fun ds => SR.of (g ρ) fun x => if ds.length < sizeLine ∧ n < 1000 then .nx (ρ.set i (some (.o (.list (ds.take n ++ [x] ++ ds.drop n))))) else .bad
theorem ds_insert (i n : Nat) {te : TE} (h : TDe K W te g) : TDS K W (tDrop (tBM K "list" (fun x vs H Q => ∃ (l : Addr) (xs : List V) (i : Int) (y : V), x = .ref l ∧ vs = [.int i, y] ∧ H l = some (.lst xs) ∧ xs.length < sizeLine ∧ 0 ≤ i ∧ i < 2 ^ 63 ∧
    Q .non (upd H l (.lst (xs.take i.toNat ++ [y] ++ xs.drop i.toNat)))) (tVar i) (tCons (tC (.int (n : Nat))) (tCons te tNil)))) (sInsert i n g) := fun F0 H0 F H σ ρ D S q => by
  obtain ⟨p, ds, vs, h1, h2, h3, h4, k⟩ := ownL_k S q
  refine ⟨.ref p, h2, .inl ⟨rfl, vs, SqL.of h3⟩, h F0 H0 F H σ ρ _ S (k.of S.ext fun x F1 H1 e1 k v rv => ?_)⟩
  have k : FinS K W F0 H0 D (if ds.length < sizeLine ∧ n < 1000 then .nx (ρ.set i (some (.o (.list (ds.take n ++ [x] ++ ds.drop n))))) else .bad) := k
  by_cases hl : ds.length < sizeLine ∧ n < 1000
  · rw [if_pos hl] at k
    have m := h4.mono e1.f
    refine ⟨p, vs, (n : Nat), v, rfl, rfl, e1.h p _ h3, by rw [h4.length]; exact hl.1, by omega, by omega, ?_⟩
    exact k σ F1 _ ((S.go e1).mut h1 h2 ⟨_, upd_same, ((m.take n).append (.cons rv .nil)).append (m.drop n)⟩)
  · rw [if_neg hl] at k
    exact k.elim
def setL (ρ : Rho) (i : Nat) (ds : List PD) (x : PD) : PD → SR
  | .int k => match ixN ds.length k with
    | some j => .nx (ρ.set i (some (.o (.list (ds.set j x)))))
    | none => .bad
  | _ => .bad
def sLset (i : Nat) (g gi : Rho → R PD) : Rho → SR := fun ρ => SR.of (g ρ) fun x => ownL ρ i fun ds => SR.of (gi ρ) fun y => setL ρ i ds x y
theorem ds_lset (i : Nat) {te ti : TE} {gi : Rho → R PD} (h : TDe K W te g) (hi : TDr K W ti gi) : TDS K W (tAsg te (gSub (tVar i) ti rSetL)) (sLset i g gi) := fun F0 H0 F H σ ρ D S q =>
  h F0 H0 F H σ ρ _ S (q.of S.ext fun x F1 H1 e1 k v rv => by
    have S1 := S.go e1
    obtain ⟨p, ds, vs, h1, h2, h3, h4, k⟩ := ownL_k S1 k
    refine ⟨.ref p, h2, hi F0 H0 F1 H1 σ ρ _ S1 (k.of S1.ext fun y F2 H2 e2 k u ru => ?_)⟩
    unfold setL at k
    split at k
    · rename_i c
      split at k
      · rename_i j ej
        have := ru.int
        subst this
        have h5 := e2.h p _ h3
        exact ⟨p, vs, c, j, rfl, rfl, h5, by rw [h4.length]; exact ej, k _ _ _ ((S1.go e2).mut h1 h2 ⟨_, upd_same, (h4.mono e2.f).set j (rv.mono e2.f)⟩)⟩
      · exact k.elim
    · exact k.elim)
end
end DL
/-! The plain side: equations of the functions on data, for simp; loops by an invariant. -/
namespace DL
open PySem L2
/-- a text's signs, as numbers -/
def cs (z : Str) : List Nat := z.cps.toList
/-- a text of one sign -/
def sg (c : Nat) : Str := ⟨#[c]⟩
theorem cs_len (z : Str) : (cs z).length = z.length := Array.length_toList
theorem cs_ext {z w : Str} (h : cs z = cs w) : z = w := by
  cases z
  cases w
  unfold cs at h
  simp only at h
  rw [Array.toList_inj.mp h]
@[simp] theorem cs_sg (c : Nat) : cs (sg c) = [c] := rfl
@[simp] theorem sg_len (c : Nat) : (sg c).length = 1 := rfl
@[simp] theorem cs_app (z w : Str) : cs (z ++ w) = cs z ++ cs w := by
  show (z ++ w).cps.toList = _
  rw [PySem.Str.cps_append]
  simp [cs]
@[simp] theorem len_app (z w : Str) : (z ++ w).length = z.length + w.length := PySem.Str.length_append z w
theorem signs_eq (z : Str) : signs z = (cs z).map fun c => .str (sg c) := rfl
section
variable {α β : Type} (ρ ρ' : Rho) (g ga gb gc : Rho → R PD) (gt gt' : Rho → R Bool) (f f' : PD → PD → R PD) (gr : Rho → R (List PD)) (s s' : Rho → SR) (i : Nat)
@[simp] theorem x_bind_ok (a : α) (f : α → R β) : (R.ok a).bind f = f a := rfl
@[simp] theorem x_bind_exc (c : Ec) (f : α → R β) : (R.exc c : R α).bind f = .exc c := rfl
@[simp] theorem x_bind_bad (f : α → R β) : (R.bad : R α).bind f = .bad := rfl
@[simp] theorem x_eC (x : PD) : eC x ρ = .ok x := rfl
@[simp] theorem x_eOp : eOp f ga gb ρ = (ga ρ).bind fun a => (gb ρ).bind fun b => f a b := rfl
@[simp] theorem x_eUn (f : PD → R PD) : eUn f ga ρ = (ga ρ).bind f := rfl
@[simp] theorem x_eFz : eFz g ρ = (g ρ).bind notDict := rfl
@[simp] theorem x_notDict (l : List PD) : notDict (.list l) = .ok (.list l) := rfl
@[simp] theorem x_bOf : bOf g ρ = (g ρ).bind asB := rfl
@[simp] theorem x_asB (b : Bool) : asB (.bool b) = .ok b := rfl
@[simp] theorem x_bAnd : bAnd gt gt' ρ = (gt ρ).bind fun c => if c = true then gt' ρ else .ok false := rfl
@[simp] theorem x_bOr : bOr gt gt' ρ = (gt ρ).bind fun c => if c = true then .ok true else gt' ρ := rfl
@[simp] theorem x_bNot : bNot gt ρ = (gt ρ).bind fun c => .ok !c := rfl
@[simp] theorem x_eAnd : eAnd ga gb ρ = (ga ρ).bind fun a => (asB a).bind fun c => if c = true then gb ρ else .ok (.bool false) := rfl
@[simp] theorem x_eOr : eOr ga gb ρ = (ga ρ).bind fun a => (asB a).bind fun c => if c = true then .ok (.bool true) else gb ρ := rfl
@[simp] theorem x_eNot : eNot ga ρ = (ga ρ).bind fun a => (asB a).bind fun c => .ok (.bool !c) := rfl
@[simp] theorem x_eIf : eIf gt ga gb ρ = (gt ρ).bind fun c => if c = true then ga ρ else gb ρ := rfl
@[simp] theorem x_eChain : eChain f f' ga gb gc ρ = (ga ρ).bind fun a => (gb ρ).bind fun b => (f a b).bind fun z => (asB z).bind fun k => if k = true then (gc ρ).bind fun c => f' b c else .ok (.bool false) := rfl
@[simp] theorem x_aNil : aNil ρ = .ok [] := rfl
@[simp] theorem x_aCons : aCons ga gr ρ = (ga ρ).bind fun a => (gr ρ).bind fun l => .ok (a :: l) := rfl
@[simp] theorem x_eTup : eTup gr ρ = (gr ρ).bind fun l => if l.length ≤ sizeLine then .ok (.tuple l) else .bad := rfl
@[simp] theorem x_oLst : oLst gr ρ = (gr ρ).bind fun l => if l.length ≤ sizeLine then .ok (.list l) else .bad := rfl
@[simp] theorem x_eCB (f : List PD → R PD) : eCB f gr ρ = (gr ρ).bind f := rfl
@[simp] theorem x_eCall (n : Nat) (f : List PD → FR) : eCall n f gr ρ = (gr ρ).bind fun ds => if ds.length = n then (f ds).toE else .bad := rfl
@[simp] theorem x_oCall (n : Nat) (f : List PD → FR) : oCall n f gr ρ = (gr ρ).bind fun ds => if ds.length = n then (f ds).toO else .bad := rfl
@[simp] theorem x_eCallR (n : Nat) (f : List PD → FR) : eCallR n f gr ρ = (gr ρ).bind fun ds => if ds.length = n ∧ ds.all (fun d => !isDict d) = true then (f ds).toS else .bad := rfl
@[simp] theorem x_eCall0 (f : List PD → FR) : eCall0 f ρ = noExc (f []).toE := rfl
@[simp] theorem x_oCall0 (f : List PD → FR) : oCall0 f ρ = noExc (f []).toO := rfl
@[simp] theorem x_noExc_ok (a : α) : noExc (R.ok a) = .ok a := rfl
@[simp] theorem x_toE_d (x : PD) : (FR.rt (.d x)).toE = .ok x := rfl
@[simp] theorem x_toE_o (l : List PD) : (FR.rt (.o (.list l))).toE = .ok (.list l) := rfl
@[simp] theorem x_toE_x (c : Ec) : (FR.exc c).toE = .exc c := rfl
@[simp] theorem x_toO_o (x : PD) : (FR.rt (.o x)).toO = .ok x := rfl
@[simp] theorem x_toO_x (c : Ec) : (FR.exc c).toO = .exc c := rfl
@[simp] theorem x_toS (x : PD) : (FR.rt (.d x)).toS = if scalD x = true then .ok x else .bad := rfl
@[simp] theorem x_scal_i (i : Int) : scalD (.int i) = true := rfl
@[simp] theorem x_scal_b (i : Bool) : scalD (.bool i) = true := rfl
@[simp] theorem x_scal_s (i : Str) : scalD (.str i) = true := rfl
@[simp] theorem x_scal_n : scalD .none = true := rfl
@[simp] theorem x_dict_l (l : List PD) : isDict (.list l) = false := rfl
@[simp] theorem x_dict_t (l : List PD) : isDict (.tuple l) = false := rfl
@[simp] theorem x_dict_i (l : Int) : isDict (.int l) = false := rfl
@[simp] theorem x_dict_s (l : Str) : isDict (.str l) = false := rfl
@[simp] theorem x_dict_b (l : Bool) : isDict (.bool l) = false := rfl
@[simp] theorem x_dict_n : isDict .none = false := rfl
@[simp] theorem x_eIsi (T : String) : eIsi T g ρ = (g ρ).bind (isiD T) := rfl
@[simp] theorem x_eM0 (f : PD → List PD → R PD) : eM0 f g ρ = (g ρ).bind fun a => strOf a (f a []) := rfl
@[simp] theorem x_eM1 (f : PD → List PD → R PD) : eM1 f g ga ρ = (g ρ).bind fun a => strOf a ((ga ρ).bind fun b => f a [b]) := rfl
@[simp] theorem x_strOf (z : Str) (k : R PD) : strOf (.str z) k = k := rfl
@[simp] theorem x_eSl (gl gh : Rho → R (Option Int)) : eSl g gl gh ρ = (g ρ).bind fun a => (gl ρ).bind fun l => (gh ρ).bind fun h => slD a l h := rfl
@[simp] theorem x_oSl (gl gh : Rho → R (Option Int)) : oSl g gl gh ρ = (g ρ).bind fun a => (gl ρ).bind fun l => (gh ρ).bind fun h => slL a l h := rfl
@[simp] theorem x_pNo : pNo ρ = .ok none := rfl
@[simp] theorem x_pSo : pSo g ρ = (g ρ).bind fun a => (asI a).bind fun i => .ok (some i) := rfl
@[simp] theorem x_asI (j : Int) : asI (.int j) = .ok j := rfl
-- statements
@[simp] theorem x_sSeq : sSeq s s' ρ = (s ρ).seq s' := rfl
@[simp] theorem x_seq_nx (k : Rho → SR) : (SR.nx ρ).seq k = k ρ := rfl
@[simp] theorem x_seq_rt (x : Sl) (k : Rho → SR) : (SR.rt x).seq k = .rt x := rfl
@[simp] theorem x_seq_bk (k : Rho → SR) : (SR.bk ρ).seq k = .bk ρ := rfl
@[simp] theorem x_seq_ct (k : Rho → SR) : (SR.ct ρ).seq k = .ct ρ := rfl
@[simp] theorem x_seq_exc (c : Ec) (k : Rho → SR) : (SR.exc c).seq k = .exc c := rfl
@[simp] theorem x_seq_bad (k : Rho → SR) : SR.bad.seq k = .bad := rfl
@[simp] theorem x_of_ok (a : α) (k : α → SR) : SR.of (.ok a) k = k a := rfl
@[simp] theorem x_of_exc (c : Ec) (k : α → SR) : SR.of (.exc c) k = .exc c := rfl
@[simp] theorem x_of_bad (k : α → SR) : SR.of (.bad) k = .bad := rfl
@[simp] theorem x_sNext : sNext ρ = .nx ρ := rfl
@[simp] theorem x_sBreak : sBreak ρ = .bk ρ := rfl
@[simp] theorem x_sCont : sCont ρ = .ct ρ := rfl
@[simp] theorem x_sSet : sSet i g ρ = SR.of (g ρ) fun x => .nx (ρ.set i (some (.d x))) := rfl
@[simp] theorem x_sSetO : sSetO i g ρ = SR.of (g ρ) fun x => .nx (ρ.set i (some (.o x))) := rfl
@[simp] theorem x_sAsg (a : Rho → PD → R Rho) : sAsg g a ρ = SR.of (g ρ) fun x => SR.ofT (a ρ x) := rfl
@[simp] theorem x_ofT : SR.ofT (.ok ρ) = .nx ρ := rfl
@[simp] theorem x_sRet : sRet g ρ = SR.of (g ρ) fun x => .rt (.d x) := rfl
@[simp] theorem x_sRetO : sRetO g ρ = SR.of (g ρ) fun x => .rt (.o x) := rfl
@[simp] theorem x_sIf : sIf gt s s' ρ = SR.of (gt ρ) fun c => if c = true then s ρ else s' ρ := rfl
@[simp] theorem x_sDrop : sDrop g ρ = SR.of (g ρ) fun _ => .nx ρ := rfl
@[simp] theorem x_sFor (gi : Rho → R (List PD)) (a : Rho → PD → R Rho) : sFor gi a s ρ = SR.of (gi ρ) fun ds => forD a s ds ρ := rfl
@[simp] theorem x_aName (x : PD) : aName i ρ x = .ok (ρ.set i (some (.d x))) := rfl
@[simp] theorem x_aTup (n : Nat) (b : Rho → List PD → R Rho) (xs : List PD) : aTup n b ρ (.tuple xs) = if xs.length = n then b ρ xs else .bad := rfl
@[simp] theorem x_asNil : asNil ρ [] = .ok ρ := rfl
@[simp] theorem x_asCons (a : Rho → PD → R Rho) (b : Rho → List PD → R Rho) (x : PD) (xs : List PD) : asCons a b ρ (x :: xs) = (a ρ x).bind fun ρ' => b ρ' xs := rfl
@[simp] theorem x_iItems : iItems g ρ = (g ρ).bind itemsOf := rfl
@[simp] theorem x_items_l (l : List PD) : itemsOf (.list l) = .ok l := rfl
@[simp] theorem x_items_t (l : List PD) : itemsOf (.tuple l) = .ok l := rfl
@[simp] theorem x_items_s (l : Str) : itemsOf (.str l) = .ok ((cs l).map fun c => .str (sg c)) := rfl
@[simp] theorem x_iRng1 : iRng1D gr ρ = (gr ρ).bind rng1 := rfl
@[simp] theorem x_iRng2 : iRng2D gr ρ = (gr ρ).bind rng2 := rfl
@[simp] theorem x_iEnum : iEnumD gr ρ = (gr ρ).bind enumO := rfl
@[simp] theorem x_enumO (l : List PD) : enumO [.list l] = .ok (enumD l) := rfl
@[simp] theorem x_iZip : iZipD gr ρ = (gr ρ).bind zipO := rfl
@[simp] theorem x_zipO (l m : List PD) : zipO [.list l, .list m] = .ok (zipD l m) := rfl
@[simp] theorem x_iRev : iRevD gr ρ = (gr ρ).bind revO := rfl
@[simp] theorem x_revO (l : List PD) : revO [.list l] = .ok l.reverse := rfl
@[simp] theorem x_gYes : gYes ρ = .ok true := rfl
@[simp] theorem x_oLc (gi : Rho → R (List PD)) (a : Rho → PD → R Rho) (ge : Rho → R PD) (vs : List Nat) : oLc gi a gt ge vs ρ = (gi ρ).bind fun ds => (noExc (lcL (lcE a gt ge (wipeD ρ vs)) ds)).bind fun l => if l.length ≤ sizeLine then .ok (.list l) else .bad := rfl
@[simp] theorem x_wipe_nil : wipeD ρ [] = ρ := rfl
@[simp] theorem x_wipe_cons (v : Nat) (vs : List Nat) : wipeD ρ (v :: vs) = (wipeD ρ vs).set v none := rfl
@[simp] theorem x_fr_nx : (SR.nx ρ).fr = .rt (.d .none) := rfl
@[simp] theorem x_fr_rt (x : Sl) : (SR.rt x).fr = .rt x := rfl
@[simp] theorem x_fr_exc (c : Ec) : (SR.exc c).fr = .exc c := rfl
@[simp] theorem x_run (n : Nat) (ds : List PD) : runD n s ds = (s (startD n ds)).fr := rfl
@[simp] theorem x_sFrz (is : List Nat) : sFrz is s ρ = s (is.foldl (fun ρ i => frz1 i ρ) ρ) := rfl
-- operators
@[simp] theorem x_add_i (i j : Int) : addD (.int i) (.int j) = .ok (.int (i + j)) := rfl
@[simp] theorem x_add_s (i j : Str) : addD (.str i) (.str j) = if i.length + j.length ≤ sizeLine then .ok (.str (i ++ j)) else .bad := rfl
@[simp] theorem x_add_l (i j : List PD) : addD (.list i) (.list j) = if i.length + j.length ≤ sizeLine then .ok (.list (i ++ j)) else .bad := rfl
@[simp] theorem x_add_t (i j : List PD) : addD (.tuple i) (.tuple j) = if i.length + j.length ≤ sizeLine then .ok (.tuple (i ++ j)) else .bad := rfl
@[simp] theorem x_addL (i j : List PD) : addL (.list i) (.list j) = if i.length + j.length ≤ sizeLine then .ok (.list (i ++ j)) else .bad := rfl
@[simp] theorem x_sub_i (i j : Int) : subD (.int i) (.int j) = .ok (.int (i - j)) := rfl
@[simp] theorem x_neg_i (i : Int) : negD (.int i) = .ok (.int (-i)) := rfl
@[simp] theorem x_cmp_i (p : Int → Int → Bool) (i j : Int) : cmpD p (.int i) (.int j) = .ok (.bool (p i j)) := rfl
@[simp] theorem x_eq (a b : PD) : eqD a b = (eqB a b).bind fun c => .ok (.bool c) := rfl
@[simp] theorem x_ne (a b : PD) : neD a b = (eqB a b).bind fun c => .ok (.bool !c) := rfl
@[simp] theorem x_eqB_i (i j : Int) : eqB (.int i) (.int j) = .ok (decide (i = j)) := rfl
@[simp] theorem x_eqB_s (i j : Str) : eqB (.str i) (.str j) = .ok (decide (i = j)) := rfl
@[simp] theorem x_eqB_b (i j : Bool) : eqB (.bool i) (.bool j) = .ok (decide (i = j)) := rfl
@[simp] theorem x_isN (a : PD) : isND a .none = .ok (.bool (isNB a)) := rfl
@[simp] theorem x_notN (a : PD) : notND a .none = .ok (.bool (!isNB a)) := rfl
@[simp] theorem x_isNB_n : isNB .none = true := rfl
@[simp] theorem x_isNB_i (i : Int) : isNB (.int i) = false := rfl
@[simp] theorem x_isNB_s (i : Str) : isNB (.str i) = false := rfl
@[simp] theorem x_isNB_b (i : Bool) : isNB (.bool i) = false := rfl
@[simp] theorem x_isNB_l (i : List PD) : isNB (.list i) = false := rfl
@[simp] theorem x_isNB_t (i : List PD) : isNB (.tuple i) = false := rfl
@[simp] theorem x_in (a b : PD) : inD a b = (inB a b).bind fun c => .ok (.bool c) := rfl
@[simp] theorem x_nin (a b : PD) : ninD a b = (inB a b).bind fun c => .ok (.bool !c) := rfl
theorem inS_one (z : Str) (c : Nat) : inS ⟨#[c]⟩ z = decide (c ∈ z.cps.toList) := PySem.StrLaws.found_one z c
@[simp] theorem x_in_sign (z : Str) (c : Nat) : inB (.str (sg c)) (.str z) = .ok (decide (c ∈ cs z)) := by
  show R.ok (inS _ _) = _
  unfold sg
  rw [inS_one]
  rfl
theorem flat_strs : ∀ l : List Str, (l.map PyData.str).all flatP = true
  | [] => rfl
  | _ :: l => by rw [List.map_cons, List.all_cons, flat_strs l]; rfl
theorem any_strs (z : Str) : ∀ l : List Str, ((l.map PyData.str).any fun d => eqF d (.str z)) = decide (z ∈ l)
  | [] => by simp
  | x :: l => by
    rw [List.map_cons, List.any_cons, any_strs z l]
    show ((x == z) || decide (z ∈ l)) = _
    by_cases h : x = z
    · subst h; simp
    · have h' : (x == z) = false := by simpa using h
      have h2 : ¬ z = x := fun e => h e.symm
      simp [h', h2]
@[simp] theorem x_in_strs (z : Str) (l : List Str) : inB (.str z) (.list (l.map PyData.str)) = .ok (decide (z ∈ l)) := by
  show (if flatP (.str z) = true ∧ (l.map PyData.str).all flatP = true then R.ok ((l.map PyData.str).any fun d => eqF d (.str z)) else _) = _
  rw [if_pos ⟨rfl, flat_strs l⟩, any_strs]
@[simp] theorem x_in_strsT (z : Str) (l : List Str) : inB (.str z) (.tuple (l.map PyData.str)) = .ok (decide (z ∈ l)) := by
  show (if flatP (.str z) = true ∧ (l.map PyData.str).all flatP = true then R.ok ((l.map PyData.str).any fun d => eqF d (.str z)) else _) = _
  rw [if_pos ⟨rfl, flat_strs l⟩, any_strs]
theorem x_mod (i j : Int) (h : 0 < j) : modD (.int i) (.int j) = .ok (.int (i % j)) := by
  show (if modB i j = true then R.ok (PyData.int (i.fmod j)) else _) = _
  have h1 : modB i j = true := by unfold modB; exact decide_eq_true (by omega)
  rw [if_pos h1, Int.fmod_eq_emod_of_nonneg _ (by omega)]
theorem x_div (i j : Int) (h : 0 < j) (h2 : j < 1073741824) : divD (.int i) (.int j) = .ok (.int (i / j)) := by
  show (if divB i j = true then R.ok (PyData.int (i.fdiv j)) else _) = _
  have h1 : divB i j = true := by unfold divB; rw [Bool.and_eq_true]; exact ⟨decide_eq_true (by omega), decide_eq_true (by omega)⟩
  rw [if_pos h1, Int.fdiv_eq_ediv_of_nonneg _ (by omega)]
theorem x_mul_l (i j : Int) (h : -(2 ^ 64) < i) (h2 : i < 2 ^ 64) : mulD (.int i) (.int j) = .ok (.int (i * j)) := by
  show (if mulB i j = true then R.ok (PyData.int (i * j)) else _) = _
  rw [if_pos (by unfold mulB; simp only [Bool.or_eq_true, Bool.and_eq_true, decide_eq_true_eq]; exact .inl ⟨h, h2⟩)]
theorem x_mul_r (i j : Int) (h : -(2 ^ 64) < j) (h2 : j < 2 ^ 64) : mulD (.int i) (.int j) = .ok (.int (i * j)) := by
  show (if mulB i j = true then R.ok (PyData.int (i * j)) else _) = _
  rw [if_pos (by unfold mulB; simp only [Bool.or_eq_true, Bool.and_eq_true, decide_eq_true_eq]; exact .inr ⟨h, h2⟩)]
theorem x_mul_s (z : Str) (k : Int) (h : -(2 ^ 62) ≤ k) (h2 : k < 2 ^ 62) (h3 : z.length * k.toNat ≤ sizeLine) : mulD (.str z) (.int k) = .ok (.str (mulS z k)) := by
  show (if small62 k = true ∧ z.length * k.toNat ≤ sizeLine then R.ok (PyData.str (mulS z k)) else _) = _
  rw [if_pos ⟨by unfold small62; rw [Bool.and_eq_true]; exact ⟨decide_eq_true h, decide_eq_true h2⟩, h3⟩]
-- items
theorem atI_nn {γ : Type} (l : List γ) (i : Int) (h : 0 ≤ i) : atI l i = l[i.toNat]? := by
  unfold atI ixN
  rw [if_pos h]
  split
  · rfl
  · rename_i h2
    exact (List.getElem?_eq_none (by omega)).symm
theorem x_ix_l (l : List PD) (i : Int) (d : PD) (h : 0 ≤ i) (e : l[i.toNat]? = some d) : ixD (.list l) (.int i) = .ok d := by
  show (match atI l i with | some d => R.ok d | none => .bad) = _
  rw [atI_nn l i h, e]
theorem x_ix_t (l : List PD) (i : Int) (d : PD) (h : 0 ≤ i) (e : l[i.toNat]? = some d) : ixD (.tuple l) (.int i) = .ok d := by
  show (match atI l i with | some d => R.ok d | none => .bad) = _
  rw [atI_nn l i h, e]
theorem x_ix_s (z : Str) (i : Int) (c : Nat) (hz : z.length ≤ sizeLine) (h : 0 ≤ i) (e : (cs z)[i.toNat]? = some c) : ixD (.str z) (.int i) = .ok (.str (sg c)) := by
  unfold cs at e
  show (if z.length ≤ sizeLine then (match atI z.cps.toList i with | some c => R.ok (PyData.str ⟨#[c]⟩) | none => .bad) else .bad) = _
  rw [if_pos hz, atI_nn _ i h, e]
  rfl
@[simp] theorem x_sl_l (l : List PD) (a b : Option Int) : slD (.list l) a b = .ok (.list (cutD l a b)) := rfl
@[simp] theorem x_sl_t (l : List PD) (a b : Option Int) : slD (.tuple l) a b = .ok (.tuple (cutD l a b)) := rfl
@[simp] theorem x_sl_s (z : Str) (a b : Option Int) : slD (.str z) a b = if z.length ≤ sizeLine then .ok (.str (cutS z a b)) else .bad := rfl
@[simp] theorem x_slL (l : List PD) (a b : Option Int) : slL (.list l) a b = .ok (.list (cutD l a b)) := rfl
@[simp] theorem x_len_l (l : List PD) : lenD [.list l] = .ok (.int l.length) := rfl
@[simp] theorem x_len_t (l : List PD) : lenD [.tuple l] = .ok (.int l.length) := rfl
@[simp] theorem x_len_s (z : Str) : lenD [.str z] = if z.length ≤ sizeLine then .ok (.int z.length) else .bad := rfl
@[simp] theorem x_list_l (l : List PD) : listD [.list l] = .ok (.list l) := rfl
@[simp] theorem x_list_t (l : List PD) : listD [.tuple l] = .ok (.list l) := rfl
@[simp] theorem x_tuple_l (l : List PD) : tupleD [.list l] = .ok (.tuple l) := rfl
@[simp] theorem x_tuple_t (l : List PD) : tupleD [.tuple l] = .ok (.tuple l) := rfl
@[simp] theorem x_sum (l : List Int) : sumD [.list (l.map PyData.int)] = .ok (.int l.sum) := by
  show (match asInts (l.map PyData.int) with | some ns => R.ok (PyData.int ns.sum) | none => .bad) = _
  rw [asInts_map]
@[simp] theorem x_any (l : List Bool) : anyD [.list (l.map PyData.bool)] = .ok (.bool (l.any id)) := by
  show (match asBools (l.map PyData.bool) with | some ns => R.ok (PyData.bool (ns.any id)) | none => .bad) = _
  rw [asBools_map]
@[simp] theorem x_all (l : List Bool) : allD [.list (l.map PyData.bool)] = .ok (.bool (l.all id)) := by
  show (match asBools (l.map PyData.bool) with | some ns => R.ok (PyData.bool (ns.all id)) | none => .bad) = _
  rw [asBools_map]
@[simp] theorem x_int_i (i : Int) : intD [.int i] = .ok (.int i) := rfl
@[simp] theorem x_int_b (i : Bool) : intD [.bool i] = .ok (.int (if i = true then 1 else 0)) := rfl
theorem x_int_s (z : Str) (n : Int) (h : PySem.intText? z = some n) (hz : z.length ≤ 640) : intD [.str z] = .ok (.int n) := by
  show (match PySem.intText? z with | some n => if z.length ≤ 640 then R.ok (PyData.int n) else .bad | none => .bad) = _
  rw [h]
  exact if_pos hz
theorem x_str (i : Int) (h : i.natAbs.log2 < 1920) : strD [.int i] = .ok (.str (toString i)) := if_pos h
@[simp] theorem x_max2 (i j : Int) : max2D [.int i, .int j] = .ok (.int (if j > i then j else i)) := rfl
@[simp] theorem x_min2 (i j : Int) : min2D [.int i, .int j] = .ok (.int (if j < i then j else i)) := rfl
@[simp] theorem x_starts (a b : Str) : startsD (.str a) [.str b] = .ok (.bool (Txt.startswith a b)) := rfl
@[simp] theorem x_count (a b : Str) : countD (.str a) [.str b] = .ok (.int (Txt.count a b)) := rfl
@[simp] theorem x_words (a : Str) : wordsD (.str a) [] = if a.length + 2 ≤ sizeLine then .ok (.list ((Txt.words a).map PyData.str)) else .bad := rfl
@[simp] theorem x_split (a b : Str) : splitD (.str a) [.str b] = if (b.length == 0) = false ∧ a.length + 2 ≤ sizeLine then .ok (.list ((Txt.split a b).map PyData.str)) else .bad := rfl
theorem x_join (a : Str) (ys : List Str) (h : (ys.map (·.length)).sum + ys.length * a.length ≤ 16777216) : joinD (.str a) [.list (ys.map PyData.str)] = .ok (.str (Txt.join a ys)) := by
  show (match asStrs (ys.map PyData.str) with | some ys => if (ys.map (fun y : Str => y.length)).sum + ys.length * a.length ≤ 16777216 then R.ok (PyData.str (Txt.join a ys)) else .bad | none => .bad) = _
  rw [asStrs_map]
  exact if_pos h
theorem x_rng1 (j : Int) (h : -(2 ^ 62) ≤ j) (h2 : j < 2 ^ 62) : rng1 [.int j] = .ok (rngD 0 j.toNat) := by
  show (if small62 j = true then R.ok (rngD 0 j.toNat) else .bad) = _
  rw [if_pos (by unfold small62; rw [Bool.and_eq_true]; exact ⟨decide_eq_true h, decide_eq_true h2⟩)]
theorem x_rng2 (i j : Int) (h : -(2 ^ 62) ≤ i) (h2 : i < 2 ^ 62) (h3 : -(2 ^ 62) ≤ j) (h4 : j < 2 ^ 62) : rng2 [.int i, .int j] = .ok (rngD i (j - i).toNat) := by
  show (if small62 i = true ∧ small62 j = true then R.ok (rngD i (j - i).toNat) else .bad) = _
  rw [if_pos ⟨by unfold small62; rw [Bool.and_eq_true]; exact ⟨decide_eq_true h, decide_eq_true h2⟩, by unfold small62; rw [Bool.and_eq_true]; exact ⟨decide_eq_true h3, decide_eq_true h4⟩⟩]
end
/-! ### isinstance of data -/
theorem isi (T : String) (a : PD) (b : Bool) (h : isiB T a = some b) : isiD T a = .ok (.bool b) := by
  unfold isiD
  rw [h]
@[simp] theorem isi_bool_b (b : Bool) : isiD "bool" (.bool b) = .ok (.bool true) := isi _ _ _ (show L2.kitB "bool" "bool" = some true by decide +kernel)
@[simp] theorem isi_bool_i (b : Int) : isiD "bool" (.int b) = .ok (.bool false) := isi _ _ _ (show L2.kitB "int" "bool" = some false by decide +kernel)
@[simp] theorem isi_bool_s (b : Str) : isiD "bool" (.str b) = .ok (.bool false) := isi _ _ _ (show L2.kitB "str" "bool" = some false by decide +kernel)
@[simp] theorem isi_bool_n : isiD "bool" .none = .ok (.bool false) := isi _ _ _ (show L2.kitB "NoneType" "bool" = some false by decide +kernel)
@[simp] theorem isi_bool_l (b : List PD) : isiD "bool" (.list b) = .ok (.bool false) := isi _ _ _ (show L2.kitB "list" "bool" = some false by decide +kernel)
@[simp] theorem isi_bool_t (b : List PD) : isiD "bool" (.tuple b) = .ok (.bool false) := isi _ _ _ (show L2.kitB "tuple" "bool" = some false by decide +kernel)
@[simp] theorem isi_int_b (b : Bool) : isiD "int" (.bool b) = .ok (.bool true) := isi _ _ _ (show L2.kitB "bool" "int" = some true by decide +kernel)
@[simp] theorem isi_int_i (b : Int) : isiD "int" (.int b) = .ok (.bool true) := isi _ _ _ (show L2.kitB "int" "int" = some true by decide +kernel)
@[simp] theorem isi_int_s (b : Str) : isiD "int" (.str b) = .ok (.bool false) := isi _ _ _ (show L2.kitB "str" "int" = some false by decide +kernel)
@[simp] theorem isi_int_n : isiD "int" .none = .ok (.bool false) := isi _ _ _ (show L2.kitB "NoneType" "int" = some false by decide +kernel)
@[simp] theorem isi_int_l (b : List PD) : isiD "int" (.list b) = .ok (.bool false) := isi _ _ _ (show L2.kitB "list" "int" = some false by decide +kernel)
@[simp] theorem isi_int_t (b : List PD) : isiD "int" (.tuple b) = .ok (.bool false) := isi _ _ _ (show L2.kitB "tuple" "int" = some false by decide +kernel)
@[simp] theorem isi_str_b (b : Bool) : isiD "str" (.bool b) = .ok (.bool false) := isi _ _ _ (show L2.kitB "bool" "str" = some false by decide +kernel)
@[simp] theorem isi_str_i (b : Int) : isiD "str" (.int b) = .ok (.bool false) := isi _ _ _ (show L2.kitB "int" "str" = some false by decide +kernel)
@[simp] theorem isi_str_s (b : Str) : isiD "str" (.str b) = .ok (.bool true) := isi _ _ _ (show L2.kitB "str" "str" = some true by decide +kernel)
@[simp] theorem isi_str_n : isiD "str" .none = .ok (.bool false) := isi _ _ _ (show L2.kitB "NoneType" "str" = some false by decide +kernel)
@[simp] theorem isi_str_l (b : List PD) : isiD "str" (.list b) = .ok (.bool false) := isi _ _ _ (show L2.kitB "list" "str" = some false by decide +kernel)
@[simp] theorem isi_str_t (b : List PD) : isiD "str" (.tuple b) = .ok (.bool false) := isi _ _ _ (show L2.kitB "tuple" "str" = some false by decide +kernel)
@[simp] theorem isi_list_b (b : Bool) : isiD "list" (.bool b) = .ok (.bool false) := isi _ _ _ (show L2.kitB "bool" "list" = some false by decide +kernel)
@[simp] theorem isi_list_i (b : Int) : isiD "list" (.int b) = .ok (.bool false) := isi _ _ _ (show L2.kitB "int" "list" = some false by decide +kernel)
@[simp] theorem isi_list_s (b : Str) : isiD "list" (.str b) = .ok (.bool false) := isi _ _ _ (show L2.kitB "str" "list" = some false by decide +kernel)
@[simp] theorem isi_list_n : isiD "list" .none = .ok (.bool false) := isi _ _ _ (show L2.kitB "NoneType" "list" = some false by decide +kernel)
@[simp] theorem isi_list_l (b : List PD) : isiD "list" (.list b) = .ok (.bool true) := isi _ _ _ (show L2.kitB "list" "list" = some true by decide +kernel)
@[simp] theorem isi_list_t (b : List PD) : isiD "list" (.tuple b) = .ok (.bool false) := isi _ _ _ (show L2.kitB "tuple" "list" = some false by decide +kernel)
@[simp] theorem isi_tuple_b (b : Bool) : isiD "tuple" (.bool b) = .ok (.bool false) := isi _ _ _ (show L2.kitB "bool" "tuple" = some false by decide +kernel)
@[simp] theorem isi_tuple_i (b : Int) : isiD "tuple" (.int b) = .ok (.bool false) := isi _ _ _ (show L2.kitB "int" "tuple" = some false by decide +kernel)
@[simp] theorem isi_tuple_s (b : Str) : isiD "tuple" (.str b) = .ok (.bool false) := isi _ _ _ (show L2.kitB "str" "tuple" = some false by decide +kernel)
@[simp] theorem isi_tuple_n : isiD "tuple" .none = .ok (.bool false) := isi _ _ _ (show L2.kitB "NoneType" "tuple" = some false by decide +kernel)
@[simp] theorem isi_tuple_l (b : List PD) : isiD "tuple" (.list b) = .ok (.bool false) := isi _ _ _ (show L2.kitB "list" "tuple" = some false by decide +kernel)
@[simp] theorem isi_tuple_t (b : List PD) : isiD "tuple" (.tuple b) = .ok (.bool true) := isi _ _ _ (show L2.kitB "tuple" "tuple" = some true by decide +kernel)

/-! ### loops -/
/-- a loop by what holds between two turns; P: what holds of its end -/
theorem forD_by {a : Rho → PD → R Rho} {body : Rho → SR} {P : SR → Prop} {xs : List PD} (I : Nat → Rho → Prop) {ρ : Rho} (h0 : I 0 ρ)
    (hs : ∀ (i : Nat) (x : PD) (ρ : Rho), xs[i]? = some x → I i ρ → ∃ ρ1, a ρ x = .ok ρ1 ∧ (match body ρ1 with
      | .nx ρ2 => I (i + 1) ρ2
      | .ct ρ2 => I (i + 1) ρ2
      | .bk ρ2 => P (.nx ρ2)
      | .rt s => P (.rt s)
      | .exc c => P (.exc c)
      | .bad => P .bad))
    (he : ∀ ρ, I xs.length ρ → P (.nx ρ)) : P (forD a body xs ρ) := by
  have go : ∀ (n i : Nat) (ρ : Rho), xs.length - i = n → i ≤ xs.length → I i ρ → P (forD a body (xs.drop i) ρ) := by
    intro n
    induction n with
    | zero =>
      intro i ρ h1 h2 h3
      have e : i = xs.length := by omega
      subst e
      rw [List.drop_length]
      exact he ρ h3
    | succ n ih =>
      intro i ρ h1 h2 h3
      have hl : i < xs.length := by omega
      rw [List.drop_eq_getElem_cons hl]
      obtain ⟨ρ1, e1, h4⟩ := hs i xs[i] ρ (List.getElem?_eq_getElem hl) h3
      unfold forD
      rw [e1]
      simp only
      cases e : body ρ1 with
      | nx ρ2 => rw [e] at h4; exact ih (i + 1) ρ2 (by omega) hl h4
      | ct ρ2 => rw [e] at h4; exact ih (i + 1) ρ2 (by omega) hl h4
      | bk ρ2 => rw [e] at h4; exact h4
      | rt s => rw [e] at h4; exact h4
      | exc c => rw [e] at h4; exact h4
      | bad => rw [e] at h4; exact h4
  exact go xs.length 0 ρ (by omega) (Nat.zero_le _) h0
/-- a comprehension whose items all give a value -/
theorem lcL_map {h : PD → R (Option PD)} : ∀ {xs : List PD} {f : PD → PD}, (∀ x ∈ xs, h x = .ok (some (f x))) → lcL h xs = .ok (xs.map f)
  | [], _, _ => rfl
  | x :: xs, f, e => by
    unfold lcL
    rw [e x List.mem_cons_self, lcL_map fun y hy => e y (List.mem_cons_of_mem _ hy)]
    rfl
theorem lcL_fmap {h : PD → R (Option PD)} : ∀ {xs : List PD} {f : PD → Option PD}, (∀ x ∈ xs, h x = .ok (f x)) → lcL h xs = .ok (xs.filterMap f)
  | [], _, _ => rfl
  | x :: xs, f, e => by
    unfold lcL
    rw [e x List.mem_cons_self, lcL_fmap fun y hy => e y (List.mem_cons_of_mem _ hy)]
    simp only [x_bind_ok, List.filterMap_cons]
    cases f x <;> rfl
end DL
namespace DL
open PySem L2
/-- a statement that goes on -/
theorem seq_nx {s s' : Rho → SR} {ρ ρ1 : Rho} (h : s ρ = .nx ρ1) : sSeq s s' ρ = s' ρ1 := by
  show (s ρ).seq s' = _
  rw [h]
  rfl
theorem seq_rt {s s' : Rho → SR} {ρ : Rho} {x : Sl} (h : s ρ = .rt x) : sSeq s s' ρ = .rt x := by
  show (s ρ).seq s' = _
  rw [h]
  rfl
theorem seq_exc {s s' : Rho → SR} {ρ : Rho} {x : Ec} (h : s ρ = .exc x) : sSeq s s' ρ = .exc x := by
  show (s ρ).seq s' = _
  rw [h]
  rfl
theorem if_t {g : Rho → R Bool} {s s' : Rho → SR} {ρ : Rho} (h : g ρ = .ok true) : sIf g s s' ρ = s ρ := by
  show SR.of (g ρ) _ = _
  rw [h]
  rfl
theorem if_f {g : Rho → R Bool} {s s' : Rho → SR} {ρ : Rho} (h : g ρ = .ok false) : sIf g s s' ρ = s' ρ := by
  show SR.of (g ρ) _ = _
  rw [h]
  rfl
theorem set_ok {i : Nat} {g : Rho → R PD} {ρ : Rho} {x : PD} (h : g ρ = .ok x) : sSet i g ρ = .nx (ρ.set i (some (.d x))) := by
  show SR.of (g ρ) _ = _
  rw [h]
  rfl
theorem setO_ok {i : Nat} {g : Rho → R PD} {ρ : Rho} {x : PD} (h : g ρ = .ok x) : sSetO i g ρ = .nx (ρ.set i (some (.o x))) := by
  show SR.of (g ρ) _ = _
  rw [h]
  rfl
theorem ret_ok {g : Rho → R PD} {ρ : Rho} {x : PD} (h : g ρ = .ok x) : sRet g ρ = .rt (.d x) := by
  show SR.of (g ρ) _ = _
  rw [h]
  rfl
end DL
/-! Refusals with fields: made, raised; a caught one is asked. -/
namespace DL
open PySem PySem.Spec PyProof.Rows L2
/-- the fields, set one by one -/
def fsOf : List Str → List V → List (Str × V) → List (Str × V)
  | f :: fs, y :: ys, acc => fsOf fs ys ((f, y) :: acc)
  | _, _, acc => acc
theorem fsOf_len : ∀ (fs : List Str) (ys : List V) (acc : List (Str × V)), (fsOf fs ys acc).length ≤ acc.length + fs.length
  | [], _, acc => by unfold fsOf; omega
  | f :: fs, [], acc => by
    show acc.length ≤ _
    omega
  | f :: fs, y :: ys, acc => by
    have := fsOf_len fs ys ((f, y) :: acc)
    show (fsOf fs ys ((f, y) :: acc)).length ≤ _
    rw [List.length_cons] at this
    rw [List.length_cons]
    omega
/-- what __init__ of such a class promises -/
def spI (C : Addr) (ns : List Str) : Sp := fun vs H Q E => ∃ (a : Addr) (us : List V), vs = V.ref a :: us ∧ us.length = ns.length ∧ H a = some (exo a C none) ∧
  ∀ dx, H dx = none → dx ≠ a → Q .non (upd (upd H dx (exd dx (fsOf ns us []))) a (exo a C (some dx)))
/-- the walk of its body: self.f = the parameter of slot i -/
def tInit (K : PySem.W.Frag) : List (Str × Nat) → TS
  | [] => tNext
  | [(f, i)] => tOst K f (tVar 0) (tVar i)
  | (f, i) :: p :: r => tSeq (tOst K f (tVar 0) (tVar i)) (tInit K (p :: r))
theorem upd_upd {H : Hp} {a : Addr} {o o' : HO} : upd (upd H a o) a o' = upd H a o' := by
  funext b
  by_cases h : b = a
  · subst h; rw [upd_same, upd_same]
  · rw [upd_ne h, upd_ne h, upd_ne h]
theorem upd_comm {H : Hp} {a b : Addr} {o o' : HO} (h : a ≠ b) : upd (upd H a o) b o' = upd (upd H b o') a o := by
  funext c
  by_cases h1 : c = a
  · subst h1; rw [upd_same, upd_ne h, upd_same]
  · by_cases h2 : c = b
    · subst h2; rw [upd_same, upd_ne h1, upd_same]
    · rw [upd_ne h2, upd_ne h1, upd_ne h1, upd_ne h2]
section
variable {K : PySem.W.Frag} {C a dx : Addr} {D : Ends} {σ : L2.St}
/-- the fields behind the first one -/
theorem init_old (T : OexC K C) (e0 : σ[0]? = some (some (.ref a))) (hne : dx ≠ a) : ∀ (r : List (Str × Nat)) (p : Str × Nat) (us : List V) (y : V) (H : Hp) (fs : List (Str × V)),
    (∀ q ∈ p :: r, PySem.W.findIn K (.ref C) q.1 = some none) → us.length = r.length → (∀ (j : Nat) (q : Str × Nat) (u : V), (p :: r)[j]? = some q → (y :: us)[j]? = some u → σ[q.2]? = some (some u)) →
    H a = some (exo a C (some dx)) → H dx = some (exd dx fs) → fs.length + r.length ≤ 800 → D.nx σ (upd H dx (exd dx (fsOf ((p :: r).map (·.1)) (y :: us) fs))) → tInit K (p :: r) D σ H
  | [], p, us, y, H, fs, hno, hl, hs, ea, ed, hf, q => by
    have : us = [] := List.eq_nil_of_length_eq_zero hl
    subst this
    refine ⟨y, hs 0 p y rfl rfl, .ref a, e0, a, C, rfl, T, hno p List.mem_cons_self, .inr ⟨dx, fs, ea, ed, by simp at hf; omega, q⟩⟩
  | p2 :: r, p, us, y, H, fs, hno, hl, hs, ea, ed, hf, q => by
    cases us with
    | nil => cases hl
    | cons u us =>
      rw [List.length_cons] at hf
      refine ⟨y, hs 0 p y rfl rfl, .ref a, e0, a, C, rfl, T, hno p List.mem_cons_self, .inr ⟨dx, fs, ea, ed, by omega, ?_⟩⟩
      refine init_old T e0 hne r p2 us u (upd H dx (exd dx ((p.1, y) :: fs))) ((p.1, y) :: fs) (fun z hz => hno z (List.mem_cons_of_mem _ hz)) (by simpa using hl)
        (fun j z v h1 h2 => hs (j + 1) z v (by simpa using h1) (by simpa using h2)) (by rw [upd_ne hne.symm]; exact ea) upd_same (by rw [List.length_cons]; omega) ?_
      rw [upd_upd]
      exact q
/-- the whole body -/
theorem init_ok (T : OexC K C) {H : Hp} {Q : VK} (r : List (Str × Nat)) (p : Str × Nat) (us : List V) (y : V) (hno : ∀ q ∈ p :: r, PySem.W.findIn K (.ref C) q.1 = some none) (hl : us.length = r.length) (hr : r.length ≤ 100)
    (e0 : σ[0]? = some (some (.ref a))) (hs : ∀ (j : Nat) (q : Str × Nat) (u : V), (p :: r)[j]? = some q → (y :: us)[j]? = some u → σ[q.2]? = some (some u)) (ea : H a = some (exo a C none))
    (q : ∀ dx, H dx = none → dx ≠ a → Q .non (upd (upd H dx (exd dx (fsOf ((p :: r).map (·.1)) (y :: us) []))) a (exo a C (some dx)))) :
    tInit K (p :: r) { nx := fun _ H' => Q .non H', rt := Q } σ H := by
  have one : ∀ dx, H dx = none → dx ≠ a → upd (upd (upd (upd H dx (exd dx [(p.1, y)])) a (exo a C (some dx))) dx (exd dx (fsOf ((p :: r).map (·.1)) (y :: us) []))) a (exo a C (some dx)) =
      upd (upd H dx (exd dx (fsOf ((p :: r).map (·.1)) (y :: us) []))) a (exo a C (some dx)) := fun dx _ hne => by
    rw [upd_comm (a := a) (b := dx) hne.symm, upd_upd, upd_upd]
  cases r with
  | nil =>
    have : us = [] := List.eq_nil_of_length_eq_zero hl
    subst this
    exact ⟨y, hs 0 p y rfl rfl, .ref a, e0, a, C, rfl, T, hno p List.mem_cons_self, .inl ⟨ea, fun dx h1 h2 => q dx h1 h2⟩⟩
  | cons p2 r =>
    cases us with
    | nil => cases hl
    | cons u us =>
      refine ⟨y, hs 0 p y rfl rfl, .ref a, e0, a, C, rfl, T, hno p List.mem_cons_self, .inl ⟨ea, fun dx h1 h2 => ?_⟩⟩
      refine init_old (dx := dx) T e0 h2 r p2 us u _ [(p.1, y)] (fun z hz => hno z (List.mem_cons_of_mem _ hz)) (by simpa using hl)
        (fun j z v h1 h2 => hs (j + 1) z v (by simpa using h1) (by simpa using h2)) upd_same (by rw [upd_ne h2, upd_same]) (by simp at hr ⊢; omega) ?_
      have := q dx h1 h2
      rw [← one dx h1 h2] at this
      have e3 : upd (upd (upd (upd H dx (exd dx [(p.1, y)])) a (exo a C (some dx))) dx (exd dx (fsOf ((p :: p2 :: r).map (·.1)) (y :: u :: us) []))) a (exo a C (some dx)) =
          upd (upd (upd H dx (exd dx [(p.1, y)])) a (exo a C (some dx))) dx (exd dx (fsOf ((p2 :: r).map (·.1)) (u :: us) [(p.1, y)])) := by
        rw [upd_comm (a := dx) (b := a) h2, upd_upd]
        rfl
      rw [e3] at this
      exact this
end
section
variable {K : PySem.W.Frag}
/-- plain values -/
def dv1 : PD → Option V
  | .none => some .non
  | .bool b => some (.bl b)
  | .int i => some (.int i)
  | .str x => some (.str x)
  | _ => none
def dvs : List PD → Option (List V)
  | [] => some []
  | d :: ds => match dv1 d, dvs ds with
    | some v, some vs => some (v :: vs)
    | _, _ => none
theorem dv1_ok {F : Hp} {v u : V} {d : PD} (h : dv1 d = some u) (r : Dp K F v d) : v = u := by
  cases r with
  | non => cases h; rfl
  | bl b => cases h; rfl
  | int i => cases h; rfl
  | str x => cases h; rfl
  | lst _ _ => cases h
  | tup _ _ => cases h
theorem dvs_ok {F : Hp} : ∀ {vs us : List V} {ds : List PD}, dvs ds = some us → DpAll K F vs ds → vs = us
  | _, us, [], h, r => by cases r; cases h; rfl
  | _, us, d :: ds, h, r => by
    cases r with
    | cons a b =>
      unfold dvs at h
      split at h
      · rename_i v vs e1 e2
        cases h
        rw [dv1_ok e1 a, dvs_ok e2 b]
      · cases h
/-- raise x(e, ..) -/
def raiseS (x : Str) (ns : List Str) (ds : List PD) : SR := match dvs ds with
  | some us => if us.length = ns.length ∧ us.length ≤ 1000 then .exc ⟨x, fsOf ns us []⟩ else .bad
  | none => .bad
def sRaise (x : Str) (ns : List Str) (gr : Rho → R (List PD)) : Rho → SR := fun ρ => SR.of (gr ρ) (raiseS x ns)
theorem ds_raise {W : WX} {ta : TA} {gr : Rho → R (List PD)} (x : Str) (ns : List Str) (h : TDa K W ta gr) :
    TDS K W (fun _ σ H => tMkO (He.ga K x) (spI (He.ga K x) ns) [] ta σ H fun cls d H' => W cls d σ H') (sRaise x ns gr) := fun F0 H0 F H σ ρ D S q =>
  h F0 H0 F H σ ρ _ S (q.of S.ext fun ds F1 H1 e1 k1 vs rs => by
    have S1 := S.go e1
    unfold raiseS at k1
    split at k1
    · rename_i us eu
      split at k1
      · rename_i hl
        have := dvs_ok eu rs
        subst this
        refine ⟨hl.2, fun a ha => ⟨a, vs, by rw [List.append_nil], hl.1, upd_same, fun dx h1 h2 => ?_⟩⟩
        have hd : H1 dx = none := by rw [upd_ne h2] at h1; exact h1
        refine ⟨rfl, dx, fsOf ns vs [], upd_same, by rw [upd_ne h2, upd_same], hd, ?_⟩
        have e2 : upd (del (upd (upd (upd H1 a (exo a (He.ga K x) none)) dx (exd dx (fsOf ns vs []))) a (exo a (He.ga K x) (some dx))) a) dx (.xd (fsOf ns vs [])) = upd H1 dx (.xd (fsOf ns vs [])) := by
          funext b
          by_cases hb : b = dx
          · subst hb; rw [upd_same, upd_same]
          · rw [upd_ne hb, upd_ne hb]
            by_cases hb2 : b = a
            · subst hb2; rw [del_same, ha]
            · rw [del_ne hb2, upd_ne hb2, upd_ne hb, upd_ne hb2]
        rw [e2]
        exact k1 _ _ σ F1 _ (S1.ext.trans (Ext.own S1.same hd)) ⟨rfl, .inr ⟨dx, rfl, upd_same⟩⟩
      · exact k1.elim
    · exact k1.elim)
/-- the promise of __init__, from its body -/
theorem initFn {P : Program} {w : World} {mg : Str → Option Value} {base : Heap} {x qual : Str} {params : Arguments} {body : List Stmt} {scope : Scope} {f C : Addr} {fd : FuncData} {N ps : List Str} {k : Nat} {p : Str × Nat} {r : List (Str × Nat)}
    (F : FunD K x qual params body scope [] [] f fd) (S : FnScope N ps scope) (T : OexC K C) (hi : ∀ (j : Nat) (q : Str × Nat), (p :: r)[j]? = some q → q.2 = j + 1) (hps : ps.length = r.length + 2) (hr : r.length ≤ 100)
    (hno : ∀ q ∈ p :: r, PySem.W.findIn K (.ref C) q.1 = some none)
    (hb : ∀ (cdv : Value) (A : Around) (outer : List Env) (sh : Shared) (H : Hp) (E : XK), Room k (A.deeper (envOfC qual scope sh.heap.objs.size f cdv)) →
      PSs (cxOf (L2.CX P w) P w K mg base N qual scope f cdv A outer sh H E) body (tInit K (p :: r))) : FnOk P w K mg base (L2.CX P w) (k + 1) f fd ps (spI C ((p :: r).map (·.1))) := by
  refine F.ok S (fun vs H Q E h => ?_) (fun cdv A outer sh H vs Q E hr2 h => ⟨_, hb cdv A outer sh H E hr2, ?_⟩)
  · obtain ⟨a, us, rfl, hl, _, _⟩ := h
    rw [List.length_cons, hl, List.length_map, List.length_cons, hps]
  · obtain ⟨a, us, rfl, hl, ea, q⟩ := h
    cases us with
    | nil => cases hl
    | cons y us =>
      have hl2 : us.length = r.length := by simpa using hl
      refine init_ok T r p us y hno hl2 hr ?_ (fun j z u h1 h2 => ?_) ea q
      · unfold L2.start
        rfl
      · rw [hi j z h1]
        unfold L2.start
        have hj : j < (y :: us).length := (List.getElem?_eq_some_iff.mp h2).1
        rw [List.getElem?_append_left (by simpa using hj), List.getElem?_map]
        show ((V.ref a :: y :: us)[j + 1]?).map some = _
        rw [List.getElem?_cons_succ, h2]
        rfl
end
end DL
/-! try: a body of one statement; the caught refusal is marked in its slot. -/
namespace DL
open PySem PySem.Spec PyProof.Rows L2
section
variable {K : PySem.W.Frag}
/-- a body's end: at a raise the slots are those ahead of it -/
def FinB (K : PySem.W.Frag) (W : WX) (σ : L2.St) (F0 H0 F H : Hp) (D : Ends) : SR → Prop
  | .exc c => ∀ cls d F' H', Ext F H F' H' → ExR K c cls d H' → W cls d σ H'
  | s => FinS K W F0 H0 D s
theorem FinB.mono {W : WX} {σ : L2.St} {F0 H0 F H F1 H1 : Hp} {D : Ends} {s : SR} (e : Ext F H F1 H1) (h : FinB K W σ F0 H0 F H D s) : FinB K W σ F0 H0 F1 H1 D s := by
  cases s with
  | exc c => exact fun cls d F' H' x r => h cls d F' H' (e.trans x) r
  | nx ρ => exact h
  | rt s => exact h
  | bk ρ => exact h
  | ct ρ => exact h
  | bad => exact h
theorem FinB.of {α : Type} {W : WX} {σ : L2.St} {F0 H0 F H : Hp} {D : Ends} {r : R α} {k : α → SR} {P : α → Hp → Hp → Prop} (h : FinB K W σ F0 H0 F H D (SR.of r k)) (f : ∀ x F1 H1, Ext F H F1 H1 → FinB K W σ F0 H0 F1 H1 D (k x) → P x F1 H1) : Fin K W σ F H r P := by
  cases r with
  | ok x => exact fun F1 H1 e => f x F1 H1 e (FinB.mono e h)
  | exc c => exact h
  | bad => exact h
def TDB (K : PySem.W.Frag) (t : WX → TS) (s : Rho → SR) : Prop := ∀ (W : WX) (F0 H0 F H : Hp) (σ : L2.St) (ρ : Rho) (D : Ends), StR K F0 H0 F H σ ρ → FinB K W σ F0 H0 F H D (s ρ) → t W D σ H
theorem tb_set (i : Nat) {te : WX → TE} {g : Rho → R PD} (h : ∀ W, TDe K W (te W) g) : TDB K (fun W => tAsg (te W) (gName i)) (sSet i g) := fun W F0 H0 F H σ ρ D S q =>
  h W F0 H0 F H σ ρ _ S (q.of fun x F1 H1 e k v r => k _ F1 H1 ((S.go e).setD r))
theorem tb_drop {te : WX → TE} {g : Rho → R PD} (h : ∀ W, TDe K W (te W) g) : TDB K (fun W => tDrop (te W)) (sDrop g) := fun W F0 H0 F H σ ρ D S q =>
  h W F0 H0 F H σ ρ _ S (q.of fun x F1 H1 e k v r => k σ F1 H1 (S.go e))
theorem tb_if {tt : TT} {gt : Rho → R Bool} {t u : WX → TS} {s s' : Rho → SR} (ht : ∀ W, TDt K W tt gt) (h : TDB K t s) (h' : TDB K u s') : TDB K (fun W => tIfS tt (t W) (u W)) (sIf gt s s') := fun W F0 H0 F H σ ρ D S q =>
  ht W F0 H0 F H σ ρ _ S (q.of fun c F1 H1 e k => by
    cases c with
    | true => exact h W F0 H0 F1 H1 σ ρ D (S.go e) k
    | false => exact h' W F0 H0 F1 H1 σ ρ D (S.go e) k)
/-- an expression statement whose answer is a new list or dict -/
theorem tb_dropO {te : WX → TE} {g : Rho → R PD} (h : ∀ W, TDo K W (te W) g) : TDB K (fun W => tDrop (te W)) (sDrop g) := fun W F0 H0 F H σ ρ D S q =>
  h W F0 H0 F H σ ρ _ S (q.of fun x F1 H1 e k p _ _ _ => k σ F1 H1 (S.go e))

/-! ### the clause -/
/-- the frozen part behind a clause -/
theorem back_exc {F0 H0 F1 H1 F2 H2 : Hp} {dd : Addr} {fs : List (Str × V)} (ex : Ext F0 H0 F1 H1) (hd : H1 dd = some (.xd fs)) (b : Ext (upd F1 dd (.xd fs)) H0 F2 H2) : Ext F0 H0 F2 H2 := by
  have sm : ∀ a u, F0 a = some u → F2 a = some u := fun a u z => b.f _ _ (by
    by_cases ha : a = dd
    · subst ha
      have := ex.g _ _ (ex.f _ _ z)
      rw [hd] at this
      rw [upd_same]
      exact this
    · rw [upd_ne ha]; exact ex.f _ _ z)
  refine ⟨sm, b.g, b.h, fun a z => ?_⟩
  rcases b.n a z with y | y
  · by_cases ha : a = dd
    · subst ha
      cases e : H0 a with
      | none => exact .inr (.inl rfl)
      | some u =>
        have := ex.h a u e
        rw [hd] at this
        cases this
        exact .inr (.inr ⟨_, rfl, .inl (.inr ⟨_, rfl⟩)⟩)
    · rw [upd_ne ha] at y
      exact ex.n a y
  · exact .inr y
open Classical in
/-- the same for all places -/
noncomputable def allA (f : Nat → Nat → SR) : SR := if ∀ a d, f a d = f 0 0 then f 0 0 else .bad
theorem allA_ok {f : Nat → Nat → SR} {s : SR} (h : ∀ a d, f a d = s) : allA f = s := by
  unfold allA
  rw [if_pos (fun a d => by rw [h, h]), h]
def mark (a d : Nat) (fs : List (Str × V)) : PD := .tuple [.int (a : Nat), .int (d : Nat), .list (encF fs)]
/-- the clause's end -/
def dropE (i : Nat) : SR → SR
  | .nx ρ => .nx ((ρ.map unlS).set i none)
  | .bk ρ => .bk ((ρ.map unlS).set i none)
  | .ct ρ => .ct ((ρ.map unlS).set i none)
  | .rt s => .rt s
  | _ => .bad
/-- try: s, except as slot i: h; cx: which classes the clause names -/
noncomputable def sTry (i : Nat) (cx : Str → Option Bool) (s : Rho → SR) (h : Nat → Nat → Ec → Rho → SR) : Rho → SR := fun ρ => match s ρ with
  | .exc c => (match cx c.cls with
    | some true => if c.fs = [] then .bad else allA fun a d => dropE i (h a d c (ρ.set i (some (.l (mark a d c.fs)))))
    | some false => .exc c
    | none => .bad)
  | r => r
theorem ds_try {Wout : WX} {c : Value} {i : Nat} {tb : WX → TS} {ts : Addr → Value → Option Addr → TS} {s : Rho → SR} {h : Nat → Nat → Ec → Rho → SR} {cx : Str → Option Bool}
    (hcx : ∀ x b, cx x = some b → PySem.W.exmOne K (.ref (He.ga K x)) c = some b) (hb : TDB K tb s) (hh : ∀ (a d : Addr) (e : Ec), cx e.cls = some true → TDS K (fun _ _ _ _ => False) (ts a (.ref (He.ga K e.cls)) (some d)) (h a d e)) :
    TDS K Wout (fun D σ H => tb (wAs K c i ts Wout D) D σ H) (sTry i cx s h) := fun F0 H0 F H σ ρ D S q => by
  refine hb _ F0 H0 F H σ ρ D S ?_
  unfold sTry at q
  cases es : s ρ with
  | nx ρ1 => rw [es] at q; exact q
  | rt x => rw [es] at q; exact q
  | bk ρ1 => rw [es] at q; exact q
  | ct ρ1 => rw [es] at q; exact q
  | bad => rw [es] at q; exact q.elim
  | exc e =>
    rw [es] at q
    simp only at q
    intro cls d F1 H1 ex rx
    have S1 := S.go ex
    obtain ⟨rfl, rd⟩ := rx
    cases ec : cx e.cls with
    | none => rw [ec] at q; exact q.elim
    | some b =>
      rw [ec] at q
      refine ⟨b, hcx _ _ ec, fun hb1 a ha => ?_, fun hb0 => ?_⟩
      · subst hb1
        simp only at q
        split at q
        · exact q.elim
        rename_i hne
        obtain ⟨dd, rfl, hd⟩ : ∃ dd, d = some dd ∧ H1 dd = some (.xd e.fs) := by
          rcases rd with ⟨z, _⟩ | z
          · exact absurd z hne
          · exact z
        have qa : FinS K Wout F0 H0 D (dropE i (h a dd e (ρ.set i (some (.l (mark a dd e.fs)))))) := by
          unfold allA at q
          split at q
          · rename_i al
            rw [← al a dd] at q
            exact q
          · exact q.elim
        have sm : Same F1 (upd F1 dd (.xd e.fs)) := fun b u z => by
          by_cases hb : b = dd
          · subst hb
            have := S1.same _ _ z
            rw [hd] at this
            rw [upd_same]
            exact this
          · rw [upd_ne hb]; exact z
        have S2 : StR K (upd F1 dd (.xd e.fs)) H0 (upd F1 dd (.xd e.fs)) H1 (σ.set i (some (.ref a))) (ρ.set i (some (.l (mark a dd e.fs)))) := by
          obtain ⟨φ, S1⟩ := S1
          have ndd : ∀ j, dd ∉ φ j := fun j hj => by
            obtain ⟨_, _, o, x3, x4⟩ := S1.fre j dd hj
            rw [hd] at x3; cases x3
            exact x4 (.inl (.inr ⟨_, rfl⟩))
          have e1 : Ext (upd F1 dd (.xd e.fs)) H0 (upd F1 dd (.xd e.fs)) H1 := ⟨Same.refl _, fun b u z => by
            by_cases hb : b = dd
            · subst hb; rw [upd_same] at z; rw [← z]; exact hd
            · rw [upd_ne hb] at z; exact S1.same _ _ z, S1.ext.h, fun _ z => .inl z⟩
          have S0 : StF K (upd F1 dd (.xd e.fs)) H0 (upd F1 dd (.xd e.fs)) H1 σ ρ φ := by
            refine ⟨e1, S1.len, fun j z w => ?_, fun j z w => ?_, fun j p hp => ?_, S1.nod, S1.dis, fun j z w => ?_⟩
            · obtain ⟨v, a1, b1⟩ := S1.dat j z w
              exact ⟨v, a1, b1.mono sm⟩
            · obtain ⟨v, a1, b1⟩ := S1.tre j z w
              exact ⟨v, a1, b1.keep sm (KeepOn.same (Same.refl _))⟩
            · obtain ⟨x1, x2, x3⟩ := S1.fre j p hp
              exact ⟨x1, by rw [upd_ne fun w => by subst w; exact ndd j hp]; exact x2, x3⟩
            · obtain ⟨p, a1, b1⟩ := S1.lck j z w
              exact ⟨p, a1, b1.mono sm⟩
          exact ⟨_, S0.put (fp := []) (fun y w => by cases w) (fun y w => by cases w) (fun y w => by
            cases w
            exact ⟨a, rfl, (Int.toNat_natCast a).symm, e.fs, by rw [Int.toNat_natCast]; exact upd_same, rfl⟩) (fun p hp => by cases hp) List.nodup_nil (fun j p _ _ hp => by cases hp)⟩
        have st : ∀ {σ2 : L2.St} {F2 H2 : Hp} {ρ2 : Rho}, StR K (upd F1 dd (.xd e.fs)) H0 F2 H2 σ2 ρ2 → StR K F0 H0 F2 H2 (σ2.set i none) ((ρ2.map unlS).set i none) := by
          intro σ2 F2 H2 ρ2 S3
          have x1 := back_exc S1.ext hd S3.ext
          have un : ∀ {j : Nat} {x : Sl}, (ρ2.map unlS)[j]? = some (some x) → ρ2[j]? = some (some x) ∧ ∀ y, x ≠ .l y := by
            intro j x e
            rw [List.getElem?_map] at e
            cases e2 : ρ2[j]? with
            | none => rw [e2] at e; cases e
            | some z =>
              rw [e2] at e
              have e : unlS z = some x := Option.some.inj e
              cases z with
              | none => cases e
              | some z =>
                cases z with
                | d y => cases e; exact ⟨rfl, fun _ w => nomatch w⟩
                | t y => cases e; exact ⟨rfl, fun _ w => nomatch w⟩
                | l y => cases e
          have S4 : StR K F0 H0 F2 H2 σ2 (ρ2.map unlS) := by
            obtain ⟨φ, S3⟩ := S3
            exact ⟨φ, x1, by rw [List.length_map]; exact S3.len, fun j z w => S3.dat j z (un w).1, fun j z w => S3.tre j z (un w).1, S3.fre, S3.nod, S3.dis, fun j z w => absurd rfl ((un w).2 z)⟩
          exact S4.setU i
        refine hh a dd e ec _ _ _ _ _ _ _ S2 ?_
        cases er : h a dd e (ρ.set i (some (.l (mark a dd e.fs)))) with
        | nx ρ2 => rw [er] at qa; exact fun σ2 F2 H2 S3 => qa _ F2 H2 (st S3)
        | bk ρ2 => rw [er] at qa; exact fun σ2 F2 H2 S3 => qa _ F2 H2 (st S3)
        | ct ρ2 => rw [er] at qa; exact fun σ2 F2 H2 S3 => qa _ F2 H2 (st S3)
        | exc c2 => rw [er] at qa; exact qa.elim
        | bad => rw [er] at qa; exact qa.elim
        | rt x =>
          rw [er] at qa
          cases x with
          | d x => exact fun v F2 H2 e2 rv => qa v F2 H2 (back_exc S1.ext hd e2) rv
          | t x => exact fun v fp F2 H2 e2 y1 y2 y3 => qa v fp F2 H2 (back_exc S1.ext hd e2) y1 y2 y3
          | l x => exact qa
      · subst hb0
        exact q _ _ σ F1 H1 S1.ext ⟨rfl, rd⟩
end
section
variable {K : PySem.W.Frag}
/-- a field of the caught refusal -/
def getF (f : Str) : List PD → R PD
  | .tuple [.str g, v] :: r => if g = f then (match v with
    | .dict _ => .bad
    | v => .ok v) else getF f r
  | _ => .bad
def onMark (a d i : Nat) (k : List PD → R PD) : Rho → R PD := fun ρ => match ρ[i]? with
  | some (some (.l (.tuple [.int a', .int d', .list es]))) => if a' = (a : Int) ∧ d' = (d : Int) then k es else .bad
  | _ => .bad
theorem onMark_ok {F0 H0 F H : Hp} {σ : L2.St} {ρ : Rho} {W : WX} {P : PD → Hp → Hp → Prop} {a d i : Nat} {k : List PD → R PD} (S : StR K F0 H0 F H σ ρ) (q : Fin K W σ F H (onMark a d i k ρ) P) :
    ∃ fs, σ[i]? = some (some (.ref a)) ∧ H d = some (.xd fs) ∧ Fin K W σ F H (k (encF fs)) P := by
  unfold onMark at q
  split at q
  · rename_i a' d' es e
    split at q
    · rename_i h
      obtain ⟨rfl, rfl⟩ := h
      obtain ⟨p, hs, hp, fs, hf, rfl⟩ := S.lck i _ e
      rw [Int.toNat_natCast] at hp hf
      subst hp
      exact ⟨fs, hs, S.same _ _ hf, q⟩
    · exact q.elim
  · exact q.elim
theorem getF_ok {f : Str} : ∀ {fs : List (Str × V)} {x : PD}, getF f (encF fs) = .ok x → ∃ v, fs.lookup f = some v ∧ ∀ F : Hp, Dp K F v x
  | [], x, h => by cases h
  | (g, v) :: r, x, h => by
    have h : (if g = f then (match encV v with | .dict _ => R.bad | v => .ok v) else getF f (encF r)) = .ok x := h
    by_cases c : g = f
    · subst c
      rw [if_pos rfl] at h
      refine ⟨v, by rw [List.lookup_cons, beq_self_eq_true], fun F => ?_⟩
      cases v with
      | non => cases h; exact .non
      | bl b => cases h; exact .bl b
      | int b => cases h; exact .int b
      | str b => cases h; exact .str b
      | _ => cases h
    · rw [if_neg c] at h
      obtain ⟨u, e, k⟩ := getF_ok h
      have : (f == g) = false := by simpa using fun z => c z.symm
      exact ⟨u, by rw [List.lookup_cons, this]; exact e, k⟩
theorem getF_x (f : Str) : ∀ l : List PD, ∀ c, getF f l ≠ .exc c
  | [], c, h => by cases h
  | x :: l, c, h => by
    unfold getF at h
    split at h
    · rename_i g v r e
      injection e with _ e
      subst e
      split at h
      · split at h <;> cases h
      · exact getF_x f _ c h
    · cases h
def eXf (a d i : Nat) (f : Str) : Rho → R PD := onMark a d i (getF f)
theorem td_xf {W : WX} {a d : Addr} {C : Addr} (i : Nat) (f : Str) : TDe K W (tXf a (.ref C) (some d) C f (tVar i)) (eXf a d i f) := fun F0 H0 F H σ ρ Q S q => by
  obtain ⟨fs, hs, hd, k⟩ := onMark_ok S q
  refine ⟨.ref a, hs, rfl, rfl, d, fs, ?_⟩
  cases e : getF f (encF fs) with
  | ok x =>
    rw [e] at k
    obtain ⟨v, e1, e2⟩ := getF_ok (K := K) e
    exact ⟨v, rfl, hd, e1, Fin.okk K W σ S.same k _ (e2 F)⟩
  | exc c => exact absurd e (getF_x f _ c)
  | bad => rw [e] at k; exact k.elim
/-- isinstance(e, C') of a caught refusal of the class D, its dict at d -/
def rIsF (K : PySem.W.Frag) (D a d : Addr) : List V → Hp → VK → Prop := fun xs H Q => ∃ (c : V) (cv : Value) (b : Bool) (fs : List (Str × V)), xs = [.ref a, c] ∧ (∀ u, RelV c u → u = cv) ∧ H d = some (.xd fs) ∧ PySem.W.kitOne K (.ref D) cv = some b ∧ Q (.bl b) H
theorem call_isF {X : Cx} {a D d : Addr} {oe : Obj} {pn : List (Addr × Obj)} (C : ExcC X.K D) (hz : Zc (.ref D) (some d) oe) (hf : ∃ vs, oe.data = .fields vs) : CallR (X.suite a ((a, oe) :: pn)) (.builtin "isinstance") (rIsF X.K D a d) := by
  intro pins s σ H xs us Q I r h
  obtain ⟨c, cv, b, fs, rfl, hcv, hd, e, q⟩ := h
  obtain ⟨u1, u2, rfl, r1, r2⟩ := r.two
  obtain rfl := hcv _ r2
  obtain rfl : u1 = Value.ref a := r1
  have hget := (I.pin (a, oe) (List.mem_append_left _ List.mem_cons_self)).1
  obtain ⟨vs, hv⟩ := hf
  obtain ⟨mA, hns, _⟩ : ObjOk X.prog X.w H s.heap d (.xd fs) := I.hok d _ hd
  obtain ⟨od, ho, _⟩ := lookIn_ns hns
  have J : PySem.W.InstAt s.heap a oe D (some od) := ⟨hget, hz.1, by unfold PySem.W.notCls; rw [hv] <;> rfl, by rw [hz.2]; exact ho⟩
  have hcl : (PySem.W.clsIn X.K D).isSome = true := by
    have := C.hd
    unfold PySem.W.hasDictIn at this
    cases z : PySem.W.clsIn X.K D with
    | none => rw [z] at this; cases this
    | some _ => rfl
  exact PySem.W.kia_one (PySem.W.kitx_exc hcl C.hg C.hk C.hs C.ha C.hn C.ht C.hm) I.kIn J e (fun z => nomatch z) fun tk => ⟨.bl b, H, I.kept (t' := tk) fun _ _ z => z, rfl, q⟩
def eIsF (a d i : Nat) (b : Bool) : Rho → R PD := onMark a d i fun _ => .ok (.bool b)
theorem td_isF {W : WX} {a d D : Addr} {c : V} {cv : Value} {b : Bool} (i : Nat) (hc : ∀ u, RelV c u → u = cv) (hk : PySem.W.kitOne K (.ref D) cv = some b) :
    TDe K W (tCB (rIsF K D a d) (tCons (tVar i) (tCons (tC c) tNil))) (eIsF a d i b) := fun F0 H0 F H σ ρ Q S q => by
  obtain ⟨fs, hs, hd, k⟩ := onMark_ok S q
  exact ⟨.ref a, hs, c, cv, b, fs, rfl, hc, hd, hk, Fin.okk (x := PyData.bool b) K W σ S.same k _ (.bl b)⟩
end
section
variable {K : PySem.W.Frag}
/-- isinstance(e, (C1, ..)) -/
def rIsFT (K : PySem.W.Frag) (D a d : Addr) : List V → Hp → VK → Prop := fun xs H Q => ∃ (tp : Addr) (cs : List V) (us : List Value) (b : Bool) (fs : List (Str × V)), xs = [.ref a, .ref tp] ∧ H tp = some (.tup cs) ∧ Paired (fun c u => ∀ w, RelV c w → w = u) cs us ∧ H d = some (.xd fs) ∧ PySem.W.kitAny K (.ref D) us = some b ∧ Q (.bl b) H
theorem paired_eq : ∀ {cs : List V} {us its : List Value}, Paired (fun c u => ∀ w, RelV c w → w = u) cs us → Vals cs its → its = us
  | _, _, _, .nil, r => by cases r; rfl
  | _, _, _, .cons h t, r => by
    cases r with
    | cons a b => rw [h _ a, paired_eq t b]
theorem call_isFT {X : Cx} {a D d : Addr} {oe : Obj} {pn : List (Addr × Obj)} (C : ExcC X.K D) (hz : Zc (.ref D) (some d) oe) (hf : ∃ vs, oe.data = .fields vs) : CallR (X.suite a ((a, oe) :: pn)) (.builtin "isinstance") (rIsFT X.K D a d) := by
  intro pins s σ H xs us Q I r h
  obtain ⟨tp, cs, ws, b, fs, rfl, hT, hcv, hd, e, q⟩ := h
  obtain ⟨u1, u2, rfl, r1, r2⟩ := r.two
  obtain rfl : u2 = Value.ref tp := r2
  obtain rfl : u1 = Value.ref a := r1
  have hget := (I.pin (a, oe) (List.mem_append_left _ List.mem_cons_self)).1
  obtain ⟨vs, hv⟩ := hf
  obtain ⟨mA, hns, _⟩ : ObjOk X.prog X.w H s.heap d (.xd fs) := I.hok d _ hd
  obtain ⟨od, ho, _⟩ := lookIn_ns hns
  have J : PySem.W.InstAt s.heap a oe D (some od) := ⟨hget, hz.1, by unfold PySem.W.notCls; rw [hv] <;> rfl, by rw [hz.2]; exact ho⟩
  have hcl : (PySem.W.clsIn X.K D).isSome = true := by
    have := C.hd
    unfold PySem.W.hasDictIn at this
    cases z : PySem.W.clsIn X.K D with
    | none => rw [z] at this; cases this
    | some _ => rfl
  obtain ⟨_, its, rv, ot, g1, g2, n, g3⟩ : ObjOk X.prog X.w H s.heap tp (.tup cs) := I.hok tp _ hT
  obtain rfl := paired_eq hcv rv
  obtain ⟨oc, od2, dt, sl⟩ := ot
  dsimp only at g2 g3
  subst g2 g3
  exact PySem.W.kia_tup (PySem.W.kitx_exc hcl C.hg C.hk C.hs C.ha C.hn C.ht C.hm) I.kIn J g1 e (fun z => nomatch z) fun tk => ⟨.bl b, H, I.kept (t' := tk) fun _ _ z => z, rfl, q⟩
/-- arguments that are classes -/
def ConstA (t : TA) (cs : List V) : Prop := ∀ σ H Q, Q cs H → t σ H Q
theorem consta_nil : ConstA tNil [] := fun _ _ _ q => q
theorem consta_cons {t : TA} {cs : List V} (c : V) (h : ConstA t cs) : ConstA (tCons (tC c) t) (c :: cs) := fun σ H Q q => h σ H _ q
theorem td_isFT {W : WX} {a d D : Addr} {cs : List V} {us : List Value} {b : Bool} {t : TA} (i : Nat) (ht : ConstA t cs) (hl : cs.length ≤ 1000) (hc : Paired (fun c u => ∀ w, RelV c w → w = u) cs us) (hk : PySem.W.kitAny K (.ref D) us = some b) :
    TDe K W (tCB (rIsFT K D a d) (tCons (tVar i) (tCons (tTup t) tNil))) (eIsF a d i b) := fun F0 H0 F H σ ρ Q S q => by
  obtain ⟨fs, hs, hd, k⟩ := onMark_ok S q
  refine ⟨.ref a, hs, ht σ H _ ⟨by rw [sizeLine_eq]; omega, fun p hp => ?_⟩⟩
  have ex := Ext.own (o := .tup cs) S.same hp
  exact ⟨p, cs, us, b, fs, rfl, upd_same, hc, by rw [upd_ne (ne_of_none hd hp)]; exact hd, hk, k _ _ ex _ (.bl b)⟩
/-- a class of refusals with fields, as the head can ask for it -/
def oexB (K : PySem.W.Frag) (C : Addr) : Bool :=
  (match K.lookup C with
    | some ⟨.type "type", _, .cls cd, sl⟩ => (match cd.mro, sl.toList with
      | .ref C' :: bm, [_, _, _, _, some (.builtin n), _] => C' == C && (n == "ValueError.__new__" && (!cd.hasDel && (cd.hasDict && PySem.HandSPX.refsVE bm)))
      | _, _ => false)
    | _ => false) &&
  (decide (PySem.W.findIn K (.ref C) "__setattr__" = some (some (.builtin "object.__setattr__"))) && (decide (PySem.W.subIn K (.ref C) (.type "BaseException") = some true) && (decide (PySem.W.typeIn K (.ref C) = some (.type "type")) && PySem.W.keepIn K (.ref C))))
theorem oexB_ok {C : Addr} (h : oexB K C = true) : OexC K C := by
  unfold oexB at h
  rw [Bool.and_eq_true, Bool.and_eq_true, Bool.and_eq_true, Bool.and_eq_true] at h
  obtain ⟨h1, h2, h3, h4, h5⟩ := h
  refine ⟨?_, of_decide_eq_true h2, of_decide_eq_true h3, of_decide_eq_true h4, h5⟩
  split at h1
  · rename_i dd cd sl ho
    split at h1
    · rename_i C' bm k0 k1 k2 k3 n k5 hm hs
      rw [Bool.and_eq_true, Bool.and_eq_true, Bool.and_eq_true, Bool.and_eq_true] at h1
      obtain ⟨q1, q2, q3, q4, q5⟩ := h1
      obtain rfl := eq_of_beq q1
      obtain rfl := eq_of_beq q2
      obtain ⟨nm, bs, mro, ns, qn, hdct, sn, sub, ab, col, del⟩ := cd
      dsimp only at hm q3 q4
      subst hm q4
      have hdel : del = false := by simpa using q3
      subst hdel
      obtain ⟨l⟩ := sl
      dsimp only at hs
      subst hs
      exact ⟨nm, qn, ns, bs, bm, sn, sub, ab, col, dd, k0, k1, k2, k3, k5, ho, q5⟩
    · cases h1
  · cases h1
end
section
/-- a class of refusals: what the head says of it -/
structure OCls (K : PySem.W.Frag) (mg : Str → Option Value) (x : Str) (ns : List Str) : Prop where
  o : OexC K (He.ga K x)
  g : mg x = some (.ref (He.ga K x))
  i : PySem.W.findIn K (.ref (He.ga K x)) "__init__" = some (some (.ref (He.ma K (He.ga K x) "__init__")))
  t : PySem.W.typeIn K (.ref (He.ma K (He.ga K x) "__init__")) = some (.type "function")
  n : ∀ f ∈ ns, PySem.W.findIn K (.ref (He.ga K x)) f = some none
  xf : XfC K (He.ga K x)
  ex : ExcC K (He.ga K x)
def excCB (K : PySem.W.Frag) (D : Addr) : Bool :=
  decide (PySem.W.findIn K (.ref D) "__class__" = some (some (.builtin "object.__class__"))) && (decide (PySem.W.specialIn K (.builtin "object.__class__") "__get__" = some (some (.builtin "getset_descriptor.__get__"))) &&
    (decide (PySem.W.takesIn K (.builtin "object.__class__") = some true) && decide (PySem.W.mroIn K D (.type "object") = some true)))
def oclsB (K : PySem.W.Frag) (x : Str) (ns : List Str) : Bool :=
  oexB K (He.ga K x) && (decide (PySem.W.findIn K (.ref (He.ga K x)) "__init__" = some (some (.ref (He.ma K (He.ga K x) "__init__")))) && (decide (PySem.W.typeIn K (.ref (He.ma K (He.ga K x) "__init__")) = some (.type "function")) &&
    ((ns.all fun f => decide (PySem.W.findIn K (.ref (He.ga K x)) f = some none)) && (xfB K (He.ga K x) && excCB K (He.ga K x)))))
theorem oclsB_ok {K : PySem.W.Frag} {mg : Str → Option Value} {x : Str} {ns : List Str} (h : oclsB K x ns = true) (g : mg x = some (.ref (He.ga K x))) : OCls K mg x ns := by
  unfold oclsB at h
  rw [Bool.and_eq_true, Bool.and_eq_true, Bool.and_eq_true, Bool.and_eq_true, Bool.and_eq_true] at h
  obtain ⟨h1, h2, h3, h4, h5, h6⟩ := h
  have X := xfB_ok h5
  unfold excCB at h6
  rw [Bool.and_eq_true, Bool.and_eq_true, Bool.and_eq_true] at h6
  obtain ⟨e1, e2, e3, e4⟩ := h6
  exact ⟨oexB_ok h1, g, of_decide_eq_true h2, of_decide_eq_true h3, fun f hf => of_decide_eq_true (List.all_eq_true.mp h4 f hf), X, ⟨X.ga, X.gg, X.exC, X.hdC, of_decide_eq_true e1, of_decide_eq_true e2, of_decide_eq_true e3, of_decide_eq_true e4⟩⟩
end
section
/-- C(e, ..) of such a class -/
theorem pmk_ocls {X : Cx} {W : WX} {x : Str} {ns ps : List Str} {k : Nat} {fd : FuncData} {e : Expr} {es : List Expr} {ta : TA} {p pos : Pos} (tk : Takes X W) (O : OCls X.K X.mg x ns)
    (F1 : FnOk X.prog X.w X.K X.mg X.base (L2.CX X.prog X.w) k (He.ma X.K (He.ga X.K x) "__init__") fd ps (spI (He.ga X.K x) ns)) (hr : Room (k + 1) X.A) (hb : Binds X.K fd ps []) (hg : Gl X x) (ha : PA X (e :: es) ta)
    (hdb : (x == ("__debug__" : Str)) = false := by decide) (he : starEach (e :: es) X.env = (false, eval e X.env) :: starEach es X.env := by rfl) (hpl : (backTo pos (starEach es X.env)).any (·.1) = false := by rfl) :
    PMk X (.Call (.Name x p) (e :: es) [] pos) (tMkO (He.ga X.K x) (spI (He.ga X.K x) ns) [] ta) :=
  pmk_oex O.o O.i O.t F1 hr hb .nil (passes_call tk fun _ _ _ _ h => h.elim) hg O.g ha hdb he hpl
/-- what a raise wants of a class, at a depth k -/
def KeptI (P : Program) (w : World) (K : PySem.W.Frag) (mg : Str → Option Value) (base : Heap) (k : Nat) (x : Str) (ns : List Str) : Prop :=
  ∃ (fd : FuncData) (ps : List Str), OCls K mg x ns ∧ Binds K fd ps [] ∧ FnOk P w K mg base (L2.CX P w) k (He.ma K (He.ga K x) "__init__") fd ps (spI (He.ga K x) ns)
theorem kept_cls {P : Program} {w : World} {K : PySem.W.Frag} {mg : Str → Option Value} {base : Heap} {x qual : Str} {params : Arguments} {body : List Stmt} {scope : Scope} {N ps ns : List Str} {k : Nat} {p : Str × Nat} {r : List (Str × Nat)}
    (F : ∃ fd, FunD K "__init__" qual params body scope [] [] (He.ma K (He.ga K x) "__init__") fd) (O : OCls K mg x ns) (S : FnScope N ps scope) (hn : ns = (p :: r).map (·.1)) (hi : ∀ (j : Nat) (q : Str × Nat), (p :: r)[j]? = some q → q.2 = j + 1)
    (hps : ps.length = r.length + 2) (hr : r.length ≤ 100)
    (hB : ∀ (kV doc pm : Value) (an : Option Addr) (cdv ct : Value) (us : List Value), us.length = ps.length → bindArgs (PySem.W.fnOf "__init__" qual params body scope .none kV doc pm an cdv ct) ⟨us, []⟩ = pure (ps.zip us))
    (hb : ∀ (f : Addr) (cdv : Value) (A : Around) (outer : List Env) (sh : Shared) (H : Hp) (E : XK), Room k (A.deeper (envOfC qual scope sh.heap.objs.size f cdv)) →
      PSs (cxOf (L2.CX P w) P w K mg base N qual scope f cdv A outer sh H E) body (tInit K (p :: r))) : KeptI P w K mg base (k + 1) x ns := by
  obtain ⟨fd, F⟩ := F
  refine ⟨fd, ps, O, F.bindsN hB, ?_⟩
  subst hn
  exact initFn F S O.o hi hps hr (fun q hq => O.n q.1 (List.mem_map_of_mem hq)) (fun cdv A outer sh H E h => hb _ cdv A outer sh H E h)
end
section
/-- a clause that is reached with one class alone -/
def tEx (K : PySem.W.Frag) (x : Str) (t : Addr → Addr → TS) : Addr → Value → Option Addr → TS := fun a cls d D σ H => ∃ dd, cls = .ref (He.ga K x) ∧ d = some dd ∧ t a dd D σ H
theorem pss_ex {X : Cx} {x : Str} {b : List Stmt} {t : Addr → Addr → TS}
    (h : ∀ (a dd : Addr) (oe : Obj) (pn : List (Addr × Obj)), Zc (.ref (He.ga X.K x)) (some dd) oe → (∃ vs, oe.data = .fields vs) → PSs (X.suite a ((a, oe) :: pn)) b (t a dd)) :
    ∀ (a : Addr) (oe : Obj) (cls : Value) (d : Option Addr) (pn : List (Addr × Obj)), Zc cls d oe → (∃ vs, oe.data = .fields vs) → PSs (X.suite a ((a, oe) :: pn)) b (tEx X.K x t a cls d) := fun a oe cls d pn hz hf => by
  refine ⟨fun pins s σ H D I q => ?_⟩
  obtain ⟨dd, rfl, rfl, q⟩ := q
  exact (h a dd oe pn hz hf).run pins s σ H D I q
def onlyX (x : Str) (h : Nat → Nat → Ec → Rho → SR) : Nat → Nat → Ec → Rho → SR := fun a d e ρ => if e.cls = x then h a d e ρ else .bad
theorem ds_ex {K : PySem.W.Frag} {W : WX} {x : Str} {t : Addr → Addr → TS} {h : Nat → Nat → Ec → Rho → SR} {cx : Str → Option Bool} (hh : ∀ (a d : Addr) (e : Ec), TDS K W (t a d) (h a d e)) :
    ∀ (a d : Addr) (e : Ec), cx e.cls = some true → TDS K W (tEx K x t a (.ref (He.ga K e.cls)) (some d)) (onlyX x h a d e) := fun a d e _ F0 H0 F H σ ρ D S q => by
  unfold onlyX at q
  split at q
  · rename_i c
    exact ⟨d, by rw [c], rfl, hh a d e F0 H0 F H σ ρ D S q⟩
  · exact q.elim
/-- the classes that a clause names, all below one -/
def allBelow (xs : List Str) : Str → Option Bool := fun x => if x ∈ xs then some true else none
theorem below_ok {K : PySem.W.Frag} {c : Value} {xs : List Str} (h : ∀ x ∈ xs, PySem.W.exmOne K (.ref (He.ga K x)) c = some true) : ∀ x b, allBelow xs x = some b → PySem.W.exmOne K (.ref (He.ga K x)) c = some b := fun x b e => by
  unfold allBelow at e
  split at e
  · rename_i m
    cases e
    exact h x m
  · cases e
end
section
variable {K : PySem.W.Frag}
/-! ### shifts, bits -/
def shrB (_ j : Int) : Bool := decide (0 ≤ j)
abbrev shrD : PD → PD → R PD := iiD shrB fun i j => i / 2 ^ j.toNat
theorem rd_shr : RD K (rI (fun _ j => 0 ≤ j) fun i j => .int (i / 2 ^ j.toNat)) shrD := rd_I fun i j h => of_decide_eq_true h
def bandD : PD → PD → R PD
  | .int i, .int j => .ok (.int (Builtin.bitAnd i j))
  | _, _ => .bad
theorem rd_band : RD K (rI0 fun i j => .int (Builtin.bitAnd i j)) bandD := fun W σ F H x y a b Q s ra rb q => by
  unfold bandD at q
  split at q
  · exact ⟨_, _, ra.int, rb.int, q.ok s _ (.int _)⟩
  · exact q.elim
end
end DL
/-! Trees: made, handed back, taken apart; reading what is one's own; calls that only read. -/
namespace DL
open PySem PySem.Spec PyProof.Rows L2
section
variable {K : PySem.W.Frag} {W : WX}
/-! ### trees as values -/
def MvQ (K : PySem.W.Frag) (H : Hp) (φ : Nat → List Addr) (vs : List Nat) (Q : VK) : Tv → Hp → Hp → Prop := fun x F' H' => ∀ v fp, TvAt K F' H' fp v x → fp.Nodup → (∀ p ∈ fp, F' p = none ∧ (H p = none ∨ ∃ i ∈ vs, p ∈ φ i)) → Q v H'
/-- a tree: what it owns is new, or was owned by the slots vs -/
def TDm (K : PySem.W.Frag) (W : WX) (vs : List Nat) (t : TE) (g : Rho → R Tv) : Prop := ∀ (F0 H0 F H : Hp) (σ : L2.St) (ρ : Rho) (φ : Nat → List Addr) (Q : VK), StF K F0 H0 F H σ ρ φ → Fin K W σ F H (g ρ) (MvQ K H φ vs Q) → t σ H Q
def TDma (K : PySem.W.Frag) (W : WX) (vs : List Nat) (t : TA) (g : Rho → R (List Tv)) : Prop := ∀ (F0 H0 F H : Hp) (σ : L2.St) (ρ : Rho) (φ : Nat → List Addr) (Q : List V → Hp → Prop), StF K F0 H0 F H σ ρ φ →
  Fin K W σ F H (g ρ) (fun xs F' H' => ∀ us fp, TvAll K F' H' fp us xs → fp.Nodup → (∀ p ∈ fp, F' p = none ∧ (H p = none ∨ ∃ i ∈ vs, p ∈ φ i)) → Q us H') → t σ H Q
variable {t ta tb tc : TE} {g ga gb gc : Rho → R PD} {tt : TT} {gm : Rho → R Tv} {tr : TA} {gr : Rho → R (List Tv)} {vs ws : List Nat}
def mFr (g : Rho → R PD) : Rho → R Tv := fun ρ => (g ρ).bind fun d => .ok (.fr d)
def mOwn (g : Rho → R PD) : Rho → R Tv := fun ρ => (g ρ).bind fun d => .ok (.own d)
def mVar (i : Nat) : Rho → R Tv := fun ρ => match ρ[i]? with
  | some (some (.d x)) => .ok (.fr x)
  | some (some (.t x)) => .ok x
  | _ => .bad
theorem tm_fr (h : TDe K W t g) : TDm K W [] t (mFr g) := fun F0 H0 F H σ ρ φ Q S q =>
  h F0 H0 F H σ ρ Q ⟨φ, S⟩ (q.then fun d F1 H1 e k v rv => (Fin.okk (x := Tv.fr d) K W σ e.g k) v [] (.fr rv) List.nodup_nil fun p hp => by cases hp)
theorem tm_own (h : TDo K W t g) : TDm K W [] t (mOwn g) := fun F0 H0 F H σ ρ φ Q S q =>
  h F0 H0 F H σ ρ Q ⟨φ, S⟩ (q.then fun d F1 H1 e k p hp hf ho => (Fin.okk (x := Tv.own d) K W σ e.g k) _ [p] (.own ho) (by simp) fun r hr => by rw [List.mem_singleton.mp hr]; exact ⟨hf, .inl hp⟩)
theorem tm_var (i : Nat) : TDm K W [i] (tVar i) (mVar i) := fun F0 H0 F H σ ρ φ Q S q => by
  unfold mVar at q
  split at q
  · rename_i x e
    obtain ⟨v, a, b⟩ := S.dat i x e
    exact ⟨v, a, (q.ok S.same) v [] (.fr b) List.nodup_nil fun p hp => by cases hp⟩
  · rename_i x e
    obtain ⟨v, a, b⟩ := S.tre i x e
    exact ⟨v, a, (q.ok S.same) v (φ i) b (S.nod i) fun p hp => ⟨(S.fre i p hp).2.1, .inr ⟨i, by simp, hp⟩⟩⟩
  · exact q.elim
def maNil : Rho → R (List Tv) := fun _ => .ok []
def maCons (gm : Rho → R Tv) (gr : Rho → R (List Tv)) : Rho → R (List Tv) := fun ρ => (gm ρ).bind fun a => (gr ρ).bind fun l => .ok (a :: l)
theorem tma_nil : TDma K W [] tNil maNil := fun F0 H0 F H σ ρ φ Q S q => (q.ok S.same) [] [] .nil List.nodup_nil fun p hp => by cases hp
theorem tma_cons (ha : TDm K W vs ta gm) (hr : TDma K W ws tr gr) (dj : ∀ i ∈ vs, i ∉ ws := by decide) : TDma K W (vs ++ ws) (tCons ta tr) (maCons gm gr) := fun F0 H0 F H σ ρ φ Q S q =>
  ha F0 H0 F H σ ρ φ _ S (q.then fun a F1 H1 e1 k1 v fp tv nd hp => hr F0 H0 F1 H1 σ ρ φ _ (S.go e1) (k1.then fun l F2 H2 e2 k2 us fq tl nd2 hq => by
    have S1 := S.go e1
    refine (Fin.okk (x := a :: l) K W σ e2.g k2) _ (fp ++ fq) (.cons (tv.keep e2.f (KeepOn.same e2.h)) tl) ?_ ?_
    · refine List.nodup_append.mpr ⟨nd, nd2, fun p h1 r h2 z => ?_⟩
      subst z
      obtain ⟨o, ho, nt⟩ := tv.nt p h1
      rcases (hq p h2).2 with y | ⟨j, hj, y⟩
      · rw [ho] at y; cases y
      · rcases (hp p h1).2 with x | ⟨i, hi, x⟩
        · obtain ⟨_, _, o', y2, _⟩ := S.fre j p y
          rw [x] at y2; cases y2
        · have := S.dis i j p x y
          subst this
          exact dj i hi hj
    · intro p h
      rcases List.mem_append.mp h with h | h
      · obtain ⟨o, ho, nt⟩ := tv.nt p h
        exact ⟨e2.keep (hp p h).1 ho nt, (hp p h).2.imp id fun ⟨i, h1, h2⟩ => ⟨i, List.mem_append_left _ h1, h2⟩⟩
      · exact ⟨(hq p h).1, (hq p h).2.imp (fun z => e1.h.free z) fun ⟨i, h1, h2⟩ => ⟨i, List.mem_append_right _ h1, h2⟩⟩))
def mTup (gr : Rho → R (List Tv)) : Rho → R Tv := fun ρ => (gr ρ).bind fun l => if l.length ≤ sizeLine then .ok (.tup l) else .bad
def mLst (gr : Rho → R (List Tv)) : Rho → R Tv := fun ρ => (gr ρ).bind fun l => if l.length ≤ sizeLine then .ok (.lst l) else .bad
theorem tm_tup (hr : TDma K W vs tr gr) : TDm K W vs (tTup tr) (mTup gr) := fun F0 H0 F H σ ρ φ Q S q =>
  hr F0 H0 F H σ ρ φ _ S (q.then fun l F1 H1 e1 k1 us fp tl nd hp => by
    by_cases hl : l.length ≤ sizeLine
    · rw [if_pos hl] at k1
      refine ⟨by rw [tl.length]; exact hl, fun p np => ?_⟩
      have e2 := Ext.own (o := .tup us) e1.g np
      exact k1 _ _ e2 _ fp (.tup upd_same (tl.keep e2.f (KeepOn.same e2.h))) nd hp
    · rw [if_neg hl] at k1
      exact k1.elim)
theorem tm_lst (hr : TDma K W vs tr gr) : TDm K W vs (tLst tr) (mLst gr) := fun F0 H0 F H σ ρ φ Q S q =>
  hr F0 H0 F H σ ρ φ _ S (q.then fun l F1 H1 e1 k1 us fp tl nd hp => by
    by_cases hl : l.length ≤ sizeLine
    · rw [if_pos hl] at k1
      refine ⟨by rw [tl.length]; exact hl, fun p np => ?_⟩
      have e2 := Ext.own (o := .lst us) e1.g np
      refine k1 _ _ e2 _ (p :: fp) (.lst upd_same (tl.keep e2.f (KeepOn.same e2.h))) (List.nodup_cons.mpr ⟨fun z => ?_, nd⟩) fun r hr => ?_
      · obtain ⟨o, ho, _⟩ := tl.nt p z
        rw [np] at ho; cases ho
      · rcases List.mem_cons.mp hr with z | z
        · subst z; exact ⟨e1.g.free np, .inl (e1.h.free np)⟩
        · exact hp r z
    · rw [if_neg hl] at k1
      exact k1.elim)
def FR.toM : FR → R Tv
  | .rt (.d x) => .ok (.fr x)
  | .rt (.t x) => .ok x
  | .exc c => .exc c
  | _ => .bad
variable {tq : TA} {gq : Rho → R (List PD)} {n : Nat} {f : List PD → FR}
def mCall (n : Nat) (f : List PD → FR) (gq : Rho → R (List PD)) : Rho → R Tv := fun ρ => (gq ρ).bind fun ds => if ds.length = n then (f ds).toM else .bad
theorem tm_call (h : TDa K W tq gq) : TDm K W [] (tCallS (spD K n f) (WE W) tq) (mCall n f gq) := fun F0 H0 F H σ ρ φ Q S q =>
  h F0 H0 F H σ ρ _ ⟨φ, S⟩ (q.then fun ds F1 H1 e1 k1 us rs => by
    by_cases hn : ds.length = n
    · rw [if_pos hn] at k1
      refine ⟨by rw [rs.length]; exact hn, F1, ds, e1.g, rs, ?_⟩
      cases e : f ds with
      | rt s =>
        rw [e] at k1
        cases s with
        | d x => exact fun v F' H' ex r => (k1 F' H' ex) v [] (.fr r) List.nodup_nil fun p hp => by cases hp
        | t x => exact fun v fp F' H' ex tv nd hp => (k1 F' H' ex) v fp tv nd fun p h => ⟨(hp p h).2, .inl (e1.h.free (hp p h).1)⟩
        | l x => exact k1.elim
      | exc c => rw [e] at k1; exact fun cls d F' H' ex r => k1 cls d F' H' ex r
      | bad => rw [e] at k1; exact k1.elim
    · rw [if_neg hn] at k1
      exact k1.elim)

/-! ### statements with trees -/
variable {te : TE}
def sRetM (gm : Rho → R Tv) : Rho → SR := fun ρ => SR.of (gm ρ) fun x => .rt (.t x)
theorem ds_retM (h : TDm K W vs te gm) : TDS K W (tRet te) (sRetM gm) := fun F0 H0 F H σ ρ D S q => by
  obtain ⟨φ, S⟩ := S
  refine h F0 H0 F H σ ρ φ _ S (q.of S.ext fun x F1 H1 e k v fp tv nd hp => k v fp F1 H1 (S.ext.trans e) tv nd fun p h => ⟨?_, (hp p h).1⟩)
  rcases (hp p h).2 with z | ⟨i, _, z⟩
  · exact S.ext.h.free z
  · exact (S.fre i p z).1
/-- slots are given away -/
def killD (ρ : Rho) : List Nat → Rho
  | [] => ρ
  | i :: is => killD (ρ.set i none) is
def phis (φ : Nat → List Addr) (is : List Nat) : Nat → List Addr := fun j => if j ∈ is then [] else φ j
theorem StF.drop {F0 H0 F H : Hp} {σ : L2.St} {φ : Nat → List Addr} : ∀ {is : List Nat} {ρ : Rho}, StF K F0 H0 F H σ ρ φ → StF K F0 H0 F H σ (killD ρ is) (phis φ is) := by
  have kill1 : ∀ {ρ : Rho} {ψ : Nat → List Addr} (i : Nat), StF K F0 H0 F H σ ρ ψ → StF K F0 H0 F H σ (ρ.set i none) (phi ψ i []) := by
    intro ρ ψ i S
    have ej : ∀ {j p}, p ∈ phi ψ i [] j → j ≠ i ∧ p ∈ ψ j := fun {j p} h => by
      by_cases c : j = i
      · subst c; rw [phi_same] at h; cases h
      · rw [phi_ne c] at h; exact ⟨c, h⟩
    refine ⟨S.ext, by simpa using S.len, fun j y e => ?_, fun j y e => ?_, fun j p hp => S.fre j p (ej hp).2, fun j => ?_, fun j k p hj hk => S.dis j k p (ej hj).2 (ej hk).2, fun j y e => ?_⟩
    · rcases get_set e with ⟨_, _, q⟩ | ⟨_, q⟩
      · cases q
      · exact S.dat j y q
    · rcases get_set e with ⟨_, _, q⟩ | ⟨hn, q⟩
      · cases q
      · rw [phi_ne (Ne.symm hn)]; exact S.tre j y q
    · by_cases c : j = i
      · subst c; rw [phi_same]; exact List.nodup_nil
      · rw [phi_ne c]; exact S.nod j
    · rcases get_set e with ⟨_, _, q⟩ | ⟨_, q⟩
      · cases q
      · exact S.lck j y q
  have all : ∀ {is : List Nat} {ρ : Rho} {ψ : Nat → List Addr}, StF K F0 H0 F H σ ρ ψ → StF K F0 H0 F H σ (killD ρ is) (phis ψ is) := by
    intro is
    induction is with
    | nil =>
      intro ρ ψ S
      have : phis ψ [] = ψ := funext fun j => if_neg (by simp)
      rw [this]; exact S
    | cons i is ih =>
      intro ρ ψ S
      have : phis ψ (i :: is) = phis (phi ψ i []) is := funext fun j => by
        unfold phis phi
        by_cases c : j = i
        · subst c; simp
        · by_cases c2 : j ∈ is <;> simp [c, c2]
      rw [this]
      exact ih (kill1 i S)
  intro is ρ S
  exact all S
theorem phis_mem {φ : Nat → List Addr} {is : List Nat} {j : Nat} {p : Addr} (h : p ∈ phis φ is j) : j ∉ is ∧ p ∈ φ j := by
  unfold phis at h
  split at h
  · cases h
  · rename_i c; exact ⟨c, h⟩
def slOf : Tv → Sl
  | .fr d => .d d
  | x => .t x
/-- a slot gets a tree whose parts are free -/
theorem StF.putT {F0 H0 F H : Hp} {σ : L2.St} {ρ : Rho} {φ : Nat → List Addr} (S : StF K F0 H0 F H σ ρ φ) {i : Nat} {v : V} {x : Tv} {fp : List Addr} (tv : TvAt K F H fp v x) (nd : fp.Nodup)
    (hp : ∀ p ∈ fp, H0 p = none ∧ F p = none) (hx : ∀ (j : Nat) (p : Addr), j ≠ i → p ∈ φ j → p ∉ fp) : StF K F0 H0 F H (σ.set i (some v)) (ρ.set i (some (slOf x))) (phi φ i fp) := by
  refine S.put (fun y e => ?_) (fun y e => ?_) (fun y e => ?_) (fun p h => ⟨(hp p h).1, (hp p h).2, tv.nt p h⟩) nd hx
  · cases x with
    | fr d => cases e; cases tv with | fr r => exact ⟨v, rfl, r⟩
    | _ => cases e
  · cases x with
    | fr d => cases e
    | _ => cases e; exact ⟨v, rfl, tv⟩
  · cases x <;> cases e
def sSetM (i : Nat) (vs : List Nat) (gm : Rho → R Tv) : Rho → SR := fun ρ => SR.of (gm ρ) fun x => .nx ((killD ρ vs).set i (some (slOf x)))
theorem ds_setM (i : Nat) (h : TDm K W vs te gm) : TDS K W (tAsg te (gName i)) (sSetM i vs gm) := fun F0 H0 F H σ ρ D S q => by
  obtain ⟨φ, S⟩ := S
  refine h F0 H0 F H σ ρ φ _ S (q.of S.ext fun x F1 H1 e k v fp tv nd hp => ?_)
  have S1 := (S.go e).drop (is := vs)
  refine k _ F1 H1 ⟨_, S1.putT tv nd (fun p h => ⟨?_, (hp p h).1⟩) fun j p hj h1 h2 => ?_⟩
  · rcases (hp p h).2 with z | ⟨i, _, z⟩
    · exact S.ext.h.free z
    · exact (S.fre i p z).1
  · obtain ⟨n1, n2⟩ := phis_mem h1
    rcases (hp p h2).2 with z | ⟨i', hi, z⟩
    · obtain ⟨_, _, o, y, _⟩ := S.fre j p n2
      rw [z] at y; cases y
    · have := S.dis i' j p z n2
      subst this
      exact n1 hi
/-- a, b, .. = a tree -/
def putsM : List Nat → Rho → List Tv → R Rho
  | [], ρ, [] => .ok ρ
  | i :: is, ρ, x :: xs => putsM is (ρ.set i (some (slOf x))) xs
  | _, _, _ => .bad
def gNames : List Nat → TGs
  | [] => gNil
  | i :: is => gCons (gName i) (gNames is)
theorem puts_ok {F0 H0 F H : Hp} {Q : L2.St → Hp → Prop} : ∀ {is : List Nat} {σ : L2.St} {ρ ρ' : Rho} {φ : Nat → List Addr} {us : List V} {xs : List Tv} {fp : List Addr}, StF K F0 H0 F H σ ρ φ → TvAll K F H fp us xs → fp.Nodup → (∀ p ∈ fp, H0 p = none ∧ F p = none) → (∀ (j : Nat) (p : Addr), p ∈ φ j → p ∉ fp) →
    putsM is ρ xs = .ok ρ' → (∀ σ', StR K F0 H0 F H σ' ρ' → Q σ' H) → gNames is us σ H Q := by
  intro is
  induction is with
  | nil =>
    intro σ ρ ρ' φ us xs fp S tl _ _ _ e k
    cases tl with
    | nil => cases e; exact ⟨rfl, k σ ⟨φ, S⟩⟩
    | cons _ _ => cases e
  | cons i is ih =>
    intro σ ρ ρ' φ us xs fp S tl nd hp hx e k
    cases tl with
    | nil => cases e
    | cons tv tl =>
      rename_i fp fq u x us xs
      obtain ⟨nd1, nd2, nd3⟩ := List.nodup_append.mp nd
      have S1 := S.putT (i := i) tv nd1 (fun p h => hp p (List.mem_append_left _ h)) fun j p _ h1 h2 => hx j p h1 (List.mem_append_left _ h2)
      refine ⟨u, us, rfl, ?_⟩
      refine ih S1 tl nd2 (fun p h => hp p (List.mem_append_right _ h)) (fun j p hj hq => ?_) e k
      by_cases c : j = i
      · subst c
        rw [phi_same] at hj
        exact nd3 p hj p hq rfl
      · rw [phi_ne c] at hj
        exact hx j p hj (List.mem_append_right _ hq)
def unpM (is : List Nat) (ρ : Rho) : Tv → SR
  | .tup ts => SR.ofT (putsM is ρ ts)
  | .fr (.tuple ds) => SR.ofT (putsM is ρ (ds.map Tv.fr))
  | _ => .bad
def sUnpM (is vs : List Nat) (gm : Rho → R Tv) : Rho → SR := fun ρ => SR.of (gm ρ) fun x => unpM is (killD ρ (vs ++ is)) x
theorem dp_frs {F H : Hp} : ∀ {us : List V} {ds : List PD}, DpAll K F us ds → TvAll K F H [] us (ds.map Tv.fr)
  | _, _, .nil => .nil
  | _, _, .cons h t => .cons (.fr h) (dp_frs t)
theorem putsM_x : ∀ {is : List Nat} {ρ : Rho} {xs : List Tv} {c : Ec}, putsM is ρ xs ≠ .exc c
  | [], _, [], _, h => by cases h
  | [], _, _ :: _, _, h => by cases h
  | _ :: _, _, [], _, h => by cases h
  | _ :: is, ρ, x :: xs, c, h => putsM_x (is := is) h
theorem ds_unpM (is : List Nat) (h : TDm K W vs te gm) (hn : 0 < is.length := by decide) : TDS K W (tAsg te (gTup K is.length (gNames is))) (sUnpM is vs gm) := fun F0 H0 F H σ ρ D S q => by
  obtain ⟨φ, S⟩ := S
  refine h F0 H0 F H σ ρ φ _ S (q.of S.ext fun x F1 H1 e k v fp tv nd hp => ?_)
  have S1 := (S.go e).drop (is := vs ++ is)
  have free : ∀ p ∈ fp, H0 p = none ∧ F1 p = none := fun p h => by
    refine ⟨?_, (hp p h).1⟩
    rcases (hp p h).2 with z | ⟨i, _, z⟩
    · exact S.ext.h.free z
    · exact (S.fre i p z).1
  have apart : ∀ (j : Nat) (p : Addr), p ∈ phis φ (vs ++ is) j → p ∉ fp := fun j p h1 h2 => by
    obtain ⟨n1, n2⟩ := phis_mem h1
    rcases (hp p h2).2 with z | ⟨i', hi, z⟩
    · obtain ⟨_, _, o, y, _⟩ := S.fre j p n2
      rw [z] at y; cases y
    · have := S.dis i' j p z n2
      subst this
      exact n1 (List.mem_append_left _ hi)
  replace k : FinS K W F0 H0 D (unpM is (killD ρ (vs ++ is)) x) := k
  have len : ∀ {ts : List Tv} {ρ ρ' : Rho} {is : List Nat}, putsM is ρ ts = .ok ρ' → ts.length = is.length := by
    intro ts
    induction ts with
    | nil => intro ρ ρ' is h; cases is with | nil => rfl | cons i is => cases h
    | cons t ts ih => intro ρ ρ' is h; cases is with | nil => cases h | cons i is => rw [List.length_cons, List.length_cons, ih h]
  cases tv with
  | tup s tl =>
    rename_i p us ts
    replace k : FinS K W F0 H0 D (SR.ofT (putsM is (killD ρ (vs ++ is)) ts)) := k
    cases ep : putsM is (killD ρ (vs ++ is)) ts with
    | ok ρ' =>
      rw [ep] at k
      exact ⟨p, us, rfl, SqT.of s, by rw [tl.length, len ep], puts_ok S1 tl nd free apart ep fun σ' S' => k σ' F1 H1 S'⟩
    | exc c => rw [ep] at k; exact k.elim
    | bad => rw [ep] at k; exact k.elim
  | fr r =>
    cases r with
    | tup s al =>
      rename_i p us ds
      replace k : FinS K W F0 H0 D (SR.ofT (putsM is (killD ρ (vs ++ is)) (ds.map Tv.fr))) := k
      cases ep : putsM is (killD ρ (vs ++ is)) (ds.map Tv.fr) with
      | ok ρ' =>
        rw [ep] at k
        have tl := dp_frs (H := H1) al
        exact ⟨p, us, rfl, SqT.of (e.g _ _ s), by rw [tl.length, len ep], puts_ok S1 tl nd free apart ep fun σ' S' => k σ' F1 H1 S'⟩
      | exc c => rw [ep] at k; exact k.elim
      | bad => rw [ep] at k; exact k.elim
    | _ => exact k.elim
  | _ => exact k.elim
end
end DL
/-! Reading what is there now; calls that only read; dicts with tuples as keys. -/
namespace DL
open PySem PySem.Spec PyProof.Rows L2
section
variable {K : PySem.W.Frag} {W : WX}
def HdQ (K : PySem.W.Frag) (Q : VK) : PD → Hp → Hp → Prop := fun x _ H' => ∀ v, Dp K H' v x → Q v H'
/-- data as the heap has it now -/
def TDh (K : PySem.W.Frag) (W : WX) (t : TE) (g : Rho → R PD) : Prop := ∀ (F0 H0 F H : Hp) (σ : L2.St) (ρ : Rho) (Q : VK), StR K F0 H0 F H σ ρ → Fin K W σ F H (g ρ) (HdQ K Q) → t σ H Q
def TDhq (K : PySem.W.Frag) (W : WX) (t : TA) (g : Rho → R (List PD)) : Prop := ∀ (F0 H0 F H : Hp) (σ : L2.St) (ρ : Rho) (Q : List V → Hp → Prop), StR K F0 H0 F H σ ρ → Fin K W σ F H (g ρ) (fun xs _ H' => ∀ vs, DpAll K H' vs xs → Q vs H') → t σ H Q
variable {t ta tb tc : TE} {g ga gb gc : Rho → R PD} {tt : TT} {tr tq : TA} {gr gq : Rho → R (List PD)} {r r' : R2} {f f' : PD → PD → R PD}
theorem TDe.h (h : TDe K W t g) : TDh K W t g := fun F0 H0 F H σ ρ Q S q => h F0 H0 F H σ ρ Q S (q.imp fun x F' H' e k v r => k v (r.mono e.g))
def noDic : PD → R PD
  | .dict _ => .bad
  | x => .ok x
theorem noDic_ok {x y : PD} (h : noDic x = .ok y) : y = x ∧ ∀ kvs, x ≠ .dict kvs := by
  cases x with
  | dict _ => cases h
  | _ => cases h; exact ⟨rfl, fun kvs z => nomatch z⟩
theorem noDic_x (x : PD) (c : Ec) : noDic x ≠ .exc c := by cases x <;> exact fun z => by cases z
def hR (g : Rho → R PD) : Rho → R PD := fun ρ => (g ρ).bind noDic
theorem TDr.h (h : TDr K W t g) : TDh K W t (hR g) := fun F0 H0 F H σ ρ Q S q => h F0 H0 F H σ ρ Q S (q.then fun x F' H' e k v r => by
  cases en : noDic x with
  | ok y =>
    rw [en] at k
    obtain ⟨rfl, nd⟩ := noDic_ok en
    exact (Fin.okk (x := y) K W σ e.g k) v (r.dp e.g nd)
  | exc c => exact absurd en (noDic_x x c)
  | bad => rw [en] at k; exact k.elim)
def hVar (i : Nat) : Rho → R PD := fun ρ => match ρ[i]? with
  | some (some (.d x)) => .ok x
  | some (some (.t x)) => x.toD
  | _ => .bad
theorem th_var (i : Nat) : TDh K W (tVar i) (hVar i) := fun F0 H0 F H σ ρ Q S q => by
  unfold hVar at q
  split at q
  · rename_i x e
    obtain ⟨v, a, b⟩ := S.dat i x e
    exact ⟨v, a, q.ok S.same v (b.mono S.same)⟩
  · rename_i x e
    obtain ⟨φ, S⟩ := S
    obtain ⟨v, a, b⟩ := S.tre i x e
    cases ed : x.toD with
    | ok d =>
      rw [ed] at q
      exact ⟨v, a, q.ok S.same v ((b.frz S.same ed).mono (frz_g S.same))⟩
    | exc c => exact absurd ed (toD_x x c)
    | bad => rw [ed] at q; exact q.elim
  · exact q.elim
theorem Fin.toH {σ : L2.St} {F H : Hp} {r : R PD} {Q : VK} (s : Same F H) (k : Fin K W σ F H r (HdQ K Q)) : Fin K W σ H H r (DpQ K Q) := by
  cases r with
  | ok x => exact fun F' H' e v r => k F H' (Ext.heap s e.h) v (r.mono e.g)
  | exc c => exact fun cls d F' H' e q => k cls d F H' (Ext.heap s e.h) q
  | bad => exact k
theorem DpAll.rp {F H : Hp} : ∀ {vs : List V} {ds : List PD}, DpAll K F vs ds → RpAll K F H vs ds
  | _, _, .nil => .nil
  | _, _, .cons a t => .cons (.inl a) (DpAll.rp t)
theorem th_op (hr : RD K r f) (ha : TDh K W ta ga) (hb : TDh K W tb gb) : TDh K W (tOp r ta tb) (eOp f ga gb) := fun F0 H0 F H σ ρ Q S q =>
  ha F0 H0 F H σ ρ _ S (q.then fun a F1 H1 e1 k1 v rv => hb F0 H0 F1 H1 σ ρ _ (S.go e1) (k1.then fun b F2 H2 e2 k2 u ru =>
    hr W σ H2 H2 v u a b Q (Same.refl H2) (.inl (rv.mono e2.h)) (.inl ru) (k2.toH e2.g)))
theorem th_cb {rc : List V → Hp → VK → Prop} {fc : List PD → R PD} (hr : RC K rc fc) (h : TDhq K W tq gq) : TDh K W (tCB rc tq) (eCB fc gq) := fun F0 H0 F H σ ρ Q S q =>
  h F0 H0 F H σ ρ _ S (q.then fun ds F1 H1 e1 k1 vs rs => hr W σ H1 H1 vs ds Q (Same.refl H1) rs.rp (k1.toH e1.g))
def immO (d : PD) : R PD := if immD d = true then .ok d else .bad
def eImm (g : Rho → R PD) : Rho → R PD := fun ρ => (g ρ).bind immO
theorem TDh.e (h : TDh K W t g) : TDe K W t (eImm g) := fun F0 H0 F H σ ρ Q S q => h F0 H0 F H σ ρ Q S (q.then fun x F' H' e k v r => by
  have k : Fin K W σ F' H' (if immD x = true then .ok x else .bad) (DpQ K Q) := k
  by_cases hx : immD x = true
  · rw [if_pos hx] at k
    exact k _ _ (Ext.tups e.g (Same.refl H')) v (r.imm (Same.refl H') hx)
  · rw [if_neg hx] at k
    exact k.elim)
theorem thq_nil : TDhq K W tNil aNil := fun F0 H0 F H σ ρ Q S q => q.ok S.same _ .nil
theorem thq_cons (ha : TDh K W ta ga) (hr : TDhq K W tr gr) : TDhq K W (tCons ta tr) (aCons ga gr) := fun F0 H0 F H σ ρ Q S q =>
  ha F0 H0 F H σ ρ _ S (q.then fun a F1 H1 e1 k1 v rv => hr F0 H0 F1 H1 σ ρ _ (S.go e1) (k1.then fun l F2 H2 e2 k2 vs rs => k2.ok e2.g _ (.cons (rv.mono e2.h) rs)))
theorem th_tup (hr : TDhq K W tr gr) : TDh K W (tTup tr) (eTup gr) := fun F0 H0 F H σ ρ Q S q =>
  hr F0 H0 F H σ ρ _ S (q.then fun l F1 H1 e1 k1 vs rs => by
    by_cases hl : l.length ≤ sizeLine
    · rw [if_pos hl] at k1
      refine ⟨by rw [rs.length]; exact hl, fun p hp => ?_⟩
      have e2 := Ext.own (o := .tup vs) e1.g hp
      exact k1 _ _ e2 _ (.tup upd_same (rs.mono e2.h))
    · rw [if_neg hl] at k1
      exact k1.elim)
theorem asB_h {Q : Bool → Hp → Prop} {F1 H1 : Hp} {σ : L2.St} {a : PD} {v : V} (s : Same F1 H1) (r : Dp K H1 v a) (k : Fin K W σ F1 H1 (asB a) (BoQ Q)) : ∃ c, v = .bl c ∧ Q c H1 := by
  cases a with
  | bool b => cases r; exact ⟨b, rfl, k.ok s⟩
  | _ => exact k.elim
theorem tt_testh (h : TDh K W t g) : TDt K W (tTest t) (bOf g) := fun F0 H0 F H σ ρ Q S q =>
  h F0 H0 F H σ ρ _ S (q.then fun a F1 H1 e1 k1 v rv => asB_h e1.g rv k1)
theorem tt_Bh (h : TDh K W t g) : TDt K W (tB t) (bOf g) := fun F0 H0 F H σ ρ Q S q =>
  h F0 H0 F H σ ρ _ S (q.then fun a F1 H1 e1 k1 v rv => asB_h e1.g rv k1)
theorem th_isi {T : String} (h : TDh K W t g) : TDe K W (tCB (rIsi K) (tCons t (tCons (tC (.ty T)) tNil))) (eIsi T g) := fun F0 H0 F H σ ρ Q S q =>
  h F0 H0 F H σ ρ _ S (q.then fun a F1 H1 e1 k1 v rv => by
    unfold isiD at k1
    split at k1
    · rename_i b e
      unfold isiB at e
      cases en : tyName a with
      | none => rw [en] at e; cases e
      | some n =>
        rw [en] at e
        exact ⟨v, .ty T, .type n, .type T, b, rfl, .ty T, tyX_of (Same.refl H1) (.inl rv) en, kit_ty e, k1.ok e1.g _ (.bl b)⟩
    · exact k1.elim)

/-! ### calls that only read -/
variable {n : Nat} {fd : List PD → FR}
def eCallH (n : Nat) (f : List PD → FR) (gq : Rho → R (List PD)) : Rho → R PD := fun ρ => (gq ρ).bind fun ds => if ds.length = n then (f ds).toE.bind immO else .bad
def immT (x : Tv) : R Tv := if x.imm = true then .ok x else .bad
def mCallH (n : Nat) (f : List PD → FR) (gq : Rho → R (List PD)) : Rho → R Tv := fun ρ => (gq ρ).bind fun ds => if ds.length = n then (f ds).toM.bind immT else .bad
def immW (x : PD) : R PD := if (Tv.own x).imm = true then .ok x else .bad
def oCallH (n : Nat) (f : List PD → FR) (gq : Rho → R (List PD)) : Rho → R PD := fun ρ => (gq ρ).bind fun ds => if ds.length = n then (f ds).toO.bind immW else .bad
theorem td_callH (h : TDhq K W tq gq) : TDe K W (tCallS (spD K n fd) (WE W) tq) (eCallH n fd gq) := fun F0 H0 F H σ ρ Q S q =>
  h F0 H0 F H σ ρ _ S (q.then fun ds F1 H1 e1 k1 vs rs => by
    by_cases hn : ds.length = n
    · rw [if_pos hn] at k1
      refine ⟨by rw [rs.length]; exact hn, H1, ds, Same.refl H1, rs, ?_⟩
      have fin : ∀ (d : PD) (F' H' : Hp) (v : V), Ext H1 H1 F' H' → Dp K F' v d → Fin K W σ F1 H1 (immO d) (DpQ K Q) → Q v H' := fun d F' H' v ex r k => by
        have k : Fin K W σ F1 H1 (if immD d = true then .ok d else .bad) (DpQ K Q) := k
        by_cases hx : immD d = true
        · rw [if_pos hx] at k
          exact k _ _ (Ext.tups e1.g ex.h) v (r.imm ex.g hx)
        · rw [if_neg hx] at k
          exact k.elim
      cases e : fd ds with
      | rt s =>
        rw [e] at k1
        cases s with
        | d x => exact fun v F' H' ex r => fin x F' H' v ex r k1
        | t x =>
          intro v fp F' H' ex tv nd hp
          have k1 : Fin K W σ F1 H1 (x.toD.bind immO) (DpQ K Q) := k1
          cases e2 : x.toD with
          | ok d =>
            rw [e2] at k1
            obtain ⟨F'', ex2, r⟩ := own_frz ex tv hp e2
            exact fin d F'' H' v ex2 r k1
          | exc c => exact absurd e2 (toD_x x c)
          | bad => rw [e2] at k1; exact k1.elim
        | l x => exact k1.elim
      | exc c => rw [e] at k1; exact fun cls d F' H' ex r => k1 cls d F1 H' (Ext.heap e1.g ex.h) r
      | bad => rw [e] at k1; exact k1.elim
    · rw [if_neg hn] at k1
      exact k1.elim)
theorem tm_callH (h : TDhq K W tq gq) : TDm K W [] (tCallS (spD K n fd) (WE W) tq) (mCallH n fd gq) := fun F0 H0 F H σ ρ φ Q S q =>
  h F0 H0 F H σ ρ _ ⟨φ, S⟩ (q.then fun ds F1 H1 e1 k1 vs rs => by
    by_cases hn : ds.length = n
    · rw [if_pos hn] at k1
      refine ⟨by rw [rs.length]; exact hn, H1, ds, Same.refl H1, rs, ?_⟩
      have fin : ∀ (x : Tv) (F' H' : Hp) (v : V) (fp : List Addr), Ext H1 H1 F' H' → TvAt K F' H' fp v x → fp.Nodup → (∀ p ∈ fp, H1 p = none ∧ F' p = none) → Fin K W σ F1 H1 (immT x) (MvQ K H φ [] Q) → Q v H' := fun x F' H' v fp ex r nd hp k => by
        have k : Fin K W σ F1 H1 (if x.imm = true then .ok x else .bad) (MvQ K H φ [] Q) := k
        by_cases hx : x.imm = true
        · rw [if_pos hx] at k
          refine k _ _ (Ext.tups e1.g ex.h) v fp (r.imm ex.g hx) nd fun p h => ⟨?_, .inl (e1.h.free (hp p h).1)⟩
          obtain ⟨o, ho, nt⟩ := r.nt p h
          exact frz_none (e1.g.free (hp p h).1) ho nt
        · rw [if_neg hx] at k
          exact k.elim
      cases e : fd ds with
      | rt s =>
        rw [e] at k1
        cases s with
        | d x => exact fun v F' H' ex r => fin (.fr x) F' H' v [] ex (.fr r) List.nodup_nil (fun p hp => by cases hp) k1
        | t x => exact fun v fp F' H' ex tv nd hp => fin x F' H' v fp ex tv nd hp k1
        | l x => exact k1.elim
      | exc c => rw [e] at k1; exact fun cls d F' H' ex r => k1 cls d F1 H' (Ext.heap e1.g ex.h) r
      | bad => rw [e] at k1; exact k1.elim
    · rw [if_neg hn] at k1
      exact k1.elim)
theorem to_callH (h : TDhq K W tq gq) : TDo K W (tCallS (spD K n fd) (WE W) tq) (oCallH n fd gq) := fun F0 H0 F H σ ρ Q S q => by
  obtain ⟨φ, S⟩ := S
  refine tm_callH h F0 H0 F H σ ρ φ Q S ?_
  unfold oCallH at q
  unfold mCallH
  cases eg : gq ρ with
  | exc c => rw [eg] at q; exact q
  | bad => rw [eg] at q; exact q
  | ok ds =>
    rw [eg] at q
    replace q : Fin K W σ F H (if ds.length = n then (fd ds).toO.bind immW else .bad) (OwQ K H Q) := q
    show Fin K W σ F H (if ds.length = n then (fd ds).toM.bind immT else .bad) (MvQ K H φ [] Q)
    by_cases hn : ds.length = n
    · rw [if_pos hn] at q ⊢
      cases e : fd ds with
      | exc c => rw [e] at q; exact q
      | bad => rw [e] at q; exact q
      | rt s =>
        rw [e] at q
        cases s with
        | d x => exact q.elim
        | l x => exact q.elim
        | t x =>
          cases x with
          | own x =>
            replace q : Fin K W σ F H (if (Tv.own x).imm = true then .ok x else .bad) (OwQ K H Q) := q
            show Fin K W σ F H (if (Tv.own x).imm = true then .ok (Tv.own x) else .bad) (MvQ K H φ [] Q)
            by_cases hx : (Tv.own x).imm = true
            · rw [if_pos hx] at q ⊢
              intro F' H' ex v fp tv nd hp
              cases tv with
              | own ho =>
                obtain ⟨h1, h2⟩ := hp _ (List.mem_singleton.mpr rfl)
                rcases h2 with h2 | ⟨i, hi, _⟩
                · exact q F' H' ex _ h2 h1 ho
                · cases hi
            · rw [if_neg hx] at q; exact q.elim
          | _ => exact q.elim
    · rw [if_neg hn] at q; exact q.elim
/-- data as it is: h-mode where e-mode is given -/
theorem TDo.h (h : TDo K W t g) : TDh K W t (eFz g) := h.e.h
/-- slots' readings are forgotten -/
def sKill (is : List Nat) : Rho → SR := fun ρ => .nx (is.foldl (fun ρ i => ρ.set i none) ρ)
def killS (is : List Nat) (s : Rho → SR) : Rho → SR := fun ρ => match s ρ with
  | .nx ρ1 => .nx (is.foldl (fun ρ i => ρ.set i none) ρ1)
  | .ct ρ1 => .ct (is.foldl (fun ρ i => ρ.set i none) ρ1)
  | .bk ρ1 => .bk (is.foldl (fun ρ i => ρ.set i none) ρ1)
  | x => x
theorem StR.kills {F0 H0 F H : Hp} {σ : L2.St} : ∀ {is : List Nat} {ρ : Rho}, StR K F0 H0 F H σ ρ → StR K F0 H0 F H σ (is.foldl (fun ρ i => ρ.set i none) ρ)
  | [], _, S => S
  | i :: is, ρ, S => StR.kills (is := is) (S.kill i)
theorem ds_kill {ts : TS} {s : Rho → SR} (is : List Nat) (h : TDS K W ts s) : TDS K W ts (killS is s) := fun F0 H0 F H σ ρ D S q => by
  refine h F0 H0 F H σ ρ D S ?_
  unfold killS at q
  cases e : s ρ with
  | nx ρ1 => rw [e] at q; exact fun σ1 F1 H1 S1 => q σ1 F1 H1 S1.kills
  | ct ρ1 => rw [e] at q; exact fun σ1 F1 H1 S1 => q σ1 F1 H1 S1.kills
  | bk ρ1 => rw [e] at q; exact fun σ1 F1 H1 S1 => q σ1 F1 H1 S1.kills
  | rt x => rw [e] at q; exact q
  | exc c => rw [e] at q; exact q
  | bad => rw [e] at q; exact q
end
end DL
/-! Dicts with tuples as keys; get with a default. -/
namespace DL
open PySem PySem.Spec PyProof.Rows L2
section
def keysOf : List PD → Option (List Key)
  | [] => some []
  | d :: ds => match keyOf d, keysOf ds with
    | some k, some ks => some (k :: ks)
    | _, _ => none
def keyT? : PD → Option (List Key)
  | .tuple ds => keysOf ds
  | _ => none
def valT {β : Type} : List (List Key × β) → List Key → Option β
  | [], _ => none
  | p :: r, k => if p.1 = k then some p.2 else valT r k
def putT (kvs : List (List Key × PD)) (k : List Key) (d : PD) : List (List Key × PD) :=
  if (valT kvs k).isSome = true then kvs.map (fun p => if p.1 = k then (p.1, d) else p) else kvs ++ [(k, d)]
variable {K : PySem.W.Frag} {W : WX} {F0 H0 F H : Hp} {σ : L2.St} {ρ : Rho} {ty tv tx : TE} {g gk gv gx : Rho → R PD}
theorem keys_dp : ∀ {ds : List PD} {ks : List Key} {vs : List V}, DpAll K H vs ds → keysOf ds = some ks → vs = ks.map kV
  | [], ks, _, .nil, h => by cases h; rfl
  | d :: ds, ks, _, .cons r rs, h => by
    unfold keysOf at h
    split at h
    · rename_i k ks' e1 e2
      cases h
      rw [keyD_of e1] at r
      rw [key_rp (H := H) (.inl r), keys_dp rs e2]
      rfl
    · cases h
theorem key_t {v : V} {d : PD} {ks : List Key} (r : Dp K H v d) (h : keyT? d = some ks) : ∃ b, v = .ref b ∧ H b = some (.tup (ks.map kV)) := by
  cases r with
  | tup s al => exact ⟨_, rfl, by rw [s, keys_dp al h]⟩
  | _ => cases h
theorem valV_eq {β : Type} (kvs : List (List Key × V)) (k : List Key) : valV kvs k = valT kvs k := by
  induction kvs with
  | nil => rfl
  | cons p r ih =>
    unfold valT
    by_cases e : p.1 = k
    · rw [if_pos e, valV_pos e]
    · rw [if_neg e, valV_neg e, ih]
theorem KvT.len {es : List (List Key × V)} {kvs : List (List Key × PD)} (r : KvT K F es kvs) : es.length = kvs.length := Paired.length r
theorem KvT.val {es : List (List Key × V)} {kvs : List (List Key × PD)} (r : KvT K F es kvs) (k : List Key) : (valT kvs k = none ∧ valV es k = none) ∨ ∃ d v, valT kvs k = some d ∧ valV es k = some v ∧ Dp K F v d := by
  unfold KvT at r
  induction r with
  | nil => exact .inl ⟨rfl, rfl⟩
  | cons a _ ih =>
    rename_i p q es kvs _
    unfold valT
    by_cases e : q.1 = k
    · rw [if_pos e, valV_pos (a.1.trans e)]
      exact .inr ⟨_, _, rfl, rfl, a.2⟩
    · rw [if_neg e, valV_neg (fun z => e (a.1.symm.trans z))]
      exact ih
theorem KvT.put {es : List (List Key × V)} {kvs : List (List Key × PD)} (r : KvT K F es kvs) (k : List Key) {v : V} {d : PD} (h : Dp K F v d) : KvT K F (putK es k v) (putT kvs k d) := by
  have e : (es.any fun kv => decide (kv.1 = k)) = (valT kvs k).isSome := by
    rw [valV_any]
    rcases r.val k with ⟨a, b⟩ | ⟨_, _, a, b, _⟩
    · rw [a, b]; rfl
    · rw [a, b]; rfl
  unfold putK putT
  rw [e]
  split
  · rename_i c
    unfold KvT at r ⊢
    clear e c
    induction r with
    | nil => exact .nil
    | cons a _ ih =>
      rename_i p q es kvs _
      refine .cons ?_ ih
      show (if p.1 = k then (p.1, v) else p).1 = (if q.1 = k then (q.1, d) else q).1 ∧ Dp K F (if p.1 = k then (p.1, v) else p).2 (if q.1 = k then (q.1, d) else q).2
      by_cases e : q.1 = k
      · rw [if_pos e, if_pos (a.1.trans e)]; exact ⟨a.1, h⟩
      · rw [if_neg e, if_neg (fun z => e (a.1.symm.trans z))]; exact a
  · rename_i c
    unfold KvT at r ⊢
    clear e c
    induction r with
    | nil => exact .cons ⟨rfl, h⟩ .nil
    | cons a _ ih => exact .cons a ih
def tAt (ρ : Rho) (i : Nat) : R (List (List Key × PD)) := match ρ[i]? with
  | some (some (.t (.dT kvs))) => .ok kvs
  | _ => .bad
theorem tAt_x (ρ : Rho) (i : Nat) : (∃ kvs, tAt ρ i = .ok kvs) ∨ tAt ρ i = .bad := by
  unfold tAt
  split
  · exact .inl ⟨_, rfl⟩
  · exact .inr rfl
theorem tAt_ok (S : StR K F0 H0 F H σ ρ) {i : Nat} {kvs : List (List Key × PD)} (h : tAt ρ i = .ok kvs) : ρ[i]? = some (some (.t (.dT kvs))) ∧ ∃ p es, σ[i]? = some (some (.ref p)) ∧ H p = some (.dT es) ∧ KvT K F es kvs := by
  unfold tAt at h
  split at h
  · rename_i e
    cases h
    obtain ⟨φ, S⟩ := S
    obtain ⟨v, a, b⟩ := S.tre i _ e
    generalize φ i = fp at b
    cases b with
    | dT b c => exact ⟨e, _, _, a, b, c⟩
  · cases h
def getT (kvs : List (List Key × PD)) (y : PD) : R PD := match keyT? y with
  | some k => (match valT kvs k with
    | some d => .ok d
    | none => .bad)
  | none => .bad
def eDgetT (i : Nat) (g : Rho → R PD) : Rho → R PD := fun ρ => (tAt ρ i).bind fun kvs => (g ρ).bind fun y => getT kvs y
theorem td_dgetT (i : Nat) (h : TDh K W ty g) : TDe K W (tDGet (tVar i) ty) (eDgetT i g) := fun F0 H0 F H σ ρ Q S q => by
  unfold eDgetT at q
  rcases tAt_x ρ i with ⟨kvs, e⟩ | e
  · rw [e] at q
    obtain ⟨_, p, es, hs, rd, r⟩ := tAt_ok S e
    have q : Fin K W σ F H ((g ρ).bind fun y => getT kvs y) (DpQ K Q) := q
    refine ⟨.ref p, hs, h F0 H0 F H σ ρ _ S (q.then fun y F1 H1 e1 k1 v rv => ?_)⟩
    unfold getT at k1
    split at k1
    · rename_i k ek
      obtain ⟨b, rfl, hb⟩ := key_t rv ek
      rcases r.val k with ⟨z, _⟩ | ⟨d, u, z1, z2, z3⟩
      · rw [z] at k1; exact k1.elim
      · rw [z1] at k1
        exact ⟨p, u, rfl, .inr ⟨es, k, b, .inl (e1.h _ _ rd), rfl, hb, z2.symm⟩, Fin.okk K W σ e1.g k1 _ (z3.mono e1.f)⟩
    · exact k1.elim
  · rw [e] at q; exact q.elim
def hasT (kvs : List (List Key × PD)) (y : PD) : R Bool := match keyT? y with
  | some k => .ok (valT kvs k).isSome
  | none => .bad
def edinT (i : Nat) (g : Rho → R PD) : Rho → R PD := fun ρ => (g ρ).bind fun y => (tAt ρ i).bind fun kvs => (hasT kvs y).bind fun b => .ok (.bool b)
def ednotinT (i : Nat) (g : Rho → R PD) : Rho → R PD := fun ρ => (g ρ).bind fun y => (tAt ρ i).bind fun kvs => (hasT kvs y).bind fun b => .ok (.bool !b)
theorem dinT_k {f : Bool → Bool} {i : Nat} {y : PD} {Q : VK} {v : V} (S : StR K F0 H0 F H σ ρ) (rv : Dp K H v y) (k1 : Fin K W σ F H ((tAt ρ i).bind fun kvs => (hasT kvs y).bind fun b => .ok (.bool (f b))) (DpQ K Q)) :
    ∃ p o, σ[i]? = some (some (.ref p)) ∧ DGet H p v o ∧ Q (.bl (f o.isSome)) H := by
  rcases tAt_x ρ i with ⟨kvs, e⟩ | e
  · rw [e] at k1
    obtain ⟨_, p, es, hs, rd, r⟩ := tAt_ok S e
    have k1 : Fin K W σ F H ((hasT kvs y).bind fun b => .ok (.bool (f b))) (DpQ K Q) := k1
    unfold hasT at k1
    split at k1
    · rename_i k ek
      obtain ⟨b, rfl, hb⟩ := key_t rv ek
      have e2 : (valV es k).isSome = (valT kvs k).isSome := by
        rcases r.val k with ⟨z, z'⟩ | ⟨d, u, z1, z2, z3⟩
        · rw [z, z']; rfl
        · rw [z1, z2]; rfl
      have k2 := Fin.okk (x := PyData.bool (f (valT kvs k).isSome)) K W σ S.same k1 _ (.bl _)
      rw [← e2] at k2
      exact ⟨p, valV es k, hs, .inr ⟨es, k, b, .inl rd, rfl, hb, rfl⟩, k2⟩
    · exact k1.elim
  · rw [e] at k1; exact k1.elim
theorem td_dinT (i : Nat) (h : TDh K W ty g) : TDe K W (tDIn ty (tVar i)) (edinT i g) := fun F0 H0 F H σ ρ Q S q =>
  h F0 H0 F H σ ρ _ S (q.then fun y F1 H1 e1 k1 v rv => by
    obtain ⟨p, o, a, b, c⟩ := dinT_k (f := id) (S.go e1) rv k1
    exact ⟨.ref p, a, p, o, rfl, b, c⟩)
theorem td_dnotinT (i : Nat) (h : TDh K W ty g) : TDe K W (tDNotIn ty (tVar i)) (ednotinT i g) := fun F0 H0 F H σ ρ Q S q =>
  h F0 H0 F H σ ρ _ S (q.then fun y F1 H1 e1 k1 v rv => by
    obtain ⟨p, o, a, b, c⟩ := dinT_k (f := not) (S.go e1) rv k1
    exact ⟨.ref p, a, p, o, rfl, b, c⟩)
/-- d.get(k, x) -/
def getT2 (kvs : List (List Key × PD)) (y z : PD) : R PD := match keyT? y with
  | some k => (match valT kvs k with
    | some d => .ok d
    | none => .ok z)
  | none => .bad
def eDget2T (i : Nat) (g gx : Rho → R PD) : Rho → R PD := fun ρ => (tAt ρ i).bind fun kvs => (g ρ).bind fun y => (gx ρ).bind fun z => getT2 kvs y z
theorem td_dget2T (i : Nat) (h : TDh K W ty g) (hx : TDe K W tx gx) : TDe K W (tDGet2 (tVar i) ty tx) (eDget2T i g gx) := fun F0 H0 F H σ ρ Q S q => by
  unfold eDget2T at q
  rcases tAt_x ρ i with ⟨kvs, e⟩ | e
  · rw [e] at q
    obtain ⟨_, p, es, hs, rd, r⟩ := tAt_ok S e
    have q : Fin K W σ F H ((g ρ).bind fun y => (gx ρ).bind fun z => getT2 kvs y z) (DpQ K Q) := q
    refine ⟨.ref p, hs, p, rfl, .inr ⟨es, .inl rd⟩, h F0 H0 F H σ ρ _ S (q.then fun y F1 H1 e1 k1 v rv => hx F0 H0 F1 H1 σ ρ _ (S.go e1) (k1.then fun z F2 H2 e2 k2 u ru => ?_))⟩
    unfold getT2 at k2
    split at k2
    · rename_i k ek
      obtain ⟨b, rfl, hb⟩ := key_t rv ek
      refine ⟨valV es k, .inr ⟨es, k, b, .inl (e2.h _ _ (e1.h _ _ rd)), rfl, e2.h _ _ hb, rfl⟩, ?_⟩
      rcases r.val k with ⟨z1, z2⟩ | ⟨d, u', z1, z2, z3⟩
      · rw [z1] at k2
        rw [z2]
        exact Fin.okk K W σ e2.g k2 _ ru
      · rw [z1] at k2
        rw [z2]
        exact Fin.okk K W σ e2.g k2 _ ((z3.mono e1.f).mono e2.f)
    · exact k2.elim
  · rw [e] at q; exact q.elim
def getK2 (kvs : List (PD × PD)) (y z : PD) : R PD := match keyOf y with
  | some k => (match valD kvs k with
    | some d => .ok d
    | none => .ok z)
  | none => .bad
def eDget2 (i : Nat) (g gx : Rho → R PD) : Rho → R PD := fun ρ => (dAt ρ i).bind fun kvs => (g ρ).bind fun y => (gx ρ).bind fun z => getK2 kvs y z
theorem td_dget2 (i : Nat) (h : TDr K W ty g) (hx : TDe K W tx gx) : TDe K W (tDGet2 (tVar i) ty tx) (eDget2 i g gx) := fun F0 H0 F H σ ρ Q S q => by
  unfold eDget2 at q
  rcases dAt_x ρ i with ⟨kvs, e⟩ | e
  · rw [e] at q
    obtain ⟨p, es, hs, rd, r⟩ := dAt_ok S e
    have q : Fin K W σ F H ((g ρ).bind fun y => (gx ρ).bind fun z => getK2 kvs y z) (DpQ K Q) := q
    refine ⟨.ref p, hs, p, rfl, .inl ⟨es, rd⟩, h F0 H0 F H σ ρ _ S (q.then fun y F1 H1 e1 k1 v rv => hx F0 H0 F1 H1 σ ρ _ (S.go e1) (k1.then fun z F2 H2 e2 k2 u ru => ?_))⟩
    unfold getK2 at k2
    split at k2
    · rename_i k ek
      rw [keyD_of ek] at rv
      have := key_rp rv
      subst this
      refine ⟨valV es k, .inl ⟨es, k, rdM e2.h (rdM e1.h rd), rfl, rfl⟩, ?_⟩
      rcases r.val k with ⟨z1, z2⟩ | ⟨d, u', z1, z2, z3⟩
      · rw [z1] at k2
        rw [z2]
        exact Fin.okk K W σ e2.g k2 _ ru
      · rw [z1] at k2
        rw [z2]
        exact Fin.okk K W σ e2.g k2 _ ((z3.mono e1.f).mono e2.f)
    · exact k2.elim
  · rw [e] at q; exact q.elim
def mDnewT : Rho → R Tv := fun _ => .ok (.dT [])
theorem tm_dnewT : TDm K W [] tDNewT mDnewT := fun F0 H0 F H σ ρ φ Q S q p hp =>
  (q : ∀ F' H', Ext F H F' H' → MvQ K H φ [] Q (.dT []) F' H') F _ (Ext.own S.same hp) _ [p] (.dT upd_same .nil) (by simp) fun r hr => by rw [List.mem_singleton.mp hr]; exact ⟨S.same.free hp, .inl hp⟩
def putTS (ρ : Rho) (i : Nat) (kvs : List (List Key × PD)) (y d : PD) : SR := match keyT? y with
  | some k => if kvs.length < sizeLine then .nx (ρ.set i (some (.t (.dT (putT kvs k d))))) else .bad
  | none => .bad
def sDputT (i : Nat) (gk gv : Rho → R PD) : Rho → SR := fun ρ => SR.of (gv ρ) fun d => SR.of (tAt ρ i) fun kvs => SR.of (gk ρ) fun y => putTS ρ i kvs y d
theorem ds_dputT (i : Nat) (hk : TDh K W ty gk) (hv : TDe K W tv gv) : TDS K W (sDPut (tVar i) ty tv) (sDputT i gk gv) := fun F0 H0 F H σ ρ D S q =>
  hv F0 H0 F H σ ρ _ S (q.of S.ext fun d F1 H1 e1 k1 v rv => by
    have S1 := S.go e1
    rcases tAt_x ρ i with ⟨kvs, e⟩ | e
    · rw [e] at k1
      obtain ⟨hi, p, es, hs, rd, r⟩ := tAt_ok S1 e
      have k1 : FinS K W F0 H0 D (SR.of (gk ρ) fun y => putTS ρ i kvs y d) := k1
      refine ⟨.ref p, hs, hk F0 H0 F1 H1 σ ρ _ S1 (k1.of S1.ext fun y F2 H2 e2 k2 u ru => ?_)⟩
      have S2 := S1.go e2
      unfold putTS at k2
      split at k2
      · rename_i k ek
        obtain ⟨b, rfl, hb⟩ := key_t ru ek
        split at k2
        · rename_i hl
          have hl2 : es.length < sizeLine := by rw [r.len]; exact hl
          exact ⟨p, _, rfl, .inr ⟨es, k, b, e2.h _ _ rd, rfl, hb, hl2, rfl⟩, k2 _ _ _ (S2.mutD hi hs ((r.mono e2.f).put k (rv.mono e2.f)))⟩
        · exact k2.elim
      · exact k2.elim
    · rw [e] at k1; exact k1.elim)
end
end DL
/-! Sorting of tuples of ints and texts. -/
namespace DL
open PySem PySem.Spec PyProof.Rows L2 SrtO Srt

/-! ### the order -/
def ltK1 : Key → Key → Bool
  | .inl i, .inl j => decide (i < j)
  | .inr a, .inr b => decide (a.cps.toList < b.cps.toList)
  | .inl _, .inr _ => true
  | .inr _, .inl _ => false
def ltKs : List Key → List Key → Bool
  | [], [] => false
  | [], _ :: _ => true
  | _ :: _, [] => false
  | a :: as, b :: bs => if a = b then ltKs as bs else ltK1 a b
theorem str_ext {a b : Str} (h : a.cps.toList = b.cps.toList) : a = b := by
  cases a; cases b
  simp only at h
  rw [Array.toList_inj.mp h]
theorem ltK1_irr (a : Key) : ltK1 a a = false := by
  cases a with
  | inl i => simp [ltK1]
  | inr x => simp [ltK1, List.lt_irrefl]
theorem ltK1_asym {a b : Key} (h : ltK1 a b = true) : ltK1 b a = false := by
  cases a with
  | inl i => cases b with
    | inl j => simp [ltK1] at h ⊢; omega
    | inr y => rfl
  | inr x => cases b with
    | inl j => cases h
    | inr y => simp only [ltK1, decide_eq_true_eq, decide_eq_false_iff_not] at h ⊢; exact List.lt_asymm h
theorem ltK1_tri {a b : Key} (h : ltK1 a b = false) (h2 : ltK1 b a = false) : a = b := by
  cases a with
  | inl i => cases b with
    | inl j => simp [ltK1] at h h2; exact congrArg Sum.inl (by omega)
    | inr y => cases h
  | inr x => cases b with
    | inl j => cases h2
    | inr y =>
      simp only [ltK1, decide_eq_false_iff_not] at h h2
      exact congrArg Sum.inr (str_ext (List.le_antisymm (List.not_lt.mp h2) (List.not_lt.mp h)))
theorem ltK1_tr {a b c : Key} (h : ltK1 a b = true) (h2 : ltK1 b c = true) : ltK1 a c = true := by
  cases a with
  | inl i => cases b with
    | inl j => cases c with
      | inl k => simp [ltK1] at h h2 ⊢; omega
      | inr z => rfl
    | inr y => cases c with
      | inl k => cases h2
      | inr z => rfl
  | inr x => cases b with
    | inl j => cases h
    | inr y => cases c with
      | inl k => cases h2
      | inr z => simp only [ltK1, decide_eq_true_eq] at h h2 ⊢; exact List.lt_trans h h2
theorem ltKs_irr : ∀ a : List Key, ltKs a a = false
  | [] => rfl
  | a :: as => by unfold ltKs; rw [if_pos rfl, ltKs_irr as]
theorem ltKs_asym : ∀ {a b : List Key}, ltKs a b = true → ltKs b a = false
  | [], [], h => rfl
  | [], _ :: _, h => rfl
  | _ :: _, [], h => by cases h
  | a :: as, b :: bs, h => by
    unfold ltKs at h ⊢
    by_cases e : a = b
    · rw [if_pos e] at h; rw [if_pos e.symm]; exact ltKs_asym h
    · rw [if_neg e] at h; rw [if_neg (fun z => e z.symm)]; exact ltK1_asym h
theorem ltKs_tri : ∀ {a b : List Key}, ltKs a b = false → ltKs b a = false → a = b
  | [], [], _, _ => rfl
  | [], _ :: _, h, _ => by cases h
  | _ :: _, [], _, h => by cases h
  | a :: as, b :: bs, h, h2 => by
    unfold ltKs at h h2
    by_cases e : a = b
    · rw [if_pos e] at h; rw [if_pos e.symm] at h2; rw [e, ltKs_tri h h2]
    · rw [if_neg e] at h; rw [if_neg (fun z => e z.symm)] at h2; exact absurd (ltK1_tri h h2) e
theorem ltKs_tr : ∀ {a b c : List Key}, ltKs a b = true → ltKs b c = true → ltKs a c = true
  | [], [], _, h, _ => by cases h
  | [], _ :: _, [], _, h => by cases h
  | [], _ :: _, _ :: _, _, _ => rfl
  | _ :: _, [], _, h, _ => by cases h
  | _ :: _, _ :: _, [], _, h => by cases h
  | a :: as, b :: bs, c :: cs, h, h2 => by
    unfold ltKs at h h2 ⊢
    by_cases e : a = b
    · subst e
      rw [if_pos rfl] at h
      by_cases e2 : a = c
      · subst e2
        rw [if_pos rfl] at h2 ⊢
        exact ltKs_tr h h2
      · rw [if_neg e2] at h2 ⊢; exact h2
    · rw [if_neg e] at h
      by_cases e2 : b = c
      · subst e2
        rw [if_neg e]; exact h
      · rw [if_neg e2] at h2
        have h3 := ltK1_tr h h2
        have ne : a ≠ c := fun z => by subst z; rw [ltK1_irr] at h3; cases h3
        rw [if_neg ne]; exact h3
theorem swo_keys {α : Type} (k : α → List Key) : Swo fun v u => ltKs (k v) (k u) := by
  refine ⟨fun x y h => ltKs_asym h, fun x y z h1 h2 => ?_⟩
  rcases bcase (ltKs (k z) (k x)) with h | h
  · rcases bcase (ltKs (k x) (k y)) with q | q
    · rw [ltKs_tr h q] at h2; cases h2
    · rw [ltKs_tri h1 q] at h2; rw [h2] at h; cases h
  · exact h
/-- keys of like form -/
def likeK : List Key → List Key → Bool
  | [], [] => true
  | .inl _ :: as, .inl _ :: bs => likeK as bs
  | .inr _ :: as, .inr _ :: bs => likeK as bs
  | _, _ => false
theorem like_len : ∀ {a b : List Key}, likeK a b = true → a.length = b.length
  | [], [], _ => rfl
  | [], _ :: _, h => by cases h
  | .inl _ :: _, [], h => by cases h
  | .inr _ :: _, [], h => by cases h
  | .inl _ :: as, .inl _ :: bs, h => by rw [List.length_cons, List.length_cons, like_len (a := as) (b := bs) h]
  | .inr _ :: as, .inr _ :: bs, h => by rw [List.length_cons, List.length_cons, like_len (a := as) (b := bs) h]
  | .inl _ :: _, .inr _ :: _, h => by cases h
  | .inr _ :: _, .inl _ :: _, h => by cases h

/-! ### the machine's comparison -/
/-- a tuple of the keys ks -/
def KTup (h : Heap) (v : Value) (ks : List Key) : Prop := ∃ a its o n, v = .ref a ∧ h.get? a = some o ∧ o.cls = .type "tuple" ∧ o.data = .seq its n ∧ Vals (ks.map kV) its.toList
theorem KTup.keeps {h h' : Heap} {v : Value} {ks : List Key} (r : KTup h v ks) (k : ∀ b o, h.get? b = some o → o.cls = .type "tuple" → h'.get? b = some o) : KTup h' v ks := by
  obtain ⟨a, its, o, n, rfl, ho, hc, hd, hv⟩ := r
  exact ⟨a, its, o, n, rfl, k _ _ ho hc, hc, hd, hv⟩
section
variable {prog : Program} {w : World} {A : Around} {E : Value → Shared → Prop} {s : Shared}
theorem oneLt_strs (c : Bool) {p q : Str} {t u : Tok} {Q : Bool → Shared → Prop} (h : Q (decide (p.cps.toList < q.cps.toList)) s) : wpAny (model prog w) A (oneLt' c (.str p t) (.str q u)) Q E s := by
  cases c with
  | true => exact oneLt_str h
  | false => exact PySem.W.kat_one _ _ (PyProof.Rows.lt_str h)
theorem lexK {Q : Bool → Shared → Prop} : ∀ {ks js : List Key} {us vs : List Value} {i : Nat}, Vals (ks.map kV) us → Vals (js.map kV) vs → likeK ks js = true → Q (ltKs ks js) s → PySem.W.KatLex prog w A true false Q (us.zip vs) i s := by
  intro ks
  induction ks with
  | nil =>
    intro js us vs i ru rv hl q
    cases js with
    | nil => cases ru; exact PySem.W.kat_nil q
    | cons _ _ => cases hl
  | cons k ks ih =>
    intro js us vs i ru rv hl q
    cases js with
    | nil => cases k <;> cases hl
    | cons j js =>
      cases ru with
      | cons r1 ru =>
        cases rv with
        | cons r2 rv =>
          cases k with
          | inl a =>
            cases j with
            | inr b => cases hl
            | inl b =>
              obtain ⟨t, rfl⟩ := r1
              obtain ⟨t', rfl⟩ := r2
              refine PySem.W.kat_cons (SeqAt.EqAt.int_int a t b t' prog w _ _ ?_)
              refine PySem.W.kat_go (fun e1 => ?_) (fun e1 => ?_)
              · have ex : a = b := by simpa using e1
                subst ex
                unfold ltKs at q
                rw [if_pos rfl] at q
                exact PySem.W.kat_yes (ih ru rv hl q)
              · have ex : ¬ a = b := by simpa using e1
                unfold ltKs at q
                rw [if_neg (fun z => ex (Sum.inl.inj z))] at q
                exact PySem.W.kat_no (TS.oneLt_ints _ q)
          | inr a =>
            cases j with
            | inl b => cases hl
            | inr b =>
              obtain ⟨t, rfl⟩ := r1
              obtain ⟨t', rfl⟩ := r2
              refine PySem.W.kat_cons (SeqAt.EqAt.str_str a t b t' prog w _ _ ?_)
              refine PySem.W.kat_go (fun e1 => ?_) (fun e1 => ?_)
              · have ex : a = b := by simpa using e1
                subst ex
                unfold ltKs at q
                rw [if_pos rfl] at q
                exact PySem.W.kat_yes (ih ru rv hl q)
              · have ex : ¬ a = b := by simpa using e1
                unfold ltKs at q
                rw [if_neg (fun z => ex (Sum.inr.inj z))] at q
                exact PySem.W.kat_no (oneLt_strs _ q)
theorem keys_cmp {vs : List Value} {k : Value → List Key} (hp : ∀ v ∈ vs, KTup s.heap v (k v)) (hl : ∀ v ∈ vs, ∀ u ∈ vs, likeK (k v) (k u) = true) : Cmp prog w A s (tuples' true) (fun p => p.1 ∈ vs) (lt2 fun v u => ltKs (k v) (k u)) := by
  intro p q hm hm'
  obtain ⟨a, its, o, n, e, ho, hc, hd, hv⟩ := hp _ hm
  obtain ⟨a', its', o', n', e', ho', hc', hd', hv'⟩ := hp _ hm'
  show wpAny (model prog w) A (keyLt' (tuples' true) p.1 q.1) (fun r s' => s' = s ∧ r = ltKs (k p.1) (k q.1)) (fun _ _ => False) s
  have ll := hl _ hm _ hm'
  generalize k p.1 = kp at hv ll ⊢
  generalize k q.1 = kq at hv' ll ⊢
  rw [e, e']
  refine PySem.W.kat_lt ho hd ho' hd' ?_
  have h1 : its.size = kp.length := by have := Paired.length hv; rw [List.length_map] at this; rw [← Array.length_toList]; exact this.symm
  have h2 : its'.size = kq.length := by have := Paired.length hv'; rw [List.length_map] at this; rw [← Array.length_toList]; exact this.symm
  rw [show decide (its.size < its'.size) = false by rw [h1, h2, like_len ll]; exact decide_eq_false (Nat.lt_irrefl _)]
  exact lexK hv hv' ll ⟨rfl, rfl⟩
theorem firsts_k {h : Heap} {k : Value → List Key} {T : Bool} : ∀ {vs : List Value}, (∀ v ∈ vs, KTup h v (k v) ∧ ∃ x r, k v = x :: r ∧ x.isLeft = T) → ∃ fs : List Value, PySem.W.KatTups h vs fs ∧ fs.length = vs.length ∧ ∀ f ∈ fs, ∃ x : Key, x.isLeft = T ∧ RelV (kV x) f
  | [], _ => ⟨[], PySem.W.KatTups.nil, rfl, fun _ hm => by simp at hm⟩
  | v :: vs, hp => by
    obtain ⟨⟨a, its, o, n, e, ho, hc, hd, hv⟩, x, r, ek, ht⟩ := hp v List.mem_cons_self
    obtain ⟨fs, h1, h2, h3⟩ := firsts_k (vs := vs) fun u hu => hp u (List.mem_cons_of_mem _ hu)
    rw [ek] at hv
    obtain ⟨il⟩ := its
    cases hv with
    | cons r1 r2 =>
      rw [e]
      refine ⟨_ :: fs, PySem.W.KatTups.cons ho hc hd rfl h1, by rw [List.length_cons, List.length_cons, h2], fun f hm => ?_⟩
      rcases List.mem_cons.mp hm with e | hm
      · rw [e]; exact ⟨x, ht, r1⟩
      · exact h3 f hm
theorem keys_sortable {a : Addr} {vs : List Value} {k : Value → List Key} (h0 : 0 < vs.length) (hp : ∀ v ∈ vs, KTup s.heap v (k v)) (hn : ∀ v ∈ vs, k v ≠ []) (hl : ∀ v ∈ vs, ∀ u ∈ vs, likeK (k v) (k u) = true)
    (ha : ∀ o, s.heap.get? a = some o → o.cls ≠ .type "tuple") : SortableO prog w A s a vs fun v u => ltKs (k v) (k u) := by
  intro h' keep
  have hp' : ∀ v ∈ vs, KTup h' v (k v) := fun v hm => (hp v hm).keeps fun b o e c => keep b o (fun z => by subst z; exact ha o e c) e
  obtain ⟨v0, hv0⟩ : ∃ v, v ∈ vs := by
    cases vs with
    | nil => cases h0
    | cons v _ => exact ⟨v, List.mem_cons_self⟩
  obtain ⟨x0, r0, e0⟩ : ∃ x r, k v0 = x :: r := by
    cases e : k v0 with
    | nil => exact absurd e (hn v0 hv0)
    | cons x r => exact ⟨x, r, rfl⟩
  have first : ∀ v ∈ vs, ∃ x r, k v = x :: r ∧ x.isLeft = x0.isLeft := fun v hv => by
    have := hl v hv v0 hv0
    rw [e0] at this
    cases e : k v with
    | nil => exact absurd e (hn v hv)
    | cons x r =>
      rw [e] at this
      refine ⟨x, r, rfl, ?_⟩
      cases x <;> cases x0 <;> first | rfl | cases this
  obtain ⟨fs, h1, h2, h3⟩ := firsts_k (T := x0.isLeft) fun v hv => ⟨hp' v hv, first v hv⟩
  refine ⟨tuples' true, fun Q E hq => ?_, keys_cmp (s := { s with heap := h' }) hp' hl⟩
  cases x0 with
  | inl i =>
    refine PySem.W.kat_kind (T := .type "int") h1 (by omega) (fun f hm => ?_) (by rfl) ?_
    · obtain ⟨x, hx, r⟩ := h3 f hm
      cases x with
      | inl j => obtain ⟨t, rfl⟩ := r; exact PySem.W.Looks.now
      | inr j => cases hx
    · have e : (Value.type "int" != Value.type "tuple") = true := by first | decide +kernel | rfl | decide
      rw [e]
      exact hq
  | inr i =>
    refine PySem.W.kat_kind (T := .type "str") h1 (by omega) (fun f hm => ?_) (by rfl) ?_
    · obtain ⟨x, hx, r⟩ := h3 f hm
      cases x with
      | inr j => obtain ⟨t, rfl⟩ := r; exact PySem.W.Looks.now
      | inl j => cases hx
    · have e : (Value.type "str" != Value.type "tuple") = true := by first | decide +kernel | rfl | decide
      rw [e]
      exact hq
/-- sorted(l) of tuples of keys -/
theorem sorted_keysL {l : Addr} {vs : List Value} {k : Value → List Key} {Q : Value → Shared → Prop} (hl : s.heap.IsList l vs.toArray) (hz : vs.length ≤ sizeLine) (hp : ∀ v ∈ vs, KTup s.heap v (k v)) (hn : ∀ v ∈ vs, k v ≠ []) (hk : ∀ v ∈ vs, ∀ u ∈ vs, likeK (k v) (k u) = true)
    (h : ∀ (h' : Heap) (d : Addr) (out : List Value), Srtd (fun v u => ltKs (k v) (k u)) out → Stb (fun v u => ltKs (k v) (k u)) out vs → (∀ b o, s.heap.get? b = some o → h'.get? b = some o) → s.heap.objs.size ≤ d → (∃ n, h'.get? d = some (seqObj "list" out.toArray n)) → Q (.ref d) { s with heap := h' }) :
    wpAny (model prog w) A (call (.builtin "sorted") [.ref l]) Q E s := by
  refine sorted_ord (swo_keys k) hl hz (fun h2 h₁ a ha kk => ?_) fun out hs hb => ?_
  · refine keys_sortable (s := { s with heap := h₁ }) (by omega) (fun v hm => (hp v hm).keeps fun b o e _ => (kk b o e).2) hn hk fun o e => ?_
    have e' : some o = some (seqObj "list" vs.toArray 0) := e.symm.trans ha
    cases e'
    intro c
    exact absurd (Value.type.inj c) (by decide)
  · exact h _ _ out hs hb (fun b o e => sortedAll_old e) (Nat.le_succ _) (sortedAll_at s.heap vs out.toArray)
end

/-! ### rules of the layer -/
abbrev ltV (k : V → List Key) (x y : V) : Bool := ltKs (k x) (k y)
def rSortedK (K : PySem.W.Frag) : List V → Hp → VK → Prop := fun vs H Q => ∃ (a : Addr) (xs : List V) (k : V → List Key), vs = [V.ref a] ∧ SqL K H a xs ∧ (∀ x ∈ xs, k x ≠ [] ∧ ∃ t, x = V.ref t ∧ H t = some (.tup ((k x).map kV))) ∧ (∀ x ∈ xs, ∀ y ∈ xs, likeK (k x) (k y) = true) ∧
  ∀ ys p, Srtd (ltV k) ys → ys.Perm xs → H p = none → Q (.ref p) (upd H p (.lst ys))
theorem ktup_of {P : Program} {w : World} {H : Hp} {h : Heap} {t : Addr} {ks : List Key} (ok : HOk P w H h) (e : H t = some (.tup (ks.map kV))) : KTup h (.ref t) ks := by
  obtain ⟨_, its, rv, o, ho, hc, n, hd⟩ := ok _ _ e
  exact ⟨t, its.toArray, o, n, rfl, ho, hc, hd, by simpa using rv⟩
section
variable {X : Cx}
theorem cr_sortedK : CallR X (.builtin "sorted") (rSortedK X.K) := by
  intro pins s σ H vs us Q I r h
  obtain ⟨a, xs, k, rfl, hs, hx, hl, q⟩ := h
  obtain ⟨its, rv, hli, hz⟩ := I.list hs
  obtain ⟨u, rfl, ru⟩ := vals1 r
  obtain rfl : u = Value.ref a := ru
  obtain ⟨e1, e2⟩ := refs_back rv fun x m => by
    obtain ⟨_, t, e, _⟩ := hx x m
    exact ⟨t, e⟩
  have back : ∀ v ∈ its, backV v ∈ xs := fun v hv => by rw [e1]; exact List.mem_map_of_mem hv
  refine sorted_keysL (k := fun u => k (backV u)) hli.isList (by rw [← rv.length]; exact hz) (fun v hv => ?_) (fun v hv => (hx _ (back v hv)).1) (fun v hv u hu => hl _ (back v hv) _ (back u hu)) fun h' d out h1 h2 kp hd hn => ?_
  · obtain ⟨t, rfl⟩ := e2 v hv
    obtain ⟨_, t', e, ht⟩ := hx _ (back _ hv)
    cases e
    exact ktup_of I.hok ht
  · have h3 : ∀ u ∈ out, ∃ a, u = Value.ref a := fun u hu => e2 u (h2.perm.mem_iff.mp hu)
    obtain ⟨n, hn⟩ := hn
    have hb : (out.map backV).Perm xs := by
      rw [e1]
      exact h2.perm.map backV
    refine ⟨.ref d, upd H d (.lst (out.map backV)), I.laid (t' := s.toks) kp hd ⟨?_, out, n, vals_back h3, hn⟩, rfl, q _ d (SrtO.srtd_map h1) hb (I.hok.fresh hd)⟩
    rw [hb.length_eq]
    exact hz
end
section
variable {prog : Program} {w : World} {A : Around} {E : Value → Shared → Prop} {s : Shared}
/-- behind the collecting -/
theorem sorted_tail {vs : List Value} {k : Value → List Key} {Q : Value → Shared → Prop} (hz : vs.length ≤ sizeLine) (hp : ∀ v ∈ vs, KTup s.heap v (k v)) (hn : ∀ v ∈ vs, k v ≠ []) (hk : ∀ v ∈ vs, ∀ u ∈ vs, likeK (k v) (k u) = true)
    (h : ∀ (h' : Heap) (d : Addr) (out : List Value), Srtd (fun v u => ltKs (k v) (k u)) out → Stb (fun v u => ltKs (k v) (k u)) out vs → (∀ b o, s.heap.get? b = some o → h'.get? b = some o) → s.heap.objs.size ≤ d → (∃ n, h'.get? d = some (seqObj "list" out.toArray n)) → Q (.ref d) { s with heap := h' }) :
    wpAny (model prog w) A.in1 (call (.builtin "list.sort") [.ref s.heap.objs.size]) (fun _ s' => Q (.ref s.heap.objs.size) s') E { s with heap := s.heap.push (seqObj "list" vs.toArray 0) } := by
  have hoL : (s.heap.push (seqObj "list" vs.toArray 0)).get? s.heap.objs.size = some (seqObj "list" vs.toArray 0) := Heap.get?_push_size _ rfl
  have keep : ∀ b o, s.heap.get? b = some o → b ≠ s.heap.objs.size ∧ (s.heap.push (seqObj "list" vs.toArray 0)).get? b = some o := fun b o q => ⟨Nat.ne_of_lt (Heap.lt_size q), Heap.get?_push_of_some _ q⟩
  refine wpAny_call_entry PyProof.Rows.slot_list_sort ⟨_, hoL, rfl⟩ PyProof.Rows.entry_list_sort (list_sort_ord (s := { s with heap := s.heap.push (seqObj "list" vs.toArray 0) }) (swo_keys k) hoL hz (fun h2 => keys_sortable (s := { s with heap := s.heap.push (seqObj "list" vs.toArray 0) }) (by omega) (fun v hm => (hp v hm).keeps fun b o e _ => (keep b o e).2) hn hk fun o e => ?_) fun out hs hb => ⟨_, rfl, ?_⟩) (PyProof.Rows.args_list_sort _)
  · have e' : some o = some (seqObj "list" vs.toArray 0) := e.symm.trans hoL
    cases e'
    intro c
    exact absurd (Value.type.inj c) (by decide)
  · refine h _ _ out hs hb (fun b o e => ?_) (Nat.le_refl _) (sortedHeap_at hoL)
    obtain ⟨e1, e2⟩ := keep b o e
    exact (sortedHeap_old e1 (Heap.lt_size e2)).trans e2
end
section
variable {X : Cx}
/-- sorted(d), d's keys tuples -/
def rSortedDT : List V → Hp → VK → Prop := fun vs H Q => ∃ (a : Addr) (kvs : List (List Key × V)), vs = [V.ref a] ∧ H a = some (.dT kvs) ∧ (∀ p ∈ kvs, p.1 ≠ []) ∧ (∀ p ∈ kvs, ∀ q ∈ kvs, likeK p.1 q.1 = true) ∧
  ∀ (bs : List Addr) (ks : List (List Key)) p, Srtd (fun a b => ltKs a b) ks → ks.Perm (kvs.map (·.1)) → Paired (fun k b => H b = some (.tup (k.map kV))) ks bs → H p = none → Q (.ref p) (upd H p (.lst (bs.map V.ref)))
open Classical in
noncomputable def keyAt (h : Heap) (v : Value) : List Key := if e : ∃ ks, KTup h v ks then e.choose else []
theorem vals_kV : ∀ {as bs : List Key} {us : List Value}, Vals (as.map kV) us → Vals (bs.map kV) us → as = bs
  | [], [], _, _, _ => rfl
  | [], _ :: _, _, .nil, r => by cases r
  | _ :: _, [], _, r, .nil => by cases r
  | a :: as, b :: bs, _, .cons r1 t1, .cons r2 t2 => by
    rw [vals_kV t1 t2]
    cases a with
    | inl i => cases b with
      | inl j => obtain ⟨t, rfl⟩ := r1; obtain ⟨t', e⟩ := r2; cases e; rfl
      | inr y => obtain ⟨t, rfl⟩ := r1; obtain ⟨t', e⟩ := r2; cases e
    | inr x => cases b with
      | inl j => obtain ⟨t, rfl⟩ := r1; obtain ⟨t', e⟩ := r2; cases e
      | inr y => obtain ⟨t, rfl⟩ := r1; obtain ⟨t', e⟩ := r2; cases e; rfl
theorem ktup_one {h : Heap} {v : Value} {as bs : List Key} (r : KTup h v as) (q : KTup h v bs) : as = bs := by
  obtain ⟨a, its, o, n, rfl, ho, hc, hd, hv⟩ := r
  obtain ⟨a', its', o', n', e, ho', hc', hd', hv'⟩ := q
  cases e
  rw [ho] at ho'; cases ho'
  rw [hd] at hd'; cases hd'
  exact vals_kV hv hv'
theorem keyAt_of {h : Heap} {v : Value} {ks : List Key} (r : KTup h v ks) : keyAt h v = ks := by
  have e : ∃ ks, KTup h v ks := ⟨ks, r⟩
  unfold keyAt
  rw [dif_pos e]
  exact ktup_one e.choose_spec r
theorem paired_map_eq {α β : Type} {f : β → α} : ∀ {xs : List α} {ys : List β}, Paired (fun x y => f y = x) xs ys → xs = ys.map f
  | _, _, .nil => rfl
  | _, _, .cons h t => by rw [List.map_cons, h, paired_map_eq t]
theorem srt_out {h : Heap} {H : Hp} {P : Program} {w : World} (ok : HOk P w H h) {out vs : List Value} {ks : List (List Key)} {bs : List Addr} (ev : vs = bs.map Value.ref) (pr : Paired (fun k b => H b = some (.tup (k.map kV))) ks bs)
    (hs : Srtd (fun v u => ltKs (keyAt h v) (keyAt h u)) out) (hp : out.Perm vs) : ∃ (bs' : List Addr) (ks' : List (List Key)), out = bs'.map Value.ref ∧ Srtd (fun a b => ltKs a b) ks' ∧ ks'.Perm ks ∧ Paired (fun k b => H b = some (.tup (k.map kV))) ks' bs' := by
  have at' : ∀ b ∈ bs, ∃ k, H b = some (.tup (k.map kV)) ∧ keyAt h (.ref b) = k := by
    intro b hb
    clear ev hp hs
    induction pr with
    | nil => cases hb
    | cons a _ ih =>
      rcases List.mem_cons.mp hb with e | hb
      · rw [e]; exact ⟨_, a, keyAt_of (ktup_of ok a)⟩
      · exact ih hb
  have ek : ks = vs.map (keyAt h) := by
    rw [ev, List.map_map]
    clear ev hp hs at'
    induction pr with
    | nil => rfl
    | cons a _ ih => rw [List.map_cons, ← ih]; congr 1; exact (keyAt_of (ktup_of ok a)).symm
  have ho : ∀ u ∈ out, ∃ b ∈ bs, u = Value.ref b := fun u hu => by
    have := hp.mem_iff.mp hu
    rw [ev] at this
    obtain ⟨b, hb, e⟩ := List.mem_map.mp this
    exact ⟨b, hb, e.symm⟩
  have fin : ∀ l : List Value, (∀ u ∈ l, ∃ b ∈ bs, u = Value.ref b) → ∃ bs' : List Addr, l = bs'.map Value.ref ∧ Paired (fun k b => H b = some (.tup (k.map kV))) (l.map (keyAt h)) bs' := by
    intro l
    induction l with
    | nil => exact fun _ => ⟨[], rfl, .nil⟩
    | cons u l ih =>
      intro hl
      obtain ⟨bs', e, q⟩ := ih fun v hv => hl v (List.mem_cons_of_mem _ hv)
      obtain ⟨b, hb, rfl⟩ := hl u List.mem_cons_self
      obtain ⟨k, h1, h2⟩ := at' b hb
      refine ⟨b :: bs', by rw [e]; rfl, .cons ?_ q⟩
      rw [h2]; exact h1
  obtain ⟨bs', e, q⟩ := fin out ho
  exact ⟨bs', out.map (keyAt h), e, SrtO.srtd_map hs, by rw [ek]; exact hp.map _, q⟩
theorem paired_mem {α β : Type} {R : α → β → Prop} : ∀ {xs : List α} {ys : List β}, Paired R xs ys → ∀ y ∈ ys, ∃ x ∈ xs, R x y
  | _, _, .cons h t, y, hy => by
    rcases List.mem_cons.mp hy with e | hy
    · rw [e]; exact ⟨_, List.mem_cons_self, h⟩
    · obtain ⟨x, a, b⟩ := paired_mem t y hy
      exact ⟨x, List.mem_cons_of_mem _ a, b⟩
theorem refs_vals : ∀ bs : List Addr, Vals (bs.map V.ref) (bs.map Value.ref)
  | [] => .nil
  | _ :: r => .cons rfl (refs_vals r)
theorem cr_sortedDT (hc : X.calm = true) : CallR X (.builtin "sorted") rSortedDT := by
  intro pins s σ H vs us Q I r h
  obtain ⟨d, kvs, rfl, hd, hn, hl, q⟩ := h
  obtain ⟨u, rfl, ru⟩ := vals1 r
  obtain rfl : u = Value.ref d := ru
  obtain ⟨z, hs, ks, pr, o, es, ep, ho, hx, hdt, he, hne⟩ := (show ObjOk X.prog X.w H s.heap d (.dT kvs) from I.hok _ _ hd)
  have l1 : es.size = ks.length := size_of_entries he
  have l2 : kvs.length = ks.length := Paired.length pr
  have hh : X.A.in1.handled = none := I.ok.hd hc
  refine Calls.call_function_entry PyProof.Rows.kind_sorted PyProof.Rows.plain_sorted PyProof.Rows.entry_sorted (PyProof.Rows.args_sorted1 _) ?_
  unfold Builtin.«sorted»
  refine wpAny_bind (m := checkCount "sorted" 1 1 _) (wpAny_pure ?_)
  refine wpAny_bind (PySem.W.kdu_collect (A := X.A.in1) (kdl_raw hs hx hdt) hh ho (by omega) fun h' tk acc kp it => ?_)
  have ea : acc.toList = ks.map fun x => Value.ref x.2.1 := by
    have hl : acc.toList.length = ks.length := by rw [Array.length_toList, it.1]; exact l1
    apply List.ext_getElem?
    intro j
    rw [List.getElem?_map]
    cases hj : acc.toList[j]? with
    | none =>
      have h1 := List.getElem?_eq_none_iff.mp hj
      rw [List.getElem?_eq_none (by omega)]
      all_goals rfl
    | some v =>
      obtain ⟨en, hen, hv⟩ := it.2 j v (by rw [← Array.getElem?_toList]; exact hj)
      have qe := entry_at he j
      rw [hen] at qe
      cases hb : ks[j]? with
      | none =>
        rw [hb] at qe
        exact nomatch (show some en = none from qe)
      | some b =>
        rw [hb] at qe
        have e2 : en = entryOfKey (tupleKind (mixKind X.prog X.w)) b := Option.some.inj qe
        rw [hv, e2]
        all_goals rfl
  have eb : acc.toList = (ks.map fun x => x.2.1).map Value.ref := by rw [ea, List.map_map]; all_goals rfl
  have pk : Paired (fun k b => H b = some (.tup (k.map kV))) (kvs.map (·.1)) (ks.map fun x => x.2.1) := by
    clear it ea eb he l1 l2 hn hl q hd z hne
    induction pr with
    | nil => exact .nil
    | cons h t ih => exact .cons (by show H _ = _; exact h.2.1) ih
  have I1 : Inv X pins σ H { s with heap := h', toks := tk } := I.kept kp
  have hok1 := I1.hok
  have kt : ∀ v ∈ acc.toList, ∃ k ∈ kvs.map (·.1), KTup h' v k := fun v hv => by
    rw [eb] at hv
    obtain ⟨b, hb, rfl⟩ := List.mem_map.mp hv
    obtain ⟨k, h1, h2⟩ := paired_mem pk b hb
    exact ⟨k, h1, ktup_of hok1 h2⟩
  have like : ∀ a ∈ kvs.map (·.1), ∀ b ∈ kvs.map (·.1), likeK a b = true := fun a ha b hb => by
    obtain ⟨p, hp, rfl⟩ := List.mem_map.mp ha
    obtain ⟨p', hp', rfl⟩ := List.mem_map.mp hb
    exact hl p hp p' hp'
  have hal : acc.toList.length = ks.length := by rw [Array.length_toList, it.1]; exact l1
  refine wpAny_bind (wpAny_newList ?_ (by rw [hal]; omega))
  refine wpAny_bind (wpAny_holding (wpAny_mono (sorted_tail (s := { s with heap := h', toks := tk }) (k := keyAt h') (Q := fun v s' => EP X pins σ Q v s') (by rw [hal]; omega) (fun v hv => ?_) (fun v hv => ?_) (fun v hv u hu => ?_) fun h2 D out h3 h4 kp2 hD hn2 => ?_) (fun _ s' x => ?_) fun _ _ e => e))
  · obtain ⟨k, _, hk⟩ := kt v hv
    rw [keyAt_of hk]; exact hk
  · obtain ⟨k, hk1, hk⟩ := kt v hv
    rw [keyAt_of hk]
    obtain ⟨p, hp, rfl⟩ := List.mem_map.mp hk1
    exact hn p hp
  · obtain ⟨k, hk1, hk⟩ := kt v hv
    obtain ⟨j, hj1, hj⟩ := kt u hu
    rw [keyAt_of hk, keyAt_of hj]
    exact like k hk1 j hj1
  · obtain ⟨bs', ks', eo, s1, s2, s3⟩ := srt_out hok1 eb pk h3 h4.perm
    obtain ⟨n, hn2⟩ := hn2
    refine ⟨.ref D, upd H D (.lst (bs'.map V.ref)), I1.laid (t' := tk) kp2 hD ⟨?_, out, n, by rw [eo]; exact refs_vals bs', hn2⟩, rfl, q bs' ks' D s1 s2 s3 (I1.hok.fresh hD)⟩
    have e1 : (bs'.map V.ref).length = acc.toList.length := by
      rw [← h4.perm.length_eq, eo, List.length_map, List.length_map]
    rw [e1, hal]; omega
  · exact wpAny_pure ⟨_, rfl, x⟩
end

/-! ### sorted(d.items()) -/
section
open L2.DX
theorem paired_of_get {α β : Type} {R : α → β → Prop} : ∀ {xs : List α} {ys : List β}, xs.length = ys.length → (∀ (j : Nat) (x : α) (y : β), xs[j]? = some x → ys[j]? = some y → R x y) → Paired R xs ys
  | [], [], _, _ => .nil
  | [], _ :: _, h, _ => by cases h
  | _ :: _, [], h, _ => by cases h
  | x :: xs, y :: ys, h, g => .cons (g 0 x y rfl rfl) (paired_of_get (Nat.succ.inj h) fun j a b h1 h2 => g (j + 1) a b h1 h2)
variable {X : Cx}
def rItemsK : V → List V → Hp → VK → Prop := fun x xs H Q => ∃ (a : Addr) (kvs : List (Key × V)), x = .ref a ∧ xs = [] ∧ H a = some (.dK kvs) ∧ ∀ p, H p = none → Q (.ref p) (upd H p (itemsO p a))
theorem mt_itemsK : MtR X "dict.items" rItemsK := by
  intro pins s σ H x xs v us Q I rx rxs h
  obtain ⟨a, kvs, rfl, rfl, ha, q⟩ := h
  cases rx
  cases rxs
  obtain ⟨z, hd, vs, rel, dd⟩ := dk_of I.hok ha
  refine call_meetsIn PySem.F.slot_dict_items dd.typeIs PySem.F.entry_dict_items (PySem.F.args_dict_items_1 _) (meets_dict_items (mixKind X.prog X.w) a hd) ⟨⟨vs, dd⟩, ?_⟩
  have hf : H s.heap.objs.size = none := I.hok.fresh (Nat.le_refl _)
  exact ⟨.ref s.heap.objs.size, upd H s.heap.objs.size (itemsO s.heap.objs.size a), I.laid (t' := s.toks) (fun b u e => Heap.get?_push_of_some _ e) (Nat.le_refl _) (itemsO_ok (Heap.get?_push_size _ rfl)), rfl, q _ hf⟩
abbrev pr2 (e : Key × Key) : List Key := [e.1, e.2]
abbrev en2 (e : Key × Key) : Key × V := (e.1, kV e.2)
def rSortedItK : List V → Hp → VK → Prop := fun vs H Q => ∃ (p a : Addr) (es : List (Key × Key)), vs = [.ref p] ∧ H p = some (itemsO p a) ∧ H a = some (.dK (es.map en2)) ∧ (∀ x ∈ es, ∀ y ∈ es, likeK (pr2 x) (pr2 y) = true) ∧
  ∀ (H' : Hp) (bs : List Addr) (ks : List (List Key)) (D : Addr), (∀ b o, H b = some o → H' b = some o) → Srtd (fun a b => ltKs a b) ks → ks.Perm (es.map pr2) → Paired (fun k b => H' b = some (.tup (k.map kV))) ks bs → (∀ b ∈ bs, H b = none) → H' D = none → Q (.ref D) (upd H' D (.lst (bs.map V.ref)))
theorem cr_sortedItK (hc : X.calm = true) : CallR X (.builtin "sorted") rSortedItK := by
  intro pins s σ H vs us Q I r h
  obtain ⟨p, a, es, rfl, hp, hd, hl, q⟩ := h
  obtain ⟨u, rfl, ru⟩ := vals1 r
  obtain rfl : u = Value.ref p := ru
  have view : s.heap.IsItemsView p a := (show ObjOk X.prog X.w H s.heap p (itemsO p a) from I.hok p _ hp).1
  obtain ⟨z, lo, ws, rel, dd⟩ := dk_of I.hok hd
  obtain ⟨ep, hat⟩ := dd.dictAt
  have hh : X.A.in1.handled = none := I.ok.hd hc
  have lw : es.length = ws.length := by have := Paired.length rel; rw [List.length_map] at this; exact this
  rw [List.length_map] at z
  refine Calls.call_function_entry PyProof.Rows.kind_sorted PyProof.Rows.plain_sorted PyProof.Rows.entry_sorted (PyProof.Rows.args_sorted1 _) ?_
  unfold Builtin.«sorted»
  refine wpAny_bind (m := checkCount "sorted" 1 1 _) (wpAny_pure ?_)
  refine wpAny_bind (PySem.W.kdx_collect (A := X.A.in1) hh view hat (by omega) fun h' tk as kp hal hG => ?_)
  have nd : as.Nodup := List.Pairwise.imp (fun h => Nat.ne_of_lt h) hG.rise
  have I1 : Inv X pins σ H { s with heap := h', toks := tk } := I.kept kp
  have new : ∀ t ∈ as, H t = none := fun t ht => I.hok.fresh (Nat.le_of_lt (hG.above t ht))
  -- the pairs that were made
  have at' : ∀ (j : Nat) (b : Addr), as[j]? = some b → ∃ e : Key × Key, es[j]? = some e ∧ ∀ H2, ObjOk X.prog X.w H2 h' b (.tup ((pr2 e).map kV)) := by
    intro j b hj
    obtain ⟨key, k, x, f1, f2, f3⟩ := hG.pairs j b hj
    have hlt : j < es.length := by rw [lw]; exact (List.getElem?_eq_some_iff.mp f1).1
    have hlt2 : j < as.length := (List.getElem?_eq_some_iff.mp hj).1
    obtain ⟨e0, g1, g2, g3⟩ := pget (j := j) rel f1
    rw [List.getElem?_map, List.getElem?_eq_getElem hlt] at g1
    have g1 : en2 es[j] = e0 := Option.some.inj g1
    subst g1
    refine ⟨es[j], List.getElem?_eq_getElem hlt, fun H2 => ⟨by show 2 ≤ sizeLine; decide, [key, x], .cons ?_ (.cons g3 .nil), ⟨_, f3, rfl, _, rfl⟩⟩⟩
    have rk : RelV (kV es[j].1) key := by
      rw [show es[j].1 = k from g2]
      exact relV_key (show keyIs k key = true from f2)
    exact rk
  obtain ⟨H2, I2, g2, t2⟩ := takeT (P := fun b vs => ∃ (j : Nat) (e : Key × Key), as[j]? = some b ∧ es[j]? = some e ∧ vs = (pr2 e).map kV) I as H I1 nd fun b hb => by
    obtain ⟨j, hj⟩ := List.mem_iff_getElem?.mp hb
    obtain ⟨e, he, ok⟩ := at' j b hj
    exact ⟨Nat.le_of_lt (hG.above b hb), new b hb, _, ⟨j, e, hj, he, rfl⟩, ok⟩
  have pk : Paired (fun k b => H2 b = some (.tup (k.map kV))) (es.map pr2) as := by
    refine paired_of_get (by rw [List.length_map]; omega) fun j x b h1 h2 => ?_
    obtain ⟨vs, ⟨j', e, k1, k2, k3⟩, k4⟩ := t2 b (List.mem_of_getElem? h2)
    have ej : j = j' := by
      obtain ⟨l1, e1⟩ := List.getElem?_eq_some_iff.mp h2
      obtain ⟨l2, e2⟩ := List.getElem?_eq_some_iff.mp k1
      have pw := List.pairwise_iff_getElem.mp hG.rise
      rcases Nat.lt_trichotomy j j' with c | c | c
      · have := pw j j' l1 l2 c
        rw [e1, e2] at this
        exact absurd this (Nat.lt_irrefl _)
      · exact c
      · have := pw j' j l2 l1 c
        rw [e1, e2] at this
        exact absurd this (Nat.lt_irrefl _)
    subst ej
    rw [List.getElem?_map, k2] at h1
    have h1 : pr2 e = x := Option.some.inj h1
    rw [k4, k3, h1]
  have like : ∀ a ∈ es.map pr2, ∀ b ∈ es.map pr2, likeK a b = true := fun a ha b hb => by
    obtain ⟨p, hp, rfl⟩ := List.mem_map.mp ha
    obtain ⟨p', hp', rfl⟩ := List.mem_map.mp hb
    exact hl p hp p' hp'
  have kt : ∀ v ∈ as.map Value.ref, ∃ k ∈ es.map pr2, KTup h' v k := fun v hv => by
    obtain ⟨b, hb, rfl⟩ := List.mem_map.mp hv
    obtain ⟨k, h1, h2⟩ := paired_mem pk b hb
    exact ⟨k, h1, ktup_of I2.hok h2⟩
  refine wpAny_bind (wpAny_newList ?_ (by rw [List.length_map]; omega))
  refine wpAny_bind (wpAny_holding (wpAny_mono (sorted_tail (s := { s with heap := h', toks := tk }) (k := keyAt h') (Q := fun v s' => EP X pins σ Q v s') (by rw [List.length_map]; omega) (fun v hv => ?_) (fun v hv => ?_) (fun v hv u hu => ?_) fun h2 D out h3 h4 kp2 hD hn2 => ?_) (fun _ s' x => ?_) fun _ _ e => e))
  · obtain ⟨k, _, hk⟩ := kt v hv
    rw [keyAt_of hk]; exact hk
  · obtain ⟨k, hk1, hk⟩ := kt v hv
    rw [keyAt_of hk]
    obtain ⟨p, hp, rfl⟩ := List.mem_map.mp hk1
    exact fun z => nomatch z
  · obtain ⟨k, hk1, hk⟩ := kt v hv
    obtain ⟨j, hj1, hj⟩ := kt u hu
    rw [keyAt_of hk, keyAt_of hj]
    exact like k hk1 j hj1
  · obtain ⟨bs', ks', eo, s1, s2, s3⟩ := srt_out I2.hok rfl pk h3 h4.perm
    obtain ⟨n, hn2⟩ := hn2
    have inas : ∀ b ∈ bs', b ∈ as := fun b hb => by
      have : Value.ref b ∈ out := by rw [eo]; exact List.mem_map_of_mem hb
      obtain ⟨c, hc, e⟩ := List.mem_map.mp (h4.perm.mem_iff.mp this)
      cases e; exact hc
    refine ⟨.ref D, upd H2 D (.lst (bs'.map V.ref)), I2.laid (t' := tk) kp2 hD ⟨?_, out, n, by rw [eo]; exact refs_vals bs', hn2⟩, rfl, q H2 bs' ks' D g2 s1 s2 s3 (fun b hb => new b (inas b hb)) (I2.hok.fresh hD)⟩
    have e1 : (bs'.map V.ref).length = (as.map Value.ref).length := by
      rw [← h4.perm.length_eq, eo, List.length_map, List.length_map]
    rw [e1, List.length_map]; omega
  · exact wpAny_pure ⟨_, rfl, x⟩
end
end DL
/-! More of lists: extend, insert, index, repeated, sorted, ranges; op=; defs that call themselves. -/
namespace DL
open PySem PySem.Spec PyProof.Rows L2

/-! ### sorting as a function -/
section
variable {α : Type}
def insB (lt : α → α → Bool) (a : α) : List α → List α
  | [] => [a]
  | b :: l => if lt b a = true then b :: insB lt a l else a :: b :: l
def isort (lt : α → α → Bool) : List α → List α
  | [] => []
  | a :: l => insB lt a (isort lt l)
theorem insB_perm (lt : α → α → Bool) (a : α) : ∀ l : List α, (insB lt a l).Perm (a :: l)
  | [] => List.Perm.refl _
  | b :: l => by
    unfold insB
    split
    · exact ((insB_perm lt a l).cons b).trans (List.Perm.swap a b l)
    · exact List.Perm.refl _
theorem isort_perm (lt : α → α → Bool) : ∀ l : List α, (isort lt l).Perm l
  | [] => List.Perm.refl _
  | a :: l => (insB_perm lt a (isort lt l)).trans ((isort_perm lt l).cons a)
theorem insB_srt {lt : α → α → Bool} (O : SrtO.Swo lt) (a : α) : ∀ l : List α, SrtO.Srtd lt l → SrtO.Srtd lt (insB lt a l)
  | [], _ => List.pairwise_singleton _ _
  | b :: l, h => by
    obtain ⟨h1, h2⟩ := List.pairwise_cons.mp h
    unfold insB
    split
    · rename_i c
      refine List.pairwise_cons.mpr ⟨fun x hx => ?_, insB_srt O a l h2⟩
      rcases List.mem_cons.mp ((insB_perm lt a l).mem_iff.mp hx) with e | e
      · rw [e]; exact O.asym _ _ c
      · exact h1 x e
    · rename_i c
      have c : lt b a = false := by cases e : lt b a with | true => exact absurd e c | false => rfl
      refine List.pairwise_cons.mpr ⟨fun x hx => ?_, h⟩
      rcases List.mem_cons.mp hx with e | e
      · rw [e]; exact c
      · exact O.tr a b x c (h1 x e)
theorem isort_srt {lt : α → α → Bool} (O : SrtO.Swo lt) : ∀ l : List α, SrtO.Srtd lt (isort lt l)
  | [] => List.Pairwise.nil
  | a :: l => insB_srt O a _ (isort_srt O l)
/-- there is one sorted arrangement -/
theorem srt_uniq {lt : α → α → Bool} (tri : ∀ a b, lt a b = false → lt b a = false → a = b) : ∀ {l m : List α}, SrtO.Srtd lt l → SrtO.Srtd lt m → l.Perm m → l = m
  | [], m, _, _, h => (List.Perm.eq_nil h.symm).symm
  | x :: l, [], _, _, h => absurd h.length_eq (by simp)
  | x :: l, y :: m, hl, hm, h => by
    obtain ⟨a1, a2⟩ := List.pairwise_cons.mp hl
    obtain ⟨b1, b2⟩ := List.pairwise_cons.mp hm
    have e : x = y := by
      rcases List.mem_cons.mp (h.mem_iff.mp (List.mem_cons_self (a := x) (l := l))) with e | hx
      · exact e
      · rcases List.mem_cons.mp (h.mem_iff.mpr (List.mem_cons_self (a := y) (l := m))) with e | hy
        · exact e.symm
        · exact tri x y (b1 x hx) (a1 y hy)
    subst e
    rw [srt_uniq tri a2 b2 h.cons_inv]
theorem isort_of {lt : α → α → Bool} (O : SrtO.Swo lt) (tri : ∀ a b, lt a b = false → lt b a = false → a = b) {l m : List α} (h : SrtO.Srtd lt l) (p : l.Perm m) : l = isort lt m :=
  srt_uniq tri h (isort_srt O m) (p.trans (isort_perm lt m).symm)
end
def ltI (a b : Int) : Bool := decide (a < b)
theorem swo_I : SrtO.Swo ltI := ⟨fun x y h => by simp only [ltI, decide_eq_true_eq, decide_eq_false_iff_not] at h ⊢; omega, fun x y z h1 h2 => by simp only [ltI, decide_eq_false_iff_not] at h1 h2 ⊢; omega⟩
theorem tri_I (a b : Int) (h : ltI a b = false) (h2 : ltI b a = false) : a = b := by simp only [ltI, decide_eq_false_iff_not] at h h2; omega
abbrev sortI : List Int → List Int := isort ltI
abbrev sortK : List (List Key) → List (List Key) := isort fun a b => ltKs a b
theorem sortK_of {l m : List (List Key)} (h : SrtO.Srtd (fun a b => ltKs a b) l) (p : l.Perm m) : l = sortK m := isort_of (swo_keys fun a => a) (fun a b => ltKs_tri) h p
def keyP (k : List Key) : PD := .tuple (k.map keyD)
def allKeys : List PD → Option (List (List Key))
  | [] => some []
  | d :: ds => match keyT? d, allKeys ds with
    | some k, some ks => some (k :: ks)
    | _, _ => none
def likeAll (ks : List (List Key)) : Bool := ks.all fun a => !a.isEmpty && ks.all fun b => likeK a b
theorem likeAll_ok {ks : List (List Key)} (h : likeAll ks = true) : (∀ a ∈ ks, a ≠ []) ∧ ∀ a ∈ ks, ∀ b ∈ ks, likeK a b = true := by
  unfold likeAll at h
  rw [List.all_eq_true] at h
  refine ⟨fun a ha e => ?_, fun a ha b hb => ?_⟩
  · have := h a ha
    rw [e] at this
    simp at this
  · have := h a ha
    rw [Bool.and_eq_true, List.all_eq_true] at this
    exact this.2 b hb
theorem keyOf_of {d : PD} {k : Key} (h : keyOf d = some k) : d = keyD k := keyD_of h
theorem keysOf_of : ∀ {ds : List PD} {ks : List Key}, keysOf ds = some ks → ds = ks.map keyD
  | [], ks, h => by cases h; rfl
  | d :: ds, ks, h => by
    unfold keysOf at h
    split at h
    · rename_i k ks' e1 e2
      cases h
      rw [keyD_of e1, keysOf_of e2]; rfl
    · cases h
theorem keyT_of {d : PD} {k : List Key} (h : keyT? d = some k) : d = keyP k := by
  unfold keyT? at h
  split at h
  · rw [keysOf_of h]; rfl
  · cases h
theorem allKeys_of : ∀ {ds : List PD} {ks : List (List Key)}, allKeys ds = some ks → ds = ks.map keyP
  | [], ks, h => by cases h; rfl
  | d :: ds, ks, h => by
    unfold allKeys at h
    split at h
    · rename_i k ks' e1 e2
      cases h
      rw [keyT_of e1, allKeys_of e2]; rfl
    · cases h
theorem keysOf_map : ∀ ks : List Key, keysOf (ks.map keyD) = some ks
  | [] => rfl
  | k :: ks => by
    rw [List.map_cons]
    unfold keysOf
    rw [keyOf_keyD, keysOf_map ks]
theorem keyT_keyP (k : List Key) : keyT? (keyP k) = some k := keysOf_map k
theorem allKeys_map : ∀ ks : List (List Key), allKeys (ks.map keyP) = some ks
  | [] => rfl
  | k :: ks => by
    rw [List.map_cons]
    unfold allKeys
    rw [keyT_keyP, allKeys_map ks]
def sortedD : List PD → R PD
  | [.list ds] => match asInts ds with
    | some ns => .ok (.list ((sortI ns).map PyData.int))
    | none => match allKeys ds with
      | some ks => if likeAll ks = true then .ok (.list ((sortK ks).map keyP)) else .bad
      | none => .bad
  | _ => .bad
def rSort2 (K : PySem.W.Frag) : List V → Hp → VK → Prop := fun vs H Q => rSortedI K vs H Q ∨ rSortedK K vs H Q
theorem cr_sort2 {X : Cx} : CallR X (.builtin "sorted") (rSort2 X.K) := fun pins s σ H vs us Q I r h => h.elim (cr_sortedI pins s σ H vs us Q I r) (cr_sortedK pins s σ H vs us Q I r)
section
variable {K : PySem.W.Frag} {W : WX}
def backK : V → Key
  | .int i => .inl i
  | .str x => .inr x
  | _ => .inl 0
theorem backK_kV (k : Key) : backK (kV k) = k := by cases k <;> rfl
/-- a value's keys, by the heap -/
def keysAt (H : Hp) : V → List Key
  | .ref t => match H t with
    | some (.tup vs) => vs.map backK
    | _ => []
  | _ => []
theorem keysAt_of {H : Hp} {t : Addr} {k : List Key} (h : H t = some (.tup (k.map kV))) : keysAt H (.ref t) = k := by
  have e : keysAt H (.ref t) = (match H t with | some (.tup vs) => vs.map backK | _ => []) := rfl
  rw [e, h]
  show (k.map kV).map backK = k
  rw [List.map_map]
  have : (backK ∘ kV) = id := funext backK_kV
  rw [this, List.map_id]
theorem dp_keys {H : Hp} : ∀ {vs : List V} {ks : List (List Key)}, DpAll K H vs (ks.map keyP) → (∀ v ∈ vs, ∃ t k, k ∈ ks ∧ v = .ref t ∧ H t = some (.tup (k.map kV))) ∧ vs.map (keysAt H) = ks
  | [], [], .nil => ⟨fun v h => by (cases h), rfl⟩
  | v :: vs, k :: ks, .cons r rs => by
    obtain ⟨a, b⟩ := dp_keys rs
    obtain ⟨t, e, ht⟩ := key_t r (keyT_keyP k)
    refine ⟨fun u hu => ?_, ?_⟩
    · rcases List.mem_cons.mp hu with z | z
      · rw [z]; exact ⟨t, k, List.mem_cons_self, e, ht⟩
      · obtain ⟨t', k', z1, z2⟩ := a u z
        exact ⟨t', k', List.mem_cons_of_mem _ z1, z2⟩
    · rw [List.map_cons, b, e, keysAt_of ht]
theorem dp_of_keys {F : Hp} : ∀ {bs : List Addr} {ks : List (List Key)}, Paired (fun k b => F b = some (.tup (k.map kV))) ks bs → DpAll K F (bs.map V.ref) (ks.map keyP)
  | _, _, .nil => .nil
  | _, _, .cons (a := k) h t => .cons (.tup h (by
      induction k with
      | nil => exact .nil
      | cons k ks ih => exact .cons (key_dp k) (dpk ks)) ) (dp_of_keys t)
where dpk : ∀ {F : Hp} (ks : List Key), DpAll K F (ks.map kV) (ks.map keyD)
  | _, [] => .nil
  | _, k :: ks => .cons (key_dp k) (dpk ks)
theorem perm_ref {H : Hp} : ∀ {ys : List V}, (∀ v ∈ ys, ∃ t k, v = V.ref t ∧ H t = some (.tup (List.map kV k))) → ∃ bs : List Addr, ys = bs.map V.ref ∧ Paired (fun k b => H b = some (.tup (k.map kV))) (ys.map (keysAt H)) bs
  | [], _ => ⟨[], rfl, .nil⟩
  | y :: ys, h => by
    obtain ⟨bs, e, p⟩ := perm_ref fun v hv => h v (List.mem_cons_of_mem _ hv)
    obtain ⟨t, k, e2, ht⟩ := h y List.mem_cons_self
    refine ⟨t :: bs, by rw [e2, e]; rfl, .cons ?_ p⟩
    show H t = some (.tup (List.map kV (keysAt H y)))
    rw [e2, keysAt_of ht]; exact ht
theorem rco_sorted : RCo K (rSort2 K) sortedD := fun W σ F H vs ds Q s rs q => by
  unfold sortedD at q
  split at q
  · obtain ⟨v, rfl, rv⟩ := rs.one
    obtain ⟨p, us, rfl, s1, r1⟩ := rv.list s
    split at q
    · rename_i ns e
      have ed := asInts_ok e
      subst ed
      have eu := r1.of_ints
      subst eu
      refine .inl ⟨p, ns, rfl, .inl s1, fun ns' D hp hs hD => ?_⟩
      have : ns' = sortI ns := isort_of swo_I tri_I (hs.imp fun {a b} h => by simp only [ltI, decide_eq_false_iff_not]; omega) hp
      rw [this]
      exact q F _ (Ext.own s hD) D hD (s.free hD) ⟨_, upd_same, DpAll.ints⟩
    · split at q
      · rename_i ks e
        have ed := allKeys_of e
        subst ed
        split at q
        · rename_i hl
          obtain ⟨l1, l2⟩ := likeAll_ok hl
          have rH := r1.mono s
          obtain ⟨a1, a2⟩ := dp_keys rH
          refine .inr ⟨p, us, keysAt H, rfl, .inl s1, fun x hx => ?_, fun x hx y hy => ?_, fun ys D h1 h2 hD => ?_⟩
          · obtain ⟨t, k, hk, e2, ht⟩ := a1 x hx
            rw [e2, keysAt_of ht]
            exact ⟨l1 k hk, t, rfl, ht⟩
          · obtain ⟨t, k, hk, e2, ht⟩ := a1 x hx
            obtain ⟨t', k', hk', e2', ht'⟩ := a1 y hy
            rw [e2, e2', keysAt_of ht, keysAt_of ht']
            exact l2 k hk k' hk'
          · obtain ⟨bs, eb, pb⟩ := perm_ref (H := H) (ys := ys) fun v hv => by
              obtain ⟨t, k, _, e2, ht⟩ := a1 v (h2.mem_iff.mp hv)
              exact ⟨t, k, e2, ht⟩
            have ek : ys.map (keysAt H) = sortK ks := sortK_of (SrtO.srtd_map h1) (by rw [← a2]; exact h2.map _)
            rw [ek] at pb
            subst eb
            refine q _ _ (Ext.tups s (Ext.own s hD).h) D hD (frz_none (s.free hD) upd_same nt_lst) ⟨_, upd_same, dp_of_keys ?_⟩
            have up : ∀ {k : List Key} {b : Addr}, H b = some (.tup (k.map kV)) → frzF F (upd H D (.lst (bs.map V.ref))) [] b = some (.tup (k.map kV)) := fun {k b} hb =>
              frz_keep.tup (by rw [upd_ne (ne_of_none hb hD)]; exact hb)
            clear ek h1 h2
            generalize sortK ks = kz at pb
            generalize frzF F (upd H D (.lst (bs.map V.ref))) [] = G at up
            induction pb with
            | nil => exact .nil
            | cons h _ ih => exact .cons (up h) ih
        · exact q.elim
      · exact q.elim
  · exact q.elim
theorem kvt_keys {F : Hp} {es : List (List Key × V)} {kvs : List (List Key × PD)} (r : KvT K F es kvs) : es.map (·.1) = kvs.map (·.1) := by
  unfold KvT at r
  induction r with
  | nil => rfl
  | cons a _ ih => rw [List.map_cons, List.map_cons, ih, a.1]
/-- sorted(d), its keys tuples -/
def oSortT (i : Nat) : Rho → R PD := fun ρ => (tAt ρ i).bind fun kvs => if likeAll (kvs.map (·.1)) = true then .ok (.list ((sortK (kvs.map (·.1))).map keyP)) else .bad
theorem to_sortT (i : Nat) : TDo K W (tCB rSortedDT (tCons (tVar i) tNil)) (oSortT i) := fun F0 H0 F H σ ρ Q S q => by
  unfold oSortT at q
  rcases tAt_x ρ i with ⟨kvs, e⟩ | e
  · rw [e] at q
    obtain ⟨_, p, es, hs, rd, r⟩ := tAt_ok S e
    have q : Fin K W σ F H (if likeAll (kvs.map (·.1)) = true then .ok (.list ((sortK (kvs.map (·.1))).map keyP)) else .bad) (OwQ K H Q) := q
    split at q
    · rename_i hl
      obtain ⟨l1, l2⟩ := likeAll_ok hl
      have ee : es.map (·.1) = kvs.map (·.1) := by
        exact kvt_keys r
      refine ⟨.ref p, hs, p, es, rfl, rd, fun a ha => ?_, fun a ha b hb => ?_, fun bs ks D h1 h2 h3 hD => ?_⟩
      · exact l1 _ (by rw [← ee]; exact List.mem_map_of_mem ha)
      · exact l2 _ (by rw [← ee]; exact List.mem_map_of_mem ha) _ (by rw [← ee]; exact List.mem_map_of_mem hb)
      · have ek : ks = sortK (kvs.map (·.1)) := sortK_of h1 (by rw [← ee]; exact h2)
        have sm := S.same
        refine q _ _ (Ext.tups sm (Ext.own sm hD).h) D hD (frz_none (sm.free hD) upd_same nt_lst) ⟨_, upd_same, ?_⟩
        rw [← ek]
        refine dp_of_keys ?_
        have up : ∀ {k : List Key} {b : Addr}, H b = some (.tup (k.map kV)) → frzF F (upd H D (.lst (bs.map V.ref))) [] b = some (.tup (k.map kV)) := fun {k b} hb =>
          frz_keep.tup (by rw [upd_ne (ne_of_none hb hD)]; exact hb)
        clear ek h1 h2
        generalize frzF F (upd H D (.lst (bs.map V.ref))) [] = G at up
        induction h3 with
        | nil => exact .nil
        | cons h _ ih => exact .cons (up h) ih
    · exact q.elim
  · rw [e] at q; exact q.elim
end
end DL
/-! More of lists and dicts; op=; defs that call themselves. -/
namespace DL
open PySem PySem.Spec PyProof.Rows L2
section
variable {K : PySem.W.Frag} {W : WX} {te tf : TE} {g gi gf : Rho → R PD}
/-! ### sorted(d.items()) -/
def pairKs : List (PD × PD) → Option (List (Key × Key))
  | [] => some []
  | p :: r => match keyOf p.1, keyOf p.2, pairKs r with
    | some a, some b, some l => some ((a, b) :: l)
    | _, _, _ => none
theorem pairKs_kv {F : Hp} : ∀ {es : List (Key × V)} {kvs : List (PD × PD)} {l : List (Key × Key)}, KvR K F keyD es kvs → pairKs kvs = some l → es = l.map en2
  | _, _, l, .nil, h => by cases h; rfl
  | _, _, l, .cons r t, h => by
    unfold pairKs at h
    split at h
    · rename_i a b l' e1 e2 e3
      cases h
      rw [pairKs_kv t e3]
      have e2 := keyD_of e2
      simp only at e2
      rw [e2] at r
      have := key_rp (H := F) (.inl r)
      subst this
      rw [show keyOf _ = keyOf (keyD _) from rfl, keyOf_keyD] at e1
      cases e1
      rfl
    · cases h
def oSortIt (i : Nat) : Rho → R PD := fun ρ => match ρ[i]? with
  | some (some (.t (.own (.dict kvs)))) => (match pairKs kvs with
    | some l => if likeAll (l.map pr2) = true then .ok (.list ((sortK (l.map pr2)).map keyP)) else .bad
    | none => .bad)
  | _ => .bad
theorem to_sortIt (i : Nat) : TDo K W (tCB rSortedItK (tCons (tBM0 K "dict" rItemsK (tVar i)) tNil)) (oSortIt i) := fun F0 H0 F H σ ρ Q S q => by
  unfold oSortIt at q
  split at q
  · rename_i kvs ei
    obtain ⟨p, hs, _, _, es, hh, r⟩ := S.own i _ ei
    split at q
    · rename_i l el
      have ee := pairKs_kv r el
      subst ee
      split at q
      · rename_i hl
        obtain ⟨l1, l2⟩ := likeAll_ok hl
        refine ⟨.ref p, hs, .inr (.inr (.inl ⟨rfl, .inl ⟨_, hh⟩⟩)), p, _, rfl, rfl, hh, fun v hv => ?_⟩
        have hpv : p ≠ v := fun z => by subst z; rw [hh] at hv; cases hv
        refine ⟨v, p, l, rfl, upd_same, by rw [upd_ne hpv]; exact hh, fun x hx y hy => l2 _ (List.mem_map_of_mem hx) _ (List.mem_map_of_mem hy), fun H' bs ks D hk h1 h2 h3 hnew hD => ?_⟩
        have ek : ks = sortK (l.map pr2) := sortK_of h1 h2
        have sm : Same F H := S.same
        have e1 : Same H (upd H v (DX.itemsO v p)) := fun a u z => by rw [upd_ne (ne_of_none z hv)]; exact z
        have e2 : Same H (upd H' D (.lst (bs.map V.ref))) := fun a u z => by
          have := hk _ _ (e1 a u z)
          rw [upd_ne (ne_of_none this hD)]; exact this
        have hHD : H D = none := by
          cases z : H D with
          | none => rfl
          | some u => have := hk _ _ (e1 _ _ z); rw [hD] at this; cases this
        refine q _ _ (Ext.tups sm e2) D hHD (frz_none (sm.free hHD) upd_same nt_lst) ⟨_, upd_same, ?_⟩
        rw [← ek]
        refine dp_of_keys ?_
        have up : ∀ {k : List Key} {b : Addr}, H' b = some (.tup (k.map kV)) → frzF F (upd H' D (.lst (bs.map V.ref))) [] b = some (.tup (k.map kV)) := fun {k b} hb =>
          frz_keep.tup (by rw [upd_ne (ne_of_none hb hD)]; exact hb)
        clear ek h1 h2 hnew e2
        generalize frzF F (upd H' D (.lst (bs.map V.ref))) [] = G at up
        induction h3 with
        | nil => exact .nil
        | cons h _ ih => exact .cons (up h) ih
      · exact q.elim
    · exact q.elim
  · exact q.elim

/-! ### extend, insert, index -/
def rExtendR : V → List V → Hp → VK → Prop := fun x vs H Q => ∃ l b xs zs, x = .ref l ∧ vs = [.ref b] ∧ H l = some (.lst xs) ∧ Rd H b (.lst zs) ∧ xs.length + zs.length ≤ sizeLine ∧ Q .non (upd H l (.lst (xs ++ zs)))
theorem mt_extendR {X : Cx} : MtR X "list.extend" rExtendR := by
  intro pins s σ H x vs v us Q I rx rv h
  obtain ⟨l, b, xs, zs, rfl, rfl, hH, hB, hz, q⟩ := h
  cases rx
  obtain ⟨u, rfl, ru⟩ := rv.one
  cases ru
  obtain ⟨z, its, n, r, hl, e⟩ := I.lstM hH
  obtain ⟨z2, its2, n2, r2, e2⟩ := hB.ok I.hok
  have hl2 := r2.length
  have hsz : its.toArray.size + its2.toArray.size ≤ sizeLine := by rw [List.size_toArray, List.size_toArray]; omega
  have hlong : ¬ (!its.toArray.isEmpty && Builtin.List.listTooLong (its.toArray.size + its2.toArray.size)) = true := by
    rw [notLongL hsz, Bool.and_false]
    exact Bool.false_ne_true
  refine call_meets F.slot_list_extend ⟨_, e, rfl⟩ F.entry_list_extend (F.args_list_extend_2 _ _)
    (AutoSeq1.list_extend_list_list_0 l its.toArray n b its2.toArray n2 hlong (by rw [List.size_toArray]; omega) (by omega)) ⟨e, e2, ?_⟩
  refine ⟨.non, _, I.lset (its' := its ++ its2) hH e (by simp) (r.append r2) ?_, rfl, q⟩
  rw [List.length_append]
  omega
def extS (ρ : Rho) (i : Nat) (ds : List PD) : PD → SR
  | .list es => if ds.length + es.length ≤ sizeLine then .nx (ρ.set i (some (.o (.list (ds ++ es))))) else .bad
  | _ => .bad
def sExtend (i : Nat) (g : Rho → R PD) : Rho → SR := fun ρ => ownL ρ i fun ds => SR.of (g ρ) fun x => extS ρ i ds x
theorem ds_extend (i : Nat) (h : TDr K W te g) : TDS K W (tDrop (tBM K "list" rExtendR (tVar i) (tCons te tNil))) (sExtend i g) := fun F0 H0 F H σ ρ D S q => by
  obtain ⟨p, ds, vs, h1, h2, h3, h4, k⟩ := ownL_k S q
  refine ⟨.ref p, h2, .inl ⟨rfl, vs, SqL.of h3⟩, h F0 H0 F H σ ρ _ S (k.of S.ext fun x F1 H1 e1 k v rv => ?_)⟩
  unfold extS at k
  split at k
  · rename_i es
    split at k
    · rename_i hl
      obtain ⟨b, us, rfl, s1, r1⟩ := rv.list e1.g
      refine ⟨p, b, vs, us, rfl, rfl, e1.h p _ h3, s1, by rw [h4.length, r1.length]; exact hl, ?_⟩
      exact k σ F1 _ ((S.go e1).mut h1 h2 ⟨_, upd_same, (h4.mono e1.f).append r1⟩)
    · exact k.elim
  · exact k.elim
def insS (ρ : Rho) (i : Nat) (ds : List PD) (y : PD) : PD → SR
  | .int n => if ds.length < sizeLine ∧ 0 ≤ n ∧ n < 2 ^ 63 then .nx (ρ.set i (some (.o (.list (ds.take n.toNat ++ [y] ++ ds.drop n.toNat))))) else .bad
  | _ => .bad
def sInsertD (i : Nat) (gi g : Rho → R PD) : Rho → SR := fun ρ => ownL ρ i fun ds => SR.of (gi ρ) fun n => SR.of (g ρ) fun y => insS ρ i ds y n
theorem ds_insertD (i : Nat) {ti : TE} (hi : TDe K W ti gi) (h : TDe K W te g) : TDS K W (tDrop (tBM K "list" (fun x vs H Q => ∃ (l : Addr) (xs : List V) (i : Int) (y : V), x = .ref l ∧ vs = [.int i, y] ∧ H l = some (.lst xs) ∧ xs.length < sizeLine ∧ 0 ≤ i ∧ i < 2 ^ 63 ∧
    Q .non (upd H l (.lst (xs.take i.toNat ++ [y] ++ xs.drop i.toNat)))) (tVar i) (tCons ti (tCons te tNil)))) (sInsertD i gi g) := fun F0 H0 F H σ ρ D S q => by
  obtain ⟨p, ds, vs, h1, h2, h3, h4, k⟩ := ownL_k S q
  refine ⟨.ref p, h2, .inl ⟨rfl, vs, SqL.of h3⟩, hi F0 H0 F H σ ρ _ S (k.of S.ext fun n F1 H1 e1 k0 u ru => ?_)⟩
  have S1 := S.go e1
  refine h F0 H0 F1 H1 σ ρ _ S1 (FinS.of S1.ext k0 fun x F2 H2 e2 k v rv => ?_)
  clear k0
  unfold insS at k
  split at k
  · rename_i n
    split at k
    · rename_i hl
      have ru := (Rp.int (F := F1) (H := H1) (.inl ru))
      refine ⟨p, vs, n, v, rfl, by rw [ru], e2.h _ _ (e1.h p _ h3), by rw [h4.length]; exact hl.1, hl.2.1, hl.2.2, ?_⟩
      have e12 := e1.trans e2
      exact k σ F2 _ ((S.go e12).mut h1 h2 ⟨_, upd_same, (((h4.mono e12.f).take _).append (.cons rv .nil)).append ((h4.mono e12.f).drop _)⟩)
    · exact k.elim
  · exact k.elim
/-- list.index of plain things -/
def idxD (a b : PD) : R PD := match a with
  | .list ds => if flatP b = true ∧ ds.all flatP = true then (match ds.findIdx? (fun d => eqF d b) with | some j => .ok (.int (j : Nat)) | none => .bad) else .bad
  | _ => .bad
def listOf (a : PD) (k : R PD) : R PD := match a with
  | .list _ => k
  | _ => .bad
def eIndex (g gf : Rho → R PD) : Rho → R PD := fun ρ => (g ρ).bind fun a => listOf a ((gf ρ).bind fun b => idxD a b)
theorem td_index (h : TDr K W te g) (hf : TDr K W tf gf) : TDe K W (tBM K "list" (rIndex K) te (tCons tf tNil)) (eIndex g gf) := fun F0 H0 F H σ ρ Q S q =>
  h F0 H0 F H σ ρ _ S (q.then fun a F1 H1 e1 k1 v rv => by
    cases a with
    | list ds =>
      obtain ⟨p, vs, rfl, s1, r1⟩ := rv.list e1.g
      refine ⟨.inl ⟨rfl, vs, .inl s1⟩, hf F0 H0 F1 H1 σ ρ _ (S.go e1) (k1.then fun b F2 H2 e2 k2 u ru => ?_)⟩
      have k2 : Fin K W σ F2 H2 (if flatP b = true ∧ ds.all flatP = true then (match ds.findIdx? (fun d => eqF d b) with | some j => R.ok (PyData.int (j : Nat)) | none => .bad) else .bad) (DpQ K Q) := k2
      by_cases hfl : flatP b = true ∧ ds.all flatP = true
      · rw [if_pos hfl] at k2
        cases ej : ds.findIdx? (fun d => eqF d b) with
        | none => rw [ej] at k2; exact k2.elim
        | some j =>
          rw [ej] at k2
          obtain ⟨hj, hj1, hj2⟩ := List.findIdx?_eq_some_iff_getElem.mp ej
          have r2 := r1.mono e2.f
          have ej' : ds[j]? = some ds[j] := List.getElem?_eq_getElem hj
          obtain ⟨z, hz, rz⟩ := r2.get' ej'
          have fl : ∀ (m : Nat) (d : PD), ds[m]? = some d → flatP d = true := fun m d hm => List.all_eq_true.mp hfl.2 d (List.mem_of_getElem? hm)
          refine ⟨p, vs, u, j, z, rfl, rfl, .inl (rdM e2.h s1), flat_ok ru hfl.1, flats_ok r2 hfl.2, hz, ?_, fun m z' hm hz' => ?_, Fin.okk (x := PyData.int (j : Nat)) K W σ e2.g k2 _ (.int _)⟩
          · rw [eqV_ok rz ru (fl _ _ ej') hfl.1]; exact hj1
          · obtain ⟨d, hd, rd⟩ := r2.get hz'
            rw [eqV_ok rd ru (fl _ _ hd) hfl.1]
            have hml : m < ds.length := (List.getElem?_eq_some_iff.mp hd).1
            have := hj2 m hm
            rw [(List.getElem?_eq_some_iff.mp hd).2] at this
            simpa using this
      · rw [if_neg hfl] at k2
        exact k2.elim
    | _ => exact k1.elim)

/-! ### list * int -/
def repL : PD → PD → R PD
  | .list ds, .int k => if -(2 ^ 63) ≤ k ∧ k < 2 ^ 63 ∧ ds.length * k.toNat ≤ sizeLine then .ok (.list (List.replicate k.toNat ds).flatten) else .bad
  | _, _ => .bad
theorem DpAll.rep {F : Hp} {vs : List V} {ds : List PD} (r : DpAll K F vs ds) : ∀ n : Nat, DpAll K F (List.replicate n vs).flatten (List.replicate n ds).flatten
  | 0 => .nil
  | n + 1 => by rw [List.replicate_succ, List.replicate_succ, List.flatten_cons, List.flatten_cons]; exact r.append (DpAll.rep r n)
theorem to_rep {ta tb : TE} {ga gb : Rho → R PD} (ha : TDo K W ta ga) (hb : TDr K W tb gb) : TDo K W (tOp rRep ta tb) (eOp repL ga gb) := fun F0 H0 F H σ ρ Q S q =>
  ha F0 H0 F H σ ρ _ S (by
    unfold eOp at q
    cases ea : ga ρ with
    | exc c => rw [ea] at q; exact q
    | bad => rw [ea] at q; exact q
    | ok a =>
      rw [ea] at q
      replace q : Fin K W σ F H ((gb ρ).bind fun b => repL a b) (OwQ K H Q) := q
      intro F1 H1 e1 p hp hf ho
      refine hb F0 H0 F1 H1 σ ρ _ (S.go e1) ?_
      cases eb : gb ρ with
      | exc c => rw [eb] at q; exact Fin.mono e1 (r := (.exc c : R PD)) q
      | bad => rw [eb] at q; exact q
      | ok b =>
        rw [eb] at q
        intro F2 H2 e2 u ru
        have q2 : Fin K W σ F2 H2 (repL a b) (OwQ K H Q) := Fin.mono (e1.trans e2) q
        unfold repL at q2
        split at q2
        · rename_i ds k
          split at q2
          · rename_i h
            obtain ⟨vs, hv, r⟩ := ho
            refine ⟨p, k, vs, rfl, ru.int, e2.h _ _ hv, h.1, h.2.1, by rw [r.length]; exact h.2.2, fun D hD => ?_⟩
            have e12 := e1.trans e2
            have e3 := Ext.own (o := .lst (List.replicate k.toNat vs).flatten) e2.g hD
            exact q2 _ _ e3 D (e12.h.free hD) (e2.g.free hD) ⟨_, upd_same, (r.mono e2.f).rep _⟩
          · exact q2.elim
        · exact q2.elim)

/-! ### op= on ints, on texts -/
def sAug (i : Nat) (f : PD → PD → R PD) (g : Rho → R PD) : Rho → SR := fun ρ => SR.of (eVar i ρ) fun a => SR.of (g ρ) fun b => SR.of (f a b) fun z => .nx (ρ.set i (some (.d z)))
def RAug (K : PySem.W.Frag) (ti : TIp) (f : PD → PD → R PD) : Prop := ∀ (W : WX) (σ : L2.St) (F H : Hp) (x y : V) (a b : PD) (Q : VK), Same F H → Dp K F x a → Rp K F H y b → Fin K W σ F H (f a b) (DpQ K Q) → ti x y H Q
theorem ds_aug (i : Nat) {ti : TIp} {f : PD → PD → R PD} (hr : RAug K ti f) (h : TDr K W te g) : TDS K W (tAug i te ti) (sAug i f g) := fun F0 H0 F H σ ρ D S q => by
  unfold sAug eVar at q
  split at q
  · rename_i x e
    obtain ⟨v, a, b⟩ := S.dat i x e
    replace q : FinS K W F0 H0 D (SR.of (g ρ) fun b => SR.of (f x b) fun z => .nx (ρ.set i (some (.d z)))) := q
    refine ⟨v, a, h F0 H0 F H σ ρ _ S (q.of S.ext fun y F1 H1 e1 k u ru => ?_)⟩
    have S1 := S.go e1
    refine hr W σ F1 H1 v u x y _ e1.g (b.mono e1.f) ru (FinS.of S1.ext k fun z F2 H2 e2 k2 w rw' => ?_)
    exact k2 _ F2 H2 ((S1.go e2).setD rw')
  · exact q.elim
def iaddD : PD → PD → R PD := fun a b => match a, b with | .int i, .int j => .ok (.int (i + j)) | _, _ => .bad
def isubD : PD → PD → R PD := fun a b => match a, b with | .int i, .int j => .ok (.int (i - j)) | _, _ => .bad
theorem rd_iadd : RAug K (ipI fun i j => i + j) iaddD := fun W σ F H x y a b Q s ra rb q => by
  unfold iaddD at q
  split at q
  · exact ⟨_, _, (Rp.int (F := F) (H := H) (.inl ra)), rb.int, q.ok s _ (.int _)⟩
  · exact q.elim
theorem rd_isub : RAug K (ipI fun i j => i - j) isubD := fun W σ F H x y a b Q s ra rb q => by
  unfold isubD at q
  split at q
  · exact ⟨_, _, (Rp.int (F := F) (H := H) (.inl ra)), rb.int, q.ok s _ (.int _)⟩
  · exact q.elim

/-! ### ranges as lists and tuples -/
variable {ta tb : TE} {ga gb : Rho → R PD}
def rgOk (a b : Int) : Bool := decide (-(2 ^ 62) ≤ a) && decide (a < 2 ^ 62) && decide (-(2 ^ 62) ≤ b) && decide (b < 2 ^ 62) && decide ((b - a).toNat ≤ 2 ^ 24)
theorem rgOk_ok {a b : Int} (h : rgOk a b = true) : RgOk a b := by
  unfold rgOk at h
  simp only [Bool.and_eq_true, decide_eq_true_eq] at h
  exact ⟨h.1.1.1.1, h.1.1.1.2, h.1.1.2, h.1.2, h.2⟩
theorem rg_dp {F : Hp} (a b : Int) : DpAll K F (rgV a b) (rngD a (b - a).toNat) := by
  unfold rgV rngD
  generalize List.range (b - a).toNat = l
  induction l with
  | nil => exact .nil
  | cons x l ih => exact .cons (.int _) ih
def rgT : PD → PD → R PD
  | .int a, .int b => if rgOk a b = true then .ok (.tuple (rngD a (b - a).toNat)) else .bad
  | _, _ => .bad
def rgL : PD → PD → R PD
  | .int a, .int b => if rgOk a b = true then .ok (.list (rngD a (b - a).toNat)) else .bad
  | _, _ => .bad
theorem td_tupRg2 (ha : TDr K W ta ga) (hb : TDr K W tb gb) : TDe K W (tTupRg (tRg2 ta tb)) (eOp rgT ga gb) := fun F0 H0 F H σ ρ Q S q =>
  ha F0 H0 F H σ ρ _ S (q.then fun a F1 H1 e1 k1 v rv => hb F0 H0 F1 H1 σ ρ _ (S.go e1) (k1.then fun b F2 H2 e2 k2 u ru => by
    unfold rgT at k2
    split at k2
    · split at k2
      · rename_i h
        exact ⟨_, _, rv.int, ru.int, rgOk_ok h, fun D hD => new_tup e2.g (rg_dp _ _) k2 hD⟩
      · exact k2.elim
    · exact k2.elim))
theorem td_tupRg1 (ha : TDr K W ta ga) : TDe K W (tTupRg (tRg1 ta)) (eUn (rgT (.int 0)) ga) := fun F0 H0 F H σ ρ Q S q =>
  ha F0 H0 F H σ ρ _ S (q.then fun a F1 H1 e1 k1 v rv => by
    unfold rgT at k1
    split at k1
    · rename_i z1 z2
      injection z2 with z2
      subst z2
      split at k1
      · rename_i h
        exact ⟨_, rv.int, rgOk_ok h, fun D hD => new_tup e1.g (rg_dp _ _) k1 hD⟩
      · exact k1.elim
    · exact k1.elim)
theorem to_lstRg1 (ha : TDr K W ta ga) : TDo K W (tLstRg (tRg1 ta)) (eUn (rgL (.int 0)) ga) := fun F0 H0 F H σ ρ Q S q =>
  ha F0 H0 F H σ ρ _ S (by
    unfold eUn at q
    cases ea : ga ρ with
    | exc c => rw [ea] at q; exact q
    | bad => rw [ea] at q; exact q
    | ok a =>
      rw [ea] at q
      replace q : Fin K W σ F H (rgL (.int 0) a) (OwQ K H Q) := q
      unfold rgL at q
      split at q
      · rename_i z1 z2
        injection z2 with z2
        subst z2
        split at q
        · rename_i h
          intro F1 H1 e1 v rv
          exact ⟨_, rv.int, rgOk_ok h, fun D hD => q F1 _ (e1.trans (Ext.own e1.g hD)) D (e1.h.free hD) (e1.g.free hD) ⟨_, upd_same, rg_dp _ _⟩⟩
        · exact q.elim
      · exact q.elim)

/-! ### defs that call themselves -/
theorem kept_bad {P : Program} {w : World} {mg : Str → Option Value} {base : Heap} {x : Str} {params : Arguments} {body : List Stmt} {scope : Scope} {ps : List Str} {k n : Nat}
    (hF : ∃ fd : FuncData, FunD K x x params body scope [] [] (He.ga K x) fd) (hg : mg x = some (.ref (He.ga K x))) (hn : ps.length = n)
    (hbd : ∀ (kV doc pm : Value) (an : Option Addr) (cdv ct : Value) (us : List Value), us.length = ps.length → bindArgs (PySem.W.fnOf x x params body scope .none kV doc pm an cdv ct) ⟨us, []⟩ = pure (ps.zip us)) :
    Kept P w K mg base k n x ps (fun _ => .bad) := by
  obtain ⟨fd, FD⟩ := hF
  subst hn
  exact ⟨fd, FD.kp, hg, FD.bindsN hbd, ⟨fun vs H Q E h => h.1, fun A outer s H args us vs Q E hr _ _ _ hsp => by
    obtain ⟨_, _, _, _, _, hq⟩ := hsp
    exact hq.elim⟩⟩
end
end DL
/-! list(reversed(xs)); reversed(range(..)); defs whose arguments are given away; changes within a tree. -/
namespace DL
section
open PySem PySem.Spec PyProof.Rows L2 RT
variable {prog : Program} {w : World} {A : Around} {E : Value → Shared → Prop} {s : Shared}
theorem extend_rev {R : Result → Shared → Prop} {it l : Addr} {items : Array Value} (hh : A.handled = none) (hit : s.heap.IsRevIter it l ((items.size : Int) - 1)) (hl : s.heap.IsList l items) (hne : l ≠ it) (hn : items.size ≤ sizeLine)
    (S : Addr) (hSi : S ≠ it) (hSl : S ≠ l) (res : Value) (c₀ : Nat) (hS : s.heap.get? S = some { cls := .type "list", data := .seq #[] c₀ })
    (hR : ∀ h' tk acc' c', (∀ b o, b ≠ S → b ≠ it → s.heap.get? b = some o → h'.get? b = some o) → h'.get? S = some { cls := .type "list", dict := none, data := .seq acc' c', slots := #[] } → ItemsOf (fun i v => items[items.size - 1 - i]? = some v) acc' items.size → R (.ok (.ret res)) { s with heap := h', toks := tk }) :
    wpAny (model prog w) A.in1 (Builtin.List.listExtendWith (.ref S) (.ref it) res)
      (fun fin s' => match fin with | .done f => R (.ok f) s' | .again c' => c'.quiet = true ∧ codeAny (model prog w) A c' R s') (fun e s' => R (.error e) s') s := by
  have W := (Walks.listRev (prog := prog) (w := w) (A := A.in1) hh it l hne items).toS
  have hSf : S ∉ [it, l] := by simp only [List.mem_cons, List.not_mem_nil, or_false, not_or]; exact ⟨hSi, hSl⟩
  have hT : s.TypeIs (.ref it) "list_reverseiterator" := Heap.IsRevIter.typeIs hit
  have h1 : Builtin.List.listSameRef (.ref S) (.ref it) = false := by simp [Builtin.List.listSameRef, hSi]
  unfold Builtin.List.listExtendWith
  refine wpAny_bind (wpAny_typeOf hT ?_)
  rw [if_neg (by rw [h1]; decide)]
  refine wpAny_bind (wpAny_pyIter_revIter hit ?_)
  refine wpAny_bind (wpAny_holding ?_)
  unfold Builtin.List.listLengthHint
  refine wpAny_bind (wpAny_specialOf hT nolen_lri ?_)
  show wpAny _ A.in1 (specialOf (Value.ref it) (Str.ofString "__length_hint__") >>= _) _ _ _
  refine wpAny_bind (wpAny_specialOf hT hint_lri ?_)
  generalize hid : ("list_reverseiterator.__length_hint__" : String) = id0
  wp_delta
  rw [show splitId id0 = some ("list_reverseiterator", "__length_hint__") from by subst hid; decide +kernel]
  subst hid
  refine wpAny_bind (wpAny_isInstance (b := true) hT (by rw [isSubtype_type]; kernel_rfl) ?_)
  refine wpAny_pure ?_
  rw [if_neg (by decide)]
  have e0 : ((items.size : Nat) : Int) - 1 - ((0 : Nat) : Int) = (items.size : Int) - 1 := by omega
  refine wpAny_pure ⟨plainId_quiet F.plain_extend_loop _, codeAny_extend_loopS W hn _ hSf _ items.size 0 _ _ _ rfl (Nat.zero_le _) ⟨Nat.zero_le _, by rw [e0]; exact hit, hl⟩ hS (ItemsOf.nil _) fun s' acc' c' hm hS' hacc => ?_⟩
  rw [Moved.eq_with hm]
  refine hR s'.heap s'.toks acc' c' (fun b o hb hb2 e => hm.heap b o (fun hmem => ?_) e) hS' hacc
  rcases List.mem_cons.mp hmem with e' | hmem
  · exact hb e'
  · exact hb2 (List.mem_singleton.mp hmem)
theorem call_list_rev {it l : Addr} {items : Array Value} {Q : Value → Shared → Prop} (hh : A.handled = none) (hit : s.heap.IsRevIter it l ((items.size : Int) - 1)) (hl : s.heap.IsList l items) (hne : l ≠ it) (hn : items.size ≤ sizeLine)
    (hQ : ∀ h' tk acc' c', (∀ b o, b ≠ it → s.heap.get? b = some o → h'.get? b = some o) → h'.get? s.heap.objs.size = some { cls := .type "list", dict := none, data := .seq acc' c', slots := #[] } → ItemsOf (fun i v => items[items.size - 1 - i]? = some v) acc' items.size → Q (.ref s.heap.objs.size) { s with heap := h', toks := tk }) :
    wpAny (model prog w) A (call (.type "list") [.ref it]) Q E s := by
  refine callType_codes (Q₁ := fun obj s₁ => obj = .ref s.heap.objs.size ∧ s₁ = { s with heap := s.heap.push { cls := .type "list", data := .seq #[] } }) PySem.F.called_list (PySem.F.typeCall_list_1 _) PySem.F.entry_list_init
    (code_list_new _ ⟨rfl, rfl⟩) fun obj s₁ h₁ => ?_
  obtain ⟨rfl, rfl⟩ := h₁
  have hS : (s.heap.push { cls := .type "list", data := .seq #[] }).get? s.heap.objs.size = some { cls := .type "list", data := .seq #[] } := Heap.get?_push_size _ rfl
  obtain ⟨oi, hoi, _⟩ := id hit
  obtain ⟨ol, hol, _⟩ := id hl
  have hSi : s.heap.objs.size ≠ it := Nat.ne_of_gt (Heap.lt_size hoi)
  have hSl : s.heap.objs.size ≠ l := Nat.ne_of_gt (Heap.lt_size hol)
  refine ⟨⟨_, hS, rfl⟩, PySem.F.args_list_init_2 _ _, ?_⟩
  show wpAny _ A.in1.in1 (do let old ← Builtin.List.listItems (.ref s.heap.objs.size); Builtin.List.listUpdate (.ref s.heap.objs.size) (fun _ => #[]); letGo old.toList.reverse; Builtin.List.listExtendWith (.ref s.heap.objs.size) (.ref it) .none) _ _ _
  refine wpAny_bind ?_
  unfold Builtin.List.listItems
  refine wpAny_bind (wpAny_seqItems hS rfl (wpAny_pure ?_))
  show wpAny _ _ (updateSeq s.heap.objs.size (fun _ => #[]) >>= fun _ => letGo (#[] : Array Value).toList.reverse >>= fun _ => Builtin.List.listExtendWith (.ref s.heap.objs.size) (.ref it) .none) _ _ _
  refine wpAny_bind (wpAny_updateSeq hS rfl ?_)
  have hS₂ := Heap.get?_update_self (Obj.mapSeq (fun _ => (#[] : Array Value))) hS rfl
  have oth : ∀ b o, b ≠ s.heap.objs.size → s.heap.get? b = some o → ((s.heap.push { cls := .type "list", data := .seq #[] }).update s.heap.objs.size (Obj.mapSeq (fun _ => (#[] : Array Value)))).get? b = some o :=
    fun b o hb e => (Heap.get?_update_other _ _ (Ne.symm hb)).trans (Heap.get?_push_of_some _ e)
  have low : ∀ b o, s.heap.get? b = some o → b ≠ s.heap.objs.size := fun b o e => Nat.ne_of_lt (Heap.lt_size e)
  refine wpAny_bind (wpAny_letGo ?_)
  refine extend_rev (A := A.in1) (s := { s with heap := (s.heap.push { cls := .type "list", data := .seq #[] }).update s.heap.objs.size (Obj.mapSeq (fun _ => (#[] : Array Value))) }) hh (hit.at fun o e => oth _ _ (low _ _ e) e) ?_ hne hn _ hSi hSl .none _ hS₂ fun h' tk acc' c' hk hS' hacc => ?_
  · obtain ⟨o, ho, hc, n, hd⟩ := hl
    exact ⟨o, oth _ _ (low _ _ ho) ho, hc, n, hd⟩
  · exact ⟨rfl, hQ h' tk acc' c' (fun b o hb e => hk b o (low _ _ e) hb (oth b o (low _ _ e) e)) hS' hacc⟩
end
section
open PySem PySem.Spec PyProof.Rows L2 RT
variable {X : Cx}
/-- list(reversed(e)), e a list -/
def tListRev (K : PySem.W.Frag) (te : TE) : TE := fun σ H Q => te σ H fun v H1 => ∃ (a : Addr) (xs : List V), v = .ref a ∧ SqL K H1 a xs ∧ ∀ q, H1 q = none → Q (.ref q) (upd H1 q (.lst xs.reverse))
theorem pe_listRev {e : Expr} {te : TE} {p p2 pos pos2 : Pos} (hc : X.calm = true) (hg : Gl X "list") (hm : X.mg "list" = none) (hg2 : Gl X "reversed") (hm2 : X.mg "reversed" = none) (he : PE X e te)
    (hs : starEach [e] X.env = (false, eval e X.env) :: starEach [] X.env := by rfl)
    (hs2 : starEach [.Call (.Name "reversed" p2) [e] [] pos2] X.env = (false, eval (.Call (.Name "reversed" p2) [e] [] pos2) X.env) :: starEach [] X.env := by rfl) :
    PE X (.Call (.Name "list" p) [.Call (.Name "reversed" p2) [e] [] pos2] [] pos) (tListRev X.K te) := by
  refine ⟨fun pins s σ H Q I h => ?_⟩
  refine Call_ (ld_blt I hg hm boot_list (PyProof.Rows.callWith_type1 (args_cons (Call_ (ld_blt I hg2 hm2 PyProof.Rows.boot_reversed (PyProof.Rows.callWith_type1 (args_cons (thn (he.run pins s σ H _ I h) fun u s1 ⟨v, H1, I1, r1, q1⟩ => args_nil ?_) hs) hs rfl))) hs2) hs2 rfl))
  obtain ⟨a, xs, ev, hq, q⟩ := q1
  subst ev
  obtain rfl : u = Value.ref a := r1
  obtain ⟨its, rv, p', hz⟩ := I1.list hq
  refine call_reversed_list p'.isList (args_nil ?_)
  have k0 : ∀ b o, s1.heap.get? b = some o → (s1.heap.push (revObj a ((its.toArray.size : Int) - 1))).get? b = some o := fun b o e => Heap.get?_push_of_some _ e
  have I2 : Inv X pins σ H1 { s1 with heap := s1.heap.push (revObj a ((its.toArray.size : Int) - 1)) } := I1.kept (t' := s1.toks) k0
  obtain ⟨f0, f1, f2, f3, f4, f5⟩ := I1.fpOk (H' := H1) (b := s1.heap.objs.size) (Nat.le_refl _) (I1.hok.fresh (Nat.le_refl _))
  have hl := p'.isList
  obtain ⟨ol, hol, _⟩ := id hl
  have hne : a ≠ s1.heap.objs.size := Nat.ne_of_lt (Heap.lt_size hol)
  have hn : its.toArray.size ≤ sizeLine := by rw [List.size_toArray, ← rv.length]; exact hz
  refine call_list_rev (s := { s1 with heap := s1.heap.push (revObj a ((its.toArray.size : Int) - 1)) }) (I1.ok.hd hc) ⟨_, Heap.get?_push_size _ rfl, rfl, rfl⟩ (hl.push _) hne hn fun h' tk acc c' hk hS hi => ?_
  have hnT : H1 (s1.heap.push (revObj a ((its.toArray.size : Int) - 1))).objs.size = none := I2.hok.fresh (Nat.le_refl _)
  have I3 := I2.turnedNew (h' := h') (t' := tk) (ch := [s1.heap.objs.size]) (T := (s1.heap.push (revObj a ((its.toArray.size : Int) - 1))).objs.size) (ob := .lst xs.reverse) (fun b o hb e => hk b o (fun z => hb (by rw [z]; exact List.mem_singleton.mpr rfl)) e)
    (fun b hb => by rw [List.mem_singleton.mp hb]; exact ⟨f0, f1, f2, f3, f4, f5⟩) (Nat.le_refl _) ⟨by rw [List.length_reverse]; exact hz, acc.toList, c', vals_rev rv hi, by rw [Array.toArray_toList]; exact hS⟩
  exact ⟨.ref _, _, I3, rfl, q _ hnT⟩
end
section
open PySem PySem.Spec PyProof.Rows L2
variable {K : PySem.W.Frag} {W : WX} {te : TE} {g : Rho → R PD}
def oListRev (g : Rho → R PD) : Rho → R PD := fun ρ => (g ρ).bind fun a => match a with
  | .list l => .ok (.list l.reverse)
  | _ => .bad
theorem DpAll.rev {F : Hp} : ∀ {vs : List V} {ds : List PD}, DpAll K F vs ds → DpAll K F vs.reverse ds.reverse
  | _, _, .nil => .nil
  | _, _, .cons r t => by rw [List.reverse_cons, List.reverse_cons]; exact (DpAll.rev t).append (.cons r .nil)
theorem to_listRev (h : TDr K W te g) : TDo K W (tListRev K te) (oListRev g) := fun F0 H0 F H σ ρ Q S q =>
  h F0 H0 F H σ ρ _ S (by
    unfold oListRev at q
    cases eg : g ρ with
    | exc c => rw [eg] at q; exact q
    | bad => rw [eg] at q; exact q
    | ok a =>
      rw [eg] at q
      cases a with
      | list l =>
        intro F1 H1 e1 v rv
        obtain ⟨p, us, rfl, s1, r1⟩ := rv.list e1.g
        exact ⟨p, us, rfl, .inl s1, fun D hD => (q : ∀ F' H', Ext F H F' H' → OwQ K H Q (.list l.reverse) F' H') F1 _ (e1.trans (Ext.own e1.g hD)) D (e1.h.free hD) (e1.g.free hD) ⟨_, upd_same, DpAll.rev r1⟩⟩
      | _ => exact q.elim)
/-! ### reversed(range(..)) -/
theorem itr_rgRev {F : Hp} {n : Nat} {lo : Int} : ItR K F (rngD lo n).reverse (Itc (lo + ((n : Nat) : Int) - 1) (-1) n) := fun i F1 H1 e1 e2 => by
  have hl : (rngD lo n).length = n := by simp [rngD]
  refine ⟨fun d hd => ?_, fun h => by rw [List.length_reverse, hl] at h; exact h⟩
  have hi : i < n := by
    have := (List.getElem?_eq_some_iff.mp hd).1
    rwa [List.length_reverse, hl] at this
  rw [List.getElem?_reverse (by rw [hl]; exact hi), hl] at hd
  unfold rngD at hd
  rw [List.getElem?_map, List.getElem?_range (by omega)] at hd
  cases hd
  refine ⟨hi, fun x H2 y => ?_⟩
  obtain ⟨rfl, rfl⟩ := y
  refine ⟨F1, Ext.refl e2, ?_⟩
  have e : lo + ((n : Nat) : Int) - 1 + ((i : Nat) : Int) * (-1) = lo + (((n - 1 - i : Nat)) : Int) := by omega
  rw [e]
  exact .int _
def iRvR1 (ga : Rho → R PD) : Rho → R (List PD) := fun ρ => (ga ρ).bind fun a => match a with
  | .int j => if small62 j = true then .ok (rngD 0 j.toNat).reverse else .bad
  | _ => .bad
theorem di_rvR1 {ta : TE} {ga : Rho → R PD} (h : TDr K W ta ga) : TDi K W (iRevR (tRg1 ta)) (iRvR1 ga) := fun F0 H0 F H σ ρ Q S q =>
  h F0 H0 F H σ ρ _ S (q.then fun a F1 H1 e1 k1 v rv => by
    cases a with
    | int j =>
      replace k1 : Fin K W σ F1 H1 (if small62 j = true then .ok (rngD 0 j.toNat).reverse else .bad) (fun ds F' H' => ∀ J, ItR K F' ds J → Q J H') := k1
      by_cases hs : small62 j = true
      · rw [if_pos hs] at k1
        obtain ⟨h1, h2⟩ := small62_ok hs
        have h0 : (j - 0).toNat = j.toNat := by omega
        refine ⟨j, rv.int, by decide, by decide, h1, h2, ?_⟩
        rw [h0]
        exact Fin.okk K W σ e1.g k1 _ itr_rgRev
      · rw [if_neg hs] at k1; exact k1.elim
    | _ => exact k1.elim)

/-! ### defs whose arguments may be given away -/
def cutL (H : Hp) (fp : List Addr) : Hp := fun p => if p ∈ fp then none else H p
theorem cutL_in {H : Hp} {fp : List Addr} {p : Addr} (h : p ∈ fp) : cutL H fp p = none := if_pos h
theorem cutL_out {H : Hp} {fp : List Addr} {p : Addr} (h : p ∉ fp) : cutL H fp p = H p := if_neg h
theorem cutL_same {H : Hp} {fp : List Addr} : Same (cutL H fp) H := fun p u e => by
  by_cases h : p ∈ fp
  · rw [cutL_in h] at e; cases e
  · rw [cutL_out h] at e; exact e
/-- a promise over trees: what the arguments own is the def's -/
def spT (K : PySem.W.Frag) (n : Nat) (f : List Tv → FR) : Sp := fun vs H Q E => vs.length = n ∧ ∃ F H0 fp ts, Same F H0 ∧ Same H0 H ∧ TvAll K F H fp vs ts ∧ fp.Nodup ∧ (∀ p ∈ fp, H0 p = none) ∧ FRQ K F H0 Q E (f ts)
def startT (n : Nat) (ts : List Tv) : Rho := ts.map (fun t => some (slOf t)) ++ List.replicate (n - ts.length) none
def runT (n : Nat) (s : Rho → SR) (ts : List Tv) : FR := (s (startT n ts)).fr
/-- the footprints of a list of trees, one by one -/
theorem tvAll_split {F H : Hp} : ∀ {fp : List Addr} {vs : List V} {ts : List Tv}, TvAll K F H fp vs ts → fp.Nodup → ∃ φ : Nat → List Addr, (∀ i p, p ∈ φ i → p ∈ fp) ∧ (∀ i, (φ i).Nodup) ∧ (∀ i j p, p ∈ φ i → p ∈ φ j → i = j) ∧ ∀ (i : Nat) (t : Tv), ts[i]? = some t → ∃ v, vs[i]? = some v ∧ TvAt K F H (φ i) v t
  | _, _, _, .nil, _ => ⟨fun _ => [], fun i p h => (by cases h), fun i => List.nodup_nil, fun i j p h => (by cases h), fun i t h => (by simp at h)⟩
  | _, _, _, .cons (fp := fp) (fq := fq) h k, nd => by
    obtain ⟨n1, n2, n3⟩ := List.nodup_append.mp nd
    obtain ⟨φ, a1, a2, a3, a4⟩ := tvAll_split k n2
    refine ⟨fun i => match i with | 0 => fp | i + 1 => φ i, fun i p hp => ?_, fun i => ?_, fun i j p hi hj => ?_, fun i t e => ?_⟩
    · cases i with
      | zero => exact List.mem_append_left _ hp
      | succ i => exact List.mem_append_right _ (a1 i p hp)
    · cases i with
      | zero => exact n1
      | succ i => exact a2 i
    · cases i with
      | zero =>
        cases j with
        | zero => rfl
        | succ j => exact absurd rfl (n3 p hi p (a1 j p hj))
      | succ i =>
        cases j with
        | zero => exact absurd rfl (n3 p hj p (a1 i p hi))
        | succ j => rw [a3 i j p hi hj]
    · cases i with
      | zero => cases e; exact ⟨_, rfl, h⟩
      | succ i => exact a4 i t e
theorem start_okT {F H0 H : Hp} {N : List Str} {vs : List V} {ts : List Tv} {fp : List Addr} (s1 : Same F H0) (s2 : Same H0 H) (r : TvAll K F H fp vs ts) (nd : fp.Nodup) (h0 : ∀ p ∈ fp, H0 p = none) : StR K F H0 F H (start N vs) (startT N.length ts) := by
  have hl := r.length
  obtain ⟨φ, a1, a2, a3, a4⟩ := tvAll_split r nd
  have gd : ∀ (j : Nat) (y : Sl), (startT N.length ts)[j]? = some (some y) → ∃ t, y = slOf t ∧ ts[j]? = some t := fun j y e => by
    unfold startT at e
    by_cases hj : j < ts.length
    · rw [List.getElem?_append_left (by simpa using hj), List.getElem?_map] at e
      cases z : ts[j]? with
      | none => rw [z] at e; cases e
      | some d => rw [z] at e; cases e; exact ⟨d, rfl, rfl⟩
    · rw [List.getElem?_append_right (by simpa using hj), List.getElem?_replicate] at e
      split at e
      · cases e
      · cases e
  have val : ∀ (j : Nat) (v : V), vs[j]? = some v → (L2.start N vs)[j]? = some (some v) := fun j v e => by
    unfold L2.start
    rw [List.getElem?_append_left (by simpa using (List.getElem?_eq_some_iff.mp e).1), List.getElem?_map, e]
    rfl
  refine ⟨φ, ⟨Same.refl F, s1.trans s2, s2, fun _ h => .inl h⟩, ?_, fun i x e => ?_, fun i x e => ?_, fun i p h => ?_, a2, a3, fun i x e => ?_⟩
  · unfold L2.start startT; simp [hl]
  · obtain ⟨t, e1, e2⟩ := gd i _ e
    obtain ⟨v, b1, b2⟩ := a4 i t e2
    cases t with
    | fr d =>
      cases e1
      generalize φ i = fp at b2
      cases b2 with
      | fr b2 => exact ⟨v, val i v b1, b2⟩
    | _ => cases e1
  · obtain ⟨t, e1, e2⟩ := gd i _ e
    obtain ⟨v, b1, b2⟩ := a4 i t e2
    cases t with
    | fr d => cases e1
    | _ => cases e1; exact ⟨v, val i v b1, b2⟩
  · have hp := a1 i p h
    refine ⟨h0 p hp, s1.free (h0 p hp), r.nt p hp⟩
  · obtain ⟨t, e1, e2⟩ := gd i _ e
    cases t <;> cases e1
theorem fnT {P : Program} {w : World} {mg : Str → Option Value} {base : Heap} {x qual : Str} {params : Arguments} {body : List Stmt} {scope : Scope} {f : Addr} {fd : FuncData} {N ps : List Str} {k : Nat} {s : Rho → SR}
    (F : FunD K x qual params body scope [] [] f fd) (S : FnScope N ps scope)
    (hb : ∀ (cdv : Value) (A : Around) (outer : List Env) (sh : Shared) (H : Hp) (E : XK), Room k (A.deeper (envOfC qual scope sh.heap.objs.size f cdv)) →
      Takes (cxOf (L2.CX P w) P w K mg base N qual scope f cdv A outer sh H E) (fun cls d _ H => E cls d H) →
      ∃ t, PSs (cxOf (L2.CX P w) P w K mg base N qual scope f cdv A outer sh H E) body t ∧ TDS K (fun cls d _ H => E cls d H) t s) : FnOk P w K mg base (L2.CX P w) (k + 1) f fd ps (spT K ps.length (runT N.length s)) := by
  refine F.ok S (fun vs H Q E h => h.1) (fun cdv A outer sh H vs Q E hr h => ?_)
  obtain ⟨hl, F0, H0, fp, ts, s1, s2, ht, nd, h0, hq⟩ := h
  obtain ⟨t, h1, h2⟩ := hb cdv A outer sh H E hr (takes_of rfl rfl rfl (E₁ := _) rfl)
  refine ⟨t, h1, h2 F0 H0 F0 H _ _ _ (start_okT s1 s2 ht nd h0) ?_⟩
  unfold runT at hq
  cases e : s (startT N.length ts) with
  | nx ρ => rw [e] at hq; exact fun σ F1 H1 S1 => hq .non F1 H1 S1.ext .non
  | bk ρ => rw [e] at hq; exact hq.elim
  | ct ρ => rw [e] at hq; exact hq.elim
  | rt s => rw [e] at hq; exact hq
  | exc c => rw [e] at hq; exact fun cls d σ F1 H1 ex r => hq cls d F1 H1 ex r
  | bad => rw [e] at hq; exact hq.elim
def KeptT (P : Program) (w : World) (K : PySem.W.Frag) (mg : Str → Option Value) (base : Heap) (k n : Nat) (x : Str) (ps : List Str) (f : List Tv → FR) : Prop :=
  ∃ fd : FuncData, PySem.W.keepIn K (.ref (He.ga K x)) = true ∧ mg x = some (.ref (He.ga K x)) ∧ Binds K fd ps [] ∧ FnOk P w K mg base (L2.CX P w) k (He.ga K x) fd ps (spT K n f)
theorem kept_ofT {P : Program} {w : World} {mg : Str → Option Value} {base : Heap} {x : Str} {params : Arguments} {body : List Stmt} {scope : Scope} {N ps : List Str} {k n : Nat} {s : Rho → SR} {f : List Tv → FR}
    (hF : ∃ fd : FuncData, FunD K x x params body scope [] [] (He.ga K x) fd) (hg : mg x = some (.ref (He.ga K x))) (S : FnScope N ps scope) (hn : ps.length = n) (hf : f = runT N.length s)
    (hbd : ∀ (kV doc pm : Value) (an : Option Addr) (cdv ct : Value) (us : List Value), us.length = ps.length → bindArgs (PySem.W.fnOf x x params body scope .none kV doc pm an cdv ct) ⟨us, []⟩ = pure (ps.zip us))
    (hb : ∀ (cdv : Value) (A : Around) (outer : List Env) (sh : Shared) (H : Hp) (E : XK), Room k (A.deeper (envOfC x scope sh.heap.objs.size (He.ga K x) cdv)) →
      Takes (cxOf (L2.CX P w) P w K mg base N x scope (He.ga K x) cdv A outer sh H E) (fun cls d _ H => E cls d H) →
      ∃ t, PSs (cxOf (L2.CX P w) P w K mg base N x scope (He.ga K x) cdv A outer sh H E) body t ∧ TDS K (fun cls d _ H => E cls d H) t s) : KeptT P w K mg base (k + 1) n x ps f := by
  obtain ⟨fd, FD⟩ := hF
  subst hn hf
  exact ⟨fd, FD.kp, hg, FD.bindsN hbd, fnT FD S hb⟩
theorem kept_badT {P : Program} {w : World} {mg : Str → Option Value} {base : Heap} {x : Str} {params : Arguments} {body : List Stmt} {scope : Scope} {ps : List Str} {k n : Nat}
    (hF : ∃ fd : FuncData, FunD K x x params body scope [] [] (He.ga K x) fd) (hg : mg x = some (.ref (He.ga K x))) (hn : ps.length = n)
    (hbd : ∀ (kV doc pm : Value) (an : Option Addr) (cdv ct : Value) (us : List Value), us.length = ps.length → bindArgs (PySem.W.fnOf x x params body scope .none kV doc pm an cdv ct) ⟨us, []⟩ = pure (ps.zip us)) :
    KeptT P w K mg base k n x ps (fun _ => .bad) := by
  obtain ⟨fd, FD⟩ := hF
  subst hn
  exact ⟨fd, FD.kp, hg, FD.bindsN hbd, ⟨fun vs H Q E h => h.1, fun A outer s H args us vs Q E hr _ _ _ hsp => by
    obtain ⟨_, _, _, _, _, _, _, _, _, _, hq⟩ := hsp
    exact hq.elim⟩⟩
/-- the state behind a call that slots were given to -/
theorem StF.given {F0 H0 F H F1 H1 F2 H2 : Hp} {σ : L2.St} {ρ : Rho} {φ : Nat → List Addr} {vs : List Nat} {fp : List Addr} (S : StF K F0 H0 F H σ ρ φ) (e1 : Ext F H F1 H1) (hp : ∀ p ∈ fp, F1 p = none ∧ (H p = none ∨ ∃ i ∈ vs, p ∈ φ i)) (hnt : ∀ p ∈ fp, ∃ o, H1 p = some o ∧ ¬ tupO o) (e2 : Ext F1 (cutL H1 fp) F2 H2) :
    StF K F0 H0 F2 H2 σ (killD ρ vs) (phis φ vs) := by
  have S1 := (S.go e1).drop (is := vs)
  have off : ∀ j p, p ∈ phis φ vs j → p ∉ fp := fun j p h1 h2 => by
    obtain ⟨n1, n2⟩ := phis_mem h1
    rcases (hp p h2).2 with z | ⟨i', hi, z⟩
    · obtain ⟨_, _, o, y, _⟩ := S.fre j p n2
      rw [z] at y; cases y
    · have := S.dis i' j p z n2
      subst this
      exact n1 hi
  have h0 : ∀ p ∈ fp, H0 p = none := fun p h => by
    rcases (hp p h).2 with z | ⟨i, _, z⟩
    · exact S.ext.h.free z
    · exact (S.fre i p z).1
  have ex : Ext F0 H0 F2 H2 := by
    refine ⟨S1.ext.f.trans e2.f, e2.g, fun p u e => e2.h p u ?_, fun p hq => ?_⟩
    · rw [cutL_out (fun z => by rw [h0 p z] at e; cases e)]; exact S1.ext.h p u e
    · rcases e2.n p hq with z | z | ⟨o, z, t⟩
      · exact S1.ext.n p z
      · by_cases hin : p ∈ fp
        · exact .inr (.inl (h0 p hin))
        · rw [cutL_out hin] at z
          exact .inr (.inl (S1.ext.h.free z))
      · have z := cutL_same _ _ z
        cases e : H0 p with
        | none => exact .inr (.inl rfl)
        | some u =>
          have := S1.ext.h p u e
          rw [z] at this
          cases this
          exact .inr (.inr ⟨_, rfl, t⟩)
  refine ⟨ex, S1.len, fun i x e => ?_, fun i x e => ?_, fun i p h => ?_, S1.nod, S1.dis, fun i x e => let ⟨p, a, b⟩ := S1.lck i x e; ⟨p, a, b.mono e2.f⟩⟩
  · obtain ⟨v, a, b⟩ := S1.dat i x e
    exact ⟨v, a, b.mono e2.f⟩
  · obtain ⟨v, a, b⟩ := S1.tre i x e
    refine ⟨v, a, b.keep e2.f fun p o ho hc => e2.h p o ?_⟩
    rw [cutL_out]
    · exact ho
    · intro z
      rcases hc with hc | hc
      · exact off i p hc z
      · obtain ⟨o', ho', nt⟩ := hnt p z
        rw [ho] at ho'; cases ho'; exact nt hc
  · obtain ⟨a, b, o, c, d⟩ := S1.fre i p h
    have c' : cutL H1 fp p = some o := by rw [cutL_out (off i p h)]; exact c
    exact ⟨a, e2.keep b c' d, o, e2.h p o c', d⟩
variable {tr : TA} {gr : Rho → R (List Tv)} {vs : List Nat} {n : Nat} {f : List Tv → FR}
def callT (n : Nat) (f : List Tv → FR) (gr : Rho → R (List Tv)) (k : Tv → SR) : Rho → SR := fun ρ => SR.of (gr ρ) fun ts => if ts.length = n then (match f ts with
  | .rt (.d x) => k (.fr x)
  | .rt (.t x) => k x
  | .rt (.l _) => .bad
  | .exc c => .exc c
  | .bad => .bad) else .bad
/-- x = f(..), slots given away -/
def sCallT (i : Nat) (vs : List Nat) (n : Nat) (f : List Tv → FR) (gr : Rho → R (List Tv)) : Rho → SR := fun ρ => callT n f gr (fun x => .nx ((killD ρ vs).set i (some (slOf x)))) ρ
def sRetT (n : Nat) (f : List Tv → FR) (gr : Rho → R (List Tv)) : Rho → SR := callT n f gr fun x => .rt (.t x)
theorem callT_k {F0 H0 F H : Hp} {σ : L2.St} {ρ : Rho} {φ : Nat → List Addr} {D : Ends} {Q : VK} {k : Tv → SR} (h : TDma K W vs tr gr) (S : StF K F0 H0 F H σ ρ φ) (q : FinS K W F0 H0 D (callT n f gr k ρ))
    (hk : ∀ (x : Tv) (v : V) (fp : List Addr) (F2 H2 : Hp), StF K F0 H0 F2 H2 σ (killD ρ vs) (phis φ vs) → TvAt K F2 H2 fp v x → fp.Nodup → (∀ p ∈ fp, H0 p = none ∧ F2 p = none) → (∀ j p, p ∈ phis φ vs j → p ∉ fp) → FinS K W F0 H0 D (k x) → Q v H2) :
    tCallS (spT K n f) (WE W) tr σ H Q := by
  refine h F0 H0 F H σ ρ φ _ S (q.of S.ext fun ts F1 H1 e1 k1 us fp tl nd hp => ?_)
  replace k1 : FinS K W F0 H0 D (if ts.length = n then (match f ts with
    | .rt (.d x) => k (.fr x)
    | .rt (.t x) => k x
    | .rt (.l _) => .bad
    | .exc c => .exc c
    | .bad => .bad) else .bad) := k1
  by_cases hn : ts.length = n
  · rw [if_pos hn] at k1
    have h1 : Same F1 (cutL H1 fp) := fun p u e => by rw [cutL_out (fun z => by rw [(hp p z).1] at e; cases e)]; exact e1.g p u e
    have apart : ∀ {F2 H2 : Hp} {fq : List Addr}, Ext F1 (cutL H1 fp) F2 H2 → (∀ p ∈ fq, cutL H1 fp p = none ∧ F2 p = none) → ∀ j p, p ∈ phis φ vs j → p ∉ fq := fun {F2 H2 fq} ex hq j p hj hin => by
      obtain ⟨n1, n2⟩ := phis_mem hj
      obtain ⟨_, _, o, c, _⟩ := (S.go e1).fre j p n2
      have := (hq p hin).1
      rw [cutL_out (fun z => by
        rcases (hp p z).2 with y | ⟨i', hi, y⟩
        · obtain ⟨_, _, o', y', _⟩ := S.fre j p n2
          rw [y] at y'; cases y'
        · have := S.dis i' j p y n2
          subst this
          exact n1 hi), c] at this
      cases this
    have base0 : ∀ {p : Addr}, cutL H1 fp p = none → H0 p = none := fun {p} z => by
      by_cases hin : p ∈ fp
      · rcases (hp p hin).2 with y | ⟨i, _, y⟩
        · exact S.ext.h.free y
        · exact (S.fre i p y).1
      · rw [cutL_out hin] at z
        exact S.ext.h.free (e1.h.free z)
    refine ⟨by rw [tl.length]; exact hn, F1, cutL H1 fp, fp, ts, h1, cutL_same, tl, nd, fun p hq => cutL_in hq, ?_⟩
    cases e : f ts with
    | rt s =>
      rw [e] at k1
      cases s with
      | d x => exact fun v F2 H2 ex r => hk (.fr x) v [] F2 H2 (S.given e1 hp tl.nt ex) (.fr r) List.nodup_nil (fun p hq => by cases hq) (fun j p _ hq => by cases hq) k1
      | t x => exact fun v fq F2 H2 ex tv nd2 hq => hk x v fq F2 H2 (S.given e1 hp tl.nt ex) tv nd2 (fun p hin => ⟨base0 (hq p hin).1, (hq p hin).2⟩) (apart ex hq) k1
      | l x => exact k1.elim
    | exc c =>
      rw [e] at k1
      exact fun cls d F2 H2 ex r => k1 cls d σ F2 H2 (S.given e1 hp tl.nt ex).ext r
    | bad => rw [e] at k1; exact k1.elim
  · rw [if_neg hn] at k1
    exact k1.elim
theorem ds_callT (i : Nat) (h : TDma K W vs tr gr) : TDS K W (tAsg (tCallS (spT K n f) (WE W) tr) (gName i)) (sCallT i vs n f gr) := fun F0 H0 F H σ ρ D S q => by
  obtain ⟨φ, S⟩ := S
  exact callT_k h S q fun x v fp F2 H2 S2 tv nd hp hx k => k _ F2 H2 ⟨_, S2.putT tv nd hp fun j p _ hj => hx j p hj⟩
theorem ds_retT (h : TDma K W vs tr gr) : TDS K W (tRet (tCallS (spT K n f) (WE W) tr)) (sRetT n f gr) := fun F0 H0 F H σ ρ D S q => by
  obtain ⟨φ, S⟩ := S
  exact callT_k h S q fun x v fp F2 H2 S2 tv nd hp hx k => k v fp F2 H2 S2.ext tv nd hp
/-- ahead of a statement slots' readings are forgotten -/
def preK (is : List Nat) (s : Rho → SR) : Rho → SR := fun ρ => s (is.foldl (fun ρ i => ρ.set i none) ρ)
theorem ds_preK {ts : TS} {s : Rho → SR} (is : List Nat) (h : TDS K W ts s) : TDS K W ts (preK is s) := fun F0 H0 F H σ ρ D S q => h F0 H0 F H σ _ D S.kills q
end
end DL
/-! Changes within a tree. -/
namespace DL
open PySem PySem.Spec PyProof.Rows L2
section
variable {K : PySem.W.Frag} {W : WX}
def Tv.at : List Nat → Tv → Option Tv
  | [], t => some t
  | k :: ks, .tup ts => match ts[k]? with
    | some t => Tv.at ks t
    | none => none
  | k :: ks, .lst ts => match ts[k]? with
    | some t => Tv.at ks t
    | none => none
  | _, _ => none
def Tv.setAt : List Nat → Tv → Tv → Tv
  | [], _, u => u
  | k :: ks, .tup ts, u => match ts[k]? with
    | some t => .tup (ts.set k (Tv.setAt ks t u))
    | none => .tup ts
  | k :: ks, .lst ts, u => match ts[k]? with
    | some t => .lst (ts.set k (Tv.setAt ks t u))
    | none => .lst ts
  | _, t, _ => t
def vAt (H : Hp) : V → List Nat → V → Prop
  | v, [], u => v = u
  | v, k :: ks, u => ∃ a xs w, v = .ref a ∧ (H a = some (.tup xs) ∨ H a = some (.lst xs)) ∧ xs[k]? = some w ∧ vAt H w ks u
theorem vAt.mono {H H' : Hp} (e : Same H H') : ∀ {ks : List Nat} {v u : V}, vAt H v ks u → vAt H' v ks u
  | [], _, _, h => h
  | _ :: _, _, _, ⟨a, xs, w, h1, h2, h3, h4⟩ => ⟨a, xs, w, h1, h2.imp (e _ _) (e _ _), h3, h4.mono e⟩
theorem vAt.det {H : Hp} : ∀ {ks : List Nat} {v u u' : V}, vAt H v ks u → vAt H v ks u' → u = u'
  | [], _, _, _, h, h' => h.symm.trans h'
  | _ :: _, _, _, _, ⟨a, xs, w, h1, h2, h3, h4⟩, ⟨a', xs', w', g1, g2, g3, g4⟩ => by
    rw [h1] at g1; cases g1
    have e : xs = xs' := by
      rcases h2 with h2 | h2 <;> rcases g2 with g2 | g2 <;> (rw [h2] at g2; cases g2) <;> rfl
    subst e
    rw [h3] at g3; cases g3
    exact vAt.det h4 g4
theorem vAt.snoc {H : Hp} {k : Nat} {u : V} : ∀ {ks : List Nat} {v : V}, vAt H v (ks ++ [k]) u → ∃ u0, vAt H v ks u0 ∧ vAt H u0 [k] u
  | [], v, h => ⟨v, rfl, h⟩
  | _ :: _, _, ⟨a, xs, w, h1, h2, h3, h4⟩ => by
    obtain ⟨u0, g1, g2⟩ := h4.snoc
    exact ⟨u0, ⟨a, xs, w, h1, h2, h3, g1⟩, g2⟩
/-- the same but within fq -/
def AgreeOff (fq : List Addr) (H H' : Hp) : Prop := ∀ p o, H p = some o → p ∉ fq → H' p = some o
theorem tvAll_at {F H : Hp} : ∀ {fp : List Addr} {vs : List V} {ts : List Tv} {k : Nat} {t : Tv}, TvAll K F H fp vs ts → fp.Nodup → ts[k]? = some t → ∃ v fq, vs[k]? = some v ∧ TvAt K F H fq v t ∧ fq.Nodup ∧ (∀ p ∈ fq, p ∈ fp) ∧
    ∀ (H' : Hp) (u : Tv) (fr : List Addr), (∀ p ∈ fr, p ∈ fq) → AgreeOff fr H H' → TvAt K F H' fq v u → TvAll K F H' fp vs (ts.set k u)
  | _, _, _, _, _, .nil, _, e => by simp at e
  | _, _, _, 0, t, .cons (fp := fp) (fq := fq) h r, nd, e => by
    cases e
    obtain ⟨n1, n2, n3⟩ := List.nodup_append.mp nd
    refine ⟨_, fp, rfl, h, n1, fun p hp => List.mem_append_left _ hp, fun H' u fr hs ag hu => .cons hu (r.keep (Same.refl F) fun p o ho hc => ag p o ho fun hin => ?_)⟩
    have hin := hs p hin
    rcases hc with hc | hc
    · exact n3 p hin p hc rfl
    · obtain ⟨o', ho', nt⟩ := h.nt p hin
      rw [ho] at ho'; cases ho'; exact nt hc
  | _, _, _, k + 1, t, .cons (fp := fp) (fq := fq) h r, nd, e => by
    obtain ⟨n1, n2, n3⟩ := List.nodup_append.mp nd
    obtain ⟨v, fz, a1, a2, a3, a4, a5⟩ := tvAll_at r n2 (show _ = some t from e)
    refine ⟨v, fz, a1, a2, a3, fun p hp => List.mem_append_right _ (a4 p hp), fun H' u fr hs ag hu => .cons (h.keep (Same.refl F) fun p o ho hc => ag p o ho fun hin => ?_) (a5 H' u fr hs ag hu)⟩
    have hin := a4 p (hs p hin)
    rcases hc with hc | hc
    · exact n3 p hc p hin rfl
    · obtain ⟨o', ho', nt⟩ := r.nt p hin
      rw [ho] at ho'; cases ho'; exact nt hc
theorem tvAt_at {F H : Hp} : ∀ {ks : List Nat} {fp : List Addr} {v : V} {t t' : Tv}, TvAt K F H fp v t → fp.Nodup → t.at ks = some t' → ∃ u fq, vAt H v ks u ∧ TvAt K F H fq u t' ∧ (∀ p ∈ fq, p ∈ fp) ∧
    ∀ (H' : Hp) (t'' : Tv) (fr : List Addr), (∀ p ∈ fr, p ∈ fq) → AgreeOff fr H H' → TvAt K F H' fq u t'' → TvAt K F H' fp v (t.setAt ks t'')
  | [], fp, v, t, t', h, nd, e => by
    unfold Tv.at at e
    cases e
    exact ⟨v, fp, rfl, h, fun _ hp => hp, fun H' t'' fr _ _ hu => by unfold Tv.setAt; exact hu⟩
  | k :: ks, fp, v, t, t', h, nd, e => by
    cases h with
    | fr _ => unfold Tv.at at e; cases e
    | own _ => unfold Tv.at at e; cases e
    | dT _ _ => unfold Tv.at at e; cases e
    | tup s r =>
      rename_i p us ts
      unfold Tv.at at e
      cases ek : ts[k]? with
      | none => rw [ek] at e; cases e
      | some t1 =>
        rw [ek] at e
        obtain ⟨v1, f1, b1, b2, b3, b4, b5⟩ := tvAll_at r nd ek
        obtain ⟨u, fq, c1, c2, c3, c4⟩ := tvAt_at b2 b3 e
        refine ⟨u, fq, ⟨p, us, v1, rfl, .inl s, b1, c1⟩, c2, fun q hq => b4 q (c3 q hq), fun H' t'' fr hs ag hu => ?_⟩
        have e2 : (Tv.tup ts).setAt (k :: ks) t'' = .tup (ts.set k (t1.setAt ks t'')) := by
          show (match ts[k]? with | some t => Tv.tup (ts.set k (Tv.setAt ks t t'')) | none => .tup ts) = _
          rw [ek]
        rw [e2]
        refine .tup (ag _ _ s fun hin => ?_) (b5 H' _ fr (fun q hq => c3 q (hs q hq)) ag (c4 H' t'' fr hs ag hu))
        obtain ⟨o', ho', nt⟩ := c2.nt p (hs p hin)
        rw [s] at ho'; cases ho'; exact nt (.inl (.inl ⟨_, rfl⟩))
    | lst s r =>
      rename_i p us fp ts
      obtain ⟨n1, n2⟩ := List.nodup_cons.mp nd
      unfold Tv.at at e
      cases ek : ts[k]? with
      | none => rw [ek] at e; cases e
      | some t1 =>
        rw [ek] at e
        obtain ⟨v1, f1, b1, b2, b3, b4, b5⟩ := tvAll_at r n2 ek
        obtain ⟨u, fq, c1, c2, c3, c4⟩ := tvAt_at b2 b3 e
        refine ⟨u, fq, ⟨p, us, v1, rfl, .inr s, b1, c1⟩, c2, fun q hq => List.mem_cons_of_mem _ (b4 q (c3 q hq)), fun H' t'' fr hs ag hu => ?_⟩
        have e2 : (Tv.lst ts).setAt (k :: ks) t'' = .lst (ts.set k (t1.setAt ks t'')) := by
          show (match ts[k]? with | some t => Tv.lst (ts.set k (Tv.setAt ks t t'')) | none => .lst ts) = _
          rw [ek]
        rw [e2]
        exact .lst (ag _ _ s fun hin => n1 (b4 p (c3 p (hs p hin)))) (b5 H' _ fr (fun q hq => c3 q (hs q hq)) ag (c4 H' t'' fr hs ag hu))

/-! ### paths as expressions -/
def treeOf (ρ : Rho) (i : Nat) : Option Tv := match ρ[i]? with
  | some (some (.t x)) => some x
  | _ => none
/-- t tells what stands at the path g of slot i's tree -/
def TDp2 (K : PySem.W.Frag) (W : WX) (i : Nat) (t : TE) (g : Rho → R (List Nat)) : Prop := ∀ (F0 H0 F H : Hp) (σ : L2.St) (ρ : Rho) (φ : Nat → List Addr) (x : Tv) (v : V) (Q : VK), StF K F0 H0 F H σ ρ φ → ρ[i]? = some (some (.t x)) → σ[i]? = some (some v) →
  Fin K W σ F H (g ρ) (fun ks _ H' => ∀ u, vAt H' v ks u → Q u H') → t σ H Q
variable {te ti tp : TE} {g gi : Rho → R PD} {gp : Rho → R (List Nat)}
def pVar : Rho → R (List Nat) := fun _ => .ok []
theorem tp_var (i : Nat) : TDp2 K W i (tVar i) pVar := fun F0 H0 F H σ ρ φ x v Q S hx hv q => ⟨v, hv, (q.ok S.same) v rfl⟩
def pIx (i : Nat) (gp : Rho → R (List Nat)) (gi : Rho → R PD) : Rho → R (List Nat) := fun ρ => (gp ρ).bind fun ks => (gi ρ).bind fun a => match a with
  | .int n => if 0 ≤ n ∧ ((treeOf ρ i).bind fun x => x.at (ks ++ [n.toNat])).isSome = true then .ok (ks ++ [n.toNat]) else .bad
  | _ => .bad
theorem tp_ix (i : Nat) (hp : TDp2 K W i tp gp) (hi : TDr K W ti gi) : TDp2 K W i (tOp (rIx K) tp ti) (pIx i gp gi) := fun F0 H0 F H σ ρ φ x v Q S hx hv q =>
  hp F0 H0 F H σ ρ φ x v _ S hx hv (q.then fun ks F1 H1 e1 k1 u0 hu0 => hi F0 H0 F1 H1 σ ρ _ ⟨φ, S.go e1⟩ (k1.then fun a F2 H2 e2 k2 w rw' => by
    cases a with
    | int n =>
      replace k2 : Fin K W σ F2 H2 (if 0 ≤ n ∧ ((treeOf ρ i).bind fun x => x.at (ks ++ [n.toNat])).isSome = true then .ok (ks ++ [n.toNat]) else .bad) (fun ks _ H' => ∀ u, vAt H' v ks u → Q u H') := k2
      by_cases c : 0 ≤ n ∧ ((treeOf ρ i).bind fun x => x.at (ks ++ [n.toNat])).isSome = true
      · rw [if_pos c] at k2
        have S2 := (S.go e1).go e2
        have et : treeOf ρ i = some x := by unfold treeOf; rw [hx]
        rw [et] at c
        obtain ⟨t', ht'⟩ := Option.isSome_iff_exists.mp c.2
        obtain ⟨v', a1, b1⟩ := S2.tre i x hx
        rw [hv] at a1; cases a1
        obtain ⟨u, fq, c1, _, _, _⟩ := tvAt_at b1 (S2.nod i) ht'
        obtain ⟨u0', d1, d2⟩ := c1.snoc
        have := d1.det (hu0.mono e2.h)
        subst this
        obtain ⟨p, xs, w2, f1, f2, f3, f4⟩ := d2
        have f4 : w2 = u := f4
        subst f4
        have ea : atI xs n = some w2 := by
          unfold atI ixN
          rw [if_pos c.1]
          have hl : n.toNat < xs.length := (List.getElem?_eq_some_iff.mp f3).1
          rw [if_pos (by omega)]
          exact f3
        have fin := (Fin.okk (x := ks ++ [n.toNat]) K W σ e2.g k2) w2 c1
        rcases f2 with f2 | f2
        · exact .inr (.inl ⟨p, xs, n, w2, f1, rw'.int, SqT.of f2, ea, fin⟩)
        · exact .inl ⟨p, xs, n, w2, f1, rw'.int, SqL.of f2, ea, fin⟩
      · rw [if_neg c] at k2; exact k2.elim
    | _ => exact k2.elim))
/-- slot[..]..[..].append(e) -/
def sAppendP (i : Nat) (gp : Rho → R (List Nat)) (g : Rho → R PD) : Rho → SR := fun ρ => match treeOf ρ i with
  | some x => SR.of (gp ρ) fun ks => (match x.at ks with
    | some (.own (.list ds)) => SR.of (g ρ) fun d => if ds.length < sizeLine then .nx (ρ.set i (some (.t (x.setAt ks (.own (.list (ds ++ [d]))))))) else .bad
    | _ => .bad)
  | none => .bad
theorem ds_appendP (i : Nat) (hp : TDp2 K W i tp gp) (h : TDe K W te g) : TDS K W (tDrop (tBM K "list" rAppend tp (tCons te tNil))) (sAppendP i gp g) := fun F0 H0 F H σ ρ D S q => by
  unfold sAppendP at q
  cases et : treeOf ρ i with
  | none => rw [et] at q; exact q.elim
  | some x =>
    rw [et] at q
    have hx : ρ[i]? = some (some (.t x)) := by
      unfold treeOf at et
      split at et
      · rename_i e; cases et; exact e
      · cases et
    obtain ⟨φ, S⟩ := S
    obtain ⟨v, hv, tv⟩ := S.tre i x hx
    refine hp F0 H0 F H σ ρ φ x v _ S hx hv (q.of S.ext fun ks F1 H1 e1 k1 u hu => ?_)
    cases ea : x.at ks with
    | none => rw [ea] at k1; exact k1.elim
    | some t' =>
      rw [ea] at k1
      cases t' with
      | own y =>
        cases y with
        | list ds =>
          replace k1 : FinS K W F0 H0 D (SR.of (g ρ) fun d => if ds.length < sizeLine then .nx (ρ.set i (some (.t (x.setAt ks (.own (.list (ds ++ [d]))))))) else .bad) := k1
          have S1 := S.go e1
          obtain ⟨v1, a1, b1⟩ := S1.tre i x hx
          rw [hv] at a1; cases a1
          obtain ⟨u1, fq, c1, c2, c3, c4⟩ := tvAt_at b1 (S1.nod i) ea
          have := hu.det c1
          subst this
          cases c2 with
          | own ho =>
            rename_i p
            obtain ⟨us, hl, hd⟩ := ho
            refine ⟨.inl ⟨rfl, us, SqL.of hl⟩, h F0 H0 F1 H1 σ ρ _ ⟨φ, S1⟩ (k1.of S1.ext fun d F2 H2 e2 k2 w rw' => ?_)⟩
            replace k2 : FinS K W F0 H0 D (if ds.length < sizeLine then .nx (ρ.set i (some (.t (x.setAt ks (.own (.list (ds ++ [d]))))))) else .bad) := k2
            by_cases hz : ds.length < sizeLine
            · rw [if_pos hz] at k2
              refine ⟨p, us, w, rfl, rfl, e2.h _ _ hl, by rw [hd.length]; exact hz, ?_⟩
              have S2 := S1.go e2
              obtain ⟨v2, a2, b2⟩ := S2.tre i x hx
              rw [hv] at a2; cases a2
              obtain ⟨u2, fz, z1, z2, z3, z4⟩ := tvAt_at b2 (S2.nod i) ea
              have := (hu.mono e2.h).det z1
              subst this
              cases z2 with
              | own ho2 =>
                have pin : p ∈ φ i := z3 p (List.mem_singleton.mpr rfl)
                refine k2 σ F2 _ ⟨φ, S2.mutT (q := p) pin nt_lst (fun v' hv' => ?_) ⟨v, hv⟩⟩
                rw [hv] at hv'; cases hv'
                refine z4 _ _ [p] (fun _ hq => hq) (fun r o ho hn => ?_) (.own ⟨_, upd_same, (hd.mono e2.f).append (.cons rw' .nil)⟩)
                rw [upd_ne (fun z => hn (by rw [z]; exact List.mem_singleton.mpr rfl))]
                exact ho
            · rw [if_neg hz] at k2; exact k2.elim
        | _ => exact k1.elim
      | _ => exact k1.elim
end
end DL
/-! len(set(a list of unlike ints)) -/
namespace DL
open PySem PySem.Spec PyProof.Rows L2
section
variable {K : PySem.W.Frag} {W : WX} {te : TE} {g : Rho → R PD}
def intsOf : List PD → Option (List Int)
  | [] => some []
  | .int i :: r => (intsOf r).map fun l => i :: l
  | _ => none
theorem intsOf_map : ∀ l : List Int, intsOf (l.map PyData.int) = some l
  | [] => rfl
  | i :: l => by
    rw [List.map_cons]
    show (intsOf (l.map PyData.int)).map _ = _
    rw [intsOf_map l]
    rfl
theorem intsOf_dp {F : Hp} : ∀ {ds : List PD} {vs : List V} {l : List Int}, DpAll K F vs ds → intsOf ds = some l → vs = l.map V.int
  | [], _, l, .nil, h => by cases h; rfl
  | d :: ds, _, l, .cons r1 r2, h => by
    cases d with
    | int i =>
      have h : (intsOf ds).map (fun l => i :: l) = some l := h
      cases e : intsOf ds with
      | none => rw [e] at h; cases h
      | some l' =>
        rw [e] at h
        injection h with h
        rw [← h, List.map_cons, intsOf_dp r2 e]
        cases r1
        rfl
    | _ => cases h
def lenSetD : PD → R PD
  | .list ds => match intsOf ds with
    | some ns => if ns.Nodup ∧ ns.length ≤ 4000 then .ok (.int (ns.length : Nat)) else .bad
    | none => .bad
  | _ => .bad
def eLenSet (g : Rho → R PD) : Rho → R PD := fun ρ => (g ρ).bind lenSetD
theorem td_lenSet (h : TDr K W te g) : TDe K W (RZ.tLenSetI K te) (eLenSet g) := fun F0 H0 F H σ ρ Q S q =>
  h F0 H0 F H σ ρ _ S (q.then fun a F1 H1 e1 k1 v rv => by
    unfold lenSetD at k1
    split at k1
    · rename_i ds
      split at k1
      · rename_i ns en
        split at k1
        · rename_i c
          obtain ⟨p, vs, rfl, s1, r1⟩ := rv.list e1.g
          have := intsOf_dp r1 en
          subst this
          exact ⟨p, ns, rfl, .inl s1, c.1, c.2, Fin.okk (x := PyData.int _) K W σ e1.g k1 _ (.int _)⟩
        · exact k1.elim
      · exact k1.elim
    · exact k1.elim)
end
end DL
/-! What the math of every law wants again. -/
namespace DL
open PySem L2
theorem sz {n : Nat} (h : n ≤ 16777216) : n ≤ sizeLine := by rw [sizeLine_eq]; exact h
theorem szl {n : Nat} (h : n < 16777216) : n < sizeLine := by rw [sizeLine_eq]; exact h
theorem append_ok {i : Nat} {g : Rho → R PD} {ρ : Rho} {ds : List PD} {x : PD} (h : ρ[i]? = some (some (.o (.list ds)))) (e : g ρ = .ok x) (hl : ds.length < sizeLine) : sAppend i g ρ = .nx (ρ.set i (some (.o (.list (ds ++ [x]))))) := by
  unfold sAppend ownL
  rw [h, e]
  exact if_pos hl
theorem dget_l {i : Nat} {g : Rho → R PD} {ρ : Rho} {kvs : List (PD × PD)} {a : Str} {d : PD} (h : ρ[i]? = some (some (.l (.dict kvs)))) (e : g ρ = .ok (.str a)) (hv : valD kvs (.inr a) = some d) : eDget i g ρ = .ok d := by
  unfold eDget dAt
  rw [h]
  simp only [x_bind_ok]
  rw [e]
  simp only [x_bind_ok]
  show (match valD kvs (.inr a) with | some d => R.ok d | none => .bad) = _
  rw [hv]
theorem dget_o {i : Nat} {g : Rho → R PD} {ρ : Rho} {kvs : List (PD × PD)} {a : Str} {d : PD} (h : ρ[i]? = some (some (.o (.dict kvs)))) (e : g ρ = .ok (.str a)) (hv : valD kvs (.inr a) = some d) : eDget i g ρ = .ok d := by
  unfold eDget dAt
  rw [h]
  simp only [x_bind_ok]
  rw [e]
  simp only [x_bind_ok]
  show (match valD kvs (.inr a) with | some d => R.ok d | none => .bad) = _
  rw [hv]
theorem dput_ok {i : Nat} {gk gv : Rho → R PD} {ρ : Rho} {kvs : List (PD × PD)} {a : Str} {d : PD} (h : ρ[i]? = some (some (.o (.dict kvs)))) (e : gk ρ = .ok (.str a)) (e2 : gv ρ = .ok d) (hl : kvs.length < sizeLine) : sDput i gk gv ρ = .nx (ρ.set i (some (.o (.dict (putD kvs (.inr a) d))))) := by
  unfold sDput dOwn
  rw [e2, h]
  simp only [x_of_ok]
  rw [e]
  exact if_pos hl
theorem for_inv {a : Rho → PD → R Rho} {body : Rho → SR} (I : Rho → Prop) : ∀ {xs : List PD} {ρ : Rho}, (∀ x ∈ xs, ∀ ρ, I ρ → ∃ ρ1 ρ2, a ρ x = .ok ρ1 ∧ body ρ1 = .nx ρ2 ∧ I ρ2) → I ρ → ∃ ρ', forD a body xs ρ = .nx ρ' ∧ I ρ'
  | [], ρ, _, h => ⟨ρ, rfl, h⟩
  | x :: xs, ρ, hs, h => by
    obtain ⟨ρ1, ρ2, e1, e2, h2⟩ := hs x List.mem_cons_self ρ h
    obtain ⟨ρ', e3, h3⟩ := for_inv I (fun y hy => hs y (List.mem_cons_of_mem _ hy)) h2
    refine ⟨ρ', ?_, h3⟩
    unfold forD
    rw [e1]
    simp only
    rw [e2]
    exact e3
theorem rng_get {lo : Int} {n i : Nat} {x : PD} (h : (rngD lo n)[i]? = some x) : i < n ∧ x = .int (lo + i) := by
  unfold rngD at h
  rw [List.getElem?_map] at h
  by_cases c : i < n
  · rw [List.getElem?_range c] at h
    exact ⟨c, by injection h with h; exact h.symm⟩
  · rw [List.getElem?_eq_none (by rw [List.length_range]; omega)] at h
    cases h
theorem rng_ok (n : Nat) (h : n ≤ 1000) : rng1 [.int (n : Int)] = .ok (rngD 0 n) := by
  have h1 : (n : Int) < 2 ^ 62 := Int.lt_of_le_of_lt (Int.ofNat_le.mpr h) (by decide)
  have h0 : -(2 ^ 62) ≤ (n : Int) := Int.le_trans (by decide) (Int.natCast_nonneg _)
  have e := x_rng1 (n : Int) h0 h1
  rwa [Int.toNat_natCast] at e
theorem call3 {f : List PD → FR} {ga gb gc : Rho → R PD} {ρ : Rho} {a b c x : PD} (ha : ga ρ = .ok a) (hb : gb ρ = .ok b) (hc : gc ρ = .ok c) (h : f [a, b, c] = .rt (.d x)) : eCall 3 f (aCons ga (aCons gb (aCons gc aNil))) ρ = .ok x := by
  simp only [x_eCall, x_aCons, x_aNil, ha, hb, hc, x_bind_ok]
  show (if 3 = 3 then (f [a, b, c]).toE else R.bad) = _
  rw [if_pos rfl, h]
  rfl
theorem cb1 {f : List PD → R PD} {ga : Rho → R PD} {ρ : Rho} {a : PD} (ha : ga ρ = .ok a) : eCB f (aCons ga aNil) ρ = f [a] := by
  simp only [x_eCB, x_aCons, x_aNil, ha, x_bind_ok]
theorem op_ok {f : PD → PD → R PD} {ga gb : Rho → R PD} {ρ : Rho} {a b : PD} (ha : ga ρ = .ok a) (hb : gb ρ = .ok b) : eOp f ga gb ρ = f a b := by
  simp only [x_eOp, ha, hb, x_bind_ok]
theorem in_strs {ga gb : Rho → R PD} {ρ : Rho} {a : Str} {l : List Str} (ha : ga ρ = .ok (.str a)) (hb : gb ρ = .ok (.list (l.map PyData.str))) : eOp inD ga gb ρ = .ok (.bool (decide (a ∈ l))) := by
  rw [op_ok ha hb, x_in, x_in_strs]
  rfl
theorem bof {g : Rho → R PD} {ρ : Rho} {b : Bool} (h : g ρ = .ok (.bool b)) : bOf g ρ = .ok b := by
  rw [x_bOf, h]
  rfl
theorem call2o {f : List PD → FR} {ga gb : Rho → R PD} {ρ : Rho} {a b : PD} {l : List PD} (ha : ga ρ = .ok a) (hb : gb ρ = .ok b) (h : f [a, b] = .rt (.o (.list l))) : eCall 2 f (aCons ga (aCons gb aNil)) ρ = .ok (.list l) := by
  simp only [x_eCall, x_aCons, x_aNil, ha, hb, x_bind_ok]
  show (if 2 = 2 then (f [a, b]).toE else R.bad) = _
  rw [if_pos rfl, h]
  rfl
theorem call2 {f : List PD → FR} {ga gb : Rho → R PD} {ρ : Rho} {a b x : PD} (ha : ga ρ = .ok a) (hb : gb ρ = .ok b) (h : f [a, b] = .rt (.d x)) : eCall 2 f (aCons ga (aCons gb aNil)) ρ = .ok x := by
  simp only [x_eCall, x_aCons, x_aNil, ha, hb, x_bind_ok]
  show (if 2 = 2 then (f [a, b]).toE else R.bad) = _
  rw [if_pos rfl, h]
  rfl
theorem call1 {f : List PD → FR} {ga : Rho → R PD} {ρ : Rho} {a x : PD} (ha : ga ρ = .ok a) (h : f [a] = .rt (.d x)) : eCall 1 f (aCons ga aNil) ρ = .ok x := by
  simp only [x_eCall, x_aCons, x_aNil, ha, x_bind_ok]
  show (if 1 = 1 then (f [a]).toE else R.bad) = _
  rw [if_pos rfl, h]
  rfl
theorem nin_strs {ga gb : Rho → R PD} {ρ : Rho} {a : Str} {l : List Str} (ha : ga ρ = .ok (.str a)) (hb : gb ρ = .ok (.list (l.map PyData.str))) : eOp ninD ga gb ρ = .ok (.bool (!decide (a ∈ l))) := by
  rw [op_ok ha hb, x_nin, x_in_strs]
  rfl
theorem cut63 (ns : List Int) (h : ns.length ≤ 63) : cutD (ns.map PyData.int) none (some 63) = ns.map PyData.int := by
  unfold cutD
  have e1 : HT.sIx (ns.map PyData.int).length 0 none = 0 := rfl
  have e2 : HT.sIx (ns.map PyData.int).length (ns.map PyData.int).length (some 63) = min 63 (ns.map PyData.int).length := HT.sIx_nat _ _ 63
  rw [e1, e2, List.length_map]
  show List.take (min 63 ns.length - 0) (List.drop 0 _) = _
  rw [List.drop_zero, List.take_of_length_le]
  rw [List.length_map]
  omega
theorem cut_to (l : List Int) (i : Int) (h : 0 ≤ i) : cutD (l.map PyData.int) none (some i) = (l.take i.toNat).map PyData.int := by
  obtain ⟨n, rfl⟩ := Int.eq_ofNat_of_zero_le h
  unfold cutD
  have e1 : HT.sIx (l.map PyData.int).length 0 none = 0 := rfl
  have e2 : HT.sIx (l.map PyData.int).length (l.map PyData.int).length (some ((n : Nat) : Int)) = min n (l.map PyData.int).length := HT.sIx_nat _ _ n
  rw [e1, e2, List.length_map]
  show List.take (min n l.length - 0) (List.drop 0 _) = _
  rw [List.drop_zero, Nat.sub_zero, ← List.map_take, Int.toNat_natCast]
  by_cases c : n ≤ l.length
  · rw [Nat.min_eq_left c]
  · rw [Nat.min_eq_right (by omega), List.take_of_length_le (by omega), List.take_of_length_le (by omega)]
theorem ne_of_eq {a b : PD} (h : eqD a b = .ok (.bool true)) : neD a b = .ok (.bool false) := by
  rw [x_eq] at h
  rw [x_ne]
  generalize eqB a b = q at h
  cases q with
  | ok c =>
    cases c with
    | true => rfl
    | false => exact absurd h (by intro w; injection w with w; injection w with w; cases w)
  | exc c => cases h
  | bad => cases h
theorem ix_last (pre : List Str) (w : Str) : ixD (.list ((pre ++ [w]).map PyData.str)) (.int (-1)) = .ok (.str w) := by
  show (match atI ((pre ++ [w]).map PyData.str) (-1) with | some d => R.ok d | none => .bad) = _
  have e : atI ((pre ++ [w]).map PyData.str) (-1) = some (.str w) := by
    unfold atI ixN
    have h1 : (1 : Int) ≤ (pre.length : Int) + 1 := by omega
    have h2 : (-1 + ((pre.length : Int) + 1)).toNat = pre.length := by omega
    simp [h1, h2]
  rw [e]
theorem fold_list : ∀ (l : List (Array Nat)) (a : Array Nat), (l.foldl (· ++ ·) a).toList = a.toList ++ (l.map Array.toList).flatten
  | [], a => by simp
  | x :: l, a => by rw [List.foldl_cons, fold_list l]; simp
theorem mulS_sg (c : Nat) (n : Int) : cs (mulS (sg c) n) = List.replicate n.toNat c := by
  unfold mulS
  by_cases h : n < 1
  · rw [if_pos h, show n.toNat = 0 by omega]
    rfl
  · rw [if_neg h]
    show ((List.replicate n.toNat (sg c).cps).foldl (· ++ ·) #[]).toList = _
    rw [fold_list, List.map_replicate]
    show [] ++ (List.replicate n.toNat [c]).flatten = _
    rw [List.nil_append, List.flatten_replicate_singleton]
theorem scal_strs : ∀ l : List Str, (l.map PyData.str).all scalD = true
  | [] => rfl
  | x :: l => by rw [List.map_cons, List.all_cons, scal_strs l]; rfl
theorem scal_bls : ∀ l : List Bool, (l.map PyData.bool).all scalD = true
  | [] => rfl
  | x :: l => by rw [List.map_cons, List.all_cons, scal_bls l]; rfl
theorem sum_le : ∀ (l : List Str) (n : Nat), (∀ z ∈ l, z.length ≤ n) → (l.map (·.length)).sum ≤ n * l.length
  | [], n, _ => Nat.le_refl _
  | z :: l, n, h => by
    have := sum_le l n fun y hy => h y (List.mem_cons_of_mem _ hy)
    have := h z List.mem_cons_self
    rw [List.map_cons, List.sum_cons, List.length_cons, Nat.mul_succ]
    omega
theorem putD_new {kvs : List (PD × PD)} {k : Key} (d : PD) (h : valD kvs k = none) : putD kvs k d = kvs ++ [(keyD k, d)] := by
  unfold putD
  rw [h]
  exact if_neg (by decide)
theorem joinL_le (s : List Nat) : ∀ l : List (List Nat), (TL.joinL s l).length ≤ (l.map (·.length)).sum + l.length * s.length
  | [] => Nat.zero_le _
  | [p] => by
    show p.length ≤ _
    simp
  | p :: q :: r => by
    have ih := joinL_le s (q :: r)
    show (p ++ (s ++ TL.joinL s (q :: r))).length ≤ _
    rw [List.length_append, List.length_append, List.map_cons, List.sum_cons, List.length_cons, Nat.succ_mul]
    omega
theorem join_le (y : Str) (l : List Str) : (Txt.join y l).length ≤ (l.map (·.length)).sum + l.length * y.length := by
  have h := joinL_le (TL.tl y) (l.map TL.tl)
  have e : (Txt.join y l).length = (TL.tl (Txt.join y l)).length := TL.len_tl _
  rw [TL.join_eq, TL.tl_join] at e
  rw [TL.join_eq, e]
  rw [List.length_map, List.map_map] at h
  have e2 : (l.map ((fun x : List Nat => x.length) ∘ TL.tl)) = l.map (·.length) := List.map_congr_left fun z _ => (TL.len_tl z).symm
  have e2' : (l.map fun z : Str => (TL.tl z).length) = l.map (·.length) := List.map_congr_left fun z _ => (TL.len_tl z).symm
  rw [e2] at h
  rw [← TL.len_tl] at h
  exact h
end DL
/-! The plain side: equations of the newer functions; statements by what holds behind them. -/
namespace DL
open PySem L2
section
variable {α β : Type} (ρ : Rho) (g ga gb gc : Rho → R PD) (gm : Rho → R Tv) (f f' : PD → PD → R PD) (gr : Rho → R (List PD)) (gt : Rho → R (List Tv)) (s s' : Rho → SR) (i : Nat) (is vs : List Nat)
def killR (is : List Nat) : SR → SR
  | .nx ρ1 => .nx (is.foldl (fun ρ i => ρ.set i none) ρ1)
  | .ct ρ1 => .ct (is.foldl (fun ρ i => ρ.set i none) ρ1)
  | .bk ρ1 => .bk (is.foldl (fun ρ i => ρ.set i none) ρ1)
  | x => x
@[simp] theorem x_killS : killS is s ρ = killR is (s ρ) := by unfold killS killR; cases s ρ <;> rfl
@[simp] theorem x_killR_nx : killR is (.nx ρ) = .nx (is.foldl (fun ρ i => ρ.set i none) ρ) := rfl
@[simp] theorem x_killR_ct : killR is (.ct ρ) = .ct (is.foldl (fun ρ i => ρ.set i none) ρ) := rfl
@[simp] theorem x_killR_rt (x : Sl) : killR is (.rt x) = .rt x := rfl
@[simp] theorem x_killR_exc (x : Ec) : killR is (.exc x) = .exc x := rfl
@[simp] theorem x_preK : preK is s ρ = s (is.foldl (fun ρ i => ρ.set i none) ρ) := rfl
@[simp] theorem x_eImm : eImm g ρ = (g ρ).bind immO := rfl
@[simp] theorem x_immO_i (j : Int) : immO (.int j) = .ok (.int j) := rfl
@[simp] theorem x_immO_b (j : Bool) : immO (.bool j) = .ok (.bool j) := rfl
@[simp] theorem x_immO_s (j : Str) : immO (.str j) = .ok (.str j) := rfl
@[simp] theorem x_immO_n : immO .none = .ok .none := rfl
@[simp] theorem x_mFr : mFr g ρ = (g ρ).bind fun d => .ok (.fr d) := rfl
@[simp] theorem x_mOwn : mOwn g ρ = (g ρ).bind fun d => .ok (.own d) := rfl
@[simp] theorem x_maNil : maNil ρ = .ok [] := rfl
@[simp] theorem x_maCons : maCons gm gt ρ = (gm ρ).bind fun a => (gt ρ).bind fun l => .ok (a :: l) := rfl
@[simp] theorem x_mTup : mTup gt ρ = (gt ρ).bind fun l => if l.length ≤ sizeLine then .ok (.tup l) else .bad := rfl
@[simp] theorem x_mCall (n : Nat) (f : List PD → FR) : mCall n f gr ρ = (gr ρ).bind fun ds => if ds.length = n then (f ds).toM else .bad := rfl
@[simp] theorem x_eCallH (n : Nat) (f : List PD → FR) : eCallH n f gr ρ = (gr ρ).bind fun ds => if ds.length = n then (f ds).toE.bind immO else .bad := rfl
@[simp] theorem x_toM_d (x : PD) : (FR.rt (.d x)).toM = .ok (.fr x) := rfl
@[simp] theorem x_toM_t (x : Tv) : (FR.rt (.t x)).toM = .ok x := rfl
@[simp] theorem x_toM_x (c : Ec) : (FR.exc c).toM = .exc c := rfl
@[simp] theorem x_toE_t (x : Tv) : (FR.rt (.t x)).toE = x.toD := rfl
@[simp] theorem x_toD_f (x : PD) : (Tv.fr x).toD = .ok x := by unfold Tv.toD; rfl
@[simp] theorem x_toD_l (l : List PD) : (Tv.own (.list l)).toD = .ok (.list l) := by unfold Tv.toD; rfl
@[simp] theorem x_toD_t (ts : List Tv) : (Tv.tup ts).toD = (Tv.toDs ts).bind fun l => .ok (.tuple l) := by rw [Tv.toD]
@[simp] theorem x_toDs_n : Tv.toDs [] = .ok [] := by rw [Tv.toDs]
@[simp] theorem x_toDs_c (t : Tv) (ts : List Tv) : Tv.toDs (t :: ts) = t.toD.bind fun d => (Tv.toDs ts).bind fun l => .ok (d :: l) := by rw [Tv.toDs]
@[simp] theorem x_sRetM : sRetM gm ρ = SR.of (gm ρ) fun x => .rt (.t x) := rfl
@[simp] theorem x_sSetM : sSetM i vs gm ρ = SR.of (gm ρ) fun x => .nx ((killD ρ vs).set i (some (slOf x))) := rfl
@[simp] theorem x_killD_n : killD ρ [] = ρ := rfl
@[simp] theorem x_killD_c : killD ρ (i :: is) = killD (ρ.set i none) is := rfl
@[simp] theorem x_slOf_f (d : PD) : slOf (.fr d) = .d d := rfl
@[simp] theorem x_slOf_o (d : PD) : slOf (.own d) = .t (.own d) := rfl
@[simp] theorem x_slOf_t (d : List Tv) : slOf (.tup d) = .t (.tup d) := rfl
@[simp] theorem x_slOf_k (d : List (List Key × PD)) : slOf (.dT d) = .t (.dT d) := rfl
@[simp] theorem x_sUnpM : sUnpM is vs gm ρ = SR.of (gm ρ) fun x => unpM is (killD ρ (vs ++ is)) x := rfl
@[simp] theorem x_unpM (ts : List Tv) : unpM is ρ (.tup ts) = SR.ofT (putsM is ρ ts) := rfl
@[simp] theorem x_putsM_n : putsM [] ρ [] = .ok ρ := rfl
@[simp] theorem x_putsM_c (x : Tv) (xs : List Tv) : putsM (i :: is) ρ (x :: xs) = putsM is (ρ.set i (some (slOf x))) xs := rfl
@[simp] theorem x_mDnewT : mDnewT ρ = .ok (.dT []) := rfl
@[simp] theorem x_oDnew : oDnew ρ = .ok (.dict []) := rfl
@[simp] theorem x_iRvR1 : iRvR1 ga ρ = (ga ρ).bind fun a => match a with | .int j => if small62 j = true then .ok (rngD 0 j.toNat).reverse else .bad | _ => .bad := rfl
@[simp] theorem x_sortIt : oSortIt i ρ = (match ρ[i]? with
  | some (some (.t (.own (.dict kvs)))) => (match pairKs kvs with
    | some l => if likeAll (l.map pr2) = true then .ok (.list ((sortK (l.map pr2)).map keyP)) else .bad
    | none => .bad)
  | _ => .bad) := rfl
@[simp] theorem x_sortT : oSortT i ρ = (tAt ρ i).bind fun kvs => if likeAll (kvs.map (·.1)) = true then .ok (.list ((sortK (kvs.map (·.1))).map keyP)) else .bad := rfl
@[simp] theorem x_eDgetT : eDgetT i g ρ = (tAt ρ i).bind fun kvs => (g ρ).bind fun y => getT kvs y := rfl
@[simp] theorem x_sDputT : sDputT i ga gb ρ = SR.of (gb ρ) fun d => SR.of (tAt ρ i) fun kvs => SR.of (ga ρ) fun y => putTS ρ i kvs y d := rfl
@[simp] theorem x_sExtend : sExtend i g ρ = ownL ρ i fun ds => SR.of (g ρ) fun x => extS ρ i ds x := rfl
@[simp] theorem x_sInsertD : sInsertD i ga g ρ = ownL ρ i fun ds => SR.of (ga ρ) fun n => SR.of (g ρ) fun y => insS ρ i ds y n := rfl
@[simp] theorem x_sAppend : sAppend i g ρ = ownL ρ i fun ds => SR.of (g ρ) fun x => if ds.length < sizeLine then .nx (ρ.set i (some (.o (.list (ds ++ [x]))))) else .bad := rfl
@[simp] theorem x_eIndex : eIndex g ga ρ = (g ρ).bind fun a => listOf a ((ga ρ).bind fun b => idxD a b) := rfl
@[simp] theorem x_listOf (l : List PD) (k : R PD) : listOf (.list l) k = k := rfl
@[simp] theorem x_oListRev (l : List PD) (h : g ρ = .ok (.list l)) : oListRev g ρ = .ok (.list l.reverse) := by unfold oListRev; rw [h]; rfl
@[simp] theorem x_repL (l : List PD) (k : Int) : repL (.list l) (.int k) = if -(2 ^ 63) ≤ k ∧ k < 2 ^ 63 ∧ l.length * k.toNat ≤ sizeLine then .ok (.list (List.replicate k.toNat l).flatten) else .bad := rfl
@[simp] theorem x_rgT (a b : Int) : rgT (.int a) (.int b) = if rgOk a b = true then .ok (.tuple (rngD a (b - a).toNat)) else .bad := rfl
@[simp] theorem x_callT (n : Nat) (f : List Tv → FR) (k : Tv → SR) : callT n f gt k ρ = SR.of (gt ρ) fun ts => if ts.length = n then (match f ts with
  | .rt (.d x) => k (.fr x)
  | .rt (.t x) => k x
  | .rt (.l _) => .bad
  | .exc c => .exc c
  | .bad => .bad) else .bad := rfl
@[simp] theorem x_sCallT (n : Nat) (f : List Tv → FR) : sCallT i vs n f gt ρ = callT n f gt (fun x => .nx ((killD ρ vs).set i (some (slOf x)))) ρ := rfl
@[simp] theorem x_sRetT (n : Nat) (f : List Tv → FR) : sRetT n f gt ρ = callT n f gt (fun x => .rt (.t x)) ρ := rfl
@[simp] theorem x_sDput : sDput i ga gb ρ = SR.of (gb ρ) fun d => SR.of (dOwn ρ i) fun kvs => SR.of (ga ρ) fun y => putS ρ i kvs y d := rfl
@[simp] theorem x_eDget : eDget i g ρ = (dAt ρ i).bind fun kvs => (g ρ).bind fun y => getD kvs y := rfl
@[simp] theorem x_edin : edin i g ρ = (g ρ).bind fun y => (dAt ρ i).bind fun kvs => (hasD kvs y).bind fun b => .ok (.bool b) := rfl
@[simp] theorem x_ednotin : ednotin i g ρ = (g ρ).bind fun y => (dAt ρ i).bind fun kvs => (hasD kvs y).bind fun b => .ok (.bool !b) := rfl
end

theorem s0 : (0 : Nat) ≤ sizeLine := sz (by decide)
theorem s1 : (1 : Nat) ≤ sizeLine := sz (by decide)
theorem s2 : (2 : Nat) ≤ sizeLine := sz (by decide)
theorem s3 : (3 : Nat) ≤ sizeLine := sz (by decide)
theorem s4 : (4 : Nat) ≤ sizeLine := sz (by decide)
theorem s5 : (5 : Nat) ≤ sizeLine := sz (by decide)
theorem s6 : (6 : Nat) ≤ sizeLine := sz (by decide)
theorem s7 : (7 : Nat) ≤ sizeLine := sz (by decide)
theorem s8 : (8 : Nat) ≤ sizeLine := sz (by decide)
theorem s9 : (9 : Nat) ≤ sizeLine := sz (by decide)
/-! ### what holds behind a statement -/
/-- N behind it, R of what is handed back, C at the loop's next turn -/
def HSm (s : Rho → SR) (ρ : Rho) (N : Rho → Prop) (Rt : Sl → Prop) (Ct : Rho → Prop) : Prop := match s ρ with
  | .nx ρ' => N ρ'
  | .rt x => Rt x
  | .ct ρ' => Ct ρ'
  | _ => False
/-- .. shut, so that nothing runs the body -/
structure HS (s : Rho → SR) (ρ : Rho) (N : Rho → Prop) (Rt : Sl → Prop) (Ct : Rho → Prop) : Prop where
  out : HSm s ρ N Rt Ct
section
variable {ρ : Rho} {N : Rho → Prop} {Rt : Sl → Prop} {Ct : Rho → Prop} {s s' : Rho → SR}
theorem hs_mono {N' : Rho → Prop} {Rt' : Sl → Prop} {Ct' : Rho → Prop} (h : HS s ρ N Rt Ct) (h1 : ∀ ρ, N ρ → N' ρ) (h2 : ∀ x, Rt x → Rt' x) (h3 : ∀ ρ, Ct ρ → Ct' ρ) : HS s ρ N' Rt' Ct' := by
  refine ⟨?_⟩
  replace h := h.out
  unfold HSm at h ⊢
  cases e : s ρ with
  | nx ρ' => rw [e] at h; exact h1 _ h
  | rt x => rw [e] at h; exact h2 _ h
  | ct ρ' => rw [e] at h; exact h3 _ h
  | bk ρ' => rw [e] at h; exact h
  | exc c => rw [e] at h; exact h
  | bad => rw [e] at h; exact h
theorem hs_seq (h : HS s ρ (fun ρ' => HS s' ρ' N Rt Ct) Rt Ct) : HS (sSeq s s') ρ N Rt Ct := by
  refine ⟨?_⟩
  replace h := h.out
  unfold HSm at h ⊢
  rw [x_sSeq]
  cases e : s ρ with
  | nx ρ' => rw [e] at h; exact HS.out h
  | rt x => rw [e] at h; exact h
  | ct ρ' => rw [e] at h; exact h
  | bk ρ' => rw [e] at h; exact h.elim
  | exc c => rw [e] at h; exact h.elim
  | bad => rw [e] at h; exact h.elim
theorem hs_cut {P : Rho → Prop} (h : HS s ρ P Rt Ct) (k : ∀ ρ', P ρ' → HS s' ρ' N Rt Ct) : HS (sSeq s s') ρ N Rt Ct := hs_seq (hs_mono h k (fun _ h => h) fun _ h => h)
theorem hs_nx {ρ' : Rho} (e : s ρ = .nx ρ') (h : N ρ') : HS s ρ N Rt Ct := ⟨by unfold HSm; rw [e]; exact h⟩
theorem hs_rt {x : Sl} (e : s ρ = .rt x) (h : Rt x) : HS s ρ N Rt Ct := ⟨by unfold HSm; rw [e]; exact h⟩
theorem hs_ct (h : Ct ρ) : HS sCont ρ N Rt Ct := ⟨h⟩
theorem hs_next (h : N ρ) : HS sNext ρ N Rt Ct := ⟨h⟩
theorem hs_set {i : Nat} {g : Rho → R PD} {x : PD} (e : g ρ = .ok x) (h : N (ρ.set i (some (.d x)))) : HS (sSet i g) ρ N Rt Ct := hs_nx (set_ok e) h
theorem hs_setO {i : Nat} {g : Rho → R PD} {x : PD} (e : g ρ = .ok x) (h : N (ρ.set i (some (.o x)))) : HS (sSetO i g) ρ N Rt Ct := hs_nx (setO_ok e) h
theorem hs_setM {i : Nat} {vs : List Nat} {g : Rho → R Tv} {x : Tv} (e : g ρ = .ok x) (h : N ((killD ρ vs).set i (some (slOf x)))) : HS (sSetM i vs g) ρ N Rt Ct := hs_nx (by rw [x_sSetM, e]; rfl) h
theorem hs_ret {g : Rho → R PD} {x : PD} (e : g ρ = .ok x) (h : Rt (.d x)) : HS (sRet g) ρ N Rt Ct := hs_rt (ret_ok e) h
theorem hs_retO {g : Rho → R PD} {x : PD} (e : g ρ = .ok x) (h : Rt (.o x)) : HS (sRetO g) ρ N Rt Ct := hs_rt (by rw [x_sRetO, e]; rfl) h
theorem hs_retM {g : Rho → R Tv} {x : Tv} (e : g ρ = .ok x) (h : Rt (.t x)) : HS (sRetM g) ρ N Rt Ct := hs_rt (by rw [x_sRetM, e]; rfl) h
theorem hs_retV {i : Nat} {x : Sl} (e : ρ[i]? = some (some x)) (h : Rt x) : HS (sRetV i) ρ N Rt Ct := hs_rt (by unfold sRetV; rw [e]) h
theorem hs_if {g : Rho → R Bool} {c : Bool} (e : g ρ = .ok c) (h1 : c = true → HS s ρ N Rt Ct) (h2 : c = false → HS s' ρ N Rt Ct) : HS (sIf g s s') ρ N Rt Ct := by
  cases c with
  | true => have := (h1 rfl).out; refine ⟨?_⟩; unfold HSm at this ⊢; rw [if_t e]; exact this
  | false => have := (h2 rfl).out; refine ⟨?_⟩; unfold HSm at this ⊢; rw [if_f e]; exact this
theorem hs_ifX {g : Rho → R Bool} (e : ∃ c, g ρ = .ok c) (h1 : HS s ρ N Rt Ct) (h2 : HS s' ρ N Rt Ct) : HS (sIf g s s') ρ N Rt Ct := by
  obtain ⟨c, e⟩ := e
  exact hs_if e (fun _ => h1) fun _ => h2
theorem xAnd {a b : Rho → R Bool} (h1 : ∃ c, a ρ = .ok c) (h2 : ∃ c, b ρ = .ok c) : ∃ c, bAnd a b ρ = .ok c := by
  obtain ⟨c, h1⟩ := h1
  obtain ⟨d, h2⟩ := h2
  rw [x_bAnd, h1, x_bind_ok, h2]
  cases c <;> exact ⟨_, rfl⟩
theorem xOr {a b : Rho → R Bool} (h1 : ∃ c, a ρ = .ok c) (h2 : ∃ c, b ρ = .ok c) : ∃ c, bOr a b ρ = .ok c := by
  obtain ⟨c, h1⟩ := h1
  obtain ⟨d, h2⟩ := h2
  rw [x_bOr, h1, x_bind_ok, h2]
  cases c <;> exact ⟨_, rfl⟩
theorem xNot {a : Rho → R Bool} (h1 : ∃ c, a ρ = .ok c) : ∃ c, bNot a ρ = .ok c := by
  obtain ⟨c, h1⟩ := h1
  rw [x_bNot, h1, x_bind_ok]
  exact ⟨_, rfl⟩
theorem xAndF {a b : Rho → R Bool} (h : a ρ = .ok false) : bAnd a b ρ = .ok false := by rw [x_bAnd, h, x_bind_ok]; rfl
theorem xCmpB {p : Int → Int → Bool} {ga gb : Rho → R PD} {i j : Int} (c : Bool) (ha : ga ρ = .ok (.int i)) (hb : gb ρ = .ok (.int j)) (h : p i j = c) : bOf (eOp (cmpD p) ga gb) ρ = .ok c := by rw [x_bOf, op_ok ha hb, x_cmp_i, h]; rfl
theorem xEqB {ga gb : Rho → R PD} {i j : Int} (c : Bool) (ha : ga ρ = .ok (.int i)) (hb : gb ρ = .ok (.int j)) (h : decide (i = j) = c) : bOf (eOp eqD ga gb) ρ = .ok c := by rw [x_bOf, op_ok ha hb, x_eq, x_eqB_i, h]; rfl
theorem xOf {g : Rho → R PD} (h : ∃ c, g ρ = .ok (.bool c)) : ∃ c, bOf g ρ = .ok c := by
  obtain ⟨c, h⟩ := h
  exact ⟨c, by rw [x_bOf, h]; rfl⟩
theorem xEqI {ga gb : Rho → R PD} {i j : Int} (ha : ga ρ = .ok (.int i)) (hb : gb ρ = .ok (.int j)) : ∃ c, bOf (eOp eqD ga gb) ρ = .ok c := ⟨decide (i = j), by rw [x_bOf, op_ok ha hb, x_eq, x_eqB_i]; rfl⟩
theorem xCmp {p : Int → Int → Bool} {ga gb : Rho → R PD} {i j : Int} (ha : ga ρ = .ok (.int i)) (hb : gb ρ = .ok (.int j)) : ∃ c, bOf (eOp (cmpD p) ga gb) ρ = .ok c := ⟨p i j, by rw [x_bOf, op_ok ha hb, x_cmp_i]; rfl⟩
theorem frz_o {ρ : Rho} {i : Nat} {l : List PD} (h : ρ[i]? = some (some (.t (.own (.list l))))) : frz1 i ρ = ρ.set i (some (.d (.list l))) := by
  unfold frz1
  rw [h]
  simp only [x_toD_l]
theorem hs_frz {is : List Nat} (h : HS s (is.foldl (fun ρ i => frz1 i ρ) ρ) N Rt Ct) : HS (sFrz is s) ρ N Rt Ct := ⟨h.out⟩
theorem hs_pre {is : List Nat} (h : HS s (is.foldl (fun ρ i => ρ.set i none) ρ) N Rt Ct) : HS (preK is s) ρ N Rt Ct := ⟨h.out⟩
theorem hs_app {i : Nat} {g : Rho → R PD} {ds : List PD} {x : PD} (h : ρ[i]? = some (some (.t (.own (.list ds))))) (e : g ρ = .ok x) (hl : ds.length < sizeLine) (k : N (ρ.set i (some (.o (.list (ds ++ [x])))))) : HS (sAppend i g) ρ N Rt Ct :=
  hs_nx (append_ok h e hl) k
theorem hs_ext {i : Nat} {g : Rho → R PD} {ds es : List PD} (h : ρ[i]? = some (some (.t (.own (.list ds))))) (e : g ρ = .ok (.list es)) (hl : ds.length + es.length ≤ sizeLine) (k : N (ρ.set i (some (.o (.list (ds ++ es)))))) : HS (sExtend i g) ρ N Rt Ct := by
  refine hs_nx (ρ' := ρ.set i (some (.o (.list (ds ++ es))))) ?_ k
  unfold sExtend ownL
  rw [h, e]
  exact if_pos hl
theorem hs_dputT {i : Nat} {gk gv : Rho → R PD} {kvs : List (List Key × PD)} {y d : PD} {k : List Key} (h : ρ[i]? = some (some (.t (.dT kvs)))) (ek : gk ρ = .ok y) (hk : keyT? y = some k) (ev : gv ρ = .ok d) (hl : kvs.length < sizeLine) (n : N (ρ.set i (some (.t (.dT (putT kvs k d)))))) : HS (sDputT i gk gv) ρ N Rt Ct := by
  refine hs_nx (ρ' := ρ.set i (some (.t (.dT (putT kvs k d))))) ?_ n
  have et : tAt ρ i = .ok kvs := by unfold tAt; rw [h]
  rw [x_sDputT, ev, x_of_ok, et, x_of_ok, ek, x_of_ok]
  unfold putTS
  rw [hk]
  exact if_pos hl
theorem hs_dput {i : Nat} {gk gv : Rho → R PD} {kvs : List (PD × PD)} {a : Str} {d : PD} (h : ρ[i]? = some (some (.o (.dict kvs)))) (e : gk ρ = .ok (.str a)) (e2 : gv ρ = .ok d) (hl : kvs.length < sizeLine) (n : N (ρ.set i (some (.o (.dict (putD kvs (.inr a) d)))))) : HS (sDput i gk gv) ρ N Rt Ct := hs_nx (dput_ok h e e2 hl) n
theorem hs_lset {i j : Nat} {g gi : Rho → R PD} {ds : List PD} {x : PD} {n : Int} (h : ρ[i]? = some (some (.t (.own (.list ds))))) (e : g ρ = .ok x) (e2 : gi ρ = .ok (.int n)) (hj : ixN ds.length n = some j) (k : N (ρ.set i (some (.o (.list (ds.set j x)))))) : HS (sLset i g gi) ρ N Rt Ct := by
  refine hs_nx (ρ' := ρ.set i (some (.o (.list (ds.set j x))))) ?_ k
  unfold sLset ownL
  rw [e, x_of_ok, h]
  show SR.of (gi ρ) _ = _
  rw [e2, x_of_ok]
  unfold setL
  dsimp only
  rw [hj]
theorem hs_unpM {is vs : List Nat} {g : Rho → R Tv} {ts : List Tv} {ρ' : Rho} (e : g ρ = .ok (.tup ts)) (ep : putsM is (killD ρ (vs ++ is)) ts = .ok ρ') (h : N ρ') : HS (sUnpM is vs g) ρ N Rt Ct := hs_nx (by rw [x_sUnpM, e, x_of_ok, x_unpM, ep]; rfl) h
theorem mem_putT {kvs : List (List Key × PD)} {k : List Key} {d : PD} {q : List Key × PD} (h : q ∈ putT kvs k d) : q ∈ kvs ∨ (q.1 = k ∧ q.2 = d) := by
  unfold putT at h
  split at h
  · obtain ⟨p, hp, e⟩ := List.mem_map.mp h
    by_cases c : p.1 = k
    · rw [if_pos c] at e
      exact .inr ⟨by rw [← e]; exact c, by rw [← e]⟩
    · rw [if_neg c] at e
      exact .inl (by rw [← e]; exact hp)
  · rcases List.mem_append.mp h with h | h
    · exact .inl h
    · rw [List.mem_singleton.mp h]
      exact .inr ⟨rfl, rfl⟩
theorem len_putT (kvs : List (List Key × PD)) (k : List Key) (d : PD) : (putT kvs k d).length ≤ kvs.length + 1 := by
  unfold putT
  split
  · rw [List.length_map]; omega
  · rw [List.length_append]; exact Nat.le_refl _
theorem valT_mem : ∀ {kvs : List (List Key × PD)} {k : List Key}, k ∈ kvs.map (·.1) → ∃ d, valT kvs k = some d ∧ (k, d) ∈ kvs
  | p :: r, k, h => by
    unfold valT
    by_cases c : p.1 = k
    · exact ⟨p.2, if_pos c, by rw [← c]; exact List.mem_cons_self⟩
    · rw [if_neg c]
      rw [List.map_cons, List.mem_cons] at h
      obtain ⟨d, h1, h2⟩ := valT_mem (h.resolve_left fun q => c q.symm)
      exact ⟨d, h1, List.mem_cons_of_mem _ h2⟩
theorem lift_list {α β : Type} {f : β → α} {P : β → Prop} : ∀ {l : List α}, (∀ x ∈ l, ∃ y, x = f y ∧ P y) → ∃ ys : List β, l = ys.map f ∧ ∀ y ∈ ys, P y
  | [], _ => ⟨[], rfl, fun y hy => (by cases hy)⟩
  | x :: l, h => by
    obtain ⟨y, e, hy⟩ := h x List.mem_cons_self
    obtain ⟨ys, e2, h2⟩ := lift_list fun z hz => h z (List.mem_cons_of_mem _ hz)
    refine ⟨y :: ys, by rw [e, e2]; rfl, fun z hz => ?_⟩
    rcases List.mem_cons.mp hz with q | q
    · rw [q]; exact hy
    · exact h2 z q
/-- sorted(dict with tuple keys) by what its keys are -/
theorem sortT_ok {β : Type} {i : Nat} {ρ : Rho} {kvs : List (List Key × PD)} (h : ρ[i]? = some (some (.t (.dT kvs)))) (f : β → List Key) (P : β → Prop) (hk : ∀ p ∈ kvs, ∃ y, p.1 = f y ∧ P y) (hlk : ∀ a b, likeK (f a) (f b) = true) (hne : ∀ a, f a ≠ []) : ∃ ys : List β, oSortT i ρ = .ok (.list (ys.map fun y => keyP (f y))) ∧ (∀ y ∈ ys, P y ∧ f y ∈ kvs.map (·.1)) ∧ ys.length = kvs.length := by
  have et : tAt ρ i = .ok kvs := by unfold tAt; rw [h]
  have hl : likeAll (kvs.map (·.1)) = true := by
    unfold likeAll
    rw [List.all_eq_true]
    intro a ha
    obtain ⟨p, hp, rfl⟩ := List.mem_map.mp ha
    obtain ⟨y, e, _⟩ := hk p hp
    rw [Bool.and_eq_true, List.all_eq_true]
    refine ⟨?_, fun b hb => ?_⟩
    · rw [e]
      cases c : f y with
      | nil => exact absurd c (hne y)
      | cons _ _ => rfl
    · obtain ⟨p2, hp2, rfl⟩ := List.mem_map.mp hb
      obtain ⟨y2, e2, _⟩ := hk p2 hp2
      rw [e, e2]
      exact hlk y y2
  have pm : (sortK (kvs.map (·.1))).Perm (kvs.map (·.1)) := isort_perm _ _
  obtain ⟨ys, e, hy⟩ := lift_list (f := f) (P := fun y => P y ∧ f y ∈ kvs.map (·.1)) (l := sortK (kvs.map (·.1))) fun x hx => by
    have hx := pm.mem_iff.mp hx
    obtain ⟨p, hp, rfl⟩ := List.mem_map.mp hx
    obtain ⟨y, e, h⟩ := hk p hp
    exact ⟨y, e, h, by rw [← e]; exact hx⟩
  refine ⟨ys, ?_, hy, ?_⟩
  · rw [x_sortT, et, x_bind_ok, if_pos hl, e, List.map_map]
    rfl
  · have := pm.length_eq
    rw [e, List.length_map, List.length_map] at this
    exact this
/-- a loop by what holds ahead of each turn -/
theorem hs_for {gi : Rho → R (List PD)} {a : Rho → PD → R Rho} {is : List Nat} {xs : List PD} (e : gi ρ = .ok xs) (I : Nat → Rho → Prop) (h0 : I 0 ρ)
    (hs : ∀ (i : Nat) (x : PD) (ρ : Rho), xs[i]? = some x → I i ρ → ∃ ρ1, a ρ x = .ok ρ1 ∧ HS s ρ1 (fun ρ2 => I (i + 1) (is.foldl (fun ρ i => ρ.set i none) ρ2)) Rt (fun ρ2 => I (i + 1) (is.foldl (fun ρ i => ρ.set i none) ρ2)))
    (he : ∀ ρ, I xs.length ρ → N ρ) : HS (sFor gi a (killS is s)) ρ N Rt Ct := by
  refine ⟨?_⟩
  unfold HSm
  rw [x_sFor, e, x_of_ok]
  refine forD_by (P := fun r => match r with | .nx ρ' => N ρ' | .rt x => Rt x | .ct ρ' => Ct ρ' | _ => False) I h0 (fun i x ρ hx hI => ?_) he
  obtain ⟨ρ1, e1, h1⟩ := hs i x ρ hx hI
  refine ⟨ρ1, e1, ?_⟩
  rw [x_killS]
  replace h1 := h1.out
  unfold HSm at h1
  cases e2 : s ρ1 with
  | nx ρ2 => rw [e2] at h1; exact h1
  | rt x => rw [e2] at h1; exact h1
  | ct ρ2 => rw [e2] at h1; exact h1
  | bk ρ2 => rw [e2] at h1; exact h1.elim
  | exc c => rw [e2] at h1; exact h1.elim
  | bad => rw [e2] at h1; exact h1.elim
/-- .. over items of one kind -/
theorem hs_forL {γ : Type} {gi : Rho → R (List PD)} {a : Rho → PD → R Rho} {is : List Nat} (f : γ → PD) (xs : List γ) (e : gi ρ = .ok (xs.map f)) (I : Nat → Rho → Prop) (h0 : I 0 ρ)
    (hs : ∀ (i : Nat) (p : γ) (ρ : Rho), xs[i]? = some p → I i ρ → ∃ ρ1, a ρ (f p) = .ok ρ1 ∧ HS s ρ1 (fun ρ2 => I (i + 1) (is.foldl (fun ρ i => ρ.set i none) ρ2)) Rt (fun ρ2 => I (i + 1) (is.foldl (fun ρ i => ρ.set i none) ρ2)))
    (he : ∀ ρ, I xs.length ρ → N ρ) : HS (sFor gi a (killS is s)) ρ N Rt Ct :=
  hs_for e I h0 (fun i x ρ hx hI => by
    rw [List.getElem?_map] at hx
    cases e2 : xs[i]? with
    | none => rw [e2] at hx; cases hx
    | some p =>
      rw [e2] at hx
      injection hx with hx
      rw [← hx]
      exact hs i p ρ e2 hI) (fun ρ h => he ρ (by rw [List.length_map] at h; exact h))
theorem hs_rng {gi : Rho → R (List PD)} {a : Rho → PD → R Rho} {is : List Nat} (n : Nat) (e : gi ρ = .ok ((List.range n).map fun i => .int (0 + ((i : Nat) : Int)))) (I : Nat → Rho → Prop) (h0 : I 0 ρ)
    (hs : ∀ (i : Nat) (ρ : Rho), i < n → I i ρ → ∃ ρ1, a ρ (.int (i : Nat)) = .ok ρ1 ∧ HS s ρ1 (fun ρ2 => I (i + 1) (is.foldl (fun ρ i => ρ.set i none) ρ2)) Rt (fun ρ2 => I (i + 1) (is.foldl (fun ρ i => ρ.set i none) ρ2)))
    (he : ∀ ρ, I n ρ → N ρ) : HS (sFor gi a (killS is s)) ρ N Rt Ct :=
  hs_forL (fun i : Nat => PyData.int (0 + ((i : Nat) : Int))) (List.range n) e I h0 (fun i p ρ hx hI => by
    obtain ⟨h1, h2⟩ := List.getElem?_eq_some_iff.mp hx
    rw [List.length_range] at h1
    rw [List.getElem_range] at h2
    rw [← h2, Int.zero_add]
    exact hs i ρ h1 hI) (fun ρ h => he ρ (by rw [List.length_range] at h; exact h))
theorem rng_c {g : Rho → R PD} {ρ : Rho} {n : Nat} (h : g ρ = .ok (.int (n : Nat))) (hn : n ≤ 1000) : iRng1D (aCons g aNil) ρ = .ok ((List.range n).map fun i => .int (0 + ((i : Nat) : Int))) := by
  rw [x_iRng1, x_aCons, h, x_bind_ok, x_aNil, x_bind_ok, x_bind_ok, rng_ok n hn]
  unfold rngD
  exact Eq.refl _
/-- a def by its body -/
theorem hs_run {n : Nat} {ds : List PD} {Q : Sl → Prop} (h : HS s (startD n ds) (fun _ => Q (.d .none)) Q (fun _ => False)) : ∃ x, runD n s ds = .rt x ∧ Q x := by
  replace h := h.out
  unfold HSm at h
  rw [x_run]
  cases e : s (startD n ds) with
  | nx ρ' => rw [e] at h; exact ⟨_, rfl, h⟩
  | rt x => rw [e] at h; exact ⟨x, rfl, h⟩
  | ct ρ' => rw [e] at h; exact h.elim
  | bk ρ' => rw [e] at h; exact h.elim
  | exc c => rw [e] at h; exact h.elim
  | bad => rw [e] at h; exact h.elim
end
/-- a comprehension by what holds of its items -/
theorem lc_all {gi : Rho → R (List PD)} {a : Rho → PD → R Rho} {gt : Rho → R Bool} {ge : Rho → R PD} {vs : List Nat} {ρ : Rho} {xs : List PD} (P : PD → Prop) (e : gi ρ = .ok xs) (hl : xs.length ≤ sizeLine)
    (h : ∀ x ∈ xs, ∃ ρ1 c, a (wipeD ρ vs) x = .ok ρ1 ∧ gt ρ1 = .ok c ∧ (c = true → ∃ y, ge ρ1 = .ok y ∧ P y)) : ∃ ys, oLc gi a gt ge vs ρ = .ok (.list ys) ∧ (∀ y ∈ ys, P y) ∧ ys.length ≤ xs.length := by
  have go : ∀ xs : List PD, (∀ x ∈ xs, ∃ ρ1 c, a (wipeD ρ vs) x = .ok ρ1 ∧ gt ρ1 = .ok c ∧ (c = true → ∃ y, ge ρ1 = .ok y ∧ P y)) → ∃ ys, lcL (lcE a gt ge (wipeD ρ vs)) xs = .ok ys ∧ (∀ y ∈ ys, P y) ∧ ys.length ≤ xs.length := by
    intro xs
    induction xs with
    | nil => exact fun _ => ⟨[], rfl, fun y hy => (by cases hy), Nat.le_refl _⟩
    | cons x xs ih =>
      intro h
      obtain ⟨ys, h1, h2, h3⟩ := ih fun y hy => h y (List.mem_cons_of_mem _ hy)
      obtain ⟨ρ1, c, e1, e2, e3⟩ := h x List.mem_cons_self
      unfold lcL lcE
      rw [e1, x_bind_ok, e2, x_bind_ok]
      have h1 : lcL (lcE a gt ge (wipeD ρ vs)) xs = .ok ys := h1
      cases c with
      | true =>
        obtain ⟨y, e4, hy⟩ := e3 rfl
        rw [if_pos rfl, e4, x_bind_ok, x_bind_ok]
        show ∃ ys', ((lcL (lcE a gt ge (wipeD ρ vs)) xs).bind fun l => R.ok ((some y).toList ++ l)) = .ok ys' ∧ _
        rw [h1]
        refine ⟨y :: ys, rfl, fun z hz => ?_, by rw [List.length_cons, List.length_cons]; omega⟩
        rcases List.mem_cons.mp hz with e | hz
        · rw [e]; exact hy
        · exact h2 z hz
      | false =>
        rw [if_neg (by decide), x_bind_ok]
        show ∃ ys', ((lcL (lcE a gt ge (wipeD ρ vs)) xs).bind fun l => R.ok ((none : Option PD).toList ++ l)) = .ok ys' ∧ _
        rw [h1]
        exact ⟨ys, rfl, h2, by rw [List.length_cons]; omega⟩
  obtain ⟨ys, h1, h2, h3⟩ := go xs h
  refine ⟨ys, ?_, h2, h3⟩
  rw [x_oLc, e, x_bind_ok, h1]
  show (R.ok ys).bind _ = _
  rw [x_bind_ok, if_pos (Nat.le_trans h3 hl)]
/-- .. whose items all give a value -/
theorem lc_eq {γ : Type} {gi : Rho → R (List PD)} {a : Rho → PD → R Rho} {ge : Rho → R PD} {vs : List Nat} {ρ : Rho} {xs : List γ} (f g : γ → PD) (e : gi ρ = .ok (xs.map f)) (hl : xs.length ≤ sizeLine)
    (h : ∀ x ∈ xs, ∃ ρ1, a (wipeD ρ vs) (f x) = .ok ρ1 ∧ ge ρ1 = .ok (g x)) : oLc gi a gYes ge vs ρ = .ok (.list (xs.map g)) := by
  have go : ∀ xs : List γ, (∀ x ∈ xs, ∃ ρ1, a (wipeD ρ vs) (f x) = .ok ρ1 ∧ ge ρ1 = .ok (g x)) → lcL (lcE a gYes ge (wipeD ρ vs)) (xs.map f) = .ok (xs.map g) := by
    intro xs
    induction xs with
    | nil => exact fun _ => rfl
    | cons x xs ih =>
      intro h
      obtain ⟨ρ1, e1, e2⟩ := h x List.mem_cons_self
      rw [List.map_cons, List.map_cons]
      unfold lcL lcE
      rw [e1, x_bind_ok, x_gYes, x_bind_ok, if_pos rfl, e2, x_bind_ok, x_bind_ok]
      show ((lcL (lcE a gYes ge (wipeD ρ vs)) (xs.map f)).bind fun l => R.ok ((some (g x)).toList ++ l)) = _
      rw [ih fun y hy => h y (List.mem_cons_of_mem _ hy)]
      rfl
  rw [x_oLc, e, x_bind_ok, go xs h]
  show (R.ok (xs.map g)).bind _ = _
  rw [x_bind_ok, if_pos (by rw [List.length_map]; exact hl)]
/-- .. that are picked by p -/
theorem lc_flt {γ : Type} {gi : Rho → R (List PD)} {a : Rho → PD → R Rho} {gt : Rho → R Bool} {ge : Rho → R PD} {vs : List Nat} {ρ : Rho} {xs : List γ} (f g : γ → PD) (p : γ → Bool) (e : gi ρ = .ok (xs.map f)) (hl : xs.length ≤ sizeLine)
    (h : ∀ x ∈ xs, ∃ ρ1, a (wipeD ρ vs) (f x) = .ok ρ1 ∧ gt ρ1 = .ok (p x) ∧ (p x = true → ge ρ1 = .ok (g x))) : oLc gi a gt ge vs ρ = .ok (.list ((xs.filter p).map g)) := by
  have go : ∀ xs : List γ, (∀ x ∈ xs, ∃ ρ1, a (wipeD ρ vs) (f x) = .ok ρ1 ∧ gt ρ1 = .ok (p x) ∧ (p x = true → ge ρ1 = .ok (g x))) → lcL (lcE a gt ge (wipeD ρ vs)) (xs.map f) = .ok ((xs.filter p).map g) := by
    intro xs
    induction xs with
    | nil => exact fun _ => rfl
    | cons x xs ih =>
      intro h
      obtain ⟨ρ1, e1, e2, e3⟩ := h x List.mem_cons_self
      have ih := ih fun y hy => h y (List.mem_cons_of_mem _ hy)
      rw [List.map_cons]
      unfold lcL lcE
      rw [e1, x_bind_ok, e2, x_bind_ok]
      cases c : p x with
      | true =>
        rw [if_pos rfl, e3 c, x_bind_ok, x_bind_ok, List.filter_cons_of_pos c]
        show ((lcL (lcE a gt ge (wipeD ρ vs)) (xs.map f)).bind fun l => R.ok ((some (g x)).toList ++ l)) = _
        rw [ih]
        rfl
      | false =>
        rw [if_neg (by decide), x_bind_ok, List.filter_cons_of_neg (by rw [c]; decide)]
        show ((lcL (lcE a gt ge (wipeD ρ vs)) (xs.map f)).bind fun l => R.ok ((none : Option PD).toList ++ l)) = _
        rw [ih]
        rfl
  rw [x_oLc, e, x_bind_ok, go xs h]
  show (R.ok ((xs.filter p).map g)).bind _ = _
  rw [x_bind_ok, if_pos (by rw [List.length_map]; exact Nat.le_trans (List.length_filter_le _ _) hl)]
/-- an item of a list, by its place -/
theorem ix_list {γ : Type} (l : List γ) (f : γ → PD) (i : Int) (h0 : 0 ≤ i) (h1 : i < l.length) : ∃ (x : γ) (h : i.toNat < l.length), x = l[i.toNat] ∧ ixD (.list (l.map f)) (.int i) = .ok (f x) := by
  have h : i.toNat < l.length := by omega
  refine ⟨l[i.toNat], h, rfl, x_ix_l _ _ _ h0 ?_⟩
  rw [List.getElem?_map, List.getElem?_eq_getElem h]
  rfl
theorem ix_tup {γ : Type} (l : List γ) (f : γ → PD) (i : Int) (h0 : 0 ≤ i) (h1 : i < l.length) : ∃ (x : γ) (h : i.toNat < l.length), x = l[i.toNat] ∧ ixD (.tuple (l.map f)) (.int i) = .ok (f x) := by
  have h : i.toNat < l.length := by omega
  refine ⟨l[i.toNat], h, rfl, x_ix_t _ _ _ h0 ?_⟩
  rw [List.getElem?_map, List.getElem?_eq_getElem h]
  rfl
theorem enum_map {γ : Type} (l : List γ) (f : γ → PD) : enumD (l.map f) = l.zipIdx.map fun p => .tuple [.int ((p.2 : Nat) : Int), f p.1] := by
  unfold enumD
  rw [List.zipIdx_map, List.map_map]
  rfl
end DL
/-! The plain side, more: data that can be compared; dicts of text keys; places. -/
namespace DL
open PySem L2
def okS (z : Str) : Prop := PyData.strOk z = true
theorem okS_of {z : Str} (h : ∀ c ∈ cs z, c < 1114112) : okS z := by
  unfold okS PyData.strOk
  rw [← Array.all_toList, List.all_eq_true]
  exact fun c hc => decide_eq_true (h c hc)
structure Sh (n : Nat) (d : PD) : Prop where
  c : d.canLay0 = true
  h : d.depth ≤ n
section
variable {n m : Nat} {d : PD} {l : List PD}
theorem Sh.up (a : Sh n d) (k : n ≤ m) : Sh m d := ⟨a.c, Nat.le_trans a.h k⟩
theorem sh_i {i : Int} : Sh n (.int i) := ⟨by simp [PyData.canLay0], by simp [PyData.depth]⟩
theorem sh_b {i : Bool} : Sh n (.bool i) := ⟨by simp [PyData.canLay0], by simp [PyData.depth]⟩
theorem sh_n : Sh n .none := ⟨by simp [PyData.canLay0], by simp [PyData.depth]⟩
theorem sh_s {z : Str} (h : okS z) : Sh n (.str z) := ⟨by simp only [PyData.canLay0]; exact h, by simp [PyData.depth]⟩
theorem sh_all : ∀ {l : List PD}, (∀ d ∈ l, Sh n d) → PyData.canLayAll0 l = true ∧ PyData.depthAll l ≤ n
  | [], _ => ⟨by simp [PyData.canLayAll0], by simp [PyData.depthAll]⟩
  | d :: l, h => by
    obtain ⟨a, b⟩ := sh_all fun e he => h e (List.mem_cons_of_mem _ he)
    have := h d List.mem_cons_self
    exact ⟨by simp only [PyData.canLayAll0, this.c, a, Bool.and_self], by simp only [PyData.depthAll]; exact Nat.max_le.mpr ⟨this.h, b⟩⟩
theorem sh_l (h : ∀ d ∈ l, Sh n d) : Sh (n + 1) (.list l) := ⟨by simp only [PyData.canLay0]; exact (sh_all h).1, by simp only [PyData.depth]; have := (sh_all h).2; omega⟩
theorem sh_t (h : ∀ d ∈ l, Sh n d) : Sh (n + 1) (.tuple l) := ⟨by simp only [PyData.canLay0]; exact (sh_all h).1, by simp only [PyData.depth]; have := (sh_all h).2; omega⟩
theorem sh_m {γ : Type} {f : γ → PD} {l : List γ} (h : ∀ x ∈ l, Sh n (f x)) : ∀ d ∈ l.map f, Sh n d := fun d hd => by
  obtain ⟨x, hx, rfl⟩ := List.mem_map.mp hd
  exact h x hx
theorem sh_0 : ∀ d ∈ ([] : List PD), Sh n d := fun d h => by cases h
theorem sh_c {x : PD} (a : Sh n x) (b : ∀ d ∈ l, Sh n d) : ∀ d ∈ x :: l, Sh n d := fun d h => by
  rcases List.mem_cons.mp h with e | h
  · rw [e]; exact a
  · exact b d h
theorem Sh.ok (a : Sh n d) (k : n ≤ 64) : SeqAt.shaped d = true := by
  unfold SeqAt.shaped
  rw [a.c, Bool.true_and]
  exact decide_eq_true (Nat.le_trans a.h k)
end
mutual
theorem eqv_refl : ∀ d : PD, d.canLay0 = true → PyData.eqv d d = true
  | .none, _ => by simp only [PyData.eqv]
  | .bool b, _ => by simp only [PyData.eqv, beq_self_eq_true]
  | .int i, _ => by simp only [PyData.eqv, beq_self_eq_true]
  | .str x, _ => by simp only [PyData.eqv, beq_self_eq_true]
  | .list xs, h => by
    simp only [PyData.eqv]
    exact eqvAll_refl xs (by simpa [PyData.canLay0] using h)
  | .tuple xs, h => by
    simp only [PyData.eqv]
    exact eqvAll_refl xs (by simpa [PyData.canLay0] using h)
  | .dict _, h => by simp [PyData.canLay0] at h
theorem eqvAll_refl : ∀ xs : List PD, PyData.canLayAll0 xs = true → PyData.eqvAll xs xs = true
  | [], _ => by simp only [PyData.eqvAll]
  | x :: xs, h => by
    have h' : x.canLay0 = true ∧ PyData.canLayAll0 xs = true := by simpa [PyData.canLayAll0] using h
    simp only [PyData.eqvAll, eqv_refl x h'.1, eqvAll_refl xs h'.2, Bool.and_self]
end
theorem eqB_t (l m : List PD) : eqB (.tuple l) (.tuple m) = if SeqAt.shaped (.tuple l) = true ∧ SeqAt.shaped (.tuple m) = true then .ok (PyData.eqv (.tuple l) (.tuple m)) else .bad := rfl
theorem eqB_l (l m : List PD) : eqB (.list l) (.list m) = if SeqAt.shaped (.list l) = true ∧ SeqAt.shaped (.list m) = true then .ok (PyData.eqv (.list l) (.list m)) else .bad := rfl
theorem eqB_tt {n : Nat} {l m : List PD} (a : Sh n (.tuple l)) (b : Sh n (.tuple m)) (k : n ≤ 64) : eqB (.tuple l) (.tuple m) = .ok (PyData.eqvAll l m) := by
  rw [eqB_t, if_pos ⟨a.ok k, b.ok k⟩]
  simp only [PyData.eqv]
theorem eqB_ll {n : Nat} {l m : List PD} (a : Sh n (.list l)) (b : Sh n (.list m)) (k : n ≤ 64) : eqB (.list l) (.list m) = .ok (PyData.eqvAll l m) := by
  rw [eqB_l, if_pos ⟨a.ok k, b.ok k⟩]
  simp only [PyData.eqv]
theorem eqvAll_nil (l : List PD) : PyData.eqvAll l [] = l.isEmpty := by
  cases l with
  | nil => simp only [PyData.eqvAll, List.isEmpty_nil]
  | cons x l => simp only [PyData.eqvAll, List.isEmpty_cons]
/-! ### dicts with text keys -/
theorem mem_putD {kvs : List (PD × PD)} {k : Key} {d : PD} {q : PD × PD} (h : q ∈ putD kvs k d) : q ∈ kvs ∨ q = (keyD k, d) := by
  unfold putD at h
  split at h
  · obtain ⟨p, hp, e⟩ := List.mem_map.mp h
    by_cases c : keyOf p.1 = some k
    · rw [if_pos c] at e
      rw [← e, keyD_of c]
      exact .inr rfl
    · rw [if_neg c] at e
      exact .inl (by rw [← e]; exact hp)
  · rcases List.mem_append.mp h with h | h
    · exact .inl h
    · exact .inr (List.mem_singleton.mp h)
theorem len_putD (kvs : List (PD × PD)) (k : Key) (d : PD) : (putD kvs k d).length ≤ kvs.length + 1 := by
  unfold putD
  split
  · rw [List.length_map]; omega
  · rw [List.length_append]; exact Nat.le_refl _
def enI (e : Str × Int) : PD × PD := (.str e.1, .int e.2)
theorem pairKs_si : ∀ es : List (Str × Int), pairKs (es.map enI) = some (es.map fun e => ((.inr e.1 : Key), (.inl e.2 : Key)))
  | [] => rfl
  | e :: es => by
    rw [List.map_cons, List.map_cons]
    unfold pairKs
    rw [pairKs_si es]
    rfl
/-- sorted(items of a dict of texts and numbers) -/
theorem sortIt_ok {i : Nat} {ρ : Rho} (es : List (Str × Int)) (h : ρ[i]? = some (some (.t (.own (.dict (es.map enI)))))) : ∃ ys : List (Str × Int), oSortIt i ρ = .ok (.list (ys.map fun y => .tuple [.str y.1, .int y.2])) ∧ ys.Perm es := by
  rw [x_sortIt, h]
  dsimp only
  rw [pairKs_si]
  dsimp only
  have e1 : (es.map fun e => ((.inr e.1 : Key), (.inl e.2 : Key))).map pr2 = es.map fun e => [(.inr e.1 : Key), (.inl e.2 : Key)] := by rw [List.map_map]; rfl
  rw [e1]
  have hl : likeAll (es.map fun e => [(.inr e.1 : Key), (.inl e.2 : Key)]) = true := by
    unfold likeAll
    rw [List.all_eq_true]
    intro a ha
    obtain ⟨p, hp, rfl⟩ := List.mem_map.mp ha
    rw [Bool.and_eq_true, List.all_eq_true]
    refine ⟨rfl, fun b hb => ?_⟩
    obtain ⟨p2, hp2, rfl⟩ := List.mem_map.mp hb
    rfl
  rw [if_pos hl]
  have pm : (sortK (es.map fun e => [(.inr e.1 : Key), (.inl e.2 : Key)])).Perm (es.map fun e => [(.inr e.1 : Key), (.inl e.2 : Key)]) := isort_perm _ _
  obtain ⟨ys, e, _⟩ := lift_list (f := fun e : Str × Int => [(.inr e.1 : Key), (.inl e.2 : Key)]) (P := fun _ => True) (l := sortK (es.map fun e => [(.inr e.1 : Key), (.inl e.2 : Key)])) fun x hx => by
    obtain ⟨p, hp, rfl⟩ := List.mem_map.mp (pm.mem_iff.mp hx)
    exact ⟨p, rfl, trivial⟩
  refine ⟨ys, ?_, ?_⟩
  · rw [e, List.map_map]
    rfl
  · rw [e] at pm
    have := pm.filterMap fun k => match k with
      | [.inr a, .inl b] => some (a, b)
      | _ => none
    rw [List.filterMap_map, List.filterMap_map] at this
    have id1 : ∀ l : List (Str × Int), l.filterMap ((fun k : List Key => match k with
      | [.inr a, .inl b] => some (a, b)
      | _ => none) ∘ fun e : Str × Int => [(.inr e.1 : Key), (.inl e.2 : Key)]) = l := fun l => by
      induction l with
      | nil => rfl
      | cons x l ih => rw [List.filterMap_cons]; simp only [Function.comp_apply]; rw [ih]
    rw [id1, id1] at this
    exact this
theorem putD_si (es : List (Str × Int)) (w : Str) (i : Int) : ∃ es' : List (Str × Int), putD (es.map enI) (.inr w) (.int i) = es'.map enI ∧ es'.length ≤ es.length + 1 ∧ ∀ e ∈ es', e ∈ es ∨ e = (w, i) := by
  obtain ⟨es', e, h⟩ := lift_list (f := enI) (P := fun e => e ∈ es ∨ e = (w, i)) (l := putD (es.map enI) (.inr w) (.int i)) fun x hx => by
    rcases mem_putD hx with h | h
    · obtain ⟨y, hy, rfl⟩ := List.mem_map.mp h
      exact ⟨y, rfl, .inl hy⟩
    · exact ⟨(w, i), h, .inr rfl⟩
  refine ⟨es', e, ?_, h⟩
  have := len_putD (es.map enI) (.inr w) (.int i)
  rw [e, List.length_map, List.length_map] at this
  exact this
/-- a comprehension without a test, by what holds of its items -/
theorem lc_yes {γ : Type} {gi : Rho → R (List PD)} {a : Rho → PD → R Rho} {ge : Rho → R PD} {vs : List Nat} {ρ : Rho} {xs : List γ} (f : γ → PD) (P : γ → PD → Prop) (e : gi ρ = .ok (xs.map f)) (hl : xs.length ≤ sizeLine)
    (h : ∀ x ∈ xs, ∃ ρ1 y, a (wipeD ρ vs) (f x) = .ok ρ1 ∧ ge ρ1 = .ok y ∧ P x y) : ∃ ys, oLc gi a gYes ge vs ρ = .ok (.list ys) ∧ ys.length = xs.length ∧ ∀ y ∈ ys, ∃ x ∈ xs, P x y := by
  have go : ∀ xs : List γ, (∀ x ∈ xs, ∃ ρ1 y, a (wipeD ρ vs) (f x) = .ok ρ1 ∧ ge ρ1 = .ok y ∧ P x y) → ∃ ys, lcL (lcE a gYes ge (wipeD ρ vs)) (xs.map f) = .ok ys ∧ ys.length = xs.length ∧ ∀ y ∈ ys, ∃ x ∈ xs, P x y := by
    intro xs
    induction xs with
    | nil => exact fun _ => ⟨[], rfl, rfl, fun y hy => (by cases hy)⟩
    | cons x xs ih =>
      intro h
      obtain ⟨ys, h1, h2, h3⟩ := ih fun y hy => h y (List.mem_cons_of_mem _ hy)
      obtain ⟨ρ1, y, e1, e2, hy⟩ := h x List.mem_cons_self
      rw [List.map_cons]
      unfold lcL lcE
      rw [e1, x_bind_ok, x_gYes, x_bind_ok, if_pos rfl, e2, x_bind_ok, x_bind_ok]
      show ∃ ys', ((lcL (lcE a gYes ge (wipeD ρ vs)) (xs.map f)).bind fun l => R.ok ((some y).toList ++ l)) = .ok ys' ∧ _
      rw [h1]
      refine ⟨y :: ys, rfl, by rw [List.length_cons, List.length_cons, h2], fun z hz => ?_⟩
      rcases List.mem_cons.mp hz with q | hz
      · rw [q]; exact ⟨x, List.mem_cons_self, hy⟩
      · obtain ⟨w, hw, p⟩ := h3 z hz
        exact ⟨w, List.mem_cons_of_mem _ hw, p⟩
  obtain ⟨ys, h1, h2, h3⟩ := go xs h
  refine ⟨ys, ?_, h2, h3⟩
  rw [x_oLc, e, x_bind_ok, h1]
  show (R.ok ys).bind _ = _
  rw [x_bind_ok, if_pos (by rw [h2]; exact hl)]
theorem cut_a {γ : Type} (l : List γ) (f : γ → PD) (i : Int) (h : 0 ≤ i) : cutD (l.map f) none (some i) = (l.take i.toNat).map f := by
  unfold cutD
  rw [show HT.sIx (l.map f).length 0 none = 0 from rfl, List.drop_zero, Nat.sub_zero, show HT.sIx (l.map f).length (l.map f).length (some i) = min i.toNat (l.map f).length from if_neg (by omega), List.map_take, List.length_map]
  by_cases c : i.toNat ≤ l.length
  · rw [Nat.min_eq_left c]
  · rw [Nat.min_eq_right (by omega), List.take_of_length_le (by rw [List.length_map]; omega), List.take_of_length_le (by rw [List.length_map]; omega)]
theorem cut_b {γ : Type} (l : List γ) (f : γ → PD) (i : Int) (h : 0 ≤ i) : cutD (l.map f) (some i) none = (l.drop i.toNat).map f := by
  unfold cutD
  rw [show HT.sIx (l.map f).length (l.map f).length none = (l.map f).length from rfl, show HT.sIx (l.map f).length 0 (some i) = min i.toNat (l.map f).length from if_neg (by omega), List.map_drop, List.length_map]
  by_cases c : i.toNat ≤ l.length
  · rw [Nat.min_eq_left c, List.take_of_length_le (by rw [List.length_drop, List.length_map]; omega)]
  · rw [Nat.min_eq_right (by omega), Nat.sub_self, List.take_zero, List.drop_of_length_le (by rw [List.length_map]; omega)]
theorem it_l {g : Rho → R PD} {ρ : Rho} {l : List PD} (h : g ρ = .ok (.list l)) : iItems g ρ = .ok l := by
  rw [x_iItems, h]
  rfl
theorem it_t {g : Rho → R PD} {ρ : Rho} {l : List PD} (h : g ρ = .ok (.tuple l)) : iItems g ρ = .ok l := by
  rw [x_iItems, h]
  rfl
theorem fz_l {g : Rho → R PD} {ρ : Rho} {l : List PD} (h : g ρ = .ok (.list l)) : eFz g ρ = .ok (.list l) := by
  rw [x_eFz, h]
  rfl
theorem enum_st {g : Rho → R PD} {ρ : Rho} {l : List PD} (h : g ρ = .ok (.list l)) : iEnumD (aCons g aNil) ρ = .ok (enumD l) := by
  unfold iEnumD
  rw [x_aCons, h, x_bind_ok, x_aNil, x_bind_ok, x_bind_ok]
  rfl
theorem zip_at {γ : Type} {l : List γ} {i j : Nat} {x : γ} (h : l.zipIdx[i]? = some (x, j)) : j = i ∧ ∃ h : i < l.length, l[i] = x := by
  obtain ⟨h1, h2⟩ := List.getElem?_eq_some_iff.mp h
  rw [List.getElem_zipIdx] at h2
  rw [List.length_zipIdx] at h1
  injection h2 with h2 h3
  exact ⟨by omega, h1, h2⟩
section
variable {γ : Type} {f : γ → PD} {ρ : Rho} {g ga gb gc gk : Rho → R PD} {l m n : List γ} {k : Int} {a b c : PD}
theorem add2 (ha : ga ρ = .ok (.list (l.map f))) (hb : gb ρ = .ok (.list (m.map f))) (h : l.length + m.length ≤ 1000) : eOp addD ga gb ρ = .ok (.list ((l ++ m).map f)) := by
  rw [op_ok ha hb, x_add_l, if_pos (sz (by rw [List.length_map, List.length_map]; omega)), List.map_append]
theorem add3 (ha : ga ρ = .ok (.list (l.map f))) (hb : gb ρ = .ok (.list (m.map f))) (hc : gc ρ = .ok (.list (n.map f))) (h : l.length + m.length + n.length ≤ 1000) : eOp addD (eOp addD ga gb) gc ρ = .ok (.list ((l ++ m ++ n).map f)) :=
  add2 (add2 ha hb (by omega)) hc (by rw [List.length_append]; exact h)
theorem sl_a (ha : g ρ = .ok (.list (l.map f))) (hk : gk ρ = .ok (.int k)) (k0 : 0 ≤ k) : eSl g pNo (pSo gk) ρ = .ok (.list ((l.take k.toNat).map f)) := by
  simp only [x_eSl, x_pNo, x_pSo, ha, hk, x_bind_ok, x_asI, x_sl_l, cut_a _ _ _ k0]
theorem sl_b (ha : g ρ = .ok (.list (l.map f))) (hk : gk ρ = .ok (.int k)) (k0 : 0 ≤ k) : eSl g (pSo gk) pNo ρ = .ok (.list ((l.drop k.toNat).map f)) := by
  simp only [x_eSl, x_pNo, x_pSo, ha, hk, x_bind_ok, x_asI, x_sl_l, cut_b _ _ _ k0]
theorem tup2 (ha : ga ρ = .ok a) (hb : gb ρ = .ok b) : eTup (aCons ga (aCons gb aNil)) ρ = .ok (.tuple [a, b]) := by
  simp only [x_eTup, x_aCons, x_aNil, ha, hb, x_bind_ok, List.length_cons, List.length_nil, Nat.reduceAdd]
  exact if_pos s2
theorem tup3 (ha : ga ρ = .ok a) (hb : gb ρ = .ok b) (hc : gc ρ = .ok c) : eTup (aCons ga (aCons gb (aCons gc aNil))) ρ = .ok (.tuple [a, b, c]) := by
  simp only [x_eTup, x_aCons, x_aNil, ha, hb, hc, x_bind_ok, List.length_cons, List.length_nil, Nat.reduceAdd]
  exact if_pos s3
theorem lst1 (ha : ga ρ = .ok a) : eFz (oLst (aCons ga aNil)) ρ = .ok (.list [a]) := by
  refine fz_l ?_
  simp only [x_oLst, x_aCons, x_aNil, ha, x_bind_ok, List.length_cons, List.length_nil, Nat.reduceAdd]
  exact if_pos s1
theorem lst0 : eFz (oLst aNil) ρ = .ok (.list []) := fz_l (by
  simp only [x_oLst, x_aNil, x_bind_ok, List.length_nil]
  exact if_pos s0)
theorem xOrB {a b : Rho → R Bool} (x y : Bool) (h1 : a ρ = .ok x) (h2 : b ρ = .ok y) : bOr a b ρ = .ok (x || y) := by
  rw [x_bOr, h1, x_bind_ok, h2]
  cases x <;> rfl
theorem hs_asg {N : Rho → Prop} {Rt : Sl → Prop} {Ct : Rho → Prop} {as : Rho → PD → R Rho} {ρ' : Rho} (e : g ρ = .ok a) (e2 : as ρ a = .ok ρ') (h : N ρ') : HS (sAsg g as) ρ N Rt Ct := hs_nx (by rw [x_sAsg, e, x_of_ok, e2, x_ofT]) h
end
/-! ### places -/
theorem hs_ins {ρ : Rho} {N : Rho → Prop} {Rt : Sl → Prop} {Ct : Rho → Prop} {i : Nat} {gi g : Rho → R PD} {ds : List PD} {n : Int} {x : PD} (h : ρ[i]? = some (some (.t (.own (.list ds))))) (e : gi ρ = .ok (.int n)) (e2 : g ρ = .ok x) (hl : ds.length < sizeLine) (h0 : 0 ≤ n) (h1 : n < 2 ^ 63) (k : N (ρ.set i (some (.o (.list (ds.take n.toNat ++ [x] ++ ds.drop n.toNat)))))) : HS (sInsertD i gi g) ρ N Rt Ct := by
  refine hs_nx (ρ' := ρ.set i (some (.o (.list (ds.take n.toNat ++ [x] ++ ds.drop n.toNat))))) ?_ k
  unfold sInsertD ownL
  rw [h]
  show SR.of (gi ρ) _ = _
  rw [e, x_of_ok, e2, x_of_ok]
  exact if_pos ⟨hl, h0, h1⟩
theorem flat_ints (l : List Int) : (l.map PyData.int).all flatP = true := by
  rw [List.all_eq_true]
  intro d hd
  obtain ⟨i, _, rfl⟩ := List.mem_map.mp hd
  rfl
theorem idx_ints (l : List Int) (i : Int) (h : i ∈ l) : ∃ j : Nat, idxD (.list (l.map PyData.int)) (.int i) = .ok (.int (j : Nat)) ∧ ∃ h : j < l.length, l[j] = i := by
  have e : (l.map PyData.int).findIdx? (fun d => eqF d (.int i)) = l.findIdx? (fun d => decide (d = i)) := by
    rw [List.findIdx?_map]
    rfl
  cases c : l.findIdx? (fun d => decide (d = i)) with
  | none =>
    have := List.findIdx?_eq_none_iff.mp c i h
    simp at this
  | some j =>
    obtain ⟨hj, h2, _⟩ := List.findIdx?_eq_some_iff_getElem.mp c
    refine ⟨j, ?_, hj, of_decide_eq_true h2⟩
    unfold idxD
    dsimp only
    rw [if_pos ⟨rfl, flat_ints l⟩, e, c]
section
variable {ρ : Rho} {N : Rho → Prop} {Rt : Sl → Prop} {Ct : Rho → Prop} {s : Rho → SR}
theorem xAndB {a b : Rho → R Bool} (x y : Bool) (h1 : a ρ = .ok x) (h2 : x = true → b ρ = .ok y) : bAnd a b ρ = .ok (x && y) := by
  rw [x_bAnd, h1, x_bind_ok]
  cases x with
  | true => exact h2 rfl
  | false => rfl
theorem xOrC {a b : Rho → R Bool} (x y : Bool) (h1 : a ρ = .ok x) (h2 : x = false → b ρ = .ok y) : bOr a b ρ = .ok (x || y) := by
  rw [x_bOr, h1, x_bind_ok]
  cases x with
  | true => rfl
  | false => exact h2 rfl
theorem xNotB {a : Rho → R Bool} (x : Bool) (h1 : a ρ = .ok x) : bNot a ρ = .ok (!x) := by
  rw [x_bNot, h1, x_bind_ok]
/-- a loop that hands back False at the first item that is not p -/
theorem hs_every {γ : Type} {gi : Rho → R (List PD)} {a : Rho → PD → R Rho} {is : List Nat} (f : γ → PD) (xs : List γ) (p : γ → Bool) (e : gi ρ = .ok (xs.map f))
    (hs : ∀ (i : Nat) (x : γ), xs[i]? = some x → ∃ ρ1, a ρ (f x) = .ok ρ1 ∧ HS s ρ1 (fun ρ2 => is.foldl (fun ρ i => ρ.set i none) ρ2 = ρ ∧ p x = true) (fun y => y = .d (.bool false) ∧ p x = false) (fun _ => False))
    (hN : xs.all p = true → N ρ) (hR : xs.all p = false → Rt (.d (.bool false))) : HS (sFor gi a (killS is s)) ρ N Rt Ct := by
  refine hs_forL f xs e (fun i ρ' => ρ' = ρ ∧ ∀ x ∈ xs.take i, p x = true) ⟨rfl, fun x h => by rw [List.take_zero] at h; cases h⟩ (fun i x ρ' hx hI => ?_) fun ρ' hI => ?_
  · obtain ⟨rfl, hI⟩ := hI
    obtain ⟨ρ1, e1, h1⟩ := hs i x hx
    refine ⟨ρ1, e1, hs_mono h1 (fun ρ2 h => ⟨h.1, fun y hy => ?_⟩) (fun y h => ?_) fun _ h => h.elim⟩
    · rw [List.take_succ, hx] at hy
      rcases List.mem_append.mp hy with q | q
      · exact hI y q
      · rw [List.mem_singleton.mp q]; exact h.2
    · rw [h.1]
      refine hR ?_
      rw [List.all_eq_false]
      exact ⟨x, List.mem_of_getElem? hx, by rw [h.2]; decide⟩
  · obtain ⟨rfl, hI⟩ := hI
    rw [List.take_length] at hI
    exact hN (List.all_eq_true.mpr hI)
end
/-- a loop that hands back what it finds first -/
theorem hs_first {ρ : Rho} {N : Rho → Prop} {Rt : Sl → Prop} {Ct : Rho → Prop} {s : Rho → SR} {γ β : Type} {gi : Rho → R (List PD)} {a : Rho → PD → R Rho} {is : List Nat} (f : γ → PD) (xs : List γ) (p : γ → Option β) (ret : β → Sl) (e : gi ρ = .ok (xs.map f))
    (hs : ∀ (i : Nat) (x : γ), xs[i]? = some x → ∃ ρ1, a ρ (f x) = .ok ρ1 ∧ HS s ρ1 (fun ρ2 => is.foldl (fun ρ i => ρ.set i none) ρ2 = ρ ∧ p x = none) (fun y => ∃ b, y = ret b ∧ p x = some b) (fun _ => False))
    (hN : xs.findSome? p = none → N ρ) (hR : ∀ b, xs.findSome? p = some b → Rt (ret b)) : HS (sFor gi a (killS is s)) ρ N Rt Ct := by
  refine hs_forL f xs e (fun i ρ' => ρ' = ρ ∧ ∀ x ∈ xs.take i, p x = none) ⟨rfl, fun x h => by rw [List.take_zero] at h; cases h⟩ (fun i x ρ' hx hI => ?_) fun ρ' hI => ?_
  · obtain ⟨rfl, hI⟩ := hI
    obtain ⟨ρ1, e1, h1⟩ := hs i x hx
    refine ⟨ρ1, e1, hs_mono h1 (fun ρ2 h => ⟨h.1, fun y hy => ?_⟩) (fun y h => ?_) fun _ h => h.elim⟩
    · rw [List.take_succ, hx] at hy
      rcases List.mem_append.mp hy with q | q
      · exact hI y q
      · rw [List.mem_singleton.mp q]; exact h.2
    · obtain ⟨b, rfl, hb⟩ := h
      refine hR b ?_
      obtain ⟨h1, h2⟩ := List.getElem?_eq_some_iff.mp hx
      have e2 : xs = xs.take i ++ x :: xs.drop (i + 1) := by rw [← h2, ← List.drop_eq_getElem_cons h1, List.take_append_drop]
      rw [e2, List.findSome?_append, List.findSome?_eq_none_iff.mpr hI, Option.none_or, List.findSome?_cons, hb]
  · obtain ⟨rfl, hI⟩ := hI
    rw [List.take_length] at hI
    exact hN (List.findSome?_eq_none_iff.mpr hI)
theorem runT_eq {n : Nat} {s : Rho → SR} {ts : List Tv} {y : Sl} (h : HS s (startT n ts) (fun _ => Sl.d .none = y) (fun x => x = y) (fun _ => False)) : runT n s ts = .rt y := by
  replace h := h.out
  unfold HSm at h
  unfold runT
  cases e : s (startT n ts) with
  | nx ρ' => rw [e] at h; have h : Sl.d .none = y := h; rw [← h]; rfl
  | rt x => rw [e] at h; have h : x = y := h; rw [h]; rfl
  | ct ρ' => rw [e] at h; exact h.elim
  | bk ρ' => rw [e] at h; exact h.elim
  | exc c => rw [e] at h; exact h.elim
  | bad => rw [e] at h; exact h.elim
section
variable {ρ : Rho} {N : Rho → Prop} {Rt : Sl → Prop} {Ct : Rho → Prop}
def tvOf : Sl → Tv
  | .d x => .fr x
  | .t x => x
  | .l x => .fr x
theorem callT_ok {n : Nat} {f : List Tv → FR} {gt : Rho → R (List Tv)} {k : Tv → SR} {ts : List Tv} {y : Sl} (e : gt ρ = .ok ts) (hn : ts.length = n) (h : f ts = .rt y) (hl : ∀ x, y ≠ .l x) : callT n f gt k ρ = k (tvOf y) := by
  rw [x_callT, e, x_of_ok, if_pos hn, h]
  cases y with
  | d x => rfl
  | t x => rfl
  | l x => exact absurd rfl (hl x)
theorem hs_callT {i n : Nat} {vs : List Nat} {f : List Tv → FR} {gt : Rho → R (List Tv)} {ts : List Tv} {y : Sl} (e : gt ρ = .ok ts) (hn : ts.length = n) (h : f ts = .rt y) (hl : ∀ x, y ≠ .l x) (k : N ((killD ρ vs).set i (some (slOf (tvOf y))))) : HS (sCallT i vs n f gt) ρ N Rt Ct :=
  hs_nx (by rw [x_sCallT, callT_ok e hn h hl]) k
theorem hs_retT {n : Nat} {f : List Tv → FR} {gt : Rho → R (List Tv)} {ts : List Tv} {y : Sl} (e : gt ρ = .ok ts) (hn : ts.length = n) (h : f ts = .rt y) (hl : ∀ x, y ≠ .l x) (k : Rt (.t (tvOf y))) : HS (sRetT n f gt) ρ N Rt Ct :=
  hs_rt (by rw [x_sRetT, callT_ok e hn h hl]) k
theorem callH3 {f : List PD → FR} {ga gb gc : Rho → R PD} {a b c : PD} {x : Bool} (ha : ga ρ = .ok a) (hb : gb ρ = .ok b) (hc : gc ρ = .ok c) (h : f [a, b, c] = .rt (.d (.bool x))) : eCallH 3 f (aCons ga (aCons gb (aCons gc aNil))) ρ = .ok (.bool x) := by
  simp only [x_eCallH, x_aCons, x_aNil, ha, hb, hc, x_bind_ok]
  show (if 3 = 3 then (f [a, b, c]).toE.bind immO else R.bad) = _
  rw [if_pos rfl, h]
  rfl
theorem callH4 {f : List PD → FR} {ga gb gc gd : Rho → R PD} {a b c d : PD} {x : Bool} (ha : ga ρ = .ok a) (hb : gb ρ = .ok b) (hc : gc ρ = .ok c) (hd : gd ρ = .ok d) (h : f [a, b, c, d] = .rt (.d (.bool x))) : eCallH 4 f (aCons ga (aCons gb (aCons gc (aCons gd aNil)))) ρ = .ok (.bool x) := by
  simp only [x_eCallH, x_aCons, x_aNil, ha, hb, hc, hd, x_bind_ok]
  show (if 4 = 4 then (f [a, b, c, d]).toE.bind immO else R.bad) = _
  rw [if_pos rfl, h]
  rfl
theorem callH1 {f : List PD → FR} {ga : Rho → R PD} {a : PD} {x : Bool} (ha : ga ρ = .ok a) (h : f [a] = .rt (.d (.bool x))) : eCallH 1 f (aCons ga aNil) ρ = .ok (.bool x) := by
  simp only [x_eCallH, x_aCons, x_aNil, ha, x_bind_ok]
  show (if 1 = 1 then (f [a]).toE.bind immO else R.bad) = _
  rw [if_pos rfl, h]
  rfl
end
theorem run_eq {n : Nat} {s : Rho → SR} {ds : List PD} {y : Sl} (h : HS s (startD n ds) (fun _ => Sl.d .none = y) (fun x => x = y) (fun _ => False)) : runD n s ds = .rt y := by
  obtain ⟨x, e, rfl⟩ := hs_run (Q := fun x => x = y) h
  exact e
/-! ### a dict of pairs -/
theorem valD_map (k : Key) (d : PD) (k' : Key) : ∀ kvs : List (PD × PD), valD (kvs.map fun kv => if keyOf kv.1 = some k then (kv.1, d) else kv) k' = if k = k' ∧ (valD kvs k).isSome = true then some d else valD kvs k'
  | [] => by
    rw [List.map_nil, if_neg (fun h => by cases h.2)]
  | p :: r => by
    rw [List.map_cons]
    have ih := valD_map k d k' r
    unfold valD
    by_cases c : keyOf p.1 = some k
    · rw [if_pos c]
      by_cases c2 : k = k'
      · subst c2
        rw [if_pos c, if_pos c, if_pos ⟨rfl, rfl⟩]
      · rw [if_neg (fun q => c2 (Option.some.inj (c.symm.trans q))), ih, if_neg (fun h => c2 h.1), if_neg (fun h => c2 h.1), if_neg (fun q => c2 (Option.some.inj (c.symm.trans q)))]
    · rw [if_neg c]
      by_cases c2 : keyOf p.1 = some k'
      · rw [if_pos c2, if_neg c, if_neg (fun h => c (by rw [h.1]; exact c2)), if_pos c2]
      · rw [if_neg c2, ih, if_neg c, if_neg c2]
theorem valD_app (k k' : Key) (d : PD) : ∀ kvs : List (PD × PD), valD (kvs ++ [(keyD k, d)]) k' = match valD kvs k' with
    | some e => some e
    | none => if k = k' then some d else none
  | [] => by
    show valD [(keyD k, d)] k' = if k = k' then some d else none
    unfold valD
    rw [keyOf_keyD]
    by_cases c : k = k'
    · rw [if_pos (by rw [c]), if_pos c]
    · rw [if_neg (fun q => c (Option.some.inj q)), if_neg c]
      rfl
  | p :: r => by
    rw [List.cons_append]
    unfold valD
    by_cases c : keyOf p.1 = some k'
    · rw [if_pos c, if_pos c]
    · rw [if_neg c, if_neg c, valD_app k k' d r]
theorem valD_putD (kvs : List (PD × PD)) (k k' : Key) (d : PD) : valD (putD kvs k d) k' = if k = k' then some d else valD kvs k' := by
  unfold putD
  by_cases c : (valD kvs k).isSome = true
  · rw [if_pos c, valD_map]
    by_cases c2 : k = k'
    · rw [if_pos ⟨c2, c⟩, if_pos c2]
    · rw [if_neg (fun h => c2 h.1), if_neg c2]
  · rw [if_neg c, valD_app]
    have c : valD kvs k = none := by
      cases h : valD kvs k with
      | none => rfl
      | some _ => rw [h] at c; exact absurd rfl c
    by_cases c2 : k = k'
    · subst c2
      rw [c, if_pos rfl]
    · rw [if_neg c2, if_neg c2]
      cases valD kvs k' with
      | none => rfl
      | some _ => rfl
theorem dnot_o {i : Nat} {g : Rho → R PD} {ρ : Rho} {D : List (PD × PD)} {a : Str} (h : ρ[i]? = some (some (.t (.own (.dict D))))) (e : g ρ = .ok (.str a)) : ednotin i g ρ = .ok (.bool !(valD D (.inr a)).isSome) := by
  have ed : dAt ρ i = .ok D := by unfold dAt; rw [h]
  rw [x_ednotin, e, x_bind_ok, ed, x_bind_ok]
  rfl
theorem din_o {i : Nat} {g : Rho → R PD} {ρ : Rho} {D : List (PD × PD)} {a : Str} (h : ρ[i]? = some (some (.t (.own (.dict D))))) (e : g ρ = .ok (.str a)) : edin i g ρ = .ok (.bool (valD D (.inr a)).isSome) := by
  have ed : dAt ρ i = .ok D := by unfold dAt; rw [h]
  rw [x_edin, e, x_bind_ok, ed, x_bind_ok]
  rfl
/-- what a row of pairs tells of a word: the last one -/
def lkD : List (Str × Int) → Str → Option Int → Option Int
  | [], _, a => a
  | s :: r, w, a => lkD r w (if s.1 = w then some s.2 else a)
def lk (sz : List (Str × Int)) (w : Str) : Option Int := lkD sz w none
theorem valD_merge (w : Str) : ∀ (sz : List (Str × Int)) (kvs : List (PD × PD)) (a : Option Int), valD kvs (.inr w) = a.map PyData.int → valD (mergeD kvs (sz.map fun s => ((.inr s.1 : Key), PyData.int s.2))) (.inr w) = (lkD sz w a).map PyData.int
  | [], _, _, h => h
  | s :: r, kvs, a, h => by
    rw [List.map_cons]
    show valD (mergeD (putD kvs (.inr s.1) (.int s.2)) _) _ = _
    refine valD_merge w r _ _ ?_
    rw [valD_putD]
    by_cases c : s.1 = w
    · rw [if_pos (by rw [c]), if_pos c]
      rfl
    · rw [if_neg (fun q => c (by injection q)), if_neg c]
      exact h
theorem pairs_si : ∀ sz : List (Str × Int), pairsD (sz.map fun s => PyData.tuple [.str s.1, .int s.2]) = some (sz.map fun s => ((.inr s.1 : Key), PyData.int s.2))
  | [] => rfl
  | s :: sz => by
    rw [List.map_cons]
    show (match keyOf (.str s.1), pairsD (sz.map fun s => PyData.tuple [.str s.1, .int s.2]) with
      | some k, some l => some ((k, PyData.int s.2) :: l)
      | _, _ => none) = _
    rw [pairs_si sz]
    rfl
theorem dict_si (sz : List (Str × Int)) : ∃ D, dictD [.list (sz.map fun s => PyData.tuple [.str s.1, .int s.2])] = .ok (.dict D) ∧ ∀ w, valD D (.inr w) = (lk sz w).map PyData.int := by
  refine ⟨mergeD [] (sz.map fun s => ((.inr s.1 : Key), PyData.int s.2)), ?_, fun w => valD_merge w sz [] none rfl⟩
  unfold dictD
  simp only
  rw [pairs_si]
/-! ### what is in a list -/
theorem eqv_si (a b : Str × Int) : PyData.eqvAll [.str a.1, .int a.2] [.str b.1, .int b.2] = decide (a = b) := by
  simp only [PyData.eqvAll, PyData.eqv, Bool.and_true]
  rw [Bool.eq_iff_iff, Bool.and_eq_true, beq_iff_eq, beq_iff_eq, decide_eq_true_iff, Prod.ext_iff]
theorem eqv_sii (a b : Str × Int × Int) : PyData.eqvAll [.str a.1, .int a.2.1, .int a.2.2] [.str b.1, .int b.2.1, .int b.2.2] = decide (a = b) := by
  simp only [PyData.eqvAll, PyData.eqv, Bool.and_true]
  rw [Bool.eq_iff_iff, Bool.and_eq_true, Bool.and_eq_true, beq_iff_eq, beq_iff_eq, beq_iff_eq, decide_eq_true_iff, Prod.ext_iff, Prod.ext_iff]
theorem eqv_ints (l m : List Int) : PyData.eqvAll (l.map PyData.int) (m.map PyData.int) = decide (l = m) := by
  induction l generalizing m with
  | nil => cases m <;> simp [PyData.eqvAll]
  | cons x l ih =>
    cases m with
    | nil => simp [PyData.eqvAll]
    | cons y m =>
      simp only [List.map_cons, PyData.eqvAll, PyData.eqv, ih]
      rw [Bool.eq_iff_iff, Bool.and_eq_true, beq_iff_eq, decide_eq_true_iff, decide_eq_true_iff, List.cons.injEq]
theorem inB_ints (i : Int) (l : List Int) : inB (.int i) (.list (l.map PyData.int)) = .ok (decide (i ∈ l)) := by
  show (if flatP (.int i) = true ∧ (l.map PyData.int).all flatP = true then R.ok ((l.map PyData.int).any fun d => eqF d (.int i)) else _) = _
  rw [if_pos ⟨rfl, flat_ints l⟩, List.any_map]
  congr 1
  rw [Bool.eq_iff_iff, List.any_eq_true, decide_eq_true_iff]
  constructor
  · rintro ⟨x, hx, h⟩
    have h : (x == i) = true := h
    rw [beq_iff_eq] at h
    rw [← h]; exact hx
  · intro h
    exact ⟨i, h, by show (i == i) = true; exact beq_self_eq_true i⟩
theorem inB_t {n : Nat} {l ds : List PD} (a : Sh n (.tuple l)) (b : Sh n (.list ds)) (k : n ≤ 64) : inB (.tuple l) (.list ds) = .ok (ds.any fun z => PyData.eqv z (.tuple l)) := by
  show (if flatP (.tuple l) = true ∧ ds.all flatP = true then R.ok (ds.any fun d => eqF d (.tuple l)) else if SeqAt.shaped (.tuple l) = true ∧ SeqAt.shaped (.list ds) = true then R.ok (ds.any fun z => PyData.eqv z (.tuple l)) else R.bad) = _
  rw [if_neg (fun h => by cases h.1), if_pos ⟨a.ok k, b.ok k⟩]
section
variable {ρ : Rho} {N : Rho → Prop} {Rt : Sl → Prop} {Ct : Rho → Prop} {s : Rho → SR}
/-- .. with slots that change from turn to turn -/
theorem hs_everyJ {γ : Type} {gi : Rho → R (List PD)} {a : Rho → PD → R Rho} {is : List Nat} (f : γ → PD) (xs : List γ) (p : γ → Bool) (J : Rho → Prop) (h0 : J ρ) (e : gi ρ = .ok (xs.map f))
    (hs : ∀ (i : Nat) (x : γ) (ρ' : Rho), xs[i]? = some x → J ρ' → ∃ ρ1, a ρ' (f x) = .ok ρ1 ∧ HS s ρ1 (fun ρ2 => J (is.foldl (fun ρ i => ρ.set i none) ρ2) ∧ p x = true) (fun y => y = .d (.bool false) ∧ p x = false) (fun _ => False))
    (hN : ∀ ρ', J ρ' → xs.all p = true → N ρ') (hR : xs.all p = false → Rt (.d (.bool false))) : HS (sFor gi a (killS is s)) ρ N Rt Ct := by
  refine hs_forL f xs e (fun i ρ' => J ρ' ∧ ∀ x ∈ xs.take i, p x = true) ⟨h0, fun x h => by rw [List.take_zero] at h; cases h⟩ (fun i x ρ' hx hI => ?_) fun ρ' hI => ?_
  · obtain ⟨hJ, hI⟩ := hI
    obtain ⟨ρ1, e1, h1⟩ := hs i x ρ' hx hJ
    refine ⟨ρ1, e1, hs_mono h1 (fun ρ2 h => ⟨h.1, fun y hy => ?_⟩) (fun y h => ?_) fun _ h => h.elim⟩
    · rw [List.take_succ, hx] at hy
      rcases List.mem_append.mp hy with q | q
      · exact hI y q
      · rw [List.mem_singleton.mp q]; exact h.2
    · rw [h.1]
      refine hR ?_
      rw [List.all_eq_false]
      exact ⟨x, List.mem_of_getElem? hx, by rw [h.2]; decide⟩
  · obtain ⟨hJ, hI⟩ := hI
    rw [List.take_length] at hI
    exact hN ρ' hJ (List.all_eq_true.mpr hI)
/-- a while, by what is counted down -/
theorem hs_while {g : Rho → R Bool} {is : List Nat} {fuel : Nat} (I : Nat → Rho → Prop) (k : Nat) (hk : k < fuel) (h0 : I k ρ)
    (hs : ∀ (j : Nat) (ρ' : Rho), I j ρ' → ∃ c, g ρ' = .ok c ∧ (c = false → N ρ') ∧ (c = true → HS s ρ' (fun ρ2 => ∃ j', j' < j ∧ I j' (is.foldl (fun ρ i => ρ.set i none) ρ2)) Rt (fun ρ2 => ∃ j', j' < j ∧ I j' (is.foldl (fun ρ i => ρ.set i none) ρ2)))) : HS (sWhile fuel g (killS is s)) ρ N Rt Ct := by
  have go : ∀ (n k : Nat) (ρ : Rho), k < n → I k ρ → HSm (fun ρ => whileD g (killS is s) n ρ) ρ N Rt Ct := by
    intro n
    induction n with
    | zero => exact fun k ρ h _ => absurd h (Nat.not_lt_zero _)
    | succ n ih =>
      intro k ρ hk hI
      obtain ⟨c, ec, h1, h2⟩ := hs k ρ hI
      unfold HSm
      show (match whileD g (killS is s) (n + 1) ρ with
        | .nx ρ' => N ρ'
        | .rt x => Rt x
        | .ct ρ' => Ct ρ'
        | _ => False)
      unfold whileD
      rw [ec, x_of_ok]
      cases c with
      | false => rw [if_neg (by decide)]; exact h1 rfl
      | true =>
        rw [if_pos rfl, x_killS]
        have h2 := (h2 rfl).out
        unfold HSm at h2
        cases e2 : s ρ with
        | nx ρ2 =>
          rw [e2] at h2
          obtain ⟨j', hj, hI'⟩ := h2
          exact ih j' _ (by omega) hI'
        | rt x => rw [e2] at h2; exact h2
        | ct ρ2 =>
          rw [e2] at h2
          obtain ⟨j', hj, hI'⟩ := h2
          exact ih j' _ (by omega) hI'
        | bk ρ2 => rw [e2] at h2; exact h2.elim
        | exc c => rw [e2] at h2; exact h2.elim
        | bad => rw [e2] at h2; exact h2.elim
  exact ⟨go fuel k ρ hk h0⟩
theorem hs_aug {i : Nat} {f : PD → PD → R PD} {g : Rho → R PD} {a b z : PD} (h : ρ[i]? = some (some (.d a))) (e : g ρ = .ok b) (e2 : f a b = .ok z) (k : N (ρ.set i (some (.d z)))) : HS (sAug i f g) ρ N Rt Ct := by
  refine hs_nx (ρ' := ρ.set i (some (.d z))) ?_ k
  unfold sAug eVar
  rw [h]
  show SR.of (R.ok a) _ = _
  rw [x_of_ok, e, x_of_ok, e2, x_of_ok]
end
theorem lenSet_ok {g : Rho → R PD} {ρ : Rho} {l : List Int} (e : g ρ = .ok (.list (l.map PyData.int))) (h : l.Nodup) (hl : l.length ≤ 4000) : eLenSet g ρ = .ok (.int l.length) := by
  unfold eLenSet
  rw [e, x_bind_ok]
  unfold lenSetD
  dsimp only
  rw [intsOf_map]
  dsimp only
  rw [if_pos ⟨h, hl⟩]
end DL
namespace K16
open PySem PySem.Spec PyProof.Rows L2 DL

def S_is_under : Rho → SR :=
  (sSeq (sSetO 3 (eCB dictD (aCons (rVar 0) aNil))) (sSeq (preK [] (sWhile 20000000 (bAnd (bOf (eOp neD (rVar 1) (rVar 2))) (bOf (eOp neD (rVar 1) (eC (.str (PySem.Str.ofString "")))))) (killS [] (sSet 1 (eDget 3 (rVar 1)))))) (sRet (eOp eqD (rVar 1) (rVar 2)))))
def d_is_under : List PD → FR := runD 4 S_is_under
def S_under_some : Rho → SR :=
  (sRet (eCB anyD (aCons (eFz (oLc (iItems (eVar 2)) (aName 3) gYes (eCall 3 d_is_under (aCons (eVar 0) (aCons (eVar 1) (aCons (eVar 3) aNil)))) [3])) aNil)))
def d_under_some : List PD → FR := runD 4 S_under_some
def S_sizes_within : Rho → SR :=
  (sSeq (sSetO 2 (eCB dictD (aCons (rVar 0) aNil))) (sSeq (preK [3, 4, 5] (sFor (iItems (eVar 1)) (aTup 3 (asCons (aName 3) (asCons (aName 4) (asCons (aName 5) asNil)))) (killS [3, 4, 5] (sSeq (sIf (bOf (ednotin 2 (rVar 3))) (sRet (eC (.bool false))) sNext) (sIf (bOr (bAnd (bOf (eOp notND (rVar 4) (eC .none))) (bOf (eOp ltD (eDget 2 (rVar 3)) (rVar 4)))) (bAnd (bOf (eOp notND (rVar 5) (eC .none))) (bOf (eOp gtD (eDget 2 (rVar 3)) (rVar 5))))) (sRet (eC (.bool false))) sNext))))) (sRet (eC (.bool true)))))
def d_sizes_within : List PD → FR := runD 6 S_sizes_within
def S_fitting_places : Rho → SR :=
  (sSeq (sSetO 3 (oLst aNil)) (sSeq (preK [4, 5, 6, 7, 8, 9] (sFor (iEnumD (aCons (eOp ixD (rVar 1) (eC (.int 0))) aNil)) (aTup 2 (asCons (aName 4) (asCons (aName 5) asNil))) (killS [4, 5, 6, 7, 8, 9] (sSeq (sSet 6 (eFz (oLc (iItems (eOp ixD (rVar 1) (eC (.int 3)))) (aTup 4 (asCons (aName 10) (asCons (aName 11) (asCons (aName 12) (asCons (aName 13) asNil))))) (bOf (eOp eqD (rVar 10) (rVar 4))) (eTup (aCons (eVar 11) (aCons (eVar 12) (aCons (eVar 13) aNil)))) [10, 11, 12, 13]))) (sSeq (sSetO 7 (oLst aNil)) (sSeq (preK [8, 9] (sFor (iEnumD (aCons (eOp ixD (rVar 2) (eC (.int 0))) aNil)) (aTup 2 (asCons (aName 8) (asCons (aName 9) asNil))) (killS [8, 9] (sIf (bAnd (bOf (eCall 3 d_under_some (aCons (eVar 0) (aCons (eOp ixD (rVar 9) (eC (.int 0))) (aCons (eVar 5) aNil))))) (bOf (eCall 2 d_sizes_within (aCons (eOp ixD (rVar 9) (eC (.int 1))) (aCons (eVar 6) aNil))))) (sAppend 7 (eVar 8)) sNext)))) (sFrz [7] (sAppend 3 (eVar 7))))))))) (sRetV 3)))
def d_fitting_places : List PD → FR := runD 14 S_fitting_places
def S_joins_lead : Rho → SR :=
  (sSeq (preK [3, 4, 5] (sFor (iItems (eOp ixD (rVar 0) (eC (.int 2)))) (aTup 3 (asCons (aName 3) (asCons (aName 4) (asCons (aName 5) asNil)))) (killS [3, 4, 5] (sIf (bAnd (bOf (eOp ltD (rVar 4) (eCB lenD (aCons (rVar 2) aNil)))) (bAnd (bOf (eOp ltD (rVar 5) (eCB lenD (aCons (rVar 2) aNil)))) (bOf (eOp ninD (eTup (aCons (eVar 3) (aCons (eOp ixD (rVar 2) (rVar 4)) (aCons (eOp ixD (rVar 2) (rVar 5)) aNil)))) (eOp ixD (rVar 1) (eC (.int 1))))))) (sRet (eC (.bool false))) sNext)))) (sRet (eC (.bool true))))
def d_joins_lead : List PD → FR := runD 6 S_joins_lead
def S_steps_done : Rho → SR :=
  (sSeq (sSet 3 (eFz (oLc (iItems (eOp ixD (rVar 0) (eC (.int 4)))) (aTup 2 (asCons (aName 5) (asCons (aName 6) asNil))) gYes (eTup (aCons (eVar 5) (aCons (eOp ixD (rVar 2) (rVar 6)) aNil))) [5, 6]))) (sSeq (preK [4] (sFor (iItems (eOp ixD (rVar 1) (eC (.int 2)))) (aName 4) (killS [4] (sIf (bAnd (bOf (eOp gtD (eCB lenD (aCons (rVar 3) aNil)) (eC (.int 0)))) (bOf (eOp eqD (eOp ixD (rVar 3) (eC (.int 0))) (rVar 4)))) (sSet 3 (eSl (rVar 3) (pSo (eC (.int 1))) pNo)) sNext)))) (sRet (eOp eqD (eCB lenD (aCons (rVar 3) aNil)) (eC (.int 0))))))
def d_steps_done : List PD → FR := runD 7 S_steps_done
def S_closed_kept : Rho → SR :=
  (sSeq (preK [4, 5, 6, 7, 8] (sFor (iItems (eOp ixD (rVar 1) (eC (.int 1)))) (aTup 2 (asCons (aName 4) (asCons (aName 5) asNil))) (killS [4, 5, 6, 7, 8] (sSeq (sSet 6 (eFz (oLc (iItems (eVar 5)) (aName 9) gYes (eOp ixD (rVar 3) (rVar 9)) [9]))) (preK [7, 8] (sFor (iEnumD (aCons (eOp ixD (rVar 2) (eC (.int 0))) aNil)) (aTup 2 (asCons (aName 7) (asCons (aName 8) asNil))) (killS [7, 8] (sIf (bAnd (bOf (eOp ninD (rVar 7) (rVar 6))) (bOf (eCall 3 d_under_some (aCons (eVar 0) (aCons (eOp ixD (rVar 8) (eC (.int 0))) (aCons (eVar 4) aNil)))))) (sRet (eC (.bool false))) sNext)))))))) (sRet (eC (.bool true))))
def d_closed_kept : List PD → FR := runD 10 S_closed_kept
def S_first_finding (self : List Tv → FR) : Rho → SR :=
  (sSeq (sIf (bOf (eOp eqD (eImm (eCB lenD (aCons (hVar 4) aNil))) (eCB lenD (aCons (rVar 3) aNil)))) (sSeq (sIf (bAnd (bOf (eCallH 3 d_steps_done (aCons (hVar 1) (aCons (hVar 2) (aCons (hVar 4) aNil))))) (bOf (eCallH 4 d_closed_kept (aCons (hVar 0) (aCons (hVar 1) (aCons (hVar 2) (aCons (hVar 4) aNil))))))) (sRetV 4) sNext) (sRet (eC .none))) sNext) (sSeq (preK [5, 6, 7] (sFor (iItems (eOp ixD (rVar 3) (eImm (eCB lenD (aCons (hVar 4) aNil))))) (aName 5) (killS [5, 6, 7] (sSeq (sSetM 6 [] (mOwn (eOp addL (rVar 4) (eFz (oLst (aCons (eVar 5) aNil)))))) (sIf (bAnd (bOf (eOp ninD (rVar 5) (rVar 4))) (bOf (eCallH 3 d_joins_lead (aCons (hVar 1) (aCons (hVar 2) (aCons (hVar 6) aNil)))))) (sSeq (sCallT 7 [6] 5 self (maCons (mFr (eVar 0)) (maCons (mFr (eVar 1)) (maCons (mFr (eVar 2)) (maCons (mFr (eVar 3)) (maCons (mVar 6) maNil)))))) (sIf (bOf (eOp notND (hVar 7) (eC .none))) (sRetV 7) sNext)) sNext))))) (sRet (eC .none))))
def d_first_finding : Nat → List Tv → FR
  | 0 => fun _ => .bad
  | n + 1 => runT 8 (S_first_finding (d_first_finding n))
def S_finding_in : Rho → SR :=
  (sRetT 5 (d_first_finding 8) (maCons (mFr (eVar 0)) (maCons (mFr (eVar 1)) (maCons (mFr (eVar 2)) (maCons (mFr (eCall 3 d_fitting_places (aCons (eVar 0) (aCons (eVar 1) (aCons (eVar 2) aNil))))) (maCons (mOwn (oLst aNil)) maNil))))))
def d_finding_in : List PD → FR := runD 3 S_finding_in
def S_law_mix : Rho → SR :=
  (sSeq (sSet 2 (eC (.int 0))) (sSeq (sIf (bOf (eOp gtD (eCB lenD (aCons (rVar 0) aNil)) (eC (.int 0)))) (sSet 2 (eOp ixD (rVar 0) (eOp modD (rVar 1) (eCB lenD (aCons (rVar 0) aNil))))) sNext) (sSeq (sSet 3 (eOp modD (eOp mulD (eOp addD (eOp addD (eOp modD (rVar 2) (eC (.int 1000000007))) (eOp mulD (eC (.int 7)) (rVar 1))) (eC (.int 1))) (eOp addD (eC (.int 48271)) (eOp mulD (eOp mulD (eC (.int 97)) (rVar 1)) (rVar 1)))) (eC (.int 2147483629)))) (sRet (eOp modD (eOp mulD (rVar 3) (rVar 3)) (eC (.int 2147483587)))))))
def d_law_mix : List PD → FR := runD 4 S_law_mix
def S_law_names : Rho → SR :=
  (sSeq (sSet 3 (eC (.str (PySem.Str.ofString "bdfgjkmpqrvwxyz")))) (sSeq (sSet 4 (eCall 2 d_law_mix (aCons (eVar 0) (aCons (eVar 1) aNil)))) (sSeq (sSet 5 (eOp mulD (eOp ixD (rVar 3) (eOp modD (rVar 4) (eC (.int 15)))) (eOp modD (eOp divD (rVar 4) (eC (.int 15))) (eC (.int 5))))) (sSeq (sSet 6 (eOp modD (eOp divD (rVar 4) (eC (.int 75))) (eOp addD (eCB lenD (aCons (rVar 5) aNil)) (eC (.int 1))))) (sRetO (oLc (iRng1D (aCons (rVar 2) aNil)) (aName 7) gYes (eOp addD (eOp addD (eSl (rVar 5) pNo (pSo (rVar 6))) (eOp ixD (rVar 3) (eOp modD (eOp addD (eOp divD (rVar 4) (eC (.int 375))) (rVar 7)) (eC (.int 15))))) (eSl (rVar 5) (pSo (rVar 6)) pNo)) [7]))))))
def d_law_names : List PD → FR := runD 8 S_law_names
def S_law_kinds : Rho → SR :=
  (sSeq (sSet 1 (eOp addD (eC (.int 3)) (eOp modD (eCall 2 d_law_mix (aCons (eVar 0) (aCons (eC (.int 1)) aNil))) (eC (.int 6))))) (sSeq (sSet 2 (eCall 3 d_law_names (aCons (eVar 0) (aCons (eC (.int 2)) (aCons (eVar 1) aNil))))) (sSeq (sSetO 3 (oLst aNil)) (sSeq (preK [4, 5, 6] (sFor (iRng1D (aCons (rVar 1) aNil)) (aName 4) (killS [4, 5, 6] (sSeq (sSet 5 (eCall 2 d_law_mix (aCons (eVar 0) (aCons (eOp addD (eC (.int 3)) (rVar 4)) aNil)))) (sSeq (sSet 6 (eC (.str (PySem.Str.ofString "")))) (sSeq (sIf (bAnd (bOf (eOp gtD (rVar 4) (eC (.int 0)))) (bOf (eOp gtD (eOp modD (rVar 5) (eC (.int 4))) (eC (.int 0))))) (sSet 6 (eOp ixD (rVar 2) (eOp modD (eOp divD (rVar 5) (eC (.int 4))) (rVar 4)))) sNext) (sAppend 3 (eTup (aCons (eOp ixD (rVar 2) (rVar 4)) (aCons (eVar 6) aNil)))))))))) (sRetV 3)))))
def d_law_kinds : List PD → FR := runD 7 S_law_kinds
def S_law_words : Rho → SR :=
  (sRet (eTup (aCons (eCall 3 d_law_names (aCons (eVar 0) (aCons (eC (.int 12)) (aCons (eC (.int 3)) aNil)))) (aCons (eCall 3 d_law_names (aCons (eVar 0) (aCons (eC (.int 13)) (aCons (eC (.int 2)) aNil)))) (aCons (eCall 3 d_law_names (aCons (eVar 0) (aCons (eC (.int 14)) (aCons (eC (.int 2)) aNil)))) aNil)))))
def d_law_words : List PD → FR := runD 1 S_law_words
def S_law_uppers : Rho → SR :=
  (sSeq (sSetO 2 (oLst (aCons (eVar 1) aNil))) (sSeq (preK [3, 4] (sFor (iRevD (aCons (eVar 0) aNil)) (aTup 2 (asCons (aName 3) (asCons (aName 4) asNil))) (killS [3, 4] (sIf (bAnd (bOf (eOp eqD (rVar 3) (eOp ixD (rVar 2) (eUn negD (eC (.int 1)))))) (bOf (eOp neD (rVar 4) (eC (.str (PySem.Str.ofString "")))))) (sAppend 2 (eVar 4)) sNext)))) (sRetV 2)))
def d_law_uppers : List PD → FR := runD 5 S_law_uppers
def S_law_lowers : Rho → SR :=
  (sRetO (oLc (iItems (eVar 0)) (aTup 2 (asCons (aName 2) (asCons (aName 3) asNil))) (bOf (eOp inD (rVar 1) (eCall 2 d_law_uppers (aCons (eVar 0) (aCons (eVar 2) aNil))))) (eVar 2) [2, 3]))
def d_law_lowers : List PD → FR := runD 4 S_law_lowers
def S_law_groups : Rho → SR :=
  (sSeq (sSet 4 (eFz (oLc (iItems (eVar 2)) (aTup 2 (asCons (aName 13) (asCons (aName 14) asNil))) gYes (eVar 13) [13, 14]))) (sSeq (sSetO 5 (oLst aNil)) (sSeq (sSetO 6 (oLst aNil)) (sSeq (sSetO 7 (oLst aNil)) (sSeq (preK [8, 9, 10, 11, 12] (sFor (iRng1D (aCons (eCB max2D (aCons (eCB intD (aCons (rVar 3) aNil)) (aCons (eOp ixD (eFz (oLst (aCons (eC (.int 1)) (aCons (eC (.int 2)) (aCons (eC (.int 3)) (aCons (eC (.int 2)) (aCons (eC (.int 1)) (aCons (eC (.int 3)) (aCons (eC (.int 2)) (aCons (eC (.int 0)) aNil)))))))))) (eOp modD (eCall 2 d_law_mix (aCons (eVar 0) (aCons (eVar 1) aNil))) (eC (.int 8)))) aNil))) aNil)) (aName 8) (killS [8, 9, 10, 11, 12] (sSeq (sSet 9 (eCall 2 d_law_mix (aCons (eVar 0) (aCons (eOp addD (eOp addD (rVar 1) (eC (.int 1))) (rVar 8)) aNil)))) (sSeq (sSet 10 (eCB tupleD (aCons (eFz (oLc (iRng1D (aCons (eOp ixD (eFz (oLst (aCons (eC (.int 1)) (aCons (eC (.int 1)) (aCons (eC (.int 2)) (aCons (eC (.int 3)) aNil)))))) (eOp modD (eOp divD (rVar 9) (eC (.int 16))) (eC (.int 4)))) aNil)) (aName 15) gYes (eOp ixD (rVar 4) (eOp modD (eOp addD (rVar 9) (rVar 15)) (eCB lenD (aCons (rVar 4) aNil)))) [15])) aNil))) (sSeq (sSet 11 (eOp ixD (eFz (oLst (aCons (eC (.int 1)) (aCons (eC (.int 1)) (aCons (eC (.int 1)) (aCons (eC (.int 2)) aNil)))))) (eOp modD (eOp divD (rVar 9) (eC (.int 64))) (eC (.int 4))))) (sSeq (sIf (bOf (eOp gtD (eOp addD (eCB lenD (aCons (rVar 5) aNil)) (rVar 11)) (eC (.int 4)))) sCont sNext) (sSeq (sSet 12 (eOp rgT (eCB lenD (aCons (rVar 5) aNil)) (eOp addD (eCB lenD (aCons (rVar 5) aNil)) (rVar 11)))) (sSeq (sIf (bOr (bOf (eOp eqD (eOp modD (eOp divD (rVar 9) (eC (.int 256))) (eC (.int 3))) (eC (.int 0)))) (bAnd (bOf (rVar 3)) (bOf (eOp eqD (rVar 8) (eC (.int 0)))))) (sAppend 6 (eTup (aCons (eVar 10) (aCons (eVar 12) aNil)))) sNext) (sSeq (sIf (bOf (eCB anyD (aCons (eFz (oLc (iItems (eVar 4)) (aName 14) gYes (eCB allD (aCons (eFz (oLc (iItems (eVar 10)) (aName 16) gYes (eOp inD (rVar 14) (eCall 2 d_law_uppers (aCons (eVar 2) (aCons (eVar 16) aNil)))) [16])) aNil)) [14])) aNil))) (sAppend 7 (eVar 12)) sNext) (sExtend 5 (eFz (eOp repL (oLst (aCons (eVar 10) aNil)) (rVar 11)))))))))))))) (sRetM (mTup (maCons (mVar 5) (maCons (mVar 6) (maCons (mVar 7) maNil))))))))))
def d_law_groups : List PD → FR := runD 17 S_law_groups
def S_law_bounds : Rho → SR :=
  (sSeq (sSet 1 (eOp subD (eOp modD (eOp divD (rVar 0) (eC (.int 64))) (eC (.int 6))) (eC (.int 2)))) (sSeq (sIf (bOf (eOp eqD (eOp modD (eOp divD (rVar 0) (eC (.int 4096))) (eC (.int 7))) (eC (.int 0)))) (sSet 1 (eOp mulD (eOp subD (rVar 0) (eOp powD (eC (.int 10)) (eC (.int 9)))) (eOp powD (eC (.int 10)) (eC (.int 19))))) sNext) (sRet (eOp ixD (eFz (oLst (aCons (eTup (aCons (eC .none) (aCons (eVar 1) aNil))) (aCons (eTup (aCons (eVar 1) (aCons (eC .none) aNil))) (aCons (eTup (aCons (eVar 1) (aCons (eOp addD (rVar 1) (eOp modD (eOp divD (rVar 0) (eC (.int 512))) (eC (.int 4)))) aNil))) aNil))))) (eOp modD (eOp divD (rVar 0) (eC (.int 8))) (eC (.int 3)))))))
def d_law_bounds : List PD → FR := runD 2 S_law_bounds
def S_law_reading : Rho → SR :=
  (sSeq (sUnpM [5, 6, 7] [] (mCall 4 d_law_groups (aCons (eVar 0) (aCons (eVar 1) (aCons (eVar 2) (aCons (eVar 4) aNil)))))) (sSeq (sSetM 8 [] mDnewT) (sSeq (sSetM 9 [] mDnewT) (sSeq (sSetO 10 (oLst aNil)) (sSeq (preK [11, 12] (sFor (iRng1D (aCons (eC (.int 4)) aNil)) (aName 11) (killS [11, 12] (sSeq (sSet 12 (eCall 2 d_law_mix (aCons (eVar 0) (aCons (eOp addD (eOp addD (rVar 1) (eC (.int 6))) (rVar 11)) aNil)))) (sSeq (sIf (bAnd (bOf (eOp gtD (eCB lenD (aCons (rVar 5) aNil)) (eC (.int 1)))) (bOf (eOp ltD (rVar 11) (eOp modD (eCall 2 d_law_mix (aCons (eVar 0) (aCons (eOp addD (rVar 1) (eC (.int 5))) aNil))) (eC (.int 4)))))) (sSeq (sSet 13 (eOp modD (rVar 12) (eCB lenD (aCons (rVar 5) aNil)))) (sDputT 8 (eTup (aCons (eOp ixD (eOp ixD (rVar 3) (eC (.int 1))) (eOp modD (eOp divD (rVar 12) (eC (.int 8))) (eC (.int 2)))) (aCons (eVar 13) (aCons (eOp modD (eOp addD (eOp addD (rVar 13) (eC (.int 1))) (eOp modD (eOp divD (rVar 12) (eC (.int 16))) (eOp subD (eCB lenD (aCons (rVar 5) aNil)) (eC (.int 1))))) (eCB lenD (aCons (rVar 5) aNil))) aNil)))) (eC (.bool true)))) sNext) (sSeq (sIf (bAnd (bOf (eOp gtD (eCB lenD (aCons (rVar 5) aNil)) (eC (.int 0)))) (bOf (eOp ltD (rVar 11) (eOp modD (eOp divD (eCall 2 d_law_mix (aCons (eVar 0) (aCons (eOp addD (rVar 1) (eC (.int 5))) aNil))) (eC (.int 4))) (eC (.int 4)))))) (sDputT 9 (eTup (aCons (eOp modD (eOp divD (rVar 12) (eC (.int 3))) (eCB lenD (aCons (rVar 5) aNil))) (aCons (eOp ixD (eOp ixD (rVar 3) (eC (.int 0))) (eOp modD (eOp divD (rVar 12) (eC (.int 24))) (eC (.int 3)))) aNil))) (eCall 1 d_law_bounds (aCons (eVar 12) aNil))) sNext) (sIf (bAnd (bOf (eOp gtD (eCB lenD (aCons (rVar 7) aNil)) (eC (.int 0)))) (bOf (eOp ltD (rVar 11) (eOp modD (eOp divD (eCall 2 d_law_mix (aCons (eVar 0) (aCons (eOp addD (rVar 1) (eC (.int 5))) aNil))) (eC (.int 16))) (eC (.int 3)))))) (sExtend 10 (eFz (oLc (iItems (eOp ixD (rVar 7) (eOp modD (eOp divD (rVar 12) (eC (.int 10))) (eCB lenD (aCons (rVar 7) aNil))))) (aName 13) gYes (eTup (aCons (eOp ixD (eOp ixD (rVar 3) (eC (.int 2))) (eOp modD (eOp divD (rVar 12) (eC (.int 5))) (eC (.int 2)))) (aCons (eVar 13) aNil))) [13]))) sNext))))))) (sSeq (preK [12, 13, 14] (sFor (iRng1D (aCons (eCB lenD (aCons (rVar 5) aNil)) aNil)) (aName 13) (killS [12, 13, 14] (sSeq (sSet 12 (eCall 2 d_law_mix (aCons (eVar 0) (aCons (eOp addD (eOp addD (rVar 1) (eC (.int 10))) (rVar 13)) aNil)))) (sIf (bAnd (bOf (eOp eqD (eOp modD (rVar 12) (eC (.int 5))) (eC (.int 0)))) (bNot (bOf (rVar 4)))) (sSeq (sSet 14 (eCall 2 d_law_lowers (aCons (eVar 2) (aCons (eOp ixD (eOp ixD (rVar 5) (rVar 13)) (eOp modD (eOp divD (rVar 12) (eC (.int 5))) (eCB lenD (aCons (eOp ixD (rVar 5) (rVar 13)) aNil)))) aNil)))) (sLset 5 (eTup (aCons (eOp ixD (rVar 14) (eOp modD (eOp divD (rVar 12) (eC (.int 15))) (eCB lenD (aCons (rVar 14) aNil)))) aNil)) (rVar 13))) sNext))))) (sFrz [5, 6, 10] (sRet (eTup (aCons (eVar 5) (aCons (eVar 6) (aCons (eFz (oSortT 8)) (aCons (eFz (oLc (iItems (eFz (oSortT 9))) (aName 15) gYes (eOp addD (rVar 15) (eDgetT 9 (hVar 15))) [15])) (aCons (eVar 10) aNil))))))))))))))
def d_law_reading : List PD → FR := runD 16 S_law_reading
def S_law_part_for : Rho → SR :=
  (sSeq (sSet 6 (eCall 2 d_law_mix (aCons (eVar 0) (aCons (eVar 1) aNil)))) (sSeq (sSet 7 (eCall 2 d_law_lowers (aCons (eVar 2) (aCons (eOp ixD (rVar 3) (eOp modD (rVar 6) (eCB lenD (aCons (rVar 3) aNil)))) aNil)))) (sSeq (sSetO 8 oDnew) (sSeq (sIf (bOf (eOp eqD (eOp modD (eOp divD (rVar 6) (eC (.int 64))) (eC (.int 3))) (eC (.int 0)))) (sDput 8 (eOp ixD (eOp ixD (rVar 5) (eC (.int 0))) (eOp modD (eOp divD (rVar 6) (eC (.int 192))) (eC (.int 3)))) (eOp subD (eOp modD (eOp divD (rVar 6) (eC (.int 600))) (eC (.int 7))) (eC (.int 2)))) sNext) (sSeq (preK [9, 10, 11] (sFor (iItems (eVar 4)) (aTup 3 (asCons (aName 9) (asCons (aName 10) (asCons (aName 11) asNil)))) (killS [9, 10, 11] (sIf (bOf (eOp isND (rVar 10) (eC .none))) (sDput 8 (rVar 9) (eOp subD (rVar 11) (eOp modD (eOp divD (rVar 6) (eC (.int 7))) (eC (.int 3))))) (sIf (bOf (eOp isND (rVar 11) (eC .none))) (sDput 8 (rVar 9) (eOp addD (rVar 10) (eOp modD (eOp divD (rVar 6) (eC (.int 7))) (eC (.int 3))))) (sDput 8 (rVar 9) (eOp addD (rVar 10) (eOp modD (eOp divD (rVar 6) (eC (.int 7))) (eCB max2D (aCons (eC (.int 1)) (aCons (eOp addD (eOp subD (rVar 11) (rVar 10)) (eC (.int 1))) aNil))))))))))) (sRet (eTup (aCons (eOp ixD (rVar 7) (eOp modD (eOp divD (rVar 6) (eC (.int 4))) (eCB lenD (aCons (rVar 7) aNil)))) (aCons (eFz (oSortIt 8)) aNil)))))))))
def d_law_part_for : List PD → FR := runD 12 S_law_part_for
def S_law_thing_for : Rho → SR :=
  (sSeq (sSetO 5 (oLst aNil)) (sSeq (preK [7, 8] (sFor (iEnumD (aCons (eOp ixD (rVar 3) (eC (.int 0))) aNil)) (aTup 2 (asCons (aName 6) (asCons (aName 7) asNil))) (killS [7, 8] (sSeq (sSet 8 (eFz (oLc (iItems (eOp ixD (rVar 3) (eC (.int 3)))) (aName 19) (bOf (eOp eqD (eOp ixD (rVar 19) (eC (.int 0))) (rVar 6))) (eSl (rVar 19) (pSo (eC (.int 1))) pNo) [19]))) (sAppend 5 (eCall 6 d_law_part_for (aCons (eVar 0) (aCons (eOp addD (rVar 1) (rVar 6)) (aCons (eVar 2) (aCons (eVar 7) (aCons (eVar 8) (aCons (eVar 4) aNil)))))))))))) (sSeq (sSet 9 (eCall 2 d_law_mix (aCons (eVar 0) (aCons (eOp addD (rVar 1) (eC (.int 5))) aNil)))) (sSeq (preK [11] (sFor (iRng1D (aCons (eOp modD (rVar 9) (eC (.int 3))) aNil)) (aName 10) (killS [11] (sSeq (sSet 11 (eOp ixD (eOp ixD (rVar 2) (eOp modD (eOp divD (rVar 9) (eOp addD (rVar 10) (eC (.int 3)))) (eCB lenD (aCons (rVar 2) aNil)))) (eC (.int 0)))) (sAppend 5 (eCall 6 d_law_part_for (aCons (eVar 0) (aCons (eOp addD (eOp addD (rVar 1) (eC (.int 6))) (rVar 10)) (aCons (eVar 2) (aCons (eFz (oLst (aCons (eVar 11) aNil))) (aCons (eFz (oLst aNil)) (aCons (eVar 4) aNil)))))))))))) (sSeq (sSetO 12 (oLst aNil)) (sSeq (preK [] (sFor (iRng1D (aCons (eCB lenD (aCons (rVar 5) aNil)) aNil)) (aName 10) (killS [] (sInsertD 12 (eOp modD (eOp divD (rVar 9) (eOp addD (eOp mulD (eC (.int 5)) (rVar 10)) (eC (.int 7)))) (eOp addD (rVar 10) (eC (.int 1)))) (eVar 10))))) (sSeq (sSet 13 (eFz (oLc (iRng1D (aCons (eCB lenD (aCons (rVar 5) aNil)) aNil)) (aName 10) gYes (eIndex (rVar 12) (rVar 10)) [10]))) (sSeq (sSetM 14 [] mDnewT) (sSeq (preK [16] (sFor (iItems (eOp ixD (rVar 3) (eC (.int 2)))) (aTup 3 (asCons (aName 15) (asCons (aName 6) (asCons (aName 16) asNil)))) (killS [16] (sDputT 14 (eTup (aCons (eVar 15) (aCons (eOp ixD (rVar 13) (rVar 6)) (aCons (eOp ixD (rVar 13) (rVar 16)) aNil)))) (eC (.bool true)))))) (sSeq (sSetO 17 (oLc (iItems (eOp ixD (rVar 3) (eC (.int 4)))) (aTup 2 (asCons (aName 15) (asCons (aName 6) asNil))) gYes (eTup (aCons (eVar 15) (aCons (eOp ixD (rVar 13) (rVar 6)) aNil))) [15, 6])) (sSeq (preK [6, 18] (sFor (iRng1D (aCons (eC (.int 2)) aNil)) (aName 10) (killS [6, 18] (sSeq (sSet 18 (eCall 2 d_law_mix (aCons (eVar 0) (aCons (eOp addD (eOp addD (rVar 1) (eC (.int 8))) (rVar 10)) aNil)))) (sSeq (sIf (bAnd (bOf (eOp gtD (eCB lenD (aCons (rVar 5) aNil)) (eC (.int 1)))) (bOf (eOp eqD (eOp modD (rVar 18) (eC (.int 3))) (eC (.int 0))))) (sSeq (sSet 6 (eOp modD (eOp divD (rVar 18) (eC (.int 3))) (eCB lenD (aCons (rVar 5) aNil)))) (sDputT 14 (eTup (aCons (eOp ixD (eOp ixD (rVar 4) (eC (.int 1))) (eOp modD (eOp divD (rVar 18) (eC (.int 18))) (eC (.int 2)))) (aCons (eVar 6) (aCons (eOp modD (eOp addD (eOp addD (rVar 6) (eC (.int 1))) (eOp modD (eOp divD (rVar 18) (eC (.int 36))) (eOp subD (eCB lenD (aCons (rVar 5) aNil)) (eC (.int 1))))) (eCB lenD (aCons (rVar 5) aNil))) aNil)))) (eC (.bool true)))) sNext) (sIf (bAnd (bOf (eOp gtD (eCB lenD (aCons (rVar 5) aNil)) (eC (.int 0)))) (bOf (eOp eqD (eOp modD (rVar 18) (eC (.int 2))) (eC (.int 0))))) (sInsertD 17 (eOp modD (eOp divD (rVar 18) (eC (.int 2))) (eOp addD (eCB lenD (aCons (rVar 17) aNil)) (eC (.int 1)))) (eTup (aCons (eOp ixD (eOp ixD (rVar 4) (eC (.int 2))) (eOp modD (eOp divD (rVar 18) (eC (.int 20))) (eC (.int 2)))) (aCons (eOp modD (eOp divD (rVar 18) (eC (.int 40))) (eCB lenD (aCons (rVar 5) aNil))) aNil)))) sNext)))))) (sFrz [12, 17] (sRet (eTup (aCons (eFz (oLc (iItems (eVar 12)) (aName 10) gYes (eOp ixD (rVar 5) (rVar 10)) [10])) (aCons (eFz (oSortT 14)) (aCons (eVar 17) aNil)))))))))))))))))
def d_law_thing_for : List PD → FR := runD 20 S_law_thing_for
def S_law_spoilt : Rho → SR :=
  (sSeq (sAsg (eVar 3) (aTup 3 (asCons (aName 5) (asCons (aName 6) (asCons (aName 7) asNil))))) (sSeq (sSet 8 (eCall 2 d_law_mix (aCons (eVar 0) (aCons (eVar 1) aNil)))) (sSeq (sSet 9 (eOp modD (eOp divD (rVar 8) (eC (.int 8))) (eCB max2D (aCons (eC (.int 1)) (aCons (eCB lenD (aCons (rVar 5) aNil)) aNil))))) (sSeq (sSet 10 (eOp ixD (eOp ixD (rVar 2) (eOp modD (eOp divD (rVar 8) (eC (.int 64))) (eCB lenD (aCons (rVar 2) aNil)))) (eC (.int 0)))) (sSeq (sIf (bOf (eOp eqD (eOp modD (rVar 8) (eC (.int 8))) (eC (.int 0)))) (sRet (eTup (aCons (eVar 5) (aCons (eOp addD (eSl (rVar 6) pNo (pSo (rVar 9))) (eSl (rVar 6) (pSo (eOp addD (rVar 9) (eC (.int 1)))) pNo)) (aCons (eVar 7) aNil))))) sNext) (sSeq (sIf (bOf (eOp eqD (eOp modD (rVar 8) (eC (.int 8))) (eC (.int 1)))) (sRet (eTup (aCons (eVar 5) (aCons (eVar 6) (aCons (eOp addD (eSl (rVar 7) pNo (pSo (rVar 9))) (eSl (rVar 7) (pSo (eOp addD (rVar 9) (eC (.int 1)))) pNo)) aNil))))) sNext) (sSeq (sIf (bOf (eOp eqD (eOp modD (rVar 8) (eC (.int 8))) (eC (.int 2)))) (sRet (eTup (aCons (eVar 5) (aCons (eVar 6) (aCons (eFz (oListRev (rVar 7))) aNil))))) sNext) (sSeq (sIf (bOr (bOf (eOp eqD (eOp modD (rVar 8) (eC (.int 8))) (eC (.int 3)))) (bOf (eOp eqD (rVar 5) (eFz (oLst aNil))))) (sRet (eTup (aCons (eOp addD (rVar 5) (eFz (oLst (aCons (eTup (aCons (eVar 10) (aCons (eFz (oLst (aCons (eTup (aCons (eOp ixD (eOp ixD (rVar 4) (eC (.int 0))) (eC (.int 0))) (aCons (eOp modD (eOp divD (rVar 8) (eC (.int 512))) (eC (.int 5))) aNil))) aNil))) aNil))) aNil)))) (aCons (eVar 6) (aCons (eVar 7) aNil))))) sNext) (sSeq (sIf (bOf (eOp eqD (eOp modD (rVar 8) (eC (.int 8))) (eC (.int 4)))) (sRet (eTup (aCons (eOp addD (eOp addD (eSl (rVar 5) pNo (pSo (rVar 9))) (eFz (oLst (aCons (eTup (aCons (eVar 10) (aCons (eOp ixD (eOp ixD (rVar 5) (rVar 9)) (eC (.int 1))) aNil))) aNil)))) (eSl (rVar 5) (pSo (eOp addD (rVar 9) (eC (.int 1)))) pNo)) (aCons (eVar 6) (aCons (eVar 7) aNil))))) sNext) (sSeq (sIf (bOf (eOp eqD (eOp modD (rVar 8) (eC (.int 8))) (eC (.int 5)))) (sRet (eTup (aCons (eOp addD (eOp addD (eSl (rVar 5) pNo (pSo (rVar 9))) (eFz (oLst (aCons (eTup (aCons (eOp ixD (eOp ixD (rVar 5) (rVar 9)) (eC (.int 0))) (aCons (eFz (oLst aNil)) aNil))) aNil)))) (eSl (rVar 5) (pSo (eOp addD (rVar 9) (eC (.int 1)))) pNo)) (aCons (eVar 6) (aCons (eVar 7) aNil))))) sNext) (sSeq (sSet 11 (eFz (oLc (iItems (eOp ixD (eOp ixD (rVar 5) (rVar 9)) (eC (.int 1)))) (aTup 2 (asCons (aName 12) (asCons (aName 13) asNil))) gYes (eTup (aCons (eVar 12) (aCons (eOp subD (eOp addD (rVar 13) (eOp modD (eOp divD (rVar 8) (eC (.int 64))) (eC (.int 3)))) (eC (.int 1))) aNil))) [12, 13]))) (sRet (eTup (aCons (eOp addD (eOp addD (eSl (rVar 5) pNo (pSo (rVar 9))) (eFz (oLst (aCons (eTup (aCons (eOp ixD (eOp ixD (rVar 5) (rVar 9)) (eC (.int 0))) (aCons (eVar 11) aNil))) aNil)))) (eSl (rVar 5) (pSo (eOp addD (rVar 9) (eC (.int 1)))) pNo)) (aCons (eVar 6) (aCons (eVar 7) aNil))))))))))))))))
def d_law_spoilt : List PD → FR := runD 14 S_law_spoilt
def S_law_meets : Rho → SR :=
  (sRet (eCB anyD (aCons (eFz (oLc (iItems (eVar 2)) (aName 3) gYes (eOp inD (rVar 3) (eCall 2 d_law_uppers (aCons (eVar 0) (aCons (eVar 1) aNil)))) [3])) aNil)))
def d_law_meets : List PD → FR := runD 4 S_law_meets
def S_law_bounded : Rho → SR :=
  (sSeq (preK [3, 4, 5, 6, 7] (sFor (iItems (eOp ixD (rVar 0) (eC (.int 3)))) (aTup 4 (asCons (aName 3) (asCons (aName 4) (asCons (aName 5) (asCons (aName 6) asNil))))) (killS [3, 4, 5, 6, 7] (sSeq (sSetO 7 (eCB dictD (aCons (eOp ixD (eOp ixD (rVar 1) (eOp ixD (rVar 2) (rVar 3))) (eC (.int 1))) aNil))) (sIf (bOr (bOf (ednotin 7 (rVar 4))) (bOr (bAnd (bOf (eOp notND (rVar 5) (eC .none))) (bOf (eOp ltD (eDget 7 (rVar 4)) (rVar 5)))) (bAnd (bOf (eOp notND (rVar 6) (eC .none))) (bOf (eOp gtD (eDget 7 (rVar 4)) (rVar 6)))))) (sRet (eC (.bool false))) sNext))))) (sRet (eC (.bool true))))
def d_law_bounded : List PD → FR := runD 8 S_law_bounded
def S_law_stepped : Rho → SR :=
  (sSeq (sSet 3 (eC (.int 0))) (sSeq (preK [4, 5] (sFor (iItems (eOp ixD (rVar 0) (eC (.int 4)))) (aTup 2 (asCons (aName 4) (asCons (aName 5) asNil))) (killS [4, 5] (sSeq (preK [] (sWhile 20000000 (bAnd (bOf (eOp ltD (rVar 3) (eCB lenD (aCons (rVar 1) aNil)))) (bOf (eOp neD (eOp ixD (rVar 1) (rVar 3)) (eTup (aCons (eVar 4) (aCons (eOp ixD (rVar 2) (rVar 5)) aNil)))))) (killS [] (sAug 3 iaddD (eC (.int 1)))))) (sSeq (sIf (bOf (eOp eqD (rVar 3) (eCB lenD (aCons (rVar 1) aNil)))) (sRet (eC (.bool false))) sNext) (sAug 3 iaddD (eC (.int 1)))))))) (sRet (eC (.bool true)))))
def d_law_stepped : List PD → FR := runD 6 S_law_stepped
def S_law_is_finding : Rho → SR :=
  (sSeq (sAsg (eVar 2) (aTup 3 (asCons (aName 4) (asCons (aName 5) (asCons (aName 6) asNil))))) (sSeq (preK [8] (sFor (iEnumD (aCons (eVar 3) aNil)) (aTup 2 (asCons (aName 7) (asCons (aName 8) asNil))) (killS [8] (sIf (bNot (bOf (eCall 3 d_law_meets (aCons (eVar 0) (aCons (eOp ixD (eOp ixD (rVar 4) (rVar 8)) (eC (.int 0))) (aCons (eOp ixD (eOp ixD (rVar 1) (eC (.int 0))) (rVar 7)) aNil)))))) (sRet (eC (.bool false))) sNext)))) (sSeq (sIf (bOr (bOf (eOp ltD (eLenSet (rVar 3)) (eCB lenD (aCons (rVar 3) aNil)))) (bNot (bOf (eCall 3 d_law_bounded (aCons (eVar 1) (aCons (eVar 4) (aCons (eVar 3) aNil))))))) (sRet (eC (.bool false))) sNext) (sSeq (sIf (bNot (bOf (eCB allD (aCons (eFz (oLc (iItems (eOp ixD (rVar 1) (eC (.int 2)))) (aTup 3 (asCons (aName 12) (asCons (aName 7) (asCons (aName 13) asNil)))) gYes (eOp inD (eTup (aCons (eVar 12) (aCons (eOp ixD (rVar 3) (rVar 7)) (aCons (eOp ixD (rVar 3) (rVar 13)) aNil)))) (rVar 5)) [12, 7, 13])) aNil)))) (sRet (eC (.bool false))) sNext) (sSeq (preK [8, 9, 10, 11] (sFor (iItems (eOp ixD (rVar 1) (eC (.int 1)))) (aTup 2 (asCons (aName 9) (asCons (aName 10) asNil))) (killS [8, 9, 10, 11] (preK [8, 11] (sFor (iEnumD (aCons (eVar 4) aNil)) (aTup 2 (asCons (aName 8) (asCons (aName 11) asNil))) (killS [8, 11] (sIf (bAnd (bOf (eCall 3 d_law_meets (aCons (eVar 0) (aCons (eOp ixD (rVar 11) (eC (.int 0))) (aCons (eVar 9) aNil))))) (bOf (eOp ninD (rVar 8) (eFz (oLc (iItems (eVar 10)) (aName 7) gYes (eOp ixD (rVar 3) (rVar 7)) [7]))))) (sRet (eC (.bool false))) sNext))))))) (sRet (eCall 3 d_law_stepped (aCons (eVar 1) (aCons (eVar 6) (aCons (eVar 3) aNil))))))))))
def d_law_is_finding : List PD → FR := runD 14 S_law_is_finding
def S_law_whole : Rho → SR :=
  (sRet (eAnd (eIsi "int" (rVar 0)) (eNot (eIsi "bool" (rVar 0)))))
def d_law_whole : List PD → FR := runD 1 S_law_whole
def S_law_right : Rho → SR :=
  (sSeq (sIf (bOf (eOp isND (rVar 3) (eC .none))) (sRet (eC (.bool true))) sNext) (sSeq (sIf (bOr (bNot (bOf (eIsi "list" (rVar 3)))) (bOf (eOp neD (eCB lenD (aCons (rVar 3) aNil)) (eCB lenD (aCons (eOp ixD (rVar 1) (eC (.int 0))) aNil))))) (sRet (eC (.bool false))) sNext) (sSeq (sIf (bNot (bOf (eCB allD (aCons (eFz (oLc (iItems (eVar 3)) (aName 4) gYes (eAnd (eCall 1 d_law_whole (aCons (eVar 4) aNil)) (eChain leD ltD (eC (.int 0)) (rVar 4) (eCB lenD (aCons (eOp ixD (rVar 2) (eC (.int 0))) aNil)))) [4])) aNil)))) (sRet (eC (.bool false))) sNext) (sRet (eCall 4 d_law_is_finding (aCons (eVar 0) (aCons (eVar 1) (aCons (eVar 2) (aCons (eVar 3) aNil)))))))))
def d_law_right : List PD → FR := runD 5 S_law_right
def S_law_case : Rho → SR :=
  (sSeq (sSet 2 (eCall 1 d_law_kinds (aCons (eVar 0) aNil))) (sSeq (sSet 3 (eCall 1 d_law_words (aCons (eVar 0) aNil))) (sSeq (sSet 4 (eCall 5 d_law_reading (aCons (eVar 0) (aCons (eOp addD (eC (.int 20)) (eOp mulD (eC (.int 50)) (rVar 1))) (aCons (eVar 2) (aCons (eVar 3) (aCons (eC (.bool false)) aNil))))))) (sSeq (sSet 5 (eCall 5 d_law_thing_for (aCons (eVar 0) (aCons (eOp addD (eC (.int 40)) (eOp mulD (eC (.int 50)) (rVar 1))) (aCons (eVar 2) (aCons (eVar 4) (aCons (eVar 3) aNil))))))) (sSeq (sIf (bOf (eOp eqD (rVar 1) (eC (.int 2)))) (sSet 5 (eCall 5 d_law_spoilt (aCons (eVar 0) (aCons (eOp addD (eC (.int 60)) (eOp mulD (eC (.int 50)) (rVar 1))) (aCons (eVar 2) (aCons (eVar 5) (aCons (eVar 3) aNil))))))) sNext) (sRet (eTup (aCons (eVar 2) (aCons (eVar 4) (aCons (eVar 5) aNil))))))))))
def d_law_case : List PD → FR := runD 6 S_law_case
def S_law : Rho → SR :=
  (sSeq (preK [1, 2, 3, 4, 5, 6, 7] (sFor (iRng1D (aCons (eC (.int 3)) aNil)) (aName 1) (killS [1, 2, 3, 4, 5, 6, 7] (sSeq (sAsg (eCall 2 d_law_case (aCons (eVar 0) (aCons (eVar 1) aNil))) (aTup 3 (asCons (aName 2) (asCons (aName 3) (asCons (aName 4) asNil))))) (sSeq (sSet 5 (eCall 2 d_law_case (aCons (eVar 0) (aCons (eVar 1) aNil)))) (sSeq (sSetM 6 [] (mCall 3 d_finding_in (aCons (eOp ixD (rVar 5) (eC (.int 0))) (aCons (eOp ixD (rVar 5) (eC (.int 1))) (aCons (eOp ixD (rVar 5) (eC (.int 2))) aNil))))) (sSeq (sIf (bOr (bOf (eOp neD (rVar 5) (eTup (aCons (eVar 2) (aCons (eVar 3) (aCons (eVar 4) aNil)))))) (bNot (bOf (eCallH 4 d_law_right (aCons (hVar 2) (aCons (hVar 3) (aCons (hVar 4) (aCons (hVar 6) aNil)))))))) (sRet (eC (.bool false))) sNext) (sIf (bOf (eOp notND (hVar 6) (eC .none))) (sSeq (sSet 7 (eFz (eCB listD (aCons (rVar 6) aNil)))) (sSeq (sAppend 6 (eC (.int 0))) (sIf (bOr (bOf (eOp neD (eCall 3 d_finding_in (aCons (eOp ixD (rVar 5) (eC (.int 0))) (aCons (eOp ixD (rVar 5) (eC (.int 1))) (aCons (eOp ixD (rVar 5) (eC (.int 2))) aNil)))) (rVar 7))) (bOf (eOp neD (rVar 5) (eTup (aCons (eVar 2) (aCons (eVar 3) (aCons (eVar 4) aNil))))))) (sRet (eC (.bool false))) sNext))) sNext)))))))) (sRet (eC (.bool true))))
def d_law : List PD → FR := runD 8 S_law
end K16
namespace K16
open PySem L2 DL
abbrev scr (ns : List Int) : PD := .list (ns.map PyData.int)
theorem natlt {n : Nat} {m : Nat} (h : n ≤ m) (h2 : m ≤ 16777216) : n ≤ sizeLine := sz (Nat.le_trans h h2)
theorem mix_ok (ns : List Int) (k : Int) (hl : ns.length ≤ 63) (h0 : 0 ≤ k) (h1 : k ≤ 1000) : ∃ m : Int, d_law_mix [scr ns, .int k] = .rt (.d (.int m)) ∧ 0 ≤ m ∧ m < 2147483587 := by
  have cell : ∃ c : Int, sIf (bOf (eOp gtD (eCB lenD (aCons (rVar 0) aNil)) (eC (.int 0)))) (sSet 2 (eOp ixD (rVar 0) (eOp modD (rVar 1) (eCB lenD (aCons (rVar 0) aNil))))) sNext [some (.d (scr ns)), some (.d (.int k)), some (.d (.int 0)), none] = .nx [some (.d (scr ns)), some (.d (.int k)), some (.d (.int c)), none] := by
    by_cases c : 0 < ns.length
    · have cl : (0 : Int) < (ns.length : Int) := by omega
      have m1 : 0 ≤ k % (ns.length : Int) := Int.emod_nonneg _ (by omega)
      have m2 : k % (ns.length : Int) < (ns.length : Int) := Int.emod_lt_of_pos _ cl
      obtain ⟨x, _, _, e⟩ := ix_list ns PyData.int (k % (ns.length : Int)) m1 m2
      refine ⟨x, ?_⟩
      rw [if_t (by simp [rVar, c])]
      simp only [x_sSet, x_eOp, x_eCB, x_aCons, x_aNil, rVar, List.getElem?_cons_zero, List.getElem?_cons_succ, x_bind_ok, x_len_l, List.length_map]
      rw [x_mod _ _ cl, x_bind_ok, e]
      rfl
    · have z : ns.length = 0 := by omega
      exact ⟨0, by rw [if_f (by simp [rVar, z])]; rfl⟩
  obtain ⟨c, hc⟩ := cell
  obtain ⟨x, hx, m, rfl, hm⟩ := hs_run (n := 4) (s := S_law_mix) (ds := [scr ns, .int k]) (Q := fun x => ∃ m : Int, x = .d (.int m) ∧ 0 ≤ m ∧ m < 2147483587) (by
    unfold S_law_mix
    refine hs_seq (hs_set (x := .int 0) rfl ?_)
    refine hs_seq (hs_nx hc ?_)
    have b1 : 0 ≤ c % 1000000007 := Int.emod_nonneg _ (by decide)
    have b2 : c % 1000000007 < 1000000007 := Int.emod_lt_of_pos _ (by decide)
    generalize hz : c % 1000000007 = z at b1 b2
    have p0 : 0 ≤ 97 * k * k := Int.mul_nonneg (by omega) h0
    have p1 : 97 * k * k ≤ 97 * 1000 * 1000 := Int.mul_le_mul (by omega) h1 h0 (by omega)
    generalize hp : 97 * k * k = p at p0 p1
    have q1 : 0 ≤ (z + 7 * k + 1) * (48271 + p) % 2147483629 := Int.emod_nonneg _ (by decide)
    have q2 : (z + 7 * k + 1) * (48271 + p) % 2147483629 < 2147483629 := Int.emod_lt_of_pos _ (by decide)
    refine hs_seq (hs_set (x := .int ((z + 7 * k + 1) * (48271 + p) % 2147483629)) ?_ ?_)
    · simp only [x_eOp, x_eC, rVar, List.getElem?_cons_zero, List.getElem?_cons_succ, List.set, x_bind_ok, x_add_i]
      rw [x_mod _ _ (by decide), hz, x_mul_l 7 k (by decide) (by decide), x_mul_l 97 k (by decide) (by decide)]
      simp only [x_bind_ok, x_add_i]
      rw [x_mul_r (97 * k) k (by omega) (by omega), hp]
      simp only [x_bind_ok, x_add_i]
      rw [x_mul_l _ _ (by omega) (by omega), x_bind_ok, x_mod _ _ (by decide)]
    · generalize (z + 7 * k + 1) * (48271 + p) % 2147483629 = y at q1 q2
      refine hs_ret (x := .int (y * y % 2147483587)) ?_ ⟨_, rfl, Int.emod_nonneg _ (by decide), Int.emod_lt_of_pos _ (by decide)⟩
      simp only [x_eOp, x_eC, rVar, List.getElem?_cons_zero, List.getElem?_cons_succ, List.set, x_bind_ok]
      rw [x_mul_l _ _ (by omega) (by omega), x_bind_ok, x_mod _ _ (by decide)])
  exact ⟨m, hx, hm⟩

/-! ### names -/
theorem cut_hd (z : Str) (n : Nat) (h : n ≤ z.length) : cs (cutS z none (some (n : Int))) = (cs z).take n := by
  unfold cutS cs
  show ((z.cps.toList.drop (HT.sIx z.length 0 none)).take (HT.sIx z.length z.length (some (n : Int)) - HT.sIx z.length 0 none)).toArray.toList = _
  have e1 : HT.sIx z.length z.length (some (n : Int)) = min n z.length := HT.sIx_nat z.length z.length n
  have e2 : HT.sIx z.length 0 none = 0 := rfl
  rw [e1, e2, Nat.min_eq_left h]
  rfl
theorem cut_tl (z : Str) (n : Nat) (h : n ≤ z.length) : cs (cutS z (some (n : Int)) none) = (cs z).drop n := by
  unfold cutS cs
  show ((z.cps.toList.drop (HT.sIx z.length 0 (some (n : Int)))).take (HT.sIx z.length z.length none - HT.sIx z.length 0 (some (n : Int)))).toArray.toList = _
  have e1 : HT.sIx z.length 0 (some (n : Int)) = min n z.length := HT.sIx_nat z.length 0 n
  have e2 : HT.sIx z.length z.length none = z.length := rfl
  have hl : z.cps.toList.length = z.length := Array.length_toList
  rw [e1, e2, Nat.min_eq_left h, List.take_of_length_le (by rw [List.length_drop]; omega)]
def letL : List Nat := [98, 100, 102, 103, 106, 107, 109, 112, 113, 114, 118, 119, 120, 121, 122]
def letS : Str := Str.ofString "bdfgjkmpqrvwxyz"
theorem let_cs : cs letS = letL := by decide +kernel
theorem let_nd : letL.Nodup := by decide
theorem let_ix (i : Int) (h : 0 ≤ i) (h2 : i < 15) : ∃ h : i.toNat < letL.length, ixD (.str letS) (.int i) = .ok (.str (sg letL[i.toNat])) := by
  have hl : i.toNat < letL.length := by show i.toNat < 15; omega
  refine ⟨hl, x_ix_s _ i _ (sz (by decide +kernel)) h ?_⟩
  rw [let_cs, List.getElem?_eq_getElem hl]
theorem getD_at {α : Type} (l : List α) {i : Nat} (d : α) (h : i < l.length) : l.getD i d = l[i] := by rw [List.getD_eq_getElem?_getD, List.getElem?_eq_getElem h]; rfl
/-- the words: a sign put into a stem -/
def nmW (st : Str) (at' : Nat) (q : Int) (j : Nat) : Str := cutS st none (some (at' : Int)) ++ sg (letL.getD ((q + (j : Int)) % 15).toNat 0) ++ cutS st (some (at' : Int)) none
theorem nmW_cs (st : Str) (at' : Nat) (q : Int) (j : Nat) (h : at' ≤ st.length) : cs (nmW st at' q j) = (cs st).take at' ++ [letL.getD ((q + (j : Int)) % 15).toNat 0] ++ (cs st).drop at' := by
  unfold nmW
  rw [cs_app, cs_app, cut_hd _ _ h, cut_tl _ _ h]
  rfl
theorem nmW_len (st : Str) (at' : Nat) (q : Int) (j : Nat) (h : at' ≤ st.length) : (nmW st at' q j).length = st.length + 1 := by
  have := congrArg List.length (nmW_cs st at' q j h)
  rw [cs_len, List.length_append, List.length_append, List.length_take, List.length_drop, List.length_singleton, cs_len] at this
  rw [this]; omega
theorem nmW_inj (st : Str) (at' : Nat) (q : Int) (i j : Nat) (h : at' ≤ st.length) (hi : i < 15) (hj : j < 15) (e : nmW st at' q i = nmW st at' q j) : i = j := by
  have e := congrArg cs e
  rw [nmW_cs _ _ _ _ h, nmW_cs _ _ _ _ h, List.append_assoc, List.append_assoc] at e
  have e := List.append_cancel_left e
  injection e with e _
  have b : ∀ n : Nat, ((q + (n : Int)) % 15).toNat < letL.length := fun n => by show _ < 15; omega
  rw [getD_at _ _ (b i), getD_at _ _ (b j)] at e
  have := (List.getElem_inj let_nd).mp e
  omega
theorem nmW_ne (st : Str) (at' : Nat) (q : Int) (j : Nat) (h : at' ≤ st.length) : nmW st at' q j ≠ Str.ofString "" := fun e => by
  have := congrArg Str.length e
  rw [nmW_len _ _ _ _ h] at this
  have z : (Str.ofString "").length = 0 := by decide +kernel
  omega
theorem mem_mulS {x : Str} {k : Int} {c : Nat} (h : c ∈ cs (mulS x k)) : c ∈ cs x := by
  have go : ∀ (n : Nat) (acc : Array Nat), c ∈ ((List.replicate n x.cps).foldl (· ++ ·) acc).toList → c ∈ acc.toList ∨ c ∈ x.cps.toList := by
    intro n
    induction n with
    | zero => exact fun acc h => .inl h
    | succ n ih =>
      intro acc h
      rw [List.replicate_succ, List.foldl_cons] at h
      rcases ih _ h with h | h
      · rw [Array.toList_append, List.mem_append] at h
        exact h
      · exact .inr h
  unfold mulS at h
  split at h
  · cases h
  · exact (go _ _ h).resolve_left fun q => by cases q
theorem nmW_ok (st : Str) (at' : Nat) (q : Int) (j : Nat) (h : at' ≤ st.length) (hs : ∀ c ∈ cs st, c < 1114112) : okS (nmW st at' q j) := by
  refine okS_of fun c hc => ?_
  rw [nmW_cs _ _ _ _ h] at hc
  rcases List.mem_append.mp hc with hc | hc
  · rcases List.mem_append.mp hc with hc | hc
    · exact hs c (List.mem_of_mem_take hc)
    · rw [List.mem_singleton.mp hc]
      have b : ((q + (j : Int)) % 15).toNat < letL.length := by show _ < 15; omega
      rw [getD_at _ _ b]
      have : ∀ c ∈ letL, c < 1114112 := by decide
      exact this _ (List.getElem_mem b)
  · exact hs c (List.mem_of_mem_drop hc)
/-- lists of unlike words, none empty -/
def Wds (l : List Str) (n : Nat) : Prop := l.length = n ∧ l.Nodup ∧ ∀ z ∈ l, z ≠ Str.ofString "" ∧ z.length ≤ 5 ∧ okS z
theorem names_ok (ns : List Int) (k : Int) (n : Nat) (hl : ns.length ≤ 63) (h0 : 0 ≤ k) (h1 : k ≤ 1000) (hn : n ≤ 15) : ∃ l : List Str, d_law_names [scr ns, .int k, .int (n : Nat)] = .rt (.o (.list (l.map PyData.str))) ∧ Wds l n := by
  obtain ⟨m, em, m0, m1⟩ := mix_ok ns k hl h0 h1
  obtain ⟨x, hx, l, rfl, hw⟩ := hs_run (n := 8) (s := S_law_names) (ds := [scr ns, .int k, .int (n : Nat)]) (Q := fun x => ∃ l : List Str, x = .o (.list (l.map PyData.str)) ∧ Wds l n) (by
    unfold S_law_names
    simp -implicitDefEqProofs only [startD, List.length_cons, List.length_nil, List.map_cons, List.map_nil, List.cons_append, List.nil_append, Nat.reduceAdd, Nat.reduceSub, List.replicate, List.set_cons_zero, List.set_cons_succ, List.foldl_cons, List.foldl_nil, x_killD_n, x_killD_c, x_slOf_f, x_slOf_o, x_slOf_t, x_slOf_k]
    refine hs_seq (hs_set (x := .str letS) rfl ?_)
    simp -implicitDefEqProofs only [startD, List.length_cons, List.length_nil, List.map_cons, List.map_nil, List.cons_append, List.nil_append, Nat.reduceAdd, Nat.reduceSub, List.replicate, List.set_cons_zero, List.set_cons_succ, List.foldl_cons, List.foldl_nil, x_killD_n, x_killD_c, x_slOf_f, x_slOf_o, x_slOf_t, x_slOf_k]
    refine hs_seq (hs_set (x := .int m) ?_ ?_)
    · simp -implicitDefEqProofs only [s0, s1, s2, s3, s4, s5, s6, s7, s8, s9, x_max2, x_int_b, x_int_i, x_tuple_l, startD, List.length_cons, List.length_nil, List.map_cons, List.map_nil, List.cons_append, List.nil_append, Nat.reduceAdd, Nat.reduceSub, List.replicate, List.set_cons_zero, List.set_cons_succ, x_wipe_cons, x_wipe_nil, x_eOp, x_eC, x_eCB, x_aCons, x_aNil, x_bind_ok, x_add_i, x_len_s, x_len_l, x_len_t, x_bOf, x_eTup, x_eFz, x_oLst, x_eCall, x_aName, x_aTup, x_asCons, x_asNil, x_mod, x_div, x_bAnd, x_bOr, x_bNot, x_asB, x_sub_i, x_neg_i, x_toE_d, x_toE_o, x_notDict, if_true, if_false, reduceIte, Int.reduceLT, Int.reduceAdd, Int.reduceSub, Int.reduceMul, Int.reduceNeg, Int.reducePow, rVar, eVar, hVar, List.getElem?_cons_zero, List.getElem?_cons_succ, em]
    simp -implicitDefEqProofs only [startD, List.length_cons, List.length_nil, List.map_cons, List.map_nil, List.cons_append, List.nil_append, Nat.reduceAdd, Nat.reduceSub, List.replicate, List.set_cons_zero, List.set_cons_succ, List.foldl_cons, List.foldl_nil, x_killD_n, x_killD_c, x_slOf_f, x_slOf_o, x_slOf_t, x_slOf_k]
    have a1 : 0 ≤ m % 15 ∧ m % 15 < 15 := by omega
    have a2 : 0 ≤ m / 15 % 5 ∧ m / 15 % 5 < 5 := by omega
    obtain ⟨q1, q2⟩ := let_ix (m % 15) a1.1 a1.2
    generalize hst : mulS (sg letL[(m % 15).toNat]) (m / 15 % 5) = st
    have sl : st.length ≤ 4 := by rw [← hst, mulS_len, sg_len]; omega
    refine hs_seq (hs_set (x := .str st) ?_ ?_)
    · simp -implicitDefEqProofs only [s0, s1, s2, s3, s4, s5, s6, s7, s8, s9, x_max2, x_int_b, x_int_i, x_tuple_l, startD, List.length_cons, List.length_nil, List.map_cons, List.map_nil, List.cons_append, List.nil_append, Nat.reduceAdd, Nat.reduceSub, List.replicate, List.set_cons_zero, List.set_cons_succ, x_wipe_cons, x_wipe_nil, x_eOp, x_eC, x_eCB, x_aCons, x_aNil, x_bind_ok, x_add_i, x_len_s, x_len_l, x_len_t, x_bOf, x_eTup, x_eFz, x_oLst, x_eCall, x_aName, x_aTup, x_asCons, x_asNil, x_mod, x_div, x_bAnd, x_bOr, x_bNot, x_asB, x_sub_i, x_neg_i, x_toE_d, x_toE_o, x_notDict, if_true, if_false, reduceIte, Int.reduceLT, Int.reduceAdd, Int.reduceSub, Int.reduceMul, Int.reduceNeg, Int.reducePow, rVar, eVar, hVar, List.getElem?_cons_zero, List.getElem?_cons_succ, q2]
      rw [x_mul_s _ _ (by omega) (by omega) (sz (by rw [sg_len]; omega)), hst]
    obtain ⟨at', ha, hat⟩ : ∃ at' : Nat, m / 75 % ((st.length : Int) + 1) = (at' : Int) ∧ at' ≤ st.length := by
      have b1 : 0 ≤ m / 75 % ((st.length : Int) + 1) := Int.emod_nonneg _ (by omega)
      have b2 : m / 75 % ((st.length : Int) + 1) < (st.length : Int) + 1 := Int.emod_lt_of_pos _ (by omega)
      exact ⟨(m / 75 % ((st.length : Int) + 1)).toNat, by omega, by omega⟩
    have sll : st.length ≤ sizeLine := sz (by omega)
    simp -implicitDefEqProofs only [startD, List.length_cons, List.length_nil, List.map_cons, List.map_nil, List.cons_append, List.nil_append, Nat.reduceAdd, Nat.reduceSub, List.replicate, List.set_cons_zero, List.set_cons_succ, List.foldl_cons, List.foldl_nil, x_killD_n, x_killD_c, x_slOf_f, x_slOf_o, x_slOf_t, x_slOf_k]
    refine hs_seq (hs_set (x := .int (at' : Nat)) ?_ ?_)
    · simp -implicitDefEqProofs only [s0, s1, s2, s3, s4, s5, s6, s7, s8, s9, x_max2, x_int_b, x_int_i, x_tuple_l, startD, List.length_cons, List.length_nil, List.map_cons, List.map_nil, List.cons_append, List.nil_append, Nat.reduceAdd, Nat.reduceSub, List.replicate, List.set_cons_zero, List.set_cons_succ, x_wipe_cons, x_wipe_nil, x_eOp, x_eC, x_eCB, x_aCons, x_aNil, x_bind_ok, x_add_i, x_len_s, x_len_l, x_len_t, x_bOf, x_eTup, x_eFz, x_oLst, x_eCall, x_aName, x_aTup, x_asCons, x_asNil, x_mod, x_div, x_bAnd, x_bOr, x_bNot, x_asB, x_sub_i, x_neg_i, x_toE_d, x_toE_o, x_notDict, if_true, if_false, reduceIte, Int.reduceLT, Int.reduceAdd, Int.reduceSub, Int.reduceMul, Int.reduceNeg, Int.reducePow, rVar, eVar, hVar, List.getElem?_cons_zero, List.getElem?_cons_succ, sll]
      rw [x_mod _ _ (by omega), ha]
    simp -implicitDefEqProofs only [startD, List.length_cons, List.length_nil, List.map_cons, List.map_nil, List.cons_append, List.nil_append, Nat.reduceAdd, Nat.reduceSub, List.replicate, List.set_cons_zero, List.set_cons_succ, List.foldl_cons, List.foldl_nil, x_killD_n, x_killD_c, x_slOf_f, x_slOf_o, x_slOf_t, x_slOf_k]
    have c1 : (cutS st none (some (at' : Int))).length ≤ 4 := by rw [← cs_len, cut_hd _ _ hat, List.length_take, cs_len]; omega
    have c2 : (cutS st (some (at' : Int)) none).length ≤ 4 := by rw [← cs_len, cut_tl _ _ hat, List.length_drop, cs_len]; omega
    have hw : Wds ((List.range n).map (nmW st at' (m / 375))) n := by
      refine ⟨by rw [List.length_map, List.length_range], ?_, ?_⟩
      · refine List.Pairwise.map _ (fun a b h => h) (List.pairwise_iff_getElem.mpr fun i j hi hj hij => ?_)
        rw [List.length_range] at hi hj
        rw [List.getElem_range, List.getElem_range]
        exact fun e => by have := nmW_inj _ _ _ _ _ hat (by omega) (by omega) e; omega
      · intro z hz
        obtain ⟨j, _, rfl⟩ := List.mem_map.mp hz
        refine ⟨nmW_ne _ _ _ _ hat, by rw [nmW_len _ _ _ _ hat]; omega, nmW_ok _ _ _ _ hat fun c hc => ?_⟩
        rw [← hst] at hc
        have hc := mem_mulS hc
        rw [cs_sg, List.mem_singleton] at hc
        rw [hc]
        have : ∀ c ∈ letL, c < 1114112 := by decide
        exact this _ (List.getElem_mem q1)
    refine hs_retO (x := .list (((List.range n).map (nmW st at' (m / 375))).map PyData.str)) ?_ ⟨_, rfl, hw⟩
    rw [List.map_map]
    refine lc_eq (xs := List.range n) (fun i => PyData.int (0 + ((i : Nat) : Int))) (PyData.str ∘ nmW st at' (m / 375)) ?_ (by rw [List.length_range]; exact sz (by omega)) fun j hj => ?_
    · exact rng_c (n := n) rfl (by omega)
    · have hj := List.mem_range.mp hj
      obtain ⟨r1, r2⟩ := let_ix ((m / 375 + (j : Int)) % 15) (by omega) (by omega)
      refine ⟨_, rfl, ?_⟩
      simp -implicitDefEqProofs only [s0, s1, s2, s3, s4, s5, s6, s7, s8, s9, x_max2, x_int_b, x_int_i, x_tuple_l, startD, List.length_cons, List.length_nil, List.map_cons, List.map_nil, List.cons_append, List.nil_append, Nat.reduceAdd, Nat.reduceSub, List.replicate, List.set_cons_zero, List.set_cons_succ, x_wipe_cons, x_wipe_nil, x_eOp, x_eC, x_eCB, x_aCons, x_aNil, x_bind_ok, x_add_i, x_len_s, x_len_l, x_len_t, x_bOf, x_eTup, x_eFz, x_oLst, x_eCall, x_aName, x_aTup, x_asCons, x_asNil, x_mod, x_div, x_bAnd, x_bOr, x_bNot, x_asB, x_sub_i, x_neg_i, x_toE_d, x_toE_o, x_notDict, if_true, if_false, reduceIte, Int.reduceLT, Int.reduceAdd, Int.reduceSub, Int.reduceMul, Int.reduceNeg, Int.reducePow, rVar, eVar, hVar, List.getElem?_cons_zero, List.getElem?_cons_succ, x_eSl, x_pNo, x_pSo, x_asI, x_sl_s, sll, Int.zero_add, r2, x_add_s]
      rw [if_pos (by rw [sg_len]; exact sz (by omega))]
      simp only [x_bind_ok, x_add_s]
      rw [if_pos (by rw [len_app, sg_len]; exact sz (by omega))]
      show _ = R.ok (PyData.str (nmW st at' (m / 375) j))
      unfold nmW
      rw [getD_at _ _ r1])
  exact ⟨l, hx, hw⟩
theorem words_ok (ns : List Int) (hl : ns.length ≤ 63) : ∃ a b c : List Str, d_law_words [scr ns] = .rt (.d (.tuple [.list (a.map PyData.str), .list (b.map PyData.str), .list (c.map PyData.str)])) ∧ Wds a 3 ∧ Wds b 2 ∧ Wds c 2 := by
  obtain ⟨a, ea, ha⟩ := names_ok ns 12 3 hl (by decide) (by decide) (by decide)
  obtain ⟨b, eb, hb⟩ := names_ok ns 13 2 hl (by decide) (by decide) (by decide)
  obtain ⟨c, ec, hc⟩ := names_ok ns 14 2 hl (by decide) (by decide) (by decide)
  refine ⟨a, b, c, ?_, ha, hb, hc⟩
  have s3 : 3 ≤ sizeLine := sz (by decide)
  show (S_law_words [some (.d (scr ns))]).fr = _
  unfold S_law_words
  have ea : d_law_names [scr ns, .int 12, .int 3] = _ := ea
  have eb : d_law_names [scr ns, .int 13, .int 2] = _ := eb
  have ec : d_law_names [scr ns, .int 14, .int 2] = _ := ec
  simp [eVar, ea, eb, ec, s3]
end K16
namespace K16
open PySem L2 DL
/-! ### kinds -/
abbrev Ks := List (Str × Str)
def eS : Str := Str.ofString ""
def kI (p : Str × Str) : PD := .tuple [.str p.1, .str p.2]
def kD (ws : Ks) : PD := .list (ws.map kI)
/-- from the last one on: names unlike, none empty; uppers told above -/
def Gr : Ks → Prop
  | [] => True
  | p :: r => p.1 ≠ eS ∧ p.1 ∉ r.map (·.1) ∧ (p.2 = eS ∨ p.2 ∈ r.map (·.1)) ∧ Gr r
theorem Gr.nodup : ∀ {r : Ks}, Gr r → (r.map (·.1)).Nodup
  | [], _ => List.nodup_nil
  | p :: r, h => by
    rw [List.map_cons, List.nodup_cons]
    exact ⟨h.2.1, Gr.nodup h.2.2.2⟩
theorem Gr.ne : ∀ {r : Ks}, Gr r → ∀ p ∈ r, p.1 ≠ eS
  | q :: r, h, p, hp => by
    rcases List.mem_cons.mp hp with e | e
    · rw [e]; exact h.1
    · exact Gr.ne h.2.2.2 p e
/-- the uppers of a word, from below -/
def chR : Ks → Str → List Str
  | [], _ => []
  | p :: r, w => if p.1 = w ∧ p.2 ≠ eS then p.2 :: chR r p.2 else chR r w
theorem chR_cons (p : Str × Str) (r : Ks) (w : Str) : chR (p :: r) w = if p.1 = w ∧ p.2 ≠ eS then p.2 :: chR r p.2 else chR r w := rfl
theorem chR_none : ∀ (r : Ks) (w : Str), w ∉ r.map (·.1) → chR r w = []
  | [], _, _ => rfl
  | p :: r, w, h => by
    rw [List.map_cons, List.mem_cons, not_or] at h
    rw [chR_cons, if_neg (fun q => h.1 q.1.symm)]
    exact chR_none r w h.2

/-! ### the law's own walk -/
theorem drop_at {α : Type} {l : List α} {i : Nat} {p : α} (h : l[i]? = some p) : l.drop i = p :: l.drop (i + 1) := by
  obtain ⟨h1, h2⟩ := List.getElem?_eq_some_iff.mp h
  rw [← h2]
  exact List.drop_eq_getElem_cons h1
theorem law_uppers (ws : Ks) (w : Str) (h : ws.length ≤ 100) : d_law_uppers [kD ws, .str w] = .rt (.o (.list ((w :: chR ws.reverse w).map PyData.str))) := by
  obtain ⟨x, hx, rfl⟩ := hs_run (n := 5) (s := S_law_uppers) (ds := [kD ws, .str w]) (Q := fun x => x = .o (.list ((w :: chR ws.reverse w).map PyData.str))) (by
    unfold S_law_uppers
    simp -implicitDefEqProofs only [startD, List.length_cons, List.length_nil, List.map_cons, List.map_nil, List.cons_append, List.nil_append, Nat.reduceAdd, Nat.reduceSub, List.replicate, List.set_cons_zero, List.set_cons_succ, List.foldl_cons, List.foldl_nil, x_killD_n, x_killD_c, x_slOf_f, x_slOf_o, x_slOf_t, x_slOf_k]
    refine hs_seq (hs_setO (x := .list ([w].map PyData.str)) ?_ ?_)
    · have s1 : (1 : Nat) ≤ sizeLine := sz (by decide)
      simp -implicitDefEqProofs only [s0, s1, s2, s3, s4, s5, s6, s7, s8, s9, x_max2, x_int_b, x_int_i, x_tuple_l, startD, List.length_cons, List.length_nil, List.map_cons, List.map_nil, List.cons_append, List.nil_append, Nat.reduceAdd, Nat.reduceSub, List.replicate, List.set_cons_zero, List.set_cons_succ, x_wipe_cons, x_wipe_nil, x_eOp, x_eC, x_eCB, x_aCons, x_aNil, x_bind_ok, x_add_i, x_len_s, x_len_l, x_len_t, x_bOf, x_eTup, x_eFz, x_oLst, x_eCall, x_aName, x_aTup, x_asCons, x_asNil, x_mod, x_div, x_bAnd, x_bOr, x_bNot, x_asB, x_sub_i, x_neg_i, x_toE_d, x_toE_o, x_notDict, if_true, if_false, reduceIte, Int.reduceLT, Int.reduceAdd, Int.reduceSub, Int.reduceMul, Int.reduceNeg, Int.reducePow, rVar, eVar, hVar, List.getElem?_cons_zero, List.getElem?_cons_succ, s1]
    refine hs_seq (hs_pre ?_)
    simp -implicitDefEqProofs only [startD, List.length_cons, List.length_nil, List.map_cons, List.map_nil, List.cons_append, List.nil_append, Nat.reduceAdd, Nat.reduceSub, List.replicate, List.set_cons_zero, List.set_cons_succ, List.foldl_cons, List.foldl_nil, x_killD_n, x_killD_c, x_slOf_f, x_slOf_o, x_slOf_t, x_slOf_k]
    refine hs_forL kI ws.reverse ?_ (fun i ρ => ∃ (pre : List Str) (w' : Str), ρ = [some (.d (kD ws)), some (.d (.str w)), some (.o (.list ((pre ++ [w']).map PyData.str))), none, none] ∧ pre ++ w' :: chR (ws.reverse.drop i) w' = w :: chR ws.reverse w ∧ pre.length ≤ i) ⟨[], w, rfl, rfl, Nat.le_refl _⟩ (fun i p ρ hp hI => ?_) fun ρ hI => ?_
    · rw [List.map_reverse]
      rfl
    · obtain ⟨pre, w', rfl, he, hl⟩ := hI
      have hi : i < ws.length := by have := (List.getElem?_eq_some_iff.mp hp).1; rwa [List.length_reverse] at this
      rw [drop_at hp, chR_cons] at he
      have il := ix_last pre w'
      refine ⟨_, rfl, ?_⟩
      simp -implicitDefEqProofs only [startD, List.length_cons, List.length_nil, List.map_cons, List.map_nil, List.cons_append, List.nil_append, Nat.reduceAdd, Nat.reduceSub, List.replicate, List.set_cons_zero, List.set_cons_succ, List.foldl_cons, List.foldl_nil, x_killD_n, x_killD_c, x_slOf_f, x_slOf_o, x_slOf_t, x_slOf_k]
      by_cases c : p.1 = w' ∧ p.2 ≠ eS
      · rw [if_pos c] at he
        have c1 := c.1
        have c2 : ¬ p.2 = Str.ofString "" := c.2
        refine hs_if (c := true) (by simp [rVar, il, c1, c2, -List.map_append]) (fun _ => ?_) (fun q => by cases q)
        refine hs_app (ds := (pre ++ [w']).map PyData.str) (x := .str p.2) rfl rfl (by rw [List.length_map, List.length_append, List.length_singleton]; exact szl (by omega)) ?_
        refine ⟨pre ++ [w'], p.2, ?_, ?_, by rw [List.length_append, List.length_singleton]; omega⟩
        · rw [List.map_append (l₁ := pre ++ [w'])]
          rfl
        · rw [List.append_assoc]
          exact he
      · rw [if_neg c] at he
        refine hs_if (c := false) (by
          by_cases c1 : p.1 = w'
          · have c2 : p.2 = Str.ofString "" := Classical.byContradiction fun q => c ⟨c1, q⟩
            simp [rVar, il, c1, c2, -List.map_append]
          · simp [rVar, il, c1, -List.map_append]) (fun q => by cases q) (fun _ => ?_)
        exact hs_next ⟨pre, w', rfl, he, by omega⟩
    · obtain ⟨pre, w', rfl, he, _⟩ := hI
      refine hs_retV rfl ?_
      rw [List.drop_eq_nil_of_le (Nat.le_refl _)] at he
      show _ = Sl.o (.list ((w :: chR ws.reverse w).map PyData.str))
      rw [← he]
      rfl)
  exact hx
theorem law_lowers (ws : Ks) (w : Str) (h : ws.length ≤ 100) : d_law_lowers [kD ws, .str w] = .rt (.o (.list ((ws.filter fun p => decide (w ∈ p.1 :: chR ws.reverse p.1)).map fun p => PyData.str p.1))) := by
  obtain ⟨x, hx, rfl⟩ := hs_run (n := 4) (s := S_law_lowers) (ds := [kD ws, .str w]) (Q := fun x => x = .o (.list ((ws.filter fun p => decide (w ∈ p.1 :: chR ws.reverse p.1)).map fun p => PyData.str p.1))) (by
    unfold S_law_lowers
    simp -implicitDefEqProofs only [startD, List.length_cons, List.length_nil, List.map_cons, List.map_nil, List.cons_append, List.nil_append, Nat.reduceAdd, Nat.reduceSub, List.replicate, List.set_cons_zero, List.set_cons_succ, List.foldl_cons, List.foldl_nil, x_killD_n, x_killD_c, x_slOf_f, x_slOf_o, x_slOf_t, x_slOf_k]
    refine hs_retO ?_ rfl
    refine lc_flt (xs := ws) kI (fun p => PyData.str p.1) (fun p => decide (w ∈ p.1 :: chR ws.reverse p.1)) rfl (sz (by omega)) fun p hp => ⟨_, rfl, ?_, fun _ => rfl⟩
    have e := law_uppers ws p.1 h
    refine bof (in_strs (l := p.1 :: chR ws.reverse p.1) rfl (call2o rfl rfl e)))
  exact hx
/-! ### the program's walk -/
theorem pairs_ok : ∀ ws : Ks, pairsD (ws.map kI) = some (ws.map fun p => ((.inr p.1 : Key), PyData.str p.2))
  | [] => rfl
  | p :: ws => by
    rw [List.map_cons]
    show (match keyOf (.str p.1), pairsD (ws.map kI) with
      | some k, some l => some ((k, PyData.str p.2) :: l)
      | _, _ => none) = _
    rw [pairs_ok ws]
    rfl
theorem valD_no (kvs : List (PD × PD)) (k : Key) (h : ∀ p ∈ kvs, keyOf p.1 ≠ some k) : valD kvs k = none := by
  induction kvs with
  | nil => rfl
  | cons p r ih =>
    unfold valD
    rw [if_neg (h p List.mem_cons_self)]
    exact ih fun q hq => h q (List.mem_cons_of_mem _ hq)
theorem putD_new {kvs : List (PD × PD)} {k : Key} (d : PD) (h : valD kvs k = none) : putD kvs k d = kvs ++ [(keyD k, d)] := by
  unfold putD
  rw [h]
  exact if_neg (by decide)
theorem valD_map (f : Str × Str → PD) (a : Str) : ∀ ws : Ks, a ∉ ws.map (·.1) → valD (ws.map fun p => (PyData.str p.1, f p)) (.inr a) = none
  | [], _ => rfl
  | p :: ws, h => by
    rw [List.map_cons, List.mem_cons, not_or] at h
    rw [List.map_cons]
    unfold valD
    rw [if_neg (fun q => h.1 (by have := Option.some.inj (show some (.inr p.1 : Key) = some (.inr a) from q); injection this with this; exact this.symm))]
    exact valD_map f a ws h.2
theorem valD_at (f : Str × Str → PD) : ∀ (ws : Ks) (p : Str × Str), (ws.map (·.1)).Nodup → p ∈ ws → valD (ws.map fun p => (PyData.str p.1, f p)) (.inr p.1) = some (f p)
  | q :: ws, p, h, hp => by
    rw [List.map_cons, List.nodup_cons] at h
    rw [List.map_cons]
    unfold valD
    rcases List.mem_cons.mp hp with e | e
    · rw [e]; exact if_pos rfl
    · have ne : q.1 ≠ p.1 := fun w => h.1 (by rw [w]; exact List.mem_map_of_mem e)
      rw [if_neg (fun z => ne (by have := Option.some.inj (show some (.inr q.1 : Key) = some (.inr p.1) from z); injection this))]
      exact valD_at f ws p h.2 e
theorem merge_new (f : Str × Str → PD) : ∀ (l ds : Ks), ((ds ++ l).map (·.1)).Nodup → mergeD (ds.map fun p => (PyData.str p.1, f p)) (l.map fun p => ((.inr p.1 : Key), f p)) = (ds ++ l).map fun p => (PyData.str p.1, f p)
  | [], ds, _ => by rw [List.append_nil]; rfl
  | p :: l, ds, h => by
    have h2 : ((ds ++ [p] ++ l).map (·.1)).Nodup := by rw [List.append_assoc]; exact h
    have ih := merge_new f l (ds ++ [p]) h2
    rw [List.append_assoc] at ih
    have hn : p.1 ∉ ds.map (·.1) := by
      rw [List.map_append, List.nodup_append] at h
      exact fun q => h.2.2 _ q _ (by rw [List.map_cons]; exact List.mem_cons_self) rfl
    show mergeD (putD (ds.map fun p => (PyData.str p.1, f p)) (.inr p.1) (f p)) _ = _
    rw [putD_new _ (valD_map f p.1 ds hn)]
    have e : (ds.map fun p => (PyData.str p.1, f p)) ++ [(keyD (.inr p.1), f p)] = (ds ++ [p]).map fun p => (PyData.str p.1, f p) := by
      rw [List.map_append]
      rfl
    rw [e]
    exact ih
def dcD (ws : Ks) : List (PD × PD) := ws.map fun p => (PyData.str p.1, PyData.str p.2)
theorem dict_ok (ws : Ks) (h : (ws.map (·.1)).Nodup) : dictD [kD ws] = .ok (.dict (dcD ws)) := by
  unfold dictD kD
  simp only
  rw [pairs_ok]
  simp only
  have := merge_new (fun p => PyData.str p.2) ws [] h
  rw [List.nil_append] at this
  exact congrArg (fun z => R.ok (PyData.dict z)) this
theorem while_ok (kd : PD) (o : Str) (ho : o ≠ eS) (D : List (PD × PD)) : ∀ (r : Ks) (w : Str) (n : Nat), Gr r → (∀ p ∈ r, valD D (.inr p.1) = some (.str p.2)) → (w = eS ∨ w ∈ r.map (·.1)) → r.length < n → ∃ w' : Str,
    whileD (bAnd (bOf (eOp neD (rVar 1) (rVar 2))) (bOf (eOp neD (rVar 1) (eC (.str (PySem.Str.ofString "")))))) (killS [] (sSet 1 (eDget 3 (rVar 1)))) n [some (.d kd), some (.d (.str w)), some (.d (.str o)), some (.o (.dict D))] =
      .nx [some (.d kd), some (.d (.str w')), some (.d (.str o)), some (.o (.dict D))] ∧ (w' = o ↔ o ∈ w :: chR r w) := by
  intro r
  induction r with
  | nil =>
    intro w n _ _ hw hn
    obtain ⟨m, rfl⟩ : ∃ m, n = m + 1 := ⟨n - 1, by omega⟩
    have hw : w = eS := by
      rcases hw with h | h
      · exact h
      · simp at h
    refine ⟨w, ?_, ?_⟩
    · unfold whileD
      subst hw
      have h1 : ¬ eS = o := fun q => ho q.symm
      have h2 : eS = Str.ofString "" := rfl
      simp [rVar, h1, ← h2]
    · rw [hw]
      unfold chR
      rw [List.mem_singleton]
      exact ⟨fun h => h.symm, fun h => h.symm⟩
  | cons p r ih =>
    intro w n hg hd hw hn
    rw [List.length_cons] at hn
    have hd' : ∀ q ∈ r, valD D (.inr q.1) = some (.str q.2) := fun q hq => hd q (List.mem_cons_of_mem _ hq)
    by_cases c : p.1 = w
    · obtain ⟨m, rfl⟩ : ∃ m, n = m + 1 := ⟨n - 1, by omega⟩
      have wne : w ≠ eS := by rw [← c]; exact hg.1
      have wne2 : ¬ w = Str.ofString "" := wne
      by_cases c2 : w = o
      · refine ⟨w, ?_, ⟨fun _ => by rw [c2]; exact List.mem_cons_self, fun _ => c2⟩⟩
        unfold whileD
        simp [rVar, c2]
      · have dg := dget_o (i := 3) (g := rVar 1) (ρ := [some (.d kd), some (.d (.str w)), some (.d (.str o)), some (.o (.dict D))]) (a := w) (d := .str p.2) rfl rfl (by rw [← c]; exact hd p List.mem_cons_self)
        obtain ⟨w', e, hw'⟩ := ih p.2 m hg.2.2.2 hd' hg.2.2.1 (by omega)
        refine ⟨w', ?_, ?_⟩
        · unfold whileD
          have ec : bAnd (bOf (eOp neD (rVar 1) (rVar 2))) (bOf (eOp neD (rVar 1) (eC (.str (PySem.Str.ofString ""))))) [some (.d kd), some (.d (.str w)), some (.d (.str o)), some (.o (.dict D))] = .ok true := by
            simp [rVar, c2, wne2]
          rw [ec, x_of_ok, if_pos rfl, x_killS, set_ok dg]
          exact e
        · rw [hw']
          rw [chR_cons]
          by_cases c3 : p.2 = eS
          · rw [if_neg (fun q => q.2 c3), c3, chR_none r eS (fun q => by
              obtain ⟨q1, q2, q3⟩ := List.mem_map.mp q
              exact Gr.ne hg.2.2.2 q1 q2 q3), chR_none r w (by rw [← c]; exact hg.2.1)]
            rw [List.mem_singleton, List.mem_singleton]
            exact ⟨fun h => absurd h ho, fun h => absurd h.symm c2⟩
          · rw [if_pos ⟨c, c3⟩, List.mem_cons (a := o) (b := w)]
            exact ⟨fun h => .inr h, fun h => h.resolve_left fun q => c2 q.symm⟩
    · have hw2 : w = eS ∨ w ∈ r.map (·.1) := by
        rcases hw with h | h
        · exact .inl h
        · rw [List.map_cons, List.mem_cons] at h
          exact .inr (h.resolve_left fun q => c q.symm)
      obtain ⟨w', e, hw'⟩ := ih w n hg.2.2.2 hd' hw2 (by omega)
      refine ⟨w', e, ?_⟩
      rw [hw']
      have e2 : chR (p :: r) w = chR r w := by
        rw [chR_cons, if_neg (fun q => c q.1)]
      rw [e2]
theorem is_under (ws : Ks) (w o : Str) (hg : Gr ws.reverse) (hl : ws.length ≤ 100) (hw : w ∈ ws.map (·.1)) (ho : o ∈ ws.map (·.1)) : d_is_under [kD ws, .str w, .str o] = .rt (.d (.bool (decide (o ∈ w :: chR ws.reverse w)))) := by
  have nd : (ws.map (·.1)).Nodup := by
    have := hg.nodup
    rw [List.map_reverse] at this
    exact (List.reverse_perm _).nodup_iff.mp this
  have one : o ≠ eS := by
    obtain ⟨q1, q2, q3⟩ := List.mem_map.mp ho
    rw [← q3]
    exact hg.ne q1 (List.mem_reverse.mpr q2)
  show (S_is_under [some (.d (kD ws)), some (.d (.str w)), some (.d (.str o)), none]).fr = _
  unfold S_is_under
  rw [seq_nx (ρ1 := [some (.d (kD ws)), some (.d (.str w)), some (.d (.str o)), some (.o (.dict (dcD ws)))]) (setO_ok (by
    show (R.ok [kD ws]).bind dictD = _
    rw [x_bind_ok, dict_ok ws nd]))]
  obtain ⟨w', e, hw'⟩ := while_ok (kD ws) o one (dcD ws) ws.reverse w 20000000 hg (fun p hp => valD_at (fun p => PyData.str p.2) ws p nd (List.mem_reverse.mp hp)) (.inr (by rw [List.map_reverse]; exact List.mem_reverse.mpr hw)) (by rw [List.length_reverse]; omega)
  rw [seq_nx (show preK [] (sWhile 20000000 _ _) _ = _ from e)]
  rw [ret_ok (x := .bool (decide (o ∈ w :: chR ws.reverse w)))]
  · rfl
  · have : decide (w' = o) = decide (o ∈ w :: chR ws.reverse w) := decide_eq_decide.mpr hw'
    rw [← this]
    simp [rVar]
/-! ### kinds are drawn -/
def GK (ws : Ks) : Prop := Gr ws.reverse ∧ 3 ≤ ws.length ∧ ws.length ≤ 8 ∧ ∀ p ∈ ws, p.1.length ≤ 5 ∧ okS p.1
theorem kinds_ok (ns : List Int) (hl : ns.length ≤ 63) : ∃ ws : Ks, d_law_kinds [scr ns] = .rt (.o (kD ws)) ∧ GK ws := by
  obtain ⟨m, em, m0, m1⟩ := mix_ok ns 1 hl (by decide) (by decide)
  obtain ⟨N, hN, n3, n8⟩ : ∃ N : Nat, 3 + m % 6 = (N : Int) ∧ 3 ≤ N ∧ N ≤ 8 := ⟨(3 + m % 6).toNat, by omega, by omega, by omega⟩
  obtain ⟨nm, en, hw1, hw2, hw3⟩ := names_ok ns 2 N hl (by decide) (by decide) (by omega)
  obtain ⟨x, hx, ws, rfl, hw⟩ := hs_run (n := 7) (s := S_law_kinds) (ds := [scr ns]) (Q := fun x => ∃ ws : Ks, x = .o (kD ws) ∧ GK ws) (by
    unfold S_law_kinds
    simp -implicitDefEqProofs only [startD, List.length_cons, List.length_nil, List.map_cons, List.map_nil, List.cons_append, List.nil_append, Nat.reduceAdd, Nat.reduceSub, List.replicate, List.set_cons_zero, List.set_cons_succ, List.foldl_cons, List.foldl_nil, x_killD_n, x_killD_c, x_slOf_f, x_slOf_o, x_slOf_t, x_slOf_k]
    refine hs_seq (hs_set (x := .int (N : Nat)) ?_ ?_)
    · simp -implicitDefEqProofs only [s0, s1, s2, s3, s4, s5, s6, s7, s8, s9, x_max2, x_int_b, x_int_i, x_tuple_l, startD, List.length_cons, List.length_nil, List.map_cons, List.map_nil, List.cons_append, List.nil_append, Nat.reduceAdd, Nat.reduceSub, List.replicate, List.set_cons_zero, List.set_cons_succ, x_wipe_cons, x_wipe_nil, x_eOp, x_eC, x_eCB, x_aCons, x_aNil, x_bind_ok, x_add_i, x_len_s, x_len_l, x_len_t, x_bOf, x_eTup, x_eFz, x_oLst, x_eCall, x_aName, x_aTup, x_asCons, x_asNil, x_mod, x_div, x_bAnd, x_bOr, x_bNot, x_asB, x_sub_i, x_neg_i, x_toE_d, x_toE_o, x_notDict, if_true, if_false, reduceIte, Int.reduceLT, Int.reduceAdd, Int.reduceSub, Int.reduceMul, Int.reduceNeg, Int.reducePow, rVar, eVar, hVar, List.getElem?_cons_zero, List.getElem?_cons_succ, em, hN]
    simp -implicitDefEqProofs only [startD, List.length_cons, List.length_nil, List.map_cons, List.map_nil, List.cons_append, List.nil_append, Nat.reduceAdd, Nat.reduceSub, List.replicate, List.set_cons_zero, List.set_cons_succ, List.foldl_cons, List.foldl_nil, x_killD_n, x_killD_c, x_slOf_f, x_slOf_o, x_slOf_t, x_slOf_k]
    refine hs_seq (hs_set (x := .list (nm.map PyData.str)) ?_ ?_)
    · simp -implicitDefEqProofs only [s0, s1, s2, s3, s4, s5, s6, s7, s8, s9, x_max2, x_int_b, x_int_i, x_tuple_l, startD, List.length_cons, List.length_nil, List.map_cons, List.map_nil, List.cons_append, List.nil_append, Nat.reduceAdd, Nat.reduceSub, List.replicate, List.set_cons_zero, List.set_cons_succ, x_wipe_cons, x_wipe_nil, x_eOp, x_eC, x_eCB, x_aCons, x_aNil, x_bind_ok, x_add_i, x_len_s, x_len_l, x_len_t, x_bOf, x_eTup, x_eFz, x_oLst, x_eCall, x_aName, x_aTup, x_asCons, x_asNil, x_mod, x_div, x_bAnd, x_bOr, x_bNot, x_asB, x_sub_i, x_neg_i, x_toE_d, x_toE_o, x_notDict, if_true, if_false, reduceIte, Int.reduceLT, Int.reduceAdd, Int.reduceSub, Int.reduceMul, Int.reduceNeg, Int.reducePow, rVar, eVar, hVar, List.getElem?_cons_zero, List.getElem?_cons_succ, en]
    simp -implicitDefEqProofs only [startD, List.length_cons, List.length_nil, List.map_cons, List.map_nil, List.cons_append, List.nil_append, Nat.reduceAdd, Nat.reduceSub, List.replicate, List.set_cons_zero, List.set_cons_succ, List.foldl_cons, List.foldl_nil, x_killD_n, x_killD_c, x_slOf_f, x_slOf_o, x_slOf_t, x_slOf_k]
    refine hs_seq (hs_setO (x := .list []) ?_ ?_)
    · have s0 : (0 : Nat) ≤ sizeLine := Nat.zero_le _
      simp -implicitDefEqProofs only [s0, s1, s2, s3, s4, s5, s6, s7, s8, s9, x_max2, x_int_b, x_int_i, x_tuple_l, startD, List.length_cons, List.length_nil, List.map_cons, List.map_nil, List.cons_append, List.nil_append, Nat.reduceAdd, Nat.reduceSub, List.replicate, List.set_cons_zero, List.set_cons_succ, x_wipe_cons, x_wipe_nil, x_eOp, x_eC, x_eCB, x_aCons, x_aNil, x_bind_ok, x_add_i, x_len_s, x_len_l, x_len_t, x_bOf, x_eTup, x_eFz, x_oLst, x_eCall, x_aName, x_aTup, x_asCons, x_asNil, x_mod, x_div, x_bAnd, x_bOr, x_bNot, x_asB, x_sub_i, x_neg_i, x_toE_d, x_toE_o, x_notDict, if_true, if_false, reduceIte, Int.reduceLT, Int.reduceAdd, Int.reduceSub, Int.reduceMul, Int.reduceNeg, Int.reducePow, rVar, eVar, hVar, List.getElem?_cons_zero, List.getElem?_cons_succ, s0]
    simp -implicitDefEqProofs only [startD, List.length_cons, List.length_nil, List.map_cons, List.map_nil, List.cons_append, List.nil_append, Nat.reduceAdd, Nat.reduceSub, List.replicate, List.set_cons_zero, List.set_cons_succ, List.foldl_cons, List.foldl_nil, x_killD_n, x_killD_c, x_slOf_f, x_slOf_o, x_slOf_t, x_slOf_k]
    refine hs_seq (hs_pre ?_)
    simp -implicitDefEqProofs only [startD, List.length_cons, List.length_nil, List.map_cons, List.map_nil, List.cons_append, List.nil_append, Nat.reduceAdd, Nat.reduceSub, List.replicate, List.set_cons_zero, List.set_cons_succ, List.foldl_cons, List.foldl_nil, x_killD_n, x_killD_c, x_slOf_f, x_slOf_o, x_slOf_t, x_slOf_k]
    refine hs_rng N (rng_c rfl (by omega)) (fun i ρ => ∃ ws : Ks, ρ = [some (.d (scr ns)), some (.d (.int (N : Nat))), some (.d (.list (nm.map PyData.str))), some (.o (kD ws)), none, none, none] ∧ ws.length = i ∧ ws.map (·.1) = nm.take i ∧ Gr ws.reverse) ⟨[], rfl, rfl, rfl, trivial⟩ (fun i ρ hi hI => ?_) fun ρ hI => ?_
    · obtain ⟨ws, rfl, hwl, hwn, hg⟩ := hI
      refine ⟨_, rfl, ?_⟩
      simp -implicitDefEqProofs only [startD, List.length_cons, List.length_nil, List.map_cons, List.map_nil, List.cons_append, List.nil_append, Nat.reduceAdd, Nat.reduceSub, List.replicate, List.set_cons_zero, List.set_cons_succ, List.foldl_cons, List.foldl_nil, x_killD_n, x_killD_c, x_slOf_f, x_slOf_o, x_slOf_t, x_slOf_k]
      obtain ⟨y, ey, y0, y1⟩ := mix_ok ns (3 + (i : Int)) hl (by omega) (by omega)
      refine hs_seq (hs_set (x := .int y) ?_ ?_)
      · simp -implicitDefEqProofs only [s0, s1, s2, s3, s4, s5, s6, s7, s8, s9, x_max2, x_int_b, x_int_i, x_tuple_l, startD, List.length_cons, List.length_nil, List.map_cons, List.map_nil, List.cons_append, List.nil_append, Nat.reduceAdd, Nat.reduceSub, List.replicate, List.set_cons_zero, List.set_cons_succ, x_wipe_cons, x_wipe_nil, x_eOp, x_eC, x_eCB, x_aCons, x_aNil, x_bind_ok, x_add_i, x_len_s, x_len_l, x_len_t, x_bOf, x_eTup, x_eFz, x_oLst, x_eCall, x_aName, x_aTup, x_asCons, x_asNil, x_mod, x_div, x_bAnd, x_bOr, x_bNot, x_asB, x_sub_i, x_neg_i, x_toE_d, x_toE_o, x_notDict, if_true, if_false, reduceIte, Int.reduceLT, Int.reduceAdd, Int.reduceSub, Int.reduceMul, Int.reduceNeg, Int.reducePow, rVar, eVar, hVar, List.getElem?_cons_zero, List.getElem?_cons_succ, ey]
      simp -implicitDefEqProofs only [startD, List.length_cons, List.length_nil, List.map_cons, List.map_nil, List.cons_append, List.nil_append, Nat.reduceAdd, Nat.reduceSub, List.replicate, List.set_cons_zero, List.set_cons_succ, List.foldl_cons, List.foldl_nil, x_killD_n, x_killD_c, x_slOf_f, x_slOf_o, x_slOf_t, x_slOf_k]
      refine hs_seq (hs_set (x := .str eS) rfl ?_)
      simp -implicitDefEqProofs only [startD, List.length_cons, List.length_nil, List.map_cons, List.map_nil, List.cons_append, List.nil_append, Nat.reduceAdd, Nat.reduceSub, List.replicate, List.set_cons_zero, List.set_cons_succ, List.foldl_cons, List.foldl_nil, x_killD_n, x_killD_c, x_slOf_f, x_slOf_o, x_slOf_t, x_slOf_k]
      have hni : i < nm.length := by omega
      have ine : nm[i] ≠ eS := (hw3 _ (List.getElem_mem hni)).1
      have inn : nm[i] ∉ nm.take i := fun q => by
        obtain ⟨j, hj, e⟩ := List.mem_take_iff_getElem.mp q
        have := (List.getElem_inj hw2).mp e
        omega
      have last : ∀ u : Str, (u = eS ∨ u ∈ nm.take i) → HS (sAppend 3 (eTup (aCons (eOp ixD (rVar 2) (rVar 4)) (aCons (eVar 6) aNil)))) [some (.d (scr ns)), some (.d (.int (N : Nat))), some (.d (.list (nm.map PyData.str))), some (.o (kD ws)), some (.d (.int (i : Nat))), some (.d (.int y)), some (.d (.str u))] (fun ρ2 => ∃ ws : Ks, [4, 5, 6].foldl (fun ρ i => ρ.set i none) ρ2 = [some (.d (scr ns)), some (.d (.int (N : Nat))), some (.d (.list (nm.map PyData.str))), some (.o (kD ws)), none, none, none] ∧ ws.length = i + 1 ∧ ws.map (·.1) = nm.take (i + 1) ∧ Gr ws.reverse) (fun x => ∃ ws : Ks, x = .o (kD ws) ∧ GK ws) (fun ρ2 => ∃ ws : Ks, [4, 5, 6].foldl (fun ρ i => ρ.set i none) ρ2 = [some (.d (scr ns)), some (.d (.int (N : Nat))), some (.d (.list (nm.map PyData.str))), some (.o (kD ws)), none, none, none] ∧ ws.length = i + 1 ∧ ws.map (·.1) = nm.take (i + 1) ∧ Gr ws.reverse) := fun u hu => by
        obtain ⟨x, hx', hx, ex⟩ := ix_list nm PyData.str (i : Int) (by omega) (by omega)
        have hx : x = nm[i] := hx
        subst hx
        have s2 : (2 : Nat) ≤ sizeLine := sz (by decide)
        refine hs_app (ds := ws.map kI) (x := kI (nm[i], u)) rfl ?_ (by rw [List.length_map]; exact szl (by omega)) ?_
        · simp -implicitDefEqProofs only [s0, s1, s2, s3, s4, s5, s6, s7, s8, s9, x_max2, x_int_b, x_int_i, x_tuple_l, startD, List.length_cons, List.length_nil, List.map_cons, List.map_nil, List.cons_append, List.nil_append, Nat.reduceAdd, Nat.reduceSub, List.replicate, List.set_cons_zero, List.set_cons_succ, x_wipe_cons, x_wipe_nil, x_eOp, x_eC, x_eCB, x_aCons, x_aNil, x_bind_ok, x_add_i, x_len_s, x_len_l, x_len_t, x_bOf, x_eTup, x_eFz, x_oLst, x_eCall, x_aName, x_aTup, x_asCons, x_asNil, x_mod, x_div, x_bAnd, x_bOr, x_bNot, x_asB, x_sub_i, x_neg_i, x_toE_d, x_toE_o, x_notDict, if_true, if_false, reduceIte, Int.reduceLT, Int.reduceAdd, Int.reduceSub, Int.reduceMul, Int.reduceNeg, Int.reducePow, rVar, eVar, hVar, List.getElem?_cons_zero, List.getElem?_cons_succ, ex, s2]
          rfl
        · refine ⟨ws ++ [(nm[i], u)], ?_, by rw [List.length_append, hwl]; rfl, ?_, ?_⟩
          · unfold kD
            rw [List.map_append]
            rfl
          · rw [List.map_append, hwn, ← List.take_append_getElem hni]
            rfl
          · rw [List.reverse_append]
            have : ws.reverse.map (·.1) = (nm.take i).reverse := by rw [List.map_reverse, hwn]
            refine ⟨ine, ?_, ?_, hg⟩
            · show _ ∉ ws.reverse.map (·.1)
              rw [this, List.mem_reverse]; exact inn
            · show _ ∨ _ ∈ ws.reverse.map (·.1)
              rw [this, List.mem_reverse]; exact hu
      by_cases c : 0 < i ∧ 0 < y % 4
      · have c1 : (0 : Int) < i := by omega
        have b1 : 0 ≤ y / 4 % (i : Int) := Int.emod_nonneg _ (by omega)
        have b2 : y / 4 % (i : Int) < i := Int.emod_lt_of_pos _ c1
        obtain ⟨u, hu', hu, eu⟩ := ix_list nm PyData.str (y / 4 % (i : Int)) b1 (by omega)
        refine hs_seq (hs_if (c := true) (by simp [rVar, x_mod, c.1, c.2]) (fun _ => ?_) (fun q => by cases q))
        refine hs_set (x := .str u) ?_ ?_
        · simp -implicitDefEqProofs only [s0, s1, s2, s3, s4, s5, s6, s7, s8, s9, x_max2, x_int_b, x_int_i, x_tuple_l, startD, List.length_cons, List.length_nil, List.map_cons, List.map_nil, List.cons_append, List.nil_append, Nat.reduceAdd, Nat.reduceSub, List.replicate, List.set_cons_zero, List.set_cons_succ, x_wipe_cons, x_wipe_nil, x_eOp, x_eC, x_eCB, x_aCons, x_aNil, x_bind_ok, x_add_i, x_len_s, x_len_l, x_len_t, x_bOf, x_eTup, x_eFz, x_oLst, x_eCall, x_aName, x_aTup, x_asCons, x_asNil, x_mod, x_div, x_bAnd, x_bOr, x_bNot, x_asB, x_sub_i, x_neg_i, x_toE_d, x_toE_o, x_notDict, if_true, if_false, reduceIte, Int.reduceLT, Int.reduceAdd, Int.reduceSub, Int.reduceMul, Int.reduceNeg, Int.reducePow, rVar, eVar, hVar, List.getElem?_cons_zero, List.getElem?_cons_succ, x_mod _ _ c1, eu]
        simp -implicitDefEqProofs only [startD, List.length_cons, List.length_nil, List.map_cons, List.map_nil, List.cons_append, List.nil_append, Nat.reduceAdd, Nat.reduceSub, List.replicate, List.set_cons_zero, List.set_cons_succ, List.foldl_cons, List.foldl_nil, x_killD_n, x_killD_c, x_slOf_f, x_slOf_o, x_slOf_t, x_slOf_k]
        exact last u (.inr (by rw [hu]; exact List.mem_take_iff_getElem.mpr ⟨_, by omega, rfl⟩))
      · refine hs_seq (hs_if (c := false) (by
          by_cases c1 : 0 < i
          · have c2 : ¬ 0 < y % 4 := fun q => c ⟨c1, q⟩
            simp [rVar, x_mod, c1, c2]
          · simp [rVar, c1]) (fun q => by cases q) (fun _ => ?_))
        exact hs_next (last eS (.inl rfl))
    · obtain ⟨ws, rfl, hwl, hwn, hg⟩ := hI
      refine hs_retV rfl ⟨ws, rfl, hg, by omega, by omega, fun p hp => ?_⟩
      have : p.1 ∈ ws.map (·.1) := List.mem_map_of_mem hp
      rw [hwn] at this
      exact (hw3 _ (List.mem_of_mem_take this)).2)
  exact ⟨ws, hx, hw⟩
end K16
namespace K16
open PySem L2 DL
/-! ### what a reading is made of -/
def tS (l : List Str) : PD := .tuple (l.map PyData.str)
def tI (l : List Int) : PD := .tuple (l.map PyData.int)
def clI (c : List Str × List Int) : PD := .tuple [tS c.1, tI c.2]
def PtOK (nm : List Str) (p : List Str) : Prop := p ≠ [] ∧ p.length ≤ 3 ∧ ∀ z ∈ p, z ∈ nm
def NmOK (n : Nat) (l : List Int) : Prop := l.length ≤ 2 ∧ ∀ i ∈ l, 0 ≤ i ∧ i < n
theorem NmOK.up {n m : Nat} {l : List Int} (h : NmOK n l) (k : n ≤ m) : NmOK m l := ⟨h.1, fun i hi => ⟨(h.2 i hi).1, by have := (h.2 i hi).2; omega⟩⟩
structure Gp (nm : List Str) (k : Nat) (n : Nat) (cl : List (List Str × List Int)) (nd : List (List Int)) : Prop where
  c1 : cl.length ≤ k
  c2 : ∀ c ∈ cl, PtOK nm c.1 ∧ NmOK n c.2
  n1 : nd.length ≤ k
  n2 : ∀ l ∈ nd, NmOK n l
structure Ps (nm : List Str) (ps : List (List Str)) : Prop where
  p1 : ps.length ≤ 5
  p2 : ∀ p ∈ ps, PtOK nm p
theorem Gp.up {nm : List Str} {k n k' n' : Nat} {cl : List (List Str × List Int)} {nd : List (List Int)} (h : Gp nm k n cl nd) (a : k ≤ k') (b : n ≤ n') : Gp nm k' n' cl nd :=
  ⟨Nat.le_trans h.c1 a, fun c hc => ⟨(h.c2 c hc).1, (h.c2 c hc).2.up b⟩, Nat.le_trans h.n1 a, fun l hl => (h.n2 l hl).up b⟩
/-- an int out of a few -/
theorem ixc (l : List Int) (i : Int) (h0 : 0 ≤ i) (h1 : i < l.length) : ∃ x ∈ l, ixD (.list (l.map PyData.int)) (.int i) = .ok (.int x) := by
  obtain ⟨x, h, hx, e⟩ := ix_list l PyData.int i h0 h1
  exact ⟨x, by rw [hx]; exact List.getElem_mem h, e⟩
def gSt (nm : List Str) (ns : List Int) (at' : Int) (ws : Ks) (sh : Bool) (ps : List (List Str)) (cl : List (List Str × List Int)) (nd : List (List Int)) : Rho :=
  [some (.d (scr ns)), some (.d (.int at')), some (.d (kD ws)), some (.d (.bool sh)), some (.d (.list (nm.map PyData.str))), some (.o (.list (ps.map tS))), some (.o (.list (cl.map clI))), some (.o (.list (nd.map tI))), none, none, none, none, none, none, none, none, none]
def gQ (nm : List Str) (x : Sl) : Prop := ∃ ps cl nd, x = .t (.tup [.own (.list (ps.map tS)), .own (.list (cl.map clI)), .own (.list (nd.map tI))]) ∧ Ps nm ps ∧ Gp nm 3 ps.length cl nd
theorem groups_ok (nm : List Str) (ns : List Int) (at' : Int) (ws : Ks) (sh : Bool) (hl : ns.length ≤ 63) (a0 : 0 ≤ at') (a1 : at' ≤ 900) (gk : GK ws) (hnm : ws.map (·.1) = nm) : ∃ x, d_law_groups [scr ns, .int at', kD ws, .bool sh] = .rt x ∧ gQ nm x := by
  obtain ⟨m, em, m0, m1⟩ := mix_ok ns at' hl a0 (by omega)
  obtain ⟨hg, g3, g8, g5⟩ := gk
  have nl : nm.length = ws.length := by rw [← hnm, List.length_map]
  refine hs_run (n := 17) (s := S_law_groups) (ds := [scr ns, .int at', kD ws, .bool sh]) (Q := gQ nm) ?_
  unfold S_law_groups
  simp -implicitDefEqProofs only [startD, List.length_cons, List.length_nil, List.map_cons, List.map_nil, List.cons_append, List.nil_append, Nat.reduceAdd, Nat.reduceSub, List.replicate, List.set_cons_zero, List.set_cons_succ, List.foldl_cons, List.foldl_nil, x_killD_n, x_killD_c, x_slOf_f, x_slOf_o, x_slOf_t, x_slOf_k]
  refine hs_seq (hs_set (x := .list (nm.map PyData.str)) ?_ ?_)
  · rw [x_eFz, ← hnm, List.map_map, lc_eq (xs := ws) kI (PyData.str ∘ (·.1)) rfl (sz (by omega)) fun p hp => ⟨_, rfl, rfl⟩]
    rfl
  simp -implicitDefEqProofs only [startD, List.length_cons, List.length_nil, List.map_cons, List.map_nil, List.cons_append, List.nil_append, Nat.reduceAdd, Nat.reduceSub, List.replicate, List.set_cons_zero, List.set_cons_succ, List.foldl_cons, List.foldl_nil, x_killD_n, x_killD_c, x_slOf_f, x_slOf_o, x_slOf_t, x_slOf_k]
  refine hs_seq (hs_setO (x := .list []) (by simp -implicitDefEqProofs only [s0, s1, s2, s3, s4, s5, s6, s7, s8, s9, x_max2, x_int_b, x_int_i, x_tuple_l, startD, List.length_cons, List.length_nil, List.map_cons, List.map_nil, List.cons_append, List.nil_append, Nat.reduceAdd, Nat.reduceSub, List.replicate, List.set_cons_zero, List.set_cons_succ, x_wipe_cons, x_wipe_nil, x_eOp, x_eC, x_eCB, x_aCons, x_aNil, x_bind_ok, x_add_i, x_len_s, x_len_l, x_len_t, x_bOf, x_eTup, x_eFz, x_oLst, x_eCall, x_aName, x_aTup, x_asCons, x_asNil, x_mod, x_div, x_bAnd, x_bOr, x_bNot, x_asB, x_sub_i, x_neg_i, x_toE_d, x_toE_o, x_notDict, if_true, if_false, reduceIte, Int.reduceLT, Int.reduceAdd, Int.reduceSub, Int.reduceMul, Int.reduceNeg, Int.reducePow, rVar, eVar, hVar, List.getElem?_cons_zero, List.getElem?_cons_succ]) ?_)
  simp -implicitDefEqProofs only [startD, List.length_cons, List.length_nil, List.map_cons, List.map_nil, List.cons_append, List.nil_append, Nat.reduceAdd, Nat.reduceSub, List.replicate, List.set_cons_zero, List.set_cons_succ, List.foldl_cons, List.foldl_nil, x_killD_n, x_killD_c, x_slOf_f, x_slOf_o, x_slOf_t, x_slOf_k]
  refine hs_seq (hs_setO (x := .list []) (by simp -implicitDefEqProofs only [s0, s1, s2, s3, s4, s5, s6, s7, s8, s9, x_max2, x_int_b, x_int_i, x_tuple_l, startD, List.length_cons, List.length_nil, List.map_cons, List.map_nil, List.cons_append, List.nil_append, Nat.reduceAdd, Nat.reduceSub, List.replicate, List.set_cons_zero, List.set_cons_succ, x_wipe_cons, x_wipe_nil, x_eOp, x_eC, x_eCB, x_aCons, x_aNil, x_bind_ok, x_add_i, x_len_s, x_len_l, x_len_t, x_bOf, x_eTup, x_eFz, x_oLst, x_eCall, x_aName, x_aTup, x_asCons, x_asNil, x_mod, x_div, x_bAnd, x_bOr, x_bNot, x_asB, x_sub_i, x_neg_i, x_toE_d, x_toE_o, x_notDict, if_true, if_false, reduceIte, Int.reduceLT, Int.reduceAdd, Int.reduceSub, Int.reduceMul, Int.reduceNeg, Int.reducePow, rVar, eVar, hVar, List.getElem?_cons_zero, List.getElem?_cons_succ]) ?_)
  simp -implicitDefEqProofs only [startD, List.length_cons, List.length_nil, List.map_cons, List.map_nil, List.cons_append, List.nil_append, Nat.reduceAdd, Nat.reduceSub, List.replicate, List.set_cons_zero, List.set_cons_succ, List.foldl_cons, List.foldl_nil, x_killD_n, x_killD_c, x_slOf_f, x_slOf_o, x_slOf_t, x_slOf_k]
  refine hs_seq (hs_setO (x := .list []) (by simp -implicitDefEqProofs only [s0, s1, s2, s3, s4, s5, s6, s7, s8, s9, x_max2, x_int_b, x_int_i, x_tuple_l, startD, List.length_cons, List.length_nil, List.map_cons, List.map_nil, List.cons_append, List.nil_append, Nat.reduceAdd, Nat.reduceSub, List.replicate, List.set_cons_zero, List.set_cons_succ, x_wipe_cons, x_wipe_nil, x_eOp, x_eC, x_eCB, x_aCons, x_aNil, x_bind_ok, x_add_i, x_len_s, x_len_l, x_len_t, x_bOf, x_eTup, x_eFz, x_oLst, x_eCall, x_aName, x_aTup, x_asCons, x_asNil, x_mod, x_div, x_bAnd, x_bOr, x_bNot, x_asB, x_sub_i, x_neg_i, x_toE_d, x_toE_o, x_notDict, if_true, if_false, reduceIte, Int.reduceLT, Int.reduceAdd, Int.reduceSub, Int.reduceMul, Int.reduceNeg, Int.reducePow, rVar, eVar, hVar, List.getElem?_cons_zero, List.getElem?_cons_succ]) ?_)
  simp -implicitDefEqProofs only [startD, List.length_cons, List.length_nil, List.map_cons, List.map_nil, List.cons_append, List.nil_append, Nat.reduceAdd, Nat.reduceSub, List.replicate, List.set_cons_zero, List.set_cons_succ, List.foldl_cons, List.foldl_nil, x_killD_n, x_killD_c, x_slOf_f, x_slOf_o, x_slOf_t, x_slOf_k]
  refine hs_seq (hs_pre ?_)
  simp -implicitDefEqProofs only [startD, List.length_cons, List.length_nil, List.map_cons, List.map_nil, List.cons_append, List.nil_append, Nat.reduceAdd, Nat.reduceSub, List.replicate, List.set_cons_zero, List.set_cons_succ, List.foldl_cons, List.foldl_nil, x_killD_n, x_killD_c, x_slOf_f, x_slOf_o, x_slOf_t, x_slOf_k]
  obtain ⟨q, hq, eq⟩ := ixc [1, 2, 3, 2, 1, 3, 2, 0] (m % 8) (by omega) (by simp; omega)
  obtain ⟨N, hN, n3⟩ : ∃ N : Nat, (if q > (if sh = true then (1 : Int) else 0) then q else (if sh = true then (1 : Int) else 0)) = (N : Int) ∧ N ≤ 3 := by
    have q1 : 0 ≤ q ∧ q ≤ 3 := by simp at hq; omega
    refine ⟨(if q > (if sh = true then (1 : Int) else 0) then q else (if sh = true then (1 : Int) else 0)).toNat, ?_, ?_⟩
    · split <;> split <;> omega
    · split <;> split <;> omega
  simp only [List.map_cons, List.map_nil] at eq
  refine hs_rng N (rng_c ?_ (by omega)) (fun i ρ => ∃ ps cl nd, ρ = gSt nm ns at' ws sh ps cl nd ∧ Ps nm ps ∧ Gp nm i ps.length cl nd) ⟨[], [], [], rfl, ⟨Nat.zero_le _, fun p hp => (by cases hp)⟩, ⟨Nat.le_refl _, fun p hp => (by cases hp), Nat.le_refl _, fun p hp => (by cases hp)⟩⟩ (fun i ρ hi hI => ?_) fun ρ hI => ?_
  · simp -implicitDefEqProofs only [s0, s1, s2, s3, s4, s5, s6, s7, s8, s9, x_max2, x_int_b, x_int_i, x_tuple_l, startD, List.length_cons, List.length_nil, List.map_cons, List.map_nil, List.cons_append, List.nil_append, Nat.reduceAdd, Nat.reduceSub, List.replicate, List.set_cons_zero, List.set_cons_succ, x_wipe_cons, x_wipe_nil, x_eOp, x_eC, x_eCB, x_aCons, x_aNil, x_bind_ok, x_add_i, x_len_s, x_len_l, x_len_t, x_bOf, x_eTup, x_eFz, x_oLst, x_eCall, x_aName, x_aTup, x_asCons, x_asNil, x_mod, x_div, x_bAnd, x_bOr, x_bNot, x_asB, x_sub_i, x_neg_i, x_toE_d, x_toE_o, x_notDict, if_true, if_false, reduceIte, Int.reduceLT, Int.reduceAdd, Int.reduceSub, Int.reduceMul, Int.reduceNeg, Int.reducePow, rVar, eVar, hVar, List.getElem?_cons_zero, List.getElem?_cons_succ, em, eq, hN]
  · obtain ⟨ps, cl, nd, rfl, hp, hgp⟩ := hI
    obtain ⟨y, ey, y0, y1⟩ := mix_ok ns (at' + 1 + (i : Int)) hl (by omega) (by omega)
    unfold gSt
    refine ⟨_, rfl, ?_⟩
    simp -implicitDefEqProofs only [startD, List.length_cons, List.length_nil, List.map_cons, List.map_nil, List.cons_append, List.nil_append, Nat.reduceAdd, Nat.reduceSub, List.replicate, List.set_cons_zero, List.set_cons_succ, List.foldl_cons, List.foldl_nil, x_killD_n, x_killD_c, x_slOf_f, x_slOf_o, x_slOf_t, x_slOf_k]
    refine hs_seq (hs_set (x := .int y) ?_ ?_)
    · simp -implicitDefEqProofs only [s0, s1, s2, s3, s4, s5, s6, s7, s8, s9, x_max2, x_int_b, x_int_i, x_tuple_l, startD, List.length_cons, List.length_nil, List.map_cons, List.map_nil, List.cons_append, List.nil_append, Nat.reduceAdd, Nat.reduceSub, List.replicate, List.set_cons_zero, List.set_cons_succ, x_wipe_cons, x_wipe_nil, x_eOp, x_eC, x_eCB, x_aCons, x_aNil, x_bind_ok, x_add_i, x_len_s, x_len_l, x_len_t, x_bOf, x_eTup, x_eFz, x_oLst, x_eCall, x_aName, x_aTup, x_asCons, x_asNil, x_mod, x_div, x_bAnd, x_bOr, x_bNot, x_asB, x_sub_i, x_neg_i, x_toE_d, x_toE_o, x_notDict, if_true, if_false, reduceIte, Int.reduceLT, Int.reduceAdd, Int.reduceSub, Int.reduceMul, Int.reduceNeg, Int.reducePow, rVar, eVar, hVar, List.getElem?_cons_zero, List.getElem?_cons_succ, ey]
    simp -implicitDefEqProofs only [startD, List.length_cons, List.length_nil, List.map_cons, List.map_nil, List.cons_append, List.nil_append, Nat.reduceAdd, Nat.reduceSub, List.replicate, List.set_cons_zero, List.set_cons_succ, List.foldl_cons, List.foldl_nil, x_killD_n, x_killD_c, x_slOf_f, x_slOf_o, x_slOf_t, x_slOf_k]
    obtain ⟨q, hq, eq⟩ := ixc [1, 1, 2, 3] (y / 16 % 4) (by omega) (by simp; omega)
    obtain ⟨Q, rfl, Q1, Q3⟩ : ∃ Q : Nat, q = (Q : Int) ∧ 1 ≤ Q ∧ Q ≤ 3 := ⟨q.toNat, by simp at hq; omega, by simp at hq; omega, by simp at hq; omega⟩
    simp only [List.map_cons, List.map_nil] at eq
    obtain ⟨td, htd⟩ : ∃ td, td = (List.range Q).map fun j : Nat => nm.getD ((y + (j : Int)) % nm.length).toNat eS := ⟨_, rfl⟩
    have tdo : PtOK nm td := by
      subst htd
      refine ⟨fun e => ?_, by rw [List.length_map, List.length_range]; exact Q3, fun z hz => ?_⟩
      · have := congrArg List.length e
        rw [List.length_map, List.length_range] at this
        simp at this
        omega
      · obtain ⟨j, _, rfl⟩ := List.mem_map.mp hz
        have b1 : 0 ≤ (y + (j : Int)) % (nm.length : Int) := Int.emod_nonneg _ (by omega)
        have b2 : (y + (j : Int)) % (nm.length : Int) < nm.length := Int.emod_lt_of_pos _ (by omega)
        rw [getD_at _ _ (by omega)]
        exact List.getElem_mem _
    refine hs_seq (hs_set (x := tS td) ?_ ?_)
    · have e : oLc (iRng1D (aCons (eOp ixD (eFz (oLst (aCons (eC (.int 1)) (aCons (eC (.int 1)) (aCons (eC (.int 2)) (aCons (eC (.int 3)) aNil)))))) (eOp modD (eOp divD (rVar 9) (eC (.int 16))) (eC (.int 4)))) aNil)) (aName 15) gYes (eOp ixD (rVar 4) (eOp modD (eOp addD (rVar 9) (rVar 15)) (eCB lenD (aCons (rVar 4) aNil)))) [15] [some (.d (scr ns)), some (.d (.int at')), some (.d (kD ws)), some (.d (.bool sh)), some (.d (.list (nm.map PyData.str))), some (.o (.list (ps.map tS))), some (.o (.list (cl.map clI))), some (.o (.list (nd.map tI))), some (.d (.int (i : Nat))), some (.d (.int y)), none, none, none, none, none, none, none] = .ok (.list (td.map PyData.str)) := by
        rw [htd, List.map_map]
        refine lc_eq (xs := List.range Q) (fun i => PyData.int (0 + ((i : Nat) : Int))) (PyData.str ∘ fun j : Nat => nm.getD ((y + (j : Int)) % nm.length).toNat eS) (rng_c ?_ (by omega)) (by rw [List.length_range]; exact sz (by omega)) fun j hj => ?_
        · simp -implicitDefEqProofs only [s0, s1, s2, s3, s4, s5, s6, s7, s8, s9, x_max2, x_int_b, x_int_i, x_tuple_l, startD, List.length_cons, List.length_nil, List.map_cons, List.map_nil, List.cons_append, List.nil_append, Nat.reduceAdd, Nat.reduceSub, List.replicate, List.set_cons_zero, List.set_cons_succ, x_wipe_cons, x_wipe_nil, x_eOp, x_eC, x_eCB, x_aCons, x_aNil, x_bind_ok, x_add_i, x_len_s, x_len_l, x_len_t, x_bOf, x_eTup, x_eFz, x_oLst, x_eCall, x_aName, x_aTup, x_asCons, x_asNil, x_mod, x_div, x_bAnd, x_bOr, x_bNot, x_asB, x_sub_i, x_neg_i, x_toE_d, x_toE_o, x_notDict, if_true, if_false, reduceIte, Int.reduceLT, Int.reduceAdd, Int.reduceSub, Int.reduceMul, Int.reduceNeg, Int.reducePow, rVar, eVar, hVar, List.getElem?_cons_zero, List.getElem?_cons_succ, eq]
        · refine ⟨_, rfl, ?_⟩
          have b1 : 0 ≤ (y + (j : Int)) % (nm.length : Int) := Int.emod_nonneg _ (by omega)
          have b2 : (y + (j : Int)) % (nm.length : Int) < nm.length := Int.emod_lt_of_pos _ (by omega)
          obtain ⟨x, hx', hx, ex⟩ := ix_list nm PyData.str _ b1 b2
          simp -implicitDefEqProofs only [s0, s1, s2, s3, s4, s5, s6, s7, s8, s9, x_max2, x_int_b, x_int_i, x_tuple_l, startD, List.length_cons, List.length_nil, List.map_cons, List.map_nil, List.cons_append, List.nil_append, Nat.reduceAdd, Nat.reduceSub, List.replicate, List.set_cons_zero, List.set_cons_succ, x_wipe_cons, x_wipe_nil, x_eOp, x_eC, x_eCB, x_aCons, x_aNil, x_bind_ok, x_add_i, x_len_s, x_len_l, x_len_t, x_bOf, x_eTup, x_eFz, x_oLst, x_eCall, x_aName, x_aTup, x_asCons, x_asNil, x_mod, x_div, x_bAnd, x_bOr, x_bNot, x_asB, x_sub_i, x_neg_i, x_toE_d, x_toE_o, x_notDict, if_true, if_false, reduceIte, Int.reduceLT, Int.reduceAdd, Int.reduceSub, Int.reduceMul, Int.reduceNeg, Int.reducePow, rVar, eVar, hVar, List.getElem?_cons_zero, List.getElem?_cons_succ, Int.zero_add, List.length_map]
          rw [x_mod _ _ (by omega), x_bind_ok, ex, hx, Function.comp_apply, getD_at _ _ hx']
      simp -implicitDefEqProofs only [s0, s1, s2, s3, s4, s5, s6, s7, s8, s9, x_max2, x_int_b, x_int_i, x_tuple_l, startD, List.length_cons, List.length_nil, List.map_cons, List.map_nil, List.cons_append, List.nil_append, Nat.reduceAdd, Nat.reduceSub, List.replicate, List.set_cons_zero, List.set_cons_succ, x_wipe_cons, x_wipe_nil, x_eOp, x_eC, x_eCB, x_aCons, x_aNil, x_bind_ok, x_add_i, x_len_s, x_len_l, x_len_t, x_bOf, x_eTup, x_eFz, x_oLst, x_eCall, x_aName, x_aTup, x_asCons, x_asNil, x_mod, x_div, x_bAnd, x_bOr, x_bNot, x_asB, x_sub_i, x_neg_i, x_toE_d, x_toE_o, x_notDict, if_true, if_false, reduceIte, Int.reduceLT, Int.reduceAdd, Int.reduceSub, Int.reduceMul, Int.reduceNeg, Int.reducePow, rVar, eVar, hVar, List.getElem?_cons_zero, List.getElem?_cons_succ, e]
      rfl
    simp -implicitDefEqProofs only [startD, List.length_cons, List.length_nil, List.map_cons, List.map_nil, List.cons_append, List.nil_append, Nat.reduceAdd, Nat.reduceSub, List.replicate, List.set_cons_zero, List.set_cons_succ, List.foldl_cons, List.foldl_nil, x_killD_n, x_killD_c, x_slOf_f, x_slOf_o, x_slOf_t, x_slOf_k]
    obtain ⟨u, hu, eu⟩ := ixc [1, 1, 1, 2] (y / 64 % 4) (by omega) (by simp; omega)
    obtain ⟨M, rfl, M1, M2⟩ : ∃ M : Nat, u = (M : Int) ∧ 1 ≤ M ∧ M ≤ 2 := ⟨u.toNat, by simp at hu; omega, by simp at hu; omega, by simp at hu; omega⟩
    simp only [List.map_cons, List.map_nil] at eu
    refine hs_seq (hs_set (x := .int (M : Nat)) ?_ ?_)
    · simp -implicitDefEqProofs only [s0, s1, s2, s3, s4, s5, s6, s7, s8, s9, x_max2, x_int_b, x_int_i, x_tuple_l, startD, List.length_cons, List.length_nil, List.map_cons, List.map_nil, List.cons_append, List.nil_append, Nat.reduceAdd, Nat.reduceSub, List.replicate, List.set_cons_zero, List.set_cons_succ, x_wipe_cons, x_wipe_nil, x_eOp, x_eC, x_eCB, x_aCons, x_aNil, x_bind_ok, x_add_i, x_len_s, x_len_l, x_len_t, x_bOf, x_eTup, x_eFz, x_oLst, x_eCall, x_aName, x_aTup, x_asCons, x_asNil, x_mod, x_div, x_bAnd, x_bOr, x_bNot, x_asB, x_sub_i, x_neg_i, x_toE_d, x_toE_o, x_notDict, if_true, if_false, reduceIte, Int.reduceLT, Int.reduceAdd, Int.reduceSub, Int.reduceMul, Int.reduceNeg, Int.reducePow, rVar, eVar, hVar, List.getElem?_cons_zero, List.getElem?_cons_succ, eu]
    simp -implicitDefEqProofs only [startD, List.length_cons, List.length_nil, List.map_cons, List.map_nil, List.cons_append, List.nil_append, Nat.reduceAdd, Nat.reduceSub, List.replicate, List.set_cons_zero, List.set_cons_succ, List.foldl_cons, List.foldl_nil, x_killD_n, x_killD_c, x_slOf_f, x_slOf_o, x_slOf_t, x_slOf_k]
    by_cases c4 : 4 < ps.length + M
    · refine hs_seq (hs_if (c := true) ?_ (fun _ => ?_) (fun q => by cases q))
      · have : (4 : Int) < (ps.length : Int) + (M : Int) := by omega
        simp [rVar, this]
      · exact hs_ct ⟨ps, cl, nd, rfl, hp, hgp.up (by omega) (Nat.le_refl _)⟩
    refine hs_seq (hs_if (c := false) ?_ (fun q => by cases q) (fun _ => ?_))
    · have : ¬ (4 : Int) < (ps.length : Int) + (M : Int) := by omega
      simp [rVar, this]
    refine hs_next ?_
    have nn : rngD (ps.length : Int) M = ((List.range M).map fun j : Nat => (ps.length : Int) + (j : Int)).map PyData.int := by unfold rngD; rw [List.map_map]; rfl
    obtain ⟨nu, hnu⟩ : ∃ nu, nu = (List.range M).map fun j : Nat => (ps.length : Int) + (j : Int) := ⟨_, rfl⟩
    rw [← hnu] at nn
    have nuo : NmOK (ps.length + M) nu := by
      subst hnu
      refine ⟨by rw [List.length_map, List.length_range]; exact M2, fun z hz => ?_⟩
      obtain ⟨j, hj, rfl⟩ := List.mem_map.mp hz
      have := List.mem_range.mp hj
      exact ⟨by omega, by omega⟩
    refine hs_seq (hs_set (x := tI nu) ?_ ?_)
    · have ok : rgOk (ps.length : Int) ((ps.length : Int) + (M : Int)) = true := by
        have := hp.p1
        unfold rgOk
        simp
        omega
      have tn : ((ps.length : Int) + (M : Int) - (ps.length : Int)).toNat = M := by omega
      simp -implicitDefEqProofs only [s0, s1, s2, s3, s4, s5, s6, s7, s8, s9, x_max2, x_int_b, x_int_i, x_tuple_l, startD, List.length_cons, List.length_nil, List.map_cons, List.map_nil, List.cons_append, List.nil_append, Nat.reduceAdd, Nat.reduceSub, List.replicate, List.set_cons_zero, List.set_cons_succ, x_wipe_cons, x_wipe_nil, x_eOp, x_eC, x_eCB, x_aCons, x_aNil, x_bind_ok, x_add_i, x_len_s, x_len_l, x_len_t, x_bOf, x_eTup, x_eFz, x_oLst, x_eCall, x_aName, x_aTup, x_asCons, x_asNil, x_mod, x_div, x_bAnd, x_bOr, x_bNot, x_asB, x_sub_i, x_neg_i, x_toE_d, x_toE_o, x_notDict, if_true, if_false, reduceIte, Int.reduceLT, Int.reduceAdd, Int.reduceSub, Int.reduceMul, Int.reduceNeg, Int.reducePow, rVar, eVar, hVar, List.getElem?_cons_zero, List.getElem?_cons_succ, List.length_map, x_rgT, ok, tn, nn]
      rfl
    simp -implicitDefEqProofs only [startD, List.length_cons, List.length_nil, List.map_cons, List.map_nil, List.cons_append, List.nil_append, Nat.reduceAdd, Nat.reduceSub, List.replicate, List.set_cons_zero, List.set_cons_succ, List.foldl_cons, List.foldl_nil, x_killD_n, x_killD_c, x_slOf_f, x_slOf_o, x_slOf_t, x_slOf_k]
    refine hs_cut (P := fun ρ => ∃ cl', ρ = [some (.d (scr ns)), some (.d (.int at')), some (.d (kD ws)), some (.d (.bool sh)), some (.d (.list (nm.map PyData.str))), some (.o (.list (ps.map tS))), some (.o (.list (cl'.map clI))), some (.o (.list (nd.map tI))), some (.d (.int (i : Nat))), some (.d (.int y)), some (.d (tS td)), some (.d (.int (M : Nat))), some (.d (tI nu)), none, none, none, none] ∧ Gp nm (i + 1) (ps.length + M) cl' nd) ?_ ?_
    · have g2 : Gp nm (i + 1) (ps.length + M) cl nd := hgp.up (by omega) (by omega)
      refine hs_ifX (xOr (xEqI (i := y / 256 % 3) (j := 0) (by simp -implicitDefEqProofs only [s0, s1, s2, s3, s4, s5, s6, s7, s8, s9, x_max2, x_int_b, x_int_i, x_tuple_l, startD, List.length_cons, List.length_nil, List.map_cons, List.map_nil, List.cons_append, List.nil_append, Nat.reduceAdd, Nat.reduceSub, List.replicate, List.set_cons_zero, List.set_cons_succ, x_wipe_cons, x_wipe_nil, x_eOp, x_eC, x_eCB, x_aCons, x_aNil, x_bind_ok, x_add_i, x_len_s, x_len_l, x_len_t, x_bOf, x_eTup, x_eFz, x_oLst, x_eCall, x_aName, x_aTup, x_asCons, x_asNil, x_mod, x_div, x_bAnd, x_bOr, x_bNot, x_asB, x_sub_i, x_neg_i, x_toE_d, x_toE_o, x_notDict, if_true, if_false, reduceIte, Int.reduceLT, Int.reduceAdd, Int.reduceSub, Int.reduceMul, Int.reduceNeg, Int.reducePow, rVar, eVar, hVar, List.getElem?_cons_zero, List.getElem?_cons_succ]) rfl) (xAnd (xOf ⟨sh, rfl⟩) (xEqI rfl rfl))) ?_ (hs_next ⟨cl, rfl, g2⟩)
      refine hs_app (ds := cl.map clI) (x := clI (td, nu)) rfl ?_ (by rw [List.length_map]; exact szl (by have := hgp.c1; omega)) ⟨cl ++ [(td, nu)], ?_, ?_⟩
      · simp -implicitDefEqProofs only [s0, s1, s2, s3, s4, s5, s6, s7, s8, s9, x_max2, x_int_b, x_int_i, x_tuple_l, startD, List.length_cons, List.length_nil, List.map_cons, List.map_nil, List.cons_append, List.nil_append, Nat.reduceAdd, Nat.reduceSub, List.replicate, List.set_cons_zero, List.set_cons_succ, x_wipe_cons, x_wipe_nil, x_eOp, x_eC, x_eCB, x_aCons, x_aNil, x_bind_ok, x_add_i, x_len_s, x_len_l, x_len_t, x_bOf, x_eTup, x_eFz, x_oLst, x_eCall, x_aName, x_aTup, x_asCons, x_asNil, x_mod, x_div, x_bAnd, x_bOr, x_bNot, x_asB, x_sub_i, x_neg_i, x_toE_d, x_toE_o, x_notDict, if_true, if_false, reduceIte, Int.reduceLT, Int.reduceAdd, Int.reduceSub, Int.reduceMul, Int.reduceNeg, Int.reducePow, rVar, eVar, hVar, List.getElem?_cons_zero, List.getElem?_cons_succ]
        rfl
      · rw [List.map_append]
        rfl
      · refine ⟨by rw [List.length_append, List.length_singleton]; have := hgp.c1; omega, fun c hc => ?_, g2.n1, g2.n2⟩
        rcases List.mem_append.mp hc with h | h
        · exact g2.c2 c h
        · rw [List.mem_singleton.mp h]
          exact ⟨tdo, nuo⟩
    rintro _ ⟨cl', rfl, hcl⟩
    refine hs_cut (P := fun ρ => ∃ nd', ρ = [some (.d (scr ns)), some (.d (.int at')), some (.d (kD ws)), some (.d (.bool sh)), some (.d (.list (nm.map PyData.str))), some (.o (.list (ps.map tS))), some (.o (.list (cl'.map clI))), some (.o (.list (nd'.map tI))), some (.d (.int (i : Nat))), some (.d (.int y)), some (.d (tS td)), some (.d (.int (M : Nat))), some (.d (tI nu)), none, none, none, none] ∧ Gp nm (i + 1) (ps.length + M) cl' nd') ?_ ?_
    · refine hs_ifX (xOf ?_) ?_ (hs_next ⟨nd, rfl, hcl⟩)
      · have e1 : ∀ up : Str, oLc (iItems (eVar 10)) (aName 16) gYes (eOp inD (rVar 14) (eCall 2 d_law_uppers (aCons (eVar 2) (aCons (eVar 16) aNil)))) [16] [some (.d (scr ns)), some (.d (.int at')), some (.d (kD ws)), some (.d (.bool sh)), some (.d (.list (nm.map PyData.str))), some (.o (.list (ps.map tS))), some (.o (.list (cl'.map clI))), some (.o (.list (nd.map tI))), some (.d (.int (i : Nat))), some (.d (.int y)), some (.d (tS td)), some (.d (.int (M : Nat))), some (.d (tI nu)), none, some (.d (.str up)), none, none] = .ok (.list ((td.map fun one => decide (up ∈ one :: chR ws.reverse one)).map PyData.bool)) := fun up => by
          rw [List.map_map]
          refine lc_eq (xs := td) PyData.str (PyData.bool ∘ fun one => decide (up ∈ one :: chR ws.reverse one)) rfl (sz (by have := tdo.2.1; omega)) fun one h1 => ?_
          refine ⟨_, rfl, ?_⟩
          exact in_strs (l := one :: chR ws.reverse one) rfl (call2o rfl rfl (law_uppers ws one (by omega)))
        have e2 : oLc (iItems (eVar 4)) (aName 14) gYes (eCB allD (aCons (eFz (oLc (iItems (eVar 10)) (aName 16) gYes (eOp inD (rVar 14) (eCall 2 d_law_uppers (aCons (eVar 2) (aCons (eVar 16) aNil)))) [16])) aNil)) [14] [some (.d (scr ns)), some (.d (.int at')), some (.d (kD ws)), some (.d (.bool sh)), some (.d (.list (nm.map PyData.str))), some (.o (.list (ps.map tS))), some (.o (.list (cl'.map clI))), some (.o (.list (nd.map tI))), some (.d (.int (i : Nat))), some (.d (.int y)), some (.d (tS td)), some (.d (.int (M : Nat))), some (.d (tI nu)), none, none, none, none] = .ok (.list ((nm.map fun up => (td.map fun one => decide (up ∈ one :: chR ws.reverse one)).all id).map PyData.bool)) := by
          rw [List.map_map (l := nm)]
          refine lc_eq (xs := nm) PyData.str (PyData.bool ∘ fun up => (td.map fun one => decide (up ∈ one :: chR ws.reverse one)).all id) rfl (sz (by omega)) fun up h1 => ?_
          refine ⟨_, rfl, ?_⟩
          have e1 := e1 up
          show eCB allD _ [some (.d (scr ns)), some (.d (.int at')), some (.d (kD ws)), some (.d (.bool sh)), some (.d (.list (nm.map PyData.str))), some (.o (.list (ps.map tS))), some (.o (.list (cl'.map clI))), some (.o (.list (nd.map tI))), some (.d (.int (i : Nat))), some (.d (.int y)), some (.d (tS td)), some (.d (.int (M : Nat))), some (.d (tI nu)), none, some (.d (.str up)), none, none] = _
          rw [x_eCB, x_aCons, x_eFz, e1, x_bind_ok, x_notDict, x_bind_ok, x_aNil, x_bind_ok, x_bind_ok, x_all]
          rfl
        refine ⟨(nm.map fun up => (td.map fun one => decide (up ∈ one :: chR ws.reverse one)).all id).any id, ?_⟩
        rw [x_eCB, x_aCons, x_eFz, e2, x_bind_ok, x_notDict, x_bind_ok, x_aNil, x_bind_ok, x_bind_ok, x_any]
      · refine hs_app (ds := nd.map tI) (x := tI nu) rfl rfl (by rw [List.length_map]; exact szl (by have := hgp.n1; omega)) ⟨nd ++ [nu], ?_, ?_⟩
        · rw [List.map_append]
          rfl
        · refine ⟨hcl.c1, hcl.c2, by rw [List.length_append, List.length_singleton]; have := hgp.n1; omega, fun c hc => ?_⟩
          rcases List.mem_append.mp hc with h | h
          · exact hcl.n2 c h
          · rw [List.mem_singleton.mp h]
            exact nuo
    rintro _ ⟨nd', rfl, hnd⟩
    have fin : HS (sExtend 5 (eFz (eOp repL (oLst (aCons (eVar 10) aNil)) (rVar 11)))) [some (.d (scr ns)), some (.d (.int at')), some (.d (kD ws)), some (.d (.bool sh)), some (.d (.list (nm.map PyData.str))), some (.o (.list (ps.map tS))), some (.o (.list (cl'.map clI))), some (.o (.list (nd'.map tI))), some (.d (.int (i : Nat))), some (.d (.int y)), some (.d (tS td)), some (.d (.int (M : Nat))), some (.d (tI nu)), none, none, none, none] (fun ρ => ρ = [some (.d (scr ns)), some (.d (.int at')), some (.d (kD ws)), some (.d (.bool sh)), some (.d (.list (nm.map PyData.str))), some (.o (.list ((ps ++ List.replicate M td).map tS))), some (.o (.list (cl'.map clI))), some (.o (.list (nd'.map tI))), some (.d (.int (i : Nat))), some (.d (.int y)), some (.d (tS td)), some (.d (.int (M : Nat))), some (.d (tI nu)), none, none, none, none]) (gQ nm) (fun ρ => False) := by
      have ec : -(2 ^ 63) ≤ (M : Int) ∧ (M : Int) < 2 ^ 63 ∧ [tS td].length * (M : Int).toNat ≤ sizeLine := ⟨by omega, by omega, sz (by simp; omega)⟩
      have e : eFz (eOp repL (oLst (aCons (eVar 10) aNil)) (rVar 11)) [some (.d (scr ns)), some (.d (.int at')), some (.d (kD ws)), some (.d (.bool sh)), some (.d (.list (nm.map PyData.str))), some (.o (.list (ps.map tS))), some (.o (.list (cl'.map clI))), some (.o (.list (nd'.map tI))), some (.d (.int (i : Nat))), some (.d (.int y)), some (.d (tS td)), some (.d (.int (M : Nat))), some (.d (tI nu)), none, none, none, none] = .ok (.list (List.replicate M (tS td))) := by
        simp -implicitDefEqProofs only [s0, s1, s2, s3, s4, s5, s6, s7, s8, s9, x_max2, x_int_b, x_int_i, x_tuple_l, startD, List.length_cons, List.length_nil, List.map_cons, List.map_nil, List.cons_append, List.nil_append, Nat.reduceAdd, Nat.reduceSub, List.replicate, List.set_cons_zero, List.set_cons_succ, x_wipe_cons, x_wipe_nil, x_eOp, x_eC, x_eCB, x_aCons, x_aNil, x_bind_ok, x_add_i, x_len_s, x_len_l, x_len_t, x_bOf, x_eTup, x_eFz, x_oLst, x_eCall, x_aName, x_aTup, x_asCons, x_asNil, x_mod, x_div, x_bAnd, x_bOr, x_bNot, x_asB, x_sub_i, x_neg_i, x_toE_d, x_toE_o, x_notDict, if_true, if_false, reduceIte, Int.reduceLT, Int.reduceAdd, Int.reduceSub, Int.reduceMul, Int.reduceNeg, Int.reducePow, rVar, eVar, hVar, List.getElem?_cons_zero, List.getElem?_cons_succ]
        rw [x_repL, if_pos ec, x_bind_ok, x_notDict, Int.toNat_natCast, List.flatten_replicate_singleton]
      refine hs_ext (ds := ps.map tS) (es := List.replicate M (tS td)) rfl e (sz (by rw [List.length_map, List.length_replicate]; have := hp.p1; omega)) ?_
      rw [List.map_append, List.map_replicate]
      rfl
    refine hs_mono fin (fun ρ h => ?_) (fun x h => h) (fun ρ h => h.elim)
    subst h
    refine ⟨ps ++ List.replicate M td, cl', nd', rfl, ⟨by rw [List.length_append, List.length_replicate]; omega, fun p h => ?_⟩, by rw [List.length_append, List.length_replicate]; exact hnd⟩
    rcases List.mem_append.mp h with h | h
    · exact hp.p2 p h
    · rw [(List.mem_replicate.mp h).2]
      exact tdo
  · obtain ⟨ps, cl, nd, rfl, hp, hgp⟩ := hI
    exact hs_retM rfl ⟨ps, cl, nd, rfl, hp, hgp.up n3 (Nat.le_refl _)⟩
end K16
namespace K16
open PySem L2 DL
def oI : Option Int → PD
  | none => .none
  | some i => .int i
theorem pow9 : powD (.int 10) (.int 9) = .ok (.int 1000000000) := by
  show (if powB 10 9 = true then R.ok (PyData.int ((10 : Int) ^ (9 : Int).toNat)) else R.bad) = _
  rw [if_pos (by decide +kernel)]
  rfl
theorem pow19 : powD (.int 10) (.int 19) = .ok (.int 10000000000000000000) := by
  show (if powB 10 19 = true then R.ok (PyData.int ((10 : Int) ^ (19 : Int).toNat)) else R.bad) = _
  rw [if_pos (by decide +kernel)]
  rfl
theorem ixm (l : List PD) (i : Int) (h0 : 0 ≤ i) (h1 : i < l.length) : ∃ x ∈ l, ixD (.list l) (.int i) = .ok x := by
  obtain ⟨x, h, hx, e⟩ := ix_list l id i h0 h1
  rw [List.map_id] at e
  exact ⟨x, by rw [hx]; exact List.getElem_mem h, e⟩
def bQ (x : Sl) : Prop := ∃ lo hi : Option Int, x = .d (.tuple [oI lo, oI hi]) ∧ (lo ≠ none ∨ hi ≠ none)
theorem bounds_ok (n : Int) : ∃ x, d_law_bounds [.int n] = .rt x ∧ bQ x := by
  refine hs_run (n := 2) (s := S_law_bounds) (ds := [.int n]) (Q := bQ) ?_
  unfold S_law_bounds
  simp -implicitDefEqProofs only [startD, List.length_cons, List.length_nil, List.map_cons, List.map_nil, List.cons_append, List.nil_append, Nat.reduceAdd, Nat.reduceSub, List.replicate, List.set_cons_zero, List.set_cons_succ, List.foldl_cons, List.foldl_nil, x_killD_n, x_killD_c, x_slOf_f, x_slOf_o, x_slOf_t, x_slOf_k]
  refine hs_seq (hs_set (x := .int (n / 64 % 6 - 2)) (by simp -implicitDefEqProofs only [s0, s1, s2, s3, s4, s5, s6, s7, s8, s9, x_max2, x_int_b, x_int_i, x_tuple_l, startD, List.length_cons, List.length_nil, List.map_cons, List.map_nil, List.cons_append, List.nil_append, Nat.reduceAdd, Nat.reduceSub, List.replicate, List.set_cons_zero, List.set_cons_succ, x_wipe_cons, x_wipe_nil, x_eOp, x_eC, x_eCB, x_aCons, x_aNil, x_bind_ok, x_add_i, x_len_s, x_len_l, x_len_t, x_bOf, x_eTup, x_eFz, x_oLst, x_eCall, x_aName, x_aTup, x_asCons, x_asNil, x_mod, x_div, x_bAnd, x_bOr, x_bNot, x_asB, x_sub_i, x_neg_i, x_toE_d, x_toE_o, x_notDict, if_true, if_false, reduceIte, Int.reduceLT, Int.reduceAdd, Int.reduceSub, Int.reduceMul, Int.reduceNeg, Int.reducePow, rVar, eVar, hVar, List.getElem?_cons_zero, List.getElem?_cons_succ]) ?_)
  simp -implicitDefEqProofs only [startD, List.length_cons, List.length_nil, List.map_cons, List.map_nil, List.cons_append, List.nil_append, Nat.reduceAdd, Nat.reduceSub, List.replicate, List.set_cons_zero, List.set_cons_succ, List.foldl_cons, List.foldl_nil, x_killD_n, x_killD_c, x_slOf_f, x_slOf_o, x_slOf_t, x_slOf_k]
  have last : ∀ low : Int, HS (sRet (eOp ixD (eFz (oLst (aCons (eTup (aCons (eC .none) (aCons (eVar 1) aNil))) (aCons (eTup (aCons (eVar 1) (aCons (eC .none) aNil))) (aCons (eTup (aCons (eVar 1) (aCons (eOp addD (rVar 1) (eOp modD (eOp divD (rVar 0) (eC (.int 512))) (eC (.int 4)))) aNil))) aNil))))) (eOp modD (eOp divD (rVar 0) (eC (.int 8))) (eC (.int 3))))) [some (.d (.int n)), some (.d (.int low))] (fun _ => bQ (.d .none)) bQ (fun _ => False) := fun low => by
    obtain ⟨x, hx, e⟩ := ixm [.tuple [.none, .int low], .tuple [.int low, .none], .tuple [.int low, .int (low + n / 512 % 4)]] (n / 8 % 3) (by omega) (by simp; omega)
    refine hs_ret (x := x) (by simp -implicitDefEqProofs only [s0, s1, s2, s3, s4, s5, s6, s7, s8, s9, x_max2, x_int_b, x_int_i, x_tuple_l, startD, List.length_cons, List.length_nil, List.map_cons, List.map_nil, List.cons_append, List.nil_append, Nat.reduceAdd, Nat.reduceSub, List.replicate, List.set_cons_zero, List.set_cons_succ, x_wipe_cons, x_wipe_nil, x_eOp, x_eC, x_eCB, x_aCons, x_aNil, x_bind_ok, x_add_i, x_len_s, x_len_l, x_len_t, x_bOf, x_eTup, x_eFz, x_oLst, x_eCall, x_aName, x_aTup, x_asCons, x_asNil, x_mod, x_div, x_bAnd, x_bOr, x_bNot, x_asB, x_sub_i, x_neg_i, x_toE_d, x_toE_o, x_notDict, if_true, if_false, reduceIte, Int.reduceLT, Int.reduceAdd, Int.reduceSub, Int.reduceMul, Int.reduceNeg, Int.reducePow, rVar, eVar, hVar, List.getElem?_cons_zero, List.getElem?_cons_succ, e]) ?_
    rcases List.mem_cons.mp hx with h | hx
    · exact ⟨none, some low, by rw [h]; rfl, .inr (by intro q; cases q)⟩
    rcases List.mem_cons.mp hx with h | hx
    · exact ⟨some low, none, by rw [h]; rfl, .inl (by intro q; cases q)⟩
    rcases List.mem_cons.mp hx with h | hx
    · exact ⟨some low, some (low + n / 512 % 4), by rw [h]; rfl, .inl (by intro q; cases q)⟩
    cases hx
  refine hs_seq (hs_ifX (xEqI (i := n / 4096 % 7) (j := 0) (by simp -implicitDefEqProofs only [s0, s1, s2, s3, s4, s5, s6, s7, s8, s9, x_max2, x_int_b, x_int_i, x_tuple_l, startD, List.length_cons, List.length_nil, List.map_cons, List.map_nil, List.cons_append, List.nil_append, Nat.reduceAdd, Nat.reduceSub, List.replicate, List.set_cons_zero, List.set_cons_succ, x_wipe_cons, x_wipe_nil, x_eOp, x_eC, x_eCB, x_aCons, x_aNil, x_bind_ok, x_add_i, x_len_s, x_len_l, x_len_t, x_bOf, x_eTup, x_eFz, x_oLst, x_eCall, x_aName, x_aTup, x_asCons, x_asNil, x_mod, x_div, x_bAnd, x_bOr, x_bNot, x_asB, x_sub_i, x_neg_i, x_toE_d, x_toE_o, x_notDict, if_true, if_false, reduceIte, Int.reduceLT, Int.reduceAdd, Int.reduceSub, Int.reduceMul, Int.reduceNeg, Int.reducePow, rVar, eVar, hVar, List.getElem?_cons_zero, List.getElem?_cons_succ]) rfl) ?_ (hs_next (last _)))
  refine hs_set (x := .int ((n - 1000000000) * 10000000000000000000)) ?_ ?_
  · simp -implicitDefEqProofs only [s0, s1, s2, s3, s4, s5, s6, s7, s8, s9, x_max2, x_int_b, x_int_i, x_tuple_l, startD, List.length_cons, List.length_nil, List.map_cons, List.map_nil, List.cons_append, List.nil_append, Nat.reduceAdd, Nat.reduceSub, List.replicate, List.set_cons_zero, List.set_cons_succ, x_wipe_cons, x_wipe_nil, x_eOp, x_eC, x_eCB, x_aCons, x_aNil, x_bind_ok, x_add_i, x_len_s, x_len_l, x_len_t, x_bOf, x_eTup, x_eFz, x_oLst, x_eCall, x_aName, x_aTup, x_asCons, x_asNil, x_mod, x_div, x_bAnd, x_bOr, x_bNot, x_asB, x_sub_i, x_neg_i, x_toE_d, x_toE_o, x_notDict, if_true, if_false, reduceIte, Int.reduceLT, Int.reduceAdd, Int.reduceSub, Int.reduceMul, Int.reduceNeg, Int.reducePow, rVar, eVar, hVar, List.getElem?_cons_zero, List.getElem?_cons_succ, pow9, pow19]
    rw [x_mul_r _ _ (by decide) (by decide)]
  simp -implicitDefEqProofs only [startD, List.length_cons, List.length_nil, List.map_cons, List.map_nil, List.cons_append, List.nil_append, Nat.reduceAdd, Nat.reduceSub, List.replicate, List.set_cons_zero, List.set_cons_succ, List.foldl_cons, List.foldl_nil, x_killD_n, x_killD_c, x_slOf_f, x_slOf_o, x_slOf_t, x_slOf_k]
  exact last _
/-! ### a reading -/
def wD (a b c : List Str) : PD := .tuple [.list (a.map PyData.str), .list (b.map PyData.str), .list (c.map PyData.str)]
theorem wD0 (a b c : List Str) : ixD (wD a b c) (.int 0) = .ok (.list (a.map PyData.str)) := x_ix_t _ _ _ (by decide) rfl
theorem wD1 (a b c : List Str) : ixD (wD a b c) (.int 1) = .ok (.list (b.map PyData.str)) := x_ix_t _ _ _ (by decide) rfl
theorem wD2 (a b c : List Str) : ixD (wD a b c) (.int 2) = .ok (.list (c.map PyData.str)) := x_ix_t _ _ _ (by decide) rfl
def jnI (j : Str × Int × Int) : PD := .tuple [.str j.1, .int j.2.1, .int j.2.2]
def szI (s : Int × Str × Option Int × Option Int) : PD := .tuple [.int s.1, .str s.2.1, oI s.2.2.1, oI s.2.2.2]
def stI (s : Str × Int) : PD := .tuple [.str s.1, .int s.2]
structure Rd where
  ps : List (List Str)
  cl : List (List Str × List Int)
  js : List (Str × Int × Int)
  sz : List (Int × Str × Option Int × Option Int)
  st : List (Str × Int)
def rdD (r : Rd) : PD := .tuple [.list (r.ps.map tS), .list (r.cl.map clI), .list (r.js.map jnI), .list (r.sz.map szI), .list (r.st.map stI)]
structure RdOK (nm : List Str) (r : Rd) : Prop where
  p : Ps nm r.ps
  c : r.cl.length ≤ 3 ∧ ∀ c ∈ r.cl, PtOK nm c.1 ∧ NmOK r.ps.length c.2
  j : r.js.length ≤ 4 ∧ ∀ j ∈ r.js, ((0 ≤ j.2.1 ∧ j.2.1 < r.ps.length) ∧ 0 ≤ j.2.2 ∧ j.2.2 < r.ps.length) ∧ okS j.1
  z : r.sz.length ≤ 4 ∧ ∀ s ∈ r.sz, (0 ≤ s.1 ∧ s.1 < r.ps.length) ∧ (s.2.2.1 ≠ none ∨ s.2.2.2 ≠ none) ∧ okS s.2.1
  s : r.st.length ≤ 8 ∧ ∀ s ∈ r.st, (0 ≤ s.2 ∧ s.2 < r.ps.length) ∧ okS s.1
def kJ (j : Str × Int × Int) : List Key := [.inr j.1, .inl j.2.1, .inl j.2.2]
def kZ (s : Int × Str) : List Key := [.inl s.1, .inr s.2]
structure RI (n k : Nat) (J S : List (List Key × PD)) (T : List (Str × Int)) : Prop where
  j : J.length ≤ k ∧ ∀ p ∈ J, ∃ y : Str × Int × Int, p.1 = kJ y ∧ ((0 ≤ y.2.1 ∧ y.2.1 < n) ∧ 0 ≤ y.2.2 ∧ y.2.2 < n) ∧ okS y.1
  z : S.length ≤ k ∧ ∀ p ∈ S, ∃ y : Int × Str, p.1 = kZ y ∧ ((0 ≤ y.1 ∧ y.1 < n) ∧ okS y.2) ∧ ∃ lo hi : Option Int, p.2 = .tuple [oI lo, oI hi] ∧ (lo ≠ none ∨ hi ≠ none)
  t : T.length ≤ 2 * k ∧ ∀ s ∈ T, (0 ≤ s.2 ∧ s.2 < n) ∧ okS s.1
theorem RI.up {n k k' : Nat} {J S : List (List Key × PD)} {T : List (Str × Int)} (h : RI n k J S T) (a : k ≤ k') : RI n k' J S T := ⟨⟨Nat.le_trans h.j.1 a, h.j.2⟩, ⟨Nat.le_trans h.z.1 a, h.z.2⟩, ⟨Nat.le_trans h.t.1 (by omega), h.t.2⟩⟩
end K16
namespace K16
open PySem L2 DL
section
variable (ns : List Int) (at' : Int) (ws : Ks) (nm : List Str) (a b c : List Str) (sh : Bool)
def rSt (ps : List (List Str)) (cl : List (List Str × List Int)) (nd : List (List Int)) (J S : List (List Key × PD)) (T : List (Str × Int)) (x11 x12 z : Option Sl) : Rho :=
  [some (.d (scr ns)), some (.d (.int at')), some (.d (kD ws)), some (.d (wD a b c)), some (.d (.bool sh)), some (.o (.list (ps.map tS))), some (.o (.list (cl.map clI))), some (.o (.list (nd.map tI))), some (.t (.dT J)), some (.t (.dT S)), some (.o (.list (T.map stI))), x11, x12, z, none, none]
def rQ (nm : List Str) (x : Sl) : Prop := ∃ r, x = .d (rdD r) ∧ RdOK nm r
variable {ns at' ws nm a b c sh}
/-- what a part is changed to -/
theorem low_ok (gk : GK ws) (hnm : ws.map (·.1) = nm) (z : Str) (hz : z ∈ nm) : ∃ l : List Str, d_law_lowers [kD ws, .str z] = .rt (.o (.list (l.map PyData.str))) ∧ l ≠ [] ∧ l.length ≤ 8 ∧ ∀ y ∈ l, y ∈ nm := by
  refine ⟨(ws.filter fun p => decide (z ∈ p.1 :: chR ws.reverse p.1)).map (·.1), ?_, ?_, ?_, ?_⟩
  · rw [law_lowers ws z (by have := gk.2.2.1; omega), List.map_map]
    rfl
  · rw [← hnm] at hz
    obtain ⟨p, hp, rfl⟩ := List.mem_map.mp hz
    intro e
    have : p.1 ∈ (ws.filter fun q => decide (p.1 ∈ q.1 :: chR ws.reverse q.1)).map (·.1) := List.mem_map_of_mem (List.mem_filter.mpr ⟨hp, decide_eq_true List.mem_cons_self⟩)
    rw [e] at this
    cases this
  · rw [List.length_map]
    exact Nat.le_trans (List.length_filter_le _ _) gk.2.2.1
  · intro y hy
    obtain ⟨p, hp, rfl⟩ := List.mem_map.mp hy
    rw [← hnm]
    exact List.mem_map_of_mem (List.mem_filter.mp hp).1
theorem reading_ok (hl : ns.length ≤ 63) (a0 : 0 ≤ at') (a1 : at' ≤ 900) (gk : GK ws) (hnm : ws.map (·.1) = nm) (wa : Wds a 3) (wb : Wds b 2) (wc : Wds c 2) : ∃ x, d_law_reading [scr ns, .int at', kD ws, wD a b c, .bool sh] = .rt x ∧ rQ nm x := by
  obtain ⟨gx, eg, ps, cl, nd, rfl, hp, hg⟩ := groups_ok nm ns at' ws sh hl a0 a1 gk hnm
  obtain ⟨v, ev, v0, v1⟩ := mix_ok ns (at' + 5) hl (by omega) (by omega)
  refine hs_run (n := 16) (s := S_law_reading) (ds := [scr ns, .int at', kD ws, wD a b c, .bool sh]) (Q := rQ nm) ?_
  unfold S_law_reading
  simp -implicitDefEqProofs only [startD, List.length_cons, List.length_nil, List.map_cons, List.map_nil, List.cons_append, List.nil_append, Nat.reduceAdd, Nat.reduceSub, List.replicate, List.set_cons_zero, List.set_cons_succ, List.foldl_cons, List.foldl_nil, x_killD_n, x_killD_c, x_slOf_f, x_slOf_o, x_slOf_t, x_slOf_k]
  refine hs_seq (hs_unpM (ts := [.own (.list (ps.map tS)), .own (.list (cl.map clI)), .own (.list (nd.map tI))]) ?_ rfl ?_)
  · simp -implicitDefEqProofs only [s0, s1, s2, s3, s4, s5, s6, s7, s8, s9, x_max2, x_int_b, x_int_i, x_tuple_l, startD, List.length_cons, List.length_nil, List.map_cons, List.map_nil, List.cons_append, List.nil_append, Nat.reduceAdd, Nat.reduceSub, List.replicate, List.set_cons_zero, List.set_cons_succ, x_wipe_cons, x_wipe_nil, x_eOp, x_eC, x_eCB, x_aCons, x_aNil, x_bind_ok, x_add_i, x_len_s, x_len_l, x_len_t, x_bOf, x_eTup, x_eFz, x_oLst, x_eCall, x_aName, x_aTup, x_asCons, x_asNil, x_mod, x_div, x_bAnd, x_bOr, x_bNot, x_asB, x_sub_i, x_neg_i, x_toE_d, x_toE_o, x_notDict, if_true, if_false, reduceIte, Int.reduceLT, Int.reduceAdd, Int.reduceSub, Int.reduceMul, Int.reduceNeg, Int.reducePow, rVar, eVar, hVar, List.getElem?_cons_zero, List.getElem?_cons_succ, x_mCall, eg, x_toM_t]
  simp -implicitDefEqProofs only [startD, List.length_cons, List.length_nil, List.map_cons, List.map_nil, List.cons_append, List.nil_append, Nat.reduceAdd, Nat.reduceSub, List.replicate, List.set_cons_zero, List.set_cons_succ, List.foldl_cons, List.foldl_nil, x_killD_n, x_killD_c, x_slOf_f, x_slOf_o, x_slOf_t, x_slOf_k]
  refine hs_seq (hs_setM rfl ?_)
  simp -implicitDefEqProofs only [startD, List.length_cons, List.length_nil, List.map_cons, List.map_nil, List.cons_append, List.nil_append, Nat.reduceAdd, Nat.reduceSub, List.replicate, List.set_cons_zero, List.set_cons_succ, List.foldl_cons, List.foldl_nil, x_killD_n, x_killD_c, x_slOf_f, x_slOf_o, x_slOf_t, x_slOf_k]
  refine hs_seq (hs_setM rfl ?_)
  simp -implicitDefEqProofs only [startD, List.length_cons, List.length_nil, List.map_cons, List.map_nil, List.cons_append, List.nil_append, Nat.reduceAdd, Nat.reduceSub, List.replicate, List.set_cons_zero, List.set_cons_succ, List.foldl_cons, List.foldl_nil, x_killD_n, x_killD_c, x_slOf_f, x_slOf_o, x_slOf_t, x_slOf_k]
  refine hs_seq (hs_setO (x := .list []) (by simp -implicitDefEqProofs only [s0, s1, s2, s3, s4, s5, s6, s7, s8, s9, x_max2, x_int_b, x_int_i, x_tuple_l, startD, List.length_cons, List.length_nil, List.map_cons, List.map_nil, List.cons_append, List.nil_append, Nat.reduceAdd, Nat.reduceSub, List.replicate, List.set_cons_zero, List.set_cons_succ, x_wipe_cons, x_wipe_nil, x_eOp, x_eC, x_eCB, x_aCons, x_aNil, x_bind_ok, x_add_i, x_len_s, x_len_l, x_len_t, x_bOf, x_eTup, x_eFz, x_oLst, x_eCall, x_aName, x_aTup, x_asCons, x_asNil, x_mod, x_div, x_bAnd, x_bOr, x_bNot, x_asB, x_sub_i, x_neg_i, x_toE_d, x_toE_o, x_notDict, if_true, if_false, reduceIte, Int.reduceLT, Int.reduceAdd, Int.reduceSub, Int.reduceMul, Int.reduceNeg, Int.reducePow, rVar, eVar, hVar, List.getElem?_cons_zero, List.getElem?_cons_succ]) ?_)
  have pl := hp.p1
  refine hs_cut (P := fun ρ => ∃ J S T z, ρ = rSt ns at' ws a b c sh ps cl nd J S T none none z ∧ RI ps.length 4 J S T) (hs_pre ?_) ?_
  · simp -implicitDefEqProofs only [startD, List.length_cons, List.length_nil, List.map_cons, List.map_nil, List.cons_append, List.nil_append, Nat.reduceAdd, Nat.reduceSub, List.replicate, List.set_cons_zero, List.set_cons_succ, List.foldl_cons, List.foldl_nil, x_killD_n, x_killD_c, x_slOf_f, x_slOf_o, x_slOf_t, x_slOf_k]
    refine hs_rng 4 (rng_c rfl (by decide)) (fun k ρ => ∃ J S T z, ρ = rSt ns at' ws a b c sh ps cl nd J S T none none z ∧ RI ps.length k J S T) ⟨[], [], [], none, rfl, ⟨Nat.le_refl _, fun p h => (by cases h)⟩, ⟨Nat.le_refl _, fun p h => (by cases h)⟩, ⟨Nat.le_refl _, fun p h => (by cases h)⟩⟩ (fun k ρ hk hI => ?_) fun ρ hI => hI
    obtain ⟨J, S, T, z, rfl, hI⟩ := hI
    obtain ⟨y, ey, y0, y1⟩ := mix_ok ns (at' + 6 + (k : Int)) hl (by omega) (by omega)
    unfold rSt
    refine ⟨_, rfl, ?_⟩
    simp -implicitDefEqProofs only [startD, List.length_cons, List.length_nil, List.map_cons, List.map_nil, List.cons_append, List.nil_append, Nat.reduceAdd, Nat.reduceSub, List.replicate, List.set_cons_zero, List.set_cons_succ, List.foldl_cons, List.foldl_nil, x_killD_n, x_killD_c, x_slOf_f, x_slOf_o, x_slOf_t, x_slOf_k]
    refine hs_seq (hs_set (x := .int y) (by simp -implicitDefEqProofs only [s0, s1, s2, s3, s4, s5, s6, s7, s8, s9, x_max2, x_int_b, x_int_i, x_tuple_l, startD, List.length_cons, List.length_nil, List.map_cons, List.map_nil, List.cons_append, List.nil_append, Nat.reduceAdd, Nat.reduceSub, List.replicate, List.set_cons_zero, List.set_cons_succ, x_wipe_cons, x_wipe_nil, x_eOp, x_eC, x_eCB, x_aCons, x_aNil, x_bind_ok, x_add_i, x_len_s, x_len_l, x_len_t, x_bOf, x_eTup, x_eFz, x_oLst, x_eCall, x_aName, x_aTup, x_asCons, x_asNil, x_mod, x_div, x_bAnd, x_bOr, x_bNot, x_asB, x_sub_i, x_neg_i, x_toE_d, x_toE_o, x_notDict, if_true, if_false, reduceIte, Int.reduceLT, Int.reduceAdd, Int.reduceSub, Int.reduceMul, Int.reduceNeg, Int.reducePow, rVar, eVar, hVar, List.getElem?_cons_zero, List.getElem?_cons_succ, ey]) ?_)
    simp -implicitDefEqProofs only [startD, List.length_cons, List.length_nil, List.map_cons, List.map_nil, List.cons_append, List.nil_append, Nat.reduceAdd, Nat.reduceSub, List.replicate, List.set_cons_zero, List.set_cons_succ, List.foldl_cons, List.foldl_nil, x_killD_n, x_killD_c, x_slOf_f, x_slOf_o, x_slOf_t, x_slOf_k]
    have lps : lenD [.list (ps.map tS)] = .ok (.int ps.length) := by rw [x_len_l, List.length_map]
    have lnd : lenD [.list (nd.map tI)] = .ok (.int nd.length) := by rw [x_len_l, List.length_map]
    -- the joins
    have hS0 := hI.z
    have hT0 := hI.t
    refine hs_cut (P := fun ρ => ∃ J z, ρ = rSt ns at' ws a b c sh ps cl nd J S T (some (.d (.int (k : Nat)))) (some (.d (.int y))) z ∧ RI ps.length (k + 1) J S T) ?_ ?_
    · by_cases c1 : 1 < ps.length
      · refine hs_ifX (xAnd (xCmp (i := ps.length) (j := 1) (by simp -implicitDefEqProofs only [s0, s1, s2, s3, s4, s5, s6, s7, s8, s9, x_max2, x_int_b, x_int_i, x_tuple_l, startD, List.length_cons, List.length_nil, List.map_cons, List.map_nil, List.cons_append, List.nil_append, Nat.reduceAdd, Nat.reduceSub, List.replicate, List.set_cons_zero, List.set_cons_succ, x_wipe_cons, x_wipe_nil, x_eOp, x_eC, x_eCB, x_aCons, x_aNil, x_bind_ok, x_add_i, x_len_s, x_len_l, x_len_t, x_bOf, x_eTup, x_eFz, x_oLst, x_eCall, x_aName, x_aTup, x_asCons, x_asNil, x_mod, x_div, x_bAnd, x_bOr, x_bNot, x_asB, x_sub_i, x_neg_i, x_toE_d, x_toE_o, x_notDict, if_true, if_false, reduceIte, Int.reduceLT, Int.reduceAdd, Int.reduceSub, Int.reduceMul, Int.reduceNeg, Int.reducePow, rVar, eVar, hVar, List.getElem?_cons_zero, List.getElem?_cons_succ, lps]) rfl) (xCmp (i := k) (j := v % 4) rfl (by simp -implicitDefEqProofs only [s0, s1, s2, s3, s4, s5, s6, s7, s8, s9, x_max2, x_int_b, x_int_i, x_tuple_l, startD, List.length_cons, List.length_nil, List.map_cons, List.map_nil, List.cons_append, List.nil_append, Nat.reduceAdd, Nat.reduceSub, List.replicate, List.set_cons_zero, List.set_cons_succ, x_wipe_cons, x_wipe_nil, x_eOp, x_eC, x_eCB, x_aCons, x_aNil, x_bind_ok, x_add_i, x_len_s, x_len_l, x_len_t, x_bOf, x_eTup, x_eFz, x_oLst, x_eCall, x_aName, x_aTup, x_asCons, x_asNil, x_mod, x_div, x_bAnd, x_bOr, x_bNot, x_asB, x_sub_i, x_neg_i, x_toE_d, x_toE_o, x_notDict, if_true, if_false, reduceIte, Int.reduceLT, Int.reduceAdd, Int.reduceSub, Int.reduceMul, Int.reduceNeg, Int.reducePow, rVar, eVar, hVar, List.getElem?_cons_zero, List.getElem?_cons_succ, ev]))) ?_ (hs_next ⟨J, z, rfl, hI.up (by omega)⟩)
        have h1 : (0 : Int) < (ps.length : Int) := by omega
        have h2 : (0 : Int) < (ps.length : Int) - 1 := by omega
        refine hs_seq (hs_set (x := .int (y % ps.length)) (by simp -implicitDefEqProofs only [s0, s1, s2, s3, s4, s5, s6, s7, s8, s9, x_max2, x_int_b, x_int_i, x_tuple_l, startD, List.length_cons, List.length_nil, List.map_cons, List.map_nil, List.cons_append, List.nil_append, Nat.reduceAdd, Nat.reduceSub, List.replicate, List.set_cons_zero, List.set_cons_succ, x_wipe_cons, x_wipe_nil, x_eOp, x_eC, x_eCB, x_aCons, x_aNil, x_bind_ok, x_add_i, x_len_s, x_len_l, x_len_t, x_bOf, x_eTup, x_eFz, x_oLst, x_eCall, x_aName, x_aTup, x_asCons, x_asNil, x_mod, x_div, x_bAnd, x_bOr, x_bNot, x_asB, x_sub_i, x_neg_i, x_toE_d, x_toE_o, x_notDict, if_true, if_false, reduceIte, Int.reduceLT, Int.reduceAdd, Int.reduceSub, Int.reduceMul, Int.reduceNeg, Int.reducePow, rVar, eVar, hVar, List.getElem?_cons_zero, List.getElem?_cons_succ, lps, h1]) ?_)
        simp -implicitDefEqProofs only [startD, List.length_cons, List.length_nil, List.map_cons, List.map_nil, List.cons_append, List.nil_append, Nat.reduceAdd, Nat.reduceSub, List.replicate, List.set_cons_zero, List.set_cons_succ, List.foldl_cons, List.foldl_nil, x_killD_n, x_killD_c, x_slOf_f, x_slOf_o, x_slOf_t, x_slOf_k]
        obtain ⟨w, hw', hw, ew⟩ := ix_list b PyData.str (y / 8 % 2) (by omega) (by rw [wb.1]; omega)
        refine hs_dputT (kvs := J) (y := jnI (w, y % ps.length, (y % ps.length + 1 + y / 16 % ((ps.length : Int) - 1)) % ps.length)) (d := .bool true) (k := kJ (w, y % ps.length, (y % ps.length + 1 + y / 16 % ((ps.length : Int) - 1)) % ps.length)) rfl ?_ rfl rfl (szl (by have := hI.j.1; omega)) ?_
        · simp -implicitDefEqProofs only [s0, s1, s2, s3, s4, s5, s6, s7, s8, s9, x_max2, x_int_b, x_int_i, x_tuple_l, startD, List.length_cons, List.length_nil, List.map_cons, List.map_nil, List.cons_append, List.nil_append, Nat.reduceAdd, Nat.reduceSub, List.replicate, List.set_cons_zero, List.set_cons_succ, x_wipe_cons, x_wipe_nil, x_eOp, x_eC, x_eCB, x_aCons, x_aNil, x_bind_ok, x_add_i, x_len_s, x_len_l, x_len_t, x_bOf, x_eTup, x_eFz, x_oLst, x_eCall, x_aName, x_aTup, x_asCons, x_asNil, x_mod, x_div, x_bAnd, x_bOr, x_bNot, x_asB, x_sub_i, x_neg_i, x_toE_d, x_toE_o, x_notDict, if_true, if_false, reduceIte, Int.reduceLT, Int.reduceAdd, Int.reduceSub, Int.reduceMul, Int.reduceNeg, Int.reducePow, rVar, eVar, hVar, List.getElem?_cons_zero, List.getElem?_cons_succ, lps, h1, h2, wD1, ew]
          rfl
        · refine ⟨_, _, rfl, ⟨Nat.le_trans (len_putT ..) (by have := hI.j.1; omega), fun p h => ?_⟩, (hI.up (by omega)).z, (hI.up (by omega)).t⟩
          rcases mem_putT h with h | h
          · exact hI.j.2 p h
          · exact ⟨_, h.1, ⟨⟨Int.emod_nonneg _ (by omega), Int.emod_lt_of_pos _ h1⟩, Int.emod_nonneg _ (by omega), Int.emod_lt_of_pos _ h1⟩, (wb.2.2 w (by rw [hw]; exact List.getElem_mem _)).2.2⟩
      · exact hs_if (c := false) (xAndF (xCmpB (i := ps.length) (j := 1) false (by simp -implicitDefEqProofs only [s0, s1, s2, s3, s4, s5, s6, s7, s8, s9, x_max2, x_int_b, x_int_i, x_tuple_l, startD, List.length_cons, List.length_nil, List.map_cons, List.map_nil, List.cons_append, List.nil_append, Nat.reduceAdd, Nat.reduceSub, List.replicate, List.set_cons_zero, List.set_cons_succ, x_wipe_cons, x_wipe_nil, x_eOp, x_eC, x_eCB, x_aCons, x_aNil, x_bind_ok, x_add_i, x_len_s, x_len_l, x_len_t, x_bOf, x_eTup, x_eFz, x_oLst, x_eCall, x_aName, x_aTup, x_asCons, x_asNil, x_mod, x_div, x_bAnd, x_bOr, x_bNot, x_asB, x_sub_i, x_neg_i, x_toE_d, x_toE_o, x_notDict, if_true, if_false, reduceIte, Int.reduceLT, Int.reduceAdd, Int.reduceSub, Int.reduceMul, Int.reduceNeg, Int.reducePow, rVar, eVar, hVar, List.getElem?_cons_zero, List.getElem?_cons_succ, lps]) rfl (decide_eq_false (by omega)))) (fun q => by cases q) (fun _ => hs_next ⟨J, z, rfl, hI.up (by omega)⟩)
    clear hI
    rintro _ ⟨J, z, rfl, hI⟩
    have hS := hS0
    unfold rSt
    -- the sizes
    refine hs_cut (P := fun ρ => ∃ S, ρ = rSt ns at' ws a b c sh ps cl nd J S T (some (.d (.int (k : Nat)))) (some (.d (.int y))) z ∧ RI ps.length (k + 1) J S T) ?_ ?_
    · by_cases c1 : 0 < ps.length
      · refine hs_ifX (xAnd (xCmp (i := ps.length) (j := 0) (by simp -implicitDefEqProofs only [s0, s1, s2, s3, s4, s5, s6, s7, s8, s9, x_max2, x_int_b, x_int_i, x_tuple_l, startD, List.length_cons, List.length_nil, List.map_cons, List.map_nil, List.cons_append, List.nil_append, Nat.reduceAdd, Nat.reduceSub, List.replicate, List.set_cons_zero, List.set_cons_succ, x_wipe_cons, x_wipe_nil, x_eOp, x_eC, x_eCB, x_aCons, x_aNil, x_bind_ok, x_add_i, x_len_s, x_len_l, x_len_t, x_bOf, x_eTup, x_eFz, x_oLst, x_eCall, x_aName, x_aTup, x_asCons, x_asNil, x_mod, x_div, x_bAnd, x_bOr, x_bNot, x_asB, x_sub_i, x_neg_i, x_toE_d, x_toE_o, x_notDict, if_true, if_false, reduceIte, Int.reduceLT, Int.reduceAdd, Int.reduceSub, Int.reduceMul, Int.reduceNeg, Int.reducePow, rVar, eVar, hVar, List.getElem?_cons_zero, List.getElem?_cons_succ, lps]) rfl) (xCmp (i := k) (j := v / 4 % 4) rfl (by simp -implicitDefEqProofs only [s0, s1, s2, s3, s4, s5, s6, s7, s8, s9, x_max2, x_int_b, x_int_i, x_tuple_l, startD, List.length_cons, List.length_nil, List.map_cons, List.map_nil, List.cons_append, List.nil_append, Nat.reduceAdd, Nat.reduceSub, List.replicate, List.set_cons_zero, List.set_cons_succ, x_wipe_cons, x_wipe_nil, x_eOp, x_eC, x_eCB, x_aCons, x_aNil, x_bind_ok, x_add_i, x_len_s, x_len_l, x_len_t, x_bOf, x_eTup, x_eFz, x_oLst, x_eCall, x_aName, x_aTup, x_asCons, x_asNil, x_mod, x_div, x_bAnd, x_bOr, x_bNot, x_asB, x_sub_i, x_neg_i, x_toE_d, x_toE_o, x_notDict, if_true, if_false, reduceIte, Int.reduceLT, Int.reduceAdd, Int.reduceSub, Int.reduceMul, Int.reduceNeg, Int.reducePow, rVar, eVar, hVar, List.getElem?_cons_zero, List.getElem?_cons_succ, ev]))) ?_ (hs_next ⟨S, rfl, hI⟩)
        have h1 : (0 : Int) < (ps.length : Int) := by omega
        obtain ⟨w, hw', hw, ew⟩ := ix_list a PyData.str (y / 24 % 3) (by omega) (by rw [wa.1]; omega)
        obtain ⟨bx, eb, lo, hi, rfl, hb⟩ := bounds_ok y
        refine hs_dputT (kvs := S) (y := .tuple [.int (y / 3 % ps.length), .str w]) (d := .tuple [oI lo, oI hi]) (k := kZ (y / 3 % ps.length, w)) rfl ?_ rfl (by simp -implicitDefEqProofs only [s0, s1, s2, s3, s4, s5, s6, s7, s8, s9, x_max2, x_int_b, x_int_i, x_tuple_l, startD, List.length_cons, List.length_nil, List.map_cons, List.map_nil, List.cons_append, List.nil_append, Nat.reduceAdd, Nat.reduceSub, List.replicate, List.set_cons_zero, List.set_cons_succ, x_wipe_cons, x_wipe_nil, x_eOp, x_eC, x_eCB, x_aCons, x_aNil, x_bind_ok, x_add_i, x_len_s, x_len_l, x_len_t, x_bOf, x_eTup, x_eFz, x_oLst, x_eCall, x_aName, x_aTup, x_asCons, x_asNil, x_mod, x_div, x_bAnd, x_bOr, x_bNot, x_asB, x_sub_i, x_neg_i, x_toE_d, x_toE_o, x_notDict, if_true, if_false, reduceIte, Int.reduceLT, Int.reduceAdd, Int.reduceSub, Int.reduceMul, Int.reduceNeg, Int.reducePow, rVar, eVar, hVar, List.getElem?_cons_zero, List.getElem?_cons_succ, eb]) (szl (by have := hI.z.1; omega)) ?_
        · simp -implicitDefEqProofs only [s0, s1, s2, s3, s4, s5, s6, s7, s8, s9, x_max2, x_int_b, x_int_i, x_tuple_l, startD, List.length_cons, List.length_nil, List.map_cons, List.map_nil, List.cons_append, List.nil_append, Nat.reduceAdd, Nat.reduceSub, List.replicate, List.set_cons_zero, List.set_cons_succ, x_wipe_cons, x_wipe_nil, x_eOp, x_eC, x_eCB, x_aCons, x_aNil, x_bind_ok, x_add_i, x_len_s, x_len_l, x_len_t, x_bOf, x_eTup, x_eFz, x_oLst, x_eCall, x_aName, x_aTup, x_asCons, x_asNil, x_mod, x_div, x_bAnd, x_bOr, x_bNot, x_asB, x_sub_i, x_neg_i, x_toE_d, x_toE_o, x_notDict, if_true, if_false, reduceIte, Int.reduceLT, Int.reduceAdd, Int.reduceSub, Int.reduceMul, Int.reduceNeg, Int.reducePow, rVar, eVar, hVar, List.getElem?_cons_zero, List.getElem?_cons_succ, lps, h1, wD0, ew]
        · refine ⟨_, rfl, hI.j, ⟨?_, fun p h => ?_⟩, hI.t⟩
          · have := hS.1
            exact Nat.le_trans (len_putT ..) (by omega)
          rcases mem_putT h with h | h
          · exact hI.z.2 p h
          · exact ⟨_, h.1, ⟨⟨Int.emod_nonneg _ (by omega), Int.emod_lt_of_pos _ h1⟩, (wa.2.2 w (by rw [hw]; exact List.getElem_mem _)).2.2⟩, lo, hi, h.2, hb⟩
      · exact hs_if (c := false) (xAndF (xCmpB (i := ps.length) (j := 0) false (by simp -implicitDefEqProofs only [s0, s1, s2, s3, s4, s5, s6, s7, s8, s9, x_max2, x_int_b, x_int_i, x_tuple_l, startD, List.length_cons, List.length_nil, List.map_cons, List.map_nil, List.cons_append, List.nil_append, Nat.reduceAdd, Nat.reduceSub, List.replicate, List.set_cons_zero, List.set_cons_succ, x_wipe_cons, x_wipe_nil, x_eOp, x_eC, x_eCB, x_aCons, x_aNil, x_bind_ok, x_add_i, x_len_s, x_len_l, x_len_t, x_bOf, x_eTup, x_eFz, x_oLst, x_eCall, x_aName, x_aTup, x_asCons, x_asNil, x_mod, x_div, x_bAnd, x_bOr, x_bNot, x_asB, x_sub_i, x_neg_i, x_toE_d, x_toE_o, x_notDict, if_true, if_false, reduceIte, Int.reduceLT, Int.reduceAdd, Int.reduceSub, Int.reduceMul, Int.reduceNeg, Int.reducePow, rVar, eVar, hVar, List.getElem?_cons_zero, List.getElem?_cons_succ, lps]) rfl (decide_eq_false (by omega)))) (fun q => by cases q) (fun _ => hs_next ⟨S, rfl, hI⟩)
    clear hS
    have hT : T.length ≤ 2 * k ∧ ∀ s ∈ T, (0 ≤ s.2 ∧ s.2 < (ps.length : Int)) ∧ okS s.1 := hT0
    rintro _ ⟨S, rfl, hI⟩
    unfold rSt
    -- the steps
    by_cases c1 : 0 < nd.length
    · refine hs_ifX (xAnd (xCmp (i := nd.length) (j := 0) (by simp -implicitDefEqProofs only [s0, s1, s2, s3, s4, s5, s6, s7, s8, s9, x_max2, x_int_b, x_int_i, x_tuple_l, startD, List.length_cons, List.length_nil, List.map_cons, List.map_nil, List.cons_append, List.nil_append, Nat.reduceAdd, Nat.reduceSub, List.replicate, List.set_cons_zero, List.set_cons_succ, x_wipe_cons, x_wipe_nil, x_eOp, x_eC, x_eCB, x_aCons, x_aNil, x_bind_ok, x_add_i, x_len_s, x_len_l, x_len_t, x_bOf, x_eTup, x_eFz, x_oLst, x_eCall, x_aName, x_aTup, x_asCons, x_asNil, x_mod, x_div, x_bAnd, x_bOr, x_bNot, x_asB, x_sub_i, x_neg_i, x_toE_d, x_toE_o, x_notDict, if_true, if_false, reduceIte, Int.reduceLT, Int.reduceAdd, Int.reduceSub, Int.reduceMul, Int.reduceNeg, Int.reducePow, rVar, eVar, hVar, List.getElem?_cons_zero, List.getElem?_cons_succ, lnd]) rfl) (xCmp (i := k) (j := v / 16 % 3) rfl (by simp -implicitDefEqProofs only [s0, s1, s2, s3, s4, s5, s6, s7, s8, s9, x_max2, x_int_b, x_int_i, x_tuple_l, startD, List.length_cons, List.length_nil, List.map_cons, List.map_nil, List.cons_append, List.nil_append, Nat.reduceAdd, Nat.reduceSub, List.replicate, List.set_cons_zero, List.set_cons_succ, x_wipe_cons, x_wipe_nil, x_eOp, x_eC, x_eCB, x_aCons, x_aNil, x_bind_ok, x_add_i, x_len_s, x_len_l, x_len_t, x_bOf, x_eTup, x_eFz, x_oLst, x_eCall, x_aName, x_aTup, x_asCons, x_asNil, x_mod, x_div, x_bAnd, x_bOr, x_bNot, x_asB, x_sub_i, x_neg_i, x_toE_d, x_toE_o, x_notDict, if_true, if_false, reduceIte, Int.reduceLT, Int.reduceAdd, Int.reduceSub, Int.reduceMul, Int.reduceNeg, Int.reducePow, rVar, eVar, hVar, List.getElem?_cons_zero, List.getElem?_cons_succ, ev]))) ?_ (hs_next ⟨J, S, T, z, rfl, hI⟩)
      have h1 : (0 : Int) < (nd.length : Int) := by omega
      obtain ⟨l, hl', hl, el⟩ := ix_list nd tI (y / 10 % nd.length) (Int.emod_nonneg _ (by omega)) (Int.emod_lt_of_pos _ h1)
      have lok : NmOK ps.length l := hg.n2 l (by rw [hl]; exact List.getElem_mem _)
      obtain ⟨w, hw', hw, ew⟩ := ix_list c PyData.str (y / 5 % 2) (by omega) (by rw [wc.1]; omega)
      have e : eFz (oLc (iItems (eOp ixD (rVar 7) (eOp modD (eOp divD (rVar 12) (eC (.int 10))) (eCB lenD (aCons (rVar 7) aNil))))) (aName 13) gYes (eTup (aCons (eOp ixD (eOp ixD (rVar 3) (eC (.int 2))) (eOp modD (eOp divD (rVar 12) (eC (.int 5))) (eC (.int 2)))) (aCons (eVar 13) aNil))) [13]) (rSt ns at' ws a b c sh ps cl nd J S T (some (.d (.int (k : Nat)))) (some (.d (.int y))) z) = .ok (.list (l.map fun i => stI (w, i))) := by
        unfold rSt
        rw [x_eFz, lc_eq (xs := l) PyData.int (fun i => stI (w, i)) ?_ (sz (by have := lok.1; omega)) ?_]
        · rfl
        · simp -implicitDefEqProofs only [s0, s1, s2, s3, s4, s5, s6, s7, s8, s9, x_max2, x_int_b, x_int_i, x_tuple_l, startD, List.length_cons, List.length_nil, List.map_cons, List.map_nil, List.cons_append, List.nil_append, Nat.reduceAdd, Nat.reduceSub, List.replicate, List.set_cons_zero, List.set_cons_succ, x_wipe_cons, x_wipe_nil, x_eOp, x_eC, x_eCB, x_aCons, x_aNil, x_bind_ok, x_add_i, x_len_s, x_len_l, x_len_t, x_bOf, x_eTup, x_eFz, x_oLst, x_eCall, x_aName, x_aTup, x_asCons, x_asNil, x_mod, x_div, x_bAnd, x_bOr, x_bNot, x_asB, x_sub_i, x_neg_i, x_toE_d, x_toE_o, x_notDict, if_true, if_false, reduceIte, Int.reduceLT, Int.reduceAdd, Int.reduceSub, Int.reduceMul, Int.reduceNeg, Int.reducePow, rVar, eVar, hVar, List.getElem?_cons_zero, List.getElem?_cons_succ, lnd, h1, el, x_iItems]
          rfl
        · intro i hi
          refine ⟨_, rfl, ?_⟩
          simp -implicitDefEqProofs only [s0, s1, s2, s3, s4, s5, s6, s7, s8, s9, x_max2, x_int_b, x_int_i, x_tuple_l, startD, List.length_cons, List.length_nil, List.map_cons, List.map_nil, List.cons_append, List.nil_append, Nat.reduceAdd, Nat.reduceSub, List.replicate, List.set_cons_zero, List.set_cons_succ, x_wipe_cons, x_wipe_nil, x_eOp, x_eC, x_eCB, x_aCons, x_aNil, x_bind_ok, x_add_i, x_len_s, x_len_l, x_len_t, x_bOf, x_eTup, x_eFz, x_oLst, x_eCall, x_aName, x_aTup, x_asCons, x_asNil, x_mod, x_div, x_bAnd, x_bOr, x_bNot, x_asB, x_sub_i, x_neg_i, x_toE_d, x_toE_o, x_notDict, if_true, if_false, reduceIte, Int.reduceLT, Int.reduceAdd, Int.reduceSub, Int.reduceMul, Int.reduceNeg, Int.reducePow, rVar, eVar, hVar, List.getElem?_cons_zero, List.getElem?_cons_succ, wD2, ew]
          rfl
      refine hs_ext (ds := T.map stI) (es := l.map fun i => stI (w, i)) rfl e (sz (by rw [List.length_map, List.length_map]; have := lok.1; omega)) ⟨J, S, T ++ l.map fun i => (w, i), z, ?_, hI.j, hI.z, ?_, fun s hs => ?_⟩
      · rw [List.map_append, List.map_map]
        rfl
      · rw [List.length_append, List.length_map]
        have := lok.1
        omega
      · rcases List.mem_append.mp hs with h | h
        · exact hT.2 s h
        · obtain ⟨i, hi, rfl⟩ := List.mem_map.mp h
          exact ⟨lok.2 i hi, (wc.2.2 w (by rw [hw]; exact List.getElem_mem _)).2.2⟩
    · exact hs_if (c := false) (xAndF (xCmpB (i := nd.length) (j := 0) false (by simp -implicitDefEqProofs only [s0, s1, s2, s3, s4, s5, s6, s7, s8, s9, x_max2, x_int_b, x_int_i, x_tuple_l, startD, List.length_cons, List.length_nil, List.map_cons, List.map_nil, List.cons_append, List.nil_append, Nat.reduceAdd, Nat.reduceSub, List.replicate, List.set_cons_zero, List.set_cons_succ, x_wipe_cons, x_wipe_nil, x_eOp, x_eC, x_eCB, x_aCons, x_aNil, x_bind_ok, x_add_i, x_len_s, x_len_l, x_len_t, x_bOf, x_eTup, x_eFz, x_oLst, x_eCall, x_aName, x_aTup, x_asCons, x_asNil, x_mod, x_div, x_bAnd, x_bOr, x_bNot, x_asB, x_sub_i, x_neg_i, x_toE_d, x_toE_o, x_notDict, if_true, if_false, reduceIte, Int.reduceLT, Int.reduceAdd, Int.reduceSub, Int.reduceMul, Int.reduceNeg, Int.reducePow, rVar, eVar, hVar, List.getElem?_cons_zero, List.getElem?_cons_succ, lnd]) rfl (decide_eq_false (by omega)))) (fun q => by cases q) (fun _ => hs_next ⟨J, S, T, z, rfl, hI⟩)
  rintro _ ⟨J, S, T, z, rfl, hI⟩
  have hpl : ∀ ps' : List (List Str), lenD [.list (ps'.map tS)] = .ok (.int ps'.length) := fun ps' => by rw [x_len_l, List.length_map]
  refine hs_cut (P := fun ρ => ∃ ps', ρ = rSt ns at' ws a b c sh ps' cl nd J S T none none none ∧ ps'.length = ps.length ∧ Ps nm ps') (hs_pre ?_) ?_
  · unfold rSt
    simp -implicitDefEqProofs only [startD, List.length_cons, List.length_nil, List.map_cons, List.map_nil, List.cons_append, List.nil_append, Nat.reduceAdd, Nat.reduceSub, List.replicate, List.set_cons_zero, List.set_cons_succ, List.foldl_cons, List.foldl_nil, x_killD_n, x_killD_c, x_slOf_f, x_slOf_o, x_slOf_t, x_slOf_k]
    refine hs_rng ps.length (rng_c (by simp -implicitDefEqProofs only [s0, s1, s2, s3, s4, s5, s6, s7, s8, s9, x_max2, x_int_b, x_int_i, x_tuple_l, startD, List.length_cons, List.length_nil, List.map_cons, List.map_nil, List.cons_append, List.nil_append, Nat.reduceAdd, Nat.reduceSub, List.replicate, List.set_cons_zero, List.set_cons_succ, x_wipe_cons, x_wipe_nil, x_eOp, x_eC, x_eCB, x_aCons, x_aNil, x_bind_ok, x_add_i, x_len_s, x_len_l, x_len_t, x_bOf, x_eTup, x_eFz, x_oLst, x_eCall, x_aName, x_aTup, x_asCons, x_asNil, x_mod, x_div, x_bAnd, x_bOr, x_bNot, x_asB, x_sub_i, x_neg_i, x_toE_d, x_toE_o, x_notDict, if_true, if_false, reduceIte, Int.reduceLT, Int.reduceAdd, Int.reduceSub, Int.reduceMul, Int.reduceNeg, Int.reducePow, rVar, eVar, hVar, List.getElem?_cons_zero, List.getElem?_cons_succ, hpl]) (by omega)) (fun i ρ => ∃ ps', ρ = rSt ns at' ws a b c sh ps' cl nd J S T none none none ∧ ps'.length = ps.length ∧ Ps nm ps') ⟨ps, rfl, rfl, hp⟩ (fun i ρ hi hI => ?_) fun ρ hI => hI
    obtain ⟨ps', rfl, pl', hp'⟩ := hI
    obtain ⟨y, ey, y0, y1⟩ := mix_ok ns (at' + 10 + (i : Int)) hl (by omega) (by omega)
    unfold rSt
    refine ⟨_, rfl, ?_⟩
    simp -implicitDefEqProofs only [startD, List.length_cons, List.length_nil, List.map_cons, List.map_nil, List.cons_append, List.nil_append, Nat.reduceAdd, Nat.reduceSub, List.replicate, List.set_cons_zero, List.set_cons_succ, List.foldl_cons, List.foldl_nil, x_killD_n, x_killD_c, x_slOf_f, x_slOf_o, x_slOf_t, x_slOf_k]
    refine hs_seq (hs_set (x := .int y) (by simp -implicitDefEqProofs only [s0, s1, s2, s3, s4, s5, s6, s7, s8, s9, x_max2, x_int_b, x_int_i, x_tuple_l, startD, List.length_cons, List.length_nil, List.map_cons, List.map_nil, List.cons_append, List.nil_append, Nat.reduceAdd, Nat.reduceSub, List.replicate, List.set_cons_zero, List.set_cons_succ, x_wipe_cons, x_wipe_nil, x_eOp, x_eC, x_eCB, x_aCons, x_aNil, x_bind_ok, x_add_i, x_len_s, x_len_l, x_len_t, x_bOf, x_eTup, x_eFz, x_oLst, x_eCall, x_aName, x_aTup, x_asCons, x_asNil, x_mod, x_div, x_bAnd, x_bOr, x_bNot, x_asB, x_sub_i, x_neg_i, x_toE_d, x_toE_o, x_notDict, if_true, if_false, reduceIte, Int.reduceLT, Int.reduceAdd, Int.reduceSub, Int.reduceMul, Int.reduceNeg, Int.reducePow, rVar, eVar, hVar, List.getElem?_cons_zero, List.getElem?_cons_succ, ey]) ?_)
    simp -implicitDefEqProofs only [startD, List.length_cons, List.length_nil, List.map_cons, List.map_nil, List.cons_append, List.nil_append, Nat.reduceAdd, Nat.reduceSub, List.replicate, List.set_cons_zero, List.set_cons_succ, List.foldl_cons, List.foldl_nil, x_killD_n, x_killD_c, x_slOf_f, x_slOf_o, x_slOf_t, x_slOf_k]
    refine hs_ifX (xAnd (xEqI (i := y % 5) (j := 0) (by simp -implicitDefEqProofs only [s0, s1, s2, s3, s4, s5, s6, s7, s8, s9, x_max2, x_int_b, x_int_i, x_tuple_l, startD, List.length_cons, List.length_nil, List.map_cons, List.map_nil, List.cons_append, List.nil_append, Nat.reduceAdd, Nat.reduceSub, List.replicate, List.set_cons_zero, List.set_cons_succ, x_wipe_cons, x_wipe_nil, x_eOp, x_eC, x_eCB, x_aCons, x_aNil, x_bind_ok, x_add_i, x_len_s, x_len_l, x_len_t, x_bOf, x_eTup, x_eFz, x_oLst, x_eCall, x_aName, x_aTup, x_asCons, x_asNil, x_mod, x_div, x_bAnd, x_bOr, x_bNot, x_asB, x_sub_i, x_neg_i, x_toE_d, x_toE_o, x_notDict, if_true, if_false, reduceIte, Int.reduceLT, Int.reduceAdd, Int.reduceSub, Int.reduceMul, Int.reduceNeg, Int.reducePow, rVar, eVar, hVar, List.getElem?_cons_zero, List.getElem?_cons_succ]) rfl) (xNot (xOf ⟨sh, rfl⟩))) ?_ (hs_next ⟨ps', rfl, pl', hp'⟩)
    obtain ⟨p, hi', hpe, ep⟩ := ix_list ps' tS (i : Int) (by omega) (by omega)
    have pok : PtOK nm p := hp'.p2 p (by rw [hpe]; exact List.getElem_mem _)
    have p0 : 0 < p.length := List.length_pos_iff.mpr pok.1
    have h1 : (0 : Int) < (p.length : Int) := by omega
    have lp : lenD [tS p] = .ok (.int p.length) := by unfold tS; rw [x_len_t, List.length_map]
    obtain ⟨w, hw', hw, ew⟩ := ix_tup p PyData.str (y / 5 % p.length) (Int.emod_nonneg _ (by omega)) (Int.emod_lt_of_pos _ h1)
    have ew : ixD (tS p) (.int (y / 5 % p.length)) = .ok (.str w) := ew
    obtain ⟨l, el, l0, l8, lm⟩ := low_ok gk hnm w (pok.2.2 w (by rw [hw]; exact List.getElem_mem _))
    have l0 : 0 < l.length := List.length_pos_iff.mpr l0
    have h2 : (0 : Int) < (l.length : Int) := by omega
    refine hs_seq (hs_set (x := .list (l.map PyData.str)) (by simp -implicitDefEqProofs only [s0, s1, s2, s3, s4, s5, s6, s7, s8, s9, x_max2, x_int_b, x_int_i, x_tuple_l, startD, List.length_cons, List.length_nil, List.map_cons, List.map_nil, List.cons_append, List.nil_append, Nat.reduceAdd, Nat.reduceSub, List.replicate, List.set_cons_zero, List.set_cons_succ, x_wipe_cons, x_wipe_nil, x_eOp, x_eC, x_eCB, x_aCons, x_aNil, x_bind_ok, x_add_i, x_len_s, x_len_l, x_len_t, x_bOf, x_eTup, x_eFz, x_oLst, x_eCall, x_aName, x_aTup, x_asCons, x_asNil, x_mod, x_div, x_bAnd, x_bOr, x_bNot, x_asB, x_sub_i, x_neg_i, x_toE_d, x_toE_o, x_notDict, if_true, if_false, reduceIte, Int.reduceLT, Int.reduceAdd, Int.reduceSub, Int.reduceMul, Int.reduceNeg, Int.reducePow, rVar, eVar, hVar, List.getElem?_cons_zero, List.getElem?_cons_succ, ep, lp, h1, ew, el]) ?_)
    simp -implicitDefEqProofs only [startD, List.length_cons, List.length_nil, List.map_cons, List.map_nil, List.cons_append, List.nil_append, Nat.reduceAdd, Nat.reduceSub, List.replicate, List.set_cons_zero, List.set_cons_succ, List.foldl_cons, List.foldl_nil, x_killD_n, x_killD_c, x_slOf_f, x_slOf_o, x_slOf_t, x_slOf_k]
    obtain ⟨u, hu', hu, eu⟩ := ix_list l PyData.str (y / 15 % l.length) (Int.emod_nonneg _ (by omega)) (Int.emod_lt_of_pos _ h2)
    refine hs_lset (ds := ps'.map tS) (x := tS [u]) (n := (i : Int)) (j := i) rfl (by
      simp -implicitDefEqProofs only [s0, s1, s2, s3, s4, s5, s6, s7, s8, s9, x_max2, x_int_b, x_int_i, x_tuple_l, startD, List.length_cons, List.length_nil, List.map_cons, List.map_nil, List.cons_append, List.nil_append, Nat.reduceAdd, Nat.reduceSub, List.replicate, List.set_cons_zero, List.set_cons_succ, x_wipe_cons, x_wipe_nil, x_eOp, x_eC, x_eCB, x_aCons, x_aNil, x_bind_ok, x_add_i, x_len_s, x_len_l, x_len_t, x_bOf, x_eTup, x_eFz, x_oLst, x_eCall, x_aName, x_aTup, x_asCons, x_asNil, x_mod, x_div, x_bAnd, x_bOr, x_bNot, x_asB, x_sub_i, x_neg_i, x_toE_d, x_toE_o, x_notDict, if_true, if_false, reduceIte, Int.reduceLT, Int.reduceAdd, Int.reduceSub, Int.reduceMul, Int.reduceNeg, Int.reducePow, rVar, eVar, hVar, List.getElem?_cons_zero, List.getElem?_cons_succ, List.length_map, h2, eu]
      rfl) rfl ?_ ⟨ps'.set i [u], ?_, by rw [List.length_set]; exact pl', by rw [List.length_set]; exact hp'.p1, fun q hq => ?_⟩
    · unfold ixN
      rw [List.length_map]
      simp
      omega
    · rw [← List.map_set]
      rfl
    · rcases List.mem_or_eq_of_mem_set hq with h | h
      · exact hp'.p2 q h
      · rw [h]
        exact ⟨by simp, by simp, fun z hz => by rw [List.mem_singleton.mp hz, hu]; exact lm _ (List.getElem_mem _)⟩
  rintro _ ⟨ps', rfl, pl', hp'⟩
  unfold rSt
  refine hs_frz ?_
  rw [List.foldl_cons, frz_o (l := ps'.map tS) rfl, List.foldl_cons, frz_o (l := cl.map clI) rfl, List.foldl_cons, frz_o (l := T.map stI) rfl]
  simp -implicitDefEqProofs only [startD, List.length_cons, List.length_nil, List.map_cons, List.map_nil, List.cons_append, List.nil_append, Nat.reduceAdd, Nat.reduceSub, List.replicate, List.set_cons_zero, List.set_cons_succ, List.foldl_cons, List.foldl_nil, x_killD_n, x_killD_c, x_slOf_f, x_slOf_o, x_slOf_t, x_slOf_k]
  obtain ⟨js, ej, hj, hjl⟩ := sortT_ok (i := 8) (kvs := J) (ρ := [some (.d (scr ns)), some (.d (.int at')), some (.d (kD ws)), some (.d (wD a b c)), some (.d (.bool sh)), some (.d (.list (ps'.map tS))), some (.d (.list (cl.map clI))), some (.o (.list (nd.map tI))), some (.t (.dT J)), some (.t (.dT S)), some (.d (.list (T.map stI))), none, none, none, none, none]) rfl kJ (fun y : Str × Int × Int => ((0 ≤ y.2.1 ∧ y.2.1 < (ps.length : Int)) ∧ 0 ≤ y.2.2 ∧ y.2.2 < (ps.length : Int)) ∧ okS y.1) hI.j.2 (fun _ _ => rfl) (fun _ q => by cases q)
  obtain ⟨zs, ez, hz, hzl⟩ := sortT_ok (i := 9) (kvs := S) (ρ := [some (.d (scr ns)), some (.d (.int at')), some (.d (kD ws)), some (.d (wD a b c)), some (.d (.bool sh)), some (.d (.list (ps'.map tS))), some (.d (.list (cl.map clI))), some (.o (.list (nd.map tI))), some (.t (.dT J)), some (.t (.dT S)), some (.d (.list (T.map stI))), none, none, none, none, none]) rfl kZ (fun _ : Int × Str => True) (fun p h => by obtain ⟨y, h, _⟩ := hI.z.2 p h; exact ⟨y, h, trivial⟩) (fun _ _ => rfl) (fun _ q => by cases q)
  have jl := hI.j.1
  have zl := hI.z.1
  obtain ⟨rows, er, hr, hrl⟩ := lc_all (gi := iItems (eFz (oSortT 9))) (a := aName 15) (gt := gYes) (ge := eOp addD (rVar 15) (eDgetT 9 (hVar 15))) (vs := [15]) (ρ := [some (.d (scr ns)), some (.d (.int at')), some (.d (kD ws)), some (.d (wD a b c)), some (.d (.bool sh)), some (.d (.list (ps'.map tS))), some (.d (.list (cl.map clI))), some (.o (.list (nd.map tI))), some (.t (.dT J)), some (.t (.dT S)), some (.d (.list (T.map stI))), none, none, none, none, none]) (xs := zs.map fun y => keyP (kZ y)) (fun d => ∃ s : Int × Str × Option Int × Option Int, d = szI s ∧ (0 ≤ s.1 ∧ s.1 < (ps.length : Int)) ∧ (s.2.2.1 ≠ none ∨ s.2.2.2 ≠ none) ∧ okS s.2.1) (by rw [x_iItems, x_eFz, ez]; rfl) (sz (by rw [List.length_map]; omega)) (fun x hx => by
    obtain ⟨y, hy, rfl⟩ := List.mem_map.mp hx
    obtain ⟨d, hd, hm⟩ := valT_mem (hz y hy).2
    obtain ⟨y2, e2, b2, lo, hi, e3, h3⟩ := hI.z.2 _ hm
    have e2 : kZ y = kZ y2 := e2
    have e3 : d = .tuple [oI lo, oI hi] := e3
    have e4 : y.1 = y2.1 := by injection e2 with q _; injection q
    have e5 : y.2 = y2.2 := by injection e2 with _ q; injection q with q _; injection q
    refine ⟨_, true, rfl, rfl, fun _ => ⟨szI (y.1, y.2, lo, hi), ?_, _, rfl, by rw [e4]; exact b2.1, h3, by show okS y.2; rw [e5]; exact b2.2⟩⟩
    have eg : getT S (keyP (kZ y)) = .ok (.tuple [oI lo, oI hi]) := by
      unfold getT
      show (match (some (kZ y) : Option (List Key)) with | some k => (match valT S k with | some d => R.ok d | none => .bad) | none => .bad) = _
      dsimp only
      rw [hd, e3]
    rw [op_ok (a := keyP (kZ y)) (b := .tuple [oI lo, oI hi]) rfl (by
      rw [x_eDgetT]
      show R.bind (R.ok S) _ = _
      rw [x_bind_ok]
      show R.bind (R.ok (keyP (kZ y))) _ = _
      rw [x_bind_ok, eg])]
    show addD (.tuple [_, _]) (.tuple [_, _]) = _
    rw [x_add_t, if_pos (sz (by simp))]
    rfl)
  obtain ⟨sz', esz, hsz⟩ := lift_list hr
  subst esz
  have pe : (fun y => keyP (kJ y)) = jnI := rfl
  rw [pe] at ej
  refine hs_ret (x := rdD ⟨ps', cl, js, sz', T⟩) ?_ ⟨_, rfl, hp', ⟨by have := hg.c1; exact this, fun q hq => by have := hg.c2 q hq; rw [pl']; exact this⟩, ⟨by show js.length ≤ 4; omega, fun q hq => by rw [pl']; exact (hj q hq).1⟩, ⟨by
    show sz'.length ≤ 4
    rw [List.length_map, List.length_map] at hrl
    omega, fun q hq => by rw [pl']; exact hsz q hq⟩, ⟨by have := hI.t.1; exact this, fun q hq => by rw [pl']; exact hI.t.2 q hq⟩⟩
  simp -implicitDefEqProofs only [s0, s1, s2, s3, s4, s5, s6, s7, s8, s9, x_max2, x_int_b, x_int_i, x_tuple_l, startD, List.length_cons, List.length_nil, List.map_cons, List.map_nil, List.cons_append, List.nil_append, Nat.reduceAdd, Nat.reduceSub, List.replicate, List.set_cons_zero, List.set_cons_succ, x_wipe_cons, x_wipe_nil, x_eOp, x_eC, x_eCB, x_aCons, x_aNil, x_bind_ok, x_add_i, x_len_s, x_len_l, x_len_t, x_bOf, x_eTup, x_eFz, x_oLst, x_eCall, x_aName, x_aTup, x_asCons, x_asNil, x_mod, x_div, x_bAnd, x_bOr, x_bNot, x_asB, x_sub_i, x_neg_i, x_toE_d, x_toE_o, x_notDict, if_true, if_false, reduceIte, Int.reduceLT, Int.reduceAdd, Int.reduceSub, Int.reduceMul, Int.reduceNeg, Int.reducePow, rVar, eVar, hVar, List.getElem?_cons_zero, List.getElem?_cons_succ, ej, er]
  rfl
end
end K16
namespace K16
open PySem L2 DL
/-! ### a thing's part -/
def ptI (p : Str × List (Str × Int)) : PD := .tuple [.str p.1, .list (p.2.map stI)]
def PpOK (nm : List Str) (p : Str × List (Str × Int)) : Prop := p.1 ∈ nm ∧ p.2.length ≤ 5 ∧ ∀ s ∈ p.2, okS s.1
def bdI (r : Str × Option Int × Option Int) : PD := .tuple [.str r.1, oI r.2.1, oI r.2.2]
def BdOK (r : Str × Option Int × Option Int) : Prop := (r.2.1 ≠ none ∨ r.2.2 ≠ none) ∧ okS r.1
section
variable (ns : List Int) (at' : Int) (ws : Ks) (nm : List Str) (a b c : List Str) (al : PD) (bs : List (Str × Option Int × Option Int))
def pSt (n : Int) (l : List Str) (es : List (Str × Int)) : Rho :=
  [some (.d (scr ns)), some (.d (.int at')), some (.d (kD ws)), some (.d al), some (.d (.list (bs.map bdI))), some (.d (wD a b c)), some (.d (.int n)), some (.d (.list (l.map PyData.str))), some (.o (.dict (es.map enI))), none, none, none]
def pQ (x : Sl) : Prop := ∃ p, x = .d (ptI p) ∧ PpOK nm p
variable {ns at' ws nm a b c al bs}
theorem dput_si {ρ : Rho} {N : Rho → Prop} {Rt : Sl → Prop} {Ct : Rho → Prop} {i : Nat} {gk gv : Rho → R PD} {es : List (Str × Int)} {w : Str} {j : Int} (h : ρ[i]? = some (some (.t (.own (.dict (es.map enI)))))) (e : gk ρ = .ok (.str w)) (e2 : gv ρ = .ok (.int j)) (hl : es.length ≤ 100) (n : ∀ es' : List (Str × Int), es'.length ≤ es.length + 1 → (∀ e ∈ es', e ∈ es ∨ e = (w, j)) → N (ρ.set i (some (.o (.dict (es'.map enI)))))) : HS (sDput i gk gv) ρ N Rt Ct := by
  obtain ⟨es', q1, q2, q3⟩ := putD_si es w j
  refine hs_dput (kvs := es.map enI) h e e2 (by rw [List.length_map]; exact szl (by omega)) ?_
  rw [q1]
  exact n es' q2 q3
theorem part_for (hl : ns.length ≤ 63) (a0 : 0 ≤ at') (a1 : at' ≤ 900) (gk : GK ws) (hnm : ws.map (·.1) = nm) (wa : Wds a 3) (L : Int) (hL : 0 < L) (eL : lenD [al] = .ok (.int L)) (ei : ∀ i, 0 ≤ i → i < L → ∃ w ∈ nm, ixD al (.int i) = .ok (.str w))
    (bl : bs.length ≤ 4) (bo : ∀ r ∈ bs, BdOK r) : ∃ x, d_law_part_for [scr ns, .int at', kD ws, al, .list (bs.map bdI), wD a b c] = .rt x ∧ pQ nm x := by
  obtain ⟨n, en, n0, n1⟩ := mix_ok ns at' hl a0 (by omega)
  obtain ⟨k, hk, ek⟩ := ei (n % L) (Int.emod_nonneg _ (by omega)) (Int.emod_lt_of_pos _ hL)
  obtain ⟨l, el, l0, l8, lm⟩ := low_ok gk hnm k hk
  have l0 : 0 < l.length := List.length_pos_iff.mpr l0
  have l1 : (0 : Int) < (l.length : Int) := by omega
  refine hs_run (n := 12) (s := S_law_part_for) (ds := [scr ns, .int at', kD ws, al, .list (bs.map bdI), wD a b c]) (Q := pQ nm) ?_
  unfold S_law_part_for
  simp -implicitDefEqProofs only [startD, List.length_cons, List.length_nil, List.map_cons, List.map_nil, List.cons_append, List.nil_append, Nat.reduceAdd, Nat.reduceSub, List.replicate, List.set_cons_zero, List.set_cons_succ, List.foldl_cons, List.foldl_nil, x_killD_n, x_killD_c, x_slOf_f, x_slOf_o, x_slOf_t, x_slOf_k]
  refine hs_seq (hs_set (x := .int n) (by simp -implicitDefEqProofs only [s0, s1, s2, s3, s4, s5, s6, s7, s8, s9, x_max2, x_int_b, x_int_i, x_tuple_l, startD, List.length_cons, List.length_nil, List.map_cons, List.map_nil, List.cons_append, List.nil_append, Nat.reduceAdd, Nat.reduceSub, List.replicate, List.set_cons_zero, List.set_cons_succ, x_wipe_cons, x_wipe_nil, x_eOp, x_eC, x_eCB, x_aCons, x_aNil, x_bind_ok, x_add_i, x_len_s, x_len_l, x_len_t, x_bOf, x_eTup, x_eFz, x_oLst, x_eCall, x_aName, x_aTup, x_asCons, x_asNil, x_mod, x_div, x_bAnd, x_bOr, x_bNot, x_asB, x_sub_i, x_neg_i, x_toE_d, x_toE_o, x_notDict, if_true, if_false, reduceIte, Int.reduceLT, Int.reduceAdd, Int.reduceSub, Int.reduceMul, Int.reduceNeg, Int.reducePow, rVar, eVar, hVar, List.getElem?_cons_zero, List.getElem?_cons_succ, en]) ?_)
  simp -implicitDefEqProofs only [startD, List.length_cons, List.length_nil, List.map_cons, List.map_nil, List.cons_append, List.nil_append, Nat.reduceAdd, Nat.reduceSub, List.replicate, List.set_cons_zero, List.set_cons_succ, List.foldl_cons, List.foldl_nil, x_killD_n, x_killD_c, x_slOf_f, x_slOf_o, x_slOf_t, x_slOf_k]
  refine hs_seq (hs_set (x := .list (l.map PyData.str)) (by simp -implicitDefEqProofs only [s0, s1, s2, s3, s4, s5, s6, s7, s8, s9, x_max2, x_int_b, x_int_i, x_tuple_l, startD, List.length_cons, List.length_nil, List.map_cons, List.map_nil, List.cons_append, List.nil_append, Nat.reduceAdd, Nat.reduceSub, List.replicate, List.set_cons_zero, List.set_cons_succ, x_wipe_cons, x_wipe_nil, x_eOp, x_eC, x_eCB, x_aCons, x_aNil, x_bind_ok, x_add_i, x_len_s, x_len_l, x_len_t, x_bOf, x_eTup, x_eFz, x_oLst, x_eCall, x_aName, x_aTup, x_asCons, x_asNil, x_mod, x_div, x_bAnd, x_bOr, x_bNot, x_asB, x_sub_i, x_neg_i, x_toE_d, x_toE_o, x_notDict, if_true, if_false, reduceIte, Int.reduceLT, Int.reduceAdd, Int.reduceSub, Int.reduceMul, Int.reduceNeg, Int.reducePow, rVar, eVar, hVar, List.getElem?_cons_zero, List.getElem?_cons_succ, eL, hL, ek, el]) ?_)
  simp -implicitDefEqProofs only [startD, List.length_cons, List.length_nil, List.map_cons, List.map_nil, List.cons_append, List.nil_append, Nat.reduceAdd, Nat.reduceSub, List.replicate, List.set_cons_zero, List.set_cons_succ, List.foldl_cons, List.foldl_nil, x_killD_n, x_killD_c, x_slOf_f, x_slOf_o, x_slOf_t, x_slOf_k]
  refine hs_seq (hs_setO (x := .dict ([].map enI)) rfl ?_)
  simp -implicitDefEqProofs only [startD, List.length_cons, List.length_nil, List.map_cons, List.map_nil, List.cons_append, List.nil_append, Nat.reduceAdd, Nat.reduceSub, List.replicate, List.set_cons_zero, List.set_cons_succ, List.foldl_cons, List.foldl_nil, x_killD_n, x_killD_c, x_slOf_f, x_slOf_o, x_slOf_t, x_slOf_k]
  have sd : ∀ es : List (Str × Int), [some (.d (scr ns)), some (.d (.int at')), some (.d (kD ws)), some (.d al), some (.d (.list (bs.map bdI))), some (.d (wD a b c)), some (.d (.int n)), some (.d (.list (l.map PyData.str))), some (.o (.dict (es.map enI))), none, none, none] = pSt ns at' ws a b c al bs n l es := fun _ => rfl
  refine hs_cut (P := fun ρ => ∃ es, ρ = pSt ns at' ws a b c al bs n l es ∧ es.length ≤ 1 ∧ ∀ e ∈ es, okS e.1) ?_ ?_
  · refine hs_ifX (xEqI (i := n / 64 % 3) (j := 0) (by simp -implicitDefEqProofs only [s0, s1, s2, s3, s4, s5, s6, s7, s8, s9, x_max2, x_int_b, x_int_i, x_tuple_l, startD, List.length_cons, List.length_nil, List.map_cons, List.map_nil, List.cons_append, List.nil_append, Nat.reduceAdd, Nat.reduceSub, List.replicate, List.set_cons_zero, List.set_cons_succ, x_wipe_cons, x_wipe_nil, x_eOp, x_eC, x_eCB, x_aCons, x_aNil, x_bind_ok, x_add_i, x_len_s, x_len_l, x_len_t, x_bOf, x_eTup, x_eFz, x_oLst, x_eCall, x_aName, x_aTup, x_asCons, x_asNil, x_mod, x_div, x_bAnd, x_bOr, x_bNot, x_asB, x_sub_i, x_neg_i, x_toE_d, x_toE_o, x_notDict, if_true, if_false, reduceIte, Int.reduceLT, Int.reduceAdd, Int.reduceSub, Int.reduceMul, Int.reduceNeg, Int.reducePow, rVar, eVar, hVar, List.getElem?_cons_zero, List.getElem?_cons_succ]) rfl) ?_ (hs_next ⟨[], rfl, by simp, fun e h => by cases h⟩)
    obtain ⟨w, hw', hw, ew⟩ := ix_list a PyData.str (n / 192 % 3) (by omega) (by rw [wa.1]; omega)
    refine dput_si (es := []) (w := w) (j := n / 600 % 7 - 2) rfl ?_ ?_ (by simp) fun es' q1 q2 => ⟨es', rfl, by simpa using q1, fun e he => ?_⟩
    · simp -implicitDefEqProofs only [s0, s1, s2, s3, s4, s5, s6, s7, s8, s9, x_max2, x_int_b, x_int_i, x_tuple_l, startD, List.length_cons, List.length_nil, List.map_cons, List.map_nil, List.cons_append, List.nil_append, Nat.reduceAdd, Nat.reduceSub, List.replicate, List.set_cons_zero, List.set_cons_succ, x_wipe_cons, x_wipe_nil, x_eOp, x_eC, x_eCB, x_aCons, x_aNil, x_bind_ok, x_add_i, x_len_s, x_len_l, x_len_t, x_bOf, x_eTup, x_eFz, x_oLst, x_eCall, x_aName, x_aTup, x_asCons, x_asNil, x_mod, x_div, x_bAnd, x_bOr, x_bNot, x_asB, x_sub_i, x_neg_i, x_toE_d, x_toE_o, x_notDict, if_true, if_false, reduceIte, Int.reduceLT, Int.reduceAdd, Int.reduceSub, Int.reduceMul, Int.reduceNeg, Int.reducePow, rVar, eVar, hVar, List.getElem?_cons_zero, List.getElem?_cons_succ, wD0, ew]
    · simp -implicitDefEqProofs only [s0, s1, s2, s3, s4, s5, s6, s7, s8, s9, x_max2, x_int_b, x_int_i, x_tuple_l, startD, List.length_cons, List.length_nil, List.map_cons, List.map_nil, List.cons_append, List.nil_append, Nat.reduceAdd, Nat.reduceSub, List.replicate, List.set_cons_zero, List.set_cons_succ, x_wipe_cons, x_wipe_nil, x_eOp, x_eC, x_eCB, x_aCons, x_aNil, x_bind_ok, x_add_i, x_len_s, x_len_l, x_len_t, x_bOf, x_eTup, x_eFz, x_oLst, x_eCall, x_aName, x_aTup, x_asCons, x_asNil, x_mod, x_div, x_bAnd, x_bOr, x_bNot, x_asB, x_sub_i, x_neg_i, x_toE_d, x_toE_o, x_notDict, if_true, if_false, reduceIte, Int.reduceLT, Int.reduceAdd, Int.reduceSub, Int.reduceMul, Int.reduceNeg, Int.reducePow, rVar, eVar, hVar, List.getElem?_cons_zero, List.getElem?_cons_succ]
    · rcases q2 e he with h | h
      · cases h
      · rw [h, hw]
        exact (wa.2.2 _ (List.getElem_mem _)).2.2
  rintro _ ⟨es0, rfl, e0l, e0⟩
  refine hs_cut (P := fun ρ => ∃ es, ρ = pSt ns at' ws a b c al bs n l es ∧ es.length ≤ 5 ∧ ∀ e ∈ es, okS e.1) (hs_pre ?_) ?_
  · unfold pSt
    simp -implicitDefEqProofs only [startD, List.length_cons, List.length_nil, List.map_cons, List.map_nil, List.cons_append, List.nil_append, Nat.reduceAdd, Nat.reduceSub, List.replicate, List.set_cons_zero, List.set_cons_succ, List.foldl_cons, List.foldl_nil, x_killD_n, x_killD_c, x_slOf_f, x_slOf_o, x_slOf_t, x_slOf_k]
    refine hs_forL bdI bs rfl (fun i ρ => ∃ es, ρ = pSt ns at' ws a b c al bs n l es ∧ es.length ≤ 1 + i ∧ ∀ e ∈ es, okS e.1) ⟨es0, rfl, by omega, e0⟩ (fun i r ρ hr hI => ?_) fun ρ hI => ?_
    · obtain ⟨es, rfl, esl, eso⟩ := hI
      have hi : i < bs.length := (List.getElem?_eq_some_iff.mp hr).1
      have ro : BdOK r := bo r (List.mem_of_getElem? hr)
      obtain ⟨w, lo, hi'⟩ := r
      unfold pSt
      refine ⟨_, rfl, ?_⟩
      simp -implicitDefEqProofs only [startD, List.length_cons, List.length_nil, List.map_cons, List.map_nil, List.cons_append, List.nil_append, Nat.reduceAdd, Nat.reduceSub, List.replicate, List.set_cons_zero, List.set_cons_succ, List.foldl_cons, List.foldl_nil, x_killD_n, x_killD_c, x_slOf_f, x_slOf_o, x_slOf_t, x_slOf_k]
      have nx : ∀ (j : Int) (es' : List (Str × Int)), es'.length ≤ es.length + 1 → (∀ e ∈ es', e ∈ es ∨ e = (w, j)) → es'.length ≤ 1 + (i + 1) ∧ ∀ e ∈ es', okS e.1 := fun j es' q1 q2 => ⟨by omega, fun e he => by
        rcases q2 e he with h | h
        · exact eso e h
        · rw [h]; exact ro.2⟩
      cases lo with
      | none =>
        cases hi' with
        | none => exact absurd ro.1 (by simp)
        | some hi' =>
          refine hs_if (c := true) rfl (fun _ => ?_) (fun q => by cases q)
          exact dput_si (es := es) (w := w) (j := hi' - n / 7 % 3) rfl rfl (by simp -implicitDefEqProofs only [s0, s1, s2, s3, s4, s5, s6, s7, s8, s9, x_max2, x_int_b, x_int_i, x_tuple_l, startD, List.length_cons, List.length_nil, List.map_cons, List.map_nil, List.cons_append, List.nil_append, Nat.reduceAdd, Nat.reduceSub, List.replicate, List.set_cons_zero, List.set_cons_succ, x_wipe_cons, x_wipe_nil, x_eOp, x_eC, x_eCB, x_aCons, x_aNil, x_bind_ok, x_add_i, x_len_s, x_len_l, x_len_t, x_bOf, x_eTup, x_eFz, x_oLst, x_eCall, x_aName, x_aTup, x_asCons, x_asNil, x_mod, x_div, x_bAnd, x_bOr, x_bNot, x_asB, x_sub_i, x_neg_i, x_toE_d, x_toE_o, x_notDict, if_true, if_false, reduceIte, Int.reduceLT, Int.reduceAdd, Int.reduceSub, Int.reduceMul, Int.reduceNeg, Int.reducePow, rVar, eVar, hVar, List.getElem?_cons_zero, List.getElem?_cons_succ, oI]) (by omega) fun es' q1 q2 => ⟨es', rfl, nx _ es' q1 q2⟩
      | some lo =>
        refine hs_if (c := false) rfl (fun q => by cases q) (fun _ => ?_)
        cases hi' with
        | none =>
          refine hs_if (c := true) rfl (fun _ => ?_) (fun q => by cases q)
          exact dput_si (es := es) (w := w) (j := lo + n / 7 % 3) rfl rfl (by simp -implicitDefEqProofs only [s0, s1, s2, s3, s4, s5, s6, s7, s8, s9, x_max2, x_int_b, x_int_i, x_tuple_l, startD, List.length_cons, List.length_nil, List.map_cons, List.map_nil, List.cons_append, List.nil_append, Nat.reduceAdd, Nat.reduceSub, List.replicate, List.set_cons_zero, List.set_cons_succ, x_wipe_cons, x_wipe_nil, x_eOp, x_eC, x_eCB, x_aCons, x_aNil, x_bind_ok, x_add_i, x_len_s, x_len_l, x_len_t, x_bOf, x_eTup, x_eFz, x_oLst, x_eCall, x_aName, x_aTup, x_asCons, x_asNil, x_mod, x_div, x_bAnd, x_bOr, x_bNot, x_asB, x_sub_i, x_neg_i, x_toE_d, x_toE_o, x_notDict, if_true, if_false, reduceIte, Int.reduceLT, Int.reduceAdd, Int.reduceSub, Int.reduceMul, Int.reduceNeg, Int.reducePow, rVar, eVar, hVar, List.getElem?_cons_zero, List.getElem?_cons_succ, oI]) (by omega) fun es' q1 q2 => ⟨es', rfl, nx _ es' q1 q2⟩
        | some hi' =>
          refine hs_if (c := false) rfl (fun q => by cases q) (fun _ => ?_)
          obtain ⟨M, hM, M0⟩ : ∃ M : Int, (if hi' - lo + 1 > 1 then hi' - lo + 1 else 1) = M ∧ 0 < M := by
            by_cases c : hi' - lo + 1 > 1
            · exact ⟨_, if_pos c, by omega⟩
            · exact ⟨_, if_neg c, by decide⟩
          exact dput_si (es := es) (w := w) (j := lo + n / 7 % M) rfl rfl (by simp -implicitDefEqProofs only [s0, s1, s2, s3, s4, s5, s6, s7, s8, s9, x_max2, x_int_b, x_int_i, x_tuple_l, startD, List.length_cons, List.length_nil, List.map_cons, List.map_nil, List.cons_append, List.nil_append, Nat.reduceAdd, Nat.reduceSub, List.replicate, List.set_cons_zero, List.set_cons_succ, x_wipe_cons, x_wipe_nil, x_eOp, x_eC, x_eCB, x_aCons, x_aNil, x_bind_ok, x_add_i, x_len_s, x_len_l, x_len_t, x_bOf, x_eTup, x_eFz, x_oLst, x_eCall, x_aName, x_aTup, x_asCons, x_asNil, x_mod, x_div, x_bAnd, x_bOr, x_bNot, x_asB, x_sub_i, x_neg_i, x_toE_d, x_toE_o, x_notDict, if_true, if_false, reduceIte, Int.reduceLT, Int.reduceAdd, Int.reduceSub, Int.reduceMul, Int.reduceNeg, Int.reducePow, rVar, eVar, hVar, List.getElem?_cons_zero, List.getElem?_cons_succ, oI, hM, M0]) (by omega) fun es' q1 q2 => ⟨es', rfl, nx _ es' q1 q2⟩
    · obtain ⟨es, rfl, esl, eso⟩ := hI
      exact ⟨es, rfl, by omega, eso⟩
  rintro _ ⟨es, rfl, esl, eso⟩
  unfold pSt
  obtain ⟨u, hu', hu, eu⟩ := ix_list l PyData.str (n / 4 % l.length) (Int.emod_nonneg _ (by omega)) (Int.emod_lt_of_pos _ l1)
  obtain ⟨ys, ey, py⟩ := sortIt_ok (i := 8) (ρ := [some (.d (scr ns)), some (.d (.int at')), some (.d (kD ws)), some (.d al), some (.d (.list (bs.map bdI))), some (.d (wD a b c)), some (.d (.int n)), some (.d (.list (l.map PyData.str))), some (.o (.dict (es.map enI))), none, none, none]) es rfl
  refine hs_ret (x := ptI (u, ys)) ?_ ⟨_, rfl, by rw [hu]; exact lm _ (List.getElem_mem _), by rw [py.length_eq]; exact esl, fun s hs => eso s (py.mem_iff.mp hs)⟩
  simp -implicitDefEqProofs only [s0, s1, s2, s3, s4, s5, s6, s7, s8, s9, x_max2, x_int_b, x_int_i, x_tuple_l, startD, List.length_cons, List.length_nil, List.map_cons, List.map_nil, List.cons_append, List.nil_append, Nat.reduceAdd, Nat.reduceSub, List.replicate, List.set_cons_zero, List.set_cons_succ, x_wipe_cons, x_wipe_nil, x_eOp, x_eC, x_eCB, x_aCons, x_aNil, x_bind_ok, x_add_i, x_len_s, x_len_l, x_len_t, x_bOf, x_eTup, x_eFz, x_oLst, x_eCall, x_aName, x_aTup, x_asCons, x_asNil, x_mod, x_div, x_bAnd, x_bOr, x_bNot, x_asB, x_sub_i, x_neg_i, x_toE_d, x_toE_o, x_notDict, if_true, if_false, reduceIte, Int.reduceLT, Int.reduceAdd, Int.reduceSub, Int.reduceMul, Int.reduceNeg, Int.reducePow, rVar, eVar, hVar, List.getElem?_cons_zero, List.getElem?_cons_succ, ey, List.length_map, l1, eu]
  rfl
end
end K16
namespace K16
open PySem L2 DL
/-! ### a thing -/
structure Th where
  ps : List (Str × List (Str × Int))
  js : List (Str × Int × Int)
  st : List (Str × Int)
def thD (t : Th) : PD := .tuple [.list (t.ps.map ptI), .list (t.js.map jnI), .list (t.st.map stI)]
structure ThOK (nm : List Str) (n : Nat) (t : Th) : Prop where
  p : t.ps.length ≤ n ∧ ∀ p ∈ t.ps, PpOK nm p
  j : t.js.length ≤ 6 ∧ ∀ j ∈ t.js, okS j.1
  s : t.st.length ≤ 10 ∧ ∀ s ∈ t.st, okS s.1
section
variable (ns : List Int) (at' : Int) (ws : Ks) (nm : List Str) (a b c : List Str) (r : Rd)
def tSt (pp : List (Str × List (Str × Int))) (v6 v9 v10 v12 v13 v14 v15 v17 : Option Sl) : Rho :=
  [some (.d (scr ns)), some (.d (.int at')), some (.d (kD ws)), some (.d (rdD r)), some (.d (wD a b c)), some (.o (.list (pp.map ptI))), v6, none, none, v9, v10, none, v12, v13, v14, v15, none, v17, none, none]
def tQ (n : Nat) (x : Sl) : Prop := ∃ t, x = .d (thD t) ∧ ThOK nm n t
def Od (n : Nat) (od : List Int) : Prop := od.length = n ∧ (∀ k : Nat, k < n → (k : Int) ∈ od) ∧ ∀ x ∈ od, 0 ≤ x ∧ x < n
def Jd (k : Nat) (J : List (List Key × PD)) : Prop := J.length ≤ k ∧ ∀ p ∈ J, ∃ y : Str × Int × Int, p.1 = kJ y ∧ okS y.1
def Sd (k : Nat) (T : List (Str × Int)) : Prop := T.length ≤ k ∧ ∀ s ∈ T, okS s.1
variable {ns at' ws nm a b c r}
theorem rd0 : ixD (rdD r) (.int 0) = .ok (.list (r.ps.map tS)) := x_ix_t _ _ _ (by decide) rfl
theorem rd1 : ixD (rdD r) (.int 1) = .ok (.list (r.cl.map clI)) := x_ix_t _ _ _ (by decide) rfl
theorem rd2 : ixD (rdD r) (.int 2) = .ok (.list (r.js.map jnI)) := x_ix_t _ _ _ (by decide) rfl
theorem rd3 : ixD (rdD r) (.int 3) = .ok (.list (r.sz.map szI)) := x_ix_t _ _ _ (by decide) rfl
theorem rd4 : ixD (rdD r) (.int 4) = .ok (.list (r.st.map stI)) := x_ix_t _ _ _ (by decide) rfl
theorem Od.ins {n : Nat} {od : List Int} (h : Od n od) (j : Nat) : Od (n + 1) (od.take j ++ [(n : Int)] ++ od.drop j) := by
  obtain ⟨h1, h2, h3⟩ := h
  have pm : (od.take j ++ [(n : Int)] ++ od.drop j).Perm ((n : Int) :: od) := by
    have e : (n : Int) :: od = (n : Int) :: (od.take j ++ od.drop j) := by rw [List.take_append_drop]
    rw [e, List.append_assoc]
    exact List.perm_middle
  refine ⟨by rw [pm.length_eq, List.length_cons, h1], fun k hk => pm.mem_iff.mpr ?_, fun x hx => ?_⟩
  · by_cases c : k < n
    · exact List.mem_cons_of_mem _ (h2 k c)
    · have : k = n := by omega
      rw [this]
      exact List.mem_cons_self
  · rcases List.mem_cons.mp (pm.mem_iff.mp hx) with e | e
    · omega
    · have := h3 x e
      omega
theorem thing_for (hl : ns.length ≤ 63) (a0 : 0 ≤ at') (a1 : at' ≤ 800) (gk : GK ws) (hnm : ws.map (·.1) = nm) (wa : Wds a 3) (wb : Wds b 2) (wc : Wds c 2) (ro : RdOK nm r) : ∃ x, d_law_thing_for [scr ns, .int at', kD ws, rdD r, wD a b c] = .rt x ∧ tQ nm 7 x := by
  refine hs_run (n := 20) (s := S_law_thing_for) (ds := [scr ns, .int at', kD ws, rdD r, wD a b c]) (Q := tQ nm 7) ?_
  unfold S_law_thing_for
  have pl := ro.p.p1
  simp -implicitDefEqProofs only [startD, List.length_cons, List.length_nil, List.map_cons, List.map_nil, List.cons_append, List.nil_append, Nat.reduceAdd, Nat.reduceSub, List.replicate, List.set_cons_zero, List.set_cons_succ, List.foldl_cons, List.foldl_nil, x_killD_n, x_killD_c, x_slOf_f, x_slOf_o, x_slOf_t, x_slOf_k]
  refine hs_seq (hs_setO (x := .list []) (by simp -implicitDefEqProofs only [s0, s1, s2, s3, s4, s5, s6, s7, s8, s9, x_max2, x_int_b, x_int_i, x_tuple_l, startD, List.length_cons, List.length_nil, List.map_cons, List.map_nil, List.cons_append, List.nil_append, Nat.reduceAdd, Nat.reduceSub, List.replicate, List.set_cons_zero, List.set_cons_succ, x_wipe_cons, x_wipe_nil, x_eOp, x_eC, x_eCB, x_aCons, x_aNil, x_bind_ok, x_add_i, x_len_s, x_len_l, x_len_t, x_bOf, x_eTup, x_eFz, x_oLst, x_eCall, x_aName, x_aTup, x_asCons, x_asNil, x_mod, x_div, x_bAnd, x_bOr, x_bNot, x_asB, x_sub_i, x_neg_i, x_toE_d, x_toE_o, x_notDict, if_true, if_false, reduceIte, Int.reduceLT, Int.reduceAdd, Int.reduceSub, Int.reduceMul, Int.reduceNeg, Int.reducePow, rVar, eVar, hVar, List.getElem?_cons_zero, List.getElem?_cons_succ]) ?_)
  simp -implicitDefEqProofs only [startD, List.length_cons, List.length_nil, List.map_cons, List.map_nil, List.cons_append, List.nil_append, Nat.reduceAdd, Nat.reduceSub, List.replicate, List.set_cons_zero, List.set_cons_succ, List.foldl_cons, List.foldl_nil, x_killD_n, x_killD_c, x_slOf_f, x_slOf_o, x_slOf_t, x_slOf_k]
  -- its parts
  have pfor : ∀ (at2 : Int) (al : PD) (bs : List (Str × Option Int × Option Int)) (L : Int), 0 ≤ at2 → at2 ≤ 900 → 0 < L → lenD [al] = .ok (.int L) → (∀ i, 0 ≤ i → i < L → ∃ w ∈ nm, ixD al (.int i) = .ok (.str w)) → bs.length ≤ 4 → (∀ r ∈ bs, BdOK r) → ∃ p, d_law_part_for [scr ns, .int at2, kD ws, al, .list (bs.map bdI), wD a b c] = .rt (.d (ptI p)) ∧ PpOK nm p := fun at2 al bs L h1 h2 h3 h4 h5 h6 h7 => by
    obtain ⟨x, e, p, rfl, hp⟩ := part_for (b := b) (c := c) hl h1 h2 gk hnm wa L h3 h4 h5 h6 h7
    exact ⟨p, e, hp⟩
  refine hs_cut (P := fun ρ => ∃ pp v6, ρ = tSt ns at' ws a b c r pp v6 none none none none none none none ∧ pp.length = r.ps.length ∧ ∀ p ∈ pp, PpOK nm p) (hs_pre ?_) ?_
  · simp -implicitDefEqProofs only [startD, List.length_cons, List.length_nil, List.map_cons, List.map_nil, List.cons_append, List.nil_append, Nat.reduceAdd, Nat.reduceSub, List.replicate, List.set_cons_zero, List.set_cons_succ, List.foldl_cons, List.foldl_nil, x_killD_n, x_killD_c, x_slOf_f, x_slOf_o, x_slOf_t, x_slOf_k]
    refine hs_forL (fun p : List Str × Nat => PyData.tuple [.int ((p.2 : Nat) : Int), tS p.1]) r.ps.zipIdx ?_ (fun i ρ => ∃ pp v6, ρ = tSt ns at' ws a b c r pp v6 none none none none none none none ∧ pp.length = i ∧ ∀ p ∈ pp, PpOK nm p) ⟨[], none, rfl, rfl, fun p h => by cases h⟩ (fun i p ρ hp hI => ?_) fun ρ hI => ?_
    · rw [enum_st (l := r.ps.map tS) (by simp -implicitDefEqProofs only [s0, s1, s2, s3, s4, s5, s6, s7, s8, s9, x_max2, x_int_b, x_int_i, x_tuple_l, startD, List.length_cons, List.length_nil, List.map_cons, List.map_nil, List.cons_append, List.nil_append, Nat.reduceAdd, Nat.reduceSub, List.replicate, List.set_cons_zero, List.set_cons_succ, x_wipe_cons, x_wipe_nil, x_eOp, x_eC, x_eCB, x_aCons, x_aNil, x_bind_ok, x_add_i, x_len_s, x_len_l, x_len_t, x_bOf, x_eTup, x_eFz, x_oLst, x_eCall, x_aName, x_aTup, x_asCons, x_asNil, x_mod, x_div, x_bAnd, x_bOr, x_bNot, x_asB, x_sub_i, x_neg_i, x_toE_d, x_toE_o, x_notDict, if_true, if_false, reduceIte, Int.reduceLT, Int.reduceAdd, Int.reduceSub, Int.reduceMul, Int.reduceNeg, Int.reducePow, rVar, eVar, hVar, List.getElem?_cons_zero, List.getElem?_cons_succ, rd0]), enum_map]
    · obtain ⟨pp, v6, rfl, ppl, ppo⟩ := hI
      obtain ⟨al, j⟩ := p
      obtain ⟨rfl, hi, hal⟩ := zip_at hp
      have ao : PtOK nm al := ro.p.p2 al (by rw [← hal]; exact List.getElem_mem _)
      have a00 : 0 < al.length := List.length_pos_iff.mpr ao.1
      unfold tSt
      refine ⟨_, rfl, ?_⟩
      simp -implicitDefEqProofs only [startD, List.length_cons, List.length_nil, List.map_cons, List.map_nil, List.cons_append, List.nil_append, Nat.reduceAdd, Nat.reduceSub, List.replicate, List.set_cons_zero, List.set_cons_succ, List.foldl_cons, List.foldl_nil, x_killD_n, x_killD_c, x_slOf_f, x_slOf_o, x_slOf_t, x_slOf_k]
      refine hs_seq (hs_set (x := .list (((r.sz.filter fun s => decide (s.1 = (j : Int))).map (·.2)).map bdI)) (fz_l ?_) ?_)
      · rw [List.map_map (f := fun x : Int × Str × Option Int × Option Int => x.2)]
        refine lc_flt (xs := r.sz) szI (bdI ∘ (·.2)) (fun s => decide (s.1 = (j : Int))) (it_l ?_) (sz (by have := ro.z.1; omega)) fun s hs => ?_
        · simp -implicitDefEqProofs only [s0, s1, s2, s3, s4, s5, s6, s7, s8, s9, x_max2, x_int_b, x_int_i, x_tuple_l, startD, List.length_cons, List.length_nil, List.map_cons, List.map_nil, List.cons_append, List.nil_append, Nat.reduceAdd, Nat.reduceSub, List.replicate, List.set_cons_zero, List.set_cons_succ, x_wipe_cons, x_wipe_nil, x_eOp, x_eC, x_eCB, x_aCons, x_aNil, x_bind_ok, x_add_i, x_len_s, x_len_l, x_len_t, x_bOf, x_eTup, x_eFz, x_oLst, x_eCall, x_aName, x_aTup, x_asCons, x_asNil, x_mod, x_div, x_bAnd, x_bOr, x_bNot, x_asB, x_sub_i, x_neg_i, x_toE_d, x_toE_o, x_notDict, if_true, if_false, reduceIte, Int.reduceLT, Int.reduceAdd, Int.reduceSub, Int.reduceMul, Int.reduceNeg, Int.reducePow, rVar, eVar, hVar, List.getElem?_cons_zero, List.getElem?_cons_succ, rd3]
        · refine ⟨_, rfl, bof (op_ok (a := .int s.1) (b := .int (j : Nat)) ?_ rfl), fun _ => ?_⟩
          · simp -implicitDefEqProofs only [s0, s1, s2, s3, s4, s5, s6, s7, s8, s9, x_max2, x_int_b, x_int_i, x_tuple_l, startD, List.length_cons, List.length_nil, List.map_cons, List.map_nil, List.cons_append, List.nil_append, Nat.reduceAdd, Nat.reduceSub, List.replicate, List.set_cons_zero, List.set_cons_succ, x_wipe_cons, x_wipe_nil, x_eOp, x_eC, x_eCB, x_aCons, x_aNil, x_bind_ok, x_add_i, x_len_s, x_len_l, x_len_t, x_bOf, x_eTup, x_eFz, x_oLst, x_eCall, x_aName, x_aTup, x_asCons, x_asNil, x_mod, x_div, x_bAnd, x_bOr, x_bNot, x_asB, x_sub_i, x_neg_i, x_toE_d, x_toE_o, x_notDict, if_true, if_false, reduceIte, Int.reduceLT, Int.reduceAdd, Int.reduceSub, Int.reduceMul, Int.reduceNeg, Int.reducePow, rVar, eVar, hVar, List.getElem?_cons_zero, List.getElem?_cons_succ]
            exact x_ix_t _ _ _ (by decide) rfl
          · simp -implicitDefEqProofs only [s0, s1, s2, s3, s4, s5, s6, s7, s8, s9, x_max2, x_int_b, x_int_i, x_tuple_l, startD, List.length_cons, List.length_nil, List.map_cons, List.map_nil, List.cons_append, List.nil_append, Nat.reduceAdd, Nat.reduceSub, List.replicate, List.set_cons_zero, List.set_cons_succ, x_wipe_cons, x_wipe_nil, x_eOp, x_eC, x_eCB, x_aCons, x_aNil, x_bind_ok, x_add_i, x_len_s, x_len_l, x_len_t, x_bOf, x_eTup, x_eFz, x_oLst, x_eCall, x_aName, x_aTup, x_asCons, x_asNil, x_mod, x_div, x_bAnd, x_bOr, x_bNot, x_asB, x_sub_i, x_neg_i, x_toE_d, x_toE_o, x_notDict, if_true, if_false, reduceIte, Int.reduceLT, Int.reduceAdd, Int.reduceSub, Int.reduceMul, Int.reduceNeg, Int.reducePow, rVar, eVar, hVar, List.getElem?_cons_zero, List.getElem?_cons_succ, x_eSl, x_pSo, x_pNo, x_asI]
            rfl
      simp -implicitDefEqProofs only [startD, List.length_cons, List.length_nil, List.map_cons, List.map_nil, List.cons_append, List.nil_append, Nat.reduceAdd, Nat.reduceSub, List.replicate, List.set_cons_zero, List.set_cons_succ, List.foldl_cons, List.foldl_nil, x_killD_n, x_killD_c, x_slOf_f, x_slOf_o, x_slOf_t, x_slOf_k]
      obtain ⟨p, ep, po⟩ := pfor (at' + (j : Int)) (tS al) ((r.sz.filter fun s => decide (s.1 = (j : Int))).map (·.2)) al.length (by omega) (by omega) (by omega) (by unfold tS; rw [x_len_t, List.length_map]) (fun i h0 h1 => by
        obtain ⟨w, hw', hw, ew⟩ := ix_tup al PyData.str i h0 h1
        exact ⟨w, ao.2.2 w (by rw [hw]; exact List.getElem_mem _), ew⟩) (by
          rw [List.length_map]
          exact Nat.le_trans (List.length_filter_le _ _) ro.z.1) (fun q hq => by
          obtain ⟨s, hs, rfl⟩ := List.mem_map.mp hq
          have := (ro.z.2 s (List.mem_filter.mp hs).1).2
          exact this)
      refine hs_app (ds := pp.map ptI) (x := ptI p) rfl (by simp -implicitDefEqProofs only [s0, s1, s2, s3, s4, s5, s6, s7, s8, s9, x_max2, x_int_b, x_int_i, x_tuple_l, startD, List.length_cons, List.length_nil, List.map_cons, List.map_nil, List.cons_append, List.nil_append, Nat.reduceAdd, Nat.reduceSub, List.replicate, List.set_cons_zero, List.set_cons_succ, x_wipe_cons, x_wipe_nil, x_eOp, x_eC, x_eCB, x_aCons, x_aNil, x_bind_ok, x_add_i, x_len_s, x_len_l, x_len_t, x_bOf, x_eTup, x_eFz, x_oLst, x_eCall, x_aName, x_aTup, x_asCons, x_asNil, x_mod, x_div, x_bAnd, x_bOr, x_bNot, x_asB, x_sub_i, x_neg_i, x_toE_d, x_toE_o, x_notDict, if_true, if_false, reduceIte, Int.reduceLT, Int.reduceAdd, Int.reduceSub, Int.reduceMul, Int.reduceNeg, Int.reducePow, rVar, eVar, hVar, List.getElem?_cons_zero, List.getElem?_cons_succ, ep]) (by rw [List.length_map]; exact szl (by omega)) ⟨pp ++ [p], some (.d (.int (j : Nat))), ?_, by rw [List.length_append, ppl]; rfl, fun q hq => ?_⟩
      · rw [List.map_append]
        rfl
      · rcases List.mem_append.mp hq with h | h
        · exact ppo q h
        · rw [List.mem_singleton.mp h]; exact po
    · obtain ⟨pp, v6, rfl, ppl, ppo⟩ := hI
      rw [List.length_zipIdx] at ppl
      exact ⟨pp, v6, rfl, ppl, ppo⟩
  rintro _ ⟨pp, v6, rfl, ppl, ppo⟩
  unfold tSt
  obtain ⟨m, em, m0, m1⟩ := mix_ok ns (at' + 5) hl (by omega) (by omega)
  refine hs_seq (hs_set (x := .int m) (by simp -implicitDefEqProofs only [s0, s1, s2, s3, s4, s5, s6, s7, s8, s9, x_max2, x_int_b, x_int_i, x_tuple_l, startD, List.length_cons, List.length_nil, List.map_cons, List.map_nil, List.cons_append, List.nil_append, Nat.reduceAdd, Nat.reduceSub, List.replicate, List.set_cons_zero, List.set_cons_succ, x_wipe_cons, x_wipe_nil, x_eOp, x_eC, x_eCB, x_aCons, x_aNil, x_bind_ok, x_add_i, x_len_s, x_len_l, x_len_t, x_bOf, x_eTup, x_eFz, x_oLst, x_eCall, x_aName, x_aTup, x_asCons, x_asNil, x_mod, x_div, x_bAnd, x_bOr, x_bNot, x_asB, x_sub_i, x_neg_i, x_toE_d, x_toE_o, x_notDict, if_true, if_false, reduceIte, Int.reduceLT, Int.reduceAdd, Int.reduceSub, Int.reduceMul, Int.reduceNeg, Int.reducePow, rVar, eVar, hVar, List.getElem?_cons_zero, List.getElem?_cons_succ, em]) ?_)
  simp -implicitDefEqProofs only [startD, List.length_cons, List.length_nil, List.map_cons, List.map_nil, List.cons_append, List.nil_append, Nat.reduceAdd, Nat.reduceSub, List.replicate, List.set_cons_zero, List.set_cons_succ, List.foldl_cons, List.foldl_nil, x_killD_n, x_killD_c, x_slOf_f, x_slOf_o, x_slOf_t, x_slOf_k]
  -- parts more
  obtain ⟨M, hM, M2⟩ : ∃ M : Nat, m % 3 = (M : Int) ∧ M ≤ 2 := ⟨(m % 3).toNat, by omega, by omega⟩
  refine hs_cut (P := fun ρ => ∃ pp v10, ρ = tSt ns at' ws a b c r pp v6 (some (.d (.int m))) v10 none none none none none ∧ pp.length ≤ 7 ∧ r.ps.length ≤ pp.length ∧ ∀ p ∈ pp, PpOK nm p) (hs_pre ?_) ?_
  · simp -implicitDefEqProofs only [startD, List.length_cons, List.length_nil, List.map_cons, List.map_nil, List.cons_append, List.nil_append, Nat.reduceAdd, Nat.reduceSub, List.replicate, List.set_cons_zero, List.set_cons_succ, List.foldl_cons, List.foldl_nil, x_killD_n, x_killD_c, x_slOf_f, x_slOf_o, x_slOf_t, x_slOf_k]
    refine hs_rng M (rng_c (by simp -implicitDefEqProofs only [s0, s1, s2, s3, s4, s5, s6, s7, s8, s9, x_max2, x_int_b, x_int_i, x_tuple_l, startD, List.length_cons, List.length_nil, List.map_cons, List.map_nil, List.cons_append, List.nil_append, Nat.reduceAdd, Nat.reduceSub, List.replicate, List.set_cons_zero, List.set_cons_succ, x_wipe_cons, x_wipe_nil, x_eOp, x_eC, x_eCB, x_aCons, x_aNil, x_bind_ok, x_add_i, x_len_s, x_len_l, x_len_t, x_bOf, x_eTup, x_eFz, x_oLst, x_eCall, x_aName, x_aTup, x_asCons, x_asNil, x_mod, x_div, x_bAnd, x_bOr, x_bNot, x_asB, x_sub_i, x_neg_i, x_toE_d, x_toE_o, x_notDict, if_true, if_false, reduceIte, Int.reduceLT, Int.reduceAdd, Int.reduceSub, Int.reduceMul, Int.reduceNeg, Int.reducePow, rVar, eVar, hVar, List.getElem?_cons_zero, List.getElem?_cons_succ, hM]) (by omega)) (fun i ρ => ∃ pp v10, ρ = tSt ns at' ws a b c r pp v6 (some (.d (.int m))) v10 none none none none none ∧ pp.length = r.ps.length + i ∧ ∀ p ∈ pp, PpOK nm p) ⟨pp, none, rfl, by omega, ppo⟩ (fun i ρ hi hI => ?_) fun ρ hI => ?_
    · clear ppo ppl
      obtain ⟨pp, v10, rfl, ppl, ppo⟩ := hI
      unfold tSt
      refine ⟨_, rfl, ?_⟩
      simp -implicitDefEqProofs only [startD, List.length_cons, List.length_nil, List.map_cons, List.map_nil, List.cons_append, List.nil_append, Nat.reduceAdd, Nat.reduceSub, List.replicate, List.set_cons_zero, List.set_cons_succ, List.foldl_cons, List.foldl_nil, x_killD_n, x_killD_c, x_slOf_f, x_slOf_o, x_slOf_t, x_slOf_k]
      have wl := gk.2.1
      have hw : (0 : Int) < (ws.length : Int) := by omega
      have i3 : (0 : Int) < (i : Int) + 3 := by omega
      obtain ⟨k, hk', hk, ek⟩ := ix_list ws kI (m / ((i : Int) + 3) % ws.length) (Int.emod_nonneg _ (by omega)) (Int.emod_lt_of_pos _ hw)
      have lk : lenD [kD ws] = .ok (.int ws.length) := by unfold kD; rw [x_len_l, List.length_map]
      have ek : ixD (kD ws) (.int (m / ((i : Int) + 3) % ws.length)) = .ok (kI k) := ek
      have k0 : ixD (kI k) (.int 0) = .ok (.str k.1) := x_ix_t _ _ _ (by decide) rfl
      have ed := x_div m ((i : Int) + 3) (by omega) (by omega)
      refine hs_seq (hs_set (x := .str k.1) (by simp -implicitDefEqProofs only [s0, s1, s2, s3, s4, s5, s6, s7, s8, s9, x_max2, x_int_b, x_int_i, x_tuple_l, startD, List.length_cons, List.length_nil, List.map_cons, List.map_nil, List.cons_append, List.nil_append, Nat.reduceAdd, Nat.reduceSub, List.replicate, List.set_cons_zero, List.set_cons_succ, x_wipe_cons, x_wipe_nil, x_eOp, x_eC, x_eCB, x_aCons, x_aNil, x_bind_ok, x_add_i, x_len_s, x_len_l, x_len_t, x_bOf, x_eTup, x_eFz, x_oLst, x_eCall, x_aName, x_aTup, x_asCons, x_asNil, x_mod, x_div, x_bAnd, x_bOr, x_bNot, x_asB, x_sub_i, x_neg_i, x_toE_d, x_toE_o, x_notDict, if_true, if_false, reduceIte, Int.reduceLT, Int.reduceAdd, Int.reduceSub, Int.reduceMul, Int.reduceNeg, Int.reducePow, rVar, eVar, hVar, List.getElem?_cons_zero, List.getElem?_cons_succ, lk, hw, ed, ek, k0]) ?_)
      simp -implicitDefEqProofs only [startD, List.length_cons, List.length_nil, List.map_cons, List.map_nil, List.cons_append, List.nil_append, Nat.reduceAdd, Nat.reduceSub, List.replicate, List.set_cons_zero, List.set_cons_succ, List.foldl_cons, List.foldl_nil, x_killD_n, x_killD_c, x_slOf_f, x_slOf_o, x_slOf_t, x_slOf_k]
      have kn : k.1 ∈ nm := by rw [← hnm, hk]; exact List.mem_map_of_mem (List.getElem_mem _)
      obtain ⟨p, ep, po⟩ := pfor (at' + 6 + (i : Int)) (.list [.str k.1]) [] 1 (by omega) (by omega) (by omega) rfl (fun i h0 h1 => by
        have : i = 0 := by omega
        subst this
        exact ⟨k.1, kn, x_ix_l _ _ _ (by decide) rfl⟩) (by simp) (fun q hq => by cases hq)
      rw [List.map_nil] at ep
      refine hs_app (ds := pp.map ptI) (x := ptI p) rfl (by simp -implicitDefEqProofs only [s0, s1, s2, s3, s4, s5, s6, s7, s8, s9, x_max2, x_int_b, x_int_i, x_tuple_l, startD, List.length_cons, List.length_nil, List.map_cons, List.map_nil, List.cons_append, List.nil_append, Nat.reduceAdd, Nat.reduceSub, List.replicate, List.set_cons_zero, List.set_cons_succ, x_wipe_cons, x_wipe_nil, x_eOp, x_eC, x_eCB, x_aCons, x_aNil, x_bind_ok, x_add_i, x_len_s, x_len_l, x_len_t, x_bOf, x_eTup, x_eFz, x_oLst, x_eCall, x_aName, x_aTup, x_asCons, x_asNil, x_mod, x_div, x_bAnd, x_bOr, x_bNot, x_asB, x_sub_i, x_neg_i, x_toE_d, x_toE_o, x_notDict, if_true, if_false, reduceIte, Int.reduceLT, Int.reduceAdd, Int.reduceSub, Int.reduceMul, Int.reduceNeg, Int.reducePow, rVar, eVar, hVar, List.getElem?_cons_zero, List.getElem?_cons_succ, ep]) (by rw [List.length_map]; exact szl (by omega)) ⟨pp ++ [p], some (.d (.int (i : Nat))), ?_, by rw [List.length_append, ppl]; rfl, fun q hq => ?_⟩
      · rw [List.map_append]
        rfl
      · rcases List.mem_append.mp hq with h | h
        · exact ppo q h
        · rw [List.mem_singleton.mp h]; exact po
    · clear ppo ppl
      obtain ⟨pp, v10, rfl, ppl, ppo⟩ := hI
      exact ⟨pp, v10, rfl, by omega, by omega, ppo⟩
  clear ppo ppl
  rintro _ ⟨pp, v10, rfl, ppl, ppl2, ppo⟩
  unfold tSt
  have lpp : lenD [.list (pp.map ptI)] = .ok (.int pp.length) := by rw [x_len_l, List.length_map]
  refine hs_seq (hs_setO (x := .list ([].map PyData.int)) (by simp -implicitDefEqProofs only [s0, s1, s2, s3, s4, s5, s6, s7, s8, s9, x_max2, x_int_b, x_int_i, x_tuple_l, startD, List.length_cons, List.length_nil, List.map_cons, List.map_nil, List.cons_append, List.nil_append, Nat.reduceAdd, Nat.reduceSub, List.replicate, List.set_cons_zero, List.set_cons_succ, x_wipe_cons, x_wipe_nil, x_eOp, x_eC, x_eCB, x_aCons, x_aNil, x_bind_ok, x_add_i, x_len_s, x_len_l, x_len_t, x_bOf, x_eTup, x_eFz, x_oLst, x_eCall, x_aName, x_aTup, x_asCons, x_asNil, x_mod, x_div, x_bAnd, x_bOr, x_bNot, x_asB, x_sub_i, x_neg_i, x_toE_d, x_toE_o, x_notDict, if_true, if_false, reduceIte, Int.reduceLT, Int.reduceAdd, Int.reduceSub, Int.reduceMul, Int.reduceNeg, Int.reducePow, rVar, eVar, hVar, List.getElem?_cons_zero, List.getElem?_cons_succ]) ?_)
  simp -implicitDefEqProofs only [startD, List.length_cons, List.length_nil, List.map_cons, List.map_nil, List.cons_append, List.nil_append, Nat.reduceAdd, Nat.reduceSub, List.replicate, List.set_cons_zero, List.set_cons_succ, List.foldl_cons, List.foldl_nil, x_killD_n, x_killD_c, x_slOf_f, x_slOf_o, x_slOf_t, x_slOf_k]
  -- their order
  refine hs_cut (P := fun ρ => ∃ od v10, ρ = tSt ns at' ws a b c r pp v6 (some (.d (.int m))) v10 (some (.o (.list (od.map PyData.int)))) none none none none ∧ Od pp.length od) (hs_pre ?_) ?_
  · simp -implicitDefEqProofs only [startD, List.length_cons, List.length_nil, List.map_cons, List.map_nil, List.cons_append, List.nil_append, Nat.reduceAdd, Nat.reduceSub, List.replicate, List.set_cons_zero, List.set_cons_succ, List.foldl_cons, List.foldl_nil, x_killD_n, x_killD_c, x_slOf_f, x_slOf_o, x_slOf_t, x_slOf_k]
    refine hs_rng pp.length (rng_c (by simp -implicitDefEqProofs only [s0, s1, s2, s3, s4, s5, s6, s7, s8, s9, x_max2, x_int_b, x_int_i, x_tuple_l, startD, List.length_cons, List.length_nil, List.map_cons, List.map_nil, List.cons_append, List.nil_append, Nat.reduceAdd, Nat.reduceSub, List.replicate, List.set_cons_zero, List.set_cons_succ, x_wipe_cons, x_wipe_nil, x_eOp, x_eC, x_eCB, x_aCons, x_aNil, x_bind_ok, x_add_i, x_len_s, x_len_l, x_len_t, x_bOf, x_eTup, x_eFz, x_oLst, x_eCall, x_aName, x_aTup, x_asCons, x_asNil, x_mod, x_div, x_bAnd, x_bOr, x_bNot, x_asB, x_sub_i, x_neg_i, x_toE_d, x_toE_o, x_notDict, if_true, if_false, reduceIte, Int.reduceLT, Int.reduceAdd, Int.reduceSub, Int.reduceMul, Int.reduceNeg, Int.reducePow, rVar, eVar, hVar, List.getElem?_cons_zero, List.getElem?_cons_succ, lpp]) (by omega)) (fun i ρ => ∃ od v10, ρ = tSt ns at' ws a b c r pp v6 (some (.d (.int m))) v10 (some (.o (.list (od.map PyData.int)))) none none none none ∧ Od i od) ⟨[], v10, rfl, rfl, fun k h => (by omega), fun x h => by cases h⟩ (fun i ρ hi hI => ?_) fun ρ hI => hI
    obtain ⟨od, v10, rfl, ho⟩ := hI
    unfold tSt
    refine ⟨_, rfl, ?_⟩
    simp -implicitDefEqProofs only [startD, List.length_cons, List.length_nil, List.map_cons, List.map_nil, List.cons_append, List.nil_append, Nat.reduceAdd, Nat.reduceSub, List.replicate, List.set_cons_zero, List.set_cons_succ, List.foldl_cons, List.foldl_nil, x_killD_n, x_killD_c, x_slOf_f, x_slOf_o, x_slOf_t, x_slOf_k]
    have h5 : 5 * (i : Int) = (i : Int) * 5 := Int.mul_comm _ _
    have h1 : (0 : Int) < 5 * (i : Int) + 7 := by omega
    have h2 : (0 : Int) < (i : Int) + 1 := by omega
    have q0 := Int.emod_nonneg (m / (5 * (i : Int) + 7)) (show (i : Int) + 1 ≠ 0 by omega)
    have q1 := Int.emod_lt_of_pos (m / (5 * (i : Int) + 7)) h2
    refine hs_ins (ds := od.map PyData.int) (n := m / (5 * (i : Int) + 7) % ((i : Int) + 1)) (x := .int (i : Nat)) rfl ?_ rfl (by rw [List.length_map, ho.1]; exact szl (by omega)) q0 (by omega) ?_
    · have e5 := x_mul_l 5 (i : Int) (by decide) (by decide)
      have ed := x_div m (5 * (i : Int) + 7) (by omega) (by omega)
      simp -implicitDefEqProofs only [s0, s1, s2, s3, s4, s5, s6, s7, s8, s9, x_max2, x_int_b, x_int_i, x_tuple_l, startD, List.length_cons, List.length_nil, List.map_cons, List.map_nil, List.cons_append, List.nil_append, Nat.reduceAdd, Nat.reduceSub, List.replicate, List.set_cons_zero, List.set_cons_succ, x_wipe_cons, x_wipe_nil, x_eOp, x_eC, x_eCB, x_aCons, x_aNil, x_bind_ok, x_add_i, x_len_s, x_len_l, x_len_t, x_bOf, x_eTup, x_eFz, x_oLst, x_eCall, x_aName, x_aTup, x_asCons, x_asNil, x_mod, x_div, x_bAnd, x_bOr, x_bNot, x_asB, x_sub_i, x_neg_i, x_toE_d, x_toE_o, x_notDict, if_true, if_false, reduceIte, Int.reduceLT, Int.reduceAdd, Int.reduceSub, Int.reduceMul, Int.reduceNeg, Int.reducePow, rVar, eVar, hVar, List.getElem?_cons_zero, List.getElem?_cons_succ, e5, ed, h2]
    · refine ⟨_, some (.d (.int (i : Nat))), ?_, ho.ins (m / (5 * (i : Int) + 7) % ((i : Int) + 1)).toNat⟩
      rw [List.map_append, List.map_append, List.map_take, List.map_drop]
      rfl
  clear v10
  rintro _ ⟨od, v10, rfl, ho⟩
  unfold tSt
  -- their spots
  have spots : ∃ sp : List Int, oLc (iRng1D (aCons (eCB lenD (aCons (rVar 5) aNil)) aNil)) (aName 10) gYes (eIndex (rVar 12) (rVar 10)) [10] (tSt ns at' ws a b c r pp v6 (some (.d (.int m))) v10 (some (.o (.list (od.map PyData.int)))) none none none none) = .ok (.list (sp.map PyData.int)) ∧ sp.length = pp.length ∧ ∀ x ∈ sp, 0 ≤ x ∧ x < pp.length := by
    unfold tSt
    obtain ⟨ys, ey, ly, hy⟩ := lc_yes (gi := iRng1D (aCons (eCB lenD (aCons (rVar 5) aNil)) aNil)) (a := aName 10) (ge := eIndex (rVar 12) (rVar 10)) (vs := [10]) (ρ := [some (.d (scr ns)), some (.d (.int at')), some (.d (kD ws)), some (.d (rdD r)), some (.d (wD a b c)), some (.o (.list (pp.map ptI))), v6, none, none, some (.d (.int m)), v10, none, some (.o (.list (od.map PyData.int))), none, none, none, none, none, none, none]) (xs := List.range pp.length) (fun i => PyData.int (0 + ((i : Nat) : Int))) (fun _ d => ∃ i : Int, d = .int i ∧ 0 ≤ i ∧ i < pp.length) (rng_c (by simp -implicitDefEqProofs only [s0, s1, s2, s3, s4, s5, s6, s7, s8, s9, x_max2, x_int_b, x_int_i, x_tuple_l, startD, List.length_cons, List.length_nil, List.map_cons, List.map_nil, List.cons_append, List.nil_append, Nat.reduceAdd, Nat.reduceSub, List.replicate, List.set_cons_zero, List.set_cons_succ, x_wipe_cons, x_wipe_nil, x_eOp, x_eC, x_eCB, x_aCons, x_aNil, x_bind_ok, x_add_i, x_len_s, x_len_l, x_len_t, x_bOf, x_eTup, x_eFz, x_oLst, x_eCall, x_aName, x_aTup, x_asCons, x_asNil, x_mod, x_div, x_bAnd, x_bOr, x_bNot, x_asB, x_sub_i, x_neg_i, x_toE_d, x_toE_o, x_notDict, if_true, if_false, reduceIte, Int.reduceLT, Int.reduceAdd, Int.reduceSub, Int.reduceMul, Int.reduceNeg, Int.reducePow, rVar, eVar, hVar, List.getElem?_cons_zero, List.getElem?_cons_succ, lpp]) (by omega)) (by rw [List.length_range]; exact sz (by omega)) fun k hk => by
      have hk := List.mem_range.mp hk
      obtain ⟨j, ej, hj, _⟩ := idx_ints od (k : Int) (ho.2.1 k hk)
      refine ⟨_, .int (j : Nat), rfl, ?_, _, rfl, by omega, by have := ho.1; omega⟩
      simp -implicitDefEqProofs only [s0, s1, s2, s3, s4, s5, s6, s7, s8, s9, x_max2, x_int_b, x_int_i, x_tuple_l, startD, List.length_cons, List.length_nil, List.map_cons, List.map_nil, List.cons_append, List.nil_append, Nat.reduceAdd, Nat.reduceSub, List.replicate, List.set_cons_zero, List.set_cons_succ, x_wipe_cons, x_wipe_nil, x_eOp, x_eC, x_eCB, x_aCons, x_aNil, x_bind_ok, x_add_i, x_len_s, x_len_l, x_len_t, x_bOf, x_eTup, x_eFz, x_oLst, x_eCall, x_aName, x_aTup, x_asCons, x_asNil, x_mod, x_div, x_bAnd, x_bOr, x_bNot, x_asB, x_sub_i, x_neg_i, x_toE_d, x_toE_o, x_notDict, if_true, if_false, reduceIte, Int.reduceLT, Int.reduceAdd, Int.reduceSub, Int.reduceMul, Int.reduceNeg, Int.reducePow, rVar, eVar, hVar, List.getElem?_cons_zero, List.getElem?_cons_succ, x_eIndex, x_listOf, Int.zero_add, ej]
    obtain ⟨sp, rfl, hs⟩ := lift_list (f := PyData.int) (P := fun i => 0 ≤ i ∧ i < (pp.length : Int)) fun x hx => by
      obtain ⟨_, _, i, e, h⟩ := hy x hx
      exact ⟨i, e, h⟩
    rw [List.length_map, List.length_range] at ly
    exact ⟨sp, ey, ly, hs⟩
  obtain ⟨sp, esp, spl, spo⟩ := spots
  unfold tSt at esp
  refine hs_seq (hs_set (x := .list (sp.map PyData.int)) (fz_l esp) ?_)
  clear esp
  simp -implicitDefEqProofs only [startD, List.length_cons, List.length_nil, List.map_cons, List.map_nil, List.cons_append, List.nil_append, Nat.reduceAdd, Nat.reduceSub, List.replicate, List.set_cons_zero, List.set_cons_succ, List.foldl_cons, List.foldl_nil, x_killD_n, x_killD_c, x_slOf_f, x_slOf_o, x_slOf_t, x_slOf_k]
  have isp : ∀ i : Int, 0 ≤ i → i < r.ps.length → ∃ j, ixD (.list (sp.map PyData.int)) (.int i) = .ok (.int j) ∧ 0 ≤ j ∧ j < pp.length := fun i h0 h1 => by
    obtain ⟨x, hx', hx, ex⟩ := ix_list sp PyData.int i h0 (by omega)
    exact ⟨x, ex, spo x (by rw [hx]; exact List.getElem_mem _)⟩
  refine hs_seq (hs_setM rfl ?_)
  simp -implicitDefEqProofs only [startD, List.length_cons, List.length_nil, List.map_cons, List.map_nil, List.cons_append, List.nil_append, Nat.reduceAdd, Nat.reduceSub, List.replicate, List.set_cons_zero, List.set_cons_succ, List.foldl_cons, List.foldl_nil, x_killD_n, x_killD_c, x_slOf_f, x_slOf_o, x_slOf_t, x_slOf_k]
  -- its joins
  refine hs_cut (P := fun ρ => ∃ J v6 v15, ρ = tSt ns at' ws a b c r pp v6 (some (.d (.int m))) v10 (some (.o (.list (od.map PyData.int)))) (some (.d (.list (sp.map PyData.int)))) (some (.t (.dT J))) v15 none ∧ Jd 4 J) (hs_pre ?_) ?_
  · simp -implicitDefEqProofs only [startD, List.length_cons, List.length_nil, List.map_cons, List.map_nil, List.cons_append, List.nil_append, Nat.reduceAdd, Nat.reduceSub, List.replicate, List.set_cons_zero, List.set_cons_succ, List.foldl_cons, List.foldl_nil, x_killD_n, x_killD_c, x_slOf_f, x_slOf_o, x_slOf_t, x_slOf_k]
    refine hs_forL jnI r.js (it_l (by simp -implicitDefEqProofs only [s0, s1, s2, s3, s4, s5, s6, s7, s8, s9, x_max2, x_int_b, x_int_i, x_tuple_l, startD, List.length_cons, List.length_nil, List.map_cons, List.map_nil, List.cons_append, List.nil_append, Nat.reduceAdd, Nat.reduceSub, List.replicate, List.set_cons_zero, List.set_cons_succ, x_wipe_cons, x_wipe_nil, x_eOp, x_eC, x_eCB, x_aCons, x_aNil, x_bind_ok, x_add_i, x_len_s, x_len_l, x_len_t, x_bOf, x_eTup, x_eFz, x_oLst, x_eCall, x_aName, x_aTup, x_asCons, x_asNil, x_mod, x_div, x_bAnd, x_bOr, x_bNot, x_asB, x_sub_i, x_neg_i, x_toE_d, x_toE_o, x_notDict, if_true, if_false, reduceIte, Int.reduceLT, Int.reduceAdd, Int.reduceSub, Int.reduceMul, Int.reduceNeg, Int.reducePow, rVar, eVar, hVar, List.getElem?_cons_zero, List.getElem?_cons_succ, rd2])) (fun i ρ => ∃ J v6 v15, ρ = tSt ns at' ws a b c r pp v6 (some (.d (.int m))) v10 (some (.o (.list (od.map PyData.int)))) (some (.d (.list (sp.map PyData.int)))) (some (.t (.dT J))) v15 none ∧ Jd i J) ⟨[], v6, none, rfl, Nat.le_refl _, fun p h => by cases h⟩ (fun i j ρ hj hI => ?_) fun ρ hI => ?_
    · clear v6
      obtain ⟨J, v6, v15, rfl, hJ⟩ := hI
      have hi := (List.getElem?_eq_some_iff.mp hj).1
      have jo := ro.j.2 j (List.mem_of_getElem? hj)
      have j4 := ro.j.1
      unfold tSt
      refine ⟨_, rfl, ?_⟩
      simp -implicitDefEqProofs only [startD, List.length_cons, List.length_nil, List.map_cons, List.map_nil, List.cons_append, List.nil_append, Nat.reduceAdd, Nat.reduceSub, List.replicate, List.set_cons_zero, List.set_cons_succ, List.foldl_cons, List.foldl_nil, x_killD_n, x_killD_c, x_slOf_f, x_slOf_o, x_slOf_t, x_slOf_k]
      obtain ⟨x, ex, _⟩ := isp j.2.1 jo.1.1.1 jo.1.1.2
      obtain ⟨y, ey, _⟩ := isp j.2.2 jo.1.2.1 jo.1.2.2
      refine hs_dputT (kvs := J) (y := jnI (j.1, x, y)) (d := .bool true) (k := kJ (j.1, x, y)) rfl ?_ rfl rfl (szl (by have := hJ.1; omega)) ?_
      · simp -implicitDefEqProofs only [s0, s1, s2, s3, s4, s5, s6, s7, s8, s9, x_max2, x_int_b, x_int_i, x_tuple_l, startD, List.length_cons, List.length_nil, List.map_cons, List.map_nil, List.cons_append, List.nil_append, Nat.reduceAdd, Nat.reduceSub, List.replicate, List.set_cons_zero, List.set_cons_succ, x_wipe_cons, x_wipe_nil, x_eOp, x_eC, x_eCB, x_aCons, x_aNil, x_bind_ok, x_add_i, x_len_s, x_len_l, x_len_t, x_bOf, x_eTup, x_eFz, x_oLst, x_eCall, x_aName, x_aTup, x_asCons, x_asNil, x_mod, x_div, x_bAnd, x_bOr, x_bNot, x_asB, x_sub_i, x_neg_i, x_toE_d, x_toE_o, x_notDict, if_true, if_false, reduceIte, Int.reduceLT, Int.reduceAdd, Int.reduceSub, Int.reduceMul, Int.reduceNeg, Int.reducePow, rVar, eVar, hVar, List.getElem?_cons_zero, List.getElem?_cons_succ, ex, ey]
        rfl
      · refine ⟨_, some (.d (.int j.2.1)), some (.d (.str j.1)), rfl, Nat.le_trans (len_putT ..) (by have := hJ.1; omega), fun p h => ?_⟩
        rcases mem_putT h with h | h
        · exact hJ.2 p h
        · exact ⟨_, h.1, jo.2⟩
    · clear v6
      obtain ⟨J, v6, v15, rfl, hJ⟩ := hI
      have j4 := ro.j.1
      exact ⟨J, v6, v15, rfl, Nat.le_trans hJ.1 j4, hJ.2⟩
  clear v6
  rintro _ ⟨J, v6, v15, rfl, hJ⟩
  unfold tSt
  -- its steps
  have stp : ∃ T : List (Str × Int), oLc (iItems (eOp ixD (rVar 3) (eC (.int 4)))) (aTup 2 (asCons (aName 15) (asCons (aName 6) asNil))) gYes (eTup (aCons (eVar 15) (aCons (eOp ixD (rVar 13) (rVar 6)) aNil))) [15, 6] (tSt ns at' ws a b c r pp v6 (some (.d (.int m))) v10 (some (.o (.list (od.map PyData.int)))) (some (.d (.list (sp.map PyData.int)))) (some (.t (.dT J))) v15 none) = .ok (.list (T.map stI)) ∧ Sd 8 T := by
    unfold tSt
    obtain ⟨ys, ey, ly, hy⟩ := lc_yes (gi := iItems (eOp ixD (rVar 3) (eC (.int 4)))) (a := aTup 2 (asCons (aName 15) (asCons (aName 6) asNil))) (ge := eTup (aCons (eVar 15) (aCons (eOp ixD (rVar 13) (rVar 6)) aNil))) (vs := [15, 6]) (ρ := [some (.d (scr ns)), some (.d (.int at')), some (.d (kD ws)), some (.d (rdD r)), some (.d (wD a b c)), some (.o (.list (pp.map ptI))), v6, none, none, some (.d (.int m)), v10, none, some (.o (.list (od.map PyData.int))), some (.d (.list (sp.map PyData.int))), some (.t (.dT J)), v15, none, none, none, none]) (xs := r.st) stI (fun _ d => ∃ s : Str × Int, d = stI s ∧ okS s.1) (it_l (by simp -implicitDefEqProofs only [s0, s1, s2, s3, s4, s5, s6, s7, s8, s9, x_max2, x_int_b, x_int_i, x_tuple_l, startD, List.length_cons, List.length_nil, List.map_cons, List.map_nil, List.cons_append, List.nil_append, Nat.reduceAdd, Nat.reduceSub, List.replicate, List.set_cons_zero, List.set_cons_succ, x_wipe_cons, x_wipe_nil, x_eOp, x_eC, x_eCB, x_aCons, x_aNil, x_bind_ok, x_add_i, x_len_s, x_len_l, x_len_t, x_bOf, x_eTup, x_eFz, x_oLst, x_eCall, x_aName, x_aTup, x_asCons, x_asNil, x_mod, x_div, x_bAnd, x_bOr, x_bNot, x_asB, x_sub_i, x_neg_i, x_toE_d, x_toE_o, x_notDict, if_true, if_false, reduceIte, Int.reduceLT, Int.reduceAdd, Int.reduceSub, Int.reduceMul, Int.reduceNeg, Int.reducePow, rVar, eVar, hVar, List.getElem?_cons_zero, List.getElem?_cons_succ, rd4])) (sz (by have := ro.s.1; omega)) fun s hs => by
      have so := ro.s.2 s hs
      obtain ⟨x, ex, _⟩ := isp s.2 so.1.1 so.1.2
      refine ⟨_, stI (s.1, x), rfl, ?_, _, rfl, so.2⟩
      simp -implicitDefEqProofs only [s0, s1, s2, s3, s4, s5, s6, s7, s8, s9, x_max2, x_int_b, x_int_i, x_tuple_l, startD, List.length_cons, List.length_nil, List.map_cons, List.map_nil, List.cons_append, List.nil_append, Nat.reduceAdd, Nat.reduceSub, List.replicate, List.set_cons_zero, List.set_cons_succ, x_wipe_cons, x_wipe_nil, x_eOp, x_eC, x_eCB, x_aCons, x_aNil, x_bind_ok, x_add_i, x_len_s, x_len_l, x_len_t, x_bOf, x_eTup, x_eFz, x_oLst, x_eCall, x_aName, x_aTup, x_asCons, x_asNil, x_mod, x_div, x_bAnd, x_bOr, x_bNot, x_asB, x_sub_i, x_neg_i, x_toE_d, x_toE_o, x_notDict, if_true, if_false, reduceIte, Int.reduceLT, Int.reduceAdd, Int.reduceSub, Int.reduceMul, Int.reduceNeg, Int.reducePow, rVar, eVar, hVar, List.getElem?_cons_zero, List.getElem?_cons_succ, ex]
      rfl
    obtain ⟨T, rfl, hT⟩ := lift_list (f := stI) (P := fun s => okS s.1) fun x hx => by
      obtain ⟨_, _, i, e, h⟩ := hy x hx
      exact ⟨i, e, h⟩
    rw [List.length_map] at ly
    exact ⟨T, ey, by have := ro.s.1; omega, hT⟩
  obtain ⟨T, eT, hT⟩ := stp
  unfold tSt at eT
  refine hs_seq (hs_setO (x := .list (T.map stI)) eT ?_)
  clear eT
  simp -implicitDefEqProofs only [startD, List.length_cons, List.length_nil, List.map_cons, List.map_nil, List.cons_append, List.nil_append, Nat.reduceAdd, Nat.reduceSub, List.replicate, List.set_cons_zero, List.set_cons_succ, List.foldl_cons, List.foldl_nil, x_killD_n, x_killD_c, x_slOf_f, x_slOf_o, x_slOf_t, x_slOf_k]
  -- more of these
  refine hs_cut (P := fun ρ => ∃ J T v6 v10 v15, ρ = tSt ns at' ws a b c r pp v6 (some (.d (.int m))) v10 (some (.o (.list (od.map PyData.int)))) (some (.d (.list (sp.map PyData.int)))) (some (.t (.dT J))) v15 (some (.o (.list (T.map stI)))) ∧ Jd 6 J ∧ Sd 10 T) (hs_pre ?_) ?_
  · simp -implicitDefEqProofs only [startD, List.length_cons, List.length_nil, List.map_cons, List.map_nil, List.cons_append, List.nil_append, Nat.reduceAdd, Nat.reduceSub, List.replicate, List.set_cons_zero, List.set_cons_succ, List.foldl_cons, List.foldl_nil, x_killD_n, x_killD_c, x_slOf_f, x_slOf_o, x_slOf_t, x_slOf_k]
    refine hs_rng 2 (rng_c rfl (by decide)) (fun i ρ => ∃ J T v6 v10 v15, ρ = tSt ns at' ws a b c r pp v6 (some (.d (.int m))) v10 (some (.o (.list (od.map PyData.int)))) (some (.d (.list (sp.map PyData.int)))) (some (.t (.dT J))) v15 (some (.o (.list (T.map stI)))) ∧ Jd (4 + i) J ∧ Sd (8 + i) T) ⟨J, T, none, v10, v15, rfl, hJ, hT⟩ (fun i ρ hi hI => ?_) fun ρ hI => hI
    clear hJ hT v6 v10 v15
    obtain ⟨J, T, v6, v10, v15, rfl, hJ, hT⟩ := hI
    unfold tSt
    refine ⟨_, rfl, ?_⟩
    simp -implicitDefEqProofs only [startD, List.length_cons, List.length_nil, List.map_cons, List.map_nil, List.cons_append, List.nil_append, Nat.reduceAdd, Nat.reduceSub, List.replicate, List.set_cons_zero, List.set_cons_succ, List.foldl_cons, List.foldl_nil, x_killD_n, x_killD_c, x_slOf_f, x_slOf_o, x_slOf_t, x_slOf_k]
    obtain ⟨y, ey, y0, y1⟩ := mix_ok ns (at' + 8 + (i : Int)) hl (by omega) (by omega)
    refine hs_seq (hs_set (x := .int y) (by simp -implicitDefEqProofs only [s0, s1, s2, s3, s4, s5, s6, s7, s8, s9, x_max2, x_int_b, x_int_i, x_tuple_l, startD, List.length_cons, List.length_nil, List.map_cons, List.map_nil, List.cons_append, List.nil_append, Nat.reduceAdd, Nat.reduceSub, List.replicate, List.set_cons_zero, List.set_cons_succ, x_wipe_cons, x_wipe_nil, x_eOp, x_eC, x_eCB, x_aCons, x_aNil, x_bind_ok, x_add_i, x_len_s, x_len_l, x_len_t, x_bOf, x_eTup, x_eFz, x_oLst, x_eCall, x_aName, x_aTup, x_asCons, x_asNil, x_mod, x_div, x_bAnd, x_bOr, x_bNot, x_asB, x_sub_i, x_neg_i, x_toE_d, x_toE_o, x_notDict, if_true, if_false, reduceIte, Int.reduceLT, Int.reduceAdd, Int.reduceSub, Int.reduceMul, Int.reduceNeg, Int.reducePow, rVar, eVar, hVar, List.getElem?_cons_zero, List.getElem?_cons_succ, ey]) ?_)
    simp -implicitDefEqProofs only [startD, List.length_cons, List.length_nil, List.map_cons, List.map_nil, List.cons_append, List.nil_append, Nat.reduceAdd, Nat.reduceSub, List.replicate, List.set_cons_zero, List.set_cons_succ, List.foldl_cons, List.foldl_nil, x_killD_n, x_killD_c, x_slOf_f, x_slOf_o, x_slOf_t, x_slOf_k]
    refine hs_cut (P := fun ρ => ∃ J v6, ρ = [some (.d (scr ns)), some (.d (.int at')), some (.d (kD ws)), some (.d (rdD r)), some (.d (wD a b c)), some (.o (.list (pp.map ptI))), v6, none, none, some (.d (.int m)), some (.d (.int (i : Nat))), none, some (.o (.list (od.map PyData.int))), some (.d (.list (sp.map PyData.int))), some (.t (.dT J)), v15, none, some (.o (.list (T.map stI))), some (.d (.int y)), none] ∧ Jd (4 + (i + 1)) J) ?_ ?_
    · have hJ2 : Jd (4 + (i + 1)) J := ⟨Nat.le_trans hJ.1 (by omega), hJ.2⟩
      by_cases c1 : 1 < pp.length
      · refine hs_ifX (xAnd (xCmp (i := pp.length) (j := 1) (by simp -implicitDefEqProofs only [s0, s1, s2, s3, s4, s5, s6, s7, s8, s9, x_max2, x_int_b, x_int_i, x_tuple_l, startD, List.length_cons, List.length_nil, List.map_cons, List.map_nil, List.cons_append, List.nil_append, Nat.reduceAdd, Nat.reduceSub, List.replicate, List.set_cons_zero, List.set_cons_succ, x_wipe_cons, x_wipe_nil, x_eOp, x_eC, x_eCB, x_aCons, x_aNil, x_bind_ok, x_add_i, x_len_s, x_len_l, x_len_t, x_bOf, x_eTup, x_eFz, x_oLst, x_eCall, x_aName, x_aTup, x_asCons, x_asNil, x_mod, x_div, x_bAnd, x_bOr, x_bNot, x_asB, x_sub_i, x_neg_i, x_toE_d, x_toE_o, x_notDict, if_true, if_false, reduceIte, Int.reduceLT, Int.reduceAdd, Int.reduceSub, Int.reduceMul, Int.reduceNeg, Int.reducePow, rVar, eVar, hVar, List.getElem?_cons_zero, List.getElem?_cons_succ, lpp]) rfl) (xEqI (i := y % 3) (j := 0) (by simp -implicitDefEqProofs only [s0, s1, s2, s3, s4, s5, s6, s7, s8, s9, x_max2, x_int_b, x_int_i, x_tuple_l, startD, List.length_cons, List.length_nil, List.map_cons, List.map_nil, List.cons_append, List.nil_append, Nat.reduceAdd, Nat.reduceSub, List.replicate, List.set_cons_zero, List.set_cons_succ, x_wipe_cons, x_wipe_nil, x_eOp, x_eC, x_eCB, x_aCons, x_aNil, x_bind_ok, x_add_i, x_len_s, x_len_l, x_len_t, x_bOf, x_eTup, x_eFz, x_oLst, x_eCall, x_aName, x_aTup, x_asCons, x_asNil, x_mod, x_div, x_bAnd, x_bOr, x_bNot, x_asB, x_sub_i, x_neg_i, x_toE_d, x_toE_o, x_notDict, if_true, if_false, reduceIte, Int.reduceLT, Int.reduceAdd, Int.reduceSub, Int.reduceMul, Int.reduceNeg, Int.reducePow, rVar, eVar, hVar, List.getElem?_cons_zero, List.getElem?_cons_succ]) rfl)) ?_ (hs_next ⟨J, _, rfl, hJ2⟩)
        have h1 : (0 : Int) < (pp.length : Int) := by omega
        have h2 : (0 : Int) < (pp.length : Int) - 1 := by omega
        refine hs_seq (hs_set (x := .int (y / 3 % pp.length)) (by simp -implicitDefEqProofs only [s0, s1, s2, s3, s4, s5, s6, s7, s8, s9, x_max2, x_int_b, x_int_i, x_tuple_l, startD, List.length_cons, List.length_nil, List.map_cons, List.map_nil, List.cons_append, List.nil_append, Nat.reduceAdd, Nat.reduceSub, List.replicate, List.set_cons_zero, List.set_cons_succ, x_wipe_cons, x_wipe_nil, x_eOp, x_eC, x_eCB, x_aCons, x_aNil, x_bind_ok, x_add_i, x_len_s, x_len_l, x_len_t, x_bOf, x_eTup, x_eFz, x_oLst, x_eCall, x_aName, x_aTup, x_asCons, x_asNil, x_mod, x_div, x_bAnd, x_bOr, x_bNot, x_asB, x_sub_i, x_neg_i, x_toE_d, x_toE_o, x_notDict, if_true, if_false, reduceIte, Int.reduceLT, Int.reduceAdd, Int.reduceSub, Int.reduceMul, Int.reduceNeg, Int.reducePow, rVar, eVar, hVar, List.getElem?_cons_zero, List.getElem?_cons_succ, lpp, h1]) ?_)
        simp -implicitDefEqProofs only [startD, List.length_cons, List.length_nil, List.map_cons, List.map_nil, List.cons_append, List.nil_append, Nat.reduceAdd, Nat.reduceSub, List.replicate, List.set_cons_zero, List.set_cons_succ, List.foldl_cons, List.foldl_nil, x_killD_n, x_killD_c, x_slOf_f, x_slOf_o, x_slOf_t, x_slOf_k]
        obtain ⟨w, hw', hw, ew⟩ := ix_list b PyData.str (y / 18 % 2) (by omega) (by rw [wb.1]; omega)
        refine hs_dputT (kvs := J) (y := jnI (w, y / 3 % pp.length, (y / 3 % pp.length + 1 + y / 36 % ((pp.length : Int) - 1)) % pp.length)) (d := .bool true) (k := kJ (w, y / 3 % pp.length, (y / 3 % pp.length + 1 + y / 36 % ((pp.length : Int) - 1)) % pp.length)) rfl ?_ rfl rfl (szl (by have := hJ.1; omega)) ?_
        · simp -implicitDefEqProofs only [s0, s1, s2, s3, s4, s5, s6, s7, s8, s9, x_max2, x_int_b, x_int_i, x_tuple_l, startD, List.length_cons, List.length_nil, List.map_cons, List.map_nil, List.cons_append, List.nil_append, Nat.reduceAdd, Nat.reduceSub, List.replicate, List.set_cons_zero, List.set_cons_succ, x_wipe_cons, x_wipe_nil, x_eOp, x_eC, x_eCB, x_aCons, x_aNil, x_bind_ok, x_add_i, x_len_s, x_len_l, x_len_t, x_bOf, x_eTup, x_eFz, x_oLst, x_eCall, x_aName, x_aTup, x_asCons, x_asNil, x_mod, x_div, x_bAnd, x_bOr, x_bNot, x_asB, x_sub_i, x_neg_i, x_toE_d, x_toE_o, x_notDict, if_true, if_false, reduceIte, Int.reduceLT, Int.reduceAdd, Int.reduceSub, Int.reduceMul, Int.reduceNeg, Int.reducePow, rVar, eVar, hVar, List.getElem?_cons_zero, List.getElem?_cons_succ, lpp, h1, h2, wD1, ew]
          rfl
        · refine ⟨_, _, rfl, Nat.le_trans (len_putT ..) (by have := hJ.1; omega), fun p h => ?_⟩
          rcases mem_putT h with h | h
          · exact hJ.2 p h
          · exact ⟨_, h.1, (wb.2.2 w (by rw [hw]; exact List.getElem_mem _)).2.2⟩
      · exact hs_if (c := false) (xAndF (xCmpB (i := pp.length) (j := 1) false (by simp -implicitDefEqProofs only [s0, s1, s2, s3, s4, s5, s6, s7, s8, s9, x_max2, x_int_b, x_int_i, x_tuple_l, startD, List.length_cons, List.length_nil, List.map_cons, List.map_nil, List.cons_append, List.nil_append, Nat.reduceAdd, Nat.reduceSub, List.replicate, List.set_cons_zero, List.set_cons_succ, x_wipe_cons, x_wipe_nil, x_eOp, x_eC, x_eCB, x_aCons, x_aNil, x_bind_ok, x_add_i, x_len_s, x_len_l, x_len_t, x_bOf, x_eTup, x_eFz, x_oLst, x_eCall, x_aName, x_aTup, x_asCons, x_asNil, x_mod, x_div, x_bAnd, x_bOr, x_bNot, x_asB, x_sub_i, x_neg_i, x_toE_d, x_toE_o, x_notDict, if_true, if_false, reduceIte, Int.reduceLT, Int.reduceAdd, Int.reduceSub, Int.reduceMul, Int.reduceNeg, Int.reducePow, rVar, eVar, hVar, List.getElem?_cons_zero, List.getElem?_cons_succ, lpp]) rfl (decide_eq_false (by omega)))) (fun q => by cases q) (fun _ => hs_next ⟨J, _, rfl, hJ2⟩)
    clear hJ v6
    rintro _ ⟨J, v6, rfl, hJ⟩
    have hT2 : Sd (8 + (i + 1)) T := ⟨Nat.le_trans hT.1 (by omega), hT.2⟩
    by_cases c1 : 0 < pp.length
    · refine hs_ifX (xAnd (xCmp (i := pp.length) (j := 0) (by simp -implicitDefEqProofs only [s0, s1, s2, s3, s4, s5, s6, s7, s8, s9, x_max2, x_int_b, x_int_i, x_tuple_l, startD, List.length_cons, List.length_nil, List.map_cons, List.map_nil, List.cons_append, List.nil_append, Nat.reduceAdd, Nat.reduceSub, List.replicate, List.set_cons_zero, List.set_cons_succ, x_wipe_cons, x_wipe_nil, x_eOp, x_eC, x_eCB, x_aCons, x_aNil, x_bind_ok, x_add_i, x_len_s, x_len_l, x_len_t, x_bOf, x_eTup, x_eFz, x_oLst, x_eCall, x_aName, x_aTup, x_asCons, x_asNil, x_mod, x_div, x_bAnd, x_bOr, x_bNot, x_asB, x_sub_i, x_neg_i, x_toE_d, x_toE_o, x_notDict, if_true, if_false, reduceIte, Int.reduceLT, Int.reduceAdd, Int.reduceSub, Int.reduceMul, Int.reduceNeg, Int.reducePow, rVar, eVar, hVar, List.getElem?_cons_zero, List.getElem?_cons_succ, lpp]) rfl) (xEqI (i := y % 2) (j := 0) (by simp -implicitDefEqProofs only [s0, s1, s2, s3, s4, s5, s6, s7, s8, s9, x_max2, x_int_b, x_int_i, x_tuple_l, startD, List.length_cons, List.length_nil, List.map_cons, List.map_nil, List.cons_append, List.nil_append, Nat.reduceAdd, Nat.reduceSub, List.replicate, List.set_cons_zero, List.set_cons_succ, x_wipe_cons, x_wipe_nil, x_eOp, x_eC, x_eCB, x_aCons, x_aNil, x_bind_ok, x_add_i, x_len_s, x_len_l, x_len_t, x_bOf, x_eTup, x_eFz, x_oLst, x_eCall, x_aName, x_aTup, x_asCons, x_asNil, x_mod, x_div, x_bAnd, x_bOr, x_bNot, x_asB, x_sub_i, x_neg_i, x_toE_d, x_toE_o, x_notDict, if_true, if_false, reduceIte, Int.reduceLT, Int.reduceAdd, Int.reduceSub, Int.reduceMul, Int.reduceNeg, Int.reducePow, rVar, eVar, hVar, List.getElem?_cons_zero, List.getElem?_cons_succ]) rfl)) ?_ (hs_next ⟨J, T, none, _, v15, rfl, hJ, hT2⟩)
      have h1 : (0 : Int) < (pp.length : Int) := by omega
      have h2 : (0 : Int) < (T.length : Int) + 1 := by omega
      have lT : lenD [.list (T.map stI)] = .ok (.int T.length) := by rw [x_len_l, List.length_map]
      obtain ⟨w, hw', hw, ew⟩ := ix_list c PyData.str (y / 20 % 2) (by omega) (by rw [wc.1]; omega)
      have q0 := Int.emod_nonneg (y / 2) (show (T.length : Int) + 1 ≠ 0 by omega)
      have q1 := Int.emod_lt_of_pos (y / 2) h2
      have tl := hT.1
      refine hs_ins (ds := T.map stI) (n := y / 2 % ((T.length : Int) + 1)) (x := stI (w, y / 40 % pp.length)) rfl (by simp -implicitDefEqProofs only [s0, s1, s2, s3, s4, s5, s6, s7, s8, s9, x_max2, x_int_b, x_int_i, x_tuple_l, startD, List.length_cons, List.length_nil, List.map_cons, List.map_nil, List.cons_append, List.nil_append, Nat.reduceAdd, Nat.reduceSub, List.replicate, List.set_cons_zero, List.set_cons_succ, x_wipe_cons, x_wipe_nil, x_eOp, x_eC, x_eCB, x_aCons, x_aNil, x_bind_ok, x_add_i, x_len_s, x_len_l, x_len_t, x_bOf, x_eTup, x_eFz, x_oLst, x_eCall, x_aName, x_aTup, x_asCons, x_asNil, x_mod, x_div, x_bAnd, x_bOr, x_bNot, x_asB, x_sub_i, x_neg_i, x_toE_d, x_toE_o, x_notDict, if_true, if_false, reduceIte, Int.reduceLT, Int.reduceAdd, Int.reduceSub, Int.reduceMul, Int.reduceNeg, Int.reducePow, rVar, eVar, hVar, List.getElem?_cons_zero, List.getElem?_cons_succ, lT, h2]) ?_ (by rw [List.length_map]; exact szl (by omega)) q0 (by omega) ?_
      · simp -implicitDefEqProofs only [s0, s1, s2, s3, s4, s5, s6, s7, s8, s9, x_max2, x_int_b, x_int_i, x_tuple_l, startD, List.length_cons, List.length_nil, List.map_cons, List.map_nil, List.cons_append, List.nil_append, Nat.reduceAdd, Nat.reduceSub, List.replicate, List.set_cons_zero, List.set_cons_succ, x_wipe_cons, x_wipe_nil, x_eOp, x_eC, x_eCB, x_aCons, x_aNil, x_bind_ok, x_add_i, x_len_s, x_len_l, x_len_t, x_bOf, x_eTup, x_eFz, x_oLst, x_eCall, x_aName, x_aTup, x_asCons, x_asNil, x_mod, x_div, x_bAnd, x_bOr, x_bNot, x_asB, x_sub_i, x_neg_i, x_toE_d, x_toE_o, x_notDict, if_true, if_false, reduceIte, Int.reduceLT, Int.reduceAdd, Int.reduceSub, Int.reduceMul, Int.reduceNeg, Int.reducePow, rVar, eVar, hVar, List.getElem?_cons_zero, List.getElem?_cons_succ, lpp, h1, wD2, ew]
        rfl
      · refine ⟨J, T.take (y / 2 % ((T.length : Int) + 1)).toNat ++ [(w, y / 40 % pp.length)] ++ T.drop (y / 2 % ((T.length : Int) + 1)).toNat, none, some (.d (.int (i : Nat))), v15, ?_, hJ, ?_, fun s hs => ?_⟩
        · rw [List.map_append, List.map_append, List.map_take, List.map_drop]
          rfl
        · rw [List.length_append, List.length_append, List.length_take, List.length_drop, List.length_singleton]
          omega
        · rcases List.mem_append.mp hs with h | h
          · rcases List.mem_append.mp h with h | h
            · exact hT.2 s (List.mem_of_mem_take h)
            · rw [List.mem_singleton.mp h]
              exact (wc.2.2 w (by rw [hw]; exact List.getElem_mem _)).2.2
          · exact hT.2 s (List.mem_of_mem_drop h)
    · exact hs_if (c := false) (xAndF (xCmpB (i := pp.length) (j := 0) false (by simp -implicitDefEqProofs only [s0, s1, s2, s3, s4, s5, s6, s7, s8, s9, x_max2, x_int_b, x_int_i, x_tuple_l, startD, List.length_cons, List.length_nil, List.map_cons, List.map_nil, List.cons_append, List.nil_append, Nat.reduceAdd, Nat.reduceSub, List.replicate, List.set_cons_zero, List.set_cons_succ, x_wipe_cons, x_wipe_nil, x_eOp, x_eC, x_eCB, x_aCons, x_aNil, x_bind_ok, x_add_i, x_len_s, x_len_l, x_len_t, x_bOf, x_eTup, x_eFz, x_oLst, x_eCall, x_aName, x_aTup, x_asCons, x_asNil, x_mod, x_div, x_bAnd, x_bOr, x_bNot, x_asB, x_sub_i, x_neg_i, x_toE_d, x_toE_o, x_notDict, if_true, if_false, reduceIte, Int.reduceLT, Int.reduceAdd, Int.reduceSub, Int.reduceMul, Int.reduceNeg, Int.reducePow, rVar, eVar, hVar, List.getElem?_cons_zero, List.getElem?_cons_succ, lpp]) rfl (decide_eq_false (by omega)))) (fun q => by cases q) (fun _ => hs_next ⟨J, T, none, _, v15, rfl, hJ, hT2⟩)
  clear hJ hT v6 v10 v15
  rintro _ ⟨J, T, v6, v10, v15, rfl, hJ, hT⟩
  unfold tSt
  refine hs_frz ?_
  rw [List.foldl_cons, frz_o (l := od.map PyData.int) rfl, List.foldl_cons, frz_o (l := T.map stI) rfl]
  simp -implicitDefEqProofs only [startD, List.length_cons, List.length_nil, List.map_cons, List.map_nil, List.cons_append, List.nil_append, Nat.reduceAdd, Nat.reduceSub, List.replicate, List.set_cons_zero, List.set_cons_succ, List.foldl_cons, List.foldl_nil, x_killD_n, x_killD_c, x_slOf_f, x_slOf_o, x_slOf_t, x_slOf_k]
  obtain ⟨js, ej, hj, hjl⟩ := sortT_ok (i := 14) (kvs := J) (ρ := [some (.d (scr ns)), some (.d (.int at')), some (.d (kD ws)), some (.d (rdD r)), some (.d (wD a b c)), some (.o (.list (pp.map ptI))), v6, none, none, some (.d (.int m)), v10, none, some (.d (.list (od.map PyData.int))), some (.d (.list (sp.map PyData.int))), some (.t (.dT J)), v15, none, some (.d (.list (T.map stI))), none, none]) rfl kJ (fun y : Str × Int × Int => okS y.1) hJ.2 (fun _ _ => rfl) (fun _ q => by cases q)
  have er : ∃ qq : List (Str × List (Str × Int)), oLc (iItems (eVar 12)) (aName 10) gYes (eOp ixD (rVar 5) (rVar 10)) [10] [some (.d (scr ns)), some (.d (.int at')), some (.d (kD ws)), some (.d (rdD r)), some (.d (wD a b c)), some (.o (.list (pp.map ptI))), v6, none, none, some (.d (.int m)), v10, none, some (.d (.list (od.map PyData.int))), some (.d (.list (sp.map PyData.int))), some (.t (.dT J)), v15, none, some (.d (.list (T.map stI))), none, none] = .ok (.list (qq.map ptI)) ∧ qq.length = pp.length ∧ ∀ p ∈ qq, PpOK nm p := by
    obtain ⟨ys, ey, ly, hy⟩ := lc_yes (gi := iItems (eVar 12)) (a := aName 10) (ge := eOp ixD (rVar 5) (rVar 10)) (vs := [10]) (ρ := [some (.d (scr ns)), some (.d (.int at')), some (.d (kD ws)), some (.d (rdD r)), some (.d (wD a b c)), some (.o (.list (pp.map ptI))), v6, none, none, some (.d (.int m)), v10, none, some (.d (.list (od.map PyData.int))), some (.d (.list (sp.map PyData.int))), some (.t (.dT J)), v15, none, some (.d (.list (T.map stI))), none, none]) (xs := od) PyData.int (fun _ d => ∃ p, d = ptI p ∧ PpOK nm p) rfl (sz (by have := ho.1; omega)) fun i hi => by
      obtain ⟨i0, i1⟩ := ho.2.2 i hi
      obtain ⟨p, hp', hp, ep⟩ := ix_list pp ptI i i0 i1
      exact ⟨_, ptI p, rfl, by simp -implicitDefEqProofs only [s0, s1, s2, s3, s4, s5, s6, s7, s8, s9, x_max2, x_int_b, x_int_i, x_tuple_l, startD, List.length_cons, List.length_nil, List.map_cons, List.map_nil, List.cons_append, List.nil_append, Nat.reduceAdd, Nat.reduceSub, List.replicate, List.set_cons_zero, List.set_cons_succ, x_wipe_cons, x_wipe_nil, x_eOp, x_eC, x_eCB, x_aCons, x_aNil, x_bind_ok, x_add_i, x_len_s, x_len_l, x_len_t, x_bOf, x_eTup, x_eFz, x_oLst, x_eCall, x_aName, x_aTup, x_asCons, x_asNil, x_mod, x_div, x_bAnd, x_bOr, x_bNot, x_asB, x_sub_i, x_neg_i, x_toE_d, x_toE_o, x_notDict, if_true, if_false, reduceIte, Int.reduceLT, Int.reduceAdd, Int.reduceSub, Int.reduceMul, Int.reduceNeg, Int.reducePow, rVar, eVar, hVar, List.getElem?_cons_zero, List.getElem?_cons_succ, ep], p, rfl, ppo p (by rw [hp]; exact List.getElem_mem _)⟩
    obtain ⟨qq, rfl, hq⟩ := lift_list (f := ptI) (P := PpOK nm) fun x hx => by
      obtain ⟨_, _, i, e, h⟩ := hy x hx
      exact ⟨i, e, h⟩
    rw [List.length_map, ho.1] at ly
    exact ⟨qq, ey, ly, hq⟩
  obtain ⟨qq, eq, ql, qo⟩ := er
  have pe : (fun y => keyP (kJ y)) = jnI := rfl
  rw [pe] at ej
  refine hs_ret (x := thD ⟨qq, js, T⟩) ?_ ⟨_, rfl, ⟨by show qq.length ≤ 7; omega, qo⟩, ⟨by show js.length ≤ 6; have := hJ.1; omega, fun j h => (hj j h).1⟩, hT⟩
  simp -implicitDefEqProofs only [s0, s1, s2, s3, s4, s5, s6, s7, s8, s9, x_max2, x_int_b, x_int_i, x_tuple_l, startD, List.length_cons, List.length_nil, List.map_cons, List.map_nil, List.cons_append, List.nil_append, Nat.reduceAdd, Nat.reduceSub, List.replicate, List.set_cons_zero, List.set_cons_succ, x_wipe_cons, x_wipe_nil, x_eOp, x_eC, x_eCB, x_aCons, x_aNil, x_bind_ok, x_add_i, x_len_s, x_len_l, x_len_t, x_bOf, x_eTup, x_eFz, x_oLst, x_eCall, x_aName, x_aTup, x_asCons, x_asNil, x_mod, x_div, x_bAnd, x_bOr, x_bNot, x_asB, x_sub_i, x_neg_i, x_toE_d, x_toE_o, x_notDict, if_true, if_false, reduceIte, Int.reduceLT, Int.reduceAdd, Int.reduceSub, Int.reduceMul, Int.reduceNeg, Int.reducePow, rVar, eVar, hVar, List.getElem?_cons_zero, List.getElem?_cons_succ, eq, ej]
  rfl
end
end K16
namespace K16
open PySem L2 DL
/-! ### all that is drawn can be compared -/
theorem GK.ok {ws : Ks} {nm : List Str} (gk : GK ws) (hnm : ws.map (·.1) = nm) : ∀ z ∈ nm, okS z := fun z hz => by
  rw [← hnm] at hz
  obtain ⟨p, hp, rfl⟩ := List.mem_map.mp hz
  exact (gk.2.2.2 p hp).2
theorem Gr.up2 : ∀ {r : Ks}, Gr r → ∀ p ∈ r, p.2 = eS ∨ p.2 ∈ r.map (·.1)
  | [], _, p, hp => by cases hp
  | q :: r, h, p, hp => by
    rcases List.mem_cons.mp hp with e | hp
    · rw [e]
      exact h.2.2.1.imp id fun z => List.mem_cons_of_mem _ z
    · exact (Gr.up2 h.2.2.2 p hp).imp id fun z => List.mem_cons_of_mem _ z
theorem sh_kD {ws : Ks} (gk : GK ws) : Sh 2 (kD ws) := by
  refine sh_l (sh_m fun p hp => sh_t (sh_c (sh_s (gk.2.2.2 p hp).2) (sh_c (sh_s ?_) sh_0)))
  rcases gk.1.up2 p (List.mem_reverse.mpr hp) with h | h
  · rw [h]; exact okS_of fun c hc => by
      have : cs eS = [] := by decide +kernel
      rw [this] at hc; cases hc
  · rw [List.map_reverse, List.mem_reverse] at h
    exact gk.ok rfl _ h
theorem sh_tS {nm p : List Str} (hn : ∀ z ∈ nm, okS z) (h : ∀ z ∈ p, z ∈ nm) : Sh 1 (tS p) := sh_t (sh_m fun z hz => sh_s (hn z (h z hz)))
theorem sh_tI (l : List Int) : Sh 1 (tI l) := sh_t (sh_m fun _ _ => sh_i)
theorem sh_oI (o : Option Int) : Sh 0 (oI o) := by
  cases o with
  | none => exact sh_n
  | some _ => exact sh_i
theorem sh_jn {j : Str × Int × Int} (h : okS j.1) : Sh 1 (jnI j) := sh_t (sh_c (sh_s h) (sh_c sh_i (sh_c sh_i sh_0)))
theorem sh_st {j : Str × Int} (h : okS j.1) : Sh 1 (stI j) := sh_t (sh_c (sh_s h) (sh_c sh_i sh_0))
theorem sh_sz {s : Int × Str × Option Int × Option Int} (h : okS s.2.1) : Sh 1 (szI s) := sh_t (sh_c sh_i (sh_c (sh_s h) (sh_c (sh_oI _) (sh_c (sh_oI _) sh_0))))
theorem sh_pt {nm : List Str} (hn : ∀ z ∈ nm, okS z) {p : Str × List (Str × Int)} (h : PpOK nm p) : Sh 3 (ptI p) := sh_t (sh_c (sh_s (hn _ h.1)) (sh_c (sh_l (sh_m fun s hs => sh_st (h.2.2 s hs))) sh_0))
theorem sh_rd {nm : List Str} (hn : ∀ z ∈ nm, okS z) {r : Rd} (h : RdOK nm r) : Sh 4 (rdD r) := sh_t
  (sh_c ((sh_l (sh_m fun p hp => sh_tS hn (h.p.p2 p hp).2.2)).up (by decide))
  (sh_c (sh_l (sh_m fun c hc => (sh_t (sh_c (sh_tS hn (h.c.2 c hc).1.2.2) (sh_c (sh_tI _) sh_0)))))
  (sh_c ((sh_l (sh_m fun j hj => sh_jn (h.j.2 j hj).2)).up (by decide))
  (sh_c ((sh_l (sh_m fun j hj => sh_sz (h.z.2 j hj).2.2)).up (by decide))
  (sh_c ((sh_l (sh_m fun j hj => sh_st (h.s.2 j hj).2)).up (by decide)) sh_0)))))
theorem sh_ps {nm : List Str} {n : Nat} (hn : ∀ z ∈ nm, okS z) {t : Th} (h : ThOK nm n t) : Sh 4 (.list (t.ps.map ptI)) := sh_l (sh_m fun p hp => sh_pt hn (h.p.2 p hp))
theorem sh_th {nm : List Str} {n : Nat} (hn : ∀ z ∈ nm, okS z) {t : Th} (h : ThOK nm n t) : Sh 5 (thD t) := sh_t
  (sh_c (sh_ps hn h)
  (sh_c ((sh_l (sh_m fun j hj => sh_jn (h.j.2 j hj))).up (by decide))
  (sh_c ((sh_l (sh_m fun j hj => sh_st (h.s.2 j hj))).up (by decide)) sh_0)))
/-! ### a thing with something turned -/
section
variable {ns : List Int} {at' : Int} {ws : Ks} {nm : List Str} {a b c : List Str} {t : Th}
theorem spoilt_ok (hl : ns.length ≤ 63) (a0 : 0 ≤ at') (a1 : at' ≤ 800) (gk : GK ws) (hnm : ws.map (·.1) = nm) (wa : Wds a 3) (to : ThOK nm 7 t) : ∃ x, d_law_spoilt [scr ns, .int at', kD ws, thD t, wD a b c] = .rt x ∧ tQ nm 8 x := by
  obtain ⟨n, en, n0, n1⟩ := mix_ok ns at' hl a0 (by omega)
  obtain ⟨ps, js, st⟩ := t
  obtain ⟨pl, po⟩ := to.p
  obtain ⟨jl, jo⟩ := to.j
  obtain ⟨sl, so⟩ := to.s
  dsimp only at pl po jl jo sl so
  have hn := gk.ok hnm
  refine hs_run (n := 14) (s := S_law_spoilt) (ds := [scr ns, .int at', kD ws, thD ⟨ps, js, st⟩, wD a b c]) (Q := tQ nm 8) ?_
  unfold S_law_spoilt
  simp -implicitDefEqProofs only [startD, List.length_cons, List.length_nil, List.map_cons, List.map_nil, List.cons_append, List.nil_append, Nat.reduceAdd, Nat.reduceSub, List.replicate, List.set_cons_zero, List.set_cons_succ, List.foldl_cons, List.foldl_nil, x_killD_n, x_killD_c, x_slOf_f, x_slOf_o, x_slOf_t, x_slOf_k]
  refine hs_seq (hs_asg (a := thD ⟨ps, js, st⟩) rfl rfl ?_)
  simp -implicitDefEqProofs only [startD, List.length_cons, List.length_nil, List.map_cons, List.map_nil, List.cons_append, List.nil_append, Nat.reduceAdd, Nat.reduceSub, List.replicate, List.set_cons_zero, List.set_cons_succ, List.foldl_cons, List.foldl_nil, x_killD_n, x_killD_c, x_slOf_f, x_slOf_o, x_slOf_t, x_slOf_k]
  refine hs_seq (hs_set (x := .int n) (by simp -implicitDefEqProofs only [s0, s1, s2, s3, s4, s5, s6, s7, s8, s9, x_max2, x_int_b, x_int_i, x_tuple_l, startD, List.length_cons, List.length_nil, List.map_cons, List.map_nil, List.cons_append, List.nil_append, Nat.reduceAdd, Nat.reduceSub, List.replicate, List.set_cons_zero, List.set_cons_succ, x_wipe_cons, x_wipe_nil, x_eOp, x_eC, x_eCB, x_aCons, x_aNil, x_bind_ok, x_add_i, x_len_s, x_len_l, x_len_t, x_bOf, x_eTup, x_eFz, x_oLst, x_eCall, x_aName, x_aTup, x_asCons, x_asNil, x_mod, x_div, x_bAnd, x_bOr, x_bNot, x_asB, x_sub_i, x_neg_i, x_toE_d, x_toE_o, x_notDict, if_true, if_false, reduceIte, Int.reduceLT, Int.reduceAdd, Int.reduceSub, Int.reduceMul, Int.reduceNeg, Int.reducePow, rVar, eVar, hVar, List.getElem?_cons_zero, List.getElem?_cons_succ, en]) ?_)
  simp -implicitDefEqProofs only [startD, List.length_cons, List.length_nil, List.map_cons, List.map_nil, List.cons_append, List.nil_append, Nat.reduceAdd, Nat.reduceSub, List.replicate, List.set_cons_zero, List.set_cons_succ, List.foldl_cons, List.foldl_nil, x_killD_n, x_killD_c, x_slOf_f, x_slOf_o, x_slOf_t, x_slOf_k]
  have lps : lenD [.list (ps.map ptI)] = .ok (.int ps.length) := by rw [x_len_l, List.length_map]
  obtain ⟨M, hM, M0, M1⟩ : ∃ M : Int, (if (ps.length : Int) > 1 then (ps.length : Int) else 1) = M ∧ 0 < M ∧ (0 < ps.length → M = ps.length) := by
    by_cases c : (ps.length : Int) > 1
    · exact ⟨_, if_pos c, by omega, fun _ => rfl⟩
    · exact ⟨_, if_neg c, by decide, fun _ => by omega⟩
  have k0 := Int.emod_nonneg (n / 8) (show M ≠ 0 by omega)
  have k1 := Int.emod_lt_of_pos (n / 8) M0
  refine hs_seq (hs_set (x := .int (n / 8 % M)) (by simp -implicitDefEqProofs only [s0, s1, s2, s3, s4, s5, s6, s7, s8, s9, x_max2, x_int_b, x_int_i, x_tuple_l, startD, List.length_cons, List.length_nil, List.map_cons, List.map_nil, List.cons_append, List.nil_append, Nat.reduceAdd, Nat.reduceSub, List.replicate, List.set_cons_zero, List.set_cons_succ, x_wipe_cons, x_wipe_nil, x_eOp, x_eC, x_eCB, x_aCons, x_aNil, x_bind_ok, x_add_i, x_len_s, x_len_l, x_len_t, x_bOf, x_eTup, x_eFz, x_oLst, x_eCall, x_aName, x_aTup, x_asCons, x_asNil, x_mod, x_div, x_bAnd, x_bOr, x_bNot, x_asB, x_sub_i, x_neg_i, x_toE_d, x_toE_o, x_notDict, if_true, if_false, reduceIte, Int.reduceLT, Int.reduceAdd, Int.reduceSub, Int.reduceMul, Int.reduceNeg, Int.reducePow, rVar, eVar, hVar, List.getElem?_cons_zero, List.getElem?_cons_succ, lps, hM, M0]) ?_)
  simp -implicitDefEqProofs only [startD, List.length_cons, List.length_nil, List.map_cons, List.map_nil, List.cons_append, List.nil_append, Nat.reduceAdd, Nat.reduceSub, List.replicate, List.set_cons_zero, List.set_cons_succ, List.foldl_cons, List.foldl_nil, x_killD_n, x_killD_c, x_slOf_f, x_slOf_o, x_slOf_t, x_slOf_k]
  generalize hk : n / 8 % M = k at k0 k1
  have wl := gk.2.1
  have hw : (0 : Int) < (ws.length : Int) := by omega
  obtain ⟨kk, hk', hkk, ek⟩ := ix_list ws kI (n / 64 % ws.length) (Int.emod_nonneg _ (by omega)) (Int.emod_lt_of_pos _ hw)
  have lk : lenD [kD ws] = .ok (.int ws.length) := by unfold kD; rw [x_len_l, List.length_map]
  have ek : ixD (kD ws) (.int (n / 64 % ws.length)) = .ok (kI kk) := ek
  have ek0 : ixD (kI kk) (.int 0) = .ok (.str kk.1) := x_ix_t _ _ _ (by decide) rfl
  have kn : kk.1 ∈ nm := by rw [← hnm, hkk]; exact List.mem_map_of_mem (List.getElem_mem _)
  refine hs_seq (hs_set (x := .str kk.1) (by simp -implicitDefEqProofs only [s0, s1, s2, s3, s4, s5, s6, s7, s8, s9, x_max2, x_int_b, x_int_i, x_tuple_l, startD, List.length_cons, List.length_nil, List.map_cons, List.map_nil, List.cons_append, List.nil_append, Nat.reduceAdd, Nat.reduceSub, List.replicate, List.set_cons_zero, List.set_cons_succ, x_wipe_cons, x_wipe_nil, x_eOp, x_eC, x_eCB, x_aCons, x_aNil, x_bind_ok, x_add_i, x_len_s, x_len_l, x_len_t, x_bOf, x_eTup, x_eFz, x_oLst, x_eCall, x_aName, x_aTup, x_asCons, x_asNil, x_mod, x_div, x_bAnd, x_bOr, x_bNot, x_asB, x_sub_i, x_neg_i, x_toE_d, x_toE_o, x_notDict, if_true, if_false, reduceIte, Int.reduceLT, Int.reduceAdd, Int.reduceSub, Int.reduceMul, Int.reduceNeg, Int.reducePow, rVar, eVar, hVar, List.getElem?_cons_zero, List.getElem?_cons_succ, lk, hw, ek, ek0]) ?_)
  simp -implicitDefEqProofs only [startD, List.length_cons, List.length_nil, List.map_cons, List.map_nil, List.cons_append, List.nil_append, Nat.reduceAdd, Nat.reduceSub, List.replicate, List.set_cons_zero, List.set_cons_succ, List.foldl_cons, List.foldl_nil, x_killD_n, x_killD_c, x_slOf_f, x_slOf_o, x_slOf_t, x_slOf_k]
  have k1' : (0 : Int) ≤ k + 1 := by omega
  have cutl : ∀ {γ : Type} (l : List γ), (l.take k.toNat).length + (l.drop (k + 1).toNat).length ≤ l.length := fun l => by rw [List.length_take, List.length_drop]; omega
  have cutm : ∀ {γ : Type} {l : List γ} {x : γ}, x ∈ l.take k.toNat ++ l.drop (k + 1).toNat → x ∈ l := fun h => by
    rcases List.mem_append.mp h with h | h
    · exact List.mem_of_mem_take h
    · exact List.mem_of_mem_drop h
  refine hs_seq (hs_ifX (xEqI (i := n % 8) (j := 0) (by simp -implicitDefEqProofs only [s0, s1, s2, s3, s4, s5, s6, s7, s8, s9, x_max2, x_int_b, x_int_i, x_tuple_l, startD, List.length_cons, List.length_nil, List.map_cons, List.map_nil, List.cons_append, List.nil_append, Nat.reduceAdd, Nat.reduceSub, List.replicate, List.set_cons_zero, List.set_cons_succ, x_wipe_cons, x_wipe_nil, x_eOp, x_eC, x_eCB, x_aCons, x_aNil, x_bind_ok, x_add_i, x_len_s, x_len_l, x_len_t, x_bOf, x_eTup, x_eFz, x_oLst, x_eCall, x_aName, x_aTup, x_asCons, x_asNil, x_mod, x_div, x_bAnd, x_bOr, x_bNot, x_asB, x_sub_i, x_neg_i, x_toE_d, x_toE_o, x_notDict, if_true, if_false, reduceIte, Int.reduceLT, Int.reduceAdd, Int.reduceSub, Int.reduceMul, Int.reduceNeg, Int.reducePow, rVar, eVar, hVar, List.getElem?_cons_zero, List.getElem?_cons_succ]) rfl) ?_ (hs_next ?_))
  · refine hs_ret (tup3 rfl (add2 (sl_a (l := js) (f := jnI) rfl rfl k0) (sl_b (l := js) (f := jnI) rfl rfl k1') (by have := cutl js; omega)) rfl) ⟨⟨ps, js.take k.toNat ++ js.drop (k + 1).toNat, st⟩, rfl, ⟨by show ps.length ≤ 8; omega, po⟩, ⟨?_, fun j hj => jo j (cutm hj)⟩, ⟨sl, so⟩⟩
    rw [List.length_append]
    have := cutl js
    omega
  refine hs_seq (hs_ifX (xEqI (i := n % 8) (j := 1) (by simp -implicitDefEqProofs only [s0, s1, s2, s3, s4, s5, s6, s7, s8, s9, x_max2, x_int_b, x_int_i, x_tuple_l, startD, List.length_cons, List.length_nil, List.map_cons, List.map_nil, List.cons_append, List.nil_append, Nat.reduceAdd, Nat.reduceSub, List.replicate, List.set_cons_zero, List.set_cons_succ, x_wipe_cons, x_wipe_nil, x_eOp, x_eC, x_eCB, x_aCons, x_aNil, x_bind_ok, x_add_i, x_len_s, x_len_l, x_len_t, x_bOf, x_eTup, x_eFz, x_oLst, x_eCall, x_aName, x_aTup, x_asCons, x_asNil, x_mod, x_div, x_bAnd, x_bOr, x_bNot, x_asB, x_sub_i, x_neg_i, x_toE_d, x_toE_o, x_notDict, if_true, if_false, reduceIte, Int.reduceLT, Int.reduceAdd, Int.reduceSub, Int.reduceMul, Int.reduceNeg, Int.reducePow, rVar, eVar, hVar, List.getElem?_cons_zero, List.getElem?_cons_succ]) rfl) ?_ (hs_next ?_))
  · refine hs_ret (tup3 rfl rfl (add2 (sl_a (l := st) (f := stI) rfl rfl k0) (sl_b (l := st) (f := stI) rfl rfl k1') (by have := cutl st; omega))) ⟨⟨ps, js, st.take k.toNat ++ st.drop (k + 1).toNat⟩, rfl, ⟨by show ps.length ≤ 8; omega, po⟩, ⟨jl, jo⟩, ⟨?_, fun j hj => so j (cutm hj)⟩⟩
    rw [List.length_append]
    have := cutl st
    omega
  refine hs_seq (hs_ifX (xEqI (i := n % 8) (j := 2) (by simp -implicitDefEqProofs only [s0, s1, s2, s3, s4, s5, s6, s7, s8, s9, x_max2, x_int_b, x_int_i, x_tuple_l, startD, List.length_cons, List.length_nil, List.map_cons, List.map_nil, List.cons_append, List.nil_append, Nat.reduceAdd, Nat.reduceSub, List.replicate, List.set_cons_zero, List.set_cons_succ, x_wipe_cons, x_wipe_nil, x_eOp, x_eC, x_eCB, x_aCons, x_aNil, x_bind_ok, x_add_i, x_len_s, x_len_l, x_len_t, x_bOf, x_eTup, x_eFz, x_oLst, x_eCall, x_aName, x_aTup, x_asCons, x_asNil, x_mod, x_div, x_bAnd, x_bOr, x_bNot, x_asB, x_sub_i, x_neg_i, x_toE_d, x_toE_o, x_notDict, if_true, if_false, reduceIte, Int.reduceLT, Int.reduceAdd, Int.reduceSub, Int.reduceMul, Int.reduceNeg, Int.reducePow, rVar, eVar, hVar, List.getElem?_cons_zero, List.getElem?_cons_succ]) rfl) ?_ (hs_next ?_))
  · refine hs_ret (tup3 rfl rfl (fz_l (x_oListRev _ _ (st.map stI) rfl))) ⟨⟨ps, js, st.reverse⟩, ?_, ⟨by show ps.length ≤ 8; omega, po⟩, ⟨jl, jo⟩, ⟨by rw [List.length_reverse]; exact sl, fun j hj => so j (List.mem_reverse.mp hj)⟩⟩
    rw [← List.map_reverse]
    rfl
  have ee : eqD (.list (ps.map ptI)) (.list []) = .ok (.bool (ps.map ptI).isEmpty) := by
    unfold eqD
    rw [eqB_ll (n := 4) (sh_ps hn to) (sh_l sh_0) (by decide), eqvAll_nil]
    rfl
  refine hs_seq (hs_if (xOrB _ _ (xEqB (i := n % 8) (j := 3) _ (by simp -implicitDefEqProofs only [s0, s1, s2, s3, s4, s5, s6, s7, s8, s9, x_max2, x_int_b, x_int_i, x_tuple_l, startD, List.length_cons, List.length_nil, List.map_cons, List.map_nil, List.cons_append, List.nil_append, Nat.reduceAdd, Nat.reduceSub, List.replicate, List.set_cons_zero, List.set_cons_succ, x_wipe_cons, x_wipe_nil, x_eOp, x_eC, x_eCB, x_aCons, x_aNil, x_bind_ok, x_add_i, x_len_s, x_len_l, x_len_t, x_bOf, x_eTup, x_eFz, x_oLst, x_eCall, x_aName, x_aTup, x_asCons, x_asNil, x_mod, x_div, x_bAnd, x_bOr, x_bNot, x_asB, x_sub_i, x_neg_i, x_toE_d, x_toE_o, x_notDict, if_true, if_false, reduceIte, Int.reduceLT, Int.reduceAdd, Int.reduceSub, Int.reduceMul, Int.reduceNeg, Int.reducePow, rVar, eVar, hVar, List.getElem?_cons_zero, List.getElem?_cons_succ]) rfl rfl) (bof ((op_ok rfl lst0).trans ee))) (fun _ => ?_) (fun hc => hs_next ?_))
  · obtain ⟨w, hw', hw, ew⟩ := ix_list a PyData.str 0 (by decide) (by rw [wa.1]; decide)
    refine hs_ret (tup3 (add2 (l := ps) (m := [(kk.1, [(w, n / 512 % 5)])]) (f := ptI) rfl (lst1 (tup2 rfl (lst1 (tup2 (a := .str w) (b := .int (n / 512 % 5)) (by simp -implicitDefEqProofs only [s0, s1, s2, s3, s4, s5, s6, s7, s8, s9, x_max2, x_int_b, x_int_i, x_tuple_l, startD, List.length_cons, List.length_nil, List.map_cons, List.map_nil, List.cons_append, List.nil_append, Nat.reduceAdd, Nat.reduceSub, List.replicate, List.set_cons_zero, List.set_cons_succ, x_wipe_cons, x_wipe_nil, x_eOp, x_eC, x_eCB, x_aCons, x_aNil, x_bind_ok, x_add_i, x_len_s, x_len_l, x_len_t, x_bOf, x_eTup, x_eFz, x_oLst, x_eCall, x_aName, x_aTup, x_asCons, x_asNil, x_mod, x_div, x_bAnd, x_bOr, x_bNot, x_asB, x_sub_i, x_neg_i, x_toE_d, x_toE_o, x_notDict, if_true, if_false, reduceIte, Int.reduceLT, Int.reduceAdd, Int.reduceSub, Int.reduceMul, Int.reduceNeg, Int.reducePow, rVar, eVar, hVar, List.getElem?_cons_zero, List.getElem?_cons_succ, wD0, ew]) (by simp -implicitDefEqProofs only [s0, s1, s2, s3, s4, s5, s6, s7, s8, s9, x_max2, x_int_b, x_int_i, x_tuple_l, startD, List.length_cons, List.length_nil, List.map_cons, List.map_nil, List.cons_append, List.nil_append, Nat.reduceAdd, Nat.reduceSub, List.replicate, List.set_cons_zero, List.set_cons_succ, x_wipe_cons, x_wipe_nil, x_eOp, x_eC, x_eCB, x_aCons, x_aNil, x_bind_ok, x_add_i, x_len_s, x_len_l, x_len_t, x_bOf, x_eTup, x_eFz, x_oLst, x_eCall, x_aName, x_aTup, x_asCons, x_asNil, x_mod, x_div, x_bAnd, x_bOr, x_bNot, x_asB, x_sub_i, x_neg_i, x_toE_d, x_toE_o, x_notDict, if_true, if_false, reduceIte, Int.reduceLT, Int.reduceAdd, Int.reduceSub, Int.reduceMul, Int.reduceNeg, Int.reducePow, rVar, eVar, hVar, List.getElem?_cons_zero, List.getElem?_cons_succ]))))) (by simp; omega)) rfl rfl) ⟨⟨ps ++ [(kk.1, [(w, n / 512 % 5)])], js, st⟩, rfl, ⟨by show (ps ++ [_]).length ≤ 8; rw [List.length_append]; simp; omega, fun p hp => ?_⟩, ⟨jl, jo⟩, ⟨sl, so⟩⟩
    rcases List.mem_append.mp hp with h | h
    · exact po p h
    · rw [List.mem_singleton.mp h]
      refine ⟨kn, by simp, fun s hs => ?_⟩
      rw [List.mem_singleton.mp hs, hw]
      exact (wa.2.2 _ (List.getElem_mem _)).2.2
  have hp0 : 0 < ps.length := by
    rw [Bool.or_eq_false_iff] at hc
    cases ps with
    | nil => exact absurd hc.2 (by decide)
    | cons _ _ => exact Nat.succ_pos _
  have hMp := M1 hp0
  obtain ⟨p, hp', hp, ep⟩ := ix_list ps ptI k k0 (by omega)
  have pok : PpOK nm p := po p (by rw [hp]; exact List.getElem_mem _)
  have ep0 : ixD (ptI p) (.int 0) = .ok (.str p.1) := x_ix_t _ _ _ (by decide) rfl
  have ep1 : ixD (ptI p) (.int 1) = .ok (.list (p.2.map stI)) := x_ix_t _ _ _ (by decide) rfl
  have fin : ∀ (q : Str × List (Str × Int)), PpOK nm q → tQ nm 8 (.d (.tuple [.list ((ps.take k.toNat ++ [q] ++ ps.drop (k + 1).toNat).map ptI), .list (js.map jnI), .list (st.map stI)])) := fun q hq => by
    refine ⟨⟨ps.take k.toNat ++ [q] ++ ps.drop (k + 1).toNat, js, st⟩, rfl, ⟨?_, fun p hp => ?_⟩, ⟨jl, jo⟩, ⟨sl, so⟩⟩
    · show (ps.take k.toNat ++ [q] ++ ps.drop (k + 1).toNat).length ≤ 8
      rw [List.length_append, List.length_append, List.length_singleton]
      have := cutl ps
      omega
    · rcases List.mem_append.mp hp with h | h
      · rcases List.mem_append.mp h with h | h
        · exact po p (List.mem_of_mem_take h)
        · rw [List.mem_singleton.mp h]; exact hq
      · exact po p (List.mem_of_mem_drop h)
  have l3 : ∀ q : Str × List (Str × Int), (ps.take k.toNat).length + [q].length + (ps.drop (k + 1).toNat).length ≤ 1000 := fun q => by
    have := cutl ps
    rw [List.length_singleton]
    omega
  refine hs_seq (hs_ifX (xEqI (i := n % 8) (j := 4) (by simp -implicitDefEqProofs only [s0, s1, s2, s3, s4, s5, s6, s7, s8, s9, x_max2, x_int_b, x_int_i, x_tuple_l, startD, List.length_cons, List.length_nil, List.map_cons, List.map_nil, List.cons_append, List.nil_append, Nat.reduceAdd, Nat.reduceSub, List.replicate, List.set_cons_zero, List.set_cons_succ, x_wipe_cons, x_wipe_nil, x_eOp, x_eC, x_eCB, x_aCons, x_aNil, x_bind_ok, x_add_i, x_len_s, x_len_l, x_len_t, x_bOf, x_eTup, x_eFz, x_oLst, x_eCall, x_aName, x_aTup, x_asCons, x_asNil, x_mod, x_div, x_bAnd, x_bOr, x_bNot, x_asB, x_sub_i, x_neg_i, x_toE_d, x_toE_o, x_notDict, if_true, if_false, reduceIte, Int.reduceLT, Int.reduceAdd, Int.reduceSub, Int.reduceMul, Int.reduceNeg, Int.reducePow, rVar, eVar, hVar, List.getElem?_cons_zero, List.getElem?_cons_succ]) rfl) ?_ (hs_next ?_))
  · refine hs_ret (tup3 (add3 (l := ps.take k.toNat) (m := [(kk.1, p.2)]) (n := ps.drop (k + 1).toNat) (f := ptI) (sl_a rfl rfl k0) (lst1 (tup2 (a := .str kk.1) (b := .list (p.2.map stI)) rfl (by simp -implicitDefEqProofs only [s0, s1, s2, s3, s4, s5, s6, s7, s8, s9, x_max2, x_int_b, x_int_i, x_tuple_l, startD, List.length_cons, List.length_nil, List.map_cons, List.map_nil, List.cons_append, List.nil_append, Nat.reduceAdd, Nat.reduceSub, List.replicate, List.set_cons_zero, List.set_cons_succ, x_wipe_cons, x_wipe_nil, x_eOp, x_eC, x_eCB, x_aCons, x_aNil, x_bind_ok, x_add_i, x_len_s, x_len_l, x_len_t, x_bOf, x_eTup, x_eFz, x_oLst, x_eCall, x_aName, x_aTup, x_asCons, x_asNil, x_mod, x_div, x_bAnd, x_bOr, x_bNot, x_asB, x_sub_i, x_neg_i, x_toE_d, x_toE_o, x_notDict, if_true, if_false, reduceIte, Int.reduceLT, Int.reduceAdd, Int.reduceSub, Int.reduceMul, Int.reduceNeg, Int.reducePow, rVar, eVar, hVar, List.getElem?_cons_zero, List.getElem?_cons_succ, ep, ep1]))) (sl_b rfl rfl k1') (l3 _)) rfl rfl) (fin _ ⟨kn, pok.2⟩)
  refine hs_seq (hs_ifX (xEqI (i := n % 8) (j := 5) (by simp -implicitDefEqProofs only [s0, s1, s2, s3, s4, s5, s6, s7, s8, s9, x_max2, x_int_b, x_int_i, x_tuple_l, startD, List.length_cons, List.length_nil, List.map_cons, List.map_nil, List.cons_append, List.nil_append, Nat.reduceAdd, Nat.reduceSub, List.replicate, List.set_cons_zero, List.set_cons_succ, x_wipe_cons, x_wipe_nil, x_eOp, x_eC, x_eCB, x_aCons, x_aNil, x_bind_ok, x_add_i, x_len_s, x_len_l, x_len_t, x_bOf, x_eTup, x_eFz, x_oLst, x_eCall, x_aName, x_aTup, x_asCons, x_asNil, x_mod, x_div, x_bAnd, x_bOr, x_bNot, x_asB, x_sub_i, x_neg_i, x_toE_d, x_toE_o, x_notDict, if_true, if_false, reduceIte, Int.reduceLT, Int.reduceAdd, Int.reduceSub, Int.reduceMul, Int.reduceNeg, Int.reducePow, rVar, eVar, hVar, List.getElem?_cons_zero, List.getElem?_cons_succ]) rfl) ?_ (hs_next ?_))
  · refine hs_ret (tup3 (add3 (l := ps.take k.toNat) (m := [(p.1, [])]) (n := ps.drop (k + 1).toNat) (f := ptI) (sl_a rfl rfl k0) (lst1 (tup2 (a := .str p.1) (by simp -implicitDefEqProofs only [s0, s1, s2, s3, s4, s5, s6, s7, s8, s9, x_max2, x_int_b, x_int_i, x_tuple_l, startD, List.length_cons, List.length_nil, List.map_cons, List.map_nil, List.cons_append, List.nil_append, Nat.reduceAdd, Nat.reduceSub, List.replicate, List.set_cons_zero, List.set_cons_succ, x_wipe_cons, x_wipe_nil, x_eOp, x_eC, x_eCB, x_aCons, x_aNil, x_bind_ok, x_add_i, x_len_s, x_len_l, x_len_t, x_bOf, x_eTup, x_eFz, x_oLst, x_eCall, x_aName, x_aTup, x_asCons, x_asNil, x_mod, x_div, x_bAnd, x_bOr, x_bNot, x_asB, x_sub_i, x_neg_i, x_toE_d, x_toE_o, x_notDict, if_true, if_false, reduceIte, Int.reduceLT, Int.reduceAdd, Int.reduceSub, Int.reduceMul, Int.reduceNeg, Int.reducePow, rVar, eVar, hVar, List.getElem?_cons_zero, List.getElem?_cons_succ, ep, ep0]) lst0)) (sl_b rfl rfl k1') (l3 _)) rfl rfl) (fin _ ⟨pok.1, by simp, fun s hs => by cases hs⟩)
  refine hs_seq (hs_set (x := .list ((p.2.map fun s => (s.1, s.2 + n / 64 % 3 - 1)).map stI)) (fz_l ?_) ?_)
  · rw [List.map_map]
    refine lc_eq (xs := p.2) stI _ (it_l (by simp -implicitDefEqProofs only [s0, s1, s2, s3, s4, s5, s6, s7, s8, s9, x_max2, x_int_b, x_int_i, x_tuple_l, startD, List.length_cons, List.length_nil, List.map_cons, List.map_nil, List.cons_append, List.nil_append, Nat.reduceAdd, Nat.reduceSub, List.replicate, List.set_cons_zero, List.set_cons_succ, x_wipe_cons, x_wipe_nil, x_eOp, x_eC, x_eCB, x_aCons, x_aNil, x_bind_ok, x_add_i, x_len_s, x_len_l, x_len_t, x_bOf, x_eTup, x_eFz, x_oLst, x_eCall, x_aName, x_aTup, x_asCons, x_asNil, x_mod, x_div, x_bAnd, x_bOr, x_bNot, x_asB, x_sub_i, x_neg_i, x_toE_d, x_toE_o, x_notDict, if_true, if_false, reduceIte, Int.reduceLT, Int.reduceAdd, Int.reduceSub, Int.reduceMul, Int.reduceNeg, Int.reducePow, rVar, eVar, hVar, List.getElem?_cons_zero, List.getElem?_cons_succ, ep, ep1])) (sz (by have := pok.2.1; omega)) fun s hs => ⟨_, rfl, ?_⟩
    refine tup2 rfl ?_
    simp -implicitDefEqProofs only [s0, s1, s2, s3, s4, s5, s6, s7, s8, s9, x_max2, x_int_b, x_int_i, x_tuple_l, startD, List.length_cons, List.length_nil, List.map_cons, List.map_nil, List.cons_append, List.nil_append, Nat.reduceAdd, Nat.reduceSub, List.replicate, List.set_cons_zero, List.set_cons_succ, x_wipe_cons, x_wipe_nil, x_eOp, x_eC, x_eCB, x_aCons, x_aNil, x_bind_ok, x_add_i, x_len_s, x_len_l, x_len_t, x_bOf, x_eTup, x_eFz, x_oLst, x_eCall, x_aName, x_aTup, x_asCons, x_asNil, x_mod, x_div, x_bAnd, x_bOr, x_bNot, x_asB, x_sub_i, x_neg_i, x_toE_d, x_toE_o, x_notDict, if_true, if_false, reduceIte, Int.reduceLT, Int.reduceAdd, Int.reduceSub, Int.reduceMul, Int.reduceNeg, Int.reducePow, rVar, eVar, hVar, List.getElem?_cons_zero, List.getElem?_cons_succ]
  simp -implicitDefEqProofs only [startD, List.length_cons, List.length_nil, List.map_cons, List.map_nil, List.cons_append, List.nil_append, Nat.reduceAdd, Nat.reduceSub, List.replicate, List.set_cons_zero, List.set_cons_succ, List.foldl_cons, List.foldl_nil, x_killD_n, x_killD_c, x_slOf_f, x_slOf_o, x_slOf_t, x_slOf_k]
  refine hs_ret (tup3 (add3 (l := ps.take k.toNat) (m := [(p.1, p.2.map fun s => (s.1, s.2 + n / 64 % 3 - 1))]) (n := ps.drop (k + 1).toNat) (f := ptI) (sl_a rfl rfl k0) (lst1 (tup2 (a := .str p.1) (by simp -implicitDefEqProofs only [s0, s1, s2, s3, s4, s5, s6, s7, s8, s9, x_max2, x_int_b, x_int_i, x_tuple_l, startD, List.length_cons, List.length_nil, List.map_cons, List.map_nil, List.cons_append, List.nil_append, Nat.reduceAdd, Nat.reduceSub, List.replicate, List.set_cons_zero, List.set_cons_succ, x_wipe_cons, x_wipe_nil, x_eOp, x_eC, x_eCB, x_aCons, x_aNil, x_bind_ok, x_add_i, x_len_s, x_len_l, x_len_t, x_bOf, x_eTup, x_eFz, x_oLst, x_eCall, x_aName, x_aTup, x_asCons, x_asNil, x_mod, x_div, x_bAnd, x_bOr, x_bNot, x_asB, x_sub_i, x_neg_i, x_toE_d, x_toE_o, x_notDict, if_true, if_false, reduceIte, Int.reduceLT, Int.reduceAdd, Int.reduceSub, Int.reduceMul, Int.reduceNeg, Int.reducePow, rVar, eVar, hVar, List.getElem?_cons_zero, List.getElem?_cons_succ, ep, ep0]) rfl)) (sl_b rfl rfl k1') (l3 _)) rfl rfl) (fin _ ⟨pok.1, by rw [List.length_map]; exact pok.2.1, fun s hs => ?_⟩)
  obtain ⟨s', hs', rfl⟩ := List.mem_map.mp hs
  exact pok.2.2 s' hs'
end
end K16
namespace K16
open PySem L2 DL
/-! ### the program, told in plain words -/
def uS (ws : Ks) (k : Str) (al : List Str) : Bool := al.any fun o => decide (o ∈ k :: chR ws.reverse k)
abbrev Bd := Str × Option Int × Option Int
def loB (v : Int) : Option Int → Bool
  | none => false
  | some lo => decide (v < lo)
def hiB (v : Int) : Option Int → Bool
  | none => false
  | some hi => decide (hi < v)
def bW (sz : List (Str × Int)) (b : Bd) : Bool := match lk sz b.1 with
  | none => false
  | some v => !(loB v b.2.1 || hiB v b.2.2)
def sW (sz : List (Str × Int)) (bs : List Bd) : Bool := bs.all (bW sz)
def bdsOf (r : Rd) (i : Nat) : List Bd := (r.sz.filter fun s => decide (s.1 = (i : Int))).map (·.2)
def fitP (ws : Ks) (al : List Str) (bs : List Bd) (p : (Str × List (Str × Int)) × Nat) : Bool := uS ws p.1.1 al && sW p.1.2 bs
def rowOf (ws : Ks) (r : Rd) (t : Th) (a : List Str × Nat) : List Int := (t.ps.zipIdx.filter (fitP ws a.1 (bdsOf r a.2))).map fun p => ((p.2 : Nat) : Int)
def fpl (ws : Ks) (r : Rd) (t : Th) : List (List Int) := r.ps.zipIdx.map (rowOf ws r t)
def fdAt (fd : List Int) (i : Int) : Int := fd.getD i.toNat 0
def jL1 (t : Th) (fd : List Int) (j : Str × Int × Int) : Bool := !(decide (j.2.1 < fd.length) && (decide (j.2.2 < fd.length) && !decide ((j.1, fdAt fd j.2.1, fdAt fd j.2.2) ∈ t.js)))
def jL (r : Rd) (t : Th) (fd : List Int) : Bool := r.js.all (jL1 t fd)
def sD1 (s : Str × Int) : List (Str × Int) → List (Str × Int)
  | [] => []
  | l :: ls => if l = s then ls else l :: ls
def sDl (left : List (Str × Int)) (st : List (Str × Int)) : List (Str × Int) := st.foldl (fun l s => sD1 s l) left
def sDn (r : Rd) (t : Th) (fd : List Int) : Bool := decide ((sDl (r.st.map fun s => (s.1, fdAt fd s.2)) t.st).length = 0)
def cK1 (ws : Ks) (t : Th) (fd : List Int) (c : List Str × List Int) : Bool := t.ps.zipIdx.all fun p => !(!decide (((p.2 : Nat) : Int) ∈ c.2.map (fdAt fd)) && uS ws p.1.1 c.1)
def cK (ws : Ks) (r : Rd) (t : Th) (fd : List Int) : Bool := r.cl.all (cK1 ws t fd)
def ffD (ok jl : List Int → Bool) : List (List Int) → List Int → Option (List Int)
  | [], fd => if ok fd = true then some fd else none
  | row :: rest, fd => row.findSome? fun p => if p ∉ fd ∧ jl (fd ++ [p]) = true then ffD ok jl rest (fd ++ [p]) else none
/-- the first finding -/
def ffO (ws : Ks) (r : Rd) (t : Th) : Option (List Int) := ffD (fun fd => sDn r t fd && cK ws r t fd) (jL r t) (fpl ws r t) []
section
variable {ws : Ks} {nm : List Str} (gk : GK ws) (hnm : ws.map (·.1) = nm)
include gk hnm
theorem under_some {k : Str} {al : List Str} (hk : k ∈ nm) (ha : ∀ o ∈ al, o ∈ nm) (hl : al.length ≤ 100) : d_under_some [kD ws, .str k, tS al] = .rt (.d (.bool (uS ws k al))) := by
  refine run_eq (n := 4) (s := S_under_some) (ds := [kD ws, .str k, tS al]) ?_
  unfold S_under_some
  simp -implicitDefEqProofs only [startD, List.length_cons, List.length_nil, List.map_cons, List.map_nil, List.cons_append, List.nil_append, Nat.reduceAdd, Nat.reduceSub, List.replicate, List.set_cons_zero, List.set_cons_succ, List.foldl_cons, List.foldl_nil, x_killD_n, x_killD_c, x_slOf_f, x_slOf_o, x_slOf_t, x_slOf_k]
  refine hs_ret (x := .bool (uS ws k al)) ?_ rfl
  have e : oLc (iItems (eVar 2)) (aName 3) gYes (eCall 3 d_is_under (aCons (eVar 0) (aCons (eVar 1) (aCons (eVar 3) aNil)))) [3] [some (.d (kD ws)), some (.d (.str k)), some (.d (tS al)), none] = .ok (.list ((al.map fun o => decide (o ∈ k :: chR ws.reverse k)).map PyData.bool)) := by
    rw [List.map_map]
    refine lc_eq (xs := al) PyData.str _ (it_t rfl) (sz (by omega)) fun o ho => ⟨_, rfl, call3 rfl rfl rfl (is_under ws k o gk.1 (by have := gk.2.2.1; omega) (by rw [hnm]; exact hk) (by rw [hnm]; exact ha o ho))⟩
  rw [cb1 (fz_l e), x_any, List.any_map]
  rfl
theorem sizes_within (sz : List (Str × Int)) (bs : List Bd) : d_sizes_within [.list (sz.map stI), .list (bs.map bdI)] = .rt (.d (.bool (sW sz bs))) := by
  refine run_eq (n := 6) (s := S_sizes_within) (ds := [.list (sz.map stI), .list (bs.map bdI)]) ?_
  unfold S_sizes_within
  simp -implicitDefEqProofs only [startD, List.length_cons, List.length_nil, List.map_cons, List.map_nil, List.cons_append, List.nil_append, Nat.reduceAdd, Nat.reduceSub, List.replicate, List.set_cons_zero, List.set_cons_succ, List.foldl_cons, List.foldl_nil, x_killD_n, x_killD_c, x_slOf_f, x_slOf_o, x_slOf_t, x_slOf_k]
  obtain ⟨D, eD, hD⟩ := dict_si sz
  have eD : dictD [.list (sz.map stI)] = .ok (.dict D) := eD
  refine hs_seq (hs_setO (x := .dict D) (by rw [cb1 (a := .list (sz.map stI)) rfl, eD]) ?_)
  simp -implicitDefEqProofs only [startD, List.length_cons, List.length_nil, List.map_cons, List.map_nil, List.cons_append, List.nil_append, Nat.reduceAdd, Nat.reduceSub, List.replicate, List.set_cons_zero, List.set_cons_succ, List.foldl_cons, List.foldl_nil, x_killD_n, x_killD_c, x_slOf_f, x_slOf_o, x_slOf_t, x_slOf_k]
  refine hs_cut (P := fun ρ => sW sz bs = true) (hs_pre ?_) fun ρ h => hs_ret (x := .bool true) rfl (by rw [h])
  simp -implicitDefEqProofs only [startD, List.length_cons, List.length_nil, List.map_cons, List.map_nil, List.cons_append, List.nil_append, Nat.reduceAdd, Nat.reduceSub, List.replicate, List.set_cons_zero, List.set_cons_succ, List.foldl_cons, List.foldl_nil, x_killD_n, x_killD_c, x_slOf_f, x_slOf_o, x_slOf_t, x_slOf_k]
  refine hs_every bdI bs (bW sz) (it_l rfl) (fun i b hb => ?_) (fun h => h) (fun h => by show _ = Sl.d (.bool (sW sz bs)); unfold sW; rw [h])
  obtain ⟨w, lo, hi⟩ := b
  refine ⟨_, rfl, ?_⟩
  simp -implicitDefEqProofs only [startD, List.length_cons, List.length_nil, List.map_cons, List.map_nil, List.cons_append, List.nil_append, Nat.reduceAdd, Nat.reduceSub, List.replicate, List.set_cons_zero, List.set_cons_succ, List.foldl_cons, List.foldl_nil, x_killD_n, x_killD_c, x_slOf_f, x_slOf_o, x_slOf_t, x_slOf_k]
  have hw := hD w
  cases c : lk sz w with
  | none =>
    rw [c] at hw
    refine hs_seq (hs_if (c := true) (bof ?_) (fun _ => ?_) (fun q => by cases q))
    · rw [dnot_o (D := D) (a := w) rfl rfl, hw]
      rfl
    · refine hs_ret rfl ⟨rfl, ?_⟩
      unfold bW
      rw [c]
  | some v =>
    rw [c] at hw
    refine hs_seq (hs_if (c := false) (bof ?_) (fun q => by cases q) (fun _ => hs_next ?_))
    · rw [dnot_o (D := D) (a := w) rfl rfl, hw]
      rfl
    have eg : ∀ ρ : Rho, ρ[2]? = some (some (.o (.dict D))) → rVar 3 ρ = .ok (.str w) → eDget 2 (rVar 3) ρ = .ok (.int v) := fun ρ h1 h2 => dget_o h1 h2 hw
    have eb : bW sz (w, lo, hi) = !(loB v lo || hiB v hi) := by unfold bW; rw [c]
    rw [eb]
    refine hs_if (c := loB v lo || hiB v hi) (xOrB _ _ ?_ ?_) (fun h => ?_) (fun h => ?_)
    · cases lo with
      | none => exact xAndB false true (bof rfl) (fun h => by cases h)
      | some lo => exact xAndB true _ (bof rfl) (fun _ => xCmpB _ (eg _ rfl rfl) rfl rfl)
    · cases hi with
      | none => exact xAndB false true (bof rfl) (fun h => by cases h)
      | some hi => exact xAndB true _ (bof rfl) (fun _ => xCmpB _ (eg _ rfl rfl) rfl rfl)
    · exact hs_ret rfl ⟨rfl, by rw [h]; rfl⟩
    · exact hs_next ⟨rfl, by rw [h]; rfl⟩
end
theorem pt0 (p : Str × List (Str × Int)) : ixD (ptI p) (.int 0) = .ok (.str p.1) := x_ix_t _ _ _ (by decide) rfl
theorem pt1 (p : Str × List (Str × Int)) : ixD (ptI p) (.int 1) = .ok (.list (p.2.map stI)) := x_ix_t _ _ _ (by decide) rfl
theorem th0 (t : Th) : ixD (thD t) (.int 0) = .ok (.list (t.ps.map ptI)) := x_ix_t _ _ _ (by decide) rfl
theorem th1 (t : Th) : ixD (thD t) (.int 1) = .ok (.list (t.js.map jnI)) := x_ix_t _ _ _ (by decide) rfl
theorem th2 (t : Th) : ixD (thD t) (.int 2) = .ok (.list (t.st.map stI)) := x_ix_t _ _ _ (by decide) rfl
def eP (p : (Str × List (Str × Int)) × Nat) : PD := .tuple [.int ((p.2 : Nat) : Int), ptI p.1]
def eA (p : List Str × Nat) : PD := .tuple [.int ((p.2 : Nat) : Int), tS p.1]
def rowI (l : List Int) : PD := .list (l.map PyData.int)
section
variable {ws : Ks} {nm : List Str} (gk : GK ws) (hnm : ws.map (·.1) = nm) {r : Rd} {t : Th} {N : Nat} (ro : RdOK nm r) (to : ThOK nm N t) (hN : N ≤ 100)
include gk hnm ro to hN
theorem fitting_places : d_fitting_places [kD ws, rdD r, thD t] = .rt (.o (.list ((fpl ws r t).map rowI))) := by
  refine run_eq (n := 14) (s := S_fitting_places) (ds := [kD ws, rdD r, thD t]) ?_
  unfold S_fitting_places
  simp -implicitDefEqProofs only [startD, List.length_cons, List.length_nil, List.map_cons, List.map_nil, List.cons_append, List.nil_append, Nat.reduceAdd, Nat.reduceSub, List.replicate, List.set_cons_zero, List.set_cons_succ, List.foldl_cons, List.foldl_nil, x_killD_n, x_killD_c, x_slOf_f, x_slOf_o, x_slOf_t, x_slOf_k]
  refine hs_seq (hs_setO (x := .list []) (by simp -implicitDefEqProofs only [s0, s1, s2, s3, s4, s5, s6, s7, s8, s9, x_max2, x_int_b, x_int_i, x_tuple_l, startD, List.length_cons, List.length_nil, List.map_cons, List.map_nil, List.cons_append, List.nil_append, Nat.reduceAdd, Nat.reduceSub, List.replicate, List.set_cons_zero, List.set_cons_succ, x_wipe_cons, x_wipe_nil, x_eOp, x_eC, x_eCB, x_aCons, x_aNil, x_bind_ok, x_add_i, x_len_s, x_len_l, x_len_t, x_bOf, x_eTup, x_eFz, x_oLst, x_eCall, x_aName, x_aTup, x_asCons, x_asNil, x_mod, x_div, x_bAnd, x_bOr, x_bNot, x_asB, x_sub_i, x_neg_i, x_toE_d, x_toE_o, x_notDict, if_true, if_false, reduceIte, Int.reduceLT, Int.reduceAdd, Int.reduceSub, Int.reduceMul, Int.reduceNeg, Int.reducePow, rVar, eVar, hVar, List.getElem?_cons_zero, List.getElem?_cons_succ]) ?_)
  simp -implicitDefEqProofs only [startD, List.length_cons, List.length_nil, List.map_cons, List.map_nil, List.cons_append, List.nil_append, Nat.reduceAdd, Nat.reduceSub, List.replicate, List.set_cons_zero, List.set_cons_succ, List.foldl_cons, List.foldl_nil, x_killD_n, x_killD_c, x_slOf_f, x_slOf_o, x_slOf_t, x_slOf_k]
  refine hs_cut (P := fun ρ => ρ = [some (.d (kD ws)), some (.d (rdD r)), some (.d (thD t)), some (.o (.list ((fpl ws r t).map rowI))), none, none, none, none, none, none, none, none, none, none]) (hs_pre ?_) (fun ρ h => by subst h; exact hs_retV rfl rfl)
  simp -implicitDefEqProofs only [startD, List.length_cons, List.length_nil, List.map_cons, List.map_nil, List.cons_append, List.nil_append, Nat.reduceAdd, Nat.reduceSub, List.replicate, List.set_cons_zero, List.set_cons_succ, List.foldl_cons, List.foldl_nil, x_killD_n, x_killD_c, x_slOf_f, x_slOf_o, x_slOf_t, x_slOf_k]
  refine hs_forL eA r.ps.zipIdx (by rw [enum_st (l := r.ps.map tS) (by simp -implicitDefEqProofs only [s0, s1, s2, s3, s4, s5, s6, s7, s8, s9, x_max2, x_int_b, x_int_i, x_tuple_l, startD, List.length_cons, List.length_nil, List.map_cons, List.map_nil, List.cons_append, List.nil_append, Nat.reduceAdd, Nat.reduceSub, List.replicate, List.set_cons_zero, List.set_cons_succ, x_wipe_cons, x_wipe_nil, x_eOp, x_eC, x_eCB, x_aCons, x_aNil, x_bind_ok, x_add_i, x_len_s, x_len_l, x_len_t, x_bOf, x_eTup, x_eFz, x_oLst, x_eCall, x_aName, x_aTup, x_asCons, x_asNil, x_mod, x_div, x_bAnd, x_bOr, x_bNot, x_asB, x_sub_i, x_neg_i, x_toE_d, x_toE_o, x_notDict, if_true, if_false, reduceIte, Int.reduceLT, Int.reduceAdd, Int.reduceSub, Int.reduceMul, Int.reduceNeg, Int.reducePow, rVar, eVar, hVar, List.getElem?_cons_zero, List.getElem?_cons_succ, rd0]), enum_map]; rfl) (fun i ρ => ρ = [some (.d (kD ws)), some (.d (rdD r)), some (.d (thD t)), some (.o (.list (((r.ps.zipIdx.take i).map (rowOf ws r t)).map rowI))), none, none, none, none, none, none, none, none, none, none]) rfl (fun i a ρ ha hI => ?_) fun ρ hI => ?_
  · subst hI
    obtain ⟨al, j⟩ := a
    obtain ⟨rfl, hi, hal⟩ := zip_at ha
    have ao : PtOK nm al := ro.p.p2 al (by rw [← hal]; exact List.getElem_mem _)
    have rl := ro.p.p1
    refine ⟨_, rfl, ?_⟩
    simp -implicitDefEqProofs only [startD, List.length_cons, List.length_nil, List.map_cons, List.map_nil, List.cons_append, List.nil_append, Nat.reduceAdd, Nat.reduceSub, List.replicate, List.set_cons_zero, List.set_cons_succ, List.foldl_cons, List.foldl_nil, x_killD_n, x_killD_c, x_slOf_f, x_slOf_o, x_slOf_t, x_slOf_k]
    refine hs_seq (hs_set (x := .list ((bdsOf r j).map bdI)) (fz_l ?_) ?_)
    · unfold bdsOf
      rw [List.map_map (f := fun x : Int × Str × Option Int × Option Int => x.2)]
      refine lc_flt (xs := r.sz) szI (bdI ∘ (·.2)) (fun s => decide (s.1 = (j : Int))) (it_l ?_) (sz (by have := ro.z.1; omega)) fun s hs => ⟨_, rfl, bof (op_ok (a := .int s.1) (b := .int (j : Nat)) rfl rfl), fun _ => tup3 rfl rfl rfl⟩
      simp -implicitDefEqProofs only [s0, s1, s2, s3, s4, s5, s6, s7, s8, s9, x_max2, x_int_b, x_int_i, x_tuple_l, startD, List.length_cons, List.length_nil, List.map_cons, List.map_nil, List.cons_append, List.nil_append, Nat.reduceAdd, Nat.reduceSub, List.replicate, List.set_cons_zero, List.set_cons_succ, x_wipe_cons, x_wipe_nil, x_eOp, x_eC, x_eCB, x_aCons, x_aNil, x_bind_ok, x_add_i, x_len_s, x_len_l, x_len_t, x_bOf, x_eTup, x_eFz, x_oLst, x_eCall, x_aName, x_aTup, x_asCons, x_asNil, x_mod, x_div, x_bAnd, x_bOr, x_bNot, x_asB, x_sub_i, x_neg_i, x_toE_d, x_toE_o, x_notDict, if_true, if_false, reduceIte, Int.reduceLT, Int.reduceAdd, Int.reduceSub, Int.reduceMul, Int.reduceNeg, Int.reducePow, rVar, eVar, hVar, List.getElem?_cons_zero, List.getElem?_cons_succ, rd3]
    simp -implicitDefEqProofs only [startD, List.length_cons, List.length_nil, List.map_cons, List.map_nil, List.cons_append, List.nil_append, Nat.reduceAdd, Nat.reduceSub, List.replicate, List.set_cons_zero, List.set_cons_succ, List.foldl_cons, List.foldl_nil, x_killD_n, x_killD_c, x_slOf_f, x_slOf_o, x_slOf_t, x_slOf_k]
    refine hs_seq (hs_setO (x := .list []) (by simp -implicitDefEqProofs only [s0, s1, s2, s3, s4, s5, s6, s7, s8, s9, x_max2, x_int_b, x_int_i, x_tuple_l, startD, List.length_cons, List.length_nil, List.map_cons, List.map_nil, List.cons_append, List.nil_append, Nat.reduceAdd, Nat.reduceSub, List.replicate, List.set_cons_zero, List.set_cons_succ, x_wipe_cons, x_wipe_nil, x_eOp, x_eC, x_eCB, x_aCons, x_aNil, x_bind_ok, x_add_i, x_len_s, x_len_l, x_len_t, x_bOf, x_eTup, x_eFz, x_oLst, x_eCall, x_aName, x_aTup, x_asCons, x_asNil, x_mod, x_div, x_bAnd, x_bOr, x_bNot, x_asB, x_sub_i, x_neg_i, x_toE_d, x_toE_o, x_notDict, if_true, if_false, reduceIte, Int.reduceLT, Int.reduceAdd, Int.reduceSub, Int.reduceMul, Int.reduceNeg, Int.reducePow, rVar, eVar, hVar, List.getElem?_cons_zero, List.getElem?_cons_succ]) ?_)
    simp -implicitDefEqProofs only [startD, List.length_cons, List.length_nil, List.map_cons, List.map_nil, List.cons_append, List.nil_append, Nat.reduceAdd, Nat.reduceSub, List.replicate, List.set_cons_zero, List.set_cons_succ, List.foldl_cons, List.foldl_nil, x_killD_n, x_killD_c, x_slOf_f, x_slOf_o, x_slOf_t, x_slOf_k]
    refine hs_cut (P := fun ρ => ρ = [some (.d (kD ws)), some (.d (rdD r)), some (.d (thD t)), some (.o (.list (((r.ps.zipIdx.take j).map (rowOf ws r t)).map rowI))), some (.d (.int (j : Nat))), some (.d (tS al)), some (.d (.list ((bdsOf r j).map bdI))), some (.o (rowI (rowOf ws r t (al, j)))), none, none, none, none, none, none]) (hs_pre ?_) (fun ρ h => ?_)
    · simp -implicitDefEqProofs only [startD, List.length_cons, List.length_nil, List.map_cons, List.map_nil, List.cons_append, List.nil_append, Nat.reduceAdd, Nat.reduceSub, List.replicate, List.set_cons_zero, List.set_cons_succ, List.foldl_cons, List.foldl_nil, x_killD_n, x_killD_c, x_slOf_f, x_slOf_o, x_slOf_t, x_slOf_k]
      refine hs_forL eP t.ps.zipIdx (by rw [enum_st (l := t.ps.map ptI) (by simp -implicitDefEqProofs only [s0, s1, s2, s3, s4, s5, s6, s7, s8, s9, x_max2, x_int_b, x_int_i, x_tuple_l, startD, List.length_cons, List.length_nil, List.map_cons, List.map_nil, List.cons_append, List.nil_append, Nat.reduceAdd, Nat.reduceSub, List.replicate, List.set_cons_zero, List.set_cons_succ, x_wipe_cons, x_wipe_nil, x_eOp, x_eC, x_eCB, x_aCons, x_aNil, x_bind_ok, x_add_i, x_len_s, x_len_l, x_len_t, x_bOf, x_eTup, x_eFz, x_oLst, x_eCall, x_aName, x_aTup, x_asCons, x_asNil, x_mod, x_div, x_bAnd, x_bOr, x_bNot, x_asB, x_sub_i, x_neg_i, x_toE_d, x_toE_o, x_notDict, if_true, if_false, reduceIte, Int.reduceLT, Int.reduceAdd, Int.reduceSub, Int.reduceMul, Int.reduceNeg, Int.reducePow, rVar, eVar, hVar, List.getElem?_cons_zero, List.getElem?_cons_succ, th0]), enum_map]; rfl) (fun i ρ => ρ = [some (.d (kD ws)), some (.d (rdD r)), some (.d (thD t)), some (.o (.list (((r.ps.zipIdx.take j).map (rowOf ws r t)).map rowI))), some (.d (.int (j : Nat))), some (.d (tS al)), some (.d (.list ((bdsOf r j).map bdI))), some (.o (rowI (((t.ps.zipIdx.take i).filter (fitP ws al (bdsOf r j))).map fun p => ((p.2 : Nat) : Int)))), none, none, none, none, none, none]) rfl (fun i p ρ hp hI => ?_) fun ρ hI => ?_
      · subst hI
        obtain ⟨p, j2⟩ := p
        obtain ⟨rfl, hi2, hp2⟩ := zip_at hp
        have po : PpOK nm p := to.p.2 p (by rw [← hp2]; exact List.getElem_mem _)
        have tl := to.p.1
        refine ⟨_, rfl, ?_⟩
        simp -implicitDefEqProofs only [startD, List.length_cons, List.length_nil, List.map_cons, List.map_nil, List.cons_append, List.nil_append, Nat.reduceAdd, Nat.reduceSub, List.replicate, List.set_cons_zero, List.set_cons_succ, List.foldl_cons, List.foldl_nil, x_killD_n, x_killD_c, x_slOf_f, x_slOf_o, x_slOf_t, x_slOf_k]
        have e1 := under_some gk hnm (k := p.1) (al := al) po.1 ao.2.2 (by have := ao.2.1; omega)
        have e2 := sizes_within gk hnm p.2 (bdsOf r j)
        refine hs_if (c := uS ws p.1 al && sW p.2 (bdsOf r j)) (xAndB _ _ (bof (call3 rfl (by simp -implicitDefEqProofs only [s0, s1, s2, s3, s4, s5, s6, s7, s8, s9, x_max2, x_int_b, x_int_i, x_tuple_l, startD, List.length_cons, List.length_nil, List.map_cons, List.map_nil, List.cons_append, List.nil_append, Nat.reduceAdd, Nat.reduceSub, List.replicate, List.set_cons_zero, List.set_cons_succ, x_wipe_cons, x_wipe_nil, x_eOp, x_eC, x_eCB, x_aCons, x_aNil, x_bind_ok, x_add_i, x_len_s, x_len_l, x_len_t, x_bOf, x_eTup, x_eFz, x_oLst, x_eCall, x_aName, x_aTup, x_asCons, x_asNil, x_mod, x_div, x_bAnd, x_bOr, x_bNot, x_asB, x_sub_i, x_neg_i, x_toE_d, x_toE_o, x_notDict, if_true, if_false, reduceIte, Int.reduceLT, Int.reduceAdd, Int.reduceSub, Int.reduceMul, Int.reduceNeg, Int.reducePow, rVar, eVar, hVar, List.getElem?_cons_zero, List.getElem?_cons_succ, pt0]) rfl e1)) (fun _ => bof (call2 (by simp -implicitDefEqProofs only [s0, s1, s2, s3, s4, s5, s6, s7, s8, s9, x_max2, x_int_b, x_int_i, x_tuple_l, startD, List.length_cons, List.length_nil, List.map_cons, List.map_nil, List.cons_append, List.nil_append, Nat.reduceAdd, Nat.reduceSub, List.replicate, List.set_cons_zero, List.set_cons_succ, x_wipe_cons, x_wipe_nil, x_eOp, x_eC, x_eCB, x_aCons, x_aNil, x_bind_ok, x_add_i, x_len_s, x_len_l, x_len_t, x_bOf, x_eTup, x_eFz, x_oLst, x_eCall, x_aName, x_aTup, x_asCons, x_asNil, x_mod, x_div, x_bAnd, x_bOr, x_bNot, x_asB, x_sub_i, x_neg_i, x_toE_d, x_toE_o, x_notDict, if_true, if_false, reduceIte, Int.reduceLT, Int.reduceAdd, Int.reduceSub, Int.reduceMul, Int.reduceNeg, Int.reducePow, rVar, eVar, hVar, List.getElem?_cons_zero, List.getElem?_cons_succ, pt1]) rfl e2))) (fun h => ?_) (fun h => ?_)
        · refine hs_app (ds := (((t.ps.zipIdx.take j2).filter (fitP ws al (bdsOf r j))).map fun p => ((p.2 : Nat) : Int)).map PyData.int) (x := .int (j2 : Nat)) rfl rfl ?_ ?_
          · rw [List.length_map, List.length_map]
            refine szl ?_
            have := List.length_filter_le (fitP ws al (bdsOf r j)) (t.ps.zipIdx.take j2)
            rw [List.length_take] at this
            omega
          · rw [List.take_succ, hp, Option.toList_some, List.filter_append, List.filter_cons_of_pos (show fitP ws al (bdsOf r j) (p, j2) = true from h), List.filter_nil, List.map_append]
            unfold rowI
            rw [List.map_append]
            rfl
        · refine hs_next ?_
          rw [List.take_succ, hp, Option.toList_some, List.filter_append, List.filter_cons_of_neg (show ¬ fitP ws al (bdsOf r j) (p, j2) = true by unfold fitP; rw [h]; decide), List.filter_nil, List.append_nil]
          rfl
      · rw [hI, List.take_length]
        rfl
    · subst h
      refine hs_frz ?_
      rw [List.foldl_cons, frz_o (l := (rowOf ws r t (al, j)).map PyData.int) rfl]
      simp -implicitDefEqProofs only [startD, List.length_cons, List.length_nil, List.map_cons, List.map_nil, List.cons_append, List.nil_append, Nat.reduceAdd, Nat.reduceSub, List.replicate, List.set_cons_zero, List.set_cons_succ, List.foldl_cons, List.foldl_nil, x_killD_n, x_killD_c, x_slOf_f, x_slOf_o, x_slOf_t, x_slOf_k]
      refine hs_app (ds := ((r.ps.zipIdx.take j).map (rowOf ws r t)).map rowI) (x := rowI (rowOf ws r t (al, j))) rfl rfl ?_ ?_
      · rw [List.length_map, List.length_map, List.length_take]
        exact szl (by omega)
      · rw [List.take_succ, ha, Option.toList_some, List.map_append, List.map_append]
        rfl
  · rw [hI, List.take_length]
    rfl
end
end K16
namespace K16
open PySem L2 DL
/-! ### a finding -/
theorem fd_ix (fd : List Int) (i : Int) (h0 : 0 ≤ i) (h1 : i < fd.length) : ixD (.list (fd.map PyData.int)) (.int i) = .ok (.int (fdAt fd i)) := by
  obtain ⟨x, h, hx, e⟩ := ix_list fd PyData.int i h0 h1
  rw [e, hx]
  unfold fdAt
  rw [getD_at _ _ h]
theorem mem_jn {js : List (Str × Int × Int)} {y : Str × Int × Int} (hj : ∀ j ∈ js, okS j.1) (hy : okS y.1) : ninD (jnI y) (.list (js.map jnI)) = .ok (.bool !decide (y ∈ js)) := by
  unfold ninD
  show (inB (.tuple [.str y.1, .int y.2.1, .int y.2.2]) (.list (js.map jnI))).bind _ = _
  rw [inB_t (n := 2) ((sh_jn hy).up (by decide)) (sh_l (sh_m (f := jnI) fun j h => sh_jn (hj j h))) (by decide), x_bind_ok, List.any_map]
  congr 3
  rw [Bool.eq_iff_iff, List.any_eq_true, decide_eq_true_iff]
  have eqv1 : ∀ j : Str × Int × Int, PyData.eqv (jnI j) (.tuple [.str y.1, .int y.2.1, .int y.2.2]) = decide (j = y) := fun j => by
    rw [← eqv_sii j y]
    unfold jnI
    simp only [PyData.eqv]
  constructor
  · rintro ⟨j, hj, h⟩
    have h : PyData.eqv (jnI j) (.tuple [.str y.1, .int y.2.1, .int y.2.2]) = true := h
    rw [eqv1, decide_eq_true_iff] at h
    rw [← h]; exact hj
  · intro h
    exact ⟨y, h, by show PyData.eqv (jnI y) (.tuple [.str y.1, .int y.2.1, .int y.2.2]) = true; rw [eqv1]; exact decide_eq_true rfl⟩
theorem eq_st {a b : Str × Int} (ha : okS a.1) (hb : okS b.1) : eqD (stI a) (stI b) = .ok (.bool (decide (a = b))) := by
  unfold eqD stI
  rw [eqB_tt (n := 1) (sh_st ha) (sh_st hb) (by decide), eqv_si, x_bind_ok]
section
variable {ws : Ks} {nm : List Str} (gk : GK ws) (hnm : ws.map (·.1) = nm) {r : Rd} {t : Th} {N : Nat} (ro : RdOK nm r) (to : ThOK nm N t) (hN : N ≤ 100)
include gk hnm ro to hN
theorem joins_lead (fd : List Int) (hf : fd.length ≤ 100) : d_joins_lead [rdD r, thD t, .list (fd.map PyData.int)] = .rt (.d (.bool (jL r t fd))) := by
  refine run_eq (n := 6) (s := S_joins_lead) (ds := [rdD r, thD t, .list (fd.map PyData.int)]) ?_
  unfold S_joins_lead
  simp -implicitDefEqProofs only [startD, List.length_cons, List.length_nil, List.map_cons, List.map_nil, List.cons_append, List.nil_append, Nat.reduceAdd, Nat.reduceSub, List.replicate, List.set_cons_zero, List.set_cons_succ, List.foldl_cons, List.foldl_nil, x_killD_n, x_killD_c, x_slOf_f, x_slOf_o, x_slOf_t, x_slOf_k]
  refine hs_cut (P := fun ρ => jL r t fd = true) (hs_pre ?_) fun ρ h => hs_ret (x := .bool true) rfl (by rw [h])
  simp -implicitDefEqProofs only [startD, List.length_cons, List.length_nil, List.map_cons, List.map_nil, List.cons_append, List.nil_append, Nat.reduceAdd, Nat.reduceSub, List.replicate, List.set_cons_zero, List.set_cons_succ, List.foldl_cons, List.foldl_nil, x_killD_n, x_killD_c, x_slOf_f, x_slOf_o, x_slOf_t, x_slOf_k]
  refine hs_every jnI r.js (jL1 t fd) (it_l (by simp -implicitDefEqProofs only [s0, s1, s2, s3, s4, s5, s6, s7, s8, s9, x_max2, x_int_b, x_int_i, x_tuple_l, startD, List.length_cons, List.length_nil, List.map_cons, List.map_nil, List.cons_append, List.nil_append, Nat.reduceAdd, Nat.reduceSub, List.replicate, List.set_cons_zero, List.set_cons_succ, x_wipe_cons, x_wipe_nil, x_eOp, x_eC, x_eCB, x_aCons, x_aNil, x_bind_ok, x_add_i, x_len_s, x_len_l, x_len_t, x_bOf, x_eTup, x_eFz, x_oLst, x_eCall, x_aName, x_aTup, x_asCons, x_asNil, x_mod, x_div, x_bAnd, x_bOr, x_bNot, x_asB, x_sub_i, x_neg_i, x_toE_d, x_toE_o, x_notDict, if_true, if_false, reduceIte, Int.reduceLT, Int.reduceAdd, Int.reduceSub, Int.reduceMul, Int.reduceNeg, Int.reducePow, rVar, eVar, hVar, List.getElem?_cons_zero, List.getElem?_cons_succ, rd2])) (fun i j hj => ?_) (fun h => h) (fun h => by show _ = Sl.d (.bool (jL r t fd)); unfold jL; rw [h])
  have jo := ro.j.2 j (List.mem_of_getElem? hj)
  refine ⟨_, rfl, ?_⟩
  simp -implicitDefEqProofs only [startD, List.length_cons, List.length_nil, List.map_cons, List.map_nil, List.cons_append, List.nil_append, Nat.reduceAdd, Nat.reduceSub, List.replicate, List.set_cons_zero, List.set_cons_succ, List.foldl_cons, List.foldl_nil, x_killD_n, x_killD_c, x_slOf_f, x_slOf_o, x_slOf_t, x_slOf_k]
  have lf : lenD [.list (fd.map PyData.int)] = .ok (.int fd.length) := by rw [x_len_l, List.length_map]
  refine hs_if (c := decide (j.2.1 < fd.length) && (decide (j.2.2 < fd.length) && !decide ((j.1, fdAt fd j.2.1, fdAt fd j.2.2) ∈ t.js))) (xAndB _ _ (xCmpB _ rfl (by simp -implicitDefEqProofs only [s0, s1, s2, s3, s4, s5, s6, s7, s8, s9, x_max2, x_int_b, x_int_i, x_tuple_l, startD, List.length_cons, List.length_nil, List.map_cons, List.map_nil, List.cons_append, List.nil_append, Nat.reduceAdd, Nat.reduceSub, List.replicate, List.set_cons_zero, List.set_cons_succ, x_wipe_cons, x_wipe_nil, x_eOp, x_eC, x_eCB, x_aCons, x_aNil, x_bind_ok, x_add_i, x_len_s, x_len_l, x_len_t, x_bOf, x_eTup, x_eFz, x_oLst, x_eCall, x_aName, x_aTup, x_asCons, x_asNil, x_mod, x_div, x_bAnd, x_bOr, x_bNot, x_asB, x_sub_i, x_neg_i, x_toE_d, x_toE_o, x_notDict, if_true, if_false, reduceIte, Int.reduceLT, Int.reduceAdd, Int.reduceSub, Int.reduceMul, Int.reduceNeg, Int.reducePow, rVar, eVar, hVar, List.getElem?_cons_zero, List.getElem?_cons_succ, lf]) rfl) fun h1 => xAndB _ _ (xCmpB _ rfl (by simp -implicitDefEqProofs only [s0, s1, s2, s3, s4, s5, s6, s7, s8, s9, x_max2, x_int_b, x_int_i, x_tuple_l, startD, List.length_cons, List.length_nil, List.map_cons, List.map_nil, List.cons_append, List.nil_append, Nat.reduceAdd, Nat.reduceSub, List.replicate, List.set_cons_zero, List.set_cons_succ, x_wipe_cons, x_wipe_nil, x_eOp, x_eC, x_eCB, x_aCons, x_aNil, x_bind_ok, x_add_i, x_len_s, x_len_l, x_len_t, x_bOf, x_eTup, x_eFz, x_oLst, x_eCall, x_aName, x_aTup, x_asCons, x_asNil, x_mod, x_div, x_bAnd, x_bOr, x_bNot, x_asB, x_sub_i, x_neg_i, x_toE_d, x_toE_o, x_notDict, if_true, if_false, reduceIte, Int.reduceLT, Int.reduceAdd, Int.reduceSub, Int.reduceMul, Int.reduceNeg, Int.reducePow, rVar, eVar, hVar, List.getElem?_cons_zero, List.getElem?_cons_succ, lf]) rfl) fun h2 => bof ?_) (fun h => ?_) (fun h => ?_)
  · have e1 := fd_ix fd j.2.1 jo.1.1.1 (of_decide_eq_true h1)
    have e2 := fd_ix fd j.2.2 jo.1.2.1 (of_decide_eq_true h2)
    rw [op_ok (a := jnI (j.1, fdAt fd j.2.1, fdAt fd j.2.2)) (b := .list (t.js.map jnI)) (tup3 rfl (by simp -implicitDefEqProofs only [s0, s1, s2, s3, s4, s5, s6, s7, s8, s9, x_max2, x_int_b, x_int_i, x_tuple_l, startD, List.length_cons, List.length_nil, List.map_cons, List.map_nil, List.cons_append, List.nil_append, Nat.reduceAdd, Nat.reduceSub, List.replicate, List.set_cons_zero, List.set_cons_succ, x_wipe_cons, x_wipe_nil, x_eOp, x_eC, x_eCB, x_aCons, x_aNil, x_bind_ok, x_add_i, x_len_s, x_len_l, x_len_t, x_bOf, x_eTup, x_eFz, x_oLst, x_eCall, x_aName, x_aTup, x_asCons, x_asNil, x_mod, x_div, x_bAnd, x_bOr, x_bNot, x_asB, x_sub_i, x_neg_i, x_toE_d, x_toE_o, x_notDict, if_true, if_false, reduceIte, Int.reduceLT, Int.reduceAdd, Int.reduceSub, Int.reduceMul, Int.reduceNeg, Int.reducePow, rVar, eVar, hVar, List.getElem?_cons_zero, List.getElem?_cons_succ, e1]) (by simp -implicitDefEqProofs only [s0, s1, s2, s3, s4, s5, s6, s7, s8, s9, x_max2, x_int_b, x_int_i, x_tuple_l, startD, List.length_cons, List.length_nil, List.map_cons, List.map_nil, List.cons_append, List.nil_append, Nat.reduceAdd, Nat.reduceSub, List.replicate, List.set_cons_zero, List.set_cons_succ, x_wipe_cons, x_wipe_nil, x_eOp, x_eC, x_eCB, x_aCons, x_aNil, x_bind_ok, x_add_i, x_len_s, x_len_l, x_len_t, x_bOf, x_eTup, x_eFz, x_oLst, x_eCall, x_aName, x_aTup, x_asCons, x_asNil, x_mod, x_div, x_bAnd, x_bOr, x_bNot, x_asB, x_sub_i, x_neg_i, x_toE_d, x_toE_o, x_notDict, if_true, if_false, reduceIte, Int.reduceLT, Int.reduceAdd, Int.reduceSub, Int.reduceMul, Int.reduceNeg, Int.reducePow, rVar, eVar, hVar, List.getElem?_cons_zero, List.getElem?_cons_succ, e2])) (by simp -implicitDefEqProofs only [s0, s1, s2, s3, s4, s5, s6, s7, s8, s9, x_max2, x_int_b, x_int_i, x_tuple_l, startD, List.length_cons, List.length_nil, List.map_cons, List.map_nil, List.cons_append, List.nil_append, Nat.reduceAdd, Nat.reduceSub, List.replicate, List.set_cons_zero, List.set_cons_succ, x_wipe_cons, x_wipe_nil, x_eOp, x_eC, x_eCB, x_aCons, x_aNil, x_bind_ok, x_add_i, x_len_s, x_len_l, x_len_t, x_bOf, x_eTup, x_eFz, x_oLst, x_eCall, x_aName, x_aTup, x_asCons, x_asNil, x_mod, x_div, x_bAnd, x_bOr, x_bNot, x_asB, x_sub_i, x_neg_i, x_toE_d, x_toE_o, x_notDict, if_true, if_false, reduceIte, Int.reduceLT, Int.reduceAdd, Int.reduceSub, Int.reduceMul, Int.reduceNeg, Int.reducePow, rVar, eVar, hVar, List.getElem?_cons_zero, List.getElem?_cons_succ, th1])]
    exact mem_jn to.j.2 jo.2
  · exact hs_ret rfl ⟨rfl, by unfold jL1; rw [h]; rfl⟩
  · exact hs_next ⟨rfl, by unfold jL1; rw [h]; rfl⟩
theorem steps_done (fd : List Int) (hf : fd.length = r.ps.length) : d_steps_done [rdD r, thD t, .list (fd.map PyData.int)] = .rt (.d (.bool (sDn r t fd))) := by
  refine run_eq (n := 7) (s := S_steps_done) (ds := [rdD r, thD t, .list (fd.map PyData.int)]) ?_
  unfold S_steps_done
  simp -implicitDefEqProofs only [startD, List.length_cons, List.length_nil, List.map_cons, List.map_nil, List.cons_append, List.nil_append, Nat.reduceAdd, Nat.reduceSub, List.replicate, List.set_cons_zero, List.set_cons_succ, List.foldl_cons, List.foldl_nil, x_killD_n, x_killD_c, x_slOf_f, x_slOf_o, x_slOf_t, x_slOf_k]
  have so := ro.s
  refine hs_seq (hs_set (x := .list ((r.st.map fun s => (s.1, fdAt fd s.2)).map stI)) (fz_l ?_) ?_)
  · rw [List.map_map]
    refine lc_eq (xs := r.st) stI _ (it_l (by simp -implicitDefEqProofs only [s0, s1, s2, s3, s4, s5, s6, s7, s8, s9, x_max2, x_int_b, x_int_i, x_tuple_l, startD, List.length_cons, List.length_nil, List.map_cons, List.map_nil, List.cons_append, List.nil_append, Nat.reduceAdd, Nat.reduceSub, List.replicate, List.set_cons_zero, List.set_cons_succ, x_wipe_cons, x_wipe_nil, x_eOp, x_eC, x_eCB, x_aCons, x_aNil, x_bind_ok, x_add_i, x_len_s, x_len_l, x_len_t, x_bOf, x_eTup, x_eFz, x_oLst, x_eCall, x_aName, x_aTup, x_asCons, x_asNil, x_mod, x_div, x_bAnd, x_bOr, x_bNot, x_asB, x_sub_i, x_neg_i, x_toE_d, x_toE_o, x_notDict, if_true, if_false, reduceIte, Int.reduceLT, Int.reduceAdd, Int.reduceSub, Int.reduceMul, Int.reduceNeg, Int.reducePow, rVar, eVar, hVar, List.getElem?_cons_zero, List.getElem?_cons_succ, rd4])) (sz (by omega)) fun s hs => ⟨_, rfl, tup2 rfl ?_⟩
    have e1 := fd_ix fd s.2 (so.2 s hs).1.1 (by rw [hf]; exact (so.2 s hs).1.2)
    simp -implicitDefEqProofs only [s0, s1, s2, s3, s4, s5, s6, s7, s8, s9, x_max2, x_int_b, x_int_i, x_tuple_l, startD, List.length_cons, List.length_nil, List.map_cons, List.map_nil, List.cons_append, List.nil_append, Nat.reduceAdd, Nat.reduceSub, List.replicate, List.set_cons_zero, List.set_cons_succ, x_wipe_cons, x_wipe_nil, x_eOp, x_eC, x_eCB, x_aCons, x_aNil, x_bind_ok, x_add_i, x_len_s, x_len_l, x_len_t, x_bOf, x_eTup, x_eFz, x_oLst, x_eCall, x_aName, x_aTup, x_asCons, x_asNil, x_mod, x_div, x_bAnd, x_bOr, x_bNot, x_asB, x_sub_i, x_neg_i, x_toE_d, x_toE_o, x_notDict, if_true, if_false, reduceIte, Int.reduceLT, Int.reduceAdd, Int.reduceSub, Int.reduceMul, Int.reduceNeg, Int.reducePow, rVar, eVar, hVar, List.getElem?_cons_zero, List.getElem?_cons_succ, e1]
  simp -implicitDefEqProofs only [startD, List.length_cons, List.length_nil, List.map_cons, List.map_nil, List.cons_append, List.nil_append, Nat.reduceAdd, Nat.reduceSub, List.replicate, List.set_cons_zero, List.set_cons_succ, List.foldl_cons, List.foldl_nil, x_killD_n, x_killD_c, x_slOf_f, x_slOf_o, x_slOf_t, x_slOf_k]
  refine hs_cut (P := fun ρ => ρ = [some (.d (rdD r)), some (.d (thD t)), some (.d (.list (fd.map PyData.int))), some (.d (.list ((sDl (r.st.map fun s => (s.1, fdAt fd s.2)) t.st).map stI))), none, none, none]) (hs_pre ?_) fun ρ h => ?_
  · simp -implicitDefEqProofs only [startD, List.length_cons, List.length_nil, List.map_cons, List.map_nil, List.cons_append, List.nil_append, Nat.reduceAdd, Nat.reduceSub, List.replicate, List.set_cons_zero, List.set_cons_succ, List.foldl_cons, List.foldl_nil, x_killD_n, x_killD_c, x_slOf_f, x_slOf_o, x_slOf_t, x_slOf_k]
    refine hs_mono (N := fun ρ => ∃ l, ρ = [some (.d (rdD r)), some (.d (thD t)), some (.d (.list (fd.map PyData.int))), some (.d (.list (l.map stI))), none, none, none] ∧ l = sDl (r.st.map fun s => (s.1, fdAt fd s.2)) t.st) (Rt := fun x => x = Sl.d (.bool (sDn r t fd))) (Ct := fun _ => False) ?_ (fun ρ h => by obtain ⟨l, rfl, rfl⟩ := h; rfl) (fun _ h => h) (fun _ h => h)
    refine hs_forL stI t.st (it_l (by simp -implicitDefEqProofs only [s0, s1, s2, s3, s4, s5, s6, s7, s8, s9, x_max2, x_int_b, x_int_i, x_tuple_l, startD, List.length_cons, List.length_nil, List.map_cons, List.map_nil, List.cons_append, List.nil_append, Nat.reduceAdd, Nat.reduceSub, List.replicate, List.set_cons_zero, List.set_cons_succ, x_wipe_cons, x_wipe_nil, x_eOp, x_eC, x_eCB, x_aCons, x_aNil, x_bind_ok, x_add_i, x_len_s, x_len_l, x_len_t, x_bOf, x_eTup, x_eFz, x_oLst, x_eCall, x_aName, x_aTup, x_asCons, x_asNil, x_mod, x_div, x_bAnd, x_bOr, x_bNot, x_asB, x_sub_i, x_neg_i, x_toE_d, x_toE_o, x_notDict, if_true, if_false, reduceIte, Int.reduceLT, Int.reduceAdd, Int.reduceSub, Int.reduceMul, Int.reduceNeg, Int.reducePow, rVar, eVar, hVar, List.getElem?_cons_zero, List.getElem?_cons_succ, th2])) (fun i ρ => ∃ l, ρ = [some (.d (rdD r)), some (.d (thD t)), some (.d (.list (fd.map PyData.int))), some (.d (.list (l.map stI))), none, none, none] ∧ l = sDl (r.st.map fun s => (s.1, fdAt fd s.2)) (t.st.take i) ∧ ∀ s ∈ l, okS s.1) ⟨_, rfl, rfl, fun s hs => ?_⟩ (fun i s ρ hs hI => ?_) fun ρ hI => ?_
    · obtain ⟨s', hs', rfl⟩ := List.mem_map.mp hs
      exact (so.2 s' hs').2
    · obtain ⟨l, rfl, hl, lo⟩ := hI
      have sok := to.s.2 s (List.mem_of_getElem? hs)
      have next : sDl (r.st.map fun s => (s.1, fdAt fd s.2)) (t.st.take (i + 1)) = sD1 s l := by
        unfold sDl at hl ⊢
        rw [List.take_succ, hs, Option.toList_some, List.foldl_append, ← hl]
        rfl
      refine ⟨_, rfl, ?_⟩
      simp -implicitDefEqProofs only [startD, List.length_cons, List.length_nil, List.map_cons, List.map_nil, List.cons_append, List.nil_append, Nat.reduceAdd, Nat.reduceSub, List.replicate, List.set_cons_zero, List.set_cons_succ, List.foldl_cons, List.foldl_nil, x_killD_n, x_killD_c, x_slOf_f, x_slOf_o, x_slOf_t, x_slOf_k]
      have ll : lenD [.list (l.map stI)] = .ok (.int l.length) := by rw [x_len_l, List.length_map]
      cases l with
      | nil => exact hs_if (c := false) (xAndF (xCmpB (i := (([] : List (Str × Int)).length : Nat)) (j := 0) false (by rw [cb1 (a := .list (([] : List (Str × Int)).map stI)) rfl, ll]) rfl rfl)) (fun q => by cases q) (fun _ => hs_next ⟨[], rfl, next.symm, fun s h => by cases h⟩)
      | cons x xs =>
        refine hs_if (c := true && decide (x = s)) (xAndB _ _ (xCmpB (i := ((x :: xs).length : Nat)) (j := 0) true (by rw [cb1 (a := .list ((x :: xs).map stI)) rfl, ll]) rfl (decide_eq_true (by rw [List.length_cons]; omega))) fun _ => bof ?_) (fun h => ?_) (fun h => ?_)
        · rw [op_ok (a := stI x) (b := stI s) (by
            rw [op_ok (a := .list ((x :: xs).map stI)) (b := .int 0) rfl rfl]
            exact x_ix_l _ _ _ (by decide) rfl) rfl]
          exact eq_st (lo x List.mem_cons_self) sok
        · have hx : x = s := of_decide_eq_true h
          refine hs_set (x := .list (xs.map stI)) ?_ ⟨xs, rfl, ?_, fun s h => lo s (List.mem_cons_of_mem _ h)⟩
          · rw [sl_b (l := x :: xs) (f := stI) (k := 1) rfl rfl (by decide)]
            rfl
          · rw [next]
            exact (if_pos hx).symm
        · have hx : ¬ x = s := of_decide_eq_false h
          refine hs_next ⟨x :: xs, rfl, ?_, lo⟩
          rw [next]
          exact (if_neg hx).symm
    · obtain ⟨l, rfl, hl, _⟩ := hI
      rw [List.take_length] at hl
      exact ⟨l, rfl, hl⟩
  · subst h
    refine hs_ret (x := .bool (sDn r t fd)) ?_ rfl
    rw [op_ok (a := .int ((sDl (r.st.map fun s => (s.1, fdAt fd s.2)) t.st).length : Nat)) (b := .int 0) (by rw [cb1 rfl, x_len_l, List.length_map]) rfl, x_eq, x_eqB_i, x_bind_ok]
    unfold sDn
    have dd : ∀ n : Nat, decide ((n : Int) = 0) = decide (n = 0) := fun n => decide_eq_decide.mpr (by omega)
    rw [dd]
theorem closed_kept (fd : List Int) (hf : fd.length = r.ps.length) : d_closed_kept [kD ws, rdD r, thD t, .list (fd.map PyData.int)] = .rt (.d (.bool (cK ws r t fd))) := by
  refine run_eq (n := 10) (s := S_closed_kept) (ds := [kD ws, rdD r, thD t, .list (fd.map PyData.int)]) ?_
  unfold S_closed_kept
  simp -implicitDefEqProofs only [startD, List.length_cons, List.length_nil, List.map_cons, List.map_nil, List.cons_append, List.nil_append, Nat.reduceAdd, Nat.reduceSub, List.replicate, List.set_cons_zero, List.set_cons_succ, List.foldl_cons, List.foldl_nil, x_killD_n, x_killD_c, x_slOf_f, x_slOf_o, x_slOf_t, x_slOf_k]
  refine hs_cut (P := fun ρ => cK ws r t fd = true) (hs_pre ?_) fun ρ h => hs_ret (x := .bool true) rfl (by rw [h])
  simp -implicitDefEqProofs only [startD, List.length_cons, List.length_nil, List.map_cons, List.map_nil, List.cons_append, List.nil_append, Nat.reduceAdd, Nat.reduceSub, List.replicate, List.set_cons_zero, List.set_cons_succ, List.foldl_cons, List.foldl_nil, x_killD_n, x_killD_c, x_slOf_f, x_slOf_o, x_slOf_t, x_slOf_k]
  refine hs_every clI r.cl (cK1 ws t fd) (it_l (by simp -implicitDefEqProofs only [s0, s1, s2, s3, s4, s5, s6, s7, s8, s9, x_max2, x_int_b, x_int_i, x_tuple_l, startD, List.length_cons, List.length_nil, List.map_cons, List.map_nil, List.cons_append, List.nil_append, Nat.reduceAdd, Nat.reduceSub, List.replicate, List.set_cons_zero, List.set_cons_succ, x_wipe_cons, x_wipe_nil, x_eOp, x_eC, x_eCB, x_aCons, x_aNil, x_bind_ok, x_add_i, x_len_s, x_len_l, x_len_t, x_bOf, x_eTup, x_eFz, x_oLst, x_eCall, x_aName, x_aTup, x_asCons, x_asNil, x_mod, x_div, x_bAnd, x_bOr, x_bNot, x_asB, x_sub_i, x_neg_i, x_toE_d, x_toE_o, x_notDict, if_true, if_false, reduceIte, Int.reduceLT, Int.reduceAdd, Int.reduceSub, Int.reduceMul, Int.reduceNeg, Int.reducePow, rVar, eVar, hVar, List.getElem?_cons_zero, List.getElem?_cons_succ, rd1])) (fun i c hc => ?_) (fun h => h) (fun h => by show _ = Sl.d (.bool (cK ws r t fd)); unfold cK; rw [h])
  have co := ro.c.2 c (List.mem_of_getElem? hc)
  refine ⟨_, rfl, ?_⟩
  simp -implicitDefEqProofs only [startD, List.length_cons, List.length_nil, List.map_cons, List.map_nil, List.cons_append, List.nil_append, Nat.reduceAdd, Nat.reduceSub, List.replicate, List.set_cons_zero, List.set_cons_succ, List.foldl_cons, List.foldl_nil, x_killD_n, x_killD_c, x_slOf_f, x_slOf_o, x_slOf_t, x_slOf_k]
  refine hs_seq (hs_set (x := .list ((c.2.map (fdAt fd)).map PyData.int)) (fz_l ?_) ?_)
  · rw [List.map_map]
    refine lc_eq (xs := c.2) PyData.int _ (it_t rfl) (sz (by have := co.2.1; omega)) fun n hn => ⟨_, rfl, ?_⟩
    have e1 := fd_ix fd n (co.2.2 n hn).1 (by rw [hf]; exact (co.2.2 n hn).2)
    simp -implicitDefEqProofs only [s0, s1, s2, s3, s4, s5, s6, s7, s8, s9, x_max2, x_int_b, x_int_i, x_tuple_l, startD, List.length_cons, List.length_nil, List.map_cons, List.map_nil, List.cons_append, List.nil_append, Nat.reduceAdd, Nat.reduceSub, List.replicate, List.set_cons_zero, List.set_cons_succ, x_wipe_cons, x_wipe_nil, x_eOp, x_eC, x_eCB, x_aCons, x_aNil, x_bind_ok, x_add_i, x_len_s, x_len_l, x_len_t, x_bOf, x_eTup, x_eFz, x_oLst, x_eCall, x_aName, x_aTup, x_asCons, x_asNil, x_mod, x_div, x_bAnd, x_bOr, x_bNot, x_asB, x_sub_i, x_neg_i, x_toE_d, x_toE_o, x_notDict, if_true, if_false, reduceIte, Int.reduceLT, Int.reduceAdd, Int.reduceSub, Int.reduceMul, Int.reduceNeg, Int.reducePow, rVar, eVar, hVar, List.getElem?_cons_zero, List.getElem?_cons_succ, e1]
    rfl
  simp -implicitDefEqProofs only [startD, List.length_cons, List.length_nil, List.map_cons, List.map_nil, List.cons_append, List.nil_append, Nat.reduceAdd, Nat.reduceSub, List.replicate, List.set_cons_zero, List.set_cons_succ, List.foldl_cons, List.foldl_nil, x_killD_n, x_killD_c, x_slOf_f, x_slOf_o, x_slOf_t, x_slOf_k]
  refine hs_pre ?_
  simp -implicitDefEqProofs only [startD, List.length_cons, List.length_nil, List.map_cons, List.map_nil, List.cons_append, List.nil_append, Nat.reduceAdd, Nat.reduceSub, List.replicate, List.set_cons_zero, List.set_cons_succ, List.foldl_cons, List.foldl_nil, x_killD_n, x_killD_c, x_slOf_f, x_slOf_o, x_slOf_t, x_slOf_k]
  refine hs_every eP t.ps.zipIdx (fun p => !(!decide (((p.2 : Nat) : Int) ∈ c.2.map (fdAt fd)) && uS ws p.1.1 c.1)) (by rw [enum_st (l := t.ps.map ptI) (by simp -implicitDefEqProofs only [s0, s1, s2, s3, s4, s5, s6, s7, s8, s9, x_max2, x_int_b, x_int_i, x_tuple_l, startD, List.length_cons, List.length_nil, List.map_cons, List.map_nil, List.cons_append, List.nil_append, Nat.reduceAdd, Nat.reduceSub, List.replicate, List.set_cons_zero, List.set_cons_succ, x_wipe_cons, x_wipe_nil, x_eOp, x_eC, x_eCB, x_aCons, x_aNil, x_bind_ok, x_add_i, x_len_s, x_len_l, x_len_t, x_bOf, x_eTup, x_eFz, x_oLst, x_eCall, x_aName, x_aTup, x_asCons, x_asNil, x_mod, x_div, x_bAnd, x_bOr, x_bNot, x_asB, x_sub_i, x_neg_i, x_toE_d, x_toE_o, x_notDict, if_true, if_false, reduceIte, Int.reduceLT, Int.reduceAdd, Int.reduceSub, Int.reduceMul, Int.reduceNeg, Int.reducePow, rVar, eVar, hVar, List.getElem?_cons_zero, List.getElem?_cons_succ, th0]), enum_map]; rfl) (fun i p hp => ?_) (fun h => ⟨rfl, h⟩) (fun h => ⟨rfl, h⟩)
  obtain ⟨p, j⟩ := p
  obtain ⟨rfl, hi, hp2⟩ := zip_at hp
  have po : PpOK nm p := to.p.2 p (by rw [← hp2]; exact List.getElem_mem _)
  refine ⟨_, rfl, ?_⟩
  simp -implicitDefEqProofs only [startD, List.length_cons, List.length_nil, List.map_cons, List.map_nil, List.cons_append, List.nil_append, Nat.reduceAdd, Nat.reduceSub, List.replicate, List.set_cons_zero, List.set_cons_succ, List.foldl_cons, List.foldl_nil, x_killD_n, x_killD_c, x_slOf_f, x_slOf_o, x_slOf_t, x_slOf_k]
  have e1 := under_some gk hnm (k := p.1) (al := c.1) po.1 co.1.2.2 (by have := co.1.2.1; omega)
  refine hs_if (c := !decide ((j : Int) ∈ c.2.map (fdAt fd)) && uS ws p.1 c.1) (xAndB _ _ (bof ?_) fun _ => bof (call3 rfl (by simp -implicitDefEqProofs only [s0, s1, s2, s3, s4, s5, s6, s7, s8, s9, x_max2, x_int_b, x_int_i, x_tuple_l, startD, List.length_cons, List.length_nil, List.map_cons, List.map_nil, List.cons_append, List.nil_append, Nat.reduceAdd, Nat.reduceSub, List.replicate, List.set_cons_zero, List.set_cons_succ, x_wipe_cons, x_wipe_nil, x_eOp, x_eC, x_eCB, x_aCons, x_aNil, x_bind_ok, x_add_i, x_len_s, x_len_l, x_len_t, x_bOf, x_eTup, x_eFz, x_oLst, x_eCall, x_aName, x_aTup, x_asCons, x_asNil, x_mod, x_div, x_bAnd, x_bOr, x_bNot, x_asB, x_sub_i, x_neg_i, x_toE_d, x_toE_o, x_notDict, if_true, if_false, reduceIte, Int.reduceLT, Int.reduceAdd, Int.reduceSub, Int.reduceMul, Int.reduceNeg, Int.reducePow, rVar, eVar, hVar, List.getElem?_cons_zero, List.getElem?_cons_succ, pt0]) rfl e1)) (fun h => ?_) (fun h => ?_)
  · rw [op_ok (a := .int (j : Nat)) (b := .list ((c.2.map (fdAt fd)).map PyData.int)) rfl rfl]
    unfold ninD
    rw [inB_ints, x_bind_ok]
  · exact hs_ret rfl ⟨rfl, by show (!(!decide ((j : Int) ∈ c.2.map (fdAt fd)) && uS ws p.1 c.1)) = false; rw [h]; rfl⟩
  · exact hs_next ⟨rfl, by show (!(!decide ((j : Int) ∈ c.2.map (fdAt fd)) && uS ws p.1 c.1)) = true; rw [h]; rfl⟩
end
end K16
namespace K16
open PySem L2 DL
/-! ### the first finding -/
def ffS : Option (List Int) → Sl
  | none => .d .none
  | some l => .t (.own (.list (l.map PyData.int)))
def ffT : Option (List Int) → Tv
  | none => .fr .none
  | some l => .own (.list (l.map PyData.int))
def ffP : Option (List Int) → PD
  | none => .none
  | some l => .list (l.map PyData.int)
theorem ffS_l (o : Option (List Int)) : ∀ x, ffS o ≠ .l x := fun x h => by cases o <;> cases h
theorem ffS_tv (o : Option (List Int)) : tvOf (ffS o) = ffT o := by cases o <;> rfl
theorem ffT_sl (o : Option (List Int)) : slOf (ffT o) = ffS o := by cases o <;> rfl
theorem ffS_P {i : Nat} {ρ : Rho} {o : Option (List Int)} (h : ρ[i]? = some (some (ffS o))) : hVar i ρ = .ok (ffP o) := by
  unfold hVar
  rw [h]
  cases o with
  | none => rfl
  | some l => exact x_toD_l _
theorem ff_is (o : Option (List Int)) : isNB (ffP o) = o.isNone := by cases o <;> rfl
section
variable {ws : Ks} {nm : List Str} (gk : GK ws) (hnm : ws.map (·.1) = nm) {r : Rd} {t : Th} {N : Nat} (ro : RdOK nm r) (to : ThOK nm N t) (hN : N ≤ 100)
include gk hnm ro to hN
theorem first_finding (rows : List (List Int)) (hr : rows.length = r.ps.length) : ∀ (rest pre : List (List Int)) (fd : List Int) (n : Nat), rows = pre ++ rest → pre.length = fd.length → rest.length < n →
    d_first_finding n [.fr (kD ws), .fr (rdD r), .fr (thD t), .fr (.list (rows.map rowI)), .own (.list (fd.map PyData.int))] = .rt (ffS (ffD (fun fd => sDn r t fd && cK ws r t fd) (jL r t) rest fd)) := by
  intro rest
  induction rest with
  | nil =>
    intro pre fd n hp hl hn
    obtain ⟨n, rfl⟩ : ∃ m, n = m + 1 := ⟨n - 1, by omega⟩
    rw [List.append_nil] at hp
    have hfd : fd.length = r.ps.length := by rw [← hl, ← hp, hr]
    show runT 8 (S_first_finding (d_first_finding n)) [.fr (kD ws), .fr (rdD r), .fr (thD t), .fr (.list (rows.map rowI)), .own (.list (fd.map PyData.int))] = _
    refine runT_eq ?_
    unfold S_first_finding startT
    simp -implicitDefEqProofs only [startD, List.length_cons, List.length_nil, List.map_cons, List.map_nil, List.cons_append, List.nil_append, Nat.reduceAdd, Nat.reduceSub, List.replicate, List.set_cons_zero, List.set_cons_succ, List.foldl_cons, List.foldl_nil, x_killD_n, x_killD_c, x_slOf_f, x_slOf_o, x_slOf_t, x_slOf_k]
    have hv : hVar 4 [some (.d (kD ws)), some (.d (rdD r)), some (.d (thD t)), some (.d (.list (rows.map rowI))), some (.t (.own (.list (fd.map PyData.int)))), none, none, none] = .ok (.list (fd.map PyData.int)) := x_toD_l _
    refine hs_seq (hs_if (c := true) (xEqB (i := fd.length) (j := rows.length) true ?_ (by rw [cb1 (a := .list (rows.map rowI)) rfl, x_len_l, List.length_map]) (decide_eq_true (by rw [hp, hl]))) (fun _ => ?_) (fun q => by cases q))
    · rw [x_eImm, cb1 hv, x_len_l, List.length_map]
      rfl
    refine hs_seq (hs_if (c := sDn r t fd && cK ws r t fd) (xAndB _ _ (bof (callH3 rfl rfl hv (steps_done gk hnm ro to hN fd hfd))) fun _ => bof (callH4 rfl rfl rfl hv (closed_kept gk hnm ro to hN fd hfd))) (fun h => ?_) (fun h => ?_))
    · refine hs_retV rfl ?_
      unfold ffD
      rw [h, if_pos rfl]
      rfl
    · refine hs_next (hs_ret rfl ?_)
      unfold ffD
      rw [h, if_neg (by decide)]
      rfl
  | cons row rest ih =>
    intro pre fd n hp hl hn
    rw [List.length_cons] at hn
    obtain ⟨n, rfl⟩ : ∃ m, n = m + 1 := ⟨n - 1, by omega⟩
    have hlen : rows.length = fd.length + (rest.length + 1) := by rw [hp, List.length_append, hl, List.length_cons]
    have p4 := ro.p.p1
    show runT 8 (S_first_finding (d_first_finding n)) [.fr (kD ws), .fr (rdD r), .fr (thD t), .fr (.list (rows.map rowI)), .own (.list (fd.map PyData.int))] = _
    refine runT_eq ?_
    unfold S_first_finding startT
    simp -implicitDefEqProofs only [startD, List.length_cons, List.length_nil, List.map_cons, List.map_nil, List.cons_append, List.nil_append, Nat.reduceAdd, Nat.reduceSub, List.replicate, List.set_cons_zero, List.set_cons_succ, List.foldl_cons, List.foldl_nil, x_killD_n, x_killD_c, x_slOf_f, x_slOf_o, x_slOf_t, x_slOf_k]
    have hv : hVar 4 [some (.d (kD ws)), some (.d (rdD r)), some (.d (thD t)), some (.d (.list (rows.map rowI))), some (.t (.own (.list (fd.map PyData.int)))), none, none, none] = .ok (.list (fd.map PyData.int)) := x_toD_l _
    have el : eImm (eCB lenD (aCons (hVar 4) aNil)) [some (.d (kD ws)), some (.d (rdD r)), some (.d (thD t)), some (.d (.list (rows.map rowI))), some (.t (.own (.list (fd.map PyData.int)))), none, none, none] = .ok (.int fd.length) := by
      rw [x_eImm, cb1 hv, x_len_l, List.length_map]
      rfl
    refine hs_seq (hs_if (c := false) (xEqB (i := fd.length) (j := rows.length) false el (by rw [cb1 (a := .list (rows.map rowI)) rfl, x_len_l, List.length_map]) (decide_eq_false (by omega))) (fun q => by cases q) (fun _ => hs_next ?_))
    refine hs_cut (P := fun ρ => ffD (fun fd => sDn r t fd && cK ws r t fd) (jL r t) (row :: rest) fd = none) (hs_pre ?_) (fun ρ h => hs_ret rfl (by rw [h]; rfl))
    simp -implicitDefEqProofs only [startD, List.length_cons, List.length_nil, List.map_cons, List.map_nil, List.cons_append, List.nil_append, Nat.reduceAdd, Nat.reduceSub, List.replicate, List.set_cons_zero, List.set_cons_succ, List.foldl_cons, List.foldl_nil, x_killD_n, x_killD_c, x_slOf_f, x_slOf_o, x_slOf_t, x_slOf_k]
    have erow : ixD (.list (rows.map rowI)) (.int fd.length) = .ok (rowI row) := by
      refine x_ix_l _ _ _ (by omega) ?_
      rw [List.getElem?_map, hp]
      show (Option.map rowI (pre ++ row :: rest)[((fd.length : Nat) : Int).toNat]?) = _
      rw [Int.toNat_natCast, ← hl, List.getElem?_append_right (Nat.le_refl _), Nat.sub_self]
      rfl
    refine hs_first PyData.int row (fun p => if p ∉ fd ∧ jL r t (fd ++ [p]) = true then ffD (fun fd => sDn r t fd && cK ws r t fd) (jL r t) rest (fd ++ [p]) else none) (fun l => .t (.own (.list (l.map PyData.int)))) ?_ (fun i p hpi => ?_) (fun h => ?_) (fun b h => ?_)
    · rw [it_l (l := row.map PyData.int)]
      rw [op_ok (a := .list (rows.map rowI)) (b := .int fd.length) rfl el]
      exact erow
    · refine ⟨_, rfl, ?_⟩
      simp -implicitDefEqProofs only [startD, List.length_cons, List.length_nil, List.map_cons, List.map_nil, List.cons_append, List.nil_append, Nat.reduceAdd, Nat.reduceSub, List.replicate, List.set_cons_zero, List.set_cons_succ, List.foldl_cons, List.foldl_nil, x_killD_n, x_killD_c, x_slOf_f, x_slOf_o, x_slOf_t, x_slOf_k]
      refine hs_seq (hs_setM (x := .own (.list ((fd ++ [p]).map PyData.int))) ?_ ?_)
      · rw [x_mOwn, op_ok (a := .list (fd.map PyData.int)) (b := .list [.int p]) rfl (lst1 rfl), x_addL, if_pos (sz (by rw [List.length_map, List.length_singleton]; omega)), x_bind_ok, List.map_append]
        rfl
      simp -implicitDefEqProofs only [startD, List.length_cons, List.length_nil, List.map_cons, List.map_nil, List.cons_append, List.nil_append, Nat.reduceAdd, Nat.reduceSub, List.replicate, List.set_cons_zero, List.set_cons_succ, List.foldl_cons, List.foldl_nil, x_killD_n, x_killD_c, x_slOf_f, x_slOf_o, x_slOf_t, x_slOf_k]
      have hv6 : hVar 6 [some (.d (kD ws)), some (.d (rdD r)), some (.d (thD t)), some (.d (.list (rows.map rowI))), some (.t (.own (.list (fd.map PyData.int)))), some (.d (.int p)), some (.t (.own (.list ((fd ++ [p]).map PyData.int)))), none] = .ok (.list ((fd ++ [p]).map PyData.int)) := x_toD_l _
      refine hs_if (c := !decide (p ∈ fd) && jL r t (fd ++ [p])) (xAndB _ _ (bof ?_) fun _ => bof (callH3 rfl rfl hv6 (joins_lead gk hnm ro to hN (fd ++ [p]) (by rw [List.length_append, List.length_singleton]; omega)))) (fun h => ?_) (fun h => ?_)
      · rw [op_ok (a := .int p) (b := .list (fd.map PyData.int)) rfl rfl]
        unfold ninD
        rw [inB_ints, x_bind_ok]
      · rw [Bool.and_eq_true, Bool.not_eq_true', decide_eq_false_iff_not] at h
        have e7 := ih (pre ++ [row]) (fd ++ [p]) n (by rw [hp, List.append_assoc]; rfl) (by rw [List.length_append, List.length_append, hl]; rfl) (by omega)
        refine hs_seq (hs_callT (ts := [.fr (kD ws), .fr (rdD r), .fr (thD t), .fr (.list (rows.map rowI)), .own (.list ((fd ++ [p]).map PyData.int))]) rfl rfl e7 (ffS_l _) ?_)
        rw [ffS_tv, ffT_sl]
        simp -implicitDefEqProofs only [startD, List.length_cons, List.length_nil, List.map_cons, List.map_nil, List.cons_append, List.nil_append, Nat.reduceAdd, Nat.reduceSub, List.replicate, List.set_cons_zero, List.set_cons_succ, List.foldl_cons, List.foldl_nil, x_killD_n, x_killD_c, x_slOf_f, x_slOf_o, x_slOf_t, x_slOf_k]
        have ev : ∀ o, hVar 7 [some (.d (kD ws)), some (.d (rdD r)), some (.d (thD t)), some (.d (.list (rows.map rowI))), some (.t (.own (.list (fd.map PyData.int)))), some (.d (.int p)), none, some (ffS o)] = .ok (ffP o) := fun o => ffS_P rfl
        rw [if_pos h]
        generalize ffD (fun fd => sDn r t fd && cK ws r t fd) (jL r t) rest (fd ++ [p]) = o
        refine hs_if (c := !o.isNone) (bof ?_) (fun h => ?_) (fun h => ?_)
        · rw [op_ok (ev o) (b := .none) rfl, x_notN, ff_is]
        · cases o with
          | none => cases h
          | some l => exact hs_retV rfl ⟨l, rfl, rfl⟩
        · cases o with
          | none => exact hs_next ⟨rfl, rfl⟩
          | some l => cases h
      · refine hs_next ⟨rfl, ?_⟩
        rw [if_neg]
        rintro ⟨h1, h2⟩
        rw [h2, Bool.and_true, Bool.not_eq_false', decide_eq_true_iff] at h
        exact h1 h
    · exact h
    · unfold ffD
      rw [h]
      rfl
theorem finding_in : d_finding_in [kD ws, rdD r, thD t] = .rt (.t (ffT (ffO ws r t))) := by
  refine run_eq (n := 3) (s := S_finding_in) (ds := [kD ws, rdD r, thD t]) ?_
  unfold S_finding_in
  simp -implicitDefEqProofs only [startD, List.length_cons, List.length_nil, List.map_cons, List.map_nil, List.cons_append, List.nil_append, Nat.reduceAdd, Nat.reduceSub, List.replicate, List.set_cons_zero, List.set_cons_succ, List.foldl_cons, List.foldl_nil, x_killD_n, x_killD_c, x_slOf_f, x_slOf_o, x_slOf_t, x_slOf_k]
  have e0 := fitting_places gk hnm ro to hN
  have pl := ro.p.p1
  have fl : (fpl ws r t).length = r.ps.length := by unfold fpl; rw [List.length_map, List.length_zipIdx]
  have e1 := first_finding gk hnm ro to hN (fpl ws r t) fl (fpl ws r t) [] [] 8 rfl rfl (by omega)
  refine hs_retT (ts := [.fr (kD ws), .fr (rdD r), .fr (thD t), .fr (.list ((fpl ws r t).map rowI)), .own (.list ([].map PyData.int))]) ?_ rfl e1 (ffS_l _) ?_
  · have ec : eCall 3 d_fitting_places (aCons (eVar 0) (aCons (eVar 1) (aCons (eVar 2) aNil))) [some (.d (kD ws)), some (.d (rdD r)), some (.d (thD t))] = .ok (.list ((fpl ws r t).map rowI)) := by
      show R.bind (R.ok [kD ws, rdD r, thD t]) _ = _
      rw [x_bind_ok]
      show (if 3 = 3 then (d_fitting_places [kD ws, rdD r, thD t]).toE else R.bad) = _
      rw [if_pos rfl, e0]
      rfl
    rw [x_maCons, x_mFr]
    show R.bind (R.ok (Tv.fr (kD ws))) _ = _
    rw [x_bind_ok, x_maCons, x_mFr]
    show R.bind (R.bind (R.ok (Tv.fr (rdD r))) _) _ = _
    rw [x_bind_ok, x_maCons, x_mFr]
    show R.bind (R.bind (R.bind (R.ok (Tv.fr (thD t))) _) _) _ = _
    rw [x_bind_ok, x_maCons, x_mFr, ec, x_bind_ok, x_bind_ok]
    rfl
  · rw [ffS_tv]
    rfl
end
end K16
namespace K16
open PySem L2 DL
/-! ### the law's own look -/
abbrev Pt := Str × List (Str × Int)
def pAt (ps : List Pt) (i : Int) : Pt := ps.getD i.toNat (eS, [])
theorem pt_ix (ps : List Pt) (i : Int) (h0 : 0 ≤ i) (h1 : i < ps.length) : ixD (.list (ps.map ptI)) (.int i) = .ok (ptI (pAt ps i)) ∧ pAt ps i ∈ ps := by
  obtain ⟨x, h, hx, e⟩ := ix_list ps ptI i h0 h1
  have : pAt ps i = ps[i.toNat] := getD_at _ _ h
  rw [e, hx, this]
  exact ⟨rfl, List.getElem_mem h⟩
def InT (n : Nat) (fd : List Int) : Prop := ∀ x ∈ fd, 0 ≤ x ∧ x < (n : Int)
theorem fd_in {n : Nat} {fd : List Int} (h : InT n fd) (i : Int) (h0 : 0 ≤ i) (h1 : i < fd.length) : 0 ≤ fdAt fd i ∧ fdAt fd i < (n : Int) := by
  have hl : i.toNat < fd.length := by omega
  have : fdAt fd i = fd[i.toNat] := getD_at _ _ hl
  rw [this]
  exact h _ (List.getElem_mem hl)
def bN (r : Rd) (ps : List Pt) (fd : List Int) : Bool := r.sz.all fun s => bW (pAt ps (fdAt fd s.1)).2 s.2
def isSub {α : Type} [DecidableEq α] : List α → List α → Bool
  | [], _ => true
  | _ :: _, [] => false
  | a :: as, b :: bs => if a = b then isSub as bs else isSub (a :: as) bs
theorem isSub_nil {α : Type} [DecidableEq α] (l : List α) : isSub ([] : List α) l = true := by cases l <;> rfl
theorem sDl_sub (st : List (Str × Int)) : ∀ left : List (Str × Int), decide ((sDl left st).length = 0) = isSub left st := by
  induction st with
  | nil =>
    intro left
    cases left with
    | nil => rfl
    | cons a as => rfl
  | cons s st ih =>
    intro left
    cases left with
    | nil =>
      have := ih []
      rw [isSub_nil] at this ⊢
      exact this
    | cons a as =>
      show decide ((sDl (sD1 s (a :: as)) st).length = 0) = (if a = s then isSub as st else isSub (a :: as) st)
      rw [ih]
      by_cases c : a = s
      · rw [if_pos c, show sD1 s (a :: as) = as from if_pos c]
      · rw [if_neg c, show sD1 s (a :: as) = a :: as from if_neg c]
def jN (r : Rd) (t : Th) (fd : List Int) : Bool := r.js.all fun j => decide ((j.1, fdAt fd j.2.1, fdAt fd j.2.2) ∈ t.js)
def mN (ws : Ks) (r : Rd) (t : Th) (fd : List Int) : Bool := fd.zipIdx.all fun p => uS ws (pAt t.ps p.1).1 (r.ps.getD p.2 [])
def isF (ws : Ks) (r : Rd) (t : Th) (fd : List Int) : Bool := mN ws r t fd && (bN r t.ps fd && (jN r t fd && (cK ws r t fd && isSub (r.st.map fun s => (s.1, fdAt fd s.2)) t.st)))
section
variable {ws : Ks} {nm : List Str} (gk : GK ws)
include gk
theorem law_meets (k : Str) (al : List Str) (hl : al.length ≤ 100) : d_law_meets [kD ws, .str k, tS al] = .rt (.d (.bool (uS ws k al))) := by
  refine run_eq (n := 4) (s := S_law_meets) (ds := [kD ws, .str k, tS al]) ?_
  unfold S_law_meets
  simp -implicitDefEqProofs only [startD, List.length_cons, List.length_nil, List.map_cons, List.map_nil, List.cons_append, List.nil_append, Nat.reduceAdd, Nat.reduceSub, List.replicate, List.set_cons_zero, List.set_cons_succ, List.foldl_cons, List.foldl_nil, x_killD_n, x_killD_c, x_slOf_f, x_slOf_o, x_slOf_t, x_slOf_k]
  refine hs_ret (x := .bool (uS ws k al)) ?_ rfl
  have e : oLc (iItems (eVar 2)) (aName 3) gYes (eOp inD (rVar 3) (eCall 2 d_law_uppers (aCons (eVar 0) (aCons (eVar 1) aNil)))) [3] [some (.d (kD ws)), some (.d (.str k)), some (.d (tS al)), none] = .ok (.list ((al.map fun o => decide (o ∈ k :: chR ws.reverse k)).map PyData.bool)) := by
    rw [List.map_map]
    exact lc_eq (xs := al) PyData.str _ (it_t rfl) (sz (by omega)) fun o ho => ⟨_, rfl, in_strs (l := k :: chR ws.reverse k) rfl (call2o rfl rfl (law_uppers ws k (by have := gk.2.2.1; omega)))⟩
  rw [cb1 (fz_l e), x_any, List.any_map]
  rfl
end
theorem ne_st {a b : Str × Int} (ha : okS a.1) (hb : okS b.1) : neD (stI a) (stI b) = .ok (.bool !(decide (a = b))) := by
  unfold neD stI
  rw [eqB_tt (n := 1) (sh_st ha) (sh_st hb) (by decide), eqv_si, x_bind_ok]
theorem mem_jnI {js : List (Str × Int × Int)} {y : Str × Int × Int} (hj : ∀ j ∈ js, okS j.1) (hy : okS y.1) : inD (jnI y) (.list (js.map jnI)) = .ok (.bool (decide (y ∈ js))) := by
  have h := mem_jn hj hy
  unfold ninD at h
  unfold inD
  cases e : inB (jnI y) (.list (js.map jnI)) with
  | ok c =>
    rw [e, x_bind_ok] at h
    injection h with h
    injection h with h
    rw [x_bind_ok]
    cases c <;> cases hd : decide (y ∈ js) <;> rw [hd] at h <;> first | rfl | cases h
  | exc c => rw [e] at h; cases h
  | bad => rw [e] at h; cases h
theorem rp_ix (ps : List (List Str)) (i : Nat) (h : i < ps.length) : ixD (.list (ps.map tS)) (.int (i : Nat)) = .ok (tS (ps.getD i [])) := by
  obtain ⟨x, h', hx, e⟩ := ix_list ps tS (i : Int) (by omega) (by omega)
  rw [e, getD_at _ _ h, hx]
  rfl
section
variable {ws : Ks} {nm : List Str} (gk : GK ws) (hnm : ws.map (·.1) = nm) {r : Rd} {t : Th} {N : Nat} (ro : RdOK nm r) (to : ThOK nm N t) (hN : N ≤ 100) {fd : List Int} (hf : fd.length = r.ps.length) (hi : InT t.ps.length fd)
include gk hnm ro to hN hf hi
theorem law_bounded : d_law_bounded [rdD r, .list (t.ps.map ptI), .list (fd.map PyData.int)] = .rt (.d (.bool (bN r t.ps fd))) := by
  refine run_eq (n := 8) (s := S_law_bounded) (ds := [rdD r, .list (t.ps.map ptI), .list (fd.map PyData.int)]) ?_
  unfold S_law_bounded
  simp -implicitDefEqProofs only [startD, List.length_cons, List.length_nil, List.map_cons, List.map_nil, List.cons_append, List.nil_append, Nat.reduceAdd, Nat.reduceSub, List.replicate, List.set_cons_zero, List.set_cons_succ, List.foldl_cons, List.foldl_nil, x_killD_n, x_killD_c, x_slOf_f, x_slOf_o, x_slOf_t, x_slOf_k]
  refine hs_cut (P := fun ρ => bN r t.ps fd = true) (hs_pre ?_) fun ρ h => hs_ret (x := .bool true) rfl (by rw [h])
  simp -implicitDefEqProofs only [startD, List.length_cons, List.length_nil, List.map_cons, List.map_nil, List.cons_append, List.nil_append, Nat.reduceAdd, Nat.reduceSub, List.replicate, List.set_cons_zero, List.set_cons_succ, List.foldl_cons, List.foldl_nil, x_killD_n, x_killD_c, x_slOf_f, x_slOf_o, x_slOf_t, x_slOf_k]
  refine hs_every szI r.sz (fun s => bW (pAt t.ps (fdAt fd s.1)).2 s.2) (it_l (by simp -implicitDefEqProofs only [s0, s1, s2, s3, s4, s5, s6, s7, s8, s9, x_max2, x_int_b, x_int_i, x_tuple_l, startD, List.length_cons, List.length_nil, List.map_cons, List.map_nil, List.cons_append, List.nil_append, Nat.reduceAdd, Nat.reduceSub, List.replicate, List.set_cons_zero, List.set_cons_succ, x_wipe_cons, x_wipe_nil, x_eOp, x_eC, x_eCB, x_aCons, x_aNil, x_bind_ok, x_add_i, x_len_s, x_len_l, x_len_t, x_bOf, x_eTup, x_eFz, x_oLst, x_eCall, x_aName, x_aTup, x_asCons, x_asNil, x_mod, x_div, x_bAnd, x_bOr, x_bNot, x_asB, x_sub_i, x_neg_i, x_toE_d, x_toE_o, x_notDict, if_true, if_false, reduceIte, Int.reduceLT, Int.reduceAdd, Int.reduceSub, Int.reduceMul, Int.reduceNeg, Int.reducePow, rVar, eVar, hVar, List.getElem?_cons_zero, List.getElem?_cons_succ, rd3])) (fun i s hs => ?_) (fun h => h) (fun h => by show _ = Sl.d (.bool (bN r t.ps fd)); unfold bN; rw [h])
  have so := ro.z.2 s (List.mem_of_getElem? hs)
  obtain ⟨at', w, lo, hi'⟩ := s
  have e1 := fd_ix fd at' so.1.1 (by rw [hf]; exact so.1.2)
  have e2 := pt_ix t.ps (fdAt fd at') (fd_in hi at' so.1.1 (by rw [hf]; exact so.1.2)).1 (fd_in hi at' so.1.1 (by rw [hf]; exact so.1.2)).2
  refine ⟨_, rfl, ?_⟩
  simp -implicitDefEqProofs only [startD, List.length_cons, List.length_nil, List.map_cons, List.map_nil, List.cons_append, List.nil_append, Nat.reduceAdd, Nat.reduceSub, List.replicate, List.set_cons_zero, List.set_cons_succ, List.foldl_cons, List.foldl_nil, x_killD_n, x_killD_c, x_slOf_f, x_slOf_o, x_slOf_t, x_slOf_k]
  obtain ⟨D, eD, hD⟩ := dict_si (pAt t.ps (fdAt fd at')).2
  have eD : dictD [.list ((pAt t.ps (fdAt fd at')).2.map stI)] = .ok (.dict D) := eD
  refine hs_seq (hs_setO (x := .dict D) ?_ ?_)
  · rw [cb1 (a := .list ((pAt t.ps (fdAt fd at')).2.map stI)) ?_, eD]
    have e1 : ixD (.list (fd.map PyData.int)) (.int at') = .ok (.int (fdAt fd at')) := e1
    rw [op_ok (a := ptI (pAt t.ps (fdAt fd at'))) (b := .int 1) ?_ rfl]
    · exact pt1 _
    · rw [op_ok (a := .list (t.ps.map ptI)) (b := .int (fdAt fd at')) rfl ?_]
      · exact e2.1
      · rw [op_ok (a := .list (fd.map PyData.int)) (b := .int at') rfl rfl]
        exact e1
  simp -implicitDefEqProofs only [startD, List.length_cons, List.length_nil, List.map_cons, List.map_nil, List.cons_append, List.nil_append, Nat.reduceAdd, Nat.reduceSub, List.replicate, List.set_cons_zero, List.set_cons_succ, List.foldl_cons, List.foldl_nil, x_killD_n, x_killD_c, x_slOf_f, x_slOf_o, x_slOf_t, x_slOf_k]
  have hw := hD w
  have eb : bW (pAt t.ps (fdAt fd at')).2 (w, lo, hi') = match lk (pAt t.ps (fdAt fd at')).2 w with | none => false | some v => !(loB v lo || hiB v hi') := rfl
  cases c : lk (pAt t.ps (fdAt fd at')).2 w with
  | none =>
    rw [c] at hw eb
    refine hs_if (c := true || true) (xOrC _ _ (bof ?_) (fun q => by cases q)) (fun _ => ?_) (fun q => by cases q)
    · rw [dnot_o (D := D) (a := w) rfl rfl, hw]
      rfl
    · exact hs_ret rfl ⟨rfl, eb⟩
  | some v =>
    rw [c] at hw eb
    have eg : ∀ ρ : Rho, ρ[7]? = some (some (.o (.dict D))) → rVar 4 ρ = .ok (.str w) → eDget 7 (rVar 4) ρ = .ok (.int v) := fun ρ h1 h2 => dget_o h1 h2 hw
    refine hs_if (c := false || (loB v lo || hiB v hi')) (xOrC _ _ (bof ?_) fun _ => xOrB _ _ ?_ ?_) (fun h => ?_) (fun h => ?_)
    · rw [dnot_o (D := D) (a := w) rfl rfl, hw]
      rfl
    · cases lo with
      | none => exact xAndB false true (bof rfl) (fun h => by cases h)
      | some lo => exact xAndB true _ (bof rfl) (fun _ => xCmpB _ (eg _ rfl rfl) rfl rfl)
    · cases hi' with
      | none => exact xAndB false true (bof rfl) (fun h => by cases h)
      | some hi => exact xAndB true _ (bof rfl) (fun _ => xCmpB _ (eg _ rfl rfl) rfl rfl)
    · rw [Bool.false_or] at h
      exact hs_ret rfl ⟨rfl, by show bW (pAt t.ps (fdAt fd at')).2 (w, lo, hi') = false; rw [eb]; show (!(loB v lo || hiB v hi')) = false; rw [h]; rfl⟩
    · rw [Bool.false_or] at h
      exact hs_next ⟨rfl, by show bW (pAt t.ps (fdAt fd at')).2 (w, lo, hi') = true; rw [eb]; show (!(loB v lo || hiB v hi')) = true; rw [h]; rfl⟩
theorem law_stepped (hT : t.st.length ≤ 1000) : d_law_stepped [rdD r, .list (t.st.map stI), .list (fd.map PyData.int)] = .rt (.d (.bool (isSub (r.st.map fun s => (s.1, fdAt fd s.2)) t.st))) := by
  refine run_eq (n := 6) (s := S_law_stepped) (ds := [rdD r, .list (t.st.map stI), .list (fd.map PyData.int)]) ?_
  unfold S_law_stepped
  simp -implicitDefEqProofs only [startD, List.length_cons, List.length_nil, List.map_cons, List.map_nil, List.cons_append, List.nil_append, Nat.reduceAdd, Nat.reduceSub, List.replicate, List.set_cons_zero, List.set_cons_succ, List.foldl_cons, List.foldl_nil, x_killD_n, x_killD_c, x_slOf_f, x_slOf_o, x_slOf_t, x_slOf_k]
  refine hs_seq (hs_set (x := .int ((0 : Nat) : Int)) rfl ?_)
  simp -implicitDefEqProofs only [startD, List.length_cons, List.length_nil, List.map_cons, List.map_nil, List.cons_append, List.nil_append, Nat.reduceAdd, Nat.reduceSub, List.replicate, List.set_cons_zero, List.set_cons_succ, List.foldl_cons, List.foldl_nil, x_killD_n, x_killD_c, x_slOf_f, x_slOf_o, x_slOf_t, x_slOf_k]
  generalize hL : (r.st.map fun s => (s.1, fdAt fd s.2)) = L
  have ll : lenD [.list (t.st.map stI)] = .ok (.int t.st.length) := by rw [x_len_l, List.length_map]
  refine hs_cut (P := fun ρ => isSub L t.st = true) (hs_pre ?_) fun ρ h => hs_ret (x := .bool true) rfl (by rw [h])
  simp -implicitDefEqProofs only [startD, List.length_cons, List.length_nil, List.map_cons, List.map_nil, List.cons_append, List.nil_append, Nat.reduceAdd, Nat.reduceSub, List.replicate, List.set_cons_zero, List.set_cons_succ, List.foldl_cons, List.foldl_nil, x_killD_n, x_killD_c, x_slOf_f, x_slOf_o, x_slOf_t, x_slOf_k]
  refine hs_forL stI r.st (it_l (by simp -implicitDefEqProofs only [s0, s1, s2, s3, s4, s5, s6, s7, s8, s9, x_max2, x_int_b, x_int_i, x_tuple_l, startD, List.length_cons, List.length_nil, List.map_cons, List.map_nil, List.cons_append, List.nil_append, Nat.reduceAdd, Nat.reduceSub, List.replicate, List.set_cons_zero, List.set_cons_succ, x_wipe_cons, x_wipe_nil, x_eOp, x_eC, x_eCB, x_aCons, x_aNil, x_bind_ok, x_add_i, x_len_s, x_len_l, x_len_t, x_bOf, x_eTup, x_eFz, x_oLst, x_eCall, x_aName, x_aTup, x_asCons, x_asNil, x_mod, x_div, x_bAnd, x_bOr, x_bNot, x_asB, x_sub_i, x_neg_i, x_toE_d, x_toE_o, x_notDict, if_true, if_false, reduceIte, Int.reduceLT, Int.reduceAdd, Int.reduceSub, Int.reduceMul, Int.reduceNeg, Int.reducePow, rVar, eVar, hVar, List.getElem?_cons_zero, List.getElem?_cons_succ, rd4])) (fun i ρ => ∃ k : Nat, ρ = [some (.d (rdD r)), some (.d (.list (t.st.map stI))), some (.d (.list (fd.map PyData.int))), some (.d (.int (k : Nat))), none, none] ∧ k ≤ t.st.length ∧ isSub L t.st = isSub (L.drop i) (t.st.drop k)) ⟨0, rfl, Nat.zero_le _, rfl⟩ (fun i s ρ hs hI => ?_) fun ρ hI => ?_
  · obtain ⟨k, rfl, hk, he⟩ := hI
    have so := ro.s.2 s (List.mem_of_getElem? hs)
    have e1 := fd_ix fd s.2 so.1.1 (by rw [hf]; exact so.1.2)
    have hLi : L[i]? = some (s.1, fdAt fd s.2) := by rw [← hL, List.getElem?_map, hs]; rfl
    rw [drop_at hLi] at he
    refine ⟨_, rfl, ?_⟩
    simp -implicitDefEqProofs only [startD, List.length_cons, List.length_nil, List.map_cons, List.map_nil, List.cons_append, List.nil_append, Nat.reduceAdd, Nat.reduceSub, List.replicate, List.set_cons_zero, List.set_cons_succ, List.foldl_cons, List.foldl_nil, x_killD_n, x_killD_c, x_slOf_f, x_slOf_o, x_slOf_t, x_slOf_k]
    refine hs_cut (P := fun ρ => ∃ k' : Nat, ρ = [some (.d (rdD r)), some (.d (.list (t.st.map stI))), some (.d (.list (fd.map PyData.int))), some (.d (.int (k' : Nat))), some (.d (.str s.1)), some (.d (.int s.2))] ∧ k' ≤ t.st.length ∧ isSub L t.st = isSub ((s.1, fdAt fd s.2) :: L.drop (i + 1)) (t.st.drop k') ∧ (k' < t.st.length → t.st[k']? = some (s.1, fdAt fd s.2))) (hs_pre ?_) ?_
    · simp -implicitDefEqProofs only [startD, List.length_cons, List.length_nil, List.map_cons, List.map_nil, List.cons_append, List.nil_append, Nat.reduceAdd, Nat.reduceSub, List.replicate, List.set_cons_zero, List.set_cons_succ, List.foldl_cons, List.foldl_nil, x_killD_n, x_killD_c, x_slOf_f, x_slOf_o, x_slOf_t, x_slOf_k]
      refine hs_while (fun j ρ => ∃ k' : Nat, ρ = [some (.d (rdD r)), some (.d (.list (t.st.map stI))), some (.d (.list (fd.map PyData.int))), some (.d (.int (k' : Nat))), some (.d (.str s.1)), some (.d (.int s.2))] ∧ k' + j = t.st.length ∧ isSub L t.st = isSub ((s.1, fdAt fd s.2) :: L.drop (i + 1)) (t.st.drop k')) (t.st.length - k) (by omega) ⟨k, rfl, by omega, he⟩ (fun j ρ' hI => ?_)
      obtain ⟨k', rfl, hj, he'⟩ := hI
      have c1 : bOf (eOp ltD (rVar 3) (eCB lenD (aCons (rVar 1) aNil))) [some (.d (rdD r)), some (.d (.list (t.st.map stI))), some (.d (.list (fd.map PyData.int))), some (.d (.int (k' : Nat))), some (.d (.str s.1)), some (.d (.int s.2))] = .ok (decide ((k' : Int) < t.st.length)) := xCmpB (i := (k' : Int)) (j := t.st.length) _ rfl (by rw [cb1 (a := .list (t.st.map stI)) rfl, ll]) rfl
      cases hj0 : j with
      | zero =>
        subst hj0
        refine ⟨false && true, xAndB false true (by rw [c1, decide_eq_false (by omega)]) (fun q => by cases q), fun _ => ⟨k', rfl, by omega, he', fun h => by omega⟩, fun q => by cases q⟩
      | succ j' =>
        subst hj0
        have hk' : k' < t.st.length := by omega
        have hx : t.st[k']? = some t.st[k'] := List.getElem?_eq_getElem hk'
        have xo := to.s.2 _ (List.getElem_mem hk')
        refine ⟨true && !decide (t.st[k'] = (s.1, fdAt fd s.2)), xAndB true _ (by rw [c1, decide_eq_true (by omega)]) (fun _ => bof ?_), fun h => ?_, fun h => ?_⟩
        · rw [op_ok (a := stI t.st[k']) (b := stI (s.1, fdAt fd s.2)) ?_ (tup2 rfl (by simp -implicitDefEqProofs only [s0, s1, s2, s3, s4, s5, s6, s7, s8, s9, x_max2, x_int_b, x_int_i, x_tuple_l, startD, List.length_cons, List.length_nil, List.map_cons, List.map_nil, List.cons_append, List.nil_append, Nat.reduceAdd, Nat.reduceSub, List.replicate, List.set_cons_zero, List.set_cons_succ, x_wipe_cons, x_wipe_nil, x_eOp, x_eC, x_eCB, x_aCons, x_aNil, x_bind_ok, x_add_i, x_len_s, x_len_l, x_len_t, x_bOf, x_eTup, x_eFz, x_oLst, x_eCall, x_aName, x_aTup, x_asCons, x_asNil, x_mod, x_div, x_bAnd, x_bOr, x_bNot, x_asB, x_sub_i, x_neg_i, x_toE_d, x_toE_o, x_notDict, if_true, if_false, reduceIte, Int.reduceLT, Int.reduceAdd, Int.reduceSub, Int.reduceMul, Int.reduceNeg, Int.reducePow, rVar, eVar, hVar, List.getElem?_cons_zero, List.getElem?_cons_succ, e1]))]
          · exact ne_st xo so.2
          · rw [op_ok (a := .list (t.st.map stI)) (b := .int (k' : Nat)) rfl rfl]
            obtain ⟨x, h1, h2, h3⟩ := ix_list t.st stI (k' : Int) (by omega) (by omega)
            rw [h3, h2]
            rfl
        · rw [Bool.true_and, Bool.not_eq_false', decide_eq_true_iff] at h
          exact ⟨k', rfl, by omega, he', fun _ => by rw [hx, h]⟩
        · rw [Bool.true_and, Bool.not_eq_true', decide_eq_false_iff_not] at h
          refine hs_aug (a := .int (k' : Nat)) (b := .int 1) (z := .int ((k' + 1 : Nat) : Int)) rfl rfl rfl ⟨j', by omega, k' + 1, rfl, by omega, ?_⟩
          rw [he', drop_at hx]
          show (if (s.1, fdAt fd s.2) = t.st[k'] then _ else _) = _
          rw [if_neg (fun q => h q.symm)]
    · rintro _ ⟨k', rfl, hk', he', hx⟩
      by_cases c : k' = t.st.length
      · refine hs_seq (hs_if (c := true) (xEqB (i := (k' : Int)) (j := t.st.length) true rfl (by rw [cb1 (a := .list (t.st.map stI)) rfl, ll]) (decide_eq_true (by omega))) (fun _ => hs_ret rfl ?_) (fun q => by cases q))
        rw [he', c, List.drop_length]
        rfl
      · refine hs_seq (hs_if (c := false) (xEqB (i := (k' : Int)) (j := t.st.length) false rfl (by rw [cb1 (a := .list (t.st.map stI)) rfl, ll]) (decide_eq_false (by omega))) (fun q => by cases q) (fun _ => hs_next ?_))
        refine hs_aug (a := .int (k' : Nat)) (b := .int 1) (z := .int ((k' + 1 : Nat) : Int)) rfl rfl rfl ⟨k' + 1, rfl, by omega, ?_⟩
        rw [he', drop_at (hx (by omega))]
        show (if (s.1, fdAt fd s.2) = (s.1, fdAt fd s.2) then _ else _) = _
        rw [if_pos rfl]
  · obtain ⟨k, rfl, hk, he⟩ := hI
    rw [he, List.drop_eq_nil_of_le (by rw [← hL, List.length_map]; exact Nat.le_refl _)]
    exact isSub_nil _
end
end K16
namespace K16
open PySem L2 DL
def eI (p : Int × Nat) : PD := .tuple [.int ((p.2 : Nat) : Int), .int p.1]
section
variable {ws : Ks} {nm : List Str} (gk : GK ws) (hnm : ws.map (·.1) = nm) {r : Rd} {t : Th} {N : Nat} (ro : RdOK nm r) (to : ThOK nm N t) (hN : N ≤ 100) {fd : List Int} (hf : fd.length = r.ps.length) (hi : InT t.ps.length fd) (hd : fd.Nodup)
include gk hnm ro to hN hf hi hd
theorem law_is_finding : d_law_is_finding [kD ws, rdD r, thD t, .list (fd.map PyData.int)] = .rt (.d (.bool (isF ws r t fd))) := by
  have pl := ro.p.p1
  have tl := to.p.1
  refine run_eq (n := 14) (s := S_law_is_finding) (ds := [kD ws, rdD r, thD t, .list (fd.map PyData.int)]) ?_
  unfold S_law_is_finding
  simp -implicitDefEqProofs only [startD, List.length_cons, List.length_nil, List.map_cons, List.map_nil, List.cons_append, List.nil_append, Nat.reduceAdd, Nat.reduceSub, List.replicate, List.set_cons_zero, List.set_cons_succ, List.foldl_cons, List.foldl_nil, x_killD_n, x_killD_c, x_slOf_f, x_slOf_o, x_slOf_t, x_slOf_k]
  refine hs_seq (hs_asg (a := thD t) rfl rfl ?_)
  simp -implicitDefEqProofs only [startD, List.length_cons, List.length_nil, List.map_cons, List.map_nil, List.cons_append, List.nil_append, Nat.reduceAdd, Nat.reduceSub, List.replicate, List.set_cons_zero, List.set_cons_succ, List.foldl_cons, List.foldl_nil, x_killD_n, x_killD_c, x_slOf_f, x_slOf_o, x_slOf_t, x_slOf_k]
  have out : ∀ z : Option Sl, True := fun _ => trivial
  -- kinds
  refine hs_cut (P := fun ρ => (∃ z, ρ = [some (.d (kD ws)), some (.d (rdD r)), some (.d (thD t)), some (.d (.list (fd.map PyData.int))), some (.d (.list (t.ps.map ptI))), some (.d (.list (t.js.map jnI))), some (.d (.list (t.st.map stI))), z, none, none, none, none, none, none]) ∧ mN ws r t fd = true) (hs_pre ?_) ?_
  · simp -implicitDefEqProofs only [startD, List.length_cons, List.length_nil, List.map_cons, List.map_nil, List.cons_append, List.nil_append, Nat.reduceAdd, Nat.reduceSub, List.replicate, List.set_cons_zero, List.set_cons_succ, List.foldl_cons, List.foldl_nil, x_killD_n, x_killD_c, x_slOf_f, x_slOf_o, x_slOf_t, x_slOf_k]
    refine hs_everyJ eI fd.zipIdx (fun p => uS ws (pAt t.ps p.1).1 (r.ps.getD p.2 [])) (fun ρ => ∃ z, ρ = [some (.d (kD ws)), some (.d (rdD r)), some (.d (thD t)), some (.d (.list (fd.map PyData.int))), some (.d (.list (t.ps.map ptI))), some (.d (.list (t.js.map jnI))), some (.d (.list (t.st.map stI))), z, none, none, none, none, none, none]) ⟨none, rfl⟩ (by rw [enum_st (l := fd.map PyData.int) rfl, enum_map]; rfl) (fun i p ρ hp hJ => ?_) (fun ρ hJ h => ⟨hJ, h⟩) (fun h => by show _ = Sl.d (.bool (isF ws r t fd)); unfold isF mN; rw [h]; rfl)
    obtain ⟨z, rfl⟩ := hJ
    obtain ⟨x, j⟩ := p
    obtain ⟨rfl, hj, hx⟩ := zip_at hp
    have xi := hi x (by rw [← hx]; exact List.getElem_mem _)
    have e1 := pt_ix t.ps x xi.1 xi.2
    have po : PpOK nm (pAt t.ps x) := to.p.2 _ e1.2
    have hj2 : j < r.ps.length := by omega
    have e2 := rp_ix r.ps j hj2
    have ao : PtOK nm (r.ps.getD j []) := ro.p.p2 _ (by rw [getD_at _ _ hj2]; exact List.getElem_mem _)
    have e3 := law_meets gk (pAt t.ps x).1 (r.ps.getD j []) (by have := ao.2.1; omega)
    refine ⟨_, rfl, ?_⟩
    simp -implicitDefEqProofs only [startD, List.length_cons, List.length_nil, List.map_cons, List.map_nil, List.cons_append, List.nil_append, Nat.reduceAdd, Nat.reduceSub, List.replicate, List.set_cons_zero, List.set_cons_succ, List.foldl_cons, List.foldl_nil, x_killD_n, x_killD_c, x_slOf_f, x_slOf_o, x_slOf_t, x_slOf_k]
    refine hs_if (c := !uS ws (pAt t.ps x).1 (r.ps.getD j [])) (xNotB _ (bof (call3 rfl ?_ ?_ e3))) (fun h => ?_) (fun h => ?_)
    · rw [op_ok (a := ptI (pAt t.ps x)) (b := .int 0) ?_ rfl]
      · exact pt0 _
      · rw [op_ok (a := .list (t.ps.map ptI)) (b := .int x) rfl rfl]
        exact e1.1
    · rw [op_ok (a := .list (r.ps.map tS)) (b := .int (j : Nat)) (by simp -implicitDefEqProofs only [s0, s1, s2, s3, s4, s5, s6, s7, s8, s9, x_max2, x_int_b, x_int_i, x_tuple_l, startD, List.length_cons, List.length_nil, List.map_cons, List.map_nil, List.cons_append, List.nil_append, Nat.reduceAdd, Nat.reduceSub, List.replicate, List.set_cons_zero, List.set_cons_succ, x_wipe_cons, x_wipe_nil, x_eOp, x_eC, x_eCB, x_aCons, x_aNil, x_bind_ok, x_add_i, x_len_s, x_len_l, x_len_t, x_bOf, x_eTup, x_eFz, x_oLst, x_eCall, x_aName, x_aTup, x_asCons, x_asNil, x_mod, x_div, x_bAnd, x_bOr, x_bNot, x_asB, x_sub_i, x_neg_i, x_toE_d, x_toE_o, x_notDict, if_true, if_false, reduceIte, Int.reduceLT, Int.reduceAdd, Int.reduceSub, Int.reduceMul, Int.reduceNeg, Int.reducePow, rVar, eVar, hVar, List.getElem?_cons_zero, List.getElem?_cons_succ, rd0]) rfl]
      exact e2
    · exact hs_ret rfl ⟨rfl, by rw [Bool.not_eq_true'] at h; exact h⟩
    · exact hs_next ⟨⟨_, rfl⟩, by rw [Bool.not_eq_false'] at h; exact h⟩
  rintro _ ⟨⟨z, rfl⟩, hm⟩
  -- bounds
  have e1 := law_bounded gk hnm ro to hN hf hi
  refine hs_seq (hs_if (c := false || !bN r t.ps fd) (xOrC _ _ (xCmpB (i := fd.length) (j := fd.length) false (lenSet_ok rfl hd (by omega)) (by rw [cb1 (a := .list (fd.map PyData.int)) rfl, x_len_l, List.length_map]) (decide_eq_false (by omega))) fun _ => xNotB _ (bof (call3 rfl rfl rfl e1))) (fun h => ?_) (fun h => hs_next ?_))
  · rw [Bool.false_or, Bool.not_eq_true'] at h
    refine hs_ret rfl ?_
    unfold isF
    rw [hm, h]
    rfl
  rw [Bool.false_or, Bool.not_eq_false'] at h
  have hb := h
  clear h
  -- joins
  have jc : eCB allD (aCons (eFz (oLc (iItems (eOp ixD (rVar 1) (eC (.int 2)))) (aTup 3 (asCons (aName 12) (asCons (aName 7) (asCons (aName 13) asNil)))) gYes (eOp inD (eTup (aCons (eVar 12) (aCons (eOp ixD (rVar 3) (rVar 7)) (aCons (eOp ixD (rVar 3) (rVar 13)) aNil)))) (rVar 5)) [12, 7, 13])) aNil) [some (.d (kD ws)), some (.d (rdD r)), some (.d (thD t)), some (.d (.list (fd.map PyData.int))), some (.d (.list (t.ps.map ptI))), some (.d (.list (t.js.map jnI))), some (.d (.list (t.st.map stI))), z, none, none, none, none, none, none] = .ok (.bool (jN r t fd)) := by
    rw [cb1 (a := .list ((r.js.map fun j => decide ((j.1, fdAt fd j.2.1, fdAt fd j.2.2) ∈ t.js)).map PyData.bool)) (fz_l ?_), x_all, List.all_map]
    · rfl
    · rw [List.map_map]
      refine lc_eq (xs := r.js) jnI _ (it_l (by simp -implicitDefEqProofs only [s0, s1, s2, s3, s4, s5, s6, s7, s8, s9, x_max2, x_int_b, x_int_i, x_tuple_l, startD, List.length_cons, List.length_nil, List.map_cons, List.map_nil, List.cons_append, List.nil_append, Nat.reduceAdd, Nat.reduceSub, List.replicate, List.set_cons_zero, List.set_cons_succ, x_wipe_cons, x_wipe_nil, x_eOp, x_eC, x_eCB, x_aCons, x_aNil, x_bind_ok, x_add_i, x_len_s, x_len_l, x_len_t, x_bOf, x_eTup, x_eFz, x_oLst, x_eCall, x_aName, x_aTup, x_asCons, x_asNil, x_mod, x_div, x_bAnd, x_bOr, x_bNot, x_asB, x_sub_i, x_neg_i, x_toE_d, x_toE_o, x_notDict, if_true, if_false, reduceIte, Int.reduceLT, Int.reduceAdd, Int.reduceSub, Int.reduceMul, Int.reduceNeg, Int.reducePow, rVar, eVar, hVar, List.getElem?_cons_zero, List.getElem?_cons_succ, rd2])) (sz (by have := ro.j.1; omega)) fun j hj => ⟨_, rfl, ?_⟩
      have jo := ro.j.2 j hj
      have e1 := fd_ix fd j.2.1 jo.1.1.1 (by rw [hf]; exact jo.1.1.2)
      have e2 := fd_ix fd j.2.2 jo.1.2.1 (by rw [hf]; exact jo.1.2.2)
      rw [op_ok (a := jnI (j.1, fdAt fd j.2.1, fdAt fd j.2.2)) (b := .list (t.js.map jnI)) (tup3 rfl (by simp -implicitDefEqProofs only [s0, s1, s2, s3, s4, s5, s6, s7, s8, s9, x_max2, x_int_b, x_int_i, x_tuple_l, startD, List.length_cons, List.length_nil, List.map_cons, List.map_nil, List.cons_append, List.nil_append, Nat.reduceAdd, Nat.reduceSub, List.replicate, List.set_cons_zero, List.set_cons_succ, x_wipe_cons, x_wipe_nil, x_eOp, x_eC, x_eCB, x_aCons, x_aNil, x_bind_ok, x_add_i, x_len_s, x_len_l, x_len_t, x_bOf, x_eTup, x_eFz, x_oLst, x_eCall, x_aName, x_aTup, x_asCons, x_asNil, x_mod, x_div, x_bAnd, x_bOr, x_bNot, x_asB, x_sub_i, x_neg_i, x_toE_d, x_toE_o, x_notDict, if_true, if_false, reduceIte, Int.reduceLT, Int.reduceAdd, Int.reduceSub, Int.reduceMul, Int.reduceNeg, Int.reducePow, rVar, eVar, hVar, List.getElem?_cons_zero, List.getElem?_cons_succ, e1]) (by simp -implicitDefEqProofs only [s0, s1, s2, s3, s4, s5, s6, s7, s8, s9, x_max2, x_int_b, x_int_i, x_tuple_l, startD, List.length_cons, List.length_nil, List.map_cons, List.map_nil, List.cons_append, List.nil_append, Nat.reduceAdd, Nat.reduceSub, List.replicate, List.set_cons_zero, List.set_cons_succ, x_wipe_cons, x_wipe_nil, x_eOp, x_eC, x_eCB, x_aCons, x_aNil, x_bind_ok, x_add_i, x_len_s, x_len_l, x_len_t, x_bOf, x_eTup, x_eFz, x_oLst, x_eCall, x_aName, x_aTup, x_asCons, x_asNil, x_mod, x_div, x_bAnd, x_bOr, x_bNot, x_asB, x_sub_i, x_neg_i, x_toE_d, x_toE_o, x_notDict, if_true, if_false, reduceIte, Int.reduceLT, Int.reduceAdd, Int.reduceSub, Int.reduceMul, Int.reduceNeg, Int.reducePow, rVar, eVar, hVar, List.getElem?_cons_zero, List.getElem?_cons_succ, e2])) rfl]
      exact mem_jnI to.j.2 jo.2
  refine hs_seq (hs_if (c := !jN r t fd) (xNotB _ (bof jc)) (fun h => ?_) (fun h => hs_next ?_))
  · rw [Bool.not_eq_true'] at h
    refine hs_ret rfl ?_
    unfold isF
    rw [hm, hb, h]
    rfl
  rw [Bool.not_eq_false'] at h
  have hjn := h
  clear h
  -- closed kinds
  refine hs_cut (P := fun ρ => ρ = [some (.d (kD ws)), some (.d (rdD r)), some (.d (thD t)), some (.d (.list (fd.map PyData.int))), some (.d (.list (t.ps.map ptI))), some (.d (.list (t.js.map jnI))), some (.d (.list (t.st.map stI))), z, none, none, none, none, none, none] ∧ cK ws r t fd = true) (hs_pre ?_) ?_
  · simp -implicitDefEqProofs only [startD, List.length_cons, List.length_nil, List.map_cons, List.map_nil, List.cons_append, List.nil_append, Nat.reduceAdd, Nat.reduceSub, List.replicate, List.set_cons_zero, List.set_cons_succ, List.foldl_cons, List.foldl_nil, x_killD_n, x_killD_c, x_slOf_f, x_slOf_o, x_slOf_t, x_slOf_k]
    refine hs_every clI r.cl (cK1 ws t fd) (it_l (by simp -implicitDefEqProofs only [s0, s1, s2, s3, s4, s5, s6, s7, s8, s9, x_max2, x_int_b, x_int_i, x_tuple_l, startD, List.length_cons, List.length_nil, List.map_cons, List.map_nil, List.cons_append, List.nil_append, Nat.reduceAdd, Nat.reduceSub, List.replicate, List.set_cons_zero, List.set_cons_succ, x_wipe_cons, x_wipe_nil, x_eOp, x_eC, x_eCB, x_aCons, x_aNil, x_bind_ok, x_add_i, x_len_s, x_len_l, x_len_t, x_bOf, x_eTup, x_eFz, x_oLst, x_eCall, x_aName, x_aTup, x_asCons, x_asNil, x_mod, x_div, x_bAnd, x_bOr, x_bNot, x_asB, x_sub_i, x_neg_i, x_toE_d, x_toE_o, x_notDict, if_true, if_false, reduceIte, Int.reduceLT, Int.reduceAdd, Int.reduceSub, Int.reduceMul, Int.reduceNeg, Int.reducePow, rVar, eVar, hVar, List.getElem?_cons_zero, List.getElem?_cons_succ, rd1])) (fun i c hc => ?_) (fun h => ⟨rfl, h⟩) (fun h => by show _ = Sl.d (.bool (isF ws r t fd)); unfold isF cK; rw [hm, hb, hjn, h]; rfl)
    have co := ro.c.2 c (List.mem_of_getElem? hc)
    refine ⟨_, rfl, hs_pre ?_⟩
    simp -implicitDefEqProofs only [startD, List.length_cons, List.length_nil, List.map_cons, List.map_nil, List.cons_append, List.nil_append, Nat.reduceAdd, Nat.reduceSub, List.replicate, List.set_cons_zero, List.set_cons_succ, List.foldl_cons, List.foldl_nil, x_killD_n, x_killD_c, x_slOf_f, x_slOf_o, x_slOf_t, x_slOf_k]
    refine hs_every eP t.ps.zipIdx (fun p => !(!decide (((p.2 : Nat) : Int) ∈ c.2.map (fdAt fd)) && uS ws p.1.1 c.1)) (by rw [enum_st (l := t.ps.map ptI) rfl, enum_map]; rfl) (fun i p hp => ?_) (fun h => ⟨rfl, h⟩) (fun h => ⟨rfl, h⟩)
    obtain ⟨p, j⟩ := p
    obtain ⟨rfl, hj, hp2⟩ := zip_at hp
    have po : PpOK nm p := to.p.2 p (by rw [← hp2]; exact List.getElem_mem _)
    have e1 := law_meets gk p.1 c.1 (by have := co.1.2.1; omega)
    refine ⟨_, rfl, ?_⟩
    simp -implicitDefEqProofs only [startD, List.length_cons, List.length_nil, List.map_cons, List.map_nil, List.cons_append, List.nil_append, Nat.reduceAdd, Nat.reduceSub, List.replicate, List.set_cons_zero, List.set_cons_succ, List.foldl_cons, List.foldl_nil, x_killD_n, x_killD_c, x_slOf_f, x_slOf_o, x_slOf_t, x_slOf_k]
    refine hs_if (c := uS ws p.1 c.1 && !decide ((j : Int) ∈ c.2.map (fdAt fd))) (xAndB _ _ (bof (call3 rfl (by simp -implicitDefEqProofs only [s0, s1, s2, s3, s4, s5, s6, s7, s8, s9, x_max2, x_int_b, x_int_i, x_tuple_l, startD, List.length_cons, List.length_nil, List.map_cons, List.map_nil, List.cons_append, List.nil_append, Nat.reduceAdd, Nat.reduceSub, List.replicate, List.set_cons_zero, List.set_cons_succ, x_wipe_cons, x_wipe_nil, x_eOp, x_eC, x_eCB, x_aCons, x_aNil, x_bind_ok, x_add_i, x_len_s, x_len_l, x_len_t, x_bOf, x_eTup, x_eFz, x_oLst, x_eCall, x_aName, x_aTup, x_asCons, x_asNil, x_mod, x_div, x_bAnd, x_bOr, x_bNot, x_asB, x_sub_i, x_neg_i, x_toE_d, x_toE_o, x_notDict, if_true, if_false, reduceIte, Int.reduceLT, Int.reduceAdd, Int.reduceSub, Int.reduceMul, Int.reduceNeg, Int.reducePow, rVar, eVar, hVar, List.getElem?_cons_zero, List.getElem?_cons_succ, pt0]) rfl e1)) fun _ => bof ?_) (fun h => ?_) (fun h => ?_)
    · rw [op_ok (a := .int (j : Nat)) (b := .list ((c.2.map (fdAt fd)).map PyData.int)) rfl (fz_l ?_)]
      · unfold ninD
        rw [inB_ints, x_bind_ok]
      · rw [List.map_map]
        refine lc_eq (xs := c.2) PyData.int _ (it_t rfl) (sz (by have := co.2.1; omega)) fun n hn => ⟨_, rfl, ?_⟩
        have e1 := fd_ix fd n (co.2.2 n hn).1 (by rw [hf]; exact (co.2.2 n hn).2)
        rw [op_ok (a := .list (fd.map PyData.int)) (b := .int n) rfl rfl]
        exact e1
    · exact hs_ret rfl ⟨rfl, by show (!(!decide ((j : Int) ∈ c.2.map (fdAt fd)) && uS ws p.1 c.1)) = false; rw [Bool.and_comm, h]; rfl⟩
    · exact hs_next ⟨rfl, by show (!(!decide ((j : Int) ∈ c.2.map (fdAt fd)) && uS ws p.1 c.1)) = true; rw [Bool.and_comm, h]; rfl⟩
  rintro _ ⟨rfl, hck⟩
  have e5 := law_stepped gk hnm ro to hN hf hi (by have := to.s.1; omega)
  refine hs_ret (call3 rfl rfl rfl e5) ?_
  unfold isF
  rw [hm, hb, hjn, hck]
  rfl
end
/-! ### what is found first is a finding -/
section
variable {ws : Ks} {r : Rd} {t : Th}
/-- what is known of a row of places that the search has come to -/
structure Pre (ws : Ks) (r : Rd) (t : Th) (k : Nat) (fd : List Int) : Prop where
  n : fd.length = k
  d : fd.Nodup
  f : ∀ (i : Nat) (h : i < fd.length) (hr : i < (fpl ws r t).length), fd[i] ∈ (fpl ws r t)[i]
  j : ∀ m, m ≤ k → 0 < m → jL r t (fd.take m) = true
theorem Pre.nil : Pre ws r t 0 [] := ⟨rfl, List.nodup_nil, fun i h => (by cases h), fun m h h0 => (by omega)⟩
theorem Pre.go {k : Nat} {fd : List Int} {p : Int} {row : List Int} (h : Pre ws r t k fd) (hr : (fpl ws r t)[k]? = some row) (hp : p ∈ row) (hn : p ∉ fd) (hj : jL r t (fd ++ [p]) = true) : Pre ws r t (k + 1) (fd ++ [p]) := by
  have hk := h.n
  refine ⟨by rw [List.length_append, h.n]; rfl, ?_, fun i hi hr' => ?_, fun m hm h0 => ?_⟩
  · refine List.nodup_append.mpr ⟨h.d, by simp, fun a ha b hb e => hn ?_⟩
    rw [List.mem_singleton.mp hb] at e
    rw [← e]; exact ha
  · by_cases c : i < fd.length
    · rw [List.getElem_append_left c]
      exact h.f i c hr'
    · have : i = k := by rw [List.length_append, List.length_singleton] at hi; omega
      subst this
      obtain ⟨h1, h2⟩ := List.getElem?_eq_some_iff.mp hr
      rw [h2, List.getElem_append_right (by omega)]
      simp only [hk, Nat.sub_self, List.getElem_cons_zero]
      exact hp
  · by_cases c : m ≤ k
    · rw [List.take_append_of_le_length (by omega)]
      exact h.j m c h0
    · have : m = k + 1 := by omega
      rw [List.take_of_length_le (by rw [List.length_append, List.length_singleton]; omega)]
      exact hj
theorem ffD_pre (ok : List Int → Bool) : ∀ (rest pre : List (List Int)) (fd l : List Int), fpl ws r t = pre ++ rest → Pre ws r t pre.length fd → ffD ok (jL r t) rest fd = some l → Pre ws r t (fpl ws r t).length l ∧ ok l = true
  | [], pre, fd, l, hp, h, e => by
    unfold ffD at e
    split at e
    · rename_i c
      injection e with e
      subst e
      rw [List.append_nil] at hp
      exact ⟨by rw [hp]; exact h, c⟩
    · cases e
  | row :: rest, pre, fd, l, hp, h, e => by
    unfold ffD at e
    obtain ⟨p, hpr, e⟩ := List.exists_of_findSome?_eq_some e
    split at e
    · rename_i c
      have hr : (fpl ws r t)[pre.length]? = some row := by rw [hp, List.getElem?_append_right (Nat.le_refl _), Nat.sub_self]; rfl
      refine ffD_pre ok rest (pre ++ [row]) (fd ++ [p]) l (by rw [hp, List.append_assoc]; rfl) ?_ e
      rw [List.length_append]
      exact h.go hr hpr c.1 c.2
    · cases e
theorem fpl_len : (fpl ws r t).length = r.ps.length := by unfold fpl; rw [List.length_map, List.length_zipIdx]
theorem fpl_at {i : Nat} (h : i < r.ps.length) (h2 : i < (fpl ws r t).length) : (fpl ws r t)[i] = rowOf ws r t (r.ps[i], i) := by
  have e : (fpl ws r t)[i]? = some (rowOf ws r t (r.ps[i], i)) := by
    unfold fpl
    rw [List.getElem?_map, List.getElem?_zipIdx, List.getElem?_eq_getElem h]
    simp
  exact (List.getElem?_eq_some_iff.mp e).2
theorem row_mem {a : List Str × Nat} {x : Int} (h : x ∈ rowOf ws r t a) : (0 ≤ x ∧ x < (t.ps.length : Int)) ∧ uS ws (pAt t.ps x).1 a.1 = true ∧ sW (pAt t.ps x).2 (bdsOf r a.2) = true := by
  unfold rowOf at h
  obtain ⟨p, hp, rfl⟩ := List.mem_map.mp h
  obtain ⟨h1, h2⟩ := List.mem_filter.mp hp
  obtain ⟨p, j⟩ := p
  obtain ⟨k, hk⟩ := List.getElem?_of_mem h1
  obtain ⟨rfl, hj, hx⟩ := zip_at hk
  have : pAt t.ps (j : Nat) = p := by
    unfold pAt
    rw [Int.toNat_natCast, getD_at _ _ hj, hx]
  unfold fitP at h2
  rw [Bool.and_eq_true] at h2
  show (0 ≤ ((j : Nat) : Int) ∧ ((j : Nat) : Int) < _) ∧ _
  rw [this]
  exact ⟨⟨by omega, by omega⟩, h2.1, h2.2⟩
theorem Pre.at' {fd : List Int} (h : Pre ws r t r.ps.length fd) (i : Nat) (hi : i < r.ps.length) : ∃ hl : i < fd.length, (0 ≤ fd[i] ∧ fd[i] < (t.ps.length : Int)) ∧ uS ws (pAt t.ps fd[i]).1 r.ps[i] = true ∧ sW (pAt t.ps fd[i]).2 (bdsOf r i) = true := by
  have hl : i < fd.length := by rw [h.n]; exact hi
  refine ⟨hl, ?_⟩
  have m := h.f i hl (by rw [fpl_len]; exact hi)
  rw [fpl_at hi] at m
  exact row_mem m
theorem Pre.in' {fd : List Int} (h : Pre ws r t r.ps.length fd) : InT t.ps.length fd := fun x hx => by
  obtain ⟨i, hi, e⟩ := List.mem_iff_getElem.mp hx
  obtain ⟨_, h2, _⟩ := h.at' i (by rw [← h.n]; exact hi)
  rw [← e]; exact h2
theorem found_is {nm : List Str} (ro : RdOK nm r) {l : List Int} (e : ffO ws r t = some l) : (l.length = r.ps.length ∧ InT t.ps.length l ∧ l.Nodup) ∧ isF ws r t l = true := by
  obtain ⟨h, hok⟩ := ffD_pre _ (fpl ws r t) [] [] l rfl Pre.nil e
  rw [fpl_len] at h
  rw [Bool.and_eq_true] at hok
  have hn := h.n
  refine ⟨⟨h.n, h.in', h.d⟩, ?_⟩
  unfold isF
  rw [Bool.and_eq_true, Bool.and_eq_true, Bool.and_eq_true, Bool.and_eq_true]
  refine ⟨?_, ?_, ?_, hok.2, ?_⟩
  · unfold mN
    rw [List.all_eq_true]
    intro p hp
    obtain ⟨k, hk⟩ := List.getElem?_of_mem hp
    obtain ⟨x, j⟩ := p
    obtain ⟨rfl, hj, hx⟩ := zip_at hk
    obtain ⟨_, _, h3, _⟩ := h.at' j (by omega)
    show uS ws (pAt t.ps x).1 (r.ps.getD j []) = true
    rw [← hx, getD_at _ _ (by omega)]
    exact h3
  · unfold bN
    rw [List.all_eq_true]
    intro s hs
    have so := ro.z.2 s hs
    obtain ⟨i, hi⟩ : ∃ i : Nat, s.1 = (i : Int) := ⟨s.1.toNat, by omega⟩
    obtain ⟨hl, _, _, h4⟩ := h.at' i (by omega)
    have fa : fdAt l s.1 = l[i] := by rw [hi]; unfold fdAt; rw [Int.toNat_natCast]; exact getD_at _ _ hl
    rw [fa]
    unfold sW at h4
    rw [List.all_eq_true] at h4
    exact h4 s.2 (by unfold bdsOf; exact List.mem_map_of_mem (List.mem_filter.mpr ⟨hs, decide_eq_true hi⟩))
  · unfold jN
    rw [List.all_eq_true]
    intro j hj
    have jo := ro.j.2 j hj
    have pos : 0 < r.ps.length := by omega
    have := h.j r.ps.length (Nat.le_refl _) pos
    rw [List.take_of_length_le (by omega)] at this
    unfold jL at this
    rw [List.all_eq_true] at this
    have := this j hj
    unfold jL1 at this
    rw [decide_eq_true (show j.2.1 < (l.length : Int) by omega), decide_eq_true (show j.2.2 < (l.length : Int) by omega)] at this
    simpa using this
  · have h1 := hok.1
    unfold sDn at h1
    rw [sDl_sub] at h1
    exact h1
end
end K16
namespace K16
open PySem L2 DL
/-! ### what the law makes -/
def csD (ws : Ks) (r : Rd) (t : Th) : PD := .tuple [kD ws, rdD r, thD t]
def cQ (x : Sl) : Prop := ∃ ws nm r t, x = .d (csD ws r t) ∧ GK ws ∧ ws.map (·.1) = nm ∧ RdOK nm r ∧ ThOK nm 8 t
theorem case_ok (ns : List Int) (k : Int) (hl : ns.length ≤ 63) (k0 : 0 ≤ k) (k1 : k ≤ 2) : ∃ x, d_law_case [scr ns, .int k] = .rt x ∧ cQ x := by
  obtain ⟨ws, ek, gk⟩ := kinds_ok ns hl
  obtain ⟨nm, hnm⟩ : ∃ nm, ws.map (·.1) = nm := ⟨_, rfl⟩
  obtain ⟨a, b, c, ew, wa, wb, wc⟩ := words_ok ns hl
  have ew : d_law_words [scr ns] = .rt (.d (wD a b c)) := ew
  have e50 := x_mul_l 50 k (by decide) (by decide)
  refine hs_run (n := 6) (s := S_law_case) (ds := [scr ns, .int k]) (Q := cQ) ?_
  unfold S_law_case
  simp -implicitDefEqProofs only [startD, List.length_cons, List.length_nil, List.map_cons, List.map_nil, List.cons_append, List.nil_append, Nat.reduceAdd, Nat.reduceSub, List.replicate, List.set_cons_zero, List.set_cons_succ, List.foldl_cons, List.foldl_nil, x_killD_n, x_killD_c, x_slOf_f, x_slOf_o, x_slOf_t, x_slOf_k]
  refine hs_seq (hs_set (x := kD ws) ?_ ?_)
  · simp -implicitDefEqProofs only [s0, s1, s2, s3, s4, s5, s6, s7, s8, s9, x_max2, x_int_b, x_int_i, x_tuple_l, startD, List.length_cons, List.length_nil, List.map_cons, List.map_nil, List.cons_append, List.nil_append, Nat.reduceAdd, Nat.reduceSub, List.replicate, List.set_cons_zero, List.set_cons_succ, x_wipe_cons, x_wipe_nil, x_eOp, x_eC, x_eCB, x_aCons, x_aNil, x_bind_ok, x_add_i, x_len_s, x_len_l, x_len_t, x_bOf, x_eTup, x_eFz, x_oLst, x_eCall, x_aName, x_aTup, x_asCons, x_asNil, x_mod, x_div, x_bAnd, x_bOr, x_bNot, x_asB, x_sub_i, x_neg_i, x_toE_d, x_toE_o, x_notDict, if_true, if_false, reduceIte, Int.reduceLT, Int.reduceAdd, Int.reduceSub, Int.reduceMul, Int.reduceNeg, Int.reducePow, rVar, eVar, hVar, List.getElem?_cons_zero, List.getElem?_cons_succ, ek]
    rfl
  simp -implicitDefEqProofs only [startD, List.length_cons, List.length_nil, List.map_cons, List.map_nil, List.cons_append, List.nil_append, Nat.reduceAdd, Nat.reduceSub, List.replicate, List.set_cons_zero, List.set_cons_succ, List.foldl_cons, List.foldl_nil, x_killD_n, x_killD_c, x_slOf_f, x_slOf_o, x_slOf_t, x_slOf_k]
  refine hs_seq (hs_set (x := wD a b c) (by simp -implicitDefEqProofs only [s0, s1, s2, s3, s4, s5, s6, s7, s8, s9, x_max2, x_int_b, x_int_i, x_tuple_l, startD, List.length_cons, List.length_nil, List.map_cons, List.map_nil, List.cons_append, List.nil_append, Nat.reduceAdd, Nat.reduceSub, List.replicate, List.set_cons_zero, List.set_cons_succ, x_wipe_cons, x_wipe_nil, x_eOp, x_eC, x_eCB, x_aCons, x_aNil, x_bind_ok, x_add_i, x_len_s, x_len_l, x_len_t, x_bOf, x_eTup, x_eFz, x_oLst, x_eCall, x_aName, x_aTup, x_asCons, x_asNil, x_mod, x_div, x_bAnd, x_bOr, x_bNot, x_asB, x_sub_i, x_neg_i, x_toE_d, x_toE_o, x_notDict, if_true, if_false, reduceIte, Int.reduceLT, Int.reduceAdd, Int.reduceSub, Int.reduceMul, Int.reduceNeg, Int.reducePow, rVar, eVar, hVar, List.getElem?_cons_zero, List.getElem?_cons_succ, ew]) ?_)
  simp -implicitDefEqProofs only [startD, List.length_cons, List.length_nil, List.map_cons, List.map_nil, List.cons_append, List.nil_append, Nat.reduceAdd, Nat.reduceSub, List.replicate, List.set_cons_zero, List.set_cons_succ, List.foldl_cons, List.foldl_nil, x_killD_n, x_killD_c, x_slOf_f, x_slOf_o, x_slOf_t, x_slOf_k]
  obtain ⟨x, ex, r, rfl, ro⟩ := reading_ok (ns := ns) (at' := 20 + 50 * k) (sh := false) hl (by omega) (by omega) gk hnm wa wb wc
  refine hs_seq (hs_set (x := rdD r) (by simp -implicitDefEqProofs only [s0, s1, s2, s3, s4, s5, s6, s7, s8, s9, x_max2, x_int_b, x_int_i, x_tuple_l, startD, List.length_cons, List.length_nil, List.map_cons, List.map_nil, List.cons_append, List.nil_append, Nat.reduceAdd, Nat.reduceSub, List.replicate, List.set_cons_zero, List.set_cons_succ, x_wipe_cons, x_wipe_nil, x_eOp, x_eC, x_eCB, x_aCons, x_aNil, x_bind_ok, x_add_i, x_len_s, x_len_l, x_len_t, x_bOf, x_eTup, x_eFz, x_oLst, x_eCall, x_aName, x_aTup, x_asCons, x_asNil, x_mod, x_div, x_bAnd, x_bOr, x_bNot, x_asB, x_sub_i, x_neg_i, x_toE_d, x_toE_o, x_notDict, if_true, if_false, reduceIte, Int.reduceLT, Int.reduceAdd, Int.reduceSub, Int.reduceMul, Int.reduceNeg, Int.reducePow, rVar, eVar, hVar, List.getElem?_cons_zero, List.getElem?_cons_succ, e50, ex]) ?_)
  clear ex
  simp -implicitDefEqProofs only [startD, List.length_cons, List.length_nil, List.map_cons, List.map_nil, List.cons_append, List.nil_append, Nat.reduceAdd, Nat.reduceSub, List.replicate, List.set_cons_zero, List.set_cons_succ, List.foldl_cons, List.foldl_nil, x_killD_n, x_killD_c, x_slOf_f, x_slOf_o, x_slOf_t, x_slOf_k]
  obtain ⟨x, ex, t, rfl, to⟩ := thing_for (ns := ns) (at' := 40 + 50 * k) (a := a) (b := b) (c := c) hl (by omega) (by omega) gk hnm wa wb wc ro
  refine hs_seq (hs_set (x := thD t) (by simp -implicitDefEqProofs only [s0, s1, s2, s3, s4, s5, s6, s7, s8, s9, x_max2, x_int_b, x_int_i, x_tuple_l, startD, List.length_cons, List.length_nil, List.map_cons, List.map_nil, List.cons_append, List.nil_append, Nat.reduceAdd, Nat.reduceSub, List.replicate, List.set_cons_zero, List.set_cons_succ, x_wipe_cons, x_wipe_nil, x_eOp, x_eC, x_eCB, x_aCons, x_aNil, x_bind_ok, x_add_i, x_len_s, x_len_l, x_len_t, x_bOf, x_eTup, x_eFz, x_oLst, x_eCall, x_aName, x_aTup, x_asCons, x_asNil, x_mod, x_div, x_bAnd, x_bOr, x_bNot, x_asB, x_sub_i, x_neg_i, x_toE_d, x_toE_o, x_notDict, if_true, if_false, reduceIte, Int.reduceLT, Int.reduceAdd, Int.reduceSub, Int.reduceMul, Int.reduceNeg, Int.reducePow, rVar, eVar, hVar, List.getElem?_cons_zero, List.getElem?_cons_succ, e50, ex]) ?_)
  simp -implicitDefEqProofs only [startD, List.length_cons, List.length_nil, List.map_cons, List.map_nil, List.cons_append, List.nil_append, Nat.reduceAdd, Nat.reduceSub, List.replicate, List.set_cons_zero, List.set_cons_succ, List.foldl_cons, List.foldl_nil, x_killD_n, x_killD_c, x_slOf_f, x_slOf_o, x_slOf_t, x_slOf_k]
  refine hs_cut (P := fun ρ => ∃ t : Th, ρ = [some (.d (scr ns)), some (.d (.int k)), some (.d (kD ws)), some (.d (wD a b c)), some (.d (rdD r)), some (.d (thD t))] ∧ ThOK nm 8 t) ?_ ?_
  · refine hs_ifX (xEqI (i := k) (j := 2) rfl rfl) ?_ (hs_next ⟨t, rfl, ⟨Nat.le_trans to.p.1 (by decide), to.p.2⟩, to.j, to.s⟩)
    obtain ⟨x, ex, t2, rfl, to2⟩ := spoilt_ok (ns := ns) (at' := 60 + 50 * k) (a := a) (b := b) (c := c) hl (by omega) (by omega) gk hnm wa to
    exact hs_set (x := thD t2) (by simp -implicitDefEqProofs only [s0, s1, s2, s3, s4, s5, s6, s7, s8, s9, x_max2, x_int_b, x_int_i, x_tuple_l, startD, List.length_cons, List.length_nil, List.map_cons, List.map_nil, List.cons_append, List.nil_append, Nat.reduceAdd, Nat.reduceSub, List.replicate, List.set_cons_zero, List.set_cons_succ, x_wipe_cons, x_wipe_nil, x_eOp, x_eC, x_eCB, x_aCons, x_aNil, x_bind_ok, x_add_i, x_len_s, x_len_l, x_len_t, x_bOf, x_eTup, x_eFz, x_oLst, x_eCall, x_aName, x_aTup, x_asCons, x_asNil, x_mod, x_div, x_bAnd, x_bOr, x_bNot, x_asB, x_sub_i, x_neg_i, x_toE_d, x_toE_o, x_notDict, if_true, if_false, reduceIte, Int.reduceLT, Int.reduceAdd, Int.reduceSub, Int.reduceMul, Int.reduceNeg, Int.reducePow, rVar, eVar, hVar, List.getElem?_cons_zero, List.getElem?_cons_succ, e50, ex]) ⟨t2, rfl, to2⟩
  rintro _ ⟨t, rfl, to⟩
  exact hs_ret (tup3 rfl rfl rfl) ⟨ws, nm, r, t, rfl, gk, hnm, ro, to⟩
theorem sh_cs {ws : Ks} {nm : List Str} {r : Rd} {t : Th} (gk : GK ws) (hnm : ws.map (·.1) = nm) (ro : RdOK nm r) (to : ThOK nm 8 t) : Sh 6 (csD ws r t) := sh_t
  (sh_c ((sh_kD gk).up (by decide)) (sh_c ((sh_rd (gk.ok hnm) ro).up (by decide)) (sh_c (sh_th (gk.ok hnm) to) sh_0)))
theorem eq_cs {ws : Ks} {nm : List Str} {r : Rd} {t : Th} (gk : GK ws) (hnm : ws.map (·.1) = nm) (ro : RdOK nm r) (to : ThOK nm 8 t) : eqB (csD ws r t) (csD ws r t) = .ok true := by
  have s := sh_cs gk hnm ro to
  have e := eqB_tt (n := 6) s s (by decide)
  have c := s.c
  unfold csD at c
  simp only [PyData.canLay0] at c
  rw [eqvAll_refl _ c] at e
  exact e
theorem law_right {ws : Ks} {nm : List Str} (gk : GK ws) (hnm : ws.map (·.1) = nm) {r : Rd} {t : Th} (ro : RdOK nm r) (to : ThOK nm 8 t) : d_law_right [kD ws, rdD r, thD t, ffP (ffO ws r t)] = .rt (.d (.bool true)) := by
  refine run_eq (n := 5) (s := S_law_right) (ds := [kD ws, rdD r, thD t, ffP (ffO ws r t)]) ?_
  unfold S_law_right
  simp -implicitDefEqProofs only [startD, List.length_cons, List.length_nil, List.map_cons, List.map_nil, List.cons_append, List.nil_append, Nat.reduceAdd, Nat.reduceSub, List.replicate, List.set_cons_zero, List.set_cons_succ, List.foldl_cons, List.foldl_nil, x_killD_n, x_killD_c, x_slOf_f, x_slOf_o, x_slOf_t, x_slOf_k]
  cases ho : ffO ws r t with
  | none => exact hs_seq (hs_if (c := true) (bof rfl) (fun _ => hs_ret rfl rfl) (fun q => by cases q))
  | some fd =>
    obtain ⟨⟨hf, hi, hd⟩, hF⟩ := found_is ro ho
    have pl := ro.p.p1
    have lf : lenD [.list (fd.map PyData.int)] = .ok (.int fd.length) := by rw [x_len_l, List.length_map]
    refine hs_seq (hs_if (c := false) (bof rfl) (fun q => by cases q) (fun _ => hs_next ?_))
    refine hs_seq (hs_if (c := false || !decide ((fd.length : Int) = r.ps.length)) (xOrC _ _ (xNotB true (bof ?_)) fun _ => bof ?_) (fun h => ?_) (fun h => hs_next ?_))
    · rfl
    · rw [op_ok (a := .int fd.length) (b := .int r.ps.length) (by rw [cb1 (a := .list (fd.map PyData.int)) rfl, lf]) ?_, x_ne, x_eqB_i, x_bind_ok]
      rw [cb1 (a := .list (r.ps.map tS)) (by simp -implicitDefEqProofs only [s0, s1, s2, s3, s4, s5, s6, s7, s8, s9, x_max2, x_int_b, x_int_i, x_tuple_l, startD, List.length_cons, List.length_nil, List.map_cons, List.map_nil, List.cons_append, List.nil_append, Nat.reduceAdd, Nat.reduceSub, List.replicate, List.set_cons_zero, List.set_cons_succ, x_wipe_cons, x_wipe_nil, x_eOp, x_eC, x_eCB, x_aCons, x_aNil, x_bind_ok, x_add_i, x_len_s, x_len_l, x_len_t, x_bOf, x_eTup, x_eFz, x_oLst, x_eCall, x_aName, x_aTup, x_asCons, x_asNil, x_mod, x_div, x_bAnd, x_bOr, x_bNot, x_asB, x_sub_i, x_neg_i, x_toE_d, x_toE_o, x_notDict, if_true, if_false, reduceIte, Int.reduceLT, Int.reduceAdd, Int.reduceSub, Int.reduceMul, Int.reduceNeg, Int.reducePow, rVar, eVar, hVar, List.getElem?_cons_zero, List.getElem?_cons_succ, rd0]), x_len_l, List.length_map]
    · rw [decide_eq_true (by omega)] at h
      cases h
    have e1 : eCB allD (aCons (eFz (oLc (iItems (eVar 3)) (aName 4) gYes (eAnd (eCall 1 d_law_whole (aCons (eVar 4) aNil)) (eChain leD ltD (eC (.int 0)) (rVar 4) (eCB lenD (aCons (eOp ixD (rVar 2) (eC (.int 0))) aNil)))) [4])) aNil) [some (.d (kD ws)), some (.d (rdD r)), some (.d (thD t)), some (.d (ffP (some fd))), none] = .ok (.bool true) := by
      rw [cb1 (a := .list ((fd.map fun _ => true).map PyData.bool)) (fz_l ?_), x_all]
      · rw [List.all_map]
        congr 2
        rw [List.all_eq_true]
        exact fun _ _ => rfl
      · rw [List.map_map]
        refine lc_eq (xs := fd) PyData.int _ (it_l rfl) (sz (by omega)) fun x hx => ⟨_, rfl, ?_⟩
        have xi := hi x hx
        have e2 : eCall 1 d_law_whole (aCons (eVar 4) aNil) [some (.d (kD ws)), some (.d (rdD r)), some (.d (thD t)), some (.d (ffP (some fd))), some (.d (.int x))] = .ok (.bool true) := call1 (a := .int x) rfl rfl
        have e2' : eCall 1 d_law_whole (aCons (eVar 4) aNil) ([some (.d (kD ws)), some (.d (rdD r)), some (.d (thD t)), some (.d (ffP (some fd))), none].set 4 (some (.d (.int x)))) = .ok (.bool true) := e2
        have e3 : eCB lenD (aCons (eOp ixD (rVar 2) (eC (.int 0))) aNil) [some (.d (kD ws)), some (.d (rdD r)), some (.d (thD t)), some (.d (ffP (some fd))), some (.d (.int x))] = .ok (.int t.ps.length) := by
          rw [cb1 (a := .list (t.ps.map ptI)) (by simp -implicitDefEqProofs only [s0, s1, s2, s3, s4, s5, s6, s7, s8, s9, x_max2, x_int_b, x_int_i, x_tuple_l, startD, List.length_cons, List.length_nil, List.map_cons, List.map_nil, List.cons_append, List.nil_append, Nat.reduceAdd, Nat.reduceSub, List.replicate, List.set_cons_zero, List.set_cons_succ, x_wipe_cons, x_wipe_nil, x_eOp, x_eC, x_eCB, x_aCons, x_aNil, x_bind_ok, x_add_i, x_len_s, x_len_l, x_len_t, x_bOf, x_eTup, x_eFz, x_oLst, x_eCall, x_aName, x_aTup, x_asCons, x_asNil, x_mod, x_div, x_bAnd, x_bOr, x_bNot, x_asB, x_sub_i, x_neg_i, x_toE_d, x_toE_o, x_notDict, if_true, if_false, reduceIte, Int.reduceLT, Int.reduceAdd, Int.reduceSub, Int.reduceMul, Int.reduceNeg, Int.reducePow, rVar, eVar, hVar, List.getElem?_cons_zero, List.getElem?_cons_succ, th0]), x_len_l, List.length_map]
        show eAnd _ _ [some (.d (kD ws)), some (.d (rdD r)), some (.d (thD t)), some (.d (ffP (some fd))), some (.d (.int x))] = _
        rw [x_eAnd, e2, x_bind_ok]
        show R.bind (R.ok true) _ = _
        rw [x_bind_ok, if_pos rfl, x_eChain, x_eC, x_bind_ok]
        show R.bind (R.ok (PyData.int x)) _ = _
        rw [x_bind_ok, show leD (.int 0) (.int x) = R.ok (.bool (decide ((0 : Int) ≤ x))) from rfl, x_bind_ok, decide_eq_true xi.1]
        show R.bind (R.ok true) _ = _
        rw [x_bind_ok, if_pos rfl, e3, x_bind_ok, show ltD (.int x) (.int t.ps.length) = R.ok (.bool (decide (x < t.ps.length))) from rfl, decide_eq_true xi.2]
        rfl
    refine hs_seq (hs_if (c := !true) (xNotB _ (bof e1)) (fun q => by cases q) (fun _ => hs_next ?_))
    have e5 := law_is_finding gk hnm ro to (by decide) hf hi hd
    rw [hF] at e5
    refine hs_ret (x := .bool true) ?_ rfl
    rw [x_eCall]
    show R.bind (R.ok [kD ws, rdD r, thD t, .list (fd.map PyData.int)]) _ = _
    rw [x_bind_ok]
    show (if 4 = 4 then (d_law_is_finding [kD ws, rdD r, thD t, .list (fd.map PyData.int)]).toE else R.bad) = _
    rw [if_pos rfl, e5]
    rfl
theorem sh_ff (o : Option (List Int)) : Sh 1 (ffP o) := by
  cases o with
  | none => exact sh_n
  | some l => exact sh_l (sh_m fun _ _ => sh_i)
theorem law_ok : ∀ ns : List Int, ns.length ≤ 63 → d_law [.list (ns.map PyData.int)] = .rt (.d (.bool true)) := by
  intro ns hl
  refine run_eq (n := 8) (s := S_law) (ds := [scr ns]) ?_
  unfold S_law
  simp -implicitDefEqProofs only [startD, List.length_cons, List.length_nil, List.map_cons, List.map_nil, List.cons_append, List.nil_append, Nat.reduceAdd, Nat.reduceSub, List.replicate, List.set_cons_zero, List.set_cons_succ, List.foldl_cons, List.foldl_nil, x_killD_n, x_killD_c, x_slOf_f, x_slOf_o, x_slOf_t, x_slOf_k]
  refine hs_cut (P := fun _ => True) (hs_pre ?_) fun ρ _ => hs_ret rfl rfl
  simp -implicitDefEqProofs only [startD, List.length_cons, List.length_nil, List.map_cons, List.map_nil, List.cons_append, List.nil_append, Nat.reduceAdd, Nat.reduceSub, List.replicate, List.set_cons_zero, List.set_cons_succ, List.foldl_cons, List.foldl_nil, x_killD_n, x_killD_c, x_slOf_f, x_slOf_o, x_slOf_t, x_slOf_k]
  refine hs_rng 3 (rng_c rfl (by decide)) (fun i ρ => ρ = [some (.d (scr ns)), none, none, none, none, none, none, none]) rfl (fun k ρ hk hI => ?_) fun ρ hI => trivial
  subst hI
  obtain ⟨x, ec, ws, nm, r, t, rfl, gk, hnm, ro, to⟩ := case_ok ns k hl (by omega) (by omega)
  refine ⟨_, rfl, ?_⟩
  simp -implicitDefEqProofs only [startD, List.length_cons, List.length_nil, List.map_cons, List.map_nil, List.cons_append, List.nil_append, Nat.reduceAdd, Nat.reduceSub, List.replicate, List.set_cons_zero, List.set_cons_succ, List.foldl_cons, List.foldl_nil, x_killD_n, x_killD_c, x_slOf_f, x_slOf_o, x_slOf_t, x_slOf_k]
  have ecall : ∀ ρ : Rho, ρ[0]? = some (some (.d (scr ns))) → ρ[1]? = some (some (.d (.int (k : Nat)))) → eCall 2 d_law_case (aCons (eVar 0) (aCons (eVar 1) aNil)) ρ = .ok (csD ws r t) := fun ρ h h2 => call2 (a := scr ns) (b := .int (k : Nat)) (by unfold eVar; rw [h]) (by unfold eVar; rw [h2]) ec
  have efi := finding_in gk hnm ro to (by decide)
  refine hs_seq (hs_asg (ecall _ rfl rfl) rfl ?_)
  simp -implicitDefEqProofs only [startD, List.length_cons, List.length_nil, List.map_cons, List.map_nil, List.cons_append, List.nil_append, Nat.reduceAdd, Nat.reduceSub, List.replicate, List.set_cons_zero, List.set_cons_succ, List.foldl_cons, List.foldl_nil, x_killD_n, x_killD_c, x_slOf_f, x_slOf_o, x_slOf_t, x_slOf_k]
  refine hs_seq (hs_set (ecall _ rfl rfl) ?_)
  simp -implicitDefEqProofs only [startD, List.length_cons, List.length_nil, List.map_cons, List.map_nil, List.cons_append, List.nil_append, Nat.reduceAdd, Nat.reduceSub, List.replicate, List.set_cons_zero, List.set_cons_succ, List.foldl_cons, List.foldl_nil, x_killD_n, x_killD_c, x_slOf_f, x_slOf_o, x_slOf_t, x_slOf_k]
  have c0 : ixD (csD ws r t) (.int 0) = .ok (kD ws) := x_ix_t _ _ _ (by decide) rfl
  have c1 : ixD (csD ws r t) (.int 1) = .ok (rdD r) := x_ix_t _ _ _ (by decide) rfl
  have c2 : ixD (csD ws r t) (.int 2) = .ok (thD t) := x_ix_t _ _ _ (by decide) rfl
  have eargs : ∀ ρ : Rho, ρ[5]? = some (some (.d (csD ws r t))) → aCons (eOp ixD (rVar 5) (eC (.int 0))) (aCons (eOp ixD (rVar 5) (eC (.int 1))) (aCons (eOp ixD (rVar 5) (eC (.int 2))) aNil)) ρ = .ok [kD ws, rdD r, thD t] := fun ρ h => by
    have ev : rVar 5 ρ = .ok (csD ws r t) := by unfold rVar; rw [h]
    simp only [x_aCons, x_aNil, x_eOp, x_eC, ev, x_bind_ok, c0, c1, c2]
  have er := law_right gk hnm ro to
  generalize ho : ffO ws r t = o at efi er
  refine hs_seq (hs_setM (x := ffT o) ?_ ?_)
  · rw [x_mCall, eargs _ rfl, x_bind_ok]
    show (if 3 = 3 then (d_finding_in [kD ws, rdD r, thD t]).toM else R.bad) = _
    rw [if_pos rfl, efi]
    rfl
  rw [ffT_sl]
  simp -implicitDefEqProofs only [startD, List.length_cons, List.length_nil, List.map_cons, List.map_nil, List.cons_append, List.nil_append, Nat.reduceAdd, Nat.reduceSub, List.replicate, List.set_cons_zero, List.set_cons_succ, List.foldl_cons, List.foldl_nil, x_killD_n, x_killD_c, x_slOf_f, x_slOf_o, x_slOf_t, x_slOf_k]
  have ev : hVar 6 [some (.d (scr ns)), some (.d (.int (k : Nat))), some (.d (kD ws)), some (.d (rdD r)), some (.d (thD t)), some (.d (csD ws r t)), some (ffS o), none] = .ok (ffP o) := ffS_P rfl
  have eh : ∀ ρ : Rho, ρ[2]? = some (some (.d (kD ws))) → ρ[3]? = some (some (.d (rdD r))) → ρ[4]? = some (some (.d (thD t))) → eTup (aCons (eVar 2) (aCons (eVar 3) (aCons (eVar 4) aNil))) ρ = .ok (csD ws r t) := fun ρ h1 h2 h3 => tup3 (by unfold eVar; rw [h1]) (by unfold eVar; rw [h2]) (by unfold eVar; rw [h3])
  have ne_cs : neD (csD ws r t) (csD ws r t) = .ok (.bool false) := by
    unfold neD
    rw [eq_cs gk hnm ro to]
    rfl
  refine hs_seq (hs_if (c := false || !true) (xOrC _ _ (bof ?_) fun _ => xNotB _ (bof (callH4 rfl rfl rfl ev er))) (fun q => by cases q) (fun _ => hs_next ?_))
  · rw [op_ok (a := csD ws r t) (b := csD ws r t) rfl (eh _ rfl rfl rfl)]
    exact ne_cs
  cases o with
  | none => exact hs_if (c := false) (bof (by rw [op_ok ev (b := .none) rfl]; rfl)) (fun q => by cases q) (fun _ => hs_next rfl)
  | some l =>
    obtain ⟨⟨hf, hi, hd⟩, hF⟩ := found_is ro ho
    have pl := ro.p.p1
    refine hs_if (c := true) (bof (by rw [op_ok ev (b := .none) rfl]; rfl)) (fun _ => ?_) (fun q => by cases q)
    refine hs_seq (hs_set (x := .list (l.map PyData.int)) (fz_l ?_) ?_)
    · rw [cb1 (a := .list (l.map PyData.int)) rfl]
      rfl
    simp -implicitDefEqProofs only [startD, List.length_cons, List.length_nil, List.map_cons, List.map_nil, List.cons_append, List.nil_append, Nat.reduceAdd, Nat.reduceSub, List.replicate, List.set_cons_zero, List.set_cons_succ, List.foldl_cons, List.foldl_nil, x_killD_n, x_killD_c, x_slOf_f, x_slOf_o, x_slOf_t, x_slOf_k]
    refine hs_seq (hs_app (ds := l.map PyData.int) (x := .int 0) rfl rfl (by rw [List.length_map]; exact szl (by omega)) ?_)
    simp -implicitDefEqProofs only [startD, List.length_cons, List.length_nil, List.map_cons, List.map_nil, List.cons_append, List.nil_append, Nat.reduceAdd, Nat.reduceSub, List.replicate, List.set_cons_zero, List.set_cons_succ, List.foldl_cons, List.foldl_nil, x_killD_n, x_killD_c, x_slOf_f, x_slOf_o, x_slOf_t, x_slOf_k]
    refine hs_if (c := false || false) (xOrC _ _ (bof ?_) fun _ => bof ?_) (fun q => by cases q) (fun _ => hs_next rfl)
    · rw [op_ok (a := .list (l.map PyData.int)) (b := .list (l.map PyData.int)) ?_ rfl]
      · unfold neD
        rw [eqB_ll (n := 1) (sh_ff (some l)) (sh_ff (some l)) (by decide), eqv_ints, decide_eq_true rfl]
        rfl
      · rw [x_eCall, eargs _ rfl, x_bind_ok]
        show (if 3 = 3 then (d_finding_in [kD ws, rdD r, thD t]).toE else R.bad) = _
        rw [if_pos rfl, efi]
        exact x_toD_l _
    · rw [op_ok (a := csD ws r t) (b := csD ws r t) rfl (eh _ rfl rfl rfl)]
      exact ne_cs
end K16
namespace K16
open PySem PySem.Spec PyProof.Rows L2 DL
def top (i : Nat) : Stmt := PySem.Challenge.pw_claimwise_k16_a_finding_is_one.main.body.getD i (.Pass ⟨0, 0, 0, 0⟩)
abbrev s_is_under : Stmt := top 1
abbrev s_under_some : Stmt := top 3
abbrev s_sizes_within : Stmt := top 4
abbrev s_fitting_places : Stmt := top 5
abbrev s_joins_lead : Stmt := top 6
abbrev s_steps_done : Stmt := top 7
abbrev s_closed_kept : Stmt := top 8
abbrev s_first_finding : Stmt := top 9
abbrev s_finding_in : Stmt := top 10
abbrev s_law_mix : Stmt := top 12
abbrev s_law_names : Stmt := top 13
abbrev s_law_kinds : Stmt := top 14
abbrev s_law_words : Stmt := top 15
abbrev s_law_uppers : Stmt := top 16
abbrev s_law_lowers : Stmt := top 17
abbrev s_law_groups : Stmt := top 18
abbrev s_law_bounds : Stmt := top 19
abbrev s_law_reading : Stmt := top 20
abbrev s_law_part_for : Stmt := top 21
abbrev s_law_thing_for : Stmt := top 22
abbrev s_law_spoilt : Stmt := top 23
abbrev s_law_meets : Stmt := top 24
abbrev s_law_bounded : Stmt := top 25
abbrev s_law_stepped : Stmt := top 26
abbrev s_law_is_finding : Stmt := top 27
abbrev s_law_whole : Stmt := top 28
abbrev s_law_right : Stmt := top 29
abbrev s_law_case : Stmt := top 30
abbrev s_law : Stmt := top 31
abbrev FnP (K : PySem.W.Frag) (x : Str) (st : Stmt) : Prop := ∃ fd : FuncData, FunD K x x (defArgs st) (defBody st) (defScope st) [] [] (He.ga K x) fd
structure Ctx (K : PySem.W.Frag) (mg : Str → Option Value) : Prop where
  F_is_under : FnP K "is_under" s_is_under
  g_is_under : mg "is_under" = some (.ref (He.ga K "is_under"))
  F_under_some : FnP K "under_some" s_under_some
  g_under_some : mg "under_some" = some (.ref (He.ga K "under_some"))
  F_sizes_within : FnP K "sizes_within" s_sizes_within
  g_sizes_within : mg "sizes_within" = some (.ref (He.ga K "sizes_within"))
  F_fitting_places : FnP K "fitting_places" s_fitting_places
  g_fitting_places : mg "fitting_places" = some (.ref (He.ga K "fitting_places"))
  F_joins_lead : FnP K "joins_lead" s_joins_lead
  g_joins_lead : mg "joins_lead" = some (.ref (He.ga K "joins_lead"))
  F_steps_done : FnP K "steps_done" s_steps_done
  g_steps_done : mg "steps_done" = some (.ref (He.ga K "steps_done"))
  F_closed_kept : FnP K "closed_kept" s_closed_kept
  g_closed_kept : mg "closed_kept" = some (.ref (He.ga K "closed_kept"))
  F_first_finding : FnP K "first_finding" s_first_finding
  g_first_finding : mg "first_finding" = some (.ref (He.ga K "first_finding"))
  F_finding_in : FnP K "finding_in" s_finding_in
  g_finding_in : mg "finding_in" = some (.ref (He.ga K "finding_in"))
  F_law_mix : FnP K "_law_mix" s_law_mix
  g_law_mix : mg "_law_mix" = some (.ref (He.ga K "_law_mix"))
  F_law_names : FnP K "_law_names" s_law_names
  g_law_names : mg "_law_names" = some (.ref (He.ga K "_law_names"))
  F_law_kinds : FnP K "_law_kinds" s_law_kinds
  g_law_kinds : mg "_law_kinds" = some (.ref (He.ga K "_law_kinds"))
  F_law_words : FnP K "_law_words" s_law_words
  g_law_words : mg "_law_words" = some (.ref (He.ga K "_law_words"))
  F_law_uppers : FnP K "_law_uppers" s_law_uppers
  g_law_uppers : mg "_law_uppers" = some (.ref (He.ga K "_law_uppers"))
  F_law_lowers : FnP K "_law_lowers" s_law_lowers
  g_law_lowers : mg "_law_lowers" = some (.ref (He.ga K "_law_lowers"))
  F_law_groups : FnP K "_law_groups" s_law_groups
  g_law_groups : mg "_law_groups" = some (.ref (He.ga K "_law_groups"))
  F_law_bounds : FnP K "_law_bounds" s_law_bounds
  g_law_bounds : mg "_law_bounds" = some (.ref (He.ga K "_law_bounds"))
  F_law_reading : FnP K "_law_reading" s_law_reading
  g_law_reading : mg "_law_reading" = some (.ref (He.ga K "_law_reading"))
  F_law_part_for : FnP K "_law_part_for" s_law_part_for
  g_law_part_for : mg "_law_part_for" = some (.ref (He.ga K "_law_part_for"))
  F_law_thing_for : FnP K "_law_thing_for" s_law_thing_for
  g_law_thing_for : mg "_law_thing_for" = some (.ref (He.ga K "_law_thing_for"))
  F_law_spoilt : FnP K "_law_spoilt" s_law_spoilt
  g_law_spoilt : mg "_law_spoilt" = some (.ref (He.ga K "_law_spoilt"))
  F_law_meets : FnP K "_law_meets" s_law_meets
  g_law_meets : mg "_law_meets" = some (.ref (He.ga K "_law_meets"))
  F_law_bounded : FnP K "_law_bounded" s_law_bounded
  g_law_bounded : mg "_law_bounded" = some (.ref (He.ga K "_law_bounded"))
  F_law_stepped : FnP K "_law_stepped" s_law_stepped
  g_law_stepped : mg "_law_stepped" = some (.ref (He.ga K "_law_stepped"))
  F_law_is_finding : FnP K "_law_is_finding" s_law_is_finding
  g_law_is_finding : mg "_law_is_finding" = some (.ref (He.ga K "_law_is_finding"))
  F_law_whole : FnP K "_law_whole" s_law_whole
  g_law_whole : mg "_law_whole" = some (.ref (He.ga K "_law_whole"))
  F_law_right : FnP K "_law_right" s_law_right
  g_law_right : mg "_law_right" = some (.ref (He.ga K "_law_right"))
  F_law_case : FnP K "_law_case" s_law_case
  g_law_case : mg "_law_case" = some (.ref (He.ga K "_law_case"))
  F_law : FnP K "law" s_law
  g_law : mg "law" = some (.ref (He.ga K "law"))
  b_all : mg "all" = none
  b_any : mg "any" = none
  b_bool : mg "bool" = none
  b_dict : mg "dict" = none
  b_enumerate : mg "enumerate" = none
  b_int : mg "int" = none
  b_isinstance : mg "isinstance" = none
  b_len : mg "len" = none
  b_list : mg "list" = none
  b_max : mg "max" = none
  b_range : mg "range" = none
  b_reversed : mg "reversed" = none
  b_set : mg "set" = none
  b_sorted : mg "sorted" = none
  b_tuple : mg "tuple" = none
theorem sc_is_under : FnScope ["kinds", "one", "other", "uppers"] ["kinds", "one", "other"] (defScope s_is_under) := ⟨rfl, rfl, rfl, by decide +kernel, rfl, by decide +kernel, by decide +kernel⟩
theorem ok_is_under {P : Program} {w : World} {K : PySem.W.Frag} {mg : Str → Option Value} {base : Heap} (C : Ctx K mg) : Kept P w K mg base 1 3 "is_under" ["kinds", "one", "other"] d_is_under := by
  have nd := sc_is_under.nd
  exact kept_of C.F_is_under C.g_is_under sc_is_under rfl rfl (fun _ _ _ _ _ _ us hl => match us, hl with | [_, _, _], _ => rfl) (s := S_is_under) fun cdv A outer sh H E hr tk => ⟨_,
    (pss_cons (ps_set (i := 3) nd rfl (Or.inl rfl) (pe_callTy (call_dictP rfl) (by rfl) C.b_dict bb_dict (pa_cons (pv 0) pa_nil))) (pss_cons (ps_while (passes_of rfl) (PW.pt (pw_and (pt_cmpR (op_ne2 hr.units) (pv 1) (pv 2) (nomark _)) (pw_and1 (pt_cmpR (op_ne2 hr.units) (pv 1) pe_str (nomark _))))) (pss_one (ps_set (i := 1) nd rfl (Or.inl rfl) (pe_dget (hu_of hr) (pv 3) (pv 1) (fun _ _ => rfl))))) (pss_one (ps_ret (pe_cmpR (op_eq2 hr.units) (pv 1) (pv 2) (nomark _)))))),
    (ds_seq (ds_setO 3 (to_cb rco_dict (tq_cons (tr_var 0) tq_nil))) (ds_seq (ds_preK [] (ds_while 20000000 (tt_and (tt_test ((td_op rd_ne (tr_var 1) (tr_var 2))).r) (tt_test ((td_op rd_ne (tr_var 1) (td_str).r)).r)) (ds_kill [] (ds_set 1 (td_dget 3 (tr_var 1)))))) (ds_ret (td_op rd_eq (tr_var 1) (tr_var 2)))))⟩
theorem sc_under_some : FnScope ["kinds", "kind", "allowed", "one"] ["kinds", "kind", "allowed"] (defScope s_under_some) := ⟨rfl, rfl, rfl, by decide +kernel, rfl, by decide +kernel, by decide +kernel⟩
theorem ok_under_some {P : Program} {w : World} {K : PySem.W.Frag} {mg : Str → Option Value} {base : Heap} (C : Ctx K mg) : Kept P w K mg base 2 3 "under_some" ["kinds", "kind", "allowed"] d_under_some := by
  obtain ⟨fd_is_under, kp_is_under, hg_is_under, hb_is_under, G_is_under⟩ := ok_is_under (P := P) (w := w) (base := base) C
  have nd := sc_under_some.nd
  exact kept_of C.F_under_some C.g_under_some sc_under_some rfl rfl (fun _ _ _ _ _ _ us hl => match us, hl with | [_, _, _], _ => rfl) (s := S_under_some) fun cdv A outer sh H E hr tk => ⟨_,
    (pss_one (ps_ret (pe_callB (cr_any rfl) (by rfl) C.b_any bb_any (pa_cons (pe_lc (own := [("one", 3)]) rfl nd (pi_seq (pv 2)) (blkOk_by (by kernel_rfl)) (fun _ _ _ _ _ => (pg_name (i := 3) nd rfl (Or.inl rfl))) (fun _ _ _ _ _ => pts_nil) (fun _ _ _ _ _ => (pe_callS G_is_under (hr.mono (by decide)) (by rfl) hg_is_under kp_is_under hb_is_under (fun σ => passAt takes0 σ) (pa_cons (pv 0) (pa_cons (pv 1) (pa_cons (pv 3) pa_nil)))))) pa_nil)))),
    (ds_ret (td_cb rc_any (tq_cons (((to_lc (vs := [3]) (di_seq (td_var 2)) (dg_name 3) tt_yes (td_call (ta_cons (td_var 0) (ta_cons (td_var 1) (ta_cons (td_var 3) ta_nil)))))).e).r tq_nil)))⟩
theorem sc_sizes_within : FnScope ["sizes", "bounds", "told", "word", "low", "high"] ["sizes", "bounds"] (defScope s_sizes_within) := ⟨rfl, rfl, rfl, by decide +kernel, rfl, by decide +kernel, by decide +kernel⟩
theorem ok_sizes_within {P : Program} {w : World} {K : PySem.W.Frag} {mg : Str → Option Value} {base : Heap} (C : Ctx K mg) : Kept P w K mg base 1 2 "sizes_within" ["sizes", "bounds"] d_sizes_within := by
  have nd := sc_sizes_within.nd
  exact kept_of C.F_sizes_within C.g_sizes_within sc_sizes_within rfl rfl (fun _ _ _ _ _ _ us hl => match us, hl with | [_, _], _ => rfl) (s := S_sizes_within) fun cdv A outer sh H E hr tk => ⟨_,
    (pss_cons (ps_set (i := 2) nd rfl (Or.inl rfl) (pe_callTy (call_dictP rfl) (by rfl) C.b_dict bb_dict (pa_cons (pv 0) pa_nil))) (pss_cons (ps_for (passes_of rfl) rfl (pi_seq (pv 1)) (pg_tup rfl (pgs_cons (pg_name (i := 3) nd rfl (Or.inl rfl)) (pgs_cons (pg_name (i := 4) nd rfl (Or.inl rfl)) (pgs_cons (pg_name (i := 5) nd rfl (Or.inl rfl)) pgs_nil)))) (pss_cons (ps_if (pt_cmp (pc_dnotin (hu_of hr) (pv 3) (pv 2))) (pss_one (ps_ret pe_bl)) pss_nil) (pss_one (ps_if (PW.pt (pw_or (PW.pt (pw_and (pt_cmpR op_notN (pv 4) pe_non (nomark _)) (pw_and1 (pt_cmpR op_lt (pe_dget (hu_of hr) (pv 2) (pv 3) (fun _ _ => rfl)) (pv 4) (nomark _))))) (pw_or1 (PW.pt (pw_and (pt_cmpR op_notN (pv 5) pe_non (nomark _)) (pw_and1 (pt_cmpR op_gt (pe_dget (hu_of hr) (pv 2) (pv 3) (fun _ _ => rfl)) (pv 5) (nomark _)))))))) (pss_one (ps_ret pe_bl)) pss_nil)))) (pss_one (ps_ret pe_bl)))),
    (ds_seq (ds_setO 2 (to_cb rco_dict (tq_cons (tr_var 0) tq_nil))) (ds_seq (ds_preK [3, 4, 5] (ds_for (vs := [3, 4, 5]) (di_seq (td_var 1)) (dg_tup (dgs_cons (dg_name 3) (dgs_cons (dg_name 4) (dgs_cons (dg_name 5) dgs_nil)))) (ds_kill [3, 4, 5] (ds_seq (ds_if (tt_B ((td_dnotin 2 (tr_var 3))).r) (ds_ret td_bl) ds_next) (ds_if (tt_or (tt_and (tt_test ((td_op rd_notN (tr_var 4) (td_non).r)).r) (tt_test ((td_op rd_cmp ((td_dget 2 (tr_var 3))).r (tr_var 4))).r)) (tt_and (tt_test ((td_op rd_notN (tr_var 5) (td_non).r)).r) (tt_test ((td_op rd_cmp ((td_dget 2 (tr_var 3))).r (tr_var 5))).r))) (ds_ret td_bl) ds_next))))) (ds_ret td_bl)))⟩
theorem sc_fitting_places : FnScope ["kinds", "reading", "thing", "rows", "number", "allowed", "bounds", "row", "place", "part", "at", "word", "low", "high"] ["kinds", "reading", "thing"] (defScope s_fitting_places) := ⟨rfl, rfl, rfl, by decide +kernel, rfl, by decide +kernel, by decide +kernel⟩
theorem ok_fitting_places {P : Program} {w : World} {K : PySem.W.Frag} {mg : Str → Option Value} {base : Heap} (C : Ctx K mg) : Kept P w K mg base 3 3 "fitting_places" ["kinds", "reading", "thing"] d_fitting_places := by
  obtain ⟨fd_sizes_within, kp_sizes_within, hg_sizes_within, hb_sizes_within, G_sizes_within⟩ := ok_sizes_within (P := P) (w := w) (base := base) C
  obtain ⟨fd_under_some, kp_under_some, hg_under_some, hb_under_some, G_under_some⟩ := ok_under_some (P := P) (w := w) (base := base) C
  have nd := sc_fitting_places.nd
  exact kept_of C.F_fitting_places C.g_fitting_places sc_fitting_places rfl rfl (fun _ _ _ _ _ _ us hl => match us, hl with | [_, _, _], _ => rfl) (s := S_fitting_places) fun cdv A outer sh H E hr tk => ⟨_,
    (pss_cons (ps_set (i := 3) nd rfl (Or.inl rfl) (pe_lst pa_nil)) (pss_cons (ps_for (passes_of rfl) rfl (pi_enum (by rfl) C.b_enumerate (pa_cons (pe_ix ix_seq (pv 1) pe_int (fun _ _ => rfl)) pa_nil)) (pg_tup rfl (pgs_cons (pg_name (i := 4) nd rfl (Or.inr rfl)) (pgs_cons (pg_name (i := 5) nd rfl (Or.inl rfl)) pgs_nil))) (pss_cons (ps_setLc (i := 6) (own := [("at", 10), ("word", 11), ("low", 12), ("high", 13)]) rfl nd rfl rfl (sw_true rfl rfl rfl (by decide +kernel)) (pi_seq (pe_ix ix_seq (pv 1) pe_int (fun _ _ => rfl))) (blkOk_by (by kernel_rfl)) (fun _ _ _ _ _ => (pg_tup rfl (pgs_cons (pg_name (i := 10) nd rfl (Or.inl rfl)) (pgs_cons (pg_name (i := 11) nd rfl (Or.inl rfl)) (pgs_cons (pg_name (i := 12) nd rfl (Or.inl rfl)) (pgs_cons (pg_name (i := 13) nd rfl (Or.inl rfl)) pgs_nil)))))) (fun _ _ _ _ _ => (pts_one (pt_cmpR (op_eq2 hr.units) (pv 10) (pv 4) (nomark _)))) (fun _ _ _ _ _ => (pe_tup (pa_cons (pv 11) (pa_cons (pv 12) (pa_cons (pv 13) pa_nil)))))) (pss_cons (ps_set (i := 7) nd rfl (Or.inl rfl) (pe_lst pa_nil)) (pss_cons (ps_for (passes_of rfl) rfl (pi_enum (by rfl) C.b_enumerate (pa_cons (pe_ix ix_seq (pv 2) pe_int (fun _ _ => rfl)) pa_nil)) (pg_tup rfl (pgs_cons (pg_name (i := 8) nd rfl (Or.inl rfl)) (pgs_cons (pg_name (i := 9) nd rfl (Or.inl rfl)) pgs_nil))) (pss_one (ps_if (PW.pt (pw_and (pt_val (pe_callS G_under_some (hr.mono (by decide)) (by rfl) hg_under_some kp_under_some hb_under_some (fun σ => passAt tk σ) (pa_cons (pv 0) (pa_cons (pe_ix ix_seq (pv 9) pe_int (fun _ _ => rfl)) (pa_cons (pv 5) pa_nil))))) (pw_and1 (pt_val (pe_callS G_sizes_within (hr.mono (by decide)) (by rfl) hg_sizes_within kp_sizes_within hb_sizes_within (fun σ => passAt tk σ) (pa_cons (pe_ix ix_seq (pv 9) pe_int (fun _ _ => rfl)) (pa_cons (pv 6) pa_nil))))))) (pss_one (ps_expr (pe_bm PySem.F.plainAttrs_list PySem.F.slot_list_append PySem.F.type_list_append mt_append (pv 7) (pa_cons (pv 8) pa_nil)))) pss_nil))) (pss_one (ps_expr (pe_bm PySem.F.plainAttrs_list PySem.F.slot_list_append PySem.F.type_list_append mt_append (pv 3) (pa_cons (pv 7) pa_nil)))))))) (pss_one (ps_ret (pv 3))))),
    (ds_seq (ds_setO 3 (to_lst ta_nil)) (ds_seq (ds_preK [4, 5, 6, 7, 8, 9] (ds_for (vs := [4, 5]) (di_enum (ta_cons (td_op rd_ix (tr_var 1) (td_int).r) ta_nil)) (dg_tup (dgs_cons (dg_name 4) (dgs_cons (dg_name 5) dgs_nil))) (ds_kill [4, 5, 6, 7, 8, 9] (ds_seq (ds_set 6 ((to_lc (vs := [10, 11, 12, 13]) (di_seq (td_op rd_ix (tr_var 1) (td_int).r)) (dg_tup (dgs_cons (dg_name 10) (dgs_cons (dg_name 11) (dgs_cons (dg_name 12) (dgs_cons (dg_name 13) dgs_nil))))) (tt_test ((td_op rd_eq (tr_var 10) (tr_var 4))).r) (td_tup (ta_cons (td_var 11) (ta_cons (td_var 12) (ta_cons (td_var 13) ta_nil)))))).e) (ds_seq (ds_setO 7 (to_lst ta_nil)) (ds_seq (ds_preK [8, 9] (ds_for (vs := [8, 9]) (di_enum (ta_cons (td_op rd_ix (tr_var 2) (td_int).r) ta_nil)) (dg_tup (dgs_cons (dg_name 8) (dgs_cons (dg_name 9) dgs_nil))) (ds_kill [8, 9] (ds_if (tt_and (tt_B ((td_call (ta_cons (td_var 0) (ta_cons (td_op rd_ix (tr_var 9) (td_int).r) (ta_cons (td_var 5) ta_nil))))).r) (tt_B ((td_call (ta_cons (td_op rd_ix (tr_var 9) (td_int).r) (ta_cons (td_var 6) ta_nil)))).r)) (ds_append 7 (td_var 8)) ds_next)))) (ds_frz [7] (ds_append 3 (td_var 7))))))))) (ds_retV 3)))⟩
theorem sc_joins_lead : FnScope ["reading", "thing", "found", "word", "i", "j"] ["reading", "thing", "found"] (defScope s_joins_lead) := ⟨rfl, rfl, rfl, by decide +kernel, rfl, by decide +kernel, by decide +kernel⟩
theorem ok_joins_lead {P : Program} {w : World} {K : PySem.W.Frag} {mg : Str → Option Value} {base : Heap} (C : Ctx K mg) : Kept P w K mg base 1 3 "joins_lead" ["reading", "thing", "found"] d_joins_lead := by
  have nd := sc_joins_lead.nd
  exact kept_of C.F_joins_lead C.g_joins_lead sc_joins_lead rfl rfl (fun _ _ _ _ _ _ us hl => match us, hl with | [_, _, _], _ => rfl) (s := S_joins_lead) fun cdv A outer sh H E hr tk => ⟨_,
    (pss_cons (ps_for (passes_of rfl) rfl (pi_seq (pe_ix ix_seq (pv 0) pe_int (fun _ _ => rfl))) (pg_tup rfl (pgs_cons (pg_name (i := 3) nd rfl (Or.inl rfl)) (pgs_cons (pg_name (i := 4) nd rfl (Or.inl rfl)) (pgs_cons (pg_name (i := 5) nd rfl (Or.inl rfl)) pgs_nil)))) (pss_one (ps_if (PW.pt (pw_and (pt_cmpR op_lt (pv 4) (pe_callB call_len (by rfl) C.b_len bb_len (pa_cons (pv 2) pa_nil)) (nomark _)) (pw_and (pt_cmpR op_lt (pv 5) (pe_callB call_len (by rfl) C.b_len bb_len (pa_cons (pv 2) pa_nil)) (nomark _)) (pw_and1 (pt_cmpR (op_nin2 (hu65 hr)) (pe_tup (pa_cons (pv 3) (pa_cons (pe_ix ix_seq (pv 2) (pv 4) (fun _ _ => rfl)) (pa_cons (pe_ix ix_seq (pv 2) (pv 5) (fun _ _ => rfl)) pa_nil)))) (pe_ix ix_seq (pv 1) pe_int (fun _ _ => rfl)) (by rfl)))))) (pss_one (ps_ret pe_bl)) pss_nil))) (pss_one (ps_ret pe_bl))),
    (ds_seq (ds_preK [3, 4, 5] (ds_for (vs := [3, 4, 5]) (di_seq (td_op rd_ix (tr_var 0) (td_int).r)) (dg_tup (dgs_cons (dg_name 3) (dgs_cons (dg_name 4) (dgs_cons (dg_name 5) dgs_nil)))) (ds_kill [3, 4, 5] (ds_if (tt_and (tt_test ((td_op rd_cmp (tr_var 4) ((td_cb rc_len (tq_cons (tr_var 2) tq_nil))).r)).r) (tt_and (tt_test ((td_op rd_cmp (tr_var 5) ((td_cb rc_len (tq_cons (tr_var 2) tq_nil))).r)).r) (tt_test ((td_op rd_nin ((td_tup (ta_cons (td_var 3) (ta_cons (td_op rd_ix (tr_var 2) (tr_var 4)) (ta_cons (td_op rd_ix (tr_var 2) (tr_var 5)) ta_nil))))).r ((td_op rd_ix (tr_var 1) (td_int).r)).r)).r))) (ds_ret td_bl) ds_next)))) (ds_ret td_bl))⟩
theorem sc_steps_done : FnScope ["reading", "thing", "found", "left", "step", "word", "i"] ["reading", "thing", "found"] (defScope s_steps_done) := ⟨rfl, rfl, rfl, by decide +kernel, rfl, by decide +kernel, by decide +kernel⟩
theorem ok_steps_done {P : Program} {w : World} {K : PySem.W.Frag} {mg : Str → Option Value} {base : Heap} (C : Ctx K mg) : Kept P w K mg base 1 3 "steps_done" ["reading", "thing", "found"] d_steps_done := by
  have nd := sc_steps_done.nd
  exact kept_of C.F_steps_done C.g_steps_done sc_steps_done rfl rfl (fun _ _ _ _ _ _ us hl => match us, hl with | [_, _, _], _ => rfl) (s := S_steps_done) fun cdv A outer sh H E hr tk => ⟨_,
    (pss_cons (ps_setLc (i := 3) (own := [("word", 5), ("i", 6)]) rfl nd rfl rfl (sw_true rfl rfl rfl (by decide +kernel)) (pi_seq (pe_ix ix_seq (pv 0) pe_int (fun _ _ => rfl))) (blkOk_by (by kernel_rfl)) (fun _ _ _ _ _ => (pg_tup rfl (pgs_cons (pg_name (i := 5) nd rfl (Or.inl rfl)) (pgs_cons (pg_name (i := 6) nd rfl (Or.inl rfl)) pgs_nil)))) (fun _ _ _ _ _ => pts_nil) (fun _ _ _ _ _ => (pe_tup (pa_cons (pv 5) (pa_cons (pe_ix ix_seq (pv 2) (pv 6) (fun _ _ => rfl)) pa_nil))))) (pss_cons (ps_for (passes_of rfl) rfl (pi_seq (pe_ix ix_seq (pv 1) pe_int (fun _ _ => rfl))) (pg_name (i := 4) nd rfl (Or.inl rfl)) (pss_one (ps_if (PW.pt (pw_and (pt_cmpR op_gt (pe_callB call_len (by rfl) C.b_len bb_len (pa_cons (pv 3) pa_nil)) pe_int (nomark _)) (pw_and1 (pt_cmpR (op_eq2 hr.units) (pe_ix ix_seq (pv 3) pe_int (fun _ _ => rfl)) (pv 4) (nomark _))))) (pss_one (ps_set (i := 3) nd rfl (Or.inl rfl) (pe_slice sl_2 (pv 3) (po_some pe_int) po_none))) pss_nil))) (pss_one (ps_ret (pe_cmpR (op_eq2 hr.units) (pe_callB call_len (by rfl) C.b_len bb_len (pa_cons (pv 3) pa_nil)) pe_int (nomark _)))))),
    (ds_seq (ds_set 3 ((to_lc (vs := [5, 6]) (di_seq (td_op rd_ix (tr_var 0) (td_int).r)) (dg_tup (dgs_cons (dg_name 5) (dgs_cons (dg_name 6) dgs_nil))) tt_yes (td_tup (ta_cons (td_var 5) (ta_cons (td_op rd_ix (tr_var 2) (tr_var 6)) ta_nil))))).e) (ds_seq (ds_preK [4] (ds_for (vs := [4]) (di_seq (td_op rd_ix (tr_var 1) (td_int).r)) (dg_name 4) (ds_kill [4] (ds_if (tt_and (tt_test ((td_op rd_cmp ((td_cb rc_len (tq_cons (tr_var 3) tq_nil))).r (td_int).r)).r) (tt_test ((td_op rd_eq ((td_op rd_ix (tr_var 3) (td_int).r)).r (tr_var 4))).r)) (ds_set 3 (td_sl (tr_var 3) (tp_some (td_int).r) tp_no)) ds_next)))) (ds_ret (td_op rd_eq ((td_cb rc_len (tq_cons (tr_var 3) tq_nil))).r (td_int).r))))⟩
theorem sc_closed_kept : FnScope ["kinds", "reading", "thing", "found", "allowed", "numbers", "places", "place", "part", "number"] ["kinds", "reading", "thing", "found"] (defScope s_closed_kept) := ⟨rfl, rfl, rfl, by decide +kernel, rfl, by decide +kernel, by decide +kernel⟩
theorem ok_closed_kept {P : Program} {w : World} {K : PySem.W.Frag} {mg : Str → Option Value} {base : Heap} (C : Ctx K mg) : Kept P w K mg base 3 4 "closed_kept" ["kinds", "reading", "thing", "found"] d_closed_kept := by
  obtain ⟨fd_under_some, kp_under_some, hg_under_some, hb_under_some, G_under_some⟩ := ok_under_some (P := P) (w := w) (base := base) C
  have nd := sc_closed_kept.nd
  exact kept_of C.F_closed_kept C.g_closed_kept sc_closed_kept rfl rfl (fun _ _ _ _ _ _ us hl => match us, hl with | [_, _, _, _], _ => rfl) (s := S_closed_kept) fun cdv A outer sh H E hr tk => ⟨_,
    (pss_cons (ps_for (passes_of rfl) rfl (pi_seq (pe_ix ix_seq (pv 1) pe_int (fun _ _ => rfl))) (pg_tup rfl (pgs_cons (pg_name (i := 4) nd rfl (Or.inl rfl)) (pgs_cons (pg_name (i := 5) nd rfl (Or.inl rfl)) pgs_nil))) (pss_cons (ps_setLc (i := 6) (own := [("number", 9)]) rfl nd rfl rfl (sw_true rfl rfl rfl (by decide +kernel)) (pi_seq (pv 5)) (blkOk_by (by kernel_rfl)) (fun _ _ _ _ _ => (pg_name (i := 9) nd rfl (Or.inl rfl))) (fun _ _ _ _ _ => pts_nil) (fun _ _ _ _ _ => (pe_ix ix_seq (pv 3) (pv 9) (fun _ _ => rfl)))) (pss_one (ps_for (passes_of rfl) rfl (pi_enum (by rfl) C.b_enumerate (pa_cons (pe_ix ix_seq (pv 2) pe_int (fun _ _ => rfl)) pa_nil)) (pg_tup rfl (pgs_cons (pg_name (i := 7) nd rfl (Or.inl rfl)) (pgs_cons (pg_name (i := 8) nd rfl (Or.inl rfl)) pgs_nil))) (pss_one (ps_if (PW.pt (pw_and (pt_cmpR (op_nin2 (hu65 hr)) (pv 7) (pv 6) (by rfl)) (pw_and1 (pt_val (pe_callS G_under_some (hr.mono (by decide)) (by rfl) hg_under_some kp_under_some hb_under_some (fun σ => passAt tk σ) (pa_cons (pv 0) (pa_cons (pe_ix ix_seq (pv 8) pe_int (fun _ _ => rfl)) (pa_cons (pv 4) pa_nil)))))))) (pss_one (ps_ret pe_bl)) pss_nil)))))) (pss_one (ps_ret pe_bl))),
    (ds_seq (ds_preK [4, 5, 6, 7, 8] (ds_for (vs := [4, 5]) (di_seq (td_op rd_ix (tr_var 1) (td_int).r)) (dg_tup (dgs_cons (dg_name 4) (dgs_cons (dg_name 5) dgs_nil))) (ds_kill [4, 5, 6, 7, 8] (ds_seq (ds_set 6 ((to_lc (vs := [9]) (di_seq (td_var 5)) (dg_name 9) tt_yes (td_op rd_ix (tr_var 3) (tr_var 9)))).e) (ds_preK [7, 8] (ds_for (vs := [7, 8]) (di_enum (ta_cons (td_op rd_ix (tr_var 2) (td_int).r) ta_nil)) (dg_tup (dgs_cons (dg_name 7) (dgs_cons (dg_name 8) dgs_nil))) (ds_kill [7, 8] (ds_if (tt_and (tt_test ((td_op rd_nin (tr_var 7) (tr_var 6))).r) (tt_B ((td_call (ta_cons (td_var 0) (ta_cons (td_op rd_ix (tr_var 8) (td_int).r) (ta_cons (td_var 4) ta_nil))))).r)) (ds_ret td_bl) ds_next)))))))) (ds_ret td_bl))⟩
theorem sc_first_finding : FnScope ["kinds", "reading", "thing", "rows", "found", "place", "longer", "told"] ["kinds", "reading", "thing", "rows", "found"] (defScope s_first_finding) := ⟨rfl, rfl, rfl, by decide +kernel, rfl, by decide +kernel, by decide +kernel⟩
theorem okn_first_finding {P : Program} {w : World} {K : PySem.W.Frag} {mg : Str → Option Value} {base : Heap} (C : Ctx K mg) : ∀ n : Nat, KeptT P w K mg base (4 + n) 5 "first_finding" ["kinds", "reading", "thing", "rows", "found"] (d_first_finding n)
  | 0 => kept_badT C.F_first_finding C.g_first_finding rfl (fun _ _ _ _ _ _ us hl => match us, hl with | [_, _, _, _, _], _ => rfl)
  | n + 1 => by
    obtain ⟨fd_closed_kept, kp_closed_kept, hg_closed_kept, hb_closed_kept, G_closed_kept⟩ := ok_closed_kept (P := P) (w := w) (base := base) C
    obtain ⟨fd_first_finding, kp_first_finding, hg_first_finding, hb_first_finding, G_first_finding⟩ := okn_first_finding (P := P) (w := w) (base := base) C n
    obtain ⟨fd_joins_lead, kp_joins_lead, hg_joins_lead, hb_joins_lead, G_joins_lead⟩ := ok_joins_lead (P := P) (w := w) (base := base) C
    obtain ⟨fd_steps_done, kp_steps_done, hg_steps_done, hb_steps_done, G_steps_done⟩ := ok_steps_done (P := P) (w := w) (base := base) C
    have nd := sc_first_finding.nd
    exact kept_ofT (k := 4 + n) C.F_first_finding C.g_first_finding sc_first_finding rfl rfl (fun _ _ _ _ _ _ us hl => match us, hl with | [_, _, _, _, _], _ => rfl) (s := S_first_finding (d_first_finding n)) fun cdv A outer sh H E hr tk => ⟨_,
    (pss_cons (ps_if (pt_cmpR (op_eq2 hr.units) (pe_callB call_len (by rfl) C.b_len bb_len (pa_cons (pv 4) pa_nil)) (pe_callB call_len (by rfl) C.b_len bb_len (pa_cons (pv 3) pa_nil)) (nomark _)) (pss_cons (ps_if (PW.pt (pw_and (pt_val (pe_callS G_steps_done (hr.mono (by omega)) (by rfl) hg_steps_done kp_steps_done hb_steps_done (fun σ => passAt tk σ) (pa_cons (pv 1) (pa_cons (pv 2) (pa_cons (pv 4) pa_nil))))) (pw_and1 (pt_val (pe_callS G_closed_kept (hr.mono (by omega)) (by rfl) hg_closed_kept kp_closed_kept hb_closed_kept (fun σ => passAt tk σ) (pa_cons (pv 0) (pa_cons (pv 1) (pa_cons (pv 2) (pa_cons (pv 4) pa_nil))))))))) (pss_one (ps_ret (pv 4))) pss_nil) (pss_one (ps_ret pe_non))) pss_nil) (pss_cons (ps_for (passes_of rfl) rfl (pi_seq (pe_ix ix_seq (pv 3) (pe_callB call_len (by rfl) C.b_len bb_len (pa_cons (pv 4) pa_nil)) (fun _ _ => rfl))) (pg_name (i := 5) nd rfl (Or.inl rfl)) (pss_cons (ps_set (i := 6) nd rfl (Or.inl rfl) (pe_op op_add2 (pv 4) (pe_lst (pa_cons (pv 5) pa_nil)))) (pss_one (ps_if (PW.pt (pw_and (pt_cmpR (op_nin2 (hu65 hr)) (pv 5) (pv 4) (by rfl)) (pw_and1 (pt_val (pe_callS G_joins_lead (hr.mono (by omega)) (by rfl) hg_joins_lead kp_joins_lead hb_joins_lead (fun σ => passAt tk σ) (pa_cons (pv 1) (pa_cons (pv 2) (pa_cons (pv 6) pa_nil)))))))) (pss_cons (ps_set (i := 7) nd rfl (Or.inl rfl) (pe_callS G_first_finding (hr.mono (by omega)) (by rfl) hg_first_finding kp_first_finding hb_first_finding (fun σ => passAt tk σ) (pa_cons (pv 0) (pa_cons (pv 1) (pa_cons (pv 2) (pa_cons (pv 3) (pa_cons (pv 6) pa_nil))))))) (pss_one (ps_if (pt_cmpR op_notN (pv 7) pe_non (nomark _)) (pss_one (ps_ret (pv 7))) pss_nil))) pss_nil)))) (pss_one (ps_ret pe_non)))),
    (ds_seq (ds_if (tt_test ((td_op rd_eq (((th_cb rc_len (thq_cons (th_var 4) thq_nil))).e).r ((td_cb rc_len (tq_cons (tr_var 3) tq_nil))).r)).r) (ds_seq (ds_if (tt_and (tt_B ((td_callH (thq_cons (th_var 1) (thq_cons (th_var 2) (thq_cons (th_var 4) thq_nil))))).r) (tt_B ((td_callH (thq_cons (th_var 0) (thq_cons (th_var 1) (thq_cons (th_var 2) (thq_cons (th_var 4) thq_nil)))))).r)) (ds_retV 4) ds_next) (ds_ret td_non)) ds_next) (ds_seq (ds_preK [5, 6, 7] (ds_for (vs := [5]) (di_seq (td_op rd_ix (tr_var 3) (((th_cb rc_len (thq_cons (th_var 4) thq_nil))).e).r)) (dg_name 5) (ds_kill [5, 6, 7] (ds_seq (ds_setM 6 (tm_own (to_op ro_add (tr_var 4) (((to_lst (ta_cons (td_var 5) ta_nil))).e).r))) (ds_if (tt_and (tt_test ((td_op rd_nin (tr_var 5) (tr_var 4))).r) (tt_B ((td_callH (thq_cons (th_var 1) (thq_cons (th_var 2) (thq_cons (th_var 6) thq_nil))))).r)) (ds_seq (ds_callT 7 (tma_cons (tm_fr (td_var 0)) (tma_cons (tm_fr (td_var 1)) (tma_cons (tm_fr (td_var 2)) (tma_cons (tm_fr (td_var 3)) (tma_cons (tm_var 6) tma_nil)))))) (ds_if (tt_testh (th_op rd_notN (th_var 7) (td_non).h)) (ds_retV 7) ds_next)) ds_next))))) (ds_ret td_non)))⟩
theorem ok_first_finding {P : Program} {w : World} {K : PySem.W.Frag} {mg : Str → Option Value} {base : Heap} (C : Ctx K mg) : KeptT P w K mg base 12 5 "first_finding" ["kinds", "reading", "thing", "rows", "found"] (d_first_finding 8) := okn_first_finding C 8
theorem sc_finding_in : FnScope ["kinds", "reading", "thing"] ["kinds", "reading", "thing"] (defScope s_finding_in) := ⟨rfl, rfl, rfl, by decide +kernel, rfl, by decide +kernel, by decide +kernel⟩
theorem ok_finding_in {P : Program} {w : World} {K : PySem.W.Frag} {mg : Str → Option Value} {base : Heap} (C : Ctx K mg) : Kept P w K mg base 13 3 "finding_in" ["kinds", "reading", "thing"] d_finding_in := by
  obtain ⟨fd_first_finding, kp_first_finding, hg_first_finding, hb_first_finding, G_first_finding⟩ := ok_first_finding (P := P) (w := w) (base := base) C
  obtain ⟨fd_fitting_places, kp_fitting_places, hg_fitting_places, hb_fitting_places, G_fitting_places⟩ := ok_fitting_places (P := P) (w := w) (base := base) C
  have nd := sc_finding_in.nd
  exact kept_of C.F_finding_in C.g_finding_in sc_finding_in rfl rfl (fun _ _ _ _ _ _ us hl => match us, hl with | [_, _, _], _ => rfl) (s := S_finding_in) fun cdv A outer sh H E hr tk => ⟨_,
    (pss_one (ps_ret (pe_callS G_first_finding (hr.mono (by decide)) (by rfl) hg_first_finding kp_first_finding hb_first_finding (fun σ => passAt tk σ) (pa_cons (pv 0) (pa_cons (pv 1) (pa_cons (pv 2) (pa_cons (pe_callS G_fitting_places (hr.mono (by decide)) (by rfl) hg_fitting_places kp_fitting_places hb_fitting_places (fun σ => passAt tk σ) (pa_cons (pv 0) (pa_cons (pv 1) (pa_cons (pv 2) pa_nil)))) (pa_cons (pe_lst pa_nil) pa_nil)))))))),
    (ds_retT (tma_cons (tm_fr (td_var 0)) (tma_cons (tm_fr (td_var 1)) (tma_cons (tm_fr (td_var 2)) (tma_cons (tm_fr (td_call (ta_cons (td_var 0) (ta_cons (td_var 1) (ta_cons (td_var 2) ta_nil))))) (tma_cons (tm_own (to_lst ta_nil)) tma_nil))))))⟩
theorem sc_law_mix : FnScope ["_law_script", "_law_k", "_law_cell", "_law_number"] ["_law_script", "_law_k"] (defScope s_law_mix) := ⟨rfl, rfl, rfl, by decide +kernel, rfl, by decide +kernel, by decide +kernel⟩
theorem ok_law_mix {P : Program} {w : World} {K : PySem.W.Frag} {mg : Str → Option Value} {base : Heap} (C : Ctx K mg) : Kept P w K mg base 1 2 "_law_mix" ["_law_script", "_law_k"] d_law_mix := by
  have nd := sc_law_mix.nd
  exact kept_of C.F_law_mix C.g_law_mix sc_law_mix rfl rfl (fun _ _ _ _ _ _ us hl => match us, hl with | [_, _], _ => rfl) (s := S_law_mix) fun cdv A outer sh H E hr tk => ⟨_,
    (pss_cons (ps_set (i := 2) nd rfl (Or.inl rfl) pe_int) (pss_cons (ps_if (pt_cmpR op_gt (pe_callB call_len (by rfl) C.b_len bb_len (pa_cons (pv 0) pa_nil)) pe_int (nomark _)) (pss_one (ps_set (i := 2) nd rfl (Or.inl rfl) (pe_ix ix_seq (pv 0) (pe_op op_modN (pv 1) (pe_callB call_len (by rfl) C.b_len bb_len (pa_cons (pv 0) pa_nil))) (fun _ _ => rfl)))) pss_nil) (pss_cons (ps_set (i := 3) nd rfl (Or.inl rfl) (pe_op op_modN (pe_op op_mul2 (pe_op op_add2 (pe_op op_add2 (pe_op op_modN (pv 2) pe_int) (pe_op op_mul2 pe_int (pv 1))) pe_int) (pe_op op_add2 pe_int (pe_op op_mul2 (pe_op op_mul2 pe_int (pv 1)) (pv 1)))) pe_int)) (pss_one (ps_ret (pe_op op_modN (pe_op op_mul2 (pv 3) (pv 3)) pe_int)))))),
    (ds_seq (ds_set 2 td_int) (ds_seq (ds_if (tt_test ((td_op rd_cmp ((td_cb rc_len (tq_cons (tr_var 0) tq_nil))).r (td_int).r)).r) (ds_set 2 (td_op rd_ix (tr_var 0) ((td_op rd_mod (tr_var 1) ((td_cb rc_len (tq_cons (tr_var 0) tq_nil))).r)).r)) ds_next) (ds_seq (ds_set 3 (td_op rd_mod ((td_op rd_mul ((td_op rd_add ((td_op rd_add ((td_op rd_mod (tr_var 2) (td_int).r)).r ((td_op rd_mul (td_int).r (tr_var 1))).r)).r (td_int).r)).r ((td_op rd_add (td_int).r ((td_op rd_mul ((td_op rd_mul (td_int).r (tr_var 1))).r (tr_var 1))).r)).r)).r (td_int).r)) (ds_ret (td_op rd_mod ((td_op rd_mul (tr_var 3) (tr_var 3))).r (td_int).r)))))⟩
theorem sc_law_names : FnScope ["_law_script", "_law_k", "_law_many", "_law_letters", "_law_m", "_law_stem", "_law_at", "_law_j"] ["_law_script", "_law_k", "_law_many"] (defScope s_law_names) := ⟨rfl, rfl, rfl, by decide +kernel, rfl, by decide +kernel, by decide +kernel⟩
theorem ok_law_names {P : Program} {w : World} {K : PySem.W.Frag} {mg : Str → Option Value} {base : Heap} (C : Ctx K mg) : Kept P w K mg base 2 3 "_law_names" ["_law_script", "_law_k", "_law_many"] d_law_names := by
  obtain ⟨fd_law_mix, kp_law_mix, hg_law_mix, hb_law_mix, G_law_mix⟩ := ok_law_mix (P := P) (w := w) (base := base) C
  have nd := sc_law_names.nd
  exact kept_of C.F_law_names C.g_law_names sc_law_names rfl rfl (fun _ _ _ _ _ _ us hl => match us, hl with | [_, _, _], _ => rfl) (s := S_law_names) fun cdv A outer sh H E hr tk => ⟨_,
    (pss_cons (ps_set (i := 3) nd rfl (Or.inr rfl) pe_str) (pss_cons (ps_set (i := 4) nd rfl (Or.inr rfl) (pe_callS G_law_mix (hr.mono (by decide)) (by rfl) hg_law_mix kp_law_mix hb_law_mix (fun σ => passAt tk σ) (pa_cons (pv 0) (pa_cons (pv 1) pa_nil)))) (pss_cons (ps_set (i := 5) nd rfl (Or.inr rfl) (pe_op op_mul2 (pe_ix ix_seq (pv 3) (pe_op op_modN (pv 4) pe_int) (fun _ _ => rfl)) (pe_op op_modN (pe_op op_fdivN (pv 4) pe_int) pe_int))) (pss_cons (ps_set (i := 6) nd rfl (Or.inr rfl) (pe_op op_modN (pe_op op_fdivN (pv 4) pe_int) (pe_op op_add2 (pe_callB call_len (by rfl) C.b_len bb_len (pa_cons (pv 5) pa_nil)) pe_int))) (pss_one (ps_ret (pe_lc (own := [("_law_j", 7)]) rfl nd (pi_range1 rfl C.b_range (pa_cons (pv 2) pa_nil)) (blkOk_by (by kernel_rfl)) (fun _ _ _ _ _ => (pg_name (i := 7) nd rfl (Or.inl rfl))) (fun _ _ _ _ _ => pts_nil) (fun _ _ _ _ _ => (pe_op op_add2 (pe_op op_add2 (pe_slice sl_2 (pv 5) po_none (po_some (pv 6))) (pe_ix ix_seq (pv 3) (pe_op op_modN (pe_op op_add2 (pe_op op_fdivN (pv 4) pe_int) (pv 7)) pe_int) (fun _ _ => rfl))) (pe_slice sl_2 (pv 5) (po_some (pv 6)) po_none)))))))))),
    (ds_seq (ds_set 3 td_str) (ds_seq (ds_set 4 (td_call (ta_cons (td_var 0) (ta_cons (td_var 1) ta_nil)))) (ds_seq (ds_set 5 (td_op rd_mul ((td_op rd_ix (tr_var 3) ((td_op rd_mod (tr_var 4) (td_int).r)).r)).r ((td_op rd_mod ((td_op rd_div (tr_var 4) (td_int).r)).r (td_int).r)).r)) (ds_seq (ds_set 6 (td_op rd_mod ((td_op rd_div (tr_var 4) (td_int).r)).r ((td_op rd_add ((td_cb rc_len (tq_cons (tr_var 5) tq_nil))).r (td_int).r)).r)) (ds_retO (to_lc (vs := [7]) (di_rng1 (tq_cons (tr_var 2) tq_nil)) (dg_name 7) tt_yes (td_op rd_add ((td_op rd_add ((td_sl (tr_var 5) tp_no (tp_some (tr_var 6)))).r ((td_op rd_ix (tr_var 3) ((td_op rd_mod ((td_op rd_add ((td_op rd_div (tr_var 4) (td_int).r)).r (tr_var 7))).r (td_int).r)).r)).r)).r ((td_sl (tr_var 5) (tp_some (tr_var 6)) tp_no)).r)))))))⟩
theorem sc_law_kinds : FnScope ["_law_script", "_law_many", "_law_names_here", "_law_kinds_here", "_law_k", "_law_m", "_law_upper"] ["_law_script"] (defScope s_law_kinds) := ⟨rfl, rfl, rfl, by decide +kernel, rfl, by decide +kernel, by decide +kernel⟩
theorem ok_law_kinds {P : Program} {w : World} {K : PySem.W.Frag} {mg : Str → Option Value} {base : Heap} (C : Ctx K mg) : Kept P w K mg base 3 1 "_law_kinds" ["_law_script"] d_law_kinds := by
  obtain ⟨fd_law_mix, kp_law_mix, hg_law_mix, hb_law_mix, G_law_mix⟩ := ok_law_mix (P := P) (w := w) (base := base) C
  obtain ⟨fd_law_names, kp_law_names, hg_law_names, hb_law_names, G_law_names⟩ := ok_law_names (P := P) (w := w) (base := base) C
  have nd := sc_law_kinds.nd
  exact kept_of C.F_law_kinds C.g_law_kinds sc_law_kinds rfl rfl (fun _ _ _ _ _ _ us hl => match us, hl with | [_], _ => rfl) (s := S_law_kinds) fun cdv A outer sh H E hr tk => ⟨_,
    (pss_cons (ps_set (i := 1) nd rfl (Or.inl rfl) (pe_op op_add2 pe_int (pe_op op_modN (pe_callS G_law_mix (hr.mono (by decide)) (by rfl) hg_law_mix kp_law_mix hb_law_mix (fun σ => passAt tk σ) (pa_cons (pv 0) (pa_cons pe_int pa_nil))) pe_int))) (pss_cons (ps_set (i := 2) nd rfl (Or.inl rfl) (pe_callS G_law_names (hr.mono (by decide)) (by rfl) hg_law_names kp_law_names hb_law_names (fun σ => passAt tk σ) (pa_cons (pv 0) (pa_cons pe_int (pa_cons (pv 1) pa_nil))))) (pss_cons (ps_set (i := 3) nd rfl (Or.inl rfl) (pe_lst pa_nil)) (pss_cons (ps_for (passes_of rfl) rfl (pi_range1 rfl C.b_range (pa_cons (pv 1) pa_nil)) (pg_name (i := 4) nd rfl (Or.inl rfl)) (pss_cons (ps_set (i := 5) nd rfl (Or.inl rfl) (pe_callS G_law_mix (hr.mono (by decide)) (by rfl) hg_law_mix kp_law_mix hb_law_mix (fun σ => passAt tk σ) (pa_cons (pv 0) (pa_cons (pe_op op_add2 pe_int (pv 4)) pa_nil)))) (pss_cons (ps_set (i := 6) nd rfl (Or.inl rfl) pe_str) (pss_cons (ps_if (PW.pt (pw_and (pt_cmpR op_gt (pv 4) pe_int (nomark _)) (pw_and1 (pt_cmpR op_gt (pe_op op_modN (pv 5) pe_int) pe_int (nomark _))))) (pss_one (ps_set (i := 6) nd rfl (Or.inl rfl) (pe_ix ix_seq (pv 2) (pe_op op_modN (pe_op op_fdivN (pv 5) pe_int) (pv 4)) (fun _ _ => rfl)))) pss_nil) (pss_one (ps_expr (pe_bm PySem.F.plainAttrs_list PySem.F.slot_list_append PySem.F.type_list_append mt_append (pv 3) (pa_cons (pe_tup (pa_cons (pe_ix ix_seq (pv 2) (pv 4) (fun _ _ => rfl)) (pa_cons (pv 6) pa_nil))) pa_nil)))))))) (pss_one (ps_ret (pv 3))))))),
    (ds_seq (ds_set 1 (td_op rd_add (td_int).r ((td_op rd_mod ((td_call (ta_cons (td_var 0) (ta_cons td_int ta_nil)))).r (td_int).r)).r)) (ds_seq (ds_set 2 (td_call (ta_cons (td_var 0) (ta_cons td_int (ta_cons (td_var 1) ta_nil))))) (ds_seq (ds_setO 3 (to_lst ta_nil)) (ds_seq (ds_preK [4, 5, 6] (ds_for (vs := [4]) (di_rng1 (tq_cons (tr_var 1) tq_nil)) (dg_name 4) (ds_kill [4, 5, 6] (ds_seq (ds_set 5 (td_call (ta_cons (td_var 0) (ta_cons (td_op rd_add (td_int).r (tr_var 4)) ta_nil)))) (ds_seq (ds_set 6 td_str) (ds_seq (ds_if (tt_and (tt_test ((td_op rd_cmp (tr_var 4) (td_int).r)).r) (tt_test ((td_op rd_cmp ((td_op rd_mod (tr_var 5) (td_int).r)).r (td_int).r)).r)) (ds_set 6 (td_op rd_ix (tr_var 2) ((td_op rd_mod ((td_op rd_div (tr_var 5) (td_int).r)).r (tr_var 4))).r)) ds_next) (ds_append 3 (td_tup (ta_cons (td_op rd_ix (tr_var 2) (tr_var 4)) (ta_cons (td_var 6) ta_nil)))))))))) (ds_retV 3)))))⟩
theorem sc_law_words : FnScope ["_law_script"] ["_law_script"] (defScope s_law_words) := ⟨rfl, rfl, rfl, by decide +kernel, rfl, by decide +kernel, by decide +kernel⟩
theorem ok_law_words {P : Program} {w : World} {K : PySem.W.Frag} {mg : Str → Option Value} {base : Heap} (C : Ctx K mg) : Kept P w K mg base 3 1 "_law_words" ["_law_script"] d_law_words := by
  obtain ⟨fd_law_names, kp_law_names, hg_law_names, hb_law_names, G_law_names⟩ := ok_law_names (P := P) (w := w) (base := base) C
  have nd := sc_law_words.nd
  exact kept_of C.F_law_words C.g_law_words sc_law_words rfl rfl (fun _ _ _ _ _ _ us hl => match us, hl with | [_], _ => rfl) (s := S_law_words) fun cdv A outer sh H E hr tk => ⟨_,
    (pss_one (ps_ret (pe_tup (pa_cons (pe_callS G_law_names (hr.mono (by decide)) (by rfl) hg_law_names kp_law_names hb_law_names (fun σ => passAt tk σ) (pa_cons (pv 0) (pa_cons pe_int (pa_cons pe_int pa_nil)))) (pa_cons (pe_callS G_law_names (hr.mono (by decide)) (by rfl) hg_law_names kp_law_names hb_law_names (fun σ => passAt tk σ) (pa_cons (pv 0) (pa_cons pe_int (pa_cons pe_int pa_nil)))) (pa_cons (pe_callS G_law_names (hr.mono (by decide)) (by rfl) hg_law_names kp_law_names hb_law_names (fun σ => passAt tk σ) (pa_cons (pv 0) (pa_cons pe_int (pa_cons pe_int pa_nil)))) pa_nil)))))),
    (ds_ret (td_tup (ta_cons (td_call (ta_cons (td_var 0) (ta_cons td_int (ta_cons td_int ta_nil)))) (ta_cons (td_call (ta_cons (td_var 0) (ta_cons td_int (ta_cons td_int ta_nil)))) (ta_cons (td_call (ta_cons (td_var 0) (ta_cons td_int (ta_cons td_int ta_nil)))) ta_nil)))))⟩
theorem sc_law_uppers : FnScope ["_law_kinds_here", "_law_kind", "_law_row", "_law_name", "_law_upper"] ["_law_kinds_here", "_law_kind"] (defScope s_law_uppers) := ⟨rfl, rfl, rfl, by decide +kernel, rfl, by decide +kernel, by decide +kernel⟩
theorem ok_law_uppers {P : Program} {w : World} {K : PySem.W.Frag} {mg : Str → Option Value} {base : Heap} (C : Ctx K mg) : Kept P w K mg base 1 2 "_law_uppers" ["_law_kinds_here", "_law_kind"] d_law_uppers := by
  have nd := sc_law_uppers.nd
  exact kept_of C.F_law_uppers C.g_law_uppers sc_law_uppers rfl rfl (fun _ _ _ _ _ _ us hl => match us, hl with | [_, _], _ => rfl) (s := S_law_uppers) fun cdv A outer sh H E hr tk => ⟨_,
    (pss_cons (ps_set (i := 2) nd rfl (Or.inl rfl) (pe_lst (pa_cons (pv 1) pa_nil))) (pss_cons (ps_for (passes_of rfl) rfl (pi_reversed (by rfl) C.b_reversed (pa_cons (pv 0) pa_nil)) (pg_tup rfl (pgs_cons (pg_name (i := 3) nd rfl (Or.inl rfl)) (pgs_cons (pg_name (i := 4) nd rfl (Or.inl rfl)) pgs_nil))) (pss_one (ps_if (PW.pt (pw_and (pt_cmpR (op_eq2 hr.units) (pv 3) (pe_ix ix_seq (pv 2) (pe_un un_neg pe_int) (fun _ _ => rfl)) (nomark _)) (pw_and1 (pt_cmpR (op_ne2 hr.units) (pv 4) pe_str (nomark _))))) (pss_one (ps_expr (pe_bm PySem.F.plainAttrs_list PySem.F.slot_list_append PySem.F.type_list_append mt_append (pv 2) (pa_cons (pv 4) pa_nil)))) pss_nil))) (pss_one (ps_ret (pv 2))))),
    (ds_seq (ds_setO 2 (to_lst (ta_cons (td_var 1) ta_nil))) (ds_seq (ds_preK [3, 4] (ds_for (vs := [3, 4]) (di_rev (ta_cons (td_var 0) ta_nil)) (dg_tup (dgs_cons (dg_name 3) (dgs_cons (dg_name 4) dgs_nil))) (ds_kill [3, 4] (ds_if (tt_and (tt_test ((td_op rd_eq (tr_var 3) ((td_op rd_ix (tr_var 2) ((td_un ru_neg (td_int).r)).r)).r)).r) (tt_test ((td_op rd_ne (tr_var 4) (td_str).r)).r)) (ds_append 2 (td_var 4)) ds_next)))) (ds_retV 2)))⟩
theorem sc_law_lowers : FnScope ["_law_kinds_here", "_law_kind", "_law_name", "_law_upper"] ["_law_kinds_here", "_law_kind"] (defScope s_law_lowers) := ⟨rfl, rfl, rfl, by decide +kernel, rfl, by decide +kernel, by decide +kernel⟩
theorem ok_law_lowers {P : Program} {w : World} {K : PySem.W.Frag} {mg : Str → Option Value} {base : Heap} (C : Ctx K mg) : Kept P w K mg base 2 2 "_law_lowers" ["_law_kinds_here", "_law_kind"] d_law_lowers := by
  obtain ⟨fd_law_uppers, kp_law_uppers, hg_law_uppers, hb_law_uppers, G_law_uppers⟩ := ok_law_uppers (P := P) (w := w) (base := base) C
  have nd := sc_law_lowers.nd
  exact kept_of C.F_law_lowers C.g_law_lowers sc_law_lowers rfl rfl (fun _ _ _ _ _ _ us hl => match us, hl with | [_, _], _ => rfl) (s := S_law_lowers) fun cdv A outer sh H E hr tk => ⟨_,
    (pss_one (ps_ret (pe_lc (own := [("_law_name", 2), ("_law_upper", 3)]) rfl nd (pi_seq (pv 0)) (blkOk_by (by kernel_rfl)) (fun _ _ _ _ _ => (pg_tup rfl (pgs_cons (pg_name (i := 2) nd rfl (Or.inl rfl)) (pgs_cons (pg_name (i := 3) nd rfl (Or.inl rfl)) pgs_nil)))) (fun _ _ _ _ _ => (pts_one (pt_cmpR (op_in2 (hu65 hr)) (pv 1) (pe_callS G_law_uppers (hr.mono (by decide)) (by rfl) hg_law_uppers kp_law_uppers hb_law_uppers (fun σ => passAt takes0 σ) (pa_cons (pv 0) (pa_cons (pv 2) pa_nil))) (by rfl)))) (fun _ _ _ _ _ => (pv 2))))),
    (ds_retO (to_lc (vs := [2, 3]) (di_seq (td_var 0)) (dg_tup (dgs_cons (dg_name 2) (dgs_cons (dg_name 3) dgs_nil))) (tt_test ((td_op rd_in (tr_var 1) ((td_call (ta_cons (td_var 0) (ta_cons (td_var 2) ta_nil)))).r)).r) (td_var 2)))⟩
theorem sc_law_groups : FnScope ["_law_script", "_law_at", "_law_kinds_here", "_law_shut", "_law_names_here", "_law_parts", "_law_closed", "_law_named", "_law_g", "_law_m", "_law_told", "_law_many", "_law_numbers", "_law_name", "_law_upper", "_law_j", "_law_one"] ["_law_script", "_law_at", "_law_kinds_here", "_law_shut"] (defScope s_law_groups) := ⟨rfl, rfl, rfl, by decide +kernel, rfl, by decide +kernel, by decide +kernel⟩
theorem ok_law_groups {P : Program} {w : World} {K : PySem.W.Frag} {mg : Str → Option Value} {base : Heap} (C : Ctx K mg) : Kept P w K mg base 2 4 "_law_groups" ["_law_script", "_law_at", "_law_kinds_here", "_law_shut"] d_law_groups := by
  obtain ⟨fd_law_mix, kp_law_mix, hg_law_mix, hb_law_mix, G_law_mix⟩ := ok_law_mix (P := P) (w := w) (base := base) C
  obtain ⟨fd_law_uppers, kp_law_uppers, hg_law_uppers, hb_law_uppers, G_law_uppers⟩ := ok_law_uppers (P := P) (w := w) (base := base) C
  have nd := sc_law_groups.nd
  exact kept_of C.F_law_groups C.g_law_groups sc_law_groups rfl rfl (fun _ _ _ _ _ _ us hl => match us, hl with | [_, _, _, _], _ => rfl) (s := S_law_groups) fun cdv A outer sh H E hr tk => ⟨_,
    (pss_cons (ps_set (i := 4) nd rfl (Or.inr rfl) (pe_lc (own := [("_law_name", 13), ("_law_upper", 14)]) rfl nd (pi_seq (pv 2)) (blkOk_by (by kernel_rfl)) (fun _ _ _ _ _ => (pg_tup rfl (pgs_cons (pg_name (i := 13) nd rfl (Or.inl rfl)) (pgs_cons (pg_name (i := 14) nd rfl (Or.inl rfl)) pgs_nil)))) (fun _ _ _ _ _ => pts_nil) (fun _ _ _ _ _ => (pv 13)))) (pss_cons (ps_set (i := 5) nd rfl (Or.inl rfl) (pe_lst pa_nil)) (pss_cons (ps_set (i := 6) nd rfl (Or.inl rfl) (pe_lst pa_nil)) (pss_cons (ps_set (i := 7) nd rfl (Or.inl rfl) (pe_lst pa_nil)) (pss_cons (ps_for (passes_of rfl) rfl (pi_range1 rfl C.b_range (pa_cons (pe_callB (call_max2 rfl) (by rfl) C.b_max bb_max (pa_cons (pe_callTy call_int3 (by rfl) C.b_int bb_int (pa_cons (pv 3) pa_nil)) (pa_cons (pe_ix ix_seq (pe_lst (pa_cons pe_int (pa_cons pe_int (pa_cons pe_int (pa_cons pe_int (pa_cons pe_int (pa_cons pe_int (pa_cons pe_int (pa_cons pe_int pa_nil))))))))) (pe_op op_modN (pe_callS G_law_mix (hr.mono (by decide)) (by rfl) hg_law_mix kp_law_mix hb_law_mix (fun σ => passAt tk σ) (pa_cons (pv 0) (pa_cons (pv 1) pa_nil))) pe_int) (fun _ _ => rfl)) pa_nil))) pa_nil)) (pg_name (i := 8) nd rfl (Or.inl rfl)) (pss_cons (ps_set (i := 9) nd rfl (Or.inr rfl) (pe_callS G_law_mix (hr.mono (by decide)) (by rfl) hg_law_mix kp_law_mix hb_law_mix (fun σ => passAt tk σ) (pa_cons (pv 0) (pa_cons (pe_op op_add2 (pe_op op_add2 (pv 1) pe_int) (pv 8)) pa_nil)))) (pss_cons (ps_set (i := 10) nd rfl (Or.inr rfl) (pe_callTy call_tuple_of (by rfl) C.b_tuple bb_tuple (pa_cons (pe_lc (own := [("_law_j", 15)]) rfl nd (pi_range1 rfl C.b_range (pa_cons (pe_ix ix_seq (pe_lst (pa_cons pe_int (pa_cons pe_int (pa_cons pe_int (pa_cons pe_int pa_nil))))) (pe_op op_modN (pe_op op_fdivN (pv 9) pe_int) pe_int) (fun _ _ => rfl)) pa_nil)) (blkOk_by (by kernel_rfl)) (fun _ _ _ _ _ => (pg_name (i := 15) nd rfl (Or.inl rfl))) (fun _ _ _ _ _ => pts_nil) (fun _ _ _ _ _ => (pe_ix ix_seq (pv 4) (pe_op op_modN (pe_op op_add2 (pv 9) (pv 15)) (pe_callB call_len (by rfl) C.b_len bb_len (pa_cons (pv 4) pa_nil))) (fun _ _ => rfl)))) pa_nil))) (pss_cons (ps_set (i := 11) nd rfl (Or.inl rfl) (pe_ix ix_seq (pe_lst (pa_cons pe_int (pa_cons pe_int (pa_cons pe_int (pa_cons pe_int pa_nil))))) (pe_op op_modN (pe_op op_fdivN (pv 9) pe_int) pe_int) (fun _ _ => rfl))) (pss_cons (ps_if (pt_cmpR op_gt (pe_op op_add2 (pe_callB call_len (by rfl) C.b_len bb_len (pa_cons (pv 5) pa_nil)) (pv 11)) pe_int (nomark _)) (pss_one ps_continue) pss_nil) (pss_cons (ps_set (i := 12) nd rfl (Or.inl rfl) (pe_tupRg rfl (by rfl) C.b_tuple (prg_2 (by rfl) C.b_range (pe_callB call_len (by rfl) C.b_len bb_len (pa_cons (pv 5) pa_nil)) (pe_op op_add2 (pe_callB call_len (by rfl) C.b_len bb_len (pa_cons (pv 5) pa_nil)) (pv 11))))) (pss_cons (ps_if (PW.pt (pw_or (pt_cmpR (op_eq2 hr.units) (pe_op op_modN (pe_op op_fdivN (pv 9) pe_int) pe_int) pe_int (nomark _)) (pw_or1 (PW.pt (pw_and (pt_val (pv 3)) (pw_and1 (pt_cmpR (op_eq2 hr.units) (pv 8) pe_int (nomark _)))))))) (pss_one (ps_expr (pe_bm PySem.F.plainAttrs_list PySem.F.slot_list_append PySem.F.type_list_append mt_append (pv 6) (pa_cons (pe_tup (pa_cons (pv 10) (pa_cons (pv 12) pa_nil))) pa_nil)))) pss_nil) (pss_cons (ps_if (pt_val (pe_callB (cr_any rfl) (by rfl) C.b_any bb_any (pa_cons (pe_lc (own := [("_law_upper", 14)]) rfl nd (pi_seq (pv 4)) (blkOk_by (by kernel_rfl)) (fun _ _ _ _ _ => (pg_name (i := 14) nd rfl (Or.inr rfl))) (fun _ _ _ _ _ => pts_nil) (fun _ _ _ _ _ => (pe_callB (cr_all rfl) (by rfl) C.b_all bb_all (pa_cons (pe_lc (own := [("_law_one", 16)]) rfl nd (pi_seq (pv 10)) (blkOk_by (by kernel_rfl)) (fun _ _ _ _ _ => (pg_name (i := 16) nd rfl (Or.inl rfl))) (fun _ _ _ _ _ => pts_nil) (fun _ _ _ _ _ => (pe_cmpR (op_in2 (hu65 hr)) (pv 14) (pe_callS G_law_uppers (hr.mono (by decide)) (by rfl) hg_law_uppers kp_law_uppers hb_law_uppers (fun σ => passAt takes0 σ) (pa_cons (pv 2) (pa_cons (pv 16) pa_nil))) (by rfl)))) pa_nil)))) pa_nil))) (pss_one (ps_expr (pe_bm PySem.F.plainAttrs_list PySem.F.slot_list_append PySem.F.type_list_append mt_append (pv 7) (pa_cons (pv 12) pa_nil)))) pss_nil) (pss_one (ps_expr (pe_bm PySem.F.plainAttrs_list PySem.F.slot_list_extend PySem.F.type_list_extend mt_extendR (pv 5) (pa_cons (pe_op op_rep (pe_lst (pa_cons (pv 10) pa_nil)) (pv 11)) pa_nil)))))))))))) (pss_one (ps_ret (pe_tup (pa_cons (pv 5) (pa_cons (pv 6) (pa_cons (pv 7) pa_nil))))))))))),
    (ds_seq (ds_set 4 ((to_lc (vs := [13, 14]) (di_seq (td_var 2)) (dg_tup (dgs_cons (dg_name 13) (dgs_cons (dg_name 14) dgs_nil))) tt_yes (td_var 13))).e) (ds_seq (ds_setO 5 (to_lst ta_nil)) (ds_seq (ds_setO 6 (to_lst ta_nil)) (ds_seq (ds_setO 7 (to_lst ta_nil)) (ds_seq (ds_preK [8, 9, 10, 11, 12] (ds_for (vs := [8]) (di_rng1 (tq_cons ((td_cb rc_max2 (tq_cons ((td_cb rc_int (tq_cons (tr_var 3) tq_nil))).r (tq_cons ((td_op rd_ix (((to_lst (ta_cons td_int (ta_cons td_int (ta_cons td_int (ta_cons td_int (ta_cons td_int (ta_cons td_int (ta_cons td_int (ta_cons td_int ta_nil)))))))))).e).r ((td_op rd_mod ((td_call (ta_cons (td_var 0) (ta_cons (td_var 1) ta_nil)))).r (td_int).r)).r)).r tq_nil)))).r tq_nil)) (dg_name 8) (ds_kill [8, 9, 10, 11, 12] (ds_seq (ds_set 9 (td_call (ta_cons (td_var 0) (ta_cons (td_op rd_add ((td_op rd_add (tr_var 1) (td_int).r)).r (tr_var 8)) ta_nil)))) (ds_seq (ds_set 10 (td_cb rc_tuple (tq_cons (((to_lc (vs := [15]) (di_rng1 (tq_cons ((td_op rd_ix (((to_lst (ta_cons td_int (ta_cons td_int (ta_cons td_int (ta_cons td_int ta_nil)))))).e).r ((td_op rd_mod ((td_op rd_div (tr_var 9) (td_int).r)).r (td_int).r)).r)).r tq_nil)) (dg_name 15) tt_yes (td_op rd_ix (tr_var 4) ((td_op rd_mod ((td_op rd_add (tr_var 9) (tr_var 15))).r ((td_cb rc_len (tq_cons (tr_var 4) tq_nil))).r)).r))).e).r tq_nil))) (ds_seq (ds_set 11 (td_op rd_ix (((to_lst (ta_cons td_int (ta_cons td_int (ta_cons td_int (ta_cons td_int ta_nil)))))).e).r ((td_op rd_mod ((td_op rd_div (tr_var 9) (td_int).r)).r (td_int).r)).r)) (ds_seq (ds_if (tt_test ((td_op rd_cmp ((td_op rd_add ((td_cb rc_len (tq_cons (tr_var 5) tq_nil))).r (tr_var 11))).r (td_int).r)).r) ds_cont ds_next) (ds_seq (ds_set 12 (td_tupRg2 ((td_cb rc_len (tq_cons (tr_var 5) tq_nil))).r ((td_op rd_add ((td_cb rc_len (tq_cons (tr_var 5) tq_nil))).r (tr_var 11))).r)) (ds_seq (ds_if (tt_or (tt_test ((td_op rd_eq ((td_op rd_mod ((td_op rd_div (tr_var 9) (td_int).r)).r (td_int).r)).r (td_int).r)).r) (tt_and (tt_B (tr_var 3)) (tt_test ((td_op rd_eq (tr_var 8) (td_int).r)).r))) (ds_append 6 (td_tup (ta_cons (td_var 10) (ta_cons (td_var 12) ta_nil)))) ds_next) (ds_seq (ds_if (tt_B ((td_cb rc_any (tq_cons (((to_lc (vs := [14]) (di_seq (td_var 4)) (dg_name 14) tt_yes (td_cb rc_all (tq_cons (((to_lc (vs := [16]) (di_seq (td_var 10)) (dg_name 16) tt_yes (td_op rd_in (tr_var 14) ((td_call (ta_cons (td_var 2) (ta_cons (td_var 16) ta_nil)))).r))).e).r tq_nil)))).e).r tq_nil))).r) (ds_append 7 (td_var 12)) ds_next) (ds_extend 5 (((to_rep (to_lst (ta_cons (td_var 10) ta_nil)) (tr_var 11))).e).r))))))))))) (ds_retM (tm_tup (tma_cons (tm_var 5) (tma_cons (tm_var 6) (tma_cons (tm_var 7) tma_nil))))))))))⟩
theorem sc_law_bounds : FnScope ["_law_n", "_law_low"] ["_law_n"] (defScope s_law_bounds) := ⟨rfl, rfl, rfl, by decide +kernel, rfl, by decide +kernel, by decide +kernel⟩
theorem ok_law_bounds {P : Program} {w : World} {K : PySem.W.Frag} {mg : Str → Option Value} {base : Heap} (C : Ctx K mg) : Kept P w K mg base 1 1 "_law_bounds" ["_law_n"] d_law_bounds := by
  have nd := sc_law_bounds.nd
  exact kept_of C.F_law_bounds C.g_law_bounds sc_law_bounds rfl rfl (fun _ _ _ _ _ _ us hl => match us, hl with | [_], _ => rfl) (s := S_law_bounds) fun cdv A outer sh H E hr tk => ⟨_,
    (pss_cons (ps_set (i := 1) nd rfl (Or.inl rfl) (pe_op op_sub (pe_op op_modN (pe_op op_fdivN (pv 0) pe_int) pe_int) pe_int)) (pss_cons (ps_if (pt_cmpR (op_eq2 hr.units) (pe_op op_modN (pe_op op_fdivN (pv 0) pe_int) pe_int) pe_int (nomark _)) (pss_one (ps_set (i := 1) nd rfl (Or.inl rfl) (pe_op op_mul2 (pe_op op_sub (pv 0) (pe_op op_pow pe_int pe_int)) (pe_op op_pow pe_int pe_int)))) pss_nil) (pss_one (ps_ret (pe_ix ix_seq (pe_lst (pa_cons (pe_tup (pa_cons pe_non (pa_cons (pv 1) pa_nil))) (pa_cons (pe_tup (pa_cons (pv 1) (pa_cons pe_non pa_nil))) (pa_cons (pe_tup (pa_cons (pv 1) (pa_cons (pe_op op_add2 (pv 1) (pe_op op_modN (pe_op op_fdivN (pv 0) pe_int) pe_int)) pa_nil))) pa_nil)))) (pe_op op_modN (pe_op op_fdivN (pv 0) pe_int) pe_int) (fun _ _ => rfl)))))),
    (ds_seq (ds_set 1 (td_op rd_sub ((td_op rd_mod ((td_op rd_div (tr_var 0) (td_int).r)).r (td_int).r)).r (td_int).r)) (ds_seq (ds_if (tt_test ((td_op rd_eq ((td_op rd_mod ((td_op rd_div (tr_var 0) (td_int).r)).r (td_int).r)).r (td_int).r)).r) (ds_set 1 (td_op rd_mul ((td_op rd_sub (tr_var 0) ((td_op rd_pow (td_int).r (td_int).r)).r)).r ((td_op rd_pow (td_int).r (td_int).r)).r)) ds_next) (ds_ret (td_op rd_ix (((to_lst (ta_cons (td_tup (ta_cons td_non (ta_cons (td_var 1) ta_nil))) (ta_cons (td_tup (ta_cons (td_var 1) (ta_cons td_non ta_nil))) (ta_cons (td_tup (ta_cons (td_var 1) (ta_cons (td_op rd_add (tr_var 1) ((td_op rd_mod ((td_op rd_div (tr_var 0) (td_int).r)).r (td_int).r)).r) ta_nil))) ta_nil))))).e).r ((td_op rd_mod ((td_op rd_div (tr_var 0) (td_int).r)).r (td_int).r)).r))))⟩
theorem sc_law_reading : FnScope ["_law_script", "_law_at", "_law_kinds_here", "_law_words_here", "_law_shut", "_law_parts", "_law_closed", "_law_named", "_law_joins", "_law_sizes", "_law_steps", "_law_k", "_law_n", "_law_i", "_law_some", "_law_key"] ["_law_script", "_law_at", "_law_kinds_here", "_law_words_here", "_law_shut"] (defScope s_law_reading) := ⟨rfl, rfl, rfl, by decide +kernel, rfl, by decide +kernel, by decide +kernel⟩
theorem ok_law_reading {P : Program} {w : World} {K : PySem.W.Frag} {mg : Str → Option Value} {base : Heap} (C : Ctx K mg) : Kept P w K mg base 3 5 "_law_reading" ["_law_script", "_law_at", "_law_kinds_here", "_law_words_here", "_law_shut"] d_law_reading := by
  obtain ⟨fd_law_bounds, kp_law_bounds, hg_law_bounds, hb_law_bounds, G_law_bounds⟩ := ok_law_bounds (P := P) (w := w) (base := base) C
  obtain ⟨fd_law_groups, kp_law_groups, hg_law_groups, hb_law_groups, G_law_groups⟩ := ok_law_groups (P := P) (w := w) (base := base) C
  obtain ⟨fd_law_lowers, kp_law_lowers, hg_law_lowers, hb_law_lowers, G_law_lowers⟩ := ok_law_lowers (P := P) (w := w) (base := base) C
  obtain ⟨fd_law_mix, kp_law_mix, hg_law_mix, hb_law_mix, G_law_mix⟩ := ok_law_mix (P := P) (w := w) (base := base) C
  have nd := sc_law_reading.nd
  exact kept_of C.F_law_reading C.g_law_reading sc_law_reading rfl rfl (fun _ _ _ _ _ _ us hl => match us, hl with | [_, _, _, _, _], _ => rfl) (s := S_law_reading) fun cdv A outer sh H E hr tk => ⟨_,
    (pss_cons (ps_asg (pe_callS G_law_groups (hr.mono (by decide)) (by rfl) hg_law_groups kp_law_groups hb_law_groups (fun σ => passAt tk σ) (pa_cons (pv 0) (pa_cons (pv 1) (pa_cons (pv 2) (pa_cons (pv 4) pa_nil))))) (pg_tup rfl (pgs_cons (pg_name (i := 5) nd rfl (Or.inl rfl)) (pgs_cons (pg_name (i := 6) nd rfl (Or.inl rfl)) (pgs_cons (pg_name (i := 7) nd rfl (Or.inl rfl)) pgs_nil))))) (pss_cons (ps_set (i := 8) nd rfl (Or.inl rfl) pe_dnewT) (pss_cons (ps_set (i := 9) nd rfl (Or.inr rfl) pe_dnewT) (pss_cons (ps_set (i := 10) nd rfl (Or.inl rfl) (pe_lst pa_nil)) (pss_cons (ps_for (passes_of rfl) rfl (pi_range1 rfl C.b_range (pa_cons pe_int pa_nil)) (pg_name (i := 11) nd rfl (Or.inl rfl)) (pss_cons (ps_set (i := 12) nd rfl (Or.inr rfl) (pe_callS G_law_mix (hr.mono (by decide)) (by rfl) hg_law_mix kp_law_mix hb_law_mix (fun σ => passAt tk σ) (pa_cons (pv 0) (pa_cons (pe_op op_add2 (pe_op op_add2 (pv 1) pe_int) (pv 11)) pa_nil)))) (pss_cons (ps_if (PW.pt (pw_and (pt_cmpR op_gt (pe_callB call_len (by rfl) C.b_len bb_len (pa_cons (pv 5) pa_nil)) pe_int (nomark _)) (pw_and1 (pt_cmpR op_lt (pv 11) (pe_op op_modN (pe_callS G_law_mix (hr.mono (by decide)) (by rfl) hg_law_mix kp_law_mix hb_law_mix (fun σ => passAt tk σ) (pa_cons (pv 0) (pa_cons (pe_op op_add2 (pv 1) pe_int) pa_nil))) pe_int) (nomark _))))) (pss_cons (ps_set (i := 13) nd rfl (Or.inl rfl) (pe_op op_modN (pv 12) (pe_callB call_len (by rfl) C.b_len bb_len (pa_cons (pv 5) pa_nil)))) (pss_one (ps_dput (hu_of hr) (pv 8) (pe_tup (pa_cons (pe_ix ix_seq (pe_ix ix_seq (pv 3) pe_int (fun _ _ => rfl)) (pe_op op_modN (pe_op op_fdivN (pv 12) pe_int) pe_int) (fun _ _ => rfl)) (pa_cons (pv 13) (pa_cons (pe_op op_modN (pe_op op_add2 (pe_op op_add2 (pv 13) pe_int) (pe_op op_modN (pe_op op_fdivN (pv 12) pe_int) (pe_op op_sub (pe_callB call_len (by rfl) C.b_len bb_len (pa_cons (pv 5) pa_nil)) pe_int))) (pe_callB call_len (by rfl) C.b_len bb_len (pa_cons (pv 5) pa_nil))) pa_nil)))) pe_bl rfl))) pss_nil) (pss_cons (ps_if (PW.pt (pw_and (pt_cmpR op_gt (pe_callB call_len (by rfl) C.b_len bb_len (pa_cons (pv 5) pa_nil)) pe_int (nomark _)) (pw_and1 (pt_cmpR op_lt (pv 11) (pe_op op_modN (pe_op op_fdivN (pe_callS G_law_mix (hr.mono (by decide)) (by rfl) hg_law_mix kp_law_mix hb_law_mix (fun σ => passAt tk σ) (pa_cons (pv 0) (pa_cons (pe_op op_add2 (pv 1) pe_int) pa_nil))) pe_int) pe_int) (nomark _))))) (pss_one (ps_dput (hu_of hr) (pv 9) (pe_tup (pa_cons (pe_op op_modN (pe_op op_fdivN (pv 12) pe_int) (pe_callB call_len (by rfl) C.b_len bb_len (pa_cons (pv 5) pa_nil))) (pa_cons (pe_ix ix_seq (pe_ix ix_seq (pv 3) pe_int (fun _ _ => rfl)) (pe_op op_modN (pe_op op_fdivN (pv 12) pe_int) pe_int) (fun _ _ => rfl)) pa_nil))) (pe_callS G_law_bounds (hr.mono (by decide)) (by rfl) hg_law_bounds kp_law_bounds hb_law_bounds (fun σ => passAt tk σ) (pa_cons (pv 12) pa_nil)) rfl)) pss_nil) (pss_one (ps_if (PW.pt (pw_and (pt_cmpR op_gt (pe_callB call_len (by rfl) C.b_len bb_len (pa_cons (pv 7) pa_nil)) pe_int (nomark _)) (pw_and1 (pt_cmpR op_lt (pv 11) (pe_op op_modN (pe_op op_fdivN (pe_callS G_law_mix (hr.mono (by decide)) (by rfl) hg_law_mix kp_law_mix hb_law_mix (fun σ => passAt tk σ) (pa_cons (pv 0) (pa_cons (pe_op op_add2 (pv 1) pe_int) pa_nil))) pe_int) pe_int) (nomark _))))) (pss_one (ps_expr (pe_bm PySem.F.plainAttrs_list PySem.F.slot_list_extend PySem.F.type_list_extend mt_extendR (pv 10) (pa_cons (pe_lc (own := [("_law_i", 13)]) rfl nd (pi_seq (pe_ix ix_seq (pv 7) (pe_op op_modN (pe_op op_fdivN (pv 12) pe_int) (pe_callB call_len (by rfl) C.b_len bb_len (pa_cons (pv 7) pa_nil))) (fun _ _ => rfl))) (blkOk_by (by kernel_rfl)) (fun _ _ _ _ _ => (pg_name (i := 13) nd rfl (Or.inl rfl))) (fun _ _ _ _ _ => pts_nil) (fun _ _ _ _ _ => (pe_tup (pa_cons (pe_ix ix_seq (pe_ix ix_seq (pv 3) pe_int (fun _ _ => rfl)) (pe_op op_modN (pe_op op_fdivN (pv 12) pe_int) pe_int) (fun _ _ => rfl)) (pa_cons (pv 13) pa_nil))))) pa_nil)))) pss_nil)))))) (pss_cons (ps_for (passes_of rfl) rfl (pi_range1 rfl C.b_range (pa_cons (pe_callB call_len (by rfl) C.b_len bb_len (pa_cons (pv 5) pa_nil)) pa_nil)) (pg_name (i := 13) nd rfl (Or.inl rfl)) (pss_cons (ps_set (i := 12) nd rfl (Or.inr rfl) (pe_callS G_law_mix (hr.mono (by decide)) (by rfl) hg_law_mix kp_law_mix hb_law_mix (fun σ => passAt tk σ) (pa_cons (pv 0) (pa_cons (pe_op op_add2 (pe_op op_add2 (pv 1) pe_int) (pv 13)) pa_nil)))) (pss_one (ps_if (PW.pt (pw_and (pt_cmpR (op_eq2 hr.units) (pe_op op_modN (pv 12) pe_int) pe_int (nomark _)) (pw_and1 (pt_not (pt_val (pv 4)))))) (pss_cons (ps_set (i := 14) nd rfl (Or.inl rfl) (pe_callS G_law_lowers (hr.mono (by decide)) (by rfl) hg_law_lowers kp_law_lowers hb_law_lowers (fun σ => passAt tk σ) (pa_cons (pv 2) (pa_cons (pe_ix ix_seq (pe_ix ix_seq (pv 5) (pv 13) (fun _ _ => rfl)) (pe_op op_modN (pe_op op_fdivN (pv 12) pe_int) (pe_callB call_len (by rfl) C.b_len bb_len (pa_cons (pe_ix ix_seq (pv 5) (pv 13) (fun _ _ => rfl)) pa_nil))) (fun _ _ => rfl)) pa_nil)))) (pss_one (ps_asg (pe_tup (pa_cons (pe_ix ix_seq (pv 14) (pe_op op_modN (pe_op op_fdivN (pv 12) pe_int) (pe_callB call_len (by rfl) C.b_len bb_len (pa_cons (pv 14) pa_nil))) (fun _ _ => rfl)) pa_nil)) (pg_sub (pv 5) (pv 13) set_list)))) pss_nil)))) (pss_one (ps_ret (pe_tup (pa_cons (pv 5) (pa_cons (pv 6) (pa_cons (pe_callB (cr_sortedDT rfl) (by rfl) C.b_sorted bb_sorted (pa_cons (pv 8) pa_nil)) (pa_cons (pe_lc (own := [("_law_key", 15)]) rfl nd (pi_seq (pe_callB (cr_sortedDT rfl) (by rfl) C.b_sorted bb_sorted (pa_cons (pv 9) pa_nil))) (blkOk_by (by kernel_rfl)) (fun _ _ _ _ _ => (pg_name (i := 15) nd rfl (Or.inl rfl))) (fun _ _ _ _ _ => pts_nil) (fun _ _ _ _ _ => (pe_op op_add2 (pv 15) (pe_dget (hu_of hr) (pv 9) (pv 15) (fun _ _ => rfl))))) (pa_cons (pv 10) pa_nil)))))))))))))),
    (ds_seq (ds_unpM [5, 6, 7] (tm_call (ta_cons (td_var 0) (ta_cons (td_var 1) (ta_cons (td_var 2) (ta_cons (td_var 4) ta_nil)))))) (ds_seq (ds_setM 8 tm_dnewT) (ds_seq (ds_setM 9 tm_dnewT) (ds_seq (ds_setO 10 (to_lst ta_nil)) (ds_seq (ds_preK [11, 12] (ds_for (vs := [11]) (di_rng1 (tq_cons (td_int).r tq_nil)) (dg_name 11) (ds_kill [11, 12] (ds_seq (ds_set 12 (td_call (ta_cons (td_var 0) (ta_cons (td_op rd_add ((td_op rd_add (tr_var 1) (td_int).r)).r (tr_var 11)) ta_nil)))) (ds_seq (ds_if (tt_and (tt_test ((td_op rd_cmp ((td_cb rc_len (tq_cons (tr_var 5) tq_nil))).r (td_int).r)).r) (tt_test ((td_op rd_cmp (tr_var 11) ((td_op rd_mod ((td_call (ta_cons (td_var 0) (ta_cons (td_op rd_add (tr_var 1) (td_int).r) ta_nil)))).r (td_int).r)).r)).r)) (ds_seq (ds_set 13 (td_op rd_mod (tr_var 12) ((td_cb rc_len (tq_cons (tr_var 5) tq_nil))).r)) (ds_dputT 8 ((td_tup (ta_cons (td_op rd_ix ((td_op rd_ix (tr_var 3) (td_int).r)).r ((td_op rd_mod ((td_op rd_div (tr_var 12) (td_int).r)).r (td_int).r)).r) (ta_cons (td_var 13) (ta_cons (td_op rd_mod ((td_op rd_add ((td_op rd_add (tr_var 13) (td_int).r)).r ((td_op rd_mod ((td_op rd_div (tr_var 12) (td_int).r)).r ((td_op rd_sub ((td_cb rc_len (tq_cons (tr_var 5) tq_nil))).r (td_int).r)).r)).r)).r ((td_cb rc_len (tq_cons (tr_var 5) tq_nil))).r) ta_nil))))).h td_bl)) ds_next) (ds_seq (ds_if (tt_and (tt_test ((td_op rd_cmp ((td_cb rc_len (tq_cons (tr_var 5) tq_nil))).r (td_int).r)).r) (tt_test ((td_op rd_cmp (tr_var 11) ((td_op rd_mod ((td_op rd_div ((td_call (ta_cons (td_var 0) (ta_cons (td_op rd_add (tr_var 1) (td_int).r) ta_nil)))).r (td_int).r)).r (td_int).r)).r)).r)) (ds_dputT 9 ((td_tup (ta_cons (td_op rd_mod ((td_op rd_div (tr_var 12) (td_int).r)).r ((td_cb rc_len (tq_cons (tr_var 5) tq_nil))).r) (ta_cons (td_op rd_ix ((td_op rd_ix (tr_var 3) (td_int).r)).r ((td_op rd_mod ((td_op rd_div (tr_var 12) (td_int).r)).r (td_int).r)).r) ta_nil)))).h (td_call (ta_cons (td_var 12) ta_nil))) ds_next) (ds_if (tt_and (tt_test ((td_op rd_cmp ((td_cb rc_len (tq_cons (tr_var 7) tq_nil))).r (td_int).r)).r) (tt_test ((td_op rd_cmp (tr_var 11) ((td_op rd_mod ((td_op rd_div ((td_call (ta_cons (td_var 0) (ta_cons (td_op rd_add (tr_var 1) (td_int).r) ta_nil)))).r (td_int).r)).r (td_int).r)).r)).r)) (ds_extend 10 (((to_lc (vs := [13]) (di_seq (td_op rd_ix (tr_var 7) ((td_op rd_mod ((td_op rd_div (tr_var 12) (td_int).r)).r ((td_cb rc_len (tq_cons (tr_var 7) tq_nil))).r)).r)) (dg_name 13) tt_yes (td_tup (ta_cons (td_op rd_ix ((td_op rd_ix (tr_var 3) (td_int).r)).r ((td_op rd_mod ((td_op rd_div (tr_var 12) (td_int).r)).r (td_int).r)).r) (ta_cons (td_var 13) ta_nil))))).e).r) ds_next))))))) (ds_seq (ds_preK [12, 13, 14] (ds_for (vs := [13]) (di_rng1 (tq_cons ((td_cb rc_len (tq_cons (tr_var 5) tq_nil))).r tq_nil)) (dg_name 13) (ds_kill [12, 13, 14] (ds_seq (ds_set 12 (td_call (ta_cons (td_var 0) (ta_cons (td_op rd_add ((td_op rd_add (tr_var 1) (td_int).r)).r (tr_var 13)) ta_nil)))) (ds_if (tt_and (tt_test ((td_op rd_eq ((td_op rd_mod (tr_var 12) (td_int).r)).r (td_int).r)).r) (tt_not (tt_B (tr_var 4)))) (ds_seq (ds_set 14 (td_call (ta_cons (td_var 2) (ta_cons (td_op rd_ix ((td_op rd_ix (tr_var 5) (tr_var 13))).r ((td_op rd_mod ((td_op rd_div (tr_var 12) (td_int).r)).r ((td_cb rc_len (tq_cons ((td_op rd_ix (tr_var 5) (tr_var 13))).r tq_nil))).r)).r) ta_nil)))) (ds_lset 5 (td_tup (ta_cons (td_op rd_ix (tr_var 14) ((td_op rd_mod ((td_op rd_div (tr_var 12) (td_int).r)).r ((td_cb rc_len (tq_cons (tr_var 14) tq_nil))).r)).r) ta_nil)) (tr_var 13))) ds_next))))) (ds_frz [5, 6, 10] (ds_ret (td_tup (ta_cons (td_var 5) (ta_cons (td_var 6) (ta_cons ((to_sortT 8)).e (ta_cons ((to_lc (vs := [15]) (di_seq ((to_sortT 9)).e) (dg_name 15) tt_yes (td_op rd_add (tr_var 15) ((td_dgetT 9 (th_var 15))).r))).e (ta_cons (td_var 10) ta_nil))))))))))))))⟩
theorem sc_law_part_for : FnScope ["_law_script", "_law_at", "_law_kinds_here", "_law_allowed", "_law_bounds_here", "_law_words_here", "_law_n", "_law_some", "_law_sizes", "_law_word", "_law_low", "_law_high"] ["_law_script", "_law_at", "_law_kinds_here", "_law_allowed", "_law_bounds_here", "_law_words_here"] (defScope s_law_part_for) := ⟨rfl, rfl, rfl, by decide +kernel, rfl, by decide +kernel, by decide +kernel⟩
theorem ok_law_part_for {P : Program} {w : World} {K : PySem.W.Frag} {mg : Str → Option Value} {base : Heap} (C : Ctx K mg) : Kept P w K mg base 3 6 "_law_part_for" ["_law_script", "_law_at", "_law_kinds_here", "_law_allowed", "_law_bounds_here", "_law_words_here"] d_law_part_for := by
  obtain ⟨fd_law_lowers, kp_law_lowers, hg_law_lowers, hb_law_lowers, G_law_lowers⟩ := ok_law_lowers (P := P) (w := w) (base := base) C
  obtain ⟨fd_law_mix, kp_law_mix, hg_law_mix, hb_law_mix, G_law_mix⟩ := ok_law_mix (P := P) (w := w) (base := base) C
  have nd := sc_law_part_for.nd
  exact kept_of C.F_law_part_for C.g_law_part_for sc_law_part_for rfl rfl (fun _ _ _ _ _ _ us hl => match us, hl with | [_, _, _, _, _, _], _ => rfl) (s := S_law_part_for) fun cdv A outer sh H E hr tk => ⟨_,
    (pss_cons (ps_set (i := 6) nd rfl (Or.inl rfl) (pe_callS G_law_mix (hr.mono (by decide)) (by rfl) hg_law_mix kp_law_mix hb_law_mix (fun σ => passAt tk σ) (pa_cons (pv 0) (pa_cons (pv 1) pa_nil)))) (pss_cons (ps_set (i := 7) nd rfl (Or.inl rfl) (pe_callS G_law_lowers (hr.mono (by decide)) (by rfl) hg_law_lowers kp_law_lowers hb_law_lowers (fun σ => passAt tk σ) (pa_cons (pv 2) (pa_cons (pe_ix ix_seq (pv 3) (pe_op op_modN (pv 6) (pe_callB call_len (by rfl) C.b_len bb_len (pa_cons (pv 3) pa_nil))) (fun _ _ => rfl)) pa_nil)))) (pss_cons (ps_set (i := 8) nd rfl (Or.inl rfl) pe_dnewK) (pss_cons (ps_if (pt_cmpR (op_eq2 hr.units) (pe_op op_modN (pe_op op_fdivN (pv 6) pe_int) pe_int) pe_int (nomark _)) (pss_one (ps_dput (hu_of hr) (pv 8) (pe_ix ix_seq (pe_ix ix_seq (pv 5) pe_int (fun _ _ => rfl)) (pe_op op_modN (pe_op op_fdivN (pv 6) pe_int) pe_int) (fun _ _ => rfl)) (pe_op op_sub (pe_op op_modN (pe_op op_fdivN (pv 6) pe_int) pe_int) pe_int) rfl)) pss_nil) (pss_cons (ps_for (passes_of rfl) rfl (pi_seq (pv 4)) (pg_tup rfl (pgs_cons (pg_name (i := 9) nd rfl (Or.inl rfl)) (pgs_cons (pg_name (i := 10) nd rfl (Or.inl rfl)) (pgs_cons (pg_name (i := 11) nd rfl (Or.inl rfl)) pgs_nil)))) (pss_one (ps_if (pt_cmpR op_isN (pv 10) pe_non (nomark _)) (pss_one (ps_dput (hu_of hr) (pv 8) (pv 9) (pe_op op_sub (pv 11) (pe_op op_modN (pe_op op_fdivN (pv 6) pe_int) pe_int)) rfl)) (pss_one (ps_if (pt_cmpR op_isN (pv 11) pe_non (nomark _)) (pss_one (ps_dput (hu_of hr) (pv 8) (pv 9) (pe_op op_add2 (pv 10) (pe_op op_modN (pe_op op_fdivN (pv 6) pe_int) pe_int)) rfl)) (pss_one (ps_dput (hu_of hr) (pv 8) (pv 9) (pe_op op_add2 (pv 10) (pe_op op_modN (pe_op op_fdivN (pv 6) pe_int) (pe_callB (call_max2 rfl) (by rfl) C.b_max bb_max (pa_cons pe_int (pa_cons (pe_op op_add2 (pe_op op_sub (pv 11) (pv 10)) pe_int) pa_nil))))) rfl))))))) (pss_one (ps_ret (pe_tup (pa_cons (pe_ix ix_seq (pv 7) (pe_op op_modN (pe_op op_fdivN (pv 6) pe_int) (pe_callB call_len (by rfl) C.b_len bb_len (pa_cons (pv 7) pa_nil))) (fun _ _ => rfl)) (pa_cons (pe_callB (cr_sortedItK rfl) (by rfl) C.b_sorted bb_sorted (pa_cons (pe_bm0 PySem.F.plainAttrs_dict PySem.F.slot_dict_items PySem.F.type_dict_items mt_itemsK (pv 8)) pa_nil)) pa_nil)))))))))),
    (ds_seq (ds_set 6 (td_call (ta_cons (td_var 0) (ta_cons (td_var 1) ta_nil)))) (ds_seq (ds_set 7 (td_call (ta_cons (td_var 2) (ta_cons (td_op rd_ix (tr_var 3) ((td_op rd_mod (tr_var 6) ((td_cb rc_len (tq_cons (tr_var 3) tq_nil))).r)).r) ta_nil)))) (ds_seq (ds_setO 8 to_dnewK) (ds_seq (ds_if (tt_test ((td_op rd_eq ((td_op rd_mod ((td_op rd_div (tr_var 6) (td_int).r)).r (td_int).r)).r (td_int).r)).r) (ds_dput 8 ((td_op rd_ix ((td_op rd_ix (tr_var 5) (td_int).r)).r ((td_op rd_mod ((td_op rd_div (tr_var 6) (td_int).r)).r (td_int).r)).r)).r (td_op rd_sub ((td_op rd_mod ((td_op rd_div (tr_var 6) (td_int).r)).r (td_int).r)).r (td_int).r)) ds_next) (ds_seq (ds_preK [9, 10, 11] (ds_for (vs := [9, 10, 11]) (di_seq (td_var 4)) (dg_tup (dgs_cons (dg_name 9) (dgs_cons (dg_name 10) (dgs_cons (dg_name 11) dgs_nil)))) (ds_kill [9, 10, 11] (ds_if (tt_test ((td_op rd_isN (tr_var 10) (td_non).r)).r) (ds_dput 8 (tr_var 9) (td_op rd_sub (tr_var 11) ((td_op rd_mod ((td_op rd_div (tr_var 6) (td_int).r)).r (td_int).r)).r)) (ds_if (tt_test ((td_op rd_isN (tr_var 11) (td_non).r)).r) (ds_dput 8 (tr_var 9) (td_op rd_add (tr_var 10) ((td_op rd_mod ((td_op rd_div (tr_var 6) (td_int).r)).r (td_int).r)).r)) (ds_dput 8 (tr_var 9) (td_op rd_add (tr_var 10) ((td_op rd_mod ((td_op rd_div (tr_var 6) (td_int).r)).r ((td_cb rc_max2 (tq_cons (td_int).r (tq_cons ((td_op rd_add ((td_op rd_sub (tr_var 11) (tr_var 10))).r (td_int).r)).r tq_nil)))).r)).r))))))) (ds_ret (td_tup (ta_cons (td_op rd_ix (tr_var 7) ((td_op rd_mod ((td_op rd_div (tr_var 6) (td_int).r)).r ((td_cb rc_len (tq_cons (tr_var 7) tq_nil))).r)).r) (ta_cons ((to_sortIt 8)).e ta_nil)))))))))⟩
theorem sc_law_thing_for : FnScope ["_law_script", "_law_at", "_law_kinds_here", "_law_reading_here", "_law_words_here", "_law_parts", "_law_i", "_law_allowed", "_law_bounds_here", "_law_m", "_law_k", "_law_kind", "_law_order", "_law_spots", "_law_joins", "_law_word", "_law_j", "_law_steps", "_law_n", "_law_row"] ["_law_script", "_law_at", "_law_kinds_here", "_law_reading_here", "_law_words_here"] (defScope s_law_thing_for) := ⟨rfl, rfl, rfl, by decide +kernel, rfl, by decide +kernel, by decide +kernel⟩
theorem ok_law_thing_for {P : Program} {w : World} {K : PySem.W.Frag} {mg : Str → Option Value} {base : Heap} (C : Ctx K mg) : Kept P w K mg base 4 5 "_law_thing_for" ["_law_script", "_law_at", "_law_kinds_here", "_law_reading_here", "_law_words_here"] d_law_thing_for := by
  obtain ⟨fd_law_mix, kp_law_mix, hg_law_mix, hb_law_mix, G_law_mix⟩ := ok_law_mix (P := P) (w := w) (base := base) C
  obtain ⟨fd_law_part_for, kp_law_part_for, hg_law_part_for, hb_law_part_for, G_law_part_for⟩ := ok_law_part_for (P := P) (w := w) (base := base) C
  have nd := sc_law_thing_for.nd
  exact kept_of C.F_law_thing_for C.g_law_thing_for sc_law_thing_for rfl rfl (fun _ _ _ _ _ _ us hl => match us, hl with | [_, _, _, _, _], _ => rfl) (s := S_law_thing_for) fun cdv A outer sh H E hr tk => ⟨_,
    (pss_cons (ps_set (i := 5) nd rfl (Or.inr rfl) (pe_lst pa_nil)) (pss_cons (ps_for (passes_of rfl) rfl (pi_enum (by rfl) C.b_enumerate (pa_cons (pe_ix ix_seq (pv 3) pe_int (fun _ _ => rfl)) pa_nil)) (pg_tup rfl (pgs_cons (pg_name (i := 6) nd rfl (Or.inr rfl)) (pgs_cons (pg_name (i := 7) nd rfl (Or.inl rfl)) pgs_nil))) (pss_cons (ps_setLc (i := 8) (own := [("_law_row", 19)]) rfl nd rfl rfl (sw_true rfl rfl rfl (by decide +kernel)) (pi_seq (pe_ix ix_seq (pv 3) pe_int (fun _ _ => rfl))) (blkOk_by (by kernel_rfl)) (fun _ _ _ _ _ => (pg_name (i := 19) nd rfl (Or.inl rfl))) (fun _ _ _ _ _ => (pts_one (pt_cmpR (op_eq2 hr.units) (pe_ix ix_seq (pv 19) pe_int (fun _ _ => rfl)) (pv 6) (nomark _)))) (fun _ _ _ _ _ => (pe_slice sl_2 (pv 19) (po_some pe_int) po_none))) (pss_one (ps_expr (pe_bm PySem.F.plainAttrs_list PySem.F.slot_list_append PySem.F.type_list_append mt_append (pv 5) (pa_cons (pe_callS G_law_part_for (hr.mono (by decide)) (by rfl) hg_law_part_for kp_law_part_for hb_law_part_for (fun σ => passAt tk σ) (pa_cons (pv 0) (pa_cons (pe_op op_add2 (pv 1) (pv 6)) (pa_cons (pv 2) (pa_cons (pv 7) (pa_cons (pv 8) (pa_cons (pv 4) pa_nil))))))) pa_nil)))))) (pss_cons (ps_set (i := 9) nd rfl (Or.inl rfl) (pe_callS G_law_mix (hr.mono (by decide)) (by rfl) hg_law_mix kp_law_mix hb_law_mix (fun σ => passAt tk σ) (pa_cons (pv 0) (pa_cons (pe_op op_add2 (pv 1) pe_int) pa_nil)))) (pss_cons (ps_for (passes_of rfl) rfl (pi_range1 rfl C.b_range (pa_cons (pe_op op_modN (pv 9) pe_int) pa_nil)) (pg_name (i := 10) nd rfl (Or.inl rfl)) (pss_cons (ps_set (i := 11) nd rfl (Or.inl rfl) (pe_ix ix_seq (pe_ix ix_seq (pv 2) (pe_op op_modN (pe_op op_fdivN (pv 9) (pe_op op_add2 (pv 10) pe_int)) (pe_callB call_len (by rfl) C.b_len bb_len (pa_cons (pv 2) pa_nil))) (fun _ _ => rfl)) pe_int (fun _ _ => rfl))) (pss_one (ps_expr (pe_bm PySem.F.plainAttrs_list PySem.F.slot_list_append PySem.F.type_list_append mt_append (pv 5) (pa_cons (pe_callS G_law_part_for (hr.mono (by decide)) (by rfl) hg_law_part_for kp_law_part_for hb_law_part_for (fun σ => passAt tk σ) (pa_cons (pv 0) (pa_cons (pe_op op_add2 (pe_op op_add2 (pv 1) pe_int) (pv 10)) (pa_cons (pv 2) (pa_cons (pe_lst (pa_cons (pv 11) pa_nil)) (pa_cons (pe_lst pa_nil) (pa_cons (pv 4) pa_nil))))))) pa_nil)))))) (pss_cons (ps_set (i := 12) nd rfl (Or.inr rfl) (pe_lst pa_nil)) (pss_cons (ps_for (passes_of rfl) rfl (pi_range1 rfl C.b_range (pa_cons (pe_callB call_len (by rfl) C.b_len bb_len (pa_cons (pv 5) pa_nil)) pa_nil)) (pg_name (i := 10) nd rfl (Or.inl rfl)) (pss_one (ps_expr (pe_bm PySem.F.plainAttrs_list PySem.F.slot_list_insert PySem.F.type_list_insert mt_insert (pv 12) (pa_cons (pe_op op_modN (pe_op op_fdivN (pv 9) (pe_op op_add2 (pe_op op_mul2 pe_int (pv 10)) pe_int)) (pe_op op_add2 (pv 10) pe_int)) (pa_cons (pv 10) pa_nil)))))) (pss_cons (ps_set (i := 13) nd rfl (Or.inr rfl) (pe_lc (own := [("_law_k", 10)]) rfl nd (pi_range1 rfl C.b_range (pa_cons (pe_callB call_len (by rfl) C.b_len bb_len (pa_cons (pv 5) pa_nil)) pa_nil)) (blkOk_by (by kernel_rfl)) (fun _ _ _ _ _ => (pg_name (i := 10) nd rfl (Or.inl rfl))) (fun _ _ _ _ _ => pts_nil) (fun _ _ _ _ _ => (pe_bm PySem.F.plainAttrs_list PySem.F.slot_list_index PySem.F.type_list_index mt_index (pv 12) (pa_cons (pv 10) pa_nil))))) (pss_cons (ps_set (i := 14) nd rfl (Or.inl rfl) pe_dnewT) (pss_cons (ps_for (passes_of rfl) rfl (pi_seq (pe_ix ix_seq (pv 3) pe_int (fun _ _ => rfl))) (pg_tup rfl (pgs_cons (pg_name (i := 15) nd rfl (Or.inl rfl)) (pgs_cons (pg_name (i := 6) nd rfl (Or.inr rfl)) (pgs_cons (pg_name (i := 16) nd rfl (Or.inl rfl)) pgs_nil)))) (pss_one (ps_dput (hu_of hr) (pv 14) (pe_tup (pa_cons (pv 15) (pa_cons (pe_ix ix_seq (pv 13) (pv 6) (fun _ _ => rfl)) (pa_cons (pe_ix ix_seq (pv 13) (pv 16) (fun _ _ => rfl)) pa_nil)))) pe_bl rfl))) (pss_cons (ps_setLc (i := 17) (own := [("_law_word", 15), ("_law_i", 6)]) rfl nd rfl rfl (sw_true rfl rfl rfl (by decide +kernel)) (pi_seq (pe_ix ix_seq (pv 3) pe_int (fun _ _ => rfl))) (blkOk_by (by kernel_rfl)) (fun _ _ _ _ _ => (pg_tup rfl (pgs_cons (pg_name (i := 15) nd rfl (Or.inl rfl)) (pgs_cons (pg_name (i := 6) nd rfl (Or.inl rfl)) pgs_nil)))) (fun _ _ _ _ _ => pts_nil) (fun _ _ _ _ _ => (pe_tup (pa_cons (pv 15) (pa_cons (pe_ix ix_seq (pv 13) (pv 6) (fun _ _ => rfl)) pa_nil))))) (pss_cons (ps_for (passes_of rfl) rfl (pi_range1 rfl C.b_range (pa_cons pe_int pa_nil)) (pg_name (i := 10) nd rfl (Or.inl rfl)) (pss_cons (ps_set (i := 18) nd rfl (Or.inl rfl) (pe_callS G_law_mix (hr.mono (by decide)) (by rfl) hg_law_mix kp_law_mix hb_law_mix (fun σ => passAt tk σ) (pa_cons (pv 0) (pa_cons (pe_op op_add2 (pe_op op_add2 (pv 1) pe_int) (pv 10)) pa_nil)))) (pss_cons (ps_if (PW.pt (pw_and (pt_cmpR op_gt (pe_callB call_len (by rfl) C.b_len bb_len (pa_cons (pv 5) pa_nil)) pe_int (nomark _)) (pw_and1 (pt_cmpR (op_eq2 hr.units) (pe_op op_modN (pv 18) pe_int) pe_int (nomark _))))) (pss_cons (ps_set (i := 6) nd rfl (Or.inr rfl) (pe_op op_modN (pe_op op_fdivN (pv 18) pe_int) (pe_callB call_len (by rfl) C.b_len bb_len (pa_cons (pv 5) pa_nil)))) (pss_one (ps_dput (hu_of hr) (pv 14) (pe_tup (pa_cons (pe_ix ix_seq (pe_ix ix_seq (pv 4) pe_int (fun _ _ => rfl)) (pe_op op_modN (pe_op op_fdivN (pv 18) pe_int) pe_int) (fun _ _ => rfl)) (pa_cons (pv 6) (pa_cons (pe_op op_modN (pe_op op_add2 (pe_op op_add2 (pv 6) pe_int) (pe_op op_modN (pe_op op_fdivN (pv 18) pe_int) (pe_op op_sub (pe_callB call_len (by rfl) C.b_len bb_len (pa_cons (pv 5) pa_nil)) pe_int))) (pe_callB call_len (by rfl) C.b_len bb_len (pa_cons (pv 5) pa_nil))) pa_nil)))) pe_bl rfl))) pss_nil) (pss_one (ps_if (PW.pt (pw_and (pt_cmpR op_gt (pe_callB call_len (by rfl) C.b_len bb_len (pa_cons (pv 5) pa_nil)) pe_int (nomark _)) (pw_and1 (pt_cmpR (op_eq2 hr.units) (pe_op op_modN (pv 18) pe_int) pe_int (nomark _))))) (pss_one (ps_expr (pe_bm PySem.F.plainAttrs_list PySem.F.slot_list_insert PySem.F.type_list_insert mt_insert (pv 17) (pa_cons (pe_op op_modN (pe_op op_fdivN (pv 18) pe_int) (pe_op op_add2 (pe_callB call_len (by rfl) C.b_len bb_len (pa_cons (pv 17) pa_nil)) pe_int)) (pa_cons (pe_tup (pa_cons (pe_ix ix_seq (pe_ix ix_seq (pv 4) pe_int (fun _ _ => rfl)) (pe_op op_modN (pe_op op_fdivN (pv 18) pe_int) pe_int) (fun _ _ => rfl)) (pa_cons (pe_op op_modN (pe_op op_fdivN (pv 18) pe_int) (pe_callB call_len (by rfl) C.b_len bb_len (pa_cons (pv 5) pa_nil))) pa_nil))) pa_nil))))) pss_nil))))) (pss_one (ps_ret (pe_tup (pa_cons (pe_lc (own := [("_law_k", 10)]) rfl nd (pi_seq (pv 12)) (blkOk_by (by kernel_rfl)) (fun _ _ _ _ _ => (pg_name (i := 10) nd rfl (Or.inl rfl))) (fun _ _ _ _ _ => pts_nil) (fun _ _ _ _ _ => (pe_ix ix_seq (pv 5) (pv 10) (fun _ _ => rfl)))) (pa_cons (pe_callB (cr_sortedDT rfl) (by rfl) C.b_sorted bb_sorted (pa_cons (pv 14) pa_nil)) (pa_cons (pv 17) pa_nil))))))))))))))))),
    (ds_seq (ds_setO 5 (to_lst ta_nil)) (ds_seq (ds_preK [7, 8] (ds_for (vs := [6, 7]) (di_enum (ta_cons (td_op rd_ix (tr_var 3) (td_int).r) ta_nil)) (dg_tup (dgs_cons (dg_name 6) (dgs_cons (dg_name 7) dgs_nil))) (ds_kill [7, 8] (ds_seq (ds_set 8 ((to_lc (vs := [19]) (di_seq (td_op rd_ix (tr_var 3) (td_int).r)) (dg_name 19) (tt_test ((td_op rd_eq ((td_op rd_ix (tr_var 19) (td_int).r)).r (tr_var 6))).r) (td_sl (tr_var 19) (tp_some (td_int).r) tp_no))).e) (ds_append 5 (td_call (ta_cons (td_var 0) (ta_cons (td_op rd_add (tr_var 1) (tr_var 6)) (ta_cons (td_var 2) (ta_cons (td_var 7) (ta_cons (td_var 8) (ta_cons (td_var 4) ta_nil)))))))))))) (ds_seq (ds_set 9 (td_call (ta_cons (td_var 0) (ta_cons (td_op rd_add (tr_var 1) (td_int).r) ta_nil)))) (ds_seq (ds_preK [11] (ds_for (vs := [10]) (di_rng1 (tq_cons ((td_op rd_mod (tr_var 9) (td_int).r)).r tq_nil)) (dg_name 10) (ds_kill [11] (ds_seq (ds_set 11 (td_op rd_ix ((td_op rd_ix (tr_var 2) ((td_op rd_mod ((td_op rd_div (tr_var 9) ((td_op rd_add (tr_var 10) (td_int).r)).r)).r ((td_cb rc_len (tq_cons (tr_var 2) tq_nil))).r)).r)).r (td_int).r)) (ds_append 5 (td_call (ta_cons (td_var 0) (ta_cons (td_op rd_add ((td_op rd_add (tr_var 1) (td_int).r)).r (tr_var 10)) (ta_cons (td_var 2) (ta_cons ((to_lst (ta_cons (td_var 11) ta_nil))).e (ta_cons ((to_lst ta_nil)).e (ta_cons (td_var 4) ta_nil)))))))))))) (ds_seq (ds_setO 12 (to_lst ta_nil)) (ds_seq (ds_preK [] (ds_for (vs := [10]) (di_rng1 (tq_cons ((td_cb rc_len (tq_cons (tr_var 5) tq_nil))).r tq_nil)) (dg_name 10) (ds_kill [] (ds_insertD 12 (td_op rd_mod ((td_op rd_div (tr_var 9) ((td_op rd_add ((td_op rd_mul (td_int).r (tr_var 10))).r (td_int).r)).r)).r ((td_op rd_add (tr_var 10) (td_int).r)).r) (td_var 10))))) (ds_seq (ds_set 13 ((to_lc (vs := [10]) (di_rng1 (tq_cons ((td_cb rc_len (tq_cons (tr_var 5) tq_nil))).r tq_nil)) (dg_name 10) tt_yes (td_index (tr_var 12) (tr_var 10)))).e) (ds_seq (ds_setM 14 tm_dnewT) (ds_seq (ds_preK [16] (ds_for (vs := [15, 6, 16]) (di_seq (td_op rd_ix (tr_var 3) (td_int).r)) (dg_tup (dgs_cons (dg_name 15) (dgs_cons (dg_name 6) (dgs_cons (dg_name 16) dgs_nil)))) (ds_kill [16] (ds_dputT 14 ((td_tup (ta_cons (td_var 15) (ta_cons (td_op rd_ix (tr_var 13) (tr_var 6)) (ta_cons (td_op rd_ix (tr_var 13) (tr_var 16)) ta_nil))))).h td_bl)))) (ds_seq (ds_setO 17 (to_lc (vs := [15, 6]) (di_seq (td_op rd_ix (tr_var 3) (td_int).r)) (dg_tup (dgs_cons (dg_name 15) (dgs_cons (dg_name 6) dgs_nil))) tt_yes (td_tup (ta_cons (td_var 15) (ta_cons (td_op rd_ix (tr_var 13) (tr_var 6)) ta_nil))))) (ds_seq (ds_preK [6, 18] (ds_for (vs := [10]) (di_rng1 (tq_cons (td_int).r tq_nil)) (dg_name 10) (ds_kill [6, 18] (ds_seq (ds_set 18 (td_call (ta_cons (td_var 0) (ta_cons (td_op rd_add ((td_op rd_add (tr_var 1) (td_int).r)).r (tr_var 10)) ta_nil)))) (ds_seq (ds_if (tt_and (tt_test ((td_op rd_cmp ((td_cb rc_len (tq_cons (tr_var 5) tq_nil))).r (td_int).r)).r) (tt_test ((td_op rd_eq ((td_op rd_mod (tr_var 18) (td_int).r)).r (td_int).r)).r)) (ds_seq (ds_set 6 (td_op rd_mod ((td_op rd_div (tr_var 18) (td_int).r)).r ((td_cb rc_len (tq_cons (tr_var 5) tq_nil))).r)) (ds_dputT 14 ((td_tup (ta_cons (td_op rd_ix ((td_op rd_ix (tr_var 4) (td_int).r)).r ((td_op rd_mod ((td_op rd_div (tr_var 18) (td_int).r)).r (td_int).r)).r) (ta_cons (td_var 6) (ta_cons (td_op rd_mod ((td_op rd_add ((td_op rd_add (tr_var 6) (td_int).r)).r ((td_op rd_mod ((td_op rd_div (tr_var 18) (td_int).r)).r ((td_op rd_sub ((td_cb rc_len (tq_cons (tr_var 5) tq_nil))).r (td_int).r)).r)).r)).r ((td_cb rc_len (tq_cons (tr_var 5) tq_nil))).r) ta_nil))))).h td_bl)) ds_next) (ds_if (tt_and (tt_test ((td_op rd_cmp ((td_cb rc_len (tq_cons (tr_var 5) tq_nil))).r (td_int).r)).r) (tt_test ((td_op rd_eq ((td_op rd_mod (tr_var 18) (td_int).r)).r (td_int).r)).r)) (ds_insertD 17 (td_op rd_mod ((td_op rd_div (tr_var 18) (td_int).r)).r ((td_op rd_add ((td_cb rc_len (tq_cons (tr_var 17) tq_nil))).r (td_int).r)).r) (td_tup (ta_cons (td_op rd_ix ((td_op rd_ix (tr_var 4) (td_int).r)).r ((td_op rd_mod ((td_op rd_div (tr_var 18) (td_int).r)).r (td_int).r)).r) (ta_cons (td_op rd_mod ((td_op rd_div (tr_var 18) (td_int).r)).r ((td_cb rc_len (tq_cons (tr_var 5) tq_nil))).r) ta_nil)))) ds_next)))))) (ds_frz [12, 17] (ds_ret (td_tup (ta_cons ((to_lc (vs := [10]) (di_seq (td_var 12)) (dg_name 10) tt_yes (td_op rd_ix (tr_var 5) (tr_var 10)))).e (ta_cons ((to_sortT 14)).e (ta_cons (td_var 17) ta_nil)))))))))))))))))⟩
theorem sc_law_spoilt : FnScope ["_law_script", "_law_at", "_law_kinds_here", "_law_thing", "_law_words_here", "_law_parts", "_law_joins", "_law_steps", "_law_n", "_law_k", "_law_kind", "_law_sizes", "_law_word", "_law_number"] ["_law_script", "_law_at", "_law_kinds_here", "_law_thing", "_law_words_here"] (defScope s_law_spoilt) := ⟨rfl, rfl, rfl, by decide +kernel, rfl, by decide +kernel, by decide +kernel⟩
theorem ok_law_spoilt {P : Program} {w : World} {K : PySem.W.Frag} {mg : Str → Option Value} {base : Heap} (C : Ctx K mg) : Kept P w K mg base 2 5 "_law_spoilt" ["_law_script", "_law_at", "_law_kinds_here", "_law_thing", "_law_words_here"] d_law_spoilt := by
  obtain ⟨fd_law_mix, kp_law_mix, hg_law_mix, hb_law_mix, G_law_mix⟩ := ok_law_mix (P := P) (w := w) (base := base) C
  have nd := sc_law_spoilt.nd
  exact kept_of C.F_law_spoilt C.g_law_spoilt sc_law_spoilt rfl rfl (fun _ _ _ _ _ _ us hl => match us, hl with | [_, _, _, _, _], _ => rfl) (s := S_law_spoilt) fun cdv A outer sh H E hr tk => ⟨_,
    (pss_cons (ps_asg (pv 3) (pg_tup rfl (pgs_cons (pg_name (i := 5) nd rfl (Or.inl rfl)) (pgs_cons (pg_name (i := 6) nd rfl (Or.inl rfl)) (pgs_cons (pg_name (i := 7) nd rfl (Or.inl rfl)) pgs_nil))))) (pss_cons (ps_set (i := 8) nd rfl (Or.inr rfl) (pe_callS G_law_mix (hr.mono (by decide)) (by rfl) hg_law_mix kp_law_mix hb_law_mix (fun σ => passAt tk σ) (pa_cons (pv 0) (pa_cons (pv 1) pa_nil)))) (pss_cons (ps_set (i := 9) nd rfl (Or.inl rfl) (pe_op op_modN (pe_op op_fdivN (pv 8) pe_int) (pe_callB (call_max2 rfl) (by rfl) C.b_max bb_max (pa_cons pe_int (pa_cons (pe_callB call_len (by rfl) C.b_len bb_len (pa_cons (pv 5) pa_nil)) pa_nil))))) (pss_cons (ps_set (i := 10) nd rfl (Or.inl rfl) (pe_ix ix_seq (pe_ix ix_seq (pv 2) (pe_op op_modN (pe_op op_fdivN (pv 8) pe_int) (pe_callB call_len (by rfl) C.b_len bb_len (pa_cons (pv 2) pa_nil))) (fun _ _ => rfl)) pe_int (fun _ _ => rfl))) (pss_cons (ps_if (pt_cmpR (op_eq2 hr.units) (pe_op op_modN (pv 8) pe_int) pe_int (nomark _)) (pss_one (ps_ret (pe_tup (pa_cons (pv 5) (pa_cons (pe_op op_add2 (pe_slice sl_2 (pv 6) po_none (po_some (pv 9))) (pe_slice sl_2 (pv 6) (po_some (pe_op op_add2 (pv 9) pe_int)) po_none)) (pa_cons (pv 7) pa_nil)))))) pss_nil) (pss_cons (ps_if (pt_cmpR (op_eq2 hr.units) (pe_op op_modN (pv 8) pe_int) pe_int (nomark _)) (pss_one (ps_ret (pe_tup (pa_cons (pv 5) (pa_cons (pv 6) (pa_cons (pe_op op_add2 (pe_slice sl_2 (pv 7) po_none (po_some (pv 9))) (pe_slice sl_2 (pv 7) (po_some (pe_op op_add2 (pv 9) pe_int)) po_none)) pa_nil)))))) pss_nil) (pss_cons (ps_if (pt_cmpR (op_eq2 hr.units) (pe_op op_modN (pv 8) pe_int) pe_int (nomark _)) (pss_one (ps_ret (pe_tup (pa_cons (pv 5) (pa_cons (pv 6) (pa_cons (pe_listRev rfl (by rfl) C.b_list (by rfl) C.b_reversed (pv 7)) pa_nil)))))) pss_nil) (pss_cons (ps_if (PW.pt (pw_or (pt_cmpR (op_eq2 hr.units) (pe_op op_modN (pv 8) pe_int) pe_int (nomark _)) (pw_or1 (pt_cmpR (op_eq2 hr.units) (pv 5) (pe_lst pa_nil) (nomark _))))) (pss_one (ps_ret (pe_tup (pa_cons (pe_op op_add2 (pv 5) (pe_lst (pa_cons (pe_tup (pa_cons (pv 10) (pa_cons (pe_lst (pa_cons (pe_tup (pa_cons (pe_ix ix_seq (pe_ix ix_seq (pv 4) pe_int (fun _ _ => rfl)) pe_int (fun _ _ => rfl)) (pa_cons (pe_op op_modN (pe_op op_fdivN (pv 8) pe_int) pe_int) pa_nil))) pa_nil)) pa_nil))) pa_nil))) (pa_cons (pv 6) (pa_cons (pv 7) pa_nil)))))) pss_nil) (pss_cons (ps_if (pt_cmpR (op_eq2 hr.units) (pe_op op_modN (pv 8) pe_int) pe_int (nomark _)) (pss_one (ps_ret (pe_tup (pa_cons (pe_op op_add2 (pe_op op_add2 (pe_slice sl_2 (pv 5) po_none (po_some (pv 9))) (pe_lst (pa_cons (pe_tup (pa_cons (pv 10) (pa_cons (pe_ix ix_seq (pe_ix ix_seq (pv 5) (pv 9) (fun _ _ => rfl)) pe_int (fun _ _ => rfl)) pa_nil))) pa_nil))) (pe_slice sl_2 (pv 5) (po_some (pe_op op_add2 (pv 9) pe_int)) po_none)) (pa_cons (pv 6) (pa_cons (pv 7) pa_nil)))))) pss_nil) (pss_cons (ps_if (pt_cmpR (op_eq2 hr.units) (pe_op op_modN (pv 8) pe_int) pe_int (nomark _)) (pss_one (ps_ret (pe_tup (pa_cons (pe_op op_add2 (pe_op op_add2 (pe_slice sl_2 (pv 5) po_none (po_some (pv 9))) (pe_lst (pa_cons (pe_tup (pa_cons (pe_ix ix_seq (pe_ix ix_seq (pv 5) (pv 9) (fun _ _ => rfl)) pe_int (fun _ _ => rfl)) (pa_cons (pe_lst pa_nil) pa_nil))) pa_nil))) (pe_slice sl_2 (pv 5) (po_some (pe_op op_add2 (pv 9) pe_int)) po_none)) (pa_cons (pv 6) (pa_cons (pv 7) pa_nil)))))) pss_nil) (pss_cons (ps_setLc (i := 11) (own := [("_law_word", 12), ("_law_number", 13)]) rfl nd rfl rfl (sw_true rfl rfl rfl (by decide +kernel)) (pi_seq (pe_ix ix_seq (pe_ix ix_seq (pv 5) (pv 9) (fun _ _ => rfl)) pe_int (fun _ _ => rfl))) (blkOk_by (by kernel_rfl)) (fun _ _ _ _ _ => (pg_tup rfl (pgs_cons (pg_name (i := 12) nd rfl (Or.inl rfl)) (pgs_cons (pg_name (i := 13) nd rfl (Or.inl rfl)) pgs_nil)))) (fun _ _ _ _ _ => pts_nil) (fun _ _ _ _ _ => (pe_tup (pa_cons (pv 12) (pa_cons (pe_op op_sub (pe_op op_add2 (pv 13) (pe_op op_modN (pe_op op_fdivN (pv 8) pe_int) pe_int)) pe_int) pa_nil))))) (pss_one (ps_ret (pe_tup (pa_cons (pe_op op_add2 (pe_op op_add2 (pe_slice sl_2 (pv 5) po_none (po_some (pv 9))) (pe_lst (pa_cons (pe_tup (pa_cons (pe_ix ix_seq (pe_ix ix_seq (pv 5) (pv 9) (fun _ _ => rfl)) pe_int (fun _ _ => rfl)) (pa_cons (pv 11) pa_nil))) pa_nil))) (pe_slice sl_2 (pv 5) (po_some (pe_op op_add2 (pv 9) pe_int)) po_none)) (pa_cons (pv 6) (pa_cons (pv 7) pa_nil))))))))))))))))),
    (ds_seq (ds_asg (vs := [5, 6, 7]) (td_var 3) (dg_tup (dgs_cons (dg_name 5) (dgs_cons (dg_name 6) (dgs_cons (dg_name 7) dgs_nil))))) (ds_seq (ds_set 8 (td_call (ta_cons (td_var 0) (ta_cons (td_var 1) ta_nil)))) (ds_seq (ds_set 9 (td_op rd_mod ((td_op rd_div (tr_var 8) (td_int).r)).r ((td_cb rc_max2 (tq_cons (td_int).r (tq_cons ((td_cb rc_len (tq_cons (tr_var 5) tq_nil))).r tq_nil)))).r)) (ds_seq (ds_set 10 (td_op rd_ix ((td_op rd_ix (tr_var 2) ((td_op rd_mod ((td_op rd_div (tr_var 8) (td_int).r)).r ((td_cb rc_len (tq_cons (tr_var 2) tq_nil))).r)).r)).r (td_int).r)) (ds_seq (ds_if (tt_test ((td_op rd_eq ((td_op rd_mod (tr_var 8) (td_int).r)).r (td_int).r)).r) (ds_ret (td_tup (ta_cons (td_var 5) (ta_cons (td_op rd_add ((td_sl (tr_var 6) tp_no (tp_some (tr_var 9)))).r ((td_sl (tr_var 6) (tp_some ((td_op rd_add (tr_var 9) (td_int).r)).r) tp_no)).r) (ta_cons (td_var 7) ta_nil))))) ds_next) (ds_seq (ds_if (tt_test ((td_op rd_eq ((td_op rd_mod (tr_var 8) (td_int).r)).r (td_int).r)).r) (ds_ret (td_tup (ta_cons (td_var 5) (ta_cons (td_var 6) (ta_cons (td_op rd_add ((td_sl (tr_var 7) tp_no (tp_some (tr_var 9)))).r ((td_sl (tr_var 7) (tp_some ((td_op rd_add (tr_var 9) (td_int).r)).r) tp_no)).r) ta_nil))))) ds_next) (ds_seq (ds_if (tt_test ((td_op rd_eq ((td_op rd_mod (tr_var 8) (td_int).r)).r (td_int).r)).r) (ds_ret (td_tup (ta_cons (td_var 5) (ta_cons (td_var 6) (ta_cons ((to_listRev (tr_var 7))).e ta_nil))))) ds_next) (ds_seq (ds_if (tt_or (tt_test ((td_op rd_eq ((td_op rd_mod (tr_var 8) (td_int).r)).r (td_int).r)).r) (tt_test ((td_op rd_eq (tr_var 5) (((to_lst ta_nil)).e).r)).r)) (ds_ret (td_tup (ta_cons (td_op rd_add (tr_var 5) (((to_lst (ta_cons (td_tup (ta_cons (td_var 10) (ta_cons ((to_lst (ta_cons (td_tup (ta_cons (td_op rd_ix ((td_op rd_ix (tr_var 4) (td_int).r)).r (td_int).r) (ta_cons (td_op rd_mod ((td_op rd_div (tr_var 8) (td_int).r)).r (td_int).r) ta_nil))) ta_nil))).e ta_nil))) ta_nil))).e).r) (ta_cons (td_var 6) (ta_cons (td_var 7) ta_nil))))) ds_next) (ds_seq (ds_if (tt_test ((td_op rd_eq ((td_op rd_mod (tr_var 8) (td_int).r)).r (td_int).r)).r) (ds_ret (td_tup (ta_cons (td_op rd_add ((td_op rd_add ((td_sl (tr_var 5) tp_no (tp_some (tr_var 9)))).r (((to_lst (ta_cons (td_tup (ta_cons (td_var 10) (ta_cons (td_op rd_ix ((td_op rd_ix (tr_var 5) (tr_var 9))).r (td_int).r) ta_nil))) ta_nil))).e).r)).r ((td_sl (tr_var 5) (tp_some ((td_op rd_add (tr_var 9) (td_int).r)).r) tp_no)).r) (ta_cons (td_var 6) (ta_cons (td_var 7) ta_nil))))) ds_next) (ds_seq (ds_if (tt_test ((td_op rd_eq ((td_op rd_mod (tr_var 8) (td_int).r)).r (td_int).r)).r) (ds_ret (td_tup (ta_cons (td_op rd_add ((td_op rd_add ((td_sl (tr_var 5) tp_no (tp_some (tr_var 9)))).r (((to_lst (ta_cons (td_tup (ta_cons (td_op rd_ix ((td_op rd_ix (tr_var 5) (tr_var 9))).r (td_int).r) (ta_cons ((to_lst ta_nil)).e ta_nil))) ta_nil))).e).r)).r ((td_sl (tr_var 5) (tp_some ((td_op rd_add (tr_var 9) (td_int).r)).r) tp_no)).r) (ta_cons (td_var 6) (ta_cons (td_var 7) ta_nil))))) ds_next) (ds_seq (ds_set 11 ((to_lc (vs := [12, 13]) (di_seq (td_op rd_ix ((td_op rd_ix (tr_var 5) (tr_var 9))).r (td_int).r)) (dg_tup (dgs_cons (dg_name 12) (dgs_cons (dg_name 13) dgs_nil))) tt_yes (td_tup (ta_cons (td_var 12) (ta_cons (td_op rd_sub ((td_op rd_add (tr_var 13) ((td_op rd_mod ((td_op rd_div (tr_var 8) (td_int).r)).r (td_int).r)).r)).r (td_int).r) ta_nil))))).e) (ds_ret (td_tup (ta_cons (td_op rd_add ((td_op rd_add ((td_sl (tr_var 5) tp_no (tp_some (tr_var 9)))).r (((to_lst (ta_cons (td_tup (ta_cons (td_op rd_ix ((td_op rd_ix (tr_var 5) (tr_var 9))).r (td_int).r) (ta_cons (td_var 11) ta_nil))) ta_nil))).e).r)).r ((td_sl (tr_var 5) (tp_some ((td_op rd_add (tr_var 9) (td_int).r)).r) tp_no)).r) (ta_cons (td_var 6) (ta_cons (td_var 7) ta_nil))))))))))))))))⟩
theorem sc_law_meets : FnScope ["_law_kinds_here", "_law_kind", "_law_told", "_law_one"] ["_law_kinds_here", "_law_kind", "_law_told"] (defScope s_law_meets) := ⟨rfl, rfl, rfl, by decide +kernel, rfl, by decide +kernel, by decide +kernel⟩
theorem ok_law_meets {P : Program} {w : World} {K : PySem.W.Frag} {mg : Str → Option Value} {base : Heap} (C : Ctx K mg) : Kept P w K mg base 2 3 "_law_meets" ["_law_kinds_here", "_law_kind", "_law_told"] d_law_meets := by
  obtain ⟨fd_law_uppers, kp_law_uppers, hg_law_uppers, hb_law_uppers, G_law_uppers⟩ := ok_law_uppers (P := P) (w := w) (base := base) C
  have nd := sc_law_meets.nd
  exact kept_of C.F_law_meets C.g_law_meets sc_law_meets rfl rfl (fun _ _ _ _ _ _ us hl => match us, hl with | [_, _, _], _ => rfl) (s := S_law_meets) fun cdv A outer sh H E hr tk => ⟨_,
    (pss_one (ps_ret (pe_callB (cr_any rfl) (by rfl) C.b_any bb_any (pa_cons (pe_lc (own := [("_law_one", 3)]) rfl nd (pi_seq (pv 2)) (blkOk_by (by kernel_rfl)) (fun _ _ _ _ _ => (pg_name (i := 3) nd rfl (Or.inl rfl))) (fun _ _ _ _ _ => pts_nil) (fun _ _ _ _ _ => (pe_cmpR (op_in2 (hu65 hr)) (pv 3) (pe_callS G_law_uppers (hr.mono (by decide)) (by rfl) hg_law_uppers kp_law_uppers hb_law_uppers (fun σ => passAt takes0 σ) (pa_cons (pv 0) (pa_cons (pv 1) pa_nil))) (by rfl)))) pa_nil)))),
    (ds_ret (td_cb rc_any (tq_cons (((to_lc (vs := [3]) (di_seq (td_var 2)) (dg_name 3) tt_yes (td_op rd_in (tr_var 3) ((td_call (ta_cons (td_var 0) (ta_cons (td_var 1) ta_nil)))).r))).e).r tq_nil)))⟩
theorem sc_law_bounded : FnScope ["_law_reading_here", "_law_parts", "_law_found", "_law_i", "_law_word", "_law_low", "_law_high", "_law_told"] ["_law_reading_here", "_law_parts", "_law_found"] (defScope s_law_bounded) := ⟨rfl, rfl, rfl, by decide +kernel, rfl, by decide +kernel, by decide +kernel⟩
theorem ok_law_bounded {P : Program} {w : World} {K : PySem.W.Frag} {mg : Str → Option Value} {base : Heap} (C : Ctx K mg) : Kept P w K mg base 1 3 "_law_bounded" ["_law_reading_here", "_law_parts", "_law_found"] d_law_bounded := by
  have nd := sc_law_bounded.nd
  exact kept_of C.F_law_bounded C.g_law_bounded sc_law_bounded rfl rfl (fun _ _ _ _ _ _ us hl => match us, hl with | [_, _, _], _ => rfl) (s := S_law_bounded) fun cdv A outer sh H E hr tk => ⟨_,
    (pss_cons (ps_for (passes_of rfl) rfl (pi_seq (pe_ix ix_seq (pv 0) pe_int (fun _ _ => rfl))) (pg_tup rfl (pgs_cons (pg_name (i := 3) nd rfl (Or.inl rfl)) (pgs_cons (pg_name (i := 4) nd rfl (Or.inl rfl)) (pgs_cons (pg_name (i := 5) nd rfl (Or.inl rfl)) (pgs_cons (pg_name (i := 6) nd rfl (Or.inl rfl)) pgs_nil))))) (pss_cons (ps_set (i := 7) nd rfl (Or.inl rfl) (pe_callTy (call_dictP rfl) (by rfl) C.b_dict bb_dict (pa_cons (pe_ix ix_seq (pe_ix ix_seq (pv 1) (pe_ix ix_seq (pv 2) (pv 3) (fun _ _ => rfl)) (fun _ _ => rfl)) pe_int (fun _ _ => rfl)) pa_nil))) (pss_one (ps_if (PW.pt (pw_or (pt_cmp (pc_dnotin (hu_of hr) (pv 4) (pv 7))) (pw_or (PW.pt (pw_and (pt_cmpR op_notN (pv 5) pe_non (nomark _)) (pw_and1 (pt_cmpR op_lt (pe_dget (hu_of hr) (pv 7) (pv 4) (fun _ _ => rfl)) (pv 5) (nomark _))))) (pw_or1 (PW.pt (pw_and (pt_cmpR op_notN (pv 6) pe_non (nomark _)) (pw_and1 (pt_cmpR op_gt (pe_dget (hu_of hr) (pv 7) (pv 4) (fun _ _ => rfl)) (pv 6) (nomark _))))))))) (pss_one (ps_ret pe_bl)) pss_nil)))) (pss_one (ps_ret pe_bl))),
    (ds_seq (ds_preK [3, 4, 5, 6, 7] (ds_for (vs := [3, 4, 5, 6]) (di_seq (td_op rd_ix (tr_var 0) (td_int).r)) (dg_tup (dgs_cons (dg_name 3) (dgs_cons (dg_name 4) (dgs_cons (dg_name 5) (dgs_cons (dg_name 6) dgs_nil))))) (ds_kill [3, 4, 5, 6, 7] (ds_seq (ds_setO 7 (to_cb rco_dict (tq_cons ((td_op rd_ix ((td_op rd_ix (tr_var 1) ((td_op rd_ix (tr_var 2) (tr_var 3))).r)).r (td_int).r)).r tq_nil))) (ds_if (tt_or (tt_B ((td_dnotin 7 (tr_var 4))).r) (tt_or (tt_and (tt_test ((td_op rd_notN (tr_var 5) (td_non).r)).r) (tt_test ((td_op rd_cmp ((td_dget 7 (tr_var 4))).r (tr_var 5))).r)) (tt_and (tt_test ((td_op rd_notN (tr_var 6) (td_non).r)).r) (tt_test ((td_op rd_cmp ((td_dget 7 (tr_var 4))).r (tr_var 6))).r)))) (ds_ret td_bl) ds_next))))) (ds_ret td_bl))⟩
theorem sc_law_stepped : FnScope ["_law_reading_here", "_law_steps", "_law_found", "_law_at", "_law_word", "_law_i"] ["_law_reading_here", "_law_steps", "_law_found"] (defScope s_law_stepped) := ⟨rfl, rfl, rfl, by decide +kernel, rfl, by decide +kernel, by decide +kernel⟩
theorem ok_law_stepped {P : Program} {w : World} {K : PySem.W.Frag} {mg : Str → Option Value} {base : Heap} (C : Ctx K mg) : Kept P w K mg base 1 3 "_law_stepped" ["_law_reading_here", "_law_steps", "_law_found"] d_law_stepped := by
  have nd := sc_law_stepped.nd
  exact kept_of C.F_law_stepped C.g_law_stepped sc_law_stepped rfl rfl (fun _ _ _ _ _ _ us hl => match us, hl with | [_, _, _], _ => rfl) (s := S_law_stepped) fun cdv A outer sh H E hr tk => ⟨_,
    (pss_cons (ps_set (i := 3) nd rfl (Or.inl rfl) pe_int) (pss_cons (ps_for (passes_of rfl) rfl (pi_seq (pe_ix ix_seq (pv 0) pe_int (fun _ _ => rfl))) (pg_tup rfl (pgs_cons (pg_name (i := 4) nd rfl (Or.inl rfl)) (pgs_cons (pg_name (i := 5) nd rfl (Or.inl rfl)) pgs_nil))) (pss_cons (ps_while (passes_of rfl) (PW.pt (pw_and (pt_cmpR op_lt (pv 3) (pe_callB call_len (by rfl) C.b_len bb_len (pa_cons (pv 1) pa_nil)) (nomark _)) (pw_and1 (pt_cmpR (op_ne2 hr.units) (pe_ix ix_seq (pv 1) (pv 3) (fun _ _ => rfl)) (pe_tup (pa_cons (pv 4) (pa_cons (pe_ix ix_seq (pv 2) (pv 5) (fun _ _ => rfl)) pa_nil))) (nomark _))))) (pss_one (ps_aug (i := 3) nd rfl (Or.inl rfl) pe_int ip_add))) (pss_cons (ps_if (pt_cmpR (op_eq2 hr.units) (pv 3) (pe_callB call_len (by rfl) C.b_len bb_len (pa_cons (pv 1) pa_nil)) (nomark _)) (pss_one (ps_ret pe_bl)) pss_nil) (pss_one (ps_aug (i := 3) nd rfl (Or.inl rfl) pe_int ip_add))))) (pss_one (ps_ret pe_bl)))),
    (ds_seq (ds_set 3 td_int) (ds_seq (ds_preK [4, 5] (ds_for (vs := [4, 5]) (di_seq (td_op rd_ix (tr_var 0) (td_int).r)) (dg_tup (dgs_cons (dg_name 4) (dgs_cons (dg_name 5) dgs_nil))) (ds_kill [4, 5] (ds_seq (ds_preK [] (ds_while 20000000 (tt_and (tt_test ((td_op rd_cmp (tr_var 3) ((td_cb rc_len (tq_cons (tr_var 1) tq_nil))).r)).r) (tt_test ((td_op rd_ne ((td_op rd_ix (tr_var 1) (tr_var 3))).r ((td_tup (ta_cons (td_var 4) (ta_cons (td_op rd_ix (tr_var 2) (tr_var 5)) ta_nil)))).r)).r)) (ds_kill [] (ds_aug 3 rd_iadd (td_int).r)))) (ds_seq (ds_if (tt_test ((td_op rd_eq (tr_var 3) ((td_cb rc_len (tq_cons (tr_var 1) tq_nil))).r)).r) (ds_ret td_bl) ds_next) (ds_aug 3 rd_iadd (td_int).r)))))) (ds_ret td_bl)))⟩
theorem sc_law_is_finding : FnScope ["_law_kinds_here", "_law_reading_here", "_law_thing", "_law_found", "_law_parts", "_law_joins", "_law_steps", "_law_i", "_law_place", "_law_told", "_law_numbers", "_law_part", "_law_word", "_law_j"] ["_law_kinds_here", "_law_reading_here", "_law_thing", "_law_found"] (defScope s_law_is_finding) := ⟨rfl, rfl, rfl, by decide +kernel, rfl, by decide +kernel, by decide +kernel⟩
theorem ok_law_is_finding {P : Program} {w : World} {K : PySem.W.Frag} {mg : Str → Option Value} {base : Heap} (C : Ctx K mg) : Kept P w K mg base 3 4 "_law_is_finding" ["_law_kinds_here", "_law_reading_here", "_law_thing", "_law_found"] d_law_is_finding := by
  obtain ⟨fd_law_bounded, kp_law_bounded, hg_law_bounded, hb_law_bounded, G_law_bounded⟩ := ok_law_bounded (P := P) (w := w) (base := base) C
  obtain ⟨fd_law_meets, kp_law_meets, hg_law_meets, hb_law_meets, G_law_meets⟩ := ok_law_meets (P := P) (w := w) (base := base) C
  obtain ⟨fd_law_stepped, kp_law_stepped, hg_law_stepped, hb_law_stepped, G_law_stepped⟩ := ok_law_stepped (P := P) (w := w) (base := base) C
  have nd := sc_law_is_finding.nd
  exact kept_of C.F_law_is_finding C.g_law_is_finding sc_law_is_finding rfl rfl (fun _ _ _ _ _ _ us hl => match us, hl with | [_, _, _, _], _ => rfl) (s := S_law_is_finding) fun cdv A outer sh H E hr tk => ⟨_,
    (pss_cons (ps_asg (pv 2) (pg_tup rfl (pgs_cons (pg_name (i := 4) nd rfl (Or.inl rfl)) (pgs_cons (pg_name (i := 5) nd rfl (Or.inr rfl)) (pgs_cons (pg_name (i := 6) nd rfl (Or.inl rfl)) pgs_nil))))) (pss_cons (ps_for (passes_of rfl) rfl (pi_enum (by rfl) C.b_enumerate (pa_cons (pv 3) pa_nil)) (pg_tup rfl (pgs_cons (pg_name (i := 7) nd rfl (Or.inl rfl)) (pgs_cons (pg_name (i := 8) nd rfl (Or.inl rfl)) pgs_nil))) (pss_one (ps_if (pt_not (pt_val (pe_callS G_law_meets (hr.mono (by decide)) (by rfl) hg_law_meets kp_law_meets hb_law_meets (fun σ => passAt tk σ) (pa_cons (pv 0) (pa_cons (pe_ix ix_seq (pe_ix ix_seq (pv 4) (pv 8) (fun _ _ => rfl)) pe_int (fun _ _ => rfl)) (pa_cons (pe_ix ix_seq (pe_ix ix_seq (pv 1) pe_int (fun _ _ => rfl)) (pv 7) (fun _ _ => rfl)) pa_nil)))))) (pss_one (ps_ret pe_bl)) pss_nil))) (pss_cons (ps_if (PW.pt (pw_or (pt_cmpR op_lt (RZ.pe_lenSetI (by rfl) C.b_len (by rfl) C.b_set (pv 3)) (pe_callB call_len (by rfl) C.b_len bb_len (pa_cons (pv 3) pa_nil)) (nomark _)) (pw_or1 (pt_not (pt_val (pe_callS G_law_bounded (hr.mono (by decide)) (by rfl) hg_law_bounded kp_law_bounded hb_law_bounded (fun σ => passAt tk σ) (pa_cons (pv 1) (pa_cons (pv 4) (pa_cons (pv 3) pa_nil))))))))) (pss_one (ps_ret pe_bl)) pss_nil) (pss_cons (ps_if (pt_not (pt_val (pe_callB (cr_all rfl) (by rfl) C.b_all bb_all (pa_cons (pe_lc (own := [("_law_word", 12), ("_law_i", 7), ("_law_j", 13)]) rfl nd (pi_seq (pe_ix ix_seq (pv 1) pe_int (fun _ _ => rfl))) (blkOk_by (by kernel_rfl)) (fun _ _ _ _ _ => (pg_tup rfl (pgs_cons (pg_name (i := 12) nd rfl (Or.inl rfl)) (pgs_cons (pg_name (i := 7) nd rfl (Or.inl rfl)) (pgs_cons (pg_name (i := 13) nd rfl (Or.inl rfl)) pgs_nil))))) (fun _ _ _ _ _ => pts_nil) (fun _ _ _ _ _ => (pe_cmpR (op_in2 (hu65 hr)) (pe_tup (pa_cons (pv 12) (pa_cons (pe_ix ix_seq (pv 3) (pv 7) (fun _ _ => rfl)) (pa_cons (pe_ix ix_seq (pv 3) (pv 13) (fun _ _ => rfl)) pa_nil)))) (pv 5) (by rfl)))) pa_nil)))) (pss_one (ps_ret pe_bl)) pss_nil) (pss_cons (ps_for (passes_of rfl) rfl (pi_seq (pe_ix ix_seq (pv 1) pe_int (fun _ _ => rfl))) (pg_tup rfl (pgs_cons (pg_name (i := 9) nd rfl (Or.inl rfl)) (pgs_cons (pg_name (i := 10) nd rfl (Or.inl rfl)) pgs_nil))) (pss_one (ps_for (passes_of rfl) rfl (pi_enum (by rfl) C.b_enumerate (pa_cons (pv 4) pa_nil)) (pg_tup rfl (pgs_cons (pg_name (i := 8) nd rfl (Or.inl rfl)) (pgs_cons (pg_name (i := 11) nd rfl (Or.inl rfl)) pgs_nil))) (pss_one (ps_if (PW.pt (pw_and (pt_val (pe_callS G_law_meets (hr.mono (by decide)) (by rfl) hg_law_meets kp_law_meets hb_law_meets (fun σ => passAt tk σ) (pa_cons (pv 0) (pa_cons (pe_ix ix_seq (pv 11) pe_int (fun _ _ => rfl)) (pa_cons (pv 9) pa_nil))))) (pw_and1 (pt_cmpR (op_nin2 (hu65 hr)) (pv 8) (pe_lc (own := [("_law_i", 7)]) rfl nd (pi_seq (pv 10)) (blkOk_by (by kernel_rfl)) (fun _ _ _ _ _ => (pg_name (i := 7) nd rfl (Or.inl rfl))) (fun _ _ _ _ _ => pts_nil) (fun _ _ _ _ _ => (pe_ix ix_seq (pv 3) (pv 7) (fun _ _ => rfl)))) (by rfl))))) (pss_one (ps_ret pe_bl)) pss_nil))))) (pss_one (ps_ret (pe_callS G_law_stepped (hr.mono (by decide)) (by rfl) hg_law_stepped kp_law_stepped hb_law_stepped (fun σ => passAt tk σ) (pa_cons (pv 1) (pa_cons (pv 6) (pa_cons (pv 3) pa_nil))))))))))),
    (ds_seq (ds_asg (vs := [4, 5, 6]) (td_var 2) (dg_tup (dgs_cons (dg_name 4) (dgs_cons (dg_name 5) (dgs_cons (dg_name 6) dgs_nil))))) (ds_seq (ds_preK [8] (ds_for (vs := [7, 8]) (di_enum (ta_cons (td_var 3) ta_nil)) (dg_tup (dgs_cons (dg_name 7) (dgs_cons (dg_name 8) dgs_nil))) (ds_kill [8] (ds_if (tt_not (tt_B ((td_call (ta_cons (td_var 0) (ta_cons (td_op rd_ix ((td_op rd_ix (tr_var 4) (tr_var 8))).r (td_int).r) (ta_cons (td_op rd_ix ((td_op rd_ix (tr_var 1) (td_int).r)).r (tr_var 7)) ta_nil))))).r)) (ds_ret td_bl) ds_next)))) (ds_seq (ds_if (tt_or (tt_test ((td_op rd_cmp ((td_lenSet (tr_var 3))).r ((td_cb rc_len (tq_cons (tr_var 3) tq_nil))).r)).r) (tt_not (tt_B ((td_call (ta_cons (td_var 1) (ta_cons (td_var 4) (ta_cons (td_var 3) ta_nil))))).r))) (ds_ret td_bl) ds_next) (ds_seq (ds_if (tt_not (tt_B ((td_cb rc_all (tq_cons (((to_lc (vs := [12, 7, 13]) (di_seq (td_op rd_ix (tr_var 1) (td_int).r)) (dg_tup (dgs_cons (dg_name 12) (dgs_cons (dg_name 7) (dgs_cons (dg_name 13) dgs_nil)))) tt_yes (td_op rd_in ((td_tup (ta_cons (td_var 12) (ta_cons (td_op rd_ix (tr_var 3) (tr_var 7)) (ta_cons (td_op rd_ix (tr_var 3) (tr_var 13)) ta_nil))))).r (tr_var 5)))).e).r tq_nil))).r)) (ds_ret td_bl) ds_next) (ds_seq (ds_preK [8, 9, 10, 11] (ds_for (vs := [9, 10]) (di_seq (td_op rd_ix (tr_var 1) (td_int).r)) (dg_tup (dgs_cons (dg_name 9) (dgs_cons (dg_name 10) dgs_nil))) (ds_kill [8, 9, 10, 11] (ds_preK [8, 11] (ds_for (vs := [8, 11]) (di_enum (ta_cons (td_var 4) ta_nil)) (dg_tup (dgs_cons (dg_name 8) (dgs_cons (dg_name 11) dgs_nil))) (ds_kill [8, 11] (ds_if (tt_and (tt_B ((td_call (ta_cons (td_var 0) (ta_cons (td_op rd_ix (tr_var 11) (td_int).r) (ta_cons (td_var 9) ta_nil))))).r) (tt_test ((td_op rd_nin (tr_var 8) (((to_lc (vs := [7]) (di_seq (td_var 10)) (dg_name 7) tt_yes (td_op rd_ix (tr_var 3) (tr_var 7)))).e).r)).r)) (ds_ret td_bl) ds_next))))))) (ds_ret (td_call (ta_cons (td_var 1) (ta_cons (td_var 6) (ta_cons (td_var 3) ta_nil))))))))))⟩
theorem sc_law_whole : FnScope ["_law_thing"] ["_law_thing"] (defScope s_law_whole) := ⟨rfl, rfl, rfl, by decide +kernel, rfl, by decide +kernel, by decide +kernel⟩
theorem ok_law_whole {P : Program} {w : World} {K : PySem.W.Frag} {mg : Str → Option Value} {base : Heap} (C : Ctx K mg) : Kept P w K mg base 1 1 "_law_whole" ["_law_thing"] d_law_whole := by
  have nd := sc_law_whole.nd
  exact kept_of C.F_law_whole C.g_law_whole sc_law_whole rfl rfl (fun _ _ _ _ _ _ us hl => match us, hl with | [_], _ => rfl) (s := S_law_whole) fun cdv A outer sh H E hr tk => ⟨_,
    (pss_one (ps_ret (pe_and (pe_callB call_isi (by rfl) C.b_isinstance bb_isinstance (pa_cons (pv 0) (pa_cons (pe_bltn (v := .ty "int") (by rfl) C.b_int bb_int rfl) pa_nil))) (pe_one (pe_not (pe_callB call_isi (by rfl) C.b_isinstance bb_isinstance (pa_cons (pv 0) (pa_cons (pe_bltn (v := .ty "bool") (by rfl) C.b_bool bb_bool rfl) pa_nil)))))))),
    (ds_ret (td_and ((td_isi (T := "int") (tr_var 0))).r (td_not ((td_isi (T := "bool") (tr_var 0))).r)))⟩
theorem sc_law_right : FnScope ["_law_kinds_here", "_law_reading_here", "_law_thing", "_law_found", "_law_place"] ["_law_kinds_here", "_law_reading_here", "_law_thing", "_law_found"] (defScope s_law_right) := ⟨rfl, rfl, rfl, by decide +kernel, rfl, by decide +kernel, by decide +kernel⟩
theorem ok_law_right {P : Program} {w : World} {K : PySem.W.Frag} {mg : Str → Option Value} {base : Heap} (C : Ctx K mg) : Kept P w K mg base 4 4 "_law_right" ["_law_kinds_here", "_law_reading_here", "_law_thing", "_law_found"] d_law_right := by
  obtain ⟨fd_law_is_finding, kp_law_is_finding, hg_law_is_finding, hb_law_is_finding, G_law_is_finding⟩ := ok_law_is_finding (P := P) (w := w) (base := base) C
  obtain ⟨fd_law_whole, kp_law_whole, hg_law_whole, hb_law_whole, G_law_whole⟩ := ok_law_whole (P := P) (w := w) (base := base) C
  have nd := sc_law_right.nd
  exact kept_of C.F_law_right C.g_law_right sc_law_right rfl rfl (fun _ _ _ _ _ _ us hl => match us, hl with | [_, _, _, _], _ => rfl) (s := S_law_right) fun cdv A outer sh H E hr tk => ⟨_,
    (pss_cons (ps_if (pt_cmpR op_isN (pv 3) pe_non (nomark _)) (pss_one (ps_ret pe_bl)) pss_nil) (pss_cons (ps_if (PW.pt (pw_or (pt_not (pt_val (pe_callB call_isi (by rfl) C.b_isinstance bb_isinstance (pa_cons (pv 3) (pa_cons (pe_bltn (v := .ty "list") (by rfl) C.b_list bb_list rfl) pa_nil))))) (pw_or1 (pt_cmpR (op_ne2 hr.units) (pe_callB call_len (by rfl) C.b_len bb_len (pa_cons (pv 3) pa_nil)) (pe_callB call_len (by rfl) C.b_len bb_len (pa_cons (pe_ix ix_seq (pv 1) pe_int (fun _ _ => rfl)) pa_nil)) (nomark _))))) (pss_one (ps_ret pe_bl)) pss_nil) (pss_cons (ps_if (pt_not (pt_val (pe_callB (cr_all rfl) (by rfl) C.b_all bb_all (pa_cons (pe_lc (own := [("_law_place", 4)]) rfl nd (pi_seq (pv 3)) (blkOk_by (by kernel_rfl)) (fun _ _ _ _ _ => (pg_name (i := 4) nd rfl (Or.inl rfl))) (fun _ _ _ _ _ => pts_nil) (fun _ _ _ _ _ => (pe_and (pe_callS G_law_whole (hr.mono (by decide)) (by rfl) hg_law_whole kp_law_whole hb_law_whole (fun σ => passAt takes0 σ) (pa_cons (pv 4) pa_nil)) (pe_one (pe_chain op_le op_lt pe_int (pv 4) (pe_callB call_len (by rfl) C.b_len bb_len (pa_cons (pe_ix ix_seq (pv 2) pe_int (fun _ _ => rfl)) pa_nil))))))) pa_nil)))) (pss_one (ps_ret pe_bl)) pss_nil) (pss_one (ps_ret (pe_callS G_law_is_finding (hr.mono (by decide)) (by rfl) hg_law_is_finding kp_law_is_finding hb_law_is_finding (fun σ => passAt tk σ) (pa_cons (pv 0) (pa_cons (pv 1) (pa_cons (pv 2) (pa_cons (pv 3) pa_nil)))))))))),
    (ds_seq (ds_if (tt_test ((td_op rd_isN (tr_var 3) (td_non).r)).r) (ds_ret td_bl) ds_next) (ds_seq (ds_if (tt_or (tt_not (tt_B ((td_isi (T := "list") (tr_var 3))).r)) (tt_test ((td_op rd_ne ((td_cb rc_len (tq_cons (tr_var 3) tq_nil))).r ((td_cb rc_len (tq_cons ((td_op rd_ix (tr_var 1) (td_int).r)).r tq_nil))).r)).r)) (ds_ret td_bl) ds_next) (ds_seq (ds_if (tt_not (tt_B ((td_cb rc_all (tq_cons (((to_lc (vs := [4]) (di_seq (td_var 3)) (dg_name 4) tt_yes (td_and ((td_call (ta_cons (td_var 4) ta_nil))).r (td_chain rd_cmp rd_cmp (td_int).r (tr_var 4) ((td_cb rc_len (tq_cons ((td_op rd_ix (tr_var 2) (td_int).r)).r tq_nil))).r)))).e).r tq_nil))).r)) (ds_ret td_bl) ds_next) (ds_ret (td_call (ta_cons (td_var 0) (ta_cons (td_var 1) (ta_cons (td_var 2) (ta_cons (td_var 3) ta_nil)))))))))⟩
theorem sc_law_case : FnScope ["_law_script", "_law_turn", "_law_kinds_here", "_law_words_here", "_law_reading_here", "_law_thing"] ["_law_script", "_law_turn"] (defScope s_law_case) := ⟨rfl, rfl, rfl, by decide +kernel, rfl, by decide +kernel, by decide +kernel⟩
theorem ok_law_case {P : Program} {w : World} {K : PySem.W.Frag} {mg : Str → Option Value} {base : Heap} (C : Ctx K mg) : Kept P w K mg base 5 2 "_law_case" ["_law_script", "_law_turn"] d_law_case := by
  obtain ⟨fd_law_kinds, kp_law_kinds, hg_law_kinds, hb_law_kinds, G_law_kinds⟩ := ok_law_kinds (P := P) (w := w) (base := base) C
  obtain ⟨fd_law_reading, kp_law_reading, hg_law_reading, hb_law_reading, G_law_reading⟩ := ok_law_reading (P := P) (w := w) (base := base) C
  obtain ⟨fd_law_spoilt, kp_law_spoilt, hg_law_spoilt, hb_law_spoilt, G_law_spoilt⟩ := ok_law_spoilt (P := P) (w := w) (base := base) C
  obtain ⟨fd_law_thing_for, kp_law_thing_for, hg_law_thing_for, hb_law_thing_for, G_law_thing_for⟩ := ok_law_thing_for (P := P) (w := w) (base := base) C
  obtain ⟨fd_law_words, kp_law_words, hg_law_words, hb_law_words, G_law_words⟩ := ok_law_words (P := P) (w := w) (base := base) C
  have nd := sc_law_case.nd
  exact kept_of C.F_law_case C.g_law_case sc_law_case rfl rfl (fun _ _ _ _ _ _ us hl => match us, hl with | [_, _], _ => rfl) (s := S_law_case) fun cdv A outer sh H E hr tk => ⟨_,
    (pss_cons (ps_set (i := 2) nd rfl (Or.inl rfl) (pe_callS G_law_kinds (hr.mono (by decide)) (by rfl) hg_law_kinds kp_law_kinds hb_law_kinds (fun σ => passAt tk σ) (pa_cons (pv 0) pa_nil))) (pss_cons (ps_set (i := 3) nd rfl (Or.inl rfl) (pe_callS G_law_words (hr.mono (by decide)) (by rfl) hg_law_words kp_law_words hb_law_words (fun σ => passAt tk σ) (pa_cons (pv 0) pa_nil))) (pss_cons (ps_set (i := 4) nd rfl (Or.inl rfl) (pe_callS G_law_reading (hr.mono (by decide)) (by rfl) hg_law_reading kp_law_reading hb_law_reading (fun σ => passAt tk σ) (pa_cons (pv 0) (pa_cons (pe_op op_add2 pe_int (pe_op op_mul2 pe_int (pv 1))) (pa_cons (pv 2) (pa_cons (pv 3) (pa_cons pe_bl pa_nil))))))) (pss_cons (ps_set (i := 5) nd rfl (Or.inl rfl) (pe_callS G_law_thing_for (hr.mono (by decide)) (by rfl) hg_law_thing_for kp_law_thing_for hb_law_thing_for (fun σ => passAt tk σ) (pa_cons (pv 0) (pa_cons (pe_op op_add2 pe_int (pe_op op_mul2 pe_int (pv 1))) (pa_cons (pv 2) (pa_cons (pv 4) (pa_cons (pv 3) pa_nil))))))) (pss_cons (ps_if (pt_cmpR (op_eq2 hr.units) (pv 1) pe_int (nomark _)) (pss_one (ps_set (i := 5) nd rfl (Or.inl rfl) (pe_callS G_law_spoilt (hr.mono (by decide)) (by rfl) hg_law_spoilt kp_law_spoilt hb_law_spoilt (fun σ => passAt tk σ) (pa_cons (pv 0) (pa_cons (pe_op op_add2 pe_int (pe_op op_mul2 pe_int (pv 1))) (pa_cons (pv 2) (pa_cons (pv 5) (pa_cons (pv 3) pa_nil)))))))) pss_nil) (pss_one (ps_ret (pe_tup (pa_cons (pv 2) (pa_cons (pv 4) (pa_cons (pv 5) pa_nil))))))))))),
    (ds_seq (ds_set 2 (td_call (ta_cons (td_var 0) ta_nil))) (ds_seq (ds_set 3 (td_call (ta_cons (td_var 0) ta_nil))) (ds_seq (ds_set 4 (td_call (ta_cons (td_var 0) (ta_cons (td_op rd_add (td_int).r ((td_op rd_mul (td_int).r (tr_var 1))).r) (ta_cons (td_var 2) (ta_cons (td_var 3) (ta_cons td_bl ta_nil))))))) (ds_seq (ds_set 5 (td_call (ta_cons (td_var 0) (ta_cons (td_op rd_add (td_int).r ((td_op rd_mul (td_int).r (tr_var 1))).r) (ta_cons (td_var 2) (ta_cons (td_var 4) (ta_cons (td_var 3) ta_nil))))))) (ds_seq (ds_if (tt_test ((td_op rd_eq (tr_var 1) (td_int).r)).r) (ds_set 5 (td_call (ta_cons (td_var 0) (ta_cons (td_op rd_add (td_int).r ((td_op rd_mul (td_int).r (tr_var 1))).r) (ta_cons (td_var 2) (ta_cons (td_var 5) (ta_cons (td_var 3) ta_nil))))))) ds_next) (ds_ret (td_tup (ta_cons (td_var 2) (ta_cons (td_var 4) (ta_cons (td_var 5) ta_nil))))))))))⟩
theorem sc_law : FnScope ["_law_script", "_law_turn", "_law_kinds_here", "_law_reading_here", "_law_thing", "_law_handed", "_law_found", "_law_kept"] ["_law_script"] (defScope s_law) := ⟨rfl, rfl, rfl, by decide +kernel, rfl, by decide +kernel, by decide +kernel⟩
theorem fn_law {P : Program} {w : World} {K : PySem.W.Frag} {mg : Str → Option Value} {base : Heap} {fd : FuncData} (FD : FunD K "law" "law" (defArgs s_law) (defBody s_law) (defScope s_law) [] [] (He.ga K "law") fd) (C : Ctx K mg) : FnOk P w K mg base (L2.CX P w) 14 (He.ga K "law") fd ["_law_script"] (spD K 1 d_law) := by
  obtain ⟨fd_law_case, kp_law_case, hg_law_case, hb_law_case, G_law_case⟩ := ok_law_case (P := P) (w := w) (base := base) C
  obtain ⟨fd_law_right, kp_law_right, hg_law_right, hb_law_right, G_law_right⟩ := ok_law_right (P := P) (w := w) (base := base) C
  obtain ⟨fd_finding_in, kp_finding_in, hg_finding_in, hb_finding_in, G_finding_in⟩ := ok_finding_in (P := P) (w := w) (base := base) C
  have nd := sc_law.nd
  exact fn_of0 FD sc_law rfl rfl (s := S_law) fun cdv A outer sh H E hr tk => ⟨_,
    (pss_cons (ps_for (passes_of rfl) rfl (pi_range1 rfl C.b_range (pa_cons pe_int pa_nil)) (pg_name (i := 1) nd rfl (Or.inl rfl)) (pss_cons (ps_asg (pe_callS G_law_case (hr.mono (by decide)) (by rfl) hg_law_case kp_law_case hb_law_case (fun σ => passAt tk σ) (pa_cons (pv 0) (pa_cons (pv 1) pa_nil))) (pg_tup rfl (pgs_cons (pg_name (i := 2) nd rfl (Or.inl rfl)) (pgs_cons (pg_name (i := 3) nd rfl (Or.inl rfl)) (pgs_cons (pg_name (i := 4) nd rfl (Or.inl rfl)) pgs_nil))))) (pss_cons (ps_set (i := 5) nd rfl (Or.inl rfl) (pe_callS G_law_case (hr.mono (by decide)) (by rfl) hg_law_case kp_law_case hb_law_case (fun σ => passAt tk σ) (pa_cons (pv 0) (pa_cons (pv 1) pa_nil)))) (pss_cons (ps_set (i := 6) nd rfl (Or.inl rfl) (pe_callS G_finding_in (hr.mono (by decide)) (by rfl) hg_finding_in kp_finding_in hb_finding_in (fun σ => passAt tk σ) (pa_cons (pe_ix ix_seq (pv 5) pe_int (fun _ _ => rfl)) (pa_cons (pe_ix ix_seq (pv 5) pe_int (fun _ _ => rfl)) (pa_cons (pe_ix ix_seq (pv 5) pe_int (fun _ _ => rfl)) pa_nil))))) (pss_cons (ps_if (PW.pt (pw_or (pt_cmpR (op_ne2 hr.units) (pv 5) (pe_tup (pa_cons (pv 2) (pa_cons (pv 3) (pa_cons (pv 4) pa_nil)))) (nomark _)) (pw_or1 (pt_not (pt_val (pe_callS G_law_right (hr.mono (by decide)) (by rfl) hg_law_right kp_law_right hb_law_right (fun σ => passAt tk σ) (pa_cons (pv 2) (pa_cons (pv 3) (pa_cons (pv 4) (pa_cons (pv 6) pa_nil)))))))))) (pss_one (ps_ret pe_bl)) pss_nil) (pss_one (ps_if (pt_cmpR op_notN (pv 6) pe_non (nomark _)) (pss_cons (ps_set (i := 7) nd rfl (Or.inl rfl) (pe_callTy call_list_of (by rfl) C.b_list bb_list (pa_cons (pv 6) pa_nil))) (pss_cons (ps_expr (pe_bm PySem.F.plainAttrs_list PySem.F.slot_list_append PySem.F.type_list_append mt_append (pv 6) (pa_cons pe_int pa_nil))) (pss_one (ps_if (PW.pt (pw_or (pt_cmpR (op_ne2 hr.units) (pe_callS G_finding_in (hr.mono (by decide)) (by rfl) hg_finding_in kp_finding_in hb_finding_in (fun σ => passAt tk σ) (pa_cons (pe_ix ix_seq (pv 5) pe_int (fun _ _ => rfl)) (pa_cons (pe_ix ix_seq (pv 5) pe_int (fun _ _ => rfl)) (pa_cons (pe_ix ix_seq (pv 5) pe_int (fun _ _ => rfl)) pa_nil)))) (pv 7) (nomark _)) (pw_or1 (pt_cmpR (op_ne2 hr.units) (pv 5) (pe_tup (pa_cons (pv 2) (pa_cons (pv 3) (pa_cons (pv 4) pa_nil)))) (nomark _))))) (pss_one (ps_ret pe_bl)) pss_nil)))) pss_nil))))))) (pss_one (ps_ret pe_bl))),
    (ds_seq (ds_preK [1, 2, 3, 4, 5, 6, 7] (ds_for (vs := [1]) (di_rng1 (tq_cons (td_int).r tq_nil)) (dg_name 1) (ds_kill [1, 2, 3, 4, 5, 6, 7] (ds_seq (ds_asg (vs := [2, 3, 4]) (td_call (ta_cons (td_var 0) (ta_cons (td_var 1) ta_nil))) (dg_tup (dgs_cons (dg_name 2) (dgs_cons (dg_name 3) (dgs_cons (dg_name 4) dgs_nil))))) (ds_seq (ds_set 5 (td_call (ta_cons (td_var 0) (ta_cons (td_var 1) ta_nil)))) (ds_seq (ds_setM 6 (tm_call (ta_cons (td_op rd_ix (tr_var 5) (td_int).r) (ta_cons (td_op rd_ix (tr_var 5) (td_int).r) (ta_cons (td_op rd_ix (tr_var 5) (td_int).r) ta_nil))))) (ds_seq (ds_if (tt_or (tt_test ((td_op rd_ne (tr_var 5) ((td_tup (ta_cons (td_var 2) (ta_cons (td_var 3) (ta_cons (td_var 4) ta_nil))))).r)).r) (tt_not (tt_B ((td_callH (thq_cons (th_var 2) (thq_cons (th_var 3) (thq_cons (th_var 4) (thq_cons (th_var 6) thq_nil)))))).r))) (ds_ret td_bl) ds_next) (ds_if (tt_testh (th_op rd_notN (th_var 6) (td_non).h)) (ds_seq (ds_set 7 ((to_cb rco_list (tq_cons (tr_var 6) tq_nil))).e) (ds_seq (ds_append 6 td_int) (ds_if (tt_or (tt_test ((td_op rd_ne ((td_call (ta_cons (td_op rd_ix (tr_var 5) (td_int).r) (ta_cons (td_op rd_ix (tr_var 5) (td_int).r) (ta_cons (td_op rd_ix (tr_var 5) (td_int).r) ta_nil))))).r (tr_var 7))).r) (tt_test ((td_op rd_ne (tr_var 5) ((td_tup (ta_cons (td_var 2) (ta_cons (td_var 3) (ta_cons (td_var 4) ta_nil))))).r)).r)) (ds_ret td_bl) ds_next))) ds_next)))))))) (ds_ret td_bl))⟩
end K16
namespace K16
open PySem PySem.Spec PyProof.Rows L2 DL
open PySem.W PySem.Calls
def fn0 : List He.DefD := [⟨("is_under", none), "is_under", "is_under", defArgs s_is_under, defBody s_is_under, defScope s_is_under, [], []⟩, ⟨("under_some", none), "under_some", "under_some", defArgs s_under_some, defBody s_under_some, defScope s_under_some, [], []⟩, ⟨("sizes_within", none), "sizes_within", "sizes_within", defArgs s_sizes_within, defBody s_sizes_within, defScope s_sizes_within, [], []⟩, ⟨("fitting_places", none), "fitting_places", "fitting_places", defArgs s_fitting_places, defBody s_fitting_places, defScope s_fitting_places, [], []⟩, ⟨("joins_lead", none), "joins_lead", "joins_lead", defArgs s_joins_lead, defBody s_joins_lead, defScope s_joins_lead, [], []⟩, ⟨("steps_done", none), "steps_done", "steps_done", defArgs s_steps_done, defBody s_steps_done, defScope s_steps_done, [], []⟩, ⟨("closed_kept", none), "closed_kept", "closed_kept", defArgs s_closed_kept, defBody s_closed_kept, defScope s_closed_kept, [], []⟩, ⟨("first_finding", none), "first_finding", "first_finding", defArgs s_first_finding, defBody s_first_finding, defScope s_first_finding, [], []⟩, ⟨("finding_in", none), "finding_in", "finding_in", defArgs s_finding_in, defBody s_finding_in, defScope s_finding_in, [], []⟩, ⟨("_law_mix", none), "_law_mix", "_law_mix", defArgs s_law_mix, defBody s_law_mix, defScope s_law_mix, [], []⟩, ⟨("_law_names", none), "_law_names", "_law_names", defArgs s_law_names, defBody s_law_names, defScope s_law_names, [], []⟩, ⟨("_law_kinds", none), "_law_kinds", "_law_kinds", defArgs s_law_kinds, defBody s_law_kinds, defScope s_law_kinds, [], []⟩]
def fn1 : List He.DefD := [⟨("_law_words", none), "_law_words", "_law_words", defArgs s_law_words, defBody s_law_words, defScope s_law_words, [], []⟩, ⟨("_law_uppers", none), "_law_uppers", "_law_uppers", defArgs s_law_uppers, defBody s_law_uppers, defScope s_law_uppers, [], []⟩, ⟨("_law_lowers", none), "_law_lowers", "_law_lowers", defArgs s_law_lowers, defBody s_law_lowers, defScope s_law_lowers, [], []⟩, ⟨("_law_groups", none), "_law_groups", "_law_groups", defArgs s_law_groups, defBody s_law_groups, defScope s_law_groups, [], []⟩, ⟨("_law_bounds", none), "_law_bounds", "_law_bounds", defArgs s_law_bounds, defBody s_law_bounds, defScope s_law_bounds, [], []⟩, ⟨("_law_reading", none), "_law_reading", "_law_reading", defArgs s_law_reading, defBody s_law_reading, defScope s_law_reading, [], []⟩, ⟨("_law_part_for", none), "_law_part_for", "_law_part_for", defArgs s_law_part_for, defBody s_law_part_for, defScope s_law_part_for, [], []⟩, ⟨("_law_thing_for", none), "_law_thing_for", "_law_thing_for", defArgs s_law_thing_for, defBody s_law_thing_for, defScope s_law_thing_for, [], []⟩, ⟨("_law_spoilt", none), "_law_spoilt", "_law_spoilt", defArgs s_law_spoilt, defBody s_law_spoilt, defScope s_law_spoilt, [], []⟩, ⟨("_law_meets", none), "_law_meets", "_law_meets", defArgs s_law_meets, defBody s_law_meets, defScope s_law_meets, [], []⟩, ⟨("_law_bounded", none), "_law_bounded", "_law_bounded", defArgs s_law_bounded, defBody s_law_bounded, defScope s_law_bounded, [], []⟩, ⟨("_law_stepped", none), "_law_stepped", "_law_stepped", defArgs s_law_stepped, defBody s_law_stepped, defScope s_law_stepped, [], []⟩]
def fn2 : List He.DefD := [⟨("_law_is_finding", none), "_law_is_finding", "_law_is_finding", defArgs s_law_is_finding, defBody s_law_is_finding, defScope s_law_is_finding, [], []⟩, ⟨("_law_whole", none), "_law_whole", "_law_whole", defArgs s_law_whole, defBody s_law_whole, defScope s_law_whole, [], []⟩, ⟨("_law_right", none), "_law_right", "_law_right", defArgs s_law_right, defBody s_law_right, defScope s_law_right, [], []⟩, ⟨("_law_case", none), "_law_case", "_law_case", defArgs s_law_case, defBody s_law_case, defScope s_law_case, [], []⟩, ⟨("law", none), "law", "law", defArgs s_law, defBody s_law, defScope s_law, [], []⟩]
def fnA : List He.DefD := fn0 ++ fn1 ++ fn2
def fa0 : List He.Fa := [.glo "is_under", .glo "under_some", .glo "sizes_within", .glo "fitting_places", .glo "joins_lead", .glo "steps_done", .glo "closed_kept", .glo "first_finding", .glo "finding_in", .glo "_law_mix", .glo "_law_names", .glo "_law_kinds", .glo "_law_words", .glo "_law_uppers", .glo "_law_lowers", .glo "_law_groups", .glo "_law_bounds", .glo "_law_reading", .glo "_law_part_for", .glo "_law_thing_for", .glo "_law_spoilt", .glo "_law_meets", .glo "_law_bounded", .glo "_law_stepped", .glo "_law_is_finding", .glo "_law_whole", .glo "_law_right", .glo "_law_case", .glo "law", .free "all"]
def fa1 : List He.Fa := [.free "any", .free "bool", .free "dict", .free "enumerate", .free "int", .free "isinstance", .free "len", .free "list", .free "max", .free "range", .free "reversed", .free "set", .free "sorted", .free "tuple"]
def faA : List He.Fa := fa0 ++ fa1
def exA (K : PySem.W.Frag) : Bool := true
abbrev R : PySem.W.OpenRow := PySem.W.OpenLaw.row PySem.Challenge.rw_claimwise_k16_a_finding_is_one
abbrev hk : PySem.W.Hook := hookN 4 faA fnA exA
def ob (s : PySem.W.SharedT) : Bool × He.AlD := obsN 4 faA fnA exA (HandSHeadRun.getT s)
theorem ob_eq (s : PySem.W.SharedT) : ob s = hk.obs s.abs := obsN_eq (HandSHeadRun.getT_eq s)
def nm0 : List PySem.Str := ["is_under", "under_some", "sizes_within", "fitting_places", "joins_lead", "steps_done", "closed_kept", "first_finding", "finding_in", "_law_mix", "_law_names", "_law_kinds", "_law_words", "_law_uppers", "_law_lowers", "_law_groups", "_law_bounds", "_law_reading", "_law_part_for", "_law_thing_for", "_law_spoilt", "_law_meets", "_law_bounded", "_law_stepped", "_law_is_finding", "_law_whole", "_law_right", "_law_case"]
def nmA : List PySem.Str := nm0
theorem run (w : World) : HandSHeadRun.RunEq R (PySem.W.view R.prog [31]) hk ob 4000 nmA w := by
  intro os
  kernel_rfl
theorem ctx {K : PySem.W.Frag} {h : Heap} {mg : Str → Option Value} (X : K.In h) (G : h.Ns mainGlobals mg) (hex : exA K = true) (c : He.SaysD faA fnA K) : Ctx K mg where
  F_is_under := c.def_ 0 (d := ⟨("is_under", none), "is_under", "is_under", defArgs s_is_under, defBody s_is_under, defScope s_is_under, [], []⟩) rfl
  g_is_under := He.glo_ok X G (c.fact 0 (f := .glo "is_under") rfl)
  F_under_some := c.def_ 1 (d := ⟨("under_some", none), "under_some", "under_some", defArgs s_under_some, defBody s_under_some, defScope s_under_some, [], []⟩) rfl
  g_under_some := He.glo_ok X G (c.fact 1 (f := .glo "under_some") rfl)
  F_sizes_within := c.def_ 2 (d := ⟨("sizes_within", none), "sizes_within", "sizes_within", defArgs s_sizes_within, defBody s_sizes_within, defScope s_sizes_within, [], []⟩) rfl
  g_sizes_within := He.glo_ok X G (c.fact 2 (f := .glo "sizes_within") rfl)
  F_fitting_places := c.def_ 3 (d := ⟨("fitting_places", none), "fitting_places", "fitting_places", defArgs s_fitting_places, defBody s_fitting_places, defScope s_fitting_places, [], []⟩) rfl
  g_fitting_places := He.glo_ok X G (c.fact 3 (f := .glo "fitting_places") rfl)
  F_joins_lead := c.def_ 4 (d := ⟨("joins_lead", none), "joins_lead", "joins_lead", defArgs s_joins_lead, defBody s_joins_lead, defScope s_joins_lead, [], []⟩) rfl
  g_joins_lead := He.glo_ok X G (c.fact 4 (f := .glo "joins_lead") rfl)
  F_steps_done := c.def_ 5 (d := ⟨("steps_done", none), "steps_done", "steps_done", defArgs s_steps_done, defBody s_steps_done, defScope s_steps_done, [], []⟩) rfl
  g_steps_done := He.glo_ok X G (c.fact 5 (f := .glo "steps_done") rfl)
  F_closed_kept := c.def_ 6 (d := ⟨("closed_kept", none), "closed_kept", "closed_kept", defArgs s_closed_kept, defBody s_closed_kept, defScope s_closed_kept, [], []⟩) rfl
  g_closed_kept := He.glo_ok X G (c.fact 6 (f := .glo "closed_kept") rfl)
  F_first_finding := c.def_ 7 (d := ⟨("first_finding", none), "first_finding", "first_finding", defArgs s_first_finding, defBody s_first_finding, defScope s_first_finding, [], []⟩) rfl
  g_first_finding := He.glo_ok X G (c.fact 7 (f := .glo "first_finding") rfl)
  F_finding_in := c.def_ 8 (d := ⟨("finding_in", none), "finding_in", "finding_in", defArgs s_finding_in, defBody s_finding_in, defScope s_finding_in, [], []⟩) rfl
  g_finding_in := He.glo_ok X G (c.fact 8 (f := .glo "finding_in") rfl)
  F_law_mix := c.def_ 9 (d := ⟨("_law_mix", none), "_law_mix", "_law_mix", defArgs s_law_mix, defBody s_law_mix, defScope s_law_mix, [], []⟩) rfl
  g_law_mix := He.glo_ok X G (c.fact 9 (f := .glo "_law_mix") rfl)
  F_law_names := c.def_ 10 (d := ⟨("_law_names", none), "_law_names", "_law_names", defArgs s_law_names, defBody s_law_names, defScope s_law_names, [], []⟩) rfl
  g_law_names := He.glo_ok X G (c.fact 10 (f := .glo "_law_names") rfl)
  F_law_kinds := c.def_ 11 (d := ⟨("_law_kinds", none), "_law_kinds", "_law_kinds", defArgs s_law_kinds, defBody s_law_kinds, defScope s_law_kinds, [], []⟩) rfl
  g_law_kinds := He.glo_ok X G (c.fact 11 (f := .glo "_law_kinds") rfl)
  F_law_words := c.def_ 12 (d := ⟨("_law_words", none), "_law_words", "_law_words", defArgs s_law_words, defBody s_law_words, defScope s_law_words, [], []⟩) rfl
  g_law_words := He.glo_ok X G (c.fact 12 (f := .glo "_law_words") rfl)
  F_law_uppers := c.def_ 13 (d := ⟨("_law_uppers", none), "_law_uppers", "_law_uppers", defArgs s_law_uppers, defBody s_law_uppers, defScope s_law_uppers, [], []⟩) rfl
  g_law_uppers := He.glo_ok X G (c.fact 13 (f := .glo "_law_uppers") rfl)
  F_law_lowers := c.def_ 14 (d := ⟨("_law_lowers", none), "_law_lowers", "_law_lowers", defArgs s_law_lowers, defBody s_law_lowers, defScope s_law_lowers, [], []⟩) rfl
  g_law_lowers := He.glo_ok X G (c.fact 14 (f := .glo "_law_lowers") rfl)
  F_law_groups := c.def_ 15 (d := ⟨("_law_groups", none), "_law_groups", "_law_groups", defArgs s_law_groups, defBody s_law_groups, defScope s_law_groups, [], []⟩) rfl
  g_law_groups := He.glo_ok X G (c.fact 15 (f := .glo "_law_groups") rfl)
  F_law_bounds := c.def_ 16 (d := ⟨("_law_bounds", none), "_law_bounds", "_law_bounds", defArgs s_law_bounds, defBody s_law_bounds, defScope s_law_bounds, [], []⟩) rfl
  g_law_bounds := He.glo_ok X G (c.fact 16 (f := .glo "_law_bounds") rfl)
  F_law_reading := c.def_ 17 (d := ⟨("_law_reading", none), "_law_reading", "_law_reading", defArgs s_law_reading, defBody s_law_reading, defScope s_law_reading, [], []⟩) rfl
  g_law_reading := He.glo_ok X G (c.fact 17 (f := .glo "_law_reading") rfl)
  F_law_part_for := c.def_ 18 (d := ⟨("_law_part_for", none), "_law_part_for", "_law_part_for", defArgs s_law_part_for, defBody s_law_part_for, defScope s_law_part_for, [], []⟩) rfl
  g_law_part_for := He.glo_ok X G (c.fact 18 (f := .glo "_law_part_for") rfl)
  F_law_thing_for := c.def_ 19 (d := ⟨("_law_thing_for", none), "_law_thing_for", "_law_thing_for", defArgs s_law_thing_for, defBody s_law_thing_for, defScope s_law_thing_for, [], []⟩) rfl
  g_law_thing_for := He.glo_ok X G (c.fact 19 (f := .glo "_law_thing_for") rfl)
  F_law_spoilt := c.def_ 20 (d := ⟨("_law_spoilt", none), "_law_spoilt", "_law_spoilt", defArgs s_law_spoilt, defBody s_law_spoilt, defScope s_law_spoilt, [], []⟩) rfl
  g_law_spoilt := He.glo_ok X G (c.fact 20 (f := .glo "_law_spoilt") rfl)
  F_law_meets := c.def_ 21 (d := ⟨("_law_meets", none), "_law_meets", "_law_meets", defArgs s_law_meets, defBody s_law_meets, defScope s_law_meets, [], []⟩) rfl
  g_law_meets := He.glo_ok X G (c.fact 21 (f := .glo "_law_meets") rfl)
  F_law_bounded := c.def_ 22 (d := ⟨("_law_bounded", none), "_law_bounded", "_law_bounded", defArgs s_law_bounded, defBody s_law_bounded, defScope s_law_bounded, [], []⟩) rfl
  g_law_bounded := He.glo_ok X G (c.fact 22 (f := .glo "_law_bounded") rfl)
  F_law_stepped := c.def_ 23 (d := ⟨("_law_stepped", none), "_law_stepped", "_law_stepped", defArgs s_law_stepped, defBody s_law_stepped, defScope s_law_stepped, [], []⟩) rfl
  g_law_stepped := He.glo_ok X G (c.fact 23 (f := .glo "_law_stepped") rfl)
  F_law_is_finding := c.def_ 24 (d := ⟨("_law_is_finding", none), "_law_is_finding", "_law_is_finding", defArgs s_law_is_finding, defBody s_law_is_finding, defScope s_law_is_finding, [], []⟩) rfl
  g_law_is_finding := He.glo_ok X G (c.fact 24 (f := .glo "_law_is_finding") rfl)
  F_law_whole := c.def_ 25 (d := ⟨("_law_whole", none), "_law_whole", "_law_whole", defArgs s_law_whole, defBody s_law_whole, defScope s_law_whole, [], []⟩) rfl
  g_law_whole := He.glo_ok X G (c.fact 25 (f := .glo "_law_whole") rfl)
  F_law_right := c.def_ 26 (d := ⟨("_law_right", none), "_law_right", "_law_right", defArgs s_law_right, defBody s_law_right, defScope s_law_right, [], []⟩) rfl
  g_law_right := He.glo_ok X G (c.fact 26 (f := .glo "_law_right") rfl)
  F_law_case := c.def_ 27 (d := ⟨("_law_case", none), "_law_case", "_law_case", defArgs s_law_case, defBody s_law_case, defScope s_law_case, [], []⟩) rfl
  g_law_case := He.glo_ok X G (c.fact 27 (f := .glo "_law_case") rfl)
  F_law := c.def_ 28 (d := ⟨("law", none), "law", "law", defArgs s_law, defBody s_law, defScope s_law, [], []⟩) rfl
  g_law := He.glo_ok X G (c.fact 28 (f := .glo "law") rfl)
  b_all := He.free_ok X G (c.fact 29 (f := .free "all") rfl)
  b_any := He.free_ok X G (c.fact 30 (f := .free "any") rfl)
  b_bool := He.free_ok X G (c.fact 31 (f := .free "bool") rfl)
  b_dict := He.free_ok X G (c.fact 32 (f := .free "dict") rfl)
  b_enumerate := He.free_ok X G (c.fact 33 (f := .free "enumerate") rfl)
  b_int := He.free_ok X G (c.fact 34 (f := .free "int") rfl)
  b_isinstance := He.free_ok X G (c.fact 35 (f := .free "isinstance") rfl)
  b_len := He.free_ok X G (c.fact 36 (f := .free "len") rfl)
  b_list := He.free_ok X G (c.fact 37 (f := .free "list") rfl)
  b_max := He.free_ok X G (c.fact 38 (f := .free "max") rfl)
  b_range := He.free_ok X G (c.fact 39 (f := .free "range") rfl)
  b_reversed := He.free_ok X G (c.fact 40 (f := .free "reversed") rfl)
  b_set := He.free_ok X G (c.fact 41 (f := .free "set") rfl)
  b_sorted := He.free_ok X G (c.fact 42 (f := .free "sorted") rfl)
  b_tuple := He.free_ok X G (c.fact 43 (f := .free "tuple") rfl)
theorem holds (T : ∀ ns : List Int, ns.length ≤ 63 → d_law [.list (ns.map PyData.int)] = .rt (.d (.bool true))) : PySem.Challenge.rw_claimwise_k16_a_finding_is_one.Holds := by
  w_on; o_law
  refine HandSHeadRun.head_any (r := R) (q := PySem.W.view R.prog [31]) (H := hk) (ob := ob) (M := 4000) (loose := nmA) (d := HandSHeadRun.topDef R.prog 31) (kwd := []) ob_eq
    (by kernel_rfl) (fun s => by kernel_rfl) run (by kernel_rfl) (by kernel_rfl) (by kernel_rfl) (by rfl) (by first | assumption | decide +kernel) (by decide +kernel) ⟨rfl, rfl, rfl, rfl, rfl, by decide +kernel⟩ ?hw ?hc
  case hw => w_witness2
  case hc =>
    refine law_end (l := PySem.Challenge.rw_claimwise_k16_a_finding_is_one) (n := 4) (k := 14) (fa := faA) (fn := fnA) (ex := exA) (x := "_law_script") (f := d_law) rfl rfl (by kernel_rfl) ⟨rfl, by decide, by decide⟩ (by kernel_rfl) ?F T
    intro w K h mg KX G hex c
    have C := ctx KX G hex c
    obtain ⟨fd, FD⟩ := C.F_law
    refine ⟨fd, fun s u => FunD.bindsA (ps := ["_law_script"]) FD (fun _ _ _ _ _ _ us hl => match us, hl with | [_], _ => rfl) s [u] rfl, C.g_law, fun base _ _ => fn_law FD C⟩
end K16
theorem PySem.Challenge.cw_claimwise_k16_a_finding_is_one_holds : PySem.Challenge.rw_claimwise_k16_a_finding_is_one.Holds :=
  K16.holds K16.law_ok
