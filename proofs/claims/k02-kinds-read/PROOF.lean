import PyProof.Rows.All
import Wide.All
import OpenK.AllK
import Wide.FinOn
import PyProof.EqAt
import PyProof.EqKinds
import PyProof.TupleCall
import HandS.Base
import HandS.Call
import HandS.List
import HandS.Comp
import HandS.Ends
import HandS.Dict
import HandS.Iter
import HandS.Text
import HandS.Exc
import HandS.TryOnly
import HandS.ExcOwn
import HandS.Words
import HandS.WordsList
import HandS.WordsDict
import HandS.WordsExc
import HandS.Defaults
import HandS.HeadHook1
import HandS.IsInst
import HandS.TupAny
import HandS.Deep
import HandS.Wide
import HandS.HeadEnd
import HandS.Head0
import HandS.Head1
import HandS.Head2
import HandS.HeadHook2
import HandS.Replace
import HandS.More
import KE.IntTextLaws
import PySem.Challenge.RW_claimwise_k02_kinds_read
set_option Elab.async false
set_option linter.all false
set_option maxHeartbeats 4000000
set_option maxRecDepth 100000
/-! Value semantics over the hand layer: data, frozen heaps, owned lists and dicts; readings of expressions and statements as plain functions. -/
namespace DL
open PySem PySem.Spec PyProof.Rows L2

abbrev PD := PyData
/-- an exception: its class's name, its fields -/
structure Ec where
  cls : Str
  fs : List (Str × V)
/-- what a piece of code hands on -/
inductive R (α : Type) where
  | ok (a : α)
  | exc (c : Ec)
  | bad
def R.bind {α β : Type} : R α → (α → R β) → R β
  | .ok a, f => f a
  | .exc c, _ => .exc c
  | .bad, _ => .bad
theorem R.bind_ok {α β : Type} (a : α) (f : α → R β) : (R.ok a).bind f = f a := rfl
theorem R.bind_exc {α β : Type} (c : Ec) (f : α → R β) : (R.exc c).bind f = .exc c := rfl
theorem R.bind_bad {α β : Type} (f : α → R β) : (R.bad : R α).bind f = .bad := rfl

/-! ### heaps -/
structure Ext (F H F' H' : Hp) : Prop where
  f : Same F F'
  g : Same F' H'
  h : Same H H'
  n : ∀ p, F' p ≠ none → F p ≠ none ∨ H p = none
theorem Ext.refl {F H : Hp} (s : Same F H) : Ext F H F H := ⟨Same.refl F, s, Same.refl H, fun _ h => .inl h⟩
theorem Ext.trans {F H F1 H1 F2 H2 : Hp} (a : Ext F H F1 H1) (b : Ext F1 H1 F2 H2) : Ext F H F2 H2 :=
  ⟨a.f.trans b.f, b.g, a.h.trans b.h, fun p hp => (b.n p hp).elim (fun q => a.n p q) fun q => .inr (a.h.free q)⟩
theorem Ext.base {F0 H0 F H F' H' : Hp} (a : Ext F0 H0 F H) (b : Ext F H0 F' H') : Ext F0 H0 F' H' :=
  ⟨a.f.trans b.f, b.g, b.h, fun p hp => (b.n p hp).elim (fun q => a.n p q) .inr⟩
/-- a new object, frozen -/
theorem Ext.new {F H : Hp} {p : Addr} {o : HO} (s : Same F H) (h : H p = none) : Ext F H (upd F p o) (upd H p o) := by
  have hf : F p = none := s.free h
  refine ⟨fun b u e => ?_, fun b u e => ?_, fun b u e => ?_, fun b e => ?_⟩
  · rw [upd_ne (ne_of_none e hf)]; exact e
  · by_cases hb : b = p
    · subst hb; rw [upd_same] at e ⊢; exact e
    · rw [upd_ne hb] at e ⊢; exact s b u e
  · rw [upd_ne (ne_of_none e h)]; exact e
  · by_cases hb : b = p
    · subst hb; exact .inr h
    · rw [upd_ne hb] at e; exact .inl e
/-- a new object, not frozen -/
theorem Ext.own {F H : Hp} {p : Addr} {o : HO} (s : Same F H) (h : H p = none) : Ext F H F (upd H p o) := by
  have hf : F p = none := s.free h
  refine ⟨Same.refl F, fun b u e => ?_, fun b u e => ?_, fun b e => .inl e⟩
  · rw [upd_ne (ne_of_none e hf)]; exact s b u e
  · rw [upd_ne (ne_of_none e h)]; exact e
/-- only H grows -/
theorem Ext.heap {F H H' : Hp} (s : Same F H) (h : Same H H') : Ext F H F H' := ⟨Same.refl F, s.trans h, h, fun _ e => .inl e⟩
theorem seqL {K : PySem.W.Frag} {H H' : Hp} {a : Addr} {xs : List V} (e : Same H H') (h : SqL K H a xs) : SqL K H' a xs := e.seq h
theorem seqT {K : PySem.W.Frag} {H H' : Hp} {a : Addr} {xs : List V} (e : Same H H') (h : SqT K H a xs) : SqT K H' a xs := by
  rcases h with (h | ⟨o, h⟩) | h
  · exact .inl (.inl (e _ _ h))
  · exact .inl (.inr ⟨o, e _ _ h⟩)
  · exact .inr h
theorem rdM {H H' : Hp} {a : Addr} {u : HO} (e : Same H H') (h : Rd H a u) : Rd H' a u := by
  rcases h with h | ⟨o, h⟩
  · exact .inl (e _ _ h)
  · exact .inr ⟨o, e _ _ h⟩
/-! ### data in a heap: lists that the heap tracks (or that are known), tuples -/
mutual
inductive Dp (K : PySem.W.Frag) (F : Hp) : V → PyData → Prop
  | non : Dp K F .non .none
  | bl (b : Bool) : Dp K F (.bl b) (.bool b)
  | int (i : Int) : Dp K F (.int i) (.int i)
  | str (x : Str) : Dp K F (.str x) (.str x)
  | lst {a : Addr} {xs : List V} {ds : List PyData} : Rd F a (.lst xs) → DpAll K F xs ds → Dp K F (.ref a) (.list ds)
  | tup {a : Addr} {xs : List V} {ds : List PyData} : SqT K F a xs → DpAll K F xs ds → Dp K F (.ref a) (.tuple ds)
inductive DpAll (K : PySem.W.Frag) (F : Hp) : List V → List PyData → Prop
  | nil : DpAll K F [] []
  | cons {v : V} {vs : List V} {d : PyData} {ds : List PyData} : Dp K F v d → DpAll K F vs ds → DpAll K F (v :: vs) (d :: ds)
end
mutual
theorem Dp.mono {K : PySem.W.Frag} {H H' : Hp} (e : Same H H') : ∀ {v : V} {d : PyData}, Dp K H v d → Dp K H' v d
  | _, _, .non => .non
  | _, _, .bl b => .bl b
  | _, _, .int i => .int i
  | _, _, .str x => .str x
  | _, _, .lst s a => .lst (rdM e s) (DpAll.mono e a)
  | _, _, .tup s a => .tup (seqT e s) (DpAll.mono e a)
theorem DpAll.mono {K : PySem.W.Frag} {H H' : Hp} (e : Same H H') : ∀ {vs : List V} {ds : List PyData}, DpAll K H vs ds → DpAll K H' vs ds
  | _, _, .nil => .nil
  | _, _, .cons h t => .cons (Dp.mono e h) (DpAll.mono e t)
end
mutual
theorem Dp.l2 {K : PySem.W.Frag} {H : Hp} : ∀ {v : V} {d : PyData}, Dp K H v d → L2.Dp K H v d
  | _, _, .non => .non
  | _, _, .bl b => .bl b
  | _, _, .int i => .int i
  | _, _, .str x => .str x
  | _, _, .lst s a => .lst (.inl s) (DpAll.l2 a)
  | _, _, .tup s a => .tup s (DpAll.l2 a)
theorem DpAll.l2 {K : PySem.W.Frag} {H : Hp} : ∀ {vs : List V} {ds : List PyData}, DpAll K H vs ds → L2.DpAll K H vs ds
  | _, _, .nil => .nil
  | _, _, .cons h t => .cons (Dp.l2 h) (DpAll.l2 t)
end
section
variable {K : PySem.W.Frag} {F H : Hp}
theorem DpAll.length : ∀ {vs : List V} {ds : List PyData}, DpAll K H vs ds → vs.length = ds.length
  | _, _, .nil => rfl
  | _, _, .cons _ t => by rw [List.length_cons, List.length_cons, t.length]
theorem DpAll.append : ∀ {vs us : List V} {ds es : List PyData}, DpAll K H vs ds → DpAll K H us es → DpAll K H (vs ++ us) (ds ++ es)
  | _, _, _, _, .nil, u => u
  | _, _, _, _, .cons h t, u => .cons h (DpAll.append t u)
theorem DpAll.get : ∀ {vs : List V} {ds : List PyData} {i : Nat} {v : V}, DpAll K H vs ds → vs[i]? = some v → ∃ d, ds[i]? = some d ∧ Dp K H v d
  | _, _, _, _, .nil, e => by simp at e
  | _, _, 0, _, .cons h _, e => by simp at e; subst e; exact ⟨_, rfl, h⟩
  | _, _, i + 1, v, .cons _ t, e => by
    obtain ⟨d, h1, h2⟩ := DpAll.get (i := i) (v := v) t (by simpa using e)
    exact ⟨d, by simpa using h1, h2⟩
theorem DpAll.get' : ∀ {vs : List V} {ds : List PyData} {i : Nat} {d : PyData}, DpAll K H vs ds → ds[i]? = some d → ∃ v, vs[i]? = some v ∧ Dp K H v d
  | _, _, _, _, .nil, e => by simp at e
  | _, _, 0, _, .cons h _, e => by simp at e; subst e; exact ⟨_, rfl, h⟩
  | _, _, i + 1, d, .cons _ t, e => by
    obtain ⟨v, h1, h2⟩ := DpAll.get' (i := i) (d := d) t (by simpa using e)
    exact ⟨v, by simpa using h1, h2⟩
theorem DpAll.set : ∀ {vs : List V} {ds : List PyData} {v : V} {d : PyData} (i : Nat), DpAll K H vs ds → Dp K H v d → DpAll K H (vs.set i v) (ds.set i d)
  | _, _, _, _, _, .nil, _ => .nil
  | _, _, _, _, 0, .cons _ t, h => .cons h t
  | _, _, _, _, i + 1, .cons q t, h => .cons q (DpAll.set i t h)
theorem DpAll.take : ∀ {vs : List V} {ds : List PyData} (n : Nat), DpAll K H vs ds → DpAll K H (vs.take n) (ds.take n)
  | _, _, 0, _ => .nil
  | _, _, _ + 1, .nil => .nil
  | _, _, n + 1, .cons r t => .cons r (DpAll.take n t)
theorem DpAll.drop : ∀ {vs : List V} {ds : List PyData} (n : Nat), DpAll K H vs ds → DpAll K H (vs.drop n) (ds.drop n)
  | _, _, 0, r => r
  | _, _, _ + 1, .nil => .nil
  | _, _, n + 1, .cons _ t => DpAll.drop n t
theorem DpAll.ints : ∀ {ns : List Int}, DpAll K H (ns.map V.int) (ns.map PyData.int)
  | [] => .nil
  | _ :: _ => .cons (.int _) DpAll.ints
theorem DpAll.of_ints : ∀ {vs : List V} {ns : List Int}, DpAll K H vs (ns.map PyData.int) → vs = ns.map V.int
  | _, [], h => by cases h; rfl
  | _, n :: ns, h => by
    cases h with
    | cons a b => cases a; rw [DpAll.of_ints b]; rfl
theorem DpAll.of_strs : ∀ {vs : List V} {ns : List Str}, DpAll K H vs (ns.map PyData.str) → vs = ns.map V.str
  | _, [], h => by cases h; rfl
  | _, n :: ns, h => by
    cases h with
    | cons a b => cases a; rw [DpAll.of_strs b]; rfl
theorem DpAll.strs : ∀ {ns : List Str}, DpAll K H (ns.map V.str) (ns.map PyData.str)
  | [] => .nil
  | _ :: _ => .cons (.str _) DpAll.strs
theorem DpAll.of_bls : ∀ {vs : List V} {ns : List Bool}, DpAll K H vs (ns.map PyData.bool) → vs = ns.map V.bl
  | _, [], h => by cases h; rfl
  | _, n :: ns, h => by
    cases h with
    | cons a b => cases a; rw [DpAll.of_bls b]; rfl
end

/-! ### owned lists and dicts -/
def keyD : Key → PD
  | .inl i => .int i
  | .inr s => .str s
def keyT (ks : List Key) : PD := .tuple (ks.map keyD)
/-- entries of a dict -/
inductive KvR (K : PySem.W.Frag) (F : Hp) {κ : Type} (kd : κ → PD) : List (κ × V) → List (PD × PD) → Prop
  | nil : KvR K F kd [] []
  | cons {k : κ} {v : V} {d : PD} {es : List (κ × V)} {kvs : List (PD × PD)} : Dp K F v d → KvR K F kd es kvs → KvR K F kd ((k, v) :: es) ((kd k, d) :: kvs)
theorem KvR.mono {K : PySem.W.Frag} {F F' : Hp} {κ : Type} {kd : κ → PD} (e : Same F F') : ∀ {es : List (κ × V)} {kvs : List (PD × PD)}, KvR K F kd es kvs → KvR K F' kd es kvs
  | _, _, .nil => .nil
  | _, _, .cons h t => .cons (h.mono e) (t.mono e)
def DicAt (K : PySem.W.Frag) (F H : Hp) (p : Addr) (kvs : List (PD × PD)) : Prop :=
  ∃ es, H p = some (.dK es) ∧ KvR K F keyD es kvs
def OwnAt (K : PySem.W.Frag) (F H : Hp) (p : Addr) : PD → Prop
  | .list ds => ∃ vs, H p = some (.lst vs) ∧ DpAll K F vs ds
  | .dict kvs => DicAt K F H p kvs
  | _ => False
theorem OwnAt.mono {K : PySem.W.Frag} {F H F' H' : Hp} {p : Addr} {d : PD} (e : Same F F') (g : ∀ o, H p = some o → H' p = some o) (h : OwnAt K F H p d) : OwnAt K F' H' p d := by
  cases d with
  | list ds => obtain ⟨vs, a, b⟩ := h; exact ⟨vs, g _ a, b.mono e⟩
  | dict kvs =>
    obtain ⟨es, a, b⟩ := h
    exact ⟨es, g _ a, b.mono e⟩
  | _ => exact h.elim
theorem OwnAt.some {K : PySem.W.Frag} {F H : Hp} {p : Addr} {d : PD} (h : OwnAt K F H p d) : ∃ o, H p = some o := by
  cases d with
  | list ds => obtain ⟨vs, a, b⟩ := h; exact ⟨_, a⟩
  | dict kvs =>
    obtain ⟨es, a, b⟩ := h
    exact ⟨_, a⟩
  | _ => exact h.elim
/-- what may be read as data -/
def Rp (K : PySem.W.Frag) (F H : Hp) (v : V) (d : PD) : Prop := Dp K F v d ∨ ∃ p, v = .ref p ∧ OwnAt K F H p d
theorem Rp.ext {K : PySem.W.Frag} {F H F' H' : Hp} {v : V} {d : PD} (e : Same F F') (g : Same H H') : Rp K F H v d → Rp K F' H' v d
  | .inl h => .inl (h.mono e)
  | .inr ⟨p, a, h⟩ => .inr ⟨p, a, h.mono e fun o q => g p o q⟩
theorem Rp.dp {K : PySem.W.Frag} {F H : Hp} {v : V} {d : PD} (s : Same F H) (h : Rp K F H v d) (hd : ∀ kvs, d ≠ .dict kvs) : Dp K H v d := by
  rcases h with h | ⟨p, rfl, h⟩
  · exact h.mono s
  · cases d with
    | list ds => obtain ⟨vs, a, b⟩ := h; exact .lst (.inl a) (b.mono s)
    | dict kvs => exact absurd rfl (hd kvs)
    | _ => exact h.elim
/-- a list that may be read: its items are frozen -/
theorem Rp.list {K : PySem.W.Frag} {F H : Hp} {v : V} {ds : List PD} (s : Same F H) (h : Rp K F H v (.list ds)) : ∃ a vs, v = .ref a ∧ Rd H a (.lst vs) ∧ DpAll K F vs ds := by
  rcases h with h | ⟨p, rfl, vs, a, b⟩
  · cases h with
    | lst q r => exact ⟨_, _, rfl, rdM s q, r⟩
  · exact ⟨p, vs, rfl, .inl a, b⟩
theorem Rp.tuple {K : PySem.W.Frag} {F H : Hp} {v : V} {ds : List PD} (s : Same F H) (h : Rp K F H v (.tuple ds)) : ∃ a vs, v = .ref a ∧ SqT K H a vs ∧ DpAll K F vs ds := by
  rcases h with h | ⟨p, rfl, h⟩
  · cases h with
    | tup q r => exact ⟨_, _, rfl, seqT s q, r⟩
  · exact h.elim
theorem Rp.int {K : PySem.W.Frag} {F H : Hp} {v : V} {i : Int} (h : Rp K F H v (.int i)) : v = .int i := by
  rcases h with h | ⟨p, rfl, h⟩
  · cases h; rfl
  · exact h.elim
theorem Rp.str {K : PySem.W.Frag} {F H : Hp} {v : V} {i : Str} (h : Rp K F H v (.str i)) : v = .str i := by
  rcases h with h | ⟨p, rfl, h⟩
  · cases h; rfl
  · exact h.elim
theorem Rp.bool {K : PySem.W.Frag} {F H : Hp} {v : V} {i : Bool} (h : Rp K F H v (.bool i)) : v = .bl i := by
  rcases h with h | ⟨p, rfl, h⟩
  · cases h; rfl
  · exact h.elim
theorem Rp.none {K : PySem.W.Frag} {F H : Hp} {v : V} (h : Rp K F H v .none) : v = .non := by
  rcases h with h | ⟨p, rfl, h⟩
  · cases h; rfl
  · exact h.elim
inductive RpAll (K : PySem.W.Frag) (F H : Hp) : List V → List PD → Prop
  | nil : RpAll K F H [] []
  | cons {v : V} {vs : List V} {d : PD} {ds : List PD} : Rp K F H v d → RpAll K F H vs ds → RpAll K F H (v :: vs) (d :: ds)
theorem RpAll.length {K : PySem.W.Frag} {F H : Hp} : ∀ {vs : List V} {ds : List PD}, RpAll K F H vs ds → vs.length = ds.length
  | _, _, .nil => rfl
  | _, _, .cons _ t => by rw [List.length_cons, List.length_cons, t.length]

/-! ### the state -/
inductive Sl where
  | d (x : PD)
  | o (x : PD)
  | l (x : PD)
/-- plain values as data -/
def encV : V → PD
  | .bl b => .bool b
  | .int i => .int i
  | .str x => .str x
  | .non => .none
  | _ => .dict []
def encF (fs : List (Str × V)) : List PD := fs.map fun q => .tuple [.str q.1, encV q.2]
/-- a dict that is walked; a caught exception: itself, its dict's place, its fields -/
def LckAt (K : PySem.W.Frag) (F : Hp) (p : Addr) : PD → Prop
  | .dict kvs => ∃ od es, F p = some (.frz od (.dK es)) ∧ KvR K F keyD es kvs
  | .tuple [.int a, .int b, .list es] => p = a.toNat ∧ ∃ fs, F b.toNat = some (.xd fs) ∧ es = encF fs
  | _ => False
theorem LckAt.mono {K : PySem.W.Frag} {F F' : Hp} {p : Addr} {d : PD} (e : Same F F') (h : LckAt K F p d) : LckAt K F' p d := by
  unfold LckAt at h ⊢
  split at h
  · obtain ⟨od, es, a, b⟩ := h; exact ⟨od, es, e _ _ a, b.mono e⟩
  · obtain ⟨q, fs, a, b⟩ := h; exact ⟨q, fs, e _ _ a, b⟩
  · exact h.elim
abbrev Rho := List (Option Sl)
structure StR (K : PySem.W.Frag) (F0 H0 F H : Hp) (σ : L2.St) (ρ : Rho) : Prop where
  ext : Ext F0 H0 F H
  len : σ.length = ρ.length
  dat : ∀ (i : Nat) (x : PD), ρ[i]? = some (some (Sl.d x)) → ∃ v, σ[i]? = some (some v) ∧ Dp K F v x
  own : ∀ (i : Nat) (x : PD), ρ[i]? = some (some (Sl.o x)) → ∃ p, σ[i]? = some (some (.ref p)) ∧ H0 p = none ∧ F p = none ∧ OwnAt K F H p x
  dis : ∀ (i j : Nat) (x y : PD) (p : Addr), ρ[i]? = some (some (Sl.o x)) → ρ[j]? = some (some (Sl.o y)) → σ[i]? = some (some (.ref p)) → σ[j]? = some (some (.ref p)) → i = j
  lck : ∀ (i : Nat) (x : PD), ρ[i]? = some (some (Sl.l x)) → ∃ p, σ[i]? = some (some (.ref p)) ∧ LckAt K F p x
section
variable {K : PySem.W.Frag} {F0 H0 F H F' H' : Hp} {σ : L2.St} {ρ : Rho}
theorem StR.same (S : StR K F0 H0 F H σ ρ) : Same F H := S.ext.g
theorem StR.go (S : StR K F0 H0 F H σ ρ) (e : Ext F H F' H') : StR K F0 H0 F' H' σ ρ := by
  refine ⟨S.ext.trans e, S.len, fun i x h => ?_, fun i x h => ?_, S.dis, fun i x h => let ⟨p, a, b⟩ := S.lck i x h; ⟨p, a, b.mono e.f⟩⟩
  · obtain ⟨v, a, b⟩ := S.dat i x h
    exact ⟨v, a, b.mono e.f⟩
  · obtain ⟨p, a, b, c, d⟩ := S.own i x h
    refine ⟨p, a, b, ?_, d.mono e.f fun o q => e.h p o q⟩
    obtain ⟨o, ho⟩ := d.some
    cases q : F' p with
    | none => rfl
    | some u =>
      rcases e.n p (by rw [q]; exact Option.some_ne_none u) with z | z
      · exact absurd c z
      · rw [ho] at z; cases z
/-- the base put to where one stands -/
theorem StR.rebase (S : StR K F0 H0 F H σ ρ) : StR K F H0 F H σ ρ :=
  ⟨⟨Same.refl F, S.ext.g, S.ext.h, fun _ h => .inl h⟩, S.len, S.dat, S.own, S.dis, S.lck⟩
theorem StR.unbase {F1 H1 : Hp} (b : Ext F0 H0 F H) (S : StR K F H0 F1 H1 σ ρ) : StR K F0 H0 F1 H1 σ ρ :=
  ⟨b.base S.ext, S.len, S.dat, S.own, S.dis, S.lck⟩
theorem get_set {α : Type} {l : List (Option α)} {i j : Nat} {x : Option α} {y : α} (h : (l.set i x)[j]? = some (some y)) : (i = j ∧ i < l.length ∧ x = some y) ∨ (i ≠ j ∧ l[j]? = some (some y)) := by
  by_cases e : i = j
  · subst e
    by_cases hl : i < l.length
    · rw [List.getElem?_set_self hl] at h
      exact .inl ⟨rfl, hl, Option.some.inj h⟩
    · rw [List.getElem?_eq_none (by simpa using hl)] at h; cases h
  · rw [List.getElem?_set_ne e] at h
    exact .inr ⟨e, h⟩
/-- a slot gets data -/
theorem StR.setD (S : StR K F0 H0 F H σ ρ) {i : Nat} {v : V} {x : PD} (h : Dp K F v x) : StR K F0 H0 F H (σ.set i (some v)) (ρ.set i (some (Sl.d x))) := by
  refine ⟨S.ext, by simpa using S.len, fun j y e => ?_, fun j y e => ?_, fun j k y z p e1 e2 e3 e4 => ?_, fun j y e => ?_⟩
  · rcases get_set e with ⟨rfl, hl, q⟩ | ⟨hn, q⟩
    · injection q with q; injection q with q; subst q
      exact ⟨v, by rw [List.getElem?_set_self (by rw [S.len]; exact hl)], h⟩
    · obtain ⟨u, a, b⟩ := S.dat j y q
      exact ⟨u, by rw [List.getElem?_set_ne hn]; exact a, b⟩
  · rcases get_set e with ⟨rfl, hl, q⟩ | ⟨hn, q⟩
    · injection q with q; cases q
    · obtain ⟨p, a, b⟩ := S.own j y q
      exact ⟨p, by rw [List.getElem?_set_ne hn]; exact a, b⟩
  · rcases get_set e1 with ⟨_, _, q⟩ | ⟨n1, q1⟩
    · injection q with q; cases q
    · rcases get_set e2 with ⟨_, _, q⟩ | ⟨n2, q2⟩
      · injection q with q; cases q
      · rw [List.getElem?_set_ne n1] at e3
        rw [List.getElem?_set_ne n2] at e4
        exact S.dis j k y z p q1 q2 e3 e4
  · rcases get_set e with ⟨rfl, hl, q⟩ | ⟨hn, q⟩
    · injection q with q; cases q
    · obtain ⟨u, a, b⟩ := S.lck j y q
      exact ⟨u, by rw [List.getElem?_set_ne hn]; exact a, b⟩
/-- a slot gets an owned thing that no slot has -/
theorem StR.setO (S : StR K F0 H0 F H σ ρ) {i : Nat} {p : Addr} {x : PD} (h0 : H0 p = none) (hf : F p = none) (h : OwnAt K F H p x)
    (hn : ∀ (j : Nat) (y : PD), j ≠ i → ρ[j]? = some (some (Sl.o y)) → σ[j]? ≠ some (some (.ref p))) : StR K F0 H0 F H (σ.set i (some (.ref p))) (ρ.set i (some (Sl.o x))) := by
  refine ⟨S.ext, by simpa using S.len, fun j y e => ?_, fun j y e => ?_, fun j k y z q e1 e2 e3 e4 => ?_, fun j y e => ?_⟩
  · rcases get_set e with ⟨rfl, hl, q⟩ | ⟨hn, q⟩
    · injection q with q; cases q
    · obtain ⟨u, a, b⟩ := S.dat j y q
      exact ⟨u, by rw [List.getElem?_set_ne hn]; exact a, b⟩
  · rcases get_set e with ⟨rfl, hl, q⟩ | ⟨hn, q⟩
    · injection q with q; injection q with q; subst q
      exact ⟨p, by rw [List.getElem?_set_self (by rw [S.len]; exact hl)], h0, hf, h⟩
    · obtain ⟨p, a, b⟩ := S.own j y q
      exact ⟨p, by rw [List.getElem?_set_ne hn]; exact a, b⟩
  · rcases get_set e1 with ⟨r1, l1, q1⟩ | ⟨n1, q1⟩
    · rcases get_set e2 with ⟨r2, l2, q2⟩ | ⟨n2, q2⟩
      · exact r1.symm.trans r2
      · subst r1
        rw [List.getElem?_set_self (by rw [S.len]; exact l1)] at e3
        injection e3 with e3; injection e3 with e3; injection e3 with e3; subst e3
        rw [List.getElem?_set_ne n2] at e4
        exact absurd e4 (hn k z n2.symm q2)
    · rcases get_set e2 with ⟨r2, l2, q2⟩ | ⟨n2, q2⟩
      · subst r2
        rw [List.getElem?_set_self (by rw [S.len]; exact l2)] at e4
        injection e4 with e4; injection e4 with e4; injection e4 with e4; subst e4
        rw [List.getElem?_set_ne n1] at e3
        exact absurd e3 (hn j y n1.symm q1)
      · rw [List.getElem?_set_ne n1] at e3
        rw [List.getElem?_set_ne n2] at e4
        exact S.dis j k y z q q1 q2 e3 e4
  · rcases get_set e with ⟨rfl, hl, q⟩ | ⟨hn, q⟩
    · injection q with q; cases q
    · obtain ⟨u, a, b⟩ := S.lck j y q
      exact ⟨u, by rw [List.getElem?_set_ne hn]; exact a, b⟩
/-- .. a new one -/
theorem StR.setN {F1 H1 : Hp} (S : StR K F0 H0 F H σ ρ) {i : Nat} {p : Addr} {x : PD} (e : Ext F H F1 H1) (hp : H p = none) (hf : F1 p = none) (h : OwnAt K F1 H1 p x) :
    StR K F0 H0 F1 H1 (σ.set i (some (.ref p))) (ρ.set i (some (Sl.o x))) := by
  refine (S.go e).setO (S.ext.h.free hp) hf h fun j y _ q z => ?_
  obtain ⟨p', a, b, c, d⟩ := S.own j y q
  rw [z] at a
  injection a with a; injection a with a; injection a with a; subst a
  obtain ⟨o, ho⟩ := d.some
  rw [hp] at ho; cases ho
/-- an owned thing is changed in place -/
theorem StR.mut (S : StR K F0 H0 F H σ ρ) {i : Nat} {p : Addr} {x y : PD} {o : HO} (hi : ρ[i]? = some (some (Sl.o x))) (hs : σ[i]? = some (some (.ref p))) (h : OwnAt K F (upd H p o) p y) :
    StR K F0 H0 F (upd H p o) σ (ρ.set i (some (Sl.o y))) := by
  obtain ⟨p', a, b, c, d⟩ := S.own i x hi
  rw [hs] at a
  injection a with a; injection a with a; injection a with a; subst a
  have hil : i < ρ.length := (List.getElem?_eq_some_iff.mp hi).1
  refine ⟨⟨S.ext.f, fun r u e => ?_, fun r u e => ?_, S.ext.n⟩, by simpa using S.len, fun j z e => ?_, fun j z e => ?_, fun j k z w q e1 e2 e3 e4 => ?_, fun j z e => ?_⟩
  · rw [upd_ne (ne_of_none e c)]; exact S.ext.g r u e
  · rw [upd_ne (ne_of_none e b)]; exact S.ext.h r u e
  · rcases get_set e with ⟨rfl, hl, q⟩ | ⟨hn, q⟩
    · injection q with q; cases q
    · exact S.dat j z q
  · rcases get_set e with ⟨rfl, hl, q⟩ | ⟨hn, q⟩
    · injection q with q; injection q with q; subst q
      exact ⟨p, hs, b, c, h⟩
    · obtain ⟨p2, a2, b2, c2, d2⟩ := S.own j z q
      refine ⟨p2, a2, b2, c2, d2.mono (Same.refl F) fun u hu => ?_⟩
      by_cases hp : p2 = p
      · subst hp
        exact absurd (S.dis i j x z p2 hi q hs a2) hn
      · rw [upd_ne hp]; exact hu
  · rcases get_set e1 with ⟨r1, l1, q1⟩ | ⟨n1, q1⟩
    · rcases get_set e2 with ⟨r2, l2, q2⟩ | ⟨n2, q2⟩
      · exact r1.symm.trans r2
      · subst r1
        exact S.dis i k x w q hi q2 e3 e4
    · rcases get_set e2 with ⟨r2, l2, q2⟩ | ⟨n2, q2⟩
      · subst r2
        exact S.dis j i z x q q1 hi e3 e4
      · exact S.dis j k z w q q1 q2 e3 e4
  · rcases get_set e with ⟨rfl, hl, q⟩ | ⟨hn, q⟩
    · injection q with q; cases q
    · exact S.lck j z q
/-- an owned list becomes data -/
def frzS : Option Sl → Option Sl
  | some (Sl.o (.list ds)) => some (Sl.d (.list ds))
  | s => s
def frz1 (i : Nat) (ρ : Rho) : Rho := match ρ[i]? with
  | some (some (Sl.o (.list ds))) => ρ.set i (some (Sl.d (.list ds)))
  | _ => ρ
theorem StR.frz1 (S : StR K F0 H0 F H σ ρ) (i : Nat) : ∃ F', Ext F0 H0 F' H ∧ Same F F' ∧ StR K F0 H0 F' H σ (frz1 i ρ) := by
  have triv : ∃ F', Ext F0 H0 F' H ∧ Same F F' ∧ StR K F0 H0 F' H σ ρ := ⟨F, S.ext, Same.refl F, S⟩
  unfold DL.frz1
  split
  · rename_i ds hi
    obtain ⟨p, a, b, c, vs, hv, hd⟩ := S.own i _ hi
    have hs : Same F (upd F p (.lst vs)) := fun q u e => by rw [upd_ne (ne_of_none e c)]; exact e
    have ex : Ext F0 H0 (upd F p (.lst vs)) H := by
      refine ⟨S.ext.f.trans hs, fun q u e => ?_, S.ext.h, fun q e => ?_⟩
      · by_cases hq : q = p
        · subst hq; rw [upd_same] at e; rw [← e]; exact hv
        · rw [upd_ne hq] at e; exact S.ext.g q u e
      · by_cases hq : q = p
        · subst hq; exact .inr b
        · rw [upd_ne hq] at e; exact S.ext.n q e
    refine ⟨_, ex, hs, ex, by simpa using S.len, fun j z e => ?_, fun j z e => ?_, fun j k z w q e1 e2 e3 e4 => ?_, fun j z e => ?_⟩
    · rcases get_set e with ⟨rfl, hl, q⟩ | ⟨hn, q⟩
      · injection q with q; injection q with q; subst q
        exact ⟨.ref p, a, .lst (.inl upd_same) (hd.mono hs)⟩
      · obtain ⟨v, a, b⟩ := S.dat j z q
        exact ⟨v, a, b.mono hs⟩
    · rcases get_set e with ⟨rfl, hl, q⟩ | ⟨hn, q⟩
      · injection q with q; cases q
      · obtain ⟨p2, a2, b2, c2, d2⟩ := S.own j z q
        refine ⟨p2, a2, b2, ?_, d2.mono hs fun _ h => h⟩
        by_cases hp : p2 = p
        · subst hp
          exact absurd (S.dis i j _ z p2 hi q a a2) hn
        · rw [upd_ne hp]; exact c2
    · rcases get_set e1 with ⟨r1, l1, q1⟩ | ⟨n1, q1⟩
      · injection q1 with q1; cases q1
      · rcases get_set e2 with ⟨r2, l2, q2⟩ | ⟨n2, q2⟩
        · injection q2 with q2; cases q2
        · exact S.dis j k z w q q1 q2 e3 e4
    · rcases get_set e with ⟨rfl, hl, q⟩ | ⟨hn, q⟩
      · injection q with q; cases q
      · obtain ⟨v, a, b⟩ := S.lck j z q
        exact ⟨v, a, b.mono hs⟩
  · exact triv
end
end DL
namespace DL
open PySem PySem.Spec PyProof.Rows L2

/-! ### judgements -/
/-- an exception as the reading tells it, as the heap has it -/
def ExR (K : PySem.W.Frag) (c : Ec) (cls : Value) (d : Option Addr) (H : Hp) : Prop :=
  cls = .ref (He.ga K c.cls) ∧ ((c.fs = [] ∧ d = none) ∨ ∃ dd, d = some dd ∧ H dd = some (.xd c.fs))
/-- what follows -/
def Fin (K : PySem.W.Frag) (W : WX) (σ : L2.St) (F H : Hp) {α : Type} (r : R α) (P : α → Hp → Hp → Prop) : Prop :=
  match r with
  | .ok x => ∀ F' H', Ext F H F' H' → P x F' H'
  | .exc c => ∀ cls d F' H', Ext F H F' H' → ExR K c cls d H' → W cls d σ H'
  | .bad => False
section
variable {K : PySem.W.Frag} {W : WX} {σ : L2.St} {F H F1 H1 : Hp} {α β : Type}
theorem Fin.mono {r : R α} {P : α → Hp → Hp → Prop} (e : Ext F H F1 H1) (h : Fin K W σ F H r P) : Fin K W σ F1 H1 r P := by
  cases r with
  | ok x => exact fun F' H' q => h F' H' (e.trans q)
  | exc c => exact fun cls d F' H' q => h cls d F' H' (e.trans q)
  | bad => exact h
theorem Fin.imp {r : R α} {P P' : α → Hp → Hp → Prop} (h : Fin K W σ F H r P) (f : ∀ x F' H', Ext F H F' H' → P x F' H' → P' x F' H') : Fin K W σ F H r P' := by
  cases r with
  | ok x => exact fun F' H' q => f x F' H' q (h F' H' q)
  | exc c => exact h
  | bad => exact h
theorem Fin.bind {r : R α} {f : α → R β} {P : β → Hp → Hp → Prop} (h : Fin K W σ F H (r.bind f) P) : Fin K W σ F H r (fun x F1 H1 => Fin K W σ F1 H1 (f x) P) := by
  cases r with
  | ok x => exact fun F' H' q => Fin.mono q h
  | exc c => exact h
  | bad => exact h
/-- bind and go on -/
theorem Fin.then {r : R α} {f : α → R β} {P : β → Hp → Hp → Prop} {P' : α → Hp → Hp → Prop} (h : Fin K W σ F H (r.bind f) P) (g : ∀ x F1 H1, Ext F H F1 H1 → Fin K W σ F1 H1 (f x) P → P' x F1 H1) : Fin K W σ F H r P' :=
  (Fin.bind h).imp g
theorem Fin.okk (K : PySem.W.Frag) (W : WX) (σ : L2.St) {x : α} {P : α → Hp → Hp → Prop} (s : Same F H) (h : Fin K W σ F H (.ok x) P) : P x F H := h F H (Ext.refl s)
theorem Fin.ok {x : α} {P : α → Hp → Hp → Prop} (s : Same F H) (h : Fin K W σ F H (.ok x) P) : P x F H := h F H (Ext.refl s)
end

def DpQ (K : PySem.W.Frag) (Q : VK) : PD → Hp → Hp → Prop := fun x F' H' => ∀ v, Dp K F' v x → Q v H'
def RpQ (K : PySem.W.Frag) (Q : VK) : PD → Hp → Hp → Prop := fun x F' H' => ∀ v, Rp K F' H' v x → Q v H'
def OwQ (K : PySem.W.Frag) (H : Hp) (Q : VK) : PD → Hp → Hp → Prop := fun x F' H' => ∀ p, H p = none → F' p = none → OwnAt K F' H' p x → Q (.ref p) H'
def BoQ (Q : Bool → Hp → Prop) : Bool → Hp → Hp → Prop := fun b _ H' => Q b H'
/-- frozen data; readable data; a new owned thing; a test -/
def TDe (K : PySem.W.Frag) (W : WX) (t : TE) (g : Rho → R PD) : Prop := ∀ (F0 H0 F H : Hp) (σ : L2.St) (ρ : Rho) (Q : VK), StR K F0 H0 F H σ ρ → Fin K W σ F H (g ρ) (DpQ K Q) → t σ H Q
def TDr (K : PySem.W.Frag) (W : WX) (t : TE) (g : Rho → R PD) : Prop := ∀ (F0 H0 F H : Hp) (σ : L2.St) (ρ : Rho) (Q : VK), StR K F0 H0 F H σ ρ → Fin K W σ F H (g ρ) (RpQ K Q) → t σ H Q
def TDo (K : PySem.W.Frag) (W : WX) (t : TE) (g : Rho → R PD) : Prop := ∀ (F0 H0 F H : Hp) (σ : L2.St) (ρ : Rho) (Q : VK), StR K F0 H0 F H σ ρ → Fin K W σ F H (g ρ) (OwQ K H Q) → t σ H Q
def TDt (K : PySem.W.Frag) (W : WX) (t : TT) (g : Rho → R Bool) : Prop := ∀ (F0 H0 F H : Hp) (σ : L2.St) (ρ : Rho) (Q : Bool → Hp → Prop), StR K F0 H0 F H σ ρ → Fin K W σ F H (g ρ) (BoQ Q) → t σ H Q
/-- argument lists: frozen, readable -/
def TDa (K : PySem.W.Frag) (W : WX) (t : TA) (g : Rho → R (List PD)) : Prop := ∀ (F0 H0 F H : Hp) (σ : L2.St) (ρ : Rho) (Q : List V → Hp → Prop), StR K F0 H0 F H σ ρ → Fin K W σ F H (g ρ) (fun xs F' H' => ∀ vs, DpAll K F' vs xs → Q vs H') → t σ H Q
def TDq (K : PySem.W.Frag) (W : WX) (t : TA) (g : Rho → R (List PD)) : Prop := ∀ (F0 H0 F H : Hp) (σ : L2.St) (ρ : Rho) (Q : List V → Hp → Prop), StR K F0 H0 F H σ ρ → Fin K W σ F H (g ρ) (fun xs F' H' => ∀ vs, RpAll K F' H' vs xs → Q vs H') → t σ H Q

section
variable {K : PySem.W.Frag} {W : WX} {t ta tb tc : TE} {g ga gb gc : Rho → R PD} {tt : TT}
theorem TDe.r (h : TDe K W t g) : TDr K W t g := fun F0 H0 F H σ ρ Q S q => h F0 H0 F H σ ρ Q S (q.imp fun x F' H' e k v r => k v (.inl r))
def notDict : PD → R PD
  | .list xs => .ok (.list xs)
  | _ => .bad
def eFz (g : Rho → R PD) : Rho → R PD := fun ρ => (g ρ).bind notDict
theorem TDo.e (h : TDo K W t g) : TDe K W t (eFz g) := fun F0 H0 F H σ ρ Q S q => h F0 H0 F H σ ρ Q S (by
  unfold eFz at q
  cases e : g ρ with
  | exc c => rw [e] at q; exact q
  | bad => rw [e] at q; exact q
  | ok x =>
    rw [e] at q
    cases x with
    | list ds =>
      rintro F' H' ex p hp hf ⟨vs, a, b⟩
      have hs : Same F' (upd F' p (.lst vs)) := fun q u e => by rw [upd_ne (ne_of_none e hf)]; exact e
      refine q (upd F' p (.lst vs)) H' ⟨ex.f.trans hs, fun q u r => ?_, ex.h, fun q r => ?_⟩ _ (.lst (.inl upd_same) (b.mono hs))
      · by_cases hq : q = p
        · subst hq; rw [upd_same] at r; rw [← r]; exact a
        · rw [upd_ne hq] at r; exact ex.g q u r
      · by_cases hq : q = p
        · subst hq; exact .inr hp
        · rw [upd_ne hq] at r; exact ex.n q r
    | _ => exact q.elim)
theorem TDo.r (h : TDo K W t g) : TDr K W t (eFz g) := h.e.r

/-! ### names, constants -/
def eVar (i : Nat) : Rho → R PD := fun ρ => match ρ[i]? with
  | some (some (.d x)) => .ok x
  | _ => .bad
def rVar (i : Nat) : Rho → R PD := fun ρ => match ρ[i]? with
  | some (some (.d x)) => .ok x
  | some (some (.o x)) => .ok x
  | _ => .bad
theorem td_var (i : Nat) : TDe K W (tVar i) (eVar i) := fun F0 H0 F H σ ρ Q S q => by
  unfold eVar at q
  split at q
  · rename_i x e
    obtain ⟨v, a, b⟩ := S.dat i x e
    exact ⟨v, a, q.ok S.same v b⟩
  · exact q.elim
theorem tr_var (i : Nat) : TDr K W (tVar i) (rVar i) := fun F0 H0 F H σ ρ Q S q => by
  unfold rVar at q
  split at q
  · rename_i x e
    obtain ⟨v, a, b⟩ := S.dat i x e
    exact ⟨v, a, q.ok S.same v (.inl b)⟩
  · rename_i x e
    obtain ⟨p, a, _, _, d⟩ := S.own i x e
    exact ⟨_, a, q.ok S.same _ (.inr ⟨p, rfl, d⟩)⟩
  · exact q.elim
def eC (x : PD) : Rho → R PD := fun _ => .ok x
theorem td_int {i : Int} : TDe K W (tC (.int i)) (eC (.int i)) := fun F0 H0 F H σ ρ Q S q => q.ok S.same _ (.int i)
theorem td_str {i : Str} : TDe K W (tC (.str i)) (eC (.str i)) := fun F0 H0 F H σ ρ Q S q => q.ok S.same _ (.str i)
theorem td_bl {i : Bool} : TDe K W (tC (.bl i)) (eC (.bool i)) := fun F0 H0 F H σ ρ Q S q => q.ok S.same _ (.bl i)
theorem td_non : TDe K W (tC .non) (eC .none) := fun F0 H0 F H σ ρ Q S q => q.ok S.same _ .non

/-! ### operators -/
/-- a two-place operation by values -/
def RD (K : PySem.W.Frag) (r : R2) (f : PD → PD → R PD) : Prop := ∀ (W : WX) (σ : L2.St) (F H : Hp) (x y : V) (a b : PD) (Q : VK), Same F H → Rp K F H x a → Rp K F H y b → Fin K W σ F H (f a b) (DpQ K Q) → r x y H Q
/-- .. with a new owned result -/
def RDo (K : PySem.W.Frag) (r : R2) (f : PD → PD → R PD) : Prop := ∀ (W : WX) (σ : L2.St) (F H : Hp) (x y : V) (a b : PD) (Q : VK), Same F H → Rp K F H x a → Rp K F H y b → Fin K W σ F H (f a b) (OwQ K H Q) → r x y H Q
def RU (K : PySem.W.Frag) (r : V → Hp → VK → Prop) (f : PD → R PD) : Prop := ∀ (W : WX) (σ : L2.St) (F H : Hp) (x : V) (a : PD) (Q : VK), Same F H → Rp K F H x a → Fin K W σ F H (f a) (DpQ K Q) → r x H Q
def eOp (f : PD → PD → R PD) (ga gb : Rho → R PD) : Rho → R PD := fun ρ => (ga ρ).bind fun a => (gb ρ).bind fun b => f a b
def eUn (f : PD → R PD) (ga : Rho → R PD) : Rho → R PD := fun ρ => (ga ρ).bind f
variable {r r' : R2} {f f' : PD → PD → R PD}
theorem td_op (hr : RD K r f) (ha : TDr K W ta ga) (hb : TDr K W tb gb) : TDe K W (tOp r ta tb) (eOp f ga gb) := fun F0 H0 F H σ ρ Q S q =>
  ha F0 H0 F H σ ρ _ S (q.then fun a F1 H1 e1 k1 v rv => hb F0 H0 F1 H1 σ ρ _ (S.go e1) (k1.then fun b F2 H2 e2 k2 u ru =>
    hr W σ F2 H2 v u a b Q e2.g (rv.ext e2.f e2.h) ru k2))
theorem to_op (hr : RDo K r f) (ha : TDr K W ta ga) (hb : TDr K W tb gb) : TDo K W (tOp r ta tb) (eOp f ga gb) := fun F0 H0 F H σ ρ Q S q =>
  ha F0 H0 F H σ ρ _ S (by
    unfold eOp at q
    cases e : ga ρ with
    | exc c => rw [e] at q; exact q
    | bad => rw [e] at q; exact q
    | ok a =>
      rw [e] at q
      intro F1 H1 e1 v rv
      refine hb F0 H0 F1 H1 σ ρ _ (S.go e1) ?_
      have q : Fin K W σ F H ((gb ρ).bind fun b => f a b) (OwQ K H Q) := q
      cases e' : gb ρ with
      | exc c => rw [e'] at q; exact Fin.mono e1 (r := (.exc c : R PD)) q
      | bad => rw [e'] at q; exact q
      | ok b =>
        rw [e'] at q
        intro F2 H2 e2 u ru
        have q2 : Fin K W σ F2 H2 (f a b) (OwQ K H Q) := Fin.mono (e1.trans e2) q
        exact hr W σ F2 H2 v u a b Q e2.g (rv.ext e2.f e2.h) ru (q2.imp fun x F' H' e3 k p hp hf ho => k p ((e1.trans e2).h.free hp) hf ho))
theorem td_un {r : V → Hp → VK → Prop} {f : PD → R PD} (hr : RU K r f) (ha : TDr K W ta ga) : TDe K W (tUn r ta) (eUn f ga) := fun F0 H0 F H σ ρ Q S q =>
  ha F0 H0 F H σ ρ _ S (q.then fun a F1 H1 e1 k1 v rv => hr W σ F1 H1 v a Q e1.g rv k1)
theorem RD.or {g : PD → PD → R PD} (h : ∀ (W : WX) (σ : L2.St) (F H : Hp) (x y : V) (a b : PD) (Q : VK), Same F H → Rp K F H x a → Rp K F H y b → Fin K W σ F H (g a b) (DpQ K Q) → r x y H Q ∨ r' x y H Q) :
    RD K (fun x y H Q => r x y H Q ∨ r' x y H Q) g := h

/-! ### tests -/
def asB : PD → R Bool
  | .bool b => .ok b
  | _ => .bad
def bOf (g : Rho → R PD) : Rho → R Bool := fun ρ => (g ρ).bind asB
theorem asB_q {Q : Bool → Hp → Prop} {F1 H1 : Hp} {σ : L2.St} {a : PD} {v : V} (s : Same F1 H1) (r : Rp K F1 H1 v a) (k : Fin K W σ F1 H1 (asB a) (BoQ Q)) : ∃ c, v = .bl c ∧ Q c H1 := by
  cases a with
  | bool b =>
    have e := r.bool
    exact ⟨b, e, k.ok s⟩
  | _ => exact k.elim
theorem tt_test (h : TDr K W t g) : TDt K W (tTest t) (bOf g) := fun F0 H0 F H σ ρ Q S q =>
  h F0 H0 F H σ ρ _ S (q.then fun a F1 H1 e1 k1 v rv => asB_q e1.g rv k1)
theorem tt_B (h : TDr K W t g) : TDt K W (tB t) (bOf g) := fun F0 H0 F H σ ρ Q S q =>
  h F0 H0 F H σ ρ _ S (q.then fun a F1 H1 e1 k1 v rv => asB_q e1.g rv k1)
variable {t1 t2 : TT} {g1 g2 : Rho → R Bool}
def bAnd (g1 g2 : Rho → R Bool) : Rho → R Bool := fun ρ => (g1 ρ).bind fun c => if c = true then g2 ρ else .ok false
def bOr (g1 g2 : Rho → R Bool) : Rho → R Bool := fun ρ => (g1 ρ).bind fun c => if c = true then .ok true else g2 ρ
def bNot (g1 : Rho → R Bool) : Rho → R Bool := fun ρ => (g1 ρ).bind fun c => .ok !c
theorem tt_and (h1 : TDt K W t1 g1) (h2 : TDt K W t2 g2) : TDt K W (tAnd t1 t2) (bAnd g1 g2) := fun F0 H0 F H σ ρ Q S q =>
  h1 F0 H0 F H σ ρ _ S (q.then fun c F1 H1 e1 k1 => by
    cases c with
    | true => exact h2 F0 H0 F1 H1 σ ρ Q (S.go e1) k1
    | false => exact Fin.okk (x := false) K W σ e1.g k1)
theorem tt_or (h1 : TDt K W t1 g1) (h2 : TDt K W t2 g2) : TDt K W (tOr t1 t2) (bOr g1 g2) := fun F0 H0 F H σ ρ Q S q =>
  h1 F0 H0 F H σ ρ _ S (q.then fun c F1 H1 e1 k1 => by
    cases c with
    | false => exact h2 F0 H0 F1 H1 σ ρ Q (S.go e1) k1
    | true => exact Fin.okk (x := true) K W σ e1.g k1)
theorem tt_not (h1 : TDt K W t1 g1) : TDt K W (tNot t1) (bNot g1) := fun F0 H0 F H σ ρ Q S q =>
  h1 F0 H0 F H σ ρ _ S (q.then fun c F1 H1 e1 k1 => Fin.okk (x := !c) K W σ e1.g k1)
/-- .. as values -/
def eAnd (ga gb : Rho → R PD) : Rho → R PD := fun ρ => (ga ρ).bind fun a => (asB a).bind fun c => if c = true then gb ρ else .ok (.bool false)
def eOr (ga gb : Rho → R PD) : Rho → R PD := fun ρ => (ga ρ).bind fun a => (asB a).bind fun c => if c = true then .ok (.bool true) else gb ρ
def eNot (ga : Rho → R PD) : Rho → R PD := fun ρ => (ga ρ).bind fun a => (asB a).bind fun c => .ok (.bool !c)
theorem asB_k {P : PD → Hp → Hp → Prop} {F1 H1 : Hp} {σ : L2.St} {a : PD} {v : V} {k : Bool → R PD} (s : Same F1 H1) (r : Rp K F1 H1 v a) (h : Fin K W σ F1 H1 ((asB a).bind k) P) : ∃ c, v = .bl c ∧ Fin K W σ F1 H1 (k c) P := by
  cases a with
  | bool b => exact ⟨b, r.bool, h⟩
  | _ => exact h.elim
theorem td_and (ha : TDr K W ta ga) (hb : TDe K W tb gb) : TDe K W (tAndV ta tb) (eAnd ga gb) := fun F0 H0 F H σ ρ Q S q =>
  ha F0 H0 F H σ ρ _ S (q.then fun a F1 H1 e1 k1 v rv => by
    obtain ⟨c, e, k2⟩ := asB_k e1.g rv k1
    refine ⟨c, e, ?_⟩
    cases c with
    | true => exact hb F0 H0 F1 H1 σ ρ Q (S.go e1) k2
    | false => exact Fin.okk (x := PyData.bool false) K W σ e1.g k2 _ (.bl false))
theorem td_or (ha : TDr K W ta ga) (hb : TDe K W tb gb) : TDe K W (tOrV ta tb) (eOr ga gb) := fun F0 H0 F H σ ρ Q S q =>
  ha F0 H0 F H σ ρ _ S (q.then fun a F1 H1 e1 k1 v rv => by
    obtain ⟨c, e, k2⟩ := asB_k e1.g rv k1
    refine ⟨c, e, ?_⟩
    cases c with
    | false => exact hb F0 H0 F1 H1 σ ρ Q (S.go e1) k2
    | true => exact Fin.okk (x := PyData.bool true) K W σ e1.g k2 _ (.bl true))
theorem td_not (ha : TDr K W ta ga) : TDe K W (tNotV ta) (eNot ga) := fun F0 H0 F H σ ρ Q S q =>
  ha F0 H0 F H σ ρ _ S (q.then fun a F1 H1 e1 k1 v rv => by
    obtain ⟨c, e, k2⟩ := asB_k e1.g rv k1
    exact ⟨c, e, Fin.okk (x := PyData.bool !c) K W σ e1.g k2 _ (.bl _)⟩)
def eIf (gt : Rho → R Bool) (ga gb : Rho → R PD) : Rho → R PD := fun ρ => (gt ρ).bind fun c => if c = true then ga ρ else gb ρ
theorem td_if (h1 : TDt K W t1 g1) (ha : TDe K W ta ga) (hb : TDe K W tb gb) : TDe K W (tIf t1 ta tb) (eIf g1 ga gb) := fun F0 H0 F H σ ρ Q S q =>
  h1 F0 H0 F H σ ρ _ S (q.then fun c F1 H1 e1 k1 => by
    cases c with
    | true => exact ha F0 H0 F1 H1 σ ρ Q (S.go e1) k1
    | false => exact hb F0 H0 F1 H1 σ ρ Q (S.go e1) k1)
/-- a op b op' c -/
def eChain (f f' : PD → PD → R PD) (ga gb gc : Rho → R PD) : Rho → R PD := fun ρ => (ga ρ).bind fun a => (gb ρ).bind fun b => (f a b).bind fun z => (asB z).bind fun k => if k = true then (gc ρ).bind fun c => f' b c else .ok (.bool false)
theorem td_chain (hr : RD K r f) (hr' : RD K r' f') (ha : TDr K W ta ga) (hb : TDr K W tb gb) (hc : TDr K W tc gc) : TDe K W (tChain r r' ta tb tc) (eChain f f' ga gb gc) := fun F0 H0 F H σ ρ Q S q =>
  ha F0 H0 F H σ ρ _ S (q.then fun a F1 H1 e1 k1 v rv => hb F0 H0 F1 H1 σ ρ _ (S.go e1) (k1.then fun b F2 H2 e2 k2 u ru =>
    hr W σ F2 H2 v u a b _ e2.g (rv.ext e2.f e2.h) ru (k2.then fun z F3 H3 e3 k3 zv rz => by
      obtain ⟨c, e, k4⟩ := asB_k e3.g (.inl rz) k3
      refine ⟨c, e, ?_⟩
      cases c with
      | false => exact Fin.okk (x := PyData.bool false) K W σ e3.g k4 _ (.bl false)
      | true => exact hc F0 H0 F3 H3 σ ρ _ (((S.go e1).go e2).go e3) (k4.then fun w F4 H4 e4 k5 wv rw' =>
          hr' W σ F4 H4 u wv b w Q e4.g ((ru.ext e3.f e3.h).ext e4.f e4.h) rw' k5))))

/-! ### arguments, displays -/
def aNil : Rho → R (List PD) := fun _ => .ok []
def aCons (ga : Rho → R PD) (gr : Rho → R (List PD)) : Rho → R (List PD) := fun ρ => (ga ρ).bind fun a => (gr ρ).bind fun l => .ok (a :: l)
variable {tr : TA} {gr : Rho → R (List PD)}
theorem ta_nil : TDa K W tNil aNil := fun F0 H0 F H σ ρ Q S q => q.ok S.same _ .nil
theorem ta_cons (ha : TDe K W ta ga) (hr : TDa K W tr gr) : TDa K W (tCons ta tr) (aCons ga gr) := fun F0 H0 F H σ ρ Q S q =>
  ha F0 H0 F H σ ρ _ S (q.then fun a F1 H1 e1 k1 v rv => hr F0 H0 F1 H1 σ ρ _ (S.go e1) (k1.then fun l F2 H2 e2 k2 vs rs => k2.ok e2.g _ (.cons (rv.mono e2.f) rs)))
theorem tq_nil : TDq K W tNil aNil := fun F0 H0 F H σ ρ Q S q => q.ok S.same _ .nil
theorem tq_cons (ha : TDr K W ta ga) (hr : TDq K W tr gr) : TDq K W (tCons ta tr) (aCons ga gr) := fun F0 H0 F H σ ρ Q S q =>
  ha F0 H0 F H σ ρ _ S (q.then fun a F1 H1 e1 k1 v rv => hr F0 H0 F1 H1 σ ρ _ (S.go e1) (k1.then fun l F2 H2 e2 k2 vs rs => k2.ok e2.g _ (.cons (rv.ext e2.f e2.h) rs)))
def eTup (gr : Rho → R (List PD)) : Rho → R PD := fun ρ => (gr ρ).bind fun l => if l.length ≤ sizeLine then .ok (.tuple l) else .bad
def oLst (gr : Rho → R (List PD)) : Rho → R PD := fun ρ => (gr ρ).bind fun l => if l.length ≤ sizeLine then .ok (.list l) else .bad
theorem td_tup (hr : TDa K W tr gr) : TDe K W (tTup tr) (eTup gr) := fun F0 H0 F H σ ρ Q S q =>
  hr F0 H0 F H σ ρ _ S (q.then fun l F1 H1 e1 k1 vs rs => by
    by_cases hl : l.length ≤ sizeLine
    · rw [if_pos hl] at k1
      refine ⟨by rw [rs.length]; exact hl, fun p hp => ?_⟩
      have e2 := Ext.new (o := .tup vs) e1.g hp
      exact k1 _ _ e2 _ (.tup (SqT.of upd_same) (rs.mono e2.f))
    · rw [if_neg hl] at k1
      exact k1.elim)
theorem to_lst (hr : TDa K W tr gr) : TDo K W (tLst tr) (oLst gr) := fun F0 H0 F H σ ρ Q S q =>
  hr F0 H0 F H σ ρ _ S (q.then fun l F1 H1 e1 k1 vs rs => by
    by_cases hl : l.length ≤ sizeLine
    · rw [if_pos hl] at k1
      refine ⟨by rw [rs.length]; exact hl, fun p hp => ?_⟩
      have e2 := Ext.own (o := .lst vs) e1.g hp
      exact k1 _ _ e2 p (e1.h.free hp) (e1.g.free hp) ⟨vs, upd_same, rs⟩
    · rw [if_neg hl] at k1
      exact k1.elim)
end

/-! ### statements -/
inductive SR where
  | nx (ρ : Rho)
  | rt (s : Sl)
  | bk (ρ : Rho)
  | ct (ρ : Rho)
  | exc (c : Ec)
  | bad
def SR.seq (a : SR) (k : Rho → SR) : SR := match a with
  | .nx ρ => k ρ
  | s => s
def SR.of {α : Type} (r : R α) (k : α → SR) : SR := match r with
  | .ok a => k a
  | .exc c => .exc c
  | .bad => .bad
def RetQ (K : PySem.W.Frag) (F0 H0 : Hp) (Q : VK) : Sl → Prop
  | .d x => ∀ v F H, Ext F0 H0 F H → Dp K F v x → Q v H
  | .o x => ∀ p F H, Ext F0 H0 F H → H0 p = none → F p = none → OwnAt K F H p x → Q (.ref p) H
  | .l _ => False
def FinS (K : PySem.W.Frag) (W : WX) (F0 H0 : Hp) (D : Ends) : SR → Prop
  | .nx ρ => ∀ σ F H, StR K F0 H0 F H σ ρ → D.nx σ H
  | .bk ρ => ∀ σ F H, StR K F0 H0 F H σ ρ → D.bk σ H
  | .ct ρ => ∀ σ F H, StR K F0 H0 F H σ ρ → D.ct σ H
  | .rt s => RetQ K F0 H0 D.rt s
  | .exc c => ∀ cls d σ F H, Ext F0 H0 F H → ExR K c cls d H → W cls d σ H
  | .bad => False
def TDS (K : PySem.W.Frag) (W : WX) (t : TS) (s : Rho → SR) : Prop := ∀ (F0 H0 F H : Hp) (σ : L2.St) (ρ : Rho) (D : Ends), StR K F0 H0 F H σ ρ → FinS K W F0 H0 D (s ρ) → t D σ H
section
variable {K : PySem.W.Frag} {W : WX} {F0 H0 F H : Hp} {D D' : Ends} {σ : L2.St} {ρ : Rho}
theorem FinS.of {α : Type} {r : R α} {k : α → SR} {P : α → Hp → Hp → Prop} (b : Ext F0 H0 F H) (h : FinS K W F0 H0 D (SR.of r k)) (f : ∀ x F1 H1, Ext F H F1 H1 → FinS K W F0 H0 D (k x) → P x F1 H1) : Fin K W σ F H r P := by
  cases r with
  | ok x => exact fun F1 H1 e => f x F1 H1 e h
  | exc c => exact fun cls d F1 H1 e q => h cls d σ F1 H1 (b.trans e) q
  | bad => exact h
/-- the base put to where one stands -/
theorem FinS.rebase {s : SR} (b : Ext F0 H0 F H) (h : FinS K W F0 H0 D s) : FinS K W F H0 D s := by
  cases s with
  | nx ρ => exact fun σ F1 H1 S => h σ F1 H1 (S.unbase b)
  | bk ρ => exact fun σ F1 H1 S => h σ F1 H1 (S.unbase b)
  | ct ρ => exact fun σ F1 H1 S => h σ F1 H1 (S.unbase b)
  | rt s =>
    cases s with
    | d x => exact fun v F1 H1 e q => h v F1 H1 (b.base e) q
    | o x => exact fun v F1 H1 e q1 q2 q3 => h v F1 H1 (b.base e) q1 q2 q3
    | l x => exact h
  | exc c => exact fun cls d σ F1 H1 e q => h cls d σ F1 H1 (b.base e) q
  | bad => exact h
theorem SR.seq_fin {s : SR} {k : Rho → SR} (h : FinS K W F0 H0 D (s.seq k)) (hn : ∀ ρ σ F H, StR K F0 H0 F H σ ρ → FinS K W F0 H0 D (k ρ) → D'.nx σ H) (e1 : D'.rt = D.rt) (e2 : D'.bk = D.bk) (e3 : D'.ct = D.ct) : FinS K W F0 H0 D' s := by
  cases s with
  | nx ρ => exact fun σ F H S => hn ρ σ F H S h
  | bk ρ => exact fun σ F H S => by rw [e2]; exact h σ F H S
  | ct ρ => exact fun σ F H S => by rw [e3]; exact h σ F H S
  | rt s =>
    show RetQ K F0 H0 D'.rt s
    rw [e1]; exact h
  | exc c => exact h
  | bad => exact h
end
section
variable {K : PySem.W.Frag} {W : WX} {t u : TS} {s s' : Rho → SR} {te : TE} {g : Rho → R PD} {tt : TT} {gt : Rho → R Bool}
def sNext : Rho → SR := .nx
theorem ds_next : TDS K W tNext sNext := fun F0 H0 F H σ ρ D S q => q σ F H S
def sSeq (s s' : Rho → SR) : Rho → SR := fun ρ => (s ρ).seq s'
theorem ds_seq (h : TDS K W t s) (h' : TDS K W u s') : TDS K W (tSeq t u) (sSeq s s') := fun F0 H0 F H σ ρ D S q =>
  h F0 H0 F H σ ρ _ S (SR.seq_fin (D' := { D with nx := u D }) q (fun ρ1 σ1 F1 H1 S1 q1 => h' F0 H0 F1 H1 σ1 ρ1 D S1 q1) rfl rfl rfl)
def sBreak : Rho → SR := .bk
def sCont : Rho → SR := .ct
theorem ds_break : TDS K W tBreak sBreak := fun F0 H0 F H σ ρ D S q => q σ F H S
theorem ds_cont : TDS K W tCont sCont := fun F0 H0 F H σ ρ D S q => q σ F H S
theorem ds_never : TDS K W tNever (fun _ => .bad) := fun F0 H0 F H σ ρ D S q => q
/-- ahead of a statement lists become data -/
def sFrz (is : List Nat) (s : Rho → SR) : Rho → SR := fun ρ => s (is.foldl (fun ρ i => frz1 i ρ) ρ)
theorem ds_frz (is : List Nat) (h : TDS K W t s) : TDS K W t (sFrz is s) := by
  unfold sFrz
  induction is with
  | nil => exact h
  | cons i is ih =>
    intro F0 H0 F H σ ρ D S q
    obtain ⟨F', e, _, S'⟩ := S.frz1 i
    exact ih F0 H0 F' H σ _ D S' q
def sRet (g : Rho → R PD) : Rho → SR := fun ρ => SR.of (g ρ) fun x => .rt (.d x)
def sRetO (g : Rho → R PD) : Rho → SR := fun ρ => SR.of (g ρ) fun x => .rt (.o x)
/-- return of a name -/
def sRetV (i : Nat) : Rho → SR := fun ρ => match ρ[i]? with
  | some (some s) => .rt s
  | _ => .bad
theorem ds_ret (h : TDe K W te g) : TDS K W (tRet te) (sRet g) := fun F0 H0 F H σ ρ D S q =>
  h F0 H0 F H σ ρ _ S (q.of S.ext fun x F1 H1 e k v r => k v F1 H1 (S.ext.trans e) r)
theorem ds_retO (h : TDo K W te g) : TDS K W (tRet te) (sRetO g) := fun F0 H0 F H σ ρ D S q =>
  h F0 H0 F H σ ρ _ S (q.of S.ext fun x F1 H1 e k p hp hf ho => k p F1 H1 (S.ext.trans e) (S.ext.h.free hp) hf ho)
theorem ds_retV (i : Nat) : TDS K W (tRet (tVar i)) (sRetV i) := fun F0 H0 F H σ ρ D S q => by
  unfold sRetV at q
  split at q
  · rename_i s e
    cases s with
    | d x =>
      obtain ⟨v, a, b⟩ := S.dat i x e
      exact ⟨v, a, q v F H S.ext b⟩
    | o x =>
      obtain ⟨p, a, b, c, d⟩ := S.own i x e
      exact ⟨_, a, q p F H S.ext b c d⟩
    | l x => exact q.elim
  · exact q.elim
theorem ds_retN : TDS K W tRetN (fun _ => .rt (.d .none)) := fun F0 H0 F H σ ρ D S q => q .non F H S.ext .non
def sIf (gt : Rho → R Bool) (s s' : Rho → SR) : Rho → SR := fun ρ => SR.of (gt ρ) fun c => if c = true then s ρ else s' ρ
theorem ds_if (ht : TDt K W tt gt) (h : TDS K W t s) (h' : TDS K W u s') : TDS K W (tIfS tt t u) (sIf gt s s') := fun F0 H0 F H σ ρ D S q =>
  ht F0 H0 F H σ ρ _ S (q.of S.ext fun c F1 H1 e k => by
    cases c with
    | true => exact h F0 H0 F1 H1 σ ρ D (S.go e) k
    | false => exact h' F0 H0 F1 H1 σ ρ D (S.go e) k)
def sDrop (g : Rho → R PD) : Rho → SR := fun ρ => SR.of (g ρ) fun _ => .nx ρ
theorem ds_drop (h : TDe K W te g) : TDS K W (tDrop te) (sDrop g) := fun F0 H0 F H σ ρ D S q =>
  h F0 H0 F H σ ρ _ S (q.of S.ext fun x F1 H1 e k v r => k σ F1 H1 (S.go e))

/-! ### targets -/
/-- a target: names (of the slots vs) and tuples of them -/
def TDg (K : PySem.W.Frag) (vs : List Nat) (g : TG) (a : Rho → PD → R Rho) : Prop := ∀ (F0 H0 F H : Hp) (σ : L2.St) (ρ : Rho) (v : V) (x : PD) (Q : L2.St → Hp → Prop), StR K F0 H0 F H σ ρ → Dp K F v x →
  (match a ρ x with | .ok ρ' => ∀ σ', StR K F0 H0 F H σ' ρ' → wipe σ' vs = wipe σ vs → Q σ' H | _ => False) → g v σ H Q
def TDgs (K : PySem.W.Frag) (vs : List Nat) (g : TGs) (a : Rho → List PD → R Rho) : Prop := ∀ (F0 H0 F H : Hp) (σ : L2.St) (ρ : Rho) (us : List V) (xs : List PD) (Q : L2.St → Hp → Prop), StR K F0 H0 F H σ ρ → DpAll K F us xs →
  (match a ρ xs with | .ok ρ' => ∀ σ', StR K F0 H0 F H σ' ρ' → wipe σ' vs = wipe σ vs → Q σ' H | _ => False) → g us σ H Q
theorem wipe_set {σ : L2.St} {i : Nat} {x : Option V} : ∀ {vs : List Nat}, i ∈ vs → wipe (σ.set i x) vs = wipe σ vs
  | [], h => by cases h
  | v :: vs, h => by
    unfold wipe
    by_cases hm : i ∈ vs
    · rw [wipe_set hm]
    · have e : v = i := by
        rcases List.mem_cons.mp h with z | z
        · exact z.symm
        · exact absurd z hm
      subst e
      have go : ∀ {us : List Nat}, v ∉ us → wipe (σ.set v x) us = (wipe σ us).set v x := by
        intro us
        induction us with
        | nil => intro _; rfl
        | cons u us ih =>
          intro hn
          simp only [List.mem_cons, not_or] at hn
          unfold wipe
          rw [ih hn.2, List.set_comm _ _ hn.1]
      rw [go hm, List.set_set]
def aName (i : Nat) : Rho → PD → R Rho := fun ρ x => .ok (ρ.set i (some (.d x)))
theorem dg_name (i : Nat) {vs : List Nat} (h : i ∈ vs := by decide) : TDg K vs (gName i) (aName i) := fun F0 H0 F H σ ρ v x Q S r q => q _ (S.setD r) (wipe_set h)
def asNil : Rho → List PD → R Rho := fun ρ xs => match xs with
  | [] => .ok ρ
  | _ => .bad
def asCons (a : Rho → PD → R Rho) (b : Rho → List PD → R Rho) : Rho → List PD → R Rho := fun ρ xs => match xs with
  | x :: xs => (a ρ x).bind fun ρ' => b ρ' xs
  | [] => .bad
theorem dgs_nil {vs : List Nat} : TDgs K vs gNil asNil := fun F0 H0 F H σ ρ us xs Q S r q => by
  cases r with
  | nil => exact ⟨rfl, q σ S rfl⟩
  | cons _ _ => exact q.elim
theorem dgs_cons {vs : List Nat} {gx : TG} {gs : TGs} {a : Rho → PD → R Rho} {b : Rho → List PD → R Rho} (h : TDg K vs gx a) (hs : TDgs K vs gs b) : TDgs K vs (gCons gx gs) (asCons a b) := fun F0 H0 F H σ ρ us xs Q S r q => by
  cases r with
  | nil => exact q.elim
  | cons r1 r2 =>
    refine ⟨_, _, rfl, h F0 H0 F H σ ρ _ _ _ S r1 ?_⟩
    rename_i v us x xs
    have q : (match (a ρ x).bind fun ρ' => b ρ' xs with | .ok ρ' => ∀ σ', StR K F0 H0 F H σ' ρ' → wipe σ' vs = wipe σ vs → Q σ' H | _ => False) := q
    cases e : a ρ x with
    | ok ρ1 =>
      rw [e] at q
      intro σ1 S1 w1
      refine hs F0 H0 F H σ1 ρ1 _ _ _ S1 r2 ?_
      have q : (match b ρ1 xs with | .ok ρ' => ∀ σ', StR K F0 H0 F H σ' ρ' → wipe σ' vs = wipe σ vs → Q σ' H | _ => False) := q
      cases e2 : b ρ1 xs with
      | ok ρ2 => rw [e2] at q; exact fun σ2 S2 w2 => q σ2 S2 (w2.trans w1)
      | exc c => rw [e2] at q; exact q.elim
      | bad => rw [e2] at q; exact q.elim
    | exc c => rw [e] at q; exact q.elim
    | bad => rw [e] at q; exact q.elim
def aTup (n : Nat) (b : Rho → List PD → R Rho) : Rho → PD → R Rho := fun ρ x => match x with
  | .tuple xs => if xs.length = n then b ρ xs else .bad
  | _ => .bad
theorem dg_tup {vs : List Nat} {n : Nat} {gs : TGs} {b : Rho → List PD → R Rho} (hs : TDgs K vs gs b) : TDg K vs (gTup K n gs) (aTup n b) := fun F0 H0 F H σ ρ v x Q S r q => by
  unfold aTup at q
  cases r with
  | tup s a =>
    simp only at q
    split at q
    · rename_i e
      split at e
      · rename_i hl
        refine ⟨_, _, rfl, seqT S.same s, by rw [a.length]; exact hl, hs F0 H0 F H σ ρ _ _ _ S a ?_⟩
        rw [e]; exact q
      · cases e
    · exact q.elim
  | _ => exact q.elim
/-- target = value -/
def SR.ofT : R Rho → SR
  | .ok ρ => .nx ρ
  | _ => .bad
def sAsg (g : Rho → R PD) (a : Rho → PD → R Rho) : Rho → SR := fun ρ => SR.of (g ρ) fun x => SR.ofT (a ρ x)
theorem ds_asg {vs : List Nat} {gx : TG} {a : Rho → PD → R Rho} (h : TDe K W te g) (hg : TDg K vs gx a) : TDS K W (tAsg te gx) (sAsg g a) := fun F0 H0 F H σ ρ D S q =>
  h F0 H0 F H σ ρ _ S (q.of S.ext fun x F1 H1 e k v r => hg F0 H0 F1 H1 σ ρ v x _ (S.go e) r (by
    have k : FinS K W F0 H0 D (SR.ofT (a ρ x)) := k
    cases e : a ρ x with
    | ok ρ1 => rw [e] at k; exact fun σ1 S1 _ => k σ1 F1 H1 S1
    | exc c => rw [e] at k; exact k
    | bad => rw [e] at k; exact k))
/-- name = a new list, a new dict -/
def sSetO (i : Nat) (g : Rho → R PD) : Rho → SR := fun ρ => SR.of (g ρ) fun x => .nx (ρ.set i (some (.o x)))
/-- name = data -/
def sSet (i : Nat) (g : Rho → R PD) : Rho → SR := fun ρ => SR.of (g ρ) fun x => .nx (ρ.set i (some (.d x)))
theorem ds_set (i : Nat) (h : TDe K W te g) : TDS K W (tAsg te (gName i)) (sSet i g) := fun F0 H0 F H σ ρ D S q =>
  h F0 H0 F H σ ρ _ S (q.of S.ext fun x F1 H1 e k v r => k _ F1 H1 ((S.go e).setD r))
theorem ds_setO (i : Nat) (h : TDo K W te g) : TDS K W (tAsg te (gName i)) (sSetO i g) := fun F0 H0 F H σ ρ D S q =>
  h F0 H0 F H σ ρ _ S (q.of S.ext fun x F1 H1 e k p hp hf ho => k _ F1 H1 (S.setN e hp hf ho))
end
end DL
namespace DL
open PySem PySem.Spec PyProof.Rows L2

/-! ### what is walked -/
def ItR (K : PySem.W.Frag) (F : Hp) (ds : List PD) (J : It) : Prop := ∀ (i : Nat) (F1 H1 : Hp), Same F F1 → Same F1 H1 →
  (∀ d, ds[i]? = some d → J.go i H1 ∧ ∀ x H2, J.yld i H1 x H2 → ∃ F2, Ext F1 H1 F2 H2 ∧ Dp K F2 x d) ∧ (ds.length ≤ i → J.stop i H1)
def TDi (K : PySem.W.Frag) (W : WX) (wi : TI) (gi : Rho → R (List PD)) : Prop := ∀ (F0 H0 F H : Hp) (σ : L2.St) (ρ : Rho) (Q : It → Hp → Prop), StR K F0 H0 F H σ ρ → Fin K W σ F H (gi ρ) (fun ds F' H' => ∀ J, ItR K F' ds J → Q J H') → wi σ H Q
theorem itr_list {K : PySem.W.Frag} {F : Hp} {a : Addr} {vs : List V} {ds : List PD} (s : SqL K F a vs) (r : DpAll K F vs ds) : ItR K F ds (Itl K a) := fun i F1 H1 e1 e2 => by
  have s1 := seqL (e1.trans e2) s
  refine ⟨fun d hd => ?_, fun hl => ⟨vs, s1, by rw [r.length]; exact hl⟩⟩
  obtain ⟨v, hv, rv⟩ := r.get' hd
  refine ⟨⟨vs, v, s1, hv⟩, fun x H2 y => ?_⟩
  obtain ⟨rfl, y⟩ := y
  have e := y vs s1
  rw [hv] at e; cases e
  exact ⟨F1, Ext.refl e2, rv.mono e1⟩
theorem itr_tup {K : PySem.W.Frag} {F : Hp} {a : Addr} {vs : List V} {ds : List PD} (s : SqT K F a vs) (r : DpAll K F vs ds) : ItR K F ds (Itt K a) := fun i F1 H1 e1 e2 => by
  have s1 := seqT (e1.trans e2) s
  refine ⟨fun d hd => ?_, fun hl => ⟨vs, s1, by rw [r.length]; exact hl⟩⟩
  obtain ⟨v, hv, rv⟩ := r.get' hd
  refine ⟨⟨vs, v, s1, hv⟩, fun x H2 y => ?_⟩
  obtain ⟨rfl, y⟩ := y
  have e := y vs s1
  rw [hv] at e; cases e
  exact ⟨F1, Ext.refl e2, rv.mono e1⟩
def signs (x : Str) : List PD := x.cps.toList.map fun c => .str ⟨#[c]⟩
theorem itr_str {K : PySem.W.Frag} {F : Hp} {x : Str} : ItR K F (signs x) (Its x) := fun i F1 H1 e1 e2 => by
  refine ⟨fun d hd => ?_, fun hl => by simpa [signs, Its] using hl⟩
  unfold signs at hd
  rw [List.getElem?_map] at hd
  cases e : x.cps.toList[i]? with
  | none => rw [e] at hd; cases hd
  | some c =>
    rw [e] at hd
    have hd : PyData.str ⟨#[c]⟩ = d := Option.some.inj hd
    subst hd
    have hc : x.cps[i]? = some c := by simpa using e
    refine ⟨(Array.getElem?_eq_some_iff.mp hc).1, fun v H2 y => ?_⟩
    obtain ⟨rfl, c', h', rfl⟩ := y
    rw [hc] at h'; cases h'
    exact ⟨F1, Ext.refl e2, .str _⟩
def rngD (lo : Int) (n : Nat) : List PD := (List.range n).map fun i => .int (lo + (i : Nat))
theorem itr_rng {K : PySem.W.Frag} {F : Hp} {lo : Int} {n : Nat} : ItR K F (rngD lo n) (Itr lo n) := fun i F1 H1 e1 e2 => by
  refine ⟨fun d hd => ?_, fun hl => by simpa [rngD, Itr] using hl⟩
  unfold rngD at hd
  rw [List.getElem?_map] at hd
  by_cases hn : i < n
  · rw [List.getElem?_range hn] at hd
    cases hd
    refine ⟨hn, fun v H2 y => ?_⟩
    obtain ⟨rfl, rfl⟩ := y
    exact ⟨F1, Ext.refl e2, .int _⟩
  · rw [List.getElem?_eq_none (by simpa using hn)] at hd; cases hd
def enumD (ds : List PD) : List PD := ds.zipIdx.map fun p => .tuple [.int (p.2 : Nat), p.1]
theorem enum_at {ds : List PD} {i : Nat} {d : PD} (h : (enumD ds)[i]? = some d) : ∃ x, ds[i]? = some x ∧ d = .tuple [.int (i : Nat), x] := by
  unfold enumD at h
  rw [List.getElem?_map, List.getElem?_zipIdx] at h
  cases e : ds[i]? with
  | none => rw [e] at h; cases h
  | some x =>
    rw [e] at h
    refine ⟨x, rfl, ?_⟩
    have h := (Option.some.inj h).symm
    simpa using h
theorem itr_enum {K : PySem.W.Frag} {F : Hp} {a : Addr} {vs : List V} {ds : List PD} (s : SqL K F a vs) (r : DpAll K F vs ds) : ItR K F (enumD ds) (Ite K a) := fun i F1 H1 e1 e2 => by
  have s1 := seqL (e1.trans e2) s
  refine ⟨fun d hd => ?_, fun hl => ⟨vs, s1, by rw [r.length]; simpa [enumD] using hl⟩⟩
  obtain ⟨x, hx, rfl⟩ := enum_at hd
  obtain ⟨v, hv, rv⟩ := r.get' hx
  refine ⟨⟨vs, v, s1, hv⟩, fun x' H2 y => ?_⟩
  obtain ⟨T, u, rfl, hT, rfl, y⟩ := y
  have e := y vs s1
  rw [hv] at e; cases e
  have ex := Ext.new (o := .tup [.int (i : Nat), v]) e2 hT
  exact ⟨_, ex, .tup (SqT.of upd_same) (.cons (.int _) (.cons (rv.mono (e1.trans ex.f)) .nil))⟩
def zipD (ds es : List PD) : List PD := (ds.zip es).map fun p => .tuple [p.1, p.2]
theorem itr_zip {K : PySem.W.Frag} {F : Hp} {a b : Addr} {vs us : List V} {ds es : List PD} (s : SqL K F a vs) (r : DpAll K F vs ds) (s' : SqL K F b us) (r' : DpAll K F us es) : ItR K F (zipD ds es) (Itz K a b) := fun i F1 H1 e1 e2 => by
  have s1 := seqL (e1.trans e2) s
  have s2 := seqL (e1.trans e2) s'
  refine ⟨fun d hd => ?_, fun hl => ⟨vs, us, s1, s2, ?_⟩⟩
  · unfold zipD at hd
    rw [List.getElem?_map] at hd
    cases e : (ds.zip es)[i]? with
    | none => rw [e] at hd; cases hd
    | some p =>
      rw [e] at hd
      have hd : PyData.tuple [p.1, p.2] = d := Option.some.inj hd
      subst hd
      obtain ⟨h1, h2⟩ := List.getElem?_zip_eq_some.mp e
      obtain ⟨v, hv, rv⟩ := r.get' h1
      obtain ⟨u, hu, ru⟩ := r'.get' h2
      refine ⟨⟨vs, us, v, u, s1, s2, hv, hu⟩, fun x' H2 y => ?_⟩
      obtain ⟨T, v', u', rfl, hT, rfl, y1, y2⟩ := y
      have z1 := y1 vs s1
      have z2 := y2 us s2
      rw [hv] at z1; cases z1
      rw [hu] at z2; cases z2
      have ex := Ext.new (o := .tup [v, u]) e2 hT
      exact ⟨_, ex, .tup (SqT.of upd_same) (.cons (rv.mono (e1.trans ex.f)) (.cons (ru.mono (e1.trans ex.f)) .nil))⟩
  · rw [r.length, r'.length]
    unfold zipD at hl
    rw [List.length_map, List.length_zip] at hl
    omega
theorem itr_rev {K : PySem.W.Frag} {F : Hp} {a : Addr} {vs : List V} {ds : List PD} (s : SqL K F a vs) (r : DpAll K F vs ds) : ItR K F ds.reverse (Itv K a vs.length) := fun i F1 H1 e1 e2 => by
  have s1 := seqL (e1.trans e2) s
  refine ⟨fun d hd => ?_, fun hl => by have := r.length; simp [Itv] at hl ⊢; omega⟩
  have hi : i < ds.length := by simpa using (List.getElem?_eq_some_iff.mp hd).1
  rw [List.getElem?_reverse hi] at hd
  obtain ⟨v, hv, rv⟩ := r.get' hd
  rw [← r.length] at hv
  refine ⟨⟨by rw [r.length]; exact hi, vs, v, s1, hv⟩, fun x H2 y => ?_⟩
  obtain ⟨rfl, y⟩ := y
  have e := y vs s1
  rw [hv] at e; cases e
  exact ⟨F1, Ext.refl e2, rv.mono e1⟩

/-- a list, a tuple or a text, by what it is -/
def iSeq (K : PySem.W.Frag) (tl : TE) : TI := fun σ H R => tl σ H fun x H1 => (∃ a, x = .ref a ∧ (∃ xs, SqL K H1 a xs) ∧ R (Itl K a) H1) ∨ (∃ a, x = .ref a ∧ (∃ xs, SqT K H1 a xs) ∧ R (Itt K a) H1) ∨ ∃ z, x = .str z ∧ R (Its z) H1
theorem pi_seq {X : Cx} {tg l : Expr} {tl : TE} (hl : PE X l tl) : PI X tg l (iSeq X.K tl) := by
  refine ⟨fun pn s σ H0 R I h => ?_⟩
  refine thn (hl.run pn s σ H0 _ I h) fun v t1 ⟨x, G1, J1, k1, q1⟩ => ?_
  rcases q1 with ⟨a, e, ⟨xs, hq⟩, q⟩ | ⟨a, e, ⟨xs, hq⟩, q⟩ | ⟨z, ex, q⟩
  · subst e
    cases k1
    obtain ⟨ys, ry, p, hle⟩ := J1.list hq
    refine wpAny_pyIter_list p.isList ?_
    refine ⟨t1.heap.objs.size, [t1.heap.objs.size], _, _, G1, rfl, J1.kept (t' := t1.toks) fun b o e => Heap.get?_push_of_some _ e, turn_list a _, ⟨_, Heap.get?_push_size _ rfl, rfl, rfl⟩, fun b hbm => ?_, q⟩
    have e : b = t1.heap.objs.size := by simpa using hbm
    subst e
    exact J1.fpOk (Nat.le_refl _) (J1.hok.fresh (Nat.le_refl _))
  · subst e
    cases k1
    obtain ⟨ys, ry, p, hle⟩ := J1.tuple hq
    refine wpAny_pyIter_tuple (show t1.heap.IsTuple a ys.toArray from p) ?_
    refine ⟨t1.heap.objs.size, [t1.heap.objs.size], _, _, G1, rfl, J1.kept (t' := t1.toks) fun b o e => Heap.get?_push_of_some _ e, turn_tuple a _, ⟨_, Heap.get?_push_size _ rfl, rfl, rfl⟩, fun b hbm => ?_, q⟩
    have e : b = t1.heap.objs.size := by simpa using hbm
    subst e
    exact J1.fpOk (Nat.le_refl _) (J1.hok.fresh (Nat.le_refl _))
  · subst ex
    obtain ⟨t, rfl⟩ := k1
    cases ha : z.cps.all (· < 128)
    · exact wpAny_pyIter_wide ha (pi_one (tk := t1.toks) J1 _ (turn_str _ z t "str_iterator" (.inr rfl)) ⟨_, Heap.get?_push_size _ rfl, rfl, rfl⟩ q)
    · exact wpAny_pyIter_ascii ha (pi_one (tk := t1.toks) J1 _ (turn_str _ z t "str_ascii_iterator" (.inl rfl)) ⟨_, Heap.get?_push_size _ rfl, rfl, rfl⟩ q)
def itemsOf : PD → R (List PD)
  | .list ds => .ok ds
  | .tuple ds => .ok ds
  | .str x => .ok (signs x)
  | _ => .bad
def iItems (g : Rho → R PD) : Rho → R (List PD) := fun ρ => (g ρ).bind itemsOf
section
variable {K : PySem.W.Frag} {W : WX} {t : TE} {g : Rho → R PD} {ta : TA} {ga : Rho → R (List PD)}
theorem di_seq (h : TDe K W t g) : TDi K W (iSeq K t) (iItems g) := fun F0 H0 F H σ ρ Q S q =>
  h F0 H0 F H σ ρ _ S (q.then fun a F1 H1 e1 k1 v rv => by
    cases rv with
    | lst s r => exact .inl ⟨_, rfl, ⟨_, .inl (rdM e1.g s)⟩, Fin.okk (x := _) K W σ e1.g k1 _ (itr_list (.inl s) r)⟩
    | tup s r => exact .inr (.inl ⟨_, rfl, ⟨_, seqT e1.g s⟩, Fin.okk (x := _) K W σ e1.g k1 _ (itr_tup s r)⟩)
    | str x => exact .inr (.inr ⟨_, rfl, Fin.okk (x := _) K W σ e1.g k1 _ itr_str⟩)
    | _ => exact k1.elim)
def small62 (i : Int) : Bool := decide (-(2 ^ 62) ≤ i) && decide (i < 2 ^ 62)
theorem small62_ok {i : Int} (h : small62 i = true) : -(2 ^ 62) ≤ i ∧ i < 2 ^ 62 := by
  unfold small62 at h
  rw [Bool.and_eq_true] at h
  exact ⟨of_decide_eq_true h.1, of_decide_eq_true h.2⟩
def rng1 : List PD → R (List PD)
  | [.int j] => if small62 j = true then .ok (rngD 0 j.toNat) else .bad
  | _ => .bad
def rng2 : List PD → R (List PD)
  | [.int i, .int j] => if small62 i = true ∧ small62 j = true then .ok (rngD i (j - i).toNat) else .bad
  | _ => .bad
def iRng1D (ga : Rho → R (List PD)) : Rho → R (List PD) := fun ρ => (ga ρ).bind rng1
def iRng2D (ga : Rho → R (List PD)) : Rho → R (List PD) := fun ρ => (ga ρ).bind rng2
theorem di_rng1 (h : TDq K W ta ga) : TDi K W (iRng1 ta) (iRng1D ga) := fun F0 H0 F H σ ρ Q S q =>
  h F0 H0 F H σ ρ _ S (q.then fun l F1 H1 e1 k1 vs rs => by
    unfold rng1 at k1
    split at k1
    · split at k1
      · rename_i hs
        obtain ⟨h1, h2⟩ := small62_ok hs
        cases rs with
        | cons r1 r2 =>
          cases r2
          exact ⟨_, by rw [r1.int], h1, h2, Fin.okk (x := _) K W σ e1.g k1 _ itr_rng⟩
      · exact k1.elim
    · exact k1.elim)
theorem di_rng2 (h : TDq K W ta ga) : TDi K W (iRng2 ta) (iRng2D ga) := fun F0 H0 F H σ ρ Q S q =>
  h F0 H0 F H σ ρ _ S (q.then fun l F1 H1 e1 k1 vs rs => by
    unfold rng2 at k1
    split at k1
    · split at k1
      · rename_i hs
        obtain ⟨h1, h2⟩ := small62_ok hs.1
        obtain ⟨h3, h4⟩ := small62_ok hs.2
        cases rs with
        | cons r1 r2 =>
          cases r2 with
          | cons r2 r3 =>
            cases r3
            exact ⟨_, _, by rw [r1.int, r2.int], ⟨h1, h2, h3, h4⟩, Fin.okk (x := _) K W σ e1.g k1 _ itr_rng⟩
      · exact k1.elim
    · exact k1.elim)
def enumO : List PD → R (List PD)
  | [.list ds] => .ok (enumD ds)
  | _ => .bad
def iEnumD (ga : Rho → R (List PD)) : Rho → R (List PD) := fun ρ => (ga ρ).bind enumO
theorem di_enum (h : TDa K W ta ga) : TDi K W (iEnum K ta) (iEnumD ga) := fun F0 H0 F H σ ρ Q S q =>
  h F0 H0 F H σ ρ _ S (q.then fun l F1 H1 e1 k1 vs rs => by
    unfold enumO at k1
    split at k1
    · cases rs with
      | cons r1 r2 =>
        cases r2
        cases r1 with
        | lst s r => exact ⟨_, _, rfl, .inl (rdM e1.g s), Fin.okk (x := _) K W σ e1.g k1 _ (itr_enum (.inl s) r)⟩
    · exact k1.elim)
def zipO : List PD → R (List PD)
  | [.list ds, .list es] => .ok (zipD ds es)
  | _ => .bad
def iZipD (ga : Rho → R (List PD)) : Rho → R (List PD) := fun ρ => (ga ρ).bind zipO
theorem di_zip (h : TDa K W ta ga) : TDi K W (iZip K ta) (iZipD ga) := fun F0 H0 F H σ ρ Q S q =>
  h F0 H0 F H σ ρ _ S (q.then fun l F1 H1 e1 k1 vs rs => by
    unfold zipO at k1
    split at k1
    · cases rs with
      | cons r1 r2 =>
        cases r2 with
        | cons r2 r3 =>
          cases r3
          cases r1 with
          | lst s r =>
            cases r2 with
            | lst s' r' => exact ⟨_, _, _, _, rfl, .inl (rdM e1.g s), .inl (rdM e1.g s'), Fin.okk (x := _) K W σ e1.g k1 _ (itr_zip (.inl s) r (.inl s') r')⟩
    · exact k1.elim)
def revO : List PD → R (List PD)
  | [.list ds] => .ok ds.reverse
  | _ => .bad
def iRevD (ga : Rho → R (List PD)) : Rho → R (List PD) := fun ρ => (ga ρ).bind revO
theorem di_rev (h : TDa K W ta ga) : TDi K W (iRev K ta) (iRevD ga) := fun F0 H0 F H σ ρ Q S q =>
  h F0 H0 F H σ ρ _ S (q.then fun l F1 H1 e1 k1 vs rs => by
    unfold revO at k1
    split at k1
    · cases rs with
      | cons r1 r2 =>
        cases r2
        cases r1 with
        | lst s r => exact ⟨_, _, rfl, .inl (rdM e1.g s), Fin.okk (x := _) K W σ e1.g k1 _ (itr_rev (.inl s) r)⟩
    · exact k1.elim)
end

/-! ### for, while -/
def forD (a : Rho → PD → R Rho) (body : Rho → SR) : List PD → Rho → SR
  | [], ρ => .nx ρ
  | x :: xs, ρ => match a ρ x with
    | .ok ρ1 => (match body ρ1 with
      | .nx ρ2 => forD a body xs ρ2
      | .ct ρ2 => forD a body xs ρ2
      | .bk ρ2 => .nx ρ2
      | .rt s => .rt s
      | .exc c => .exc c
      | .bad => .bad)
    | _ => .bad
def sFor (gi : Rho → R (List PD)) (a : Rho → PD → R Rho) (body : Rho → SR) : Rho → SR := fun ρ => SR.of (gi ρ) fun ds => forD a body ds ρ
def whileD (c : Rho → R Bool) (body : Rho → SR) : Nat → Rho → SR
  | 0, _ => .bad
  | n + 1, ρ => SR.of (c ρ) fun b => if b = true then (match body ρ with
      | .nx ρ2 => whileD c body n ρ2
      | .ct ρ2 => whileD c body n ρ2
      | .bk ρ2 => .nx ρ2
      | .rt s => .rt s
      | .exc c => .exc c
      | .bad => .bad) else .nx ρ
def sWhile (n : Nat) (c : Rho → R Bool) (body : Rho → SR) : Rho → SR := fun ρ => whileD c body n ρ
section
variable {K : PySem.W.Frag} {W : WX}
theorem ds_for {vs : List Nat} {wi : TI} {gi : Rho → R (List PD)} {gx : TG} {a : Rho → PD → R Rho} {tb : TS} {body : Rho → SR} (hi : TDi K W wi gi) (hg : TDg K vs gx a) (hb : TDS K W tb body) : TDS K W (tFor wi gx tb) (sFor gi a body) := fun F0 H0 F H σ ρ D S q => by
  refine hi F0 H0 F H σ ρ _ S (q.of S.ext fun ds F1 H1 e1 k J hJ => ?_)
  have S1 := S.go e1
  refine ⟨fun i m σ H => m = ds.length - i ∧ ∃ F ρ, StR K F0 H0 F H σ ρ ∧ Same F1 F ∧ FinS K W F0 H0 D (forD a body (ds.drop i) ρ), ⟨_, rfl, F1, ρ, S1, Same.refl F1, k⟩, ?_⟩
  rintro i m σ2 H2 ⟨rfl, F2, ρ2, S2, e2, k2⟩
  cases hd : ds[i]? with
  | none =>
    have hl := List.getElem?_eq_none_iff.mp hd
    rw [List.drop_eq_nil_of_le hl] at k2
    exact .inl ⟨(hJ i F2 H2 e2 S2.same).2 hl, k2 σ2 F2 H2 S2⟩
  | some d =>
    have hl := (List.getElem?_eq_some_iff.mp hd).1
    rw [List.drop_eq_getElem_cons hl, (List.getElem?_eq_some_iff.mp hd).2] at k2
    obtain ⟨go, yl⟩ := (hJ i F2 H2 e2 S2.same).1 d hd
    refine .inr ⟨go, fun σ' H' => ∃ F ρ, StR K F0 H0 F H' σ' ρ ∧ Same F1 F ∧ FinS K W F0 H0 D (forD a body (ds.drop (i + 1)) ρ), fun σ' H' ⟨F', ρ', S', e', k'⟩ => ⟨_, by omega, rfl, F', ρ', S', e', k'⟩, fun x H3 y => ?_⟩
    obtain ⟨F3, e3, r3⟩ := yl x H3 y
    refine hg F0 H0 F3 H3 σ2 ρ2 x d _ (S2.go e3) r3 ?_
    unfold forD at k2
    cases ea : a ρ2 d with
    | ok ρ3 =>
      rw [ea] at k2
      intro σ3 S3 _
      have b3 := S3.ext
      refine hb F3 H0 F3 H3 σ3 ρ3 _ S3.rebase ?_
      simp only at k2
      cases eb : body ρ3 with
      | nx ρ4 =>
        rw [eb] at k2
        exact fun σ4 F4 H4 S4 => ⟨F4, ρ4, S4.unbase b3, (e2.trans e3.f).trans S4.ext.f, k2⟩
      | ct ρ4 =>
        rw [eb] at k2
        exact fun σ4 F4 H4 S4 => ⟨F4, ρ4, S4.unbase b3, (e2.trans e3.f).trans S4.ext.f, k2⟩
      | bk ρ4 =>
        rw [eb] at k2
        exact fun σ4 F4 H4 S4 => k2 σ4 F4 H4 (S4.unbase b3)
      | rt s =>
        rw [eb] at k2
        exact FinS.rebase (D := { D with nx := _, ct := _, bk := _ }) (s := .rt s) b3 k2
      | exc c =>
        rw [eb] at k2
        exact FinS.rebase (D := D) (s := .exc c) b3 k2
      | bad => rw [eb] at k2; exact k2
    | exc c => rw [ea] at k2; exact k2.elim
    | bad => rw [ea] at k2; exact k2.elim
theorem ds_while (n : Nat) {tt : TT} {c : Rho → R Bool} {tb : TS} {body : Rho → SR} (hc : TDt K W tt c) (hb : TDS K W tb body) : TDS K W (tWhile tt tb) (sWhile n c body) := fun F0 H0 F H σ ρ D S q => by
  refine ⟨fun m σ H => ∃ F ρ, StR K F0 H0 F H σ ρ ∧ FinS K W F0 H0 D (whileD c body m ρ), ⟨n, F, ρ, S, q⟩, ?_⟩
  rintro m σ2 H2 ⟨F2, ρ2, S2, k2⟩
  cases m with
  | zero => exact k2.elim
  | succ m =>
    unfold whileD at k2
    refine hc F0 H0 F2 H2 σ2 ρ2 _ S2 (k2.of S2.ext fun b F3 H3 e3 k3 => ?_)
    cases b with
    | false => exact k3 σ2 F3 H3 (S2.go e3)
    | true =>
      refine ⟨fun σ' H' => ∃ F ρ, StR K F0 H0 F H' σ' ρ ∧ FinS K W F0 H0 D (whileD c body m ρ), fun σ' H' h => ⟨m, Nat.lt_succ_self m, h⟩, ?_⟩
      refine hb F0 H0 F3 H3 σ2 ρ2 _ (S2.go e3) ?_
      simp only [if_true] at k3
      cases eb : body ρ2 with
      | nx ρ4 => rw [eb] at k3; exact fun σ4 F4 H4 S4 => ⟨F4, ρ4, S4, k3⟩
      | ct ρ4 => rw [eb] at k3; exact fun σ4 F4 H4 S4 => ⟨F4, ρ4, S4, k3⟩
      | bk ρ4 => rw [eb] at k3; exact fun σ4 F4 H4 S4 => k3 σ4 F4 H4 S4
      | rt s => rw [eb] at k3; exact k3
      | exc c => rw [eb] at k3; exact k3
      | bad => rw [eb] at k3; exact k3
end

/-! ### list comprehensions -/
def wipeD (ρ : Rho) : List Nat → Rho
  | [] => ρ
  | v :: vs => (wipeD ρ vs).set v none
theorem StR.setU {K : PySem.W.Frag} {F0 H0 F H : Hp} {σ : L2.St} {ρ : Rho} (S : StR K F0 H0 F H σ ρ) (i : Nat) : StR K F0 H0 F H (σ.set i none) (ρ.set i none) := by
  refine ⟨S.ext, by simpa using S.len, fun j y e => ?_, fun j y e => ?_, fun j k y z p e1 e2 e3 e4 => ?_, fun j y e => ?_⟩
  · rcases get_set e with ⟨rfl, hl, q⟩ | ⟨hn, q⟩
    · cases q
    · obtain ⟨u, a, b⟩ := S.dat j y q
      exact ⟨u, by rw [List.getElem?_set_ne hn]; exact a, b⟩
  · rcases get_set e with ⟨rfl, hl, q⟩ | ⟨hn, q⟩
    · cases q
    · obtain ⟨p, a, b⟩ := S.own j y q
      exact ⟨p, by rw [List.getElem?_set_ne hn]; exact a, b⟩
  · rcases get_set e1 with ⟨_, _, q⟩ | ⟨n1, q1⟩
    · cases q
    · rcases get_set e2 with ⟨_, _, q⟩ | ⟨n2, q2⟩
      · cases q
      · rw [List.getElem?_set_ne n1] at e3
        rw [List.getElem?_set_ne n2] at e4
        exact S.dis j k y z p q1 q2 e3 e4
  · rcases get_set e with ⟨rfl, hl, q⟩ | ⟨hn, q⟩
    · cases q
    · obtain ⟨p, a, b⟩ := S.lck j y q
      exact ⟨p, by rw [List.getElem?_set_ne hn]; exact a, b⟩
theorem StR.wipe {K : PySem.W.Frag} {F0 H0 F H : Hp} {σ : L2.St} {ρ : Rho} (S : StR K F0 H0 F H σ ρ) : ∀ vs : List Nat, StR K F0 H0 F H (L2.wipe σ vs) (wipeD ρ vs)
  | [] => S
  | v :: vs => (StR.wipe S vs).setU v
theorem wipe_wipe (σ : L2.St) (vs : List Nat) : L2.wipe (L2.wipe σ vs) vs = L2.wipe σ vs := by
  have one : ∀ (v : Nat) (τ : L2.St) (us : List Nat), v ∈ us → L2.wipe (τ.set v none) us = L2.wipe τ us := fun v τ us h => wipe_set h
  have all : ∀ (us : List Nat), (∀ u ∈ us, u ∈ vs) → L2.wipe (L2.wipe σ us) vs = L2.wipe σ vs := by
    intro us
    induction us with
    | nil => intro _; rfl
    | cons u us ih =>
      intro h
      show L2.wipe ((L2.wipe σ us).set u none) vs = _
      rw [one u _ vs (h u List.mem_cons_self), ih fun x hx => h x (List.mem_cons_of_mem _ hx)]
  exact all vs fun _ h => h
/-- an item's share of a comprehension's list -/
def lcL (h : PD → R (Option PD)) : List PD → R (List PD)
  | [] => .ok []
  | x :: xs => (h x).bind fun o => (lcL h xs).bind fun l => .ok (o.toList ++ l)
def lcE (a : Rho → PD → R Rho) (gt : Rho → R Bool) (ge : Rho → R PD) (ρ : Rho) : PD → R (Option PD) := fun x =>
  (a ρ x).bind fun ρ1 => (gt ρ1).bind fun b => if b = true then (ge ρ1).bind fun y => .ok (some y) else .ok none
/-- nothing is raised within -/
def noExc {α : Type} : R α → R α
  | .exc _ => .bad
  | r => r
def oLc (gi : Rho → R (List PD)) (a : Rho → PD → R Rho) (gt : Rho → R Bool) (ge : Rho → R PD) (vs : List Nat) : Rho → R PD := fun ρ =>
  (gi ρ).bind fun ds => (noExc (lcL (lcE a gt ge (wipeD ρ vs)) ds)).bind fun l => if l.length ≤ sizeLine then .ok (.list l) else .bad
def W0 : WX := fun _ _ _ _ => False
theorem lcL_cons {h : PD → R (Option PD)} {x : PD} {xs l : List PD} (e : lcL h (x :: xs) = .ok l) : ∃ o l', h x = .ok o ∧ lcL h xs = .ok l' ∧ l = o.toList ++ l' := by
  unfold lcL at e
  cases eh : h x with
  | ok o =>
    rw [eh] at e
    have e : (lcL h xs).bind (fun l => R.ok (o.toList ++ l)) = .ok l := e
    cases el : lcL h xs with
    | ok l' =>
      rw [el] at e
      have e : R.ok (o.toList ++ l') = R.ok l := e
      cases e
      exact ⟨o, l', rfl, rfl, rfl⟩
    | exc c => rw [el] at e; cases e
    | bad => rw [el] at e; cases e
  | exc c => rw [eh] at e; cases e
  | bad => rw [eh] at e; cases e
section
variable {K : PySem.W.Frag} {W : WX}
theorem to_lc {vs : List Nat} {wi : TI} {gi : Rho → R (List PD)} {gx : TG} {a : Rho → PD → R Rho} {tt : TT} {gt : Rho → R Bool} {te : TE} {ge : Rho → R PD}
    (hi : TDi K W wi gi) (hg : TDg K vs gx a) (ht : TDt K W0 tt gt) (he : TDe K W0 te ge) : TDo K W (tLc wi gx tt te vs) (oLc gi a gt ge vs) := fun F0 H0 F H σ ρ Q S q => by
  refine hi F0 H0 F H σ ρ _ S ?_
  unfold oLc at q
  cases egi : gi ρ with
  | exc c => rw [egi] at q; exact q
  | bad => rw [egi] at q; exact q
  | ok ds =>
    rw [egi] at q
    have q : Fin K W σ F H ((noExc (lcL (lcE a gt ge (wipeD ρ vs)) ds)).bind fun l => if l.length ≤ sizeLine then R.ok (PyData.list l) else R.bad) (OwQ K H Q) := q
    cases el : lcL (lcE a gt ge (wipeD ρ vs)) ds with
    | exc c => rw [el] at q; exact q.elim
    | bad => rw [el] at q; exact q.elim
    | ok l =>
      rw [el] at q
      have q : Fin K W σ F H (if l.length ≤ sizeLine then R.ok (PyData.list l) else R.bad) (OwQ K H Q) := q
      by_cases hsz : l.length ≤ sizeLine
      · rw [if_pos hsz] at q
        intro F1 H1 e1 J hJ D hD
        have S1 := S.go e1
        -- the state: what is frozen by now, the new list with what is made so far
        refine ⟨fun i m H => m = ds.length - i ∧ ∃ F acc accv rest, Ext F1 H1 F H ∧ F D = none ∧ H D = some (.lst accv) ∧ DpAll K F accv acc ∧ lcL (lcE a gt ge (wipeD ρ vs)) (ds.drop i) = .ok rest ∧ l = acc ++ rest,
          ⟨_, rfl, F1, [], [], l, Ext.own e1.g hD, e1.g.free hD, upd_same, .nil, el, rfl⟩, ?_⟩
        rintro i m H2 ⟨rfl, F2, acc, accv, rest, e2, hFD, hHD, racc, erest, hl⟩
        have S2 : StR K F0 H0 F2 H2 σ ρ := S1.go e2
        cases hd : ds[i]? with
        | none =>
          have hle := List.getElem?_eq_none_iff.mp hd
          rw [List.drop_eq_nil_of_le hle] at erest
          have hr : rest = [] := by unfold lcL at erest; cases erest; rfl
          subst hr
          rw [List.append_nil] at hl
          subst hl
          exact .inl ⟨(hJ i F2 H2 e2.f e2.g).2 hle, q F2 H2 (e1.trans e2) D (e1.h.free hD) hFD ⟨accv, hHD, racc⟩⟩
        | some d =>
          have hlt := (List.getElem?_eq_some_iff.mp hd).1
          rw [List.drop_eq_getElem_cons hlt, (List.getElem?_eq_some_iff.mp hd).2] at erest
          obtain ⟨o, l', eo, el', er⟩ := lcL_cons erest
          obtain ⟨go, yl⟩ := (hJ i F2 H2 e2.f e2.g).1 d hd
          refine .inr ⟨go, fun H' => ∃ F acc accv rest, Ext F1 H1 F H' ∧ F D = none ∧ H' D = some (.lst accv) ∧ DpAll K F accv acc ∧ lcL (lcE a gt ge (wipeD ρ vs)) (ds.drop (i + 1)) = .ok rest ∧ l = acc ++ rest,
            fun H' ⟨F', acc', accv', rest', z⟩ => ⟨_, by omega, rfl, F', acc', accv', rest', z⟩, fun x H3 y => ?_⟩
          obtain ⟨F3, e3, r3⟩ := yl x H3 y
          have dne : ∀ {Fa Ha Fb Hb : Hp}, Ext Fa Ha Fb Hb → Fa D = none → Ha D = some (.lst accv) → Fb D = none ∧ Hb D = some (.lst accv) := fun {Fa Ha Fb Hb} e h1 h2 => by
            refine ⟨?_, e.h D _ h2⟩
            cases z : Fb D with
            | none => rfl
            | some u =>
              rcases e.n D (by rw [z]; exact Option.some_ne_none u) with w | w
              · exact absurd h1 w
              · rw [h2] at w; cases w
          obtain ⟨hFD3, hHD3⟩ := dne e3 hFD hHD
          have S3 : StR K F0 H0 F3 H3 (L2.wipe σ vs) (wipeD ρ vs) := (S2.go e3).wipe vs
          refine hg F0 H0 F3 H3 _ _ x d _ S3 r3 ?_
          unfold lcE at eo
          cases ea : a (wipeD ρ vs) d with
          | exc c => rw [ea] at eo; cases eo
          | bad => rw [ea] at eo; cases eo
          | ok ρ4 =>
            rw [ea] at eo
            have eo : ((gt ρ4).bind fun b => if b = true then (ge ρ4).bind fun y => R.ok (some y) else R.ok none) = R.ok o := eo
            intro σ4 S4 hw
            refine ⟨by rw [hw, wipe_wipe], ?_⟩
            refine ht F0 H0 F3 H3 σ4 ρ4 _ S4 ?_
            cases et : gt ρ4 with
            | exc c => rw [et] at eo; cases eo
            | bad => rw [et] at eo; cases eo
            | ok b =>
              rw [et] at eo
              intro F5 H5 e5
              obtain ⟨hFD5, hHD5⟩ := dne e5 hFD3 hHD3
              have e15 : Ext F1 H1 F5 H5 := (e2.trans e3).trans e5
              cases b with
              | false =>
                have eo : R.ok none = R.ok o := eo
                cases eo
                show (∃ F acc accv rest, _)
                exact ⟨F5, acc, accv, l', e15, hFD5, hHD5, racc.mono (e3.f.trans e5.f), el', by rw [hl, er]; rfl⟩
              | true =>
                have eo : ((ge ρ4).bind fun y => R.ok (some y)) = R.ok o := eo
                show te σ4 H5 _
                refine he F0 H0 F5 H5 σ4 ρ4 _ (S4.go e5) ?_
                cases ey : ge ρ4 with
                | exc c => rw [ey] at eo; cases eo
                | bad => rw [ey] at eo; cases eo
                | ok yv =>
                  rw [ey] at eo
                  have eo : R.ok (some yv) = R.ok o := eo
                  cases eo
                  intro F6 H6 e6 v6 r6
                  obtain ⟨hFD6, hHD6⟩ := dne e6 hFD5 hHD5
                  have e16 : Ext F1 H1 F6 H6 := e15.trans e6
                  have hlen : l.length = acc.length + (1 + l'.length) := by rw [hl, er]; simp; omega
                  refine ⟨accv, hHD6, by rw [racc.length]; omega, F6, acc ++ [yv], accv ++ [v6], l', ⟨e16.f, fun b u z => ?_, fun b u z => ?_, e16.n⟩, hFD6, upd_same,
                    (racc.mono ((e3.f.trans e5.f).trans e6.f)).append (.cons r6 .nil), el', by rw [hl, er]; simp⟩
                  · rw [upd_ne (ne_of_none z hFD6)]; exact e16.g b u z
                  · rw [upd_ne (ne_of_none z hD)]; exact e16.h b u z
      · rw [if_neg hsz] at q
        exact q.elim
def gYes : Rho → R Bool := fun _ => .ok true
theorem tt_yes : TDt K W tYes gYes := fun F0 H0 F H σ ρ Q S q => q.ok S.same
end

/-! ### defs and their calls -/
inductive FR where
  | rt (s : Sl)
  | exc (c : Ec)
  | bad
def SR.fr : SR → FR
  | .nx _ => .rt (.d .none)
  | .rt s => .rt s
  | .exc c => .exc c
  | _ => .bad
def FRQ (K : PySem.W.Frag) (F H : Hp) (Q : VK) (E : XK) : FR → Prop
  | .rt s => RetQ K F H Q s
  | .exc c => ∀ cls d F' H', Ext F H F' H' → ExR K c cls d H' → E cls d H'
  | .bad => False
/-- a def's promise: it hands back what f tells of its arguments; what stood stands -/
def spD (K : PySem.W.Frag) (n : Nat) (f : List PD → FR) : Sp := fun vs H Q E => vs.length = n ∧ ∃ F ds, Same F H ∧ DpAll K F vs ds ∧ FRQ K F H Q E (f ds)
def startD (n : Nat) (ds : List PD) : Rho := ds.map (fun d => some (.d d)) ++ List.replicate (n - ds.length) none
def runD (n : Nat) (s : Rho → SR) (ds : List PD) : FR := (s (startD n ds)).fr
theorem start_ok {K : PySem.W.Frag} {F H : Hp} {N : List Str} {vs : List V} {ds : List PD} (s : Same F H) (r : DpAll K F vs ds) : StR K F H F H (start N vs) (startD N.length ds) := by
  have hl := r.length
  have gd : ∀ (j : Nat) (y : Sl), (startD N.length ds)[j]? = some (some y) → ∃ d, y = .d d ∧ ds[j]? = some d := fun j y e => by
    unfold startD at e
    by_cases hj : j < ds.length
    · rw [List.getElem?_append_left (by simpa using hj), List.getElem?_map] at e
      cases z : ds[j]? with
      | none => rw [z] at e; cases e
      | some d => rw [z] at e; cases e; exact ⟨d, rfl, rfl⟩
    · rw [List.getElem?_append_right (by simpa using hj), List.getElem?_replicate] at e
      split at e
      · cases e
      · cases e
  refine ⟨Ext.refl s, ?_, fun i x e => ?_, fun i x e => ?_, fun i j x y p e1 _ _ _ => ?_, fun i x e => ?_⟩
  · unfold L2.start startD; simp [hl]
  · obtain ⟨d, e1, e2⟩ := gd i _ e
    cases e1
    obtain ⟨v, a, b⟩ := r.get' e2
    refine ⟨v, ?_, b⟩
    unfold L2.start
    rw [List.getElem?_append_left (by simpa using (List.getElem?_eq_some_iff.mp a).1), List.getElem?_map, a]
    rfl
  · obtain ⟨d, e1, e2⟩ := gd i _ e
    cases e1
  · obtain ⟨d, q1, q2⟩ := gd i _ e1
    cases q1
  · obtain ⟨d, e1, e2⟩ := gd i _ e
    cases e1
theorem fnD {P : Program} {w : World} {K : PySem.W.Frag} {mg : Str → Option Value} {base : Heap} {x qual : Str} {params : Arguments} {body : List Stmt} {scope : Scope} {f : Addr} {fd : FuncData} {N ps : List Str} {k : Nat} {s : Rho → SR}
    (F : FunD K x qual params body scope [] [] f fd) (S : FnScope N ps scope)
    (hb : ∀ (cdv : Value) (A : Around) (outer : List Env) (sh : Shared) (H : Hp) (E : XK), Room k (A.deeper (envOfC qual scope sh.heap.objs.size f cdv)) →
      Takes (cxOf (L2.CX P w) P w K mg base N qual scope f cdv A outer sh H E) (fun cls d _ H => E cls d H) →
      ∃ t, PSs (cxOf (L2.CX P w) P w K mg base N qual scope f cdv A outer sh H E) body t ∧ TDS K (fun cls d _ H => E cls d H) t s) : FnOk P w K mg base (L2.CX P w) (k + 1) f fd ps (spD K ps.length (runD N.length s)) := by
  refine F.ok S (fun vs H Q E h => h.1) (fun cdv A outer sh H vs Q E hr h => ?_)
  obtain ⟨hl, F0, ds, hs, hd, hq⟩ := h
  obtain ⟨t, h1, h2⟩ := hb cdv A outer sh H E hr (takes_of rfl rfl rfl (E₁ := _) rfl)
  refine ⟨t, h1, h2 F0 H F0 H _ _ _ (start_ok hs hd) ?_⟩
  unfold runD at hq
  cases e : s (startD N.length ds) with
  | nx ρ => rw [e] at hq; exact fun σ F1 H1 S1 => hq .non F1 H1 S1.ext .non
  | bk ρ => rw [e] at hq; exact hq.elim
  | ct ρ => rw [e] at hq; exact hq.elim
  | rt s => rw [e] at hq; exact hq
  | exc c => rw [e] at hq; exact fun cls d σ F1 H1 ex r => hq cls d F1 H1 ex r
  | bad => rw [e] at hq; exact hq.elim
def FR.toE : FR → R PD
  | .rt (.d x) => .ok x
  | .rt (.o (.list l)) => .ok (.list l)
  | .exc c => .exc c
  | _ => .bad
def FR.toO : FR → R PD
  | .rt (.o x) => .ok x
  | .exc c => .exc c
  | _ => .bad
def scalD : PD → Bool
  | .none => true
  | .bool _ => true
  | .int _ => true
  | .str _ => true
  | _ => false
def FR.toS : FR → R PD
  | .rt (.d x) => if scalD x = true then .ok x else .bad
  | .exc c => .exc c
  | _ => .bad
def isDict : PD → Bool
  | .dict _ => true
  | _ => false
theorem scal_dp {K : PySem.W.Frag} {F F' : Hp} {v : V} {x : PD} (h : scalD x = true) (r : Dp K F v x) : Dp K F' v x := by
  cases r with
  | non => exact .non
  | bl b => exact .bl b
  | int i => exact .int i
  | str i => exact .str i
  | lst _ _ => cases h
  | tup _ _ => cases h
theorem own_frz {K : PySem.W.Frag} {F H F' H' : Hp} {p : Addr} {ds : List PD} (ex : Ext F H F' H') (hp : H p = none) (hf : F' p = none) (ho : OwnAt K F' H' p (.list ds)) : ∃ F'', Ext F H F'' H' ∧ Dp K F'' (.ref p) (.list ds) := by
  obtain ⟨vs, a, b⟩ := ho
  have hs : Same F' (upd F' p (.lst vs)) := fun q u e => by rw [upd_ne (ne_of_none e hf)]; exact e
  refine ⟨upd F' p (.lst vs), ⟨ex.f.trans hs, fun q u r => ?_, ex.h, fun q r => ?_⟩, .lst (.inl upd_same) (b.mono hs)⟩
  · by_cases hq : q = p
    · subst hq; rw [upd_same] at r; rw [← r]; exact a
    · rw [upd_ne hq] at r; exact ex.g q u r
  · by_cases hq : q = p
    · subst hq; exact .inr hp
    · rw [upd_ne hq] at r; exact ex.n q r
section
variable {K : PySem.W.Frag} {W : WX} {ta : TA} {ga : Rho → R (List PD)} {n : Nat} {f : List PD → FR}
def eCall (n : Nat) (f : List PD → FR) (ga : Rho → R (List PD)) : Rho → R PD := fun ρ => (ga ρ).bind fun ds => if ds.length = n then (f ds).toE else .bad
def oCall (n : Nat) (f : List PD → FR) (ga : Rho → R (List PD)) : Rho → R PD := fun ρ => (ga ρ).bind fun ds => if ds.length = n then (f ds).toO else .bad
/-- arguments that are only read, a plain answer -/
def eCallR (n : Nat) (f : List PD → FR) (ga : Rho → R (List PD)) : Rho → R PD := fun ρ => (ga ρ).bind fun ds => if ds.length = n ∧ ds.all (fun d => !isDict d) = true then (f ds).toS else .bad
theorem td_call (h : TDa K W ta ga) : TDe K W (tCallS (spD K n f) (WE W) ta) (eCall n f ga) := fun F0 H0 F H σ ρ Q S q =>
  h F0 H0 F H σ ρ _ S (q.then fun ds F1 H1 e1 k1 vs rs => by
    by_cases hn : ds.length = n
    · rw [if_pos hn] at k1
      refine ⟨by rw [rs.length]; exact hn, F1, ds, e1.g, rs, ?_⟩
      cases e : f ds with
      | rt s =>
        rw [e] at k1
        cases s with
        | d x => exact fun v F' H' ex r => k1 F' H' ex v r
        | o x =>
          cases x with
          | list l =>
            intro p F' H' ex hp hf ho
            obtain ⟨F'', ex2, r⟩ := own_frz ex hp hf ho
            exact k1 F'' H' ex2 _ r
          | _ => exact k1.elim
        | l x => exact k1.elim
      | exc c => rw [e] at k1; exact fun cls d F' H' ex r => k1 cls d F' H' ex r
      | bad => rw [e] at k1; exact k1.elim
    · rw [if_neg hn] at k1
      exact k1.elim)
theorem to_call (h : TDa K W ta ga) : TDo K W (tCallS (spD K n f) (WE W) ta) (oCall n f ga) := fun F0 H0 F H σ ρ Q S q =>
  h F0 H0 F H σ ρ _ S (by
    unfold oCall at q
    cases ea : ga ρ with
    | exc c => rw [ea] at q; exact q
    | bad => rw [ea] at q; exact q
    | ok ds =>
      rw [ea] at q
      have q : Fin K W σ F H (if ds.length = n then (f ds).toO else .bad) (OwQ K H Q) := q
      intro F1 H1 e1 vs rs
      by_cases hn : ds.length = n
      · rw [if_pos hn] at q
        refine ⟨by rw [rs.length]; exact hn, F1, ds, e1.g, rs, ?_⟩
        cases e : f ds with
        | rt s =>
          rw [e] at q
          cases s with
          | d x => exact q.elim
          | o x => exact fun p F' H' ex hp hf ho => q F' H' (e1.trans ex) p (e1.h.free hp) hf ho
          | l x => exact q.elim
        | exc c => rw [e] at q; exact fun cls d F' H' ex r => q cls d F' H' (e1.trans ex) r
        | bad => rw [e] at q; exact q.elim
      · rw [if_neg hn] at q
        exact q.elim)
theorem RpAll.dp {F H : Hp} (s : Same F H) : ∀ {vs : List V} {ds : List PD}, RpAll K F H vs ds → ds.all (fun d => !isDict d) = true → DpAll K H vs ds
  | _, _, .nil, _ => .nil
  | _, _, .cons r t, h => by
    rw [List.all_cons, Bool.and_eq_true] at h
    exact .cons (r.dp s fun kvs e => by rw [e] at h; cases h.1) (RpAll.dp s t h.2)
theorem td_callR (h : TDq K W ta ga) : TDe K W (tCallS (spD K n f) (WE W) ta) (eCallR n f ga) := fun F0 H0 F H σ ρ Q S q =>
  h F0 H0 F H σ ρ _ S (q.then fun ds F1 H1 e1 k1 vs rs => by
    by_cases hn : ds.length = n ∧ ds.all (fun d => !isDict d) = true
    · rw [if_pos hn] at k1
      refine ⟨by rw [rs.length]; exact hn.1, H1, ds, Same.refl H1, rs.dp e1.g hn.2, ?_⟩
      cases e : f ds with
      | rt s =>
        rw [e] at k1
        cases s with
        | d x =>
          intro v F' H' ex r
          have k1 : Fin K W σ F1 H1 (if scalD x = true then .ok x else .bad) (DpQ K Q) := k1
          by_cases hx : scalD x = true
          · rw [if_pos hx] at k1
            exact k1 F1 H' (Ext.heap e1.g ex.h) v (scal_dp hx r)
          · rw [if_neg hx] at k1
            exact k1.elim
        | o x => exact k1.elim
        | l x => exact k1.elim
      | exc c => rw [e] at k1; exact fun cls d F' H' ex r => k1 cls d F1 H' (Ext.heap e1.g ex.h) r
      | bad => rw [e] at k1; exact k1.elim
    · rw [if_neg hn] at k1
      exact k1.elim)
/-- without arguments, nothing raised -/
def eCall0 (f : List PD → FR) : Rho → R PD := fun _ => noExc (f []).toE
def oCall0 (f : List PD → FR) : Rho → R PD := fun _ => noExc (f []).toO
theorem td_call0 : TDe K W (tCall (spD K 0 f) [] E0 tNil) (eCall0 f) := fun F0 H0 F H σ ρ Q S q => by
  refine ⟨rfl, F, [], S.same, .nil, ?_⟩
  unfold eCall0 at q
  cases e : f [] with
  | rt s =>
    rw [e] at q
    cases s with
    | d x => exact fun v F' H' ex r => q F' H' ex v r
    | o x =>
      cases x with
      | list l =>
        intro p F' H' ex hp hf ho
        obtain ⟨F'', ex2, r⟩ := own_frz ex hp hf ho
        exact q F'' H' ex2 _ r
      | _ => exact q.elim
    | l x => exact q.elim
  | exc c => rw [e] at q; exact q.elim
  | bad => rw [e] at q; exact q.elim
theorem to_call0 : TDo K W (tCall (spD K 0 f) [] E0 tNil) (oCall0 f) := fun F0 H0 F H σ ρ Q S q => by
  refine ⟨rfl, F, [], S.same, .nil, ?_⟩
  unfold oCall0 at q
  cases e : f [] with
  | rt s =>
    rw [e] at q
    cases s with
    | d x => exact q.elim
    | o x => exact fun p F' H' ex hp hf ho => q F' H' ex p hp hf ho
    | l x => exact q.elim
  | exc c => rw [e] at q; exact q.elim
  | bad => rw [e] at q; exact q.elim
end
end DL
namespace DL
open PySem PySem.Spec PyProof.Rows L2

/-! ### a new frozen object -/
section
variable {K : PySem.W.Frag} {W : WX} {σ : L2.St} {F H : Hp} {Q : VK}
theorem new_lst {vs : List V} {ds : List PD} {p : Addr} (s : Same F H) (r : DpAll K F vs ds) (k : Fin K W σ F H (.ok (PyData.list ds)) (DpQ K Q)) (hp : H p = none) : Q (.ref p) (upd H p (.lst vs)) := by
  have e := Ext.new (o := .lst vs) s hp
  exact k _ _ e _ (.lst (.inl upd_same) (r.mono e.f))
theorem new_tup {vs : List V} {ds : List PD} {p : Addr} (s : Same F H) (r : DpAll K F vs ds) (k : Fin K W σ F H (.ok (PyData.tuple ds)) (DpQ K Q)) (hp : H p = none) : Q (.ref p) (upd H p (.tup vs)) := by
  have e := Ext.new (o := .tup vs) s hp
  exact k _ _ e _ (.tup (SqT.of upd_same) (r.mono e.f))
theorem own_lst {vs : List V} {ds : List PD} {p : Addr} (s : Same F H) (r : DpAll K F vs ds) (k : Fin K W σ F H (.ok (PyData.list ds)) (OwQ K H Q)) (hp : H p = none) : Q (.ref p) (upd H p (.lst vs)) := by
  have e := Ext.own (o := .lst vs) s hp
  exact k _ _ e p hp (s.free hp) ⟨vs, upd_same, r⟩
end

/-! ### + -/
/-- list + list, of tracked or known lists -/
def rCatR : R2 := fun x y H Q => ∃ l b xs zs, x = .ref l ∧ y = .ref b ∧ Rd H l (.lst xs) ∧ Rd H b (.lst zs) ∧ xs.length + zs.length ≤ sizeLine ∧ ∀ p, H p = none → Q (.ref p) (upd H p (.lst (xs ++ zs)))
theorem op_catR {X : Cx} : OpR X (binaryOp .Add) rCatR := by
  intro pn s σ H x y v u Q J rx ry h
  obtain ⟨l, b, xs, zs, rfl, rfl, hH, hB, hle, q⟩ := h
  cases rx
  cases ry
  obtain ⟨z, vs1, n, r, e⟩ := hH.ok J.hok
  obtain ⟨z2, vs2, n2, r2, e2⟩ := hB.ok J.hok
  have hl := r.length
  have hl2 := r2.length
  refine PySem.P.add_list e e2 ?_ (by rw [List.size_toArray, List.size_toArray]; omega)
  have ea : vs1.toArray ++ vs2.toArray = (vs1 ++ vs2).toArray := by simp
  rw [ea]
  exact ⟨.ref _, _, J.lnew (t' := s.toks) (r.append r2) (by rw [List.length_append]; omega), rfl, q _ J.fresh⟩
def rAdd2 (K : PySem.W.Frag) : R2 := fun x y H Q => rI0 (fun i j => .int (i + j)) x y H Q ∨ (∃ i j, x = .str i ∧ y = .str j ∧ i.length + j.length ≤ sizeLine ∧ Q (.str (i ++ j)) H) ∨ rCatR x y H Q ∨ rCatA K x y H Q
theorem op_add2 {X : Cx} : OpR X (binaryOp .Add) (rAdd2 X.K) := op_add.or (op_add_str.or (op_catR.or op_catA))
def addD : PD → PD → R PD
  | .int i, .int j => .ok (.int (i + j))
  | .str x, .str y => if x.length + y.length ≤ sizeLine then .ok (.str (x ++ y)) else .bad
  | .list xs, .list ys => if xs.length + ys.length ≤ sizeLine then .ok (.list (xs ++ ys)) else .bad
  | .tuple xs, .tuple ys => if xs.length + ys.length ≤ sizeLine then .ok (.tuple (xs ++ ys)) else .bad
  | _, _ => .bad
section
variable {K : PySem.W.Frag}
theorem rd_add : RD K (rAdd2 K) addD := fun W σ F H x y a b Q s ra rb q => by
  unfold addD at q
  split at q
  · exact .inl ⟨_, _, ra.int, rb.int, q.ok s _ (.int _)⟩
  · split at q
    · rename_i h
      exact .inr (.inl ⟨_, _, ra.str, rb.str, h, q.ok s _ (.str _)⟩)
    · exact q.elim
  · split at q
    · rename_i h
      obtain ⟨a, vs, rfl, s1, r1⟩ := ra.list s
      obtain ⟨b, us, rfl, s2, r2⟩ := rb.list s
      exact .inr (.inr (.inl ⟨_, _, _, _, rfl, rfl, s1, s2, by rw [r1.length, r2.length]; exact h, fun p hp => new_lst s (r1.append r2) q hp⟩))
    · exact q.elim
  · split at q
    · rename_i h
      obtain ⟨a, vs, rfl, s1, r1⟩ := ra.tuple s
      obtain ⟨b, us, rfl, s2, r2⟩ := rb.tuple s
      refine .inr (.inr (.inr ⟨_, _, _, _, rfl, rfl, s1, s2, by rw [r1.length, r2.length]; exact h, fun e => ?_, fun _ e => ?_, fun _ _ p hp => new_tup s (r1.append r2) q hp⟩))
      · subst e
        cases r1
        rename_i xs ys h
        cases ra with
        | inl ra =>
          cases rb with
          | inl rb => exact q.ok s _ rb
          | inr rb => obtain ⟨p, e, z⟩ := rb; exact z.elim
        | inr ra => obtain ⟨p, e, z⟩ := ra; exact z.elim
      · subst e
        cases r2
        rw [List.append_nil] at q
        cases ra with
        | inl ra => exact q.ok s _ ra
        | inr ra => obtain ⟨p, e, z⟩ := ra; exact z.elim
    · exact q.elim
  · exact q.elim
/-- list + list, the new list owned -/
def addL : PD → PD → R PD
  | .list xs, .list ys => if xs.length + ys.length ≤ sizeLine then .ok (.list (xs ++ ys)) else .bad
  | _, _ => .bad
theorem ro_add : RDo K (rAdd2 K) addL := fun W σ F H x y a b Q s ra rb q => by
  unfold addL at q
  split at q
  · split at q
    · rename_i h
      obtain ⟨a, vs, rfl, s1, r1⟩ := ra.list s
      obtain ⟨b, us, rfl, s2, r2⟩ := rb.list s
      exact .inr (.inr (.inl ⟨_, _, _, _, rfl, rfl, s1, s2, by rw [r1.length, r2.length]; exact h, fun p hp => own_lst s (r1.append r2) q hp⟩))
    · exact q.elim
  · exact q.elim

/-! ### arithmetic -/
def iiD (C : Int → Int → Bool) (g : Int → Int → Int) : PD → PD → R PD
  | .int i, .int j => if C i j = true then .ok (.int (g i j)) else .bad
  | _, _ => .bad
theorem rd_I {C : Int → Int → Prop} {B : Int → Int → Bool} {g : Int → Int → Int} (h : ∀ i j, B i j = true → C i j) : RD K (rI C fun i j => .int (g i j)) (iiD B g) := fun W σ F H x y a b Q s ra rb q => by
  unfold iiD at q
  split at q
  · split at q
    · rename_i hb
      exact ⟨_, _, ra.int, rb.int, h _ _ hb, q.ok s _ (.int _)⟩
    · exact q.elim
  · exact q.elim
def subD : PD → PD → R PD
  | .int i, .int j => .ok (.int (i - j))
  | _, _ => .bad
theorem rd_sub : RD K (rI0 fun i j => .int (i - j)) subD := fun W σ F H x y a b Q s ra rb q => by
  unfold subD at q
  split at q
  · exact ⟨_, _, ra.int, rb.int, q.ok s _ (.int _)⟩
  · exact q.elim
def modB (_ j : Int) : Bool := decide (j ≠ 0)
abbrev modD : PD → PD → R PD := iiD modB fun i j => i.fmod j
theorem rd_mod : RD K (rI (fun _ j => j ≠ 0) fun i j => .int (i.fmod j)) modD := rd_I fun i j h => of_decide_eq_true h
def divB (_ j : Int) : Bool := decide (j ≠ 0) && decide (j.natAbs < 1073741824)
abbrev divD : PD → PD → R PD := iiD divB fun i j => i.fdiv j
theorem rd_div : RD K (rI CDivN fun i j => .int (i.fdiv j)) divD := rd_I fun i j h => by
  unfold divB at h
  rw [Bool.and_eq_true] at h
  exact ⟨of_decide_eq_true h.1, of_decide_eq_true h.2⟩
/-- // by a great positive number too -/
def rDiv2 : R2 := fun x y H Q => rI CDivN (fun i j => .int (i.fdiv j)) x y H Q ∨ rI CDivW (fun i j => .int (i / j)) x y H Q
theorem op_div2 {X : Cx} : OpR X (binaryOp .FloorDiv) rDiv2 := op_fdivN.or op_fdivW
/-! ### * : ints; a text by an int; a list by an int -/
def mulB (i j : Int) : Bool := (decide (-(2 ^ 64) < i) && decide (i < 2 ^ 64)) || (decide (-(2 ^ 64) < j) && decide (j < 2 ^ 64))
theorem mulB_ok {i j : Int} (h : mulB i j = true) : CMul i j := by
  unfold mulB at h
  simp only [Bool.or_eq_true, Bool.and_eq_true, decide_eq_true_eq] at h
  exact h
def mulS (x : Str) (n : Int) : Str := if n < 1 then Str.empty else ⟨(List.replicate n.toNat x.cps).foldl (· ++ ·) #[]⟩
theorem fold_app : ∀ (l : List (Array Nat)) (a : Array Nat), (l.foldl (· ++ ·) a).size = a.size + (l.map (·.size)).sum
  | [], a => by simp
  | x :: l, a => by rw [List.foldl_cons, fold_app l]; simp; omega
theorem mulS_len (x : Str) (n : Int) : (mulS x n).length = x.length * n.toNat := by
  unfold mulS
  split
  · rename_i h
    have e : n.toNat = 0 := by omega
    rw [e]; rfl
  · show ((List.replicate n.toNat x.cps).foldl (· ++ ·) #[]).size = _
    rw [fold_app]
    simp [Str.length, Nat.mul_comm]
theorem tooLong_le {n : Nat} (h : n ≤ sizeLine) : Builtin.Str.tooLong n = false := by
  unfold Builtin.Str.tooLong
  exact decide_eq_false (by omega)
def rMulS : R2 := fun x y H Q => ∃ z k, x = .str z ∧ y = .int k ∧ -(2 ^ 62) ≤ k ∧ k < 2 ^ 62 ∧ z.length * k.toNat ≤ sizeLine ∧ Q (.str (mulS z k)) H
theorem op_mulS {X : Cx} : OpR X (binaryOp .Mult) rMulS := by
  intro pins s σ H x y v u Q I rx ry h
  obtain ⟨z, k, rfl, rfl, h1, h2, hz, q⟩ := h
  obtain ⟨t, rfl⟩ := rx
  obtain ⟨t', rfl⟩ := ry
  have hs := sizeLine_eq
  refine PySem.P.mul_str (by rw [decide_eq_false (show ¬ k < -(2 ^ 63 : Int) by omega), decide_eq_false (show ¬ k ≥ 2 ^ 63 by omega)]; rfl) (fun hn ho => ?_) (fun _ _ => tooLong_le hz) ?_
  · have hk : k.toNat = k := Int.toNat_of_nonneg (by omega)
    have h3 : ((z.length * k.toNat : Nat) : Int) ≤ 16777216 := by rw [hs] at hz; exact Int.ofNat_le.mpr hz
    intro hgt
    have h4 : (2 ^ 63 - 1 : Int) / k * k ≤ 2 ^ 63 - 1 := Int.ediv_mul_le _ (by omega)
    have h5 : (2 ^ 63 - 1 : Int) < ((2 ^ 63 - 1 : Int) / k + 1) * k := Int.lt_ediv_add_one_mul_self _ (by omega)
    have h6 : ((2 ^ 63 - 1 : Int) / k + 1) * k ≤ (z.length : Int) * k := Int.mul_le_mul_of_nonneg_right (by omega) (by omega)
    have h7 : (z.length : Int) * k = ((z.length * k.toNat : Nat) : Int) := by rw [Int.natCast_mul, hk]
    omega
  · by_cases c1 : k < 1
    · rw [if_pos c1]
      refine ⟨by decide, .str _, H, I.tok _, ⟨_, rfl⟩, ?_⟩
      unfold mulS at q
      rw [if_pos c1] at q
      exact q
    · rw [if_neg c1]
      have hl := mulS_len z k
      unfold mulS at q hl
      rw [if_neg c1] at q hl
      by_cases c2 : (k == 1 || z.length == 0) = true
      · rw [if_pos c2]
        refine ⟨.str z, H, I, ⟨t, rfl⟩, ?_⟩
        rw [Bool.or_eq_true] at c2
        have e : (⟨(List.replicate k.toNat z.cps).foldl (· ++ ·) #[]⟩ : Str) = z := by
          rcases c2 with c2 | c2
          · have : k = 1 := by simpa using c2
            subst this
            simp [List.replicate]
          · have c2 : z.cps.size = 0 := by simpa [Str.length] using c2
            have e0 : z.cps = #[] := Array.eq_empty_of_size_eq_zero c2
            have : ∀ n : Nat, (List.replicate n (#[] : Array Nat)).foldl (· ++ ·) #[] = #[] := by
              intro n
              induction n with
              | zero => rfl
              | succ n ih => rw [List.replicate_succ, List.foldl_cons]; simpa using ih
            rw [e0, this]
            cases z
            simp only at e0
            rw [e0]
        rw [e] at q
        exact q
      · rw [if_neg c2]
        refine ⟨?_, .str _, H, I.tok _, ⟨_, rfl⟩, q⟩
        rw [hl]
        exact hz
def rRepR : R2 := fun x y H Q => ∃ l k xs, x = .ref l ∧ y = .int k ∧ H l = some (.lst xs) ∧ -(2 ^ 63) ≤ k ∧ k < 2 ^ 63 ∧ xs.length * k.toNat ≤ sizeLine ∧ ∀ p, H p = none → Q (.ref p) (upd H p (.lst (List.replicate k.toNat xs).flatten))
def rMul2 : R2 := fun x y H Q => rI CMul (fun i j => .int (i * j)) x y H Q ∨ rMulS x y H Q
theorem op_mul2 {X : Cx} : OpR X (binaryOp .Mult) rMul2 := op_mul.or op_mulS
def mulD : PD → PD → R PD
  | .int i, .int j => if mulB i j = true then .ok (.int (i * j)) else .bad
  | .str z, .int k => if small62 k = true ∧ z.length * k.toNat ≤ sizeLine then .ok (.str (mulS z k)) else .bad
  | _, _ => .bad
theorem rd_mul : RD K rMul2 mulD := fun W σ F H x y a b Q s ra rb q => by
  unfold mulD at q
  split at q
  · split at q
    · rename_i h
      exact .inl ⟨_, _, ra.int, rb.int, mulB_ok h, q.ok s _ (.int _)⟩
    · exact q.elim
  · split at q
    · rename_i h
      obtain ⟨h1, h2⟩ := small62_ok h.1
      exact .inr ⟨_, _, ra.str, rb.int, h1, h2, h.2, q.ok s _ (.str _)⟩
    · exact q.elim
  · exact q.elim
def powB (i j : Int) : Bool := decide (0 ≤ j) && decide (j ≤ 1000000) && decide (i.natAbs < 2 ^ 64)
abbrev powD : PD → PD → R PD := iiD powB fun i j => i ^ j.toNat
theorem rd_pow : RD K (rI CPow fun i j => .int (i ^ j.toNat)) powD := rd_I fun i j h => by
  unfold powB at h
  simp only [Bool.and_eq_true, decide_eq_true_eq] at h
  exact ⟨h.1.1, h.1.2, h.2⟩
def negD : PD → R PD
  | .int i => .ok (.int (-i))
  | _ => .bad
theorem ru_neg : RU K (rU fun i => .int (-i)) negD := fun W σ F H x a Q s ra q => by
  unfold negD at q
  split at q
  · exact ⟨_, ra.int, q.ok s _ (.int _)⟩
  · exact q.elim
def cmpD (p : Int → Int → Bool) : PD → PD → R PD
  | .int i, .int j => .ok (.bool (p i j))
  | _, _ => .bad
theorem rd_cmp {p : Int → Int → Bool} : RD K (rI0 fun i j => .bl (p i j)) (cmpD p) := fun W σ F H x y a b Q s ra rb q => by
  unfold cmpD at q
  split at q
  · exact ⟨_, _, ra.int, rb.int, q.ok s _ (.bl _)⟩
  · exact q.elim
abbrev ltD : PD → PD → R PD := cmpD fun i j => decide (i < j)
abbrev leD : PD → PD → R PD := cmpD fun i j => decide (i ≤ j)
abbrev gtD : PD → PD → R PD := cmpD fun i j => decide (j < i)
abbrev geD : PD → PD → R PD := cmpD fun i j => decide (j ≤ i)

/-! ### ==, in, is -/
/-- == : scalars of one kind at once, all else as data -/
def eqB : PD → PD → R Bool
  | .int i, .int j => .ok (decide (i = j))
  | .str i, .str j => .ok (decide (i = j))
  | .bool i, .bool j => .ok (decide (i = j))
  | a, b => if SeqAt.shaped a = true ∧ SeqAt.shaped b = true then .ok (PyData.eqv a b) else .bad
def eqD : PD → PD → R PD := fun a b => (eqB a b).bind fun c => .ok (.bool c)
def neD : PD → PD → R PD := fun a b => (eqB a b).bind fun c => .ok (.bool !c)
theorem shaped_nodict {d : PD} (h : SeqAt.shaped d = true) : ∀ kvs, d ≠ .dict kvs := fun kvs e => by
  subst e
  have := SeqAt.canLay_of_shaped h
  simp [PyData.canLay0] at this
def rEq2 (K : PySem.W.Frag) : R2 := fun x y H Q => rEq x y H Q ∨ rEqD K x y H Q
def rNe2 (K : PySem.W.Frag) : R2 := fun x y H Q => rNe x y H Q ∨ rNeD K x y H Q
theorem op_eq2 {X : Cx} (hu : X.A.units + 64 < cLine) : OpR X (compareOp .Eq) (rEq2 X.K) := op_eq.or (op_eqD hu)
theorem op_ne2 {X : Cx} (hu : X.A.units + 64 < cLine) : OpR X (compareOp .NotEq) (rNe2 X.K) := op_ne.or (op_neD hu)
theorem dec_inj_int {i j : Int} : decide (V.int i = V.int j) = decide (i = j) := by simp
theorem dec_inj_str {i j : Str} : decide (V.str i = V.str j) = decide (i = j) := by simp
theorem dec_inj_bl {i j : Bool} : decide (V.bl i = V.bl j) = decide (i = j) := by simp
theorem rd_eq : RD K (rEq2 K) eqD := fun W σ F H x y a b Q s ra rb q => by
  unfold eqD at q
  unfold eqB at q
  split at q
  · refine .inl ⟨by rw [ra.int, rb.int]; rfl, ?_⟩
    rw [ra.int, rb.int, dec_inj_int]
    exact Fin.okk (x := PyData.bool _) K W σ s q _ (.bl _)
  · refine .inl ⟨by rw [ra.str, rb.str]; rfl, ?_⟩
    rw [ra.str, rb.str, dec_inj_str]
    exact Fin.okk (x := PyData.bool _) K W σ s q _ (.bl _)
  · refine .inl ⟨by rw [ra.bool, rb.bool]; rfl, ?_⟩
    rw [ra.bool, rb.bool, dec_inj_bl]
    exact Fin.okk (x := PyData.bool _) K W σ s q _ (.bl _)
  · split at q
    · rename_i h
      exact .inr ⟨_, _, (ra.dp s (shaped_nodict h.1)).l2, (rb.dp s (shaped_nodict h.2)).l2, h.1, h.2, Fin.okk (x := PyData.bool _) K W σ s q _ (.bl _)⟩
    · exact q.elim
theorem rd_ne : RD K (rNe2 K) neD := fun W σ F H x y a b Q s ra rb q => by
  unfold neD at q
  unfold eqB at q
  split at q
  · refine .inl ⟨by rw [ra.int, rb.int]; rfl, ?_⟩
    rw [ra.int, rb.int, dec_inj_int]
    exact Fin.okk (x := PyData.bool _) K W σ s q _ (.bl _)
  · refine .inl ⟨by rw [ra.str, rb.str]; rfl, ?_⟩
    rw [ra.str, rb.str, dec_inj_str]
    exact Fin.okk (x := PyData.bool _) K W σ s q _ (.bl _)
  · refine .inl ⟨by rw [ra.bool, rb.bool]; rfl, ?_⟩
    rw [ra.bool, rb.bool, dec_inj_bl]
    exact Fin.okk (x := PyData.bool _) K W σ s q _ (.bl _)
  · split at q
    · rename_i h
      exact .inr ⟨_, _, (ra.dp s (shaped_nodict h.1)).l2, (rb.dp s (shaped_nodict h.2)).l2, h.1, h.2, Fin.okk (x := PyData.bool _) K W σ s q _ (.bl _)⟩
    · exact q.elim
/-- is None -/
def isNB : PD → Bool
  | .none => true
  | _ => false
def isND : PD → PD → R PD := fun a b => match b with
  | .none => .ok (.bool (isNB a))
  | _ => .bad
def notND : PD → PD → R PD := fun a b => match b with
  | .none => .ok (.bool (!isNB a))
  | _ => .bad
theorem isN_ok {F H : Hp} {x : V} {a : PD} (ra : Rp K F H x a) : decide (x = .non) = isNB a := by
  rcases ra with h | ⟨p, rfl, h⟩
  · cases h <;> simp [isNB]
  · cases a with
    | list ds => simp [isNB]
    | dict kvs => simp [isNB]
    | _ => exact h.elim
theorem rd_isN : RD K (fun x y H Q => y = .non ∧ Q (.bl (decide (x = .non))) H) isND := fun W σ F H x y a b Q s ra rb q => by
  unfold isND at q
  split at q
  · refine ⟨rb.none, ?_⟩
    rw [isN_ok ra]
    exact q.ok s _ (.bl _)
  · exact q.elim
theorem rd_notN : RD K (fun x y H Q => y = .non ∧ Q (.bl (!decide (x = .non))) H) notND := fun W σ F H x y a b Q s ra rb q => by
  unfold notND at q
  split at q
  · refine ⟨rb.none, ?_⟩
    rw [isN_ok ra]
    exact q.ok s _ (.bl _)
  · exact q.elim
/-- in: a text in a text; flat data in a list or tuple of flat data; data in a list -/
def flatP : PD → Bool
  | .none => true
  | .bool _ => true
  | .int _ => true
  | .str _ => true
  | _ => false
def inS (i j : Str) : Bool := !(Builtin.Str.occurrences j i 0 j.length 1).isEmpty
def eqF : PD → PD → Bool
  | .none, .none => true
  | .bool a, .bool b => a == b
  | .bool a, .int b => (if a then 1 else 0) == b
  | .int a, .bool b => a == (if b then 1 else 0)
  | .int a, .int b => a == b
  | .str a, .str b => a == b
  | _, _ => false
def inB : PD → PD → R Bool
  | .str i, .str j => .ok (inS i j)
  | a, .list ds => if flatP a = true ∧ ds.all flatP = true then .ok (ds.any fun d => eqF d a)
      else if SeqAt.shaped a = true ∧ SeqAt.shaped (.list ds) = true then .ok (ds.any fun z => PyData.eqv z a) else .bad
  | a, .tuple ds => if flatP a = true ∧ ds.all flatP = true then .ok (ds.any fun d => eqF d a) else .bad
  | _, _ => .bad
def inD : PD → PD → R PD := fun a b => (inB a b).bind fun c => .ok (.bool c)
def ninD : PD → PD → R PD := fun a b => (inB a b).bind fun c => .ok (.bool !c)
theorem flat_ok {F H : Hp} {v : V} {d : PD} (r : Rp K F H v d) (h : flatP d = true) : flatV v = true := by
  rcases r with r | ⟨p, rfl, r⟩
  · cases r <;> first | rfl | cases h
  · cases d <;> first | exact False.elim r | cases h
theorem flats_ok {F : Hp} : ∀ {vs : List V} {ds : List PD}, DpAll K F vs ds → ds.all flatP = true → vs.all flatV = true
  | _, _, .nil, _ => rfl
  | _, _, .cons r t, h => by
    rw [List.all_cons, Bool.and_eq_true] at h ⊢
    exact ⟨flat_ok (F := F) (H := F) (.inl r) h.1, flats_ok t h.2⟩
theorem eqV_ok {F F' H : Hp} {v u : V} {d e : PD} (r : Dp K F v d) (r' : Rp K F' H u e) (h : flatP d = true) (h' : flatP e = true) : eqV v u = eqF d e := by
  rcases r' with r' | ⟨p, rfl, r'⟩
  · cases r <;> (try cases h) <;> cases r' <;> (try cases h') <;> rfl
  · cases e <;> first | exact False.elim r' | cases h'
theorem any_ok {F F' H : Hp} {u : V} {e : PD} (r' : Rp K F' H u e) (h' : flatP e = true) : ∀ {vs : List V} {ds : List PD}, DpAll K F vs ds → ds.all flatP = true → inV u vs = ds.any fun d => eqF d e
  | _, _, .nil, _ => rfl
  | _, _, .cons r t, h => by
    rw [List.all_cons, Bool.and_eq_true] at h
    have ih := any_ok r' h' t h.2
    unfold inV at ih ⊢
    rw [List.any_cons, List.any_cons, ih, eqV_ok r r' h.1 h']
def rIn2 (K : PySem.W.Frag) : R2 := fun x y H Q => (∃ i j, x = .str i ∧ y = .str j ∧ Q (.bl (!(Builtin.Str.occurrences j i 0 j.length 1).isEmpty)) H) ∨ rIn K false x y H Q ∨ rInD K x y H Q
def rNin2 (K : PySem.W.Frag) : R2 := fun x y H Q => (∃ i j, x = .str i ∧ y = .str j ∧ Q (.bl (!(!(Builtin.Str.occurrences j i 0 j.length 1).isEmpty))) H) ∨ rIn K true x y H Q ∨ rNotInD K x y H Q
theorem op_in2 {X : Cx} (hu : X.A.units + 65 < cLine) : OpR X (compareOp .In) (rIn2 X.K) := op_in_str.or (op_in_seq.or (op_inD hu))
theorem op_nin2 {X : Cx} (hu : X.A.units + 65 < cLine) : OpR X (compareOp .NotIn) (rNin2 X.K) := op_notIn_str.or (op_notIn_seq.or (op_notInD hu))
theorem rd_in : RD K (rIn2 K) inD := fun W σ F H x y a b Q s ra rb q => by
  unfold inD at q
  unfold inB at q
  split at q
  · exact .inl ⟨_, _, ra.str, rb.str, Fin.okk (x := PyData.bool _) K W σ s q _ (.bl _)⟩
  · split at q
    · rename_i h
      obtain ⟨p, vs, rfl, s1, r1⟩ := rb.list s
      refine .inr (.inl ⟨p, vs, rfl, .inl (.inl s1), flat_ok ra h.1, flats_ok r1 h.2, ?_⟩)
      rw [if_neg Bool.false_ne_true, any_ok ra h.1 r1 h.2]
      exact Fin.okk (x := PyData.bool _) K W σ s q _ (.bl _)
    · split at q
      · rename_i h
        exact .inr (.inr ⟨_, _, (ra.dp s (shaped_nodict h.1)).l2, (rb.dp s (shaped_nodict h.2)).l2, h.1, h.2, Fin.okk (x := PyData.bool _) K W σ s q _ (.bl _)⟩)
      · exact q.elim
  · split at q
    · rename_i h
      obtain ⟨p, vs, rfl, s1, r1⟩ := rb.tuple s
      refine .inr (.inl ⟨p, vs, rfl, .inr s1, flat_ok ra h.1, flats_ok r1 h.2, ?_⟩)
      rw [if_neg Bool.false_ne_true, any_ok ra h.1 r1 h.2]
      exact Fin.okk (x := PyData.bool _) K W σ s q _ (.bl _)
    · exact q.elim
  · exact q.elim
theorem rd_nin : RD K (rNin2 K) ninD := fun W σ F H x y a b Q s ra rb q => by
  unfold ninD at q
  unfold inB at q
  split at q
  · exact .inl ⟨_, _, ra.str, rb.str, Fin.okk (x := PyData.bool _) K W σ s q _ (.bl _)⟩
  · split at q
    · rename_i h
      obtain ⟨p, vs, rfl, s1, r1⟩ := rb.list s
      refine .inr (.inl ⟨p, vs, rfl, .inl (.inl s1), flat_ok ra h.1, flats_ok r1 h.2, ?_⟩)
      rw [if_pos rfl, any_ok ra h.1 r1 h.2]
      exact Fin.okk (x := PyData.bool _) K W σ s q _ (.bl _)
    · split at q
      · rename_i h
        exact .inr (.inr ⟨_, _, (ra.dp s (shaped_nodict h.1)).l2, (rb.dp s (shaped_nodict h.2)).l2, h.1, h.2, Fin.okk (x := PyData.bool _) K W σ s q _ (.bl _)⟩)
      · exact q.elim
  · split at q
    · rename_i h
      obtain ⟨p, vs, rfl, s1, r1⟩ := rb.tuple s
      refine .inr (.inl ⟨p, vs, rfl, .inr s1, flat_ok ra h.1, flats_ok r1 h.2, ?_⟩)
      rw [if_pos rfl, any_ok ra h.1 r1 h.2]
      exact Fin.okk (x := PyData.bool _) K W σ s q _ (.bl _)
    · exact q.elim
  · exact q.elim

/-! ### items, slices -/
theorem atI_ok {F : Hp} {vs : List V} {ds : List PD} {i : Int} {d : PD} (r : DpAll K F vs ds) (h : atI ds i = some d) : ∃ v, atI vs i = some v ∧ Dp K F v d := by
  unfold atI at h ⊢
  rw [r.length]
  cases e : ixN ds.length i with
  | none => rw [e] at h; cases h
  | some j =>
    rw [e] at h
    exact r.get' h
def ixD : PD → PD → R PD
  | .list ds, .int i => (match atI ds i with
    | some d => .ok d
    | none => .bad)
  | .tuple ds, .int i => (match atI ds i with
    | some d => .ok d
    | none => .bad)
  | .str z, .int i => if z.length ≤ sizeLine then (match atI z.cps.toList i with
    | some c => .ok (.str ⟨#[c]⟩)
    | none => .bad) else .bad
  | _, _ => .bad
theorem rd_ix : RD K (rIx K) ixD := fun W σ F H x y a b Q s ra rb q => by
  unfold ixD at q
  split at q
  · split at q
    · rename_i d e
      obtain ⟨p, vs, rfl, s1, r1⟩ := ra.list s
      obtain ⟨v, h1, h2⟩ := atI_ok r1 e
      exact .inl ⟨p, vs, _, v, rfl, rb.int, .inl s1, h1, q.ok s _ h2⟩
    · exact q.elim
  · split at q
    · rename_i d e
      obtain ⟨p, vs, rfl, s1, r1⟩ := ra.tuple s
      obtain ⟨v, h1, h2⟩ := atI_ok r1 e
      exact .inr (.inl ⟨p, vs, _, v, rfl, rb.int, s1, h1, q.ok s _ h2⟩)
    · exact q.elim
  · split at q
    · rename_i hz
      split at q
      · rename_i c e
        exact .inr (.inr ⟨_, _, c, ra.str, rb.int, hz, e, q.ok s _ (.str _)⟩)
      · exact q.elim
    · exact q.elim
  · exact q.elim
def TDp (K : PySem.W.Frag) (W : WX) (t : TO) (g : Rho → R (Option Int)) : Prop := ∀ (F0 H0 F H : Hp) (σ : L2.St) (ρ : Rho) (Q : Option Int → Hp → Prop), StR K F0 H0 F H σ ρ → Fin K W σ F H (g ρ) (fun o _ H' => Q o H') → t σ H Q
def pNo : Rho → R (Option Int) := fun _ => .ok none
def asI : PD → R Int
  | .int i => .ok i
  | _ => .bad
def pSo (g : Rho → R PD) : Rho → R (Option Int) := fun ρ => (g ρ).bind fun a => (asI a).bind fun i => .ok (some i)
variable {W : WX}
theorem tp_no : TDp K W tNoPart pNo := fun F0 H0 F H σ ρ Q S q => q.ok S.same
theorem tp_some {t : TE} {g : Rho → R PD} (h : TDr K W t g) : TDp K W (tPart t) (pSo g) := fun F0 H0 F H σ ρ Q S q =>
  h F0 H0 F H σ ρ _ S (q.then fun a F1 H1 e1 k1 v rv => by
    cases a with
    | int i => exact ⟨i, rv.int, Fin.okk (x := some i) K W σ e1.g k1⟩
    | _ => exact k1.elim)
def cutD (ds : List PD) (lo hi : Option Int) : List PD := (ds.drop (HT.sIx ds.length 0 lo)).take (HT.sIx ds.length ds.length hi - HT.sIx ds.length 0 lo)
theorem cut_ok {F : Hp} {vs : List V} {ds : List PD} {lo hi : Option Int} (r : DpAll K F vs ds) : DpAll K F (cutV vs lo hi) (cutD ds lo hi) := by
  unfold cutV cutD
  rw [r.length]
  exact (r.drop _).take _
def rSl2 (K : PySem.W.Frag) : V → Option Int → Option Int → Hp → VK → Prop := fun x lo hi H Q => rSlL K x lo hi H Q ∨ rSlA K x lo hi H Q ∨ rSlS x lo hi H Q
theorem sl_2 {X : Cx} : SlR X (rSl2 X.K) := sl_list.or (sl_tupA.or sl_str)
def slD (a : PD) (lo hi : Option Int) : R PD := match a with
  | .list ds => .ok (.list (cutD ds lo hi))
  | .tuple ds => .ok (.tuple (cutD ds lo hi))
  | .str z => if z.length ≤ sizeLine then .ok (.str (cutS z lo hi)) else .bad
  | _ => .bad
def eSl (g : Rho → R PD) (gl gh : Rho → R (Option Int)) : Rho → R PD := fun ρ => (g ρ).bind fun a => (gl ρ).bind fun l => (gh ρ).bind fun h => slD a l h
theorem cut_whole (vs : List V) {lo hi : Option Int} (h : HT.sIx vs.length 0 lo = 0 ∧ HT.sIx vs.length vs.length hi = vs.length) : cutV vs lo hi = vs := by
  unfold cutV
  rw [h.1, h.2]
  simp
theorem cut_same {F : Hp} {vs : List V} {ds : List PD} {lo hi : Option Int} (r : DpAll K F vs ds) (h : HT.sIx vs.length 0 lo = 0 ∧ HT.sIx vs.length vs.length hi = vs.length) : cutD ds lo hi = ds := by
  unfold cutD
  rw [r.length] at h
  rw [h.1, h.2]
  simp
theorem td_sl {t : TE} {g : Rho → R PD} {tl th : TO} {gl gh : Rho → R (Option Int)} (h : TDr K W t g) (hl : TDp K W tl gl) (hh : TDp K W th gh) : TDe K W (tSl (rSl2 K) t tl th) (eSl g gl gh) := fun F0 H0 F H σ ρ Q S q =>
  h F0 H0 F H σ ρ _ S (q.then fun a F1 H1 e1 k1 v rv => hl F0 H0 F1 H1 σ ρ _ (S.go e1) (k1.then fun lo F2 H2 e2 k2 => hh F0 H0 F2 H2 σ ρ _ ((S.go e1).go e2) (k2.then fun hi F3 H3 e3 k3 => by
    have rv := (rv.ext e2.f e2.h).ext e3.f e3.h
    unfold slD at k3
    split at k3
    · obtain ⟨p, vs, rfl, s1, r1⟩ := rv.list e3.g
      exact .inl ⟨p, vs, rfl, .inl s1, fun p hp => new_lst e3.g (cut_ok r1) k3 hp⟩
    · obtain ⟨p, vs, rfl, s1, r1⟩ := rv.tuple e3.g
      refine .inr (.inl ⟨p, vs, rfl, s1, fun hw => ?_, fun hw p hp => new_tup e3.g (cut_ok r1) k3 hp⟩)
      have e := cut_ok (lo := lo) (hi := hi) r1
      rw [cut_whole vs hw] at e
      refine Fin.okk (x := PyData.tuple _) K W σ e3.g k3 _ ?_
      rcases rv with rv | ⟨p', e', z⟩
      · rw [cut_same r1 hw]
        exact rv
      · exact z.elim
    · split at k3
      · rename_i hz
        exact .inr (.inr ⟨_, rv.str, hz, Fin.okk (x := PyData.str _) K W σ e3.g k3 _ (.str _)⟩)
      · exact k3.elim
    · exact k3.elim)))
def slL (a : PD) (lo hi : Option Int) : R PD := match a with
  | .list ds => .ok (.list (cutD ds lo hi))
  | _ => .bad
def oSl (g : Rho → R PD) (gl gh : Rho → R (Option Int)) : Rho → R PD := fun ρ => (g ρ).bind fun a => (gl ρ).bind fun l => (gh ρ).bind fun h => slL a l h
/-- readings whose result is new: the start's heap is told -/
theorem OwQ.back {F H F1 H1 : Hp} {σ : L2.St} {r : R PD} {Q : VK} (e : Ext F H F1 H1) (h : Fin K W σ F1 H1 r (OwQ K H Q)) : Fin K W σ F1 H1 r (OwQ K H1 Q) :=
  h.imp fun x F' H' e2 k p hp hf ho => k p (e.h.free hp) hf ho
theorem to_sl {t : TE} {g : Rho → R PD} {tl th : TO} {gl gh : Rho → R (Option Int)} (h : TDr K W t g) (hl : TDp K W tl gl) (hh : TDp K W th gh) : TDo K W (tSl (rSl2 K) t tl th) (oSl g gl gh) := fun F0 H0 F H σ ρ Q S q =>
  h F0 H0 F H σ ρ _ S (q.then fun a F1 H1 e1 k1 v rv => hl F0 H0 F1 H1 σ ρ _ (S.go e1) (k1.then fun lo F2 H2 e2 k2 => hh F0 H0 F2 H2 σ ρ _ ((S.go e1).go e2) (k2.then fun hi F3 H3 e3 k3 => by
    have rv := (rv.ext e2.f e2.h).ext e3.f e3.h
    have k3 := OwQ.back ((e1.trans e2).trans e3) k3
    unfold slL at k3
    split at k3
    · obtain ⟨p, vs, rfl, s1, r1⟩ := rv.list e3.g
      exact .inl ⟨p, vs, rfl, .inl s1, fun p hp => own_lst e3.g (cut_ok r1) k3 hp⟩
    · exact k3.elim)))

/-! ### built-in functions by name -/
def RC (K : PySem.W.Frag) (r : List V → Hp → VK → Prop) (f : List PD → R PD) : Prop := ∀ (W : WX) (σ : L2.St) (F H : Hp) (vs : List V) (ds : List PD) (Q : VK), Same F H → RpAll K F H vs ds → Fin K W σ F H (f ds) (DpQ K Q) → r vs H Q
def RCo (K : PySem.W.Frag) (r : List V → Hp → VK → Prop) (f : List PD → R PD) : Prop := ∀ (W : WX) (σ : L2.St) (F H : Hp) (vs : List V) (ds : List PD) (Q : VK), Same F H → RpAll K F H vs ds → Fin K W σ F H (f ds) (OwQ K H Q) → r vs H Q
variable {ta : TA} {ga : Rho → R (List PD)} {r : List V → Hp → VK → Prop} {f : List PD → R PD}
def eCB (f : List PD → R PD) (ga : Rho → R (List PD)) : Rho → R PD := fun ρ => (ga ρ).bind f
theorem td_cb (hr : RC K r f) (h : TDq K W ta ga) : TDe K W (tCB r ta) (eCB f ga) := fun F0 H0 F H σ ρ Q S q =>
  h F0 H0 F H σ ρ _ S (q.then fun ds F1 H1 e1 k1 vs rs => hr W σ F1 H1 vs ds Q e1.g rs k1)
theorem to_cb (hr : RCo K r f) (h : TDq K W ta ga) : TDo K W (tCB r ta) (eCB f ga) := fun F0 H0 F H σ ρ Q S q =>
  h F0 H0 F H σ ρ _ S (q.then fun ds F1 H1 e1 k1 vs rs => hr W σ F1 H1 vs ds Q e1.g rs (OwQ.back e1 k1))
theorem RpAll.one {F H : Hp} {vs : List V} {d : PD} (r : RpAll K F H vs [d]) : ∃ v, vs = [v] ∧ Rp K F H v d := by
  cases r with
  | cons a b => cases b; exact ⟨_, rfl, a⟩
theorem RpAll.two {F H : Hp} {vs : List V} {d e : PD} (r : RpAll K F H vs [d, e]) : ∃ v u, vs = [v, u] ∧ Rp K F H v d ∧ Rp K F H u e := by
  cases r with
  | cons a b =>
    obtain ⟨u, rfl, c⟩ := b.one
    exact ⟨_, _, rfl, a, c⟩
def lenD : List PD → R PD
  | [.list ds] => .ok (.int ds.length)
  | [.tuple ds] => .ok (.int ds.length)
  | [.str z] => if z.length ≤ sizeLine then .ok (.int z.length) else .bad
  | _ => .bad
theorem rc_len : RC K (fun xs H Q => ∃ x n, xs = [x] ∧ LenV K x H n ∧ Q (.int n) H) lenD := fun W σ F H vs ds Q s rs q => by
  unfold lenD at q
  split at q
  · obtain ⟨v, rfl, r⟩ := rs.one
    obtain ⟨p, us, rfl, s1, r1⟩ := r.list s
    exact ⟨_, _, rfl, .inl ⟨us, .inl s1, r1.length.symm⟩, q.ok s _ (.int _)⟩
  · obtain ⟨v, rfl, r⟩ := rs.one
    obtain ⟨p, us, rfl, s1, r1⟩ := r.tuple s
    exact ⟨_, _, rfl, .inr ⟨us, s1, r1.length.symm⟩, q.ok s _ (.int _)⟩
  · split at q
    · rename_i hz
      obtain ⟨v, rfl, r⟩ := rs.one
      exact ⟨_, _, rfl, by rw [r.str]; exact ⟨hz, rfl⟩, q.ok s _ (.int _)⟩
    · exact q.elim
  · exact q.elim
def rList (K : PySem.W.Frag) : List V → Hp → VK → Prop := fun xs H Q => ∃ p ys, xs = [.ref p] ∧ (SqL K H p ys ∨ SqT K H p ys) ∧ ∀ l, H l = none → Q (.ref l) (upd H l (.lst ys))
def listD : List PD → R PD
  | [.list ds] => .ok (.list ds)
  | [.tuple ds] => .ok (.list ds)
  | _ => .bad
theorem rco_list : RCo K (rList K) listD := fun W σ F H vs ds Q s rs q => by
  unfold listD at q
  split at q
  · obtain ⟨v, rfl, r⟩ := rs.one
    obtain ⟨p, us, rfl, s1, r1⟩ := r.list s
    exact ⟨_, _, rfl, .inl (.inl s1), fun l hl => own_lst s r1 q hl⟩
  · obtain ⟨v, rfl, r⟩ := rs.one
    obtain ⟨p, us, rfl, s1, r1⟩ := r.tuple s
    exact ⟨_, _, rfl, .inr s1, fun l hl => own_lst s r1 q hl⟩
  · exact q.elim
def rTuple (K : PySem.W.Frag) : List V → Hp → VK → Prop := fun xs H Q => ∃ p ys, xs = [.ref p] ∧ ((SqL K H p ys ∧ ∀ l, H l = none → Q (.ref l) (upd H l (.tup ys))) ∨ (SqT K H p ys ∧ Q (.ref p) H))
def tupleD : List PD → R PD
  | [.list ds] => .ok (.tuple ds)
  | [.tuple ds] => .ok (.tuple ds)
  | _ => .bad
theorem rc_tuple : RC K (rTuple K) tupleD := fun W σ F H vs ds Q s rs q => by
  unfold tupleD at q
  split at q
  · obtain ⟨v, rfl, r⟩ := rs.one
    obtain ⟨p, us, rfl, s1, r1⟩ := r.list s
    exact ⟨_, _, rfl, .inl ⟨.inl s1, fun l hl => new_tup s r1 q hl⟩⟩
  · obtain ⟨v, rfl, r⟩ := rs.one
    obtain ⟨p, us, rfl, s1, r1⟩ := r.tuple s
    refine ⟨_, _, rfl, .inr ⟨s1, ?_⟩⟩
    rcases r with r | ⟨p', e, z⟩
    · exact q.ok s _ r
    · exact z.elim
  · exact q.elim
/-- all of one kind -/
def asInts : List PD → Option (List Int)
  | [] => some []
  | .int i :: ds => (asInts ds).map (i :: ·)
  | _ => none
theorem asInts_ok : ∀ {ds : List PD} {ns : List Int}, asInts ds = some ns → ds = ns.map PyData.int
  | [], _, h => by cases h; rfl
  | d :: ds, ns, h => by
    cases d with
    | int i =>
      have h : (asInts ds).map (i :: ·) = some ns := h
      cases e : asInts ds with
      | none => rw [e] at h; cases h
      | some l => rw [e] at h; cases h; rw [asInts_ok e]; rfl
    | _ => cases h
theorem asInts_map : ∀ ns : List Int, asInts (ns.map PyData.int) = some ns
  | [] => rfl
  | n :: ns => by
    show (asInts (ns.map PyData.int)).map (n :: ·) = _
    rw [asInts_map ns]; rfl
def asStrs : List PD → Option (List Str)
  | [] => some []
  | .str i :: ds => (asStrs ds).map (i :: ·)
  | _ => none
theorem asStrs_ok : ∀ {ds : List PD} {ns : List Str}, asStrs ds = some ns → ds = ns.map PyData.str
  | [], _, h => by cases h; rfl
  | d :: ds, ns, h => by
    cases d with
    | str i =>
      have h : (asStrs ds).map (i :: ·) = some ns := h
      cases e : asStrs ds with
      | none => rw [e] at h; cases h
      | some l => rw [e] at h; cases h; rw [asStrs_ok e]; rfl
    | _ => cases h
theorem asStrs_map : ∀ ns : List Str, asStrs (ns.map PyData.str) = some ns
  | [] => rfl
  | n :: ns => by
    show (asStrs (ns.map PyData.str)).map (n :: ·) = _
    rw [asStrs_map ns]; rfl
def asBools : List PD → Option (List Bool)
  | [] => some []
  | .bool i :: ds => (asBools ds).map (i :: ·)
  | _ => none
theorem asBools_ok : ∀ {ds : List PD} {ns : List Bool}, asBools ds = some ns → ds = ns.map PyData.bool
  | [], _, h => by cases h; rfl
  | d :: ds, ns, h => by
    cases d with
    | bool i =>
      have h : (asBools ds).map (i :: ·) = some ns := h
      cases e : asBools ds with
      | none => rw [e] at h; cases h
      | some l => rw [e] at h; cases h; rw [asBools_ok e]; rfl
    | _ => cases h
theorem asBools_map : ∀ ns : List Bool, asBools (ns.map PyData.bool) = some ns
  | [] => rfl
  | n :: ns => by
    show (asBools (ns.map PyData.bool)).map (n :: ·) = _
    rw [asBools_map ns]; rfl
def sumD : List PD → R PD
  | [.list ds] => (match asInts ds with
    | some ns => .ok (.int ns.sum)
    | none => .bad)
  | _ => .bad
theorem rc_sum : RC K (rSum K) sumD := fun W σ F H vs ds Q s rs q => by
  unfold sumD at q
  split at q
  · split at q
    · rename_i ns e
      obtain ⟨v, rfl, r⟩ := rs.one
      obtain ⟨p, us, rfl, s1, r1⟩ := r.list s
      rw [asInts_ok e] at r1
      have e2 := r1.of_ints
      subst e2
      exact ⟨p, ns, rfl, .inl s1, q.ok s _ (.int _)⟩
    · exact q.elim
  · exact q.elim
def anyD : List PD → R PD
  | [.list ds] => (match asBools ds with
    | some bs => .ok (.bool (bs.any id))
    | none => .bad)
  | _ => .bad
def allD : List PD → R PD
  | [.list ds] => (match asBools ds with
    | some bs => .ok (.bool (bs.all id))
    | none => .bad)
  | _ => .bad
theorem rc_any : RC K (rAny K) anyD := fun W σ F H vs ds Q s rs q => by
  unfold anyD at q
  split at q
  · split at q
    · rename_i ns e
      obtain ⟨v, rfl, r⟩ := rs.one
      obtain ⟨p, us, rfl, s1, r1⟩ := r.list s
      rw [asBools_ok e] at r1
      have e2 := r1.of_bls
      subst e2
      exact ⟨p, ns, rfl, .inl s1, q.ok s _ (.bl _)⟩
    · exact q.elim
  · exact q.elim
theorem rc_all : RC K (rAll K) allD := fun W σ F H vs ds Q s rs q => by
  unfold allD at q
  split at q
  · split at q
    · rename_i ns e
      obtain ⟨v, rfl, r⟩ := rs.one
      obtain ⟨p, us, rfl, s1, r1⟩ := r.list s
      rw [asBools_ok e] at r1
      have e2 := r1.of_bls
      subst e2
      exact ⟨p, ns, rfl, .inl s1, q.ok s _ (.bl _)⟩
    · exact q.elim
  · exact q.elim
def rMax2 : List V → Hp → VK → Prop := fun xs H Q => ∃ i j, xs = [.int i, .int j] ∧ Q (.int (if j > i then j else i)) H
def rMin2 : List V → Hp → VK → Prop := fun xs H Q => ∃ i j, xs = [.int i, .int j] ∧ Q (.int (if j < i then j else i)) H
def max2D : List PD → R PD
  | [.int i, .int j] => .ok (.int (if j > i then j else i))
  | _ => .bad
def min2D : List PD → R PD
  | [.int i, .int j] => .ok (.int (if j < i then j else i))
  | _ => .bad
theorem rc_max2 : RC K rMax2 max2D := fun W σ F H vs ds Q s rs q => by
  unfold max2D at q
  split at q
  · obtain ⟨v, u, rfl, r1, r2⟩ := rs.two
    exact ⟨_, _, by rw [r1.int, r2.int], q.ok s _ (.int _)⟩
  · exact q.elim
theorem rc_min2 : RC K rMin2 min2D := fun W σ F H vs ds Q s rs q => by
  unfold min2D at q
  split at q
  · obtain ⟨v, u, rfl, r1, r2⟩ := rs.two
    exact ⟨_, _, by rw [r1.int, r2.int], q.ok s _ (.int _)⟩
  · exact q.elim
/-- str(n) -/
def strD : List PD → R PD
  | [.int i] => if i.natAbs.log2 < 1920 then .ok (.str (toString i)) else .bad
  | _ => .bad
theorem rc_str : RC K (fun xs H Q => ∃ i : Int, xs = [.int i] ∧ i.natAbs.log2 < 1920 ∧ Q (.str (toString i)) H) strD := fun W σ F H vs ds Q s rs q => by
  unfold strD at q
  split at q
  · split at q
    · rename_i h
      obtain ⟨v, rfl, r1⟩ := rs.one
      exact ⟨_, by rw [r1.int], h, q.ok s _ (.str _)⟩
    · exact q.elim
  · exact q.elim
/-- int(n), int(flag), int(text) -/
def rInt : List V → Hp → VK → Prop := fun xs H Q => ((∃ i, xs = [.int i] ∧ Q (.int i) H) ∨ ∃ k, xs = [.bl k] ∧ Q (.int (if k then 1 else 0)) H) ∨ ∃ a n, xs = [.str a] ∧ PySem.intText? a = some n ∧ a.length ≤ 640 ∧ Q (.int n) H
theorem call_int3 {X : Cx} : CallR X (.type "int") rInt := call_int1.or call_int_str
def intD : List PD → R PD
  | [.int i] => .ok (.int i)
  | [.bool k] => .ok (.int (if k = true then 1 else 0))
  | [.str a] => (match PySem.intText? a with
    | some n => if a.length ≤ 640 then .ok (.int n) else .bad
    | none => .bad)
  | _ => .bad
theorem rc_int : RC K rInt intD := fun W σ F H vs ds Q s rs q => by
  unfold intD at q
  split at q
  · obtain ⟨v, rfl, r1⟩ := rs.one
    exact .inl (.inl ⟨_, by rw [r1.int], q.ok s _ (.int _)⟩)
  · obtain ⟨v, rfl, r1⟩ := rs.one
    exact .inl (.inr ⟨_, by rw [r1.bool], q.ok s _ (.int _)⟩)
  · split at q
    · rename_i n e
      split at q
      · rename_i h
        obtain ⟨v, rfl, r1⟩ := rs.one
        exact .inr ⟨_, _, by rw [r1.str], e, h, q.ok s _ (.int _)⟩
      · exact q.elim
    · exact q.elim
  · exact q.elim
/-- isinstance(x, T), T a built-in type written -/
def tyName : PD → Option String
  | .none => some "NoneType"
  | .bool _ => some "bool"
  | .int _ => some "int"
  | .str _ => some "str"
  | .list _ => some "list"
  | .tuple _ => some "tuple"
  | .dict _ => none
def isiB (T : String) (a : PD) : Option Bool := (tyName a).bind fun n => kitB n T
def isiD (T : String) : PD → R PD := fun a => match isiB T a with
  | some b => .ok (.bool b)
  | none => .bad
theorem tyX_of {F H : Hp} {x : V} {a : PD} {n : String} (s : Same F H) (ra : Rp K F H x a) (h : tyName a = some n) : TyX K H x (.type n) := by
  cases a with
  | none => cases h; rw [ra.none]; exact .base .non
  | bool b => cases h; rw [ra.bool]; exact .base (.bl b)
  | int b => cases h; rw [ra.int]; exact .base (.int b)
  | str b => cases h; rw [ra.str]; exact .base (.str b)
  | list ds =>
    cases h
    obtain ⟨p, vs, rfl, s1, r1⟩ := ra.list s
    rcases s1 with z | ⟨o, z⟩
    · exact .base (.lst z)
    · exact .base (.frz z)
  | tuple ds =>
    cases h
    obtain ⟨p, vs, rfl, s1, r1⟩ := ra.tuple s
    rcases s1 with (z | ⟨o, z⟩) | ⟨o, its, n, z1, z2, _⟩
    · exact .base (.tup z)
    · exact .fTuple z
    · exact .kTuple z1 z2
  | dict kvs => cases h
def eIsi (T : String) (g : Rho → R PD) : Rho → R PD := fun ρ => (g ρ).bind (isiD T)
theorem td_isi {t : TE} {g : Rho → R PD} {T : String} (h : TDr K W t g) : TDe K W (tCB (rIsi K) (tCons t (tCons (tC (.ty T)) tNil))) (eIsi T g) := fun F0 H0 F H σ ρ Q S q =>
  h F0 H0 F H σ ρ _ S (q.then fun a F1 H1 e1 k1 v rv => by
    unfold isiD at k1
    split at k1
    · rename_i b e
      unfold isiB at e
      cases en : tyName a with
      | none => rw [en] at e; cases e
      | some n =>
        rw [en] at e
        exact ⟨v, .ty T, .type n, .type T, b, rfl, .ty T, tyX_of e1.g rv en, kit_ty e, k1.ok e1.g _ (.bl b)⟩
    · exact k1.elim)

/-! ### methods of texts -/
def RM (K : PySem.W.Frag) (r : V → List V → Hp → VK → Prop) (f : PD → List PD → R PD) : Prop := ∀ (W : WX) (σ : L2.St) (F H : Hp) (x : V) (a : PD) (vs : List V) (ds : List PD) (Q : VK), Same F H → Rp K F H x a → RpAll K F H vs ds → Fin K W σ F H (f a ds) (DpQ K Q) → r x vs H Q
def RMo (K : PySem.W.Frag) (r : V → List V → Hp → VK → Prop) (f : PD → List PD → R PD) : Prop := ∀ (W : WX) (σ : L2.St) (F H : Hp) (x : V) (a : PD) (vs : List V) (ds : List PD) (Q : VK), Same F H → Rp K F H x a → RpAll K F H vs ds → Fin K W σ F H (f a ds) (OwQ K H Q) → r x vs H Q
def strOf (a : PD) (k : R PD) : R PD := match a with
  | .str _ => k
  | _ => .bad
def eM0 (f : PD → List PD → R PD) (g : Rho → R PD) : Rho → R PD := fun ρ => (g ρ).bind fun a => strOf a (f a [])
def eM1 (f : PD → List PD → R PD) (g ge : Rho → R PD) : Rho → R PD := fun ρ => (g ρ).bind fun a => strOf a ((ge ρ).bind fun b => f a [b])
theorem strOf_k {F H : Hp} {σ : L2.St} {a : PD} {x : V} {k : R PD} {P : PD → Hp → Hp → Prop} (ra : Rp K F H x a) (h : Fin K W σ F H (strOf a k) P) : (∃ z, x = .str z) ∧ Fin K W σ F H k P := by
  unfold strOf at h
  split at h
  · exact ⟨⟨_, ra.str⟩, h⟩
  · exact h.elim
variable {t te : TE} {g ge : Rho → R PD} {rm : V → List V → Hp → VK → Prop} {fm : PD → List PD → R PD}
theorem td_m0 (hr : RM K rm fm) (h : TDr K W t g) : TDe K W (tM0 rm t) (eM0 fm g) := fun F0 H0 F H σ ρ Q S q =>
  h F0 H0 F H σ ρ _ S (q.then fun a F1 H1 e1 k1 v rv => by
    obtain ⟨z, k2⟩ := strOf_k rv k1
    exact ⟨z, hr W σ F1 H1 v a [] [] Q e1.g rv .nil k2⟩)
theorem to_m0 (hr : RMo K rm fm) (h : TDr K W t g) : TDo K W (tM0 rm t) (eM0 fm g) := fun F0 H0 F H σ ρ Q S q =>
  h F0 H0 F H σ ρ _ S (q.then fun a F1 H1 e1 k1 v rv => by
    obtain ⟨z, k2⟩ := strOf_k rv k1
    exact ⟨z, hr W σ F1 H1 v a [] [] Q e1.g rv .nil (OwQ.back e1 k2)⟩)
theorem td_m1 (hr : RM K rm fm) (h : TDr K W t g) (he : TDr K W te ge) : TDe K W (tM1 rm t te) (eM1 fm g ge) := fun F0 H0 F H σ ρ Q S q =>
  h F0 H0 F H σ ρ _ S (q.then fun a F1 H1 e1 k1 v rv => by
    obtain ⟨z, k2⟩ := strOf_k rv k1
    exact ⟨z, he F0 H0 F1 H1 σ ρ _ (S.go e1) (k2.then fun b F2 H2 e2 k3 u ru => hr W σ F2 H2 v a [u] [b] Q e2.g (rv.ext e2.f e2.h) (.cons ru .nil) k3)⟩)
theorem to_m1 (hr : RMo K rm fm) (h : TDr K W t g) (he : TDr K W te ge) : TDo K W (tM1 rm t te) (eM1 fm g ge) := fun F0 H0 F H σ ρ Q S q =>
  h F0 H0 F H σ ρ _ S (q.then fun a F1 H1 e1 k1 v rv => by
    obtain ⟨z, k2⟩ := strOf_k rv k1
    exact ⟨z, he F0 H0 F1 H1 σ ρ _ (S.go e1) (k2.then fun b F2 H2 e2 k3 u ru => hr W σ F2 H2 v a [u] [b] Q e2.g (rv.ext e2.f e2.h) (.cons ru .nil) (OwQ.back (e1.trans e2) k3))⟩)
def rSplit : V → List V → Hp → VK → Prop := fun x xs H Q => ∃ a b : Str, x = .str a ∧ xs = [.str b] ∧ (b.length == 0) = false ∧ a.length + 2 ≤ sizeLine ∧ rNewStrs (Txt.split a b) H Q
def splitD : PD → List PD → R PD
  | .str a, [.str b] => if (b.length == 0) = false ∧ a.length + 2 ≤ sizeLine then .ok (.list ((Txt.split a b).map PyData.str)) else .bad
  | _, _ => .bad
theorem rmo_split : RMo K rSplit splitD := fun W σ F H x a vs ds Q s ra rs q => by
  unfold splitD at q
  split at q
  · split at q
    · rename_i h
      obtain ⟨v, rfl, r1⟩ := rs.one
      exact ⟨_, _, ra.str, by rw [r1.str], h.1, h.2, fun p hp => own_lst s DpAll.strs q hp⟩
    · exact q.elim
  · exact q.elim
def rWords : V → List V → Hp → VK → Prop := fun x xs H Q => ∃ a : Str, x = .str a ∧ xs = [] ∧ a.length + 2 ≤ sizeLine ∧ rNewStrs (Txt.words a) H Q
def wordsD : PD → List PD → R PD
  | .str a, [] => if a.length + 2 ≤ sizeLine then .ok (.list ((Txt.words a).map PyData.str)) else .bad
  | _, _ => .bad
theorem rmo_words : RMo K rWords wordsD := fun W σ F H x a vs ds Q s ra rs q => by
  unfold wordsD at q
  split at q
  · split at q
    · rename_i h
      cases rs
      exact ⟨_, ra.str, rfl, h, fun p hp => own_lst s DpAll.strs q hp⟩
    · exact q.elim
  · exact q.elim
def rJoin (K : PySem.W.Frag) : V → List V → Hp → VK → Prop := fun x xs H Q => ∃ a p, ∃ ys : List Str, x = .str a ∧ xs = [.ref p] ∧ (SqL K H p (ys.map V.str) ∨ SqT K H p (ys.map V.str)) ∧
    (ys.map (·.length)).sum + ys.length * a.length ≤ 16777216 ∧ Q (.str (Txt.join a ys)) H
def joinD : PD → List PD → R PD
  | .str a, [.list ds] => (match asStrs ds with
    | some ys => if (ys.map (·.length)).sum + ys.length * a.length ≤ 16777216 then .ok (.str (Txt.join a ys)) else .bad
    | none => .bad)
  | _, _ => .bad
theorem rm_join : RM K (rJoin K) joinD := fun W σ F H x a vs ds Q s ra rs q => by
  unfold joinD at q
  split at q
  · split at q
    · rename_i ys e
      split at q
      · rename_i h
        obtain ⟨v, rfl, r1⟩ := rs.one
        obtain ⟨p, us, rfl, s1, r2⟩ := r1.list s
        rw [asStrs_ok e] at r2
        have e2 := r2.of_strs
        subst e2
        exact ⟨_, p, ys, ra.str, rfl, .inl (.inl s1), h, q.ok s _ (.str _)⟩
      · exact q.elim
    · exact q.elim
  · exact q.elim
def rStarts : V → List V → Hp → VK → Prop := fun x xs H Q => ∃ a b, x = .str a ∧ xs = [.str b] ∧ Q (.bl (Txt.startswith a b)) H
def startsD : PD → List PD → R PD
  | .str a, [.str b] => .ok (.bool (Txt.startswith a b))
  | _, _ => .bad
theorem rm_starts : RM K rStarts startsD := fun W σ F H x a vs ds Q s ra rs q => by
  unfold startsD at q
  split at q
  · obtain ⟨v, rfl, r1⟩ := rs.one
    exact ⟨_, _, ra.str, by rw [r1.str], q.ok s _ (.bl _)⟩
  · exact q.elim
def rCount : V → List V → Hp → VK → Prop := fun x xs H Q => ∃ a b, x = .str a ∧ xs = [.str b] ∧ Q (.int (Txt.count a b)) H
def countD : PD → List PD → R PD
  | .str a, [.str b] => .ok (.int (Txt.count a b))
  | _, _ => .bad
theorem rm_count : RM K rCount countD := fun W σ F H x a vs ds Q s ra rs q => by
  unfold countD at q
  split at q
  · obtain ⟨v, rfl, r1⟩ := rs.one
    exact ⟨_, _, ra.str, by rw [r1.str], q.ok s _ (.int _)⟩
  · exact q.elim

/-! ### lists changed in place: a name's own list -/
def ownL (ρ : Rho) (i : Nat) (k : List PD → SR) : SR := match ρ[i]? with
  | some (some (.o (.list ds))) => k ds
  | _ => .bad
def sAppend (i : Nat) (g : Rho → R PD) : Rho → SR := fun ρ => ownL ρ i fun ds => SR.of (g ρ) fun x => if ds.length < sizeLine then .nx (ρ.set i (some (.o (.list (ds ++ [x]))))) else .bad
theorem ownL_k {F0 H0 F H : Hp} {σ : L2.St} {ρ : Rho} {D : Ends} {i : Nat} {k : List PD → SR} (S : StR K F0 H0 F H σ ρ) (h : FinS K W F0 H0 D (ownL ρ i k)) :
    ∃ p ds vs, ρ[i]? = some (some (Sl.o (.list ds))) ∧ σ[i]? = some (some (.ref p)) ∧ H p = some (.lst vs) ∧ DpAll K F vs ds ∧ FinS K W F0 H0 D (k ds) := by
  unfold ownL at h
  split at h
  · rename_i ds e
    obtain ⟨p, a, b, c, vs, d1, d2⟩ := S.own i _ e
    exact ⟨p, ds, vs, e, a, d1, d2, h⟩
  · exact h.elim
theorem ds_append (i : Nat) (h : TDe K W te g) : TDS K W (tDrop (tBM K "list" rAppend (tVar i) (tCons te tNil))) (sAppend i g) := fun F0 H0 F H σ ρ D S q => by
  obtain ⟨p, ds, vs, h1, h2, h3, h4, k⟩ := ownL_k S q
  refine ⟨.ref p, h2, .inl ⟨rfl, vs, SqL.of h3⟩, h F0 H0 F H σ ρ _ S (k.of S.ext fun x F1 H1 e1 k v rv => ?_)⟩
  have k : FinS K W F0 H0 D (if ds.length < sizeLine then .nx (ρ.set i (some (.o (.list (ds ++ [x]))))) else .bad) := k
  by_cases hl : ds.length < sizeLine
  · rw [if_pos hl] at k
    refine ⟨p, vs, v, rfl, rfl, e1.h p _ h3, by rw [h4.length]; exact hl, ?_⟩
    exact k σ F1 _ ((S.go e1).mut h1 h2 ⟨_, upd_same, (h4.mono e1.f).append (.cons rv .nil)⟩)
  · rw [if_neg hl] at k
    exact k.elim
end
end DL
namespace DL
open PySem PySem.Spec PyProof.Rows L2

/-! ### a written part without lists -/
def isListO (o : Obj) : Bool := match o.cls with
  | .type c => c == "list"
  | _ => false
def frN (g : Addr → Option Obj) (as : List Addr) : PySem.W.Frag := (He.frG g as).filter fun q => !isListO q.2
theorem frG_mem {g : Addr → Option Obj} {as : List Addr} {a : Addr} {ob : Obj} (h : (a, ob) ∈ He.frG g as) : g a = some ob := by
  unfold He.frG at h
  obtain ⟨b, _, e⟩ := List.mem_filterMap.mp h
  cases hb : g b with
  | none =>
    rw [hb] at e
    cases e
  | some u =>
    rw [hb] at e
    have eq2 : (b, u) = (a, ob) := Option.some.inj e
    injection eq2 with e3 e4
    rw [← e3, ← e4]
    exact hb
theorem lookup_mem {a : Addr} {ob : Obj} : ∀ {l : List (Addr × Obj)}, l.lookup a = some ob → (a, ob) ∈ l
  | [], h => by cases h
  | (b, u) :: r, h => by
    have hq : (match a == b with | true => some u | false => r.lookup a) = some ob := h
    cases q : (a == b) with
    | true =>
      rw [q] at hq
      have eo : u = ob := Option.some.inj hq
      rw [beq_iff_eq.mp q, eo]
      exact List.mem_cons_self
    | false =>
      rw [q] at hq
      exact List.mem_cons_of_mem _ (lookup_mem hq)
theorem frN_in {as : List Addr} {h : Heap} : (frN h.get? as).In h := fun a o e => frG_mem (List.mem_filter.mp (lookup_mem e)).1
def NoLists (K : PySem.W.Frag) : Prop := ∀ a o, K.lookup a = some o → o.cls ≠ .type "list"
theorem frN_no {g : Addr → Option Obj} {as : List Addr} : NoLists (frN g as) := fun a o e z => by
  have h := (List.mem_filter.mp (lookup_mem e)).2
  simp only at h
  unfold isListO at h
  rw [z] at h
  simp at h
def obsN (n : Nat) (fa : List He.Fa) (fn : List He.DefD) (ex : PySem.W.Frag → Bool) (g : Addr → Option Obj) : Bool × He.AlD := (ex (frN g (He.asD g n)), He.obsD fa fn (frN g (He.asD g n)))
def hookN (n : Nat) (fa : List He.Fa) (fn : List He.DefD) (ex : PySem.W.Frag → Bool) : PySem.W.Hook where
  α := Bool × He.AlD
  obs := fun s => obsN n fa fn ex s.heap.get?
  val := fun _ => (true, He.valD fn)
  says := fun _ h => ∃ K : PySem.W.Frag, K.In h ∧ NoLists K ∧ ex K = true ∧ He.SaysD fa fn K
  of := fun _ s e => ⟨_, frN_in, frN_no, congrArg Prod.fst e, congrArg Prod.snd e⟩
  keeps := fun _ _ _ ⟨K, hK, c⟩ k => ⟨K, PySem.W.Frag.In.keeps hK k, c⟩
theorem obsN_eq {n : Nat} {fa : List He.Fa} {fn : List He.DefD} {ex : PySem.W.Frag → Bool} {g : Addr → Option Obj} {s : Shared} (h : ∀ a, g a = s.heap.get? a) : obsN n fa fn ex g = (hookN n fa fn ex).obs s := by
  have e : g = s.heap.get? := funext h
  rw [e] <;> rfl

/-! ### defs by name -/
/-- what callers use of a def -/
def Kept (P : Program) (w : World) (K : PySem.W.Frag) (mg : Str → Option Value) (base : Heap) (k n : Nat) (x : Str) (ps : List Str) (f : List PD → FR) : Prop :=
  ∃ fd : FuncData, PySem.W.keepIn K (.ref (He.ga K x)) = true ∧ mg x = some (.ref (He.ga K x)) ∧ Binds K fd ps [] ∧ FnOk P w K mg base (L2.CX P w) k (He.ga K x) fd ps (spD K n f)
theorem hu65 {A : Around} {k : Nat} (hr : Room k A) : A.units + 65 < cLine := by have := hr.un; omega
/-- the law's end -/
theorem law_end {l : PySem.W.OpenLaw} {n k : Nat} {q : Program} {loose : List Str} {XP : (Str → Option Value) → Heap → Prop} {d : DefRec} {fa : List He.Fa} {fn : List He.DefD} {ex : PySem.W.Frag → Bool} {YP : World → Heap → Prop} {x : Str} {f : List PD → FR}
    (hY : YP = (hookN n fa fn ex).says)
    (hn : l.most = some 63) (hdf : d.params.defaults = []) (hr : Room k callerA) (hd : d.name = ("law" : Str))
    (F : ∀ (w : World) (K : PySem.W.Frag) (h : Heap) (mg : Str → Option Value), K.In h → h.Ns mainGlobals mg → ex K = true → He.SaysD fa fn K →
      ∃ fd : FuncData, (∀ (s : Shared) (u : Value), BindsTo s fd ⟨[u], []⟩ [(x, u)]) ∧ mg ("law" : Str) = some (.ref (He.ga K ("law" : Str))) ∧ ∀ base : Heap, K.In base → base.Ns mainGlobals mg → FnOk l.prog w K mg base (L2.CX l.prog w) k (He.ga K ("law" : Str)) fd [x] (spD K 1 f))
    (T : ∀ ns : List Int, ns.length ≤ 63 → f [.list (ns.map PyData.int)] = .rt (.d (.bool true))) :
    PySem.W.WalkO q loose XP YP l.row.toRowW d [] (fun f vs => PySem.call f vs) := by
  subst hY
  refine Att.attach_call hn hdf fun w s₀ s₁ mg mb fa o pm cd doc a vs ns G Y ho hd' hcd hmg hobj hints hlen hg => ?_
  obtain ⟨K, KX, nol, hex, c⟩ := Y
  obtain ⟨fd, hb, hl, hF⟩ := F w K _ mg KX G.T.g hex c
  rw [hd, hl] at hmg
  cases hmg
  exact law_call KX G.T.g G.T.b G.T.builtins G.T.nolimit hg hobj hints (Nat.le_trans hlen (by decide)) hr hF hb (fun H hO hS => by
    refine ⟨rfl, H, [.list (ns.map PyData.int)], Same.refl H, .cons (.lst (xs := ns.map V.int) ?_ DpAll.ints) .nil, ?_⟩
    · rcases hS with h | ⟨o, its, m, h1, h2, _⟩
      · exact h
      · exact absurd h2 (nol _ _ h1)
    · rw [T ns hlen]
      intro v F1 H1 _ r
      cases r
      rfl) fun H e s' z => by
        obtain ⟨_, _, _, _, _, _, _, _, _, _, _, _, z⟩ := z
        exact z

/-! ### built-in names -/
theorem bb_len : bootBuiltins "len" = some (.builtin "len") := by decide +kernel
theorem bb_sum : bootBuiltins "sum" = some (.builtin "sum") := by decide +kernel
theorem bb_any : bootBuiltins "any" = some (.builtin "any") := by decide +kernel
theorem bb_all : bootBuiltins "all" = some (.builtin "all") := by decide +kernel
theorem bb_max : bootBuiltins "max" = some (.builtin "max") := by decide +kernel
theorem bb_min : bootBuiltins "min" = some (.builtin "min") := by decide +kernel
theorem bb_abs : bootBuiltins "abs" = some (.builtin "abs") := by decide +kernel
theorem bb_sorted : bootBuiltins "sorted" = some (.builtin "sorted") := by decide +kernel
theorem bb_isinstance : bootBuiltins "isinstance" = some (.builtin "isinstance") := by decide +kernel
theorem bb_int : bootBuiltins "int" = some (.type "int") := by decide +kernel
theorem bb_str : bootBuiltins "str" = some (.type "str") := by decide +kernel
theorem bb_bool : bootBuiltins "bool" = some (.type "bool") := by decide +kernel
theorem bb_list : bootBuiltins "list" = some (.type "list") := by decide +kernel
theorem bb_tuple : bootBuiltins "tuple" = some (.type "tuple") := by decide +kernel
theorem bb_dict : bootBuiltins "dict" = some (.type "dict") := by decide +kernel

/-! ### constants of the module -/
section
variable {K : PySem.W.Frag} {W : WX}
theorem td_kon {a : Addr} {d : PD} (h : ∀ F, Dp K F (.ref a) d) : TDe K W (tC (.ref a)) (eC d) := fun F0 H0 F H σ ρ Q S q => q.ok S.same _ (h F)
theorem dp_strs {F : Hp} : ∀ xs : List Str, DpAll K F ((xs.map He.Dv.str).map (He.Dv.v K)) (xs.map PyData.str)
  | [] => .nil
  | x :: xs => .cons (.str x) (dp_strs xs)
theorem kon_strs {x : Str} {xs : List Str} (h : He.tupB K x (xs.map He.Dv.str) = true) (F : Hp) : Dp K F (.ref (He.ga K x)) (.tuple (xs.map PyData.str)) := .tup (He.tupB_ok h F) (dp_strs xs)

/-! ### more methods -/
def rSindex : V → List V → Hp → VK → Prop := fun x xs H Q => ∃ a b i rest, x = .str a ∧ xs = [.str b] ∧ Builtin.Str.occurrences a b 0 a.length 1 = i :: rest ∧ Q (.int (i : Nat)) H
def sindexD : PD → List PD → R PD
  | .str a, [.str b] => (match Builtin.Str.occurrences a b 0 a.length 1 with
    | i :: _ => .ok (.int (i : Nat))
    | [] => .bad)
  | _, _ => .bad
theorem rm_sindex : RM K rSindex sindexD := fun W σ F H x a vs ds Q s ra rs q => by
  unfold sindexD at q
  split at q
  · split at q
    · rename_i i r e
      obtain ⟨v, rfl, r1⟩ := rs.one
      exact ⟨_, _, i, r, ra.str, by rw [r1.str], e, q.ok s _ (.int _)⟩
    · exact q.elim
  · exact q.elim
end
end DL
namespace DL
open PySem PySem.Spec PyProof.Rows L2
/-- a def's promise: the form that the printed texts use -/
theorem fn_of0 {P : Program} {w : World} {K : PySem.W.Frag} {mg : Str → Option Value} {base : Heap} {x : Str} {params : Arguments} {body : List Stmt} {scope : Scope} {N ps : List Str} {k n : Nat} {s : Rho → SR} {f : List PD → FR} {fd : FuncData}
    (FD : FunD K x x params body scope [] [] (He.ga K x) fd) (S : FnScope N ps scope) (hn : ps.length = n) (hf : f = runD N.length s)
    (hb : ∀ (cdv : Value) (A : Around) (outer : List Env) (sh : Shared) (H : Hp) (E : XK), Room k (A.deeper (envOfC x scope sh.heap.objs.size (He.ga K x) cdv)) →
      Takes (cxOf (L2.CX P w) P w K mg base N x scope (He.ga K x) cdv A outer sh H E) (fun cls d _ H => E cls d H) →
      ∃ t, PSs (cxOf (L2.CX P w) P w K mg base N x scope (He.ga K x) cdv A outer sh H E) body t ∧ TDS K (fun cls d _ H => E cls d H) t s) : FnOk P w K mg base (L2.CX P w) (k + 1) (He.ga K x) fd ps (spD K n f) := by
  subst hn hf
  exact fnD FD S hb
/-- a def by its name: the form that the printed texts use -/
theorem kept_of {P : Program} {w : World} {K : PySem.W.Frag} {mg : Str → Option Value} {base : Heap} {x : Str} {params : Arguments} {body : List Stmt} {scope : Scope} {N ps : List Str} {k n : Nat} {s : Rho → SR} {f : List PD → FR}
    (hF : ∃ fd : FuncData, FunD K x x params body scope [] [] (He.ga K x) fd) (hg : mg x = some (.ref (He.ga K x))) (S : FnScope N ps scope) (hn : ps.length = n) (hf : f = runD N.length s)
    (hbd : ∀ (kV doc pm : Value) (an : Option Addr) (cdv ct : Value) (us : List Value), us.length = ps.length → bindArgs (PySem.W.fnOf x x params body scope .none kV doc pm an cdv ct) ⟨us, []⟩ = pure (ps.zip us))
    (hb : ∀ (cdv : Value) (A : Around) (outer : List Env) (sh : Shared) (H : Hp) (E : XK), Room k (A.deeper (envOfC x scope sh.heap.objs.size (He.ga K x) cdv)) →
      Takes (cxOf (L2.CX P w) P w K mg base N x scope (He.ga K x) cdv A outer sh H E) (fun cls d _ H => E cls d H) →
      ∃ t, PSs (cxOf (L2.CX P w) P w K mg base N x scope (He.ga K x) cdv A outer sh H E) body t ∧ TDS K (fun cls d _ H => E cls d H) t s) : Kept P w K mg base (k + 1) n x ps f := by
  obtain ⟨fd, FD⟩ := hF
  subst hn hf
  exact ⟨fd, FD.kp, hg, FD.bindsN hbd, fnD FD S hb⟩
end DL
/-! Dicts of int and text keys: owned in a slot; walked: locked. -/
namespace DL
open PySem PySem.Spec PyProof.Rows L2

def keyOf : PD → Option Key
  | .int i => some (.inl i)
  | .str s => some (.inr s)
  | _ => none
def valD : List (PD × PD) → Key → Option PD
  | [], _ => none
  | (a, d) :: r, k => if keyOf a = some k then some d else valD r k
def putD (kvs : List (PD × PD)) (k : Key) (d : PD) : List (PD × PD) :=
  if (valD kvs k).isSome = true then kvs.map fun kv => if keyOf kv.1 = some k then (kv.1, d) else kv else kvs ++ [(keyD k, d)]
theorem keyOf_keyD (k : Key) : keyOf (keyD k) = some k := by cases k <;> rfl
theorem keyD_of {d : PD} {k : Key} (h : keyOf d = some k) : d = keyD k := by
  cases d with
  | int i => cases h; rfl
  | str s => cases h; rfl
  | _ => cases h
theorem key_rp {K : PySem.W.Frag} {F H : Hp} {v : V} {k : Key} (r : Rp K F H v (keyD k)) : v = kV k := by
  cases k with
  | inl i => exact r.int
  | inr s => exact r.str
theorem key_dp {K : PySem.W.Frag} {F : Hp} (k : Key) : Dp K F (kV k) (keyD k) := by
  cases k with
  | inl i => exact .int i
  | inr s => exact .str s
section
variable {K : PySem.W.Frag} {F H : Hp}
theorem KvR.len {es : List (Key × V)} {kvs : List (PD × PD)} (r : KvR K F keyD es kvs) : es.length = kvs.length := by
  induction r with
  | nil => rfl
  | cons _ _ ih => rw [List.length_cons, List.length_cons, ih]
theorem KvR.keys {es : List (Key × V)} {kvs : List (PD × PD)} (r : KvR K F keyD es kvs) : kvs.map (·.1) = es.map fun e => keyD e.1 := by
  induction r with
  | nil => rfl
  | cons _ _ ih => rw [List.map_cons, List.map_cons, ih]
theorem KvR.val {es : List (Key × V)} {kvs : List (PD × PD)} (r : KvR K F keyD es kvs) (k : Key) : (valD kvs k = none ∧ valV es k = none) ∨ ∃ d v, valD kvs k = some d ∧ valV es k = some v ∧ Dp K F v d := by
  induction r with
  | nil => exact .inl ⟨rfl, rfl⟩
  | @cons k' v d es kvs h t ih =>
    by_cases e : k' = k
    · subst e
      exact .inr ⟨d, v, by unfold valD; rw [if_pos (keyOf_keyD k')], valV_pos rfl, h⟩
    · have e2 : ¬ keyOf (keyD k') = some k := by rw [keyOf_keyD]; exact fun q => e (Option.some.inj q)
      unfold valD
      rw [if_neg e2, valV_neg (show ¬ (k', v).1 = k from e)]
      exact ih
theorem KvR.snoc {es : List (Key × V)} {kvs : List (PD × PD)} (r : KvR K F keyD es kvs) (k : Key) {v : V} {d : PD} (h : Dp K F v d) : KvR K F keyD (es ++ [(k, v)]) (kvs ++ [(keyD k, d)]) := by
  induction r with
  | nil => exact .cons h .nil
  | cons a t ih => exact .cons a ih
theorem KvR.repl {es : List (Key × V)} {kvs : List (PD × PD)} (r : KvR K F keyD es kvs) (k : Key) {v : V} {d : PD} (h : Dp K F v d) :
    KvR K F keyD (es.map fun kv => if kv.1 = k then (kv.1, v) else kv) (kvs.map fun kv => if keyOf kv.1 = some k then (kv.1, d) else kv) := by
  induction r with
  | nil => exact .nil
  | @cons k' v' d' es kvs a t ih =>
    rw [List.map_cons, List.map_cons]
    by_cases e : k' = k
    · rw [if_pos (show (k', v').1 = k from e), if_pos (show keyOf (keyD k') = some k by rw [keyOf_keyD, e])]
      exact .cons h ih
    · rw [if_neg (show ¬ (k', v').1 = k from e), if_neg (show ¬ keyOf (keyD k') = some k by rw [keyOf_keyD]; exact fun q => e (Option.some.inj q))]
      exact .cons a ih
theorem KvR.put {es : List (Key × V)} {kvs : List (PD × PD)} (r : KvR K F keyD es kvs) (k : Key) {v : V} {d : PD} (h : Dp K F v d) : KvR K F keyD (putK es k v) (putD kvs k d) := by
  unfold putK putD
  rw [valV_any]
  rcases r.val k with ⟨a, b⟩ | ⟨d', v', a, b, _⟩
  · rw [a, b]; exact r.snoc k h
  · rw [a, b]; exact r.repl k h
def pairsD : List PD → Option (List (Key × PD))
  | [] => some []
  | .tuple [a, d] :: r => match keyOf a, pairsD r with
    | some k, some l => some ((k, d) :: l)
    | _, _ => none
  | _ => none
def mergeD (kvs : List (PD × PD)) (more : List (Key × PD)) : List (PD × PD) := more.foldl (fun acc kv => putD acc kv.1 kv.2) kvs
def dictD : List PD → R PD
  | [.list ds] => match pairsD ds with
    | some l => .ok (.dict (mergeD [] l))
    | none => .bad
  | _ => .bad
theorem KvR.merge : ∀ {ms : List (Key × V)} {more : List (Key × PD)} {es : List (Key × V)} {kvs : List (PD × PD)}, Paired (fun p q => p.1 = q.1 ∧ Dp K F p.2 q.2) ms more → KvR K F keyD es kvs → KvR K F keyD (mergeK es ms) (mergeD kvs more) := by
  intro ms more es kvs r
  induction r generalizing es kvs with
  | nil => exact fun q => q
  | @cons p q ps qs h t ih =>
    intro z
    obtain ⟨h1, h2⟩ := h
    have z2 := z.put p.1 h2
    show KvR K F keyD (mergeK (putK es p.1 p.2) ps) (mergeD (putD kvs q.1 q.2) qs)
    rw [← h1]
    exact ih z2
theorem pairs_dp : ∀ {ds : List PD} {vs : List V} {l : List (Key × PD)}, DpAll K F vs ds → pairsD ds = some l → ∃ (ps : List Addr) (ms : List (Key × V)), vs = ps.map V.ref ∧ Paired (fun p kv => SqT K F p [kV kv.1, kv.2]) ps ms ∧ Paired (fun p q => p.1 = q.1 ∧ Dp K F p.2 q.2) ms l
  | [], _, l, r, h => by
    cases r
    cases h
    exact ⟨[], [], rfl, .nil, .nil⟩
  | d :: ds, _, l, r, h => by
    cases r with
    | cons r1 r2 =>
      unfold pairsD at h
      split at h
      · rename_i e; cases e
      · rename_i a d' r' e
        cases e
        split at h
        · rename_i k l' e1 e2
          cases h
          obtain ⟨ps, ms, q1, q2, q3⟩ := pairs_dp r2 e2
          subst q1
          cases r1 with
          | tup s al =>
            cases al with
            | cons a1 a2 =>
              cases a2 with
              | cons a2 a3 =>
                cases a3
                rw [keyD_of e1] at a1
                have := key_rp (H := F) (.inl a1)
                subst this
                exact ⟨_ :: ps, (k, _) :: ms, rfl, .cons s q2, .cons ⟨rfl, a2⟩ q3⟩
        · cases h
      · cases h
theorem rco_dict : RCo K (fun xs H Q => ∃ (a : Addr) (ps : List Addr) (kvs : List (Key × V)), xs = [.ref a] ∧ SqL K H a (ps.map V.ref) ∧ Paired (fun p kv => SqT K H p [kV kv.1, kv.2]) ps kvs ∧
    ∀ p, H p = none → Q (.ref p) (upd H p (.dK (mergeK [] kvs)))) dictD := fun W σ F H vs ds Q s rs q => by
  unfold dictD at q
  split at q
  · obtain ⟨v, rfl, r1⟩ := rs.one
    split at q
    · rename_i l e
      obtain ⟨a, us, rfl, r2, r3⟩ := r1.list s
      obtain ⟨ps, ms, rfl, q2, q3⟩ := pairs_dp r3 e
      refine ⟨a, ps, ms, rfl, .inl r2, Paired.mapP q2 fun _ _ z => seqT s z, fun p hp => ?_⟩
      exact q F _ (Ext.own s hp) p hp (s.free hp) ⟨_, upd_same, KvR.merge q3 .nil⟩
    · exact q.elim
  · exact q.elim
end
section
variable {K : PySem.W.Frag} {W : WX} {F0 H0 F H : Hp} {σ : L2.St} {ρ : Rho} {ty tv : TE} {g gk gv : Rho → R PD} {t : TS} {s : Rho → SR}
def dAt (ρ : Rho) (i : Nat) : R (List (PD × PD)) := match ρ[i]? with
  | some (some (.o (.dict kvs))) => .ok kvs
  | some (some (.l (.dict kvs))) => .ok kvs
  | _ => .bad
theorem dAt_x (ρ : Rho) (i : Nat) : (∃ kvs, dAt ρ i = .ok kvs) ∨ dAt ρ i = .bad := by
  unfold dAt
  split
  · exact .inl ⟨_, rfl⟩
  · exact .inl ⟨_, rfl⟩
  · exact .inr rfl
theorem dAt_ok (S : StR K F0 H0 F H σ ρ) {i : Nat} {kvs : List (PD × PD)} (h : dAt ρ i = .ok kvs) : ∃ p es, σ[i]? = some (some (.ref p)) ∧ Rd H p (.dK es) ∧ KvR K F keyD es kvs := by
  unfold dAt at h
  split at h
  · rename_i e
    cases h
    obtain ⟨p, a, b, c, es, d, r⟩ := S.own i _ e
    exact ⟨p, es, a, .inl d, r⟩
  · rename_i e
    cases h
    obtain ⟨p, a, od, es, d, r⟩ := S.lck i _ e
    exact ⟨p, es, a, .inr ⟨od, S.same _ _ d⟩, r⟩
  · cases h
def getD (kvs : List (PD × PD)) (y : PD) : R PD := match keyOf y with
  | some k => (match valD kvs k with
    | some d => .ok d
    | none => .bad)
  | none => .bad
def eDget (i : Nat) (g : Rho → R PD) : Rho → R PD := fun ρ => (dAt ρ i).bind fun kvs => (g ρ).bind fun y => getD kvs y
theorem td_dget (i : Nat) (h : TDr K W ty g) : TDe K W (tDGet (tVar i) ty) (eDget i g) := fun F0 H0 F H σ ρ Q S q => by
  unfold eDget at q
  rcases dAt_x ρ i with ⟨kvs, e⟩ | e
  · rw [e] at q
    obtain ⟨p, es, hs, rd, r⟩ := dAt_ok S e
    have q : Fin K W σ F H ((g ρ).bind fun y => getD kvs y) (DpQ K Q) := q
    refine ⟨.ref p, hs, h F0 H0 F H σ ρ _ S (q.then fun y F1 H1 e1 k1 v rv => ?_)⟩
    unfold getD at k1
    split at k1
    · rename_i k ek
      rw [keyD_of ek] at rv
      have := key_rp rv
      subst this
      rcases r.val k with ⟨z, _⟩ | ⟨d, u, z1, z2, z3⟩
      · rw [z] at k1; exact k1.elim
      · rw [z1] at k1
        exact ⟨p, u, rfl, .inl ⟨es, k, rdM e1.h rd, rfl, z2.symm⟩, Fin.okk K W σ e1.g k1 _ (z3.mono e1.f)⟩
    · exact k1.elim
  · rw [e] at q; exact q.elim
def hasD (kvs : List (PD × PD)) (y : PD) : R Bool := match keyOf y with
  | some k => .ok (valD kvs k).isSome
  | none => .bad
def edin (i : Nat) (g : Rho → R PD) : Rho → R PD := fun ρ => (g ρ).bind fun y => (dAt ρ i).bind fun kvs => (hasD kvs y).bind fun b => .ok (.bool b)
def ednotin (i : Nat) (g : Rho → R PD) : Rho → R PD := fun ρ => (g ρ).bind fun y => (dAt ρ i).bind fun kvs => (hasD kvs y).bind fun b => .ok (.bool !b)
theorem din_k {f : Bool → Bool} {i : Nat} {y : PD} {Q : VK} {v : V} (S : StR K F0 H0 F H σ ρ) (rv : Rp K F H v y) (k1 : Fin K W σ F H ((dAt ρ i).bind fun kvs => (hasD kvs y).bind fun b => .ok (.bool (f b))) (DpQ K Q)) :
    ∃ p o, σ[i]? = some (some (.ref p)) ∧ DGet H p v o ∧ Q (.bl (f o.isSome)) H := by
  rcases dAt_x ρ i with ⟨kvs, e⟩ | e
  · rw [e] at k1
    obtain ⟨p, es, hs, rd, r⟩ := dAt_ok S e
    have k1 : Fin K W σ F H ((hasD kvs y).bind fun b => .ok (.bool (f b))) (DpQ K Q) := k1
    unfold hasD at k1
    split at k1
    · rename_i k ek
      rw [keyD_of ek] at rv
      have := key_rp rv
      subst this
      have e2 : (valV es k).isSome = (valD kvs k).isSome := by
        rcases r.val k with ⟨z, z'⟩ | ⟨d, u, z1, z2, z3⟩
        · rw [z, z']; rfl
        · rw [z1, z2]; rfl
      have k2 := Fin.okk (x := PyData.bool (f (valD kvs k).isSome)) K W σ S.same k1 _ (.bl _)
      rw [← e2] at k2
      exact ⟨p, valV es k, hs, .inl ⟨es, k, rd, rfl, rfl⟩, k2⟩
    · exact k1.elim
  · rw [e] at k1; exact k1.elim
theorem td_din (i : Nat) (h : TDr K W ty g) : TDe K W (tDIn ty (tVar i)) (edin i g) := fun F0 H0 F H σ ρ Q S q =>
  h F0 H0 F H σ ρ _ S (q.then fun y F1 H1 e1 k1 v rv => by
    obtain ⟨p, o, a, b, c⟩ := din_k (f := id) (S.go e1) rv k1
    exact ⟨.ref p, a, p, o, rfl, b, c⟩)
theorem td_dnotin (i : Nat) (h : TDr K W ty g) : TDe K W (tDNotIn ty (tVar i)) (ednotin i g) := fun F0 H0 F H σ ρ Q S q =>
  h F0 H0 F H σ ρ _ S (q.then fun y F1 H1 e1 k1 v rv => by
    obtain ⟨p, o, a, b, c⟩ := din_k (f := not) (S.go e1) rv k1
    exact ⟨.ref p, a, p, o, rfl, b, c⟩)
def oDnew : Rho → R PD := fun _ => .ok (.dict [])
theorem to_dnewK : TDo K W tDNewK oDnew := fun F0 H0 F H σ ρ Q S q p hp =>
  (q : ∀ F' H', Ext F H F' H' → OwQ K H Q (.dict []) F' H') F _ (Ext.own S.same hp) p hp (S.same.free hp) ⟨[], upd_same, .nil⟩
/-- d[k] = v -/
def dOwn (ρ : Rho) (i : Nat) : R (List (PD × PD)) := match ρ[i]? with
  | some (some (.o (.dict kvs))) => .ok kvs
  | _ => .bad
def putS (ρ : Rho) (i : Nat) (kvs : List (PD × PD)) (y d : PD) : SR := match keyOf y with
  | some k => if kvs.length < sizeLine then .nx (ρ.set i (some (.o (.dict (putD kvs k d))))) else .bad
  | none => .bad
def sDput (i : Nat) (gk gv : Rho → R PD) : Rho → SR := fun ρ => SR.of (gv ρ) fun d => SR.of (dOwn ρ i) fun kvs => SR.of (gk ρ) fun y => putS ρ i kvs y d
theorem ds_dput (i : Nat) (hk : TDr K W ty gk) (hv : TDe K W tv gv) : TDS K W (sDPut (tVar i) ty tv) (sDput i gk gv) := fun F0 H0 F H σ ρ D S q =>
  hv F0 H0 F H σ ρ _ S (q.of S.ext fun d F1 H1 e1 k1 v rv => by
    have S1 := S.go e1
    unfold dOwn at k1
    split at k1
    · rename_i kvs ei
      obtain ⟨p, a, _, _, _⟩ := S1.own i _ ei
      have k1 : FinS K W F0 H0 D (SR.of (gk ρ) fun y => putS ρ i kvs y d) := k1
      refine ⟨.ref p, a, hk F0 H0 F1 H1 σ ρ _ S1 (k1.of S1.ext fun y F2 H2 e2 k2 u ru => ?_)⟩
      have S2 := S1.go e2
      obtain ⟨p2, a2, b2, c2, es, hh, r⟩ := S2.own i _ ei
      rw [a] at a2
      injection a2 with a2; injection a2 with a2; injection a2 with a2; subst a2
      unfold putS at k2
      split at k2
      · rename_i k ek
        split at k2
        · rename_i hl
          rw [keyD_of ek] at ru
          have := key_rp ru
          subst this
          have hl2 : es.length < sizeLine := by rw [r.len]; exact hl
          exact ⟨p, _, rfl, DPut.k hh hl2, k2 _ _ _ (S2.mut ei a ⟨_, upd_same, r.put k (rv.mono e2.f)⟩)⟩
        · exact k2.elim
      · exact k2.elim
    · exact k1.elim)
/-! ### walks -/
def iKeysD (i : Nat) : Rho → R (List PD) := fun ρ => match ρ[i]? with
  | some (some (.l (.dict kvs))) => .ok (kvs.map (·.1))
  | _ => .bad
theorem di_keys (i : Nat) : TDi K W (iKeys (tVar i)) (iKeysD i) := fun F0 H0 F H σ ρ Q S q => by
  unfold iKeysD at q
  split at q
  · rename_i kvs e
    obtain ⟨p, a, od, es, d, r⟩ := S.lck i _ e
    refine ⟨.ref p, a, p, od, rfl, .inl ⟨es, S.same _ _ d, q.ok S.same _ fun j F1 H1 e1 e2 => ?_⟩⟩
    have f1 : H1 p = some (.frz od (.dK es)) := e2 _ _ (e1 _ _ d)
    rw [r.keys]
    refine ⟨fun x hx => ?_, fun hl => ⟨f1, by simpa using hl⟩⟩
    rw [List.getElem?_map] at hx
    cases ee : es[j]? with
    | none => rw [ee] at hx; cases hx
    | some kv =>
      rw [ee] at hx
      have hx : keyD kv.1 = x := Option.some.inj hx
      subst hx
      refine ⟨⟨f1, (List.getElem?_eq_some_iff.mp ee).1⟩, fun z H2 y => ?_⟩
      obtain ⟨rfl, k, v, hk, rfl⟩ := y
      rw [ee] at hk
      cases hk
      exact ⟨F1, Ext.refl e2, key_dp k⟩
  · exact q.elim
def unlS : Option Sl → Option Sl
  | some (.l _) => none
  | x => x
def unlock : SR → SR
  | .nx ρ => .nx (ρ.map unlS)
  | .bk ρ => .bk (ρ.map unlS)
  | .ct ρ => .ct (ρ.map unlS)
  | x => x
def sLock (i : Nat) (s : Rho → SR) : Rho → SR := fun ρ => match ρ[i]? with
  | some (some (.o (.dict kvs))) => unlock (s (ρ.set i (some (.l (.dict kvs)))))
  | _ => .bad
def cutH (F : Hp) (p : Addr) : Hp := fun q => if q = p then none else F q
theorem cut_ne {F : Hp} {p q : Addr} (h : q ≠ p) : cutH F p q = F q := if_neg h
theorem cut_self {F : Hp} {p : Addr} : cutH F p p = none := if_pos rfl
mutual
theorem Dp.cut {p : Addr} {od : Obj} {es : List (Key × V)} (e : F p = some (.frz od (.dK es))) : ∀ {v : V} {d : PyData}, Dp K F v d → Dp K (cutH F p) v d
  | _, _, .non => .non
  | _, _, .bl b => .bl b
  | _, _, .int i => .int i
  | _, _, .str x => .str x
  | _, _, .lst (a := a) s al => by
    have hn : a ≠ p := fun z => by
      subst z
      rcases s with s | ⟨o, s⟩
      · rw [e] at s; cases s
      · rw [e] at s; cases s
    refine .lst ?_ (DpAll.cut e al)
    rcases s with s | ⟨o, s⟩
    · exact .inl ((cut_ne hn).trans s)
    · exact .inr ⟨o, (cut_ne hn).trans s⟩
  | _, _, .tup (a := a) s al => by
    refine .tup ?_ (DpAll.cut e al)
    rcases s with (s | ⟨o, s⟩) | s
    · exact .inl (.inl ((cut_ne fun z => by subst z; rw [e] at s; cases s).trans s))
    · exact .inl (.inr ⟨o, (cut_ne fun z => by subst z; rw [e] at s; cases s).trans s⟩)
    · exact .inr s
theorem DpAll.cut {p : Addr} {od : Obj} {es : List (Key × V)} (e : F p = some (.frz od (.dK es))) : ∀ {vs : List V} {ds : List PyData}, DpAll K F vs ds → DpAll K (cutH F p) vs ds
  | _, _, .nil => .nil
  | _, _, .cons h t => .cons (Dp.cut e h) (DpAll.cut e t)
end
theorem KvR.cut {p : Addr} {od : Obj} {es0 : List (Key × V)} (e : F p = some (.frz od (.dK es0))) : ∀ {es : List (Key × V)} {kvs : List (PD × PD)}, KvR K F keyD es kvs → KvR K (cutH F p) keyD es kvs
  | _, _, .nil => .nil
  | _, _, .cons h t => .cons (h.cut e) (KvR.cut e t)
theorem OwnAt.cut {p p' : Addr} {od : Obj} {es0 : List (Key × V)} {u : HO} (e : F p = Option.some (HO.frz od (.dK es0))) (hn : p' ≠ p) {d : PD} (h : OwnAt K F H p' d) : OwnAt K (cutH F p) (upd H p u) p' d := by
  cases d with
  | list ds => obtain ⟨vs, a, b⟩ := h; exact ⟨vs, by rw [upd_ne hn]; exact a, b.cut e⟩
  | dict kvs => obtain ⟨es, a, b⟩ := h; exact ⟨es, by rw [upd_ne hn]; exact a, b.cut e⟩
  | _ => exact h.elim
theorem ds_lock (i : Nat) (h : TDS K W t s) : TDS K W (tLock t) (sLock i s) := fun F0 H0 F H σ ρ D S q => by
  unfold sLock at q
  split at q
  case h_2 => exact q.elim
  rename_i kvs ei
  obtain ⟨p, hs, h0, hf, es, hh, r⟩ := S.own i _ ei
  refine ⟨p, .dK es, hh, True.intro, fun od => ?_⟩
  have f0 : F0 p = none := S.ext.f.free hf
  have same1 : Same F (upd F p (.frz od (.dK es))) := fun a u e => by rw [upd_ne (ne_of_none e hf)]; exact e
  have exI : Ext (upd F p (.frz od (.dK es))) (upd H0 p (.frz od (.dK es))) (upd F p (.frz od (.dK es))) (upd H p (.frz od (.dK es))) := by
    refine ⟨Same.refl _, fun a u e => ?_, fun a u e => ?_, fun a e => .inl e⟩
    · by_cases ha : a = p
      · subst ha; rw [upd_same] at e ⊢; exact e
      · rw [upd_ne ha] at e ⊢; exact S.ext.g a u e
    · by_cases ha : a = p
      · subst ha; rw [upd_same] at e ⊢; exact e
      · rw [upd_ne ha] at e ⊢; exact S.ext.h a u e
  have SI : StR K (upd F p (.frz od (.dK es))) (upd H0 p (.frz od (.dK es))) (upd F p (.frz od (.dK es))) (upd H p (.frz od (.dK es))) σ (ρ.set i (some (.l (.dict kvs)))) := by
    refine ⟨exI, by simpa using S.len, fun j z e => ?_, fun j z e => ?_, fun j k z w b e1 e2 e3 e4 => ?_, fun j z e => ?_⟩
    · rcases get_set e with ⟨rfl, hl, y⟩ | ⟨hn, y⟩
      · injection y with y; cases y
      · obtain ⟨v, a, b⟩ := S.dat j z y
        exact ⟨v, a, b.mono same1⟩
    · rcases get_set e with ⟨rfl, hl, y⟩ | ⟨hn, y⟩
      · injection y with y; cases y
      · obtain ⟨p2, a, b, c, d⟩ := S.own j z y
        have ne : p2 ≠ p := fun w => by subst w; exact hn (S.dis i j _ z p2 ei y hs a)
        exact ⟨p2, a, by rw [upd_ne ne]; exact b, by rw [upd_ne ne]; exact c, d.mono same1 fun o ho => by rw [upd_ne ne]; exact ho⟩
    · rcases get_set e1 with ⟨_, _, y⟩ | ⟨_, y1⟩
      · injection y with y; cases y
      · rcases get_set e2 with ⟨_, _, y⟩ | ⟨_, y2⟩
        · injection y with y; cases y
        · exact S.dis j k z w b y1 y2 e3 e4
    · rcases get_set e with ⟨rfl, hl, y⟩ | ⟨hn, y⟩
      · injection y with y; injection y with y; subst y
        exact ⟨p, hs, od, es, upd_same, r.mono same1⟩
      · obtain ⟨p2, a, b⟩ := S.lck j z y
        exact ⟨p2, a, b.mono same1⟩
  have back : ∀ {F1 H1 : Hp}, Ext (upd F p (.frz od (.dK es))) (upd H0 p (.frz od (.dK es))) F1 H1 → F1 p = some (.frz od (.dK es)) ∧ H1 p = some (.frz od (.dK es)) ∧ Ext F0 H0 (cutH F1 p) (upd H1 p (.dK es)) := by
    intro F1 H1 e
    have a1 : F1 p = some (.frz od (.dK es)) := e.f _ _ upd_same
    refine ⟨a1, e.g _ _ a1, fun a u z => ?_, fun a u z => ?_, fun a u z => ?_, fun a z => ?_⟩
    · have ne := ne_of_none z f0
      rw [cut_ne ne]
      exact e.f _ _ (by rw [upd_ne ne]; exact S.ext.f _ _ z)
    · by_cases ha : a = p
      · subst ha; rw [cut_self] at z; cases z
      · rw [cut_ne ha] at z; rw [upd_ne ha]; exact e.g _ _ z
    · have ne := ne_of_none z h0
      rw [upd_ne ne]
      exact e.h _ _ (by rw [upd_ne ne]; exact z)
    · by_cases ha : a = p
      · subst ha; exact absurd cut_self z
      · rw [cut_ne ha] at z
        rcases e.n a z with y | y
        · rw [upd_ne ha] at y; exact S.ext.n a y
        · rw [upd_ne ha] at y; exact .inr y
  have st : ∀ {F1 H1 : Hp} {σ1 : L2.St} {ρ1 : Rho}, StR K (upd F p (.frz od (.dK es))) (upd H0 p (.frz od (.dK es))) F1 H1 σ1 ρ1 → H1 p = some (.frz od (.dK es)) ∧ StR K F0 H0 (cutH F1 p) (upd H1 p (.dK es)) σ1 (ρ1.map unlS) := by
    intro F1 H1 σ1 ρ1 S1
    obtain ⟨a1, a2, ex⟩ := back S1.ext
    have un : ∀ {j : Nat} {x : Sl}, (ρ1.map unlS)[j]? = some (some x) → ρ1[j]? = some (some x) ∧ ∀ y, x ≠ .l y := by
      intro j x e
      rw [List.getElem?_map] at e
      cases e2 : ρ1[j]? with
      | none => rw [e2] at e; cases e
      | some z =>
        rw [e2] at e
        have e : unlS z = some x := Option.some.inj e
        cases z with
        | none => cases e
        | some z =>
          cases z with
          | d y => cases e; exact ⟨rfl, fun _ w => nomatch w⟩
          | o y => cases e; exact ⟨rfl, fun _ w => nomatch w⟩
          | l y => cases e
    refine ⟨a2, ex, by rw [List.length_map]; exact S1.len, fun j z e => ?_, fun j z e => ?_, fun j k z w b e1 e2 e3 e4 => S1.dis j k z w b (un e1).1 (un e2).1 e3 e4, fun j z e => absurd rfl ((un e).2 z)⟩
    · obtain ⟨v, a, b⟩ := S1.dat j z (un e).1
      exact ⟨v, a, b.cut a1⟩
    · obtain ⟨p2, a, b, c, d⟩ := S1.own j z (un e).1
      have ne : p2 ≠ p := fun w => by subst w; rw [a1] at c; cases c
      exact ⟨p2, a, by rw [upd_ne ne] at b; exact b, by rw [cut_ne ne]; exact c, d.cut a1 ne⟩
  refine h _ _ _ _ σ _ _ SI ?_
  cases e : s (ρ.set i (some (.l (.dict kvs)))) with
  | nx ρ1 =>
    rw [e] at q
    exact fun σ1 F1 H1 S1 => ⟨(st S1).1, q σ1 _ _ (st S1).2⟩
  | bk ρ1 =>
    rw [e] at q
    exact fun σ1 F1 H1 S1 => ⟨(st S1).1, q σ1 _ _ (st S1).2⟩
  | ct ρ1 =>
    rw [e] at q
    exact fun σ1 F1 H1 S1 => ⟨(st S1).1, q σ1 _ _ (st S1).2⟩
  | rt x =>
    rw [e] at q
    cases x with
    | d x =>
      intro v F1 H1 ex rv
      obtain ⟨a1, a2, ex2⟩ := back ex
      exact ⟨a2, q v _ _ ex2 (rv.cut a1)⟩
    | o x =>
      intro p2 F1 H1 ex y1 y2 y3
      obtain ⟨a1, a2, ex2⟩ := back ex
      have ne : p2 ≠ p := fun w => by subst w; rw [a1] at y2; cases y2
      exact ⟨a2, q p2 _ _ ex2 (by rw [upd_ne ne] at y1; exact y1) (by rw [cut_ne ne]; exact y2) (y3.cut a1 ne)⟩
    | l x => exact q
  | exc c =>
    rw [e] at q
    intro cls d σ1 F1 H1 ex rx
    refine q cls d σ1 F1 H1 ⟨fun a u z => ?_, ex.g, fun a u z => ?_, fun a z => ?_⟩ rx
    · exact ex.f _ _ (by rw [upd_ne (ne_of_none z f0)]; exact S.ext.f _ _ z)
    · exact ex.h _ _ (by rw [upd_ne (ne_of_none z h0)]; exact z)
    · by_cases ha : a = p
      · subst ha; exact .inr h0
      · rcases ex.n a z with y | y
        · rw [upd_ne ha] at y; exact S.ext.n a y
        · rw [upd_ne ha] at y; exact .inr y
  | bad => rw [e] at q; exact q
/-! ### an owned list that is walked: frozen for a while; the answer holds plain things alone -/
def scalL : PD → R PD
  | .list ds => if ds.all scalD = true then .ok (.list ds) else .bad
  | _ => .bad
def oUnf (i : Nat) (g : Rho → R PD) : Rho → R PD := fun ρ => (g (frz1 i ρ)).bind scalL
theorem scal_all {F F' : Hp} : ∀ {vs : List V} {ds : List PD}, DpAll K F vs ds → ds.all scalD = true → DpAll K F' vs ds
  | _, _, .nil, _ => .nil
  | _, _, .cons h t, e => by
    rw [List.all_cons, Bool.and_eq_true] at e
    exact .cons (scal_dp e.1 h) (scal_all t e.2)
theorem to_unf (i : Nat) {te : TE} (h : TDo K W te g) : TDo K W te (oUnf i g) := fun F0 H0 F H σ ρ Q S q => by
  obtain ⟨F', e, sf, S'⟩ := S.frz1 i
  refine h F0 H0 F' H σ _ Q S' ?_
  unfold oUnf at q
  cases eg : g (frz1 i ρ) with
  | ok x =>
    rw [eg] at q
    have q : Fin K W σ F H (scalL x) (OwQ K H Q) := q
    unfold scalL at q
    split at q
    · rename_i ds
      split at q
      · rename_i hd
        intro F1 H1 ex p hp hf ho
        obtain ⟨vs, a, b⟩ := ho
        exact q F H1 (Ext.heap S.same ex.h) p hp (S.same.free hp) ⟨vs, a, scal_all b hd⟩
      · exact q.elim
    · exact q.elim
  | exc c =>
    rw [eg] at q
    exact fun cls d F1 H1 ex r => q cls d F H1 (Ext.heap S.same ex.h) r
  | bad => rw [eg] at q; exact q.elim
/-! ### more changes in place -/
def sBad : Rho → SR := fun _ => .bad
theorem ds_bad : TDS K W tNever sBad := ds_never
def sInsert (i : Nat) (n : Nat) (g : Rho → R PD) : Rho → SR := fun ρ => ownL ρ i fun ds => SR.of (g ρ) fun x => if ds.length < sizeLine ∧ n < 1000 then .nx (ρ.set i (some (.o (.list (ds.take n ++ [x] ++ ds.drop n))))) else .bad
theorem ds_insert (i n : Nat) {te : TE} (h : TDe K W te g) : TDS K W (tDrop (tBM K "list" (fun x vs H Q => ∃ (l : Addr) (xs : List V) (i : Int) (y : V), x = .ref l ∧ vs = [.int i, y] ∧ H l = some (.lst xs) ∧ xs.length < sizeLine ∧ 0 ≤ i ∧ i < 2 ^ 63 ∧
    Q .non (upd H l (.lst (xs.take i.toNat ++ [y] ++ xs.drop i.toNat)))) (tVar i) (tCons (tC (.int (n : Nat))) (tCons te tNil)))) (sInsert i n g) := fun F0 H0 F H σ ρ D S q => by
  obtain ⟨p, ds, vs, h1, h2, h3, h4, k⟩ := ownL_k S q
  refine ⟨.ref p, h2, .inl ⟨rfl, vs, SqL.of h3⟩, h F0 H0 F H σ ρ _ S (k.of S.ext fun x F1 H1 e1 k v rv => ?_)⟩
  have k : FinS K W F0 H0 D (if ds.length < sizeLine ∧ n < 1000 then .nx (ρ.set i (some (.o (.list (ds.take n ++ [x] ++ ds.drop n))))) else .bad) := k
  by_cases hl : ds.length < sizeLine ∧ n < 1000
  · rw [if_pos hl] at k
    have m := h4.mono e1.f
    refine ⟨p, vs, (n : Nat), v, rfl, rfl, e1.h p _ h3, by rw [h4.length]; exact hl.1, by omega, by omega, ?_⟩
    exact k σ F1 _ ((S.go e1).mut h1 h2 ⟨_, upd_same, ((m.take n).append (.cons rv .nil)).append (m.drop n)⟩)
  · rw [if_neg hl] at k
    exact k.elim
def setL (ρ : Rho) (i : Nat) (ds : List PD) (x : PD) : PD → SR
  | .int k => match ixN ds.length k with
    | some j => .nx (ρ.set i (some (.o (.list (ds.set j x)))))
    | none => .bad
  | _ => .bad
def sLset (i : Nat) (g gi : Rho → R PD) : Rho → SR := fun ρ => SR.of (g ρ) fun x => ownL ρ i fun ds => SR.of (gi ρ) fun y => setL ρ i ds x y
theorem ds_lset (i : Nat) {te ti : TE} {gi : Rho → R PD} (h : TDe K W te g) (hi : TDr K W ti gi) : TDS K W (tAsg te (gSub (tVar i) ti rSetL)) (sLset i g gi) := fun F0 H0 F H σ ρ D S q =>
  h F0 H0 F H σ ρ _ S (q.of S.ext fun x F1 H1 e1 k v rv => by
    have S1 := S.go e1
    obtain ⟨p, ds, vs, h1, h2, h3, h4, k⟩ := ownL_k S1 k
    refine ⟨.ref p, h2, hi F0 H0 F1 H1 σ ρ _ S1 (k.of S1.ext fun y F2 H2 e2 k u ru => ?_)⟩
    unfold setL at k
    split at k
    · rename_i c
      split at k
      · rename_i j ej
        have := ru.int
        subst this
        have h5 := e2.h p _ h3
        exact ⟨p, vs, c, j, rfl, rfl, h5, by rw [h4.length]; exact ej, k _ _ _ ((S1.go e2).mut h1 h2 ⟨_, upd_same, (h4.mono e2.f).set j (rv.mono e2.f)⟩)⟩
      · exact k.elim
    · exact k.elim)
end
end DL
/-! The plain side: equations of the functions on data, for simp; loops by an invariant. -/
namespace DL
open PySem L2
/-- a text's signs, as numbers -/
def cs (z : Str) : List Nat := z.cps.toList
/-- a text of one sign -/
def sg (c : Nat) : Str := ⟨#[c]⟩
theorem cs_len (z : Str) : (cs z).length = z.length := Array.length_toList
theorem cs_ext {z w : Str} (h : cs z = cs w) : z = w := by
  cases z
  cases w
  unfold cs at h
  simp only at h
  rw [Array.toList_inj.mp h]
@[simp] theorem cs_sg (c : Nat) : cs (sg c) = [c] := rfl
@[simp] theorem sg_len (c : Nat) : (sg c).length = 1 := rfl
@[simp] theorem cs_app (z w : Str) : cs (z ++ w) = cs z ++ cs w := by
  show (z ++ w).cps.toList = _
  rw [PySem.Str.cps_append]
  simp [cs]
@[simp] theorem len_app (z w : Str) : (z ++ w).length = z.length + w.length := PySem.Str.length_append z w
theorem signs_eq (z : Str) : signs z = (cs z).map fun c => .str (sg c) := rfl
section
variable {α β : Type} (ρ ρ' : Rho) (g ga gb gc : Rho → R PD) (gt gt' : Rho → R Bool) (f f' : PD → PD → R PD) (gr : Rho → R (List PD)) (s s' : Rho → SR) (i : Nat)
@[simp] theorem x_bind_ok (a : α) (f : α → R β) : (R.ok a).bind f = f a := rfl
@[simp] theorem x_bind_exc (c : Ec) (f : α → R β) : (R.exc c : R α).bind f = .exc c := rfl
@[simp] theorem x_bind_bad (f : α → R β) : (R.bad : R α).bind f = .bad := rfl
@[simp] theorem x_eC (x : PD) : eC x ρ = .ok x := rfl
@[simp] theorem x_eOp : eOp f ga gb ρ = (ga ρ).bind fun a => (gb ρ).bind fun b => f a b := rfl
@[simp] theorem x_eUn (f : PD → R PD) : eUn f ga ρ = (ga ρ).bind f := rfl
@[simp] theorem x_eFz : eFz g ρ = (g ρ).bind notDict := rfl
@[simp] theorem x_notDict (l : List PD) : notDict (.list l) = .ok (.list l) := rfl
@[simp] theorem x_bOf : bOf g ρ = (g ρ).bind asB := rfl
@[simp] theorem x_asB (b : Bool) : asB (.bool b) = .ok b := rfl
@[simp] theorem x_bAnd : bAnd gt gt' ρ = (gt ρ).bind fun c => if c = true then gt' ρ else .ok false := rfl
@[simp] theorem x_bOr : bOr gt gt' ρ = (gt ρ).bind fun c => if c = true then .ok true else gt' ρ := rfl
@[simp] theorem x_bNot : bNot gt ρ = (gt ρ).bind fun c => .ok !c := rfl
@[simp] theorem x_eAnd : eAnd ga gb ρ = (ga ρ).bind fun a => (asB a).bind fun c => if c = true then gb ρ else .ok (.bool false) := rfl
@[simp] theorem x_eOr : eOr ga gb ρ = (ga ρ).bind fun a => (asB a).bind fun c => if c = true then .ok (.bool true) else gb ρ := rfl
@[simp] theorem x_eNot : eNot ga ρ = (ga ρ).bind fun a => (asB a).bind fun c => .ok (.bool !c) := rfl
@[simp] theorem x_eIf : eIf gt ga gb ρ = (gt ρ).bind fun c => if c = true then ga ρ else gb ρ := rfl
@[simp] theorem x_eChain : eChain f f' ga gb gc ρ = (ga ρ).bind fun a => (gb ρ).bind fun b => (f a b).bind fun z => (asB z).bind fun k => if k = true then (gc ρ).bind fun c => f' b c else .ok (.bool false) := rfl
@[simp] theorem x_aNil : aNil ρ = .ok [] := rfl
@[simp] theorem x_aCons : aCons ga gr ρ = (ga ρ).bind fun a => (gr ρ).bind fun l => .ok (a :: l) := rfl
@[simp] theorem x_eTup : eTup gr ρ = (gr ρ).bind fun l => if l.length ≤ sizeLine then .ok (.tuple l) else .bad := rfl
@[simp] theorem x_oLst : oLst gr ρ = (gr ρ).bind fun l => if l.length ≤ sizeLine then .ok (.list l) else .bad := rfl
@[simp] theorem x_eCB (f : List PD → R PD) : eCB f gr ρ = (gr ρ).bind f := rfl
@[simp] theorem x_eCall (n : Nat) (f : List PD → FR) : eCall n f gr ρ = (gr ρ).bind fun ds => if ds.length = n then (f ds).toE else .bad := rfl
@[simp] theorem x_oCall (n : Nat) (f : List PD → FR) : oCall n f gr ρ = (gr ρ).bind fun ds => if ds.length = n then (f ds).toO else .bad := rfl
@[simp] theorem x_eCallR (n : Nat) (f : List PD → FR) : eCallR n f gr ρ = (gr ρ).bind fun ds => if ds.length = n ∧ ds.all (fun d => !isDict d) = true then (f ds).toS else .bad := rfl
@[simp] theorem x_eCall0 (f : List PD → FR) : eCall0 f ρ = noExc (f []).toE := rfl
@[simp] theorem x_oCall0 (f : List PD → FR) : oCall0 f ρ = noExc (f []).toO := rfl
@[simp] theorem x_noExc_ok (a : α) : noExc (R.ok a) = .ok a := rfl
@[simp] theorem x_toE_d (x : PD) : (FR.rt (.d x)).toE = .ok x := rfl
@[simp] theorem x_toE_o (l : List PD) : (FR.rt (.o (.list l))).toE = .ok (.list l) := rfl
@[simp] theorem x_toE_x (c : Ec) : (FR.exc c).toE = .exc c := rfl
@[simp] theorem x_toO_o (x : PD) : (FR.rt (.o x)).toO = .ok x := rfl
@[simp] theorem x_toO_x (c : Ec) : (FR.exc c).toO = .exc c := rfl
@[simp] theorem x_toS (x : PD) : (FR.rt (.d x)).toS = if scalD x = true then .ok x else .bad := rfl
@[simp] theorem x_scal_i (i : Int) : scalD (.int i) = true := rfl
@[simp] theorem x_scal_b (i : Bool) : scalD (.bool i) = true := rfl
@[simp] theorem x_scal_s (i : Str) : scalD (.str i) = true := rfl
@[simp] theorem x_scal_n : scalD .none = true := rfl
@[simp] theorem x_dict_l (l : List PD) : isDict (.list l) = false := rfl
@[simp] theorem x_dict_t (l : List PD) : isDict (.tuple l) = false := rfl
@[simp] theorem x_dict_i (l : Int) : isDict (.int l) = false := rfl
@[simp] theorem x_dict_s (l : Str) : isDict (.str l) = false := rfl
@[simp] theorem x_dict_b (l : Bool) : isDict (.bool l) = false := rfl
@[simp] theorem x_dict_n : isDict .none = false := rfl
@[simp] theorem x_eIsi (T : String) : eIsi T g ρ = (g ρ).bind (isiD T) := rfl
@[simp] theorem x_eM0 (f : PD → List PD → R PD) : eM0 f g ρ = (g ρ).bind fun a => strOf a (f a []) := rfl
@[simp] theorem x_eM1 (f : PD → List PD → R PD) : eM1 f g ga ρ = (g ρ).bind fun a => strOf a ((ga ρ).bind fun b => f a [b]) := rfl
@[simp] theorem x_strOf (z : Str) (k : R PD) : strOf (.str z) k = k := rfl
@[simp] theorem x_eSl (gl gh : Rho → R (Option Int)) : eSl g gl gh ρ = (g ρ).bind fun a => (gl ρ).bind fun l => (gh ρ).bind fun h => slD a l h := rfl
@[simp] theorem x_oSl (gl gh : Rho → R (Option Int)) : oSl g gl gh ρ = (g ρ).bind fun a => (gl ρ).bind fun l => (gh ρ).bind fun h => slL a l h := rfl
@[simp] theorem x_pNo : pNo ρ = .ok none := rfl
@[simp] theorem x_pSo : pSo g ρ = (g ρ).bind fun a => (asI a).bind fun i => .ok (some i) := rfl
@[simp] theorem x_asI (j : Int) : asI (.int j) = .ok j := rfl
-- statements
@[simp] theorem x_sSeq : sSeq s s' ρ = (s ρ).seq s' := rfl
@[simp] theorem x_seq_nx (k : Rho → SR) : (SR.nx ρ).seq k = k ρ := rfl
@[simp] theorem x_seq_rt (x : Sl) (k : Rho → SR) : (SR.rt x).seq k = .rt x := rfl
@[simp] theorem x_seq_bk (k : Rho → SR) : (SR.bk ρ).seq k = .bk ρ := rfl
@[simp] theorem x_seq_ct (k : Rho → SR) : (SR.ct ρ).seq k = .ct ρ := rfl
@[simp] theorem x_seq_exc (c : Ec) (k : Rho → SR) : (SR.exc c).seq k = .exc c := rfl
@[simp] theorem x_seq_bad (k : Rho → SR) : SR.bad.seq k = .bad := rfl
@[simp] theorem x_of_ok (a : α) (k : α → SR) : SR.of (.ok a) k = k a := rfl
@[simp] theorem x_of_exc (c : Ec) (k : α → SR) : SR.of (.exc c) k = .exc c := rfl
@[simp] theorem x_of_bad (k : α → SR) : SR.of (.bad) k = .bad := rfl
@[simp] theorem x_sNext : sNext ρ = .nx ρ := rfl
@[simp] theorem x_sBreak : sBreak ρ = .bk ρ := rfl
@[simp] theorem x_sCont : sCont ρ = .ct ρ := rfl
@[simp] theorem x_sSet : sSet i g ρ = SR.of (g ρ) fun x => .nx (ρ.set i (some (.d x))) := rfl
@[simp] theorem x_sSetO : sSetO i g ρ = SR.of (g ρ) fun x => .nx (ρ.set i (some (.o x))) := rfl
@[simp] theorem x_sAsg (a : Rho → PD → R Rho) : sAsg g a ρ = SR.of (g ρ) fun x => SR.ofT (a ρ x) := rfl
@[simp] theorem x_ofT : SR.ofT (.ok ρ) = .nx ρ := rfl
@[simp] theorem x_sRet : sRet g ρ = SR.of (g ρ) fun x => .rt (.d x) := rfl
@[simp] theorem x_sRetO : sRetO g ρ = SR.of (g ρ) fun x => .rt (.o x) := rfl
@[simp] theorem x_sIf : sIf gt s s' ρ = SR.of (gt ρ) fun c => if c = true then s ρ else s' ρ := rfl
@[simp] theorem x_sDrop : sDrop g ρ = SR.of (g ρ) fun _ => .nx ρ := rfl
@[simp] theorem x_sFor (gi : Rho → R (List PD)) (a : Rho → PD → R Rho) : sFor gi a s ρ = SR.of (gi ρ) fun ds => forD a s ds ρ := rfl
@[simp] theorem x_aName (x : PD) : aName i ρ x = .ok (ρ.set i (some (.d x))) := rfl
@[simp] theorem x_aTup (n : Nat) (b : Rho → List PD → R Rho) (xs : List PD) : aTup n b ρ (.tuple xs) = if xs.length = n then b ρ xs else .bad := rfl
@[simp] theorem x_asNil : asNil ρ [] = .ok ρ := rfl
@[simp] theorem x_asCons (a : Rho → PD → R Rho) (b : Rho → List PD → R Rho) (x : PD) (xs : List PD) : asCons a b ρ (x :: xs) = (a ρ x).bind fun ρ' => b ρ' xs := rfl
@[simp] theorem x_iItems : iItems g ρ = (g ρ).bind itemsOf := rfl
@[simp] theorem x_items_l (l : List PD) : itemsOf (.list l) = .ok l := rfl
@[simp] theorem x_items_t (l : List PD) : itemsOf (.tuple l) = .ok l := rfl
@[simp] theorem x_items_s (l : Str) : itemsOf (.str l) = .ok ((cs l).map fun c => .str (sg c)) := rfl
@[simp] theorem x_iRng1 : iRng1D gr ρ = (gr ρ).bind rng1 := rfl
@[simp] theorem x_iRng2 : iRng2D gr ρ = (gr ρ).bind rng2 := rfl
@[simp] theorem x_iEnum : iEnumD gr ρ = (gr ρ).bind enumO := rfl
@[simp] theorem x_enumO (l : List PD) : enumO [.list l] = .ok (enumD l) := rfl
@[simp] theorem x_iZip : iZipD gr ρ = (gr ρ).bind zipO := rfl
@[simp] theorem x_zipO (l m : List PD) : zipO [.list l, .list m] = .ok (zipD l m) := rfl
@[simp] theorem x_iRev : iRevD gr ρ = (gr ρ).bind revO := rfl
@[simp] theorem x_revO (l : List PD) : revO [.list l] = .ok l.reverse := rfl
@[simp] theorem x_gYes : gYes ρ = .ok true := rfl
@[simp] theorem x_oLc (gi : Rho → R (List PD)) (a : Rho → PD → R Rho) (ge : Rho → R PD) (vs : List Nat) : oLc gi a gt ge vs ρ = (gi ρ).bind fun ds => (noExc (lcL (lcE a gt ge (wipeD ρ vs)) ds)).bind fun l => if l.length ≤ sizeLine then .ok (.list l) else .bad := rfl
@[simp] theorem x_wipe_nil : wipeD ρ [] = ρ := rfl
@[simp] theorem x_wipe_cons (v : Nat) (vs : List Nat) : wipeD ρ (v :: vs) = (wipeD ρ vs).set v none := rfl
@[simp] theorem x_fr_nx : (SR.nx ρ).fr = .rt (.d .none) := rfl
@[simp] theorem x_fr_rt (x : Sl) : (SR.rt x).fr = .rt x := rfl
@[simp] theorem x_fr_exc (c : Ec) : (SR.exc c).fr = .exc c := rfl
@[simp] theorem x_run (n : Nat) (ds : List PD) : runD n s ds = (s (startD n ds)).fr := rfl
@[simp] theorem x_sFrz (is : List Nat) : sFrz is s ρ = s (is.foldl (fun ρ i => frz1 i ρ) ρ) := rfl
-- operators
@[simp] theorem x_add_i (i j : Int) : addD (.int i) (.int j) = .ok (.int (i + j)) := rfl
@[simp] theorem x_add_s (i j : Str) : addD (.str i) (.str j) = if i.length + j.length ≤ sizeLine then .ok (.str (i ++ j)) else .bad := rfl
@[simp] theorem x_add_l (i j : List PD) : addD (.list i) (.list j) = if i.length + j.length ≤ sizeLine then .ok (.list (i ++ j)) else .bad := rfl
@[simp] theorem x_add_t (i j : List PD) : addD (.tuple i) (.tuple j) = if i.length + j.length ≤ sizeLine then .ok (.tuple (i ++ j)) else .bad := rfl
@[simp] theorem x_addL (i j : List PD) : addL (.list i) (.list j) = if i.length + j.length ≤ sizeLine then .ok (.list (i ++ j)) else .bad := rfl
@[simp] theorem x_sub_i (i j : Int) : subD (.int i) (.int j) = .ok (.int (i - j)) := rfl
@[simp] theorem x_neg_i (i : Int) : negD (.int i) = .ok (.int (-i)) := rfl
@[simp] theorem x_cmp_i (p : Int → Int → Bool) (i j : Int) : cmpD p (.int i) (.int j) = .ok (.bool (p i j)) := rfl
@[simp] theorem x_eq (a b : PD) : eqD a b = (eqB a b).bind fun c => .ok (.bool c) := rfl
@[simp] theorem x_ne (a b : PD) : neD a b = (eqB a b).bind fun c => .ok (.bool !c) := rfl
@[simp] theorem x_eqB_i (i j : Int) : eqB (.int i) (.int j) = .ok (decide (i = j)) := rfl
@[simp] theorem x_eqB_s (i j : Str) : eqB (.str i) (.str j) = .ok (decide (i = j)) := rfl
@[simp] theorem x_eqB_b (i j : Bool) : eqB (.bool i) (.bool j) = .ok (decide (i = j)) := rfl
@[simp] theorem x_isN (a : PD) : isND a .none = .ok (.bool (isNB a)) := rfl
@[simp] theorem x_notN (a : PD) : notND a .none = .ok (.bool (!isNB a)) := rfl
@[simp] theorem x_isNB_n : isNB .none = true := rfl
@[simp] theorem x_isNB_i (i : Int) : isNB (.int i) = false := rfl
@[simp] theorem x_isNB_s (i : Str) : isNB (.str i) = false := rfl
@[simp] theorem x_isNB_b (i : Bool) : isNB (.bool i) = false := rfl
@[simp] theorem x_isNB_l (i : List PD) : isNB (.list i) = false := rfl
@[simp] theorem x_isNB_t (i : List PD) : isNB (.tuple i) = false := rfl
@[simp] theorem x_in (a b : PD) : inD a b = (inB a b).bind fun c => .ok (.bool c) := rfl
@[simp] theorem x_nin (a b : PD) : ninD a b = (inB a b).bind fun c => .ok (.bool !c) := rfl
theorem inS_one (z : Str) (c : Nat) : inS ⟨#[c]⟩ z = decide (c ∈ z.cps.toList) := PySem.StrLaws.found_one z c
@[simp] theorem x_in_sign (z : Str) (c : Nat) : inB (.str (sg c)) (.str z) = .ok (decide (c ∈ cs z)) := by
  show R.ok (inS _ _) = _
  unfold sg
  rw [inS_one]
  rfl
theorem flat_strs : ∀ l : List Str, (l.map PyData.str).all flatP = true
  | [] => rfl
  | _ :: l => by rw [List.map_cons, List.all_cons, flat_strs l]; rfl
theorem any_strs (z : Str) : ∀ l : List Str, ((l.map PyData.str).any fun d => eqF d (.str z)) = decide (z ∈ l)
  | [] => by simp
  | x :: l => by
    rw [List.map_cons, List.any_cons, any_strs z l]
    show ((x == z) || decide (z ∈ l)) = _
    by_cases h : x = z
    · subst h; simp
    · have h' : (x == z) = false := by simpa using h
      have h2 : ¬ z = x := fun e => h e.symm
      simp [h', h2]
@[simp] theorem x_in_strs (z : Str) (l : List Str) : inB (.str z) (.list (l.map PyData.str)) = .ok (decide (z ∈ l)) := by
  show (if flatP (.str z) = true ∧ (l.map PyData.str).all flatP = true then R.ok ((l.map PyData.str).any fun d => eqF d (.str z)) else _) = _
  rw [if_pos ⟨rfl, flat_strs l⟩, any_strs]
@[simp] theorem x_in_strsT (z : Str) (l : List Str) : inB (.str z) (.tuple (l.map PyData.str)) = .ok (decide (z ∈ l)) := by
  show (if flatP (.str z) = true ∧ (l.map PyData.str).all flatP = true then R.ok ((l.map PyData.str).any fun d => eqF d (.str z)) else _) = _
  rw [if_pos ⟨rfl, flat_strs l⟩, any_strs]
theorem x_mod (i j : Int) (h : 0 < j) : modD (.int i) (.int j) = .ok (.int (i % j)) := by
  show (if modB i j = true then R.ok (PyData.int (i.fmod j)) else _) = _
  have h1 : modB i j = true := by unfold modB; exact decide_eq_true (by omega)
  rw [if_pos h1, Int.fmod_eq_emod_of_nonneg _ (by omega)]
theorem x_div (i j : Int) (h : 0 < j) (h2 : j < 1073741824) : divD (.int i) (.int j) = .ok (.int (i / j)) := by
  show (if divB i j = true then R.ok (PyData.int (i.fdiv j)) else _) = _
  have h1 : divB i j = true := by unfold divB; rw [Bool.and_eq_true]; exact ⟨decide_eq_true (by omega), decide_eq_true (by omega)⟩
  rw [if_pos h1, Int.fdiv_eq_ediv_of_nonneg _ (by omega)]
theorem x_mul_l (i j : Int) (h : -(2 ^ 64) < i) (h2 : i < 2 ^ 64) : mulD (.int i) (.int j) = .ok (.int (i * j)) := by
  show (if mulB i j = true then R.ok (PyData.int (i * j)) else _) = _
  rw [if_pos (by unfold mulB; simp only [Bool.or_eq_true, Bool.and_eq_true, decide_eq_true_eq]; exact .inl ⟨h, h2⟩)]
theorem x_mul_r (i j : Int) (h : -(2 ^ 64) < j) (h2 : j < 2 ^ 64) : mulD (.int i) (.int j) = .ok (.int (i * j)) := by
  show (if mulB i j = true then R.ok (PyData.int (i * j)) else _) = _
  rw [if_pos (by unfold mulB; simp only [Bool.or_eq_true, Bool.and_eq_true, decide_eq_true_eq]; exact .inr ⟨h, h2⟩)]
theorem x_mul_s (z : Str) (k : Int) (h : -(2 ^ 62) ≤ k) (h2 : k < 2 ^ 62) (h3 : z.length * k.toNat ≤ sizeLine) : mulD (.str z) (.int k) = .ok (.str (mulS z k)) := by
  show (if small62 k = true ∧ z.length * k.toNat ≤ sizeLine then R.ok (PyData.str (mulS z k)) else _) = _
  rw [if_pos ⟨by unfold small62; rw [Bool.and_eq_true]; exact ⟨decide_eq_true h, decide_eq_true h2⟩, h3⟩]
-- items
theorem atI_nn {γ : Type} (l : List γ) (i : Int) (h : 0 ≤ i) : atI l i = l[i.toNat]? := by
  unfold atI ixN
  rw [if_pos h]
  split
  · rfl
  · rename_i h2
    exact (List.getElem?_eq_none (by omega)).symm
theorem x_ix_l (l : List PD) (i : Int) (d : PD) (h : 0 ≤ i) (e : l[i.toNat]? = some d) : ixD (.list l) (.int i) = .ok d := by
  show (match atI l i with | some d => R.ok d | none => .bad) = _
  rw [atI_nn l i h, e]
theorem x_ix_t (l : List PD) (i : Int) (d : PD) (h : 0 ≤ i) (e : l[i.toNat]? = some d) : ixD (.tuple l) (.int i) = .ok d := by
  show (match atI l i with | some d => R.ok d | none => .bad) = _
  rw [atI_nn l i h, e]
theorem x_ix_s (z : Str) (i : Int) (c : Nat) (hz : z.length ≤ sizeLine) (h : 0 ≤ i) (e : (cs z)[i.toNat]? = some c) : ixD (.str z) (.int i) = .ok (.str (sg c)) := by
  unfold cs at e
  show (if z.length ≤ sizeLine then (match atI z.cps.toList i with | some c => R.ok (PyData.str ⟨#[c]⟩) | none => .bad) else .bad) = _
  rw [if_pos hz, atI_nn _ i h, e]
  rfl
@[simp] theorem x_sl_l (l : List PD) (a b : Option Int) : slD (.list l) a b = .ok (.list (cutD l a b)) := rfl
@[simp] theorem x_sl_t (l : List PD) (a b : Option Int) : slD (.tuple l) a b = .ok (.tuple (cutD l a b)) := rfl
@[simp] theorem x_sl_s (z : Str) (a b : Option Int) : slD (.str z) a b = if z.length ≤ sizeLine then .ok (.str (cutS z a b)) else .bad := rfl
@[simp] theorem x_slL (l : List PD) (a b : Option Int) : slL (.list l) a b = .ok (.list (cutD l a b)) := rfl
@[simp] theorem x_len_l (l : List PD) : lenD [.list l] = .ok (.int l.length) := rfl
@[simp] theorem x_len_t (l : List PD) : lenD [.tuple l] = .ok (.int l.length) := rfl
@[simp] theorem x_len_s (z : Str) : lenD [.str z] = if z.length ≤ sizeLine then .ok (.int z.length) else .bad := rfl
@[simp] theorem x_list_l (l : List PD) : listD [.list l] = .ok (.list l) := rfl
@[simp] theorem x_list_t (l : List PD) : listD [.tuple l] = .ok (.list l) := rfl
@[simp] theorem x_tuple_l (l : List PD) : tupleD [.list l] = .ok (.tuple l) := rfl
@[simp] theorem x_tuple_t (l : List PD) : tupleD [.tuple l] = .ok (.tuple l) := rfl
@[simp] theorem x_sum (l : List Int) : sumD [.list (l.map PyData.int)] = .ok (.int l.sum) := by
  show (match asInts (l.map PyData.int) with | some ns => R.ok (PyData.int ns.sum) | none => .bad) = _
  rw [asInts_map]
@[simp] theorem x_any (l : List Bool) : anyD [.list (l.map PyData.bool)] = .ok (.bool (l.any id)) := by
  show (match asBools (l.map PyData.bool) with | some ns => R.ok (PyData.bool (ns.any id)) | none => .bad) = _
  rw [asBools_map]
@[simp] theorem x_all (l : List Bool) : allD [.list (l.map PyData.bool)] = .ok (.bool (l.all id)) := by
  show (match asBools (l.map PyData.bool) with | some ns => R.ok (PyData.bool (ns.all id)) | none => .bad) = _
  rw [asBools_map]
@[simp] theorem x_int_i (i : Int) : intD [.int i] = .ok (.int i) := rfl
@[simp] theorem x_int_b (i : Bool) : intD [.bool i] = .ok (.int (if i = true then 1 else 0)) := rfl
theorem x_int_s (z : Str) (n : Int) (h : PySem.intText? z = some n) (hz : z.length ≤ 640) : intD [.str z] = .ok (.int n) := by
  show (match PySem.intText? z with | some n => if z.length ≤ 640 then R.ok (PyData.int n) else .bad | none => .bad) = _
  rw [h]
  exact if_pos hz
theorem x_str (i : Int) (h : i.natAbs.log2 < 1920) : strD [.int i] = .ok (.str (toString i)) := if_pos h
@[simp] theorem x_max2 (i j : Int) : max2D [.int i, .int j] = .ok (.int (if j > i then j else i)) := rfl
@[simp] theorem x_min2 (i j : Int) : min2D [.int i, .int j] = .ok (.int (if j < i then j else i)) := rfl
@[simp] theorem x_starts (a b : Str) : startsD (.str a) [.str b] = .ok (.bool (Txt.startswith a b)) := rfl
@[simp] theorem x_count (a b : Str) : countD (.str a) [.str b] = .ok (.int (Txt.count a b)) := rfl
@[simp] theorem x_words (a : Str) : wordsD (.str a) [] = if a.length + 2 ≤ sizeLine then .ok (.list ((Txt.words a).map PyData.str)) else .bad := rfl
@[simp] theorem x_split (a b : Str) : splitD (.str a) [.str b] = if (b.length == 0) = false ∧ a.length + 2 ≤ sizeLine then .ok (.list ((Txt.split a b).map PyData.str)) else .bad := rfl
theorem x_join (a : Str) (ys : List Str) (h : (ys.map (·.length)).sum + ys.length * a.length ≤ 16777216) : joinD (.str a) [.list (ys.map PyData.str)] = .ok (.str (Txt.join a ys)) := by
  show (match asStrs (ys.map PyData.str) with | some ys => if (ys.map (fun y : Str => y.length)).sum + ys.length * a.length ≤ 16777216 then R.ok (PyData.str (Txt.join a ys)) else .bad | none => .bad) = _
  rw [asStrs_map]
  exact if_pos h
theorem x_rng1 (j : Int) (h : -(2 ^ 62) ≤ j) (h2 : j < 2 ^ 62) : rng1 [.int j] = .ok (rngD 0 j.toNat) := by
  show (if small62 j = true then R.ok (rngD 0 j.toNat) else .bad) = _
  rw [if_pos (by unfold small62; rw [Bool.and_eq_true]; exact ⟨decide_eq_true h, decide_eq_true h2⟩)]
theorem x_rng2 (i j : Int) (h : -(2 ^ 62) ≤ i) (h2 : i < 2 ^ 62) (h3 : -(2 ^ 62) ≤ j) (h4 : j < 2 ^ 62) : rng2 [.int i, .int j] = .ok (rngD i (j - i).toNat) := by
  show (if small62 i = true ∧ small62 j = true then R.ok (rngD i (j - i).toNat) else .bad) = _
  rw [if_pos ⟨by unfold small62; rw [Bool.and_eq_true]; exact ⟨decide_eq_true h, decide_eq_true h2⟩, by unfold small62; rw [Bool.and_eq_true]; exact ⟨decide_eq_true h3, decide_eq_true h4⟩⟩]
end
/-! ### isinstance of data -/
theorem isi (T : String) (a : PD) (b : Bool) (h : isiB T a = some b) : isiD T a = .ok (.bool b) := by
  unfold isiD
  rw [h]
@[simp] theorem isi_bool_b (b : Bool) : isiD "bool" (.bool b) = .ok (.bool true) := isi _ _ _ (show L2.kitB "bool" "bool" = some true by decide +kernel)
@[simp] theorem isi_bool_i (b : Int) : isiD "bool" (.int b) = .ok (.bool false) := isi _ _ _ (show L2.kitB "int" "bool" = some false by decide +kernel)
@[simp] theorem isi_bool_s (b : Str) : isiD "bool" (.str b) = .ok (.bool false) := isi _ _ _ (show L2.kitB "str" "bool" = some false by decide +kernel)
@[simp] theorem isi_bool_n : isiD "bool" .none = .ok (.bool false) := isi _ _ _ (show L2.kitB "NoneType" "bool" = some false by decide +kernel)
@[simp] theorem isi_bool_l (b : List PD) : isiD "bool" (.list b) = .ok (.bool false) := isi _ _ _ (show L2.kitB "list" "bool" = some false by decide +kernel)
@[simp] theorem isi_bool_t (b : List PD) : isiD "bool" (.tuple b) = .ok (.bool false) := isi _ _ _ (show L2.kitB "tuple" "bool" = some false by decide +kernel)
@[simp] theorem isi_int_b (b : Bool) : isiD "int" (.bool b) = .ok (.bool true) := isi _ _ _ (show L2.kitB "bool" "int" = some true by decide +kernel)
@[simp] theorem isi_int_i (b : Int) : isiD "int" (.int b) = .ok (.bool true) := isi _ _ _ (show L2.kitB "int" "int" = some true by decide +kernel)
@[simp] theorem isi_int_s (b : Str) : isiD "int" (.str b) = .ok (.bool false) := isi _ _ _ (show L2.kitB "str" "int" = some false by decide +kernel)
@[simp] theorem isi_int_n : isiD "int" .none = .ok (.bool false) := isi _ _ _ (show L2.kitB "NoneType" "int" = some false by decide +kernel)
@[simp] theorem isi_int_l (b : List PD) : isiD "int" (.list b) = .ok (.bool false) := isi _ _ _ (show L2.kitB "list" "int" = some false by decide +kernel)
@[simp] theorem isi_int_t (b : List PD) : isiD "int" (.tuple b) = .ok (.bool false) := isi _ _ _ (show L2.kitB "tuple" "int" = some false by decide +kernel)
@[simp] theorem isi_str_b (b : Bool) : isiD "str" (.bool b) = .ok (.bool false) := isi _ _ _ (show L2.kitB "bool" "str" = some false by decide +kernel)
@[simp] theorem isi_str_i (b : Int) : isiD "str" (.int b) = .ok (.bool false) := isi _ _ _ (show L2.kitB "int" "str" = some false by decide +kernel)
@[simp] theorem isi_str_s (b : Str) : isiD "str" (.str b) = .ok (.bool true) := isi _ _ _ (show L2.kitB "str" "str" = some true by decide +kernel)
@[simp] theorem isi_str_n : isiD "str" .none = .ok (.bool false) := isi _ _ _ (show L2.kitB "NoneType" "str" = some false by decide +kernel)
@[simp] theorem isi_str_l (b : List PD) : isiD "str" (.list b) = .ok (.bool false) := isi _ _ _ (show L2.kitB "list" "str" = some false by decide +kernel)
@[simp] theorem isi_str_t (b : List PD) : isiD "str" (.tuple b) = .ok (.bool false) := isi _ _ _ (show L2.kitB "tuple" "str" = some false by decide +kernel)
@[simp] theorem isi_list_b (b : Bool) : isiD "list" (.bool b) = .ok (.bool false) := isi _ _ _ (show L2.kitB "bool" "list" = some false by decide +kernel)
@[simp] theorem isi_list_i (b : Int) : isiD "list" (.int b) = .ok (.bool false) := isi _ _ _ (show L2.kitB "int" "list" = some false by decide +kernel)
@[simp] theorem isi_list_s (b : Str) : isiD "list" (.str b) = .ok (.bool false) := isi _ _ _ (show L2.kitB "str" "list" = some false by decide +kernel)
@[simp] theorem isi_list_n : isiD "list" .none = .ok (.bool false) := isi _ _ _ (show L2.kitB "NoneType" "list" = some false by decide +kernel)
@[simp] theorem isi_list_l (b : List PD) : isiD "list" (.list b) = .ok (.bool true) := isi _ _ _ (show L2.kitB "list" "list" = some true by decide +kernel)
@[simp] theorem isi_list_t (b : List PD) : isiD "list" (.tuple b) = .ok (.bool false) := isi _ _ _ (show L2.kitB "tuple" "list" = some false by decide +kernel)
@[simp] theorem isi_tuple_b (b : Bool) : isiD "tuple" (.bool b) = .ok (.bool false) := isi _ _ _ (show L2.kitB "bool" "tuple" = some false by decide +kernel)
@[simp] theorem isi_tuple_i (b : Int) : isiD "tuple" (.int b) = .ok (.bool false) := isi _ _ _ (show L2.kitB "int" "tuple" = some false by decide +kernel)
@[simp] theorem isi_tuple_s (b : Str) : isiD "tuple" (.str b) = .ok (.bool false) := isi _ _ _ (show L2.kitB "str" "tuple" = some false by decide +kernel)
@[simp] theorem isi_tuple_n : isiD "tuple" .none = .ok (.bool false) := isi _ _ _ (show L2.kitB "NoneType" "tuple" = some false by decide +kernel)
@[simp] theorem isi_tuple_l (b : List PD) : isiD "tuple" (.list b) = .ok (.bool false) := isi _ _ _ (show L2.kitB "list" "tuple" = some false by decide +kernel)
@[simp] theorem isi_tuple_t (b : List PD) : isiD "tuple" (.tuple b) = .ok (.bool true) := isi _ _ _ (show L2.kitB "tuple" "tuple" = some true by decide +kernel)

/-! ### loops -/
/-- a loop by what holds between two turns; P: what holds of its end -/
theorem forD_by {a : Rho → PD → R Rho} {body : Rho → SR} {P : SR → Prop} {xs : List PD} (I : Nat → Rho → Prop) {ρ : Rho} (h0 : I 0 ρ)
    (hs : ∀ (i : Nat) (x : PD) (ρ : Rho), xs[i]? = some x → I i ρ → ∃ ρ1, a ρ x = .ok ρ1 ∧ (match body ρ1 with
      | .nx ρ2 => I (i + 1) ρ2
      | .ct ρ2 => I (i + 1) ρ2
      | .bk ρ2 => P (.nx ρ2)
      | .rt s => P (.rt s)
      | .exc c => P (.exc c)
      | .bad => P .bad))
    (he : ∀ ρ, I xs.length ρ → P (.nx ρ)) : P (forD a body xs ρ) := by
  have go : ∀ (n i : Nat) (ρ : Rho), xs.length - i = n → i ≤ xs.length → I i ρ → P (forD a body (xs.drop i) ρ) := by
    intro n
    induction n with
    | zero =>
      intro i ρ h1 h2 h3
      have e : i = xs.length := by omega
      subst e
      rw [List.drop_length]
      exact he ρ h3
    | succ n ih =>
      intro i ρ h1 h2 h3
      have hl : i < xs.length := by omega
      rw [List.drop_eq_getElem_cons hl]
      obtain ⟨ρ1, e1, h4⟩ := hs i xs[i] ρ (List.getElem?_eq_getElem hl) h3
      unfold forD
      rw [e1]
      simp only
      cases e : body ρ1 with
      | nx ρ2 => rw [e] at h4; exact ih (i + 1) ρ2 (by omega) hl h4
      | ct ρ2 => rw [e] at h4; exact ih (i + 1) ρ2 (by omega) hl h4
      | bk ρ2 => rw [e] at h4; exact h4
      | rt s => rw [e] at h4; exact h4
      | exc c => rw [e] at h4; exact h4
      | bad => rw [e] at h4; exact h4
  exact go xs.length 0 ρ (by omega) (Nat.zero_le _) h0
/-- a comprehension whose items all give a value -/
theorem lcL_map {h : PD → R (Option PD)} : ∀ {xs : List PD} {f : PD → PD}, (∀ x ∈ xs, h x = .ok (some (f x))) → lcL h xs = .ok (xs.map f)
  | [], _, _ => rfl
  | x :: xs, f, e => by
    unfold lcL
    rw [e x List.mem_cons_self, lcL_map fun y hy => e y (List.mem_cons_of_mem _ hy)]
    rfl
theorem lcL_fmap {h : PD → R (Option PD)} : ∀ {xs : List PD} {f : PD → Option PD}, (∀ x ∈ xs, h x = .ok (f x)) → lcL h xs = .ok (xs.filterMap f)
  | [], _, _ => rfl
  | x :: xs, f, e => by
    unfold lcL
    rw [e x List.mem_cons_self, lcL_fmap fun y hy => e y (List.mem_cons_of_mem _ hy)]
    simp only [x_bind_ok, List.filterMap_cons]
    cases f x <;> rfl
end DL
namespace DL
open PySem L2
/-- a statement that goes on -/
theorem seq_nx {s s' : Rho → SR} {ρ ρ1 : Rho} (h : s ρ = .nx ρ1) : sSeq s s' ρ = s' ρ1 := by
  show (s ρ).seq s' = _
  rw [h]
  rfl
theorem seq_rt {s s' : Rho → SR} {ρ : Rho} {x : Sl} (h : s ρ = .rt x) : sSeq s s' ρ = .rt x := by
  show (s ρ).seq s' = _
  rw [h]
  rfl
theorem seq_exc {s s' : Rho → SR} {ρ : Rho} {x : Ec} (h : s ρ = .exc x) : sSeq s s' ρ = .exc x := by
  show (s ρ).seq s' = _
  rw [h]
  rfl
theorem if_t {g : Rho → R Bool} {s s' : Rho → SR} {ρ : Rho} (h : g ρ = .ok true) : sIf g s s' ρ = s ρ := by
  show SR.of (g ρ) _ = _
  rw [h]
  rfl
theorem if_f {g : Rho → R Bool} {s s' : Rho → SR} {ρ : Rho} (h : g ρ = .ok false) : sIf g s s' ρ = s' ρ := by
  show SR.of (g ρ) _ = _
  rw [h]
  rfl
theorem set_ok {i : Nat} {g : Rho → R PD} {ρ : Rho} {x : PD} (h : g ρ = .ok x) : sSet i g ρ = .nx (ρ.set i (some (.d x))) := by
  show SR.of (g ρ) _ = _
  rw [h]
  rfl
theorem setO_ok {i : Nat} {g : Rho → R PD} {ρ : Rho} {x : PD} (h : g ρ = .ok x) : sSetO i g ρ = .nx (ρ.set i (some (.o x))) := by
  show SR.of (g ρ) _ = _
  rw [h]
  rfl
theorem ret_ok {g : Rho → R PD} {ρ : Rho} {x : PD} (h : g ρ = .ok x) : sRet g ρ = .rt (.d x) := by
  show SR.of (g ρ) _ = _
  rw [h]
  rfl
end DL
namespace K02
open PySem PySem.Spec PyProof.Rows L2 DL
def kw_KEPT : List Str := [PySem.Str.ofString "a", PySem.Str.ofString "an", PySem.Str.ofString "the", PySem.Str.ofString "said", PySem.Str.ofString "claim", PySem.Str.ofString "on", PySem.Str.ofString "or", PySem.Str.ofString "then", PySem.Str.ofString "from", PySem.Str.ofString "to", PySem.Str.ofString "of", PySem.Str.ofString "at", PySem.Str.ofString "least", PySem.Str.ofString "most", PySem.Str.ofString "just", PySem.Str.ofString "is"]
def k_KEPT : PD := .tuple (kw_KEPT.map PyData.str)
def S_signs_among : Rho → SR :=
  (sSeq (sFor (iItems (eVar 0)) (aName 2) (sIf (bOf (eOp ninD (rVar 2) (rVar 1))) (sRet (eC (.bool false))) sNext)) (sRet (eC (.bool true))))
def d_signs_among : List PD → FR := runD 3 S_signs_among
def S_is_word : Rho → SR :=
  (sSeq (sIf (bOr (bNot (bOf (eChain leD leD (eC (.int 1)) (eCB lenD (aCons (rVar 0) aNil)) (eC (.int 8))))) (bOf (eOp inD (rVar 0) (eC k_KEPT)))) (sRet (eC (.bool false))) sNext) (sRet (eCall 2 d_signs_among (aCons (eVar 0) (aCons (eC (.str (PySem.Str.ofString "abcdefghijklmnopqrstuvwxyz"))) aNil)))))
def d_is_word : List PD → FR := runD 1 S_is_word
def S_word_rows : Rho → SR :=
  (sSeq (sSetO 1 (oLst aNil)) (sSeq (sFor (iEnumD (aCons (eFz (eM1 splitD (rVar 0) (eC (.str (PySem.Str.ofString "\n"))))) aNil)) (aTup 2 (asCons (aName 2) (asCons (aName 3) asNil))) (sSeq (sSet 4 (eFz (eM0 wordsD (rVar 3)))) (sIf (bOf (eOp neD (rVar 4) (eFz (oLst aNil)))) (sAppend 1 (eTup (aCons (eVar 2) (aCons (eVar 4) aNil)))) sNext))) (sRetV 1)))
def d_word_rows : List PD → FR := runD 5 S_word_rows
def S_kind_written : Rho → SR :=
  (sSeq (sIf (bAnd (bOf (eOp eqD (eCB lenD (aCons (rVar 0) aNil)) (eC (.int 2)))) (bAnd (bOf (eOp eqD (eOp ixD (rVar 0) (eC (.int 0))) (eC (.str (PySem.Str.ofString "kind"))))) (bOf (eCall 1 d_is_word (aCons (eOp ixD (rVar 0) (eC (.int 1))) aNil))))) (sRet (eTup (aCons (eOp ixD (rVar 0) (eC (.int 1))) (aCons (eC (.str (PySem.Str.ofString ""))) aNil)))) sNext) (sSeq (sIf (bOr (bOf (eOp neD (eCB lenD (aCons (rVar 0) aNil)) (eC (.int 4)))) (bOr (bOf (eOp neD (eOp ixD (rVar 0) (eC (.int 0))) (eC (.str (PySem.Str.ofString "kind"))))) (bOf (eOp neD (eOp ixD (rVar 0) (eC (.int 2))) (eC (.str (PySem.Str.ofString "of"))))))) (sRet (eC .none)) sNext) (sSeq (sIf (bOr (bNot (bOf (eCall 1 d_is_word (aCons (eOp ixD (rVar 0) (eC (.int 1))) aNil)))) (bNot (bOf (eCall 1 d_is_word (aCons (eOp ixD (rVar 0) (eC (.int 3))) aNil))))) (sRet (eC .none)) sNext) (sRet (eTup (aCons (eOp ixD (rVar 0) (eC (.int 1))) (aCons (eOp ixD (rVar 0) (eC (.int 3))) aNil)))))))
def d_kind_written : List PD → FR := runD 1 S_kind_written
def S_read_kinds : Rho → SR :=
  (sSeq (sSetO 1 (oLst aNil)) (sSeq (sFor (iItems (eCall 1 d_word_rows (aCons (eVar 0) aNil))) (aTup 2 (asCons (aName 2) (asCons (aName 3) asNil))) (sSeq (sSet 4 (eCall 1 d_kind_written (aCons (eVar 3) aNil))) (sSeq (sIf (bOf (eOp isND (rVar 4) (eC .none))) sBad sNext) (sSeq (sSet 5 (eFz (oUnf 1 (oLc (iItems (eVar 1)) (aTup 2 (asCons (aName 6) (asCons (aName 7) asNil))) gYes (eVar 6) [6, 7])))) (sSeq (sIf (bOf (eOp inD (eOp ixD (rVar 4) (eC (.int 0))) (rVar 5))) sBad sNext) (sSeq (sIf (bAnd (bOf (eOp neD (eOp ixD (rVar 4) (eC (.int 1))) (eC (.str (PySem.Str.ofString ""))))) (bOf (eOp ninD (eOp ixD (rVar 4) (eC (.int 1))) (rVar 5)))) sBad sNext) (sSeq (sIf (bOf (eOp eqD (eCB lenD (aCons (rVar 1) aNil)) (eC (.int 12)))) sBad sNext) (sAppend 1 (eVar 4))))))))) (sRetV 1)))
def d_read_kinds : List PD → FR := runD 8 S_read_kinds
def S_law_mix : Rho → SR :=
  (sRet (eOp modD (eOp mulD (eOp addD (eOp addD (rVar 0) (eOp mulD (rVar 1) (rVar 1))) (eC (.int 1))) (rVar 2)) (eC (.int 2305843009213693951))))
def d_law_mix : List PD → FR := runD 3 S_law_mix
def S_law_salt : Rho → SR :=
  (sRet (eCall 3 d_law_mix (aCons (eCB sumD (aCons (eFz (oLc (iItems (eSl (rVar 0) pNo (pSo (eC (.int 63))))) (aName 2) gYes (eOp modD (rVar 2) (eC (.int 1000003))) [2])) aNil)) (aCons (eOp modD (eCB lenD (aCons (rVar 0) aNil)) (eC (.int 64))) (aCons (eVar 1) aNil)))))
def d_law_salt : List PD → FR := runD 3 S_law_salt
def S_law_name : Rho → SR :=
  (sSeq (sSet 2 (eC (.str (PySem.Str.ofString "bcdefghijklmnopqrstuvwxyz")))) (sSeq (sSet 3 (eOp ixD (rVar 2) (eOp modD (eOp addD (eOp mulD (eC (.int 7)) (rVar 0)) (eOp divD (rVar 1) (eC (.int 7)))) (eC (.int 25))))) (sSeq (sIf (bOf (eOp eqD (eOp modD (rVar 1) (eC (.int 5))) (eC (.int 0)))) (sRetV 3) sNext) (sSeq (sIf (bAnd (bOf (eOp eqD (eOp modD (rVar 1) (eC (.int 5))) (eC (.int 1)))) (bOf (eOp ltD (rVar 0) (eC (.int 8))))) (sRet (eOp mulD (eOp ixD (rVar 2) (eOp modD (eOp divD (rVar 1) (eC (.int 5))) (eC (.int 7)))) (eOp addD (eC (.int 1)) (eOp modD (eOp addD (eOp mulD (eC (.int 3)) (rVar 0)) (eOp divD (rVar 1) (eC (.int 35)))) (eC (.int 8)))))) sNext) (sSeq (sSet 4 (eOp addD (eC (.int 2)) (eOp modD (eOp divD (rVar 1) (eC (.int 5))) (eC (.int 7))))) (sSeq (sSet 5 (eOp modD (eOp divD (rVar 1) (eC (.int 35))) (eOp subD (rVar 4) (eC (.int 1))))) (sSeq (sSet 6 (eOp mulD (eOp ixD (rVar 2) (eOp modD (eOp divD (rVar 1) (eC (.int 245))) (eC (.int 25)))) (rVar 5))) (sRet (eOp addD (eOp addD (eOp addD (rVar 6) (rVar 3)) (eC (.str (PySem.Str.ofString "q")))) (eOp mulD (eOp ixD (rVar 2) (eOp modD (eOp divD (rVar 1) (eC (.int 6125))) (eC (.int 25)))) (eOp subD (eOp subD (rVar 4) (rVar 5)) (eC (.int 2)))))))))))))
def d_law_name : List PD → FR := runD 7 S_law_name
def S_law_kinds : Rho → SR :=
  (sSeq (sSetO 2 (oLst aNil)) (sSeq (sFor (iRng1D (aCons (eCB lenD (aCons (rVar 0) aNil)) aNil)) (aName 3) (sSeq (sSet 4 (eCall 3 d_law_mix (aCons (eOp ixD (rVar 0) (rVar 3)) (aCons (eVar 3) (aCons (eC (.int 1234567890123456789)) aNil))))) (sSeq (sSet 5 (eC (.str (PySem.Str.ofString "")))) (sSeq (sIf (bAnd (bOf (eOp gtD (rVar 3) (eC (.int 0)))) (bOf (eOp gtD (eOp modD (rVar 4) (eC (.int 4))) (eC (.int 0))))) (sSet 5 (eOp ixD (eOp ixD (rVar 2) (eOp modD (eOp divD (rVar 4) (eC (.int 4))) (rVar 3))) (eC (.int 0)))) sNext) (sAppend 2 (eTup (aCons (eCall 2 d_law_name (aCons (eVar 3) (aCons (eVar 1) aNil))) (aCons (eVar 5) aNil)))))))) (sRetV 2)))
def d_law_kinds : List PD → FR := runD 6 S_law_kinds
def S_law_text : Rho → SR :=
  (sSeq (sSetO 2 (oLst aNil)) (sSeq (sFor (iRng1D (aCons (eCB lenD (aCons (rVar 0) aNil)) aNil)) (aName 3) (sSeq (sSet 4 (eCall 3 d_law_mix (aCons (eVar 1) (aCons (eVar 3) (aCons (eC (.int 1313131313131313131)) aNil))))) (sSeq (sSet 5 (eOp mulD (eC (.str (PySem.Str.ofString " "))) (eOp modD (rVar 4) (eC (.int 3))))) (sSeq (sFor (iItems (eOp ixD (rVar 0) (rVar 3))) (aName 6) (sSeq (sSet 5 (eOp addD (eOp addD (rVar 5) (rVar 6)) (eOp mulD (eC (.str (PySem.Str.ofString " "))) (eOp addD (eC (.int 1)) (eOp modD (eOp divD (rVar 4) (eC (.int 3))) (eC (.int 2))))))) (sSet 4 (eOp divD (rVar 4) (eC (.int 2)))))) (sSeq (sAppend 2 (eVar 5)) (sIf (bOf (eOp eqD (eOp modD (rVar 4) (eC (.int 5))) (eC (.int 1)))) (sAppend 2 (eOp mulD (eC (.str (PySem.Str.ofString " "))) (eOp modD (eOp divD (rVar 4) (eC (.int 5))) (eC (.int 2))))) sNext)))))) (sSeq (sIf (bOf (eOp eqD (eOp modD (eOp divD (rVar 1) (eC (.int 3))) (eC (.int 4))) (eC (.int 1)))) (sInsert 2 0 (eC (.str (PySem.Str.ofString "")))) sNext) (sRet (eM1 joinD (eC (.str (PySem.Str.ofString "\n"))) (rVar 2))))))
def d_law_text : List PD → FR := runD 7 S_law_text
def S_law : Rho → SR :=
  (sSeq (sSet 1 (eCall 2 d_law_salt (aCons (eVar 0) (aCons (eC (.int 187654321987654321)) aNil)))) (sSeq (sSet 2 (eSl (eOp addD (eSl (rVar 0) pNo (pSo (eC (.int 63)))) (eFz (oLst (aCons (eOp divD (rVar 1) (eC (.int 3))) (aCons (eOp divD (rVar 1) (eC (.int 5))) (aCons (eOp divD (rVar 1) (eC (.int 7))) (aCons (eOp divD (rVar 1) (eC (.int 11))) aNil))))))) pNo (pSo (eOp modD (eOp divD (rVar 1) (eC (.int 13))) (eC (.int 13)))))) (sSeq (sSet 3 (eCall 2 d_law_kinds (aCons (eVar 2) (aCons (eVar 1) aNil)))) (sSeq (sSetO 4 (oLst aNil)) (sSeq (sFor (iItems (eVar 3)) (aTup 2 (asCons (aName 5) (asCons (aName 6) asNil))) (sSeq (sSet 7 (eFz (oLst (aCons (eC (.str (PySem.Str.ofString "kind"))) (aCons (eVar 5) aNil))))) (sSeq (sIf (bOf (eOp neD (rVar 6) (eC (.str (PySem.Str.ofString ""))))) (sSet 7 (eOp addD (rVar 7) (eFz (oLst (aCons (eC (.str (PySem.Str.ofString "of"))) (aCons (eVar 6) aNil)))))) sNext) (sAppend 4 (eVar 7))))) (sSeq (sFrz [4] (sSet 8 (eCall 2 d_law_text (aCons (eVar 4) (aCons (eVar 1) aNil))))) (sSeq (sSetO 9 (oCall 1 d_read_kinds (aCons (eVar 8) aNil))) (sSeq (sIf (bOr (bNot (bOf (eIsi "list" (rVar 9)))) (bOr (bOf (eOp neD (rVar 9) (rVar 3))) (bNot (bOf (eCB allD (aCons (eFz (oUnf 9 (oLc (iItems (eVar 9)) (aName 10) gYes (eIsi "tuple" (rVar 10)) [10]))) aNil)))))) (sRet (eC (.bool false))) sNext) (sSeq (sAppend 9 (eTup (aCons (eC (.str (PySem.Str.ofString "zz"))) (aCons (eC (.str (PySem.Str.ofString ""))) aNil)))) (sSeq (sLset 9 (eTup (aCons (eC (.str (PySem.Str.ofString "zz"))) (aCons (eC (.str (PySem.Str.ofString ""))) aNil))) (eC (.int 0))) (sRet (eOp eqD (eCall 1 d_read_kinds (aCons (eVar 8) aNil)) (rVar 3)))))))))))))
def d_law : List PD → FR := runD 11 S_law
end K02
namespace K02
open PySem L2 DL

theorem sz {n : Nat} (h : n ≤ 16777216) : n ≤ sizeLine := by rw [sizeLine_eq]; exact h
theorem szl {n : Nat} (h : n < 16777216) : n < sizeLine := by rw [sizeLine_eq]; exact h
theorem append_ok {i : Nat} {g : Rho → R PD} {ρ : Rho} {ds : List PD} {x : PD} (h : ρ[i]? = some (some (.o (.list ds)))) (e : g ρ = .ok x) (hl : ds.length < sizeLine) : sAppend i g ρ = .nx (ρ.set i (some (.o (.list (ds ++ [x]))))) := by
  unfold sAppend ownL
  rw [h, e]
  exact if_pos hl
theorem dget_l {i : Nat} {g : Rho → R PD} {ρ : Rho} {kvs : List (PD × PD)} {a : Str} {d : PD} (h : ρ[i]? = some (some (.l (.dict kvs)))) (e : g ρ = .ok (.str a)) (hv : valD kvs (.inr a) = some d) : eDget i g ρ = .ok d := by
  unfold eDget dAt
  rw [h]
  simp only [x_bind_ok]
  rw [e]
  simp only [x_bind_ok]
  show (match valD kvs (.inr a) with | some d => R.ok d | none => .bad) = _
  rw [hv]
theorem dget_o {i : Nat} {g : Rho → R PD} {ρ : Rho} {kvs : List (PD × PD)} {a : Str} {d : PD} (h : ρ[i]? = some (some (.o (.dict kvs)))) (e : g ρ = .ok (.str a)) (hv : valD kvs (.inr a) = some d) : eDget i g ρ = .ok d := by
  unfold eDget dAt
  rw [h]
  simp only [x_bind_ok]
  rw [e]
  simp only [x_bind_ok]
  show (match valD kvs (.inr a) with | some d => R.ok d | none => .bad) = _
  rw [hv]
theorem dput_ok {i : Nat} {gk gv : Rho → R PD} {ρ : Rho} {kvs : List (PD × PD)} {a : Str} {d : PD} (h : ρ[i]? = some (some (.o (.dict kvs)))) (e : gk ρ = .ok (.str a)) (e2 : gv ρ = .ok d) (hl : kvs.length < sizeLine) : sDput i gk gv ρ = .nx (ρ.set i (some (.o (.dict (putD kvs (.inr a) d))))) := by
  unfold sDput dOwn
  rw [e2, h]
  simp only [x_of_ok]
  rw [e]
  exact if_pos hl
/-- a loop that ends by itself -/
theorem for_inv {a : Rho → PD → R Rho} {body : Rho → SR} (I : Rho → Prop) : ∀ {xs : List PD} {ρ : Rho}, (∀ x ∈ xs, ∀ ρ, I ρ → ∃ ρ1 ρ2, a ρ x = .ok ρ1 ∧ body ρ1 = .nx ρ2 ∧ I ρ2) → I ρ → ∃ ρ', forD a body xs ρ = .nx ρ' ∧ I ρ'
  | [], ρ, _, h => ⟨ρ, rfl, h⟩
  | x :: xs, ρ, hs, h => by
    obtain ⟨ρ1, ρ2, e1, e2, h2⟩ := hs x List.mem_cons_self ρ h
    obtain ⟨ρ', e3, h3⟩ := for_inv I (fun y hy => hs y (List.mem_cons_of_mem _ hy)) h2
    refine ⟨ρ', ?_, h3⟩
    unfold forD
    rw [e1]
    simp only
    rw [e2]
    exact e3

/-! ### kinds -/
abbrev Ks := List (Str × Str)
def eS : Str := Str.ofString ""
def kI (p : Str × Str) : PD := .tuple [.str p.1, .str p.2]
def kD (ws : Ks) : PD := .list (ws.map kI)
/-- from the last one on: names unlike, none empty; uppers told above -/
def Gr : Ks → Prop
  | [] => True
  | p :: r => p.1 ≠ eS ∧ p.1 ∉ r.map (·.1) ∧ (p.2 = eS ∨ p.2 ∈ r.map (·.1)) ∧ Gr r
theorem Gr.nodup : ∀ {r : Ks}, Gr r → (r.map (·.1)).Nodup
  | [], _ => List.nodup_nil
  | p :: r, h => by
    rw [List.map_cons, List.nodup_cons]
    exact ⟨h.2.1, Gr.nodup h.2.2.2⟩
theorem Gr.ne : ∀ {r : Ks}, Gr r → ∀ p ∈ r, p.1 ≠ eS
  | q :: r, h, p, hp => by
    rcases List.mem_cons.mp hp with e | e
    · rw [e]; exact h.1
    · exact Gr.ne h.2.2.2 p e
/-- the uppers of a word, from below -/
def chR : Ks → Str → List Str
  | [], _ => []
  | p :: r, w => if p.1 = w ∧ p.2 ≠ eS then p.2 :: chR r p.2 else chR r w
theorem chR_cons (p : Str × Str) (r : Ks) (w : Str) : chR (p :: r) w = if p.1 = w ∧ p.2 ≠ eS then p.2 :: chR r p.2 else chR r w := rfl
theorem chR_none : ∀ (r : Ks) (w : Str), w ∉ r.map (·.1) → chR r w = []
  | [], _, _ => rfl
  | p :: r, w, h => by
    rw [List.map_cons, List.mem_cons, not_or] at h
    rw [chR_cons, if_neg (fun q => h.1 q.1.symm)]
    exact chR_none r w h.2

theorem fold_list : ∀ (l : List (Array Nat)) (a : Array Nat), (l.foldl (· ++ ·) a).toList = a.toList ++ (l.map Array.toList).flatten
  | [], a => by simp
  | x :: l, a => by rw [List.foldl_cons, fold_list l]; simp
theorem mulS_sg (c : Nat) (n : Int) : cs (mulS (sg c) n) = List.replicate n.toNat c := by
  unfold mulS
  by_cases h : n < 1
  · rw [if_pos h, show n.toNat = 0 by omega]
    rfl
  · rw [if_neg h]
    show ((List.replicate n.toNat (sg c).cps).foldl (· ++ ·) #[]).toList = _
    rw [fold_list, List.map_replicate]
    show [] ++ (List.replicate n.toNat [c]).flatten = _
    rw [List.nil_append, List.flatten_replicate_singleton]
theorem let_cs : cs (Str.ofString "bcdefghijklmnopqrstuvwxyz") = List.range' 98 25 := by decide +kernel
theorem let_ix (i : Int) (h : 0 ≤ i) (h2 : i < 25) : ixD (.str (Str.ofString "bcdefghijklmnopqrstuvwxyz")) (.int i) = .ok (.str (sg (98 + i.toNat))) := by
  refine x_ix_s _ i _ (sz (by decide +kernel)) h ?_
  rw [let_cs, List.getElem?_range' (by omega)]
  simp
def tT (s : Int) (k : Nat) : Nat := 98 + ((7 * (k : Int) + s / 7) % 25).toNat
def nmL (s : Int) (k : Nat) : List Nat :=
  if s % 5 = 0 then [tT s k]
  else if s % 5 = 1 ∧ k < 8 then List.replicate (1 + (3 * (k : Int) + s / 35) % 8).toNat (98 + (s / 5 % 7).toNat)
  else List.replicate (s / 35 % (2 + s / 5 % 7 - 1)).toNat (98 + (s / 245 % 25).toNat) ++ [tT s k] ++ [113] ++ List.replicate (2 + s / 5 % 7 - s / 35 % (2 + s / 5 % 7 - 1) - 2).toNat (98 + (s / 6125 % 25).toNat)
def nm (s : Int) (k : Nat) : Str := ⟨(nmL s k).toArray⟩
theorem nm_cs (s : Int) (k : Nat) : cs (nm s k) = nmL s k := rfl
theorem nm_of {z : Str} {s : Int} {k : Nat} (h : cs z = nmL s k) : z = nm s k := cs_ext (by rw [h, nm_cs])
theorem law_name (s : Int) (k : Nat) (h : 0 ≤ s) (h2 : s < 2 ^ 62) (hk : k < 12) : d_law_name [.int k, .int s] = .rt (.d (.str (nm s k))) := by
  show (S_law_name [some (.d (.int k)), some (.d (.int s)), none, none, none, none, none]).fr = _
  unfold S_law_name
  generalize eL : Str.ofString "bcdefghijklmnopqrstuvwxyz" = L
  have ix := fun i h h2 => eL ▸ let_ix i h h2
  rw [seq_nx (ρ1 := [some (.d (.int k)), some (.d (.int s)), some (.d (.str L)), none, none, none, none]) (by simp)]
  have m7 := x_mul_l 7 (k : Int) (by decide) (by decide)
  have m3 := x_mul_l 3 (k : Int) (by decide) (by decide)
  have d7 := x_div s 7 (by decide) (by decide)
  have d5 := x_div s 5 (by decide) (by decide)
  have d35 := x_div s 35 (by decide) (by decide)
  have d245 := x_div s 245 (by decide) (by decide)
  have d6125 := x_div s 6125 (by decide) (by decide)
  have md := fun (a : Int) => x_mod a 25 (by decide)
  have md5 := fun (a : Int) => x_mod a 5 (by decide)
  have md7 := fun (a : Int) => x_mod a 7 (by decide)
  have md8 := fun (a : Int) => x_mod a 8 (by decide)
  rw [seq_nx (ρ1 := [some (.d (.int k)), some (.d (.int s)), some (.d (.str L)), some (.d (.str (sg (tT s k)))), none, none, none]) (by
    have := ix ((7 * (k : Int) + s / 7) % 25) (by omega) (by omega)
    simp [rVar, m7, d7, md, this, tT])]
  by_cases c : s % 5 = 0
  · rw [seq_rt (x := .d (.str (sg (tT s k)))) (by
      rw [if_t (by simp [rVar, md5, c])]
      rfl)]
    rw [nm_of (z := sg (tT s k)) (s := s) (k := k) (by unfold nmL; rw [if_pos c]; rfl)]
    rfl
  rw [seq_nx (ρ1 := [some (.d (.int k)), some (.d (.int s)), some (.d (.str L)), some (.d (.str (sg (tT s k)))), none, none, none]) (by
    rw [if_f (by simp [rVar, md5, c])]
    rfl)]
  by_cases c1 : s % 5 = 1 ∧ k < 8
  · have k8 : (k : Int) < 8 := by omega
    have e1 := ix (s / 5 % 7) (by omega) (by omega)
    have sl : (sg (98 + (s / 5 % 7).toNat)).length * (1 + (3 * (k : Int) + s / 35) % 8).toNat ≤ sizeLine := sz (by rw [sg_len]; omega)
    have e2 := x_mul_s (sg (98 + (s / 5 % 7).toNat)) (1 + (3 * (k : Int) + s / 35) % 8) (by omega) (by omega) sl
    rw [seq_rt (x := .d (.str (nm s k))) (by
      rw [if_t (by simp [rVar, md5, c1, k8])]
      refine ret_ok ?_
      rw [← nm_of (z := mulS (sg (98 + (s / 5 % 7).toNat)) (1 + (3 * (k : Int) + s / 35) % 8)) (s := s) (k := k) (by unfold nmL; rw [if_neg c, if_pos c1, mulS_sg])]
      simp [rVar, d5, md7, e1, m3, d35, md8, e2])]
    rfl
  rw [seq_nx (ρ1 := [some (.d (.int k)), some (.d (.int s)), some (.d (.str L)), some (.d (.str (sg (tT s k)))), none, none, none]) (by
    by_cases q : s % 5 = 1
    · have k8 : ¬ (k : Int) < 8 := fun w => c1 ⟨q, by omega⟩
      rw [if_f (by simp [rVar, md5, q, k8])]
      rfl
    · rw [if_f (by simp [rVar, md5, q])]
      rfl)]
  rw [seq_nx (ρ1 := [some (.d (.int k)), some (.d (.int s)), some (.d (.str L)), some (.d (.str (sg (tT s k)))), some (.d (.int (2 + s / 5 % 7))), none, none]) (by simp [rVar, d5, md7])]
  have mz := x_mod (s / 35) (2 + s / 5 % 7 - 1) (by omega)
  have hz : 0 ≤ s / 35 % (2 + s / 5 % 7 - 1) ∧ s / 35 % (2 + s / 5 % 7 - 1) < 2 + s / 5 % 7 - 1 := ⟨Int.emod_nonneg _ (by omega), Int.emod_lt_of_pos _ (by omega)⟩
  rw [seq_nx (ρ1 := [some (.d (.int k)), some (.d (.int s)), some (.d (.str L)), some (.d (.str (sg (tT s k)))), some (.d (.int (2 + s / 5 % 7))), some (.d (.int (s / 35 % (2 + s / 5 % 7 - 1)))), none]) (by simp [rVar, d35, mz])]
  have e1 := ix (s / 245 % 25) (by omega) (by omega)
  have e3 := ix (s / 6125 % 25) (by omega) (by omega)
  have nmq : nmL s k = List.replicate (s / 35 % (2 + s / 5 % 7 - 1)).toNat (98 + (s / 245 % 25).toNat) ++ [tT s k] ++ [113] ++ List.replicate (2 + s / 5 % 7 - s / 35 % (2 + s / 5 % 7 - 1) - 2).toNat (98 + (s / 6125 % 25).toNat) := by
    unfold nmL
    rw [if_neg c, if_neg c1]
  generalize s / 35 % (2 + s / 5 % 7 - 1) = sp at hz nmq
  have s2 : 2 + s / 5 % 7 ≤ 8 ∧ 2 ≤ 2 + s / 5 % 7 := by omega
  generalize 2 + s / 5 % 7 = S at hz nmq s2
  have e2 := x_mul_s (sg (98 + (s / 245 % 25).toNat)) sp (by omega) (by omega) (sz (by rw [sg_len]; omega))
  have e4 := x_mul_s (sg (98 + (s / 6125 % 25).toNat)) (S - sp - 2) (by omega) (by omega) (sz (by rw [sg_len]; omega))
  rw [seq_nx (ρ1 := [some (.d (.int k)), some (.d (.int s)), some (.d (.str L)), some (.d (.str (sg (tT s k)))), some (.d (.int S)), some (.d (.int sp)), some (.d (.str (mulS (sg (98 + (s / 245 % 25).toNat)) sp)))]) (by simp [rVar, d245, md, e1, e2])]
  have q1 : Str.ofString "q" = sg 113 := by decide +kernel
  have l1 : (mulS (sg (98 + (s / 245 % 25).toNat)) sp).length + 1 ≤ sizeLine := sz (by rw [mulS_len, sg_len]; omega)
  have l2 : (mulS (sg (98 + (s / 245 % 25).toNat)) sp).length + 1 + 1 ≤ sizeLine := sz (by rw [mulS_len, sg_len]; omega)
  have l3 : (mulS (sg (98 + (s / 245 % 25).toNat)) sp).length + 1 + 1 + (mulS (sg (98 + (s / 6125 % 25).toNat)) (S - sp - 2)).length ≤ sizeLine := sz (by rw [mulS_len, mulS_len, sg_len, sg_len]; omega)
  rw [ret_ok (x := .str (nm s k)) (by
    rw [← nm_of (z := mulS (sg (98 + (s / 245 % 25).toNat)) sp ++ sg (tT s k) ++ sg 113 ++ mulS (sg (98 + (s / 6125 % 25).toNat)) (S - sp - 2)) (s := s) (k := k) (by
      rw [nmq, cs_app, cs_app, cs_app, mulS_sg, mulS_sg]
      rfl)]
    simp [rVar, q1, d6125, md, e3, e4, l1, l2, l3])]
  rfl
theorem nm_ne (s : Int) (k : Nat) (h : 0 ≤ s) : nm s k ≠ eS := by
  intro q
  have e : nmL s k = [] := by
    rw [← nm_cs, q]
    decide +kernel
  unfold nmL at e
  split at e
  · cases e
  · split at e
    · have := congrArg List.length e
      rw [List.length_replicate] at this
      simp at this
      omega
    · simp at e
theorem nm_inj (s : Int) (k j : Nat) (h : 0 ≤ s) (hk : k < 12) (hj : j < 12) (e : nm s k = nm s j) : k = j := by
  have e : nmL s k = nmL s j := by rw [← nm_cs, ← nm_cs, e]
  have tt : tT s k = tT s j → k = j := by
    intro q
    unfold tT at q
    omega
  unfold nmL at e
  by_cases c : s % 5 = 0
  · rw [if_pos c, if_pos c] at e
    injection e with e _
    exact tt e
  · rw [if_neg c, if_neg c] at e
    have third : ∀ (a : Nat) (x y z w : Nat) (b d : List Nat), List.replicate a x ++ [y] ++ [113] ++ b = List.replicate a x ++ [z] ++ [113] ++ d → y = z := by
      intro a x y z w b d q
      rw [List.append_assoc, List.append_assoc, List.append_assoc, List.append_assoc] at q
      have := List.append_cancel_left q
      injection this
    have noq : ∀ (a : Nat) (x y : Nat) (n : Nat) (b l : List Nat), x < 113 → List.replicate a x = l ++ [y] ++ [113] ++ b → False := by
      intro a x y n b l hx q
      have m : 113 ∈ List.replicate a x := by rw [q]; simp
      have := (List.mem_replicate.mp m).2
      omega
    by_cases c1 : s % 5 = 1 ∧ k < 8
    · rw [if_pos c1] at e
      by_cases c2 : s % 5 = 1 ∧ j < 8
      · rw [if_pos c2] at e
        have := congrArg List.length e
        rw [List.length_replicate, List.length_replicate] at this
        omega
      · rw [if_neg c2] at e
        exact (noq _ _ _ 0 _ _ (by omega) e).elim
    · rw [if_neg c1] at e
      by_cases c2 : s % 5 = 1 ∧ j < 8
      · rw [if_pos c2] at e
        exact (noq _ _ _ 0 _ _ (by omega) e.symm).elim
      · rw [if_neg c2] at e
        exact tt (third _ _ _ _ 0 _ _ e)
theorem law_mix (a b c : Int) (h : 0 ≤ b) (h2 : b < 1000) (hc : -(2 ^ 64) < c) (hc2 : c < 2 ^ 64) : d_law_mix [.int a, .int b, .int c] = .rt (.d (.int ((a + b * b + 1) * c % 2305843009213693951))) := by
  show (S_law_mix [some (.d (.int a)), some (.d (.int b)), some (.d (.int c))]).fr = _
  unfold S_law_mix
  rw [ret_ok (x := .int ((a + b * b + 1) * c % 2305843009213693951))]
  · rfl
  simp only [x_eOp, x_eC, rVar]
  simp [x_mul_l b b (by omega) (by omega), x_mul_r (a + b * b + 1) c hc hc2, x_mod _ 2305843009213693951 (by decide)]
theorem rng_get {lo : Int} {n i : Nat} {x : PD} (h : (rngD lo n)[i]? = some x) : i < n ∧ x = .int (lo + i) := by
  unfold rngD at h
  rw [List.getElem?_map] at h
  by_cases c : i < n
  · rw [List.getElem?_range c] at h
    exact ⟨c, by injection h with h; exact h.symm⟩
  · rw [List.getElem?_eq_none (by rw [List.length_range]; omega)] at h
    cases h
theorem rng_ok (n : Nat) (h : n ≤ 1000) : rng1 [.int (n : Int)] = .ok (rngD 0 n) := by
  have h1 : (n : Int) < 2 ^ 62 := Int.lt_of_le_of_lt (Int.ofNat_le.mpr h) (by decide)
  have h0 : -(2 ^ 62) ≤ (n : Int) := Int.le_trans (by decide) (Int.natCast_nonneg _)
  have e := x_rng1 (n : Int) h0 h1
  rwa [Int.toNat_natCast] at e
/-- kinds of this salt -/
def Ok (s : Int) (ws : Ks) : Prop := Gr ws.reverse ∧ ∀ (j : Nat) (p : Str × Str), ws[j]? = some p → p.1 = nm s j
theorem Ok.snoc {s : Int} {ws : Ks} (h0 : 0 ≤ s) (h : Ok s ws) (hl : ws.length < 12) (u : Str) (hu : u = eS ∨ u ∈ ws.map (·.1)) : Ok s (ws ++ [(nm s ws.length, u)]) := by
  refine ⟨?_, fun j p e => ?_⟩
  · have er : (ws ++ [(nm s ws.length, u)]).reverse = (nm s ws.length, u) :: ws.reverse := by simp
    rw [er]
    refine ⟨nm_ne s _ h0, fun q => ?_, ?_, h.1⟩
    · rw [List.map_reverse, List.mem_reverse] at q
      obtain ⟨p, hp, e⟩ := List.mem_map.mp q
      obtain ⟨j, hj⟩ := List.getElem?_of_mem hp
      have lt := (List.getElem?_eq_some_iff.mp hj).1
      rw [h.2 j p hj] at e
      have := nm_inj s j ws.length h0 (by omega) hl e
      omega
    · rcases hu with q | q
      · exact .inl q
      · exact .inr (by rw [List.map_reverse]; exact List.mem_reverse.mpr q)
  · by_cases c : j < ws.length
    · rw [List.getElem?_append_left c] at e
      exact h.2 j p e
    · rw [List.getElem?_append_right (by omega)] at e
      have : j - ws.length = 0 := by
        by_cases z : j - ws.length = 0
        · exact z
        · rw [List.getElem?_eq_none (by simp; omega)] at e
          cases e
      have ej : j = ws.length := by omega
      subst ej
      rw [Nat.sub_self] at e
      cases e
      rfl
theorem upper_ok (cl : List PD) (s m : Int) (k : Nat) (ws : Ks) (hl : ws.length = k) : ∃ u, (u = eS ∨ u ∈ ws.map (·.1)) ∧ sIf (bAnd (bOf (eOp gtD (rVar 3) (eC (.int 0)))) (bOf (eOp gtD (eOp modD (rVar 4) (eC (.int 4))) (eC (.int 0))))) (sSet 5 (eOp ixD (eOp ixD (rVar 2) (eOp modD (eOp divD (rVar 4) (eC (.int 4))) (rVar 3))) (eC (.int 0)))) sNext
      [some (.d (.list cl)), some (.d (.int s)), some (.o (.list (ws.map kI))), some (.d (.int k)), some (.d (.int m)), some (.d (.str eS))] = .nx [some (.d (.list cl)), some (.d (.int s)), some (.o (.list (ws.map kI))), some (.d (.int k)), some (.d (.int m)), some (.d (.str u))] := by
  have m4 := x_mod m 4 (by decide)
  have d4 := x_div m 4 (by decide) (by decide)
  by_cases k0 : (0 : Int) < (k : Int)
  · have k0n : 0 < k := Int.ofNat_lt.mp k0
    by_cases q : 0 < m % 4
    · have mk := x_mod (m / 4) (k : Int) k0
      have b0 : 0 ≤ m / 4 % (k : Int) := Int.emod_nonneg _ (by omega)
      have b1 : m / 4 % (k : Int) < k := Int.emod_lt_of_pos _ k0
      have lt : (m / 4 % (k : Int)).toNat < ws.length := by omega
      have e1 := x_ix_l (ws.map kI) (m / 4 % (k : Int)) (kI (ws[(m / 4 % (k : Int)).toNat]'lt)) b0 (by rw [List.getElem?_map, List.getElem?_eq_getElem lt]; rfl)
      have e2 := x_ix_t [.str (ws[(m / 4 % (k : Int)).toNat]'lt).1, .str (ws[(m / 4 % (k : Int)).toNat]'lt).2] 0 _ (by decide) rfl
      refine ⟨(ws[(m / 4 % (k : Int)).toNat]'lt).1, .inr (List.mem_map_of_mem (List.getElem_mem lt)), ?_⟩
      generalize ws[(m / 4 % (k : Int)).toNat]'lt = p at e1 e2
      rw [if_t (by simp [rVar, k0n, m4, q])]
      rw [set_ok (x := .str p.1) (by
        simp only [x_eOp, rVar, x_eC]
        simp [d4, mk, e1]
        exact e2)]
      rfl
    · refine ⟨eS, .inl rfl, ?_⟩
      rw [if_f (by simp [rVar, k0n, m4, q])]
      rfl
  · refine ⟨eS, .inl rfl, ?_⟩
    have k0n : ¬ 0 < k := fun z => k0 (Int.ofNat_lt.mpr z)
    rw [if_f (by simp [rVar, k0n])]
    rfl
theorem mix_step (cl : List PD) (k c m : Int) (s1 s2 y4 y5 : Option Sl) (hc : ixD (.list cl) (.int k) = .ok (.int c)) (em : d_law_mix [.int c, .int k, .int 1234567890123456789] = .rt (.d (.int m))) :
    sSet 4 (eCall 3 d_law_mix (aCons (eOp ixD (rVar 0) (rVar 3)) (aCons (eVar 3) (aCons (eC (.int 1234567890123456789)) aNil)))) [some (.d (.list cl)), s1, s2, some (.d (.int k)), y4, y5] = .nx [some (.d (.list cl)), s1, s2, some (.d (.int k)), some (.d (.int m)), y5] := by
  simp [rVar, eVar, hc, em, -x_run]
theorem kinds_turn (cl : List PD) (s : Int) (h0 : 0 ≤ s) (h1 : s < 2 ^ 62) (k : Nat) (c : Int) (hk : k < 12) (hc : ixD (.list cl) (.int (0 + (k : Int))) = .ok (.int c)) (ws : Ks) (hw : Ok s ws) (hl : ws.length = k) (y4 y5 : Option Sl) : ∃ ws' z4 z5, Ok s ws' ∧ ws'.length = k + 1 ∧
    (sSeq (sSet 4 (eCall 3 d_law_mix (aCons (eOp ixD (rVar 0) (rVar 3)) (aCons (eVar 3) (aCons (eC (.int 1234567890123456789)) aNil))))) (sSeq (sSet 5 (eC (.str (PySem.Str.ofString "")))) (sSeq (sIf (bAnd (bOf (eOp gtD (rVar 3) (eC (.int 0)))) (bOf (eOp gtD (eOp modD (rVar 4) (eC (.int 4))) (eC (.int 0))))) (sSet 5 (eOp ixD (eOp ixD (rVar 2) (eOp modD (eOp divD (rVar 4) (eC (.int 4))) (rVar 3))) (eC (.int 0)))) sNext) (sAppend 2 (eTup (aCons (eCall 2 d_law_name (aCons (eVar 3) (aCons (eVar 1) aNil))) (aCons (eVar 5) aNil)))))))
      [some (.d (.list cl)), some (.d (.int s)), some (.o (.list (ws.map kI))), some (.d (.int (0 + (k : Int)))), y4, y5] =
    .nx [some (.d (.list cl)), some (.d (.int s)), some (.o (.list (ws'.map kI))), some (.d (.int (0 + (k : Int)))), z4, z5] := by
  rw [show (0 + (k : Int)) = (k : Int) by omega] at *
  have em := law_mix c k 1234567890123456789 (Int.natCast_nonneg k) (Int.lt_of_lt_of_le (Int.ofNat_lt.mpr hk) (by decide)) (by decide) (by decide)
  have hm : 0 ≤ (c + (k : Int) * k + 1) * 1234567890123456789 % 2305843009213693951 := Int.emod_nonneg _ (by decide)
  generalize (c + (k : Int) * k + 1) * 1234567890123456789 % 2305843009213693951 = m at em hm
  have m4 := x_mod m 4 (by decide)
  have d4 := x_div m 4 (by decide) (by decide)
  rw [seq_nx (ρ1 := [some (.d (.list cl)), some (.d (.int s)), some (.o (.list (ws.map kI))), some (.d (.int k)), some (.d (.int m)), y5]) (mix_step cl k c m _ _ y4 y5 hc em)]
  rw [seq_nx (ρ1 := [some (.d (.list cl)), some (.d (.int s)), some (.o (.list (ws.map kI))), some (.d (.int k)), some (.d (.int m)), some (.d (.str eS))]) (by simp; rfl)]
  obtain ⟨u, hu, eu⟩ := upper_ok cl s m k ws hl
  rw [seq_nx eu]
  have en := law_name s k h0 h1 hk
  have s2 : (2 : Nat) ≤ sizeLine := sz (by decide)
  refine ⟨ws ++ [(nm s ws.length, u)], some (.d (.int m)), some (.d (.str u)), hw.snoc h0 (by omega) u hu, by rw [List.length_append, List.length_singleton, hl], ?_⟩
  rw [append_ok (ds := ws.map kI) (x := kI (nm s ws.length, u)) rfl (by
    rw [hl]
    simp only [x_eTup, x_aCons, x_aNil, x_eCall, eVar]
    simp [en, s2, -x_run]
    rfl) (by rw [List.length_map]; exact szl (by omega)), List.map_append]
  rfl
theorem law_kinds (cells : List Int) (s : Int) (h0 : 0 ≤ s) (h1 : s < 2 ^ 62) (hl : cells.length ≤ 12) : ∃ ws : Ks, d_law_kinds [.list (cells.map PyData.int), .int s] = .rt (.o (kD ws)) ∧ Gr ws.reverse ∧ (∀ p ∈ ws, ∃ j, p.1 = nm s j) ∧ ws.length ≤ 12 := by
  show ∃ ws : Ks, (S_law_kinds [some (.d (.list (cells.map PyData.int))), some (.d (.int s)), none, none, none, none]).fr = _ ∧ _
  unfold S_law_kinds
  rw [seq_nx (ρ1 := [some (.d (.list (cells.map PyData.int))), some (.d (.int s)), some (.o (.list (([] : Ks).map kI))), none, none, none]) (by simp)]
  rw [x_sSeq, x_sFor]
  have e1 : (iRng1D (aCons (eCB lenD (aCons (rVar 0) aNil)) aNil)) [some (.d (.list (cells.map PyData.int))), some (.d (.int s)), some (.o (.list (([] : Ks).map kI))), none, none, none] = .ok (rngD 0 cells.length) := by
    show (R.ok [PyData.int ((cells.map PyData.int).length : Nat)]).bind rng1 = _
    rw [x_bind_ok, List.length_map]
    exact rng_ok _ (by omega)
  rw [e1, x_of_ok]
  refine forD_by (P := fun r => ∃ ws : Ks, (r.seq (sRetV 2)).fr = .rt (.o (kD ws)) ∧ Gr ws.reverse ∧ (∀ p ∈ ws, ∃ j, p.1 = nm s j) ∧ ws.length ≤ 12)
    (fun i ρ => ∃ (ws : Ks) (y3 y4 y5 : Option Sl), Ok s ws ∧ ws.length = i ∧ ρ = [some (.d (.list (cells.map PyData.int))), some (.d (.int s)), some (.o (.list (ws.map kI))), y3, y4, y5]) ⟨[], none, none, none, ⟨True.intro, fun j p e => by simp at e⟩, rfl, rfl⟩ ?_ ?_
  · rintro i x ρ hx ⟨ws, y3, y4, y5, q1, q2, rfl⟩
    obtain ⟨hi, rfl⟩ := rng_get hx
    refine ⟨_, rfl, ?_⟩
    have hc := x_ix_l (cells.map PyData.int) (0 + (i : Int)) (.int (cells[i]'hi)) (by omega) (by
      rw [show (0 + (i : Int)).toNat = i by omega, List.getElem?_map, List.getElem?_eq_getElem hi]
      rfl)
    obtain ⟨ws', z4, z5, o1, o2, e⟩ := kinds_turn (cells.map PyData.int) s h0 h1 i (cells[i]'hi) (by omega) hc ws q1 q2 y4 y5
    simp only [List.set]
    rw [e]
    exact ⟨ws', _, _, _, o1, o2, rfl⟩
  · rintro ρ ⟨ws, y3, y4, y5, q1, q2, rfl⟩
    refine ⟨ws, rfl, q1.1, fun p hp => let ⟨j, hj⟩ := List.getElem?_of_mem hp; ⟨j, q1.2 j p hj⟩, ?_⟩
    rw [q2, rngD, List.length_map, List.length_range]
    exact hl
theorem cut63 (ns : List Int) (h : ns.length ≤ 63) : cutD (ns.map PyData.int) none (some 63) = ns.map PyData.int := by
  unfold cutD
  have e1 : HT.sIx (ns.map PyData.int).length 0 none = 0 := rfl
  have e2 : HT.sIx (ns.map PyData.int).length (ns.map PyData.int).length (some 63) = min 63 (ns.map PyData.int).length := HT.sIx_nat _ _ 63
  rw [e1, e2, List.length_map]
  show List.take (min 63 ns.length - 0) (List.drop 0 _) = _
  rw [List.drop_zero, List.take_of_length_le]
  rw [List.length_map]
  omega
theorem cut_to (l : List Int) (i : Int) (h : 0 ≤ i) : cutD (l.map PyData.int) none (some i) = (l.take i.toNat).map PyData.int := by
  obtain ⟨n, rfl⟩ := Int.eq_ofNat_of_zero_le h
  unfold cutD
  have e1 : HT.sIx (l.map PyData.int).length 0 none = 0 := rfl
  have e2 : HT.sIx (l.map PyData.int).length (l.map PyData.int).length (some ((n : Nat) : Int)) = min n (l.map PyData.int).length := HT.sIx_nat _ _ n
  rw [e1, e2, List.length_map]
  show List.take (min n l.length - 0) (List.drop 0 _) = _
  rw [List.drop_zero, Nat.sub_zero, ← List.map_take, Int.toNat_natCast]
  by_cases c : n ≤ l.length
  · rw [Nat.min_eq_left c]
  · rw [Nat.min_eq_right (by omega), List.take_of_length_le (by omega), List.take_of_length_le (by omega)]
def m1 : PD → PD
  | .int c => .int (c % 1000003)
  | d => d
theorem call3 {f : List PD → FR} {ga gb gc : Rho → R PD} {ρ : Rho} {a b c x : PD} (ha : ga ρ = .ok a) (hb : gb ρ = .ok b) (hc : gc ρ = .ok c) (h : f [a, b, c] = .rt (.d x)) : eCall 3 f (aCons ga (aCons gb (aCons gc aNil))) ρ = .ok x := by
  simp only [x_eCall, x_aCons, x_aNil, ha, hb, hc, x_bind_ok]
  show (if 3 = 3 then (f [a, b, c]).toE else R.bad) = _
  rw [if_pos rfl, h]
  rfl
theorem cb1 {f : List PD → R PD} {ga : Rho → R PD} {ρ : Rho} {a : PD} (ha : ga ρ = .ok a) : eCB f (aCons ga aNil) ρ = f [a] := by
  simp only [x_eCB, x_aCons, x_aNil, ha, x_bind_ok]
theorem op_ok {f : PD → PD → R PD} {ga gb : Rho → R PD} {ρ : Rho} {a b : PD} (ha : ga ρ = .ok a) (hb : gb ρ = .ok b) : eOp f ga gb ρ = f a b := by
  simp only [x_eOp, ha, hb, x_bind_ok]
theorem law_salt (ns : List Int) (h : ns.length ≤ 63) : ∃ s : Int, 0 ≤ s ∧ s < 2 ^ 62 ∧ d_law_salt [.list (ns.map PyData.int), .int 187654321987654321] = .rt (.d (.int s)) := by
  have hm := law_mix (ns.map fun c => c % 1000003).sum ((ns.length : Int) % 64) 187654321987654321 (by omega) (by omega) (by decide) (by decide)
  refine ⟨((ns.map fun c => c % 1000003).sum + (ns.length : Int) % 64 * ((ns.length : Int) % 64) + 1) * 187654321987654321 % 2305843009213693951, Int.emod_nonneg _ (by decide), Int.lt_trans (Int.emod_lt_of_pos _ (by decide)) (by decide), ?_⟩
  · show (S_law_salt [some (.d (.list (ns.map PyData.int))), some (.d (.int 187654321987654321)), none]).fr = _
    unfold S_law_salt
    have e := lcL_map (h := lcE (aName 2) gYes (eOp modD (rVar 2) (eC (.int 1000003))) [some (.d (.list (ns.map PyData.int))), some (.d (.int 187654321987654321)), none]) (xs := ns.map PyData.int) (f := m1) (fun x hx => by
      obtain ⟨c, _, rfl⟩ := List.mem_map.mp hx
      simp [lcE, rVar, x_mod c 1000003 (by decide)]
      rfl)
    have e2 : (ns.map PyData.int).map m1 = (ns.map fun c => c % 1000003).map PyData.int := by
      rw [List.map_map, List.map_map]
      rfl
    rw [e2] at e
    have l64 := x_mod (ns.length : Int) 64 (by decide)
    have hl : (ns.map fun c => c % 1000003).length ≤ sizeLine := sz (by rw [List.length_map]; omega)
    rw [ret_ok (x := .int (((ns.map fun c => c % 1000003).sum + (ns.length : Int) % 64 * ((ns.length : Int) % 64) + 1) * 187654321987654321 % 2305843009213693951))]
    · rfl
    · have e5 : eFz (oLc (iItems (eSl (rVar 0) pNo (pSo (eC (.int 63))))) (aName 2) gYes (eOp modD (rVar 2) (eC (.int 1000003))) [2]) [some (.d (.list (ns.map PyData.int))), some (.d (.int 187654321987654321)), none] = .ok (.list ((ns.map fun c => c % 1000003).map PyData.int)) := by
        simp only [x_eFz, x_oLc, x_iItems, x_eSl, rVar, x_pNo, x_pSo, x_eC]
        simp only [List.getElem?_cons_zero, x_bind_ok, x_asI, x_sl_l, cut63 ns h, x_items_l, x_wipe_cons, x_wipe_nil]
        show ((noExc (lcL (lcE (aName 2) gYes (eOp modD (rVar 2) (eC (.int 1000003))) [some (.d (.list (ns.map PyData.int))), some (.d (.int 187654321987654321)), none]) (ns.map PyData.int))).bind _).bind _ = _
        rw [e]
        show (if ((ns.map fun c => c % 1000003).map PyData.int).length ≤ sizeLine then R.ok (PyData.list ((ns.map fun c => c % 1000003).map PyData.int)) else .bad).bind notDict = _
        rw [if_pos (by rw [List.length_map]; exact hl)]
        rfl
      refine call3 ((cb1 e5).trans (x_sum _)) ((op_ok ((cb1 (a := .list (ns.map PyData.int)) rfl).trans ?_) (x_eC _ _)).trans l64) rfl hm
      show R.ok (PyData.int ((ns.map PyData.int).length : Nat)) = _
      rw [List.length_map]
theorem in_strs {ga gb : Rho → R PD} {ρ : Rho} {a : Str} {l : List Str} (ha : ga ρ = .ok (.str a)) (hb : gb ρ = .ok (.list (l.map PyData.str))) : eOp inD ga gb ρ = .ok (.bool (decide (a ∈ l))) := by
  rw [op_ok ha hb, x_in, x_in_strs]
  rfl
theorem bof {g : Rho → R PD} {ρ : Rho} {b : Bool} (h : g ρ = .ok (.bool b)) : bOf g ρ = .ok b := by
  rw [x_bOf, h]
  rfl
theorem call2o {f : List PD → FR} {ga gb : Rho → R PD} {ρ : Rho} {a b : PD} {l : List PD} (ha : ga ρ = .ok a) (hb : gb ρ = .ok b) (h : f [a, b] = .rt (.o (.list l))) : eCall 2 f (aCons ga (aCons gb aNil)) ρ = .ok (.list l) := by
  simp only [x_eCall, x_aCons, x_aNil, ha, hb, x_bind_ok]
  show (if 2 = 2 then (f [a, b]).toE else R.bad) = _
  rw [if_pos rfl, h]
  rfl
theorem call2 {f : List PD → FR} {ga gb : Rho → R PD} {ρ : Rho} {a b x : PD} (ha : ga ρ = .ok a) (hb : gb ρ = .ok b) (h : f [a, b] = .rt (.d x)) : eCall 2 f (aCons ga (aCons gb aNil)) ρ = .ok x := by
  simp only [x_eCall, x_aCons, x_aNil, ha, hb, x_bind_ok]
  show (if 2 = 2 then (f [a, b]).toE else R.bad) = _
  rw [if_pos rfl, h]
  rfl
theorem can_kinds : ∀ ws : Ks, (∀ p ∈ ws, PyData.strOk p.1 = true ∧ PyData.strOk p.2 = true) → PyData.canLayAll0 (ws.map kI) = true ∧ PyData.depthAll (ws.map kI) ≤ 1
  | [], _ => ⟨by simp [PyData.canLayAll0], by simp [PyData.depthAll]⟩
  | p :: ws, h => by
    obtain ⟨a, b⟩ := can_kinds ws fun q hq => h q (List.mem_cons_of_mem _ hq)
    obtain ⟨c, d⟩ := h p List.mem_cons_self
    rw [List.map_cons]
    refine ⟨?_, ?_⟩
    · simp [PyData.canLayAll0, PyData.canLay0, kI, a, c, d]
    · have : PyData.depth (kI p) = 1 := by simp [kI, PyData.depth, PyData.depthAll]
      simp only [PyData.depthAll, this]
      omega
theorem nm_ok (s : Int) (k : Nat) (h : 0 ≤ s) : PyData.strOk (nm s k) = true := by
  have all : ∀ x ∈ nmL s k, x < 0x110000 := by
    intro x hx
    have ht : tT s k < 200 := by unfold tT; omega
    unfold nmL at hx
    split at hx
    · rw [List.mem_singleton] at hx
      omega
    · split at hx
      · have := (List.mem_replicate.mp hx).2
        omega
      · simp only [List.mem_append, List.mem_singleton] at hx
        rcases hx with ((hx | hx) | hx) | hx
        · have := (List.mem_replicate.mp hx).2
          omega
        · omega
        · omega
        · have := (List.mem_replicate.mp hx).2
          omega
  unfold PyData.strOk nm
  simp only [List.all_toArray, List.all_eq_true, decide_eq_true_eq]
  exact all
theorem upper_in : ∀ (r : Ks), Gr r → ∀ p ∈ r, p.2 = eS ∨ p.2 ∈ r.map (·.1)
  | q :: r, h, p, hp => by
    rcases List.mem_cons.mp hp with e | e
    · subst e
      rcases h.2.2.1 with z | z
      · exact .inl z
      · exact .inr (by rw [List.map_cons]; exact List.mem_cons_of_mem _ z)
    · rcases upper_in r h.2.2.2 p e with z | z
      · exact .inl z
      · exact .inr (by rw [List.map_cons]; exact List.mem_cons_of_mem _ z)
theorem kinds_eq (s : Int) (h0 : 0 ≤ s) (ws : Ks) (hg : Gr ws.reverse) (hn : ∀ p ∈ ws, ∃ j, p.1 = nm s j) : eqD (kD ws) (kD ws) = .ok (.bool true) := by
  have names : ∀ z ∈ ws.map (·.1), PyData.strOk z = true := by
    intro z hz
    obtain ⟨p, hp, rfl⟩ := List.mem_map.mp hz
    obtain ⟨j, e⟩ := hn p hp
    rw [e]
    exact nm_ok s j h0
  obtain ⟨c1, c2⟩ := can_kinds ws fun p hp => ⟨names _ (List.mem_map_of_mem hp), by
    rcases upper_in _ hg p (List.mem_reverse.mpr hp) with z | z
    · rw [z]; decide +kernel
    · rw [List.map_reverse] at z
      exact names _ (List.mem_reverse.mp z)⟩
  have can : (kD ws).canLay0 = true := by
    unfold kD
    simp only [PyData.canLay0]
    exact c1
  have sh : SeqAt.shaped (kD ws) = true := by
    unfold SeqAt.shaped
    rw [can, Bool.true_and]
    refine decide_eq_true ?_
    unfold kD
    simp only [PyData.depth]
    omega
  rw [x_eq]
  show (if SeqAt.shaped (kD ws) = true ∧ SeqAt.shaped (kD ws) = true then R.ok (PyData.eqv (kD ws) (kD ws)) else .bad).bind _ = _
  rw [if_pos ⟨sh, sh⟩, SeqAt.eqv_refl _ can]
  rfl

def smallL : List Nat := [97, 98, 99, 100, 101, 102, 103, 104, 105, 106, 107, 108, 109, 110, 111, 112, 113, 114, 115, 116, 117, 118, 119, 120, 121, 122]
def figL : List Nat := [48, 49, 50, 51, 52, 53, 54, 55, 56, 57]
theorem small_cps : (Str.ofString "abcdefghijklmnopqrstuvwxyz").cps.toList = smallL := by decide +kernel
theorem small_len : (Str.ofString "abcdefghijklmnopqrstuvwxyz").length = 26 := by decide +kernel
theorem fig_cps : (Str.ofString "0123456789").cps.toList = figL := by decide +kernel
theorem fig_len : (Str.ofString "0123456789").length = 10 := by decide +kernel
theorem fig9_cps : (Str.ofString "123456789").cps.toList = [49, 50, 51, 52, 53, 54, 55, 56, 57] := by decide +kernel
theorem fig9_len : (Str.ofString "123456789").length = 9 := by decide +kernel

/-! ### is_word -/
theorem small_cs : cs (Str.ofString "abcdefghijklmnopqrstuvwxyz") = smallL := small_cps
theorem fig_cs : cs (Str.ofString "0123456789") = figL := fig_cps
def allIn (l w : List Nat) : Bool := l.all fun c => decide (c ∈ w)
theorem allIn_cons (c : Nat) (l w : List Nat) : allIn (c :: l) w = (decide (c ∈ w) && allIn l w) := rfl
theorem signs_loop (w : Str) (z : PD) : ∀ (l : List Nat) (x : Option Sl), ∃ y,
    forD (aName 2) (sIf (bOf (eOp ninD (rVar 2) (rVar 1))) (sRet (eC (.bool false))) sNext) (l.map fun c => .str (sg c)) [some (.d z), some (.d (.str w)), x] =
      if allIn l (cs w) = true then .nx [some (.d z), some (.d (.str w)), y] else .rt (.d (.bool false))
  | [], x => ⟨x, rfl⟩
  | c :: l, x => by
    obtain ⟨y, ih⟩ := signs_loop w z l (some (.d (.str (sg c))))
    rw [List.map_cons]
    unfold forD
    by_cases h : c ∈ cs w
    · refine ⟨y, ?_⟩
      simp [rVar, h, ih, allIn_cons]
    · refine ⟨x, ?_⟩
      simp [rVar, h, allIn_cons]
theorem signs_among (z w : Str) : d_signs_among [.str z, .str w] = .rt (.d (.bool (allIn (cs z) (cs w)))) := by
  obtain ⟨y, e⟩ := signs_loop w (.str z) (cs z) none
  simp [d_signs_among, S_signs_among, startD, eVar, e]
  by_cases h : allIn (cs z) (cs w) = true <;> simp [h]
def isW (z : Str) : Bool := decide (1 ≤ (z.length : Int)) && (decide ((z.length : Int) ≤ 8) && (!decide (z ∈ kw_KEPT) && allIn (cs z) smallL))
theorem is_word (z : Str) (hz : z.length ≤ 16777216) : d_is_word [.str z] = .rt (.d (.bool (isW z))) := by
  have h1 := sz hz
  simp only [d_is_word, S_is_word, startD, x_run]
  simp [rVar, eVar, h1, k_KEPT, signs_among, small_cs]
  unfold isW
  by_cases a : 1 ≤ (z.length : Int) <;> by_cases b : (z.length : Int) ≤ 8 <;> by_cases c : z ∈ kw_KEPT <;> simp [a, b, c, eVar, signs_among, small_cs]
end K02
namespace K02
open PySem L2 DL
/-! ### words -/
def keptBad (l : List Nat) : Bool := (l.all fun c => decide (c ≠ 113)) && !(decide (l = List.replicate l.length (l.headD 0)) && decide (98 ≤ l.headD 0))
theorem kept_bad : kw_KEPT.all (fun z => keptBad (cs z)) = true := by decide +kernel
theorem tT_in (s : Int) (k : Nat) : 98 ≤ tT s k ∧ tT s k ≤ 122 := by unfold tT; omega
theorem nm_bad (s : Int) (k : Nat) (h : 0 ≤ s) : keptBad (nmL s k) = false := by
  have ht := tT_in s k
  unfold nmL
  split
  · unfold keptBad
    simp [ht.1]
  · split
    · obtain ⟨n, e⟩ : ∃ n, (1 + (3 * (k : Int) + s / 35) % 8).toNat = n + 1 := ⟨(1 + (3 * (k : Int) + s / 35) % 8).toNat - 1, by omega⟩
      rw [e]
      unfold keptBad
      have h1 : (List.replicate (n + 1) (98 + (s / 5 % 7).toNat)).headD 0 = 98 + (s / 5 % 7).toNat := rfl
      rw [h1, List.length_replicate]
      have h2 : decide (98 ≤ 98 + (s / 5 % 7).toNat) = true := decide_eq_true (by omega)
      rw [h2]
      simp
    · unfold keptBad
      have : (List.all (List.replicate (s / 35 % (2 + s / 5 % 7 - 1)).toNat (98 + (s / 245 % 25).toNat) ++ [tT s k] ++ [113] ++ List.replicate (2 + s / 5 % 7 - s / 35 % (2 + s / 5 % 7 - 1) - 2).toNat (98 + (s / 6125 % 25).toNat)) fun c => decide (c ≠ 113)) = false := by
        rw [List.all_eq_false]
        exact ⟨113, by simp, by decide⟩
      rw [this]
      rfl
theorem nm_chars (s : Int) (k : Nat) (h : 0 ≤ s) : ∀ x ∈ nmL s k, 97 ≤ x ∧ x ≤ 122 := by
  intro x hx
  have ht := tT_in s k
  unfold nmL at hx
  split at hx
  · rw [List.mem_singleton] at hx
    omega
  · split at hx
    · have := (List.mem_replicate.mp hx).2
      omega
    · simp only [List.mem_append, List.mem_singleton] at hx
      rcases hx with ((hx | hx) | hx) | hx
      · have := (List.mem_replicate.mp hx).2
        omega
      · omega
      · omega
      · have := (List.mem_replicate.mp hx).2
        omega
theorem nm_size (s : Int) (k : Nat) (h : 0 ≤ s) : 1 ≤ (nmL s k).length ∧ (nmL s k).length ≤ 8 := by
  have hz : 0 ≤ s / 35 % (2 + s / 5 % 7 - 1) ∧ s / 35 % (2 + s / 5 % 7 - 1) < 2 + s / 5 % 7 - 1 := ⟨Int.emod_nonneg _ (by omega), Int.emod_lt_of_pos _ (by omega)⟩
  unfold nmL
  split
  · exact ⟨Nat.le_refl _, by simp⟩
  · split
    · rw [List.length_replicate]
      omega
    · generalize s / 35 % (2 + s / 5 % 7 - 1) = sp at hz
      have s2 : 2 + s / 5 % 7 ≤ 8 ∧ 2 ≤ 2 + s / 5 % 7 := by omega
      generalize 2 + s / 5 % 7 = S at hz s2
      simp only [List.length_append, List.length_replicate, List.length_singleton]
      omega
/-- a text of small letters -/
structure Wc (z : Str) : Prop where
  ch : ∀ c ∈ cs z, 97 ≤ c ∧ c ≤ 122
  lo : 1 ≤ z.length
  hi : z.length ≤ 8
theorem nm_wc (s : Int) (k : Nat) (h : 0 ≤ s) : Wc (nm s k) := by
  have l := nm_size s k h
  have e : (nm s k).length = (nmL s k).length := by rw [← cs_len, nm_cs]
  exact ⟨by rw [nm_cs]; exact nm_chars s k h, by omega, by omega⟩
theorem in_small {c : Nat} (h : 97 ≤ c ∧ c ≤ 122) : c ∈ smallL := by
  have all : (List.range' 97 26).all (fun c => decide (c ∈ smallL)) = true := by decide +kernel
  exact of_decide_eq_true (List.all_eq_true.mp all c (List.mem_range'.mpr ⟨c - 97, by omega, by omega⟩))
theorem nm_word (s : Int) (k : Nat) (h : 0 ≤ s) : isW (nm s k) = true := by
  have w := nm_wc s k h
  have nk : nm s k ∉ kw_KEPT := fun q => by
    have := List.all_eq_true.mp kept_bad _ q
    rw [nm_cs, nm_bad s k h] at this
    cases this
  have al : allIn (cs (nm s k)) smallL = true := by
    unfold allIn
    exact List.all_eq_true.mpr fun c hc => decide_eq_true (in_small (w.ch c hc))
  have h1 : (1 : Int) ≤ ((nm s k).length : Int) := by have := w.lo; omega
  have h2 : ((nm s k).length : Int) ≤ 8 := by have := w.hi; omega
  unfold isW
  rw [decide_eq_true h1, decide_eq_true h2, decide_eq_false nk, al]
  rfl
theorem strOk_wc {z : Str} (w : Wc z) : PyData.strOk z = true := by
  unfold PyData.strOk
  rw [← Array.all_toList]
  refine List.all_eq_true.mpr fun c hc => decide_eq_true ?_
  have := w.ch c hc
  omega
/-! ### rows -/
def strK : Str := Str.ofString "kind"
def strO : Str := Str.ofString "of"
def rowOf (p : Str × Str) : List Str := if p.2 = eS then [strK, p.1] else [strK, p.1, strO, p.2]
theorem wc_K : Wc strK := ⟨by decide +kernel, by decide +kernel, by decide +kernel⟩
theorem wc_O : Wc strO := ⟨by decide +kernel, by decide +kernel, by decide +kernel⟩
theorem call1 {f : List PD → FR} {ga : Rho → R PD} {ρ : Rho} {a x : PD} (ha : ga ρ = .ok a) (h : f [a] = .rt (.d x)) : eCall 1 f (aCons ga aNil) ρ = .ok x := by
  simp only [x_eCall, x_aCons, x_aNil, ha, x_bind_ok]
  show (if 1 = 1 then (f [a]).toE else R.bad) = _
  rw [if_pos rfl, h]
  rfl
theorem kw2 (w : Str) (h : isW w = true) (hl : w.length ≤ 8) : d_kind_written [.list [.str strK, .str w]] = .rt (.d (.tuple [.str w, .str eS])) := by
  have i0 : ixD (.list [.str strK, .str w]) (.int 0) = .ok (.str strK) := x_ix_l _ 0 _ (by decide) rfl
  have i1 : ixD (.list [.str strK, .str w]) (.int 1) = .ok (.str w) := x_ix_l _ 1 _ (by decide) rfl
  have iw := is_word w (by omega)
  rw [h] at iw
  have s2 : (2 : Nat) ≤ sizeLine := sz (by decide)
  have ek : strK = Str.ofString "kind" := rfl
  have c1 : eCall 1 d_is_word (aCons (eOp ixD (rVar 0) (eC (.int 1))) aNil) [some (.d (.list [.str strK, .str w]))] = .ok (.bool true) := call1 ((op_ok rfl rfl).trans i1) iw
  show (S_kind_written [some (.d (.list [.str strK, .str w]))]).fr = _
  unfold S_kind_written
  rw [seq_rt (x := .d (.tuple [.str w, .str eS]))]
  · rfl
  rw [if_t (by
    rw [x_bAnd, bof (b := true) (by simp [rVar]), x_bind_ok, if_pos rfl, x_bAnd, bof (b := true) (by simp [rVar, i0, eq_true ek]), x_bind_ok, if_pos rfl]
    exact bof c1)]
  refine ret_ok ?_
  simp [rVar, i1, s2]
  rfl
theorem kw4 (w u : Str) (h : isW w = true) (hl : w.length ≤ 8) (h2 : isW u = true) (hl2 : u.length ≤ 8) : d_kind_written [.list [.str strK, .str w, .str strO, .str u]] = .rt (.d (.tuple [.str w, .str u])) := by
  have i0 : ixD (.list [.str strK, .str w, .str strO, .str u]) (.int 0) = .ok (.str strK) := x_ix_l _ 0 _ (by decide) rfl
  have i1 : ixD (.list [.str strK, .str w, .str strO, .str u]) (.int 1) = .ok (.str w) := x_ix_l _ 1 _ (by decide) rfl
  have i2 : ixD (.list [.str strK, .str w, .str strO, .str u]) (.int 2) = .ok (.str strO) := x_ix_l _ 2 _ (by decide) rfl
  have i3 : ixD (.list [.str strK, .str w, .str strO, .str u]) (.int 3) = .ok (.str u) := x_ix_l _ 3 _ (by decide) rfl
  have iw := is_word w (by omega)
  have iu := is_word u (by omega)
  rw [h] at iw
  rw [h2] at iu
  have s2 : (2 : Nat) ≤ sizeLine := sz (by decide)
  have ek : strK = Str.ofString "kind" := rfl
  have eo : strO = Str.ofString "of" := rfl
  have c1 : eCall 1 d_is_word (aCons (eOp ixD (rVar 0) (eC (.int 1))) aNil) [some (.d (.list [.str strK, .str w, .str strO, .str u]))] = .ok (.bool true) := call1 ((op_ok rfl rfl).trans i1) iw
  have c3 : eCall 1 d_is_word (aCons (eOp ixD (rVar 0) (eC (.int 3))) aNil) [some (.d (.list [.str strK, .str w, .str strO, .str u]))] = .ok (.bool true) := call1 ((op_ok rfl rfl).trans i3) iu
  show (S_kind_written [some (.d (.list [.str strK, .str w, .str strO, .str u]))]).fr = _
  unfold S_kind_written
  rw [seq_nx (ρ1 := [some (.d (.list [.str strK, .str w, .str strO, .str u]))]) (by
    rw [if_f (by
      rw [x_bAnd, bof (b := false) (by simp [rVar]), x_bind_ok]
      rfl)]
    rfl)]
  rw [seq_nx (ρ1 := [some (.d (.list [.str strK, .str w, .str strO, .str u]))]) (by
    rw [if_f (by simp [rVar, i0, i2, eq_true ek, eq_true eo])]
    rfl)]
  rw [seq_nx (ρ1 := [some (.d (.list [.str strK, .str w, .str strO, .str u]))]) (by
    rw [if_f (by
      rw [x_bOr, x_bNot, bof c1, x_bind_ok, x_bind_ok]
      show bNot _ _ = _
      rw [x_bNot, bof c3]
      rfl)]
    rfl)]
  rw [ret_ok (x := .tuple [.str w, .str u]) (by simp [rVar, i1, i3, s2])]
  rfl
theorem kind_row (p : Str × Str) (h1 : isW p.1 = true) (l1 : p.1.length ≤ 8) (h2 : p.2 = eS ∨ isW p.2 = true ∧ p.2.length ≤ 8) : d_kind_written [.list ((rowOf p).map PyData.str)] = .rt (.d (kI p)) := by
  unfold rowOf
  by_cases c : p.2 = eS
  · rw [if_pos c]
    have := kw2 p.1 h1 l1
    unfold kI
    rw [c]
    exact this
  · rw [if_neg c]
    have q := h2.resolve_left c
    exact kw4 p.1 p.2 h1 l1 q.1 q.2
/-! ### the rows of a text that have words -/
def nl : Str := Str.ofString "\n"
def eI (q : Nat × Str) : PD := .tuple [.int (q.1 : Nat), .str q.2]
def rI (q : Nat × List Str) : PD := .tuple [.int (q.1 : Nat), .list (q.2.map PyData.str)]
def enumP : Nat → List Str → List (Nat × Str)
  | _, [] => []
  | n, l :: ls => (n, l) :: enumP (n + 1) ls
theorem enum_eq : ∀ (ls : List Str) (n : Nat), ((ls.map PyData.str).zipIdx n).map (fun p => PyData.tuple [.int (p.2 : Nat), p.1]) = (enumP n ls).map eI
  | [], _ => rfl
  | l :: ls, n => by
    rw [List.map_cons, List.zipIdx_cons, List.map_cons, enum_eq ls (n + 1)]
    rfl
theorem enumP_snd : ∀ (ls : List Str) (n : Nat), (enumP n ls).map (·.2) = ls
  | [], _ => rfl
  | l :: ls, n => by
    show l :: (enumP (n + 1) ls).map (·.2) = _
    rw [enumP_snd]
def keepW (prs : List (Nat × Str)) : List (Nat × List Str) := (prs.map fun q => (q.1, Txt.words q.2)).filter fun q => decide (q.2 ≠ [])
theorem words_ne (l : List Str) (h : ∀ w ∈ l, PyData.strOk w = true) : neD (.list (l.map PyData.str)) (.list []) = .ok (.bool (decide (l ≠ []))) := by
  have can : ∀ l : List Str, (∀ w ∈ l, PyData.strOk w = true) → PyData.canLayAll0 (l.map PyData.str) = true ∧ PyData.depthAll (l.map PyData.str) = 0 := by
    intro l
    induction l with
    | nil => intro _; exact ⟨by simp [PyData.canLayAll0], by simp [PyData.depthAll]⟩
    | cons x l ih =>
      intro h
      obtain ⟨a, b⟩ := ih fun w hw => h w (List.mem_cons_of_mem _ hw)
      have c := h x List.mem_cons_self
      rw [List.map_cons]
      exact ⟨by simp [PyData.canLayAll0, PyData.canLay0, a, c], by simp [PyData.depthAll, PyData.depth, b]⟩
  obtain ⟨a, b⟩ := can l h
  have s1 : SeqAt.shaped (.list (l.map PyData.str)) = true := by
    unfold SeqAt.shaped
    simp only [PyData.canLay0, PyData.depth, a, b]
    decide
  have s2 : SeqAt.shaped (.list []) = true := by
    unfold SeqAt.shaped
    simp only [PyData.canLay0, PyData.depth, PyData.canLayAll0, PyData.depthAll]
    decide
  rw [x_ne]
  show (if SeqAt.shaped (.list (l.map PyData.str)) = true ∧ SeqAt.shaped (.list []) = true then R.ok (PyData.eqv (.list (l.map PyData.str)) (.list [])) else .bad).bind _ = _
  rw [if_pos ⟨s1, s2⟩]
  cases l with
  | nil => simp [PyData.eqv, PyData.eqvAll]
  | cons x l => simp [PyData.eqv, PyData.eqvAll]
theorem rows_loop (zd : PD) : ∀ (prs : List (Nat × Str)) (acc : List (Nat × List Str)) (y2 y3 y4 : Option Sl), (∀ q ∈ prs, q.2.length ≤ 1000 ∧ ∀ w ∈ Txt.words q.2, PyData.strOk w = true) → acc.length + prs.length ≤ 1000 → ∃ z2 z3 z4,
    forD (aTup 2 (asCons (aName 2) (asCons (aName 3) asNil))) (sSeq (sSet 4 (eFz (eM0 wordsD (rVar 3)))) (sIf (bOf (eOp neD (rVar 4) (eFz (oLst aNil)))) (sAppend 1 (eTup (aCons (eVar 2) (aCons (eVar 4) aNil)))) sNext)) (prs.map eI)
      [some (.d zd), some (.o (.list (acc.map rI))), y2, y3, y4] = .nx [some (.d zd), some (.o (.list ((acc ++ keepW prs).map rI))), z2, z3, z4]
  | [], acc, y2, y3, y4, _, _ => ⟨y2, y3, y4, by unfold keepW; simp [forD]⟩
  | q :: prs, acc, y2, y3, y4, h, hl => by
    rw [List.length_cons] at hl
    obtain ⟨hq, hw⟩ := h q List.mem_cons_self
    have h' := fun r hr => h r (List.mem_cons_of_mem _ hr)
    have ne := words_ne (Txt.words q.2) hw
    have sl : q.2.length + 2 ≤ sizeLine := sz (by omega)
    have s2 : (2 : Nat) ≤ sizeLine := sz (by decide)
    rw [List.map_cons]
    unfold forD
    have ea : aTup 2 (asCons (aName 2) (asCons (aName 3) asNil)) [some (.d zd), some (.o (.list (acc.map rI))), y2, y3, y4] (eI q) = .ok [some (.d zd), some (.o (.list (acc.map rI))), some (.d (.int (q.1 : Nat))), some (.d (.str q.2)), y4] := rfl
    rw [ea]
    simp only
    have e4 : sSet 4 (eFz (eM0 wordsD (rVar 3))) [some (.d zd), some (.o (.list (acc.map rI))), some (.d (.int (q.1 : Nat))), some (.d (.str q.2)), y4] = .nx [some (.d zd), some (.o (.list (acc.map rI))), some (.d (.int (q.1 : Nat))), some (.d (.str q.2)), some (.d (.list ((Txt.words q.2).map PyData.str)))] := by
      rw [set_ok (x := .list ((Txt.words q.2).map PyData.str))]
      · rfl
      · simp only [x_eFz, x_eM0, rVar, List.getElem?_cons_succ, List.getElem?_cons_zero, x_bind_ok, x_strOf, x_words, if_pos sl]
        rfl
    rw [seq_nx e4]
    have eq : eOp neD (rVar 4) (eFz (oLst aNil)) [some (.d zd), some (.o (.list (acc.map rI))), some (.d (.int (q.1 : Nat))), some (.d (.str q.2)), some (.d (.list ((Txt.words q.2).map PyData.str)))] = .ok (.bool (decide (Txt.words q.2 ≠ []))) := by
      have e0 : eFz (oLst aNil) [some (.d zd), some (.o (.list (acc.map rI))), some (.d (.int (q.1 : Nat))), some (.d (.str q.2)), some (.d (.list ((Txt.words q.2).map PyData.str)))] = .ok (.list []) := by simp
      rw [op_ok rfl e0]
      exact ne
    by_cases c : Txt.words q.2 = []
    · have cd : decide (Txt.words q.2 ≠ []) = false := decide_eq_false fun z => z c
      rw [cd] at eq
      rw [if_f (bof eq)]
      obtain ⟨z2, z3, z4, ih⟩ := rows_loop zd prs acc _ _ _ h' (by omega)
      have ek : keepW (q :: prs) = keepW prs := by
        unfold keepW
        rw [List.map_cons, List.filter_cons, if_neg (by simpa using c)]
      rw [ek]
      exact ⟨z2, z3, z4, ih⟩
    · have cd : decide (Txt.words q.2 ≠ []) = true := decide_eq_true c
      rw [cd] at eq
      rw [if_t (bof eq)]
      rw [append_ok (ds := acc.map rI) (x := rI (q.1, Txt.words q.2)) rfl (by simp [eVar, s2, rI]) (by rw [List.length_map]; exact szl (by omega))]
      obtain ⟨z2, z3, z4, ih⟩ := rows_loop zd prs (acc ++ [(q.1, Txt.words q.2)]) (some (.d (.int (q.1 : Nat)))) (some (.d (.str q.2))) (some (.d (.list ((Txt.words q.2).map PyData.str)))) h' (by rw [List.length_append, List.length_singleton]; omega)
      have ek : acc ++ keepW (q :: prs) = acc ++ [(q.1, Txt.words q.2)] ++ keepW prs := by
        unfold keepW
        rw [List.map_cons, List.filter_cons, if_pos (by simpa using c), List.append_assoc]
        rfl
      refine ⟨z2, z3, z4, ?_⟩
      rw [ek]
      simp only [List.set]
      rw [show acc.map rI ++ [rI (q.1, Txt.words q.2)] = (acc ++ [(q.1, Txt.words q.2)]).map rI by rw [List.map_append]; rfl]
      exact ih
theorem keepW_snd (prs : List (Nat × Str)) : (keepW prs).map (·.2) = ((prs.map (·.2)).map Txt.words).filter fun l => decide (l ≠ []) := by
  unfold keepW
  induction prs with
  | nil => rfl
  | cons q prs ih =>
    rw [List.map_cons, List.map_cons, List.map_cons, List.filter_cons, List.filter_cons]
    by_cases c : Txt.words q.2 = []
    · rw [if_neg (by simpa using c), if_neg (by simpa using c)]
      exact ih
    · rw [if_pos (by simpa using c), if_pos (by simpa using c), List.map_cons, ih]
theorem word_rows (z : Str) (lines : List Str) (e : Txt.split z nl = lines) (hz : z.length ≤ 10000) (h : ∀ l ∈ lines, l.length ≤ 1000 ∧ ∀ w ∈ Txt.words l, PyData.strOk w = true) (hn : lines.length ≤ 1000) :
    ∃ L : List (Nat × List Str), d_word_rows [.str z] = .rt (.o (.list (L.map rI))) ∧ L.map (·.2) = (lines.map Txt.words).filter fun l => decide (l ≠ []) := by
  have s1 : z.length + 2 ≤ sizeLine := sz (by omega)
  have n1 : (nl.length == 0) = false := by decide +kernel
  have s0 : (0 : Nat) ≤ sizeLine := Nat.zero_le _
  obtain ⟨z2, z3, z4, el⟩ := rows_loop (.str z) (enumP 0 lines) [] none none none (fun q hq => h q.2 (by
      have := List.mem_map_of_mem (f := (·.2)) hq
      rwa [enumP_snd] at this)) (by
      have := congrArg List.length (enumP_snd lines 0)
      rw [List.length_map] at this
      simp
      omega)
  refine ⟨keepW (enumP 0 lines), ?_, by rw [keepW_snd, enumP_snd]⟩
  show (S_word_rows [some (.d (.str z)), none, none, none, none]).fr = _
  unfold S_word_rows
  rw [seq_nx (ρ1 := [some (.d (.str z)), some (.o (.list (([] : List (Nat × List Str)).map rI))), none, none, none]) (by simp)]
  rw [seq_nx (ρ1 := [some (.d (.str z)), some (.o (.list (([] ++ keepW (enumP 0 lines)).map rI))), z2, z3, z4]) (by
    rw [x_sFor]
    have ei : iEnumD (aCons (eFz (eM1 splitD (rVar 0) (eC (.str (PySem.Str.ofString "\n"))))) aNil) [some (.d (.str z)), some (.o (.list (([] : List (Nat × List Str)).map rI))), none, none, none] = .ok ((enumP 0 lines).map eI) := by
      have es : eFz (eM1 splitD (rVar 0) (eC (.str (PySem.Str.ofString "\n")))) [some (.d (.str z)), some (.o (.list (([] : List (Nat × List Str)).map rI))), none, none, none] = .ok (.list (lines.map PyData.str)) := by
        simp only [x_eFz, x_eM1, rVar, x_eC, List.getElem?_cons_zero, x_bind_ok, x_strOf, x_split]
        rw [if_pos ⟨n1, s1⟩]
        show R.ok (PyData.list ((Txt.split z nl).map PyData.str)) = _
        rw [e]
      rw [x_iEnum, x_aCons, es, x_bind_ok, x_aNil, x_bind_ok, x_bind_ok, x_enumO]
      unfold enumD
      rw [enum_eq]
    rw [ei, x_of_ok]
    exact el)]
  rfl
end K02
namespace K02
open PySem L2 DL
/-! ### the law's text -/
theorem sp32 : Unicode.isSpace 32 = true := by decide +kernel
theorem nospace {c : Nat} (h : 97 ≤ c ∧ c ≤ 122) : Unicode.isSpace c = false := by
  have all : (List.range' 97 26).all (fun c => !Unicode.isSpace c) = true := by decide +kernel
  have := List.all_eq_true.mp all c (List.mem_range'.mpr ⟨c - 97, by omega, by omega⟩)
  simpa using this
abbrev wfold (l : List Nat) : List (List Nat) × List Nat := l.foldl TL.wstep ([], [])
theorem fold_spaces : ∀ (n : Nat) (ws : List (List Nat)), (List.replicate n 32).foldl TL.wstep (ws, []) = (ws, [])
  | 0, _ => rfl
  | n + 1, ws => by
    rw [List.replicate_succ, List.foldl_cons]
    have e : TL.wstep (ws, []) 32 = (ws, []) := by
      unfold TL.wstep
      rw [if_pos sp32]
      rfl
    rw [e]
    exact fold_spaces n ws
theorem fold_word (w : Str) (hw : Wc w) (n : Nat) (hn : 1 ≤ n) (ws : List (List Nat)) : (cs w ++ List.replicate n 32).foldl TL.wstep (ws, []) = (ws ++ [cs w], []) := by
  rw [List.foldl_append, TL.wfold_word (cs w) ws [] fun c hc => nospace (hw.ch c hc), List.nil_append]
  obtain ⟨m, rfl⟩ : ∃ m, n = m + 1 := ⟨n - 1, by omega⟩
  rw [List.replicate_succ, List.foldl_cons]
  have ne : cs w ≠ [] := by
    intro q
    have := cs_len w
    rw [q] at this
    have := hw.lo
    simp at *
    omega
  have e : TL.wstep (ws, cs w) 32 = (ws ++ [cs w], []) := by
    unfold TL.wstep
    rw [if_pos sp32, if_neg ne]
  rw [e]
  exact fold_spaces m _
/-- a line: the words that it has; no line end in it -/
structure Ln (z : Str) (ws : List Str) (n : Nat) : Prop where
  f : wfold (cs z) = (ws.map cs, [])
  no : ∀ c ∈ cs z, c ≠ 10
  len : z.length ≤ n
theorem sp_str : Str.ofString " " = sg 32 := by decide +kernel
theorem Ln.spaces (k : Int) (n : Nat) (h : k ≤ n) : Ln (mulS (sg 32) k) [] n := by
  have e : cs (mulS (sg 32) k) = List.replicate k.toNat 32 := mulS_sg 32 k
  refine ⟨?_, fun c hc => ?_, ?_⟩
  · unfold wfold
    rw [e]
    exact fold_spaces _ _
  · rw [e] at hc
    have := (List.mem_replicate.mp hc).2
    omega
  · rw [mulS_len, sg_len]
    omega
theorem Ln.word {z : Str} {ws : List Str} {n : Nat} (h : Ln z ws n) (w : Str) (hw : Wc w) (k : Int) (h1 : 1 ≤ k) (h2 : k ≤ 2) : Ln (z ++ w ++ mulS (sg 32) k) (ws ++ [w]) (n + 10) := by
  have e : cs (mulS (sg 32) k) = List.replicate k.toNat 32 := mulS_sg 32 k
  refine ⟨?_, fun c hc => ?_, ?_⟩
  · unfold wfold
    rw [cs_app, cs_app, e, List.append_assoc, List.foldl_append]
    have := h.f
    unfold wfold at this
    rw [this, fold_word w hw _ (by omega), List.map_append]
    rfl
  · rw [cs_app, cs_app, e] at hc
    rcases List.mem_append.mp hc with q | q
    · rcases List.mem_append.mp q with q | q
      · exact h.no c q
      · have := hw.ch c q
        omega
    · have := (List.mem_replicate.mp q).2
      omega
  · rw [len_app, len_app, mulS_len, sg_len]
    have := h.len
    have := hw.hi
    omega
theorem Ln.words {z : Str} {ws : List Str} {n : Nat} (h : Ln z ws n) : Txt.words z = ws := by
  have e := TL.words_tl z
  have f := h.f
  unfold wfold at f
  rw [show TL.tl z = cs z from rfl, f] at e
  have e : (Txt.words z).map cs = ws.map cs := e
  have go : ∀ a b : List Str, a.map cs = b.map cs → a = b := by
    intro a
    induction a with
    | nil =>
      intro b hb
      cases b with
      | nil => rfl
      | cons _ _ => cases hb
    | cons x a ih =>
      intro b hb
      cases b with
      | nil => cases hb
      | cons y b =>
        rw [List.map_cons, List.map_cons] at hb
        injection hb with h1 h2
        rw [cs_ext h1, ih b h2]
  exact go _ _ e
theorem x_mul_sp (k : Int) (h : 0 ≤ k) (h2 : k ≤ 10) : mulD (.str (Str.ofString " ")) (.int k) = .ok (.str (mulS (sg 32) k)) := by
  rw [sp_str]
  exact x_mul_s (sg 32) k (by omega) (by omega) (sz (by rw [sg_len]; omega))
theorem line_loop (s0 s1 s2 s3 : Option Sl) : ∀ (ws : List Str) (m : Int) (z : Str) (done : List Str) (n : Nat) (y6 : Option Sl), 0 ≤ m → (∀ w ∈ ws, Wc w) → Ln z done n → n + 10 * ws.length ≤ 1000 → ∃ m' z' z6, 0 ≤ m' ∧ Ln z' (done ++ ws) (n + 10 * ws.length) ∧
    forD (aName 6) (sSeq (sSet 5 (eOp addD (eOp addD (rVar 5) (rVar 6)) (eOp mulD (eC (.str (PySem.Str.ofString " "))) (eOp addD (eC (.int 1)) (eOp modD (eOp divD (rVar 4) (eC (.int 3))) (eC (.int 2))))))) (sSet 4 (eOp divD (rVar 4) (eC (.int 2))))) (ws.map PyData.str)
      [s0, s1, s2, s3, some (.d (.int m)), some (.d (.str z)), y6] = .nx [s0, s1, s2, s3, some (.d (.int m')), some (.d (.str z')), z6]
  | [], m, z, done, n, y6, hm, _, hz, _ => ⟨m, z, y6, hm, by rw [List.append_nil]; exact hz, rfl⟩
  | w :: ws, m, z, done, n, y6, hm, hw, hz, hn => by
    rw [List.length_cons] at hn
    have w1 := hw w List.mem_cons_self
    have q := hz.word w w1 (1 + m / 3 % 2) (by omega) (by omega)
    obtain ⟨m', z', z6, i1, i2, ih⟩ := line_loop s0 s1 s2 s3 ws (m / 2) _ (done ++ [w]) (n + 10) (some (.d (.str w))) (by omega) (fun v hv => hw v (List.mem_cons_of_mem _ hv)) q (by omega)
    refine ⟨m', z', z6, i1, ?_, ?_⟩
    · rw [List.append_assoc] at i2
      have e : n + 10 + 10 * ws.length = n + 10 * (w :: ws).length := by rw [List.length_cons]; omega
      rw [← e]
      exact i2
    · rw [List.map_cons]
      unfold forD
      rw [x_aName]
      simp only [List.set]
      have l0 := hz.len
      have l1 := w1.hi
      have a1 : z.length + w.length ≤ sizeLine := sz (by omega)
      have a2 : (z ++ w).length + (mulS (sg 32) (1 + m / 3 % 2)).length ≤ sizeLine := sz (by rw [len_app, mulS_len, sg_len]; omega)
      have d3 := x_div m 3 (by decide) (by decide)
      have d2 := x_div m 2 (by decide) (by decide)
      have m2 := x_mod (m / 3) 2 (by decide)
      have em : eOp mulD (eC (.str (PySem.Str.ofString " "))) (eOp addD (eC (.int 1)) (eOp modD (eOp divD (rVar 4) (eC (.int 3))) (eC (.int 2)))) [s0, s1, s2, s3, some (.d (.int m)), some (.d (.str z)), some (.d (.str w))] = .ok (.str (mulS (sg 32) (1 + m / 3 % 2))) :=
        (op_ok (a := .str (Str.ofString " ")) (b := .int (1 + m / 3 % 2)) rfl ((op_ok (a := .int 1) (b := .int (m / 3 % 2)) rfl ((op_ok (a := .int (m / 3)) (b := .int 2) ((op_ok (a := .int m) (b := .int 3) rfl rfl).trans d3) rfl).trans m2)).trans (x_add_i _ _))).trans (x_mul_sp _ (by omega) (by omega))
      have e5 : sSet 5 (eOp addD (eOp addD (rVar 5) (rVar 6)) (eOp mulD (eC (.str (PySem.Str.ofString " "))) (eOp addD (eC (.int 1)) (eOp modD (eOp divD (rVar 4) (eC (.int 3))) (eC (.int 2)))))) [s0, s1, s2, s3, some (.d (.int m)), some (.d (.str z)), some (.d (.str w))] = .nx [s0, s1, s2, s3, some (.d (.int m)), some (.d (.str (z ++ w ++ mulS (sg 32) (1 + m / 3 % 2)))), some (.d (.str w))] := by
        rw [set_ok (x := .str (z ++ w ++ mulS (sg 32) (1 + m / 3 % 2)))]
        · rfl
        · rw [op_ok (a := .str (z ++ w)) (b := .str (mulS (sg 32) (1 + m / 3 % 2))) ((op_ok (a := .str z) (b := .str w) rfl rfl).trans (by rw [x_add_s, if_pos a1])) em, x_add_s, if_pos a2]
      rw [seq_nx e5, set_ok (x := .int (m / 2)) ((op_ok (a := .int m) (b := .int 2) rfl rfl).trans d2)]
      exact ih
/-- lines and the rows that they tell -/
structure TL2 (lines : List Str) (rows : List (List Str)) : Prop where
  w : (lines.map Txt.words).filter (fun l => decide (l ≠ [])) = rows
  ok : ∀ l ∈ lines, (∀ c ∈ cs l, c ≠ 10) ∧ l.length ≤ 100
theorem TL2.row {lines : List Str} {rows : List (List Str)} (h : TL2 lines rows) {z : Str} {r : List Str} {n : Nat} (hz : Ln z r n) (hn : n ≤ 100) (hr : r ≠ []) : TL2 (lines ++ [z]) (rows ++ [r]) := by
  refine ⟨?_, fun l hl => ?_⟩
  · rw [List.map_append, List.filter_append, h.w]
    show _ ++ List.filter _ [Txt.words z] = _
    rw [hz.words, List.filter_cons, if_pos (by simpa using hr)]
    rfl
  · rcases List.mem_append.mp hl with q | q
    · exact h.ok l q
    · rw [List.mem_singleton] at q
      subst q
      exact ⟨hz.no, by have := hz.len; omega⟩
theorem TL2.blank {lines : List Str} {rows : List (List Str)} (h : TL2 lines rows) {z : Str} {n : Nat} (hz : Ln z [] n) (hn : n ≤ 100) : TL2 (lines ++ [z]) rows := by
  refine ⟨?_, fun l hl => ?_⟩
  · rw [List.map_append, List.filter_append, h.w]
    show _ ++ List.filter _ [Txt.words z] = _
    rw [hz.words]
    simp
  · rcases List.mem_append.mp hl with q | q
    · exact h.ok l q
    · rw [List.mem_singleton] at q
      subst q
      exact ⟨hz.no, by have := hz.len; omega⟩
theorem TL2.ahead {lines : List Str} {rows : List (List Str)} (h : TL2 lines rows) : TL2 (eS :: lines) rows := by
  have e : Txt.words eS = [] := by decide +kernel
  refine ⟨?_, fun l hl => ?_⟩
  · rw [List.map_cons, e, List.filter_cons, if_neg (by simp)]
    exact h.w
  · rcases List.mem_cons.mp hl with q | q
    · subst q
      have e2 : cs eS = [] := by decide +kernel
      exact ⟨fun c hc => (by rw [e2] at hc; exact nomatch hc), by rw [← cs_len, e2]; exact Nat.zero_le _⟩
    · exact h.ok l q
/-- split again -/
theorem TL2.split {lines : List Str} {rows : List (List Str)} (h : TL2 lines rows) : ∃ ls, Txt.split (Txt.join nl lines) nl = ls ∧ TL2 ls rows ∧ ls.length ≤ lines.length + 1 := by
  by_cases c : lines = []
  · subst c
    have e : Txt.split (Txt.join nl []) nl = [eS] := by decide +kernel
    exact ⟨[eS], e, h.ahead, by simp⟩
  · have ey : TL.tl nl = 10 :: [] := by decide +kernel
    have hk : nl.cps.all (· < 256) = true := by decide +kernel
    exact ⟨lines, TL.split_join ey hk c fun p hp q => (h.ok p hp).1 10 q rfl, h, by omega⟩
end K02
namespace K02
open PySem L2 DL
def rowD (r : List Str) : PD := .list (r.map PyData.str)
theorem text_turn (rowsD : PD) (s k m0 : Int) (lines : List Str) (rows : List (List Str)) (r : List Str) (hr : r ≠ []) (hw : ∀ w ∈ r, Wc w) (hl : r.length ≤ 4) (h : TL2 lines rows) (hn : lines.length ≤ 100) (hm : 0 ≤ m0)
    (em : d_law_mix [.int s, .int k, .int 1313131313131313131] = .rt (.d (.int m0))) (er : ixD rowsD (.int k) = .ok (rowD r)) (y4 y5 y6 : Option Sl) : ∃ lines' z4 z5 z6, TL2 lines' (rows ++ [r]) ∧ lines'.length ≤ lines.length + 2 ∧
    (sSeq (sSet 4 (eCall 3 d_law_mix (aCons (eVar 1) (aCons (eVar 3) (aCons (eC (.int 1313131313131313131)) aNil))))) (sSeq (sSet 5 (eOp mulD (eC (.str (PySem.Str.ofString " "))) (eOp modD (rVar 4) (eC (.int 3))))) (sSeq (sFor (iItems (eOp ixD (rVar 0) (rVar 3))) (aName 6) (sSeq (sSet 5 (eOp addD (eOp addD (rVar 5) (rVar 6)) (eOp mulD (eC (.str (PySem.Str.ofString " "))) (eOp addD (eC (.int 1)) (eOp modD (eOp divD (rVar 4) (eC (.int 3))) (eC (.int 2))))))) (sSet 4 (eOp divD (rVar 4) (eC (.int 2)))))) (sSeq (sAppend 2 (eVar 5)) (sIf (bOf (eOp eqD (eOp modD (rVar 4) (eC (.int 5))) (eC (.int 1)))) (sAppend 2 (eOp mulD (eC (.str (PySem.Str.ofString " "))) (eOp modD (eOp divD (rVar 4) (eC (.int 5))) (eC (.int 2))))) sNext)))))
      [some (.d rowsD), some (.d (.int s)), some (.o (.list (lines.map PyData.str))), some (.d (.int k)), y4, y5, y6] = .nx [some (.d rowsD), some (.d (.int s)), some (.o (.list (lines'.map PyData.str))), some (.d (.int k)), z4, z5, z6] := by
  rw [seq_nx (set_ok (x := .int m0) (call3 rfl rfl rfl em))]
  simp only [List.set]
  have m3 := x_mod m0 3 (by decide)
  rw [seq_nx (set_ok (x := .str (mulS (sg 32) (m0 % 3))) ((op_ok (a := .str (Str.ofString " ")) (b := .int (m0 % 3)) rfl ((op_ok (a := .int m0) (b := .int 3) rfl rfl).trans m3)).trans (x_mul_sp _ (by omega) (by omega))))]
  simp only [List.set]
  obtain ⟨m, z, z6, hm', hz, ef⟩ := line_loop (some (.d rowsD)) (some (.d (.int s))) (some (.o (.list (lines.map PyData.str)))) (some (.d (.int k))) r m0 _ [] 3 y6 hm hw (Ln.spaces (m0 % 3) 3 (by omega)) (by omega)
  rw [List.nil_append] at hz
  rw [seq_nx (ρ1 := [some (.d rowsD), some (.d (.int s)), some (.o (.list (lines.map PyData.str))), some (.d (.int k)), some (.d (.int m)), some (.d (.str z)), z6]) (by
    rw [x_sFor, x_iItems, op_ok (a := rowsD) (b := .int k) rfl rfl, er]
    exact ef)]
  have t1 := h.row hz (by omega) hr
  rw [seq_nx (append_ok (ds := lines.map PyData.str) (x := .str z) rfl rfl (by rw [List.length_map]; exact szl (by omega)))]
  simp only [List.set]
  rw [show lines.map PyData.str ++ [PyData.str z] = (lines ++ [z]).map PyData.str by rw [List.map_append]; rfl]
  have m5 := x_mod m 5 (by decide)
  have d5 := x_div m 5 (by decide) (by decide)
  have m2 := x_mod (m / 5) 2 (by decide)
  by_cases c : m % 5 = 1
  · refine ⟨lines ++ [z] ++ [mulS (sg 32) (m / 5 % 2)], some (.d (.int m)), some (.d (.str z)), z6, t1.blank (Ln.spaces (m / 5 % 2) 3 (by omega)) (by omega), by simp, ?_⟩
    rw [if_t (bof ((op_ok (a := .int (m % 5)) (b := .int 1) ((op_ok (a := .int m) (b := .int 5) rfl rfl).trans m5) rfl).trans (by rw [x_eq, x_eqB_i, c]; rfl)))]
    rw [append_ok (ds := (lines ++ [z]).map PyData.str) (x := .str (mulS (sg 32) (m / 5 % 2))) rfl ((op_ok (a := .str (Str.ofString " ")) (b := .int (m / 5 % 2)) rfl ((op_ok (a := .int (m / 5)) (b := .int 2) ((op_ok (a := .int m) (b := .int 5) rfl rfl).trans d5) rfl).trans m2)).trans (x_mul_sp _ (by omega) (by omega))) (by rw [List.length_map, List.length_append, List.length_singleton]; exact szl (by omega))]
    simp only [List.set]
    rw [show (lines ++ [z]).map PyData.str ++ [PyData.str (mulS (sg 32) (m / 5 % 2))] = (lines ++ [z] ++ [mulS (sg 32) (m / 5 % 2)]).map PyData.str by rw [List.map_append (l₁ := lines ++ [z])]; rfl]
  · refine ⟨lines ++ [z], some (.d (.int m)), some (.d (.str z)), z6, t1, by simp, ?_⟩
    rw [if_f (bof ((op_ok (a := .int (m % 5)) (b := .int 1) ((op_ok (a := .int m) (b := .int 5) rfl rfl).trans m5) rfl).trans (by rw [x_eq, x_eqB_i, decide_eq_false c]; rfl)))]
    rfl
theorem sum_le : ∀ (l : List Str) (n : Nat), (∀ z ∈ l, z.length ≤ n) → (l.map (·.length)).sum ≤ n * l.length
  | [], n, _ => Nat.le_refl _
  | z :: l, n, h => by
    have := sum_le l n fun y hy => h y (List.mem_cons_of_mem _ hy)
    have := h z List.mem_cons_self
    rw [List.map_cons, List.sum_cons, List.length_cons, Nat.mul_succ]
    omega
theorem mix_nn (a b c : Int) : 0 ≤ (a + b * b + 1) * c % 2305843009213693951 := Int.emod_nonneg _ (by decide)
theorem row_ix (rows : List (List Str)) (i : Nat) (hi : i < rows.length) : ixD (.list (rows.map rowD)) (.int (0 + (i : Int))) = .ok (rowD (rows[i]'hi)) :=
  x_ix_l (rows.map rowD) (0 + (i : Int)) (rowD (rows[i]'hi)) (by omega) (by
    rw [show (0 + (i : Int)).toNat = i by omega, List.getElem?_map, List.getElem?_eq_getElem hi]
    rfl)
theorem k_nn (i : Nat) : (0 : Int) ≤ 0 + (i : Int) := by omega
theorem k_lt (i : Nat) (h : i < 1000) : (0 + (i : Int)) < 1000 := by omega
theorem law_text (rows : List (List Str)) (s : Int) (h0 : 0 ≤ s) (hr : ∀ r ∈ rows, r ≠ [] ∧ (∀ w ∈ r, Wc w) ∧ r.length ≤ 4) (hl : rows.length ≤ 12) : ∃ lines : List Str, d_law_text [.list (rows.map rowD), .int s] = .rt (.d (.str (Txt.join nl lines))) ∧ TL2 lines rows ∧ lines.length ≤ 30 := by
  show ∃ lines : List Str, (S_law_text [some (.d (.list (rows.map rowD))), some (.d (.int s)), none, none, none, none, none]).fr = _ ∧ _
  unfold S_law_text
  rw [seq_nx (ρ1 := [some (.d (.list (rows.map rowD))), some (.d (.int s)), some (.o (.list (([] : List Str).map PyData.str))), none, none, none, none]) (by simp)]
  rw [x_sSeq, x_sFor]
  have e1 : (iRng1D (aCons (eCB lenD (aCons (rVar 0) aNil)) aNil)) [some (.d (.list (rows.map rowD))), some (.d (.int s)), some (.o (.list (([] : List Str).map PyData.str))), none, none, none, none] = .ok (rngD 0 rows.length) := by
    show (R.ok [PyData.int ((rows.map rowD).length : Nat)]).bind rng1 = _
    rw [x_bind_ok, List.length_map]
    exact rng_ok _ (by omega)
  rw [e1, x_of_ok]
  refine forD_by (P := fun r => ∃ lines : List Str, (r.seq (sSeq (sIf (bOf (eOp eqD (eOp modD (eOp divD (rVar 1) (eC (.int 3))) (eC (.int 4))) (eC (.int 1)))) (sInsert 2 0 (eC (.str (PySem.Str.ofString "")))) sNext) (sRet (eM1 joinD (eC (.str (PySem.Str.ofString "\n"))) (rVar 2))))).fr = .rt (.d (.str (Txt.join nl lines))) ∧ TL2 lines rows ∧ lines.length ≤ 30)
    (fun i ρ => ∃ (lines : List Str) (y3 y4 y5 y6 : Option Sl), TL2 lines (rows.take i) ∧ lines.length ≤ 2 * i ∧ ρ = [some (.d (.list (rows.map rowD))), some (.d (.int s)), some (.o (.list (lines.map PyData.str))), y3, y4, y5, y6]) ⟨[], none, none, none, none, ⟨rfl, fun l hl => nomatch hl⟩, Nat.zero_le _, rfl⟩ ?_ ?_
  · rintro i x ρ hx ⟨lines, y3, y4, y5, y6, t, hn, rfl⟩
    obtain ⟨hi, rfl⟩ := rng_get hx
    have er := row_ix rows i hi
    have k0 : (0 : Int) ≤ 0 + (i : Int) := k_nn i
    have k1 : (0 + (i : Int)) < 1000 := k_lt i (Nat.lt_of_lt_of_le hi (Nat.le_trans hl (by decide)))
    generalize (0 + (i : Int)) = k at er k0 k1 ⊢
    obtain ⟨r1, r2, r3⟩ := hr (rows[i]'hi) (List.getElem_mem hi)
    have em := law_mix s k 1313131313131313131 k0 k1 (by decide) (by decide)
    have hm := mix_nn s k 1313131313131313131
    generalize (s + k * k + 1) * 1313131313131313131 % 2305843009213693951 = m0 at em hm
    obtain ⟨lines', z4, z5, z6, t', hn', e⟩ := text_turn (.list (rows.map rowD)) s k m0 lines (rows.take i) (rows[i]'hi) r1 r2 r3 t (by omega) hm em er y4 y5 y6
    rw [List.take_append_getElem hi] at t'
    refine ⟨[some (.d (.list (rows.map rowD))), some (.d (.int s)), some (.o (.list (lines.map PyData.str))), some (.d (.int k)), y4, y5, y6], rfl, ?_⟩
    rw [e]
    exact ⟨lines', _, _, _, _, t', by omega, rfl⟩
  · rintro ρ ⟨lines, y3, y4, y5, y6, t, hn, rfl⟩
    have el : (rngD 0 rows.length).length = rows.length := by rw [rngD, List.length_map, List.length_range]
    rw [el] at t hn
    rw [List.take_length] at t
    have d3 := x_div s 3 (by decide) (by decide)
    have m4 := x_mod (s / 3) 4 (by decide)
    obtain ⟨lines', t', hn', e⟩ : ∃ lines', TL2 lines' rows ∧ lines'.length ≤ 30 ∧ sIf (bOf (eOp eqD (eOp modD (eOp divD (rVar 1) (eC (.int 3))) (eC (.int 4))) (eC (.int 1)))) (sInsert 2 0 (eC (.str (PySem.Str.ofString "")))) sNext [some (.d (.list (rows.map rowD))), some (.d (.int s)), some (.o (.list (lines.map PyData.str))), y3, y4, y5, y6] = .nx [some (.d (.list (rows.map rowD))), some (.d (.int s)), some (.o (.list (lines'.map PyData.str))), y3, y4, y5, y6] := by
      have q := (op_ok (ρ := [some (.d (.list (rows.map rowD))), some (.d (.int s)), some (.o (.list (lines.map PyData.str))), y3, y4, y5, y6]) (f := eqD) (a := .int (s / 3 % 4)) (b := .int 1) ((op_ok (a := .int (s / 3)) (b := .int 4) ((op_ok (ga := rVar 1) (gb := eC (.int 3)) (a := .int s) (b := .int 3) rfl rfl).trans d3) (x_eC _ _)).trans m4) (x_eC _ _))
      by_cases c : s / 3 % 4 = 1
      · refine ⟨eS :: lines, t.ahead, by rw [List.length_cons]; omega, ?_⟩
        rw [if_t (bof (q.trans (by rw [x_eq, x_eqB_i, c]; rfl)))]
        show ownL _ 2 _ = _
        unfold ownL
        show SR.of (R.ok (PyData.str eS)) _ = _
        rw [x_of_ok, if_pos ⟨by rw [List.length_map]; exact szl (by omega), by omega⟩]
        rfl
      · refine ⟨lines, t, by omega, ?_⟩
        rw [if_f (bof (q.trans (by rw [x_eq, x_eqB_i, decide_eq_false c]; rfl)))]
        rfl
    refine ⟨lines', ?_, t', by omega⟩
    rw [x_seq_nx, seq_nx e]
    rw [ret_ok (x := .str (Txt.join nl lines'))]
    · rfl
    · have sl := sum_le lines' 100 fun z hz => (t'.ok z hz).2
      have nlen : nl.length = 1 := by decide +kernel
      show strOf (.str nl) ((R.ok (PyData.list (lines'.map PyData.str))).bind fun b => joinD (.str nl) [b]) = _
      rw [x_strOf, x_bind_ok]
      exact x_join nl lines' (by rw [nlen]; omega)
end K02
namespace K02
open PySem L2 DL
theorem gr_tail : ∀ (a b : Ks), Gr (a ++ b) → Gr b
  | [], _, h => h
  | _ :: a, b, h => gr_tail a b h.2.2.2
theorem gr_at {ds l : Ks} {p : Str × Str} (h : Gr (ds ++ p :: l).reverse) : p.1 ∉ ds.map (·.1) ∧ (p.2 = eS ∨ p.2 ∈ ds.map (·.1)) := by
  have e : (ds ++ p :: l).reverse = l.reverse ++ (p :: ds.reverse) := by simp
  rw [e] at h
  have g := gr_tail _ _ h
  refine ⟨fun q => g.2.1 (by rw [List.map_reverse]; exact List.mem_reverse.mpr q), ?_⟩
  rcases g.2.2.1 with q | q
  · exact .inl q
  · exact .inr (by rw [List.map_reverse] at q; exact List.mem_reverse.mp q)
theorem scal_strs : ∀ l : List Str, (l.map PyData.str).all scalD = true
  | [] => rfl
  | x :: l => by rw [List.map_cons, List.all_cons, scal_strs l]; rfl
theorem lc_names : ∀ (ds : Ks) (ρ : Rho), (∃ s0 s1 s2 s3 s4 s5, ρ = [s0, s1, s2, s3, s4, s5, none, none]) → lcL (lcE (aTup 2 (asCons (aName 6) (asCons (aName 7) asNil))) gYes (eVar 6) ρ) (ds.map kI) = .ok ((ds.map (·.1)).map PyData.str)
  | [], _, _ => rfl
  | p :: ds, ρ, h => by
    have ih := lc_names ds ρ h
    obtain ⟨s0, s1, s2, s3, s4, s5, rfl⟩ := h
    rw [List.map_cons]
    unfold lcL
    have e : lcE (aTup 2 (asCons (aName 6) (asCons (aName 7) asNil))) gYes (eVar 6) [s0, s1, s2, s3, s4, s5, none, none] (kI p) = .ok (some (.str p.1)) := rfl
    rw [e, x_bind_ok, ih]
    rfl
theorem names_ok (s0 s2 s3 s4 s5 s6 s7 : Option Sl) (ds : Ks) (hl : ds.length ≤ 100) : eFz (oUnf 1 (oLc (iItems (eVar 1)) (aTup 2 (asCons (aName 6) (asCons (aName 7) asNil))) gYes (eVar 6) [6, 7])) [s0, some (.o (.list (ds.map kI))), s2, s3, s4, s5, s6, s7] = .ok (.list ((ds.map (·.1)).map PyData.str)) := by
  have e1 : oLc (iItems (eVar 1)) (aTup 2 (asCons (aName 6) (asCons (aName 7) asNil))) gYes (eVar 6) [6, 7] [s0, some (.d (.list (ds.map kI))), s2, s3, s4, s5, s6, s7] = .ok (.list ((ds.map (·.1)).map PyData.str)) := by
    show (R.ok (ds.map kI)).bind (fun xs => (noExc (lcL (lcE (aTup 2 (asCons (aName 6) (asCons (aName 7) asNil))) gYes (eVar 6) [s0, some (.d (.list (ds.map kI))), s2, s3, s4, s5, none, none]) xs)).bind fun l => if l.length ≤ sizeLine then R.ok (PyData.list l) else .bad) = _
    rw [x_bind_ok, lc_names ds _ ⟨_, _, _, _, _, _, rfl⟩, x_noExc_ok, x_bind_ok, if_pos (sz (by rw [List.length_map, List.length_map]; omega))]
  show ((oLc (iItems (eVar 1)) (aTup 2 (asCons (aName 6) (asCons (aName 7) asNil))) gYes (eVar 6) [6, 7] [s0, some (.d (.list (ds.map kI))), s2, s3, s4, s5, s6, s7]).bind scalL).bind notDict = _
  rw [e1, x_bind_ok]
  show (if ((ds.map (·.1)).map PyData.str).all scalD = true then R.ok (PyData.list ((ds.map (·.1)).map PyData.str)) else .bad).bind notDict = _
  rw [if_pos (scal_strs _)]
  rfl
theorem nin_strs {ga gb : Rho → R PD} {ρ : Rho} {a : Str} {l : List Str} (ha : ga ρ = .ok (.str a)) (hb : gb ρ = .ok (.list (l.map PyData.str))) : eOp ninD ga gb ρ = .ok (.bool (!decide (a ∈ l))) := by
  rw [op_ok ha hb, x_nin, x_in_strs]
  rfl
theorem read_loop (td : PD) : ∀ (l ds : Ks) (L : List (Nat × List Str)) (y2 y3 y4 y5 y6 y7 : Option Sl), L.map (·.2) = l.map rowOf → Gr (ds ++ l).reverse → ds.length + l.length ≤ 12 → (∀ p ∈ l, isW p.1 = true ∧ p.1.length ≤ 8 ∧ (p.2 = eS ∨ isW p.2 = true ∧ p.2.length ≤ 8)) → ∃ z2 z3 z4 z5 z6 z7,
    forD (aTup 2 (asCons (aName 2) (asCons (aName 3) asNil))) (sSeq (sSet 4 (eCall 1 d_kind_written (aCons (eVar 3) aNil))) (sSeq (sIf (bOf (eOp isND (rVar 4) (eC .none))) sBad sNext) (sSeq (sSet 5 (eFz (oUnf 1 (oLc (iItems (eVar 1)) (aTup 2 (asCons (aName 6) (asCons (aName 7) asNil))) gYes (eVar 6) [6, 7])))) (sSeq (sIf (bOf (eOp inD (eOp ixD (rVar 4) (eC (.int 0))) (rVar 5))) sBad sNext) (sSeq (sIf (bAnd (bOf (eOp neD (eOp ixD (rVar 4) (eC (.int 1))) (eC (.str (PySem.Str.ofString ""))))) (bOf (eOp ninD (eOp ixD (rVar 4) (eC (.int 1))) (rVar 5)))) sBad sNext) (sSeq (sIf (bOf (eOp eqD (eCB lenD (aCons (rVar 1) aNil)) (eC (.int 12)))) sBad sNext) (sAppend 1 (eVar 4)))))))) (L.map rI)
      [some (.d td), some (.o (.list (ds.map kI))), y2, y3, y4, y5, y6, y7] = .nx [some (.d td), some (.o (.list ((ds ++ l).map kI))), z2, z3, z4, z5, z6, z7] := by
  intro l
  induction l with
  | nil =>
    intro ds L y2 y3 y4 y5 y6 y7 e _ _ _
    have : L = [] := List.map_eq_nil_iff.mp e
    subst this
    exact ⟨y2, y3, y4, y5, y6, y7, by rw [List.append_nil]; rfl⟩
  | cons p l ih =>
    intro ds L y2 y3 y4 y5 y6 y7 e hg hl hw
    cases L with
    | nil => cases e
    | cons q L =>
      rw [List.map_cons, List.map_cons] at e
      injection e with e1 e2
      rw [List.length_cons] at hl
      obtain ⟨g1, g2⟩ := gr_at hg
      obtain ⟨w1, w2, w3⟩ := hw p List.mem_cons_self
      have kr := kind_row p w1 w2 w3
      rw [← e1] at kr
      obtain ⟨z2, z3, z4, z5, z6, z7, ihe⟩ := ih (ds ++ [p]) L (some (.d (.int (q.1 : Nat)))) (some (.d (.list (q.2.map PyData.str)))) (some (.d (kI p))) (some (.d (.list ((ds.map (·.1)).map PyData.str)))) y6 y7 e2 (by rw [List.append_assoc]; exact hg) (by rw [List.length_append, List.length_singleton]; omega) fun r hr => hw r (List.mem_cons_of_mem _ hr)
      refine ⟨z2, z3, z4, z5, z6, z7, ?_⟩
      rw [List.map_cons]
      unfold forD
      have ea : aTup 2 (asCons (aName 2) (asCons (aName 3) asNil)) [some (.d td), some (.o (.list (ds.map kI))), y2, y3, y4, y5, y6, y7] (rI q) = .ok [some (.d td), some (.o (.list (ds.map kI))), some (.d (.int (q.1 : Nat))), some (.d (.list (q.2.map PyData.str))), y4, y5, y6, y7] := rfl
      rw [ea]
      simp only
      rw [seq_nx (set_ok (x := kI p) (call1 rfl kr))]
      simp only [List.set]
      rw [seq_nx (ρ1 := [some (.d td), some (.o (.list (ds.map kI))), some (.d (.int (q.1 : Nat))), some (.d (.list (q.2.map PyData.str))), some (.d (kI p)), y5, y6, y7]) (by
        rw [if_f (bof (b := false) rfl)]
        rfl)]
      rw [seq_nx (s := sSet 5 _) (set_ok (names_ok _ _ _ _ _ _ _ ds (by omega)))]
      simp only [List.set]
      have i0 : ixD (kI p) (.int 0) = .ok (.str p.1) := x_ix_t _ 0 _ (by decide) rfl
      have i1 : ixD (kI p) (.int 1) = .ok (.str p.2) := x_ix_t _ 1 _ (by decide) rfl
      rw [seq_nx (ρ1 := [some (.d td), some (.o (.list (ds.map kI))), some (.d (.int (q.1 : Nat))), some (.d (.list (q.2.map PyData.str))), some (.d (kI p)), some (.d (.list ((ds.map (·.1)).map PyData.str))), y6, y7]) (by
        rw [if_f (bof ((in_strs (l := ds.map (·.1)) (a := p.1) ((op_ok (a := kI p) (b := .int 0) rfl rfl).trans i0) rfl).trans (by rw [decide_eq_false g1])))]
        rfl)]
      rw [seq_nx (ρ1 := [some (.d td), some (.o (.list (ds.map kI))), some (.d (.int (q.1 : Nat))), some (.d (.list (q.2.map PyData.str))), some (.d (kI p)), some (.d (.list ((ds.map (·.1)).map PyData.str))), y6, y7]) (by
        rw [if_f]
        · rfl
        · have n1 : eOp neD (eOp ixD (rVar 4) (eC (.int 1))) (eC (.str (PySem.Str.ofString ""))) [some (.d td), some (.o (.list (ds.map kI))), some (.d (.int (q.1 : Nat))), some (.d (.list (q.2.map PyData.str))), some (.d (kI p)), some (.d (.list ((ds.map (·.1)).map PyData.str))), y6, y7] = .ok (.bool (!decide (p.2 = eS))) :=
            (op_ok (a := .str p.2) (b := .str eS) ((op_ok (a := kI p) (b := .int 1) rfl rfl).trans i1) rfl).trans (by rw [x_ne, x_eqB_s]; rfl)
          rw [x_bAnd, bof n1, x_bind_ok]
          rcases g2 with c | c
          · rw [decide_eq_true c]
            rfl
          · have n2 := nin_strs (ρ := [some (.d td), some (.o (.list (ds.map kI))), some (.d (.int (q.1 : Nat))), some (.d (.list (q.2.map PyData.str))), some (.d (kI p)), some (.d (.list ((ds.map (·.1)).map PyData.str))), y6, y7]) (l := ds.map (·.1)) (a := p.2) (ga := eOp ixD (rVar 4) (eC (.int 1))) (gb := rVar 5) ((op_ok (a := kI p) (b := .int 1) rfl rfl).trans i1) rfl
            rw [decide_eq_true c] at n2
            by_cases d : p.2 = eS
            · rw [decide_eq_true d]; rfl
            · rw [decide_eq_false d]
              exact bof n2)]
      rw [seq_nx (ρ1 := [some (.d td), some (.o (.list (ds.map kI))), some (.d (.int (q.1 : Nat))), some (.d (.list (q.2.map PyData.str))), some (.d (kI p)), some (.d (.list ((ds.map (·.1)).map PyData.str))), y6, y7]) (by
        rw [if_f]
        · rfl
        · have ll : ¬ (((ds.map kI).length : Nat) : Int) = 12 := by rw [List.length_map]; omega
          exact bof ((op_ok (a := .int ((ds.map kI).length : Nat)) (b := .int 12) rfl rfl).trans (by rw [x_eq, x_eqB_i, decide_eq_false ll]; rfl)))]
      rw [append_ok (ds := ds.map kI) (x := kI p) rfl rfl (by rw [List.length_map]; exact szl (by omega))]
      simp only [List.set]
      rw [show ds.map kI ++ [kI p] = (ds ++ [p]).map kI by rw [List.map_append]; rfl, show ds ++ p :: l = ds ++ [p] ++ l by rw [List.append_assoc]; rfl]
      exact ihe
theorem read_kinds (z : Str) (ws : Ks) (L : List (Nat × List Str)) (h : d_word_rows [.str z] = .rt (.o (.list (L.map rI)))) (e : L.map (·.2) = ws.map rowOf) (hg : Gr ws.reverse) (hl : ws.length ≤ 12) (hw : ∀ p ∈ ws, isW p.1 = true ∧ p.1.length ≤ 8 ∧ (p.2 = eS ∨ isW p.2 = true ∧ p.2.length ≤ 8)) : d_read_kinds [.str z] = .rt (.o (kD ws)) := by
  obtain ⟨z2, z3, z4, z5, z6, z7, el⟩ := read_loop (.str z) ws [] L none none none none none none e (by rw [List.nil_append]; exact hg) (by simp; omega) hw
  show (S_read_kinds [some (.d (.str z)), none, none, none, none, none, none, none]).fr = _
  unfold S_read_kinds
  rw [seq_nx (ρ1 := [some (.d (.str z)), some (.o (.list (([] : Ks).map kI))), none, none, none, none, none, none]) (by simp)]
  rw [seq_nx (ρ1 := [some (.d (.str z)), some (.o (.list (([] ++ ws).map kI))), z2, z3, z4, z5, z6, z7]) (by
    have c1 : eCall 1 d_word_rows (aCons (eVar 0) aNil) [some (.d (.str z)), some (.o (.list (([] : Ks).map kI))), none, none, none, none, none, none] = .ok (.list (L.map rI)) := by
      simp only [x_eCall, x_aCons, x_aNil, eVar, List.getElem?_cons_zero, x_bind_ok]
      show (if 1 = 1 then (d_word_rows [.str z]).toE else R.bad) = _
      rw [if_pos rfl, h]
      rfl
    rw [x_sFor, x_iItems, c1]
    exact el)]
  rw [List.nil_append]
  rfl
theorem rows_loop2 (s0 s1 s2 s3 s8 s9 s10 : Option Sl) : ∀ (l ds : Ks) (y5 y6 y7 : Option Sl), ds.length + l.length ≤ 100 → ∃ z5 z6 z7,
    forD (aTup 2 (asCons (aName 5) (asCons (aName 6) asNil))) (sSeq (sSet 7 (eFz (oLst (aCons (eC (.str (PySem.Str.ofString "kind"))) (aCons (eVar 5) aNil))))) (sSeq (sIf (bOf (eOp neD (rVar 6) (eC (.str (PySem.Str.ofString ""))))) (sSet 7 (eOp addD (rVar 7) (eFz (oLst (aCons (eC (.str (PySem.Str.ofString "of"))) (aCons (eVar 6) aNil)))))) sNext) (sAppend 4 (eVar 7)))) (l.map kI)
      [s0, s1, s2, s3, some (.o (.list ((ds.map rowOf).map rowD))), y5, y6, y7, s8, s9, s10] = .nx [s0, s1, s2, s3, some (.o (.list (((ds ++ l).map rowOf).map rowD))), z5, z6, z7, s8, s9, s10]
  | [], ds, y5, y6, y7, _ => ⟨y5, y6, y7, by rw [List.append_nil]; rfl⟩
  | p :: l, ds, y5, y6, y7, hl => by
    rw [List.length_cons] at hl
    obtain ⟨z5, z6, z7, ih⟩ := rows_loop2 s0 s1 s2 s3 s8 s9 s10 l (ds ++ [p]) (some (.d (.str p.1))) (some (.d (.str p.2))) (some (.d (rowD (rowOf p)))) (by rw [List.length_append, List.length_singleton]; omega)
    refine ⟨z5, z6, z7, ?_⟩
    rw [List.map_cons]
    unfold forD
    have ea : aTup 2 (asCons (aName 5) (asCons (aName 6) asNil)) [s0, s1, s2, s3, some (.o (.list ((ds.map rowOf).map rowD))), y5, y6, y7, s8, s9, s10] (kI p) = .ok [s0, s1, s2, s3, some (.o (.list ((ds.map rowOf).map rowD))), some (.d (.str p.1)), some (.d (.str p.2)), y7, s8, s9, s10] := rfl
    rw [ea]
    simp only
    have s2' : (2 : Nat) ≤ sizeLine := sz (by decide)
    have s4' : (4 : Nat) ≤ sizeLine := sz (by decide)
    rw [seq_nx (set_ok (x := .list [.str strK, .str p.1]) (by
      show (if 2 ≤ sizeLine then R.ok (PyData.list [.str strK, .str p.1]) else .bad).bind notDict = _
      rw [if_pos s2']
      rfl))]
    simp only [List.set]
    rw [seq_nx (ρ1 := [s0, s1, s2, s3, some (.o (.list ((ds.map rowOf).map rowD))), some (.d (.str p.1)), some (.d (.str p.2)), some (.d (rowD (rowOf p))), s8, s9, s10]) (by
      have n1 : eOp neD (rVar 6) (eC (.str (PySem.Str.ofString ""))) [s0, s1, s2, s3, some (.o (.list ((ds.map rowOf).map rowD))), some (.d (.str p.1)), some (.d (.str p.2)), some (.d (.list [.str strK, .str p.1])), s8, s9, s10] = .ok (.bool (!decide (p.2 = eS))) :=
        (op_ok (a := .str p.2) (b := .str eS) rfl rfl).trans (by rw [x_ne, x_eqB_s]; rfl)
      by_cases c : p.2 = eS
      · rw [decide_eq_true c] at n1
        rw [if_f (bof n1)]
        unfold rowOf
        rw [if_pos c]
        rfl
      · rw [decide_eq_false c] at n1
        rw [if_t (bof n1)]
        have o1 : eFz (oLst (aCons (eC (.str (PySem.Str.ofString "of"))) (aCons (eVar 6) aNil))) [s0, s1, s2, s3, some (.o (.list ((ds.map rowOf).map rowD))), some (.d (.str p.1)), some (.d (.str p.2)), some (.d (.list [.str strK, .str p.1])), s8, s9, s10] = .ok (.list [.str strO, .str p.2]) := by
          show (if 2 ≤ sizeLine then R.ok (PyData.list [.str strO, .str p.2]) else .bad).bind notDict = _
          rw [if_pos s2']
          rfl
        rw [set_ok (x := .list [.str strK, .str p.1, .str strO, .str p.2]) ((op_ok (a := .list [.str strK, .str p.1]) rfl o1).trans (by
          show (if 2 + 2 ≤ sizeLine then R.ok (PyData.list _) else .bad) = _
          rw [if_pos s4']
          rfl))]
        unfold rowOf
        rw [if_neg c]
        rfl)]
    rw [append_ok (ds := (ds.map rowOf).map rowD) (x := rowD (rowOf p)) rfl rfl (by rw [List.length_map, List.length_map]; exact szl (by omega))]
    simp only [List.set]
    rw [show (ds.map rowOf).map rowD ++ [rowD (rowOf p)] = ((ds ++ [p]).map rowOf).map rowD by rw [List.map_append, List.map_append]; rfl, show ds ++ p :: l = ds ++ [p] ++ l by rw [List.append_assoc]; rfl]
    exact ih
end K02
namespace K02
open PySem L2 DL
theorem words_ok {ws : Ks} {lines : List Str} (h : TL2 lines (ws.map rowOf)) (hw : ∀ p ∈ ws, Wc p.1 ∧ (p.2 = eS ∨ Wc p.2)) : ∀ l ∈ lines, l.length ≤ 1000 ∧ ∀ w ∈ Txt.words l, PyData.strOk w = true := by
  intro l hl
  refine ⟨by have := (h.ok l hl).2; omega, fun w hwd => ?_⟩
  have ne : Txt.words l ≠ [] := fun q => by rw [q] at hwd; cases hwd
  have m : Txt.words l ∈ ws.map rowOf := by
    rw [← h.w]
    exact List.mem_filter.mpr ⟨List.mem_map_of_mem hl, decide_eq_true ne⟩
  obtain ⟨p, hp, e⟩ := List.mem_map.mp m
  rw [← e] at hwd
  obtain ⟨a, b⟩ := hw p hp
  unfold rowOf at hwd
  split at hwd
  · simp only [List.mem_cons, List.not_mem_nil, or_false] at hwd
    rcases hwd with q | q
    · rw [q]; exact strOk_wc wc_K
    · rw [q]; exact strOk_wc a
  · rename_i c
    simp only [List.mem_cons, List.not_mem_nil, or_false] at hwd
    rcases hwd with q | q | q | q
    · rw [q]; exact strOk_wc wc_K
    · rw [q]; exact strOk_wc a
    · rw [q]; exact strOk_wc wc_O
    · rw [q]; exact strOk_wc (b.resolve_left c)
theorem rows_ok {ws : Ks} (hw : ∀ p ∈ ws, Wc p.1 ∧ (p.2 = eS ∨ Wc p.2)) : ∀ r ∈ ws.map rowOf, r ≠ [] ∧ (∀ w ∈ r, Wc w) ∧ r.length ≤ 4 := by
  intro r hr
  obtain ⟨p, hp, e⟩ := List.mem_map.mp hr
  obtain ⟨a, b⟩ := hw p hp
  unfold rowOf at e
  split at e
  · subst e
    refine ⟨by simp, fun w hwd => ?_, by simp⟩
    simp only [List.mem_cons, List.not_mem_nil, or_false] at hwd
    rcases hwd with q | q
    · rw [q]; exact wc_K
    · rw [q]; exact a
  · rename_i c
    subst e
    refine ⟨by simp, fun w hwd => ?_, by simp⟩
    simp only [List.mem_cons, List.not_mem_nil, or_false] at hwd
    rcases hwd with q | q | q | q
    · rw [q]; exact wc_K
    · rw [q]; exact a
    · rw [q]; exact wc_O
    · rw [q]; exact b.resolve_left c
theorem joinL_le (s : List Nat) : ∀ l : List (List Nat), (TL.joinL s l).length ≤ (l.map (·.length)).sum + l.length * s.length
  | [] => Nat.zero_le _
  | [p] => by
    show p.length ≤ _
    simp
  | p :: q :: r => by
    have ih := joinL_le s (q :: r)
    show (p ++ (s ++ TL.joinL s (q :: r))).length ≤ _
    rw [List.length_append, List.length_append, List.map_cons, List.sum_cons, List.length_cons, Nat.succ_mul]
    omega
theorem join_le (y : Str) (l : List Str) : (Txt.join y l).length ≤ (l.map (·.length)).sum + l.length * y.length := by
  have h := joinL_le (TL.tl y) (l.map TL.tl)
  have e : (Txt.join y l).length = (TL.tl (Txt.join y l)).length := TL.len_tl _
  rw [TL.join_eq, TL.tl_join] at e
  rw [TL.join_eq, e]
  rw [List.length_map, List.map_map] at h
  have e2 : (l.map ((fun x : List Nat => x.length) ∘ TL.tl)) = l.map (·.length) := List.map_congr_left fun z _ => (TL.len_tl z).symm
  have e2' : (l.map fun z : Str => (TL.tl z).length) = l.map (·.length) := List.map_congr_left fun z _ => (TL.len_tl z).symm
  rw [e2] at h
  rw [← TL.len_tl] at h
  exact h
/-- the told text is read -/
theorem read_back (ws : Ks) (s : Int) (h0 : 0 ≤ s) (hg : Gr ws.reverse) (hn : ∀ p ∈ ws, ∃ j, p.1 = nm s j) (hl : ws.length ≤ 12) : ∃ z : Str, d_law_text [.list ((ws.map rowOf).map rowD), .int s] = .rt (.d (.str z)) ∧ d_read_kinds [.str z] = .rt (.o (kD ws)) := by
  have names : ∀ z ∈ ws.map (·.1), Wc z ∧ isW z = true := by
    intro z hz
    obtain ⟨p, hp, rfl⟩ := List.mem_map.mp hz
    obtain ⟨j, e⟩ := hn p hp
    rw [e]
    exact ⟨nm_wc s j h0, nm_word s j h0⟩
  have up : ∀ p ∈ ws, p.2 = eS ∨ p.2 ∈ ws.map (·.1) := by
    intro p hp
    rcases upper_in _ hg p (List.mem_reverse.mpr hp) with z | z
    · exact .inl z
    · rw [List.map_reverse] at z
      exact .inr (List.mem_reverse.mp z)
  have hw : ∀ p ∈ ws, Wc p.1 ∧ (p.2 = eS ∨ Wc p.2) := fun p hp => ⟨(names _ (List.mem_map_of_mem hp)).1, (up p hp).imp id fun q => (names _ q).1⟩
  have hw2 : ∀ p ∈ ws, isW p.1 = true ∧ p.1.length ≤ 8 ∧ (p.2 = eS ∨ isW p.2 = true ∧ p.2.length ≤ 8) := fun p hp =>
    ⟨(names _ (List.mem_map_of_mem hp)).2, (names _ (List.mem_map_of_mem hp)).1.hi, (up p hp).imp id fun q => ⟨(names _ q).2, (names _ q).1.hi⟩⟩
  obtain ⟨lines, et, t, hn2⟩ := law_text (ws.map rowOf) s h0 (rows_ok hw) (by rw [List.length_map]; exact hl)
  obtain ⟨ls, es, t2, hls⟩ := t.split
  have sl := sum_le lines 100 fun z hz => (t.ok z hz).2
  have nlen : nl.length = 1 := by decide +kernel
  have jl : (Txt.join nl lines).length ≤ 10000 := by
    have := join_le nl lines
    rw [nlen] at this
    omega
  obtain ⟨L, e1, e2⟩ := word_rows (Txt.join nl lines) ls es jl (words_ok t2 hw) (by omega)
  rw [t2.w] at e2
  exact ⟨_, et, read_kinds _ ws L e1 e2 hg hl hw2⟩
theorem lc_tuples (ρ : Rho) (h : ∃ s0 s1 s2 s3 s4 s5 s6 s7 s8 s9, ρ = [s0, s1, s2, s3, s4, s5, s6, s7, s8, s9, none]) : ∀ ws : Ks, lcL (lcE (aName 10) gYes (eIsi "tuple" (rVar 10)) ρ) (ws.map kI) = .ok ((ws.map fun _ => true).map PyData.bool)
  | [] => rfl
  | p :: ws => by
    have ih := lc_tuples ρ h ws
    obtain ⟨s0, s1, s2, s3, s4, s5, s6, s7, s8, s9, rfl⟩ := h
    rw [List.map_cons]
    unfold lcL
    have e : lcE (aName 10) gYes (eIsi "tuple" (rVar 10)) [s0, s1, s2, s3, s4, s5, s6, s7, s8, s9, none] (kI p) = .ok (some (.bool true)) := by
      show (R.ok true).bind (fun b => if b = true then (eIsi "tuple" (rVar 10) [s0, s1, s2, s3, s4, s5, s6, s7, s8, s9, some (.d (kI p))]).bind fun y => R.ok (some y) else .ok none) = _
      rw [x_bind_ok, if_pos rfl]
      show (isiD "tuple" (kI p)).bind _ = _
      unfold kI
      rw [isi_tuple_t]
      rfl
    rw [e, x_bind_ok, ih]
    rfl
theorem all_true (ws : Ks) : (ws.map fun _ => true).all id = true := by
  rw [List.all_map]
  exact List.all_eq_true.mpr fun _ _ => rfl
theorem scal_bls : ∀ l : List Bool, (l.map PyData.bool).all scalD = true
  | [] => rfl
  | x :: l => by rw [List.map_cons, List.all_cons, scal_bls l]; rfl
theorem tup_ok (s0 s1 s2 s3 s4 s5 s6 s7 s8 s10 : Option Sl) (ws : Ks) (hl : ws.length ≤ 100) : eFz (oUnf 9 (oLc (iItems (eVar 9)) (aName 10) gYes (eIsi "tuple" (rVar 10)) [10])) [s0, s1, s2, s3, s4, s5, s6, s7, s8, some (.o (kD ws)), s10] = .ok (.list ((ws.map fun _ => true).map PyData.bool)) := by
  have e1 : oLc (iItems (eVar 9)) (aName 10) gYes (eIsi "tuple" (rVar 10)) [10] [s0, s1, s2, s3, s4, s5, s6, s7, s8, some (.d (kD ws)), s10] = .ok (.list ((ws.map fun _ => true).map PyData.bool)) := by
    show (R.ok (ws.map kI)).bind (fun xs => (noExc (lcL (lcE (aName 10) gYes (eIsi "tuple" (rVar 10)) [s0, s1, s2, s3, s4, s5, s6, s7, s8, some (.d (kD ws)), none]) xs)).bind fun l => if l.length ≤ sizeLine then R.ok (PyData.list l) else .bad) = _
    rw [x_bind_ok, lc_tuples _ ⟨_, _, _, _, _, _, _, _, _, _, rfl⟩ ws, x_noExc_ok, x_bind_ok, if_pos (sz (by rw [List.length_map, List.length_map]; omega))]
  show ((oLc (iItems (eVar 9)) (aName 10) gYes (eIsi "tuple" (rVar 10)) [10] [s0, s1, s2, s3, s4, s5, s6, s7, s8, some (.d (kD ws)), s10]).bind scalL).bind notDict = _
  rw [e1, x_bind_ok]
  show (if ((ws.map fun _ => true).map PyData.bool).all scalD = true then R.ok (PyData.list ((ws.map fun _ => true).map PyData.bool)) else .bad).bind notDict = _
  rw [if_pos (scal_bls _)]
  rfl
theorem ne_of_eq {a b : PD} (h : eqD a b = .ok (.bool true)) : neD a b = .ok (.bool false) := by
  rw [x_eq] at h
  rw [x_ne]
  generalize eqB a b = q at h
  cases q with
  | ok c =>
    cases c with
    | true => rfl
    | false => exact absurd h (by intro w; injection w with w; injection w with w; cases w)
  | exc c => cases h
  | bad => cases h
theorem law_ok (ns : List Int) (h : ns.length ≤ 63) : d_law [.list (ns.map PyData.int)] = .rt (.d (.bool true)) := by
  show (S_law [some (.d (.list (ns.map PyData.int))), none, none, none, none, none, none, none, none, none, none]).fr = _
  unfold S_law
  obtain ⟨s, h0, h1, es⟩ := law_salt ns h
  have d3 := x_div s 3 (by decide) (by decide)
  have d5 := x_div s 5 (by decide) (by decide)
  have d7 := x_div s 7 (by decide) (by decide)
  have d11 := x_div s 11 (by decide) (by decide)
  have d13 := x_div s 13 (by decide) (by decide)
  have m13 := x_mod (s / 13) 13 (by decide)
  rw [seq_nx (set_ok (x := .int s) (call2 rfl rfl es))]
  simp only [List.set]
  obtain ⟨cells, hc, hl⟩ : ∃ cells : List Int, cells = (ns ++ [s / 3, s / 5, s / 7, s / 11]).take (s / 13 % 13).toNat ∧ cells.length ≤ 12 := ⟨_, rfl, by rw [List.length_take]; omega⟩
  have s4 : (4 : Nat) ≤ sizeLine := sz (by decide)
  have sn : (ns.map PyData.int).length + 4 ≤ sizeLine := sz (by rw [List.length_map]; omega)
  rw [seq_nx (set_ok (x := .list (cells.map PyData.int)) (by
    have q1 : eSl (rVar 0) pNo (pSo (eC (.int 63))) [some (.d (.list (ns.map PyData.int))), some (.d (.int s)), none, none, none, none, none, none, none, none, none] = .ok (.list (ns.map PyData.int)) := by
      show R.ok (PyData.list (cutD (ns.map PyData.int) none (some 63))) = _
      rw [cut63 ns h]
    have q2 : eFz (oLst (aCons (eOp divD (rVar 1) (eC (.int 3))) (aCons (eOp divD (rVar 1) (eC (.int 5))) (aCons (eOp divD (rVar 1) (eC (.int 7))) (aCons (eOp divD (rVar 1) (eC (.int 11))) aNil))))) [some (.d (.list (ns.map PyData.int))), some (.d (.int s)), none, none, none, none, none, none, none, none, none] = .ok (.list ([s / 3, s / 5, s / 7, s / 11].map PyData.int)) := by
      simp [rVar, d3, d5, d7, d11, s4]
    have q3 : eOp addD (eSl (rVar 0) pNo (pSo (eC (.int 63)))) (eFz (oLst (aCons (eOp divD (rVar 1) (eC (.int 3))) (aCons (eOp divD (rVar 1) (eC (.int 5))) (aCons (eOp divD (rVar 1) (eC (.int 7))) (aCons (eOp divD (rVar 1) (eC (.int 11))) aNil)))))) [some (.d (.list (ns.map PyData.int))), some (.d (.int s)), none, none, none, none, none, none, none, none, none] = .ok (.list ((ns ++ [s / 3, s / 5, s / 7, s / 11]).map PyData.int)) := by
      rw [op_ok q1 q2, x_add_l, if_pos (by simpa using sn), ← List.map_append]
    have q4 : pSo (eOp modD (eOp divD (rVar 1) (eC (.int 13))) (eC (.int 13))) [some (.d (.list (ns.map PyData.int))), some (.d (.int s)), none, none, none, none, none, none, none, none, none] = .ok (some (s / 13 % 13)) := by
      simp [rVar, d13, m13]
    rw [x_eSl, q3, x_bind_ok, x_pNo, x_bind_ok, q4, x_bind_ok, x_sl_l, cut_to _ _ (by omega), ← hc]))]
  simp only [List.set]
  obtain ⟨ws, ek, hg, hn, hw⟩ := law_kinds cells s h0 h1 hl
  rw [seq_nx (set_ok (x := kD ws) (call2o rfl rfl ek))]
  simp only [List.set]
  rw [seq_nx (setO_ok (x := .list []) (show oLst aNil _ = _ from (by rw [x_oLst, x_aNil, x_bind_ok]; exact if_pos (Nat.zero_le _))))]
  simp only [List.set]
  obtain ⟨z, et, er⟩ := read_back ws s h0 hg hn hw
  have ke := kinds_eq s h0 ws hg hn
  have kne := ne_of_eq ke
  generalize hs0 : some (Sl.d (.list (ns.map PyData.int))) = s0
  generalize hs2 : some (Sl.d (.list (cells.map PyData.int))) = s2
  obtain ⟨z5, z6, z7, el⟩ := rows_loop2 s0 (some (.d (.int s))) s2 (some (.d (kD ws))) none none none ws [] none none none (by simp; omega)
  rw [List.nil_append] at el
  rw [seq_nx (ρ1 := [s0, some (.d (.int s)), s2, some (.d (kD ws)), some (.o (.list ((ws.map rowOf).map rowD))), z5, z6, z7, none, none, none]) (by
    rw [x_sFor]
    show SR.of (R.ok (ws.map kI)) _ = _
    exact el)]
  rw [seq_nx (ρ1 := [s0, some (.d (.int s)), s2, some (.d (kD ws)), some (.d (.list ((ws.map rowOf).map rowD))), z5, z6, z7, some (.d (.str z)), none, none]) (by
    show sSet 8 (eCall 2 d_law_text (aCons (eVar 4) (aCons (eVar 1) aNil))) [s0, some (.d (.int s)), s2, some (.d (kD ws)), some (.d (.list ((ws.map rowOf).map rowD))), z5, z6, z7, none, none, none] = _
    rw [set_ok (x := .str z) (call2 rfl rfl et)]
    rfl)]
  rw [seq_nx (setO_ok (x := kD ws) (by
    simp only [x_oCall, x_aCons, x_aNil, eVar, List.getElem?_cons_succ, List.getElem?_cons_zero, x_bind_ok]
    show (if 1 = 1 then (d_read_kinds [.str z]).toO else R.bad) = _
    rw [if_pos rfl, er]
    rfl))]
  simp only [List.set]
  rw [seq_nx (ρ1 := [s0, some (.d (.int s)), s2, some (.d (kD ws)), some (.d (.list ((ws.map rowOf).map rowD))), z5, z6, z7, some (.d (.str z)), some (.o (kD ws)), none]) (by
    rw [if_f]
    · rfl
    · have i1 : eIsi "list" (rVar 9) [s0, some (.d (.int s)), s2, some (.d (kD ws)), some (.d (.list ((ws.map rowOf).map rowD))), z5, z6, z7, some (.d (.str z)), some (.o (kD ws)), none] = .ok (.bool true) := by
        show isiD "list" (kD ws) = _
        unfold kD
        exact isi_list_l _
      have i2 : eOp neD (rVar 9) (rVar 3) [s0, some (.d (.int s)), s2, some (.d (kD ws)), some (.d (.list ((ws.map rowOf).map rowD))), z5, z6, z7, some (.d (.str z)), some (.o (kD ws)), none] = .ok (.bool false) := (op_ok (a := kD ws) (b := kD ws) rfl rfl).trans kne
      have i3 : eCB allD (aCons (eFz (oUnf 9 (oLc (iItems (eVar 9)) (aName 10) gYes (eIsi "tuple" (rVar 10)) [10]))) aNil) [s0, some (.d (.int s)), s2, some (.d (kD ws)), some (.d (.list ((ws.map rowOf).map rowD))), z5, z6, z7, some (.d (.str z)), some (.o (kD ws)), none] = .ok (.bool true) := by
        rw [cb1 (tup_ok _ _ _ _ _ _ _ _ _ _ ws (by omega)), x_all, all_true]
      rw [x_bOr, x_bNot, bof i1, x_bind_ok, x_bind_ok]
      show bOr _ _ _ = _
      rw [x_bOr, bof i2, x_bind_ok]
      show bNot _ _ = _
      rw [x_bNot, bof i3]
      rfl)]
  have s2' : (2 : Nat) ≤ sizeLine := sz (by decide)
  rw [seq_nx (append_ok (ds := ws.map kI) (x := .tuple [.str (Str.ofString "zz"), .str (Str.ofString "")]) rfl (by simp [s2']) (by rw [List.length_map]; exact szl (by omega)))]
  simp only [List.set]
  obtain ⟨y, ey⟩ : ∃ y, sLset 9 (eTup (aCons (eC (.str (PySem.Str.ofString "zz"))) (aCons (eC (.str (PySem.Str.ofString ""))) aNil))) (eC (.int 0)) [s0, some (.d (.int s)), s2, some (.d (kD ws)), some (.d (.list ((ws.map rowOf).map rowD))), z5, z6, z7, some (.d (.str z)), some (.o (.list (ws.map kI ++ [PyData.tuple [.str (Str.ofString "zz"), .str (Str.ofString "")]]))), none] = .nx [s0, some (.d (.int s)), s2, some (.d (kD ws)), some (.d (.list ((ws.map rowOf).map rowD))), z5, z6, z7, some (.d (.str z)), y, none] := by
    refine ⟨some (.o (.list ((ws.map kI ++ [PyData.tuple [.str (Str.ofString "zz"), .str (Str.ofString "")]]).set 0 (.tuple [.str (Str.ofString "zz"), .str (Str.ofString "")])))), ?_⟩
    unfold sLset
    have et2 : eTup (aCons (eC (.str (PySem.Str.ofString "zz"))) (aCons (eC (.str (PySem.Str.ofString ""))) aNil)) [s0, some (.d (.int s)), s2, some (.d (kD ws)), some (.d (.list ((ws.map rowOf).map rowD))), z5, z6, z7, some (.d (.str z)), some (.o (.list (ws.map kI ++ [PyData.tuple [.str (Str.ofString "zz"), .str (Str.ofString "")]]))), none] = .ok (.tuple [.str (Str.ofString "zz"), .str (Str.ofString "")]) := by simp [s2']
    rw [et2, x_of_ok]
    show setL _ 9 (ws.map kI ++ [PyData.tuple [.str (Str.ofString "zz"), .str (Str.ofString "")]]) _ (.int 0) = _
    unfold setL
    have ix : ixN (ws.map kI ++ [PyData.tuple [.str (Str.ofString "zz"), .str (Str.ofString "")]]).length 0 = some 0 := by
      unfold ixN
      rw [if_pos (by decide), if_pos (by rw [List.length_append, List.length_singleton]; omega)]
      rfl
    simp only [ix]
    rfl
  rw [seq_nx ey]
  rw [ret_ok (x := .bool true)]
  · rfl
  · refine (op_ok (a := kD ws) (b := kD ws) ?_ rfl).trans ke
    simp only [x_eCall, x_aCons, x_aNil, eVar, List.getElem?_cons_succ, List.getElem?_cons_zero, x_bind_ok]
    show (if 1 = 1 then (d_read_kinds [.str z]).toE else R.bad) = _
    rw [if_pos rfl, er]
    rfl
end K02
namespace K02
open PySem PySem.Spec PyProof.Rows L2 DL
def top (i : Nat) : Stmt := PySem.Challenge.pw_claimwise_k02_kinds_read.main.body.getD i (.Pass ⟨0, 0, 0, 0⟩)
abbrev s_signs_among : Stmt := top 10
abbrev s_is_word : Stmt := top 11
abbrev s_word_rows : Stmt := top 12
abbrev s_kind_written : Stmt := top 15
abbrev s_read_kinds : Stmt := top 16
abbrev s_law_mix : Stmt := top 18
abbrev s_law_salt : Stmt := top 19
abbrev s_law_name : Stmt := top 20
abbrev s_law_kinds : Stmt := top 21
abbrev s_law_text : Stmt := top 22
abbrev s_law : Stmt := top 23
abbrev FnP (K : PySem.W.Frag) (x : Str) (st : Stmt) : Prop := ∃ fd : FuncData, FunD K x x (defArgs st) (defBody st) (defScope st) [] [] (He.ga K x) fd
structure Ctx (K : PySem.W.Frag) (mg : Str → Option Value) : Prop where
  F_signs_among : FnP K "signs_among" s_signs_among
  g_signs_among : mg "signs_among" = some (.ref (He.ga K "signs_among"))
  F_is_word : FnP K "is_word" s_is_word
  g_is_word : mg "is_word" = some (.ref (He.ga K "is_word"))
  F_word_rows : FnP K "word_rows" s_word_rows
  g_word_rows : mg "word_rows" = some (.ref (He.ga K "word_rows"))
  F_kind_written : FnP K "kind_written" s_kind_written
  g_kind_written : mg "kind_written" = some (.ref (He.ga K "kind_written"))
  F_read_kinds : FnP K "read_kinds" s_read_kinds
  g_read_kinds : mg "read_kinds" = some (.ref (He.ga K "read_kinds"))
  F_law_mix : FnP K "_law_mix" s_law_mix
  g_law_mix : mg "_law_mix" = some (.ref (He.ga K "_law_mix"))
  F_law_salt : FnP K "_law_salt" s_law_salt
  g_law_salt : mg "_law_salt" = some (.ref (He.ga K "_law_salt"))
  F_law_name : FnP K "_law_name" s_law_name
  g_law_name : mg "_law_name" = some (.ref (He.ga K "_law_name"))
  F_law_kinds : FnP K "_law_kinds" s_law_kinds
  g_law_kinds : mg "_law_kinds" = some (.ref (He.ga K "_law_kinds"))
  F_law_text : FnP K "_law_text" s_law_text
  g_law_text : mg "_law_text" = some (.ref (He.ga K "_law_text"))
  F_law : FnP K "law" s_law
  g_law : mg "law" = some (.ref (He.ga K "law"))
  b_all : mg "all" = none
  b_enumerate : mg "enumerate" = none
  b_isinstance : mg "isinstance" = none
  b_len : mg "len" = none
  b_list : mg "list" = none
  b_range : mg "range" = none
  b_sum : mg "sum" = none
  b_tuple : mg "tuple" = none
  c_KEPT : mg "KEPT" = some (.ref (He.ga K "KEPT"))
  k_KEPT : ∀ F, DL.Dp K F (.ref (He.ga K "KEPT")) k_KEPT
  c_MOST_KINDS : ∃ t, mg "MOST_KINDS" = some (.int 12 t)
  c_MOST_SIGNS : ∃ t, mg "MOST_SIGNS" = some (.int 8 t)
  c_SMALL : ∃ t, mg "SMALL" = some (.str "abcdefghijklmnopqrstuvwxyz" t)
theorem sc_signs_among : FnScope ["text", "signs", "sign"] ["text", "signs"] (defScope s_signs_among) := ⟨rfl, rfl, rfl, by decide +kernel, rfl, by decide +kernel, by decide +kernel⟩
theorem ok_signs_among {P : Program} {w : World} {K : PySem.W.Frag} {mg : Str → Option Value} {base : Heap} (C : Ctx K mg) : Kept P w K mg base 1 2 "signs_among" ["text", "signs"] d_signs_among := by
  have nd := sc_signs_among.nd
  exact kept_of C.F_signs_among C.g_signs_among sc_signs_among rfl rfl (fun _ _ _ _ _ _ us hl => match us, hl with | [_, _], _ => rfl) (s := S_signs_among) fun cdv A outer sh H E hr tk => ⟨_,
    (pss_cons (ps_for (passes_of rfl) rfl (pi_seq (pv 0)) (pg_name (i := 2) nd rfl (Or.inl rfl)) (pss_one (ps_if (pt_cmpR (op_nin2 (hu65 hr)) (pv 2) (pv 1) (by rfl)) (pss_one (ps_ret pe_bl)) pss_nil))) (pss_one (ps_ret pe_bl))),
    (ds_seq (ds_for (vs := [2]) (di_seq (td_var 0)) (dg_name 2) (ds_if (tt_test ((td_op rd_nin (tr_var 2) (tr_var 1))).r) (ds_ret td_bl) ds_next)) (ds_ret td_bl))⟩
theorem sc_is_word : FnScope ["text"] ["text"] (defScope s_is_word) := ⟨rfl, rfl, rfl, by decide +kernel, rfl, by decide +kernel, by decide +kernel⟩
theorem ok_is_word {P : Program} {w : World} {K : PySem.W.Frag} {mg : Str → Option Value} {base : Heap} (C : Ctx K mg) : Kept P w K mg base 2 1 "is_word" ["text"] d_is_word := by
  obtain ⟨fd_signs_among, kp_signs_among, hg_signs_among, hb_signs_among, G_signs_among⟩ := ok_signs_among (P := P) (w := w) (base := base) C
  have nd := sc_is_word.nd
  exact kept_of C.F_is_word C.g_is_word sc_is_word rfl rfl (fun _ _ _ _ _ _ us hl => match us, hl with | [_], _ => rfl) (s := S_is_word) fun cdv A outer sh H E hr tk => ⟨_,
    (pss_cons (ps_if (PW.pt (pw_or (pt_not (pt_chain op_le op_le pe_int (pe_callB call_len (by rfl) C.b_len bb_len (pa_cons (pv 0) pa_nil)) (pe_glob (v := .int 8) rfl C.c_MOST_SIGNS.choose_spec ⟨_, rfl⟩))) (pw_or1 (pt_cmpR (op_in2 (hu65 hr)) (pv 0) (pe_glob (v := .ref (He.ga _ "KEPT")) rfl C.c_KEPT rfl) (by rfl))))) (pss_one (ps_ret pe_bl)) pss_nil) (pss_one (ps_ret (pe_callS G_signs_among (hr.mono (by decide)) (by rfl) hg_signs_among kp_signs_among hb_signs_among (fun σ => passAt tk σ) (pa_cons (pv 0) (pa_cons (pe_glob (v := .str "abcdefghijklmnopqrstuvwxyz") rfl C.c_SMALL.choose_spec ⟨_, rfl⟩) pa_nil)))))),
    (ds_seq (ds_if (tt_or (tt_not (tt_test ((td_chain rd_cmp rd_cmp (td_int).r ((td_cb rc_len (tq_cons (tr_var 0) tq_nil))).r (td_int).r)).r)) (tt_test ((td_op rd_in (tr_var 0) ((td_kon C.k_KEPT)).r)).r)) (ds_ret td_bl) ds_next) (ds_ret (td_call (ta_cons (td_var 0) (ta_cons td_str ta_nil)))))⟩
theorem sc_word_rows : FnScope ["text", "rows", "at", "row", "words"] ["text"] (defScope s_word_rows) := ⟨rfl, rfl, rfl, by decide +kernel, rfl, by decide +kernel, by decide +kernel⟩
theorem ok_word_rows {P : Program} {w : World} {K : PySem.W.Frag} {mg : Str → Option Value} {base : Heap} (C : Ctx K mg) : Kept P w K mg base 1 1 "word_rows" ["text"] d_word_rows := by
  have nd := sc_word_rows.nd
  exact kept_of C.F_word_rows C.g_word_rows sc_word_rows rfl rfl (fun _ _ _ _ _ _ us hl => match us, hl with | [_], _ => rfl) (s := S_word_rows) fun cdv A outer sh H E hr tk => ⟨_,
    (pss_cons (ps_set (i := 1) nd rfl (Or.inl rfl) (pe_lst pa_nil)) (pss_cons (ps_for (passes_of rfl) rfl (pi_enum (by rfl) C.b_enumerate (pa_cons (pe_m1 PySem.F.slot_str_split PySem.F.type_str_split mt_split (pv 0) pe_str) pa_nil)) (pg_tup rfl (pgs_cons (pg_name (i := 2) nd rfl (Or.inl rfl)) (pgs_cons (pg_name (i := 3) nd rfl (Or.inl rfl)) pgs_nil))) (pss_cons (ps_set (i := 4) nd rfl (Or.inl rfl) (pe_m0 PySem.F.slot_str_split PySem.F.type_str_split mt_words (pv 3))) (pss_one (ps_if (pt_cmpR (op_ne2 hr.units) (pv 4) (pe_lst pa_nil) (nomark _)) (pss_one (ps_expr (pe_bm PySem.F.plainAttrs_list PySem.F.slot_list_append PySem.F.type_list_append mt_append (pv 1) (pa_cons (pe_tup (pa_cons (pv 2) (pa_cons (pv 4) pa_nil))) pa_nil)))) pss_nil)))) (pss_one (ps_ret (pv 1))))),
    (ds_seq (ds_setO 1 (to_lst ta_nil)) (ds_seq (ds_for (vs := [2, 3]) (di_enum (ta_cons ((to_m1 rmo_split (tr_var 0) (td_str).r)).e ta_nil)) (dg_tup (dgs_cons (dg_name 2) (dgs_cons (dg_name 3) dgs_nil))) (ds_seq (ds_set 4 ((to_m0 rmo_words (tr_var 3))).e) (ds_if (tt_test ((td_op rd_ne (tr_var 4) (((to_lst ta_nil)).e).r)).r) (ds_append 1 (td_tup (ta_cons (td_var 2) (ta_cons (td_var 4) ta_nil)))) ds_next))) (ds_retV 1)))⟩
theorem sc_kind_written : FnScope ["words"] ["words"] (defScope s_kind_written) := ⟨rfl, rfl, rfl, by decide +kernel, rfl, by decide +kernel, by decide +kernel⟩
theorem ok_kind_written {P : Program} {w : World} {K : PySem.W.Frag} {mg : Str → Option Value} {base : Heap} (C : Ctx K mg) : Kept P w K mg base 3 1 "kind_written" ["words"] d_kind_written := by
  obtain ⟨fd_is_word, kp_is_word, hg_is_word, hb_is_word, G_is_word⟩ := ok_is_word (P := P) (w := w) (base := base) C
  have nd := sc_kind_written.nd
  exact kept_of C.F_kind_written C.g_kind_written sc_kind_written rfl rfl (fun _ _ _ _ _ _ us hl => match us, hl with | [_], _ => rfl) (s := S_kind_written) fun cdv A outer sh H E hr tk => ⟨_,
    (pss_cons (ps_if (PW.pt (pw_and (pt_cmpR (op_eq2 hr.units) (pe_callB call_len (by rfl) C.b_len bb_len (pa_cons (pv 0) pa_nil)) pe_int (nomark _)) (pw_and (pt_cmpR (op_eq2 hr.units) (pe_ix ix_seq (pv 0) pe_int (fun _ _ => rfl)) pe_str (nomark _)) (pw_and1 (pt_val (pe_callS G_is_word (hr.mono (by decide)) (by rfl) hg_is_word kp_is_word hb_is_word (fun σ => passAt tk σ) (pa_cons (pe_ix ix_seq (pv 0) pe_int (fun _ _ => rfl)) pa_nil))))))) (pss_one (ps_ret (pe_tup (pa_cons (pe_ix ix_seq (pv 0) pe_int (fun _ _ => rfl)) (pa_cons pe_str pa_nil))))) pss_nil) (pss_cons (ps_if (PW.pt (pw_or (pt_cmpR (op_ne2 hr.units) (pe_callB call_len (by rfl) C.b_len bb_len (pa_cons (pv 0) pa_nil)) pe_int (nomark _)) (pw_or (pt_cmpR (op_ne2 hr.units) (pe_ix ix_seq (pv 0) pe_int (fun _ _ => rfl)) pe_str (nomark _)) (pw_or1 (pt_cmpR (op_ne2 hr.units) (pe_ix ix_seq (pv 0) pe_int (fun _ _ => rfl)) pe_str (nomark _)))))) (pss_one (ps_ret pe_non)) pss_nil) (pss_cons (ps_if (PW.pt (pw_or (pt_not (pt_val (pe_callS G_is_word (hr.mono (by decide)) (by rfl) hg_is_word kp_is_word hb_is_word (fun σ => passAt tk σ) (pa_cons (pe_ix ix_seq (pv 0) pe_int (fun _ _ => rfl)) pa_nil)))) (pw_or1 (pt_not (pt_val (pe_callS G_is_word (hr.mono (by decide)) (by rfl) hg_is_word kp_is_word hb_is_word (fun σ => passAt tk σ) (pa_cons (pe_ix ix_seq (pv 0) pe_int (fun _ _ => rfl)) pa_nil))))))) (pss_one (ps_ret pe_non)) pss_nil) (pss_one (ps_ret (pe_tup (pa_cons (pe_ix ix_seq (pv 0) pe_int (fun _ _ => rfl)) (pa_cons (pe_ix ix_seq (pv 0) pe_int (fun _ _ => rfl)) pa_nil)))))))),
    (ds_seq (ds_if (tt_and (tt_test ((td_op rd_eq ((td_cb rc_len (tq_cons (tr_var 0) tq_nil))).r (td_int).r)).r) (tt_and (tt_test ((td_op rd_eq ((td_op rd_ix (tr_var 0) (td_int).r)).r (td_str).r)).r) (tt_B ((td_call (ta_cons (td_op rd_ix (tr_var 0) (td_int).r) ta_nil))).r))) (ds_ret (td_tup (ta_cons (td_op rd_ix (tr_var 0) (td_int).r) (ta_cons td_str ta_nil)))) ds_next) (ds_seq (ds_if (tt_or (tt_test ((td_op rd_ne ((td_cb rc_len (tq_cons (tr_var 0) tq_nil))).r (td_int).r)).r) (tt_or (tt_test ((td_op rd_ne ((td_op rd_ix (tr_var 0) (td_int).r)).r (td_str).r)).r) (tt_test ((td_op rd_ne ((td_op rd_ix (tr_var 0) (td_int).r)).r (td_str).r)).r))) (ds_ret td_non) ds_next) (ds_seq (ds_if (tt_or (tt_not (tt_B ((td_call (ta_cons (td_op rd_ix (tr_var 0) (td_int).r) ta_nil))).r)) (tt_not (tt_B ((td_call (ta_cons (td_op rd_ix (tr_var 0) (td_int).r) ta_nil))).r))) (ds_ret td_non) ds_next) (ds_ret (td_tup (ta_cons (td_op rd_ix (tr_var 0) (td_int).r) (ta_cons (td_op rd_ix (tr_var 0) (td_int).r) ta_nil)))))))⟩
theorem sc_read_kinds : FnScope ["text", "kinds", "at", "words", "told", "names", "word", "upper"] ["text"] (defScope s_read_kinds) := ⟨rfl, rfl, rfl, by decide +kernel, rfl, by decide +kernel, by decide +kernel⟩
theorem ok_read_kinds {P : Program} {w : World} {K : PySem.W.Frag} {mg : Str → Option Value} {base : Heap} (C : Ctx K mg) : Kept P w K mg base 4 1 "read_kinds" ["text"] d_read_kinds := by
  obtain ⟨fd_kind_written, kp_kind_written, hg_kind_written, hb_kind_written, G_kind_written⟩ := ok_kind_written (P := P) (w := w) (base := base) C
  obtain ⟨fd_word_rows, kp_word_rows, hg_word_rows, hb_word_rows, G_word_rows⟩ := ok_word_rows (P := P) (w := w) (base := base) C
  have nd := sc_read_kinds.nd
  exact kept_of C.F_read_kinds C.g_read_kinds sc_read_kinds rfl rfl (fun _ _ _ _ _ _ us hl => match us, hl with | [_], _ => rfl) (s := S_read_kinds) fun cdv A outer sh H E hr tk => ⟨_,
    (pss_cons (ps_set (i := 1) nd rfl (Or.inl rfl) (pe_lst pa_nil)) (pss_cons (ps_for (passes_of rfl) rfl (pi_seq (pe_callS G_word_rows (hr.mono (by decide)) (by rfl) hg_word_rows kp_word_rows hb_word_rows (fun σ => passAt tk σ) (pa_cons (pv 0) pa_nil))) (pg_tup rfl (pgs_cons (pg_name (i := 2) nd rfl (Or.inl rfl)) (pgs_cons (pg_name (i := 3) nd rfl (Or.inl rfl)) pgs_nil))) (pss_cons (ps_set (i := 4) nd rfl (Or.inl rfl) (pe_callS G_kind_written (hr.mono (by decide)) (by rfl) hg_kind_written kp_kind_written hb_kind_written (fun σ => passAt tk σ) (pa_cons (pv 3) pa_nil))) (pss_cons (ps_if (pt_cmpR op_isN (pv 4) pe_non (nomark _)) (pss_one ps_never) pss_nil) (pss_cons (ps_setLc (i := 5) (own := [("word", 6), ("upper", 7)]) rfl nd rfl rfl (sw_true rfl rfl rfl (by decide +kernel)) (pi_seq (pv 1)) (blkOk_by (by kernel_rfl)) (fun _ _ _ _ _ => (pg_tup rfl (pgs_cons (pg_name (i := 6) nd rfl (Or.inl rfl)) (pgs_cons (pg_name (i := 7) nd rfl (Or.inl rfl)) pgs_nil)))) (fun _ _ _ _ _ => pts_nil) (fun _ _ _ _ _ => (pv 6))) (pss_cons (ps_if (pt_cmpR (op_in2 (hu65 hr)) (pe_ix ix_seq (pv 4) pe_int (fun _ _ => rfl)) (pv 5) (by rfl)) (pss_one ps_never) pss_nil) (pss_cons (ps_if (PW.pt (pw_and (pt_cmpR (op_ne2 hr.units) (pe_ix ix_seq (pv 4) pe_int (fun _ _ => rfl)) pe_str (nomark _)) (pw_and1 (pt_cmpR (op_nin2 (hu65 hr)) (pe_ix ix_seq (pv 4) pe_int (fun _ _ => rfl)) (pv 5) (by rfl))))) (pss_one ps_never) pss_nil) (pss_cons (ps_if (pt_cmpR (op_eq2 hr.units) (pe_callB call_len (by rfl) C.b_len bb_len (pa_cons (pv 1) pa_nil)) (pe_glob (v := .int 12) rfl C.c_MOST_KINDS.choose_spec ⟨_, rfl⟩) (nomark _)) (pss_one ps_never) pss_nil) (pss_one (ps_expr (pe_bm PySem.F.plainAttrs_list PySem.F.slot_list_append PySem.F.type_list_append mt_append (pv 1) (pa_cons (pv 4) pa_nil))))))))))) (pss_one (ps_ret (pv 1))))),
    (ds_seq (ds_setO 1 (to_lst ta_nil)) (ds_seq (ds_for (vs := [2, 3]) (di_seq (td_call (ta_cons (td_var 0) ta_nil))) (dg_tup (dgs_cons (dg_name 2) (dgs_cons (dg_name 3) dgs_nil))) (ds_seq (ds_set 4 (td_call (ta_cons (td_var 3) ta_nil))) (ds_seq (ds_if (tt_test ((td_op rd_isN (tr_var 4) (td_non).r)).r) ds_bad ds_next) (ds_seq (ds_set 5 ((to_unf 1 (to_lc (vs := [6, 7]) (di_seq (td_var 1)) (dg_tup (dgs_cons (dg_name 6) (dgs_cons (dg_name 7) dgs_nil))) tt_yes (td_var 6)))).e) (ds_seq (ds_if (tt_test ((td_op rd_in ((td_op rd_ix (tr_var 4) (td_int).r)).r (tr_var 5))).r) ds_bad ds_next) (ds_seq (ds_if (tt_and (tt_test ((td_op rd_ne ((td_op rd_ix (tr_var 4) (td_int).r)).r (td_str).r)).r) (tt_test ((td_op rd_nin ((td_op rd_ix (tr_var 4) (td_int).r)).r (tr_var 5))).r)) ds_bad ds_next) (ds_seq (ds_if (tt_test ((td_op rd_eq ((td_cb rc_len (tq_cons (tr_var 1) tq_nil))).r (td_int).r)).r) ds_bad ds_next) (ds_append 1 (td_var 4))))))))) (ds_retV 1)))⟩
theorem sc_law_mix : FnScope ["_law_cell", "_law_k", "_law_factor"] ["_law_cell", "_law_k", "_law_factor"] (defScope s_law_mix) := ⟨rfl, rfl, rfl, by decide +kernel, rfl, by decide +kernel, by decide +kernel⟩
theorem ok_law_mix {P : Program} {w : World} {K : PySem.W.Frag} {mg : Str → Option Value} {base : Heap} (C : Ctx K mg) : Kept P w K mg base 1 3 "_law_mix" ["_law_cell", "_law_k", "_law_factor"] d_law_mix := by
  have nd := sc_law_mix.nd
  exact kept_of C.F_law_mix C.g_law_mix sc_law_mix rfl rfl (fun _ _ _ _ _ _ us hl => match us, hl with | [_, _, _], _ => rfl) (s := S_law_mix) fun cdv A outer sh H E hr tk => ⟨_,
    (pss_one (ps_ret (pe_op op_modN (pe_op op_mul2 (pe_op op_add2 (pe_op op_add2 (pv 0) (pe_op op_mul2 (pv 1) (pv 1))) pe_int) (pv 2)) pe_int))),
    (ds_ret (td_op rd_mod ((td_op rd_mul ((td_op rd_add ((td_op rd_add (tr_var 0) ((td_op rd_mul (tr_var 1) (tr_var 1))).r)).r (td_int).r)).r (tr_var 2))).r (td_int).r))⟩
theorem sc_law_salt : FnScope ["_law_script", "_law_factor", "_law_cell"] ["_law_script", "_law_factor"] (defScope s_law_salt) := ⟨rfl, rfl, rfl, by decide +kernel, rfl, by decide +kernel, by decide +kernel⟩
theorem ok_law_salt {P : Program} {w : World} {K : PySem.W.Frag} {mg : Str → Option Value} {base : Heap} (C : Ctx K mg) : Kept P w K mg base 2 2 "_law_salt" ["_law_script", "_law_factor"] d_law_salt := by
  obtain ⟨fd_law_mix, kp_law_mix, hg_law_mix, hb_law_mix, G_law_mix⟩ := ok_law_mix (P := P) (w := w) (base := base) C
  have nd := sc_law_salt.nd
  exact kept_of C.F_law_salt C.g_law_salt sc_law_salt rfl rfl (fun _ _ _ _ _ _ us hl => match us, hl with | [_, _], _ => rfl) (s := S_law_salt) fun cdv A outer sh H E hr tk => ⟨_,
    (pss_one (ps_ret (pe_callS G_law_mix (hr.mono (by decide)) (by rfl) hg_law_mix kp_law_mix hb_law_mix (fun σ => passAt tk σ) (pa_cons (pe_callB (cr_sum rfl) (by rfl) C.b_sum bb_sum (pa_cons (pe_lc (own := [("_law_cell", 2)]) rfl nd (pi_seq (pe_slice sl_2 (pv 0) po_none (po_some pe_int))) (blkOk_by (by kernel_rfl)) (fun _ _ _ _ _ => (pg_name (i := 2) nd rfl (Or.inl rfl))) (fun _ _ _ _ _ => pts_nil) (fun _ _ _ _ _ => (pe_op op_modN (pv 2) pe_int))) pa_nil)) (pa_cons (pe_op op_modN (pe_callB call_len (by rfl) C.b_len bb_len (pa_cons (pv 0) pa_nil)) pe_int) (pa_cons (pv 1) pa_nil)))))),
    (ds_ret (td_call (ta_cons (td_cb rc_sum (tq_cons (((to_lc (vs := [2]) (di_seq (td_sl (tr_var 0) tp_no (tp_some (td_int).r))) (dg_name 2) tt_yes (td_op rd_mod (tr_var 2) (td_int).r))).e).r tq_nil)) (ta_cons (td_op rd_mod ((td_cb rc_len (tq_cons (tr_var 0) tq_nil))).r (td_int).r) (ta_cons (td_var 1) ta_nil)))))⟩
theorem sc_law_name : FnScope ["_law_k", "_law_salt_here", "_law_some", "_law_turn", "_law_size", "_law_spot", "_law_head"] ["_law_k", "_law_salt_here"] (defScope s_law_name) := ⟨rfl, rfl, rfl, by decide +kernel, rfl, by decide +kernel, by decide +kernel⟩
theorem ok_law_name {P : Program} {w : World} {K : PySem.W.Frag} {mg : Str → Option Value} {base : Heap} (C : Ctx K mg) : Kept P w K mg base 1 2 "_law_name" ["_law_k", "_law_salt_here"] d_law_name := by
  have nd := sc_law_name.nd
  exact kept_of C.F_law_name C.g_law_name sc_law_name rfl rfl (fun _ _ _ _ _ _ us hl => match us, hl with | [_, _], _ => rfl) (s := S_law_name) fun cdv A outer sh H E hr tk => ⟨_,
    (pss_cons (ps_set (i := 2) nd rfl (Or.inl rfl) pe_str) (pss_cons (ps_set (i := 3) nd rfl (Or.inl rfl) (pe_ix ix_seq (pv 2) (pe_op op_modN (pe_op op_add2 (pe_op op_mul2 pe_int (pv 0)) (pe_op op_fdivN (pv 1) pe_int)) pe_int) (fun _ _ => rfl))) (pss_cons (ps_if (pt_cmpR (op_eq2 hr.units) (pe_op op_modN (pv 1) pe_int) pe_int (nomark _)) (pss_one (ps_ret (pv 3))) pss_nil) (pss_cons (ps_if (PW.pt (pw_and (pt_cmpR (op_eq2 hr.units) (pe_op op_modN (pv 1) pe_int) pe_int (nomark _)) (pw_and1 (pt_cmpR op_lt (pv 0) pe_int (nomark _))))) (pss_one (ps_ret (pe_op op_mul2 (pe_ix ix_seq (pv 2) (pe_op op_modN (pe_op op_fdivN (pv 1) pe_int) pe_int) (fun _ _ => rfl)) (pe_op op_add2 pe_int (pe_op op_modN (pe_op op_add2 (pe_op op_mul2 pe_int (pv 0)) (pe_op op_fdivN (pv 1) pe_int)) pe_int))))) pss_nil) (pss_cons (ps_set (i := 4) nd rfl (Or.inl rfl) (pe_op op_add2 pe_int (pe_op op_modN (pe_op op_fdivN (pv 1) pe_int) pe_int))) (pss_cons (ps_set (i := 5) nd rfl (Or.inl rfl) (pe_op op_modN (pe_op op_fdivN (pv 1) pe_int) (pe_op op_sub (pv 4) pe_int))) (pss_cons (ps_set (i := 6) nd rfl (Or.inl rfl) (pe_op op_mul2 (pe_ix ix_seq (pv 2) (pe_op op_modN (pe_op op_fdivN (pv 1) pe_int) pe_int) (fun _ _ => rfl)) (pv 5))) (pss_one (ps_ret (pe_op op_add2 (pe_op op_add2 (pe_op op_add2 (pv 6) (pv 3)) pe_str) (pe_op op_mul2 (pe_ix ix_seq (pv 2) (pe_op op_modN (pe_op op_fdivN (pv 1) pe_int) pe_int) (fun _ _ => rfl)) (pe_op op_sub (pe_op op_sub (pv 4) (pv 5)) pe_int)))))))))))),
    (ds_seq (ds_set 2 td_str) (ds_seq (ds_set 3 (td_op rd_ix (tr_var 2) ((td_op rd_mod ((td_op rd_add ((td_op rd_mul (td_int).r (tr_var 0))).r ((td_op rd_div (tr_var 1) (td_int).r)).r)).r (td_int).r)).r)) (ds_seq (ds_if (tt_test ((td_op rd_eq ((td_op rd_mod (tr_var 1) (td_int).r)).r (td_int).r)).r) (ds_retV 3) ds_next) (ds_seq (ds_if (tt_and (tt_test ((td_op rd_eq ((td_op rd_mod (tr_var 1) (td_int).r)).r (td_int).r)).r) (tt_test ((td_op rd_cmp (tr_var 0) (td_int).r)).r)) (ds_ret (td_op rd_mul ((td_op rd_ix (tr_var 2) ((td_op rd_mod ((td_op rd_div (tr_var 1) (td_int).r)).r (td_int).r)).r)).r ((td_op rd_add (td_int).r ((td_op rd_mod ((td_op rd_add ((td_op rd_mul (td_int).r (tr_var 0))).r ((td_op rd_div (tr_var 1) (td_int).r)).r)).r (td_int).r)).r)).r)) ds_next) (ds_seq (ds_set 4 (td_op rd_add (td_int).r ((td_op rd_mod ((td_op rd_div (tr_var 1) (td_int).r)).r (td_int).r)).r)) (ds_seq (ds_set 5 (td_op rd_mod ((td_op rd_div (tr_var 1) (td_int).r)).r ((td_op rd_sub (tr_var 4) (td_int).r)).r)) (ds_seq (ds_set 6 (td_op rd_mul ((td_op rd_ix (tr_var 2) ((td_op rd_mod ((td_op rd_div (tr_var 1) (td_int).r)).r (td_int).r)).r)).r (tr_var 5))) (ds_ret (td_op rd_add ((td_op rd_add ((td_op rd_add (tr_var 6) (tr_var 3))).r (td_str).r)).r ((td_op rd_mul ((td_op rd_ix (tr_var 2) ((td_op rd_mod ((td_op rd_div (tr_var 1) (td_int).r)).r (td_int).r)).r)).r ((td_op rd_sub ((td_op rd_sub (tr_var 4) (tr_var 5))).r (td_int).r)).r)).r)))))))))⟩
theorem sc_law_kinds : FnScope ["_law_cells", "_law_salt_here", "_law_kinds_here", "_law_k", "_law_m", "_law_upper"] ["_law_cells", "_law_salt_here"] (defScope s_law_kinds) := ⟨rfl, rfl, rfl, by decide +kernel, rfl, by decide +kernel, by decide +kernel⟩
theorem ok_law_kinds {P : Program} {w : World} {K : PySem.W.Frag} {mg : Str → Option Value} {base : Heap} (C : Ctx K mg) : Kept P w K mg base 2 2 "_law_kinds" ["_law_cells", "_law_salt_here"] d_law_kinds := by
  obtain ⟨fd_law_mix, kp_law_mix, hg_law_mix, hb_law_mix, G_law_mix⟩ := ok_law_mix (P := P) (w := w) (base := base) C
  obtain ⟨fd_law_name, kp_law_name, hg_law_name, hb_law_name, G_law_name⟩ := ok_law_name (P := P) (w := w) (base := base) C
  have nd := sc_law_kinds.nd
  exact kept_of C.F_law_kinds C.g_law_kinds sc_law_kinds rfl rfl (fun _ _ _ _ _ _ us hl => match us, hl with | [_, _], _ => rfl) (s := S_law_kinds) fun cdv A outer sh H E hr tk => ⟨_,
    (pss_cons (ps_set (i := 2) nd rfl (Or.inl rfl) (pe_lst pa_nil)) (pss_cons (ps_for (passes_of rfl) rfl (pi_range1 rfl C.b_range (pa_cons (pe_callB call_len (by rfl) C.b_len bb_len (pa_cons (pv 0) pa_nil)) pa_nil)) (pg_name (i := 3) nd rfl (Or.inl rfl)) (pss_cons (ps_set (i := 4) nd rfl (Or.inl rfl) (pe_callS G_law_mix (hr.mono (by decide)) (by rfl) hg_law_mix kp_law_mix hb_law_mix (fun σ => passAt tk σ) (pa_cons (pe_ix ix_seq (pv 0) (pv 3) (fun _ _ => rfl)) (pa_cons (pv 3) (pa_cons pe_int pa_nil))))) (pss_cons (ps_set (i := 5) nd rfl (Or.inl rfl) pe_str) (pss_cons (ps_if (PW.pt (pw_and (pt_cmpR op_gt (pv 3) pe_int (nomark _)) (pw_and1 (pt_cmpR op_gt (pe_op op_modN (pv 4) pe_int) pe_int (nomark _))))) (pss_one (ps_set (i := 5) nd rfl (Or.inl rfl) (pe_ix ix_seq (pe_ix ix_seq (pv 2) (pe_op op_modN (pe_op op_fdivN (pv 4) pe_int) (pv 3)) (fun _ _ => rfl)) pe_int (fun _ _ => rfl)))) pss_nil) (pss_one (ps_expr (pe_bm PySem.F.plainAttrs_list PySem.F.slot_list_append PySem.F.type_list_append mt_append (pv 2) (pa_cons (pe_tup (pa_cons (pe_callS G_law_name (hr.mono (by decide)) (by rfl) hg_law_name kp_law_name hb_law_name (fun σ => passAt tk σ) (pa_cons (pv 3) (pa_cons (pv 1) pa_nil))) (pa_cons (pv 5) pa_nil))) pa_nil)))))))) (pss_one (ps_ret (pv 2))))),
    (ds_seq (ds_setO 2 (to_lst ta_nil)) (ds_seq (ds_for (vs := [3]) (di_rng1 (tq_cons ((td_cb rc_len (tq_cons (tr_var 0) tq_nil))).r tq_nil)) (dg_name 3) (ds_seq (ds_set 4 (td_call (ta_cons (td_op rd_ix (tr_var 0) (tr_var 3)) (ta_cons (td_var 3) (ta_cons td_int ta_nil))))) (ds_seq (ds_set 5 td_str) (ds_seq (ds_if (tt_and (tt_test ((td_op rd_cmp (tr_var 3) (td_int).r)).r) (tt_test ((td_op rd_cmp ((td_op rd_mod (tr_var 4) (td_int).r)).r (td_int).r)).r)) (ds_set 5 (td_op rd_ix ((td_op rd_ix (tr_var 2) ((td_op rd_mod ((td_op rd_div (tr_var 4) (td_int).r)).r (tr_var 3))).r)).r (td_int).r)) ds_next) (ds_append 2 (td_tup (ta_cons (td_call (ta_cons (td_var 3) (ta_cons (td_var 1) ta_nil))) (ta_cons (td_var 5) ta_nil)))))))) (ds_retV 2)))⟩
theorem sc_law_text : FnScope ["_law_rows", "_law_salt_here", "_law_lines", "_law_k", "_law_m", "_law_line", "_law_word"] ["_law_rows", "_law_salt_here"] (defScope s_law_text) := ⟨rfl, rfl, rfl, by decide +kernel, rfl, by decide +kernel, by decide +kernel⟩
theorem ok_law_text {P : Program} {w : World} {K : PySem.W.Frag} {mg : Str → Option Value} {base : Heap} (C : Ctx K mg) : Kept P w K mg base 2 2 "_law_text" ["_law_rows", "_law_salt_here"] d_law_text := by
  obtain ⟨fd_law_mix, kp_law_mix, hg_law_mix, hb_law_mix, G_law_mix⟩ := ok_law_mix (P := P) (w := w) (base := base) C
  have nd := sc_law_text.nd
  exact kept_of C.F_law_text C.g_law_text sc_law_text rfl rfl (fun _ _ _ _ _ _ us hl => match us, hl with | [_, _], _ => rfl) (s := S_law_text) fun cdv A outer sh H E hr tk => ⟨_,
    (pss_cons (ps_set (i := 2) nd rfl (Or.inl rfl) (pe_lst pa_nil)) (pss_cons (ps_for (passes_of rfl) rfl (pi_range1 rfl C.b_range (pa_cons (pe_callB call_len (by rfl) C.b_len bb_len (pa_cons (pv 0) pa_nil)) pa_nil)) (pg_name (i := 3) nd rfl (Or.inl rfl)) (pss_cons (ps_set (i := 4) nd rfl (Or.inl rfl) (pe_callS G_law_mix (hr.mono (by decide)) (by rfl) hg_law_mix kp_law_mix hb_law_mix (fun σ => passAt tk σ) (pa_cons (pv 1) (pa_cons (pv 3) (pa_cons pe_int pa_nil))))) (pss_cons (ps_set (i := 5) nd rfl (Or.inl rfl) (pe_op op_mul2 pe_str (pe_op op_modN (pv 4) pe_int))) (pss_cons (ps_for (passes_of rfl) rfl (pi_seq (pe_ix ix_seq (pv 0) (pv 3) (fun _ _ => rfl))) (pg_name (i := 6) nd rfl (Or.inl rfl)) (pss_cons (ps_set (i := 5) nd rfl (Or.inl rfl) (pe_op op_add2 (pe_op op_add2 (pv 5) (pv 6)) (pe_op op_mul2 pe_str (pe_op op_add2 pe_int (pe_op op_modN (pe_op op_fdivN (pv 4) pe_int) pe_int))))) (pss_one (ps_set (i := 4) nd rfl (Or.inl rfl) (pe_op op_fdivN (pv 4) pe_int))))) (pss_cons (ps_expr (pe_bm PySem.F.plainAttrs_list PySem.F.slot_list_append PySem.F.type_list_append mt_append (pv 2) (pa_cons (pv 5) pa_nil))) (pss_one (ps_if (pt_cmpR (op_eq2 hr.units) (pe_op op_modN (pv 4) pe_int) pe_int (nomark _)) (pss_one (ps_expr (pe_bm PySem.F.plainAttrs_list PySem.F.slot_list_append PySem.F.type_list_append mt_append (pv 2) (pa_cons (pe_op op_mul2 pe_str (pe_op op_modN (pe_op op_fdivN (pv 4) pe_int) pe_int)) pa_nil)))) pss_nil))))))) (pss_cons (ps_if (pt_cmpR (op_eq2 hr.units) (pe_op op_modN (pe_op op_fdivN (pv 1) pe_int) pe_int) pe_int (nomark _)) (pss_one (ps_expr (pe_bm PySem.F.plainAttrs_list PySem.F.slot_list_insert PySem.F.type_list_insert mt_insert (pv 2) (pa_cons pe_int (pa_cons pe_str pa_nil))))) pss_nil) (pss_one (ps_ret (pe_m1 PySem.F.slot_str_join PySem.F.type_str_join mt_join pe_str (pv 2))))))),
    (ds_seq (ds_setO 2 (to_lst ta_nil)) (ds_seq (ds_for (vs := [3]) (di_rng1 (tq_cons ((td_cb rc_len (tq_cons (tr_var 0) tq_nil))).r tq_nil)) (dg_name 3) (ds_seq (ds_set 4 (td_call (ta_cons (td_var 1) (ta_cons (td_var 3) (ta_cons td_int ta_nil))))) (ds_seq (ds_set 5 (td_op rd_mul (td_str).r ((td_op rd_mod (tr_var 4) (td_int).r)).r)) (ds_seq (ds_for (vs := [6]) (di_seq (td_op rd_ix (tr_var 0) (tr_var 3))) (dg_name 6) (ds_seq (ds_set 5 (td_op rd_add ((td_op rd_add (tr_var 5) (tr_var 6))).r ((td_op rd_mul (td_str).r ((td_op rd_add (td_int).r ((td_op rd_mod ((td_op rd_div (tr_var 4) (td_int).r)).r (td_int).r)).r)).r)).r)) (ds_set 4 (td_op rd_div (tr_var 4) (td_int).r)))) (ds_seq (ds_append 2 (td_var 5)) (ds_if (tt_test ((td_op rd_eq ((td_op rd_mod (tr_var 4) (td_int).r)).r (td_int).r)).r) (ds_append 2 (td_op rd_mul (td_str).r ((td_op rd_mod ((td_op rd_div (tr_var 4) (td_int).r)).r (td_int).r)).r)) ds_next)))))) (ds_seq (ds_if (tt_test ((td_op rd_eq ((td_op rd_mod ((td_op rd_div (tr_var 1) (td_int).r)).r (td_int).r)).r (td_int).r)).r) (ds_insert 2 0 td_str) ds_next) (ds_ret (td_m1 rm_join (td_str).r (tr_var 2))))))⟩
theorem sc_law : FnScope ["_law_script", "_law_salt_here", "_law_cells", "_law_kinds_here", "_law_rows", "_law_word", "_law_upper", "_law_row", "_law_text_here", "_law_found", "_law_pair"] ["_law_script"] (defScope s_law) := ⟨rfl, rfl, rfl, by decide +kernel, rfl, by decide +kernel, by decide +kernel⟩
theorem fn_law {P : Program} {w : World} {K : PySem.W.Frag} {mg : Str → Option Value} {base : Heap} {fd : FuncData} (FD : FunD K "law" "law" (defArgs s_law) (defBody s_law) (defScope s_law) [] [] (He.ga K "law") fd) (C : Ctx K mg) : FnOk P w K mg base (L2.CX P w) 5 (He.ga K "law") fd ["_law_script"] (spD K 1 d_law) := by
  obtain ⟨fd_law_kinds, kp_law_kinds, hg_law_kinds, hb_law_kinds, G_law_kinds⟩ := ok_law_kinds (P := P) (w := w) (base := base) C
  obtain ⟨fd_law_salt, kp_law_salt, hg_law_salt, hb_law_salt, G_law_salt⟩ := ok_law_salt (P := P) (w := w) (base := base) C
  obtain ⟨fd_law_text, kp_law_text, hg_law_text, hb_law_text, G_law_text⟩ := ok_law_text (P := P) (w := w) (base := base) C
  obtain ⟨fd_read_kinds, kp_read_kinds, hg_read_kinds, hb_read_kinds, G_read_kinds⟩ := ok_read_kinds (P := P) (w := w) (base := base) C
  have nd := sc_law.nd
  exact fn_of0 FD sc_law rfl rfl (s := S_law) fun cdv A outer sh H E hr tk => ⟨_,
    (pss_cons (ps_set (i := 1) nd rfl (Or.inl rfl) (pe_callS G_law_salt (hr.mono (by decide)) (by rfl) hg_law_salt kp_law_salt hb_law_salt (fun σ => passAt tk σ) (pa_cons (pv 0) (pa_cons pe_int pa_nil)))) (pss_cons (ps_set (i := 2) nd rfl (Or.inl rfl) (pe_slice sl_2 (pe_op op_add2 (pe_slice sl_2 (pv 0) po_none (po_some pe_int)) (pe_lst (pa_cons (pe_op op_fdivN (pv 1) pe_int) (pa_cons (pe_op op_fdivN (pv 1) pe_int) (pa_cons (pe_op op_fdivN (pv 1) pe_int) (pa_cons (pe_op op_fdivN (pv 1) pe_int) pa_nil)))))) po_none (po_some (pe_op op_modN (pe_op op_fdivN (pv 1) pe_int) pe_int)))) (pss_cons (ps_set (i := 3) nd rfl (Or.inl rfl) (pe_callS G_law_kinds (hr.mono (by decide)) (by rfl) hg_law_kinds kp_law_kinds hb_law_kinds (fun σ => passAt tk σ) (pa_cons (pv 2) (pa_cons (pv 1) pa_nil)))) (pss_cons (ps_set (i := 4) nd rfl (Or.inl rfl) (pe_lst pa_nil)) (pss_cons (ps_for (passes_of rfl) rfl (pi_seq (pv 3)) (pg_tup rfl (pgs_cons (pg_name (i := 5) nd rfl (Or.inl rfl)) (pgs_cons (pg_name (i := 6) nd rfl (Or.inl rfl)) pgs_nil))) (pss_cons (ps_set (i := 7) nd rfl (Or.inl rfl) (pe_lst (pa_cons pe_str (pa_cons (pv 5) pa_nil)))) (pss_cons (ps_if (pt_cmpR (op_ne2 hr.units) (pv 6) pe_str (nomark _)) (pss_one (ps_set (i := 7) nd rfl (Or.inl rfl) (pe_op op_add2 (pv 7) (pe_lst (pa_cons pe_str (pa_cons (pv 6) pa_nil)))))) pss_nil) (pss_one (ps_expr (pe_bm PySem.F.plainAttrs_list PySem.F.slot_list_append PySem.F.type_list_append mt_append (pv 4) (pa_cons (pv 7) pa_nil))))))) (pss_cons (ps_set (i := 8) nd rfl (Or.inl rfl) (pe_callS G_law_text (hr.mono (by decide)) (by rfl) hg_law_text kp_law_text hb_law_text (fun σ => passAt tk σ) (pa_cons (pv 4) (pa_cons (pv 1) pa_nil)))) (pss_cons (ps_set (i := 9) nd rfl (Or.inl rfl) (pe_callS G_read_kinds (hr.mono (by decide)) (by rfl) hg_read_kinds kp_read_kinds hb_read_kinds (fun σ => passAt tk σ) (pa_cons (pv 8) pa_nil))) (pss_cons (ps_if (PW.pt (pw_or (pt_not (pt_val (pe_callB call_isi (by rfl) C.b_isinstance bb_isinstance (pa_cons (pv 9) (pa_cons (pe_bltn (v := .ty "list") (by rfl) C.b_list bb_list rfl) pa_nil))))) (pw_or (pt_cmpR (op_ne2 hr.units) (pv 9) (pv 3) (nomark _)) (pw_or1 (pt_not (pt_val (pe_callB (cr_all rfl) (by rfl) C.b_all bb_all (pa_cons (pe_lc (own := [("_law_pair", 10)]) rfl nd (pi_seq (pv 9)) (blkOk_by (by kernel_rfl)) (fun _ _ _ _ _ => (pg_name (i := 10) nd rfl (Or.inl rfl))) (fun _ _ _ _ _ => pts_nil) (fun _ _ _ _ _ => (pe_callB call_isi (by rfl) C.b_isinstance bb_isinstance (pa_cons (pv 10) (pa_cons (pe_bltn (v := .ty "tuple") (by rfl) C.b_tuple bb_tuple rfl) pa_nil))))) pa_nil)))))))) (pss_one (ps_ret pe_bl)) pss_nil) (pss_cons (ps_expr (pe_bm PySem.F.plainAttrs_list PySem.F.slot_list_append PySem.F.type_list_append mt_append (pv 9) (pa_cons (pe_tup (pa_cons pe_str (pa_cons pe_str pa_nil))) pa_nil))) (pss_cons (ps_asg (pe_tup (pa_cons pe_str (pa_cons pe_str pa_nil))) (pg_sub (pv 9) pe_int set_list)) (pss_one (ps_ret (pe_cmpR (op_eq2 hr.units) (pe_callS G_read_kinds (hr.mono (by decide)) (by rfl) hg_read_kinds kp_read_kinds hb_read_kinds (fun σ => passAt tk σ) (pa_cons (pv 8) pa_nil)) (pv 3) (nomark _)))))))))))))),
    (ds_seq (ds_set 1 (td_call (ta_cons (td_var 0) (ta_cons td_int ta_nil)))) (ds_seq (ds_set 2 (td_sl ((td_op rd_add ((td_sl (tr_var 0) tp_no (tp_some (td_int).r))).r (((to_lst (ta_cons (td_op rd_div (tr_var 1) (td_int).r) (ta_cons (td_op rd_div (tr_var 1) (td_int).r) (ta_cons (td_op rd_div (tr_var 1) (td_int).r) (ta_cons (td_op rd_div (tr_var 1) (td_int).r) ta_nil)))))).e).r)).r tp_no (tp_some ((td_op rd_mod ((td_op rd_div (tr_var 1) (td_int).r)).r (td_int).r)).r))) (ds_seq (ds_set 3 (td_call (ta_cons (td_var 2) (ta_cons (td_var 1) ta_nil)))) (ds_seq (ds_setO 4 (to_lst ta_nil)) (ds_seq (ds_for (vs := [5, 6]) (di_seq (td_var 3)) (dg_tup (dgs_cons (dg_name 5) (dgs_cons (dg_name 6) dgs_nil))) (ds_seq (ds_set 7 ((to_lst (ta_cons td_str (ta_cons (td_var 5) ta_nil)))).e) (ds_seq (ds_if (tt_test ((td_op rd_ne (tr_var 6) (td_str).r)).r) (ds_set 7 (td_op rd_add (tr_var 7) (((to_lst (ta_cons td_str (ta_cons (td_var 6) ta_nil)))).e).r)) ds_next) (ds_append 4 (td_var 7))))) (ds_seq (ds_frz [4] (ds_set 8 (td_call (ta_cons (td_var 4) (ta_cons (td_var 1) ta_nil))))) (ds_seq (ds_setO 9 (to_call (ta_cons (td_var 8) ta_nil))) (ds_seq (ds_if (tt_or (tt_not (tt_B ((td_isi (T := "list") (tr_var 9))).r)) (tt_or (tt_test ((td_op rd_ne (tr_var 9) (tr_var 3))).r) (tt_not (tt_B ((td_cb rc_all (tq_cons (((to_unf 9 (to_lc (vs := [10]) (di_seq (td_var 9)) (dg_name 10) tt_yes (td_isi (T := "tuple") (tr_var 10))))).e).r tq_nil))).r)))) (ds_ret td_bl) ds_next) (ds_seq (ds_append 9 (td_tup (ta_cons td_str (ta_cons td_str ta_nil)))) (ds_seq (ds_lset 9 (td_tup (ta_cons td_str (ta_cons td_str ta_nil))) (td_int).r) (ds_ret (td_op rd_eq ((td_call (ta_cons (td_var 8) ta_nil))).r (tr_var 3)))))))))))))⟩
end K02
namespace K02
open PySem PySem.Spec PyProof.Rows L2 DL
open PySem.W PySem.Calls
def fn0 : List He.DefD := [⟨("signs_among", none), "signs_among", "signs_among", defArgs s_signs_among, defBody s_signs_among, defScope s_signs_among, [], []⟩, ⟨("is_word", none), "is_word", "is_word", defArgs s_is_word, defBody s_is_word, defScope s_is_word, [], []⟩, ⟨("word_rows", none), "word_rows", "word_rows", defArgs s_word_rows, defBody s_word_rows, defScope s_word_rows, [], []⟩, ⟨("kind_written", none), "kind_written", "kind_written", defArgs s_kind_written, defBody s_kind_written, defScope s_kind_written, [], []⟩, ⟨("read_kinds", none), "read_kinds", "read_kinds", defArgs s_read_kinds, defBody s_read_kinds, defScope s_read_kinds, [], []⟩, ⟨("_law_mix", none), "_law_mix", "_law_mix", defArgs s_law_mix, defBody s_law_mix, defScope s_law_mix, [], []⟩, ⟨("_law_salt", none), "_law_salt", "_law_salt", defArgs s_law_salt, defBody s_law_salt, defScope s_law_salt, [], []⟩, ⟨("_law_name", none), "_law_name", "_law_name", defArgs s_law_name, defBody s_law_name, defScope s_law_name, [], []⟩, ⟨("_law_kinds", none), "_law_kinds", "_law_kinds", defArgs s_law_kinds, defBody s_law_kinds, defScope s_law_kinds, [], []⟩, ⟨("_law_text", none), "_law_text", "_law_text", defArgs s_law_text, defBody s_law_text, defScope s_law_text, [], []⟩, ⟨("law", none), "law", "law", defArgs s_law, defBody s_law, defScope s_law, [], []⟩]
def fnA : List He.DefD := fn0
def fa0 : List He.Fa := [.glo "signs_among", .glo "is_word", .glo "word_rows", .glo "kind_written", .glo "read_kinds", .glo "_law_mix", .glo "_law_salt", .glo "_law_name", .glo "_law_kinds", .glo "_law_text", .glo "law", .free "all", .free "enumerate", .free "isinstance", .free "len", .free "list", .free "range", .free "sum", .free "tuple", .glo "KEPT", .int "MOST_KINDS" 12, .int "MOST_SIGNS" 8, .str "SMALL" "abcdefghijklmnopqrstuvwxyz"]
def faA : List He.Fa := fa0
def exA (K : PySem.W.Frag) : Bool := He.tupB K "KEPT" (kw_KEPT.map He.Dv.str)
abbrev R : PySem.W.OpenRow := PySem.W.OpenLaw.row PySem.Challenge.rw_claimwise_k02_kinds_read
abbrev hk : PySem.W.Hook := hookN 4 faA fnA exA
def ob (s : PySem.W.SharedT) : Bool × He.AlD := obsN 4 faA fnA exA (HandSHeadRun.getT s)
theorem ob_eq (s : PySem.W.SharedT) : ob s = hk.obs s.abs := obsN_eq (HandSHeadRun.getT_eq s)
def nm0 : List PySem.Str := ["ClaimError", "BadRow", "Twice", "NoKind", "TooBig", "SMALL", "KEPT", "MOST_SIGNS", "signs_among", "is_word", "word_rows", "MOST_KINDS", "kind_written", "read_kinds", "_law_mix", "_law_salt", "_law_name", "_law_kinds", "_law_text"]
def nmA : List PySem.Str := nm0
theorem run (w : World) : HandSHeadRun.RunEq R (PySem.W.view R.prog [23]) hk ob 4000 nmA w := by
  intro os
  kernel_rfl
theorem ctx {K : PySem.W.Frag} {h : Heap} {mg : Str → Option Value} (X : K.In h) (G : h.Ns mainGlobals mg) (hex : exA K = true) (c : He.SaysD faA fnA K) : Ctx K mg where
  F_signs_among := c.def_ 0 (d := ⟨("signs_among", none), "signs_among", "signs_among", defArgs s_signs_among, defBody s_signs_among, defScope s_signs_among, [], []⟩) rfl
  g_signs_among := He.glo_ok X G (c.fact 0 (f := .glo "signs_among") rfl)
  F_is_word := c.def_ 1 (d := ⟨("is_word", none), "is_word", "is_word", defArgs s_is_word, defBody s_is_word, defScope s_is_word, [], []⟩) rfl
  g_is_word := He.glo_ok X G (c.fact 1 (f := .glo "is_word") rfl)
  F_word_rows := c.def_ 2 (d := ⟨("word_rows", none), "word_rows", "word_rows", defArgs s_word_rows, defBody s_word_rows, defScope s_word_rows, [], []⟩) rfl
  g_word_rows := He.glo_ok X G (c.fact 2 (f := .glo "word_rows") rfl)
  F_kind_written := c.def_ 3 (d := ⟨("kind_written", none), "kind_written", "kind_written", defArgs s_kind_written, defBody s_kind_written, defScope s_kind_written, [], []⟩) rfl
  g_kind_written := He.glo_ok X G (c.fact 3 (f := .glo "kind_written") rfl)
  F_read_kinds := c.def_ 4 (d := ⟨("read_kinds", none), "read_kinds", "read_kinds", defArgs s_read_kinds, defBody s_read_kinds, defScope s_read_kinds, [], []⟩) rfl
  g_read_kinds := He.glo_ok X G (c.fact 4 (f := .glo "read_kinds") rfl)
  F_law_mix := c.def_ 5 (d := ⟨("_law_mix", none), "_law_mix", "_law_mix", defArgs s_law_mix, defBody s_law_mix, defScope s_law_mix, [], []⟩) rfl
  g_law_mix := He.glo_ok X G (c.fact 5 (f := .glo "_law_mix") rfl)
  F_law_salt := c.def_ 6 (d := ⟨("_law_salt", none), "_law_salt", "_law_salt", defArgs s_law_salt, defBody s_law_salt, defScope s_law_salt, [], []⟩) rfl
  g_law_salt := He.glo_ok X G (c.fact 6 (f := .glo "_law_salt") rfl)
  F_law_name := c.def_ 7 (d := ⟨("_law_name", none), "_law_name", "_law_name", defArgs s_law_name, defBody s_law_name, defScope s_law_name, [], []⟩) rfl
  g_law_name := He.glo_ok X G (c.fact 7 (f := .glo "_law_name") rfl)
  F_law_kinds := c.def_ 8 (d := ⟨("_law_kinds", none), "_law_kinds", "_law_kinds", defArgs s_law_kinds, defBody s_law_kinds, defScope s_law_kinds, [], []⟩) rfl
  g_law_kinds := He.glo_ok X G (c.fact 8 (f := .glo "_law_kinds") rfl)
  F_law_text := c.def_ 9 (d := ⟨("_law_text", none), "_law_text", "_law_text", defArgs s_law_text, defBody s_law_text, defScope s_law_text, [], []⟩) rfl
  g_law_text := He.glo_ok X G (c.fact 9 (f := .glo "_law_text") rfl)
  F_law := c.def_ 10 (d := ⟨("law", none), "law", "law", defArgs s_law, defBody s_law, defScope s_law, [], []⟩) rfl
  g_law := He.glo_ok X G (c.fact 10 (f := .glo "law") rfl)
  b_all := He.free_ok X G (c.fact 11 (f := .free "all") rfl)
  b_enumerate := He.free_ok X G (c.fact 12 (f := .free "enumerate") rfl)
  b_isinstance := He.free_ok X G (c.fact 13 (f := .free "isinstance") rfl)
  b_len := He.free_ok X G (c.fact 14 (f := .free "len") rfl)
  b_list := He.free_ok X G (c.fact 15 (f := .free "list") rfl)
  b_range := He.free_ok X G (c.fact 16 (f := .free "range") rfl)
  b_sum := He.free_ok X G (c.fact 17 (f := .free "sum") rfl)
  b_tuple := He.free_ok X G (c.fact 18 (f := .free "tuple") rfl)
  c_KEPT := He.glo_ok X G (c.fact 19 (f := .glo "KEPT") rfl)
  k_KEPT := kon_strs hex
  c_MOST_KINDS := He.int_ok X G (c.fact 20 (f := .int "MOST_KINDS" 12) rfl)
  c_MOST_SIGNS := He.int_ok X G (c.fact 21 (f := .int "MOST_SIGNS" 8) rfl)
  c_SMALL := He.str_ok X G (c.fact 22 (f := .str "SMALL" "abcdefghijklmnopqrstuvwxyz") rfl)
theorem holds (T : ∀ ns : List Int, ns.length ≤ 63 → d_law [.list (ns.map PyData.int)] = .rt (.d (.bool true))) : PySem.Challenge.rw_claimwise_k02_kinds_read.Holds := by
  w_on; o_law
  refine HandSHeadRun.head_any (r := R) (q := PySem.W.view R.prog [23]) (H := hk) (ob := ob) (M := 4000) (loose := nmA) (d := HandSHeadRun.topDef R.prog 23) (kwd := []) ob_eq
    (by kernel_rfl) (fun s => by kernel_rfl) run (by kernel_rfl) (by kernel_rfl) (by kernel_rfl) (by rfl) (by first | assumption | decide +kernel) (by decide +kernel) ⟨rfl, rfl, rfl, rfl, rfl, by decide +kernel⟩ ?hw ?hc
  case hw => w_witness2
  case hc =>
    refine law_end (l := PySem.Challenge.rw_claimwise_k02_kinds_read) (n := 4) (k := 5) (fa := faA) (fn := fnA) (ex := exA) (x := "_law_script") (f := d_law) rfl rfl (by kernel_rfl) ⟨rfl, by decide, by decide⟩ (by kernel_rfl) ?F T
    intro w K h mg KX G hex c
    have C := ctx KX G hex c
    obtain ⟨fd, FD⟩ := C.F_law
    refine ⟨fd, fun s u => FunD.bindsA (ps := ["_law_script"]) FD (fun _ _ _ _ _ _ us hl => match us, hl with | [_], _ => rfl) s [u] rfl, C.g_law, fun base _ _ => fn_law FD C⟩
end K02
theorem PySem.Challenge.cw_claimwise_k02_kinds_read_holds : PySem.Challenge.rw_claimwise_k02_kinds_read.Holds :=
  K02.holds K02.law_ok
