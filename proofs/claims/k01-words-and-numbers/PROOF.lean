import PyProof.Rows.All
import Wide.All
import OpenK.AllK
import Wide.FinOn
import PyProof.EqAt
import PyProof.EqKinds
import PyProof.TupleCall
import HandS.Base
import HandS.Call
import HandS.List
import HandS.Comp
import HandS.Ends
import HandS.Dict
import HandS.Iter
import HandS.Text
import HandS.Exc
import HandS.TryOnly
import HandS.ExcOwn
import HandS.Words
import HandS.WordsList
import HandS.WordsDict
import HandS.WordsExc
import HandS.Defaults
import HandS.HeadHook1
import HandS.IsInst
import HandS.TupAny
import HandS.Deep
import HandS.Wide
import HandS.HeadEnd
import HandS.Head0
import HandS.Head1
import HandS.Head2
import HandS.HeadHook2
import HandS.Replace
import HandS.More
import KE.IntTextLaws
import KE.IntTextText
import KE.KIntText
import PySem.Challenge.RW_claimwise_k01_words_and_numbers
set_option Elab.async false
set_option linter.all false
set_option maxHeartbeats 4000000
set_option maxRecDepth 100000
/-! Value semantics over the hand layer: data, frozen heaps, owned lists and dicts; readings of expressions and statements as plain functions. -/
namespace DL
open PySem PySem.Spec PyProof.Rows L2

abbrev PD := PyData
/-- an exception: its class's name, its fields -/
structure Ec where
  cls : Str
  fs : List (Str × V)
/-- what a piece of code hands on -/
inductive R (α : Type) where
  | ok (a : α)
  | exc (c : Ec)
  | bad
def R.bind {α β : Type} : R α → (α → R β) → R β
  | .ok a, f => f a
  | .exc c, _ => .exc c
  | .bad, _ => .bad
theorem R.bind_ok {α β : Type} (a : α) (f : α → R β) : (R.ok a).bind f = f a := rfl
theorem R.bind_exc {α β : Type} (c : Ec) (f : α → R β) : (R.exc c).bind f = .exc c := rfl
theorem R.bind_bad {α β : Type} (f : α → R β) : (R.bad : R α).bind f = .bad := rfl

/-! ### heaps -/
structure Ext (F H F' H' : Hp) : Prop where
  f : Same F F'
  g : Same F' H'
  h : Same H H'
  n : ∀ p, F' p ≠ none → F p ≠ none ∨ H p = none
theorem Ext.refl {F H : Hp} (s : Same F H) : Ext F H F H := ⟨Same.refl F, s, Same.refl H, fun _ h => .inl h⟩
theorem Ext.trans {F H F1 H1 F2 H2 : Hp} (a : Ext F H F1 H1) (b : Ext F1 H1 F2 H2) : Ext F H F2 H2 :=
  ⟨a.f.trans b.f, b.g, a.h.trans b.h, fun p hp => (b.n p hp).elim (fun q => a.n p q) fun q => .inr (a.h.free q)⟩
theorem Ext.base {F0 H0 F H F' H' : Hp} (a : Ext F0 H0 F H) (b : Ext F H0 F' H') : Ext F0 H0 F' H' :=
  ⟨a.f.trans b.f, b.g, b.h, fun p hp => (b.n p hp).elim (fun q => a.n p q) .inr⟩
/-- a new object, frozen -/
theorem Ext.new {F H : Hp} {p : Addr} {o : HO} (s : Same F H) (h : H p = none) : Ext F H (upd F p o) (upd H p o) := by
  have hf : F p = none := s.free h
  refine ⟨fun b u e => ?_, fun b u e => ?_, fun b u e => ?_, fun b e => ?_⟩
  · rw [upd_ne (ne_of_none e hf)]; exact e
  · by_cases hb : b = p
    · subst hb; rw [upd_same] at e ⊢; exact e
    · rw [upd_ne hb] at e ⊢; exact s b u e
  · rw [upd_ne (ne_of_none e h)]; exact e
  · by_cases hb : b = p
    · subst hb; exact .inr h
    · rw [upd_ne hb] at e; exact .inl e
/-- a new object, not frozen -/
theorem Ext.own {F H : Hp} {p : Addr} {o : HO} (s : Same F H) (h : H p = none) : Ext F H F (upd H p o) := by
  have hf : F p = none := s.free h
  refine ⟨Same.refl F, fun b u e => ?_, fun b u e => ?_, fun b e => .inl e⟩
  · rw [upd_ne (ne_of_none e hf)]; exact s b u e
  · rw [upd_ne (ne_of_none e h)]; exact e
/-- only H grows -/
theorem Ext.heap {F H H' : Hp} (s : Same F H) (h : Same H H') : Ext F H F H' := ⟨Same.refl F, s.trans h, h, fun _ e => .inl e⟩
theorem seqL {K : PySem.W.Frag} {H H' : Hp} {a : Addr} {xs : List V} (e : Same H H') (h : SqL K H a xs) : SqL K H' a xs := e.seq h
theorem seqT {K : PySem.W.Frag} {H H' : Hp} {a : Addr} {xs : List V} (e : Same H H') (h : SqT K H a xs) : SqT K H' a xs := by
  rcases h with (h | ⟨o, h⟩) | h
  · exact .inl (.inl (e _ _ h))
  · exact .inl (.inr ⟨o, e _ _ h⟩)
  · exact .inr h
theorem rdM {H H' : Hp} {a : Addr} {u : HO} (e : Same H H') (h : Rd H a u) : Rd H' a u := by
  rcases h with h | ⟨o, h⟩
  · exact .inl (e _ _ h)
  · exact .inr ⟨o, e _ _ h⟩
/-! ### data in a heap: lists that the heap tracks (or that are known), tuples -/
mutual
inductive Dp (K : PySem.W.Frag) (F : Hp) : V → PyData → Prop
  | non : Dp K F .non .none
  | bl (b : Bool) : Dp K F (.bl b) (.bool b)
  | int (i : Int) : Dp K F (.int i) (.int i)
  | str (x : Str) : Dp K F (.str x) (.str x)
  | lst {a : Addr} {xs : List V} {ds : List PyData} : Rd F a (.lst xs) → DpAll K F xs ds → Dp K F (.ref a) (.list ds)
  | tup {a : Addr} {xs : List V} {ds : List PyData} : SqT K F a xs → DpAll K F xs ds → Dp K F (.ref a) (.tuple ds)
inductive DpAll (K : PySem.W.Frag) (F : Hp) : List V → List PyData → Prop
  | nil : DpAll K F [] []
  | cons {v : V} {vs : List V} {d : PyData} {ds : List PyData} : Dp K F v d → DpAll K F vs ds → DpAll K F (v :: vs) (d :: ds)
end
mutual
theorem Dp.mono {K : PySem.W.Frag} {H H' : Hp} (e : Same H H') : ∀ {v : V} {d : PyData}, Dp K H v d → Dp K H' v d
  | _, _, .non => .non
  | _, _, .bl b => .bl b
  | _, _, .int i => .int i
  | _, _, .str x => .str x
  | _, _, .lst s a => .lst (rdM e s) (DpAll.mono e a)
  | _, _, .tup s a => .tup (seqT e s) (DpAll.mono e a)
theorem DpAll.mono {K : PySem.W.Frag} {H H' : Hp} (e : Same H H') : ∀ {vs : List V} {ds : List PyData}, DpAll K H vs ds → DpAll K H' vs ds
  | _, _, .nil => .nil
  | _, _, .cons h t => .cons (Dp.mono e h) (DpAll.mono e t)
end
mutual
theorem Dp.l2 {K : PySem.W.Frag} {H : Hp} : ∀ {v : V} {d : PyData}, Dp K H v d → L2.Dp K H v d
  | _, _, .non => .non
  | _, _, .bl b => .bl b
  | _, _, .int i => .int i
  | _, _, .str x => .str x
  | _, _, .lst s a => .lst (.inl s) (DpAll.l2 a)
  | _, _, .tup s a => .tup s (DpAll.l2 a)
theorem DpAll.l2 {K : PySem.W.Frag} {H : Hp} : ∀ {vs : List V} {ds : List PyData}, DpAll K H vs ds → L2.DpAll K H vs ds
  | _, _, .nil => .nil
  | _, _, .cons h t => .cons (Dp.l2 h) (DpAll.l2 t)
end
section
variable {K : PySem.W.Frag} {F H : Hp}
theorem DpAll.length : ∀ {vs : List V} {ds : List PyData}, DpAll K H vs ds → vs.length = ds.length
  | _, _, .nil => rfl
  | _, _, .cons _ t => by rw [List.length_cons, List.length_cons, t.length]
theorem DpAll.append : ∀ {vs us : List V} {ds es : List PyData}, DpAll K H vs ds → DpAll K H us es → DpAll K H (vs ++ us) (ds ++ es)
  | _, _, _, _, .nil, u => u
  | _, _, _, _, .cons h t, u => .cons h (DpAll.append t u)
theorem DpAll.get : ∀ {vs : List V} {ds : List PyData} {i : Nat} {v : V}, DpAll K H vs ds → vs[i]? = some v → ∃ d, ds[i]? = some d ∧ Dp K H v d
  | _, _, _, _, .nil, e => by simp at e
  | _, _, 0, _, .cons h _, e => by simp at e; subst e; exact ⟨_, rfl, h⟩
  | _, _, i + 1, v, .cons _ t, e => by
    obtain ⟨d, h1, h2⟩ := DpAll.get (i := i) (v := v) t (by simpa using e)
    exact ⟨d, by simpa using h1, h2⟩
theorem DpAll.get' : ∀ {vs : List V} {ds : List PyData} {i : Nat} {d : PyData}, DpAll K H vs ds → ds[i]? = some d → ∃ v, vs[i]? = some v ∧ Dp K H v d
  | _, _, _, _, .nil, e => by simp at e
  | _, _, 0, _, .cons h _, e => by simp at e; subst e; exact ⟨_, rfl, h⟩
  | _, _, i + 1, d, .cons _ t, e => by
    obtain ⟨v, h1, h2⟩ := DpAll.get' (i := i) (d := d) t (by simpa using e)
    exact ⟨v, by simpa using h1, h2⟩
theorem DpAll.set : ∀ {vs : List V} {ds : List PyData} {v : V} {d : PyData} (i : Nat), DpAll K H vs ds → Dp K H v d → DpAll K H (vs.set i v) (ds.set i d)
  | _, _, _, _, _, .nil, _ => .nil
  | _, _, _, _, 0, .cons _ t, h => .cons h t
  | _, _, _, _, i + 1, .cons q t, h => .cons q (DpAll.set i t h)
theorem DpAll.take : ∀ {vs : List V} {ds : List PyData} (n : Nat), DpAll K H vs ds → DpAll K H (vs.take n) (ds.take n)
  | _, _, 0, _ => .nil
  | _, _, _ + 1, .nil => .nil
  | _, _, n + 1, .cons r t => .cons r (DpAll.take n t)
theorem DpAll.drop : ∀ {vs : List V} {ds : List PyData} (n : Nat), DpAll K H vs ds → DpAll K H (vs.drop n) (ds.drop n)
  | _, _, 0, r => r
  | _, _, _ + 1, .nil => .nil
  | _, _, n + 1, .cons _ t => DpAll.drop n t
theorem DpAll.ints : ∀ {ns : List Int}, DpAll K H (ns.map V.int) (ns.map PyData.int)
  | [] => .nil
  | _ :: _ => .cons (.int _) DpAll.ints
theorem DpAll.of_ints : ∀ {vs : List V} {ns : List Int}, DpAll K H vs (ns.map PyData.int) → vs = ns.map V.int
  | _, [], h => by cases h; rfl
  | _, n :: ns, h => by
    cases h with
    | cons a b => cases a; rw [DpAll.of_ints b]; rfl
theorem DpAll.of_strs : ∀ {vs : List V} {ns : List Str}, DpAll K H vs (ns.map PyData.str) → vs = ns.map V.str
  | _, [], h => by cases h; rfl
  | _, n :: ns, h => by
    cases h with
    | cons a b => cases a; rw [DpAll.of_strs b]; rfl
theorem DpAll.strs : ∀ {ns : List Str}, DpAll K H (ns.map V.str) (ns.map PyData.str)
  | [] => .nil
  | _ :: _ => .cons (.str _) DpAll.strs
theorem DpAll.of_bls : ∀ {vs : List V} {ns : List Bool}, DpAll K H vs (ns.map PyData.bool) → vs = ns.map V.bl
  | _, [], h => by cases h; rfl
  | _, n :: ns, h => by
    cases h with
    | cons a b => cases a; rw [DpAll.of_bls b]; rfl
end

/-! ### owned lists and dicts -/
def keyD : Key → PD
  | .inl i => .int i
  | .inr s => .str s
def keyT (ks : List Key) : PD := .tuple (ks.map keyD)
/-- entries of a dict -/
inductive KvR (K : PySem.W.Frag) (F : Hp) {κ : Type} (kd : κ → PD) : List (κ × V) → List (PD × PD) → Prop
  | nil : KvR K F kd [] []
  | cons {k : κ} {v : V} {d : PD} {es : List (κ × V)} {kvs : List (PD × PD)} : Dp K F v d → KvR K F kd es kvs → KvR K F kd ((k, v) :: es) ((kd k, d) :: kvs)
theorem KvR.mono {K : PySem.W.Frag} {F F' : Hp} {κ : Type} {kd : κ → PD} (e : Same F F') : ∀ {es : List (κ × V)} {kvs : List (PD × PD)}, KvR K F kd es kvs → KvR K F' kd es kvs
  | _, _, .nil => .nil
  | _, _, .cons h t => .cons (h.mono e) (t.mono e)
def DicAt (K : PySem.W.Frag) (F H : Hp) (p : Addr) (kvs : List (PD × PD)) : Prop :=
  ∃ es, H p = some (.dK es) ∧ KvR K F keyD es kvs
def OwnAt (K : PySem.W.Frag) (F H : Hp) (p : Addr) : PD → Prop
  | .list ds => ∃ vs, H p = some (.lst vs) ∧ DpAll K F vs ds
  | .dict kvs => DicAt K F H p kvs
  | _ => False
theorem OwnAt.mono {K : PySem.W.Frag} {F H F' H' : Hp} {p : Addr} {d : PD} (e : Same F F') (g : ∀ o, H p = some o → H' p = some o) (h : OwnAt K F H p d) : OwnAt K F' H' p d := by
  cases d with
  | list ds => obtain ⟨vs, a, b⟩ := h; exact ⟨vs, g _ a, b.mono e⟩
  | dict kvs =>
    obtain ⟨es, a, b⟩ := h
    exact ⟨es, g _ a, b.mono e⟩
  | _ => exact h.elim
theorem OwnAt.some {K : PySem.W.Frag} {F H : Hp} {p : Addr} {d : PD} (h : OwnAt K F H p d) : ∃ o, H p = some o := by
  cases d with
  | list ds => obtain ⟨vs, a, b⟩ := h; exact ⟨_, a⟩
  | dict kvs =>
    obtain ⟨es, a, b⟩ := h
    exact ⟨_, a⟩
  | _ => exact h.elim
/-- what may be read as data -/
def Rp (K : PySem.W.Frag) (F H : Hp) (v : V) (d : PD) : Prop := Dp K F v d ∨ ∃ p, v = .ref p ∧ OwnAt K F H p d
theorem Rp.ext {K : PySem.W.Frag} {F H F' H' : Hp} {v : V} {d : PD} (e : Same F F') (g : Same H H') : Rp K F H v d → Rp K F' H' v d
  | .inl h => .inl (h.mono e)
  | .inr ⟨p, a, h⟩ => .inr ⟨p, a, h.mono e fun o q => g p o q⟩
theorem Rp.dp {K : PySem.W.Frag} {F H : Hp} {v : V} {d : PD} (s : Same F H) (h : Rp K F H v d) (hd : ∀ kvs, d ≠ .dict kvs) : Dp K H v d := by
  rcases h with h | ⟨p, rfl, h⟩
  · exact h.mono s
  · cases d with
    | list ds => obtain ⟨vs, a, b⟩ := h; exact .lst (.inl a) (b.mono s)
    | dict kvs => exact absurd rfl (hd kvs)
    | _ => exact h.elim
/-- a list that may be read: its items are frozen -/
theorem Rp.list {K : PySem.W.Frag} {F H : Hp} {v : V} {ds : List PD} (s : Same F H) (h : Rp K F H v (.list ds)) : ∃ a vs, v = .ref a ∧ Rd H a (.lst vs) ∧ DpAll K F vs ds := by
  rcases h with h | ⟨p, rfl, vs, a, b⟩
  · cases h with
    | lst q r => exact ⟨_, _, rfl, rdM s q, r⟩
  · exact ⟨p, vs, rfl, .inl a, b⟩
theorem Rp.tuple {K : PySem.W.Frag} {F H : Hp} {v : V} {ds : List PD} (s : Same F H) (h : Rp K F H v (.tuple ds)) : ∃ a vs, v = .ref a ∧ SqT K H a vs ∧ DpAll K F vs ds := by
  rcases h with h | ⟨p, rfl, h⟩
  · cases h with
    | tup q r => exact ⟨_, _, rfl, seqT s q, r⟩
  · exact h.elim
theorem Rp.int {K : PySem.W.Frag} {F H : Hp} {v : V} {i : Int} (h : Rp K F H v (.int i)) : v = .int i := by
  rcases h with h | ⟨p, rfl, h⟩
  · cases h; rfl
  · exact h.elim
theorem Rp.str {K : PySem.W.Frag} {F H : Hp} {v : V} {i : Str} (h : Rp K F H v (.str i)) : v = .str i := by
  rcases h with h | ⟨p, rfl, h⟩
  · cases h; rfl
  · exact h.elim
theorem Rp.bool {K : PySem.W.Frag} {F H : Hp} {v : V} {i : Bool} (h : Rp K F H v (.bool i)) : v = .bl i := by
  rcases h with h | ⟨p, rfl, h⟩
  · cases h; rfl
  · exact h.elim
theorem Rp.none {K : PySem.W.Frag} {F H : Hp} {v : V} (h : Rp K F H v .none) : v = .non := by
  rcases h with h | ⟨p, rfl, h⟩
  · cases h; rfl
  · exact h.elim
inductive RpAll (K : PySem.W.Frag) (F H : Hp) : List V → List PD → Prop
  | nil : RpAll K F H [] []
  | cons {v : V} {vs : List V} {d : PD} {ds : List PD} : Rp K F H v d → RpAll K F H vs ds → RpAll K F H (v :: vs) (d :: ds)
theorem RpAll.length {K : PySem.W.Frag} {F H : Hp} : ∀ {vs : List V} {ds : List PD}, RpAll K F H vs ds → vs.length = ds.length
  | _, _, .nil => rfl
  | _, _, .cons _ t => by rw [List.length_cons, List.length_cons, t.length]

/-! ### the state -/
inductive Sl where
  | d (x : PD)
  | o (x : PD)
  | l (x : PD)
/-- plain values as data -/
def encV : V → PD
  | .bl b => .bool b
  | .int i => .int i
  | .str x => .str x
  | .non => .none
  | _ => .dict []
def encF (fs : List (Str × V)) : List PD := fs.map fun q => .tuple [.str q.1, encV q.2]
/-- a dict that is walked; a caught exception: itself, its dict's place, its fields -/
def LckAt (K : PySem.W.Frag) (F : Hp) (p : Addr) : PD → Prop
  | .dict kvs => ∃ od es, F p = some (.frz od (.dK es)) ∧ KvR K F keyD es kvs
  | .tuple [.int a, .int b, .list es] => p = a.toNat ∧ ∃ fs, F b.toNat = some (.xd fs) ∧ es = encF fs
  | _ => False
theorem LckAt.mono {K : PySem.W.Frag} {F F' : Hp} {p : Addr} {d : PD} (e : Same F F') (h : LckAt K F p d) : LckAt K F' p d := by
  unfold LckAt at h ⊢
  split at h
  · obtain ⟨od, es, a, b⟩ := h; exact ⟨od, es, e _ _ a, b.mono e⟩
  · obtain ⟨q, fs, a, b⟩ := h; exact ⟨q, fs, e _ _ a, b⟩
  · exact h.elim
abbrev Rho := List (Option Sl)
structure StR (K : PySem.W.Frag) (F0 H0 F H : Hp) (σ : L2.St) (ρ : Rho) : Prop where
  ext : Ext F0 H0 F H
  len : σ.length = ρ.length
  dat : ∀ (i : Nat) (x : PD), ρ[i]? = some (some (Sl.d x)) → ∃ v, σ[i]? = some (some v) ∧ Dp K F v x
  own : ∀ (i : Nat) (x : PD), ρ[i]? = some (some (Sl.o x)) → ∃ p, σ[i]? = some (some (.ref p)) ∧ H0 p = none ∧ F p = none ∧ OwnAt K F H p x
  dis : ∀ (i j : Nat) (x y : PD) (p : Addr), ρ[i]? = some (some (Sl.o x)) → ρ[j]? = some (some (Sl.o y)) → σ[i]? = some (some (.ref p)) → σ[j]? = some (some (.ref p)) → i = j
  lck : ∀ (i : Nat) (x : PD), ρ[i]? = some (some (Sl.l x)) → ∃ p, σ[i]? = some (some (.ref p)) ∧ LckAt K F p x
section
variable {K : PySem.W.Frag} {F0 H0 F H F' H' : Hp} {σ : L2.St} {ρ : Rho}
theorem StR.same (S : StR K F0 H0 F H σ ρ) : Same F H := S.ext.g
theorem StR.go (S : StR K F0 H0 F H σ ρ) (e : Ext F H F' H') : StR K F0 H0 F' H' σ ρ := by
  refine ⟨S.ext.trans e, S.len, fun i x h => ?_, fun i x h => ?_, S.dis, fun i x h => let ⟨p, a, b⟩ := S.lck i x h; ⟨p, a, b.mono e.f⟩⟩
  · obtain ⟨v, a, b⟩ := S.dat i x h
    exact ⟨v, a, b.mono e.f⟩
  · obtain ⟨p, a, b, c, d⟩ := S.own i x h
    refine ⟨p, a, b, ?_, d.mono e.f fun o q => e.h p o q⟩
    obtain ⟨o, ho⟩ := d.some
    cases q : F' p with
    | none => rfl
    | some u =>
      rcases e.n p (by rw [q]; exact Option.some_ne_none u) with z | z
      · exact absurd c z
      · rw [ho] at z; cases z
/-- the base put to where one stands -/
theorem StR.rebase (S : StR K F0 H0 F H σ ρ) : StR K F H0 F H σ ρ :=
  ⟨⟨Same.refl F, S.ext.g, S.ext.h, fun _ h => .inl h⟩, S.len, S.dat, S.own, S.dis, S.lck⟩
theorem StR.unbase {F1 H1 : Hp} (b : Ext F0 H0 F H) (S : StR K F H0 F1 H1 σ ρ) : StR K F0 H0 F1 H1 σ ρ :=
  ⟨b.base S.ext, S.len, S.dat, S.own, S.dis, S.lck⟩
theorem get_set {α : Type} {l : List (Option α)} {i j : Nat} {x : Option α} {y : α} (h : (l.set i x)[j]? = some (some y)) : (i = j ∧ i < l.length ∧ x = some y) ∨ (i ≠ j ∧ l[j]? = some (some y)) := by
  by_cases e : i = j
  · subst e
    by_cases hl : i < l.length
    · rw [List.getElem?_set_self hl] at h
      exact .inl ⟨rfl, hl, Option.some.inj h⟩
    · rw [List.getElem?_eq_none (by simpa using hl)] at h; cases h
  · rw [List.getElem?_set_ne e] at h
    exact .inr ⟨e, h⟩
/-- a slot gets data -/
theorem StR.setD (S : StR K F0 H0 F H σ ρ) {i : Nat} {v : V} {x : PD} (h : Dp K F v x) : StR K F0 H0 F H (σ.set i (some v)) (ρ.set i (some (Sl.d x))) := by
  refine ⟨S.ext, by simpa using S.len, fun j y e => ?_, fun j y e => ?_, fun j k y z p e1 e2 e3 e4 => ?_, fun j y e => ?_⟩
  · rcases get_set e with ⟨rfl, hl, q⟩ | ⟨hn, q⟩
    · injection q with q; injection q with q; subst q
      exact ⟨v, by rw [List.getElem?_set_self (by rw [S.len]; exact hl)], h⟩
    · obtain ⟨u, a, b⟩ := S.dat j y q
      exact ⟨u, by rw [List.getElem?_set_ne hn]; exact a, b⟩
  · rcases get_set e with ⟨rfl, hl, q⟩ | ⟨hn, q⟩
    · injection q with q; cases q
    · obtain ⟨p, a, b⟩ := S.own j y q
      exact ⟨p, by rw [List.getElem?_set_ne hn]; exact a, b⟩
  · rcases get_set e1 with ⟨_, _, q⟩ | ⟨n1, q1⟩
    · injection q with q; cases q
    · rcases get_set e2 with ⟨_, _, q⟩ | ⟨n2, q2⟩
      · injection q with q; cases q
      · rw [List.getElem?_set_ne n1] at e3
        rw [List.getElem?_set_ne n2] at e4
        exact S.dis j k y z p q1 q2 e3 e4
  · rcases get_set e with ⟨rfl, hl, q⟩ | ⟨hn, q⟩
    · injection q with q; cases q
    · obtain ⟨u, a, b⟩ := S.lck j y q
      exact ⟨u, by rw [List.getElem?_set_ne hn]; exact a, b⟩
/-- a slot gets an owned thing that no slot has -/
theorem StR.setO (S : StR K F0 H0 F H σ ρ) {i : Nat} {p : Addr} {x : PD} (h0 : H0 p = none) (hf : F p = none) (h : OwnAt K F H p x)
    (hn : ∀ (j : Nat) (y : PD), j ≠ i → ρ[j]? = some (some (Sl.o y)) → σ[j]? ≠ some (some (.ref p))) : StR K F0 H0 F H (σ.set i (some (.ref p))) (ρ.set i (some (Sl.o x))) := by
  refine ⟨S.ext, by simpa using S.len, fun j y e => ?_, fun j y e => ?_, fun j k y z q e1 e2 e3 e4 => ?_, fun j y e => ?_⟩
  · rcases get_set e with ⟨rfl, hl, q⟩ | ⟨hn, q⟩
    · injection q with q; cases q
    · obtain ⟨u, a, b⟩ := S.dat j y q
      exact ⟨u, by rw [List.getElem?_set_ne hn]; exact a, b⟩
  · rcases get_set e with ⟨rfl, hl, q⟩ | ⟨hn, q⟩
    · injection q with q; injection q with q; subst q
      exact ⟨p, by rw [List.getElem?_set_self (by rw [S.len]; exact hl)], h0, hf, h⟩
    · obtain ⟨p, a, b⟩ := S.own j y q
      exact ⟨p, by rw [List.getElem?_set_ne hn]; exact a, b⟩
  · rcases get_set e1 with ⟨r1, l1, q1⟩ | ⟨n1, q1⟩
    · rcases get_set e2 with ⟨r2, l2, q2⟩ | ⟨n2, q2⟩
      · exact r1.symm.trans r2
      · subst r1
        rw [List.getElem?_set_self (by rw [S.len]; exact l1)] at e3
        injection e3 with e3; injection e3 with e3; injection e3 with e3; subst e3
        rw [List.getElem?_set_ne n2] at e4
        exact absurd e4 (hn k z n2.symm q2)
    · rcases get_set e2 with ⟨r2, l2, q2⟩ | ⟨n2, q2⟩
      · subst r2
        rw [List.getElem?_set_self (by rw [S.len]; exact l2)] at e4
        injection e4 with e4; injection e4 with e4; injection e4 with e4; subst e4
        rw [List.getElem?_set_ne n1] at e3
        exact absurd e3 (hn j y n1.symm q1)
      · rw [List.getElem?_set_ne n1] at e3
        rw [List.getElem?_set_ne n2] at e4
        exact S.dis j k y z q q1 q2 e3 e4
  · rcases get_set e with ⟨rfl, hl, q⟩ | ⟨hn, q⟩
    · injection q with q; cases q
    · obtain ⟨u, a, b⟩ := S.lck j y q
      exact ⟨u, by rw [List.getElem?_set_ne hn]; exact a, b⟩
/-- .. a new one -/
theorem StR.setN {F1 H1 : Hp} (S : StR K F0 H0 F H σ ρ) {i : Nat} {p : Addr} {x : PD} (e : Ext F H F1 H1) (hp : H p = none) (hf : F1 p = none) (h : OwnAt K F1 H1 p x) :
    StR K F0 H0 F1 H1 (σ.set i (some (.ref p))) (ρ.set i (some (Sl.o x))) := by
  refine (S.go e).setO (S.ext.h.free hp) hf h fun j y _ q z => ?_
  obtain ⟨p', a, b, c, d⟩ := S.own j y q
  rw [z] at a
  injection a with a; injection a with a; injection a with a; subst a
  obtain ⟨o, ho⟩ := d.some
  rw [hp] at ho; cases ho
/-- an owned thing is changed in place -/
theorem StR.mut (S : StR K F0 H0 F H σ ρ) {i : Nat} {p : Addr} {x y : PD} {o : HO} (hi : ρ[i]? = some (some (Sl.o x))) (hs : σ[i]? = some (some (.ref p))) (h : OwnAt K F (upd H p o) p y) :
    StR K F0 H0 F (upd H p o) σ (ρ.set i (some (Sl.o y))) := by
  obtain ⟨p', a, b, c, d⟩ := S.own i x hi
  rw [hs] at a
  injection a with a; injection a with a; injection a with a; subst a
  have hil : i < ρ.length := (List.getElem?_eq_some_iff.mp hi).1
  refine ⟨⟨S.ext.f, fun r u e => ?_, fun r u e => ?_, S.ext.n⟩, by simpa using S.len, fun j z e => ?_, fun j z e => ?_, fun j k z w q e1 e2 e3 e4 => ?_, fun j z e => ?_⟩
  · rw [upd_ne (ne_of_none e c)]; exact S.ext.g r u e
  · rw [upd_ne (ne_of_none e b)]; exact S.ext.h r u e
  · rcases get_set e with ⟨rfl, hl, q⟩ | ⟨hn, q⟩
    · injection q with q; cases q
    · exact S.dat j z q
  · rcases get_set e with ⟨rfl, hl, q⟩ | ⟨hn, q⟩
    · injection q with q; injection q with q; subst q
      exact ⟨p, hs, b, c, h⟩
    · obtain ⟨p2, a2, b2, c2, d2⟩ := S.own j z q
      refine ⟨p2, a2, b2, c2, d2.mono (Same.refl F) fun u hu => ?_⟩
      by_cases hp : p2 = p
      · subst hp
        exact absurd (S.dis i j x z p2 hi q hs a2) hn
      · rw [upd_ne hp]; exact hu
  · rcases get_set e1 with ⟨r1, l1, q1⟩ | ⟨n1, q1⟩
    · rcases get_set e2 with ⟨r2, l2, q2⟩ | ⟨n2, q2⟩
      · exact r1.symm.trans r2
      · subst r1
        exact S.dis i k x w q hi q2 e3 e4
    · rcases get_set e2 with ⟨r2, l2, q2⟩ | ⟨n2, q2⟩
      · subst r2
        exact S.dis j i z x q q1 hi e3 e4
      · exact S.dis j k z w q q1 q2 e3 e4
  · rcases get_set e with ⟨rfl, hl, q⟩ | ⟨hn, q⟩
    · injection q with q; cases q
    · exact S.lck j z q
/-- an owned list becomes data -/
def frzS : Option Sl → Option Sl
  | some (Sl.o (.list ds)) => some (Sl.d (.list ds))
  | s => s
def frz1 (i : Nat) (ρ : Rho) : Rho := match ρ[i]? with
  | some (some (Sl.o (.list ds))) => ρ.set i (some (Sl.d (.list ds)))
  | _ => ρ
theorem StR.frz1 (S : StR K F0 H0 F H σ ρ) (i : Nat) : ∃ F', Ext F0 H0 F' H ∧ Same F F' ∧ StR K F0 H0 F' H σ (frz1 i ρ) := by
  have triv : ∃ F', Ext F0 H0 F' H ∧ Same F F' ∧ StR K F0 H0 F' H σ ρ := ⟨F, S.ext, Same.refl F, S⟩
  unfold DL.frz1
  split
  · rename_i ds hi
    obtain ⟨p, a, b, c, vs, hv, hd⟩ := S.own i _ hi
    have hs : Same F (upd F p (.lst vs)) := fun q u e => by rw [upd_ne (ne_of_none e c)]; exact e
    have ex : Ext F0 H0 (upd F p (.lst vs)) H := by
      refine ⟨S.ext.f.trans hs, fun q u e => ?_, S.ext.h, fun q e => ?_⟩
      · by_cases hq : q = p
        · subst hq; rw [upd_same] at e; rw [← e]; exact hv
        · rw [upd_ne hq] at e; exact S.ext.g q u e
      · by_cases hq : q = p
        · subst hq; exact .inr b
        · rw [upd_ne hq] at e; exact S.ext.n q e
    refine ⟨_, ex, hs, ex, by simpa using S.len, fun j z e => ?_, fun j z e => ?_, fun j k z w q e1 e2 e3 e4 => ?_, fun j z e => ?_⟩
    · rcases get_set e with ⟨rfl, hl, q⟩ | ⟨hn, q⟩
      · injection q with q; injection q with q; subst q
        exact ⟨.ref p, a, .lst (.inl upd_same) (hd.mono hs)⟩
      · obtain ⟨v, a, b⟩ := S.dat j z q
        exact ⟨v, a, b.mono hs⟩
    · rcases get_set e with ⟨rfl, hl, q⟩ | ⟨hn, q⟩
      · injection q with q; cases q
      · obtain ⟨p2, a2, b2, c2, d2⟩ := S.own j z q
        refine ⟨p2, a2, b2, ?_, d2.mono hs fun _ h => h⟩
        by_cases hp : p2 = p
        · subst hp
          exact absurd (S.dis i j _ z p2 hi q a a2) hn
        · rw [upd_ne hp]; exact c2
    · rcases get_set e1 with ⟨r1, l1, q1⟩ | ⟨n1, q1⟩
      · injection q1 with q1; cases q1
      · rcases get_set e2 with ⟨r2, l2, q2⟩ | ⟨n2, q2⟩
        · injection q2 with q2; cases q2
        · exact S.dis j k z w q q1 q2 e3 e4
    · rcases get_set e with ⟨rfl, hl, q⟩ | ⟨hn, q⟩
      · injection q with q; cases q
      · obtain ⟨v, a, b⟩ := S.lck j z q
        exact ⟨v, a, b.mono hs⟩
  · exact triv
end
end DL
namespace DL
open PySem PySem.Spec PyProof.Rows L2

/-! ### judgements -/
/-- an exception as the reading tells it, as the heap has it -/
def ExR (K : PySem.W.Frag) (c : Ec) (cls : Value) (d : Option Addr) (H : Hp) : Prop :=
  cls = .ref (He.ga K c.cls) ∧ ((c.fs = [] ∧ d = none) ∨ ∃ dd, d = some dd ∧ H dd = some (.xd c.fs))
/-- what follows -/
def Fin (K : PySem.W.Frag) (W : WX) (σ : L2.St) (F H : Hp) {α : Type} (r : R α) (P : α → Hp → Hp → Prop) : Prop :=
  match r with
  | .ok x => ∀ F' H', Ext F H F' H' → P x F' H'
  | .exc c => ∀ cls d F' H', Ext F H F' H' → ExR K c cls d H' → W cls d σ H'
  | .bad => False
section
variable {K : PySem.W.Frag} {W : WX} {σ : L2.St} {F H F1 H1 : Hp} {α β : Type}
theorem Fin.mono {r : R α} {P : α → Hp → Hp → Prop} (e : Ext F H F1 H1) (h : Fin K W σ F H r P) : Fin K W σ F1 H1 r P := by
  cases r with
  | ok x => exact fun F' H' q => h F' H' (e.trans q)
  | exc c => exact fun cls d F' H' q => h cls d F' H' (e.trans q)
  | bad => exact h
theorem Fin.imp {r : R α} {P P' : α → Hp → Hp → Prop} (h : Fin K W σ F H r P) (f : ∀ x F' H', Ext F H F' H' → P x F' H' → P' x F' H') : Fin K W σ F H r P' := by
  cases r with
  | ok x => exact fun F' H' q => f x F' H' q (h F' H' q)
  | exc c => exact h
  | bad => exact h
theorem Fin.bind {r : R α} {f : α → R β} {P : β → Hp → Hp → Prop} (h : Fin K W σ F H (r.bind f) P) : Fin K W σ F H r (fun x F1 H1 => Fin K W σ F1 H1 (f x) P) := by
  cases r with
  | ok x => exact fun F' H' q => Fin.mono q h
  | exc c => exact h
  | bad => exact h
/-- bind and go on -/
theorem Fin.then {r : R α} {f : α → R β} {P : β → Hp → Hp → Prop} {P' : α → Hp → Hp → Prop} (h : Fin K W σ F H (r.bind f) P) (g : ∀ x F1 H1, Ext F H F1 H1 → Fin K W σ F1 H1 (f x) P → P' x F1 H1) : Fin K W σ F H r P' :=
  (Fin.bind h).imp g
theorem Fin.okk (K : PySem.W.Frag) (W : WX) (σ : L2.St) {x : α} {P : α → Hp → Hp → Prop} (s : Same F H) (h : Fin K W σ F H (.ok x) P) : P x F H := h F H (Ext.refl s)
theorem Fin.ok {x : α} {P : α → Hp → Hp → Prop} (s : Same F H) (h : Fin K W σ F H (.ok x) P) : P x F H := h F H (Ext.refl s)
end

def DpQ (K : PySem.W.Frag) (Q : VK) : PD → Hp → Hp → Prop := fun x F' H' => ∀ v, Dp K F' v x → Q v H'
def RpQ (K : PySem.W.Frag) (Q : VK) : PD → Hp → Hp → Prop := fun x F' H' => ∀ v, Rp K F' H' v x → Q v H'
def OwQ (K : PySem.W.Frag) (H : Hp) (Q : VK) : PD → Hp → Hp → Prop := fun x F' H' => ∀ p, H p = none → F' p = none → OwnAt K F' H' p x → Q (.ref p) H'
def BoQ (Q : Bool → Hp → Prop) : Bool → Hp → Hp → Prop := fun b _ H' => Q b H'
/-- frozen data; readable data; a new owned thing; a test -/
def TDe (K : PySem.W.Frag) (W : WX) (t : TE) (g : Rho → R PD) : Prop := ∀ (F0 H0 F H : Hp) (σ : L2.St) (ρ : Rho) (Q : VK), StR K F0 H0 F H σ ρ → Fin K W σ F H (g ρ) (DpQ K Q) → t σ H Q
def TDr (K : PySem.W.Frag) (W : WX) (t : TE) (g : Rho → R PD) : Prop := ∀ (F0 H0 F H : Hp) (σ : L2.St) (ρ : Rho) (Q : VK), StR K F0 H0 F H σ ρ → Fin K W σ F H (g ρ) (RpQ K Q) → t σ H Q
def TDo (K : PySem.W.Frag) (W : WX) (t : TE) (g : Rho → R PD) : Prop := ∀ (F0 H0 F H : Hp) (σ : L2.St) (ρ : Rho) (Q : VK), StR K F0 H0 F H σ ρ → Fin K W σ F H (g ρ) (OwQ K H Q) → t σ H Q
def TDt (K : PySem.W.Frag) (W : WX) (t : TT) (g : Rho → R Bool) : Prop := ∀ (F0 H0 F H : Hp) (σ : L2.St) (ρ : Rho) (Q : Bool → Hp → Prop), StR K F0 H0 F H σ ρ → Fin K W σ F H (g ρ) (BoQ Q) → t σ H Q
/-- argument lists: frozen, readable -/
def TDa (K : PySem.W.Frag) (W : WX) (t : TA) (g : Rho → R (List PD)) : Prop := ∀ (F0 H0 F H : Hp) (σ : L2.St) (ρ : Rho) (Q : List V → Hp → Prop), StR K F0 H0 F H σ ρ → Fin K W σ F H (g ρ) (fun xs F' H' => ∀ vs, DpAll K F' vs xs → Q vs H') → t σ H Q
def TDq (K : PySem.W.Frag) (W : WX) (t : TA) (g : Rho → R (List PD)) : Prop := ∀ (F0 H0 F H : Hp) (σ : L2.St) (ρ : Rho) (Q : List V → Hp → Prop), StR K F0 H0 F H σ ρ → Fin K W σ F H (g ρ) (fun xs F' H' => ∀ vs, RpAll K F' H' vs xs → Q vs H') → t σ H Q

section
variable {K : PySem.W.Frag} {W : WX} {t ta tb tc : TE} {g ga gb gc : Rho → R PD} {tt : TT}
theorem TDe.r (h : TDe K W t g) : TDr K W t g := fun F0 H0 F H σ ρ Q S q => h F0 H0 F H σ ρ Q S (q.imp fun x F' H' e k v r => k v (.inl r))
def notDict : PD → R PD
  | .list xs => .ok (.list xs)
  | _ => .bad
def eFz (g : Rho → R PD) : Rho → R PD := fun ρ => (g ρ).bind notDict
theorem TDo.e (h : TDo K W t g) : TDe K W t (eFz g) := fun F0 H0 F H σ ρ Q S q => h F0 H0 F H σ ρ Q S (by
  unfold eFz at q
  cases e : g ρ with
  | exc c => rw [e] at q; exact q
  | bad => rw [e] at q; exact q
  | ok x =>
    rw [e] at q
    cases x with
    | list ds =>
      rintro F' H' ex p hp hf ⟨vs, a, b⟩
      have hs : Same F' (upd F' p (.lst vs)) := fun q u e => by rw [upd_ne (ne_of_none e hf)]; exact e
      refine q (upd F' p (.lst vs)) H' ⟨ex.f.trans hs, fun q u r => ?_, ex.h, fun q r => ?_⟩ _ (.lst (.inl upd_same) (b.mono hs))
      · by_cases hq : q = p
        · subst hq; rw [upd_same] at r; rw [← r]; exact a
        · rw [upd_ne hq] at r; exact ex.g q u r
      · by_cases hq : q = p
        · subst hq; exact .inr hp
        · rw [upd_ne hq] at r; exact ex.n q r
    | _ => exact q.elim)
theorem TDo.r (h : TDo K W t g) : TDr K W t (eFz g) := h.e.r

/-! ### names, constants -/
def eVar (i : Nat) : Rho → R PD := fun ρ => match ρ[i]? with
  | some (some (.d x)) => .ok x
  | _ => .bad
def rVar (i : Nat) : Rho → R PD := fun ρ => match ρ[i]? with
  | some (some (.d x)) => .ok x
  | some (some (.o x)) => .ok x
  | _ => .bad
theorem td_var (i : Nat) : TDe K W (tVar i) (eVar i) := fun F0 H0 F H σ ρ Q S q => by
  unfold eVar at q
  split at q
  · rename_i x e
    obtain ⟨v, a, b⟩ := S.dat i x e
    exact ⟨v, a, q.ok S.same v b⟩
  · exact q.elim
theorem tr_var (i : Nat) : TDr K W (tVar i) (rVar i) := fun F0 H0 F H σ ρ Q S q => by
  unfold rVar at q
  split at q
  · rename_i x e
    obtain ⟨v, a, b⟩ := S.dat i x e
    exact ⟨v, a, q.ok S.same v (.inl b)⟩
  · rename_i x e
    obtain ⟨p, a, _, _, d⟩ := S.own i x e
    exact ⟨_, a, q.ok S.same _ (.inr ⟨p, rfl, d⟩)⟩
  · exact q.elim
def eC (x : PD) : Rho → R PD := fun _ => .ok x
theorem td_int {i : Int} : TDe K W (tC (.int i)) (eC (.int i)) := fun F0 H0 F H σ ρ Q S q => q.ok S.same _ (.int i)
theorem td_str {i : Str} : TDe K W (tC (.str i)) (eC (.str i)) := fun F0 H0 F H σ ρ Q S q => q.ok S.same _ (.str i)
theorem td_bl {i : Bool} : TDe K W (tC (.bl i)) (eC (.bool i)) := fun F0 H0 F H σ ρ Q S q => q.ok S.same _ (.bl i)
theorem td_non : TDe K W (tC .non) (eC .none) := fun F0 H0 F H σ ρ Q S q => q.ok S.same _ .non

/-! ### operators -/
/-- a two-place operation by values -/
def RD (K : PySem.W.Frag) (r : R2) (f : PD → PD → R PD) : Prop := ∀ (W : WX) (σ : L2.St) (F H : Hp) (x y : V) (a b : PD) (Q : VK), Same F H → Rp K F H x a → Rp K F H y b → Fin K W σ F H (f a b) (DpQ K Q) → r x y H Q
/-- .. with a new owned result -/
def RDo (K : PySem.W.Frag) (r : R2) (f : PD → PD → R PD) : Prop := ∀ (W : WX) (σ : L2.St) (F H : Hp) (x y : V) (a b : PD) (Q : VK), Same F H → Rp K F H x a → Rp K F H y b → Fin K W σ F H (f a b) (OwQ K H Q) → r x y H Q
def RU (K : PySem.W.Frag) (r : V → Hp → VK → Prop) (f : PD → R PD) : Prop := ∀ (W : WX) (σ : L2.St) (F H : Hp) (x : V) (a : PD) (Q : VK), Same F H → Rp K F H x a → Fin K W σ F H (f a) (DpQ K Q) → r x H Q
def eOp (f : PD → PD → R PD) (ga gb : Rho → R PD) : Rho → R PD := fun ρ => (ga ρ).bind fun a => (gb ρ).bind fun b => f a b
def eUn (f : PD → R PD) (ga : Rho → R PD) : Rho → R PD := fun ρ => (ga ρ).bind f
variable {r r' : R2} {f f' : PD → PD → R PD}
theorem td_op (hr : RD K r f) (ha : TDr K W ta ga) (hb : TDr K W tb gb) : TDe K W (tOp r ta tb) (eOp f ga gb) := fun F0 H0 F H σ ρ Q S q =>
  ha F0 H0 F H σ ρ _ S (q.then fun a F1 H1 e1 k1 v rv => hb F0 H0 F1 H1 σ ρ _ (S.go e1) (k1.then fun b F2 H2 e2 k2 u ru =>
    hr W σ F2 H2 v u a b Q e2.g (rv.ext e2.f e2.h) ru k2))
theorem to_op (hr : RDo K r f) (ha : TDr K W ta ga) (hb : TDr K W tb gb) : TDo K W (tOp r ta tb) (eOp f ga gb) := fun F0 H0 F H σ ρ Q S q =>
  ha F0 H0 F H σ ρ _ S (by
    unfold eOp at q
    cases e : ga ρ with
    | exc c => rw [e] at q; exact q
    | bad => rw [e] at q; exact q
    | ok a =>
      rw [e] at q
      intro F1 H1 e1 v rv
      refine hb F0 H0 F1 H1 σ ρ _ (S.go e1) ?_
      have q : Fin K W σ F H ((gb ρ).bind fun b => f a b) (OwQ K H Q) := q
      cases e' : gb ρ with
      | exc c => rw [e'] at q; exact Fin.mono e1 (r := (.exc c : R PD)) q
      | bad => rw [e'] at q; exact q
      | ok b =>
        rw [e'] at q
        intro F2 H2 e2 u ru
        have q2 : Fin K W σ F2 H2 (f a b) (OwQ K H Q) := Fin.mono (e1.trans e2) q
        exact hr W σ F2 H2 v u a b Q e2.g (rv.ext e2.f e2.h) ru (q2.imp fun x F' H' e3 k p hp hf ho => k p ((e1.trans e2).h.free hp) hf ho))
theorem td_un {r : V → Hp → VK → Prop} {f : PD → R PD} (hr : RU K r f) (ha : TDr K W ta ga) : TDe K W (tUn r ta) (eUn f ga) := fun F0 H0 F H σ ρ Q S q =>
  ha F0 H0 F H σ ρ _ S (q.then fun a F1 H1 e1 k1 v rv => hr W σ F1 H1 v a Q e1.g rv k1)
theorem RD.or {g : PD → PD → R PD} (h : ∀ (W : WX) (σ : L2.St) (F H : Hp) (x y : V) (a b : PD) (Q : VK), Same F H → Rp K F H x a → Rp K F H y b → Fin K W σ F H (g a b) (DpQ K Q) → r x y H Q ∨ r' x y H Q) :
    RD K (fun x y H Q => r x y H Q ∨ r' x y H Q) g := h

/-! ### tests -/
def asB : PD → R Bool
  | .bool b => .ok b
  | _ => .bad
def bOf (g : Rho → R PD) : Rho → R Bool := fun ρ => (g ρ).bind asB
theorem asB_q {Q : Bool → Hp → Prop} {F1 H1 : Hp} {σ : L2.St} {a : PD} {v : V} (s : Same F1 H1) (r : Rp K F1 H1 v a) (k : Fin K W σ F1 H1 (asB a) (BoQ Q)) : ∃ c, v = .bl c ∧ Q c H1 := by
  cases a with
  | bool b =>
    have e := r.bool
    exact ⟨b, e, k.ok s⟩
  | _ => exact k.elim
theorem tt_test (h : TDr K W t g) : TDt K W (tTest t) (bOf g) := fun F0 H0 F H σ ρ Q S q =>
  h F0 H0 F H σ ρ _ S (q.then fun a F1 H1 e1 k1 v rv => asB_q e1.g rv k1)
theorem tt_B (h : TDr K W t g) : TDt K W (tB t) (bOf g) := fun F0 H0 F H σ ρ Q S q =>
  h F0 H0 F H σ ρ _ S (q.then fun a F1 H1 e1 k1 v rv => asB_q e1.g rv k1)
variable {t1 t2 : TT} {g1 g2 : Rho → R Bool}
def bAnd (g1 g2 : Rho → R Bool) : Rho → R Bool := fun ρ => (g1 ρ).bind fun c => if c = true then g2 ρ else .ok false
def bOr (g1 g2 : Rho → R Bool) : Rho → R Bool := fun ρ => (g1 ρ).bind fun c => if c = true then .ok true else g2 ρ
def bNot (g1 : Rho → R Bool) : Rho → R Bool := fun ρ => (g1 ρ).bind fun c => .ok !c
theorem tt_and (h1 : TDt K W t1 g1) (h2 : TDt K W t2 g2) : TDt K W (tAnd t1 t2) (bAnd g1 g2) := fun F0 H0 F H σ ρ Q S q =>
  h1 F0 H0 F H σ ρ _ S (q.then fun c F1 H1 e1 k1 => by
    cases c with
    | true => exact h2 F0 H0 F1 H1 σ ρ Q (S.go e1) k1
    | false => exact Fin.okk (x := false) K W σ e1.g k1)
theorem tt_or (h1 : TDt K W t1 g1) (h2 : TDt K W t2 g2) : TDt K W (tOr t1 t2) (bOr g1 g2) := fun F0 H0 F H σ ρ Q S q =>
  h1 F0 H0 F H σ ρ _ S (q.then fun c F1 H1 e1 k1 => by
    cases c with
    | false => exact h2 F0 H0 F1 H1 σ ρ Q (S.go e1) k1
    | true => exact Fin.okk (x := true) K W σ e1.g k1)
theorem tt_not (h1 : TDt K W t1 g1) : TDt K W (tNot t1) (bNot g1) := fun F0 H0 F H σ ρ Q S q =>
  h1 F0 H0 F H σ ρ _ S (q.then fun c F1 H1 e1 k1 => Fin.okk (x := !c) K W σ e1.g k1)
/-- .. as values -/
def eAnd (ga gb : Rho → R PD) : Rho → R PD := fun ρ => (ga ρ).bind fun a => (asB a).bind fun c => if c = true then gb ρ else .ok (.bool false)
def eOr (ga gb : Rho → R PD) : Rho → R PD := fun ρ => (ga ρ).bind fun a => (asB a).bind fun c => if c = true then .ok (.bool true) else gb ρ
def eNot (ga : Rho → R PD) : Rho → R PD := fun ρ => (ga ρ).bind fun a => (asB a).bind fun c => .ok (.bool !c)
theorem asB_k {P : PD → Hp → Hp → Prop} {F1 H1 : Hp} {σ : L2.St} {a : PD} {v : V} {k : Bool → R PD} (s : Same F1 H1) (r : Rp K F1 H1 v a) (h : Fin K W σ F1 H1 ((asB a).bind k) P) : ∃ c, v = .bl c ∧ Fin K W σ F1 H1 (k c) P := by
  cases a with
  | bool b => exact ⟨b, r.bool, h⟩
  | _ => exact h.elim
theorem td_and (ha : TDr K W ta ga) (hb : TDe K W tb gb) : TDe K W (tAndV ta tb) (eAnd ga gb) := fun F0 H0 F H σ ρ Q S q =>
  ha F0 H0 F H σ ρ _ S (q.then fun a F1 H1 e1 k1 v rv => by
    obtain ⟨c, e, k2⟩ := asB_k e1.g rv k1
    refine ⟨c, e, ?_⟩
    cases c with
    | true => exact hb F0 H0 F1 H1 σ ρ Q (S.go e1) k2
    | false => exact Fin.okk (x := PyData.bool false) K W σ e1.g k2 _ (.bl false))
theorem td_or (ha : TDr K W ta ga) (hb : TDe K W tb gb) : TDe K W (tOrV ta tb) (eOr ga gb) := fun F0 H0 F H σ ρ Q S q =>
  ha F0 H0 F H σ ρ _ S (q.then fun a F1 H1 e1 k1 v rv => by
    obtain ⟨c, e, k2⟩ := asB_k e1.g rv k1
    refine ⟨c, e, ?_⟩
    cases c with
    | false => exact hb F0 H0 F1 H1 σ ρ Q (S.go e1) k2
    | true => exact Fin.okk (x := PyData.bool true) K W σ e1.g k2 _ (.bl true))
theorem td_not (ha : TDr K W ta ga) : TDe K W (tNotV ta) (eNot ga) := fun F0 H0 F H σ ρ Q S q =>
  ha F0 H0 F H σ ρ _ S (q.then fun a F1 H1 e1 k1 v rv => by
    obtain ⟨c, e, k2⟩ := asB_k e1.g rv k1
    exact ⟨c, e, Fin.okk (x := PyData.bool !c) K W σ e1.g k2 _ (.bl _)⟩)
def eIf (gt : Rho → R Bool) (ga gb : Rho → R PD) : Rho → R PD := fun ρ => (gt ρ).bind fun c => if c = true then ga ρ else gb ρ
theorem td_if (h1 : TDt K W t1 g1) (ha : TDe K W ta ga) (hb : TDe K W tb gb) : TDe K W (tIf t1 ta tb) (eIf g1 ga gb) := fun F0 H0 F H σ ρ Q S q =>
  h1 F0 H0 F H σ ρ _ S (q.then fun c F1 H1 e1 k1 => by
    cases c with
    | true => exact ha F0 H0 F1 H1 σ ρ Q (S.go e1) k1
    | false => exact hb F0 H0 F1 H1 σ ρ Q (S.go e1) k1)
/-- a op b op' c -/
def eChain (f f' : PD → PD → R PD) (ga gb gc : Rho → R PD) : Rho → R PD := fun ρ => (ga ρ).bind fun a => (gb ρ).bind fun b => (f a b).bind fun z => (asB z).bind fun k => if k = true then (gc ρ).bind fun c => f' b c else .ok (.bool false)
theorem td_chain (hr : RD K r f) (hr' : RD K r' f') (ha : TDr K W ta ga) (hb : TDr K W tb gb) (hc : TDr K W tc gc) : TDe K W (tChain r r' ta tb tc) (eChain f f' ga gb gc) := fun F0 H0 F H σ ρ Q S q =>
  ha F0 H0 F H σ ρ _ S (q.then fun a F1 H1 e1 k1 v rv => hb F0 H0 F1 H1 σ ρ _ (S.go e1) (k1.then fun b F2 H2 e2 k2 u ru =>
    hr W σ F2 H2 v u a b _ e2.g (rv.ext e2.f e2.h) ru (k2.then fun z F3 H3 e3 k3 zv rz => by
      obtain ⟨c, e, k4⟩ := asB_k e3.g (.inl rz) k3
      refine ⟨c, e, ?_⟩
      cases c with
      | false => exact Fin.okk (x := PyData.bool false) K W σ e3.g k4 _ (.bl false)
      | true => exact hc F0 H0 F3 H3 σ ρ _ (((S.go e1).go e2).go e3) (k4.then fun w F4 H4 e4 k5 wv rw' =>
          hr' W σ F4 H4 u wv b w Q e4.g ((ru.ext e3.f e3.h).ext e4.f e4.h) rw' k5))))

/-! ### arguments, displays -/
def aNil : Rho → R (List PD) := fun _ => .ok []
def aCons (ga : Rho → R PD) (gr : Rho → R (List PD)) : Rho → R (List PD) := fun ρ => (ga ρ).bind fun a => (gr ρ).bind fun l => .ok (a :: l)
variable {tr : TA} {gr : Rho → R (List PD)}
theorem ta_nil : TDa K W tNil aNil := fun F0 H0 F H σ ρ Q S q => q.ok S.same _ .nil
theorem ta_cons (ha : TDe K W ta ga) (hr : TDa K W tr gr) : TDa K W (tCons ta tr) (aCons ga gr) := fun F0 H0 F H σ ρ Q S q =>
  ha F0 H0 F H σ ρ _ S (q.then fun a F1 H1 e1 k1 v rv => hr F0 H0 F1 H1 σ ρ _ (S.go e1) (k1.then fun l F2 H2 e2 k2 vs rs => k2.ok e2.g _ (.cons (rv.mono e2.f) rs)))
theorem tq_nil : TDq K W tNil aNil := fun F0 H0 F H σ ρ Q S q => q.ok S.same _ .nil
theorem tq_cons (ha : TDr K W ta ga) (hr : TDq K W tr gr) : TDq K W (tCons ta tr) (aCons ga gr) := fun F0 H0 F H σ ρ Q S q =>
  ha F0 H0 F H σ ρ _ S (q.then fun a F1 H1 e1 k1 v rv => hr F0 H0 F1 H1 σ ρ _ (S.go e1) (k1.then fun l F2 H2 e2 k2 vs rs => k2.ok e2.g _ (.cons (rv.ext e2.f e2.h) rs)))
def eTup (gr : Rho → R (List PD)) : Rho → R PD := fun ρ => (gr ρ).bind fun l => if l.length ≤ sizeLine then .ok (.tuple l) else .bad
def oLst (gr : Rho → R (List PD)) : Rho → R PD := fun ρ => (gr ρ).bind fun l => if l.length ≤ sizeLine then .ok (.list l) else .bad
theorem td_tup (hr : TDa K W tr gr) : TDe K W (tTup tr) (eTup gr) := fun F0 H0 F H σ ρ Q S q =>
  hr F0 H0 F H σ ρ _ S (q.then fun l F1 H1 e1 k1 vs rs => by
    by_cases hl : l.length ≤ sizeLine
    · rw [if_pos hl] at k1
      refine ⟨by rw [rs.length]; exact hl, fun p hp => ?_⟩
      have e2 := Ext.new (o := .tup vs) e1.g hp
      exact k1 _ _ e2 _ (.tup (SqT.of upd_same) (rs.mono e2.f))
    · rw [if_neg hl] at k1
      exact k1.elim)
theorem to_lst (hr : TDa K W tr gr) : TDo K W (tLst tr) (oLst gr) := fun F0 H0 F H σ ρ Q S q =>
  hr F0 H0 F H σ ρ _ S (q.then fun l F1 H1 e1 k1 vs rs => by
    by_cases hl : l.length ≤ sizeLine
    · rw [if_pos hl] at k1
      refine ⟨by rw [rs.length]; exact hl, fun p hp => ?_⟩
      have e2 := Ext.own (o := .lst vs) e1.g hp
      exact k1 _ _ e2 p (e1.h.free hp) (e1.g.free hp) ⟨vs, upd_same, rs⟩
    · rw [if_neg hl] at k1
      exact k1.elim)
end

/-! ### statements -/
inductive SR where
  | nx (ρ : Rho)
  | rt (s : Sl)
  | bk (ρ : Rho)
  | ct (ρ : Rho)
  | exc (c : Ec)
  | bad
def SR.seq (a : SR) (k : Rho → SR) : SR := match a with
  | .nx ρ => k ρ
  | s => s
def SR.of {α : Type} (r : R α) (k : α → SR) : SR := match r with
  | .ok a => k a
  | .exc c => .exc c
  | .bad => .bad
def RetQ (K : PySem.W.Frag) (F0 H0 : Hp) (Q : VK) : Sl → Prop
  | .d x => ∀ v F H, Ext F0 H0 F H → Dp K F v x → Q v H
  | .o x => ∀ p F H, Ext F0 H0 F H → H0 p = none → F p = none → OwnAt K F H p x → Q (.ref p) H
  | .l _ => False
def FinS (K : PySem.W.Frag) (W : WX) (F0 H0 : Hp) (D : Ends) : SR → Prop
  | .nx ρ => ∀ σ F H, StR K F0 H0 F H σ ρ → D.nx σ H
  | .bk ρ => ∀ σ F H, StR K F0 H0 F H σ ρ → D.bk σ H
  | .ct ρ => ∀ σ F H, StR K F0 H0 F H σ ρ → D.ct σ H
  | .rt s => RetQ K F0 H0 D.rt s
  | .exc c => ∀ cls d σ F H, Ext F0 H0 F H → ExR K c cls d H → W cls d σ H
  | .bad => False
def TDS (K : PySem.W.Frag) (W : WX) (t : TS) (s : Rho → SR) : Prop := ∀ (F0 H0 F H : Hp) (σ : L2.St) (ρ : Rho) (D : Ends), StR K F0 H0 F H σ ρ → FinS K W F0 H0 D (s ρ) → t D σ H
section
variable {K : PySem.W.Frag} {W : WX} {F0 H0 F H : Hp} {D D' : Ends} {σ : L2.St} {ρ : Rho}
theorem FinS.of {α : Type} {r : R α} {k : α → SR} {P : α → Hp → Hp → Prop} (b : Ext F0 H0 F H) (h : FinS K W F0 H0 D (SR.of r k)) (f : ∀ x F1 H1, Ext F H F1 H1 → FinS K W F0 H0 D (k x) → P x F1 H1) : Fin K W σ F H r P := by
  cases r with
  | ok x => exact fun F1 H1 e => f x F1 H1 e h
  | exc c => exact fun cls d F1 H1 e q => h cls d σ F1 H1 (b.trans e) q
  | bad => exact h
/-- the base put to where one stands -/
theorem FinS.rebase {s : SR} (b : Ext F0 H0 F H) (h : FinS K W F0 H0 D s) : FinS K W F H0 D s := by
  cases s with
  | nx ρ => exact fun σ F1 H1 S => h σ F1 H1 (S.unbase b)
  | bk ρ => exact fun σ F1 H1 S => h σ F1 H1 (S.unbase b)
  | ct ρ => exact fun σ F1 H1 S => h σ F1 H1 (S.unbase b)
  | rt s =>
    cases s with
    | d x => exact fun v F1 H1 e q => h v F1 H1 (b.base e) q
    | o x => exact fun v F1 H1 e q1 q2 q3 => h v F1 H1 (b.base e) q1 q2 q3
    | l x => exact h
  | exc c => exact fun cls d σ F1 H1 e q => h cls d σ F1 H1 (b.base e) q
  | bad => exact h
theorem SR.seq_fin {s : SR} {k : Rho → SR} (h : FinS K W F0 H0 D (s.seq k)) (hn : ∀ ρ σ F H, StR K F0 H0 F H σ ρ → FinS K W F0 H0 D (k ρ) → D'.nx σ H) (e1 : D'.rt = D.rt) (e2 : D'.bk = D.bk) (e3 : D'.ct = D.ct) : FinS K W F0 H0 D' s := by
  cases s with
  | nx ρ => exact fun σ F H S => hn ρ σ F H S h
  | bk ρ => exact fun σ F H S => by rw [e2]; exact h σ F H S
  | ct ρ => exact fun σ F H S => by rw [e3]; exact h σ F H S
  | rt s =>
    show RetQ K F0 H0 D'.rt s
    rw [e1]; exact h
  | exc c => exact h
  | bad => exact h
end
section
variable {K : PySem.W.Frag} {W : WX} {t u : TS} {s s' : Rho → SR} {te : TE} {g : Rho → R PD} {tt : TT} {gt : Rho → R Bool}
def sNext : Rho → SR := .nx
theorem ds_next : TDS K W tNext sNext := fun F0 H0 F H σ ρ D S q => q σ F H S
def sSeq (s s' : Rho → SR) : Rho → SR := fun ρ => (s ρ).seq s'
theorem ds_seq (h : TDS K W t s) (h' : TDS K W u s') : TDS K W (tSeq t u) (sSeq s s') := fun F0 H0 F H σ ρ D S q =>
  h F0 H0 F H σ ρ _ S (SR.seq_fin (D' := { D with nx := u D }) q (fun ρ1 σ1 F1 H1 S1 q1 => h' F0 H0 F1 H1 σ1 ρ1 D S1 q1) rfl rfl rfl)
def sBreak : Rho → SR := .bk
def sCont : Rho → SR := .ct
theorem ds_break : TDS K W tBreak sBreak := fun F0 H0 F H σ ρ D S q => q σ F H S
theorem ds_cont : TDS K W tCont sCont := fun F0 H0 F H σ ρ D S q => q σ F H S
theorem ds_never : TDS K W tNever (fun _ => .bad) := fun F0 H0 F H σ ρ D S q => q
/-- ahead of a statement lists become data -/
def sFrz (is : List Nat) (s : Rho → SR) : Rho → SR := fun ρ => s (is.foldl (fun ρ i => frz1 i ρ) ρ)
theorem ds_frz (is : List Nat) (h : TDS K W t s) : TDS K W t (sFrz is s) := by
  unfold sFrz
  induction is with
  | nil => exact h
  | cons i is ih =>
    intro F0 H0 F H σ ρ D S q
    obtain ⟨F', e, _, S'⟩ := S.frz1 i
    exact ih F0 H0 F' H σ _ D S' q
def sRet (g : Rho → R PD) : Rho → SR := fun ρ => SR.of (g ρ) fun x => .rt (.d x)
def sRetO (g : Rho → R PD) : Rho → SR := fun ρ => SR.of (g ρ) fun x => .rt (.o x)
/-- return of a name -/
def sRetV (i : Nat) : Rho → SR := fun ρ => match ρ[i]? with
  | some (some s) => .rt s
  | _ => .bad
theorem ds_ret (h : TDe K W te g) : TDS K W (tRet te) (sRet g) := fun F0 H0 F H σ ρ D S q =>
  h F0 H0 F H σ ρ _ S (q.of S.ext fun x F1 H1 e k v r => k v F1 H1 (S.ext.trans e) r)
theorem ds_retO (h : TDo K W te g) : TDS K W (tRet te) (sRetO g) := fun F0 H0 F H σ ρ D S q =>
  h F0 H0 F H σ ρ _ S (q.of S.ext fun x F1 H1 e k p hp hf ho => k p F1 H1 (S.ext.trans e) (S.ext.h.free hp) hf ho)
theorem ds_retV (i : Nat) : TDS K W (tRet (tVar i)) (sRetV i) := fun F0 H0 F H σ ρ D S q => by
  unfold sRetV at q
  split at q
  · rename_i s e
    cases s with
    | d x =>
      obtain ⟨v, a, b⟩ := S.dat i x e
      exact ⟨v, a, q v F H S.ext b⟩
    | o x =>
      obtain ⟨p, a, b, c, d⟩ := S.own i x e
      exact ⟨_, a, q p F H S.ext b c d⟩
    | l x => exact q.elim
  · exact q.elim
theorem ds_retN : TDS K W tRetN (fun _ => .rt (.d .none)) := fun F0 H0 F H σ ρ D S q => q .non F H S.ext .non
def sIf (gt : Rho → R Bool) (s s' : Rho → SR) : Rho → SR := fun ρ => SR.of (gt ρ) fun c => if c = true then s ρ else s' ρ
theorem ds_if (ht : TDt K W tt gt) (h : TDS K W t s) (h' : TDS K W u s') : TDS K W (tIfS tt t u) (sIf gt s s') := fun F0 H0 F H σ ρ D S q =>
  ht F0 H0 F H σ ρ _ S (q.of S.ext fun c F1 H1 e k => by
    cases c with
    | true => exact h F0 H0 F1 H1 σ ρ D (S.go e) k
    | false => exact h' F0 H0 F1 H1 σ ρ D (S.go e) k)
def sDrop (g : Rho → R PD) : Rho → SR := fun ρ => SR.of (g ρ) fun _ => .nx ρ
theorem ds_drop (h : TDe K W te g) : TDS K W (tDrop te) (sDrop g) := fun F0 H0 F H σ ρ D S q =>
  h F0 H0 F H σ ρ _ S (q.of S.ext fun x F1 H1 e k v r => k σ F1 H1 (S.go e))

/-! ### targets -/
/-- a target: names (of the slots vs) and tuples of them -/
def TDg (K : PySem.W.Frag) (vs : List Nat) (g : TG) (a : Rho → PD → R Rho) : Prop := ∀ (F0 H0 F H : Hp) (σ : L2.St) (ρ : Rho) (v : V) (x : PD) (Q : L2.St → Hp → Prop), StR K F0 H0 F H σ ρ → Dp K F v x →
  (match a ρ x with | .ok ρ' => ∀ σ', StR K F0 H0 F H σ' ρ' → wipe σ' vs = wipe σ vs → Q σ' H | _ => False) → g v σ H Q
def TDgs (K : PySem.W.Frag) (vs : List Nat) (g : TGs) (a : Rho → List PD → R Rho) : Prop := ∀ (F0 H0 F H : Hp) (σ : L2.St) (ρ : Rho) (us : List V) (xs : List PD) (Q : L2.St → Hp → Prop), StR K F0 H0 F H σ ρ → DpAll K F us xs →
  (match a ρ xs with | .ok ρ' => ∀ σ', StR K F0 H0 F H σ' ρ' → wipe σ' vs = wipe σ vs → Q σ' H | _ => False) → g us σ H Q
theorem wipe_set {σ : L2.St} {i : Nat} {x : Option V} : ∀ {vs : List Nat}, i ∈ vs → wipe (σ.set i x) vs = wipe σ vs
  | [], h => by cases h
  | v :: vs, h => by
    unfold wipe
    by_cases hm : i ∈ vs
    · rw [wipe_set hm]
    · have e : v = i := by
        rcases List.mem_cons.mp h with z | z
        · exact z.symm
        · exact absurd z hm
      subst e
      have go : ∀ {us : List Nat}, v ∉ us → wipe (σ.set v x) us = (wipe σ us).set v x := by
        intro us
        induction us with
        | nil => intro _; rfl
        | cons u us ih =>
          intro hn
          simp only [List.mem_cons, not_or] at hn
          unfold wipe
          rw [ih hn.2, List.set_comm _ _ hn.1]
      rw [go hm, List.set_set]
def aName (i : Nat) : Rho → PD → R Rho := fun ρ x => .ok (ρ.set i (some (.d x)))
theorem dg_name (i : Nat) {vs : List Nat} (h : i ∈ vs := by decide) : TDg K vs (gName i) (aName i) := fun F0 H0 F H σ ρ v x Q S r q => q _ (S.setD r) (wipe_set h)
def asNil : Rho → List PD → R Rho := fun ρ xs => match xs with
  | [] => .ok ρ
  | _ => .bad
def asCons (a : Rho → PD → R Rho) (b : Rho → List PD → R Rho) : Rho → List PD → R Rho := fun ρ xs => match xs with
  | x :: xs => (a ρ x).bind fun ρ' => b ρ' xs
  | [] => .bad
theorem dgs_nil {vs : List Nat} : TDgs K vs gNil asNil := fun F0 H0 F H σ ρ us xs Q S r q => by
  cases r with
  | nil => exact ⟨rfl, q σ S rfl⟩
  | cons _ _ => exact q.elim
theorem dgs_cons {vs : List Nat} {gx : TG} {gs : TGs} {a : Rho → PD → R Rho} {b : Rho → List PD → R Rho} (h : TDg K vs gx a) (hs : TDgs K vs gs b) : TDgs K vs (gCons gx gs) (asCons a b) := fun F0 H0 F H σ ρ us xs Q S r q => by
  cases r with
  | nil => exact q.elim
  | cons r1 r2 =>
    refine ⟨_, _, rfl, h F0 H0 F H σ ρ _ _ _ S r1 ?_⟩
    rename_i v us x xs
    have q : (match (a ρ x).bind fun ρ' => b ρ' xs with | .ok ρ' => ∀ σ', StR K F0 H0 F H σ' ρ' → wipe σ' vs = wipe σ vs → Q σ' H | _ => False) := q
    cases e : a ρ x with
    | ok ρ1 =>
      rw [e] at q
      intro σ1 S1 w1
      refine hs F0 H0 F H σ1 ρ1 _ _ _ S1 r2 ?_
      have q : (match b ρ1 xs with | .ok ρ' => ∀ σ', StR K F0 H0 F H σ' ρ' → wipe σ' vs = wipe σ vs → Q σ' H | _ => False) := q
      cases e2 : b ρ1 xs with
      | ok ρ2 => rw [e2] at q; exact fun σ2 S2 w2 => q σ2 S2 (w2.trans w1)
      | exc c => rw [e2] at q; exact q.elim
      | bad => rw [e2] at q; exact q.elim
    | exc c => rw [e] at q; exact q.elim
    | bad => rw [e] at q; exact q.elim
def aTup (n : Nat) (b : Rho → List PD → R Rho) : Rho → PD → R Rho := fun ρ x => match x with
  | .tuple xs => if xs.length = n then b ρ xs else .bad
  | _ => .bad
theorem dg_tup {vs : List Nat} {n : Nat} {gs : TGs} {b : Rho → List PD → R Rho} (hs : TDgs K vs gs b) : TDg K vs (gTup K n gs) (aTup n b) := fun F0 H0 F H σ ρ v x Q S r q => by
  unfold aTup at q
  cases r with
  | tup s a =>
    simp only at q
    split at q
    · rename_i e
      split at e
      · rename_i hl
        refine ⟨_, _, rfl, seqT S.same s, by rw [a.length]; exact hl, hs F0 H0 F H σ ρ _ _ _ S a ?_⟩
        rw [e]; exact q
      · cases e
    · exact q.elim
  | _ => exact q.elim
/-- target = value -/
def SR.ofT : R Rho → SR
  | .ok ρ => .nx ρ
  | _ => .bad
def sAsg (g : Rho → R PD) (a : Rho → PD → R Rho) : Rho → SR := fun ρ => SR.of (g ρ) fun x => SR.ofT (a ρ x)
theorem ds_asg {vs : List Nat} {gx : TG} {a : Rho → PD → R Rho} (h : TDe K W te g) (hg : TDg K vs gx a) : TDS K W (tAsg te gx) (sAsg g a) := fun F0 H0 F H σ ρ D S q =>
  h F0 H0 F H σ ρ _ S (q.of S.ext fun x F1 H1 e k v r => hg F0 H0 F1 H1 σ ρ v x _ (S.go e) r (by
    have k : FinS K W F0 H0 D (SR.ofT (a ρ x)) := k
    cases e : a ρ x with
    | ok ρ1 => rw [e] at k; exact fun σ1 S1 _ => k σ1 F1 H1 S1
    | exc c => rw [e] at k; exact k
    | bad => rw [e] at k; exact k))
/-- name = a new list, a new dict -/
def sSetO (i : Nat) (g : Rho → R PD) : Rho → SR := fun ρ => SR.of (g ρ) fun x => .nx (ρ.set i (some (.o x)))
/-- name = data -/
def sSet (i : Nat) (g : Rho → R PD) : Rho → SR := fun ρ => SR.of (g ρ) fun x => .nx (ρ.set i (some (.d x)))
theorem ds_set (i : Nat) (h : TDe K W te g) : TDS K W (tAsg te (gName i)) (sSet i g) := fun F0 H0 F H σ ρ D S q =>
  h F0 H0 F H σ ρ _ S (q.of S.ext fun x F1 H1 e k v r => k _ F1 H1 ((S.go e).setD r))
theorem ds_setO (i : Nat) (h : TDo K W te g) : TDS K W (tAsg te (gName i)) (sSetO i g) := fun F0 H0 F H σ ρ D S q =>
  h F0 H0 F H σ ρ _ S (q.of S.ext fun x F1 H1 e k p hp hf ho => k _ F1 H1 (S.setN e hp hf ho))
end
end DL
namespace DL
open PySem PySem.Spec PyProof.Rows L2

/-! ### what is walked -/
def ItR (K : PySem.W.Frag) (F : Hp) (ds : List PD) (J : It) : Prop := ∀ (i : Nat) (F1 H1 : Hp), Same F F1 → Same F1 H1 →
  (∀ d, ds[i]? = some d → J.go i H1 ∧ ∀ x H2, J.yld i H1 x H2 → ∃ F2, Ext F1 H1 F2 H2 ∧ Dp K F2 x d) ∧ (ds.length ≤ i → J.stop i H1)
def TDi (K : PySem.W.Frag) (W : WX) (wi : TI) (gi : Rho → R (List PD)) : Prop := ∀ (F0 H0 F H : Hp) (σ : L2.St) (ρ : Rho) (Q : It → Hp → Prop), StR K F0 H0 F H σ ρ → Fin K W σ F H (gi ρ) (fun ds F' H' => ∀ J, ItR K F' ds J → Q J H') → wi σ H Q
theorem itr_list {K : PySem.W.Frag} {F : Hp} {a : Addr} {vs : List V} {ds : List PD} (s : SqL K F a vs) (r : DpAll K F vs ds) : ItR K F ds (Itl K a) := fun i F1 H1 e1 e2 => by
  have s1 := seqL (e1.trans e2) s
  refine ⟨fun d hd => ?_, fun hl => ⟨vs, s1, by rw [r.length]; exact hl⟩⟩
  obtain ⟨v, hv, rv⟩ := r.get' hd
  refine ⟨⟨vs, v, s1, hv⟩, fun x H2 y => ?_⟩
  obtain ⟨rfl, y⟩ := y
  have e := y vs s1
  rw [hv] at e; cases e
  exact ⟨F1, Ext.refl e2, rv.mono e1⟩
theorem itr_tup {K : PySem.W.Frag} {F : Hp} {a : Addr} {vs : List V} {ds : List PD} (s : SqT K F a vs) (r : DpAll K F vs ds) : ItR K F ds (Itt K a) := fun i F1 H1 e1 e2 => by
  have s1 := seqT (e1.trans e2) s
  refine ⟨fun d hd => ?_, fun hl => ⟨vs, s1, by rw [r.length]; exact hl⟩⟩
  obtain ⟨v, hv, rv⟩ := r.get' hd
  refine ⟨⟨vs, v, s1, hv⟩, fun x H2 y => ?_⟩
  obtain ⟨rfl, y⟩ := y
  have e := y vs s1
  rw [hv] at e; cases e
  exact ⟨F1, Ext.refl e2, rv.mono e1⟩
def signs (x : Str) : List PD := x.cps.toList.map fun c => .str ⟨#[c]⟩
theorem itr_str {K : PySem.W.Frag} {F : Hp} {x : Str} : ItR K F (signs x) (Its x) := fun i F1 H1 e1 e2 => by
  refine ⟨fun d hd => ?_, fun hl => by simpa [signs, Its] using hl⟩
  unfold signs at hd
  rw [List.getElem?_map] at hd
  cases e : x.cps.toList[i]? with
  | none => rw [e] at hd; cases hd
  | some c =>
    rw [e] at hd
    have hd : PyData.str ⟨#[c]⟩ = d := Option.some.inj hd
    subst hd
    have hc : x.cps[i]? = some c := by simpa using e
    refine ⟨(Array.getElem?_eq_some_iff.mp hc).1, fun v H2 y => ?_⟩
    obtain ⟨rfl, c', h', rfl⟩ := y
    rw [hc] at h'; cases h'
    exact ⟨F1, Ext.refl e2, .str _⟩
def rngD (lo : Int) (n : Nat) : List PD := (List.range n).map fun i => .int (lo + (i : Nat))
theorem itr_rng {K : PySem.W.Frag} {F : Hp} {lo : Int} {n : Nat} : ItR K F (rngD lo n) (Itr lo n) := fun i F1 H1 e1 e2 => by
  refine ⟨fun d hd => ?_, fun hl => by simpa [rngD, Itr] using hl⟩
  unfold rngD at hd
  rw [List.getElem?_map] at hd
  by_cases hn : i < n
  · rw [List.getElem?_range hn] at hd
    cases hd
    refine ⟨hn, fun v H2 y => ?_⟩
    obtain ⟨rfl, rfl⟩ := y
    exact ⟨F1, Ext.refl e2, .int _⟩
  · rw [List.getElem?_eq_none (by simpa using hn)] at hd; cases hd
def enumD (ds : List PD) : List PD := ds.zipIdx.map fun p => .tuple [.int (p.2 : Nat), p.1]
theorem enum_at {ds : List PD} {i : Nat} {d : PD} (h : (enumD ds)[i]? = some d) : ∃ x, ds[i]? = some x ∧ d = .tuple [.int (i : Nat), x] := by
  unfold enumD at h
  rw [List.getElem?_map, List.getElem?_zipIdx] at h
  cases e : ds[i]? with
  | none => rw [e] at h; cases h
  | some x =>
    rw [e] at h
    refine ⟨x, rfl, ?_⟩
    have h := (Option.some.inj h).symm
    simpa using h
theorem itr_enum {K : PySem.W.Frag} {F : Hp} {a : Addr} {vs : List V} {ds : List PD} (s : SqL K F a vs) (r : DpAll K F vs ds) : ItR K F (enumD ds) (Ite K a) := fun i F1 H1 e1 e2 => by
  have s1 := seqL (e1.trans e2) s
  refine ⟨fun d hd => ?_, fun hl => ⟨vs, s1, by rw [r.length]; simpa [enumD] using hl⟩⟩
  obtain ⟨x, hx, rfl⟩ := enum_at hd
  obtain ⟨v, hv, rv⟩ := r.get' hx
  refine ⟨⟨vs, v, s1, hv⟩, fun x' H2 y => ?_⟩
  obtain ⟨T, u, rfl, hT, rfl, y⟩ := y
  have e := y vs s1
  rw [hv] at e; cases e
  have ex := Ext.new (o := .tup [.int (i : Nat), v]) e2 hT
  exact ⟨_, ex, .tup (SqT.of upd_same) (.cons (.int _) (.cons (rv.mono (e1.trans ex.f)) .nil))⟩
def zipD (ds es : List PD) : List PD := (ds.zip es).map fun p => .tuple [p.1, p.2]
theorem itr_zip {K : PySem.W.Frag} {F : Hp} {a b : Addr} {vs us : List V} {ds es : List PD} (s : SqL K F a vs) (r : DpAll K F vs ds) (s' : SqL K F b us) (r' : DpAll K F us es) : ItR K F (zipD ds es) (Itz K a b) := fun i F1 H1 e1 e2 => by
  have s1 := seqL (e1.trans e2) s
  have s2 := seqL (e1.trans e2) s'
  refine ⟨fun d hd => ?_, fun hl => ⟨vs, us, s1, s2, ?_⟩⟩
  · unfold zipD at hd
    rw [List.getElem?_map] at hd
    cases e : (ds.zip es)[i]? with
    | none => rw [e] at hd; cases hd
    | some p =>
      rw [e] at hd
      have hd : PyData.tuple [p.1, p.2] = d := Option.some.inj hd
      subst hd
      obtain ⟨h1, h2⟩ := List.getElem?_zip_eq_some.mp e
      obtain ⟨v, hv, rv⟩ := r.get' h1
      obtain ⟨u, hu, ru⟩ := r'.get' h2
      refine ⟨⟨vs, us, v, u, s1, s2, hv, hu⟩, fun x' H2 y => ?_⟩
      obtain ⟨T, v', u', rfl, hT, rfl, y1, y2⟩ := y
      have z1 := y1 vs s1
      have z2 := y2 us s2
      rw [hv] at z1; cases z1
      rw [hu] at z2; cases z2
      have ex := Ext.new (o := .tup [v, u]) e2 hT
      exact ⟨_, ex, .tup (SqT.of upd_same) (.cons (rv.mono (e1.trans ex.f)) (.cons (ru.mono (e1.trans ex.f)) .nil))⟩
  · rw [r.length, r'.length]
    unfold zipD at hl
    rw [List.length_map, List.length_zip] at hl
    omega
theorem itr_rev {K : PySem.W.Frag} {F : Hp} {a : Addr} {vs : List V} {ds : List PD} (s : SqL K F a vs) (r : DpAll K F vs ds) : ItR K F ds.reverse (Itv K a vs.length) := fun i F1 H1 e1 e2 => by
  have s1 := seqL (e1.trans e2) s
  refine ⟨fun d hd => ?_, fun hl => by have := r.length; simp [Itv] at hl ⊢; omega⟩
  have hi : i < ds.length := by simpa using (List.getElem?_eq_some_iff.mp hd).1
  rw [List.getElem?_reverse hi] at hd
  obtain ⟨v, hv, rv⟩ := r.get' hd
  rw [← r.length] at hv
  refine ⟨⟨by rw [r.length]; exact hi, vs, v, s1, hv⟩, fun x H2 y => ?_⟩
  obtain ⟨rfl, y⟩ := y
  have e := y vs s1
  rw [hv] at e; cases e
  exact ⟨F1, Ext.refl e2, rv.mono e1⟩

/-- a list, a tuple or a text, by what it is -/
def iSeq (K : PySem.W.Frag) (tl : TE) : TI := fun σ H R => tl σ H fun x H1 => (∃ a, x = .ref a ∧ (∃ xs, SqL K H1 a xs) ∧ R (Itl K a) H1) ∨ (∃ a, x = .ref a ∧ (∃ xs, SqT K H1 a xs) ∧ R (Itt K a) H1) ∨ ∃ z, x = .str z ∧ R (Its z) H1
theorem pi_seq {X : Cx} {tg l : Expr} {tl : TE} (hl : PE X l tl) : PI X tg l (iSeq X.K tl) := by
  refine ⟨fun pn s σ H0 R I h => ?_⟩
  refine thn (hl.run pn s σ H0 _ I h) fun v t1 ⟨x, G1, J1, k1, q1⟩ => ?_
  rcases q1 with ⟨a, e, ⟨xs, hq⟩, q⟩ | ⟨a, e, ⟨xs, hq⟩, q⟩ | ⟨z, ex, q⟩
  · subst e
    cases k1
    obtain ⟨ys, ry, p, hle⟩ := J1.list hq
    refine wpAny_pyIter_list p.isList ?_
    refine ⟨t1.heap.objs.size, [t1.heap.objs.size], _, _, G1, rfl, J1.kept (t' := t1.toks) fun b o e => Heap.get?_push_of_some _ e, turn_list a _, ⟨_, Heap.get?_push_size _ rfl, rfl, rfl⟩, fun b hbm => ?_, q⟩
    have e : b = t1.heap.objs.size := by simpa using hbm
    subst e
    exact J1.fpOk (Nat.le_refl _) (J1.hok.fresh (Nat.le_refl _))
  · subst e
    cases k1
    obtain ⟨ys, ry, p, hle⟩ := J1.tuple hq
    refine wpAny_pyIter_tuple (show t1.heap.IsTuple a ys.toArray from p) ?_
    refine ⟨t1.heap.objs.size, [t1.heap.objs.size], _, _, G1, rfl, J1.kept (t' := t1.toks) fun b o e => Heap.get?_push_of_some _ e, turn_tuple a _, ⟨_, Heap.get?_push_size _ rfl, rfl, rfl⟩, fun b hbm => ?_, q⟩
    have e : b = t1.heap.objs.size := by simpa using hbm
    subst e
    exact J1.fpOk (Nat.le_refl _) (J1.hok.fresh (Nat.le_refl _))
  · subst ex
    obtain ⟨t, rfl⟩ := k1
    cases ha : z.cps.all (· < 128)
    · exact wpAny_pyIter_wide ha (pi_one (tk := t1.toks) J1 _ (turn_str _ z t "str_iterator" (.inr rfl)) ⟨_, Heap.get?_push_size _ rfl, rfl, rfl⟩ q)
    · exact wpAny_pyIter_ascii ha (pi_one (tk := t1.toks) J1 _ (turn_str _ z t "str_ascii_iterator" (.inl rfl)) ⟨_, Heap.get?_push_size _ rfl, rfl, rfl⟩ q)
def itemsOf : PD → R (List PD)
  | .list ds => .ok ds
  | .tuple ds => .ok ds
  | .str x => .ok (signs x)
  | _ => .bad
def iItems (g : Rho → R PD) : Rho → R (List PD) := fun ρ => (g ρ).bind itemsOf
section
variable {K : PySem.W.Frag} {W : WX} {t : TE} {g : Rho → R PD} {ta : TA} {ga : Rho → R (List PD)}
theorem di_seq (h : TDe K W t g) : TDi K W (iSeq K t) (iItems g) := fun F0 H0 F H σ ρ Q S q =>
  h F0 H0 F H σ ρ _ S (q.then fun a F1 H1 e1 k1 v rv => by
    cases rv with
    | lst s r => exact .inl ⟨_, rfl, ⟨_, .inl (rdM e1.g s)⟩, Fin.okk (x := _) K W σ e1.g k1 _ (itr_list (.inl s) r)⟩
    | tup s r => exact .inr (.inl ⟨_, rfl, ⟨_, seqT e1.g s⟩, Fin.okk (x := _) K W σ e1.g k1 _ (itr_tup s r)⟩)
    | str x => exact .inr (.inr ⟨_, rfl, Fin.okk (x := _) K W σ e1.g k1 _ itr_str⟩)
    | _ => exact k1.elim)
def small62 (i : Int) : Bool := decide (-(2 ^ 62) ≤ i) && decide (i < 2 ^ 62)
theorem small62_ok {i : Int} (h : small62 i = true) : -(2 ^ 62) ≤ i ∧ i < 2 ^ 62 := by
  unfold small62 at h
  rw [Bool.and_eq_true] at h
  exact ⟨of_decide_eq_true h.1, of_decide_eq_true h.2⟩
def rng1 : List PD → R (List PD)
  | [.int j] => if small62 j = true then .ok (rngD 0 j.toNat) else .bad
  | _ => .bad
def rng2 : List PD → R (List PD)
  | [.int i, .int j] => if small62 i = true ∧ small62 j = true then .ok (rngD i (j - i).toNat) else .bad
  | _ => .bad
def iRng1D (ga : Rho → R (List PD)) : Rho → R (List PD) := fun ρ => (ga ρ).bind rng1
def iRng2D (ga : Rho → R (List PD)) : Rho → R (List PD) := fun ρ => (ga ρ).bind rng2
theorem di_rng1 (h : TDq K W ta ga) : TDi K W (iRng1 ta) (iRng1D ga) := fun F0 H0 F H σ ρ Q S q =>
  h F0 H0 F H σ ρ _ S (q.then fun l F1 H1 e1 k1 vs rs => by
    unfold rng1 at k1
    split at k1
    · split at k1
      · rename_i hs
        obtain ⟨h1, h2⟩ := small62_ok hs
        cases rs with
        | cons r1 r2 =>
          cases r2
          exact ⟨_, by rw [r1.int], h1, h2, Fin.okk (x := _) K W σ e1.g k1 _ itr_rng⟩
      · exact k1.elim
    · exact k1.elim)
theorem di_rng2 (h : TDq K W ta ga) : TDi K W (iRng2 ta) (iRng2D ga) := fun F0 H0 F H σ ρ Q S q =>
  h F0 H0 F H σ ρ _ S (q.then fun l F1 H1 e1 k1 vs rs => by
    unfold rng2 at k1
    split at k1
    · split at k1
      · rename_i hs
        obtain ⟨h1, h2⟩ := small62_ok hs.1
        obtain ⟨h3, h4⟩ := small62_ok hs.2
        cases rs with
        | cons r1 r2 =>
          cases r2 with
          | cons r2 r3 =>
            cases r3
            exact ⟨_, _, by rw [r1.int, r2.int], ⟨h1, h2, h3, h4⟩, Fin.okk (x := _) K W σ e1.g k1 _ itr_rng⟩
      · exact k1.elim
    · exact k1.elim)
def enumO : List PD → R (List PD)
  | [.list ds] => .ok (enumD ds)
  | _ => .bad
def iEnumD (ga : Rho → R (List PD)) : Rho → R (List PD) := fun ρ => (ga ρ).bind enumO
theorem di_enum (h : TDa K W ta ga) : TDi K W (iEnum K ta) (iEnumD ga) := fun F0 H0 F H σ ρ Q S q =>
  h F0 H0 F H σ ρ _ S (q.then fun l F1 H1 e1 k1 vs rs => by
    unfold enumO at k1
    split at k1
    · cases rs with
      | cons r1 r2 =>
        cases r2
        cases r1 with
        | lst s r => exact ⟨_, _, rfl, .inl (rdM e1.g s), Fin.okk (x := _) K W σ e1.g k1 _ (itr_enum (.inl s) r)⟩
    · exact k1.elim)
def zipO : List PD → R (List PD)
  | [.list ds, .list es] => .ok (zipD ds es)
  | _ => .bad
def iZipD (ga : Rho → R (List PD)) : Rho → R (List PD) := fun ρ => (ga ρ).bind zipO
theorem di_zip (h : TDa K W ta ga) : TDi K W (iZip K ta) (iZipD ga) := fun F0 H0 F H σ ρ Q S q =>
  h F0 H0 F H σ ρ _ S (q.then fun l F1 H1 e1 k1 vs rs => by
    unfold zipO at k1
    split at k1
    · cases rs with
      | cons r1 r2 =>
        cases r2 with
        | cons r2 r3 =>
          cases r3
          cases r1 with
          | lst s r =>
            cases r2 with
            | lst s' r' => exact ⟨_, _, _, _, rfl, .inl (rdM e1.g s), .inl (rdM e1.g s'), Fin.okk (x := _) K W σ e1.g k1 _ (itr_zip (.inl s) r (.inl s') r')⟩
    · exact k1.elim)
def revO : List PD → R (List PD)
  | [.list ds] => .ok ds.reverse
  | _ => .bad
def iRevD (ga : Rho → R (List PD)) : Rho → R (List PD) := fun ρ => (ga ρ).bind revO
theorem di_rev (h : TDa K W ta ga) : TDi K W (iRev K ta) (iRevD ga) := fun F0 H0 F H σ ρ Q S q =>
  h F0 H0 F H σ ρ _ S (q.then fun l F1 H1 e1 k1 vs rs => by
    unfold revO at k1
    split at k1
    · cases rs with
      | cons r1 r2 =>
        cases r2
        cases r1 with
        | lst s r => exact ⟨_, _, rfl, .inl (rdM e1.g s), Fin.okk (x := _) K W σ e1.g k1 _ (itr_rev (.inl s) r)⟩
    · exact k1.elim)
end

/-! ### for, while -/
def forD (a : Rho → PD → R Rho) (body : Rho → SR) : List PD → Rho → SR
  | [], ρ => .nx ρ
  | x :: xs, ρ => match a ρ x with
    | .ok ρ1 => (match body ρ1 with
      | .nx ρ2 => forD a body xs ρ2
      | .ct ρ2 => forD a body xs ρ2
      | .bk ρ2 => .nx ρ2
      | .rt s => .rt s
      | .exc c => .exc c
      | .bad => .bad)
    | _ => .bad
def sFor (gi : Rho → R (List PD)) (a : Rho → PD → R Rho) (body : Rho → SR) : Rho → SR := fun ρ => SR.of (gi ρ) fun ds => forD a body ds ρ
def whileD (c : Rho → R Bool) (body : Rho → SR) : Nat → Rho → SR
  | 0, _ => .bad
  | n + 1, ρ => SR.of (c ρ) fun b => if b = true then (match body ρ with
      | .nx ρ2 => whileD c body n ρ2
      | .ct ρ2 => whileD c body n ρ2
      | .bk ρ2 => .nx ρ2
      | .rt s => .rt s
      | .exc c => .exc c
      | .bad => .bad) else .nx ρ
def sWhile (n : Nat) (c : Rho → R Bool) (body : Rho → SR) : Rho → SR := fun ρ => whileD c body n ρ
section
variable {K : PySem.W.Frag} {W : WX}
theorem ds_for {vs : List Nat} {wi : TI} {gi : Rho → R (List PD)} {gx : TG} {a : Rho → PD → R Rho} {tb : TS} {body : Rho → SR} (hi : TDi K W wi gi) (hg : TDg K vs gx a) (hb : TDS K W tb body) : TDS K W (tFor wi gx tb) (sFor gi a body) := fun F0 H0 F H σ ρ D S q => by
  refine hi F0 H0 F H σ ρ _ S (q.of S.ext fun ds F1 H1 e1 k J hJ => ?_)
  have S1 := S.go e1
  refine ⟨fun i m σ H => m = ds.length - i ∧ ∃ F ρ, StR K F0 H0 F H σ ρ ∧ Same F1 F ∧ FinS K W F0 H0 D (forD a body (ds.drop i) ρ), ⟨_, rfl, F1, ρ, S1, Same.refl F1, k⟩, ?_⟩
  rintro i m σ2 H2 ⟨rfl, F2, ρ2, S2, e2, k2⟩
  cases hd : ds[i]? with
  | none =>
    have hl := List.getElem?_eq_none_iff.mp hd
    rw [List.drop_eq_nil_of_le hl] at k2
    exact .inl ⟨(hJ i F2 H2 e2 S2.same).2 hl, k2 σ2 F2 H2 S2⟩
  | some d =>
    have hl := (List.getElem?_eq_some_iff.mp hd).1
    rw [List.drop_eq_getElem_cons hl, (List.getElem?_eq_some_iff.mp hd).2] at k2
    obtain ⟨go, yl⟩ := (hJ i F2 H2 e2 S2.same).1 d hd
    refine .inr ⟨go, fun σ' H' => ∃ F ρ, StR K F0 H0 F H' σ' ρ ∧ Same F1 F ∧ FinS K W F0 H0 D (forD a body (ds.drop (i + 1)) ρ), fun σ' H' ⟨F', ρ', S', e', k'⟩ => ⟨_, by omega, rfl, F', ρ', S', e', k'⟩, fun x H3 y => ?_⟩
    obtain ⟨F3, e3, r3⟩ := yl x H3 y
    refine hg F0 H0 F3 H3 σ2 ρ2 x d _ (S2.go e3) r3 ?_
    unfold forD at k2
    cases ea : a ρ2 d with
    | ok ρ3 =>
      rw [ea] at k2
      intro σ3 S3 _
      have b3 := S3.ext
      refine hb F3 H0 F3 H3 σ3 ρ3 _ S3.rebase ?_
      simp only at k2
      cases eb : body ρ3 with
      | nx ρ4 =>
        rw [eb] at k2
        exact fun σ4 F4 H4 S4 => ⟨F4, ρ4, S4.unbase b3, (e2.trans e3.f).trans S4.ext.f, k2⟩
      | ct ρ4 =>
        rw [eb] at k2
        exact fun σ4 F4 H4 S4 => ⟨F4, ρ4, S4.unbase b3, (e2.trans e3.f).trans S4.ext.f, k2⟩
      | bk ρ4 =>
        rw [eb] at k2
        exact fun σ4 F4 H4 S4 => k2 σ4 F4 H4 (S4.unbase b3)
      | rt s =>
        rw [eb] at k2
        exact FinS.rebase (D := { D with nx := _, ct := _, bk := _ }) (s := .rt s) b3 k2
      | exc c =>
        rw [eb] at k2
        exact FinS.rebase (D := D) (s := .exc c) b3 k2
      | bad => rw [eb] at k2; exact k2
    | exc c => rw [ea] at k2; exact k2.elim
    | bad => rw [ea] at k2; exact k2.elim
theorem ds_while (n : Nat) {tt : TT} {c : Rho → R Bool} {tb : TS} {body : Rho → SR} (hc : TDt K W tt c) (hb : TDS K W tb body) : TDS K W (tWhile tt tb) (sWhile n c body) := fun F0 H0 F H σ ρ D S q => by
  refine ⟨fun m σ H => ∃ F ρ, StR K F0 H0 F H σ ρ ∧ FinS K W F0 H0 D (whileD c body m ρ), ⟨n, F, ρ, S, q⟩, ?_⟩
  rintro m σ2 H2 ⟨F2, ρ2, S2, k2⟩
  cases m with
  | zero => exact k2.elim
  | succ m =>
    unfold whileD at k2
    refine hc F0 H0 F2 H2 σ2 ρ2 _ S2 (k2.of S2.ext fun b F3 H3 e3 k3 => ?_)
    cases b with
    | false => exact k3 σ2 F3 H3 (S2.go e3)
    | true =>
      refine ⟨fun σ' H' => ∃ F ρ, StR K F0 H0 F H' σ' ρ ∧ FinS K W F0 H0 D (whileD c body m ρ), fun σ' H' h => ⟨m, Nat.lt_succ_self m, h⟩, ?_⟩
      refine hb F0 H0 F3 H3 σ2 ρ2 _ (S2.go e3) ?_
      simp only [if_true] at k3
      cases eb : body ρ2 with
      | nx ρ4 => rw [eb] at k3; exact fun σ4 F4 H4 S4 => ⟨F4, ρ4, S4, k3⟩
      | ct ρ4 => rw [eb] at k3; exact fun σ4 F4 H4 S4 => ⟨F4, ρ4, S4, k3⟩
      | bk ρ4 => rw [eb] at k3; exact fun σ4 F4 H4 S4 => k3 σ4 F4 H4 S4
      | rt s => rw [eb] at k3; exact k3
      | exc c => rw [eb] at k3; exact k3
      | bad => rw [eb] at k3; exact k3
end

/-! ### list comprehensions -/
def wipeD (ρ : Rho) : List Nat → Rho
  | [] => ρ
  | v :: vs => (wipeD ρ vs).set v none
theorem StR.setU {K : PySem.W.Frag} {F0 H0 F H : Hp} {σ : L2.St} {ρ : Rho} (S : StR K F0 H0 F H σ ρ) (i : Nat) : StR K F0 H0 F H (σ.set i none) (ρ.set i none) := by
  refine ⟨S.ext, by simpa using S.len, fun j y e => ?_, fun j y e => ?_, fun j k y z p e1 e2 e3 e4 => ?_, fun j y e => ?_⟩
  · rcases get_set e with ⟨rfl, hl, q⟩ | ⟨hn, q⟩
    · cases q
    · obtain ⟨u, a, b⟩ := S.dat j y q
      exact ⟨u, by rw [List.getElem?_set_ne hn]; exact a, b⟩
  · rcases get_set e with ⟨rfl, hl, q⟩ | ⟨hn, q⟩
    · cases q
    · obtain ⟨p, a, b⟩ := S.own j y q
      exact ⟨p, by rw [List.getElem?_set_ne hn]; exact a, b⟩
  · rcases get_set e1 with ⟨_, _, q⟩ | ⟨n1, q1⟩
    · cases q
    · rcases get_set e2 with ⟨_, _, q⟩ | ⟨n2, q2⟩
      · cases q
      · rw [List.getElem?_set_ne n1] at e3
        rw [List.getElem?_set_ne n2] at e4
        exact S.dis j k y z p q1 q2 e3 e4
  · rcases get_set e with ⟨rfl, hl, q⟩ | ⟨hn, q⟩
    · cases q
    · obtain ⟨p, a, b⟩ := S.lck j y q
      exact ⟨p, by rw [List.getElem?_set_ne hn]; exact a, b⟩
theorem StR.wipe {K : PySem.W.Frag} {F0 H0 F H : Hp} {σ : L2.St} {ρ : Rho} (S : StR K F0 H0 F H σ ρ) : ∀ vs : List Nat, StR K F0 H0 F H (L2.wipe σ vs) (wipeD ρ vs)
  | [] => S
  | v :: vs => (StR.wipe S vs).setU v
theorem wipe_wipe (σ : L2.St) (vs : List Nat) : L2.wipe (L2.wipe σ vs) vs = L2.wipe σ vs := by
  have one : ∀ (v : Nat) (τ : L2.St) (us : List Nat), v ∈ us → L2.wipe (τ.set v none) us = L2.wipe τ us := fun v τ us h => wipe_set h
  have all : ∀ (us : List Nat), (∀ u ∈ us, u ∈ vs) → L2.wipe (L2.wipe σ us) vs = L2.wipe σ vs := by
    intro us
    induction us with
    | nil => intro _; rfl
    | cons u us ih =>
      intro h
      show L2.wipe ((L2.wipe σ us).set u none) vs = _
      rw [one u _ vs (h u List.mem_cons_self), ih fun x hx => h x (List.mem_cons_of_mem _ hx)]
  exact all vs fun _ h => h
/-- an item's share of a comprehension's list -/
def lcL (h : PD → R (Option PD)) : List PD → R (List PD)
  | [] => .ok []
  | x :: xs => (h x).bind fun o => (lcL h xs).bind fun l => .ok (o.toList ++ l)
def lcE (a : Rho → PD → R Rho) (gt : Rho → R Bool) (ge : Rho → R PD) (ρ : Rho) : PD → R (Option PD) := fun x =>
  (a ρ x).bind fun ρ1 => (gt ρ1).bind fun b => if b = true then (ge ρ1).bind fun y => .ok (some y) else .ok none
/-- nothing is raised within -/
def noExc {α : Type} : R α → R α
  | .exc _ => .bad
  | r => r
def oLc (gi : Rho → R (List PD)) (a : Rho → PD → R Rho) (gt : Rho → R Bool) (ge : Rho → R PD) (vs : List Nat) : Rho → R PD := fun ρ =>
  (gi ρ).bind fun ds => (noExc (lcL (lcE a gt ge (wipeD ρ vs)) ds)).bind fun l => if l.length ≤ sizeLine then .ok (.list l) else .bad
def W0 : WX := fun _ _ _ _ => False
theorem lcL_cons {h : PD → R (Option PD)} {x : PD} {xs l : List PD} (e : lcL h (x :: xs) = .ok l) : ∃ o l', h x = .ok o ∧ lcL h xs = .ok l' ∧ l = o.toList ++ l' := by
  unfold lcL at e
  cases eh : h x with
  | ok o =>
    rw [eh] at e
    have e : (lcL h xs).bind (fun l => R.ok (o.toList ++ l)) = .ok l := e
    cases el : lcL h xs with
    | ok l' =>
      rw [el] at e
      have e : R.ok (o.toList ++ l') = R.ok l := e
      cases e
      exact ⟨o, l', rfl, rfl, rfl⟩
    | exc c => rw [el] at e; cases e
    | bad => rw [el] at e; cases e
  | exc c => rw [eh] at e; cases e
  | bad => rw [eh] at e; cases e
section
variable {K : PySem.W.Frag} {W : WX}
theorem to_lc {vs : List Nat} {wi : TI} {gi : Rho → R (List PD)} {gx : TG} {a : Rho → PD → R Rho} {tt : TT} {gt : Rho → R Bool} {te : TE} {ge : Rho → R PD}
    (hi : TDi K W wi gi) (hg : TDg K vs gx a) (ht : TDt K W0 tt gt) (he : TDe K W0 te ge) : TDo K W (tLc wi gx tt te vs) (oLc gi a gt ge vs) := fun F0 H0 F H σ ρ Q S q => by
  refine hi F0 H0 F H σ ρ _ S ?_
  unfold oLc at q
  cases egi : gi ρ with
  | exc c => rw [egi] at q; exact q
  | bad => rw [egi] at q; exact q
  | ok ds =>
    rw [egi] at q
    have q : Fin K W σ F H ((noExc (lcL (lcE a gt ge (wipeD ρ vs)) ds)).bind fun l => if l.length ≤ sizeLine then R.ok (PyData.list l) else R.bad) (OwQ K H Q) := q
    cases el : lcL (lcE a gt ge (wipeD ρ vs)) ds with
    | exc c => rw [el] at q; exact q.elim
    | bad => rw [el] at q; exact q.elim
    | ok l =>
      rw [el] at q
      have q : Fin K W σ F H (if l.length ≤ sizeLine then R.ok (PyData.list l) else R.bad) (OwQ K H Q) := q
      by_cases hsz : l.length ≤ sizeLine
      · rw [if_pos hsz] at q
        intro F1 H1 e1 J hJ D hD
        have S1 := S.go e1
        -- the state: what is frozen by now, the new list with what is made so far
        refine ⟨fun i m H => m = ds.length - i ∧ ∃ F acc accv rest, Ext F1 H1 F H ∧ F D = none ∧ H D = some (.lst accv) ∧ DpAll K F accv acc ∧ lcL (lcE a gt ge (wipeD ρ vs)) (ds.drop i) = .ok rest ∧ l = acc ++ rest,
          ⟨_, rfl, F1, [], [], l, Ext.own e1.g hD, e1.g.free hD, upd_same, .nil, el, rfl⟩, ?_⟩
        rintro i m H2 ⟨rfl, F2, acc, accv, rest, e2, hFD, hHD, racc, erest, hl⟩
        have S2 : StR K F0 H0 F2 H2 σ ρ := S1.go e2
        cases hd : ds[i]? with
        | none =>
          have hle := List.getElem?_eq_none_iff.mp hd
          rw [List.drop_eq_nil_of_le hle] at erest
          have hr : rest = [] := by unfold lcL at erest; cases erest; rfl
          subst hr
          rw [List.append_nil] at hl
          subst hl
          exact .inl ⟨(hJ i F2 H2 e2.f e2.g).2 hle, q F2 H2 (e1.trans e2) D (e1.h.free hD) hFD ⟨accv, hHD, racc⟩⟩
        | some d =>
          have hlt := (List.getElem?_eq_some_iff.mp hd).1
          rw [List.drop_eq_getElem_cons hlt, (List.getElem?_eq_some_iff.mp hd).2] at erest
          obtain ⟨o, l', eo, el', er⟩ := lcL_cons erest
          obtain ⟨go, yl⟩ := (hJ i F2 H2 e2.f e2.g).1 d hd
          refine .inr ⟨go, fun H' => ∃ F acc accv rest, Ext F1 H1 F H' ∧ F D = none ∧ H' D = some (.lst accv) ∧ DpAll K F accv acc ∧ lcL (lcE a gt ge (wipeD ρ vs)) (ds.drop (i + 1)) = .ok rest ∧ l = acc ++ rest,
            fun H' ⟨F', acc', accv', rest', z⟩ => ⟨_, by omega, rfl, F', acc', accv', rest', z⟩, fun x H3 y => ?_⟩
          obtain ⟨F3, e3, r3⟩ := yl x H3 y
          have dne : ∀ {Fa Ha Fb Hb : Hp}, Ext Fa Ha Fb Hb → Fa D = none → Ha D = some (.lst accv) → Fb D = none ∧ Hb D = some (.lst accv) := fun {Fa Ha Fb Hb} e h1 h2 => by
            refine ⟨?_, e.h D _ h2⟩
            cases z : Fb D with
            | none => rfl
            | some u =>
              rcases e.n D (by rw [z]; exact Option.some_ne_none u) with w | w
              · exact absurd h1 w
              · rw [h2] at w; cases w
          obtain ⟨hFD3, hHD3⟩ := dne e3 hFD hHD
          have S3 : StR K F0 H0 F3 H3 (L2.wipe σ vs) (wipeD ρ vs) := (S2.go e3).wipe vs
          refine hg F0 H0 F3 H3 _ _ x d _ S3 r3 ?_
          unfold lcE at eo
          cases ea : a (wipeD ρ vs) d with
          | exc c => rw [ea] at eo; cases eo
          | bad => rw [ea] at eo; cases eo
          | ok ρ4 =>
            rw [ea] at eo
            have eo : ((gt ρ4).bind fun b => if b = true then (ge ρ4).bind fun y => R.ok (some y) else R.ok none) = R.ok o := eo
            intro σ4 S4 hw
            refine ⟨by rw [hw, wipe_wipe], ?_⟩
            refine ht F0 H0 F3 H3 σ4 ρ4 _ S4 ?_
            cases et : gt ρ4 with
            | exc c => rw [et] at eo; cases eo
            | bad => rw [et] at eo; cases eo
            | ok b =>
              rw [et] at eo
              intro F5 H5 e5
              obtain ⟨hFD5, hHD5⟩ := dne e5 hFD3 hHD3
              have e15 : Ext F1 H1 F5 H5 := (e2.trans e3).trans e5
              cases b with
              | false =>
                have eo : R.ok none = R.ok o := eo
                cases eo
                show (∃ F acc accv rest, _)
                exact ⟨F5, acc, accv, l', e15, hFD5, hHD5, racc.mono (e3.f.trans e5.f), el', by rw [hl, er]; rfl⟩
              | true =>
                have eo : ((ge ρ4).bind fun y => R.ok (some y)) = R.ok o := eo
                show te σ4 H5 _
                refine he F0 H0 F5 H5 σ4 ρ4 _ (S4.go e5) ?_
                cases ey : ge ρ4 with
                | exc c => rw [ey] at eo; cases eo
                | bad => rw [ey] at eo; cases eo
                | ok yv =>
                  rw [ey] at eo
                  have eo : R.ok (some yv) = R.ok o := eo
                  cases eo
                  intro F6 H6 e6 v6 r6
                  obtain ⟨hFD6, hHD6⟩ := dne e6 hFD5 hHD5
                  have e16 : Ext F1 H1 F6 H6 := e15.trans e6
                  have hlen : l.length = acc.length + (1 + l'.length) := by rw [hl, er]; simp; omega
                  refine ⟨accv, hHD6, by rw [racc.length]; omega, F6, acc ++ [yv], accv ++ [v6], l', ⟨e16.f, fun b u z => ?_, fun b u z => ?_, e16.n⟩, hFD6, upd_same,
                    (racc.mono ((e3.f.trans e5.f).trans e6.f)).append (.cons r6 .nil), el', by rw [hl, er]; simp⟩
                  · rw [upd_ne (ne_of_none z hFD6)]; exact e16.g b u z
                  · rw [upd_ne (ne_of_none z hD)]; exact e16.h b u z
      · rw [if_neg hsz] at q
        exact q.elim
def gYes : Rho → R Bool := fun _ => .ok true
theorem tt_yes : TDt K W tYes gYes := fun F0 H0 F H σ ρ Q S q => q.ok S.same
end

/-! ### defs and their calls -/
inductive FR where
  | rt (s : Sl)
  | exc (c : Ec)
  | bad
def SR.fr : SR → FR
  | .nx _ => .rt (.d .none)
  | .rt s => .rt s
  | .exc c => .exc c
  | _ => .bad
def FRQ (K : PySem.W.Frag) (F H : Hp) (Q : VK) (E : XK) : FR → Prop
  | .rt s => RetQ K F H Q s
  | .exc c => ∀ cls d F' H', Ext F H F' H' → ExR K c cls d H' → E cls d H'
  | .bad => False
/-- a def's promise: it hands back what f tells of its arguments; what stood stands -/
def spD (K : PySem.W.Frag) (n : Nat) (f : List PD → FR) : Sp := fun vs H Q E => vs.length = n ∧ ∃ F ds, Same F H ∧ DpAll K F vs ds ∧ FRQ K F H Q E (f ds)
def startD (n : Nat) (ds : List PD) : Rho := ds.map (fun d => some (.d d)) ++ List.replicate (n - ds.length) none
def runD (n : Nat) (s : Rho → SR) (ds : List PD) : FR := (s (startD n ds)).fr
theorem start_ok {K : PySem.W.Frag} {F H : Hp} {N : List Str} {vs : List V} {ds : List PD} (s : Same F H) (r : DpAll K F vs ds) : StR K F H F H (start N vs) (startD N.length ds) := by
  have hl := r.length
  have gd : ∀ (j : Nat) (y : Sl), (startD N.length ds)[j]? = some (some y) → ∃ d, y = .d d ∧ ds[j]? = some d := fun j y e => by
    unfold startD at e
    by_cases hj : j < ds.length
    · rw [List.getElem?_append_left (by simpa using hj), List.getElem?_map] at e
      cases z : ds[j]? with
      | none => rw [z] at e; cases e
      | some d => rw [z] at e; cases e; exact ⟨d, rfl, rfl⟩
    · rw [List.getElem?_append_right (by simpa using hj), List.getElem?_replicate] at e
      split at e
      · cases e
      · cases e
  refine ⟨Ext.refl s, ?_, fun i x e => ?_, fun i x e => ?_, fun i j x y p e1 _ _ _ => ?_, fun i x e => ?_⟩
  · unfold L2.start startD; simp [hl]
  · obtain ⟨d, e1, e2⟩ := gd i _ e
    cases e1
    obtain ⟨v, a, b⟩ := r.get' e2
    refine ⟨v, ?_, b⟩
    unfold L2.start
    rw [List.getElem?_append_left (by simpa using (List.getElem?_eq_some_iff.mp a).1), List.getElem?_map, a]
    rfl
  · obtain ⟨d, e1, e2⟩ := gd i _ e
    cases e1
  · obtain ⟨d, q1, q2⟩ := gd i _ e1
    cases q1
  · obtain ⟨d, e1, e2⟩ := gd i _ e
    cases e1
theorem fnD {P : Program} {w : World} {K : PySem.W.Frag} {mg : Str → Option Value} {base : Heap} {x qual : Str} {params : Arguments} {body : List Stmt} {scope : Scope} {f : Addr} {fd : FuncData} {N ps : List Str} {k : Nat} {s : Rho → SR}
    (F : FunD K x qual params body scope [] [] f fd) (S : FnScope N ps scope)
    (hb : ∀ (cdv : Value) (A : Around) (outer : List Env) (sh : Shared) (H : Hp) (E : XK), Room k (A.deeper (envOfC qual scope sh.heap.objs.size f cdv)) →
      Takes (cxOf (L2.CX P w) P w K mg base N qual scope f cdv A outer sh H E) (fun cls d _ H => E cls d H) →
      ∃ t, PSs (cxOf (L2.CX P w) P w K mg base N qual scope f cdv A outer sh H E) body t ∧ TDS K (fun cls d _ H => E cls d H) t s) : FnOk P w K mg base (L2.CX P w) (k + 1) f fd ps (spD K ps.length (runD N.length s)) := by
  refine F.ok S (fun vs H Q E h => h.1) (fun cdv A outer sh H vs Q E hr h => ?_)
  obtain ⟨hl, F0, ds, hs, hd, hq⟩ := h
  obtain ⟨t, h1, h2⟩ := hb cdv A outer sh H E hr (takes_of rfl rfl rfl (E₁ := _) rfl)
  refine ⟨t, h1, h2 F0 H F0 H _ _ _ (start_ok hs hd) ?_⟩
  unfold runD at hq
  cases e : s (startD N.length ds) with
  | nx ρ => rw [e] at hq; exact fun σ F1 H1 S1 => hq .non F1 H1 S1.ext .non
  | bk ρ => rw [e] at hq; exact hq.elim
  | ct ρ => rw [e] at hq; exact hq.elim
  | rt s => rw [e] at hq; exact hq
  | exc c => rw [e] at hq; exact fun cls d σ F1 H1 ex r => hq cls d F1 H1 ex r
  | bad => rw [e] at hq; exact hq.elim
def FR.toE : FR → R PD
  | .rt (.d x) => .ok x
  | .rt (.o (.list l)) => .ok (.list l)
  | .exc c => .exc c
  | _ => .bad
def FR.toO : FR → R PD
  | .rt (.o x) => .ok x
  | .exc c => .exc c
  | _ => .bad
def scalD : PD → Bool
  | .none => true
  | .bool _ => true
  | .int _ => true
  | .str _ => true
  | _ => false
def FR.toS : FR → R PD
  | .rt (.d x) => if scalD x = true then .ok x else .bad
  | .exc c => .exc c
  | _ => .bad
def isDict : PD → Bool
  | .dict _ => true
  | _ => false
theorem scal_dp {K : PySem.W.Frag} {F F' : Hp} {v : V} {x : PD} (h : scalD x = true) (r : Dp K F v x) : Dp K F' v x := by
  cases r with
  | non => exact .non
  | bl b => exact .bl b
  | int i => exact .int i
  | str i => exact .str i
  | lst _ _ => cases h
  | tup _ _ => cases h
theorem own_frz {K : PySem.W.Frag} {F H F' H' : Hp} {p : Addr} {ds : List PD} (ex : Ext F H F' H') (hp : H p = none) (hf : F' p = none) (ho : OwnAt K F' H' p (.list ds)) : ∃ F'', Ext F H F'' H' ∧ Dp K F'' (.ref p) (.list ds) := by
  obtain ⟨vs, a, b⟩ := ho
  have hs : Same F' (upd F' p (.lst vs)) := fun q u e => by rw [upd_ne (ne_of_none e hf)]; exact e
  refine ⟨upd F' p (.lst vs), ⟨ex.f.trans hs, fun q u r => ?_, ex.h, fun q r => ?_⟩, .lst (.inl upd_same) (b.mono hs)⟩
  · by_cases hq : q = p
    · subst hq; rw [upd_same] at r; rw [← r]; exact a
    · rw [upd_ne hq] at r; exact ex.g q u r
  · by_cases hq : q = p
    · subst hq; exact .inr hp
    · rw [upd_ne hq] at r; exact ex.n q r
section
variable {K : PySem.W.Frag} {W : WX} {ta : TA} {ga : Rho → R (List PD)} {n : Nat} {f : List PD → FR}
def eCall (n : Nat) (f : List PD → FR) (ga : Rho → R (List PD)) : Rho → R PD := fun ρ => (ga ρ).bind fun ds => if ds.length = n then (f ds).toE else .bad
def oCall (n : Nat) (f : List PD → FR) (ga : Rho → R (List PD)) : Rho → R PD := fun ρ => (ga ρ).bind fun ds => if ds.length = n then (f ds).toO else .bad
/-- arguments that are only read, a plain answer -/
def eCallR (n : Nat) (f : List PD → FR) (ga : Rho → R (List PD)) : Rho → R PD := fun ρ => (ga ρ).bind fun ds => if ds.length = n ∧ ds.all (fun d => !isDict d) = true then (f ds).toS else .bad
theorem td_call (h : TDa K W ta ga) : TDe K W (tCallS (spD K n f) (WE W) ta) (eCall n f ga) := fun F0 H0 F H σ ρ Q S q =>
  h F0 H0 F H σ ρ _ S (q.then fun ds F1 H1 e1 k1 vs rs => by
    by_cases hn : ds.length = n
    · rw [if_pos hn] at k1
      refine ⟨by rw [rs.length]; exact hn, F1, ds, e1.g, rs, ?_⟩
      cases e : f ds with
      | rt s =>
        rw [e] at k1
        cases s with
        | d x => exact fun v F' H' ex r => k1 F' H' ex v r
        | o x =>
          cases x with
          | list l =>
            intro p F' H' ex hp hf ho
            obtain ⟨F'', ex2, r⟩ := own_frz ex hp hf ho
            exact k1 F'' H' ex2 _ r
          | _ => exact k1.elim
        | l x => exact k1.elim
      | exc c => rw [e] at k1; exact fun cls d F' H' ex r => k1 cls d F' H' ex r
      | bad => rw [e] at k1; exact k1.elim
    · rw [if_neg hn] at k1
      exact k1.elim)
theorem to_call (h : TDa K W ta ga) : TDo K W (tCallS (spD K n f) (WE W) ta) (oCall n f ga) := fun F0 H0 F H σ ρ Q S q =>
  h F0 H0 F H σ ρ _ S (by
    unfold oCall at q
    cases ea : ga ρ with
    | exc c => rw [ea] at q; exact q
    | bad => rw [ea] at q; exact q
    | ok ds =>
      rw [ea] at q
      have q : Fin K W σ F H (if ds.length = n then (f ds).toO else .bad) (OwQ K H Q) := q
      intro F1 H1 e1 vs rs
      by_cases hn : ds.length = n
      · rw [if_pos hn] at q
        refine ⟨by rw [rs.length]; exact hn, F1, ds, e1.g, rs, ?_⟩
        cases e : f ds with
        | rt s =>
          rw [e] at q
          cases s with
          | d x => exact q.elim
          | o x => exact fun p F' H' ex hp hf ho => q F' H' (e1.trans ex) p (e1.h.free hp) hf ho
          | l x => exact q.elim
        | exc c => rw [e] at q; exact fun cls d F' H' ex r => q cls d F' H' (e1.trans ex) r
        | bad => rw [e] at q; exact q.elim
      · rw [if_neg hn] at q
        exact q.elim)
theorem RpAll.dp {F H : Hp} (s : Same F H) : ∀ {vs : List V} {ds : List PD}, RpAll K F H vs ds → ds.all (fun d => !isDict d) = true → DpAll K H vs ds
  | _, _, .nil, _ => .nil
  | _, _, .cons r t, h => by
    rw [List.all_cons, Bool.and_eq_true] at h
    exact .cons (r.dp s fun kvs e => by rw [e] at h; cases h.1) (RpAll.dp s t h.2)
theorem td_callR (h : TDq K W ta ga) : TDe K W (tCallS (spD K n f) (WE W) ta) (eCallR n f ga) := fun F0 H0 F H σ ρ Q S q =>
  h F0 H0 F H σ ρ _ S (q.then fun ds F1 H1 e1 k1 vs rs => by
    by_cases hn : ds.length = n ∧ ds.all (fun d => !isDict d) = true
    · rw [if_pos hn] at k1
      refine ⟨by rw [rs.length]; exact hn.1, H1, ds, Same.refl H1, rs.dp e1.g hn.2, ?_⟩
      cases e : f ds with
      | rt s =>
        rw [e] at k1
        cases s with
        | d x =>
          intro v F' H' ex r
          have k1 : Fin K W σ F1 H1 (if scalD x = true then .ok x else .bad) (DpQ K Q) := k1
          by_cases hx : scalD x = true
          · rw [if_pos hx] at k1
            exact k1 F1 H' (Ext.heap e1.g ex.h) v (scal_dp hx r)
          · rw [if_neg hx] at k1
            exact k1.elim
        | o x => exact k1.elim
        | l x => exact k1.elim
      | exc c => rw [e] at k1; exact fun cls d F' H' ex r => k1 cls d F1 H' (Ext.heap e1.g ex.h) r
      | bad => rw [e] at k1; exact k1.elim
    · rw [if_neg hn] at k1
      exact k1.elim)
/-- without arguments, nothing raised -/
def eCall0 (f : List PD → FR) : Rho → R PD := fun _ => noExc (f []).toE
def oCall0 (f : List PD → FR) : Rho → R PD := fun _ => noExc (f []).toO
theorem td_call0 : TDe K W (tCall (spD K 0 f) [] E0 tNil) (eCall0 f) := fun F0 H0 F H σ ρ Q S q => by
  refine ⟨rfl, F, [], S.same, .nil, ?_⟩
  unfold eCall0 at q
  cases e : f [] with
  | rt s =>
    rw [e] at q
    cases s with
    | d x => exact fun v F' H' ex r => q F' H' ex v r
    | o x =>
      cases x with
      | list l =>
        intro p F' H' ex hp hf ho
        obtain ⟨F'', ex2, r⟩ := own_frz ex hp hf ho
        exact q F'' H' ex2 _ r
      | _ => exact q.elim
    | l x => exact q.elim
  | exc c => rw [e] at q; exact q.elim
  | bad => rw [e] at q; exact q.elim
theorem to_call0 : TDo K W (tCall (spD K 0 f) [] E0 tNil) (oCall0 f) := fun F0 H0 F H σ ρ Q S q => by
  refine ⟨rfl, F, [], S.same, .nil, ?_⟩
  unfold oCall0 at q
  cases e : f [] with
  | rt s =>
    rw [e] at q
    cases s with
    | d x => exact q.elim
    | o x => exact fun p F' H' ex hp hf ho => q F' H' ex p hp hf ho
    | l x => exact q.elim
  | exc c => rw [e] at q; exact q.elim
  | bad => rw [e] at q; exact q.elim
end
end DL
namespace DL
open PySem PySem.Spec PyProof.Rows L2

/-! ### a new frozen object -/
section
variable {K : PySem.W.Frag} {W : WX} {σ : L2.St} {F H : Hp} {Q : VK}
theorem new_lst {vs : List V} {ds : List PD} {p : Addr} (s : Same F H) (r : DpAll K F vs ds) (k : Fin K W σ F H (.ok (PyData.list ds)) (DpQ K Q)) (hp : H p = none) : Q (.ref p) (upd H p (.lst vs)) := by
  have e := Ext.new (o := .lst vs) s hp
  exact k _ _ e _ (.lst (.inl upd_same) (r.mono e.f))
theorem new_tup {vs : List V} {ds : List PD} {p : Addr} (s : Same F H) (r : DpAll K F vs ds) (k : Fin K W σ F H (.ok (PyData.tuple ds)) (DpQ K Q)) (hp : H p = none) : Q (.ref p) (upd H p (.tup vs)) := by
  have e := Ext.new (o := .tup vs) s hp
  exact k _ _ e _ (.tup (SqT.of upd_same) (r.mono e.f))
theorem own_lst {vs : List V} {ds : List PD} {p : Addr} (s : Same F H) (r : DpAll K F vs ds) (k : Fin K W σ F H (.ok (PyData.list ds)) (OwQ K H Q)) (hp : H p = none) : Q (.ref p) (upd H p (.lst vs)) := by
  have e := Ext.own (o := .lst vs) s hp
  exact k _ _ e p hp (s.free hp) ⟨vs, upd_same, r⟩
end

/-! ### + -/
/-- list + list, of tracked or known lists -/
def rCatR : R2 := fun x y H Q => ∃ l b xs zs, x = .ref l ∧ y = .ref b ∧ Rd H l (.lst xs) ∧ Rd H b (.lst zs) ∧ xs.length + zs.length ≤ sizeLine ∧ ∀ p, H p = none → Q (.ref p) (upd H p (.lst (xs ++ zs)))
theorem op_catR {X : Cx} : OpR X (binaryOp .Add) rCatR := by
  intro pn s σ H x y v u Q J rx ry h
  obtain ⟨l, b, xs, zs, rfl, rfl, hH, hB, hle, q⟩ := h
  cases rx
  cases ry
  obtain ⟨z, vs1, n, r, e⟩ := hH.ok J.hok
  obtain ⟨z2, vs2, n2, r2, e2⟩ := hB.ok J.hok
  have hl := r.length
  have hl2 := r2.length
  refine PySem.P.add_list e e2 ?_ (by rw [List.size_toArray, List.size_toArray]; omega)
  have ea : vs1.toArray ++ vs2.toArray = (vs1 ++ vs2).toArray := by simp
  rw [ea]
  exact ⟨.ref _, _, J.lnew (t' := s.toks) (r.append r2) (by rw [List.length_append]; omega), rfl, q _ J.fresh⟩
def rAdd2 (K : PySem.W.Frag) : R2 := fun x y H Q => rI0 (fun i j => .int (i + j)) x y H Q ∨ (∃ i j, x = .str i ∧ y = .str j ∧ i.length + j.length ≤ sizeLine ∧ Q (.str (i ++ j)) H) ∨ rCatR x y H Q ∨ rCatA K x y H Q
theorem op_add2 {X : Cx} : OpR X (binaryOp .Add) (rAdd2 X.K) := op_add.or (op_add_str.or (op_catR.or op_catA))
def addD : PD → PD → R PD
  | .int i, .int j => .ok (.int (i + j))
  | .str x, .str y => if x.length + y.length ≤ sizeLine then .ok (.str (x ++ y)) else .bad
  | .list xs, .list ys => if xs.length + ys.length ≤ sizeLine then .ok (.list (xs ++ ys)) else .bad
  | .tuple xs, .tuple ys => if xs.length + ys.length ≤ sizeLine then .ok (.tuple (xs ++ ys)) else .bad
  | _, _ => .bad
section
variable {K : PySem.W.Frag}
theorem rd_add : RD K (rAdd2 K) addD := fun W σ F H x y a b Q s ra rb q => by
  unfold addD at q
  split at q
  · exact .inl ⟨_, _, ra.int, rb.int, q.ok s _ (.int _)⟩
  · split at q
    · rename_i h
      exact .inr (.inl ⟨_, _, ra.str, rb.str, h, q.ok s _ (.str _)⟩)
    · exact q.elim
  · split at q
    · rename_i h
      obtain ⟨a, vs, rfl, s1, r1⟩ := ra.list s
      obtain ⟨b, us, rfl, s2, r2⟩ := rb.list s
      exact .inr (.inr (.inl ⟨_, _, _, _, rfl, rfl, s1, s2, by rw [r1.length, r2.length]; exact h, fun p hp => new_lst s (r1.append r2) q hp⟩))
    · exact q.elim
  · split at q
    · rename_i h
      obtain ⟨a, vs, rfl, s1, r1⟩ := ra.tuple s
      obtain ⟨b, us, rfl, s2, r2⟩ := rb.tuple s
      refine .inr (.inr (.inr ⟨_, _, _, _, rfl, rfl, s1, s2, by rw [r1.length, r2.length]; exact h, fun e => ?_, fun _ e => ?_, fun _ _ p hp => new_tup s (r1.append r2) q hp⟩))
      · subst e
        cases r1
        rename_i xs ys h
        cases ra with
        | inl ra =>
          cases rb with
          | inl rb => exact q.ok s _ rb
          | inr rb => obtain ⟨p, e, z⟩ := rb; exact z.elim
        | inr ra => obtain ⟨p, e, z⟩ := ra; exact z.elim
      · subst e
        cases r2
        rw [List.append_nil] at q
        cases ra with
        | inl ra => exact q.ok s _ ra
        | inr ra => obtain ⟨p, e, z⟩ := ra; exact z.elim
    · exact q.elim
  · exact q.elim
/-- list + list, the new list owned -/
def addL : PD → PD → R PD
  | .list xs, .list ys => if xs.length + ys.length ≤ sizeLine then .ok (.list (xs ++ ys)) else .bad
  | _, _ => .bad
theorem ro_add : RDo K (rAdd2 K) addL := fun W σ F H x y a b Q s ra rb q => by
  unfold addL at q
  split at q
  · split at q
    · rename_i h
      obtain ⟨a, vs, rfl, s1, r1⟩ := ra.list s
      obtain ⟨b, us, rfl, s2, r2⟩ := rb.list s
      exact .inr (.inr (.inl ⟨_, _, _, _, rfl, rfl, s1, s2, by rw [r1.length, r2.length]; exact h, fun p hp => own_lst s (r1.append r2) q hp⟩))
    · exact q.elim
  · exact q.elim

/-! ### arithmetic -/
def iiD (C : Int → Int → Bool) (g : Int → Int → Int) : PD → PD → R PD
  | .int i, .int j => if C i j = true then .ok (.int (g i j)) else .bad
  | _, _ => .bad
theorem rd_I {C : Int → Int → Prop} {B : Int → Int → Bool} {g : Int → Int → Int} (h : ∀ i j, B i j = true → C i j) : RD K (rI C fun i j => .int (g i j)) (iiD B g) := fun W σ F H x y a b Q s ra rb q => by
  unfold iiD at q
  split at q
  · split at q
    · rename_i hb
      exact ⟨_, _, ra.int, rb.int, h _ _ hb, q.ok s _ (.int _)⟩
    · exact q.elim
  · exact q.elim
def subD : PD → PD → R PD
  | .int i, .int j => .ok (.int (i - j))
  | _, _ => .bad
theorem rd_sub : RD K (rI0 fun i j => .int (i - j)) subD := fun W σ F H x y a b Q s ra rb q => by
  unfold subD at q
  split at q
  · exact ⟨_, _, ra.int, rb.int, q.ok s _ (.int _)⟩
  · exact q.elim
def modB (_ j : Int) : Bool := decide (j ≠ 0)
abbrev modD : PD → PD → R PD := iiD modB fun i j => i.fmod j
theorem rd_mod : RD K (rI (fun _ j => j ≠ 0) fun i j => .int (i.fmod j)) modD := rd_I fun i j h => of_decide_eq_true h
def divB (_ j : Int) : Bool := decide (j ≠ 0) && decide (j.natAbs < 1073741824)
abbrev divD : PD → PD → R PD := iiD divB fun i j => i.fdiv j
theorem rd_div : RD K (rI CDivN fun i j => .int (i.fdiv j)) divD := rd_I fun i j h => by
  unfold divB at h
  rw [Bool.and_eq_true] at h
  exact ⟨of_decide_eq_true h.1, of_decide_eq_true h.2⟩
/-- // by a great positive number too -/
def rDiv2 : R2 := fun x y H Q => rI CDivN (fun i j => .int (i.fdiv j)) x y H Q ∨ rI CDivW (fun i j => .int (i / j)) x y H Q
theorem op_div2 {X : Cx} : OpR X (binaryOp .FloorDiv) rDiv2 := op_fdivN.or op_fdivW
/-! ### * : ints; a text by an int; a list by an int -/
def mulB (i j : Int) : Bool := (decide (-(2 ^ 64) < i) && decide (i < 2 ^ 64)) || (decide (-(2 ^ 64) < j) && decide (j < 2 ^ 64))
theorem mulB_ok {i j : Int} (h : mulB i j = true) : CMul i j := by
  unfold mulB at h
  simp only [Bool.or_eq_true, Bool.and_eq_true, decide_eq_true_eq] at h
  exact h
def mulS (x : Str) (n : Int) : Str := if n < 1 then Str.empty else ⟨(List.replicate n.toNat x.cps).foldl (· ++ ·) #[]⟩
theorem fold_app : ∀ (l : List (Array Nat)) (a : Array Nat), (l.foldl (· ++ ·) a).size = a.size + (l.map (·.size)).sum
  | [], a => by simp
  | x :: l, a => by rw [List.foldl_cons, fold_app l]; simp; omega
theorem mulS_len (x : Str) (n : Int) : (mulS x n).length = x.length * n.toNat := by
  unfold mulS
  split
  · rename_i h
    have e : n.toNat = 0 := by omega
    rw [e]; rfl
  · show ((List.replicate n.toNat x.cps).foldl (· ++ ·) #[]).size = _
    rw [fold_app]
    simp [Str.length, Nat.mul_comm]
theorem tooLong_le {n : Nat} (h : n ≤ sizeLine) : Builtin.Str.tooLong n = false := by
  unfold Builtin.Str.tooLong
  exact decide_eq_false (by omega)
def rMulS : R2 := fun x y H Q => ∃ z k, x = .str z ∧ y = .int k ∧ -(2 ^ 62) ≤ k ∧ k < 2 ^ 62 ∧ z.length * k.toNat ≤ sizeLine ∧ Q (.str (mulS z k)) H
theorem op_mulS {X : Cx} : OpR X (binaryOp .Mult) rMulS := by
  intro pins s σ H x y v u Q I rx ry h
  obtain ⟨z, k, rfl, rfl, h1, h2, hz, q⟩ := h
  obtain ⟨t, rfl⟩ := rx
  obtain ⟨t', rfl⟩ := ry
  have hs := sizeLine_eq
  refine PySem.P.mul_str (by rw [decide_eq_false (show ¬ k < -(2 ^ 63 : Int) by omega), decide_eq_false (show ¬ k ≥ 2 ^ 63 by omega)]; rfl) (fun hn ho => ?_) (fun _ _ => tooLong_le hz) ?_
  · have hk : k.toNat = k := Int.toNat_of_nonneg (by omega)
    have h3 : ((z.length * k.toNat : Nat) : Int) ≤ 16777216 := by rw [hs] at hz; exact Int.ofNat_le.mpr hz
    intro hgt
    have h4 : (2 ^ 63 - 1 : Int) / k * k ≤ 2 ^ 63 - 1 := Int.ediv_mul_le _ (by omega)
    have h5 : (2 ^ 63 - 1 : Int) < ((2 ^ 63 - 1 : Int) / k + 1) * k := Int.lt_ediv_add_one_mul_self _ (by omega)
    have h6 : ((2 ^ 63 - 1 : Int) / k + 1) * k ≤ (z.length : Int) * k := Int.mul_le_mul_of_nonneg_right (by omega) (by omega)
    have h7 : (z.length : Int) * k = ((z.length * k.toNat : Nat) : Int) := by rw [Int.natCast_mul, hk]
    omega
  · by_cases c1 : k < 1
    · rw [if_pos c1]
      refine ⟨by decide, .str _, H, I.tok _, ⟨_, rfl⟩, ?_⟩
      unfold mulS at q
      rw [if_pos c1] at q
      exact q
    · rw [if_neg c1]
      have hl := mulS_len z k
      unfold mulS at q hl
      rw [if_neg c1] at q hl
      by_cases c2 : (k == 1 || z.length == 0) = true
      · rw [if_pos c2]
        refine ⟨.str z, H, I, ⟨t, rfl⟩, ?_⟩
        rw [Bool.or_eq_true] at c2
        have e : (⟨(List.replicate k.toNat z.cps).foldl (· ++ ·) #[]⟩ : Str) = z := by
          rcases c2 with c2 | c2
          · have : k = 1 := by simpa using c2
            subst this
            simp [List.replicate]
          · have c2 : z.cps.size = 0 := by simpa [Str.length] using c2
            have e0 : z.cps = #[] := Array.eq_empty_of_size_eq_zero c2
            have : ∀ n : Nat, (List.replicate n (#[] : Array Nat)).foldl (· ++ ·) #[] = #[] := by
              intro n
              induction n with
              | zero => rfl
              | succ n ih => rw [List.replicate_succ, List.foldl_cons]; simpa using ih
            rw [e0, this]
            cases z
            simp only at e0
            rw [e0]
        rw [e] at q
        exact q
      · rw [if_neg c2]
        refine ⟨?_, .str _, H, I.tok _, ⟨_, rfl⟩, q⟩
        rw [hl]
        exact hz
def rRepR : R2 := fun x y H Q => ∃ l k xs, x = .ref l ∧ y = .int k ∧ H l = some (.lst xs) ∧ -(2 ^ 63) ≤ k ∧ k < 2 ^ 63 ∧ xs.length * k.toNat ≤ sizeLine ∧ ∀ p, H p = none → Q (.ref p) (upd H p (.lst (List.replicate k.toNat xs).flatten))
def rMul2 : R2 := fun x y H Q => rI CMul (fun i j => .int (i * j)) x y H Q ∨ rMulS x y H Q
theorem op_mul2 {X : Cx} : OpR X (binaryOp .Mult) rMul2 := op_mul.or op_mulS
def mulD : PD → PD → R PD
  | .int i, .int j => if mulB i j = true then .ok (.int (i * j)) else .bad
  | .str z, .int k => if small62 k = true ∧ z.length * k.toNat ≤ sizeLine then .ok (.str (mulS z k)) else .bad
  | _, _ => .bad
theorem rd_mul : RD K rMul2 mulD := fun W σ F H x y a b Q s ra rb q => by
  unfold mulD at q
  split at q
  · split at q
    · rename_i h
      exact .inl ⟨_, _, ra.int, rb.int, mulB_ok h, q.ok s _ (.int _)⟩
    · exact q.elim
  · split at q
    · rename_i h
      obtain ⟨h1, h2⟩ := small62_ok h.1
      exact .inr ⟨_, _, ra.str, rb.int, h1, h2, h.2, q.ok s _ (.str _)⟩
    · exact q.elim
  · exact q.elim
def powB (i j : Int) : Bool := decide (0 ≤ j) && decide (j ≤ 1000000) && decide (i.natAbs < 2 ^ 64)
abbrev powD : PD → PD → R PD := iiD powB fun i j => i ^ j.toNat
theorem rd_pow : RD K (rI CPow fun i j => .int (i ^ j.toNat)) powD := rd_I fun i j h => by
  unfold powB at h
  simp only [Bool.and_eq_true, decide_eq_true_eq] at h
  exact ⟨h.1.1, h.1.2, h.2⟩
def negD : PD → R PD
  | .int i => .ok (.int (-i))
  | _ => .bad
theorem ru_neg : RU K (rU fun i => .int (-i)) negD := fun W σ F H x a Q s ra q => by
  unfold negD at q
  split at q
  · exact ⟨_, ra.int, q.ok s _ (.int _)⟩
  · exact q.elim
def cmpD (p : Int → Int → Bool) : PD → PD → R PD
  | .int i, .int j => .ok (.bool (p i j))
  | _, _ => .bad
theorem rd_cmp {p : Int → Int → Bool} : RD K (rI0 fun i j => .bl (p i j)) (cmpD p) := fun W σ F H x y a b Q s ra rb q => by
  unfold cmpD at q
  split at q
  · exact ⟨_, _, ra.int, rb.int, q.ok s _ (.bl _)⟩
  · exact q.elim
abbrev ltD : PD → PD → R PD := cmpD fun i j => decide (i < j)
abbrev leD : PD → PD → R PD := cmpD fun i j => decide (i ≤ j)
abbrev gtD : PD → PD → R PD := cmpD fun i j => decide (j < i)
abbrev geD : PD → PD → R PD := cmpD fun i j => decide (j ≤ i)

/-! ### ==, in, is -/
/-- == : scalars of one kind at once, all else as data -/
def eqB : PD → PD → R Bool
  | .int i, .int j => .ok (decide (i = j))
  | .str i, .str j => .ok (decide (i = j))
  | .bool i, .bool j => .ok (decide (i = j))
  | a, b => if SeqAt.shaped a = true ∧ SeqAt.shaped b = true then .ok (PyData.eqv a b) else .bad
def eqD : PD → PD → R PD := fun a b => (eqB a b).bind fun c => .ok (.bool c)
def neD : PD → PD → R PD := fun a b => (eqB a b).bind fun c => .ok (.bool !c)
theorem shaped_nodict {d : PD} (h : SeqAt.shaped d = true) : ∀ kvs, d ≠ .dict kvs := fun kvs e => by
  subst e
  have := SeqAt.canLay_of_shaped h
  simp [PyData.canLay0] at this
def rEq2 (K : PySem.W.Frag) : R2 := fun x y H Q => rEq x y H Q ∨ rEqD K x y H Q
def rNe2 (K : PySem.W.Frag) : R2 := fun x y H Q => rNe x y H Q ∨ rNeD K x y H Q
theorem op_eq2 {X : Cx} (hu : X.A.units + 64 < cLine) : OpR X (compareOp .Eq) (rEq2 X.K) := op_eq.or (op_eqD hu)
theorem op_ne2 {X : Cx} (hu : X.A.units + 64 < cLine) : OpR X (compareOp .NotEq) (rNe2 X.K) := op_ne.or (op_neD hu)
theorem dec_inj_int {i j : Int} : decide (V.int i = V.int j) = decide (i = j) := by simp
theorem dec_inj_str {i j : Str} : decide (V.str i = V.str j) = decide (i = j) := by simp
theorem dec_inj_bl {i j : Bool} : decide (V.bl i = V.bl j) = decide (i = j) := by simp
theorem rd_eq : RD K (rEq2 K) eqD := fun W σ F H x y a b Q s ra rb q => by
  unfold eqD at q
  unfold eqB at q
  split at q
  · refine .inl ⟨by rw [ra.int, rb.int]; rfl, ?_⟩
    rw [ra.int, rb.int, dec_inj_int]
    exact Fin.okk (x := PyData.bool _) K W σ s q _ (.bl _)
  · refine .inl ⟨by rw [ra.str, rb.str]; rfl, ?_⟩
    rw [ra.str, rb.str, dec_inj_str]
    exact Fin.okk (x := PyData.bool _) K W σ s q _ (.bl _)
  · refine .inl ⟨by rw [ra.bool, rb.bool]; rfl, ?_⟩
    rw [ra.bool, rb.bool, dec_inj_bl]
    exact Fin.okk (x := PyData.bool _) K W σ s q _ (.bl _)
  · split at q
    · rename_i h
      exact .inr ⟨_, _, (ra.dp s (shaped_nodict h.1)).l2, (rb.dp s (shaped_nodict h.2)).l2, h.1, h.2, Fin.okk (x := PyData.bool _) K W σ s q _ (.bl _)⟩
    · exact q.elim
theorem rd_ne : RD K (rNe2 K) neD := fun W σ F H x y a b Q s ra rb q => by
  unfold neD at q
  unfold eqB at q
  split at q
  · refine .inl ⟨by rw [ra.int, rb.int]; rfl, ?_⟩
    rw [ra.int, rb.int, dec_inj_int]
    exact Fin.okk (x := PyData.bool _) K W σ s q _ (.bl _)
  · refine .inl ⟨by rw [ra.str, rb.str]; rfl, ?_⟩
    rw [ra.str, rb.str, dec_inj_str]
    exact Fin.okk (x := PyData.bool _) K W σ s q _ (.bl _)
  · refine .inl ⟨by rw [ra.bool, rb.bool]; rfl, ?_⟩
    rw [ra.bool, rb.bool, dec_inj_bl]
    exact Fin.okk (x := PyData.bool _) K W σ s q _ (.bl _)
  · split at q
    · rename_i h
      exact .inr ⟨_, _, (ra.dp s (shaped_nodict h.1)).l2, (rb.dp s (shaped_nodict h.2)).l2, h.1, h.2, Fin.okk (x := PyData.bool _) K W σ s q _ (.bl _)⟩
    · exact q.elim
/-- is None -/
def isNB : PD → Bool
  | .none => true
  | _ => false
def isND : PD → PD → R PD := fun a b => match b with
  | .none => .ok (.bool (isNB a))
  | _ => .bad
def notND : PD → PD → R PD := fun a b => match b with
  | .none => .ok (.bool (!isNB a))
  | _ => .bad
theorem isN_ok {F H : Hp} {x : V} {a : PD} (ra : Rp K F H x a) : decide (x = .non) = isNB a := by
  rcases ra with h | ⟨p, rfl, h⟩
  · cases h <;> simp [isNB]
  · cases a with
    | list ds => simp [isNB]
    | dict kvs => simp [isNB]
    | _ => exact h.elim
theorem rd_isN : RD K (fun x y H Q => y = .non ∧ Q (.bl (decide (x = .non))) H) isND := fun W σ F H x y a b Q s ra rb q => by
  unfold isND at q
  split at q
  · refine ⟨rb.none, ?_⟩
    rw [isN_ok ra]
    exact q.ok s _ (.bl _)
  · exact q.elim
theorem rd_notN : RD K (fun x y H Q => y = .non ∧ Q (.bl (!decide (x = .non))) H) notND := fun W σ F H x y a b Q s ra rb q => by
  unfold notND at q
  split at q
  · refine ⟨rb.none, ?_⟩
    rw [isN_ok ra]
    exact q.ok s _ (.bl _)
  · exact q.elim
/-- in: a text in a text; flat data in a list or tuple of flat data; data in a list -/
def flatP : PD → Bool
  | .none => true
  | .bool _ => true
  | .int _ => true
  | .str _ => true
  | _ => false
def inS (i j : Str) : Bool := !(Builtin.Str.occurrences j i 0 j.length 1).isEmpty
def eqF : PD → PD → Bool
  | .none, .none => true
  | .bool a, .bool b => a == b
  | .bool a, .int b => (if a then 1 else 0) == b
  | .int a, .bool b => a == (if b then 1 else 0)
  | .int a, .int b => a == b
  | .str a, .str b => a == b
  | _, _ => false
def inB : PD → PD → R Bool
  | .str i, .str j => .ok (inS i j)
  | a, .list ds => if flatP a = true ∧ ds.all flatP = true then .ok (ds.any fun d => eqF d a)
      else if SeqAt.shaped a = true ∧ SeqAt.shaped (.list ds) = true then .ok (ds.any fun z => PyData.eqv z a) else .bad
  | a, .tuple ds => if flatP a = true ∧ ds.all flatP = true then .ok (ds.any fun d => eqF d a) else .bad
  | _, _ => .bad
def inD : PD → PD → R PD := fun a b => (inB a b).bind fun c => .ok (.bool c)
def ninD : PD → PD → R PD := fun a b => (inB a b).bind fun c => .ok (.bool !c)
theorem flat_ok {F H : Hp} {v : V} {d : PD} (r : Rp K F H v d) (h : flatP d = true) : flatV v = true := by
  rcases r with r | ⟨p, rfl, r⟩
  · cases r <;> first | rfl | cases h
  · cases d <;> first | exact False.elim r | cases h
theorem flats_ok {F : Hp} : ∀ {vs : List V} {ds : List PD}, DpAll K F vs ds → ds.all flatP = true → vs.all flatV = true
  | _, _, .nil, _ => rfl
  | _, _, .cons r t, h => by
    rw [List.all_cons, Bool.and_eq_true] at h ⊢
    exact ⟨flat_ok (F := F) (H := F) (.inl r) h.1, flats_ok t h.2⟩
theorem eqV_ok {F F' H : Hp} {v u : V} {d e : PD} (r : Dp K F v d) (r' : Rp K F' H u e) (h : flatP d = true) (h' : flatP e = true) : eqV v u = eqF d e := by
  rcases r' with r' | ⟨p, rfl, r'⟩
  · cases r <;> (try cases h) <;> cases r' <;> (try cases h') <;> rfl
  · cases e <;> first | exact False.elim r' | cases h'
theorem any_ok {F F' H : Hp} {u : V} {e : PD} (r' : Rp K F' H u e) (h' : flatP e = true) : ∀ {vs : List V} {ds : List PD}, DpAll K F vs ds → ds.all flatP = true → inV u vs = ds.any fun d => eqF d e
  | _, _, .nil, _ => rfl
  | _, _, .cons r t, h => by
    rw [List.all_cons, Bool.and_eq_true] at h
    have ih := any_ok r' h' t h.2
    unfold inV at ih ⊢
    rw [List.any_cons, List.any_cons, ih, eqV_ok r r' h.1 h']
def rIn2 (K : PySem.W.Frag) : R2 := fun x y H Q => (∃ i j, x = .str i ∧ y = .str j ∧ Q (.bl (!(Builtin.Str.occurrences j i 0 j.length 1).isEmpty)) H) ∨ rIn K false x y H Q ∨ rInD K x y H Q
def rNin2 (K : PySem.W.Frag) : R2 := fun x y H Q => (∃ i j, x = .str i ∧ y = .str j ∧ Q (.bl (!(!(Builtin.Str.occurrences j i 0 j.length 1).isEmpty))) H) ∨ rIn K true x y H Q ∨ rNotInD K x y H Q
theorem op_in2 {X : Cx} (hu : X.A.units + 65 < cLine) : OpR X (compareOp .In) (rIn2 X.K) := op_in_str.or (op_in_seq.or (op_inD hu))
theorem op_nin2 {X : Cx} (hu : X.A.units + 65 < cLine) : OpR X (compareOp .NotIn) (rNin2 X.K) := op_notIn_str.or (op_notIn_seq.or (op_notInD hu))
theorem rd_in : RD K (rIn2 K) inD := fun W σ F H x y a b Q s ra rb q => by
  unfold inD at q
  unfold inB at q
  split at q
  · exact .inl ⟨_, _, ra.str, rb.str, Fin.okk (x := PyData.bool _) K W σ s q _ (.bl _)⟩
  · split at q
    · rename_i h
      obtain ⟨p, vs, rfl, s1, r1⟩ := rb.list s
      refine .inr (.inl ⟨p, vs, rfl, .inl (.inl s1), flat_ok ra h.1, flats_ok r1 h.2, ?_⟩)
      rw [if_neg Bool.false_ne_true, any_ok ra h.1 r1 h.2]
      exact Fin.okk (x := PyData.bool _) K W σ s q _ (.bl _)
    · split at q
      · rename_i h
        exact .inr (.inr ⟨_, _, (ra.dp s (shaped_nodict h.1)).l2, (rb.dp s (shaped_nodict h.2)).l2, h.1, h.2, Fin.okk (x := PyData.bool _) K W σ s q _ (.bl _)⟩)
      · exact q.elim
  · split at q
    · rename_i h
      obtain ⟨p, vs, rfl, s1, r1⟩ := rb.tuple s
      refine .inr (.inl ⟨p, vs, rfl, .inr s1, flat_ok ra h.1, flats_ok r1 h.2, ?_⟩)
      rw [if_neg Bool.false_ne_true, any_ok ra h.1 r1 h.2]
      exact Fin.okk (x := PyData.bool _) K W σ s q _ (.bl _)
    · exact q.elim
  · exact q.elim
theorem rd_nin : RD K (rNin2 K) ninD := fun W σ F H x y a b Q s ra rb q => by
  unfold ninD at q
  unfold inB at q
  split at q
  · exact .inl ⟨_, _, ra.str, rb.str, Fin.okk (x := PyData.bool _) K W σ s q _ (.bl _)⟩
  · split at q
    · rename_i h
      obtain ⟨p, vs, rfl, s1, r1⟩ := rb.list s
      refine .inr (.inl ⟨p, vs, rfl, .inl (.inl s1), flat_ok ra h.1, flats_ok r1 h.2, ?_⟩)
      rw [if_pos rfl, any_ok ra h.1 r1 h.2]
      exact Fin.okk (x := PyData.bool _) K W σ s q _ (.bl _)
    · split at q
      · rename_i h
        exact .inr (.inr ⟨_, _, (ra.dp s (shaped_nodict h.1)).l2, (rb.dp s (shaped_nodict h.2)).l2, h.1, h.2, Fin.okk (x := PyData.bool _) K W σ s q _ (.bl _)⟩)
      · exact q.elim
  · split at q
    · rename_i h
      obtain ⟨p, vs, rfl, s1, r1⟩ := rb.tuple s
      refine .inr (.inl ⟨p, vs, rfl, .inr s1, flat_ok ra h.1, flats_ok r1 h.2, ?_⟩)
      rw [if_pos rfl, any_ok ra h.1 r1 h.2]
      exact Fin.okk (x := PyData.bool _) K W σ s q _ (.bl _)
    · exact q.elim
  · exact q.elim

/-! ### items, slices -/
theorem atI_ok {F : Hp} {vs : List V} {ds : List PD} {i : Int} {d : PD} (r : DpAll K F vs ds) (h : atI ds i = some d) : ∃ v, atI vs i = some v ∧ Dp K F v d := by
  unfold atI at h ⊢
  rw [r.length]
  cases e : ixN ds.length i with
  | none => rw [e] at h; cases h
  | some j =>
    rw [e] at h
    exact r.get' h
def ixD : PD → PD → R PD
  | .list ds, .int i => (match atI ds i with
    | some d => .ok d
    | none => .bad)
  | .tuple ds, .int i => (match atI ds i with
    | some d => .ok d
    | none => .bad)
  | .str z, .int i => if z.length ≤ sizeLine then (match atI z.cps.toList i with
    | some c => .ok (.str ⟨#[c]⟩)
    | none => .bad) else .bad
  | _, _ => .bad
theorem rd_ix : RD K (rIx K) ixD := fun W σ F H x y a b Q s ra rb q => by
  unfold ixD at q
  split at q
  · split at q
    · rename_i d e
      obtain ⟨p, vs, rfl, s1, r1⟩ := ra.list s
      obtain ⟨v, h1, h2⟩ := atI_ok r1 e
      exact .inl ⟨p, vs, _, v, rfl, rb.int, .inl s1, h1, q.ok s _ h2⟩
    · exact q.elim
  · split at q
    · rename_i d e
      obtain ⟨p, vs, rfl, s1, r1⟩ := ra.tuple s
      obtain ⟨v, h1, h2⟩ := atI_ok r1 e
      exact .inr (.inl ⟨p, vs, _, v, rfl, rb.int, s1, h1, q.ok s _ h2⟩)
    · exact q.elim
  · split at q
    · rename_i hz
      split at q
      · rename_i c e
        exact .inr (.inr ⟨_, _, c, ra.str, rb.int, hz, e, q.ok s _ (.str _)⟩)
      · exact q.elim
    · exact q.elim
  · exact q.elim
def TDp (K : PySem.W.Frag) (W : WX) (t : TO) (g : Rho → R (Option Int)) : Prop := ∀ (F0 H0 F H : Hp) (σ : L2.St) (ρ : Rho) (Q : Option Int → Hp → Prop), StR K F0 H0 F H σ ρ → Fin K W σ F H (g ρ) (fun o _ H' => Q o H') → t σ H Q
def pNo : Rho → R (Option Int) := fun _ => .ok none
def asI : PD → R Int
  | .int i => .ok i
  | _ => .bad
def pSo (g : Rho → R PD) : Rho → R (Option Int) := fun ρ => (g ρ).bind fun a => (asI a).bind fun i => .ok (some i)
variable {W : WX}
theorem tp_no : TDp K W tNoPart pNo := fun F0 H0 F H σ ρ Q S q => q.ok S.same
theorem tp_some {t : TE} {g : Rho → R PD} (h : TDr K W t g) : TDp K W (tPart t) (pSo g) := fun F0 H0 F H σ ρ Q S q =>
  h F0 H0 F H σ ρ _ S (q.then fun a F1 H1 e1 k1 v rv => by
    cases a with
    | int i => exact ⟨i, rv.int, Fin.okk (x := some i) K W σ e1.g k1⟩
    | _ => exact k1.elim)
def cutD (ds : List PD) (lo hi : Option Int) : List PD := (ds.drop (HT.sIx ds.length 0 lo)).take (HT.sIx ds.length ds.length hi - HT.sIx ds.length 0 lo)
theorem cut_ok {F : Hp} {vs : List V} {ds : List PD} {lo hi : Option Int} (r : DpAll K F vs ds) : DpAll K F (cutV vs lo hi) (cutD ds lo hi) := by
  unfold cutV cutD
  rw [r.length]
  exact (r.drop _).take _
def rSl2 (K : PySem.W.Frag) : V → Option Int → Option Int → Hp → VK → Prop := fun x lo hi H Q => rSlL K x lo hi H Q ∨ rSlA K x lo hi H Q ∨ rSlS x lo hi H Q
theorem sl_2 {X : Cx} : SlR X (rSl2 X.K) := sl_list.or (sl_tupA.or sl_str)
def slD (a : PD) (lo hi : Option Int) : R PD := match a with
  | .list ds => .ok (.list (cutD ds lo hi))
  | .tuple ds => .ok (.tuple (cutD ds lo hi))
  | .str z => if z.length ≤ sizeLine then .ok (.str (cutS z lo hi)) else .bad
  | _ => .bad
def eSl (g : Rho → R PD) (gl gh : Rho → R (Option Int)) : Rho → R PD := fun ρ => (g ρ).bind fun a => (gl ρ).bind fun l => (gh ρ).bind fun h => slD a l h
theorem cut_whole (vs : List V) {lo hi : Option Int} (h : HT.sIx vs.length 0 lo = 0 ∧ HT.sIx vs.length vs.length hi = vs.length) : cutV vs lo hi = vs := by
  unfold cutV
  rw [h.1, h.2]
  simp
theorem cut_same {F : Hp} {vs : List V} {ds : List PD} {lo hi : Option Int} (r : DpAll K F vs ds) (h : HT.sIx vs.length 0 lo = 0 ∧ HT.sIx vs.length vs.length hi = vs.length) : cutD ds lo hi = ds := by
  unfold cutD
  rw [r.length] at h
  rw [h.1, h.2]
  simp
theorem td_sl {t : TE} {g : Rho → R PD} {tl th : TO} {gl gh : Rho → R (Option Int)} (h : TDr K W t g) (hl : TDp K W tl gl) (hh : TDp K W th gh) : TDe K W (tSl (rSl2 K) t tl th) (eSl g gl gh) := fun F0 H0 F H σ ρ Q S q =>
  h F0 H0 F H σ ρ _ S (q.then fun a F1 H1 e1 k1 v rv => hl F0 H0 F1 H1 σ ρ _ (S.go e1) (k1.then fun lo F2 H2 e2 k2 => hh F0 H0 F2 H2 σ ρ _ ((S.go e1).go e2) (k2.then fun hi F3 H3 e3 k3 => by
    have rv := (rv.ext e2.f e2.h).ext e3.f e3.h
    unfold slD at k3
    split at k3
    · obtain ⟨p, vs, rfl, s1, r1⟩ := rv.list e3.g
      exact .inl ⟨p, vs, rfl, .inl s1, fun p hp => new_lst e3.g (cut_ok r1) k3 hp⟩
    · obtain ⟨p, vs, rfl, s1, r1⟩ := rv.tuple e3.g
      refine .inr (.inl ⟨p, vs, rfl, s1, fun hw => ?_, fun hw p hp => new_tup e3.g (cut_ok r1) k3 hp⟩)
      have e := cut_ok (lo := lo) (hi := hi) r1
      rw [cut_whole vs hw] at e
      refine Fin.okk (x := PyData.tuple _) K W σ e3.g k3 _ ?_
      rcases rv with rv | ⟨p', e', z⟩
      · rw [cut_same r1 hw]
        exact rv
      · exact z.elim
    · split at k3
      · rename_i hz
        exact .inr (.inr ⟨_, rv.str, hz, Fin.okk (x := PyData.str _) K W σ e3.g k3 _ (.str _)⟩)
      · exact k3.elim
    · exact k3.elim)))
def slL (a : PD) (lo hi : Option Int) : R PD := match a with
  | .list ds => .ok (.list (cutD ds lo hi))
  | _ => .bad
def oSl (g : Rho → R PD) (gl gh : Rho → R (Option Int)) : Rho → R PD := fun ρ => (g ρ).bind fun a => (gl ρ).bind fun l => (gh ρ).bind fun h => slL a l h
/-- readings whose result is new: the start's heap is told -/
theorem OwQ.back {F H F1 H1 : Hp} {σ : L2.St} {r : R PD} {Q : VK} (e : Ext F H F1 H1) (h : Fin K W σ F1 H1 r (OwQ K H Q)) : Fin K W σ F1 H1 r (OwQ K H1 Q) :=
  h.imp fun x F' H' e2 k p hp hf ho => k p (e.h.free hp) hf ho
theorem to_sl {t : TE} {g : Rho → R PD} {tl th : TO} {gl gh : Rho → R (Option Int)} (h : TDr K W t g) (hl : TDp K W tl gl) (hh : TDp K W th gh) : TDo K W (tSl (rSl2 K) t tl th) (oSl g gl gh) := fun F0 H0 F H σ ρ Q S q =>
  h F0 H0 F H σ ρ _ S (q.then fun a F1 H1 e1 k1 v rv => hl F0 H0 F1 H1 σ ρ _ (S.go e1) (k1.then fun lo F2 H2 e2 k2 => hh F0 H0 F2 H2 σ ρ _ ((S.go e1).go e2) (k2.then fun hi F3 H3 e3 k3 => by
    have rv := (rv.ext e2.f e2.h).ext e3.f e3.h
    have k3 := OwQ.back ((e1.trans e2).trans e3) k3
    unfold slL at k3
    split at k3
    · obtain ⟨p, vs, rfl, s1, r1⟩ := rv.list e3.g
      exact .inl ⟨p, vs, rfl, .inl s1, fun p hp => own_lst e3.g (cut_ok r1) k3 hp⟩
    · exact k3.elim)))

/-! ### built-in functions by name -/
def RC (K : PySem.W.Frag) (r : List V → Hp → VK → Prop) (f : List PD → R PD) : Prop := ∀ (W : WX) (σ : L2.St) (F H : Hp) (vs : List V) (ds : List PD) (Q : VK), Same F H → RpAll K F H vs ds → Fin K W σ F H (f ds) (DpQ K Q) → r vs H Q
def RCo (K : PySem.W.Frag) (r : List V → Hp → VK → Prop) (f : List PD → R PD) : Prop := ∀ (W : WX) (σ : L2.St) (F H : Hp) (vs : List V) (ds : List PD) (Q : VK), Same F H → RpAll K F H vs ds → Fin K W σ F H (f ds) (OwQ K H Q) → r vs H Q
variable {ta : TA} {ga : Rho → R (List PD)} {r : List V → Hp → VK → Prop} {f : List PD → R PD}
def eCB (f : List PD → R PD) (ga : Rho → R (List PD)) : Rho → R PD := fun ρ => (ga ρ).bind f
theorem td_cb (hr : RC K r f) (h : TDq K W ta ga) : TDe K W (tCB r ta) (eCB f ga) := fun F0 H0 F H σ ρ Q S q =>
  h F0 H0 F H σ ρ _ S (q.then fun ds F1 H1 e1 k1 vs rs => hr W σ F1 H1 vs ds Q e1.g rs k1)
theorem to_cb (hr : RCo K r f) (h : TDq K W ta ga) : TDo K W (tCB r ta) (eCB f ga) := fun F0 H0 F H σ ρ Q S q =>
  h F0 H0 F H σ ρ _ S (q.then fun ds F1 H1 e1 k1 vs rs => hr W σ F1 H1 vs ds Q e1.g rs (OwQ.back e1 k1))
theorem RpAll.one {F H : Hp} {vs : List V} {d : PD} (r : RpAll K F H vs [d]) : ∃ v, vs = [v] ∧ Rp K F H v d := by
  cases r with
  | cons a b => cases b; exact ⟨_, rfl, a⟩
theorem RpAll.two {F H : Hp} {vs : List V} {d e : PD} (r : RpAll K F H vs [d, e]) : ∃ v u, vs = [v, u] ∧ Rp K F H v d ∧ Rp K F H u e := by
  cases r with
  | cons a b =>
    obtain ⟨u, rfl, c⟩ := b.one
    exact ⟨_, _, rfl, a, c⟩
def lenD : List PD → R PD
  | [.list ds] => .ok (.int ds.length)
  | [.tuple ds] => .ok (.int ds.length)
  | [.str z] => if z.length ≤ sizeLine then .ok (.int z.length) else .bad
  | _ => .bad
theorem rc_len : RC K (fun xs H Q => ∃ x n, xs = [x] ∧ LenV K x H n ∧ Q (.int n) H) lenD := fun W σ F H vs ds Q s rs q => by
  unfold lenD at q
  split at q
  · obtain ⟨v, rfl, r⟩ := rs.one
    obtain ⟨p, us, rfl, s1, r1⟩ := r.list s
    exact ⟨_, _, rfl, .inl ⟨us, .inl s1, r1.length.symm⟩, q.ok s _ (.int _)⟩
  · obtain ⟨v, rfl, r⟩ := rs.one
    obtain ⟨p, us, rfl, s1, r1⟩ := r.tuple s
    exact ⟨_, _, rfl, .inr ⟨us, s1, r1.length.symm⟩, q.ok s _ (.int _)⟩
  · split at q
    · rename_i hz
      obtain ⟨v, rfl, r⟩ := rs.one
      exact ⟨_, _, rfl, by rw [r.str]; exact ⟨hz, rfl⟩, q.ok s _ (.int _)⟩
    · exact q.elim
  · exact q.elim
def rList (K : PySem.W.Frag) : List V → Hp → VK → Prop := fun xs H Q => ∃ p ys, xs = [.ref p] ∧ (SqL K H p ys ∨ SqT K H p ys) ∧ ∀ l, H l = none → Q (.ref l) (upd H l (.lst ys))
def listD : List PD → R PD
  | [.list ds] => .ok (.list ds)
  | [.tuple ds] => .ok (.list ds)
  | _ => .bad
theorem rco_list : RCo K (rList K) listD := fun W σ F H vs ds Q s rs q => by
  unfold listD at q
  split at q
  · obtain ⟨v, rfl, r⟩ := rs.one
    obtain ⟨p, us, rfl, s1, r1⟩ := r.list s
    exact ⟨_, _, rfl, .inl (.inl s1), fun l hl => own_lst s r1 q hl⟩
  · obtain ⟨v, rfl, r⟩ := rs.one
    obtain ⟨p, us, rfl, s1, r1⟩ := r.tuple s
    exact ⟨_, _, rfl, .inr s1, fun l hl => own_lst s r1 q hl⟩
  · exact q.elim
def rTuple (K : PySem.W.Frag) : List V → Hp → VK → Prop := fun xs H Q => ∃ p ys, xs = [.ref p] ∧ ((SqL K H p ys ∧ ∀ l, H l = none → Q (.ref l) (upd H l (.tup ys))) ∨ (SqT K H p ys ∧ Q (.ref p) H))
def tupleD : List PD → R PD
  | [.list ds] => .ok (.tuple ds)
  | [.tuple ds] => .ok (.tuple ds)
  | _ => .bad
theorem rc_tuple : RC K (rTuple K) tupleD := fun W σ F H vs ds Q s rs q => by
  unfold tupleD at q
  split at q
  · obtain ⟨v, rfl, r⟩ := rs.one
    obtain ⟨p, us, rfl, s1, r1⟩ := r.list s
    exact ⟨_, _, rfl, .inl ⟨.inl s1, fun l hl => new_tup s r1 q hl⟩⟩
  · obtain ⟨v, rfl, r⟩ := rs.one
    obtain ⟨p, us, rfl, s1, r1⟩ := r.tuple s
    refine ⟨_, _, rfl, .inr ⟨s1, ?_⟩⟩
    rcases r with r | ⟨p', e, z⟩
    · exact q.ok s _ r
    · exact z.elim
  · exact q.elim
/-- all of one kind -/
def asInts : List PD → Option (List Int)
  | [] => some []
  | .int i :: ds => (asInts ds).map (i :: ·)
  | _ => none
theorem asInts_ok : ∀ {ds : List PD} {ns : List Int}, asInts ds = some ns → ds = ns.map PyData.int
  | [], _, h => by cases h; rfl
  | d :: ds, ns, h => by
    cases d with
    | int i =>
      have h : (asInts ds).map (i :: ·) = some ns := h
      cases e : asInts ds with
      | none => rw [e] at h; cases h
      | some l => rw [e] at h; cases h; rw [asInts_ok e]; rfl
    | _ => cases h
theorem asInts_map : ∀ ns : List Int, asInts (ns.map PyData.int) = some ns
  | [] => rfl
  | n :: ns => by
    show (asInts (ns.map PyData.int)).map (n :: ·) = _
    rw [asInts_map ns]; rfl
def asStrs : List PD → Option (List Str)
  | [] => some []
  | .str i :: ds => (asStrs ds).map (i :: ·)
  | _ => none
theorem asStrs_ok : ∀ {ds : List PD} {ns : List Str}, asStrs ds = some ns → ds = ns.map PyData.str
  | [], _, h => by cases h; rfl
  | d :: ds, ns, h => by
    cases d with
    | str i =>
      have h : (asStrs ds).map (i :: ·) = some ns := h
      cases e : asStrs ds with
      | none => rw [e] at h; cases h
      | some l => rw [e] at h; cases h; rw [asStrs_ok e]; rfl
    | _ => cases h
theorem asStrs_map : ∀ ns : List Str, asStrs (ns.map PyData.str) = some ns
  | [] => rfl
  | n :: ns => by
    show (asStrs (ns.map PyData.str)).map (n :: ·) = _
    rw [asStrs_map ns]; rfl
def asBools : List PD → Option (List Bool)
  | [] => some []
  | .bool i :: ds => (asBools ds).map (i :: ·)
  | _ => none
theorem asBools_ok : ∀ {ds : List PD} {ns : List Bool}, asBools ds = some ns → ds = ns.map PyData.bool
  | [], _, h => by cases h; rfl
  | d :: ds, ns, h => by
    cases d with
    | bool i =>
      have h : (asBools ds).map (i :: ·) = some ns := h
      cases e : asBools ds with
      | none => rw [e] at h; cases h
      | some l => rw [e] at h; cases h; rw [asBools_ok e]; rfl
    | _ => cases h
theorem asBools_map : ∀ ns : List Bool, asBools (ns.map PyData.bool) = some ns
  | [] => rfl
  | n :: ns => by
    show (asBools (ns.map PyData.bool)).map (n :: ·) = _
    rw [asBools_map ns]; rfl
def sumD : List PD → R PD
  | [.list ds] => (match asInts ds with
    | some ns => .ok (.int ns.sum)
    | none => .bad)
  | _ => .bad
theorem rc_sum : RC K (rSum K) sumD := fun W σ F H vs ds Q s rs q => by
  unfold sumD at q
  split at q
  · split at q
    · rename_i ns e
      obtain ⟨v, rfl, r⟩ := rs.one
      obtain ⟨p, us, rfl, s1, r1⟩ := r.list s
      rw [asInts_ok e] at r1
      have e2 := r1.of_ints
      subst e2
      exact ⟨p, ns, rfl, .inl s1, q.ok s _ (.int _)⟩
    · exact q.elim
  · exact q.elim
def anyD : List PD → R PD
  | [.list ds] => (match asBools ds with
    | some bs => .ok (.bool (bs.any id))
    | none => .bad)
  | _ => .bad
def allD : List PD → R PD
  | [.list ds] => (match asBools ds with
    | some bs => .ok (.bool (bs.all id))
    | none => .bad)
  | _ => .bad
theorem rc_any : RC K (rAny K) anyD := fun W σ F H vs ds Q s rs q => by
  unfold anyD at q
  split at q
  · split at q
    · rename_i ns e
      obtain ⟨v, rfl, r⟩ := rs.one
      obtain ⟨p, us, rfl, s1, r1⟩ := r.list s
      rw [asBools_ok e] at r1
      have e2 := r1.of_bls
      subst e2
      exact ⟨p, ns, rfl, .inl s1, q.ok s _ (.bl _)⟩
    · exact q.elim
  · exact q.elim
theorem rc_all : RC K (rAll K) allD := fun W σ F H vs ds Q s rs q => by
  unfold allD at q
  split at q
  · split at q
    · rename_i ns e
      obtain ⟨v, rfl, r⟩ := rs.one
      obtain ⟨p, us, rfl, s1, r1⟩ := r.list s
      rw [asBools_ok e] at r1
      have e2 := r1.of_bls
      subst e2
      exact ⟨p, ns, rfl, .inl s1, q.ok s _ (.bl _)⟩
    · exact q.elim
  · exact q.elim
def rMax2 : List V → Hp → VK → Prop := fun xs H Q => ∃ i j, xs = [.int i, .int j] ∧ Q (.int (if j > i then j else i)) H
def rMin2 : List V → Hp → VK → Prop := fun xs H Q => ∃ i j, xs = [.int i, .int j] ∧ Q (.int (if j < i then j else i)) H
def max2D : List PD → R PD
  | [.int i, .int j] => .ok (.int (if j > i then j else i))
  | _ => .bad
def min2D : List PD → R PD
  | [.int i, .int j] => .ok (.int (if j < i then j else i))
  | _ => .bad
theorem rc_max2 : RC K rMax2 max2D := fun W σ F H vs ds Q s rs q => by
  unfold max2D at q
  split at q
  · obtain ⟨v, u, rfl, r1, r2⟩ := rs.two
    exact ⟨_, _, by rw [r1.int, r2.int], q.ok s _ (.int _)⟩
  · exact q.elim
theorem rc_min2 : RC K rMin2 min2D := fun W σ F H vs ds Q s rs q => by
  unfold min2D at q
  split at q
  · obtain ⟨v, u, rfl, r1, r2⟩ := rs.two
    exact ⟨_, _, by rw [r1.int, r2.int], q.ok s _ (.int _)⟩
  · exact q.elim
/-- str(n) -/
def strD : List PD → R PD
  | [.int i] => if i.natAbs.log2 < 1920 then .ok (.str (toString i)) else .bad
  | _ => .bad
theorem rc_str : RC K (fun xs H Q => ∃ i : Int, xs = [.int i] ∧ i.natAbs.log2 < 1920 ∧ Q (.str (toString i)) H) strD := fun W σ F H vs ds Q s rs q => by
  unfold strD at q
  split at q
  · split at q
    · rename_i h
      obtain ⟨v, rfl, r1⟩ := rs.one
      exact ⟨_, by rw [r1.int], h, q.ok s _ (.str _)⟩
    · exact q.elim
  · exact q.elim
/-- int(n), int(flag), int(text) -/
def rInt : List V → Hp → VK → Prop := fun xs H Q => ((∃ i, xs = [.int i] ∧ Q (.int i) H) ∨ ∃ k, xs = [.bl k] ∧ Q (.int (if k then 1 else 0)) H) ∨ ∃ a n, xs = [.str a] ∧ PySem.intText? a = some n ∧ a.length ≤ 640 ∧ Q (.int n) H
theorem call_int3 {X : Cx} : CallR X (.type "int") rInt := call_int1.or call_int_str
def intD : List PD → R PD
  | [.int i] => .ok (.int i)
  | [.bool k] => .ok (.int (if k = true then 1 else 0))
  | [.str a] => (match PySem.intText? a with
    | some n => if a.length ≤ 640 then .ok (.int n) else .bad
    | none => .bad)
  | _ => .bad
theorem rc_int : RC K rInt intD := fun W σ F H vs ds Q s rs q => by
  unfold intD at q
  split at q
  · obtain ⟨v, rfl, r1⟩ := rs.one
    exact .inl (.inl ⟨_, by rw [r1.int], q.ok s _ (.int _)⟩)
  · obtain ⟨v, rfl, r1⟩ := rs.one
    exact .inl (.inr ⟨_, by rw [r1.bool], q.ok s _ (.int _)⟩)
  · split at q
    · rename_i n e
      split at q
      · rename_i h
        obtain ⟨v, rfl, r1⟩ := rs.one
        exact .inr ⟨_, _, by rw [r1.str], e, h, q.ok s _ (.int _)⟩
      · exact q.elim
    · exact q.elim
  · exact q.elim
/-- isinstance(x, T), T a built-in type written -/
def tyName : PD → Option String
  | .none => some "NoneType"
  | .bool _ => some "bool"
  | .int _ => some "int"
  | .str _ => some "str"
  | .list _ => some "list"
  | .tuple _ => some "tuple"
  | .dict _ => none
def isiB (T : String) (a : PD) : Option Bool := (tyName a).bind fun n => kitB n T
def isiD (T : String) : PD → R PD := fun a => match isiB T a with
  | some b => .ok (.bool b)
  | none => .bad
theorem tyX_of {F H : Hp} {x : V} {a : PD} {n : String} (s : Same F H) (ra : Rp K F H x a) (h : tyName a = some n) : TyX K H x (.type n) := by
  cases a with
  | none => cases h; rw [ra.none]; exact .base .non
  | bool b => cases h; rw [ra.bool]; exact .base (.bl b)
  | int b => cases h; rw [ra.int]; exact .base (.int b)
  | str b => cases h; rw [ra.str]; exact .base (.str b)
  | list ds =>
    cases h
    obtain ⟨p, vs, rfl, s1, r1⟩ := ra.list s
    rcases s1 with z | ⟨o, z⟩
    · exact .base (.lst z)
    · exact .base (.frz z)
  | tuple ds =>
    cases h
    obtain ⟨p, vs, rfl, s1, r1⟩ := ra.tuple s
    rcases s1 with (z | ⟨o, z⟩) | ⟨o, its, n, z1, z2, _⟩
    · exact .base (.tup z)
    · exact .fTuple z
    · exact .kTuple z1 z2
  | dict kvs => cases h
def eIsi (T : String) (g : Rho → R PD) : Rho → R PD := fun ρ => (g ρ).bind (isiD T)
theorem td_isi {t : TE} {g : Rho → R PD} {T : String} (h : TDr K W t g) : TDe K W (tCB (rIsi K) (tCons t (tCons (tC (.ty T)) tNil))) (eIsi T g) := fun F0 H0 F H σ ρ Q S q =>
  h F0 H0 F H σ ρ _ S (q.then fun a F1 H1 e1 k1 v rv => by
    unfold isiD at k1
    split at k1
    · rename_i b e
      unfold isiB at e
      cases en : tyName a with
      | none => rw [en] at e; cases e
      | some n =>
        rw [en] at e
        exact ⟨v, .ty T, .type n, .type T, b, rfl, .ty T, tyX_of e1.g rv en, kit_ty e, k1.ok e1.g _ (.bl b)⟩
    · exact k1.elim)

/-! ### methods of texts -/
def RM (K : PySem.W.Frag) (r : V → List V → Hp → VK → Prop) (f : PD → List PD → R PD) : Prop := ∀ (W : WX) (σ : L2.St) (F H : Hp) (x : V) (a : PD) (vs : List V) (ds : List PD) (Q : VK), Same F H → Rp K F H x a → RpAll K F H vs ds → Fin K W σ F H (f a ds) (DpQ K Q) → r x vs H Q
def RMo (K : PySem.W.Frag) (r : V → List V → Hp → VK → Prop) (f : PD → List PD → R PD) : Prop := ∀ (W : WX) (σ : L2.St) (F H : Hp) (x : V) (a : PD) (vs : List V) (ds : List PD) (Q : VK), Same F H → Rp K F H x a → RpAll K F H vs ds → Fin K W σ F H (f a ds) (OwQ K H Q) → r x vs H Q
def strOf (a : PD) (k : R PD) : R PD := match a with
  | .str _ => k
  | _ => .bad
def eM0 (f : PD → List PD → R PD) (g : Rho → R PD) : Rho → R PD := fun ρ => (g ρ).bind fun a => strOf a (f a [])
def eM1 (f : PD → List PD → R PD) (g ge : Rho → R PD) : Rho → R PD := fun ρ => (g ρ).bind fun a => strOf a ((ge ρ).bind fun b => f a [b])
theorem strOf_k {F H : Hp} {σ : L2.St} {a : PD} {x : V} {k : R PD} {P : PD → Hp → Hp → Prop} (ra : Rp K F H x a) (h : Fin K W σ F H (strOf a k) P) : (∃ z, x = .str z) ∧ Fin K W σ F H k P := by
  unfold strOf at h
  split at h
  · exact ⟨⟨_, ra.str⟩, h⟩
  · exact h.elim
variable {t te : TE} {g ge : Rho → R PD} {rm : V → List V → Hp → VK → Prop} {fm : PD → List PD → R PD}
theorem td_m0 (hr : RM K rm fm) (h : TDr K W t g) : TDe K W (tM0 rm t) (eM0 fm g) := fun F0 H0 F H σ ρ Q S q =>
  h F0 H0 F H σ ρ _ S (q.then fun a F1 H1 e1 k1 v rv => by
    obtain ⟨z, k2⟩ := strOf_k rv k1
    exact ⟨z, hr W σ F1 H1 v a [] [] Q e1.g rv .nil k2⟩)
theorem to_m0 (hr : RMo K rm fm) (h : TDr K W t g) : TDo K W (tM0 rm t) (eM0 fm g) := fun F0 H0 F H σ ρ Q S q =>
  h F0 H0 F H σ ρ _ S (q.then fun a F1 H1 e1 k1 v rv => by
    obtain ⟨z, k2⟩ := strOf_k rv k1
    exact ⟨z, hr W σ F1 H1 v a [] [] Q e1.g rv .nil (OwQ.back e1 k2)⟩)
theorem td_m1 (hr : RM K rm fm) (h : TDr K W t g) (he : TDr K W te ge) : TDe K W (tM1 rm t te) (eM1 fm g ge) := fun F0 H0 F H σ ρ Q S q =>
  h F0 H0 F H σ ρ _ S (q.then fun a F1 H1 e1 k1 v rv => by
    obtain ⟨z, k2⟩ := strOf_k rv k1
    exact ⟨z, he F0 H0 F1 H1 σ ρ _ (S.go e1) (k2.then fun b F2 H2 e2 k3 u ru => hr W σ F2 H2 v a [u] [b] Q e2.g (rv.ext e2.f e2.h) (.cons ru .nil) k3)⟩)
theorem to_m1 (hr : RMo K rm fm) (h : TDr K W t g) (he : TDr K W te ge) : TDo K W (tM1 rm t te) (eM1 fm g ge) := fun F0 H0 F H σ ρ Q S q =>
  h F0 H0 F H σ ρ _ S (q.then fun a F1 H1 e1 k1 v rv => by
    obtain ⟨z, k2⟩ := strOf_k rv k1
    exact ⟨z, he F0 H0 F1 H1 σ ρ _ (S.go e1) (k2.then fun b F2 H2 e2 k3 u ru => hr W σ F2 H2 v a [u] [b] Q e2.g (rv.ext e2.f e2.h) (.cons ru .nil) (OwQ.back (e1.trans e2) k3))⟩)
def rSplit : V → List V → Hp → VK → Prop := fun x xs H Q => ∃ a b : Str, x = .str a ∧ xs = [.str b] ∧ (b.length == 0) = false ∧ a.length + 2 ≤ sizeLine ∧ rNewStrs (Txt.split a b) H Q
def splitD : PD → List PD → R PD
  | .str a, [.str b] => if (b.length == 0) = false ∧ a.length + 2 ≤ sizeLine then .ok (.list ((Txt.split a b).map PyData.str)) else .bad
  | _, _ => .bad
theorem rmo_split : RMo K rSplit splitD := fun W σ F H x a vs ds Q s ra rs q => by
  unfold splitD at q
  split at q
  · split at q
    · rename_i h
      obtain ⟨v, rfl, r1⟩ := rs.one
      exact ⟨_, _, ra.str, by rw [r1.str], h.1, h.2, fun p hp => own_lst s DpAll.strs q hp⟩
    · exact q.elim
  · exact q.elim
def rWords : V → List V → Hp → VK → Prop := fun x xs H Q => ∃ a : Str, x = .str a ∧ xs = [] ∧ a.length + 2 ≤ sizeLine ∧ rNewStrs (Txt.words a) H Q
def wordsD : PD → List PD → R PD
  | .str a, [] => if a.length + 2 ≤ sizeLine then .ok (.list ((Txt.words a).map PyData.str)) else .bad
  | _, _ => .bad
theorem rmo_words : RMo K rWords wordsD := fun W σ F H x a vs ds Q s ra rs q => by
  unfold wordsD at q
  split at q
  · split at q
    · rename_i h
      cases rs
      exact ⟨_, ra.str, rfl, h, fun p hp => own_lst s DpAll.strs q hp⟩
    · exact q.elim
  · exact q.elim
def rJoin (K : PySem.W.Frag) : V → List V → Hp → VK → Prop := fun x xs H Q => ∃ a p, ∃ ys : List Str, x = .str a ∧ xs = [.ref p] ∧ (SqL K H p (ys.map V.str) ∨ SqT K H p (ys.map V.str)) ∧
    (ys.map (·.length)).sum + ys.length * a.length ≤ 16777216 ∧ Q (.str (Txt.join a ys)) H
def joinD : PD → List PD → R PD
  | .str a, [.list ds] => (match asStrs ds with
    | some ys => if (ys.map (·.length)).sum + ys.length * a.length ≤ 16777216 then .ok (.str (Txt.join a ys)) else .bad
    | none => .bad)
  | _, _ => .bad
theorem rm_join : RM K (rJoin K) joinD := fun W σ F H x a vs ds Q s ra rs q => by
  unfold joinD at q
  split at q
  · split at q
    · rename_i ys e
      split at q
      · rename_i h
        obtain ⟨v, rfl, r1⟩ := rs.one
        obtain ⟨p, us, rfl, s1, r2⟩ := r1.list s
        rw [asStrs_ok e] at r2
        have e2 := r2.of_strs
        subst e2
        exact ⟨_, p, ys, ra.str, rfl, .inl (.inl s1), h, q.ok s _ (.str _)⟩
      · exact q.elim
    · exact q.elim
  · exact q.elim
def rStarts : V → List V → Hp → VK → Prop := fun x xs H Q => ∃ a b, x = .str a ∧ xs = [.str b] ∧ Q (.bl (Txt.startswith a b)) H
def startsD : PD → List PD → R PD
  | .str a, [.str b] => .ok (.bool (Txt.startswith a b))
  | _, _ => .bad
theorem rm_starts : RM K rStarts startsD := fun W σ F H x a vs ds Q s ra rs q => by
  unfold startsD at q
  split at q
  · obtain ⟨v, rfl, r1⟩ := rs.one
    exact ⟨_, _, ra.str, by rw [r1.str], q.ok s _ (.bl _)⟩
  · exact q.elim
def rCount : V → List V → Hp → VK → Prop := fun x xs H Q => ∃ a b, x = .str a ∧ xs = [.str b] ∧ Q (.int (Txt.count a b)) H
def countD : PD → List PD → R PD
  | .str a, [.str b] => .ok (.int (Txt.count a b))
  | _, _ => .bad
theorem rm_count : RM K rCount countD := fun W σ F H x a vs ds Q s ra rs q => by
  unfold countD at q
  split at q
  · obtain ⟨v, rfl, r1⟩ := rs.one
    exact ⟨_, _, ra.str, by rw [r1.str], q.ok s _ (.int _)⟩
  · exact q.elim

/-! ### lists changed in place: a name's own list -/
def ownL (ρ : Rho) (i : Nat) (k : List PD → SR) : SR := match ρ[i]? with
  | some (some (.o (.list ds))) => k ds
  | _ => .bad
def sAppend (i : Nat) (g : Rho → R PD) : Rho → SR := fun ρ => ownL ρ i fun ds => SR.of (g ρ) fun x => if ds.length < sizeLine then .nx (ρ.set i (some (.o (.list (ds ++ [x]))))) else .bad
theorem ownL_k {F0 H0 F H : Hp} {σ : L2.St} {ρ : Rho} {D : Ends} {i : Nat} {k : List PD → SR} (S : StR K F0 H0 F H σ ρ) (h : FinS K W F0 H0 D (ownL ρ i k)) :
    ∃ p ds vs, ρ[i]? = some (some (Sl.o (.list ds))) ∧ σ[i]? = some (some (.ref p)) ∧ H p = some (.lst vs) ∧ DpAll K F vs ds ∧ FinS K W F0 H0 D (k ds) := by
  unfold ownL at h
  split at h
  · rename_i ds e
    obtain ⟨p, a, b, c, vs, d1, d2⟩ := S.own i _ e
    exact ⟨p, ds, vs, e, a, d1, d2, h⟩
  · exact h.elim
theorem ds_append (i : Nat) (h : TDe K W te g) : TDS K W (tDrop (tBM K "list" rAppend (tVar i) (tCons te tNil))) (sAppend i g) := fun F0 H0 F H σ ρ D S q => by
  obtain ⟨p, ds, vs, h1, h2, h3, h4, k⟩ := ownL_k S q
  refine ⟨.ref p, h2, .inl ⟨rfl, vs, SqL.of h3⟩, h F0 H0 F H σ ρ _ S (k.of S.ext fun x F1 H1 e1 k v rv => ?_)⟩
  have k : FinS K W F0 H0 D (if ds.length < sizeLine then .nx (ρ.set i (some (.o (.list (ds ++ [x]))))) else .bad) := k
  by_cases hl : ds.length < sizeLine
  · rw [if_pos hl] at k
    refine ⟨p, vs, v, rfl, rfl, e1.h p _ h3, by rw [h4.length]; exact hl, ?_⟩
    exact k σ F1 _ ((S.go e1).mut h1 h2 ⟨_, upd_same, (h4.mono e1.f).append (.cons rv .nil)⟩)
  · rw [if_neg hl] at k
    exact k.elim
end
end DL
namespace DL
open PySem PySem.Spec PyProof.Rows L2

/-! ### a written part without lists -/
def isListO (o : Obj) : Bool := match o.cls with
  | .type c => c == "list"
  | _ => false
def frN (g : Addr → Option Obj) (as : List Addr) : PySem.W.Frag := (He.frG g as).filter fun q => !isListO q.2
theorem frG_mem {g : Addr → Option Obj} {as : List Addr} {a : Addr} {ob : Obj} (h : (a, ob) ∈ He.frG g as) : g a = some ob := by
  unfold He.frG at h
  obtain ⟨b, _, e⟩ := List.mem_filterMap.mp h
  cases hb : g b with
  | none =>
    rw [hb] at e
    cases e
  | some u =>
    rw [hb] at e
    have eq2 : (b, u) = (a, ob) := Option.some.inj e
    injection eq2 with e3 e4
    rw [← e3, ← e4]
    exact hb
theorem lookup_mem {a : Addr} {ob : Obj} : ∀ {l : List (Addr × Obj)}, l.lookup a = some ob → (a, ob) ∈ l
  | [], h => by cases h
  | (b, u) :: r, h => by
    have hq : (match a == b with | true => some u | false => r.lookup a) = some ob := h
    cases q : (a == b) with
    | true =>
      rw [q] at hq
      have eo : u = ob := Option.some.inj hq
      rw [beq_iff_eq.mp q, eo]
      exact List.mem_cons_self
    | false =>
      rw [q] at hq
      exact List.mem_cons_of_mem _ (lookup_mem hq)
theorem frN_in {as : List Addr} {h : Heap} : (frN h.get? as).In h := fun a o e => frG_mem (List.mem_filter.mp (lookup_mem e)).1
def NoLists (K : PySem.W.Frag) : Prop := ∀ a o, K.lookup a = some o → o.cls ≠ .type "list"
theorem frN_no {g : Addr → Option Obj} {as : List Addr} : NoLists (frN g as) := fun a o e z => by
  have h := (List.mem_filter.mp (lookup_mem e)).2
  simp only at h
  unfold isListO at h
  rw [z] at h
  simp at h
def obsN (n : Nat) (fa : List He.Fa) (fn : List He.DefD) (ex : PySem.W.Frag → Bool) (g : Addr → Option Obj) : Bool × He.AlD := (ex (frN g (He.asD g n)), He.obsD fa fn (frN g (He.asD g n)))
def hookN (n : Nat) (fa : List He.Fa) (fn : List He.DefD) (ex : PySem.W.Frag → Bool) : PySem.W.Hook where
  α := Bool × He.AlD
  obs := fun s => obsN n fa fn ex s.heap.get?
  val := fun _ => (true, He.valD fn)
  says := fun _ h => ∃ K : PySem.W.Frag, K.In h ∧ NoLists K ∧ ex K = true ∧ He.SaysD fa fn K
  of := fun _ s e => ⟨_, frN_in, frN_no, congrArg Prod.fst e, congrArg Prod.snd e⟩
  keeps := fun _ _ _ ⟨K, hK, c⟩ k => ⟨K, PySem.W.Frag.In.keeps hK k, c⟩
theorem obsN_eq {n : Nat} {fa : List He.Fa} {fn : List He.DefD} {ex : PySem.W.Frag → Bool} {g : Addr → Option Obj} {s : Shared} (h : ∀ a, g a = s.heap.get? a) : obsN n fa fn ex g = (hookN n fa fn ex).obs s := by
  have e : g = s.heap.get? := funext h
  rw [e] <;> rfl

/-! ### defs by name -/
/-- what callers use of a def -/
def Kept (P : Program) (w : World) (K : PySem.W.Frag) (mg : Str → Option Value) (base : Heap) (k n : Nat) (x : Str) (ps : List Str) (f : List PD → FR) : Prop :=
  ∃ fd : FuncData, PySem.W.keepIn K (.ref (He.ga K x)) = true ∧ mg x = some (.ref (He.ga K x)) ∧ Binds K fd ps [] ∧ FnOk P w K mg base (L2.CX P w) k (He.ga K x) fd ps (spD K n f)
theorem hu65 {A : Around} {k : Nat} (hr : Room k A) : A.units + 65 < cLine := by have := hr.un; omega
/-- the law's end -/
theorem law_end {l : PySem.W.OpenLaw} {n k : Nat} {q : Program} {loose : List Str} {XP : (Str → Option Value) → Heap → Prop} {d : DefRec} {fa : List He.Fa} {fn : List He.DefD} {ex : PySem.W.Frag → Bool} {YP : World → Heap → Prop} {x : Str} {f : List PD → FR}
    (hY : YP = (hookN n fa fn ex).says)
    (hn : l.most = some 63) (hdf : d.params.defaults = []) (hr : Room k callerA) (hd : d.name = ("law" : Str))
    (F : ∀ (w : World) (K : PySem.W.Frag) (h : Heap) (mg : Str → Option Value), K.In h → h.Ns mainGlobals mg → ex K = true → He.SaysD fa fn K →
      ∃ fd : FuncData, (∀ (s : Shared) (u : Value), BindsTo s fd ⟨[u], []⟩ [(x, u)]) ∧ mg ("law" : Str) = some (.ref (He.ga K ("law" : Str))) ∧ ∀ base : Heap, K.In base → base.Ns mainGlobals mg → FnOk l.prog w K mg base (L2.CX l.prog w) k (He.ga K ("law" : Str)) fd [x] (spD K 1 f))
    (T : ∀ ns : List Int, ns.length ≤ 63 → f [.list (ns.map PyData.int)] = .rt (.d (.bool true))) :
    PySem.W.WalkO q loose XP YP l.row.toRowW d [] (fun f vs => PySem.call f vs) := by
  subst hY
  refine Att.attach_call hn hdf fun w s₀ s₁ mg mb fa o pm cd doc a vs ns G Y ho hd' hcd hmg hobj hints hlen hg => ?_
  obtain ⟨K, KX, nol, hex, c⟩ := Y
  obtain ⟨fd, hb, hl, hF⟩ := F w K _ mg KX G.T.g hex c
  rw [hd, hl] at hmg
  cases hmg
  exact law_call KX G.T.g G.T.b G.T.builtins G.T.nolimit hg hobj hints (Nat.le_trans hlen (by decide)) hr hF hb (fun H hO hS => by
    refine ⟨rfl, H, [.list (ns.map PyData.int)], Same.refl H, .cons (.lst (xs := ns.map V.int) ?_ DpAll.ints) .nil, ?_⟩
    · rcases hS with h | ⟨o, its, m, h1, h2, _⟩
      · exact h
      · exact absurd h2 (nol _ _ h1)
    · rw [T ns hlen]
      intro v F1 H1 _ r
      cases r
      rfl) fun H e s' z => by
        obtain ⟨_, _, _, _, _, _, _, _, _, _, _, _, z⟩ := z
        exact z

/-! ### built-in names -/
theorem bb_len : bootBuiltins "len" = some (.builtin "len") := by decide +kernel
theorem bb_sum : bootBuiltins "sum" = some (.builtin "sum") := by decide +kernel
theorem bb_any : bootBuiltins "any" = some (.builtin "any") := by decide +kernel
theorem bb_all : bootBuiltins "all" = some (.builtin "all") := by decide +kernel
theorem bb_max : bootBuiltins "max" = some (.builtin "max") := by decide +kernel
theorem bb_min : bootBuiltins "min" = some (.builtin "min") := by decide +kernel
theorem bb_abs : bootBuiltins "abs" = some (.builtin "abs") := by decide +kernel
theorem bb_sorted : bootBuiltins "sorted" = some (.builtin "sorted") := by decide +kernel
theorem bb_isinstance : bootBuiltins "isinstance" = some (.builtin "isinstance") := by decide +kernel
theorem bb_int : bootBuiltins "int" = some (.type "int") := by decide +kernel
theorem bb_str : bootBuiltins "str" = some (.type "str") := by decide +kernel
theorem bb_bool : bootBuiltins "bool" = some (.type "bool") := by decide +kernel
theorem bb_list : bootBuiltins "list" = some (.type "list") := by decide +kernel
theorem bb_tuple : bootBuiltins "tuple" = some (.type "tuple") := by decide +kernel
theorem bb_dict : bootBuiltins "dict" = some (.type "dict") := by decide +kernel

/-! ### constants of the module -/
section
variable {K : PySem.W.Frag} {W : WX}
theorem td_kon {a : Addr} {d : PD} (h : ∀ F, Dp K F (.ref a) d) : TDe K W (tC (.ref a)) (eC d) := fun F0 H0 F H σ ρ Q S q => q.ok S.same _ (h F)
theorem dp_strs {F : Hp} : ∀ xs : List Str, DpAll K F ((xs.map He.Dv.str).map (He.Dv.v K)) (xs.map PyData.str)
  | [] => .nil
  | x :: xs => .cons (.str x) (dp_strs xs)
theorem kon_strs {x : Str} {xs : List Str} (h : He.tupB K x (xs.map He.Dv.str) = true) (F : Hp) : Dp K F (.ref (He.ga K x)) (.tuple (xs.map PyData.str)) := .tup (He.tupB_ok h F) (dp_strs xs)

/-! ### more methods -/
def rSindex : V → List V → Hp → VK → Prop := fun x xs H Q => ∃ a b i rest, x = .str a ∧ xs = [.str b] ∧ Builtin.Str.occurrences a b 0 a.length 1 = i :: rest ∧ Q (.int (i : Nat)) H
def sindexD : PD → List PD → R PD
  | .str a, [.str b] => (match Builtin.Str.occurrences a b 0 a.length 1 with
    | i :: _ => .ok (.int (i : Nat))
    | [] => .bad)
  | _, _ => .bad
theorem rm_sindex : RM K rSindex sindexD := fun W σ F H x a vs ds Q s ra rs q => by
  unfold sindexD at q
  split at q
  · split at q
    · rename_i i r e
      obtain ⟨v, rfl, r1⟩ := rs.one
      exact ⟨_, _, i, r, ra.str, by rw [r1.str], e, q.ok s _ (.int _)⟩
    · exact q.elim
  · exact q.elim
end
end DL
namespace DL
open PySem PySem.Spec PyProof.Rows L2
/-- a def's promise: the form that the printed texts use -/
theorem fn_of0 {P : Program} {w : World} {K : PySem.W.Frag} {mg : Str → Option Value} {base : Heap} {x : Str} {params : Arguments} {body : List Stmt} {scope : Scope} {N ps : List Str} {k n : Nat} {s : Rho → SR} {f : List PD → FR} {fd : FuncData}
    (FD : FunD K x x params body scope [] [] (He.ga K x) fd) (S : FnScope N ps scope) (hn : ps.length = n) (hf : f = runD N.length s)
    (hb : ∀ (cdv : Value) (A : Around) (outer : List Env) (sh : Shared) (H : Hp) (E : XK), Room k (A.deeper (envOfC x scope sh.heap.objs.size (He.ga K x) cdv)) →
      Takes (cxOf (L2.CX P w) P w K mg base N x scope (He.ga K x) cdv A outer sh H E) (fun cls d _ H => E cls d H) →
      ∃ t, PSs (cxOf (L2.CX P w) P w K mg base N x scope (He.ga K x) cdv A outer sh H E) body t ∧ TDS K (fun cls d _ H => E cls d H) t s) : FnOk P w K mg base (L2.CX P w) (k + 1) (He.ga K x) fd ps (spD K n f) := by
  subst hn hf
  exact fnD FD S hb
/-- a def by its name: the form that the printed texts use -/
theorem kept_of {P : Program} {w : World} {K : PySem.W.Frag} {mg : Str → Option Value} {base : Heap} {x : Str} {params : Arguments} {body : List Stmt} {scope : Scope} {N ps : List Str} {k n : Nat} {s : Rho → SR} {f : List PD → FR}
    (hF : ∃ fd : FuncData, FunD K x x params body scope [] [] (He.ga K x) fd) (hg : mg x = some (.ref (He.ga K x))) (S : FnScope N ps scope) (hn : ps.length = n) (hf : f = runD N.length s)
    (hbd : ∀ (kV doc pm : Value) (an : Option Addr) (cdv ct : Value) (us : List Value), us.length = ps.length → bindArgs (PySem.W.fnOf x x params body scope .none kV doc pm an cdv ct) ⟨us, []⟩ = pure (ps.zip us))
    (hb : ∀ (cdv : Value) (A : Around) (outer : List Env) (sh : Shared) (H : Hp) (E : XK), Room k (A.deeper (envOfC x scope sh.heap.objs.size (He.ga K x) cdv)) →
      Takes (cxOf (L2.CX P w) P w K mg base N x scope (He.ga K x) cdv A outer sh H E) (fun cls d _ H => E cls d H) →
      ∃ t, PSs (cxOf (L2.CX P w) P w K mg base N x scope (He.ga K x) cdv A outer sh H E) body t ∧ TDS K (fun cls d _ H => E cls d H) t s) : Kept P w K mg base (k + 1) n x ps f := by
  obtain ⟨fd, FD⟩ := hF
  subst hn hf
  exact ⟨fd, FD.kp, hg, FD.bindsN hbd, fnD FD S hb⟩
end DL
/-! Dicts of int and text keys: owned in a slot; walked: locked. -/
namespace DL
open PySem PySem.Spec PyProof.Rows L2

def keyOf : PD → Option Key
  | .int i => some (.inl i)
  | .str s => some (.inr s)
  | _ => none
def valD : List (PD × PD) → Key → Option PD
  | [], _ => none
  | (a, d) :: r, k => if keyOf a = some k then some d else valD r k
def putD (kvs : List (PD × PD)) (k : Key) (d : PD) : List (PD × PD) :=
  if (valD kvs k).isSome = true then kvs.map fun kv => if keyOf kv.1 = some k then (kv.1, d) else kv else kvs ++ [(keyD k, d)]
theorem keyOf_keyD (k : Key) : keyOf (keyD k) = some k := by cases k <;> rfl
theorem keyD_of {d : PD} {k : Key} (h : keyOf d = some k) : d = keyD k := by
  cases d with
  | int i => cases h; rfl
  | str s => cases h; rfl
  | _ => cases h
theorem key_rp {K : PySem.W.Frag} {F H : Hp} {v : V} {k : Key} (r : Rp K F H v (keyD k)) : v = kV k := by
  cases k with
  | inl i => exact r.int
  | inr s => exact r.str
theorem key_dp {K : PySem.W.Frag} {F : Hp} (k : Key) : Dp K F (kV k) (keyD k) := by
  cases k with
  | inl i => exact .int i
  | inr s => exact .str s
section
variable {K : PySem.W.Frag} {F H : Hp}
theorem KvR.len {es : List (Key × V)} {kvs : List (PD × PD)} (r : KvR K F keyD es kvs) : es.length = kvs.length := by
  induction r with
  | nil => rfl
  | cons _ _ ih => rw [List.length_cons, List.length_cons, ih]
theorem KvR.keys {es : List (Key × V)} {kvs : List (PD × PD)} (r : KvR K F keyD es kvs) : kvs.map (·.1) = es.map fun e => keyD e.1 := by
  induction r with
  | nil => rfl
  | cons _ _ ih => rw [List.map_cons, List.map_cons, ih]
theorem KvR.val {es : List (Key × V)} {kvs : List (PD × PD)} (r : KvR K F keyD es kvs) (k : Key) : (valD kvs k = none ∧ valV es k = none) ∨ ∃ d v, valD kvs k = some d ∧ valV es k = some v ∧ Dp K F v d := by
  induction r with
  | nil => exact .inl ⟨rfl, rfl⟩
  | @cons k' v d es kvs h t ih =>
    by_cases e : k' = k
    · subst e
      exact .inr ⟨d, v, by unfold valD; rw [if_pos (keyOf_keyD k')], valV_pos rfl, h⟩
    · have e2 : ¬ keyOf (keyD k') = some k := by rw [keyOf_keyD]; exact fun q => e (Option.some.inj q)
      unfold valD
      rw [if_neg e2, valV_neg (show ¬ (k', v).1 = k from e)]
      exact ih
theorem KvR.snoc {es : List (Key × V)} {kvs : List (PD × PD)} (r : KvR K F keyD es kvs) (k : Key) {v : V} {d : PD} (h : Dp K F v d) : KvR K F keyD (es ++ [(k, v)]) (kvs ++ [(keyD k, d)]) := by
  induction r with
  | nil => exact .cons h .nil
  | cons a t ih => exact .cons a ih
theorem KvR.repl {es : List (Key × V)} {kvs : List (PD × PD)} (r : KvR K F keyD es kvs) (k : Key) {v : V} {d : PD} (h : Dp K F v d) :
    KvR K F keyD (es.map fun kv => if kv.1 = k then (kv.1, v) else kv) (kvs.map fun kv => if keyOf kv.1 = some k then (kv.1, d) else kv) := by
  induction r with
  | nil => exact .nil
  | @cons k' v' d' es kvs a t ih =>
    rw [List.map_cons, List.map_cons]
    by_cases e : k' = k
    · rw [if_pos (show (k', v').1 = k from e), if_pos (show keyOf (keyD k') = some k by rw [keyOf_keyD, e])]
      exact .cons h ih
    · rw [if_neg (show ¬ (k', v').1 = k from e), if_neg (show ¬ keyOf (keyD k') = some k by rw [keyOf_keyD]; exact fun q => e (Option.some.inj q))]
      exact .cons a ih
theorem KvR.put {es : List (Key × V)} {kvs : List (PD × PD)} (r : KvR K F keyD es kvs) (k : Key) {v : V} {d : PD} (h : Dp K F v d) : KvR K F keyD (putK es k v) (putD kvs k d) := by
  unfold putK putD
  rw [valV_any]
  rcases r.val k with ⟨a, b⟩ | ⟨d', v', a, b, _⟩
  · rw [a, b]; exact r.snoc k h
  · rw [a, b]; exact r.repl k h
def pairsD : List PD → Option (List (Key × PD))
  | [] => some []
  | .tuple [a, d] :: r => match keyOf a, pairsD r with
    | some k, some l => some ((k, d) :: l)
    | _, _ => none
  | _ => none
def mergeD (kvs : List (PD × PD)) (more : List (Key × PD)) : List (PD × PD) := more.foldl (fun acc kv => putD acc kv.1 kv.2) kvs
def dictD : List PD → R PD
  | [.list ds] => match pairsD ds with
    | some l => .ok (.dict (mergeD [] l))
    | none => .bad
  | _ => .bad
theorem KvR.merge : ∀ {ms : List (Key × V)} {more : List (Key × PD)} {es : List (Key × V)} {kvs : List (PD × PD)}, Paired (fun p q => p.1 = q.1 ∧ Dp K F p.2 q.2) ms more → KvR K F keyD es kvs → KvR K F keyD (mergeK es ms) (mergeD kvs more) := by
  intro ms more es kvs r
  induction r generalizing es kvs with
  | nil => exact fun q => q
  | @cons p q ps qs h t ih =>
    intro z
    obtain ⟨h1, h2⟩ := h
    have z2 := z.put p.1 h2
    show KvR K F keyD (mergeK (putK es p.1 p.2) ps) (mergeD (putD kvs q.1 q.2) qs)
    rw [← h1]
    exact ih z2
theorem pairs_dp : ∀ {ds : List PD} {vs : List V} {l : List (Key × PD)}, DpAll K F vs ds → pairsD ds = some l → ∃ (ps : List Addr) (ms : List (Key × V)), vs = ps.map V.ref ∧ Paired (fun p kv => SqT K F p [kV kv.1, kv.2]) ps ms ∧ Paired (fun p q => p.1 = q.1 ∧ Dp K F p.2 q.2) ms l
  | [], _, l, r, h => by
    cases r
    cases h
    exact ⟨[], [], rfl, .nil, .nil⟩
  | d :: ds, _, l, r, h => by
    cases r with
    | cons r1 r2 =>
      unfold pairsD at h
      split at h
      · rename_i e; cases e
      · rename_i a d' r' e
        cases e
        split at h
        · rename_i k l' e1 e2
          cases h
          obtain ⟨ps, ms, q1, q2, q3⟩ := pairs_dp r2 e2
          subst q1
          cases r1 with
          | tup s al =>
            cases al with
            | cons a1 a2 =>
              cases a2 with
              | cons a2 a3 =>
                cases a3
                rw [keyD_of e1] at a1
                have := key_rp (H := F) (.inl a1)
                subst this
                exact ⟨_ :: ps, (k, _) :: ms, rfl, .cons s q2, .cons ⟨rfl, a2⟩ q3⟩
        · cases h
      · cases h
theorem rco_dict : RCo K (fun xs H Q => ∃ (a : Addr) (ps : List Addr) (kvs : List (Key × V)), xs = [.ref a] ∧ SqL K H a (ps.map V.ref) ∧ Paired (fun p kv => SqT K H p [kV kv.1, kv.2]) ps kvs ∧
    ∀ p, H p = none → Q (.ref p) (upd H p (.dK (mergeK [] kvs)))) dictD := fun W σ F H vs ds Q s rs q => by
  unfold dictD at q
  split at q
  · obtain ⟨v, rfl, r1⟩ := rs.one
    split at q
    · rename_i l e
      obtain ⟨a, us, rfl, r2, r3⟩ := r1.list s
      obtain ⟨ps, ms, rfl, q2, q3⟩ := pairs_dp r3 e
      refine ⟨a, ps, ms, rfl, .inl r2, Paired.mapP q2 fun _ _ z => seqT s z, fun p hp => ?_⟩
      exact q F _ (Ext.own s hp) p hp (s.free hp) ⟨_, upd_same, KvR.merge q3 .nil⟩
    · exact q.elim
  · exact q.elim
end
section
variable {K : PySem.W.Frag} {W : WX} {F0 H0 F H : Hp} {σ : L2.St} {ρ : Rho} {ty tv : TE} {g gk gv : Rho → R PD} {t : TS} {s : Rho → SR}
def dAt (ρ : Rho) (i : Nat) : R (List (PD × PD)) := match ρ[i]? with
  | some (some (.o (.dict kvs))) => .ok kvs
  | some (some (.l (.dict kvs))) => .ok kvs
  | _ => .bad
theorem dAt_x (ρ : Rho) (i : Nat) : (∃ kvs, dAt ρ i = .ok kvs) ∨ dAt ρ i = .bad := by
  unfold dAt
  split
  · exact .inl ⟨_, rfl⟩
  · exact .inl ⟨_, rfl⟩
  · exact .inr rfl
theorem dAt_ok (S : StR K F0 H0 F H σ ρ) {i : Nat} {kvs : List (PD × PD)} (h : dAt ρ i = .ok kvs) : ∃ p es, σ[i]? = some (some (.ref p)) ∧ Rd H p (.dK es) ∧ KvR K F keyD es kvs := by
  unfold dAt at h
  split at h
  · rename_i e
    cases h
    obtain ⟨p, a, b, c, es, d, r⟩ := S.own i _ e
    exact ⟨p, es, a, .inl d, r⟩
  · rename_i e
    cases h
    obtain ⟨p, a, od, es, d, r⟩ := S.lck i _ e
    exact ⟨p, es, a, .inr ⟨od, S.same _ _ d⟩, r⟩
  · cases h
def getD (kvs : List (PD × PD)) (y : PD) : R PD := match keyOf y with
  | some k => (match valD kvs k with
    | some d => .ok d
    | none => .bad)
  | none => .bad
def eDget (i : Nat) (g : Rho → R PD) : Rho → R PD := fun ρ => (dAt ρ i).bind fun kvs => (g ρ).bind fun y => getD kvs y
theorem td_dget (i : Nat) (h : TDr K W ty g) : TDe K W (tDGet (tVar i) ty) (eDget i g) := fun F0 H0 F H σ ρ Q S q => by
  unfold eDget at q
  rcases dAt_x ρ i with ⟨kvs, e⟩ | e
  · rw [e] at q
    obtain ⟨p, es, hs, rd, r⟩ := dAt_ok S e
    have q : Fin K W σ F H ((g ρ).bind fun y => getD kvs y) (DpQ K Q) := q
    refine ⟨.ref p, hs, h F0 H0 F H σ ρ _ S (q.then fun y F1 H1 e1 k1 v rv => ?_)⟩
    unfold getD at k1
    split at k1
    · rename_i k ek
      rw [keyD_of ek] at rv
      have := key_rp rv
      subst this
      rcases r.val k with ⟨z, _⟩ | ⟨d, u, z1, z2, z3⟩
      · rw [z] at k1; exact k1.elim
      · rw [z1] at k1
        exact ⟨p, u, rfl, .inl ⟨es, k, rdM e1.h rd, rfl, z2.symm⟩, Fin.okk K W σ e1.g k1 _ (z3.mono e1.f)⟩
    · exact k1.elim
  · rw [e] at q; exact q.elim
def hasD (kvs : List (PD × PD)) (y : PD) : R Bool := match keyOf y with
  | some k => .ok (valD kvs k).isSome
  | none => .bad
def edin (i : Nat) (g : Rho → R PD) : Rho → R PD := fun ρ => (g ρ).bind fun y => (dAt ρ i).bind fun kvs => (hasD kvs y).bind fun b => .ok (.bool b)
def ednotin (i : Nat) (g : Rho → R PD) : Rho → R PD := fun ρ => (g ρ).bind fun y => (dAt ρ i).bind fun kvs => (hasD kvs y).bind fun b => .ok (.bool !b)
theorem din_k {f : Bool → Bool} {i : Nat} {y : PD} {Q : VK} {v : V} (S : StR K F0 H0 F H σ ρ) (rv : Rp K F H v y) (k1 : Fin K W σ F H ((dAt ρ i).bind fun kvs => (hasD kvs y).bind fun b => .ok (.bool (f b))) (DpQ K Q)) :
    ∃ p o, σ[i]? = some (some (.ref p)) ∧ DGet H p v o ∧ Q (.bl (f o.isSome)) H := by
  rcases dAt_x ρ i with ⟨kvs, e⟩ | e
  · rw [e] at k1
    obtain ⟨p, es, hs, rd, r⟩ := dAt_ok S e
    have k1 : Fin K W σ F H ((hasD kvs y).bind fun b => .ok (.bool (f b))) (DpQ K Q) := k1
    unfold hasD at k1
    split at k1
    · rename_i k ek
      rw [keyD_of ek] at rv
      have := key_rp rv
      subst this
      have e2 : (valV es k).isSome = (valD kvs k).isSome := by
        rcases r.val k with ⟨z, z'⟩ | ⟨d, u, z1, z2, z3⟩
        · rw [z, z']; rfl
        · rw [z1, z2]; rfl
      have k2 := Fin.okk (x := PyData.bool (f (valD kvs k).isSome)) K W σ S.same k1 _ (.bl _)
      rw [← e2] at k2
      exact ⟨p, valV es k, hs, .inl ⟨es, k, rd, rfl, rfl⟩, k2⟩
    · exact k1.elim
  · rw [e] at k1; exact k1.elim
theorem td_din (i : Nat) (h : TDr K W ty g) : TDe K W (tDIn ty (tVar i)) (edin i g) := fun F0 H0 F H σ ρ Q S q =>
  h F0 H0 F H σ ρ _ S (q.then fun y F1 H1 e1 k1 v rv => by
    obtain ⟨p, o, a, b, c⟩ := din_k (f := id) (S.go e1) rv k1
    exact ⟨.ref p, a, p, o, rfl, b, c⟩)
theorem td_dnotin (i : Nat) (h : TDr K W ty g) : TDe K W (tDNotIn ty (tVar i)) (ednotin i g) := fun F0 H0 F H σ ρ Q S q =>
  h F0 H0 F H σ ρ _ S (q.then fun y F1 H1 e1 k1 v rv => by
    obtain ⟨p, o, a, b, c⟩ := din_k (f := not) (S.go e1) rv k1
    exact ⟨.ref p, a, p, o, rfl, b, c⟩)
def oDnew : Rho → R PD := fun _ => .ok (.dict [])
theorem to_dnewK : TDo K W tDNewK oDnew := fun F0 H0 F H σ ρ Q S q p hp =>
  (q : ∀ F' H', Ext F H F' H' → OwQ K H Q (.dict []) F' H') F _ (Ext.own S.same hp) p hp (S.same.free hp) ⟨[], upd_same, .nil⟩
/-- d[k] = v -/
def dOwn (ρ : Rho) (i : Nat) : R (List (PD × PD)) := match ρ[i]? with
  | some (some (.o (.dict kvs))) => .ok kvs
  | _ => .bad
def putS (ρ : Rho) (i : Nat) (kvs : List (PD × PD)) (y d : PD) : SR := match keyOf y with
  | some k => if kvs.length < sizeLine then .nx (ρ.set i (some (.o (.dict (putD kvs k d))))) else .bad
  | none => .bad
def sDput (i : Nat) (gk gv : Rho → R PD) : Rho → SR := fun ρ => SR.of (gv ρ) fun d => SR.of (dOwn ρ i) fun kvs => SR.of (gk ρ) fun y => putS ρ i kvs y d
theorem ds_dput (i : Nat) (hk : TDr K W ty gk) (hv : TDe K W tv gv) : TDS K W (sDPut (tVar i) ty tv) (sDput i gk gv) := fun F0 H0 F H σ ρ D S q =>
  hv F0 H0 F H σ ρ _ S (q.of S.ext fun d F1 H1 e1 k1 v rv => by
    have S1 := S.go e1
    unfold dOwn at k1
    split at k1
    · rename_i kvs ei
      obtain ⟨p, a, _, _, _⟩ := S1.own i _ ei
      have k1 : FinS K W F0 H0 D (SR.of (gk ρ) fun y => putS ρ i kvs y d) := k1
      refine ⟨.ref p, a, hk F0 H0 F1 H1 σ ρ _ S1 (k1.of S1.ext fun y F2 H2 e2 k2 u ru => ?_)⟩
      have S2 := S1.go e2
      obtain ⟨p2, a2, b2, c2, es, hh, r⟩ := S2.own i _ ei
      rw [a] at a2
      injection a2 with a2; injection a2 with a2; injection a2 with a2; subst a2
      unfold putS at k2
      split at k2
      · rename_i k ek
        split at k2
        · rename_i hl
          rw [keyD_of ek] at ru
          have := key_rp ru
          subst this
          have hl2 : es.length < sizeLine := by rw [r.len]; exact hl
          exact ⟨p, _, rfl, DPut.k hh hl2, k2 _ _ _ (S2.mut ei a ⟨_, upd_same, r.put k (rv.mono e2.f)⟩)⟩
        · exact k2.elim
      · exact k2.elim
    · exact k1.elim)
/-! ### walks -/
def iKeysD (i : Nat) : Rho → R (List PD) := fun ρ => match ρ[i]? with
  | some (some (.l (.dict kvs))) => .ok (kvs.map (·.1))
  | _ => .bad
theorem di_keys (i : Nat) : TDi K W (iKeys (tVar i)) (iKeysD i) := fun F0 H0 F H σ ρ Q S q => by
  unfold iKeysD at q
  split at q
  · rename_i kvs e
    obtain ⟨p, a, od, es, d, r⟩ := S.lck i _ e
    refine ⟨.ref p, a, p, od, rfl, .inl ⟨es, S.same _ _ d, q.ok S.same _ fun j F1 H1 e1 e2 => ?_⟩⟩
    have f1 : H1 p = some (.frz od (.dK es)) := e2 _ _ (e1 _ _ d)
    rw [r.keys]
    refine ⟨fun x hx => ?_, fun hl => ⟨f1, by simpa using hl⟩⟩
    rw [List.getElem?_map] at hx
    cases ee : es[j]? with
    | none => rw [ee] at hx; cases hx
    | some kv =>
      rw [ee] at hx
      have hx : keyD kv.1 = x := Option.some.inj hx
      subst hx
      refine ⟨⟨f1, (List.getElem?_eq_some_iff.mp ee).1⟩, fun z H2 y => ?_⟩
      obtain ⟨rfl, k, v, hk, rfl⟩ := y
      rw [ee] at hk
      cases hk
      exact ⟨F1, Ext.refl e2, key_dp k⟩
  · exact q.elim
def unlS : Option Sl → Option Sl
  | some (.l _) => none
  | x => x
def unlock : SR → SR
  | .nx ρ => .nx (ρ.map unlS)
  | .bk ρ => .bk (ρ.map unlS)
  | .ct ρ => .ct (ρ.map unlS)
  | x => x
def sLock (i : Nat) (s : Rho → SR) : Rho → SR := fun ρ => match ρ[i]? with
  | some (some (.o (.dict kvs))) => unlock (s (ρ.set i (some (.l (.dict kvs)))))
  | _ => .bad
def cutH (F : Hp) (p : Addr) : Hp := fun q => if q = p then none else F q
theorem cut_ne {F : Hp} {p q : Addr} (h : q ≠ p) : cutH F p q = F q := if_neg h
theorem cut_self {F : Hp} {p : Addr} : cutH F p p = none := if_pos rfl
mutual
theorem Dp.cut {p : Addr} {od : Obj} {es : List (Key × V)} (e : F p = some (.frz od (.dK es))) : ∀ {v : V} {d : PyData}, Dp K F v d → Dp K (cutH F p) v d
  | _, _, .non => .non
  | _, _, .bl b => .bl b
  | _, _, .int i => .int i
  | _, _, .str x => .str x
  | _, _, .lst (a := a) s al => by
    have hn : a ≠ p := fun z => by
      subst z
      rcases s with s | ⟨o, s⟩
      · rw [e] at s; cases s
      · rw [e] at s; cases s
    refine .lst ?_ (DpAll.cut e al)
    rcases s with s | ⟨o, s⟩
    · exact .inl ((cut_ne hn).trans s)
    · exact .inr ⟨o, (cut_ne hn).trans s⟩
  | _, _, .tup (a := a) s al => by
    refine .tup ?_ (DpAll.cut e al)
    rcases s with (s | ⟨o, s⟩) | s
    · exact .inl (.inl ((cut_ne fun z => by subst z; rw [e] at s; cases s).trans s))
    · exact .inl (.inr ⟨o, (cut_ne fun z => by subst z; rw [e] at s; cases s).trans s⟩)
    · exact .inr s
theorem DpAll.cut {p : Addr} {od : Obj} {es : List (Key × V)} (e : F p = some (.frz od (.dK es))) : ∀ {vs : List V} {ds : List PyData}, DpAll K F vs ds → DpAll K (cutH F p) vs ds
  | _, _, .nil => .nil
  | _, _, .cons h t => .cons (Dp.cut e h) (DpAll.cut e t)
end
theorem KvR.cut {p : Addr} {od : Obj} {es0 : List (Key × V)} (e : F p = some (.frz od (.dK es0))) : ∀ {es : List (Key × V)} {kvs : List (PD × PD)}, KvR K F keyD es kvs → KvR K (cutH F p) keyD es kvs
  | _, _, .nil => .nil
  | _, _, .cons h t => .cons (h.cut e) (KvR.cut e t)
theorem OwnAt.cut {p p' : Addr} {od : Obj} {es0 : List (Key × V)} {u : HO} (e : F p = Option.some (HO.frz od (.dK es0))) (hn : p' ≠ p) {d : PD} (h : OwnAt K F H p' d) : OwnAt K (cutH F p) (upd H p u) p' d := by
  cases d with
  | list ds => obtain ⟨vs, a, b⟩ := h; exact ⟨vs, by rw [upd_ne hn]; exact a, b.cut e⟩
  | dict kvs => obtain ⟨es, a, b⟩ := h; exact ⟨es, by rw [upd_ne hn]; exact a, b.cut e⟩
  | _ => exact h.elim
theorem ds_lock (i : Nat) (h : TDS K W t s) : TDS K W (tLock t) (sLock i s) := fun F0 H0 F H σ ρ D S q => by
  unfold sLock at q
  split at q
  case h_2 => exact q.elim
  rename_i kvs ei
  obtain ⟨p, hs, h0, hf, es, hh, r⟩ := S.own i _ ei
  refine ⟨p, .dK es, hh, True.intro, fun od => ?_⟩
  have f0 : F0 p = none := S.ext.f.free hf
  have same1 : Same F (upd F p (.frz od (.dK es))) := fun a u e => by rw [upd_ne (ne_of_none e hf)]; exact e
  have exI : Ext (upd F p (.frz od (.dK es))) (upd H0 p (.frz od (.dK es))) (upd F p (.frz od (.dK es))) (upd H p (.frz od (.dK es))) := by
    refine ⟨Same.refl _, fun a u e => ?_, fun a u e => ?_, fun a e => .inl e⟩
    · by_cases ha : a = p
      · subst ha; rw [upd_same] at e ⊢; exact e
      · rw [upd_ne ha] at e ⊢; exact S.ext.g a u e
    · by_cases ha : a = p
      · subst ha; rw [upd_same] at e ⊢; exact e
      · rw [upd_ne ha] at e ⊢; exact S.ext.h a u e
  have SI : StR K (upd F p (.frz od (.dK es))) (upd H0 p (.frz od (.dK es))) (upd F p (.frz od (.dK es))) (upd H p (.frz od (.dK es))) σ (ρ.set i (some (.l (.dict kvs)))) := by
    refine ⟨exI, by simpa using S.len, fun j z e => ?_, fun j z e => ?_, fun j k z w b e1 e2 e3 e4 => ?_, fun j z e => ?_⟩
    · rcases get_set e with ⟨rfl, hl, y⟩ | ⟨hn, y⟩
      · injection y with y; cases y
      · obtain ⟨v, a, b⟩ := S.dat j z y
        exact ⟨v, a, b.mono same1⟩
    · rcases get_set e with ⟨rfl, hl, y⟩ | ⟨hn, y⟩
      · injection y with y; cases y
      · obtain ⟨p2, a, b, c, d⟩ := S.own j z y
        have ne : p2 ≠ p := fun w => by subst w; exact hn (S.dis i j _ z p2 ei y hs a)
        exact ⟨p2, a, by rw [upd_ne ne]; exact b, by rw [upd_ne ne]; exact c, d.mono same1 fun o ho => by rw [upd_ne ne]; exact ho⟩
    · rcases get_set e1 with ⟨_, _, y⟩ | ⟨_, y1⟩
      · injection y with y; cases y
      · rcases get_set e2 with ⟨_, _, y⟩ | ⟨_, y2⟩
        · injection y with y; cases y
        · exact S.dis j k z w b y1 y2 e3 e4
    · rcases get_set e with ⟨rfl, hl, y⟩ | ⟨hn, y⟩
      · injection y with y; injection y with y; subst y
        exact ⟨p, hs, od, es, upd_same, r.mono same1⟩
      · obtain ⟨p2, a, b⟩ := S.lck j z y
        exact ⟨p2, a, b.mono same1⟩
  have back : ∀ {F1 H1 : Hp}, Ext (upd F p (.frz od (.dK es))) (upd H0 p (.frz od (.dK es))) F1 H1 → F1 p = some (.frz od (.dK es)) ∧ H1 p = some (.frz od (.dK es)) ∧ Ext F0 H0 (cutH F1 p) (upd H1 p (.dK es)) := by
    intro F1 H1 e
    have a1 : F1 p = some (.frz od (.dK es)) := e.f _ _ upd_same
    refine ⟨a1, e.g _ _ a1, fun a u z => ?_, fun a u z => ?_, fun a u z => ?_, fun a z => ?_⟩
    · have ne := ne_of_none z f0
      rw [cut_ne ne]
      exact e.f _ _ (by rw [upd_ne ne]; exact S.ext.f _ _ z)
    · by_cases ha : a = p
      · subst ha; rw [cut_self] at z; cases z
      · rw [cut_ne ha] at z; rw [upd_ne ha]; exact e.g _ _ z
    · have ne := ne_of_none z h0
      rw [upd_ne ne]
      exact e.h _ _ (by rw [upd_ne ne]; exact z)
    · by_cases ha : a = p
      · subst ha; exact absurd cut_self z
      · rw [cut_ne ha] at z
        rcases e.n a z with y | y
        · rw [upd_ne ha] at y; exact S.ext.n a y
        · rw [upd_ne ha] at y; exact .inr y
  have st : ∀ {F1 H1 : Hp} {σ1 : L2.St} {ρ1 : Rho}, StR K (upd F p (.frz od (.dK es))) (upd H0 p (.frz od (.dK es))) F1 H1 σ1 ρ1 → H1 p = some (.frz od (.dK es)) ∧ StR K F0 H0 (cutH F1 p) (upd H1 p (.dK es)) σ1 (ρ1.map unlS) := by
    intro F1 H1 σ1 ρ1 S1
    obtain ⟨a1, a2, ex⟩ := back S1.ext
    have un : ∀ {j : Nat} {x : Sl}, (ρ1.map unlS)[j]? = some (some x) → ρ1[j]? = some (some x) ∧ ∀ y, x ≠ .l y := by
      intro j x e
      rw [List.getElem?_map] at e
      cases e2 : ρ1[j]? with
      | none => rw [e2] at e; cases e
      | some z =>
        rw [e2] at e
        have e : unlS z = some x := Option.some.inj e
        cases z with
        | none => cases e
        | some z =>
          cases z with
          | d y => cases e; exact ⟨rfl, fun _ w => nomatch w⟩
          | o y => cases e; exact ⟨rfl, fun _ w => nomatch w⟩
          | l y => cases e
    refine ⟨a2, ex, by rw [List.length_map]; exact S1.len, fun j z e => ?_, fun j z e => ?_, fun j k z w b e1 e2 e3 e4 => S1.dis j k z w b (un e1).1 (un e2).1 e3 e4, fun j z e => absurd rfl ((un e).2 z)⟩
    · obtain ⟨v, a, b⟩ := S1.dat j z (un e).1
      exact ⟨v, a, b.cut a1⟩
    · obtain ⟨p2, a, b, c, d⟩ := S1.own j z (un e).1
      have ne : p2 ≠ p := fun w => by subst w; rw [a1] at c; cases c
      exact ⟨p2, a, by rw [upd_ne ne] at b; exact b, by rw [cut_ne ne]; exact c, d.cut a1 ne⟩
  refine h _ _ _ _ σ _ _ SI ?_
  cases e : s (ρ.set i (some (.l (.dict kvs)))) with
  | nx ρ1 =>
    rw [e] at q
    exact fun σ1 F1 H1 S1 => ⟨(st S1).1, q σ1 _ _ (st S1).2⟩
  | bk ρ1 =>
    rw [e] at q
    exact fun σ1 F1 H1 S1 => ⟨(st S1).1, q σ1 _ _ (st S1).2⟩
  | ct ρ1 =>
    rw [e] at q
    exact fun σ1 F1 H1 S1 => ⟨(st S1).1, q σ1 _ _ (st S1).2⟩
  | rt x =>
    rw [e] at q
    cases x with
    | d x =>
      intro v F1 H1 ex rv
      obtain ⟨a1, a2, ex2⟩ := back ex
      exact ⟨a2, q v _ _ ex2 (rv.cut a1)⟩
    | o x =>
      intro p2 F1 H1 ex y1 y2 y3
      obtain ⟨a1, a2, ex2⟩ := back ex
      have ne : p2 ≠ p := fun w => by subst w; rw [a1] at y2; cases y2
      exact ⟨a2, q p2 _ _ ex2 (by rw [upd_ne ne] at y1; exact y1) (by rw [cut_ne ne]; exact y2) (y3.cut a1 ne)⟩
    | l x => exact q
  | exc c =>
    rw [e] at q
    intro cls d σ1 F1 H1 ex rx
    refine q cls d σ1 F1 H1 ⟨fun a u z => ?_, ex.g, fun a u z => ?_, fun a z => ?_⟩ rx
    · exact ex.f _ _ (by rw [upd_ne (ne_of_none z f0)]; exact S.ext.f _ _ z)
    · exact ex.h _ _ (by rw [upd_ne (ne_of_none z h0)]; exact z)
    · by_cases ha : a = p
      · subst ha; exact .inr h0
      · rcases ex.n a z with y | y
        · rw [upd_ne ha] at y; exact S.ext.n a y
        · rw [upd_ne ha] at y; exact .inr y
  | bad => rw [e] at q; exact q
/-! ### an owned list that is walked: frozen for a while; the answer holds plain things alone -/
def scalL : PD → R PD
  | .list ds => if ds.all scalD = true then .ok (.list ds) else .bad
  | _ => .bad
def oUnf (i : Nat) (g : Rho → R PD) : Rho → R PD := fun ρ => (g (frz1 i ρ)).bind scalL
theorem scal_all {F F' : Hp} : ∀ {vs : List V} {ds : List PD}, DpAll K F vs ds → ds.all scalD = true → DpAll K F' vs ds
  | _, _, .nil, _ => .nil
  | _, _, .cons h t, e => by
    rw [List.all_cons, Bool.and_eq_true] at e
    exact .cons (scal_dp e.1 h) (scal_all t e.2)
theorem to_unf (i : Nat) {te : TE} (h : TDo K W te g) : TDo K W te (oUnf i g) := fun F0 H0 F H σ ρ Q S q => by
  obtain ⟨F', e, sf, S'⟩ := S.frz1 i
  refine h F0 H0 F' H σ _ Q S' ?_
  unfold oUnf at q
  cases eg : g (frz1 i ρ) with
  | ok x =>
    rw [eg] at q
    have q : Fin K W σ F H (scalL x) (OwQ K H Q) := q
    unfold scalL at q
    split at q
    · rename_i ds
      split at q
      · rename_i hd
        intro F1 H1 ex p hp hf ho
        obtain ⟨vs, a, b⟩ := ho
        exact q F H1 (Ext.heap S.same ex.h) p hp (S.same.free hp) ⟨vs, a, scal_all b hd⟩
      · exact q.elim
    · exact q.elim
  | exc c =>
    rw [eg] at q
    exact fun cls d F1 H1 ex r => q cls d F H1 (Ext.heap S.same ex.h) r
  | bad => rw [eg] at q; exact q.elim
/-! ### more changes in place -/
def sBad : Rho → SR := fun _ => .bad
theorem ds_bad : TDS K W tNever sBad := ds_never
def sInsert (i : Nat) (n : Nat) (g : Rho → R PD) : Rho → SR := fun ρ => ownL ρ i fun ds => SR.of (g ρ) fun x => if ds.length < sizeLine ∧ n < 1000 then .nx (ρ.set i (some (.o (.list (ds.take n ++ [x] ++ ds.drop n))))) else .bad
theorem ds_insert (i n : Nat) {te : TE} (h : TDe K W te g) : TDS K W (tDrop (tBM K "list" (fun x vs H Q => ∃ (l : Addr) (xs : List V) (i : Int) (y : V), x = .ref l ∧ vs = [.int i, y] ∧ H l = some (.lst xs) ∧ xs.length < sizeLine ∧ 0 ≤ i ∧ i < 2 ^ 63 ∧
    Q .non (upd H l (.lst (xs.take i.toNat ++ [y] ++ xs.drop i.toNat)))) (tVar i) (tCons (tC (.int (n : Nat))) (tCons te tNil)))) (sInsert i n g) := fun F0 H0 F H σ ρ D S q => by
  obtain ⟨p, ds, vs, h1, h2, h3, h4, k⟩ := ownL_k S q
  refine ⟨.ref p, h2, .inl ⟨rfl, vs, SqL.of h3⟩, h F0 H0 F H σ ρ _ S (k.of S.ext fun x F1 H1 e1 k v rv => ?_)⟩
  have k : FinS K W F0 H0 D (if ds.length < sizeLine ∧ n < 1000 then .nx (ρ.set i (some (.o (.list (ds.take n ++ [x] ++ ds.drop n))))) else .bad) := k
  by_cases hl : ds.length < sizeLine ∧ n < 1000
  · rw [if_pos hl] at k
    have m := h4.mono e1.f
    refine ⟨p, vs, (n : Nat), v, rfl, rfl, e1.h p _ h3, by rw [h4.length]; exact hl.1, by omega, by omega, ?_⟩
    exact k σ F1 _ ((S.go e1).mut h1 h2 ⟨_, upd_same, ((m.take n).append (.cons rv .nil)).append (m.drop n)⟩)
  · rw [if_neg hl] at k
    exact k.elim
def setL (ρ : Rho) (i : Nat) (ds : List PD) (x : PD) : PD → SR
  | .int k => match ixN ds.length k with
    | some j => .nx (ρ.set i (some (.o (.list (ds.set j x)))))
    | none => .bad
  | _ => .bad
def sLset (i : Nat) (g gi : Rho → R PD) : Rho → SR := fun ρ => SR.of (g ρ) fun x => ownL ρ i fun ds => SR.of (gi ρ) fun y => setL ρ i ds x y
theorem ds_lset (i : Nat) {te ti : TE} {gi : Rho → R PD} (h : TDe K W te g) (hi : TDr K W ti gi) : TDS K W (tAsg te (gSub (tVar i) ti rSetL)) (sLset i g gi) := fun F0 H0 F H σ ρ D S q =>
  h F0 H0 F H σ ρ _ S (q.of S.ext fun x F1 H1 e1 k v rv => by
    have S1 := S.go e1
    obtain ⟨p, ds, vs, h1, h2, h3, h4, k⟩ := ownL_k S1 k
    refine ⟨.ref p, h2, hi F0 H0 F1 H1 σ ρ _ S1 (k.of S1.ext fun y F2 H2 e2 k u ru => ?_)⟩
    unfold setL at k
    split at k
    · rename_i c
      split at k
      · rename_i j ej
        have := ru.int
        subst this
        have h5 := e2.h p _ h3
        exact ⟨p, vs, c, j, rfl, rfl, h5, by rw [h4.length]; exact ej, k _ _ _ ((S1.go e2).mut h1 h2 ⟨_, upd_same, (h4.mono e2.f).set j (rv.mono e2.f)⟩)⟩
      · exact k.elim
    · exact k.elim)
end
end DL
/-! The plain side: equations of the functions on data, for simp; loops by an invariant. -/
namespace DL
open PySem L2
/-- a text's signs, as numbers -/
def cs (z : Str) : List Nat := z.cps.toList
/-- a text of one sign -/
def sg (c : Nat) : Str := ⟨#[c]⟩
theorem cs_len (z : Str) : (cs z).length = z.length := Array.length_toList
theorem cs_ext {z w : Str} (h : cs z = cs w) : z = w := by
  cases z
  cases w
  unfold cs at h
  simp only at h
  rw [Array.toList_inj.mp h]
@[simp] theorem cs_sg (c : Nat) : cs (sg c) = [c] := rfl
@[simp] theorem sg_len (c : Nat) : (sg c).length = 1 := rfl
@[simp] theorem cs_app (z w : Str) : cs (z ++ w) = cs z ++ cs w := by
  show (z ++ w).cps.toList = _
  rw [PySem.Str.cps_append]
  simp [cs]
@[simp] theorem len_app (z w : Str) : (z ++ w).length = z.length + w.length := PySem.Str.length_append z w
theorem signs_eq (z : Str) : signs z = (cs z).map fun c => .str (sg c) := rfl
section
variable {α β : Type} (ρ ρ' : Rho) (g ga gb gc : Rho → R PD) (gt gt' : Rho → R Bool) (f f' : PD → PD → R PD) (gr : Rho → R (List PD)) (s s' : Rho → SR) (i : Nat)
@[simp] theorem x_bind_ok (a : α) (f : α → R β) : (R.ok a).bind f = f a := rfl
@[simp] theorem x_bind_exc (c : Ec) (f : α → R β) : (R.exc c : R α).bind f = .exc c := rfl
@[simp] theorem x_bind_bad (f : α → R β) : (R.bad : R α).bind f = .bad := rfl
@[simp] theorem x_eC (x : PD) : eC x ρ = .ok x := rfl
@[simp] theorem x_eOp : eOp f ga gb ρ = (ga ρ).bind fun a => (gb ρ).bind fun b => f a b := rfl
@[simp] theorem x_eUn (f : PD → R PD) : eUn f ga ρ = (ga ρ).bind f := rfl
@[simp] theorem x_eFz : eFz g ρ = (g ρ).bind notDict := rfl
@[simp] theorem x_notDict (l : List PD) : notDict (.list l) = .ok (.list l) := rfl
@[simp] theorem x_bOf : bOf g ρ = (g ρ).bind asB := rfl
@[simp] theorem x_asB (b : Bool) : asB (.bool b) = .ok b := rfl
@[simp] theorem x_bAnd : bAnd gt gt' ρ = (gt ρ).bind fun c => if c = true then gt' ρ else .ok false := rfl
@[simp] theorem x_bOr : bOr gt gt' ρ = (gt ρ).bind fun c => if c = true then .ok true else gt' ρ := rfl
@[simp] theorem x_bNot : bNot gt ρ = (gt ρ).bind fun c => .ok !c := rfl
@[simp] theorem x_eAnd : eAnd ga gb ρ = (ga ρ).bind fun a => (asB a).bind fun c => if c = true then gb ρ else .ok (.bool false) := rfl
@[simp] theorem x_eOr : eOr ga gb ρ = (ga ρ).bind fun a => (asB a).bind fun c => if c = true then .ok (.bool true) else gb ρ := rfl
@[simp] theorem x_eNot : eNot ga ρ = (ga ρ).bind fun a => (asB a).bind fun c => .ok (.bool !c) := rfl
@[simp] theorem x_eIf : eIf gt ga gb ρ = (gt ρ).bind fun c => if c = true then ga ρ else gb ρ := rfl
@[simp] theorem x_eChain : eChain f f' ga gb gc ρ = (ga ρ).bind fun a => (gb ρ).bind fun b => (f a b).bind fun z => (asB z).bind fun k => if k = true then (gc ρ).bind fun c => f' b c else .ok (.bool false) := rfl
@[simp] theorem x_aNil : aNil ρ = .ok [] := rfl
@[simp] theorem x_aCons : aCons ga gr ρ = (ga ρ).bind fun a => (gr ρ).bind fun l => .ok (a :: l) := rfl
@[simp] theorem x_eTup : eTup gr ρ = (gr ρ).bind fun l => if l.length ≤ sizeLine then .ok (.tuple l) else .bad := rfl
@[simp] theorem x_oLst : oLst gr ρ = (gr ρ).bind fun l => if l.length ≤ sizeLine then .ok (.list l) else .bad := rfl
@[simp] theorem x_eCB (f : List PD → R PD) : eCB f gr ρ = (gr ρ).bind f := rfl
@[simp] theorem x_eCall (n : Nat) (f : List PD → FR) : eCall n f gr ρ = (gr ρ).bind fun ds => if ds.length = n then (f ds).toE else .bad := rfl
@[simp] theorem x_oCall (n : Nat) (f : List PD → FR) : oCall n f gr ρ = (gr ρ).bind fun ds => if ds.length = n then (f ds).toO else .bad := rfl
@[simp] theorem x_eCallR (n : Nat) (f : List PD → FR) : eCallR n f gr ρ = (gr ρ).bind fun ds => if ds.length = n ∧ ds.all (fun d => !isDict d) = true then (f ds).toS else .bad := rfl
@[simp] theorem x_eCall0 (f : List PD → FR) : eCall0 f ρ = noExc (f []).toE := rfl
@[simp] theorem x_oCall0 (f : List PD → FR) : oCall0 f ρ = noExc (f []).toO := rfl
@[simp] theorem x_noExc_ok (a : α) : noExc (R.ok a) = .ok a := rfl
@[simp] theorem x_toE_d (x : PD) : (FR.rt (.d x)).toE = .ok x := rfl
@[simp] theorem x_toE_o (l : List PD) : (FR.rt (.o (.list l))).toE = .ok (.list l) := rfl
@[simp] theorem x_toE_x (c : Ec) : (FR.exc c).toE = .exc c := rfl
@[simp] theorem x_toO_o (x : PD) : (FR.rt (.o x)).toO = .ok x := rfl
@[simp] theorem x_toO_x (c : Ec) : (FR.exc c).toO = .exc c := rfl
@[simp] theorem x_toS (x : PD) : (FR.rt (.d x)).toS = if scalD x = true then .ok x else .bad := rfl
@[simp] theorem x_scal_i (i : Int) : scalD (.int i) = true := rfl
@[simp] theorem x_scal_b (i : Bool) : scalD (.bool i) = true := rfl
@[simp] theorem x_scal_s (i : Str) : scalD (.str i) = true := rfl
@[simp] theorem x_scal_n : scalD .none = true := rfl
@[simp] theorem x_dict_l (l : List PD) : isDict (.list l) = false := rfl
@[simp] theorem x_dict_t (l : List PD) : isDict (.tuple l) = false := rfl
@[simp] theorem x_dict_i (l : Int) : isDict (.int l) = false := rfl
@[simp] theorem x_dict_s (l : Str) : isDict (.str l) = false := rfl
@[simp] theorem x_dict_b (l : Bool) : isDict (.bool l) = false := rfl
@[simp] theorem x_dict_n : isDict .none = false := rfl
@[simp] theorem x_eIsi (T : String) : eIsi T g ρ = (g ρ).bind (isiD T) := rfl
@[simp] theorem x_eM0 (f : PD → List PD → R PD) : eM0 f g ρ = (g ρ).bind fun a => strOf a (f a []) := rfl
@[simp] theorem x_eM1 (f : PD → List PD → R PD) : eM1 f g ga ρ = (g ρ).bind fun a => strOf a ((ga ρ).bind fun b => f a [b]) := rfl
@[simp] theorem x_strOf (z : Str) (k : R PD) : strOf (.str z) k = k := rfl
@[simp] theorem x_eSl (gl gh : Rho → R (Option Int)) : eSl g gl gh ρ = (g ρ).bind fun a => (gl ρ).bind fun l => (gh ρ).bind fun h => slD a l h := rfl
@[simp] theorem x_oSl (gl gh : Rho → R (Option Int)) : oSl g gl gh ρ = (g ρ).bind fun a => (gl ρ).bind fun l => (gh ρ).bind fun h => slL a l h := rfl
@[simp] theorem x_pNo : pNo ρ = .ok none := rfl
@[simp] theorem x_pSo : pSo g ρ = (g ρ).bind fun a => (asI a).bind fun i => .ok (some i) := rfl
@[simp] theorem x_asI (j : Int) : asI (.int j) = .ok j := rfl
-- statements
@[simp] theorem x_sSeq : sSeq s s' ρ = (s ρ).seq s' := rfl
@[simp] theorem x_seq_nx (k : Rho → SR) : (SR.nx ρ).seq k = k ρ := rfl
@[simp] theorem x_seq_rt (x : Sl) (k : Rho → SR) : (SR.rt x).seq k = .rt x := rfl
@[simp] theorem x_seq_bk (k : Rho → SR) : (SR.bk ρ).seq k = .bk ρ := rfl
@[simp] theorem x_seq_ct (k : Rho → SR) : (SR.ct ρ).seq k = .ct ρ := rfl
@[simp] theorem x_seq_exc (c : Ec) (k : Rho → SR) : (SR.exc c).seq k = .exc c := rfl
@[simp] theorem x_seq_bad (k : Rho → SR) : SR.bad.seq k = .bad := rfl
@[simp] theorem x_of_ok (a : α) (k : α → SR) : SR.of (.ok a) k = k a := rfl
@[simp] theorem x_of_exc (c : Ec) (k : α → SR) : SR.of (.exc c) k = .exc c := rfl
@[simp] theorem x_of_bad (k : α → SR) : SR.of (.bad) k = .bad := rfl
@[simp] theorem x_sNext : sNext ρ = .nx ρ := rfl
@[simp] theorem x_sBreak : sBreak ρ = .bk ρ := rfl
@[simp] theorem x_sCont : sCont ρ = .ct ρ := rfl
@[simp] theorem x_sSet : sSet i g ρ = SR.of (g ρ) fun x => .nx (ρ.set i (some (.d x))) := rfl
@[simp] theorem x_sSetO : sSetO i g ρ = SR.of (g ρ) fun x => .nx (ρ.set i (some (.o x))) := rfl
@[simp] theorem x_sAsg (a : Rho → PD → R Rho) : sAsg g a ρ = SR.of (g ρ) fun x => SR.ofT (a ρ x) := rfl
@[simp] theorem x_ofT : SR.ofT (.ok ρ) = .nx ρ := rfl
@[simp] theorem x_sRet : sRet g ρ = SR.of (g ρ) fun x => .rt (.d x) := rfl
@[simp] theorem x_sRetO : sRetO g ρ = SR.of (g ρ) fun x => .rt (.o x) := rfl
@[simp] theorem x_sIf : sIf gt s s' ρ = SR.of (gt ρ) fun c => if c = true then s ρ else s' ρ := rfl
@[simp] theorem x_sDrop : sDrop g ρ = SR.of (g ρ) fun _ => .nx ρ := rfl
@[simp] theorem x_sFor (gi : Rho → R (List PD)) (a : Rho → PD → R Rho) : sFor gi a s ρ = SR.of (gi ρ) fun ds => forD a s ds ρ := rfl
@[simp] theorem x_aName (x : PD) : aName i ρ x = .ok (ρ.set i (some (.d x))) := rfl
@[simp] theorem x_aTup (n : Nat) (b : Rho → List PD → R Rho) (xs : List PD) : aTup n b ρ (.tuple xs) = if xs.length = n then b ρ xs else .bad := rfl
@[simp] theorem x_asNil : asNil ρ [] = .ok ρ := rfl
@[simp] theorem x_asCons (a : Rho → PD → R Rho) (b : Rho → List PD → R Rho) (x : PD) (xs : List PD) : asCons a b ρ (x :: xs) = (a ρ x).bind fun ρ' => b ρ' xs := rfl
@[simp] theorem x_iItems : iItems g ρ = (g ρ).bind itemsOf := rfl
@[simp] theorem x_items_l (l : List PD) : itemsOf (.list l) = .ok l := rfl
@[simp] theorem x_items_t (l : List PD) : itemsOf (.tuple l) = .ok l := rfl
@[simp] theorem x_items_s (l : Str) : itemsOf (.str l) = .ok ((cs l).map fun c => .str (sg c)) := rfl
@[simp] theorem x_iRng1 : iRng1D gr ρ = (gr ρ).bind rng1 := rfl
@[simp] theorem x_iRng2 : iRng2D gr ρ = (gr ρ).bind rng2 := rfl
@[simp] theorem x_iEnum : iEnumD gr ρ = (gr ρ).bind enumO := rfl
@[simp] theorem x_enumO (l : List PD) : enumO [.list l] = .ok (enumD l) := rfl
@[simp] theorem x_iZip : iZipD gr ρ = (gr ρ).bind zipO := rfl
@[simp] theorem x_zipO (l m : List PD) : zipO [.list l, .list m] = .ok (zipD l m) := rfl
@[simp] theorem x_iRev : iRevD gr ρ = (gr ρ).bind revO := rfl
@[simp] theorem x_revO (l : List PD) : revO [.list l] = .ok l.reverse := rfl
@[simp] theorem x_gYes : gYes ρ = .ok true := rfl
@[simp] theorem x_oLc (gi : Rho → R (List PD)) (a : Rho → PD → R Rho) (ge : Rho → R PD) (vs : List Nat) : oLc gi a gt ge vs ρ = (gi ρ).bind fun ds => (noExc (lcL (lcE a gt ge (wipeD ρ vs)) ds)).bind fun l => if l.length ≤ sizeLine then .ok (.list l) else .bad := rfl
@[simp] theorem x_wipe_nil : wipeD ρ [] = ρ := rfl
@[simp] theorem x_wipe_cons (v : Nat) (vs : List Nat) : wipeD ρ (v :: vs) = (wipeD ρ vs).set v none := rfl
@[simp] theorem x_fr_nx : (SR.nx ρ).fr = .rt (.d .none) := rfl
@[simp] theorem x_fr_rt (x : Sl) : (SR.rt x).fr = .rt x := rfl
@[simp] theorem x_fr_exc (c : Ec) : (SR.exc c).fr = .exc c := rfl
@[simp] theorem x_run (n : Nat) (ds : List PD) : runD n s ds = (s (startD n ds)).fr := rfl
@[simp] theorem x_sFrz (is : List Nat) : sFrz is s ρ = s (is.foldl (fun ρ i => frz1 i ρ) ρ) := rfl
-- operators
@[simp] theorem x_add_i (i j : Int) : addD (.int i) (.int j) = .ok (.int (i + j)) := rfl
@[simp] theorem x_add_s (i j : Str) : addD (.str i) (.str j) = if i.length + j.length ≤ sizeLine then .ok (.str (i ++ j)) else .bad := rfl
@[simp] theorem x_add_l (i j : List PD) : addD (.list i) (.list j) = if i.length + j.length ≤ sizeLine then .ok (.list (i ++ j)) else .bad := rfl
@[simp] theorem x_add_t (i j : List PD) : addD (.tuple i) (.tuple j) = if i.length + j.length ≤ sizeLine then .ok (.tuple (i ++ j)) else .bad := rfl
@[simp] theorem x_addL (i j : List PD) : addL (.list i) (.list j) = if i.length + j.length ≤ sizeLine then .ok (.list (i ++ j)) else .bad := rfl
@[simp] theorem x_sub_i (i j : Int) : subD (.int i) (.int j) = .ok (.int (i - j)) := rfl
@[simp] theorem x_neg_i (i : Int) : negD (.int i) = .ok (.int (-i)) := rfl
@[simp] theorem x_cmp_i (p : Int → Int → Bool) (i j : Int) : cmpD p (.int i) (.int j) = .ok (.bool (p i j)) := rfl
@[simp] theorem x_eq (a b : PD) : eqD a b = (eqB a b).bind fun c => .ok (.bool c) := rfl
@[simp] theorem x_ne (a b : PD) : neD a b = (eqB a b).bind fun c => .ok (.bool !c) := rfl
@[simp] theorem x_eqB_i (i j : Int) : eqB (.int i) (.int j) = .ok (decide (i = j)) := rfl
@[simp] theorem x_eqB_s (i j : Str) : eqB (.str i) (.str j) = .ok (decide (i = j)) := rfl
@[simp] theorem x_eqB_b (i j : Bool) : eqB (.bool i) (.bool j) = .ok (decide (i = j)) := rfl
@[simp] theorem x_isN (a : PD) : isND a .none = .ok (.bool (isNB a)) := rfl
@[simp] theorem x_notN (a : PD) : notND a .none = .ok (.bool (!isNB a)) := rfl
@[simp] theorem x_isNB_n : isNB .none = true := rfl
@[simp] theorem x_isNB_i (i : Int) : isNB (.int i) = false := rfl
@[simp] theorem x_isNB_s (i : Str) : isNB (.str i) = false := rfl
@[simp] theorem x_isNB_b (i : Bool) : isNB (.bool i) = false := rfl
@[simp] theorem x_isNB_l (i : List PD) : isNB (.list i) = false := rfl
@[simp] theorem x_isNB_t (i : List PD) : isNB (.tuple i) = false := rfl
@[simp] theorem x_in (a b : PD) : inD a b = (inB a b).bind fun c => .ok (.bool c) := rfl
@[simp] theorem x_nin (a b : PD) : ninD a b = (inB a b).bind fun c => .ok (.bool !c) := rfl
theorem inS_one (z : Str) (c : Nat) : inS ⟨#[c]⟩ z = decide (c ∈ z.cps.toList) := PySem.StrLaws.found_one z c
@[simp] theorem x_in_sign (z : Str) (c : Nat) : inB (.str (sg c)) (.str z) = .ok (decide (c ∈ cs z)) := by
  show R.ok (inS _ _) = _
  unfold sg
  rw [inS_one]
  rfl
theorem flat_strs : ∀ l : List Str, (l.map PyData.str).all flatP = true
  | [] => rfl
  | _ :: l => by rw [List.map_cons, List.all_cons, flat_strs l]; rfl
theorem any_strs (z : Str) : ∀ l : List Str, ((l.map PyData.str).any fun d => eqF d (.str z)) = decide (z ∈ l)
  | [] => by simp
  | x :: l => by
    rw [List.map_cons, List.any_cons, any_strs z l]
    show ((x == z) || decide (z ∈ l)) = _
    by_cases h : x = z
    · subst h; simp
    · have h' : (x == z) = false := by simpa using h
      have h2 : ¬ z = x := fun e => h e.symm
      simp [h', h2]
@[simp] theorem x_in_strs (z : Str) (l : List Str) : inB (.str z) (.list (l.map PyData.str)) = .ok (decide (z ∈ l)) := by
  show (if flatP (.str z) = true ∧ (l.map PyData.str).all flatP = true then R.ok ((l.map PyData.str).any fun d => eqF d (.str z)) else _) = _
  rw [if_pos ⟨rfl, flat_strs l⟩, any_strs]
@[simp] theorem x_in_strsT (z : Str) (l : List Str) : inB (.str z) (.tuple (l.map PyData.str)) = .ok (decide (z ∈ l)) := by
  show (if flatP (.str z) = true ∧ (l.map PyData.str).all flatP = true then R.ok ((l.map PyData.str).any fun d => eqF d (.str z)) else _) = _
  rw [if_pos ⟨rfl, flat_strs l⟩, any_strs]
theorem x_mod (i j : Int) (h : 0 < j) : modD (.int i) (.int j) = .ok (.int (i % j)) := by
  show (if modB i j = true then R.ok (PyData.int (i.fmod j)) else _) = _
  have h1 : modB i j = true := by unfold modB; exact decide_eq_true (by omega)
  rw [if_pos h1, Int.fmod_eq_emod_of_nonneg _ (by omega)]
theorem x_div (i j : Int) (h : 0 < j) (h2 : j < 1073741824) : divD (.int i) (.int j) = .ok (.int (i / j)) := by
  show (if divB i j = true then R.ok (PyData.int (i.fdiv j)) else _) = _
  have h1 : divB i j = true := by unfold divB; rw [Bool.and_eq_true]; exact ⟨decide_eq_true (by omega), decide_eq_true (by omega)⟩
  rw [if_pos h1, Int.fdiv_eq_ediv_of_nonneg _ (by omega)]
theorem x_mul_l (i j : Int) (h : -(2 ^ 64) < i) (h2 : i < 2 ^ 64) : mulD (.int i) (.int j) = .ok (.int (i * j)) := by
  show (if mulB i j = true then R.ok (PyData.int (i * j)) else _) = _
  rw [if_pos (by unfold mulB; simp only [Bool.or_eq_true, Bool.and_eq_true, decide_eq_true_eq]; exact .inl ⟨h, h2⟩)]
theorem x_mul_r (i j : Int) (h : -(2 ^ 64) < j) (h2 : j < 2 ^ 64) : mulD (.int i) (.int j) = .ok (.int (i * j)) := by
  show (if mulB i j = true then R.ok (PyData.int (i * j)) else _) = _
  rw [if_pos (by unfold mulB; simp only [Bool.or_eq_true, Bool.and_eq_true, decide_eq_true_eq]; exact .inr ⟨h, h2⟩)]
theorem x_mul_s (z : Str) (k : Int) (h : -(2 ^ 62) ≤ k) (h2 : k < 2 ^ 62) (h3 : z.length * k.toNat ≤ sizeLine) : mulD (.str z) (.int k) = .ok (.str (mulS z k)) := by
  show (if small62 k = true ∧ z.length * k.toNat ≤ sizeLine then R.ok (PyData.str (mulS z k)) else _) = _
  rw [if_pos ⟨by unfold small62; rw [Bool.and_eq_true]; exact ⟨decide_eq_true h, decide_eq_true h2⟩, h3⟩]
-- items
theorem atI_nn {γ : Type} (l : List γ) (i : Int) (h : 0 ≤ i) : atI l i = l[i.toNat]? := by
  unfold atI ixN
  rw [if_pos h]
  split
  · rfl
  · rename_i h2
    exact (List.getElem?_eq_none (by omega)).symm
theorem x_ix_l (l : List PD) (i : Int) (d : PD) (h : 0 ≤ i) (e : l[i.toNat]? = some d) : ixD (.list l) (.int i) = .ok d := by
  show (match atI l i with | some d => R.ok d | none => .bad) = _
  rw [atI_nn l i h, e]
theorem x_ix_t (l : List PD) (i : Int) (d : PD) (h : 0 ≤ i) (e : l[i.toNat]? = some d) : ixD (.tuple l) (.int i) = .ok d := by
  show (match atI l i with | some d => R.ok d | none => .bad) = _
  rw [atI_nn l i h, e]
theorem x_ix_s (z : Str) (i : Int) (c : Nat) (hz : z.length ≤ sizeLine) (h : 0 ≤ i) (e : (cs z)[i.toNat]? = some c) : ixD (.str z) (.int i) = .ok (.str (sg c)) := by
  unfold cs at e
  show (if z.length ≤ sizeLine then (match atI z.cps.toList i with | some c => R.ok (PyData.str ⟨#[c]⟩) | none => .bad) else .bad) = _
  rw [if_pos hz, atI_nn _ i h, e]
  rfl
@[simp] theorem x_sl_l (l : List PD) (a b : Option Int) : slD (.list l) a b = .ok (.list (cutD l a b)) := rfl
@[simp] theorem x_sl_t (l : List PD) (a b : Option Int) : slD (.tuple l) a b = .ok (.tuple (cutD l a b)) := rfl
@[simp] theorem x_sl_s (z : Str) (a b : Option Int) : slD (.str z) a b = if z.length ≤ sizeLine then .ok (.str (cutS z a b)) else .bad := rfl
@[simp] theorem x_slL (l : List PD) (a b : Option Int) : slL (.list l) a b = .ok (.list (cutD l a b)) := rfl
@[simp] theorem x_len_l (l : List PD) : lenD [.list l] = .ok (.int l.length) := rfl
@[simp] theorem x_len_t (l : List PD) : lenD [.tuple l] = .ok (.int l.length) := rfl
@[simp] theorem x_len_s (z : Str) : lenD [.str z] = if z.length ≤ sizeLine then .ok (.int z.length) else .bad := rfl
@[simp] theorem x_list_l (l : List PD) : listD [.list l] = .ok (.list l) := rfl
@[simp] theorem x_list_t (l : List PD) : listD [.tuple l] = .ok (.list l) := rfl
@[simp] theorem x_tuple_l (l : List PD) : tupleD [.list l] = .ok (.tuple l) := rfl
@[simp] theorem x_tuple_t (l : List PD) : tupleD [.tuple l] = .ok (.tuple l) := rfl
@[simp] theorem x_sum (l : List Int) : sumD [.list (l.map PyData.int)] = .ok (.int l.sum) := by
  show (match asInts (l.map PyData.int) with | some ns => R.ok (PyData.int ns.sum) | none => .bad) = _
  rw [asInts_map]
@[simp] theorem x_any (l : List Bool) : anyD [.list (l.map PyData.bool)] = .ok (.bool (l.any id)) := by
  show (match asBools (l.map PyData.bool) with | some ns => R.ok (PyData.bool (ns.any id)) | none => .bad) = _
  rw [asBools_map]
@[simp] theorem x_all (l : List Bool) : allD [.list (l.map PyData.bool)] = .ok (.bool (l.all id)) := by
  show (match asBools (l.map PyData.bool) with | some ns => R.ok (PyData.bool (ns.all id)) | none => .bad) = _
  rw [asBools_map]
@[simp] theorem x_int_i (i : Int) : intD [.int i] = .ok (.int i) := rfl
@[simp] theorem x_int_b (i : Bool) : intD [.bool i] = .ok (.int (if i = true then 1 else 0)) := rfl
theorem x_int_s (z : Str) (n : Int) (h : PySem.intText? z = some n) (hz : z.length ≤ 640) : intD [.str z] = .ok (.int n) := by
  show (match PySem.intText? z with | some n => if z.length ≤ 640 then R.ok (PyData.int n) else .bad | none => .bad) = _
  rw [h]
  exact if_pos hz
theorem x_str (i : Int) (h : i.natAbs.log2 < 1920) : strD [.int i] = .ok (.str (toString i)) := if_pos h
@[simp] theorem x_max2 (i j : Int) : max2D [.int i, .int j] = .ok (.int (if j > i then j else i)) := rfl
@[simp] theorem x_min2 (i j : Int) : min2D [.int i, .int j] = .ok (.int (if j < i then j else i)) := rfl
@[simp] theorem x_starts (a b : Str) : startsD (.str a) [.str b] = .ok (.bool (Txt.startswith a b)) := rfl
@[simp] theorem x_count (a b : Str) : countD (.str a) [.str b] = .ok (.int (Txt.count a b)) := rfl
@[simp] theorem x_words (a : Str) : wordsD (.str a) [] = if a.length + 2 ≤ sizeLine then .ok (.list ((Txt.words a).map PyData.str)) else .bad := rfl
@[simp] theorem x_split (a b : Str) : splitD (.str a) [.str b] = if (b.length == 0) = false ∧ a.length + 2 ≤ sizeLine then .ok (.list ((Txt.split a b).map PyData.str)) else .bad := rfl
theorem x_join (a : Str) (ys : List Str) (h : (ys.map (·.length)).sum + ys.length * a.length ≤ 16777216) : joinD (.str a) [.list (ys.map PyData.str)] = .ok (.str (Txt.join a ys)) := by
  show (match asStrs (ys.map PyData.str) with | some ys => if (ys.map (fun y : Str => y.length)).sum + ys.length * a.length ≤ 16777216 then R.ok (PyData.str (Txt.join a ys)) else .bad | none => .bad) = _
  rw [asStrs_map]
  exact if_pos h
theorem x_rng1 (j : Int) (h : -(2 ^ 62) ≤ j) (h2 : j < 2 ^ 62) : rng1 [.int j] = .ok (rngD 0 j.toNat) := by
  show (if small62 j = true then R.ok (rngD 0 j.toNat) else .bad) = _
  rw [if_pos (by unfold small62; rw [Bool.and_eq_true]; exact ⟨decide_eq_true h, decide_eq_true h2⟩)]
theorem x_rng2 (i j : Int) (h : -(2 ^ 62) ≤ i) (h2 : i < 2 ^ 62) (h3 : -(2 ^ 62) ≤ j) (h4 : j < 2 ^ 62) : rng2 [.int i, .int j] = .ok (rngD i (j - i).toNat) := by
  show (if small62 i = true ∧ small62 j = true then R.ok (rngD i (j - i).toNat) else .bad) = _
  rw [if_pos ⟨by unfold small62; rw [Bool.and_eq_true]; exact ⟨decide_eq_true h, decide_eq_true h2⟩, by unfold small62; rw [Bool.and_eq_true]; exact ⟨decide_eq_true h3, decide_eq_true h4⟩⟩]
end
/-! ### isinstance of data -/
theorem isi (T : String) (a : PD) (b : Bool) (h : isiB T a = some b) : isiD T a = .ok (.bool b) := by
  unfold isiD
  rw [h]
@[simp] theorem isi_bool_b (b : Bool) : isiD "bool" (.bool b) = .ok (.bool true) := isi _ _ _ (show L2.kitB "bool" "bool" = some true by decide +kernel)
@[simp] theorem isi_bool_i (b : Int) : isiD "bool" (.int b) = .ok (.bool false) := isi _ _ _ (show L2.kitB "int" "bool" = some false by decide +kernel)
@[simp] theorem isi_bool_s (b : Str) : isiD "bool" (.str b) = .ok (.bool false) := isi _ _ _ (show L2.kitB "str" "bool" = some false by decide +kernel)
@[simp] theorem isi_bool_n : isiD "bool" .none = .ok (.bool false) := isi _ _ _ (show L2.kitB "NoneType" "bool" = some false by decide +kernel)
@[simp] theorem isi_bool_l (b : List PD) : isiD "bool" (.list b) = .ok (.bool false) := isi _ _ _ (show L2.kitB "list" "bool" = some false by decide +kernel)
@[simp] theorem isi_bool_t (b : List PD) : isiD "bool" (.tuple b) = .ok (.bool false) := isi _ _ _ (show L2.kitB "tuple" "bool" = some false by decide +kernel)
@[simp] theorem isi_int_b (b : Bool) : isiD "int" (.bool b) = .ok (.bool true) := isi _ _ _ (show L2.kitB "bool" "int" = some true by decide +kernel)
@[simp] theorem isi_int_i (b : Int) : isiD "int" (.int b) = .ok (.bool true) := isi _ _ _ (show L2.kitB "int" "int" = some true by decide +kernel)
@[simp] theorem isi_int_s (b : Str) : isiD "int" (.str b) = .ok (.bool false) := isi _ _ _ (show L2.kitB "str" "int" = some false by decide +kernel)
@[simp] theorem isi_int_n : isiD "int" .none = .ok (.bool false) := isi _ _ _ (show L2.kitB "NoneType" "int" = some false by decide +kernel)
@[simp] theorem isi_int_l (b : List PD) : isiD "int" (.list b) = .ok (.bool false) := isi _ _ _ (show L2.kitB "list" "int" = some false by decide +kernel)
@[simp] theorem isi_int_t (b : List PD) : isiD "int" (.tuple b) = .ok (.bool false) := isi _ _ _ (show L2.kitB "tuple" "int" = some false by decide +kernel)
@[simp] theorem isi_str_b (b : Bool) : isiD "str" (.bool b) = .ok (.bool false) := isi _ _ _ (show L2.kitB "bool" "str" = some false by decide +kernel)
@[simp] theorem isi_str_i (b : Int) : isiD "str" (.int b) = .ok (.bool false) := isi _ _ _ (show L2.kitB "int" "str" = some false by decide +kernel)
@[simp] theorem isi_str_s (b : Str) : isiD "str" (.str b) = .ok (.bool true) := isi _ _ _ (show L2.kitB "str" "str" = some true by decide +kernel)
@[simp] theorem isi_str_n : isiD "str" .none = .ok (.bool false) := isi _ _ _ (show L2.kitB "NoneType" "str" = some false by decide +kernel)
@[simp] theorem isi_str_l (b : List PD) : isiD "str" (.list b) = .ok (.bool false) := isi _ _ _ (show L2.kitB "list" "str" = some false by decide +kernel)
@[simp] theorem isi_str_t (b : List PD) : isiD "str" (.tuple b) = .ok (.bool false) := isi _ _ _ (show L2.kitB "tuple" "str" = some false by decide +kernel)
@[simp] theorem isi_list_b (b : Bool) : isiD "list" (.bool b) = .ok (.bool false) := isi _ _ _ (show L2.kitB "bool" "list" = some false by decide +kernel)
@[simp] theorem isi_list_i (b : Int) : isiD "list" (.int b) = .ok (.bool false) := isi _ _ _ (show L2.kitB "int" "list" = some false by decide +kernel)
@[simp] theorem isi_list_s (b : Str) : isiD "list" (.str b) = .ok (.bool false) := isi _ _ _ (show L2.kitB "str" "list" = some false by decide +kernel)
@[simp] theorem isi_list_n : isiD "list" .none = .ok (.bool false) := isi _ _ _ (show L2.kitB "NoneType" "list" = some false by decide +kernel)
@[simp] theorem isi_list_l (b : List PD) : isiD "list" (.list b) = .ok (.bool true) := isi _ _ _ (show L2.kitB "list" "list" = some true by decide +kernel)
@[simp] theorem isi_list_t (b : List PD) : isiD "list" (.tuple b) = .ok (.bool false) := isi _ _ _ (show L2.kitB "tuple" "list" = some false by decide +kernel)
@[simp] theorem isi_tuple_b (b : Bool) : isiD "tuple" (.bool b) = .ok (.bool false) := isi _ _ _ (show L2.kitB "bool" "tuple" = some false by decide +kernel)
@[simp] theorem isi_tuple_i (b : Int) : isiD "tuple" (.int b) = .ok (.bool false) := isi _ _ _ (show L2.kitB "int" "tuple" = some false by decide +kernel)
@[simp] theorem isi_tuple_s (b : Str) : isiD "tuple" (.str b) = .ok (.bool false) := isi _ _ _ (show L2.kitB "str" "tuple" = some false by decide +kernel)
@[simp] theorem isi_tuple_n : isiD "tuple" .none = .ok (.bool false) := isi _ _ _ (show L2.kitB "NoneType" "tuple" = some false by decide +kernel)
@[simp] theorem isi_tuple_l (b : List PD) : isiD "tuple" (.list b) = .ok (.bool false) := isi _ _ _ (show L2.kitB "list" "tuple" = some false by decide +kernel)
@[simp] theorem isi_tuple_t (b : List PD) : isiD "tuple" (.tuple b) = .ok (.bool true) := isi _ _ _ (show L2.kitB "tuple" "tuple" = some true by decide +kernel)

/-! ### loops -/
/-- a loop by what holds between two turns; P: what holds of its end -/
theorem forD_by {a : Rho → PD → R Rho} {body : Rho → SR} {P : SR → Prop} {xs : List PD} (I : Nat → Rho → Prop) {ρ : Rho} (h0 : I 0 ρ)
    (hs : ∀ (i : Nat) (x : PD) (ρ : Rho), xs[i]? = some x → I i ρ → ∃ ρ1, a ρ x = .ok ρ1 ∧ (match body ρ1 with
      | .nx ρ2 => I (i + 1) ρ2
      | .ct ρ2 => I (i + 1) ρ2
      | .bk ρ2 => P (.nx ρ2)
      | .rt s => P (.rt s)
      | .exc c => P (.exc c)
      | .bad => P .bad))
    (he : ∀ ρ, I xs.length ρ → P (.nx ρ)) : P (forD a body xs ρ) := by
  have go : ∀ (n i : Nat) (ρ : Rho), xs.length - i = n → i ≤ xs.length → I i ρ → P (forD a body (xs.drop i) ρ) := by
    intro n
    induction n with
    | zero =>
      intro i ρ h1 h2 h3
      have e : i = xs.length := by omega
      subst e
      rw [List.drop_length]
      exact he ρ h3
    | succ n ih =>
      intro i ρ h1 h2 h3
      have hl : i < xs.length := by omega
      rw [List.drop_eq_getElem_cons hl]
      obtain ⟨ρ1, e1, h4⟩ := hs i xs[i] ρ (List.getElem?_eq_getElem hl) h3
      unfold forD
      rw [e1]
      simp only
      cases e : body ρ1 with
      | nx ρ2 => rw [e] at h4; exact ih (i + 1) ρ2 (by omega) hl h4
      | ct ρ2 => rw [e] at h4; exact ih (i + 1) ρ2 (by omega) hl h4
      | bk ρ2 => rw [e] at h4; exact h4
      | rt s => rw [e] at h4; exact h4
      | exc c => rw [e] at h4; exact h4
      | bad => rw [e] at h4; exact h4
  exact go xs.length 0 ρ (by omega) (Nat.zero_le _) h0
/-- a comprehension whose items all give a value -/
theorem lcL_map {h : PD → R (Option PD)} : ∀ {xs : List PD} {f : PD → PD}, (∀ x ∈ xs, h x = .ok (some (f x))) → lcL h xs = .ok (xs.map f)
  | [], _, _ => rfl
  | x :: xs, f, e => by
    unfold lcL
    rw [e x List.mem_cons_self, lcL_map fun y hy => e y (List.mem_cons_of_mem _ hy)]
    rfl
theorem lcL_fmap {h : PD → R (Option PD)} : ∀ {xs : List PD} {f : PD → Option PD}, (∀ x ∈ xs, h x = .ok (f x)) → lcL h xs = .ok (xs.filterMap f)
  | [], _, _ => rfl
  | x :: xs, f, e => by
    unfold lcL
    rw [e x List.mem_cons_self, lcL_fmap fun y hy => e y (List.mem_cons_of_mem _ hy)]
    simp only [x_bind_ok, List.filterMap_cons]
    cases f x <;> rfl
end DL
namespace DL
open PySem L2
/-- a statement that goes on -/
theorem seq_nx {s s' : Rho → SR} {ρ ρ1 : Rho} (h : s ρ = .nx ρ1) : sSeq s s' ρ = s' ρ1 := by
  show (s ρ).seq s' = _
  rw [h]
  rfl
theorem seq_rt {s s' : Rho → SR} {ρ : Rho} {x : Sl} (h : s ρ = .rt x) : sSeq s s' ρ = .rt x := by
  show (s ρ).seq s' = _
  rw [h]
  rfl
theorem seq_exc {s s' : Rho → SR} {ρ : Rho} {x : Ec} (h : s ρ = .exc x) : sSeq s s' ρ = .exc x := by
  show (s ρ).seq s' = _
  rw [h]
  rfl
theorem if_t {g : Rho → R Bool} {s s' : Rho → SR} {ρ : Rho} (h : g ρ = .ok true) : sIf g s s' ρ = s ρ := by
  show SR.of (g ρ) _ = _
  rw [h]
  rfl
theorem if_f {g : Rho → R Bool} {s s' : Rho → SR} {ρ : Rho} (h : g ρ = .ok false) : sIf g s s' ρ = s' ρ := by
  show SR.of (g ρ) _ = _
  rw [h]
  rfl
theorem set_ok {i : Nat} {g : Rho → R PD} {ρ : Rho} {x : PD} (h : g ρ = .ok x) : sSet i g ρ = .nx (ρ.set i (some (.d x))) := by
  show SR.of (g ρ) _ = _
  rw [h]
  rfl
theorem setO_ok {i : Nat} {g : Rho → R PD} {ρ : Rho} {x : PD} (h : g ρ = .ok x) : sSetO i g ρ = .nx (ρ.set i (some (.o x))) := by
  show SR.of (g ρ) _ = _
  rw [h]
  rfl
theorem ret_ok {g : Rho → R PD} {ρ : Rho} {x : PD} (h : g ρ = .ok x) : sRet g ρ = .rt (.d x) := by
  show SR.of (g ρ) _ = _
  rw [h]
  rfl
end DL
namespace K01
open PySem PySem.Spec PyProof.Rows L2 DL
def kw_KEPT : List Str := [PySem.Str.ofString "a", PySem.Str.ofString "an", PySem.Str.ofString "the", PySem.Str.ofString "said", PySem.Str.ofString "claim", PySem.Str.ofString "on", PySem.Str.ofString "or", PySem.Str.ofString "then", PySem.Str.ofString "from", PySem.Str.ofString "to", PySem.Str.ofString "of", PySem.Str.ofString "at", PySem.Str.ofString "least", PySem.Str.ofString "most", PySem.Str.ofString "just", PySem.Str.ofString "is"]
def k_KEPT : PD := .tuple (kw_KEPT.map PyData.str)
def S_signs_among : Rho → SR :=
  (sSeq (sFor (iItems (eVar 0)) (aName 2) (sIf (bOf (eOp ninD (rVar 2) (rVar 1))) (sRet (eC (.bool false))) sNext)) (sRet (eC (.bool true))))
def d_signs_among : List PD → FR := runD 3 S_signs_among
def S_is_word : Rho → SR :=
  (sSeq (sIf (bOr (bNot (bOf (eChain leD leD (eC (.int 1)) (eCB lenD (aCons (rVar 0) aNil)) (eC (.int 8))))) (bOf (eOp inD (rVar 0) (eC k_KEPT)))) (sRet (eC (.bool false))) sNext) (sRet (eCall 2 d_signs_among (aCons (eVar 0) (aCons (eC (.str (PySem.Str.ofString "abcdefghijklmnopqrstuvwxyz"))) aNil)))))
def d_is_word : List PD → FR := runD 1 S_is_word
def S_number_in : Rho → SR :=
  (sSeq (sSet 1 (eVar 0)) (sSeq (sIf (bOf (eM1 startsD (rVar 0) (eC (.str (PySem.Str.ofString "-"))))) (sSet 1 (eSl (rVar 0) (pSo (eC (.int 1))) pNo)) sNext) (sSeq (sIf (bOr (bNot (bOf (eChain leD leD (eC (.int 1)) (eCB lenD (aCons (rVar 1) aNil)) (eC (.int 30))))) (bNot (bOf (eCall 2 d_signs_among (aCons (eVar 1) (aCons (eC (.str (PySem.Str.ofString "0123456789"))) aNil)))))) (sRet (eC .none)) sNext) (sSeq (sIf (bAnd (bOf (eOp eqD (eOp ixD (rVar 1) (eC (.int 0))) (eC (.str (PySem.Str.ofString "0"))))) (bOf (eOp neD (rVar 0) (eC (.str (PySem.Str.ofString "0")))))) (sRet (eC .none)) sNext) (sRet (eCB intD (aCons (rVar 0) aNil)))))))
def d_number_in : List PD → FR := runD 2 S_number_in
def S_law_mix : Rho → SR :=
  (sRet (eOp modD (eOp mulD (eOp addD (eOp addD (rVar 0) (eOp mulD (rVar 1) (rVar 1))) (eC (.int 1))) (rVar 2)) (eC (.int 2305843009213693951))))
def d_law_mix : List PD → FR := runD 3 S_law_mix
def S_law_whole : Rho → SR :=
  (sRet (eAnd (eIsi "int" (rVar 0)) (eNot (eIsi "bool" (rVar 0)))))
def d_law_whole : List PD → FR := runD 1 S_law_whole
def S_law_letters : Rho → SR :=
  (sSeq (sSet 2 (eC (.str (PySem.Str.ofString "")))) (sSeq (sFor (iRng1D (aCons (rVar 1) aNil)) (aName 3) (sSeq (sSet 0 (eOp modD (eOp mulD (eOp addD (rVar 0) (rVar 3)) (eC (.int 40692))) (eC (.int 2147483399)))) (sSet 2 (eOp addD (rVar 2) (eOp ixD (eC (.str (PySem.Str.ofString "abcdefghijklmnopqrstuvwxyz"))) (eOp modD (eOp divD (rVar 0) (eC (.int 7))) (eC (.int 26)))))))) (sRetV 2)))
def d_law_letters : List PD → FR := runD 4 S_law_letters
def S_law_figures : Rho → SR :=
  (sSeq (sSet 2 (eOp ixD (eC (.str (PySem.Str.ofString "123456789"))) (eOp modD (rVar 0) (eC (.int 9))))) (sSeq (sFor (iRng1D (aCons (eOp subD (rVar 1) (eC (.int 1))) aNil)) (aName 3) (sSeq (sSet 0 (eOp modD (eOp mulD (eOp addD (rVar 0) (rVar 3)) (eC (.int 40692))) (eC (.int 2147483399)))) (sSet 2 (eOp addD (rVar 2) (eOp ixD (eC (.str (PySem.Str.ofString "0123456789"))) (eOp modD (eOp divD (rVar 0) (eC (.int 7))) (eC (.int 10)))))))) (sRetV 2)))
def d_law_figures : List PD → FR := runD 4 S_law_figures
def S_law_kept : Rho → SR :=
  (sRetO (eM1 splitD (eC (.str (PySem.Str.ofString "a an the said claim on or then from to of at least most just is"))) (eC (.str (PySem.Str.ofString " ")))))
def d_law_kept : List PD → FR := runD 0 S_law_kept
def S_law_spoilt : Rho → SR :=
  (sSeq (sSet 3 (eOp modD (rVar 1) (eOp addD (eCB lenD (aCons (rVar 0) aNil)) (eC (.int 1))))) (sRet (eOp addD (eOp addD (eSl (rVar 0) pNo (pSo (rVar 3))) (eOp ixD (rVar 2) (eOp modD (eOp divD (rVar 1) (eC (.int 21))) (eCB lenD (aCons (rVar 2) aNil))))) (eSl (rVar 0) (pSo (eOp addD (rVar 3) (eOp modD (eOp divD (rVar 1) (eC (.int 7))) (eC (.int 2))))) pNo))))
def d_law_spoilt : List PD → FR := runD 4 S_law_spoilt
def S_law_wordlike : Rho → SR :=
  (sSeq (sSet 2 (eOp modD (rVar 0) (eC (.int 8)))) (sSeq (sIf (bAnd (bOf (eOp eqD (rVar 2) (eC (.int 0)))) (bOf (eOp eqD (eOp modD (eOp divD (rVar 0) (eC (.int 64))) (eC (.int 3))) (eC (.int 0))))) (sRet (eOp ixD (eFz (oLst (aCons (eC (.str (PySem.Str.ofString "kind"))) (aCons (eC (.str (PySem.Str.ofString "part"))) (aCons (eC (.str (PySem.Str.ofString "size"))) (aCons (eC (.str (PySem.Str.ofString "join"))) (aCons (eC (.str (PySem.Str.ofString "step"))) aNil))))))) (eOp modD (eOp divD (rVar 0) (eC (.int 8))) (eC (.int 5))))) sNext) (sSeq (sIf (bOf (eOp ltD (rVar 2) (eC (.int 2)))) (sRet (eCall 2 d_law_letters (aCons (eVar 1) (aCons (eOp addD (eC (.int 1)) (eOp modD (eOp divD (rVar 0) (eC (.int 8))) (eC (.int 8)))) aNil)))) sNext) (sSeq (sIf (bOf (eOp eqD (rVar 2) (eC (.int 2)))) (sRet (eOp ixD (eCall0 d_law_kept) (eOp modD (eOp divD (rVar 0) (eC (.int 8))) (eC (.int 16))))) sNext) (sSeq (sIf (bOf (eOp eqD (rVar 2) (eC (.int 3)))) (sRet (eOp addD (eOp ixD (eCall0 d_law_kept) (eOp modD (eOp divD (rVar 0) (eC (.int 8))) (eC (.int 16)))) (eC (.str (PySem.Str.ofString "s"))))) sNext) (sSeq (sIf (bOf (eOp eqD (rVar 2) (eC (.int 4)))) (sRet (eSl (eOp ixD (eCall0 d_law_kept) (eOp modD (eOp divD (rVar 0) (eC (.int 8))) (eC (.int 16)))) (pSo (eC (.int 1))) pNo)) sNext) (sSeq (sIf (bOf (eOp eqD (rVar 2) (eC (.int 5)))) (sRet (eCall 2 d_law_letters (aCons (eVar 1) (aCons (eOp addD (eC (.int 9)) (eOp modD (eOp divD (rVar 0) (eC (.int 8))) (eC (.int 12)))) aNil)))) sNext) (sRet (eCall 3 d_law_spoilt (aCons (eCall 2 d_law_letters (aCons (eVar 1) (aCons (eOp addD (eC (.int 1)) (eOp modD (eOp divD (rVar 0) (eC (.int 8))) (eC (.int 8)))) aNil))) (aCons (eOp divD (rVar 0) (eC (.int 64))) (aCons (eC (.str (PySem.Str.ofString "AZ09 -_.,"))) aNil))))))))))))
def d_law_wordlike : List PD → FR := runD 3 S_law_wordlike
def S_law_numberlike : Rho → SR :=
  (sSeq (sSet 2 (eOp modD (rVar 0) (eC (.int 8)))) (sSeq (sSet 3 (eCall 2 d_law_figures (aCons (eVar 1) (aCons (eOp addD (eC (.int 1)) (eOp modD (eOp divD (rVar 0) (eC (.int 8))) (eC (.int 30)))) aNil)))) (sSeq (sIf (bOf (eOp ltD (rVar 2) (eC (.int 2)))) (sRetV 3) sNext) (sSeq (sIf (bOf (eOp eqD (rVar 2) (eC (.int 2)))) (sRet (eOp addD (eC (.str (PySem.Str.ofString "-"))) (rVar 3))) sNext) (sSeq (sIf (bOf (eOp eqD (rVar 2) (eC (.int 3)))) (sRet (eOp ixD (eFz (oLst (aCons (eC (.str (PySem.Str.ofString "0"))) (aCons (eC (.str (PySem.Str.ofString "-0"))) (aCons (eC (.str (PySem.Str.ofString ""))) (aCons (eC (.str (PySem.Str.ofString "-"))) (aCons (eC (.str (PySem.Str.ofString "00"))) (aCons (eC (.str (PySem.Str.ofString "--1"))) aNil)))))))) (eOp modD (eOp divD (rVar 0) (eC (.int 8))) (eC (.int 6))))) sNext) (sSeq (sIf (bOf (eOp eqD (rVar 2) (eC (.int 4)))) (sRet (eOp addD (eOp ixD (eFz (oLst (aCons (eC (.str (PySem.Str.ofString "0"))) (aCons (eC (.str (PySem.Str.ofString "-0"))) aNil)))) (eOp modD (eOp divD (rVar 0) (eC (.int 240))) (eC (.int 2)))) (rVar 3))) sNext) (sSeq (sIf (bOf (eOp eqD (rVar 2) (eC (.int 5)))) (sRet (eOp addD (eOp ixD (eFz (oLst (aCons (eC (.str (PySem.Str.ofString ""))) (aCons (eC (.str (PySem.Str.ofString "-"))) aNil)))) (eOp modD (eOp divD (rVar 0) (eC (.int 240))) (eC (.int 2)))) (eCall 2 d_law_figures (aCons (eVar 1) (aCons (eOp addD (eC (.int 31)) (eOp modD (eOp divD (rVar 0) (eC (.int 8))) (eC (.int 10)))) aNil))))) sNext) (sSeq (sIf (bOf (eOp eqD (rVar 2) (eC (.int 6)))) (sRet (eOp addD (eC (.str (PySem.Str.ofString "+"))) (rVar 3))) sNext) (sRet (eCall 3 d_law_spoilt (aCons (eVar 3) (aCons (eOp divD (rVar 0) (eC (.int 240))) (aCons (eC (.str (PySem.Str.ofString "a. -+,"))) aNil)))))))))))))
def d_law_numberlike : List PD → FR := runD 4 S_law_numberlike
def S_law_is_word : Rho → SR :=
  (sSeq (sSet 1 (eC (.str (PySem.Str.ofString "abcdefghijklmnopqrstuvwxyz")))) (sRet (eAnd (eChain leD leD (eC (.int 1)) (eCB lenD (aCons (rVar 0) aNil)) (eC (.int 8))) (eAnd (eOp ninD (rVar 0) (eCall0 d_law_kept)) (eCB allD (aCons (eFz (oLc (iItems (eVar 0)) (aName 2) gYes (eOp eqD (eM1 countD (rVar 1) (rVar 2)) (eC (.int 1))) [2])) aNil))))))
def d_law_is_word : List PD → FR := runD 3 S_law_is_word
def S_law_number : Rho → SR :=
  (sSeq (sSet 1 (eVar 0)) (sSeq (sIf (bAnd (bOf (eOp gtD (eCB lenD (aCons (rVar 0) aNil)) (eC (.int 1)))) (bOf (eOp eqD (eOp ixD (rVar 0) (eC (.int 0))) (eC (.str (PySem.Str.ofString "-")))))) (sSet 1 (eSl (rVar 0) (pSo (eC (.int 1))) pNo)) sNext) (sSeq (sIf (bOr (bNot (bOf (eChain leD leD (eC (.int 1)) (eCB lenD (aCons (rVar 1) aNil)) (eC (.int 30))))) (bNot (bOf (eCB allD (aCons (eFz (oLc (iItems (eVar 1)) (aName 3) gYes (eOp eqD (eM1 countD (eC (.str (PySem.Str.ofString "0123456789"))) (rVar 3)) (eC (.int 1))) [3])) aNil))))) (sRet (eC .none)) sNext) (sSeq (sSet 2 (eC (.int 0))) (sSeq (sFor (iItems (eVar 1)) (aName 3) (sSet 2 (eOp addD (eOp mulD (eC (.int 10)) (rVar 2)) (eM1 sindexD (eC (.str (PySem.Str.ofString "0123456789"))) (rVar 3))))) (sSeq (sIf (bOf (eOp neD (rVar 1) (rVar 0))) (sSet 2 (eUn negD (rVar 2))) sNext) (sSeq (sIf (bOf (eOp neD (eCB strD (aCons (rVar 2) aNil)) (rVar 0))) (sRet (eC .none)) sNext) (sRetV 2))))))))
def d_law_number : List PD → FR := runD 4 S_law_number
def S_law : Rho → SR :=
  (sSeq (sSet 1 (eOp addD (eSl (rVar 0) pNo (pSo (eC (.int 63)))) (eFz (oLst (aCons (eOp modD (eCB lenD (aCons (rVar 0) aNil)) (eC (.int 64))) aNil))))) (sSeq (sFor (iRng1D (aCons (eCB lenD (aCons (rVar 1) aNil)) aNil)) (aName 2) (sSeq (sSet 3 (eCall 3 d_law_mix (aCons (eOp ixD (rVar 1) (rVar 2)) (aCons (eVar 2) (aCons (eC (.int 1234567890123456789)) aNil))))) (sSeq (sSet 4 (eOp modD (eOp divD (rVar 3) (eC (.int 40000))) (eC (.int 2147483399)))) (sSeq (sSet 5 (eCall 2 d_law_wordlike (aCons (eOp divD (rVar 3) (eC (.int 2))) (aCons (eVar 4) aNil)))) (sSeq (sIf (bOf (eOp eqD (eOp modD (rVar 3) (eC (.int 2))) (eC (.int 1)))) (sSet 5 (eCall 2 d_law_numberlike (aCons (eOp divD (rVar 3) (eC (.int 2))) (aCons (eVar 4) aNil)))) sNext) (sSeq (sSet 6 (eCall 1 d_is_word (aCons (eVar 5) aNil))) (sSeq (sIf (bOr (bNot (bOf (eIsi "bool" (rVar 6)))) (bOf (eOp neD (rVar 6) (eCall 1 d_law_is_word (aCons (eVar 5) aNil))))) (sRet (eC (.bool false))) sNext) (sSeq (sSet 7 (eCall 1 d_number_in (aCons (eVar 5) aNil))) (sSeq (sSet 8 (eCall 1 d_law_number (aCons (eVar 5) aNil))) (sIf (bOr (bAnd (bOf (eOp isND (rVar 8) (eC .none))) (bOf (eOp notND (rVar 7) (eC .none)))) (bAnd (bOf (eOp notND (rVar 8) (eC .none))) (bOr (bNot (bOf (eCall 1 d_law_whole (aCons (eVar 7) aNil)))) (bOf (eOp neD (rVar 7) (rVar 8)))))) (sRet (eC (.bool false))) sNext)))))))))) (sRet (eC (.bool true)))))
def d_law : List PD → FR := runD 9 S_law
end K01
namespace K01
open PySem L2 DL PySem.NumText

def smallL : List Nat := [97, 98, 99, 100, 101, 102, 103, 104, 105, 106, 107, 108, 109, 110, 111, 112, 113, 114, 115, 116, 117, 118, 119, 120, 121, 122]
def figL : List Nat := [48, 49, 50, 51, 52, 53, 54, 55, 56, 57]
theorem small_cps : (Str.ofString "abcdefghijklmnopqrstuvwxyz").cps.toList = smallL := by decide +kernel
theorem small_len : (Str.ofString "abcdefghijklmnopqrstuvwxyz").length = 26 := by decide +kernel
theorem fig_cps : (Str.ofString "0123456789").cps.toList = figL := by decide +kernel
theorem fig_len : (Str.ofString "0123456789").length = 10 := by decide +kernel
theorem fig9_cps : (Str.ofString "123456789").cps.toList = [49, 50, 51, 52, 53, 54, 55, 56, 57] := by decide +kernel
theorem fig9_len : (Str.ofString "123456789").length = 9 := by decide +kernel
theorem sz {n : Nat} (h : n ≤ 16777216) : n ≤ sizeLine := by rw [sizeLine_eq]; exact h

/-! ### is_word -/
theorem small_cs : cs (Str.ofString "abcdefghijklmnopqrstuvwxyz") = smallL := small_cps
theorem fig_cs : cs (Str.ofString "0123456789") = figL := fig_cps
def allIn (l w : List Nat) : Bool := l.all fun c => decide (c ∈ w)
theorem allIn_cons (c : Nat) (l w : List Nat) : allIn (c :: l) w = (decide (c ∈ w) && allIn l w) := rfl
theorem signs_loop (w : Str) (z : PD) : ∀ (l : List Nat) (x : Option Sl), ∃ y,
    forD (aName 2) (sIf (bOf (eOp ninD (rVar 2) (rVar 1))) (sRet (eC (.bool false))) sNext) (l.map fun c => .str (sg c)) [some (.d z), some (.d (.str w)), x] =
      if allIn l (cs w) = true then .nx [some (.d z), some (.d (.str w)), y] else .rt (.d (.bool false))
  | [], x => ⟨x, rfl⟩
  | c :: l, x => by
    obtain ⟨y, ih⟩ := signs_loop w z l (some (.d (.str (sg c))))
    rw [List.map_cons]
    unfold forD
    by_cases h : c ∈ cs w
    · refine ⟨y, ?_⟩
      simp [rVar, h, ih, allIn_cons]
    · refine ⟨x, ?_⟩
      simp [rVar, h, allIn_cons]
theorem signs_among (z w : Str) : d_signs_among [.str z, .str w] = .rt (.d (.bool (allIn (cs z) (cs w)))) := by
  obtain ⟨y, e⟩ := signs_loop w (.str z) (cs z) none
  simp [d_signs_among, S_signs_among, startD, eVar, e]
  by_cases h : allIn (cs z) (cs w) = true <;> simp [h]
def isW (z : Str) : Bool := decide (1 ≤ (z.length : Int)) && (decide ((z.length : Int) ≤ 8) && (!decide (z ∈ kw_KEPT) && allIn (cs z) smallL))
theorem is_word (z : Str) (hz : z.length ≤ 16777216) : d_is_word [.str z] = .rt (.d (.bool (isW z))) := by
  have h1 := sz hz
  simp only [d_is_word, S_is_word, startD, x_run]
  simp [rVar, eVar, h1, k_KEPT, signs_among, small_cs]
  unfold isW
  by_cases a : 1 ≤ (z.length : Int) <;> by_cases b : (z.length : Int) ≤ 8 <;> by_cases c : z ∈ kw_KEPT <;> simp [a, b, c, eVar, signs_among, small_cs]
theorem law_kept : d_law_kept [] = .rt (.o (.list (kw_KEPT.map PyData.str))) := by
  have e : Txt.split (Str.ofString "a an the said claim on or then from to of at least most just is") (Str.ofString " ") = kw_KEPT := by decide +kernel
  have l : (Str.ofString "a an the said claim on or then from to of at least most just is").length + 2 ≤ sizeLine := sz (by decide +kernel)
  have l1 : ((Str.ofString " ").length == 0) = false := by decide +kernel
  simp only [d_law_kept, S_law_kept, startD, x_run]
  simp only [x_sRetO, x_eM1, x_eC, x_bind_ok, x_strOf, x_split, l1, l, e, and_self, if_true, x_of_ok, x_fr_rt]
theorem cnt_small (c : Nat) : decide (Txt.count (Str.ofString "abcdefghijklmnopqrstuvwxyz") (sg c) = 1) = decide (c ∈ smallL) := by
  unfold sg
  rw [PyProof.Rows.count_cnt, small_cps]
  by_cases h : c ∈ smallL
  · rw [decide_eq_true h]
    have all : smallL.all (fun c => decide (PyProof.Rows.cnt c smallL = 1)) = true := by decide +kernel
    exact List.all_eq_true.mp all c h
  · rw [decide_eq_false h, PyProof.Rows.cnt_none c _ h]
    rfl
theorem cnt_fig (c : Nat) : decide (Txt.count (Str.ofString "0123456789") (sg c) = 1) = decide (c ∈ figL) := by
  unfold sg
  rw [PyProof.Rows.count_cnt, fig_cps]
  by_cases h : c ∈ figL
  · rw [decide_eq_true h]
    have all : figL.all (fun c => decide (PyProof.Rows.cnt c figL = 1)) = true := by decide +kernel
    exact List.all_eq_true.mp all c h
  · rw [decide_eq_false h, PyProof.Rows.cnt_none c _ h]
    rfl
theorem lc_signs {a : Rho → PD → R Rho} {ge : Rho → R PD} {ρ : Rho} (f : Nat → Bool) (h : ∀ c, lcE a gYes ge ρ (.str (sg c)) = .ok (some (.bool (f c)))) : ∀ l : List Nat, lcL (lcE a gYes ge ρ) (l.map fun c => .str (sg c)) = .ok ((l.map f).map PyData.bool)
  | [] => rfl
  | c :: l => by
    rw [List.map_cons]
    unfold lcL
    rw [h c, lc_signs f h l]
    rfl
theorem all_in (l w : List Nat) : (l.map fun c => decide (c ∈ w)).all id = allIn l w := by
  unfold allIn
  rw [List.all_map]
  rfl
theorem law_is_word (z : Str) (hz : z.length ≤ 16777216) : d_law_is_word [.str z] = .rt (.d (.bool (isW z))) := by
  have h1 := sz hz
  have e := lc_signs (a := aName 2) (ge := eOp eqD (eM1 countD (rVar 1) (rVar 2)) (eC (.int 1))) (ρ := [some (.d (.str z)), some (.d (.str (Str.ofString "abcdefghijklmnopqrstuvwxyz"))), none])
    (fun c => decide (c ∈ smallL)) (fun c => by
      have := cnt_small c
      simp [lcE, rVar, -decide_eq_decide, this]) (cs z)
  have hl := cs_len z
  simp only [d_law_is_word, S_law_is_word, startD, x_run]
  unfold isW
  rw [← all_in]
  by_cases a : 1 ≤ (z.length : Int) <;> by_cases b : (z.length : Int) ≤ 8 <;> by_cases c : z ∈ kw_KEPT <;> simp [rVar, eVar, h1, law_kept, a, b, c, e, hl, -List.map_map, -List.all_map]
/-! ### number_in -/
theorem cutS_from1 (z : Str) : cs (cutS z (some 1) none) = (cs z).drop 1 := by
  unfold cutS cs
  show ((z.cps.toList.drop (HT.sIx z.length 0 (some 1))).take (HT.sIx z.length z.length none - HT.sIx z.length 0 (some 1))).toArray.toList = _
  have e1 : HT.sIx z.length 0 (some 1) = min 1 z.length := HT.sIx_nat z.length 0 1
  have e2 : HT.sIx z.length z.length none = z.length := rfl
  rw [e1, e2]
  have hl : z.cps.toList.length = z.length := Array.length_toList
  by_cases h : z.length = 0
  · have : z.cps.toList = [] := List.eq_nil_of_length_eq_zero (by omega)
    simp [this]
  · have e3 : min 1 z.length = 1 := by omega
    rw [e3, List.take_of_length_le (by rw [List.length_drop]; omega)]
theorem cut1_len (z : Str) : (cutS z (some 1) none).length = z.length - 1 := by
  rw [← cs_len, cutS_from1, List.length_drop, cs_len]
theorem starts_minus (z : Str) : Txt.startswith z (Str.ofString "-") = decide ((cs z).head? = some 45) := by
  have e : Str.ofString "-" = sg 45 := by decide +kernel
  rw [e]
  unfold Txt.startswith
  have h := PySem.StrLaws.subAt_one z 45 0
  have hl := cs_len z
  unfold cs at hl ⊢
  show (decide (0 + 1 ≤ z.length) && Builtin.Str.subAt z ⟨#[45]⟩ 0) = _
  rw [Bool.eq_iff_iff, Bool.and_eq_true, decide_eq_true_eq, decide_eq_true_eq, List.head?_eq_getElem?]
  exact h
/-- the figures of a text: behind a minus ahead -/
def figs (l : List Nat) : List Nat := match l with
  | 45 :: r => r
  | l => l
theorem digits_iff (l : List Nat) : allIn l figL = true ↔ AllDigits l := by
  unfold allIn AllDigits
  rw [List.all_eq_true]
  constructor
  · intro h c hc
    have := of_decide_eq_true (h c hc)
    simp [figL] at this
    omega
  · intro h c hc
    have := h c hc
    refine decide_eq_true ?_
    simp [figL]
    omega
/-- what a text tells -/
def num (l : List Nat) : Option Int :=
  if (figs l).length = 0 ∨ 30 < (figs l).length ∨ allIn (figs l) figL = false then none
  else if (figs l).head? = some 48 ∧ l ≠ [48] then none
  else if (figs l).length = l.length then some (digitsVal l : Nat) else some (-((digitsVal (figs l) : Nat) : Int))
def numD (l : List Nat) : PD := match num l with
  | some n => .int n
  | none => .none
theorem zero_cs : cs (Str.ofString "0") = [48] := by decide +kernel
theorem str_zero (z : Str) : (z = Str.ofString "0") ↔ cs z = [48] := ⟨fun h => by rw [h]; exact zero_cs, fun h => cs_ext (by rw [h, zero_cs])⟩
theorem figs_cut {z : Str} (h : (cs z).head? = some 45) : figs (cs z) = cs (cutS z (some 1) none) := by
  rw [cutS_from1]
  cases e : cs z with
  | nil => rw [e] at h; cases h
  | cons c r =>
    rw [e] at h
    cases h
    rfl
theorem figs_same {l : List Nat} (h : l.head? ≠ some 45) : figs l = l := by
  unfold figs
  split
  · exact absurd rfl h
  · rfl
theorem ix0 (z : Str) (c : Nat) (r : List Nat) (h : cs z = c :: r) (hz : z.length ≤ sizeLine) : ixD (.str z) (.int 0) = .ok (.str (sg c)) := x_ix_s z 0 c hz (by decide) (by rw [h]; rfl)
theorem sg_inj (c d : Nat) : (sg c = sg d) ↔ c = d := ⟨fun h => by injection h with h; simpa using h, fun h => by rw [h]⟩
/-- behind the first lines -/
theorem num_tail (z w : Str) (hz : z.length ≤ 100) (hw : w.length ≤ 100) (hf : cs w = figs (cs z)) (hi : (figs (cs z)).length = (cs z).length → cs w = cs z) :
    (sSeq (sIf (bOr (bNot (bOf (eChain leD leD (eC (.int 1)) (eCB lenD (aCons (rVar 1) aNil)) (eC (.int 30))))) (bNot (bOf (eCall 2 d_signs_among (aCons (eVar 1) (aCons (eC (.str (PySem.Str.ofString "0123456789"))) aNil)))))) (sRet (eC .none)) sNext)
      (sSeq (sIf (bAnd (bOf (eOp eqD (eOp ixD (rVar 1) (eC (.int 0))) (eC (.str (PySem.Str.ofString "0"))))) (bOf (eOp neD (rVar 0) (eC (.str (PySem.Str.ofString "0")))))) (sRet (eC .none)) sNext) (sRet (eCB intD (aCons (rVar 0) aNil)))) [some (.d (.str z)), some (.d (.str w))]).fr = .rt (.d (numD (cs z))) := by
  have h1 : w.length ≤ sizeLine := sz (by omega)
  have hl := cs_len w
  have hl2 := cs_len z
  unfold numD num
  rw [hf] at hl
  by_cases a : 1 ≤ (w.length : Int)
  · by_cases b : (w.length : Int) ≤ 30
    · by_cases d : allIn (figs (cs z)) figL = true
      · have n1 : ¬ ((figs (cs z)).length = 0 ∨ 30 < (figs (cs z)).length ∨ allIn (figs (cs z)) figL = false) := by
          rintro (q | q | q)
          · omega
          · omega
          · rw [d] at q; cases q
        rw [if_neg n1]
        simp [rVar, eVar, h1, a, b, signs_among, hf, fig_cs, d]
        cases e : cs w with
        | nil => rw [← hf, e] at hl; simp at hl; omega
        | cons c r =>
          have e0 := ix0 w c r e h1
          have ez : Str.ofString "0" = sg 48 := by decide +kernel
          simp [e0, ez, sg_inj]
          rw [← hf, e]
          simp only [List.head?_cons, Option.some.injEq]
          have dg : AllDigits (figs (cs z)) := (digits_iff _).mp d
          have fin : intD [.str z] = .ok (.int (if (figs (cs z)).length = (cs z).length then ((digitsVal (cs z) : Nat) : Int) else -((digitsVal (figs (cs z)) : Nat) : Int))) := by
            by_cases g : (figs (cs z)).length = (cs z).length
            · rw [if_pos g]
              have e3 := hi g
              refine x_int_s z _ (intText_digits (x := z) (by rw [show z.cps.toList = cs z from rfl, ← e3, hf]; exact dg) ?_ (by omega)) (by omega)
              rw [show z.cps.toList = cs z from rfl, ← e3, e]
              exact List.cons_ne_nil _ _
            · rw [if_neg g]
              have e4 : cs z = 45 :: figs (cs z) := by
                cases ez : cs z with
                | nil => rw [ez] at g; exact absurd rfl g
                | cons x y =>
                  by_cases hx : x = 45
                  · subst hx; rfl
                  · rw [ez] at g
                    exact absurd (congrArg List.length (figs_same (l := x :: y) (by simpa using hx))) g
              refine x_int_s z _ (intText_neg (x := z) e4 dg ?_ (by omega)) (by omega)
              rw [← hf, e]
              exact List.cons_ne_nil _ _
          have zz : (z = sg 48) ↔ cs z = [48] := by rw [← ez]; exact str_zero z
          rw [← hf, e] at fin
          by_cases k : c = 48
          · by_cases k2 : cs z = [48]
            · have k3 := zz.mpr k2
              simp [k, k2, k3]
              rw [k3] at fin
              simp [rVar, fin]
              rw [k]
              split <;> simp
            · have k3 : ¬ z = sg 48 := fun q => k2 (zz.mp q)
              simp [k, k2, k3]
          · simp [k, rVar, fin]
            split <;> simp
      · have n1 : ((figs (cs z)).length = 0 ∨ 30 < (figs (cs z)).length ∨ allIn (figs (cs z)) figL = false) := .inr (.inr (by simpa using d))
        rw [if_pos n1]
        have d' : allIn (figs (cs z)) figL = false := by simpa using d
        simp [rVar, eVar, h1, a, b, signs_among, hf, fig_cs, d']
    · have n1 : ((figs (cs z)).length = 0 ∨ 30 < (figs (cs z)).length ∨ allIn (figs (cs z)) figL = false) := .inr (.inl (by omega))
      rw [if_pos n1]
      simp [rVar, eVar, h1, a, b]
  · have n1 : ((figs (cs z)).length = 0 ∨ 30 < (figs (cs z)).length ∨ allIn (figs (cs z)) figL = false) := .inl (by omega)
    rw [if_pos n1]
    simp [rVar, eVar, h1, a]
theorem number_in (z : Str) (hz : z.length ≤ 100) : d_number_in [.str z] = .rt (.d (numD (cs z))) := by
  have h1 := sz (show z.length ≤ 16777216 by omega)
  show (S_number_in [some (.d (.str z)), none]).fr = _
  unfold S_number_in
  rw [seq_nx (ρ1 := [some (.d (.str z)), some (.d (.str z))]) (by simp [eVar])]
  by_cases h : (cs z).head? = some 45
  · have e : Txt.startswith z (Str.ofString "-") = true := by rw [starts_minus]; exact decide_eq_true h
    rw [seq_nx (ρ1 := [some (.d (.str z)), some (.d (.str (cutS z (some 1) none)))]) (by simp [rVar, h1, e])]
    refine num_tail z (cutS z (some 1) none) hz (by rw [cut1_len]; omega) (figs_cut h).symm fun q => ?_
    rw [figs_cut h, cs_len, cut1_len, cs_len] at q
    have : (cs z).length ≠ 0 := by
      intro q
      rw [List.length_eq_zero_iff] at q
      rw [q] at h
      cases h
    rw [cs_len] at this
    omega
  · have e : Txt.startswith z (Str.ofString "-") = false := by rw [starts_minus]; exact decide_eq_false h
    rw [seq_nx (ρ1 := [some (.d (.str z)), some (.d (.str z))]) (by simp [rVar, e])]
    exact num_tail z z hz hz (figs_same h).symm fun _ => rfl
end K01
namespace K01
open PySem L2 DL PySem.NumText

/-! ### the law's own number -/
theorem idx_fig (c : Nat) (h : 48 ≤ c ∧ c ≤ 57) : sindexD (.str (Str.ofString "0123456789")) [.str (sg c)] = .ok (.int ((c - 48 : Nat) : Int)) := by
  have all : (List.range 10).all (fun k => Builtin.Str.occurrences (Str.ofString "0123456789") (sg (k + 48)) 0 (Str.ofString "0123456789").length 1 == [k]) = true := by decide +kernel
  have h2 := List.all_eq_true.mp all (c - 48) (List.mem_range.mpr (by omega))
  have e : c - 48 + 48 = c := by omega
  rw [e] at h2
  have h3 := eq_of_beq h2
  unfold sindexD
  simp only [h3]
theorem num_loop (z w : PD) : ∀ (l : List Nat) (a : Nat) (x : Option Sl), AllDigits l → ∃ y,
    forD (aName 3) (sSet 2 (eOp addD (eOp mulD (eC (.int 10)) (rVar 2)) (eM1 sindexD (eC (.str (PySem.Str.ofString "0123456789"))) (rVar 3)))) (l.map fun c => .str (sg c)) [some (.d z), some (.d w), some (.d (.int (a : Nat))), x] =
      .nx [some (.d z), some (.d w), some (.d (.int ((l.foldl (fun acc c => acc * 10 + (c - 48)) a : Nat) : Int))), y]
  | [], a, x, _ => ⟨x, rfl⟩
  | c :: l, a, x, h => by
    obtain ⟨y, ih⟩ := num_loop z w l (a * 10 + (c - 48)) (some (.d (.str (sg c)))) h.tail
    refine ⟨y, ?_⟩
    rw [List.map_cons, List.foldl_cons]
    unfold forD
    have e := idx_fig c h.head
    have m := x_mul_l 10 (a : Nat) (by decide) (by decide)
    have hc := h.head
    have e2 : ((10 : Int) * (a : Nat) + ((c - 48 : Nat) : Int)) = ((a * 10 + (c - 48) : Nat) : Int) := by omega
    simp only [x_aName, x_sSet, x_eOp, x_eC, x_eM1, rVar]
    simp [e, m, e2, -Int.natCast_add, -Int.natCast_mul]
    exact ih
theorem lc_fig {ρ : Rho} (h : ∃ a b c, ρ = [some a, some b, c, none]) (l : List Nat) : lcL (lcE (aName 3) gYes (eOp eqD (eM1 countD (eC (.str (PySem.Str.ofString "0123456789"))) (rVar 3)) (eC (.int 1))) ρ) (l.map fun c => .str (sg c)) = .ok ((l.map fun c => decide (c ∈ figL)).map PyData.bool) := by
  obtain ⟨a, b, c, rfl⟩ := h
  refine lc_signs _ (fun c => ?_) l
  have := cnt_fig c
  simp [lcE, rVar, -decide_eq_decide, this]
theorem str_nat (m : Nat) : cs (Str.ofString (toString ((m : Nat) : Int))) = (Nat.toDigits 10 m).map Char.toNat := PySem.W.KIN.signs_num m
theorem str_neg (m : Nat) (h : 0 < m) : cs (Str.ofString (toString (-((m : Nat) : Int)))) = 45 :: (Nat.toDigits 10 m).map Char.toNat := by
  obtain ⟨k, rfl⟩ : ∃ k, m = k + 1 := ⟨m - 1, by omega⟩
  unfold cs
  rw [PyProof.Rows.signs_ofString]
  show (("-" ++ Nat.repr (k + 1)).toList).map Char.toNat = _
  rw [String.toList_append, Nat.toList_repr]
  rfl
theorem char_back (l : List Nat) (h : AllDigits l) : (l.map Char.ofNat).map Char.toNat = l := by
  rw [List.map_map]
  refine (List.map_congr_left fun c hc => ?_).trans (List.map_id l)
  have all : (List.range 58).all (fun c => (Char.ofNat c).toNat == c) = true := by decide +kernel
  have := h c hc
  exact eq_of_beq (List.all_eq_true.mp all c (List.mem_range.mpr (by omega)))
/-- a number's figures -/
theorem digs_back (l : List Nat) (h : AllDigits l) (h0 : l ≠ []) : ((Nat.toDigits 10 (digitsVal l)).map Char.toNat = l) ↔ (l.head? ≠ some 48 ∨ l = [48]) := by
  rw [toDigits_all l h]
  cases l with
  | nil => exact absurd rfl h0
  | cons c r =>
    by_cases e : c = 48
    · subst e
      constructor
      · intro q
        right
        cases e2 : List.dropWhile (· == 48) (48 :: r) with
        | nil =>
          rw [e2] at q
          exact q.symm
        | cons d t =>
          rw [e2] at q
          have hs : AllDigits (d :: t) := fun x hx => h x ((List.dropWhile_sublist _).subset (e2 ▸ hx))
          simp only at q
          rw [char_back _ hs] at q
          have hd : (d == 48) = false := by
            have := List.head?_dropWhile_not (fun x : Nat => x == 48) (48 :: r)
            rw [e2] at this
            simpa using this
          injection q with q1 _
          rw [q1] at hd
          exact absurd hd (by decide)
      · rintro (q | q)
        · exact absurd rfl q
        · injection q with _ q
          subst q
          rfl
    · have e2 : List.dropWhile (· == 48) (c :: r) = c :: r := by
        rw [List.dropWhile_cons, if_neg (by rw [beq_iff_eq]; exact e)]
      rw [e2]
      simp only
      rw [char_back _ h]
      exact ⟨fun _ => .inl (by simpa using e), fun _ => rfl⟩
theorem dv_pos (l : List Nat) (h : AllDigits l) (h0 : l ≠ []) (h1 : l.head? ≠ some 48) : 0 < digitsVal l := by
  cases l with
  | nil => exact absurd rfl h0
  | cons c r =>
    have := h.head
    have h2 : c ≠ 48 := by simpa using h1
    exact digitsVal_pos (by omega)
theorem dv_lt : ∀ (l : List Nat) (a n : Nat), AllDigits l → a < 10 ^ n → l.foldl (fun acc c => acc * 10 + (c - 48)) a < 10 ^ (n + l.length)
  | [], a, n, _, h => h
  | c :: l, a, n, hd, h => by
    rw [List.foldl_cons, List.length_cons]
    have := hd.head
    have h2 := dv_lt l (a * 10 + (c - 48)) (n + 1) hd.tail (by rw [Nat.pow_succ]; omega)
    rwa [show n + (l.length + 1) = n + 1 + l.length by omega]
theorem log_ok (n : Nat) (h : n < 10 ^ 30) : n.log2 < 1920 := by
  by_cases e : n = 0
  · subst e; decide
  · exact (Nat.log2_lt e).mpr (Nat.lt_of_lt_of_le h (by decide))
theorem dv_log (l : List Nat) (h : AllDigits l) (hl : l.length ≤ 30) : (digitsVal l).log2 < 1920 := by
  have h1 := dv_lt l 0 0 h (by decide)
  exact log_ok _ (Nat.lt_of_lt_of_le h1 (Nat.pow_le_pow_right (by decide) (by omega)))
theorem str_eq {a b : Str} : a = b ↔ cs a = cs b := ⟨fun h => by rw [h], cs_ext⟩
theorem fin_num (l : List Nat) (F : List Nat) (hF : F = figs l) (hl : AllDigits F) (h0 : F ≠ []) (h30 : F.length ≤ 30) (z : Str) (hz : cs z = l) (hc : F = l ∨ l = 45 :: F) (y : Option Sl) (w : PD) :
    ((sSeq (sIf (bOf (eOp neD (eCB strD (aCons (rVar 2) aNil)) (rVar 0))) (sRet (eC .none)) sNext) (sRetV 2)) [some (.d (.str z)), some (.d w), some (.d (.int (if F = l then ((digitsVal F : Nat) : Int) else -((digitsVal F : Nat) : Int)))), y]).fr = .rt (.d (numD l)) := by
  have lg := dv_log F hl h30
  have n1 : ¬ ((figs l).length = 0 ∨ 30 < (figs l).length ∨ allIn (figs l) figL = false) := by
    rw [← hF]
    rintro (q | q | q)
    · exact h0 (List.length_eq_zero_iff.mp q)
    · omega
    · rw [(digits_iff F).mpr hl] at q; cases q
  unfold numD num
  rw [if_neg n1, ← hF]
  by_cases e : F = l
  · subst e
    have s := x_str ((digitsVal F : Nat) : Int) lg
    have k : (Str.ofString (toString ((digitsVal F : Nat) : Int)) = z) ↔ (F.head? ≠ some 48 ∨ F = [48]) := by
      rw [str_eq, str_nat, hz]
      exact digs_back F hl h0
    by_cases q : F.head? ≠ some 48 ∨ F = [48]
    · have q2 : ¬ (F.head? = some 48 ∧ F ≠ [48]) := by
        rintro ⟨a, b⟩
        rcases q with q | q
        · exact q a
        · exact b q
      rw [if_neg q2, if_pos rfl, if_pos rfl]
      have k2 := k.mpr q
      generalize Str.ofString (toString ((digitsVal F : Nat) : Int)) = T at s k2
      simp [rVar, s, k2, sRetV]
    · have q2 : (F.head? = some 48 ∧ F ≠ [48]) := ⟨Classical.byContradiction fun a => q (.inl a), fun a => q (.inr a)⟩
      rw [if_pos q2, if_pos rfl]
      have k2 : ¬ (Str.ofString (toString ((digitsVal F : Nat) : Int)) = z) := fun t => q (k.mp t)
      generalize Str.ofString (toString ((digitsVal F : Nat) : Int)) = T at s k2
      simp [rVar, s, k2]
  · have hc2 : l = 45 :: F := hc.resolve_left e
    have ne48 : l ≠ [48] := by rw [hc2]; intro q; injection q with q _; exact absurd q (by decide)
    have s := x_str (-((digitsVal F : Nat) : Int)) (by rw [Int.natAbs_neg]; exact lg)
    have nl : ¬ F.length = l.length := by rw [hc2, List.length_cons]; omega
    rw [if_neg e]
    by_cases q : F.head? = some 48
    · rw [if_pos ⟨q, ne48⟩]
      have k : ¬ (Str.ofString (toString (-((digitsVal F : Nat) : Int))) = z) := by
        rw [str_eq, hz, hc2]
        by_cases p : 0 < digitsVal F
        · rw [str_neg _ p]
          intro t
          injection t with _ t
          rcases (digs_back F hl h0).mp t with t | t
          · exact t q
          · rw [t] at p
            exact absurd p (by decide)
        · have p0 : digitsVal F = 0 := by omega
          rw [p0]
          intro t
          have t2 : (cs (Str.ofString (toString (-((0 : Nat) : Int))))).head? = some 45 := by rw [t]; rfl
          exact absurd t2 (by decide +kernel)
      generalize Str.ofString (toString (-((digitsVal F : Nat) : Int))) = T at s k
      simp [rVar, s, k]
    · rw [if_neg (fun t => q t.1), if_neg nl]
      have k : (Str.ofString (toString (-((digitsVal F : Nat) : Int))) = z) := by
        rw [str_eq, hz, hc2, str_neg _ (dv_pos F hl h0 q), (digs_back F hl h0).mpr (.inl q)]
      generalize Str.ofString (toString (-((digitsVal F : Nat) : Int))) = T at s k
      simp [rVar, s, k, sRetV]
theorem law_num_tail (z w : Str) (hz : z.length ≤ 100) (hw : w.length ≤ 100) (hc : cs w = cs z ∨ cs z = 45 :: cs w) (hf : cs w = figs (cs z) ∨ cs w = [45] ∧ cs z = [45]) :
    (sSeq (sIf (bOr (bNot (bOf (eChain leD leD (eC (.int 1)) (eCB lenD (aCons (rVar 1) aNil)) (eC (.int 30))))) (bNot (bOf (eCB allD (aCons (eFz (oLc (iItems (eVar 1)) (aName 3) gYes (eOp eqD (eM1 countD (eC (.str (PySem.Str.ofString "0123456789"))) (rVar 3)) (eC (.int 1))) [3])) aNil))))) (sRet (eC .none)) sNext) (sSeq (sSet 2 (eC (.int 0))) (sSeq (sFor (iItems (eVar 1)) (aName 3) (sSet 2 (eOp addD (eOp mulD (eC (.int 10)) (rVar 2)) (eM1 sindexD (eC (.str (PySem.Str.ofString "0123456789"))) (rVar 3))))) (sSeq (sIf (bOf (eOp neD (rVar 1) (rVar 0))) (sSet 2 (eUn negD (rVar 2))) sNext) (sSeq (sIf (bOf (eOp neD (eCB strD (aCons (rVar 2) aNil)) (rVar 0))) (sRet (eC .none)) sNext) (sRetV 2))))) [some (.d (.str z)), some (.d (.str w)), none, none]).fr = .rt (.d (numD (cs z))) := by
  have h1 : w.length ≤ sizeLine := sz (by omega)
  have hl := cs_len w
  have hl2 := cs_len z
  have e := lc_fig (ρ := [some (.d (.str z)), some (.d (.str w)), none, none]) ⟨_, _, _, rfl⟩ (cs w)
  by_cases good : 1 ≤ w.length ∧ w.length ≤ 30 ∧ allIn (cs w) figL = true
  · obtain ⟨a, b, d⟩ := good
    have dg := (digits_iff _).mp d
    have ne : cs w ≠ [] := by
      intro q
      rw [q] at hl
      simp at hl
      omega
    have hF : cs w = figs (cs z) := by
      rcases hf with q | ⟨q, _⟩
      · exact q
      · rw [q] at dg
        have := dg 45 (by simp)
        omega
    have a2 : 1 ≤ (w.length : Int) := by omega
    have b2 : (w.length : Int) ≤ 30 := by omega
    rw [seq_nx (ρ1 := [some (.d (.str z)), some (.d (.str w)), none, none]) (by
      simp only [x_sIf, x_bOr, x_bNot, x_bOf, x_eChain, x_eC, x_eCB, x_aCons, x_aNil, rVar, eVar, x_eFz, x_oLc, x_iItems]
      simp [h1, a2, b2, hl, e, -List.map_map, -List.all_map, -List.all_eq_true, all_in, d])]
    rw [seq_nx (ρ1 := [some (.d (.str z)), some (.d (.str w)), some (.d (.int 0)), none]) (by simp)]
    obtain ⟨y, e3⟩ := num_loop (.str z) (.str w) (cs w) 0 none dg
    rw [seq_nx (ρ1 := [some (.d (.str z)), some (.d (.str w)), some (.d (.int ((digitsVal (cs w) : Nat) : Int))), y]) (by
      simp only [x_sFor, x_iItems, eVar]
      exact e3)]
    have e4 := fin_num (cs z) (cs w) hF dg ne (by omega) z rfl hc y (.str w)
    by_cases q : cs w = cs z
    · have q2 : w = z := cs_ext q
      rw [if_pos q] at e4
      rw [seq_nx (ρ1 := [some (.d (.str z)), some (.d (.str w)), some (.d (.int ((digitsVal (cs w) : Nat) : Int))), y]) (by simp [rVar, q2])]
      exact e4
    · have q2 : ¬ w = z := fun t => q (by rw [t])
      rw [if_neg q] at e4
      rw [seq_nx (ρ1 := [some (.d (.str z)), some (.d (.str w)), some (.d (.int (-((digitsVal (cs w) : Nat) : Int)))), y]) (by simp [rVar, q2])]
      exact e4
  · have bad : numD (cs z) = .none := by
      unfold numD num
      rw [if_pos]
      rcases hf with q | ⟨q, q2⟩
      · rw [← q]
        by_cases a : (cs w).length = 0
        · exact .inl a
        · by_cases b : 30 < (cs w).length
          · exact .inr (.inl b)
          · refine .inr (.inr ?_)
            cases d : allIn (cs w) figL
            · rfl
            · exact absurd ⟨by omega, by omega, d⟩ good
      · rw [q2]
        exact .inl rfl
    rw [bad]
    rw [seq_rt (x := .d .none)]
    · rfl
    by_cases a : 1 ≤ (w.length : Int)
    · by_cases b : (w.length : Int) ≤ 30
      · have d : allIn (cs w) figL = false := by
          cases d : allIn (cs w) figL
          · rfl
          · exact absurd ⟨by omega, by omega, d⟩ good
        simp [rVar, eVar, h1, a, b, hl, e, -List.map_map, -List.all_map, -List.all_eq_true, -List.all_eq_false, all_in, d]
      · simp [rVar, eVar, h1, a, b]
    · simp [rVar, eVar, h1, a]
theorem law_number (z : Str) (hz : z.length ≤ 100) : d_law_number [.str z] = .rt (.d (numD (cs z))) := by
  have h1 := sz (show z.length ≤ 16777216 by omega)
  have hl := cs_len z
  show (S_law_number [some (.d (.str z)), none, none, none]).fr = _
  unfold S_law_number
  rw [seq_nx (ρ1 := [some (.d (.str z)), some (.d (.str z)), none, none]) (by simp [eVar])]
  by_cases h0 : (1 : Int) < (z.length : Int)
  · cases e : cs z with
    | nil => rw [e] at hl; simp at hl; omega
    | cons c r =>
      have e0 := ix0 z c r e h1
      have ez : Str.ofString "-" = sg 45 := by decide +kernel
      by_cases h : c = 45
      · subst h
        rw [seq_nx (ρ1 := [some (.d (.str z)), some (.d (.str (cutS z (some 1) none))), none, none]) (by
          simp [rVar, e0, ez, h1, h0])]
        have w := figs_cut (z := z) (by rw [e]; rfl)
        have := law_num_tail z (cutS z (some 1) none) hz (by rw [cut1_len]; omega) (.inr (by rw [cutS_from1, e]; rfl)) (.inl w.symm)
        rw [e] at this
        exact this
      · rw [seq_nx (ρ1 := [some (.d (.str z)), some (.d (.str z)), none, none]) (by
          simp [rVar, e0, ez, h, h0, h1, sg_inj])]
        have := law_num_tail z z hz hz (.inl rfl) (.inl (figs_same (by rw [e]; simpa using h)).symm)
        rw [e] at this
        exact this
  · rw [seq_nx (ρ1 := [some (.d (.str z)), some (.d (.str z)), none, none]) (by simp [rVar, h1, h0])]
    refine law_num_tail z z hz hz (.inl rfl) ?_
    cases e : cs z with
    | nil => exact .inl rfl
    | cons c r =>
      rw [e] at hl
      simp at hl
      have : r = [] := List.eq_nil_of_length_eq_zero (by omega)
      subst this
      by_cases h : c = 45
      · subst h; exact .inr ⟨rfl, rfl⟩
      · exact .inl (figs_same (by simpa using h)).symm
end K01
namespace K01
open PySem L2 DL PySem.NumText

/-! ### the made texts -/
theorem cutS_le (z : Str) (a b : Option Int) : (cutS z a b).length ≤ z.length := by
  show (((z.cps.toList.drop _).take _).toArray).size ≤ z.cps.size
  rw [List.size_toArray, List.length_take, List.length_drop, Array.length_toList]
  omega
theorem rng_get {lo : Int} {n i : Nat} {x : PD} (h : (rngD lo n)[i]? = some x) : i < n ∧ x = .int (lo + i) := by
  unfold rngD at h
  rw [List.getElem?_map] at h
  by_cases c : i < n
  · rw [List.getElem?_range c] at h
    exact ⟨c, by injection h with h; exact h.symm⟩
  · rw [List.getElem?_eq_none (by rw [List.length_range]; omega)] at h
    cases h
theorem ix_sign (z : Str) (i : Int) (hz : z.length ≤ 1000) (h : 0 ≤ i) (h2 : i < z.length) : ∃ c, ixD (.str z) (.int i) = .ok (.str (sg c)) := by
  have hl := cs_len z
  have : i.toNat < (cs z).length := by omega
  exact ⟨_, x_ix_s z i _ (sz (by omega)) h (List.getElem?_eq_getElem this)⟩
theorem ix_text (l : List Str) (i : Int) (h : 0 ≤ i) (h2 : i < l.length) : ∃ z ∈ l, ixD (.list (l.map PyData.str)) (.int i) = .ok (.str z) := by
  have : i.toNat < l.length := by omega
  exact ⟨_, List.getElem_mem this, x_ix_l _ i _ h (by rw [List.getElem?_map, List.getElem?_eq_getElem this]; rfl)⟩
theorem law_mix (a b : Int) (h : 0 ≤ b) (h2 : b < 1000) : d_law_mix [.int a, .int b, .int 1234567890123456789] = .rt (.d (.int ((a + b * b + 1) * 1234567890123456789 % 2305843009213693951))) := by
  show (S_law_mix [some (.d (.int a)), some (.d (.int b)), some (.d (.int 1234567890123456789))]).fr = _
  unfold S_law_mix
  rw [ret_ok (x := .int ((a + b * b + 1) * 1234567890123456789 % 2305843009213693951))]
  · rfl
  simp only [x_eOp, x_eC, rVar]
  simp [x_mul_l b b (by omega) (by omega), x_mul_r (a + b * b + 1) 1234567890123456789 (by decide) (by decide), x_mod _ 2305843009213693951 (by decide)]
theorem law_letters (a b : Int) (h : 0 ≤ a) (h2 : a < 2 ^ 62) (h3 : 0 ≤ b) (h4 : b ≤ 40) : ∃ z : Str, d_law_letters [.int a, .int b] = .rt (.d (.str z)) ∧ z.length ≤ 40 := by
  show ∃ z : Str, (S_law_letters [some (.d (.int a)), some (.d (.int b)), none, none]).fr = _ ∧ _
  unfold S_law_letters
  rw [seq_nx (ρ1 := [some (.d (.int a)), some (.d (.int b)), some (.d (.str (Str.ofString ""))), none]) (by simp)]
  have L : ∃ (a' : Int) (z : Str) (y : Option Sl), z.length ≤ 40 ∧ (sFor (iRng1D (aCons (rVar 1) aNil)) (aName 3) (sSeq (sSet 0 (eOp modD (eOp mulD (eOp addD (rVar 0) (rVar 3)) (eC (.int 40692))) (eC (.int 2147483399)))) (sSet 2 (eOp addD (rVar 2) (eOp ixD (eC (.str (PySem.Str.ofString "abcdefghijklmnopqrstuvwxyz"))) (eOp modD (eOp divD (rVar 0) (eC (.int 7))) (eC (.int 26)))))))) [some (.d (.int a)), some (.d (.int b)), some (.d (.str (Str.ofString ""))), none] = .nx [some (.d (.int a')), some (.d (.int b)), some (.d (.str z)), y] := by
    have e1 : (iRng1D (aCons (rVar 1) aNil)) [some (.d (.int a)), some (.d (.int b)), some (.d (.str (Str.ofString ""))), none] = .ok (rngD 0 b.toNat) := by
      simp [rVar, x_rng1 b (by omega) (by omega)]
    rw [x_sFor, e1, x_of_ok]
    refine forD_by (P := fun r => ∃ (a' : Int) (z : Str) (y : Option Sl), z.length ≤ 40 ∧ r = .nx [some (.d (.int a')), some (.d (.int b)), some (.d (.str z)), y])
      (fun i ρ => ∃ (a' : Int) (z : Str) (y : Option Sl), 0 ≤ a' ∧ a' < 2 ^ 62 ∧ z.length = i ∧ ρ = [some (.d (.int a')), some (.d (.int b)), some (.d (.str z)), y]) ⟨a, _, none, h, h2, by decide +kernel, rfl⟩ ?_ ?_
    · rintro i x ρ hx ⟨a', z, y, q1, q2, q3, rfl⟩
      obtain ⟨hi, rfl⟩ := rng_get hx
      refine ⟨_, rfl, ?_⟩
      obtain ⟨c, ec⟩ := ix_sign (Str.ofString "abcdefghijklmnopqrstuvwxyz") ((a' + (0 + i)) * 40692 % 2147483399 / 7 % 26) (by rw [small_len]; decide) (by omega) (by rw [small_len]; omega)
      rw [seq_nx (ρ1 := [some (.d (.int ((a' + (0 + i)) * 40692 % 2147483399))), some (.d (.int b)), some (.d (.str z)), some (.d (.int (0 + i)))]) (by
        simp only [x_sSet, x_eOp, x_eC, rVar]
        simp only [List.set, x_bind_ok, List.getElem?_cons_zero, List.getElem?_cons_succ]
        simp [x_mul_r _ 40692 (by decide) (by decide), x_mod _ 2147483399 (by decide), -Int.zero_add])]
      have hs : z.length + 1 ≤ sizeLine := sz (by omega)
      have ev : sSet 2 (eOp addD (rVar 2) (eOp ixD (eC (.str (PySem.Str.ofString "abcdefghijklmnopqrstuvwxyz"))) (eOp modD (eOp divD (rVar 0) (eC (.int 7))) (eC (.int 26))))) [some (.d (.int ((a' + (0 + i)) * 40692 % 2147483399))), some (.d (.int b)), some (.d (.str z)), some (.d (.int (0 + i)))] = .nx [some (.d (.int ((a' + (0 + i)) * 40692 % 2147483399))), some (.d (.int b)), some (.d (.str (z ++ sg c))), some (.d (.int (0 + i)))] := by
        rw [set_ok (x := .str (z ++ sg c))]
        · rfl
        simp [rVar, x_div _ 7 (by decide) (by decide), x_mod _ 26 (by decide), -Int.zero_add, ec]
        exact if_pos hs
      rw [ev]
      exact ⟨_, _, _, by omega, by omega, by rw [len_app, sg_len]; omega, rfl⟩
    · rintro ρ ⟨a', z, y, q1, q2, q3, rfl⟩
      refine ⟨a', z, y, ?_, rfl⟩
      rw [q3, rngD, List.length_map, List.length_range]
      omega
  obtain ⟨a', z, y, q, e⟩ := L
  rw [seq_nx e]
  exact ⟨z, by simp [sRetV], q⟩
theorem law_figures (a b : Int) (h : 0 ≤ a) (h2 : a < 2 ^ 62) (h3 : 1 ≤ b) (h4 : b ≤ 40) : ∃ z : Str, d_law_figures [.int a, .int b] = .rt (.d (.str z)) ∧ z.length ≤ 40 := by
  show ∃ z : Str, (S_law_figures [some (.d (.int a)), some (.d (.int b)), none, none]).fr = _ ∧ _
  unfold S_law_figures
  obtain ⟨c0, ec0⟩ := ix_sign (Str.ofString "123456789") (a % 9) (by rw [fig9_len]; decide) (by omega) (by rw [fig9_len]; omega)
  rw [seq_nx (ρ1 := [some (.d (.int a)), some (.d (.int b)), some (.d (.str (sg c0))), none]) (by simp [rVar, x_mod _ 9 (by decide), ec0])]
  have L : ∃ (a' : Int) (z : Str) (y : Option Sl), z.length ≤ 40 ∧ (sFor (iRng1D (aCons (eOp subD (rVar 1) (eC (.int 1))) aNil)) (aName 3) (sSeq (sSet 0 (eOp modD (eOp mulD (eOp addD (rVar 0) (rVar 3)) (eC (.int 40692))) (eC (.int 2147483399)))) (sSet 2 (eOp addD (rVar 2) (eOp ixD (eC (.str (PySem.Str.ofString "0123456789"))) (eOp modD (eOp divD (rVar 0) (eC (.int 7))) (eC (.int 10)))))))) [some (.d (.int a)), some (.d (.int b)), some (.d (.str (sg c0))), none] = .nx [some (.d (.int a')), some (.d (.int b)), some (.d (.str z)), y] := by
    have e1 : (iRng1D (aCons (eOp subD (rVar 1) (eC (.int 1))) aNil)) [some (.d (.int a)), some (.d (.int b)), some (.d (.str (sg c0))), none] = .ok (rngD 0 (b - 1).toNat) := by
      simp [rVar, x_rng1 (b - 1) (by omega) (by omega)]
    rw [x_sFor, e1, x_of_ok]
    refine forD_by (P := fun r => ∃ (a' : Int) (z : Str) (y : Option Sl), z.length ≤ 40 ∧ r = .nx [some (.d (.int a')), some (.d (.int b)), some (.d (.str z)), y])
      (fun i ρ => ∃ (a' : Int) (z : Str) (y : Option Sl), 0 ≤ a' ∧ a' < 2 ^ 62 ∧ z.length = i + 1 ∧ ρ = [some (.d (.int a')), some (.d (.int b)), some (.d (.str z)), y]) ⟨a, _, none, h, h2, by rw [sg_len], rfl⟩ ?_ ?_
    · rintro i x ρ hx ⟨a', z, y, q1, q2, q3, rfl⟩
      obtain ⟨hi, rfl⟩ := rng_get hx
      refine ⟨_, rfl, ?_⟩
      obtain ⟨c, ec⟩ := ix_sign (Str.ofString "0123456789") ((a' + (0 + i)) * 40692 % 2147483399 / 7 % 10) (by rw [fig_len]; decide) (by omega) (by rw [fig_len]; omega)
      rw [seq_nx (ρ1 := [some (.d (.int ((a' + (0 + i)) * 40692 % 2147483399))), some (.d (.int b)), some (.d (.str z)), some (.d (.int (0 + i)))]) (by
        simp only [x_sSet, x_eOp, x_eC, rVar]
        simp only [List.set, x_bind_ok, List.getElem?_cons_zero, List.getElem?_cons_succ]
        simp [x_mul_r _ 40692 (by decide) (by decide), x_mod _ 2147483399 (by decide), -Int.zero_add])]
      have hs : z.length + 1 ≤ sizeLine := sz (by omega)
      have ev : sSet 2 (eOp addD (rVar 2) (eOp ixD (eC (.str (PySem.Str.ofString "0123456789"))) (eOp modD (eOp divD (rVar 0) (eC (.int 7))) (eC (.int 10))))) [some (.d (.int ((a' + (0 + i)) * 40692 % 2147483399))), some (.d (.int b)), some (.d (.str z)), some (.d (.int (0 + i)))] = .nx [some (.d (.int ((a' + (0 + i)) * 40692 % 2147483399))), some (.d (.int b)), some (.d (.str (z ++ sg c))), some (.d (.int (0 + i)))] := by
        rw [set_ok (x := .str (z ++ sg c))]
        · rfl
        simp [rVar, x_div _ 7 (by decide) (by decide), x_mod _ 10 (by decide), -Int.zero_add, ec]
        exact if_pos hs
      rw [ev]
      exact ⟨_, _, _, by omega, by omega, by rw [len_app, sg_len]; omega, rfl⟩
    · rintro ρ ⟨a', z, y, q1, q2, q3, rfl⟩
      refine ⟨a', z, y, ?_, rfl⟩
      rw [q3, rngD, List.length_map, List.length_range]
      omega
  obtain ⟨a', z, y, q, e⟩ := L
  rw [seq_nx e]
  exact ⟨z, by simp [sRetV], q⟩
theorem law_spoilt (z w : Str) (m : Int) (hz : z.length ≤ 40) (h : 0 ≤ m) (hw : w.length ≤ 20) (hw0 : 0 < w.length) : ∃ t : Str, d_law_spoilt [.str z, .int m, .str w] = .rt (.d (.str t)) ∧ t.length ≤ 100 := by
  have h1 : z.length ≤ sizeLine := sz (by omega)
  have h2 : w.length ≤ sizeLine := sz (by omega)
  show ∃ t : Str, (S_law_spoilt [some (.d (.str z)), some (.d (.int m)), some (.d (.str w)), none]).fr = _ ∧ _
  unfold S_law_spoilt
  rw [seq_nx (ρ1 := [some (.d (.str z)), some (.d (.int m)), some (.d (.str w)), some (.d (.int (m % (z.length + 1))))]) (by simp [rVar, h1, x_mod _ ((z.length : Int) + 1) (by omega)])]
  have hwi : (0 : Int) < w.length := by omega
  obtain ⟨c, ec⟩ := ix_sign w (m / 21 % w.length) (by omega) (Int.emod_nonneg _ (by omega)) (Int.emod_lt_of_pos _ hwi)
  have c1 := cutS_le z none (some (m % (z.length + 1)))
  have c2 := cutS_le z (some (m % (z.length + 1) + m / 7 % 2)) none
  refine ⟨cutS z none (some (m % (z.length + 1))) ++ sg c ++ cutS z (some (m % (z.length + 1) + m / 7 % 2)) none, ?_, by rw [len_app, len_app, sg_len]; omega⟩
  have s1 : (cutS z none (some (m % (z.length + 1)))).length + 1 ≤ sizeLine := sz (by omega)
  have s2 : (cutS z none (some (m % (z.length + 1)))).length + 1 + (cutS z (some (m % (z.length + 1) + m / 7 % 2)) none).length ≤ sizeLine := sz (by omega)
  rw [ret_ok (x := .str (cutS z none (some (m % (z.length + 1))) ++ sg c ++ cutS z (some (m % (z.length + 1) + m / 7 % 2)) none))]
  · rfl
  simp [rVar, h1, h2, x_div _ 21 (by decide) (by decide), x_div _ 7 (by decide) (by decide), x_mod _ 2 (by decide), x_mod _ (w.length : Int) hwi, ec, s1, s2]
theorem kept_le : ∀ z ∈ kw_KEPT, z.length ≤ 10 := by decide +kernel
theorem kept_ix (i : Int) (h : 0 ≤ i) (h2 : i < 16) : ∃ z : Str, z.length ≤ 10 ∧ ixD (.list (kw_KEPT.map PyData.str)) (.int i) = .ok (.str z) := by
  obtain ⟨z, hz, e⟩ := ix_text kw_KEPT i h (by rw [show kw_KEPT.length = 16 from rfl]; omega)
  exact ⟨z, kept_le z hz, e⟩
theorem law_wordlike (m f : Int) (h : 0 ≤ m) (hf : 0 ≤ f) (hf2 : f < 2 ^ 62) : ∃ t : Str, d_law_wordlike [.int m, .int f] = .rt (.d (.str t)) ∧ t.length ≤ 100 := by
  show ∃ t : Str, (S_law_wordlike [some (.d (.int m)), some (.d (.int f)), none]).fr = _ ∧ _
  unfold S_law_wordlike
  rw [seq_nx (ρ1 := [some (.d (.int m)), some (.d (.int f)), some (.d (.int (m % 8)))]) (by simp [rVar, x_mod _ 8 (by decide)])]
  have d8 := x_div m 8 (by decide) (by decide)
  have d64 := x_div m 64 (by decide) (by decide)
  have m3 := x_mod (m / 64) 3 (by decide)
  have m5 := x_mod (m / 8) 5 (by decide)
  have m8 := x_mod (m / 8) 8 (by decide)
  have m12 := x_mod (m / 8) 12 (by decide)
  have m16 := x_mod (m / 8) 16 (by decide)
  obtain ⟨l1, e1, b1⟩ := law_letters f (1 + m / 8 % 8) hf hf2 (by omega) (by omega)
  obtain ⟨l2, e2, b2⟩ := law_letters f (9 + m / 8 % 12) hf hf2 (by omega) (by omega)
  obtain ⟨k, bk, ek⟩ := kept_ix (m / 8 % 16) (by omega) (by omega)
  have s7 : (7 : Nat) ≤ sizeLine := sz (by decide)
  by_cases g0 : m % 8 = 0 ∧ m / 64 % 3 = 0
  · obtain ⟨t, ht, et⟩ := ix_text [Str.ofString "kind", Str.ofString "part", Str.ofString "size", Str.ofString "join", Str.ofString "step"] (m / 8 % 5) (by omega) (by simp; omega)
    have bt : ∀ t ∈ [Str.ofString "kind", Str.ofString "part", Str.ofString "size", Str.ofString "join", Str.ofString "step"], t.length ≤ 10 := by decide +kernel
    have := bt t ht
    refine ⟨t, ?_, by omega⟩
    simp only [List.map] at et
    rw [seq_rt (x := .d (.str t)) (by
      have s5 : (5 : Nat) ≤ sizeLine := sz (by decide)
      simp [rVar, g0, d8, d64, m3, m5, et, s5])]
    rfl
  have g0' : m % 8 = 0 → ¬ m / 64 % 3 = 0 := fun a b => g0 ⟨a, b⟩
  rw [seq_nx (ρ1 := [some (.d (.int m)), some (.d (.int f)), some (.d (.int (m % 8)))]) (by
    by_cases a : m % 8 = 0
    · have b := g0' a
      simp [rVar, a, b, d64, m3]
    · simp [rVar, a])]
  by_cases g1 : m % 8 < 2
  · refine ⟨l1, ?_, by omega⟩
    rw [seq_rt (x := .d (.str l1)) (by simp [rVar, eVar, g1, d8, m8, e1])]
    rfl
  rw [seq_nx (ρ1 := [some (.d (.int m)), some (.d (.int f)), some (.d (.int (m % 8)))]) (by simp [rVar, g1])]
  by_cases g2 : m % 8 = 2
  · refine ⟨k, ?_, by omega⟩
    rw [seq_rt (x := .d (.str k)) (by simp [rVar, g2, d8, m16, law_kept, ek])]
    rfl
  rw [seq_nx (ρ1 := [some (.d (.int m)), some (.d (.int f)), some (.d (.int (m % 8)))]) (by simp [rVar, g2])]
  by_cases g3 : m % 8 = 3
  · have ls : (Str.ofString "s").length = 1 := by decide +kernel
    have s1 : k.length + 1 ≤ sizeLine := sz (by omega)
    refine ⟨k ++ Str.ofString "s", ?_, by rw [len_app, ls]; omega⟩
    rw [seq_rt (x := .d (.str (k ++ Str.ofString "s"))) (by simp [rVar, g3, d8, m16, law_kept, ek, ls, s1])]
    rfl
  rw [seq_nx (ρ1 := [some (.d (.int m)), some (.d (.int f)), some (.d (.int (m % 8)))]) (by simp [rVar, g3])]
  by_cases g4 : m % 8 = 4
  · have c := cutS_le k (some 1) none
    have s1 : k.length ≤ sizeLine := sz (by omega)
    refine ⟨cutS k (some 1) none, ?_, by omega⟩
    rw [seq_rt (x := .d (.str (cutS k (some 1) none))) (by simp [rVar, g4, d8, m16, law_kept, ek, s1])]
    rfl
  rw [seq_nx (ρ1 := [some (.d (.int m)), some (.d (.int f)), some (.d (.int (m % 8)))]) (by simp [rVar, g4])]
  by_cases g5 : m % 8 = 5
  · refine ⟨l2, ?_, by omega⟩
    rw [seq_rt (x := .d (.str l2)) (by simp [rVar, eVar, g5, d8, m12, e2])]
    rfl
  rw [seq_nx (ρ1 := [some (.d (.int m)), some (.d (.int f)), some (.d (.int (m % 8)))]) (by simp [rVar, g5])]
  have lw : (Str.ofString "AZ09 -_.,").length = 9 := by decide +kernel
  obtain ⟨t, et, bt⟩ := law_spoilt l1 (Str.ofString "AZ09 -_.,") (m / 64) b1 (by omega) (by omega) (by omega)
  refine ⟨t, ?_, bt⟩
  rw [ret_ok (x := .str t) (by simp [rVar, eVar, d8, m8, e1, d64, et])]
  rfl
theorem law_numberlike (m f : Int) (h : 0 ≤ m) (hf : 0 ≤ f) (hf2 : f < 2 ^ 62) : ∃ t : Str, d_law_numberlike [.int m, .int f] = .rt (.d (.str t)) ∧ t.length ≤ 100 := by
  show ∃ t : Str, (S_law_numberlike [some (.d (.int m)), some (.d (.int f)), none, none]).fr = _ ∧ _
  unfold S_law_numberlike
  have d8 := x_div m 8 (by decide) (by decide)
  have d240 := x_div m 240 (by decide) (by decide)
  have m2 := x_mod (m / 240) 2 (by decide)
  have m6 := x_mod (m / 8) 6 (by decide)
  have m30 := x_mod (m / 8) 30 (by decide)
  have m10 := x_mod (m / 8) 10 (by decide)
  obtain ⟨l1, e1, b1⟩ := law_figures f (1 + m / 8 % 30) hf hf2 (by omega) (by omega)
  obtain ⟨l2, e2, b2⟩ := law_figures f (31 + m / 8 % 10) hf hf2 (by omega) (by omega)
  rw [seq_nx (ρ1 := [some (.d (.int m)), some (.d (.int f)), some (.d (.int (m % 8))), none]) (by simp [rVar, x_mod _ 8 (by decide)])]
  rw [seq_nx (ρ1 := [some (.d (.int m)), some (.d (.int f)), some (.d (.int (m % 8))), some (.d (.str l1))]) (by simp [rVar, eVar, d8, m30, e1])]
  have s2 : (2 : Nat) ≤ sizeLine := sz (by decide)
  have s6 : (6 : Nat) ≤ sizeLine := sz (by decide)
  by_cases g1 : m % 8 < 2
  · refine ⟨l1, ?_, by omega⟩
    rw [seq_rt (x := .d (.str l1)) (by simp [rVar, sRetV, g1])]
    rfl
  rw [seq_nx (ρ1 := [some (.d (.int m)), some (.d (.int f)), some (.d (.int (m % 8))), some (.d (.str l1))]) (by simp [rVar, g1])]
  have lm : (Str.ofString "-").length = 1 := by decide +kernel
  have lp : (Str.ofString "+").length = 1 := by decide +kernel
  have l1s : 1 + l1.length ≤ sizeLine := sz (by omega)
  by_cases g2 : m % 8 = 2
  · refine ⟨Str.ofString "-" ++ l1, ?_, by rw [len_app, lm]; omega⟩
    rw [seq_rt (x := .d (.str (Str.ofString "-" ++ l1))) (by simp [rVar, g2, lm, l1s])]
    rfl
  rw [seq_nx (ρ1 := [some (.d (.int m)), some (.d (.int f)), some (.d (.int (m % 8))), some (.d (.str l1))]) (by simp [rVar, g2])]
  by_cases g3 : m % 8 = 3
  · obtain ⟨t, ht, et⟩ := ix_text [Str.ofString "0", Str.ofString "-0", Str.ofString "", Str.ofString "-", Str.ofString "00", Str.ofString "--1"] (m / 8 % 6) (by omega) (by simp; omega)
    have bt : ∀ t ∈ [Str.ofString "0", Str.ofString "-0", Str.ofString "", Str.ofString "-", Str.ofString "00", Str.ofString "--1"], t.length ≤ 10 := by decide +kernel
    have := bt t ht
    refine ⟨t, ?_, by omega⟩
    simp only [List.map] at et
    rw [seq_rt (x := .d (.str t)) (by simp [rVar, g3, d8, m6, et, s6])]
    rfl
  rw [seq_nx (ρ1 := [some (.d (.int m)), some (.d (.int f)), some (.d (.int (m % 8))), some (.d (.str l1))]) (by simp [rVar, g3])]
  by_cases g4 : m % 8 = 4
  · obtain ⟨t, ht, et⟩ := ix_text [Str.ofString "0", Str.ofString "-0"] (m / 240 % 2) (by omega) (by simp; omega)
    have bt : ∀ t ∈ [Str.ofString "0", Str.ofString "-0"], t.length ≤ 10 := by decide +kernel
    have := bt t ht
    have ts : t.length + l1.length ≤ sizeLine := sz (by omega)
    refine ⟨t ++ l1, ?_, by rw [len_app]; omega⟩
    simp only [List.map] at et
    rw [seq_rt (x := .d (.str (t ++ l1))) (by simp [rVar, g4, d240, m2, et, s2, ts])]
    rfl
  rw [seq_nx (ρ1 := [some (.d (.int m)), some (.d (.int f)), some (.d (.int (m % 8))), some (.d (.str l1))]) (by simp [rVar, g4])]
  by_cases g5 : m % 8 = 5
  · obtain ⟨t, ht, et⟩ := ix_text [Str.ofString "", Str.ofString "-"] (m / 240 % 2) (by omega) (by simp; omega)
    have bt : ∀ t ∈ [Str.ofString "", Str.ofString "-"], t.length ≤ 10 := by decide +kernel
    have := bt t ht
    have ts : t.length + l2.length ≤ sizeLine := sz (by omega)
    refine ⟨t ++ l2, ?_, by rw [len_app]; omega⟩
    simp only [List.map] at et
    rw [seq_rt (x := .d (.str (t ++ l2))) (by simp [rVar, eVar, g5, d240, d8, m10, m2, et, s2, ts, e2])]
    rfl
  rw [seq_nx (ρ1 := [some (.d (.int m)), some (.d (.int f)), some (.d (.int (m % 8))), some (.d (.str l1))]) (by simp [rVar, g5])]
  by_cases g6 : m % 8 = 6
  · refine ⟨Str.ofString "+" ++ l1, ?_, by rw [len_app, lp]; omega⟩
    rw [seq_rt (x := .d (.str (Str.ofString "+" ++ l1))) (by simp [rVar, g6, lp, l1s])]
    rfl
  rw [seq_nx (ρ1 := [some (.d (.int m)), some (.d (.int f)), some (.d (.int (m % 8))), some (.d (.str l1))]) (by simp [rVar, g6])]
  have lw : (Str.ofString "a. -+,").length = 6 := by decide +kernel
  obtain ⟨t, et, bt⟩ := law_spoilt l1 (Str.ofString "a. -+,") (m / 240) b1 (by omega) (by omega) (by omega)
  refine ⟨t, ?_, bt⟩
  rw [ret_ok (x := .str t) (by simp [rVar, eVar, d240, et])]
  rfl
end K01
namespace K01
open PySem L2 DL PySem.NumText
theorem law_whole_i (n : Int) : d_law_whole [.int n] = .rt (.d (.bool true)) := by
  show (S_law_whole [some (.d (.int n))]).fr = _
  unfold S_law_whole
  rw [ret_ok (x := .bool true) (by simp [rVar])]
  rfl
theorem turn (c k : Int) (hk : 0 ≤ k) (hk2 : k < 1000) (s : PD) (cl : List PD) (hc : ixD (.list cl) (.int k) = .ok (.int c)) (y3 y4 y5 y6 y7 y8 : Option Sl) : ∃ z3 z4 z5 z6 z7 z8,
    (sSeq (sSet 3 (eCall 3 d_law_mix (aCons (eOp ixD (rVar 1) (rVar 2)) (aCons (eVar 2) (aCons (eC (.int 1234567890123456789)) aNil))))) (sSeq (sSet 4 (eOp modD (eOp divD (rVar 3) (eC (.int 40000))) (eC (.int 2147483399)))) (sSeq (sSet 5 (eCall 2 d_law_wordlike (aCons (eOp divD (rVar 3) (eC (.int 2))) (aCons (eVar 4) aNil)))) (sSeq (sIf (bOf (eOp eqD (eOp modD (rVar 3) (eC (.int 2))) (eC (.int 1)))) (sSet 5 (eCall 2 d_law_numberlike (aCons (eOp divD (rVar 3) (eC (.int 2))) (aCons (eVar 4) aNil)))) sNext) (sSeq (sSet 6 (eCall 1 d_is_word (aCons (eVar 5) aNil))) (sSeq (sIf (bOr (bNot (bOf (eIsi "bool" (rVar 6)))) (bOf (eOp neD (rVar 6) (eCall 1 d_law_is_word (aCons (eVar 5) aNil))))) (sRet (eC (.bool false))) sNext) (sSeq (sSet 7 (eCall 1 d_number_in (aCons (eVar 5) aNil))) (sSeq (sSet 8 (eCall 1 d_law_number (aCons (eVar 5) aNil))) (sIf (bOr (bAnd (bOf (eOp isND (rVar 8) (eC .none))) (bOf (eOp notND (rVar 7) (eC .none)))) (bAnd (bOf (eOp notND (rVar 8) (eC .none))) (bOr (bNot (bOf (eCall 1 d_law_whole (aCons (eVar 7) aNil)))) (bOf (eOp neD (rVar 7) (rVar 8)))))) (sRet (eC (.bool false))) sNext)))))))))
      [some (.d s), some (.d (.list cl)), some (.d (.int k)), y3, y4, y5, y6, y7, y8] = .nx [some (.d s), some (.d (.list cl)), some (.d (.int k)), z3, z4, z5, z6, z7, z8] := by
  have em := law_mix c k hk hk2
  have d40 := fun a => x_div a 40000 (by decide) (by decide)
  have dm := fun a => x_mod a 2147483399 (by decide)
  have d2 := fun a => x_div a 2 (by decide) (by decide)
  have mm2 := fun a => x_mod a 2 (by decide)
  have hm : 0 ≤ (c + k * k + 1) * 1234567890123456789 % 2305843009213693951 ∧ (c + k * k + 1) * 1234567890123456789 % 2305843009213693951 < 2305843009213693951 := ⟨Int.emod_nonneg _ (by decide), Int.emod_lt_of_pos _ (by decide)⟩
  generalize (c + k * k + 1) * 1234567890123456789 % 2305843009213693951 = m at em hm
  obtain ⟨t1, e1, b1⟩ := law_wordlike (m / 2) (m / 40000 % 2147483399) (by omega) (by omega) (by omega)
  obtain ⟨t2, e2, b2⟩ := law_numberlike (m / 2) (m / 40000 % 2147483399) (by omega) (by omega) (by omega)
  rw [seq_nx (ρ1 := [some (.d s), some (.d (.list cl)), some (.d (.int k)), some (.d (.int m)), y4, y5, y6, y7, y8]) (by simp [rVar, eVar, hc, em])]
  rw [seq_nx (ρ1 := [some (.d s), some (.d (.list cl)), some (.d (.int k)), some (.d (.int m)), some (.d (.int (m / 40000 % 2147483399))), y5, y6, y7, y8]) (by simp [rVar, d40, dm])]
  rw [seq_nx (ρ1 := [some (.d s), some (.d (.list cl)), some (.d (.int k)), some (.d (.int m)), some (.d (.int (m / 40000 % 2147483399))), some (.d (.str t1)), y6, y7, y8]) (by simp [rVar, eVar, d2, e1])]
  obtain ⟨t, bt, et⟩ : ∃ t : Str, t.length ≤ 100 ∧ sIf (bOf (eOp eqD (eOp modD (rVar 3) (eC (.int 2))) (eC (.int 1)))) (sSet 5 (eCall 2 d_law_numberlike (aCons (eOp divD (rVar 3) (eC (.int 2))) (aCons (eVar 4) aNil)))) sNext
      [some (.d s), some (.d (.list cl)), some (.d (.int k)), some (.d (.int m)), some (.d (.int (m / 40000 % 2147483399))), some (.d (.str t1)), y6, y7, y8] = .nx [some (.d s), some (.d (.list cl)), some (.d (.int k)), some (.d (.int m)), some (.d (.int (m / 40000 % 2147483399))), some (.d (.str t)), y6, y7, y8] := by
    by_cases q : m % 2 = 1
    · exact ⟨t2, b2, by simp [rVar, eVar, mm2, d2, e2, q]⟩
    · exact ⟨t1, b1, by simp [rVar, eVar, mm2, d2, q]⟩
  rw [seq_nx et]
  have w1 := is_word t (by omega)
  have w2 := law_is_word t (by omega)
  have n1 := number_in t bt
  have n2 := law_number t bt
  generalize isW t = wb at w1 w2
  have nn : numD (cs t) = .none ∨ ∃ n, numD (cs t) = .int n := by
    unfold numD
    split
    · exact .inr ⟨_, rfl⟩
    · exact .inl rfl
  generalize numD (cs t) = nd at n1 n2 nn
  rw [seq_nx (ρ1 := [some (.d s), some (.d (.list cl)), some (.d (.int k)), some (.d (.int m)), some (.d (.int (m / 40000 % 2147483399))), some (.d (.str t)), some (.d (.bool wb)), y7, y8]) (by simp [rVar, eVar, w1, -x_run])]
  rw [seq_nx (ρ1 := [some (.d s), some (.d (.list cl)), some (.d (.int k)), some (.d (.int m)), some (.d (.int (m / 40000 % 2147483399))), some (.d (.str t)), some (.d (.bool wb)), y7, y8]) (by simp [rVar, eVar, w2, -x_run])]
  rw [seq_nx (ρ1 := [some (.d s), some (.d (.list cl)), some (.d (.int k)), some (.d (.int m)), some (.d (.int (m / 40000 % 2147483399))), some (.d (.str t)), some (.d (.bool wb)), some (.d nd), y8]) (by simp [rVar, eVar, n1, -x_run])]
  rw [seq_nx (ρ1 := [some (.d s), some (.d (.list cl)), some (.d (.int k)), some (.d (.int m)), some (.d (.int (m / 40000 % 2147483399))), some (.d (.str t)), some (.d (.bool wb)), some (.d nd), some (.d nd)]) (by simp [rVar, eVar, n2, -x_run])]
  refine ⟨some (.d (.int m)), some (.d (.int (m / 40000 % 2147483399))), some (.d (.str t)), some (.d (.bool wb)), some (.d nd), some (.d nd), ?_⟩
  rcases nn with rfl | ⟨n, rfl⟩
  · simp [rVar, -x_run]
  · have := law_whole_i n
    simp [rVar, eVar, this, -x_run]
theorem cut63 (ns : List Int) (h : ns.length ≤ 63) : cutD (ns.map PyData.int) none (some 63) = ns.map PyData.int := by
  unfold cutD
  have e1 : HT.sIx (ns.map PyData.int).length 0 none = 0 := rfl
  have e2 : HT.sIx (ns.map PyData.int).length (ns.map PyData.int).length (some 63) = min 63 (ns.map PyData.int).length := HT.sIx_nat _ _ 63
  rw [e1, e2, List.length_map]
  show List.take (min 63 ns.length - 0) (List.drop 0 _) = _
  rw [List.drop_zero, List.take_of_length_le]
  rw [List.length_map]
  omega

theorem loop_ok (s : PD) (cl : List Int) (hl : cl.length ≤ 64) : ∃ z, sFor (iRng1D (aCons (eCB lenD (aCons (rVar 1) aNil)) aNil)) (aName 2) (sSeq (sSet 3 (eCall 3 d_law_mix (aCons (eOp ixD (rVar 1) (rVar 2)) (aCons (eVar 2) (aCons (eC (.int 1234567890123456789)) aNil))))) (sSeq (sSet 4 (eOp modD (eOp divD (rVar 3) (eC (.int 40000))) (eC (.int 2147483399)))) (sSeq (sSet 5 (eCall 2 d_law_wordlike (aCons (eOp divD (rVar 3) (eC (.int 2))) (aCons (eVar 4) aNil)))) (sSeq (sIf (bOf (eOp eqD (eOp modD (rVar 3) (eC (.int 2))) (eC (.int 1)))) (sSet 5 (eCall 2 d_law_numberlike (aCons (eOp divD (rVar 3) (eC (.int 2))) (aCons (eVar 4) aNil)))) sNext) (sSeq (sSet 6 (eCall 1 d_is_word (aCons (eVar 5) aNil))) (sSeq (sIf (bOr (bNot (bOf (eIsi "bool" (rVar 6)))) (bOf (eOp neD (rVar 6) (eCall 1 d_law_is_word (aCons (eVar 5) aNil))))) (sRet (eC (.bool false))) sNext) (sSeq (sSet 7 (eCall 1 d_number_in (aCons (eVar 5) aNil))) (sSeq (sSet 8 (eCall 1 d_law_number (aCons (eVar 5) aNil))) (sIf (bOr (bAnd (bOf (eOp isND (rVar 8) (eC .none))) (bOf (eOp notND (rVar 7) (eC .none)))) (bAnd (bOf (eOp notND (rVar 8) (eC .none))) (bOr (bNot (bOf (eCall 1 d_law_whole (aCons (eVar 7) aNil)))) (bOf (eOp neD (rVar 7) (rVar 8)))))) (sRet (eC (.bool false))) sNext)))))))))
  [some (.d s), some (.d (.list (cl.map PyData.int))), none, none, none, none, none, none, none] = .nx z := by
  have e1 : (iRng1D (aCons (eCB lenD (aCons (rVar 1) aNil)) aNil)) [some (.d s), some (.d (.list (cl.map PyData.int))), none, none, none, none, none, none, none] = .ok (rngD 0 cl.length) := by
    have h1 : (cl.length : Int) < 2 ^ 62 := Int.lt_of_le_of_lt (Int.ofNat_le.mpr hl) (by decide)
    have h0 : -(2 ^ 62) ≤ (cl.length : Int) := Int.le_trans (by decide) (Int.natCast_nonneg _)
    have e := x_rng1 (cl.length : Int) h0 h1
    rw [Int.toNat_natCast] at e
    show (R.ok [PyData.int ((cl.map PyData.int).length : Nat)]).bind rng1 = _
    rw [x_bind_ok, List.length_map]
    exact e
  rw [x_sFor, e1, x_of_ok]
  refine forD_by (P := fun r => ∃ z, r = .nx z)
    (fun i ρ => ∃ y2 y3 y4 y5 y6 y7 y8, ρ = [some (.d s), some (.d (.list (cl.map PyData.int))), y2, y3, y4, y5, y6, y7, y8]) ⟨_, _, _, _, _, _, _, rfl⟩ ?_ ?_
  · rintro i x ρ hx ⟨y2, y3, y4, y5, y6, y7, y8, rfl⟩
    obtain ⟨hi, rfl⟩ := rng_get hx
    refine ⟨_, rfl, ?_⟩
    have hc := x_ix_l (cl.map PyData.int) (0 + (i : Int)) (.int (cl[i]'hi)) (by omega) (by
      rw [show (0 + (i : Int)).toNat = i by omega, List.getElem?_map, List.getElem?_eq_getElem hi]
      rfl)
    obtain ⟨z3, z4, z5, z6, z7, z8, e⟩ := turn (cl[i]'hi) (0 + (i : Int)) (by omega) (by omega) s (cl.map PyData.int) hc y3 y4 y5 y6 y7 y8
    simp only [List.set]
    rw [e]
    exact ⟨_, _, _, _, _, _, _, rfl⟩
  · rintro ρ ⟨y2, y3, y4, y5, y6, y7, y8, rfl⟩
    exact ⟨_, rfl⟩
theorem law_ok (ns : List Int) (h : ns.length ≤ 63) : d_law [.list (ns.map PyData.int)] = .rt (.d (.bool true)) := by
  show (S_law [some (.d (.list (ns.map PyData.int))), none, none, none, none, none, none, none, none]).fr = _
  unfold S_law
  have l64 := x_mod (ns.length : Int) 64 (by decide)
  have cu := cut63 ns h
  have s1 : ns.length + 1 ≤ sizeLine := sz (by omega)
  have s0 : (1 : Nat) ≤ sizeLine := sz (by decide)
  obtain ⟨cl, ecl, hl⟩ : ∃ cl : List Int, cl = ns ++ [(ns.length : Int) % 64] ∧ cl.length ≤ 64 := ⟨_, rfl, by rw [List.length_append, List.length_singleton]; omega⟩
  rw [seq_nx (ρ1 := [some (.d (.list (ns.map PyData.int))), some (.d (.list (cl.map PyData.int))), none, none, none, none, none, none, none]) (by
    simp [rVar, cu, l64, s1, s0, ecl])]
  generalize PyData.list (ns.map PyData.int) = s
  have L := loop_ok s cl hl
  obtain ⟨z, e⟩ := L
  rw [seq_nx e]
  rfl
end K01
namespace K01
open PySem PySem.Spec PyProof.Rows L2 DL
def top (i : Nat) : Stmt := PySem.Challenge.pw_claimwise_k01_words_and_numbers.main.body.getD i (.Pass ⟨0, 0, 0, 0⟩)
abbrev s_signs_among : Stmt := top 6
abbrev s_is_word : Stmt := top 7
abbrev s_number_in : Stmt := top 8
abbrev s_law_mix : Stmt := top 10
abbrev s_law_whole : Stmt := top 11
abbrev s_law_letters : Stmt := top 12
abbrev s_law_figures : Stmt := top 13
abbrev s_law_kept : Stmt := top 14
abbrev s_law_spoilt : Stmt := top 15
abbrev s_law_wordlike : Stmt := top 16
abbrev s_law_numberlike : Stmt := top 17
abbrev s_law_is_word : Stmt := top 18
abbrev s_law_number : Stmt := top 19
abbrev s_law : Stmt := top 20
abbrev FnP (K : PySem.W.Frag) (x : Str) (st : Stmt) : Prop := ∃ fd : FuncData, FunD K x x (defArgs st) (defBody st) (defScope st) [] [] (He.ga K x) fd
structure Ctx (K : PySem.W.Frag) (mg : Str → Option Value) : Prop where
  F_signs_among : FnP K "signs_among" s_signs_among
  g_signs_among : mg "signs_among" = some (.ref (He.ga K "signs_among"))
  F_is_word : FnP K "is_word" s_is_word
  g_is_word : mg "is_word" = some (.ref (He.ga K "is_word"))
  F_number_in : FnP K "number_in" s_number_in
  g_number_in : mg "number_in" = some (.ref (He.ga K "number_in"))
  F_law_mix : FnP K "_law_mix" s_law_mix
  g_law_mix : mg "_law_mix" = some (.ref (He.ga K "_law_mix"))
  F_law_whole : FnP K "_law_whole" s_law_whole
  g_law_whole : mg "_law_whole" = some (.ref (He.ga K "_law_whole"))
  F_law_letters : FnP K "_law_letters" s_law_letters
  g_law_letters : mg "_law_letters" = some (.ref (He.ga K "_law_letters"))
  F_law_figures : FnP K "_law_figures" s_law_figures
  g_law_figures : mg "_law_figures" = some (.ref (He.ga K "_law_figures"))
  F_law_kept : FnP K "_law_kept" s_law_kept
  g_law_kept : mg "_law_kept" = some (.ref (He.ga K "_law_kept"))
  F_law_spoilt : FnP K "_law_spoilt" s_law_spoilt
  g_law_spoilt : mg "_law_spoilt" = some (.ref (He.ga K "_law_spoilt"))
  F_law_wordlike : FnP K "_law_wordlike" s_law_wordlike
  g_law_wordlike : mg "_law_wordlike" = some (.ref (He.ga K "_law_wordlike"))
  F_law_numberlike : FnP K "_law_numberlike" s_law_numberlike
  g_law_numberlike : mg "_law_numberlike" = some (.ref (He.ga K "_law_numberlike"))
  F_law_is_word : FnP K "_law_is_word" s_law_is_word
  g_law_is_word : mg "_law_is_word" = some (.ref (He.ga K "_law_is_word"))
  F_law_number : FnP K "_law_number" s_law_number
  g_law_number : mg "_law_number" = some (.ref (He.ga K "_law_number"))
  F_law : FnP K "law" s_law
  g_law : mg "law" = some (.ref (He.ga K "law"))
  b_all : mg "all" = none
  b_bool : mg "bool" = none
  b_int : mg "int" = none
  b_isinstance : mg "isinstance" = none
  b_len : mg "len" = none
  b_range : mg "range" = none
  b_str : mg "str" = none
  c_FIGURES : ∃ t, mg "FIGURES" = some (.str "0123456789" t)
  c_KEPT : mg "KEPT" = some (.ref (He.ga K "KEPT"))
  k_KEPT : ∀ F, DL.Dp K F (.ref (He.ga K "KEPT")) k_KEPT
  c_MOST_FIGURES : ∃ t, mg "MOST_FIGURES" = some (.int 30 t)
  c_MOST_SIGNS : ∃ t, mg "MOST_SIGNS" = some (.int 8 t)
  c_SMALL : ∃ t, mg "SMALL" = some (.str "abcdefghijklmnopqrstuvwxyz" t)
theorem sc_signs_among : FnScope ["text", "signs", "sign"] ["text", "signs"] (defScope s_signs_among) := ⟨rfl, rfl, rfl, by decide +kernel, rfl, by decide +kernel, by decide +kernel⟩
theorem ok_signs_among {P : Program} {w : World} {K : PySem.W.Frag} {mg : Str → Option Value} {base : Heap} (C : Ctx K mg) : Kept P w K mg base 1 2 "signs_among" ["text", "signs"] d_signs_among := by
  have nd := sc_signs_among.nd
  exact kept_of C.F_signs_among C.g_signs_among sc_signs_among rfl rfl (fun _ _ _ _ _ _ us hl => match us, hl with | [_, _], _ => rfl) (s := S_signs_among) fun cdv A outer sh H E hr tk => ⟨_,
    (pss_cons (ps_for (passes_of rfl) rfl (pi_seq (pv 0)) (pg_name (i := 2) nd rfl (Or.inl rfl)) (pss_one (ps_if (pt_cmpR (op_nin2 (hu65 hr)) (pv 2) (pv 1) (by rfl)) (pss_one (ps_ret pe_bl)) pss_nil))) (pss_one (ps_ret pe_bl))),
    (ds_seq (ds_for (vs := [2]) (di_seq (td_var 0)) (dg_name 2) (ds_if (tt_test ((td_op rd_nin (tr_var 2) (tr_var 1))).r) (ds_ret td_bl) ds_next)) (ds_ret td_bl))⟩
theorem sc_is_word : FnScope ["text"] ["text"] (defScope s_is_word) := ⟨rfl, rfl, rfl, by decide +kernel, rfl, by decide +kernel, by decide +kernel⟩
theorem ok_is_word {P : Program} {w : World} {K : PySem.W.Frag} {mg : Str → Option Value} {base : Heap} (C : Ctx K mg) : Kept P w K mg base 2 1 "is_word" ["text"] d_is_word := by
  obtain ⟨fd_signs_among, kp_signs_among, hg_signs_among, hb_signs_among, G_signs_among⟩ := ok_signs_among (P := P) (w := w) (base := base) C
  have nd := sc_is_word.nd
  exact kept_of C.F_is_word C.g_is_word sc_is_word rfl rfl (fun _ _ _ _ _ _ us hl => match us, hl with | [_], _ => rfl) (s := S_is_word) fun cdv A outer sh H E hr tk => ⟨_,
    (pss_cons (ps_if (PW.pt (pw_or (pt_not (pt_chain op_le op_le pe_int (pe_callB call_len (by rfl) C.b_len bb_len (pa_cons (pv 0) pa_nil)) (pe_glob (v := .int 8) rfl C.c_MOST_SIGNS.choose_spec ⟨_, rfl⟩))) (pw_or1 (pt_cmpR (op_in2 (hu65 hr)) (pv 0) (pe_glob (v := .ref (He.ga _ "KEPT")) rfl C.c_KEPT rfl) (by rfl))))) (pss_one (ps_ret pe_bl)) pss_nil) (pss_one (ps_ret (pe_callS G_signs_among (hr.mono (by decide)) (by rfl) hg_signs_among kp_signs_among hb_signs_among (fun σ => passAt tk σ) (pa_cons (pv 0) (pa_cons (pe_glob (v := .str "abcdefghijklmnopqrstuvwxyz") rfl C.c_SMALL.choose_spec ⟨_, rfl⟩) pa_nil)))))),
    (ds_seq (ds_if (tt_or (tt_not (tt_test ((td_chain rd_cmp rd_cmp (td_int).r ((td_cb rc_len (tq_cons (tr_var 0) tq_nil))).r (td_int).r)).r)) (tt_test ((td_op rd_in (tr_var 0) ((td_kon C.k_KEPT)).r)).r)) (ds_ret td_bl) ds_next) (ds_ret (td_call (ta_cons (td_var 0) (ta_cons td_str ta_nil)))))⟩
theorem sc_number_in : FnScope ["text", "figures"] ["text"] (defScope s_number_in) := ⟨rfl, rfl, rfl, by decide +kernel, rfl, by decide +kernel, by decide +kernel⟩
theorem ok_number_in {P : Program} {w : World} {K : PySem.W.Frag} {mg : Str → Option Value} {base : Heap} (C : Ctx K mg) : Kept P w K mg base 2 1 "number_in" ["text"] d_number_in := by
  obtain ⟨fd_signs_among, kp_signs_among, hg_signs_among, hb_signs_among, G_signs_among⟩ := ok_signs_among (P := P) (w := w) (base := base) C
  have nd := sc_number_in.nd
  exact kept_of C.F_number_in C.g_number_in sc_number_in rfl rfl (fun _ _ _ _ _ _ us hl => match us, hl with | [_], _ => rfl) (s := S_number_in) fun cdv A outer sh H E hr tk => ⟨_,
    (pss_cons (ps_set (i := 1) nd rfl (Or.inl rfl) (pv 0)) (pss_cons (ps_if (pt_val (pe_m1 PySem.F.slot_str_startswith PySem.F.type_str_startswith mt_startswith (pv 0) pe_str)) (pss_one (ps_set (i := 1) nd rfl (Or.inl rfl) (pe_slice sl_2 (pv 0) (po_some pe_int) po_none))) pss_nil) (pss_cons (ps_if (PW.pt (pw_or (pt_not (pt_chain op_le op_le pe_int (pe_callB call_len (by rfl) C.b_len bb_len (pa_cons (pv 1) pa_nil)) (pe_glob (v := .int 30) rfl C.c_MOST_FIGURES.choose_spec ⟨_, rfl⟩))) (pw_or1 (pt_not (pt_val (pe_callS G_signs_among (hr.mono (by decide)) (by rfl) hg_signs_among kp_signs_among hb_signs_among (fun σ => passAt tk σ) (pa_cons (pv 1) (pa_cons (pe_glob (v := .str "0123456789") rfl C.c_FIGURES.choose_spec ⟨_, rfl⟩) pa_nil)))))))) (pss_one (ps_ret pe_non)) pss_nil) (pss_cons (ps_if (PW.pt (pw_and (pt_cmpR (op_eq2 hr.units) (pe_ix ix_seq (pv 1) pe_int (fun _ _ => rfl)) pe_str (nomark _)) (pw_and1 (pt_cmpR (op_ne2 hr.units) (pv 0) pe_str (nomark _))))) (pss_one (ps_ret pe_non)) pss_nil) (pss_one (ps_ret (pe_callTy call_int3 (by rfl) C.b_int bb_int (pa_cons (pv 0) pa_nil)))))))),
    (ds_seq (ds_set 1 (td_var 0)) (ds_seq (ds_if (tt_B ((td_m1 rm_starts (tr_var 0) (td_str).r)).r) (ds_set 1 (td_sl (tr_var 0) (tp_some (td_int).r) tp_no)) ds_next) (ds_seq (ds_if (tt_or (tt_not (tt_test ((td_chain rd_cmp rd_cmp (td_int).r ((td_cb rc_len (tq_cons (tr_var 1) tq_nil))).r (td_int).r)).r)) (tt_not (tt_B ((td_call (ta_cons (td_var 1) (ta_cons td_str ta_nil)))).r))) (ds_ret td_non) ds_next) (ds_seq (ds_if (tt_and (tt_test ((td_op rd_eq ((td_op rd_ix (tr_var 1) (td_int).r)).r (td_str).r)).r) (tt_test ((td_op rd_ne (tr_var 0) (td_str).r)).r)) (ds_ret td_non) ds_next) (ds_ret (td_cb rc_int (tq_cons (tr_var 0) tq_nil)))))))⟩
theorem sc_law_mix : FnScope ["_law_cell", "_law_k", "_law_factor"] ["_law_cell", "_law_k", "_law_factor"] (defScope s_law_mix) := ⟨rfl, rfl, rfl, by decide +kernel, rfl, by decide +kernel, by decide +kernel⟩
theorem ok_law_mix {P : Program} {w : World} {K : PySem.W.Frag} {mg : Str → Option Value} {base : Heap} (C : Ctx K mg) : Kept P w K mg base 1 3 "_law_mix" ["_law_cell", "_law_k", "_law_factor"] d_law_mix := by
  have nd := sc_law_mix.nd
  exact kept_of C.F_law_mix C.g_law_mix sc_law_mix rfl rfl (fun _ _ _ _ _ _ us hl => match us, hl with | [_, _, _], _ => rfl) (s := S_law_mix) fun cdv A outer sh H E hr tk => ⟨_,
    (pss_one (ps_ret (pe_op op_modN (pe_op op_mul2 (pe_op op_add2 (pe_op op_add2 (pv 0) (pe_op op_mul2 (pv 1) (pv 1))) pe_int) (pv 2)) pe_int))),
    (ds_ret (td_op rd_mod ((td_op rd_mul ((td_op rd_add ((td_op rd_add (tr_var 0) ((td_op rd_mul (tr_var 1) (tr_var 1))).r)).r (td_int).r)).r (tr_var 2))).r (td_int).r))⟩
theorem sc_law_whole : FnScope ["_law_thing"] ["_law_thing"] (defScope s_law_whole) := ⟨rfl, rfl, rfl, by decide +kernel, rfl, by decide +kernel, by decide +kernel⟩
theorem ok_law_whole {P : Program} {w : World} {K : PySem.W.Frag} {mg : Str → Option Value} {base : Heap} (C : Ctx K mg) : Kept P w K mg base 1 1 "_law_whole" ["_law_thing"] d_law_whole := by
  have nd := sc_law_whole.nd
  exact kept_of C.F_law_whole C.g_law_whole sc_law_whole rfl rfl (fun _ _ _ _ _ _ us hl => match us, hl with | [_], _ => rfl) (s := S_law_whole) fun cdv A outer sh H E hr tk => ⟨_,
    (pss_one (ps_ret (pe_and (pe_callB call_isi (by rfl) C.b_isinstance bb_isinstance (pa_cons (pv 0) (pa_cons (pe_bltn (v := .ty "int") (by rfl) C.b_int bb_int rfl) pa_nil))) (pe_one (pe_not (pe_callB call_isi (by rfl) C.b_isinstance bb_isinstance (pa_cons (pv 0) (pa_cons (pe_bltn (v := .ty "bool") (by rfl) C.b_bool bb_bool rfl) pa_nil)))))))),
    (ds_ret (td_and ((td_isi (T := "int") (tr_var 0))).r (td_not ((td_isi (T := "bool") (tr_var 0))).r)))⟩
theorem sc_law_letters : FnScope ["_law_m", "_law_count", "_law_some", "_law_k"] ["_law_m", "_law_count"] (defScope s_law_letters) := ⟨rfl, rfl, rfl, by decide +kernel, rfl, by decide +kernel, by decide +kernel⟩
theorem ok_law_letters {P : Program} {w : World} {K : PySem.W.Frag} {mg : Str → Option Value} {base : Heap} (C : Ctx K mg) : Kept P w K mg base 1 2 "_law_letters" ["_law_m", "_law_count"] d_law_letters := by
  have nd := sc_law_letters.nd
  exact kept_of C.F_law_letters C.g_law_letters sc_law_letters rfl rfl (fun _ _ _ _ _ _ us hl => match us, hl with | [_, _], _ => rfl) (s := S_law_letters) fun cdv A outer sh H E hr tk => ⟨_,
    (pss_cons (ps_set (i := 2) nd rfl (Or.inl rfl) pe_str) (pss_cons (ps_for (passes_of rfl) rfl (pi_range1 rfl C.b_range (pa_cons (pv 1) pa_nil)) (pg_name (i := 3) nd rfl (Or.inl rfl)) (pss_cons (ps_set (i := 0) nd rfl (Or.inl rfl) (pe_op op_modN (pe_op op_mul2 (pe_op op_add2 (pv 0) (pv 3)) pe_int) pe_int)) (pss_one (ps_set (i := 2) nd rfl (Or.inl rfl) (pe_op op_add2 (pv 2) (pe_ix ix_seq pe_str (pe_op op_modN (pe_op op_fdivN (pv 0) pe_int) pe_int) (fun _ _ => rfl))))))) (pss_one (ps_ret (pv 2))))),
    (ds_seq (ds_set 2 td_str) (ds_seq (ds_for (vs := [3]) (di_rng1 (tq_cons (tr_var 1) tq_nil)) (dg_name 3) (ds_seq (ds_set 0 (td_op rd_mod ((td_op rd_mul ((td_op rd_add (tr_var 0) (tr_var 3))).r (td_int).r)).r (td_int).r)) (ds_set 2 (td_op rd_add (tr_var 2) ((td_op rd_ix (td_str).r ((td_op rd_mod ((td_op rd_div (tr_var 0) (td_int).r)).r (td_int).r)).r)).r)))) (ds_retV 2)))⟩
theorem sc_law_figures : FnScope ["_law_m", "_law_count", "_law_some", "_law_k"] ["_law_m", "_law_count"] (defScope s_law_figures) := ⟨rfl, rfl, rfl, by decide +kernel, rfl, by decide +kernel, by decide +kernel⟩
theorem ok_law_figures {P : Program} {w : World} {K : PySem.W.Frag} {mg : Str → Option Value} {base : Heap} (C : Ctx K mg) : Kept P w K mg base 1 2 "_law_figures" ["_law_m", "_law_count"] d_law_figures := by
  have nd := sc_law_figures.nd
  exact kept_of C.F_law_figures C.g_law_figures sc_law_figures rfl rfl (fun _ _ _ _ _ _ us hl => match us, hl with | [_, _], _ => rfl) (s := S_law_figures) fun cdv A outer sh H E hr tk => ⟨_,
    (pss_cons (ps_set (i := 2) nd rfl (Or.inl rfl) (pe_ix ix_seq pe_str (pe_op op_modN (pv 0) pe_int) (fun _ _ => rfl))) (pss_cons (ps_for (passes_of rfl) rfl (pi_range1 rfl C.b_range (pa_cons (pe_op op_sub (pv 1) pe_int) pa_nil)) (pg_name (i := 3) nd rfl (Or.inl rfl)) (pss_cons (ps_set (i := 0) nd rfl (Or.inl rfl) (pe_op op_modN (pe_op op_mul2 (pe_op op_add2 (pv 0) (pv 3)) pe_int) pe_int)) (pss_one (ps_set (i := 2) nd rfl (Or.inl rfl) (pe_op op_add2 (pv 2) (pe_ix ix_seq pe_str (pe_op op_modN (pe_op op_fdivN (pv 0) pe_int) pe_int) (fun _ _ => rfl))))))) (pss_one (ps_ret (pv 2))))),
    (ds_seq (ds_set 2 (td_op rd_ix (td_str).r ((td_op rd_mod (tr_var 0) (td_int).r)).r)) (ds_seq (ds_for (vs := [3]) (di_rng1 (tq_cons ((td_op rd_sub (tr_var 1) (td_int).r)).r tq_nil)) (dg_name 3) (ds_seq (ds_set 0 (td_op rd_mod ((td_op rd_mul ((td_op rd_add (tr_var 0) (tr_var 3))).r (td_int).r)).r (td_int).r)) (ds_set 2 (td_op rd_add (tr_var 2) ((td_op rd_ix (td_str).r ((td_op rd_mod ((td_op rd_div (tr_var 0) (td_int).r)).r (td_int).r)).r)).r)))) (ds_retV 2)))⟩
theorem sc_law_kept : FnScope [] [] (defScope s_law_kept) := ⟨rfl, rfl, rfl, by decide +kernel, rfl, by decide +kernel, by decide +kernel⟩
theorem ok_law_kept {P : Program} {w : World} {K : PySem.W.Frag} {mg : Str → Option Value} {base : Heap} (C : Ctx K mg) : Kept P w K mg base 1 0 "_law_kept" [] d_law_kept := by
  have nd := sc_law_kept.nd
  exact kept_of C.F_law_kept C.g_law_kept sc_law_kept rfl rfl (fun _ _ _ _ _ _ us hl => match us, hl with | [], _ => rfl) (s := S_law_kept) fun cdv A outer sh H E hr tk => ⟨_,
    (pss_one (ps_ret (pe_m1 PySem.F.slot_str_split PySem.F.type_str_split mt_split pe_str pe_str))),
    (ds_retO (to_m1 rmo_split (td_str).r (td_str).r))⟩
theorem sc_law_spoilt : FnScope ["_law_text", "_law_m", "_law_signs", "_law_at"] ["_law_text", "_law_m", "_law_signs"] (defScope s_law_spoilt) := ⟨rfl, rfl, rfl, by decide +kernel, rfl, by decide +kernel, by decide +kernel⟩
theorem ok_law_spoilt {P : Program} {w : World} {K : PySem.W.Frag} {mg : Str → Option Value} {base : Heap} (C : Ctx K mg) : Kept P w K mg base 1 3 "_law_spoilt" ["_law_text", "_law_m", "_law_signs"] d_law_spoilt := by
  have nd := sc_law_spoilt.nd
  exact kept_of C.F_law_spoilt C.g_law_spoilt sc_law_spoilt rfl rfl (fun _ _ _ _ _ _ us hl => match us, hl with | [_, _, _], _ => rfl) (s := S_law_spoilt) fun cdv A outer sh H E hr tk => ⟨_,
    (pss_cons (ps_set (i := 3) nd rfl (Or.inl rfl) (pe_op op_modN (pv 1) (pe_op op_add2 (pe_callB call_len (by rfl) C.b_len bb_len (pa_cons (pv 0) pa_nil)) pe_int))) (pss_one (ps_ret (pe_op op_add2 (pe_op op_add2 (pe_slice sl_2 (pv 0) po_none (po_some (pv 3))) (pe_ix ix_seq (pv 2) (pe_op op_modN (pe_op op_fdivN (pv 1) pe_int) (pe_callB call_len (by rfl) C.b_len bb_len (pa_cons (pv 2) pa_nil))) (fun _ _ => rfl))) (pe_slice sl_2 (pv 0) (po_some (pe_op op_add2 (pv 3) (pe_op op_modN (pe_op op_fdivN (pv 1) pe_int) pe_int))) po_none))))),
    (ds_seq (ds_set 3 (td_op rd_mod (tr_var 1) ((td_op rd_add ((td_cb rc_len (tq_cons (tr_var 0) tq_nil))).r (td_int).r)).r)) (ds_ret (td_op rd_add ((td_op rd_add ((td_sl (tr_var 0) tp_no (tp_some (tr_var 3)))).r ((td_op rd_ix (tr_var 2) ((td_op rd_mod ((td_op rd_div (tr_var 1) (td_int).r)).r ((td_cb rc_len (tq_cons (tr_var 2) tq_nil))).r)).r)).r)).r ((td_sl (tr_var 0) (tp_some ((td_op rd_add (tr_var 3) ((td_op rd_mod ((td_op rd_div (tr_var 1) (td_int).r)).r (td_int).r)).r)).r) tp_no)).r)))⟩
theorem sc_law_wordlike : FnScope ["_law_m", "_law_far", "_law_kind"] ["_law_m", "_law_far"] (defScope s_law_wordlike) := ⟨rfl, rfl, rfl, by decide +kernel, rfl, by decide +kernel, by decide +kernel⟩
theorem ok_law_wordlike {P : Program} {w : World} {K : PySem.W.Frag} {mg : Str → Option Value} {base : Heap} (C : Ctx K mg) : Kept P w K mg base 2 2 "_law_wordlike" ["_law_m", "_law_far"] d_law_wordlike := by
  obtain ⟨fd_law_kept, kp_law_kept, hg_law_kept, hb_law_kept, G_law_kept⟩ := ok_law_kept (P := P) (w := w) (base := base) C
  obtain ⟨fd_law_letters, kp_law_letters, hg_law_letters, hb_law_letters, G_law_letters⟩ := ok_law_letters (P := P) (w := w) (base := base) C
  obtain ⟨fd_law_spoilt, kp_law_spoilt, hg_law_spoilt, hb_law_spoilt, G_law_spoilt⟩ := ok_law_spoilt (P := P) (w := w) (base := base) C
  have nd := sc_law_wordlike.nd
  exact kept_of C.F_law_wordlike C.g_law_wordlike sc_law_wordlike rfl rfl (fun _ _ _ _ _ _ us hl => match us, hl with | [_, _], _ => rfl) (s := S_law_wordlike) fun cdv A outer sh H E hr tk => ⟨_,
    (pss_cons (ps_set (i := 2) nd rfl (Or.inl rfl) (pe_op op_modN (pv 0) pe_int)) (pss_cons (ps_if (PW.pt (pw_and (pt_cmpR (op_eq2 hr.units) (pv 2) pe_int (nomark _)) (pw_and1 (pt_cmpR (op_eq2 hr.units) (pe_op op_modN (pe_op op_fdivN (pv 0) pe_int) pe_int) pe_int (nomark _))))) (pss_one (ps_ret (pe_ix ix_seq (pe_lst (pa_cons pe_str (pa_cons pe_str (pa_cons pe_str (pa_cons pe_str (pa_cons pe_str pa_nil)))))) (pe_op op_modN (pe_op op_fdivN (pv 0) pe_int) pe_int) (fun _ _ => rfl)))) pss_nil) (pss_cons (ps_if (pt_cmpR op_lt (pv 2) pe_int (nomark _)) (pss_one (ps_ret (pe_callS G_law_letters (hr.mono (by decide)) (by rfl) hg_law_letters kp_law_letters hb_law_letters (fun σ => passAt tk σ) (pa_cons (pv 1) (pa_cons (pe_op op_add2 pe_int (pe_op op_modN (pe_op op_fdivN (pv 0) pe_int) pe_int)) pa_nil))))) pss_nil) (pss_cons (ps_if (pt_cmpR (op_eq2 hr.units) (pv 2) pe_int (nomark _)) (pss_one (ps_ret (pe_ix ix_seq (pe_call0 G_law_kept (hr.mono (by decide)) (by rfl) hg_law_kept kp_law_kept hb_law_kept .nil passL) (pe_op op_modN (pe_op op_fdivN (pv 0) pe_int) pe_int) (fun _ _ => rfl)))) pss_nil) (pss_cons (ps_if (pt_cmpR (op_eq2 hr.units) (pv 2) pe_int (nomark _)) (pss_one (ps_ret (pe_op op_add2 (pe_ix ix_seq (pe_call0 G_law_kept (hr.mono (by decide)) (by rfl) hg_law_kept kp_law_kept hb_law_kept .nil passL) (pe_op op_modN (pe_op op_fdivN (pv 0) pe_int) pe_int) (fun _ _ => rfl)) pe_str))) pss_nil) (pss_cons (ps_if (pt_cmpR (op_eq2 hr.units) (pv 2) pe_int (nomark _)) (pss_one (ps_ret (pe_slice sl_2 (pe_ix ix_seq (pe_call0 G_law_kept (hr.mono (by decide)) (by rfl) hg_law_kept kp_law_kept hb_law_kept .nil passL) (pe_op op_modN (pe_op op_fdivN (pv 0) pe_int) pe_int) (fun _ _ => rfl)) (po_some pe_int) po_none))) pss_nil) (pss_cons (ps_if (pt_cmpR (op_eq2 hr.units) (pv 2) pe_int (nomark _)) (pss_one (ps_ret (pe_callS G_law_letters (hr.mono (by decide)) (by rfl) hg_law_letters kp_law_letters hb_law_letters (fun σ => passAt tk σ) (pa_cons (pv 1) (pa_cons (pe_op op_add2 pe_int (pe_op op_modN (pe_op op_fdivN (pv 0) pe_int) pe_int)) pa_nil))))) pss_nil) (pss_one (ps_ret (pe_callS G_law_spoilt (hr.mono (by decide)) (by rfl) hg_law_spoilt kp_law_spoilt hb_law_spoilt (fun σ => passAt tk σ) (pa_cons (pe_callS G_law_letters (hr.mono (by decide)) (by rfl) hg_law_letters kp_law_letters hb_law_letters (fun σ => passAt tk σ) (pa_cons (pv 1) (pa_cons (pe_op op_add2 pe_int (pe_op op_modN (pe_op op_fdivN (pv 0) pe_int) pe_int)) pa_nil))) (pa_cons (pe_op op_fdivN (pv 0) pe_int) (pa_cons pe_str pa_nil))))))))))))),
    (ds_seq (ds_set 2 (td_op rd_mod (tr_var 0) (td_int).r)) (ds_seq (ds_if (tt_and (tt_test ((td_op rd_eq (tr_var 2) (td_int).r)).r) (tt_test ((td_op rd_eq ((td_op rd_mod ((td_op rd_div (tr_var 0) (td_int).r)).r (td_int).r)).r (td_int).r)).r)) (ds_ret (td_op rd_ix (((to_lst (ta_cons td_str (ta_cons td_str (ta_cons td_str (ta_cons td_str (ta_cons td_str ta_nil))))))).e).r ((td_op rd_mod ((td_op rd_div (tr_var 0) (td_int).r)).r (td_int).r)).r)) ds_next) (ds_seq (ds_if (tt_test ((td_op rd_cmp (tr_var 2) (td_int).r)).r) (ds_ret (td_call (ta_cons (td_var 1) (ta_cons (td_op rd_add (td_int).r ((td_op rd_mod ((td_op rd_div (tr_var 0) (td_int).r)).r (td_int).r)).r) ta_nil)))) ds_next) (ds_seq (ds_if (tt_test ((td_op rd_eq (tr_var 2) (td_int).r)).r) (ds_ret (td_op rd_ix (td_call0).r ((td_op rd_mod ((td_op rd_div (tr_var 0) (td_int).r)).r (td_int).r)).r)) ds_next) (ds_seq (ds_if (tt_test ((td_op rd_eq (tr_var 2) (td_int).r)).r) (ds_ret (td_op rd_add ((td_op rd_ix (td_call0).r ((td_op rd_mod ((td_op rd_div (tr_var 0) (td_int).r)).r (td_int).r)).r)).r (td_str).r)) ds_next) (ds_seq (ds_if (tt_test ((td_op rd_eq (tr_var 2) (td_int).r)).r) (ds_ret (td_sl ((td_op rd_ix (td_call0).r ((td_op rd_mod ((td_op rd_div (tr_var 0) (td_int).r)).r (td_int).r)).r)).r (tp_some (td_int).r) tp_no)) ds_next) (ds_seq (ds_if (tt_test ((td_op rd_eq (tr_var 2) (td_int).r)).r) (ds_ret (td_call (ta_cons (td_var 1) (ta_cons (td_op rd_add (td_int).r ((td_op rd_mod ((td_op rd_div (tr_var 0) (td_int).r)).r (td_int).r)).r) ta_nil)))) ds_next) (ds_ret (td_call (ta_cons (td_call (ta_cons (td_var 1) (ta_cons (td_op rd_add (td_int).r ((td_op rd_mod ((td_op rd_div (tr_var 0) (td_int).r)).r (td_int).r)).r) ta_nil))) (ta_cons (td_op rd_div (tr_var 0) (td_int).r) (ta_cons td_str ta_nil))))))))))))⟩
theorem sc_law_numberlike : FnScope ["_law_m", "_law_far", "_law_kind", "_law_figures_here"] ["_law_m", "_law_far"] (defScope s_law_numberlike) := ⟨rfl, rfl, rfl, by decide +kernel, rfl, by decide +kernel, by decide +kernel⟩
theorem ok_law_numberlike {P : Program} {w : World} {K : PySem.W.Frag} {mg : Str → Option Value} {base : Heap} (C : Ctx K mg) : Kept P w K mg base 2 2 "_law_numberlike" ["_law_m", "_law_far"] d_law_numberlike := by
  obtain ⟨fd_law_figures, kp_law_figures, hg_law_figures, hb_law_figures, G_law_figures⟩ := ok_law_figures (P := P) (w := w) (base := base) C
  obtain ⟨fd_law_spoilt, kp_law_spoilt, hg_law_spoilt, hb_law_spoilt, G_law_spoilt⟩ := ok_law_spoilt (P := P) (w := w) (base := base) C
  have nd := sc_law_numberlike.nd
  exact kept_of C.F_law_numberlike C.g_law_numberlike sc_law_numberlike rfl rfl (fun _ _ _ _ _ _ us hl => match us, hl with | [_, _], _ => rfl) (s := S_law_numberlike) fun cdv A outer sh H E hr tk => ⟨_,
    (pss_cons (ps_set (i := 2) nd rfl (Or.inl rfl) (pe_op op_modN (pv 0) pe_int)) (pss_cons (ps_set (i := 3) nd rfl (Or.inl rfl) (pe_callS G_law_figures (hr.mono (by decide)) (by rfl) hg_law_figures kp_law_figures hb_law_figures (fun σ => passAt tk σ) (pa_cons (pv 1) (pa_cons (pe_op op_add2 pe_int (pe_op op_modN (pe_op op_fdivN (pv 0) pe_int) pe_int)) pa_nil)))) (pss_cons (ps_if (pt_cmpR op_lt (pv 2) pe_int (nomark _)) (pss_one (ps_ret (pv 3))) pss_nil) (pss_cons (ps_if (pt_cmpR (op_eq2 hr.units) (pv 2) pe_int (nomark _)) (pss_one (ps_ret (pe_op op_add2 pe_str (pv 3)))) pss_nil) (pss_cons (ps_if (pt_cmpR (op_eq2 hr.units) (pv 2) pe_int (nomark _)) (pss_one (ps_ret (pe_ix ix_seq (pe_lst (pa_cons pe_str (pa_cons pe_str (pa_cons pe_str (pa_cons pe_str (pa_cons pe_str (pa_cons pe_str pa_nil))))))) (pe_op op_modN (pe_op op_fdivN (pv 0) pe_int) pe_int) (fun _ _ => rfl)))) pss_nil) (pss_cons (ps_if (pt_cmpR (op_eq2 hr.units) (pv 2) pe_int (nomark _)) (pss_one (ps_ret (pe_op op_add2 (pe_ix ix_seq (pe_lst (pa_cons pe_str (pa_cons pe_str pa_nil))) (pe_op op_modN (pe_op op_fdivN (pv 0) pe_int) pe_int) (fun _ _ => rfl)) (pv 3)))) pss_nil) (pss_cons (ps_if (pt_cmpR (op_eq2 hr.units) (pv 2) pe_int (nomark _)) (pss_one (ps_ret (pe_op op_add2 (pe_ix ix_seq (pe_lst (pa_cons pe_str (pa_cons pe_str pa_nil))) (pe_op op_modN (pe_op op_fdivN (pv 0) pe_int) pe_int) (fun _ _ => rfl)) (pe_callS G_law_figures (hr.mono (by decide)) (by rfl) hg_law_figures kp_law_figures hb_law_figures (fun σ => passAt tk σ) (pa_cons (pv 1) (pa_cons (pe_op op_add2 pe_int (pe_op op_modN (pe_op op_fdivN (pv 0) pe_int) pe_int)) pa_nil)))))) pss_nil) (pss_cons (ps_if (pt_cmpR (op_eq2 hr.units) (pv 2) pe_int (nomark _)) (pss_one (ps_ret (pe_op op_add2 pe_str (pv 3)))) pss_nil) (pss_one (ps_ret (pe_callS G_law_spoilt (hr.mono (by decide)) (by rfl) hg_law_spoilt kp_law_spoilt hb_law_spoilt (fun σ => passAt tk σ) (pa_cons (pv 3) (pa_cons (pe_op op_fdivN (pv 0) pe_int) (pa_cons pe_str pa_nil)))))))))))))),
    (ds_seq (ds_set 2 (td_op rd_mod (tr_var 0) (td_int).r)) (ds_seq (ds_set 3 (td_call (ta_cons (td_var 1) (ta_cons (td_op rd_add (td_int).r ((td_op rd_mod ((td_op rd_div (tr_var 0) (td_int).r)).r (td_int).r)).r) ta_nil)))) (ds_seq (ds_if (tt_test ((td_op rd_cmp (tr_var 2) (td_int).r)).r) (ds_retV 3) ds_next) (ds_seq (ds_if (tt_test ((td_op rd_eq (tr_var 2) (td_int).r)).r) (ds_ret (td_op rd_add (td_str).r (tr_var 3))) ds_next) (ds_seq (ds_if (tt_test ((td_op rd_eq (tr_var 2) (td_int).r)).r) (ds_ret (td_op rd_ix (((to_lst (ta_cons td_str (ta_cons td_str (ta_cons td_str (ta_cons td_str (ta_cons td_str (ta_cons td_str ta_nil)))))))).e).r ((td_op rd_mod ((td_op rd_div (tr_var 0) (td_int).r)).r (td_int).r)).r)) ds_next) (ds_seq (ds_if (tt_test ((td_op rd_eq (tr_var 2) (td_int).r)).r) (ds_ret (td_op rd_add ((td_op rd_ix (((to_lst (ta_cons td_str (ta_cons td_str ta_nil)))).e).r ((td_op rd_mod ((td_op rd_div (tr_var 0) (td_int).r)).r (td_int).r)).r)).r (tr_var 3))) ds_next) (ds_seq (ds_if (tt_test ((td_op rd_eq (tr_var 2) (td_int).r)).r) (ds_ret (td_op rd_add ((td_op rd_ix (((to_lst (ta_cons td_str (ta_cons td_str ta_nil)))).e).r ((td_op rd_mod ((td_op rd_div (tr_var 0) (td_int).r)).r (td_int).r)).r)).r ((td_call (ta_cons (td_var 1) (ta_cons (td_op rd_add (td_int).r ((td_op rd_mod ((td_op rd_div (tr_var 0) (td_int).r)).r (td_int).r)).r) ta_nil)))).r)) ds_next) (ds_seq (ds_if (tt_test ((td_op rd_eq (tr_var 2) (td_int).r)).r) (ds_ret (td_op rd_add (td_str).r (tr_var 3))) ds_next) (ds_ret (td_call (ta_cons (td_var 3) (ta_cons (td_op rd_div (tr_var 0) (td_int).r) (ta_cons td_str ta_nil)))))))))))))⟩
theorem sc_law_is_word : FnScope ["_law_text", "_law_letters_here", "_law_sign"] ["_law_text"] (defScope s_law_is_word) := ⟨rfl, rfl, rfl, by decide +kernel, rfl, by decide +kernel, by decide +kernel⟩
theorem ok_law_is_word {P : Program} {w : World} {K : PySem.W.Frag} {mg : Str → Option Value} {base : Heap} (C : Ctx K mg) : Kept P w K mg base 2 1 "_law_is_word" ["_law_text"] d_law_is_word := by
  obtain ⟨fd_law_kept, kp_law_kept, hg_law_kept, hb_law_kept, G_law_kept⟩ := ok_law_kept (P := P) (w := w) (base := base) C
  have nd := sc_law_is_word.nd
  exact kept_of C.F_law_is_word C.g_law_is_word sc_law_is_word rfl rfl (fun _ _ _ _ _ _ us hl => match us, hl with | [_], _ => rfl) (s := S_law_is_word) fun cdv A outer sh H E hr tk => ⟨_,
    (pss_cons (ps_set (i := 1) nd rfl (Or.inr rfl) pe_str) (pss_one (ps_ret (pe_and (pe_chain op_le op_le pe_int (pe_callB call_len (by rfl) C.b_len bb_len (pa_cons (pv 0) pa_nil)) pe_int) (pe_and (pe_cmpR (op_nin2 (hu65 hr)) (pv 0) (pe_call0 G_law_kept (hr.mono (by decide)) (by rfl) hg_law_kept kp_law_kept hb_law_kept .nil passL) (by rfl)) (pe_one (pe_callB (cr_all rfl) (by rfl) C.b_all bb_all (pa_cons (pe_lc (own := [("_law_sign", 2)]) rfl nd (pi_seq (pv 0)) (blkOk_by (by kernel_rfl)) (fun _ _ _ _ _ => (pg_name (i := 2) nd rfl (Or.inl rfl))) (fun _ _ _ _ _ => pts_nil) (fun _ _ _ _ _ => (pe_cmpR (op_eq2 hr.units) (pe_m1 PySem.F.slot_str_count PySem.F.type_str_count mt_count (pv 1) (pv 2)) pe_int (nomark _)))) pa_nil)))))))),
    (ds_seq (ds_set 1 td_str) (ds_ret (td_and ((td_chain rd_cmp rd_cmp (td_int).r ((td_cb rc_len (tq_cons (tr_var 0) tq_nil))).r (td_int).r)).r (td_and ((td_op rd_nin (tr_var 0) (td_call0).r)).r (td_cb rc_all (tq_cons (((to_lc (vs := [2]) (di_seq (td_var 0)) (dg_name 2) tt_yes (td_op rd_eq ((td_m1 rm_count (tr_var 1) (tr_var 2))).r (td_int).r))).e).r tq_nil))))))⟩
theorem sc_law_number : FnScope ["_law_text", "_law_figures_here", "_law_number_here", "_law_sign"] ["_law_text"] (defScope s_law_number) := ⟨rfl, rfl, rfl, by decide +kernel, rfl, by decide +kernel, by decide +kernel⟩
theorem ok_law_number {P : Program} {w : World} {K : PySem.W.Frag} {mg : Str → Option Value} {base : Heap} (C : Ctx K mg) : Kept P w K mg base 1 1 "_law_number" ["_law_text"] d_law_number := by
  have nd := sc_law_number.nd
  exact kept_of C.F_law_number C.g_law_number sc_law_number rfl rfl (fun _ _ _ _ _ _ us hl => match us, hl with | [_], _ => rfl) (s := S_law_number) fun cdv A outer sh H E hr tk => ⟨_,
    (pss_cons (ps_set (i := 1) nd rfl (Or.inl rfl) (pv 0)) (pss_cons (ps_if (PW.pt (pw_and (pt_cmpR op_gt (pe_callB call_len (by rfl) C.b_len bb_len (pa_cons (pv 0) pa_nil)) pe_int (nomark _)) (pw_and1 (pt_cmpR (op_eq2 hr.units) (pe_ix ix_seq (pv 0) pe_int (fun _ _ => rfl)) pe_str (nomark _))))) (pss_one (ps_set (i := 1) nd rfl (Or.inl rfl) (pe_slice sl_2 (pv 0) (po_some pe_int) po_none))) pss_nil) (pss_cons (ps_if (PW.pt (pw_or (pt_not (pt_chain op_le op_le pe_int (pe_callB call_len (by rfl) C.b_len bb_len (pa_cons (pv 1) pa_nil)) pe_int)) (pw_or1 (pt_not (pt_val (pe_callB (cr_all rfl) (by rfl) C.b_all bb_all (pa_cons (pe_lc (own := [("_law_sign", 3)]) rfl nd (pi_seq (pv 1)) (blkOk_by (by kernel_rfl)) (fun _ _ _ _ _ => (pg_name (i := 3) nd rfl (Or.inl rfl))) (fun _ _ _ _ _ => pts_nil) (fun _ _ _ _ _ => (pe_cmpR (op_eq2 hr.units) (pe_m1 PySem.F.slot_str_count PySem.F.type_str_count mt_count pe_str (pv 3)) pe_int (nomark _)))) pa_nil))))))) (pss_one (ps_ret pe_non)) pss_nil) (pss_cons (ps_set (i := 2) nd rfl (Or.inl rfl) pe_int) (pss_cons (ps_for (passes_of rfl) rfl (pi_seq (pv 1)) (pg_name (i := 3) nd rfl (Or.inl rfl)) (pss_one (ps_set (i := 2) nd rfl (Or.inl rfl) (pe_op op_add2 (pe_op op_mul2 pe_int (pv 2)) (pe_m1 PySem.F.slot_str_index PySem.F.type_str_index mt_sindex pe_str (pv 3)))))) (pss_cons (ps_if (pt_cmpR (op_ne2 hr.units) (pv 1) (pv 0) (nomark _)) (pss_one (ps_set (i := 2) nd rfl (Or.inl rfl) (pe_un un_neg (pv 2)))) pss_nil) (pss_cons (ps_if (pt_cmpR (op_ne2 hr.units) (pe_callTy call_str_int (by rfl) C.b_str bb_str (pa_cons (pv 2) pa_nil)) (pv 0) (nomark _)) (pss_one (ps_ret pe_non)) pss_nil) (pss_one (ps_ret (pv 2)))))))))),
    (ds_seq (ds_set 1 (td_var 0)) (ds_seq (ds_if (tt_and (tt_test ((td_op rd_cmp ((td_cb rc_len (tq_cons (tr_var 0) tq_nil))).r (td_int).r)).r) (tt_test ((td_op rd_eq ((td_op rd_ix (tr_var 0) (td_int).r)).r (td_str).r)).r)) (ds_set 1 (td_sl (tr_var 0) (tp_some (td_int).r) tp_no)) ds_next) (ds_seq (ds_if (tt_or (tt_not (tt_test ((td_chain rd_cmp rd_cmp (td_int).r ((td_cb rc_len (tq_cons (tr_var 1) tq_nil))).r (td_int).r)).r)) (tt_not (tt_B ((td_cb rc_all (tq_cons (((to_lc (vs := [3]) (di_seq (td_var 1)) (dg_name 3) tt_yes (td_op rd_eq ((td_m1 rm_count (td_str).r (tr_var 3))).r (td_int).r))).e).r tq_nil))).r))) (ds_ret td_non) ds_next) (ds_seq (ds_set 2 td_int) (ds_seq (ds_for (vs := [3]) (di_seq (td_var 1)) (dg_name 3) (ds_set 2 (td_op rd_add ((td_op rd_mul (td_int).r (tr_var 2))).r ((td_m1 rm_sindex (td_str).r (tr_var 3))).r))) (ds_seq (ds_if (tt_test ((td_op rd_ne (tr_var 1) (tr_var 0))).r) (ds_set 2 (td_un ru_neg (tr_var 2))) ds_next) (ds_seq (ds_if (tt_test ((td_op rd_ne ((td_cb rc_str (tq_cons (tr_var 2) tq_nil))).r (tr_var 0))).r) (ds_ret td_non) ds_next) (ds_retV 2))))))))⟩
theorem sc_law : FnScope ["_law_script", "_law_cells", "_law_k", "_law_m", "_law_far", "_law_text", "_law_found", "_law_told", "_law_due"] ["_law_script"] (defScope s_law) := ⟨rfl, rfl, rfl, by decide +kernel, rfl, by decide +kernel, by decide +kernel⟩
theorem fn_law {P : Program} {w : World} {K : PySem.W.Frag} {mg : Str → Option Value} {base : Heap} {fd : FuncData} (FD : FunD K "law" "law" (defArgs s_law) (defBody s_law) (defScope s_law) [] [] (He.ga K "law") fd) (C : Ctx K mg) : FnOk P w K mg base (L2.CX P w) 3 (He.ga K "law") fd ["_law_script"] (spD K 1 d_law) := by
  obtain ⟨fd_law_is_word, kp_law_is_word, hg_law_is_word, hb_law_is_word, G_law_is_word⟩ := ok_law_is_word (P := P) (w := w) (base := base) C
  obtain ⟨fd_law_mix, kp_law_mix, hg_law_mix, hb_law_mix, G_law_mix⟩ := ok_law_mix (P := P) (w := w) (base := base) C
  obtain ⟨fd_law_number, kp_law_number, hg_law_number, hb_law_number, G_law_number⟩ := ok_law_number (P := P) (w := w) (base := base) C
  obtain ⟨fd_law_numberlike, kp_law_numberlike, hg_law_numberlike, hb_law_numberlike, G_law_numberlike⟩ := ok_law_numberlike (P := P) (w := w) (base := base) C
  obtain ⟨fd_law_whole, kp_law_whole, hg_law_whole, hb_law_whole, G_law_whole⟩ := ok_law_whole (P := P) (w := w) (base := base) C
  obtain ⟨fd_law_wordlike, kp_law_wordlike, hg_law_wordlike, hb_law_wordlike, G_law_wordlike⟩ := ok_law_wordlike (P := P) (w := w) (base := base) C
  obtain ⟨fd_is_word, kp_is_word, hg_is_word, hb_is_word, G_is_word⟩ := ok_is_word (P := P) (w := w) (base := base) C
  obtain ⟨fd_number_in, kp_number_in, hg_number_in, hb_number_in, G_number_in⟩ := ok_number_in (P := P) (w := w) (base := base) C
  have nd := sc_law.nd
  exact fn_of0 FD sc_law rfl rfl (s := S_law) fun cdv A outer sh H E hr tk => ⟨_,
    (pss_cons (ps_set (i := 1) nd rfl (Or.inl rfl) (pe_op op_add2 (pe_slice sl_2 (pv 0) po_none (po_some pe_int)) (pe_lst (pa_cons (pe_op op_modN (pe_callB call_len (by rfl) C.b_len bb_len (pa_cons (pv 0) pa_nil)) pe_int) pa_nil)))) (pss_cons (ps_for (passes_of rfl) rfl (pi_range1 rfl C.b_range (pa_cons (pe_callB call_len (by rfl) C.b_len bb_len (pa_cons (pv 1) pa_nil)) pa_nil)) (pg_name (i := 2) nd rfl (Or.inl rfl)) (pss_cons (ps_set (i := 3) nd rfl (Or.inl rfl) (pe_callS G_law_mix (hr.mono (by decide)) (by rfl) hg_law_mix kp_law_mix hb_law_mix (fun σ => passAt tk σ) (pa_cons (pe_ix ix_seq (pv 1) (pv 2) (fun _ _ => rfl)) (pa_cons (pv 2) (pa_cons pe_int pa_nil))))) (pss_cons (ps_set (i := 4) nd rfl (Or.inl rfl) (pe_op op_modN (pe_op op_fdivN (pv 3) pe_int) pe_int)) (pss_cons (ps_set (i := 5) nd rfl (Or.inl rfl) (pe_callS G_law_wordlike (hr.mono (by decide)) (by rfl) hg_law_wordlike kp_law_wordlike hb_law_wordlike (fun σ => passAt tk σ) (pa_cons (pe_op op_fdivN (pv 3) pe_int) (pa_cons (pv 4) pa_nil)))) (pss_cons (ps_if (pt_cmpR (op_eq2 hr.units) (pe_op op_modN (pv 3) pe_int) pe_int (nomark _)) (pss_one (ps_set (i := 5) nd rfl (Or.inl rfl) (pe_callS G_law_numberlike (hr.mono (by decide)) (by rfl) hg_law_numberlike kp_law_numberlike hb_law_numberlike (fun σ => passAt tk σ) (pa_cons (pe_op op_fdivN (pv 3) pe_int) (pa_cons (pv 4) pa_nil))))) pss_nil) (pss_cons (ps_set (i := 6) nd rfl (Or.inl rfl) (pe_callS G_is_word (hr.mono (by decide)) (by rfl) hg_is_word kp_is_word hb_is_word (fun σ => passAt tk σ) (pa_cons (pv 5) pa_nil))) (pss_cons (ps_if (PW.pt (pw_or (pt_not (pt_val (pe_callB call_isi (by rfl) C.b_isinstance bb_isinstance (pa_cons (pv 6) (pa_cons (pe_bltn (v := .ty "bool") (by rfl) C.b_bool bb_bool rfl) pa_nil))))) (pw_or1 (pt_cmpR (op_ne2 hr.units) (pv 6) (pe_callS G_law_is_word (hr.mono (by decide)) (by rfl) hg_law_is_word kp_law_is_word hb_law_is_word (fun σ => passAt tk σ) (pa_cons (pv 5) pa_nil)) (nomark _))))) (pss_one (ps_ret pe_bl)) pss_nil) (pss_cons (ps_set (i := 7) nd rfl (Or.inl rfl) (pe_callS G_number_in (hr.mono (by decide)) (by rfl) hg_number_in kp_number_in hb_number_in (fun σ => passAt tk σ) (pa_cons (pv 5) pa_nil))) (pss_cons (ps_set (i := 8) nd rfl (Or.inl rfl) (pe_callS G_law_number (hr.mono (by decide)) (by rfl) hg_law_number kp_law_number hb_law_number (fun σ => passAt tk σ) (pa_cons (pv 5) pa_nil))) (pss_one (ps_if (PW.pt (pw_or (PW.pt (pw_and (pt_cmpR op_isN (pv 8) pe_non (nomark _)) (pw_and1 (pt_cmpR op_notN (pv 7) pe_non (nomark _))))) (pw_or1 (PW.pt (pw_and (pt_cmpR op_notN (pv 8) pe_non (nomark _)) (pw_and1 (PW.pt (pw_or (pt_not (pt_val (pe_callS G_law_whole (hr.mono (by decide)) (by rfl) hg_law_whole kp_law_whole hb_law_whole (fun σ => passAt tk σ) (pa_cons (pv 7) pa_nil)))) (pw_or1 (pt_cmpR (op_ne2 hr.units) (pv 7) (pv 8) (nomark _))))))))))) (pss_one (ps_ret pe_bl)) pss_nil))))))))))) (pss_one (ps_ret pe_bl)))),
    (ds_seq (ds_set 1 (td_op rd_add ((td_sl (tr_var 0) tp_no (tp_some (td_int).r))).r (((to_lst (ta_cons (td_op rd_mod ((td_cb rc_len (tq_cons (tr_var 0) tq_nil))).r (td_int).r) ta_nil))).e).r)) (ds_seq (ds_for (vs := [2]) (di_rng1 (tq_cons ((td_cb rc_len (tq_cons (tr_var 1) tq_nil))).r tq_nil)) (dg_name 2) (ds_seq (ds_set 3 (td_call (ta_cons (td_op rd_ix (tr_var 1) (tr_var 2)) (ta_cons (td_var 2) (ta_cons td_int ta_nil))))) (ds_seq (ds_set 4 (td_op rd_mod ((td_op rd_div (tr_var 3) (td_int).r)).r (td_int).r)) (ds_seq (ds_set 5 (td_call (ta_cons (td_op rd_div (tr_var 3) (td_int).r) (ta_cons (td_var 4) ta_nil)))) (ds_seq (ds_if (tt_test ((td_op rd_eq ((td_op rd_mod (tr_var 3) (td_int).r)).r (td_int).r)).r) (ds_set 5 (td_call (ta_cons (td_op rd_div (tr_var 3) (td_int).r) (ta_cons (td_var 4) ta_nil)))) ds_next) (ds_seq (ds_set 6 (td_call (ta_cons (td_var 5) ta_nil))) (ds_seq (ds_if (tt_or (tt_not (tt_B ((td_isi (T := "bool") (tr_var 6))).r)) (tt_test ((td_op rd_ne (tr_var 6) ((td_call (ta_cons (td_var 5) ta_nil))).r)).r)) (ds_ret td_bl) ds_next) (ds_seq (ds_set 7 (td_call (ta_cons (td_var 5) ta_nil))) (ds_seq (ds_set 8 (td_call (ta_cons (td_var 5) ta_nil))) (ds_if (tt_or (tt_and (tt_test ((td_op rd_isN (tr_var 8) (td_non).r)).r) (tt_test ((td_op rd_notN (tr_var 7) (td_non).r)).r)) (tt_and (tt_test ((td_op rd_notN (tr_var 8) (td_non).r)).r) (tt_or (tt_not (tt_B ((td_call (ta_cons (td_var 7) ta_nil))).r)) (tt_test ((td_op rd_ne (tr_var 7) (tr_var 8))).r)))) (ds_ret td_bl) ds_next)))))))))) (ds_ret td_bl)))⟩
end K01
namespace K01
open PySem PySem.Spec PyProof.Rows L2 DL
open PySem.W PySem.Calls
def fn0 : List He.DefD := [⟨("signs_among", none), "signs_among", "signs_among", defArgs s_signs_among, defBody s_signs_among, defScope s_signs_among, [], []⟩, ⟨("is_word", none), "is_word", "is_word", defArgs s_is_word, defBody s_is_word, defScope s_is_word, [], []⟩, ⟨("number_in", none), "number_in", "number_in", defArgs s_number_in, defBody s_number_in, defScope s_number_in, [], []⟩, ⟨("_law_mix", none), "_law_mix", "_law_mix", defArgs s_law_mix, defBody s_law_mix, defScope s_law_mix, [], []⟩, ⟨("_law_whole", none), "_law_whole", "_law_whole", defArgs s_law_whole, defBody s_law_whole, defScope s_law_whole, [], []⟩, ⟨("_law_letters", none), "_law_letters", "_law_letters", defArgs s_law_letters, defBody s_law_letters, defScope s_law_letters, [], []⟩, ⟨("_law_figures", none), "_law_figures", "_law_figures", defArgs s_law_figures, defBody s_law_figures, defScope s_law_figures, [], []⟩, ⟨("_law_kept", none), "_law_kept", "_law_kept", defArgs s_law_kept, defBody s_law_kept, defScope s_law_kept, [], []⟩, ⟨("_law_spoilt", none), "_law_spoilt", "_law_spoilt", defArgs s_law_spoilt, defBody s_law_spoilt, defScope s_law_spoilt, [], []⟩, ⟨("_law_wordlike", none), "_law_wordlike", "_law_wordlike", defArgs s_law_wordlike, defBody s_law_wordlike, defScope s_law_wordlike, [], []⟩, ⟨("_law_numberlike", none), "_law_numberlike", "_law_numberlike", defArgs s_law_numberlike, defBody s_law_numberlike, defScope s_law_numberlike, [], []⟩, ⟨("_law_is_word", none), "_law_is_word", "_law_is_word", defArgs s_law_is_word, defBody s_law_is_word, defScope s_law_is_word, [], []⟩]
def fn1 : List He.DefD := [⟨("_law_number", none), "_law_number", "_law_number", defArgs s_law_number, defBody s_law_number, defScope s_law_number, [], []⟩, ⟨("law", none), "law", "law", defArgs s_law, defBody s_law, defScope s_law, [], []⟩]
def fnA : List He.DefD := fn0 ++ fn1
def fa0 : List He.Fa := [.glo "signs_among", .glo "is_word", .glo "number_in", .glo "_law_mix", .glo "_law_whole", .glo "_law_letters", .glo "_law_figures", .glo "_law_kept", .glo "_law_spoilt", .glo "_law_wordlike", .glo "_law_numberlike", .glo "_law_is_word", .glo "_law_number", .glo "law", .free "all", .free "bool", .free "int", .free "isinstance", .free "len", .free "range", .free "str", .str "FIGURES" "0123456789", .glo "KEPT", .int "MOST_FIGURES" 30, .int "MOST_SIGNS" 8, .str "SMALL" "abcdefghijklmnopqrstuvwxyz"]
def faA : List He.Fa := fa0
def exA (K : PySem.W.Frag) : Bool := He.tupB K "KEPT" (kw_KEPT.map He.Dv.str)
abbrev R : PySem.W.OpenRow := PySem.W.OpenLaw.row PySem.Challenge.rw_claimwise_k01_words_and_numbers
abbrev hk : PySem.W.Hook := hookN 4 faA fnA exA
def ob (s : PySem.W.SharedT) : Bool × He.AlD := obsN 4 faA fnA exA (HandSHeadRun.getT s)
theorem ob_eq (s : PySem.W.SharedT) : ob s = hk.obs s.abs := obsN_eq (HandSHeadRun.getT_eq s)
def nm0 : List PySem.Str := ["SMALL", "FIGURES", "KEPT", "MOST_SIGNS", "MOST_FIGURES", "signs_among", "is_word", "number_in", "_law_mix", "_law_whole", "_law_letters", "_law_figures", "_law_kept", "_law_spoilt", "_law_wordlike", "_law_numberlike", "_law_is_word", "_law_number"]
def nmA : List PySem.Str := nm0
theorem run (w : World) : HandSHeadRun.RunEq R (PySem.W.view R.prog [20]) hk ob 4000 nmA w := by
  intro os
  kernel_rfl
theorem ctx {K : PySem.W.Frag} {h : Heap} {mg : Str → Option Value} (X : K.In h) (G : h.Ns mainGlobals mg) (hex : exA K = true) (c : He.SaysD faA fnA K) : Ctx K mg where
  F_signs_among := c.def_ 0 (d := ⟨("signs_among", none), "signs_among", "signs_among", defArgs s_signs_among, defBody s_signs_among, defScope s_signs_among, [], []⟩) rfl
  g_signs_among := He.glo_ok X G (c.fact 0 (f := .glo "signs_among") rfl)
  F_is_word := c.def_ 1 (d := ⟨("is_word", none), "is_word", "is_word", defArgs s_is_word, defBody s_is_word, defScope s_is_word, [], []⟩) rfl
  g_is_word := He.glo_ok X G (c.fact 1 (f := .glo "is_word") rfl)
  F_number_in := c.def_ 2 (d := ⟨("number_in", none), "number_in", "number_in", defArgs s_number_in, defBody s_number_in, defScope s_number_in, [], []⟩) rfl
  g_number_in := He.glo_ok X G (c.fact 2 (f := .glo "number_in") rfl)
  F_law_mix := c.def_ 3 (d := ⟨("_law_mix", none), "_law_mix", "_law_mix", defArgs s_law_mix, defBody s_law_mix, defScope s_law_mix, [], []⟩) rfl
  g_law_mix := He.glo_ok X G (c.fact 3 (f := .glo "_law_mix") rfl)
  F_law_whole := c.def_ 4 (d := ⟨("_law_whole", none), "_law_whole", "_law_whole", defArgs s_law_whole, defBody s_law_whole, defScope s_law_whole, [], []⟩) rfl
  g_law_whole := He.glo_ok X G (c.fact 4 (f := .glo "_law_whole") rfl)
  F_law_letters := c.def_ 5 (d := ⟨("_law_letters", none), "_law_letters", "_law_letters", defArgs s_law_letters, defBody s_law_letters, defScope s_law_letters, [], []⟩) rfl
  g_law_letters := He.glo_ok X G (c.fact 5 (f := .glo "_law_letters") rfl)
  F_law_figures := c.def_ 6 (d := ⟨("_law_figures", none), "_law_figures", "_law_figures", defArgs s_law_figures, defBody s_law_figures, defScope s_law_figures, [], []⟩) rfl
  g_law_figures := He.glo_ok X G (c.fact 6 (f := .glo "_law_figures") rfl)
  F_law_kept := c.def_ 7 (d := ⟨("_law_kept", none), "_law_kept", "_law_kept", defArgs s_law_kept, defBody s_law_kept, defScope s_law_kept, [], []⟩) rfl
  g_law_kept := He.glo_ok X G (c.fact 7 (f := .glo "_law_kept") rfl)
  F_law_spoilt := c.def_ 8 (d := ⟨("_law_spoilt", none), "_law_spoilt", "_law_spoilt", defArgs s_law_spoilt, defBody s_law_spoilt, defScope s_law_spoilt, [], []⟩) rfl
  g_law_spoilt := He.glo_ok X G (c.fact 8 (f := .glo "_law_spoilt") rfl)
  F_law_wordlike := c.def_ 9 (d := ⟨("_law_wordlike", none), "_law_wordlike", "_law_wordlike", defArgs s_law_wordlike, defBody s_law_wordlike, defScope s_law_wordlike, [], []⟩) rfl
  g_law_wordlike := He.glo_ok X G (c.fact 9 (f := .glo "_law_wordlike") rfl)
  F_law_numberlike := c.def_ 10 (d := ⟨("_law_numberlike", none), "_law_numberlike", "_law_numberlike", defArgs s_law_numberlike, defBody s_law_numberlike, defScope s_law_numberlike, [], []⟩) rfl
  g_law_numberlike := He.glo_ok X G (c.fact 10 (f := .glo "_law_numberlike") rfl)
  F_law_is_word := c.def_ 11 (d := ⟨("_law_is_word", none), "_law_is_word", "_law_is_word", defArgs s_law_is_word, defBody s_law_is_word, defScope s_law_is_word, [], []⟩) rfl
  g_law_is_word := He.glo_ok X G (c.fact 11 (f := .glo "_law_is_word") rfl)
  F_law_number := c.def_ 12 (d := ⟨("_law_number", none), "_law_number", "_law_number", defArgs s_law_number, defBody s_law_number, defScope s_law_number, [], []⟩) rfl
  g_law_number := He.glo_ok X G (c.fact 12 (f := .glo "_law_number") rfl)
  F_law := c.def_ 13 (d := ⟨("law", none), "law", "law", defArgs s_law, defBody s_law, defScope s_law, [], []⟩) rfl
  g_law := He.glo_ok X G (c.fact 13 (f := .glo "law") rfl)
  b_all := He.free_ok X G (c.fact 14 (f := .free "all") rfl)
  b_bool := He.free_ok X G (c.fact 15 (f := .free "bool") rfl)
  b_int := He.free_ok X G (c.fact 16 (f := .free "int") rfl)
  b_isinstance := He.free_ok X G (c.fact 17 (f := .free "isinstance") rfl)
  b_len := He.free_ok X G (c.fact 18 (f := .free "len") rfl)
  b_range := He.free_ok X G (c.fact 19 (f := .free "range") rfl)
  b_str := He.free_ok X G (c.fact 20 (f := .free "str") rfl)
  c_FIGURES := He.str_ok X G (c.fact 21 (f := .str "FIGURES" "0123456789") rfl)
  c_KEPT := He.glo_ok X G (c.fact 22 (f := .glo "KEPT") rfl)
  k_KEPT := kon_strs hex
  c_MOST_FIGURES := He.int_ok X G (c.fact 23 (f := .int "MOST_FIGURES" 30) rfl)
  c_MOST_SIGNS := He.int_ok X G (c.fact 24 (f := .int "MOST_SIGNS" 8) rfl)
  c_SMALL := He.str_ok X G (c.fact 25 (f := .str "SMALL" "abcdefghijklmnopqrstuvwxyz") rfl)
theorem holds (T : ∀ ns : List Int, ns.length ≤ 63 → d_law [.list (ns.map PyData.int)] = .rt (.d (.bool true))) : PySem.Challenge.rw_claimwise_k01_words_and_numbers.Holds := by
  w_on; o_law
  refine HandSHeadRun.head_any (r := R) (q := PySem.W.view R.prog [20]) (H := hk) (ob := ob) (M := 4000) (loose := nmA) (d := HandSHeadRun.topDef R.prog 20) (kwd := []) ob_eq
    (by kernel_rfl) (fun s => by kernel_rfl) run (by kernel_rfl) (by kernel_rfl) (by kernel_rfl) (by rfl) (by first | assumption | decide +kernel) (by decide +kernel) ⟨rfl, rfl, rfl, rfl, rfl, by decide +kernel⟩ ?hw ?hc
  case hw => w_witness2
  case hc =>
    refine law_end (l := PySem.Challenge.rw_claimwise_k01_words_and_numbers) (n := 4) (k := 3) (fa := faA) (fn := fnA) (ex := exA) (x := "_law_script") (f := d_law) rfl rfl (by kernel_rfl) ⟨rfl, by decide, by decide⟩ (by kernel_rfl) ?F T
    intro w K h mg KX G hex c
    have C := ctx KX G hex c
    obtain ⟨fd, FD⟩ := C.F_law
    refine ⟨fd, fun s u => FunD.bindsA (ps := ["_law_script"]) FD (fun _ _ _ _ _ _ us hl => match us, hl with | [_], _ => rfl) s [u] rfl, C.g_law, fun base _ _ => fn_law FD C⟩
end K01
theorem PySem.Challenge.cw_claimwise_k01_words_and_numbers_holds : PySem.Challenge.rw_claimwise_k01_words_and_numbers.Holds :=
  K01.holds K01.law_ok
